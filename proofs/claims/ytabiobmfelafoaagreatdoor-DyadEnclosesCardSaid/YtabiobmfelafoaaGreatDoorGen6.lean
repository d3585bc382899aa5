import Derived.Test.YtabiobmfelafoaaGreatDoorGA
namespace Go.Proofs
set_option linter.unusedVariables false
set_option linter.unusedSimpArgs false
set_option maxHeartbeats 4000000
open Go.RowKit Go.Sb Go.Proofs.Sbn
open Go.Proofs.Tryz
theorem c_dyad_Has (x0:Am) (x1:BT) (A1:OA) (c2:Nat) (A4:OA) (c5:Nat) (A7:OA) (c8:Nat) (A7b:OA) (c8b:Nat) (w:World) (hT:TB w) (n3:RLu w A1 c2 x0.Lo.Man.Abs) (n6:RLu w A4 c5 x0.Hi.Man.Abs) (n9:RLu w A7 c8 x1.Num.Abs) (n9d:RLu w A7b c8b x1.Den) (r:Bool × Int) (hr:Jo x0 x1=some r) :
  Calls prog 77 #[.agg #[.bool x0.Lo.Man.Neg,.slice A1 x0.Lo.Man.Abs.length c2,.int .i64 x0.Lo.Exp,.bool x0.Hi.Man.Neg,.slice A4 x0.Hi.Man.Abs.length c5,.int .i64 x0.Hi.Exp],.agg #[.bool x1.Num.Neg,.slice A7 x1.Num.Abs.length c8,.slice A7b x1.Den.length c8b]] w (Ret rep_4_33 w r):=by
 unfold Jo at hr
 obtain ⟨q0,hq0,hr0⟩:=Ad hr
 unfold LM at hq0
 go_enter_defers func77,ntmps77
 refine ws fun h4f=>Ah<|sbx rfl rfl fun b0e w1 E4c g5f q5c=>?_
 refine sbx rfl rfl fun b1e w2 E1c g6f q7f=>?_
 have g8k:=nlt E4c.size g6f
 have X8f:=xtr E4c E1c
 refine sal zt_4 fun b2e w3 E3e g9k q6c=>?_
 have g7c:=nlt X8f.size g9k
 have X9f:=xtr X8f E3e
 refine sal JN fun b4e w4 E6b g0l q8c=>?_
 have g9c:=nlt X9f.size g0l
 have X0g:=xtr X9f E6b
 refine nx h4f fun h1l=>HP (vs:=[.pointer (some ⟨b2e,0,none⟩),.pointer (some ⟨b4e,0,none⟩)]) (by rfl) (by rfl)<|nx h1l fun h2l=>have q1g:=((q5c.ext E1c).ext E3e).ext E6b;sV (Ak BB rfl q1g rfl) ?_
 refine Dj (vals:=[(0,.agg #[.bool x0.Lo.Man.Neg,.slice A1 x0.Lo.Man.Abs.length c2,.int .i64 x0.Lo.Exp,.bool x0.Hi.Man.Neg,.slice A4 x0.Hi.Man.Abs.length c5,.int .i64 x0.Hi.Exp])]) (cs:=[.bool x0.Lo.Man.Neg,.slice A1 x0.Lo.Man.Abs.length c2,.int .i64 x0.Lo.Exp,.bool x0.Hi.Man.Neg,.slice A4 x0.Hi.Man.Abs.length c5,.int .i64 x0.Hi.Exp]) MC EG Gp (by rfl) (by decide) (by kernel_rfl) fun b2g w5 E4a g3l q3g=>?_
 refine nrm ?_
 have g5t:=nlt X0g.size g3l
 have X0b:=xtr X0g E4a
 rcases AC hq0 with ⟨r0d,h5e,f4l⟩ | ⟨r0d,h5e,rfl⟩
 ·refine scO (Ac Pd (by rfl)) (KW x0 b2g A1 c2 A4 c5 w5 (tbx X0b hT) (n3.ext X0b) (n6.ext X0b) q3g (.ok r0d) h5e) ?_
  rintro _ w6 E3a rfl
  refine nrm ?_
  have X1d:=xtr X0b E3a
  refine nx h2l fun h5l=>have q4g:=(((q7f.ext E3e).ext E6b).ext E4a).ext E3a;sV (Ak Bl rfl q4g rfl) ?_
  refine scr f4l (Ac MD (by rfl)) (GK x1 A7 c8 A7b c8b w6 (tbx X1d hT) (n9.ext X1d) (n9d.ext X1d)) fun r5g f6l w7 E7a=>?_
  have X2d:=xtr X1d E7a
  rcases AC f6l with ⟨r3d,h6e,f7l⟩ | ⟨r3d,h6e,rfl⟩
  ·refine scO (Ac FS (by rfl)) (Bs r5g 1 w7 (tbx X2d hT)  (.ok r3d) h6e) ?_
   rintro _ w8 E5a rfl
   refine nrm ?_
   have X4d:=xtr X2d E5a
   refine nx h5l fun h8l=>sV (Ak Bl rfl ((q4g.ext E7a).ext E5a) rfl) ?_
   obtain ⟨m6g,h9l,f0m⟩:=Ad f7l
   have hx7g:=Dd h9l
   have n1m:RU w8 A7 c8 m6g:=by unfold RU;rw [hx7g];exact (n9.ext X4d)
   obtain ⟨m8g,h2m,f3m⟩:=Ad f0m
   have hx9g:=Dd h2m
   have n4m:RU w8 A7b c8b m8g:=by unfold RU;rw [hx9g];exact (n9d.ext X4d)
   obtain ⟨r2c,h5m,f6m⟩:=Ad f3m
   refine sc (Ac Rg (by simp only [sz,hx7g,hx9g];rfl)) (MZ (⟨(⟨x1.Num.Neg,m6g⟩:Ae),m8g⟩:Ap) A7 c8 A7b c8b w8 (tbx X4d hT) n1m n4m r2c h5m) ?_
   rintro _ w9 E9b ⟨A0h,c1h,A2h,c3h,rfl,n7m,n8m⟩
   refine nrm ?_
   have X4h:=xtr X4d E9b
   refine sV3 (Aa rfl) (Ai rfl rfl) (Ai rfl rfl) ?_
   refine sal Bg fun b6t w7b E1b g9m q8a=>?_
   have g0n:=nlt X4h.size g9m
   have X5h:=xtr X4h E1b
   refine sal Bg fun b7t w8b E1a g6h q1n=>?_
   have g2n:=nlt X5h.size g6h
   have X3n:=xtr X5h E1a
   refine ss BC (q8a.ext E1a) fun w9d U2a q4n=>?_
   have X5n:=belU X3n U2a g0n
   have ne7h:=(Bx.ne q8a g6h).symm
   have q2b:=q1n.upd U2a ne7h
   refine ss BC q2b fun w4f U9a q8h=>?_
   have X6n:=belU X5n U9a g2n
   refine wh h8l<|ws fun h9h=>DT [18,19] 20 mo rfl fun w0e E6a S5d=>?_
   have X7e:=xtr X6n E6a
   refine dA 0 rfl (fun _=>Af (o':=0) Lp rfl rfl) ?_ (hQ:=fun _ _ _ h=>dq (rs:=[.cell 4 4,.cell 5 33]) rfl (by decide) h)
   have q8e:=((((((q1g.ext E4a).ext E3a).ext E7a).ext E5a).ext E9b).ext E1b).ext E1a
   have ne0i:=(Bx.neT q8e (q8a.ext E1a) (by decide))
   have ne7n:=(Bx.neT (q8e.upd U2a ne0i) q2b (by decide))
   have q1i:=((q8e.upd U2a ne0i).upd U9a ne7n).ext E6a
   refine dV 1 rfl (fun _ hw=>HJ DU rfl (q1i.ext hw) (by simp only [List.drop_zero,List.take_succ_cons,List.take_zero];rfl) rfl) S5d ?_ (hQ:=fun _ _ _ h=>dq (rs:=[.cell 4 4,.cell 5 33]) rfl (by decide) h)
   refine dV 3 rfl (fun _ hw=>Ak Aw rfl ((q8h.ext E6a).ext hw) rfl) S5d ?_ (hQ:=fun _ _ _ h=>dq (rs:=[.cell 4 4,.cell 5 33]) rfl (by decide) h)
   have q2i:=(q4n.upd U9a (Ne.symm ne7h)).ext E6a
   refine dV 5 rfl (fun _ hw=>Ak Aw rfl (q2i.ext hw) rfl) S5d ?_ (hQ:=fun _ _ _ h=>dq (rs:=[.cell 4 4,.cell 5 33]) rfl (by decide) h)
   obtain ⟨m3i,h8n,f9n⟩:=Ad f6m
   have hx4i:=Dd h8n
   have n0o:RU w0e A1 c2 m3i:=by unfold RU;rw [hx4i];exact (n3.ext X7e)
   refine dcn f9n 2 rfl (by rfl) (Ac ML (by simp only [sz,hx4i];rfl)) (Js (⟨(⟨x0.Lo.Man.Neg,m3i⟩:Ae),x0.Lo.Exp⟩:Al) A1 c2 w0e (tbx X7e hT) n0o) fun r1o f2o w4c A3o c4o E3b n5o=>?_
   have X5i:=xtr X7e E3b
   have S6o:=S5d.trans E3b
   have n6i:=(((((n8m.ext E1b).ext E1a).upd U2a (q8a.ext E1a) (by decide)).upd U9a q2b (by decide)).ext E6a).ext E3b
   refine dcn f2o 4 rfl (by rfl) (Ac OU (by rfl)) (Ii r1o r2c.2 A3o c4o A2h c3h w4c (tbx X5i hT) n5o n6i) fun r7o f8o w5f A9o c0p E4b n1p=>?_
   have X7i:=xtr X5i E4b
   have S2p:=S6o.trans E4b
   have n8i:=((((((n7m.ext E1b).ext E1a).upd U2a (q8a.ext E1a) (by decide)).upd U9a q2b (by decide)).ext E6a).ext E3b).ext E4b
   refine dcr f8o 6 rfl (by rfl) (Ac Ju (by rfl)) (Cu r7o r2c.1 A9o c0p A0h c1h w5f (tbx X7i hT) n1p n8i) fun r8t f3p w5c E5b=>?_
   have X6d:=xtr X7i E5b
   have S7d:=S2p.trans E5b
   refine dab 7 rfl (by kernel_rfl) (fun _ _ _ h=>dq (rs:=[.cell 4 4,.cell 5 33]) rfl (by decide) h) (by rfl) (fun _=>KX rfl rfl) fun z9i hz9i=>?_
   refine dnrm ?_
   refine dA 8 rfl (fun _=>Aa rfl) ?_ (hQ:=fun _ _ _ h=>dq (rs:=[.cell 4 4,.cell 5 33]) rfl (by decide) h)
   rcases zi hz9i f3p with ⟨e0a,_,f4p⟩ | ⟨e0a,_,f5p⟩
   ·refine dA 9 rfl (fun _=>Af (o':=3) Lj rfl rfl) ?_ (hw:=wgT rfl e0a) (hQ:=fun _ _ _ h=>dq (rs:=[.cell 4 4,.cell 5 33]) rfl (by decide) h)
    refine dV 10 rfl (fun _ hw=>HJ DU rfl (q1i.ext hw) (by simp only [List.drop_succ_cons,List.drop_zero,List.take_succ_cons,List.take_zero];rfl) rfl) S7d ?_ (hw:=wgT rfl e0a) (hQ:=fun _ _ _ h=>dq (rs:=[.cell 4 4,.cell 5 33]) rfl (by decide) h)
    refine dV 12 rfl (fun _ hw=>Ak Aw rfl ((q8h.ext E6a).ext hw) rfl) S7d ?_ (hw:=wgT rfl e0a) (hQ:=fun _ _ _ h=>dq (rs:=[.cell 4 4,.cell 5 33]) rfl (by decide) h)
    refine dV 14 rfl (fun _ hw=>Ak Aw rfl (q2i.ext hw) rfl) S7d ?_ (hw:=wgT rfl e0a) (hQ:=fun _ _ _ h=>dq (rs:=[.cell 4 4,.cell 5 33]) rfl (by decide) h)
    obtain ⟨m0j,h6p,f7p⟩:=Ad f4p
    have hx1j:=Dd h6p
    have n8p:RU w5c A4 c5 m0j:=by unfold RU;rw [hx1j];exact (n6.ext X6d)
    refine dcn f7p 11 rfl (wgT rfl e0a) (Ac ML (by simp only [sz,hx1j];rfl)) (Js (⟨(⟨x0.Hi.Man.Neg,m0j⟩:Ae),x0.Hi.Exp⟩:Al) A4 c5 w5c (tbx X6d hT) n8p) fun r9p f0q w1e A1q c2q E0c n3q=>?_
    have X2j:=xtr X6d E0c
    have S4q:=S7d.trans E0c
    have n5q:=((n6i.ext E4b).ext E5b).ext E0c
    refine dcn f0q 13 rfl (wgT rfl e0a) (Ac OU (by rfl)) (Ii r9p r2c.2 A1q c2q A2h c3h w1e (tbx X2j hT) n3q n5q) fun r6q f7q w1c A8q c9q E3c n0r=>?_
    have X3j:=xtr X2j E3c
    have S1r:=S4q.trans E3c
    have n2r:=((n8i.ext E5b).ext E0c).ext E3c
    refine dcr f7q 15 rfl (wgT rfl e0a) (Ac Ju (by rfl)) (Cu r6q r2c.1 A8q c9q A0h c1h w1c (tbx X3j hT) n0r n2r) fun r3r f4r w6f E8d=>?_
    have X5r:=xtr X3j E8d
    have S9t:=S1r.trans E8d
    refine dab 16 rfl (by kernel_rfl) (fun _ _ _ h=>dq (rs:=[.cell 4 4,.cell 5 33]) rfl (by decide) h) (wgT rfl e0a) (fun _=>Hb rfl rfl) fun z9e hz9e=>?_
    refine dnrm ?_
    refine dA 17 rfl (fun _=>Az (evb rfl e0a) rfl) ?_ (hQ:=fun _ _ _ h=>dq (rs:=[.cell 4 4,.cell 5 33]) rfl (by decide) h)
    have q0f:=(((((((q6c.ext E6b).ext E4a).ext E3a).ext E7a).ext E5a).ext E9b).ext E1b).ext E1a
    have ne4j:=(Bx.neT q0f (q8a.ext E1a) (by decide))
    have ne6r:=(Bx.neT (q0f.upd U2a ne4j) q2b (by decide))
    have q5j:=((((((((q0f.upd U2a ne4j).upd U9a ne6r).ext E6a).ext E3b).ext E4b).ext E5b).ext E0c).ext E3c).ext E8d
    refine dkk 18 SD q5j fun w7f U6j q7r=>?_
    have X8r:=belU X5r U6j g7c
    have q1f:=((((((q8c.ext E4a).ext E3a).ext E7a).ext E5a).ext E9b).ext E1b).ext E1a
    have ne7j:=(Bx.neT q1f (q8a.ext E1a) (by decide))
    have ne9r:=(Bx.neT (q1f.upd U2a ne7j) q2b (by decide))
    have q8j:=((((((((q1f.upd U2a ne7j).upd U9a ne9r).ext E6a).ext E3b).ext E4b).ext E5b).ext E0c).ext E3c).ext E8d
    have ne9j:=(Bx.neT q8j q5j (by decide))
    have q0s:=q8j.upd U6j ne9j
    refine dkk 19 HU q0s fun w8k U0k q1s=>?_
    have X2s:=belU X8r U0k g9c
    refine Cx (by kernel_rfl) ?_
    refine h9h _ _<|wp_ret ?_
    obtain rfl:z9e=decide (0≤r3r):=bz hz9e
    obtain rfl:=sj f4r
    obtain rfl:=sj hr0
    exact NJ Jk Pt rfl (Res.cell1 rfl Gy (Bx.cell (q7r.upd U0k (Ne.symm ne9j)) rfl) (Res.cell1 rfl CO (Bx.cell q1s rfl) Res.nil)) (AJ X2s rfl)
   ·refine dP 9 rfl ?_ (hw:=wgF rfl e0a) (hQ:=fun _ _ _ h=>dq (rs:=[.cell 4 4,.cell 5 33]) rfl (by decide) h)
    refine dP 10 rfl ?_ (hw:=wgF rfl e0a) (hQ:=fun _ _ _ h=>dq (rs:=[.cell 4 4,.cell 5 33]) rfl (by decide) h)
    refine dP 11 rfl ?_ (hw:=wgF rfl e0a) (hQ:=fun _ _ _ h=>dq (rs:=[.cell 4 4,.cell 5 33]) rfl (by decide) h)
    refine dP 12 rfl ?_ (hw:=wgF rfl e0a) (hQ:=fun _ _ _ h=>dq (rs:=[.cell 4 4,.cell 5 33]) rfl (by decide) h)
    refine dP 13 rfl ?_ (hw:=wgF rfl e0a) (hQ:=fun _ _ _ h=>dq (rs:=[.cell 4 4,.cell 5 33]) rfl (by decide) h)
    refine dP 14 rfl ?_ (hw:=wgF rfl e0a) (hQ:=fun _ _ _ h=>dq (rs:=[.cell 4 4,.cell 5 33]) rfl (by decide) h)
    refine dP 15 rfl ?_ (hw:=wgF rfl e0a) (hQ:=fun _ _ _ h=>dq (rs:=[.cell 4 4,.cell 5 33]) rfl (by decide) h)
    refine dP 16 rfl ?_ (hw:=wgF rfl e0a) (hQ:=fun _ _ _ h=>dq (rs:=[.cell 4 4,.cell 5 33]) rfl (by decide) h)
    refine dA 17 rfl (fun _=>AE (evb rfl e0a) rfl) ?_ (hQ:=fun _ _ _ h=>dq (rs:=[.cell 4 4,.cell 5 33]) rfl (by decide) h)
    have q2f:=(((((((q6c.ext E6b).ext E4a).ext E3a).ext E7a).ext E5a).ext E9b).ext E1b).ext E1a
    have ne1k:=(Bx.neT q2f (q8a.ext E1a) (by decide))
    have ne3s:=(Bx.neT (q2f.upd U2a ne1k) q2b (by decide))
    have q2k:=(((((q2f.upd U2a ne1k).upd U9a ne3s).ext E6a).ext E3b).ext E4b).ext E5b
    refine dkk 18 SD q2k fun w1e U3k q4s=>?_
    have X5s:=belU X6d U3k g7c
    have q3f:=((((((q8c.ext E4a).ext E3a).ext E7a).ext E5a).ext E9b).ext E1b).ext E1a
    have ne4k:=(Bx.neT q3f (q8a.ext E1a) (by decide))
    have ne6s:=(Bx.neT (q3f.upd U2a ne4k) q2b (by decide))
    have q5k:=(((((q3f.upd U2a ne4k).upd U9a ne6s).ext E6a).ext E3b).ext E4b).ext E5b
    have ne6k:=(Bx.neT q5k q2k (by decide))
    have q7s:=q5k.upd U3k ne6k
    refine dkk 19 HU q7s fun w1c U7k q8s=>?_
    have X9s:=belU X5s U7k g9c
    refine Cx (by kernel_rfl) ?_
    refine h9h _ _<|wp_ret ?_
    obtain rfl:=sj f5p
    obtain rfl:=sj hr0
    exact NJ Jk Pt rfl (Res.cell1 rfl Gy (Bx.cell (q4s.upd U7k (Ne.symm ne6k)) rfl) (Res.cell1 rfl CO (Bx.cell q8s rfl) Res.nil)) (AJ X9s rfl)
  ·refine scP (Ac FS (by rfl)) (Bs r5g 1 w7 (tbx X2d hT)  (.error r3d) h6e) fun w8 E5a=>?_
   have X0t:=xtr X2d E5a
   have q1t:=((((q6c.ext E6b).ext E4a).ext E3a).ext E7a).ext E5a
   have q2t:=(((q8c.ext E4a).ext E3a).ext E7a).ext E5a
   refine Kg Pt (Ky b2e b4e (.bool false:Value) (.int .i64 0:Value) r3d q1t q2t) rfl ?_
   rintro w9 ⟨u9,q9,q9'⟩
   obtain rfl:=sj hr0
   exact ⟨_,(Res.cell1 rfl Gy (Bx.cell q9 rfl) (Res.cell1 rfl CO (Bx.cell q9' rfl) Res.nil)),AJ (u9.toExt X0t g7c g9c) rfl⟩
 ·refine scP (Ac Pd (by rfl)) (KW x0 b2g A1 c2 A4 c5 w5 (tbx X0b hT) (n3.ext X0b) (n6.ext X0b) q3g (.error r0d) h5e) fun w6 E3a=>?_
  have X3t:=xtr X0b E3a
  have q4t:=((q6c.ext E6b).ext E4a).ext E3a
  refine Kg Pt (Ky b2e b4e (.bool false:Value) (.int .i64 0:Value) r0d q4t ((q8c.ext E4a).ext E3a)) rfl ?_
  rintro w9 ⟨u9,q9,q9'⟩
  obtain rfl:=sj hr0
  exact ⟨_,(Res.cell1 rfl Gy (Bx.cell q9 rfl) (Res.cell1 rfl CO (Bx.cell q9' rfl) Res.nil)),AJ (u9.toExt X3t g7c g9c) rfl⟩
theorem Ec (x0:Ao) (x1:Int) (x2:Ap) (x3:Int) (A1:OA) (c2:Nat) (A4:OA) (c5:Nat) (A7:OA) (c8:Nat) (A3a:OA) (c4a:Nat) (w:World) (hT:TB w) (n3:RU w A1 c2 x0.Lo.Man.Abs) (n6:RU w A4 c5 x0.Hi.Man.Abs) (n9:RU w A7 c8 x2.Num.Abs) (n4b:RU w A3a c4a x2.Den) (r:Bool) (hr:Bj x0 x1 x2 x3=some r) :
  Calls prog 90 #[.agg #[.bool x0.Lo.Man.Neg,.slice A1 (sz x0.Lo.Man.Abs) c2,.int .i64 x0.Lo.Exp,.bool x0.Hi.Man.Neg,.slice A4 (sz x0.Hi.Man.Abs) c5,.int .i64 x0.Hi.Exp],.int .i64 x1,.agg #[.bool x2.Num.Neg,.slice A7 (sz x2.Num.Abs) c8,.slice A3a (sz x2.Den) c4a],.int .i64 x3] w (Ret Gi w r):=by
 unfold Bj at hr
 go_enter func90,ntmps90
 refine ws fun h5b=>Ah<|sbx rfl rfl fun b0e w1 E7a g1e q6b=>?_
 refine sbx rfl rfl fun b2e w2 E8a g7b q8b=>?_
 have g3e:=nlt E7a.size g7b
 have X0a:=xtr E7a E8a
 refine sV (Ab rfl) ?_
 refine wh h5b<|ws fun h9b=>ws fun h0c=>Ah<|sV (Aa rfl) ?_
 refine sbl (Il rfl rfl) fun z9a hz9a=>?_
 refine sV (Aa rfl) ?_
 obtain ⟨m1c,h2c,f3c⟩:=Ad hr
 refine BH 6 (fun l l' w'=>∃(t0b:Value) (t1b:Value),w2=w'∧l'=(((l.set 14 t0b).set 15 t1b).set 16 (.bool m1c))) ?_ ?_
 ·intro HJ39
  rcases zi hz9a h2c with ⟨e1a,_,f4c⟩ | ⟨e1a,_,f5c⟩
  ·refine sQ rfl e1a ?_
   refine sQ rfl e1a ?_
   refine sV (Az (evb rfl e1a) rfl) ?_
   obtain rfl:=sj f4c
   exact HJ39 _ _ ⟨uu,uu,rfl,(by kernel_rfl)⟩
  ·refine sV (Aa rfl) ?_ (hw:=wgT rfl e1a)
   refine sbl (Il rfl rfl) (fun z5a hz5a=>?_) (hw:=wgT rfl e1a)
   refine sV (AE (evb rfl e1a) rfl) ?_
   obtain rfl:z5a=decide (¬x3=0):=bz hz5a
   obtain rfl:=sj f5c
   exact HJ39 _ _ ⟨(.int .i64 x3),(.bool (decide (¬x3=0))),rfl,(by kernel_rfl)⟩
 ·rintro _ _ ⟨t0b,t1b,rfl,rfl⟩ _ rfl
  refine wh h0c ?_
  rcases zb f3c with ⟨e6a,f6c⟩ | ⟨e6a,f7c⟩
  ·refine ct e6a<|ws fun h8c=>Ah<|sV (Ab rfl) ?_
   refine wh h8c<|wp_ret ?_
   exact Bn f6c X0a rfl
  ·refine cf e6a<|wp_skip<|h9b _ _<|ws fun h9c=>Ah<|sV2 (Ak BB rfl (q6b.ext E8a) rfl) (Ak Bl rfl q8b rfl) ?_
   refine scr f7c (Ac en_77 (by rfl)) (c_dyad_Has (⟨(⟨(⟨x0.Lo.Man.Neg,(limbs x0.Lo.Man.Abs)⟩:Ar),x0.Lo.Exp⟩:Aq),(⟨(⟨x0.Hi.Man.Neg,(limbs x0.Hi.Man.Abs)⟩:Ar),x0.Hi.Exp⟩:Aq)⟩:Am) (⟨(⟨x2.Num.Neg,(limbs x2.Num.Abs)⟩:Ar),(limbs x2.Den)⟩:BT) A1 c2 A4 c5 A7 c8 A3a c4a w2 (tbx X0a hT) (n3.ext X0a) (n6.ext X0a) (n9.ext X0a) (n4b.ext X0a)) fun r0d f1d w3 E2d=>?_
   have X3d:=xtr X0a E2d
   refine sV3 (Aa rfl) (Ai rfl rfl) (Ai rfl rfl) ?_
   refine sV2 (Ab rfl) (Ab rfl) ?_
   refine nx h9c fun h4d=>sV (Aa rfl) ?_
   refine sbl (Cy rfl rfl) fun z2b hz2b=>?_
   refine sV (Aa rfl) ?_
   obtain ⟨m5d,h6d,f7d⟩:=Ad f1d
   refine BH 5 (fun l l' w'=>∃(t3b:Value),w3=w'∧l'=((l.set 26 t3b).set 27 (.bool m5d))) ?_ ?_
   ·intro HJ75
    rcases zi hz2b h6d with ⟨e2a,_,f8d⟩ | ⟨e2a,_,f9d⟩
    ·refine sV (Aa rfl) ?_ (hw:=wgT rfl e2a)
     refine sV (Az (evb rfl e2a) rfl) ?_
     obtain rfl:=sj f8d
     exact HJ75 _ _ ⟨(.bool r0d.1),rfl,(by kernel_rfl)⟩
    ·refine sQ rfl e2a ?_
     refine sV (AE (evb rfl e2a) rfl) ?_
     obtain rfl:=sj f9d
     exact HJ75 _ _ ⟨uu,rfl,(by kernel_rfl)⟩
   ·rintro _ _ ⟨t3b,rfl,rfl⟩ _ rfl
    refine sV (Ab rfl) ?_
    refine wh h4d<|wp_ret ?_
    exact Bn f7d X3d rfl
theorem c_dyad_Hull_1 (x0:An) (x1:An) (x2:Int) (A1:OA) (c2:Nat) (A4:OA) (c5:Nat) (A7:OA) (c8:Nat) (A7a:OA) (c8a:Nat) (w:World) (hT:TB w) (n3:RU w A1 c2 x0.lo.m.Abs) (n6:RU w A4 c5 x0.hi.m.Abs) (n9:RU w A7 c8 x1.lo.m.Abs) (n0d:RU w A7a c8a x1.hi.m.Abs) (r:Except Int (Ao)) (hr:GN x0 x1 x2=some r) :
  Calls prog 164 #[.agg #[.bool x0.lo.m.Neg,.slice A1 (sz x0.lo.m.Abs) c2,.int .i64 x0.lo.e,.bool x0.hi.m.Neg,.slice A4 (sz x0.hi.m.Abs) c5,.int .i64 x0.hi.e],.agg #[.bool x1.lo.m.Neg,.slice A7 (sz x1.lo.m.Abs) c8,.int .i64 x1.lo.e,.bool x1.hi.m.Neg,.slice A7a (sz x1.hi.m.Abs) c8a,.int .i64 x1.hi.e],.int .i64 x2] w (RetE 201 Ld w r):=by
 unfold GN at hr
 go_enter func164,ntmps164
 refine ws fun h2f=>Ah<|sbx rfl rfl fun b6a w1 E1d g2b q2d=>?_
 refine sbx rfl rfl fun b3d w2 E4d g5d q1c=>?_
 have g0j:=nlt E1d.size g5d
 have X6d:=xtr E1d E4d
 refine sal Gp fun b1j w3 E9a g3f q7d=>?_
 have g4f:=nlt X6d.size g3f
 have X3b:=xtr X6d E9a
 refine wh h2f<|ws fun h5f=>ws fun h6f=>Ah<|sV2 (Af (o':=0) CM rfl rfl) (dld Aw (q1c.ext E9a)) ?_
 have q4b:=(q2d.ext E4d).ext E9a
 refine sV2 (Af (o':=0) CM rfl rfl) (dld Aw q4b) ?_
 refine scr hr (Ac Ju (by rfl)) (Cu x1.lo x0.lo A7 c8 A1 c2 w3 (tbx X3b hT) (n9.ext X3b) (n3.ext X3b)) fun r2j f7f w4 E2a=>?_
 have X5b:=xtr X3b E2a
 refine sbl (Bv rfl rfl) fun z8d hz8d=>?_
 refine wh h6f ?_
 obtain ⟨m0a,h8f,f9f⟩:=Ad f7f
 refine CG (fun l l' w'=>∃(t9d:Value) (t0e:Value) (t1e:Value) (A3a:OA) (c4a:Nat),UpdS [b6a] w4 w'∧Bx w' b6a 121 [.bool m0a.1,.slice A3a (sz m0a.2.1) c4a,.int .i64 m0a.2.2,.bool x0.hi.m.Neg,.slice A4 (sz x0.hi.m.Abs) c5,.int .i64 x0.hi.e]∧RU w' A3a c4a m0a.2.1∧l'=(((l.set 13 t9d).set 14 t0e).set 15 t1e)) ?_ ?_
 ·rcases zi hz8d h8f with ⟨e2c,_,f0g⟩ | ⟨e2c,_,f1g⟩
  ·refine ct e2c<|Ah<|sV2 (Af (o':=0) CM rfl rfl) (dld Aw ((q1c.ext E9a).ext E2a)) ?_
   refine sV (Af (o':=0) CM rfl rfl) ?_
   have q2g:=q4b.ext E2a
   refine ss BC q2g fun w5 U2e q3g=>?_
   have X4g:=belU X5b U2e g2b
   refine AF ?_
   obtain rfl:=sj f0g
   exact ⟨_,rfl,(.pointer (some ⟨b3d,0,none⟩)),(.agg #[.bool x1.lo.m.Neg,.slice A7 (sz x1.lo.m.Abs) c8,.int .i64 x1.lo.e]),(.pointer (some ⟨b6a,0,none⟩)),A7,c8,((UpdS.refl _ _).upd U2e (.inl im0)),q3g,(n9.ext X4g),(by kernel_rfl)⟩
  ·refine cf e2c<|wp_skip ?_
   have q5g:=q4b.ext E2a
   obtain rfl:=sj f1g
   exact ⟨_,rfl,uu,uu,uu,A1,c2,(UpdS.refl _ _),q5g,(n3.ext X5b),(by kernel_rfl)⟩
 ·rintro _ w5 ⟨t9d,t0e,t1e,A3a,c4a,U3c,q6b,n6g,rfl⟩ _ rfl
  have X7b:=Kc X5b U3c (X5b).size (alc g2b al0)
  refine h5f _ _<|ws fun h7g=>ws fun h8g=>Ah<|sV (Af (o':=3) Da rfl rfl) ?_
  have ne9g:=(Bx.ne q2d g5d).symm
  have q3e:=((q1c.ext E9a).ext E2a).updS U3c (nmc ne9g nm0)
  refine sV (dld Aw q3e) ?_
  refine sV2 (Af (o':=3) Da rfl rfl) (dld Aw q6b) ?_
  refine scr f9f (Ac Ju (by rfl)) (Cu x1.hi x0.hi A7a c8a A4 c5 w5 (tbx X7b hT) (n0d.ext X7b) (n6.ext X7b)) fun r3j f0h w6 E5a=>?_
  have X8b:=xtr X7b E5a
  refine sbl (Eh rfl rfl) fun z4e hz4e=>?_
  refine wh h8g ?_
  obtain ⟨m1a,h1h,f2h⟩:=Ad f0h
  refine CG (fun l l' w'=>∃(t5e:Value) (t6e:Value) (t7e:Value) (A0b:OA) (c1b:Nat),UpdS [b6a] w6 w'∧Bx w' b6a 121 [.bool m0a.1,.slice A3a (sz m0a.2.1) c4a,.int .i64 m0a.2.2,.bool m1a.1,.slice A0b (sz m1a.2.1) c1b,.int .i64 m1a.2.2]∧RU w' A0b c1b m1a.2.1∧l'=(((l.set 22 t5e).set 23 t6e).set 24 t7e)) ?_ ?_
  ·rcases zi hz4e h1h with ⟨e4c,_,f3h⟩ | ⟨e4c,_,f4h⟩
   ·refine ct e4c<|Ah<|sV2 (Af (o':=3) Da rfl rfl) (dld Aw (q3e.ext E5a)) ?_
    refine sV (Af (o':=3) Da rfl rfl) ?_
    refine ss BC (q6b.ext E5a) fun w7 U8e q5h=>?_
    have X6h:=belU X8b U8e g2b
    refine AF ?_
    obtain rfl:=sj f3h
    exact ⟨_,rfl,(.pointer (some ⟨b3d,3,none⟩)),(.agg #[.bool x1.hi.m.Neg,.slice A7a (sz x1.hi.m.Abs) c8a,.int .i64 x1.hi.e]),(.pointer (some ⟨b6a,3,none⟩)),A7a,c8a,((UpdS.refl _ _).upd U8e (.inl im0)),q5h,(n0d.ext X6h),(by kernel_rfl)⟩
   ·refine cf e4c<|wp_skip ?_
    obtain rfl:=sj f4h
    exact ⟨_,rfl,uu,uu,uu,A4,c5,(UpdS.refl _ _),(q6b.ext E5a),(n6.ext X8b),(by kernel_rfl)⟩
  ·rintro _ w7 ⟨t5e,t6e,t7e,A0b,c1b,U5c,q7h,n9e,rfl⟩ _ rfl
   have X9b:=Kc X8b U5c (X8b).size (alc g2b al0)
   refine h7g _ _<|ws fun h8h=>Ah<|sV (Ak Ln rfl q7h rfl) ?_
   have n0f:RU w7 A3a c4a m0a.2.1:=(n6g.ext E5a).updS U5c (alc ⟨_,_,by decide,q6b.ext E5a⟩ al0)
   rcases AC f2h with ⟨r6c,h7c,f9h⟩ | ⟨r6c,h7c,rfl⟩
   ·refine scO (Ac Je (by rfl)) (BS (⟨(⟨(⟨m0a.1,m0a.2.1⟩:Ae),m0a.2.2⟩:Aj),(⟨(⟨m1a.1,m1a.2.1⟩:Ae),m1a.2.2⟩:Aj)⟩:An) A3a c4a A0b c1b w7 (tbx X9b hT) n0f n9e (.ok r6c) h7c) ?_
    rintro _ w8 E0c ⟨A0i,c1i,A2i,c3i,rfl,n4i,n5i⟩
    refine nrm ?_
    have X6i:=xtr X9b E0c
    have ne1f:=(Bx.neT (q7d.ext E2a) (q4b.ext E2a) (by decide))
    have q8c:=((((q7d.ext E2a).updS U3c (nmc ne1f nm0)).ext E5a).updS U5c (nmc ne1f nm0)).ext E0c
    refine ss EG q8c fun w9 U9c q7i=>?_
    have X8i:=belU X6i U9c g4f
    refine wh h8h<|wp_ret ?_
    exact Gd f9h rfl (Res.cellN rfl BB q7i rfl rfl Res.nil) (Cl X8i ⟨A0i,c1i,A2i,c3i,rfl,(n4i.upd U9c q8c (by decide)),(n5i.upd U9c q8c (by decide))⟩)
   ·refine scP (Ac Je (by rfl)) (BS (⟨(⟨(⟨m0a.1,m0a.2.1⟩:Ae),m0a.2.2⟩:Aj),(⟨(⟨m1a.1,m1a.2.1⟩:Ae),m1a.2.2⟩:Aj)⟩:An) A3a c4a A0b c1b w7 (tbx X9b hT) n0f n9e (.error r6c) h7c) fun w8 E0c=>?_
    have X9i:=xtr X9b E0c
    exact ⟨rfl,AP X9i⟩
theorem c_dyad_made_Span__dyad_Hull_1 (x0:Am) (x1:Am) (x2:Int) (A1:OA) (c2:Nat) (A4:OA) (c5:Nat) (A7:OA) (c8:Nat) (A0a:OA) (c1a:Nat) (w:World) (hT:TB w) (n3:RLu w A1 c2 x0.Lo.Man.Abs) (n6:RLu w A4 c5 x0.Hi.Man.Abs) (n9:RLu w A7 c8 x1.Lo.Man.Abs) (n2a:RLu w A0a c1a x1.Hi.Man.Abs) (r:Ao × Int) (hr:DJ x0 x1 x2=some r) :
  Calls prog 100 #[.agg #[.bool x0.Lo.Man.Neg,.slice A1 x0.Lo.Man.Abs.length c2,.int .i64 x0.Lo.Exp,.bool x0.Hi.Man.Neg,.slice A4 x0.Hi.Man.Abs.length c5,.int .i64 x0.Hi.Exp],.agg #[.bool x1.Lo.Man.Neg,.slice A7 x1.Lo.Man.Abs.length c8,.int .i64 x1.Lo.Exp,.bool x1.Hi.Man.Neg,.slice A0a x1.Hi.Man.Abs.length c1a,.int .i64 x1.Hi.Exp],.int .i64 x2,.func (.func 164) #[] #[]] w (Ret FF w r):=Nv GN en_164 c_dyad_Hull_1 x0 x1 x2 A1 c2 A4 c5 A7 c8 A0a c1a w hT n3 n6 n9 n2a r hr
theorem c_dyad_Hull (x0:Am) (x1:Am) (A1:OA) (c2:Nat) (A4:OA) (c5:Nat) (A7:OA) (c8:Nat) (A2a:OA) (c3a:Nat) (w:World) (hT:TB w) (n3:RLu w A1 c2 x0.Lo.Man.Abs) (n6:RLu w A4 c5 x0.Hi.Man.Abs) (n9:RLu w A7 c8 x1.Lo.Man.Abs) (n0b:RLu w A2a c3a x1.Hi.Man.Abs) (r:Ao × Int) (hr:FX x0 x1=some r) :
  Calls prog 74 #[.agg #[.bool x0.Lo.Man.Neg,.slice A1 x0.Lo.Man.Abs.length c2,.int .i64 x0.Lo.Exp,.bool x0.Hi.Man.Neg,.slice A4 x0.Hi.Man.Abs.length c5,.int .i64 x0.Hi.Exp],.agg #[.bool x1.Lo.Man.Neg,.slice A7 x1.Lo.Man.Abs.length c8,.int .i64 x1.Lo.Exp,.bool x1.Hi.Man.Neg,.slice A2a x1.Hi.Man.Abs.length c3a,.int .i64 x1.Hi.Exp]] w (Ret FF w r):=by
 unfold FX at hr
 go_enter func74,ntmps74
 refine ws fun h1b=>Ah<|sbx rfl rfl fun b2d w1 E7a g3d q2b=>?_
 refine sbx rfl rfl fun b4d w2 E8a g3b q4b=>?_
 have g5d:=nlt E7a.size g3b
 have X9a:=xtr E7a E8a
 refine sal Gp fun b6d w3 E4a g5b q5a=>?_
 have g6b:=nlt X9a.size g5b
 have X0a:=xtr X9a E4a
 refine sV (Ab rfl) ?_
 refine nx h1b fun h7b=>sV2 (Ak BB rfl ((q2b.ext E8a).ext E4a) rfl) (Ak BB rfl (q4b.ext E4a) rfl) ?_
 obtain ⟨r8b,h9b,f0c⟩:=Ad hr
 refine sc (Ac Nx (by rfl)) (c_dyad_made_Span__dyad_Hull_1 x0 x1 1 A1 c2 A4 c5 A7 c8 A2a c3a w3 (tbx X0a hT) (n3.ext X0a) (n6.ext X0a) (n9.ext X0a) (n0b.ext X0a) r8b h9b) ?_
 rintro _ w4 E1a ⟨A1c,c2c,A3c,c4c,rfl,n5c,n6c⟩
 refine nrm ?_
 have X7c:=xtr X0a E1a
 refine sV2 (Ai rfl rfl) (Ai rfl rfl) ?_
 refine ss EG (q5a.ext E1a) fun w5 U6a q8c=>?_
 have X9c:=belU X7c U6a g6b
 refine sV (Ab rfl) ?_
 refine wh h7b<|wp_ret ?_
 have n0d:=n5c.upd U6a (q5a.ext E1a) (by decide)
 have n1d:=n6c.upd U6a (q5a.ext E1a) (by decide)
 exact Gd f0c rfl (Res.cellN rfl BB q8c rfl rfl (Res.tmp rfl Res.nil)) (AJ X9c ⟨A1c,c2c,A3c,c4c,rfl,n0d,n1d⟩)
theorem Cj (b b':Nat) (v0 v1 v2:Value) (u:Value) (n:Int) {w:World} (qa:Bx w b 65 [v0,v1,v2]) (qb:Bx w b' 33 [u]) :
  CallsD prog 169 #[.pointer (some ⟨b,0,none⟩),.pointer (some ⟨b',0,none⟩)] (.panicking [entry 232 n]) w fun e u' w'=>e = .returned (.tuple #[])∧u' = .panicking [{ entry 232 n with recovered:=true }]∧(Upd2 b b' w w'∧Bx w' b 65 [.bool false,.slice none 0 0,.slice none 0 0]∧Bx w' b' 33 [.int .i64 n]):=by
 refine KM func169 rfl [.pointer (some ⟨b,0,none⟩),.pointer (some ⟨b',0,none⟩),uu,uu,uu,uu,uu,uu,uu,uu,uu,uu,uu,uu,uu,uu,uu,uu,uu,uu,uu,uu,uu,uu,uu,uu] (by simp [ntmps169]) fun c₀ cs hu=>?_
 apply wpS_seq
 refine Sy hu rfl ?_
 simp only [S0,S1]
 refine wpS_of_wp<|ws fun h1=>ws fun h2=>Ah<|sV2 (Aa rfl) (d_eqlNil Mx rfl) ?_
 refine wh h2<|cf rfl<|wp_skip<|h1 _ _<|ws fun h3=>Ah<|sV3 (Aa rfl) (Ms Qu rfl) (Aa rfl) ?_
 refine sV2 (Ai rfl rfl) (Ai rfl rfl) ?_
 refine sal zt_232 fun b4 w1 E5 g6 q7=>?_
 have X8:=(Upd2.refl b b' w).ext E5
 refine ss sz_232 q7 fun w2 U9 q2a=>?_
 have X3a:=X8.upd U9 (.inl g6)
 refine sV (Ab rfl) ?_
 refine wh h3<|ws fun h1b=>ws fun h2b=>Ah<|sV2 (Aa rfl) (Np rfl rfl rfl) ?_
 refine wh h2b<|cf rfl<|wp_skip<|h1b _ _<|ws fun h3b=>Ah<|sal HK fun b1d w3 E1a g4b q5b=>?_
 have g2d:=nlt X3a.size g4b
 have X6b:=X3a.ext E1a
 refine wh h3b<|DT [6,8] 9 mo rfl fun w4 E0a S7b=>have X8b:=X6b.ext E0a;dA 0 rfl (fun _=>Aa rfl) ?_
 refine dA 1 rfl (fun _=>Aa rfl) ?_
 refine dV 2 rfl (fun _ hw=>Ak Bl rfl ((q5b.ext E0a).ext hw) rfl) S7b ?_
 refine dA2 3 5 rfl rfl (fun _=>Af (o':=0) fa_232_0 rfl rfl) (fun _=>Bz rfl) ?_
 refine Kn (tb 9 127) 2 (fun l l' w'=>UpdS [b] w4 w'∧Bx w' b 65 [.bool false,.slice none 0 0,.slice none 0 0]∧l'=(l.set 23 (.int .i64 n))) ?_ ?_
 ·intro HJ39
  refine Ea 4 6 (by kernel_rfl) ?_ ?_
  ·refine opV 4 rfl (by rfl) (Ag CO rfl (Bx.cell ((q2a.ext E1a).ext E0a) rfl)) (dnrm ?_)
   refine Bc 6 (by kernel_rfl) ?_
   ·have F9b:=belU E5 U9 g6
    refine opK 6 rfl (by decide) (by rfl) EM rfl rfl (((qa.ext F9b).ext E1a).ext E0a) rfl rfl rfl rfl (by simp only [SP0,SP1,S0,S1,Nat.reduceAdd];rfl) fun w5 U0c q1c=>?_
    exact dls (HJ39 _ _ ⟨((UpdS.refl _ _).upd U0c (.inl im0)),q1c,(by kernel_rfl)⟩)
  ·have F2c:=belU E5 U9 g6
   have q4a:=((qa.ext F2c).ext E1a).ext E0a
   refine opK 6 rfl (by decide) (by rfl) EM rfl rfl q4a rfl rfl rfl rfl (by simp only [SP0,SP1,S0,S1,Nat.reduceAdd];rfl) fun w5 U5a q3c=>?_
   refine Bc 4 (by kernel_rfl) ?_
   ·have ne4c:=(Bx.neT ((q2a.ext E1a).ext E0a) q4a (by decide))
    have q5c:=((q2a.ext E1a).ext E0a).upd U5a ne4c
    refine opV 4 rfl (by rfl) (Ag CO rfl (Bx.cell q5c rfl)) (dnrm ?_)
    exact dls (HJ39 _ _ ⟨((UpdS.refl _ _).upd U5a (.inl im0)),q3c,(by kernel_rfl)⟩)
 ·rintro _ w5 ⟨U6a,q6c,rfl⟩ _ rfl
  have X7c:=X8b.updS U6a (alc (.inr (.inl rfl)) al0)
  refine dA 7 rfl (fun _=>Bz rfl) ?_
  have F7a:=belU E5 U9 g6
  have q8a:=((qb.ext F7a).ext E1a).ext E0a
  have ne9a:=(Bx.neT q8a (((qa.ext F7a).ext E1a).ext E0a) (by decide))
  have q8c:=q8a.updS U6a (nmc ne9a nm0)
  refine dkk 8 HU q8c fun w6 U0b q9c=>?_
  have X0d:=X7c.upd U0b (.inr (.inr rfl))
  refine Cx (by kernel_rfl) ?_
  exact SA (by kernel_rfl) ⟨rfl,rfl,X0d,(q6c.upd U0b (Ne.symm ne9a)),q9c⟩
theorem EW:Ry prog 169:=by
 intro ar b b' w ha
 subst ha
 refine KM func169 rfl [.pointer (some ⟨b,0,none⟩),.pointer (some ⟨b',0,none⟩),uu,uu,uu,uu,uu,uu,uu,uu,uu,uu,uu,uu,uu,uu,uu,uu,uu,uu,uu,uu,uu,uu,uu,uu] (by simp [ntmps169]) fun c₀ cs hu=>?_
 apply wpS_seq
 refine Sg hu rfl ?_
 simp only [S0,S1]
 refine wpS_of_wp<|ws fun h1=>ws fun h2=>Ah<|sV2 (Aa rfl) (OI Mx rfl) ?_
 refine wh h2<|ct rfl<|wp_ret ?_
 simp only [Exit.then]
 exact finIr hu (by kernel_rfl) ⟨rfl,rfl,rfl⟩
theorem GF (x0:Bool) (x1:Int) (w:World) (hT:TB w) (r:Except Int (Unit)) (hr:Hq x0 x1=some r) :
  Calls prog 174 #[.bool x0,.int .i64 x1] w (RetE 232 KD w r):=by
 unfold Hq at hr
 go_enter func174,ntmps174
 refine ws fun h1=>Ah<|sV (Aa rfl) ?_
 refine sbl (FL rfl) fun z2 hz2=>?_
 refine wh h1 ?_
 rcases zi hz2 hr with ⟨e8,_,f0a⟩ | ⟨e8,_,f1a⟩
 ·refine ct e8<|Ah<|sV2 (Aa rfl) (AL (vals:=[(0,.int .i64 x1)]) (cells:=[.int .i64 x1]) (by rfl) (by kernel_rfl)) ?_
  refine sV (JK Qu rfl) ?_
  refine Ob rfl ?_
  obtain rfl:=sj f0a
  exact ⟨rfl,AP (Ext.refl _)⟩
 ·refine cf e8<|wp_skip ?_
  obtain rfl:=sj f1a
  exact MS rfl Res.nil (Cl (Ext.refl _) rfl)
theorem Em (x0_0:Ap) (x0_1:Ap) (bp0:Nat) (A1:OA) (c2:Nat) (A4:OA) (c5:Nat) (A7:OA) (c8:Nat) (A5a:OA) (c6a:Nat) (w:World) (hT:TB w) (n3:RU w A1 c2 x0_0.Num.Abs) (n6:RU w A4 c5 x0_0.Den) (n9:RU w A7 c8 x0_1.Num.Abs) (n8b:RU w A5a c6a x0_1.Den) (q2b:Bx w bp0 65 [.bool x0_0.Num.Neg,.slice A1 (sz x0_0.Num.Abs) c2,.slice A4 (sz x0_0.Den) c5,.bool x0_1.Num.Neg,.slice A7 (sz x0_1.Num.Abs) c8,.slice A5a (sz x0_1.Den) c6a]) (r:Except Int (Unit)) (hr:Ej x0_0 x0_1=some r) :
  Calls prog 170 #[.slice (some ⟨bp0,0,none⟩) 2 2] w (RetE 232 KD w r):=by
 unfold Ej at hr
 go_enter func170,ntmps170
 refine ws fun h9b=>Ah<|sV3 (Aa rfl) (AD Hj rfl) (Aa rfl) ?_
 refine wh h9b ?_
 apply wp_block
 refine GO<|AW<|ws fun h0c=>Ah<|sV (HI (v:=.bool true) (Bv rfl rfl) (by rfl)) ?_
 refine wh h0c<|ws fun h1c=>ct rfl<|wp_skip<|h1c _ _<|ws fun h2c=>?_
 apply wp_block
 refine ws fun h3c=>Ah<|sV (CN (o':=0) Hj EM rfl rfl (by decide) (by decide) (by decide)) ?_
 refine sV (dld Bl q2b) ?_
 refine sal HK fun b8e w1 E4c g5c q6c=>?_
 refine ss EM q6c fun w2 U7c q8c=>?_
 have F0a:=belU E4c U7c g5c
 refine wh h3c<|Ah<|sV (Ak Bl rfl q8c rfl) ?_
 refine scr hr (Ac MD (by rfl)) (GK (⟨(⟨x0_0.Num.Neg,(limbs x0_0.Num.Abs)⟩:Ar),(limbs x0_0.Den)⟩:BT) A1 c2 A4 c5 w2 (tbx F0a hT) (n3.ext F0a) (n6.ext F0a)) fun r3b f9c w3 E4b=>?_
 have X1a:=xtr F0a E4b
 rcases AC f9c with ⟨r7a,h8a,f0d⟩ | ⟨r7a,h8a,rfl⟩
 ·refine scO (Ac LN (by rfl)) (GF r3b 1 w3 (tbx X1a hT)  (.ok r7a) h8a) ?_
  rintro _ w4 E2a rfl
  refine nrm ?_
  have X5b:=xtr X1a E2a
  refine wh h2c<|Ah<|sV (AV (c:=1) rfl rfl (by decide)) ?_
  refine sV (Aa rfl) ?_
  refine AF<|AW<|ws fun h1d=>Ah<|sV (HI (v:=.bool true) (Bv rfl rfl) (by rfl)) ?_
  refine wh h1d<|ws fun h2d=>ct rfl<|wp_skip<|h2d _ _<|ws fun h3d=>?_
  apply wp_block
  refine ws fun h4d=>Ah<|sV (CN (o':=3) Hj EM rfl rfl (by decide) (by decide) (by decide)) ?_
  have q5d:=((q2b.ext F0a).ext E4b).ext E2a
  refine sV (dld Bl q5d) ?_
  refine sal HK fun b9e w5 E6d g6b q7d=>?_
  have g0f:=nlt X5b.size g6b
  refine ss EM q7d fun w6 U8d q9d=>?_
  have F0e:=belU E6d U8d g6b
  have X3a:=xtr X5b F0e
  refine wh h4d<|Ah<|sV (Ak Bl rfl q9d rfl) ?_
  refine scr f0d (Ac MD (by rfl)) (GK (⟨(⟨x0_1.Num.Neg,(limbs x0_1.Num.Abs)⟩:Ar),(limbs x0_1.Den)⟩:BT) A7 c8 A5a c6a w6 (tbx X3a hT) (n9.ext X3a) (n8b.ext X3a)) fun r7b f1e w7 E2e=>?_
  have X4a:=xtr X3a E2e
  rcases AC f1e with ⟨r9a,h0b,f3e⟩ | ⟨r9a,h0b,rfl⟩
  ·refine scO (Ac LN (by rfl)) (GF r7b 1 w7 (tbx X4a hT)  (.ok r9a) h0b) ?_
   rintro _ w8 E1b rfl
   refine nrm ?_
   have X4e:=xtr X4a E1b
   refine wh h3d<|Ah<|sV (AV (c:=2) rfl rfl (by decide)) ?_
   refine sV (Aa rfl) ?_
   refine AF<|AW<|ws fun h5e=>Ah<|sV (HI (v:=.bool false) (Bv rfl rfl) (by rfl)) ?_
   refine wh h5e<|ws fun h1f=>cf rfl<|wp_exit ?_
   simp only [Exit.then,Exit.inBlock,↓reduceIte,Nat.reduceEqDiff]
   obtain rfl:=sj f3e
   exact MS rfl Res.nil (Cl X4e rfl)
  ·refine scP (Ac LN (by rfl)) (GF r7b 1 w7 (tbx X4a hT)  (.error r9a) h0b) fun w8 E1b=>?_
   have X6e:=xtr X4a E1b
   exact ⟨rfl,AP X6e⟩
 ·refine scP (Ac LN (by rfl)) (GF r3b 1 w3 (tbx X1a hT)  (.error r7a) h8a) fun w4 E2a=>?_
  have X7e:=xtr X1a E2a
  exact ⟨rfl,AP X7e⟩
theorem Fl (x0:Int) (w:World) (hT:TB w) (r:Except Int (Unit)) (hr:FT x0=some r) :
  Calls prog 227 #[.int .i64 x0] w (RetE 232 KD w r):=by
 unfold FT at hr
 go_enter func227,ntmps227
 refine ws fun h1=>Ah<|sV (Aa rfl) ?_
 refine sbl (Il rfl rfl) fun z2 hz2=>?_
 refine wh h1 ?_
 rcases zi hz2 hr with ⟨e8,_,f0a⟩ | ⟨e8,_,f1a⟩
 ·refine ct e8<|Ah<|sV2 (Aa rfl) (AL (vals:=[(0,.int .i64 x0)]) (cells:=[.int .i64 x0]) (by rfl) (by kernel_rfl)) ?_
  refine sV (JK Qu rfl) ?_
  refine Ob rfl ?_
  obtain rfl:=sj f0a
  exact ⟨rfl,AP (Ext.refl _)⟩
 ·refine cf e8<|wp_skip ?_
  obtain rfl:=sj f1a
  exact MS rfl Res.nil (Cl (Ext.refl _) rfl)
theorem c_nat_limbs_blocks (x0:Nat) (x1:Nat) (x2:Int) (A1:OA) (c2:Nat) (A4:OA) (c5:Nat) (w:World) (hT:TB w) (n3:RU w A1 c2 x0) (n6:RU w A4 c5 x1) (r:Nat × Nat) (hr:Hx x0 x1 x2=some r) :
  Calls prog 277 #[.slice A1 (sz x0) c2,.slice A4 (sz x1) c5,.int .i64 x2] w (Ret Mh w r):=by
 unfold Hx at hr
 go_enter func277,ntmps277
 refine ws fun h7=>Ah<|sV2 (Ab rfl) (Ab rfl) ?_
 refine wh h7<|ws fun h8=>ws fun h9=>Ah<|sV3 (Aa rfl) (AD AG rfl) (Aa rfl) ?_
 refine sbl (Bv rfl rfl) fun z0a hz0a=>?_
 refine wh h9 ?_
 rcases zi hz0a hr with ⟨e1a,_,f2a⟩ | ⟨e1a,_,f3a⟩
 ·refine ct e1a<|ws fun h4a=>Ah<|sV2 (Aa rfl) (Aa rfl) ?_
  obtain ⟨r5a,h6a,f7a⟩:=Ad f2a
  refine sc (Ac Rz (by rfl)) (Ie x0 x1 A1 c2 A4 c5 w hT n3 n6 r5a h6a) ?_
  rintro _ w1 E8a ⟨A9a,c0b,A1b,c2b,rfl,n3b,n4b⟩
  refine nrm ?_
  refine sV3 (Ai rfl rfl) (Ai rfl rfl) (Ab rfl) ?_
  refine sV (Ab rfl) ?_
  refine wh h4a<|wp_ret ?_
  exact Gd f7a rfl (Res.tmp rfl (Res.tmp rfl Res.nil)) (AJ E8a ⟨A9a,c0b,A1b,c2b,rfl,n3b,n4b⟩)
 ·exact nomatch f3a
theorem c_nat_Div_1 (x0:Nat) (x1:Nat) (A1:OA) (c2:Nat) (A4:OA) (c5:Nat) (w:World) (hT:TB w) (n3:RU w A1 c2 x0) (n6:RU w A4 c5 x1) (r:Nat × Nat) (hr:KA x0 x1=some r) :
  Calls prog 276 #[.slice A1 (sz x0) c2,.slice A4 (sz x1) c5] w (Ret Mh w r):=by
 unfold KA at hr
 go_enter func276,ntmps276
 refine ws fun h7=>Ah<|sV2 (Ab rfl) (Ab rfl) ?_
 refine nx h7 fun h8=>sV2 (Aa rfl) (Aa rfl) ?_
 obtain ⟨r9,h0a,f1a⟩:=Ad hr
 refine sc (Ac en_277 (by rfl)) (c_nat_limbs_blocks x0 x1 32 A1 c2 A4 c5 w hT n3 n6 r9 h0a) ?_
 rintro _ w1 E2a ⟨A3a,c4a,A5a,c6a,rfl,n7a,n8a⟩
 refine nrm ?_
 refine sV3 (Ai rfl rfl) (Ai rfl rfl) (Ab rfl) ?_
 refine sV (Ab rfl) ?_
 refine wh h8<|wp_ret ?_
 exact Gd f1a rfl (Res.tmp rfl (Res.tmp rfl Res.nil)) (AJ E2a ⟨A3a,c4a,A5a,c6a,rfl,n7a,n8a⟩)
theorem c_nat_divided__nil__nat_Div_1 (x0:Nat) (x1:Nat) (A1:OA) (c2:Nat) (A4:OA) (c5:Nat) (w:World) (hT:TB w) (n3:RU w A1 c2 x0) (n6:RU w A4 c5 x1) (r:Nat × Nat × Int) (hr:DM x0 x1=some r) :
  Calls prog 275 #[.slice A1 (sz x0) c2,.slice A4 (sz x1) c5,.agg #[.nilFunc,.func (.func 276) #[] #[]]] w (Ret MN w r):=by
 unfold DM at hr
 obtain ⟨q0,hq0,hr0⟩:=Ad hr
 unfold EZ at hq0
 go_enter_defers func275,ntmps275
 refine ws fun h7=>Ah<|sbx rfl rfl fun b8 w1 E9 g1g q3d=>?_
 refine sV2 (Ab rfl) (Ab rfl) ?_
 refine sal JN fun b4d w2 E2c g5d q6d=>?_
 have g7d:=nlt E9.size g5d
 have X3c:=xtr E9 E2c
 refine nx h7 fun h8d=>HP (vs:=[.pointer (some ⟨b4d,0,none⟩)]) (by rfl) (by rfl)<|nx h8d fun h9d=>sV2 (Aa rfl) (Aa rfl) ?_
 refine Dj (vals:=[(0,.slice A1 (sz x0) c2),(1,.slice A4 (sz x1) c5)]) (cs:=[.slice A1 (sz x0) c2,.slice A4 (sz x1) c5]) Lw ND OD (by rfl) (by decide) (by kernel_rfl) fun b4c w3 E7a g0e q5c=>?_
 refine nrm ?_
 have g2g:=nlt X3c.size g0e
 have X0a:=xtr X3c E7a
 rcases AC hq0 with ⟨r8a,h9a,f1e⟩ | ⟨r8a,h9a,rfl⟩
 ·refine scO (Ac JU (by rfl)) (CI x0 x1 b4c A1 c2 A4 c5 w3 (tbx X0a hT) (n3.ext X0a) (n6.ext X0a) q5c (.ok r8a) h9a) ?_
  rintro _ w4 E3a rfl
  refine nrm ?_
  have X0b:=xtr X0a E3a
  refine nx h9d fun h2e=>sV2 (Aa rfl) (AD CH rfl) ?_
  refine sbl (Eh rfl rfl) fun z1b hz1b=>?_
  obtain rfl:z1b=decide (0<(sz x1:Int)):=bz hz1b
  rcases AC f1e with ⟨r2b,h3b,f3e⟩ | ⟨r2b,h3b,rfl⟩
  ·refine scO (Ac LO (by rfl)) (HW (decide (0<(sz x1:Int))) 8 w4 (tbx X0b hT)  (.ok r2b) h3b) ?_
   rintro _ w5 E4a rfl
   refine nrm ?_
   have X5a:=xtr X0b E4a
   refine nx h2e fun h4e=>sV (Af (o':=1) fa_252_1 rfl rfl) ?_
   have q5e:=(((q3d.ext E2c).ext E7a).ext E3a).ext E4a
   refine sV3 (Ag fl_250 rfl (Bx.cell q5e rfl)) (Aa rfl) (Aa rfl) ?_
   obtain ⟨r1a,h6e,f7e⟩:=Ad f3e
   refine sc (Ho (first:=[]) (cap:=[]) (args:=[.slice A1 (sz x0) c2,.slice A4 (sz x1) c5]) en_276 (by rfl) (by rfl)) (c_nat_Div_1 x0 x1 A1 c2 A4 c5 w5 (tbx X5a hT) (n3.ext X5a) (n6.ext X5a) r1a h6e) ?_
   rintro _ w6 E6c ⟨A7c,c8c,A9c,c0d,rfl,n1d,n2d⟩
   refine nrm ?_
   have X4b:=xtr X5a E6c
   refine sV3 (Aa rfl) (Ai rfl rfl) (Ai rfl rfl) ?_
   refine sV2 (Ab rfl) (Ab rfl) ?_
   refine nx h4e fun h8e=>sV (Aa rfl) ?_
   rcases AC f7e with ⟨r5b,h6b,f9e⟩ | ⟨r5b,h6b,rfl⟩
   ·refine scO (Ac JS (by rfl)) (EQ r1a.1 A7c c8c w6 (tbx X4b hT) n1d (.ok r5b) h6b) ?_
    rintro _ w7 E2a ⟨A0f,c1f,rfl,n2f⟩
    refine nrm ?_
    have X7b:=xtr X4b E2a
    refine sV (Aa rfl) ?_
    rcases AC f9e with ⟨r8b,h9b,f3f⟩ | ⟨r8b,h9b,rfl⟩
    ·refine scO (Ac JS (by rfl)) (EQ r1a.2 A9c c0d w7 (tbx X7b hT) (n2d.ext E2a) (.ok r8b) h9b) ?_
     rintro _ w8 E6a ⟨A4f,c5f,rfl,n6f⟩
     refine nrm ?_
     have X7f:=xtr X7b E6a
     refine sV2 (Ab rfl) (Ab rfl) ?_
     have q0c:=(((((q6d.ext E7a).ext E3a).ext E4a).ext E6c).ext E2a).ext E6a
     refine ss HU q0c fun w9 U1c q8f=>?_
     have X9f:=belU X7f U1c g7d
     refine wh h8e<|wp_ret ?_
     have n0g:=(n2f.ext E6a).upd U1c q0c (by decide)
     obtain rfl:=sj f3f
     obtain rfl:=sj hr0
     exact NU Gz Nu rfl (Res.tmp rfl (Res.tmp rfl (Res.cell1 rfl CO (Bx.cell q8f rfl) Res.nil))) (AJ X9f ⟨A0f,c1f,A4f,c5f,rfl,n0g,(n6f.upd U1c q0c (by decide))⟩)
    ·refine scP (Ac JS (by rfl)) (EQ r1a.2 A9c c0d w7 (tbx X7b hT) (n2d.ext E2a) (.error r8b) h9b) fun w8 E6a=>?_
     cases hr0
   ·refine scP (Ac JS (by rfl)) (EQ r1a.1 A7c c8c w6 (tbx X4b hT) n1d (.error r5b) h6b) fun w7 E2a=>?_
    cases hr0
  ·refine scP (Ac LO (by rfl)) (HW (decide (0<(sz x1:Int))) 8 w4 (tbx X0b hT)  (.error r2b) h3b) fun w5 E4a=>?_
   cases hr0
 ·refine scP (Ac JU (by rfl)) (CI x0 x1 b4c A1 c2 A4 c5 w3 (tbx X0a hT) (n3.ext X0a) (n6.ext X0a) q5c (.error r8a) h9a) fun w4 E3a=>?_
  cases hr0
theorem c_nat_Div (x0:Nat) (x1:Nat) (A1:OA) (c2:Nat) (A4:OA) (c5:Nat) (w:World) (hT:TB w) (n3:RU w A1 c2 x0) (n6:RU w A4 c5 x1) (r:Nat × Nat × Int) (hr:KU x0 x1=some r) :
  Calls prog 258 #[.slice A1 (sz x0) c2,.slice A4 (sz x1) c5] w (Ret MN w r):=by
 unfold KU at hr
 go_enter func258,ntmps258
 refine ws fun h7=>Ah<|sV3 (Ab rfl) (Ab rfl) (Ab rfl) ?_
 refine nx h7 fun h8=>sV3 (Aa rfl) (Aa rfl) (AL (vals:=[(1,.func (.func 276) #[] #[])]) (cells:=[.nilFunc,.func (.func 276) #[] #[]]) (by rfl) (by kernel_rfl)) ?_
 obtain ⟨r9,h0a,f1a⟩:=Ad hr
 refine sc (Ac en_275 (by rfl)) (c_nat_divided__nil__nat_Div_1 x0 x1 A1 c2 A4 c5 w hT n3 n6 r9 h0a) ?_
 rintro _ w1 E2a ⟨A3a,c4a,A5a,c6a,rfl,n7a,n8a⟩
 refine nrm ?_
 refine sV3 (Ai rfl rfl) (Ai rfl rfl) (Ai rfl rfl) ?_
 refine sV3 (Ab rfl) (Ab rfl) (Ab rfl) ?_
 refine wh h8<|wp_ret ?_
 exact Gd f1a rfl (Res.tmp rfl (Res.tmp rfl (Res.tmp rfl Res.nil))) (AJ E2a ⟨A3a,c4a,A5a,c6a,rfl,n7a,n8a⟩)
theorem Cq (x0:Nat) (x1:Nat) (A1:OA) (c2:Nat) (A4:OA) (c5:Nat) (w:World) (hT:TB w) (n3:RU w A1 c2 x0) (n6:RU w A4 c5 x1) (r:Except Int (Nat × Nat)) (hr:Dv x0 x1=some r) :
  Calls prog 228 #[.slice A1 (sz x0) c2,.slice A4 (sz x1) c5] w (RetE 232 rep_23_23 w r):=by
 unfold Dv at hr
 go_enter func228,ntmps228
 refine ws fun h7=>Ah<|sV2 (Ab rfl) (Ab rfl) ?_
 refine nx h7 fun h8=>sV2 (Aa rfl) (Aa rfl) ?_
 obtain ⟨r9,h4a,f5a⟩:=Ad hr
 refine sc (Ac en_258 (by rfl)) (c_nat_Div x0 x1 A1 c2 A4 c5 w hT n3 n6 r9 h4a) ?_
 rintro _ w1 E1a ⟨A6a,c7a,A8a,c9a,rfl,n0b,n1b⟩
 refine nrm ?_
 refine sV3 (Aa rfl) (Ai rfl rfl) (Ai rfl rfl) ?_
 refine sV3 (Ai rfl rfl) (Ab rfl) (Ab rfl) ?_
 refine sV (Ab rfl) ?_
 refine nx h8 fun h2b=>sV (Aa rfl) ?_
 rcases AC f5a with ⟨r2a,h3a,f3b⟩ | ⟨r2a,h3a,rfl⟩
 ·refine scO (Ac KL (by rfl)) (Fl r9.2.2 w1 (tbx E1a hT)  (.ok r2a) h3a) ?_
  rintro _ w2 E0a rfl
  refine nrm ?_
  have X4b:=xtr E1a E0a
  refine nx h2b fun h5b=>sV3 (Aa rfl) (Aa rfl) (Ab rfl) ?_
  refine sV (Ab rfl) ?_
  refine wh h5b<|wp_ret ?_
  exact Gd f3b rfl (Res.tmp rfl (Res.tmp rfl Res.nil)) (Cl X4b ⟨A6a,c7a,A8a,c9a,rfl,(n0b.ext E0a),(n1b.ext E0a)⟩)
 ·refine scP (Ac KL (by rfl)) (Fl r9.2.2 w1 (tbx E1a hT)  (.error r2a) h3a) fun w2 E0a=>?_
  have X6b:=xtr E1a E0a
  exact ⟨rfl,AP X6b⟩
theorem c_nat_limbs_karatsuba (x0:Nat) (x1:Nat) (x2:Int) (A1:OA) (c2:Nat) (A4:OA) (c5:Nat) (w:World) (hT:TB w) (n3:RU w A1 c2 x0) (n6:RU w A4 c5 x1) (r:Nat) (hr:Gt x0 x1 x2=some r) :
  Calls prog 289 #[.slice A1 (sz x0) c2,.slice A4 (sz x1) c5,.int .i64 x2] w (Ret JB w r):=by
 unfold Gt at hr
 go_enter func289,ntmps289
 refine ws fun h7=>Ah<|sV (Ab rfl) ?_
 refine wh h7<|ws fun h8=>ws fun h9=>Ah<|sV3 (Aa rfl) (AD AG rfl) (Aa rfl) ?_
 refine sV3 (AD AG rfl) (PO rfl rfl) (Aa rfl) ?_
 refine sbl (Bv rfl rfl) fun z0a hz0a=>?_
 refine wh h9 ?_
 rcases zi hz0a hr with ⟨e1a,_,f2a⟩ | ⟨e1a,_,f3a⟩
 ·refine ct e1a<|ws fun h4a=>Ah<|sV2 (Aa rfl) (Aa rfl) ?_
  refine scn f2a (Ac en_294 (by rfl)) (ID x0 x1 A1 c2 A4 c5 w hT n3 n6) fun r0b f5a w1 A6a c7a E8a n9a=>?_
  refine sV (Ab rfl) ?_
  refine wh h4a<|wp_ret ?_
  exact Bn f5a E8a ⟨A6a,c7a,rfl,n9a⟩
 ·exact nomatch f3a
theorem c_nat_limbs_mul (x0:Nat) (x1:Nat) (A1:OA) (c2:Nat) (A4:OA) (c5:Nat) (w:World) (hT:TB w) (n3:RU w A1 c2 x0) (n6:RU w A4 c5 x1) (r:Nat) (hr:IB x0 x1=some r) :
  Calls prog 278 #[.slice A1 (sz x0) c2,.slice A4 (sz x1) c5] w (Ret JB w r):=by
 unfold IB at hr
 go_enter func278,ntmps278
 refine ws fun h7=>Ah<|sV (Ab rfl) ?_
 refine nx h7 fun h8=>sV2 (Aa rfl) (Aa rfl) ?_
 refine scn hr (Ac en_289 (by rfl)) (c_nat_limbs_karatsuba x0 x1 32 A1 c2 A4 c5 w hT n3 n6) fun r9 f0a w1 A1a c2a E3a n4a=>?_
 refine sV (Ab rfl) ?_
 refine wh h8<|wp_ret ?_
 exact Bn f0a E3a ⟨A1a,c2a,rfl,n4a⟩
theorem c_nat_multiplied__nat_limbs_mul__nil (x0:Nat) (x1:Nat) (A1:OA) (c2:Nat) (A4:OA) (c5:Nat) (w:World) (hT:TB w) (n3:RU w A1 c2 x0) (n6:RU w A4 c5 x1) (r:Nat × Int) (hr:Cn x0 x1=some r) :
  Calls prog 242 #[.slice A1 (sz x0) c2,.slice A4 (sz x1) c5,.agg #[.func (.func 278) #[] #[],.nilFunc]] w (Ret IK w r):=by
 unfold Cn at hr
 obtain ⟨q0,hq0,hr0⟩:=Ad hr
 unfold Dw at hq0
 go_enter_defers func242,ntmps242
 refine ws fun h7=>Ah<|sbx rfl rfl fun b8 w1 E9 g0e q1c=>?_
 refine sV (Ab rfl) ?_
 refine sal JN fun b2c w2 E0b g3c q4c=>?_
 have g5c:=nlt E9.size g3c
 have X1b:=xtr E9 E0b
 refine nx h7 fun h6c=>HP (vs:=[.pointer (some ⟨b2c,0,none⟩)]) (by rfl) (by rfl)<|nx h6c fun h7c=>sV2 (Aa rfl) (Aa rfl) ?_
 refine Dj (vals:=[(0,.slice A1 (sz x0) c2),(1,.slice A4 (sz x1) c5)]) (cs:=[.slice A1 (sz x0) c2,.slice A4 (sz x1) c5]) Lw ND OD (by rfl) (by decide) (by kernel_rfl) fun b2b w3 E3a g8c q3b=>?_
 refine nrm ?_
 have g1e:=nlt X1b.size g8c
 have X0a:=xtr X1b E3a
 rcases AC hq0 with ⟨r4a,h5a,f9c⟩ | ⟨r4a,h5a,rfl⟩
 ·refine scO (Ac JU (by rfl)) (CI x0 x1 b2b A1 c2 A4 c5 w3 (tbx X0a hT) (n3.ext X0a) (n6.ext X0a) q3b (.ok r4a) h5a) ?_
  rintro _ w4 E1a rfl
  refine nrm ?_
  have X2a:=xtr X0a E1a
  refine nx h7c fun h0d=>sV (Af (o':=0) Nf rfl rfl) ?_
  have q1d:=((q1c.ext E0b).ext E3a).ext E1a
  refine sV3 (Ag Pr rfl (Bx.cell q1d rfl)) (Aa rfl) (Aa rfl) ?_
  refine scn f9c (Ho (first:=[]) (cap:=[]) (args:=[.slice A1 (sz x0) c2,.slice A4 (sz x1) c5]) en_278 (by rfl) (by rfl)) (c_nat_limbs_mul x0 x1 A1 c2 A4 c5 w4 (tbx X2a hT) (n3.ext X2a) (n6.ext X2a)) fun r4b f2d w5 A5b c6b E7b n8b=>?_
  have X6a:=xtr X2a E7b
  rcases AC f2d with ⟨r7a,h8a,f3d⟩ | ⟨r7a,h8a,rfl⟩
  ·refine scO (Ac JS (by rfl)) (EQ r4b A5b c6b w5 (tbx X6a hT) n8b (.ok r7a) h8a) ?_
   rintro _ w6 E9a ⟨A4d,c5d,rfl,n6d⟩
   refine nrm ?_
   have X7d:=xtr X6a E9a
   refine sV (Ab rfl) ?_
   have q9b:=(((q4c.ext E3a).ext E1a).ext E7b).ext E9a
   refine ss HU q9b fun w7 U0c q8d=>?_
   have X9d:=belU X7d U0c g5c
   refine wh h0d<|wp_ret ?_
   obtain rfl:=sj f3d
   obtain rfl:=sj hr0
   exact NU Gz Nu rfl (Res.tmp rfl (Res.cell1 rfl CO (Bx.cell q8d rfl) Res.nil)) (AJ X9d ⟨A4d,c5d,rfl,(n6d.upd U0c q9b (by decide))⟩)
  ·refine scP (Ac JS (by rfl)) (EQ r4b A5b c6b w5 (tbx X6a hT) n8b (.error r7a) h8a) fun w6 E9a=>?_
   cases hr0
 ·refine scP (Ac JU (by rfl)) (CI x0 x1 b2b A1 c2 A4 c5 w3 (tbx X0a hT) (n3.ext X0a) (n6.ext X0a) q3b (.error r4a) h5a) fun w4 E1a=>?_
  cases hr0
theorem Nl (x0:Nat) (x1:Nat) (A1:OA) (c2:Nat) (A4:OA) (c5:Nat) (w:World) (hT:TB w) (n3:RU w A1 c2 x0) (n6:RU w A4 c5 x1) (r:Nat × Int) (hr:Jq x0 x1=some r) :
  Calls prog 259 #[.slice A1 (sz x0) c2,.slice A4 (sz x1) c5] w (Ret IK w r):=by
 unfold Jq at hr
 go_enter func259,ntmps259
 refine ws fun h7=>Ah<|sV2 (Ab rfl) (Ab rfl) ?_
 refine nx h7 fun h8=>sV3 (Aa rfl) (Aa rfl) (AL (vals:=[(0,.func (.func 278) #[] #[])]) (cells:=[.func (.func 278) #[] #[],.nilFunc]) (by rfl) (by kernel_rfl)) ?_
 refine scn hr (Ac OY (by rfl)) (c_nat_multiplied__nat_limbs_mul__nil x0 x1 A1 c2 A4 c5 w hT n3 n6) fun r9 f0a w1 A1a c2a E3a n4a=>?_
 refine sV3 (Ai rfl rfl) (Ai rfl rfl) (Ab rfl) ?_
 refine sV (Ab rfl) ?_
 refine wh h8<|wp_ret ?_
 exact Gd f0a rfl (Res.tmp rfl (Res.tmp rfl Res.nil)) (AJ E3a ⟨A1a,c2a,rfl,n4a⟩)
theorem DQ (x0:Bool) (x1:Nat) (A1:OA) (c2:Nat) (w:World) (hT:TB w) (n3:RU w A1 c2 x1) (r:Ae) (hr:Dr x0 x1=some r) :
  Calls prog 230 #[.bool x0,.slice A1 (sz x1) c2] w (Ret Lg w r):=by
 unfold Dr at hr
 go_enter func230,ntmps230
 refine ws fun h4=>Ah<|sal HT fun b5 w1 E6 g7 q8=>?_
 refine nx h4 fun h9=>sV2 (Aa rfl) (Aa rfl) ?_
 obtain ⟨m1a,h7a,f8a⟩:=Ad hr
 refine BH 6 (fun l l' w'=>∃(t3a:Value) (t4a:Value) (t5a:Value),w1=w'∧l'=((((l.set 7 t3a).set 8 t4a).set 9 t5a).set 10 (.bool m1a))) ?_ ?_
 ·intro HJ23
  rcases zb h7a with ⟨e0a,f9a⟩ | ⟨e0a,f0b⟩
  ·refine sV (Aa rfl) ?_ (hw:=wgT rfl e0a)
   refine sV (AD CH rfl) ?_ (hw:=wgT rfl e0a)
   refine sbl (Eh rfl rfl) (fun z2a hz2a=>?_) (hw:=wgT rfl e0a)
   refine sV (Az (evb rfl e0a) rfl) ?_
   obtain rfl:z2a=decide (0<(sz x1:Int)):=bz hz2a
   obtain rfl:=sj f9a
   exact HJ23 _ _ ⟨(.slice A1 (sz x1) c2),(.int .i64 (sz x1:Int)),(.bool (decide (0<(sz x1:Int)))),rfl,(by kernel_rfl)⟩
  ·refine sQ rfl e0a ?_
   refine sQ rfl e0a ?_
   refine sQ rfl e0a ?_
   refine sV (AE (evb rfl e0a) rfl) ?_
   obtain rfl:=sj f0b
   exact HJ23 _ _ ⟨uu,uu,uu,rfl,(by kernel_rfl)⟩
 ·rintro _ _ ⟨t3a,t4a,t5a,rfl,rfl⟩ _ rfl
  refine sV2 (Aa rfl) (AL (vals:=[(0,.bool m1a),(1,.slice A1 (sz x1) c2)]) (cells:=[.bool m1a,.slice A1 (sz x1) c2]) (by rfl) (by kernel_rfl)) ?_
  refine ss EC q8 fun w2 U1b q2b=>?_
  have F6a:=belU E6 U1b g7
  refine wh h9<|wp_ret ?_
  exact He f8a EO q2b F6a ⟨A1,c2,rfl,(n3.ext F6a)⟩
theorem c_slices_IndexFunc_Int__2__whole_args_1 (x0_0:Ae) (x0_1:Ae) (bp0:Nat) (A1:OA) (c2:Nat) (A4:OA) (c5:Nat) (w:World) (hT:TB w) (n3:RU w A1 c2 x0_0.Abs) (n6:RU w A4 c5 x0_1.Abs) (q7:Bx w bp0 25 [.bool x0_0.Neg,.slice A1 (sz x0_0.Abs) c2,.bool x0_1.Neg,.slice A4 (sz x0_1.Abs) c5]) (r:Int) (hr:Cd x0_0 x0_1=some r) :
  Calls prog 284 #[.slice (some ⟨bp0,0,none⟩) 2 2,.func (.func 270) #[] #[]] w (Ret HY w r):=by
 unfold Cd at hr
 go_enter func284,ntmps284
 refine ws fun h8=>Ah<|sV (Ab rfl) ?_
 refine wh h8<|ws fun h9=>ws fun h4a=>Ah<|sV3 (Aa rfl) (AD ON rfl) (Aa rfl) ?_
 refine wh h4a ?_
 apply wp_block
 refine GO<|AW<|ws fun h5a=>Ah<|sV (HI (v:=.bool true) (Bv rfl rfl) (by rfl)) ?_
 refine wh h5a<|ws fun h6a=>ct rfl<|wp_skip<|h6a _ _<|ws fun h7a=>?_
 apply wp_block
 refine ws fun h8a=>Ah<|sV2 (Aa rfl) (Ab rfl) ?_
 refine nx h8a fun h9a=>sV3 (Aa rfl) (Aa rfl) (Aa rfl) ?_
 refine sV (CN (o':=0) ON EC rfl rfl (by decide) (by decide) (by decide)) ?_
 refine sV (dld EO q7) ?_
 refine scr hr (Ho (first:=[]) (cap:=[]) (args:=[.agg #[.bool x0_0.Neg,.slice A1 (sz x0_0.Abs) c2]]) RY (by rfl) (by rfl)) (LJ x0_0 A1 c2 w hT n3) fun r6c f0b w1 E0a=>?_
 refine wh h9a ?_
 rcases zb f0b with ⟨e1a,f1b⟩ | ⟨e1a,f2b⟩
 ·refine ct e1a<|ws fun h3b=>Ah<|sV2 (Aa rfl) (Ab rfl) ?_
  refine wh h3b<|wp_ret ?_
  exact Bn f1b E0a rfl
 ·refine cf e1a<|wp_skip<|h7a _ _<|Ah<|sV (AV (c:=1) rfl rfl (by decide)) ?_
  refine sV (Aa rfl) ?_
  refine AF<|AW<|ws fun h4b=>Ah<|sV (HI (v:=.bool true) (Bv rfl rfl) (by rfl)) ?_
  refine wh h4b<|ws fun h5b=>ct rfl<|wp_skip<|h5b _ _<|ws fun h6b=>?_
  apply wp_block
  refine ws fun h7b=>Ah<|sV2 (Aa rfl) (Ab rfl) ?_
  refine nx h7b fun h8b=>sV3 (Aa rfl) (Aa rfl) (Aa rfl) ?_
  refine sV (CN (o':=2) ON EC rfl rfl (by decide) (by decide) (by decide)) ?_
  refine sV (dld EO (q7.ext E0a)) ?_
  refine scr f2b (Ho (first:=[]) (cap:=[]) (args:=[.agg #[.bool x0_1.Neg,.slice A4 (sz x0_1.Abs) c5]]) RY (by rfl) (by rfl)) (LJ x0_1 A4 c5 w1 (tbx E0a hT) (n6.ext E0a)) fun r7c f9b w2 E0c=>?_
  have X3a:=xtr E0a E0c
  refine wh h8b ?_
  rcases zb f9b with ⟨e2a,f1c⟩ | ⟨e2a,f2c⟩
  ·refine ct e2a<|ws fun h3c=>Ah<|sV2 (Aa rfl) (Ab rfl) ?_
   refine wh h3c<|wp_ret ?_
   exact Bn f1c X3a rfl
  ·refine cf e2a<|wp_skip<|h6b _ _<|Ah<|sV (AV (c:=2) rfl rfl (by decide)) ?_
   refine sV (Aa rfl) ?_
   refine AF<|AW<|ws fun h4c=>Ah<|sV (HI (v:=.bool false) (Bv rfl rfl) (by rfl)) ?_
   refine wh h4c<|ws fun h8c=>cf rfl<|wp_exit ?_
   simp only [Exit.then,Exit.inBlock,↓reduceIte,Nat.reduceEqDiff]
   refine h9 _ _<|ws fun h5c=>Ah<|sV (Ab rfl) ?_
   refine wh h5c<|wp_ret ?_
   exact Bn f2c X3a rfl
theorem c_slices_ContainsFunc_Int__2__whole_args_1 (x0_0:Ae) (x0_1:Ae) (bp0:Nat) (A1:OA) (c2:Nat) (A4:OA) (c5:Nat) (w:World) (hT:TB w) (n3:RU w A1 c2 x0_0.Abs) (n6:RU w A4 c5 x0_1.Abs) (q7:Bx w bp0 25 [.bool x0_0.Neg,.slice A1 (sz x0_0.Abs) c2,.bool x0_1.Neg,.slice A4 (sz x0_1.Abs) c5]) (r:Bool) (hr:BK x0_0 x0_1=some r) :
  Calls prog 269 #[.slice (some ⟨bp0,0,none⟩) 2 2,.func (.func 270) #[] #[]] w (Ret Gi w r):=by
 unfold BK at hr
 go_enter func269,ntmps269
 refine ws fun h8=>Ah<|sV (Ab rfl) ?_
 refine nx h8 fun h9=>sV2 (Aa rfl) (Aa rfl) ?_
 refine scr hr (Ac en_284 (by rfl)) (c_slices_IndexFunc_Int__2__whole_args_1 x0_0 x0_1 bp0 A1 c2 A4 c5 w hT n3 n6 q7) fun r1a f2a w1 E3a=>?_
 refine sbl (Hb rfl rfl) fun z0a hz0a=>?_
 refine sV (Ab rfl) ?_
 refine wh h9<|wp_ret ?_
 obtain rfl:z0a=decide (0≤r1a):=bz hz0a
 exact Bn f2a E3a rfl
theorem LG (x0_0:Ae) (x0_1:Ae) (bp0:Nat) (A1:OA) (c2:Nat) (A4:OA) (c5:Nat) (w:World) (hT:TB w) (n3:RU w A1 c2 x0_0.Abs) (n6:RU w A4 c5 x0_1.Abs) (q7:Bx w bp0 25 [.bool x0_0.Neg,.slice A1 (sz x0_0.Abs) c2,.bool x0_1.Neg,.slice A4 (sz x0_1.Abs) c5]) (r:Except Int (Unit)) (hr:HA x0_0 x0_1=some r) :
  Calls prog 247 #[.slice (some ⟨bp0,0,none⟩) 2 2] w (RetE 274 KD w r):=by
 unfold HA at hr
 go_enter func247,ntmps247
 refine Ah<|sV (Aa rfl) ?_
 refine scr hr (Ac en_269 (by rfl)) (c_slices_ContainsFunc_Int__2__whole_args_1 x0_0 x0_1 bp0 A1 c2 A4 c5 w hT n3 n6 q7) fun r8 f5a w1 E0a=>?_
 refine sbl (FL rfl) fun z1a hz1a=>?_
 obtain rfl:z1a=decide (¬(r8=true)):=bz hz1a
 rcases AC f5a with ⟨r2a,h3a,f6a⟩ | ⟨r2a,h3a,rfl⟩
 ·refine scO (Ac OM (by rfl)) (Kh (decide (¬(r8=true))) 1 w1 (tbx E0a hT)  (.ok r2a) h3a) ?_
  rintro _ w2 E4a rfl
  refine nrm ?_
  have X7a:=xtr E0a E4a
  refine AF ?_
  obtain rfl:=sj f6a
  exact MS rfl Res.nil (Cl X7a rfl)
 ·refine scP (Ac OM (by rfl)) (Kh (decide (¬(r8=true))) 1 w1 (tbx E0a hT)  (.error r2a) h3a) fun w2 E4a=>?_
  have X8a:=xtr E0a E4a
  exact ⟨rfl,AP X8a⟩
theorem c_nat_Cmp (x0:Nat) (x1:Nat) (A1:OA) (c2:Nat) (A4:OA) (c5:Nat) (w:World) (hT:TB w) (n3:RU w A1 c2 x0) (n6:RU w A4 c5 x1) (r:Int × Int) (hr:Mm x0 x1=some r) :
  Calls prog 295 #[.slice A1 (sz x0) c2,.slice A4 (sz x1) c5] w (Ret rep_3_33 w r):=by
 unfold Mm at hr
 obtain ⟨q0,hq0,hr0⟩:=Ad hr
 unfold MJ at hq0
 go_enter_defers func295,ntmps295
 refine ws fun h7=>Ah<|sV (Ab rfl) ?_
 refine sal JN fun b8 w1 E9 g9a q0b=>?_
 refine nx h7 fun h1b=>HP (vs:=[.pointer (some ⟨b8,0,none⟩)]) (by rfl) (by rfl)<|nx h1b fun h2b=>sV2 (Aa rfl) (Aa rfl) ?_
 refine Dj (vals:=[(0,.slice A1 (sz x0) c2),(1,.slice A4 (sz x1) c5)]) (cs:=[.slice A1 (sz x0) c2,.slice A4 (sz x1) c5]) Lw ND OD (by rfl) (by decide) (by kernel_rfl) fun b5a w2 E6a g3b q7a=>?_
 refine nrm ?_
 have g2c:=nlt E9.size g3b
 have X0a:=xtr E9 E6a
 rcases AC hq0 with ⟨r2a,h3a,f4b⟩ | ⟨r2a,h3a,rfl⟩
 ·refine scO (Ac JU (by rfl)) (CI x0 x1 b5a A1 c2 A4 c5 w2 (tbx X0a hT) (n3.ext X0a) (n6.ext X0a) q7a (.ok r2a) h3a) ?_
  rintro _ w3 E4a rfl
  refine nrm ?_
  have X1a:=xtr X0a E4a
  refine nx h2b fun h5b=>sV2 (Aa rfl) (Aa rfl) ?_
  refine scr f4b (Ac Pv (by rfl)) (Hz x0 x1 A1 c2 A4 c5 w3 (tbx X1a hT) (n3.ext X1a) (n6.ext X1a)) fun r3c f6b w4 E8a=>?_
  have X7b:=xtr X1a E8a
  refine sV (Ab rfl) ?_
  have q8b:=((q0b.ext E6a).ext E4a).ext E8a
  refine ss HU q8b fun w5 U9b q0c=>?_
  have X1c:=belU X7b U9b g9a
  refine wh h5b<|wp_ret ?_
  obtain rfl:=sj f6b
  obtain rfl:=sj hr0
  exact NU Gz Nu rfl (Res.tmp rfl (Res.cell1 rfl CO (Bx.cell q0c rfl) Res.nil)) (AJ X1c rfl)
 ·refine scP (Ac JU (by rfl)) (CI x0 x1 b5a A1 c2 A4 c5 w2 (tbx X0a hT) (n3.ext X0a) (n6.ext X0a) q7a (.error r2a) h3a) fun w3 E4a=>?_
  cases hr0
theorem c_whole_order (x0:Nat) (x1:Nat) (A1:OA) (c2:Nat) (A4:OA) (c5:Nat) (w:World) (hT:TB w) (n3:RU w A1 c2 x0) (n6:RU w A4 c5 x1) (r:Int) (hr:Iv x0 x1=some r) :
  Calls prog 290 #[.slice A1 (sz x0) c2,.slice A4 (sz x1) c5] w (Ret HY w r):=by
 unfold Iv at hr
 go_enter func290,ntmps290
 refine ws fun h7=>Ah<|sV (Ab rfl) ?_
 refine nx h7 fun h8=>sV2 (Aa rfl) (Aa rfl) ?_
 refine scr hr (Ac en_295 (by rfl)) (c_nat_Cmp x0 x1 A1 c2 A4 c5 w hT n3 n6) fun r9 f0a w1 E1a=>?_
 refine sV3 (Aa rfl) (Ai rfl rfl) (Ai rfl rfl) ?_
 refine sV2 (Ab rfl) (Ab rfl) ?_
 refine nx h8 fun h2a=>sV2 (Aa rfl) (Ab rfl) ?_
 refine wh h2a<|wp_ret ?_
 exact Bn f0a E1a rfl
theorem NA (x0:Ae) (x1:Ae) (A1:OA) (c2:Nat) (A4:OA) (c5:Nat) (w:World) (hT:TB w) (n3:RU w A1 c2 x0.Abs) (n6:RU w A4 c5 x1.Abs) (r:Except Int (Ae)) (hr:JJ x0 x1=some r) :
  Calls prog 280 #[.agg #[.bool x0.Neg,.slice A1 (sz x0.Abs) c2],.agg #[.bool x1.Neg,.slice A4 (sz x1.Abs) c5]] w (RetE 274 Lg w r):=by
 unfold JJ at hr
 go_enter func280,ntmps280
 refine ws fun h7=>Ah<|sbx rfl rfl fun b8 w1 E9 g3m q4g=>?_
 refine sbx rfl rfl fun b4m w2 E9d g5g q3a=>?_
 have g5m:=nlt E9.size g5g
 have X0e:=xtr E9 E9d
 refine sal HT fun b6m w3 E0a g6g q6c=>?_
 have g7c:=nlt X0e.size g6g
 have X4a:=xtr X0e E0a
 refine wh h7<|ws fun h7g=>?_
 apply wp_block
 have q2a:=(q4g.ext E9d).ext E0a
 refine ws fun h8g=>Ah<|sV3 (Af (o':=0) Fo rfl rfl) (Ag Gy rfl (Bx.cell q2a rfl)) (Af (o':=0) Fo rfl rfl) ?_
 refine sV (Ag Gy rfl (Bx.cell (q3a.ext E0a) rfl)) ?_
 refine sbl (Pg Qw rfl rfl) fun z1e hz1e=>?_
 refine sV (Ab rfl) ?_
 refine wh h8g ?_
 rcases zi hz1e hr with ⟨e8c,_,f9g⟩ | ⟨e8c,_,f0h⟩
 ·refine ct e8c<|ws fun h1h=>DT [11] 12 mo rfl fun w4 E5a S9a=>have X0b:=xtr X4a E5a;dA 0 rfl (fun _=>Af (o':=0) Fo rfl rfl) ?_
  refine dV 1 rfl (fun _ hw=>Ag Gy rfl (Bx.cell ((q2a.ext E5a).ext hw) rfl)) S9a ?_
  refine dA 2 rfl (fun _=>Af (o':=1) BI rfl rfl) ?_
  refine dV 3 rfl (fun _ hw=>Ag Ci rfl (Bx.cell ((q2a.ext E5a).ext hw) rfl)) S9a ?_
  refine dA 4 rfl (fun _=>Af (o':=1) BI rfl rfl) ?_
  refine dV 5 rfl (fun _ hw=>Ag Ci rfl (Bx.cell (((q3a.ext E0a).ext E5a).ext hw) rfl)) S9a ?_
  refine dcn f9g 6 rfl (by rfl) (Ac en_221 (by rfl)) (c_nat_Add x0.Abs x1.Abs A1 c2 A4 c5 w4 (tbx X0b hT) (n3.ext X0b) (n6.ext X0b)) fun r1b f2h w5 A2e c3e E9c n4e=>?_
  have X2b:=xtr X0b E9c
  have S3h:=S9a.trans E9c
  refine dA2 7 8 rfl rfl (fun _=>Ai rfl rfl) (fun _=>Ai rfl rfl) ?_
  rcases AC f2h with ⟨r3b,h0d,f4h⟩ | ⟨r3b,h0d,rfl⟩
  ·refine dcO 9 rfl (by kernel_rfl) (by rfl) (Ac No (by rfl)) (Ig r1b.1 r1b.2 A2e c3e w5 (tbx X2b hT) n4e (.ok r3b) h0d) ?_
   rintro _ w6 E6a ⟨A5h,c6h,rfl,n7h⟩
   refine dnrm ?_
   have X5e:=xtr X2b E6a
   have S8h:=S3h.trans E6a
   refine dcn f4h 10 rfl (by rfl) (Ac Qg (by rfl)) (Kv x0.Neg r3b A5h c6h w6 (tbx X5e hT) n7h) fun r7m f9h w7 A0i c1i E1d n2i=>?_
   have X3i:=xtr X5e E1d
   have S8m:=S8h.trans E1d
   have q6e:=(((q6c.ext E5a).ext E9c).ext E6a).ext E1d
   refine dkk 11 EC q6e fun w8 U7e q4i=>?_
   have X5i:=belU X3i U7e g7c
   refine Cx (by kernel_rfl) ?_
   refine h1h _ _<|wp_ret ?_
   exact Gd f9h rfl (Res.cellN rfl EO q4i rfl rfl Res.nil) (Cl X5i ⟨A0i,c1i,rfl,(n2i.upd U7e q6e (by decide))⟩)
  ·refine dcP 9 rfl (by kernel_rfl) (by rfl) (Ac No (by rfl)) (Ig r1b.1 r1b.2 A2e c3e w5 (tbx X2b hT) n4e (.error r3b) h0d) fun w6 E6a=>?_
   have X6i:=xtr X2b E6a
   exact ⟨rfl,AP X6i⟩
 ·refine cf e8c<|ws fun h7i=>Ah<|sV3 (Af (o':=1) BI rfl rfl) (Ag Ci rfl (Bx.cell q2a rfl)) (Af (o':=1) BI rfl rfl) ?_
  refine sV (Ag Ci rfl (Bx.cell (q3a.ext E0a) rfl)) ?_
  refine scr f0h (Ac en_290 (by rfl)) (c_whole_order x0.Abs x1.Abs A1 c2 A4 c5 w3 (tbx X4a hT) (n3.ext X4a) (n6.ext X4a)) fun r9m f8i w4 E1a=>?_
  have X8e:=xtr X4a E1a
  refine sbl (Hb rfl rfl) fun z9e hz9e=>?_
  refine sV (Ab rfl) ?_
  refine wh h7i ?_
  rcases zi hz9e f8i with ⟨e2d,_,f9i⟩ | ⟨e2d,_,f0j⟩
  ·refine ct e2d<|ws fun h1j=>DT [11] 12 mo rfl fun w5 E4b S5b=>have X6b:=xtr X8e E4b;dA 0 rfl (fun _=>Af (o':=0) Fo rfl rfl) ?_
   have q0f:=(q2a.ext E1a).ext E4b
   refine dV 1 rfl (fun _ hw=>Ag Gy rfl (Bx.cell (q0f.ext hw) rfl)) S5b ?_
   refine dA 2 rfl (fun _=>Af (o':=1) BI rfl rfl) ?_
   refine dV 3 rfl (fun _ hw=>Ag Ci rfl (Bx.cell (q0f.ext hw) rfl)) S5b ?_
   refine dA 4 rfl (fun _=>Af (o':=1) BI rfl rfl) ?_
   refine dV 5 rfl (fun _ hw=>Ag Ci rfl (Bx.cell ((((q3a.ext E0a).ext E1a).ext E4b).ext hw) rfl)) S5b ?_
   refine dcn f9i 6 rfl (by rfl) (Ac Sq (by rfl)) (OH x0.Abs x1.Abs A1 c2 A4 c5 w5 (tbx X6b hT) (n3.ext X6b) (n6.ext X6b)) fun r7b f2j w6 A1f c2f E3d n3f=>?_
   have X8b:=xtr X6b E3d
   have S3j:=S5b.trans E3d
   refine dA2 7 8 rfl rfl (fun _=>Ai rfl rfl) (fun _=>Ai rfl rfl) ?_
   rcases AC f2j with ⟨r9b,h4d,f4j⟩ | ⟨r9b,h4d,rfl⟩
   ·refine dcO 9 rfl (by kernel_rfl) (by rfl) (Ac No (by rfl)) (Ig r7b.1 r7b.2 A1f c2f w6 (tbx X8b hT) n3f (.ok r9b) h4d) ?_
    rintro _ w7 E7a ⟨A5j,c6j,rfl,n7j⟩
    refine dnrm ?_
    have X4f:=xtr X8b E7a
    have S8j:=S3j.trans E7a
    refine dcn f4j 10 rfl (by rfl) (Ac Qg (by rfl)) (Kv x0.Neg r9b A5j c6j w7 (tbx X4f hT) n7j) fun r0n f9j w8 A0k c1k E5d n2k=>?_
    have X3k:=xtr X4f E5d
    have S1n:=S8j.trans E5d
    have q5f:=((((q6c.ext E1a).ext E4b).ext E3d).ext E7a).ext E5d
    refine dkk 11 EC q5f fun w9 U6f q4k=>?_
    have X5k:=belU X3k U6f g7c
    refine Cx (by kernel_rfl) ?_
    refine h1j _ _<|wp_ret ?_
    exact Gd f9j rfl (Res.cellN rfl EO q4k rfl rfl Res.nil) (Cl X5k ⟨A0k,c1k,rfl,(n2k.upd U6f q5f (by decide))⟩)
   ·refine dcP 9 rfl (by kernel_rfl) (by rfl) (Ac No (by rfl)) (Ig r7b.1 r7b.2 A1f c2f w6 (tbx X8b hT) n3f (.error r9b) h4d) fun w7 E7a=>?_
    have X6k:=xtr X8b E7a
    exact ⟨rfl,AP X6k⟩
  ·refine cf e2d<|wp_skip<|h7g _ _<|ws fun h7k=>DT [11] 12 mo rfl fun w5 E0c S1c=>have X2c:=xtr X8e E0c;dA 0 rfl (fun _=>Af (o':=0) Fo rfl rfl) ?_
   have q7f:=((q3a.ext E0a).ext E1a).ext E0c
   refine dV 1 rfl (fun _ hw=>Ag Gy rfl (Bx.cell (q7f.ext hw) rfl)) S1c ?_
   refine dA 2 rfl (fun _=>Af (o':=1) BI rfl rfl) ?_
   refine dV 3 rfl (fun _ hw=>Ag Ci rfl (Bx.cell (q7f.ext hw) rfl)) S1c ?_
   refine dA 4 rfl (fun _=>Af (o':=1) BI rfl rfl) ?_
   refine dV 5 rfl (fun _ hw=>Ag Ci rfl (Bx.cell (((q2a.ext E1a).ext E0c).ext hw) rfl)) S1c ?_
   refine dcn f0j 6 rfl (by rfl) (Ac Sq (by rfl)) (OH x1.Abs x0.Abs A4 c5 A1 c2 w5 (tbx X2c hT) (n6.ext X2c) (n3.ext X2c)) fun r3c f8k w6 A8f c9f E6d n0g=>?_
   have X4c:=xtr X2c E6d
   have S9k:=S1c.trans E6d
   refine dA2 7 8 rfl rfl (fun _=>Ai rfl rfl) (fun _=>Ai rfl rfl) ?_
   rcases AC f8k with ⟨r5c,h7d,f0l⟩ | ⟨r5c,h7d,rfl⟩
   ·refine dcO 9 rfl (by kernel_rfl) (by rfl) (Ac No (by rfl)) (Ig r3c.1 r3c.2 A8f c9f w6 (tbx X4c hT) n0g (.ok r5c) h7d) ?_
    rintro _ w7 E8a ⟨A1l,c2l,rfl,n3l⟩
    refine dnrm ?_
    have X1g:=xtr X4c E8a
    have S4l:=S9k.trans E8a
    refine dcn f0l 10 rfl (by rfl) (Ac Qg (by rfl)) (Kv x1.Neg r5c A1l c2l w7 (tbx X1g hT) n3l) fun r2n f5l w8 A6l c7l E8d n8l=>?_
    have X9l:=xtr X1g E8d
    have S3n:=S4l.trans E8d
    have q2g:=((((q6c.ext E1a).ext E0c).ext E6d).ext E8a).ext E8d
    refine dkk 11 EC q2g fun w9 U3g q0m=>?_
    have X1m:=belU X9l U3g g7c
    refine Cx (by kernel_rfl) ?_
    refine h7k _ _<|wp_ret ?_
    exact Gd f5l rfl (Res.cellN rfl EO q0m rfl rfl Res.nil) (Cl X1m ⟨A6l,c7l,rfl,(n8l.upd U3g q2g (by decide))⟩)
   ·refine dcP 9 rfl (by kernel_rfl) (by rfl) (Ac No (by rfl)) (Ig r3c.1 r3c.2 A8f c9f w6 (tbx X4c hT) n0g (.error r5c) h7d) fun w7 E8a=>?_
    have X2m:=xtr X4c E8a
    exact ⟨rfl,AP X2m⟩
theorem II (x0:Ae) (x1:Ae) (bp0:Nat) (A1:OA) (c2:Nat) (bp1:Nat) (A5:OA) (c6:Nat) (w:World) (hT:TB w) (n3:RU w A1 c2 x0.Abs) (q4:Bx w bp0 25 [.bool x0.Neg,.slice A1 (sz x0.Abs) c2]) (n7:RU w A5 c6 x1.Abs) (q8:Bx w bp1 25 [.bool x1.Neg,.slice A5 (sz x1.Abs) c6]) (r:Except Int (Ae)) (hr:FJ x0 x1=some r) :
  Calls prog 279 #[.pointer (some ⟨bp0,0,none⟩),.pointer (some ⟨bp1,0,none⟩)] w (RetE 274 Lg w r):=by
 unfold FJ at hr
 go_enter func279,ntmps279
 refine ws fun h9=>Ah<|sal HT fun b3c w1 E0a g8a q5a=>?_
 refine nx h9 fun h9a=>sV2 (Ak EO rfl (q4.ext E0a) rfl) (Ak EO rfl (q8.ext E0a) rfl) ?_
 rcases AC hr with ⟨r2a,h3a,f0b⟩ | ⟨r2a,h3a,rfl⟩
 ·refine scO (Ac So (by rfl)) (NA x0 x1 A1 c2 A5 c6 w1 (tbx E0a hT) (n3.ext E0a) (n7.ext E0a) (.ok r2a) h3a) ?_
  rintro _ w2 E1a ⟨A1b,c2b,rfl,n3b⟩
  refine nrm ?_
  have X6a:=xtr E0a E1a
  refine scn f0b (Ac en_216 (by rfl)) (c_whole_own r2a A1b c2b w2 (tbx X6a hT) n3b) fun r4c f4b w3 A5b c6b E4a n7b=>?_
  have X8b:=xtr X6a E4a
  refine ss EC ((q5a.ext E1a).ext E4a) fun w4 U7a q9b=>?_
  have X0c:=belU X8b U7a g8a
  refine wh h9a<|wp_ret ?_
  have n1c:=n7b.upd U7a ((q5a.ext E1a).ext E4a) (by decide)
  exact Gd f4b rfl (Res.cellN rfl EO q9b rfl rfl Res.nil) (Cl X0c ⟨A5b,c6b,rfl,n1c⟩)
 ·refine scP (Ac So (by rfl)) (NA x0 x1 A1 c2 A5 c6 w1 (tbx E0a hT) (n3.ext E0a) (n7.ext E0a) (.error r2a) h3a) fun w2 E1a=>?_
  have X2c:=xtr E0a E1a
  exact ⟨rfl,AP X2c⟩
theorem c_whole_compute__whole_Add_1__2 (x0_0:Ae) (x0_1:Ae) (x1_0:Ae) (x1_1:Ae) (bp0_0:Nat) (A1:OA) (c2:Nat) (bp0_1:Nat) (A5:OA) (c6:Nat) (bp1:Nat) (A9:OA) (c6a:Nat) (A7a:OA) (c8a:Nat) (w:World) (hT:TB w) (n3:RU w A1 c2 x0_0.Abs) (q4:Bx w bp0_0 25 [.bool x0_0.Neg,.slice A1 (sz x0_0.Abs) c2]) (n7:RU w A5 c6 x0_1.Abs) (q8:Bx w bp0_1 25 [.bool x0_1.Neg,.slice A5 (sz x0_1.Abs) c6]) (n6b:RU w A9 c6a x1_0.Abs) (n7b:RU w A7a c8a x1_1.Abs) (q8b:Bx w bp1 25 [.bool x1_0.Neg,.slice A9 (sz x1_0.Abs) c6a,.bool x1_1.Neg,.slice A7a (sz x1_1.Abs) c8a]) (r:Ae × Int) (hr:Dk x0_0 x0_1 x1_0 x1_1=some r) :
  Calls prog 214 #[.func (.func 279) #[] #[.pointer (some ⟨bp0_0,0,none⟩),.pointer (some ⟨bp0_1,0,none⟩)],.slice (some ⟨bp1,0,none⟩) 2 2] w (Ret OE w r):=by
 unfold Dk at hr
 obtain ⟨q0,hq0,hr0⟩:=Ad hr
 unfold EE at hq0
 go_enter_defers func214,ntmps214
 refine ws fun h2c=>Ah<|sal HT fun b2e w1 E1a g3c q4c=>?_
 refine sal JN fun b5c w2 E2a g6c q9b=>?_
 have g7c:=nlt E1a.size g6c
 have X3a:=xtr E1a E2a
 refine nx h2c fun h8c=>HP (vs:=[.pointer (some ⟨b5c,0,none⟩)]) (by rfl) (by rfl)<|nx h8c fun h9c=>sV (Aa rfl) ?_
 rcases AC hq0 with ⟨r9a,h0b,f0d⟩ | ⟨r9a,h0b,rfl⟩
 ·refine scO (Ac Rm (by rfl)) (LG x1_0 x1_1 bp1 A9 c6a A7a c8a w2 (tbx X3a hT) (n6b.ext X3a) (n7b.ext X3a) ((q8b.ext E1a).ext E2a) (.ok r9a) h0b) ?_
  rintro _ w3 E0a rfl
  refine nrm ?_
  have X4a:=xtr X3a E0a
  refine nx h9c fun h1d=>sV (Aa rfl) ?_
  rcases AC f0d with ⟨r1b,h2b,f2d⟩ | ⟨r1b,h2b,rfl⟩
  ·refine scO (Ho (first:=[]) (cap:=[.pointer (some ⟨bp0_0,0,none⟩),.pointer (some ⟨bp0_1,0,none⟩)]) (args:=[]) Rn (by rfl) (by rfl)) (II x0_0 x0_1 bp0_0 A1 c2 bp0_1 A5 c6 w3 (tbx X4a hT) (n3.ext X4a) (((q4.ext E1a).ext E2a).ext E0a) (n7.ext X4a) (((q8.ext E1a).ext E2a).ext E0a) (.ok r1b) h2b) ?_
   rintro _ w4 E5a ⟨A3d,c4d,rfl,n5d⟩
   refine nrm ?_
   have X6d:=xtr X4a E5a
   have q3b:=((q4c.ext E2a).ext E0a).ext E5a
   refine ss EC q3b fun w5 U4b q7d=>?_
   have X8d:=belU X6d U4b g3c
   have ne0c:=(Bx.neT ((q9b.ext E0a).ext E5a) q3b (by decide))
   have q1c:=((q9b.ext E0a).ext E5a).upd U4b ne0c
   refine ss HU q1c fun w6 U5b q9d=>?_
   have X0e:=belU X8d U5b g7c
   refine wh h1d<|wp_ret ?_
   have n1e:=(n5d.upd U4b q3b (by decide)).upd U5b q1c (by decide)
   obtain rfl:=sj f2d
   obtain rfl:=sj hr0
   exact NU idle_whole_caught en_246 rfl (Res.cellN rfl EO (q7d.upd U5b (Ne.symm ne0c)) rfl rfl (Res.cell1 rfl CO (Bx.cell q9d rfl) Res.nil)) (AJ X0e ⟨A3d,c4d,rfl,n1e⟩)
  ·refine scP (Ho (first:=[]) (cap:=[.pointer (some ⟨bp0_0,0,none⟩),.pointer (some ⟨bp0_1,0,none⟩)]) (args:=[]) Rn (by rfl) (by rfl)) (II x0_0 x0_1 bp0_0 A1 c2 bp0_1 A5 c6 w3 (tbx X4a hT) (n3.ext X4a) (((q4.ext E1a).ext E2a).ext E0a) (n7.ext X4a) (((q8.ext E1a).ext E2a).ext E0a) (.error r1b) h2b) fun w4 E5a=>?_
   cases hr0
 ·refine scP (Ac Rm (by rfl)) (LG x1_0 x1_1 bp1 A9 c6a A7a c8a w2 (tbx X3a hT) (n6b.ext X3a) (n7b.ext X3a) ((q8b.ext E1a).ext E2a) (.error r9a) h0b) fun w3 E0a=>?_
  cases hr0
theorem KC (x0:Ae) (x1:Ae) (A1:OA) (c2:Nat) (A4:OA) (c5:Nat) (w:World) (hT:TB w) (n3:RU w A1 c2 x0.Abs) (n6:RU w A4 c5 x1.Abs) (r:Ae × Int) (hr:KB x0 x1=some r) :
  Calls prog 260 #[.agg #[.bool x0.Neg,.slice A1 (sz x0.Abs) c2],.agg #[.bool x1.Neg,.slice A4 (sz x1.Abs) c5]] w (Ret OE w r):=by
 unfold KB at hr
 go_enter func260,ntmps260
 refine ws fun h7=>Ah<|sbx rfl rfl fun b8 w1 E9 g0d q2b=>?_
 refine sbx rfl rfl fun b3a w2 E4a g3b q5a=>?_
 have g1d:=nlt E9.size g3b
 have X6a:=xtr E9 E4a
 refine sal HT fun b2d w3 E1a g4b q5b=>?_
 have g6b:=nlt X6a.size g4b
 have X7a:=xtr X6a E1a
 refine sV (Ab rfl) ?_
 have q8a:=(q2b.ext E4a).ext E1a
 refine nx h7 fun h7b=>sV3 (ME (vs:=[.pointer (some ⟨b8,0,none⟩),.pointer (some ⟨b3a,0,none⟩)]) rfl) (Ak EO rfl q8a rfl) (Ak EO rfl (q5a.ext E1a) rfl) ?_
 refine Dj (vals:=[(0,.agg #[.bool x0.Neg,.slice A1 (sz x0.Abs) c2]),(1,.agg #[.bool x1.Neg,.slice A4 (sz x1.Abs) c5])]) (cs:=[.bool x0.Neg,.slice A1 (sz x0.Abs) c2,.bool x1.Neg,.slice A4 (sz x1.Abs) c5]) ON EC HT (by rfl) (by decide) (by kernel_rfl) fun b8b w4 E2a g9b q0c=>?_
 refine nrm ?_
 have g3d:=nlt X7a.size g9b
 have X0a:=xtr X7a E2a
 have q1c:=q8a.ext E2a
 refine scn hr (Ac en_214 (by rfl)) (c_whole_compute__whole_Add_1__2 x0 x1 x0 x1 b8 A1 c2 b3a A4 c5 b8b A1 c2 A4 c5 w4 (tbx X0a hT) (n3.ext X0a) q1c (n6.ext X0a) ((q5a.ext E1a).ext E2a) (n3.ext X0a) (n6.ext X0a) q0c) fun r4d f2c w5 A3c c4c E9a n5c=>?_
 have X6c:=xtr X0a E9a
 refine sV2 (Ai rfl rfl) (Ai rfl rfl) ?_
 have q0b:=(q5b.ext E2a).ext E9a
 refine ss EC q0b fun w6 U1b q7c=>?_
 have X8c:=belU X6c U1b g6b
 refine sV (Ab rfl) ?_
 refine wh h7b<|wp_ret ?_
 have n9c:=n5c.upd U1b q0b (by decide)
 exact Gd f2c rfl (Res.cellN rfl EO q7c rfl rfl (Res.tmp rfl Res.nil)) (AJ X8c ⟨A3c,c4c,rfl,n9c⟩)
theorem c_ratio_joined (x0:Ae) (x1:Nat) (x2:Ae) (x3:Nat) (A1:OA) (c2:Nat) (A4:OA) (c5:Nat) (A7:OA) (c8:Nat) (A8e:OA) (c9e:Nat) (w:World) (hT:TB w) (n3:RU w A1 c2 x0.Abs) (n6:RU w A4 c5 x1) (n9:RU w A7 c8 x2.Abs) (n5p:RU w A8e c9e x3) (r:Ae × Bool) (hr:HM x0 x1 x2 x3=some r) :
  Calls prog 229 #[.agg #[.bool x0.Neg,.slice A1 (sz x0.Abs) c2],.slice A4 (sz x1) c5,.agg #[.bool x2.Neg,.slice A7 (sz x2.Abs) c8],.slice A8e (sz x3) c9e] w (Ret rep_25_4 w r):=by
 unfold HM at hr
 go_enter func229,ntmps229
 refine ws fun h6p=>Ah<|sbx rfl rfl fun b4k w1 E8n g3v q7p=>?_
 refine sbx rfl rfl fun b5k w2 E9n g8p q9p=>?_
 have g4v:=nlt E8n.size g8p
 have X0o:=xtr E8n E9n
 refine sal HT fun b0q w3 E6k g1q q1o=>?_
 have g2o:=nlt X0o.size g1q
 have X1f:=xtr X0o E6k
 refine sV (Ab rfl) ?_
 have q3o:=(q7p.ext E9n).ext E6k
 refine nx h6p fun h2q=>sV3 (Af (o':=1) BI rfl rfl) (Ag Ci rfl (Bx.cell q3o rfl)) (Aa rfl) ?_
 refine scn hr (Ac Qs (by rfl)) (Nl x0.Abs x1 A1 c2 A4 c5 w3 (tbx X1f hT) (n3.ext X1f) (n6.ext X1f)) fun r0b f3q w4 A3d c4d E0f n4o=>?_
 have X2f:=xtr X1f E0f
 refine sV3 (Aa rfl) (Ai rfl rfl) (Ai rfl rfl) ?_
 refine sV2 (Ab rfl) (Ab rfl) ?_
 have q5o:=(q9p.ext E6k).ext E0f
 refine nx h2q fun h4q=>sV3 (Af (o':=1) BI rfl rfl) (Ag Ci rfl (Bx.cell q5o rfl)) (Aa rfl) ?_
 refine scn f3q (Ac Qs (by rfl)) (Nl x2.Abs x3 A7 c8 A8e c9e w4 (tbx X2f hT) (n9.ext X2f) (n5p.ext X2f)) fun r8a f5q w5 A6c c7c E5d n7k=>?_
 have X6o:=xtr X2f E5d
 refine sV3 (Aa rfl) (Ai rfl rfl) (Ai rfl rfl) ?_
 refine sV2 (Ab rfl) (Ab rfl) ?_
 refine wh h4q<|ws fun h6q=>ws fun h7q=>Ah<|sV (Aa rfl) ?_
 refine sbl (Il rfl rfl) fun z3f hz3f=>?_
 refine sV (Aa rfl) ?_
 obtain ⟨m7o,h8q,f9q⟩:=Ad f5q
 refine BH 6 (fun l l' w'=>∃(t8k:Value) (t9k:Value),w5=w'∧l'=(((l.set 32 t8k).set 33 t9k).set 34 (.bool m7o))) ?_ ?_
 ·intro HJ63
  rcases zi hz3f h8q with ⟨e6d,_,f0r⟩ | ⟨e6d,_,f1r⟩
  ·refine sQ rfl e6d ?_
   refine sQ rfl e6d ?_
   refine sV (Az (evb rfl e6d) rfl) ?_
   obtain rfl:=sj f0r
   exact HJ63 _ _ ⟨uu,uu,rfl,(by kernel_rfl)⟩
  ·refine sV (Aa rfl) ?_ (hw:=wgT rfl e6d)
   refine sbl (Il rfl rfl) (fun z0l hz0l=>?_) (hw:=wgT rfl e6d)
   refine sV (AE (evb rfl e6d) rfl) ?_
   obtain rfl:z0l=decide (¬r8a.2=0):=bz hz0l
   obtain rfl:=sj f1r
   exact HJ63 _ _ ⟨(.int .i64 r8a.2),(.bool (decide (¬r8a.2=0))),rfl,(by kernel_rfl)⟩
 ·rintro _ _ ⟨t8k,t9k,rfl,rfl⟩ _ rfl
  refine wh h7q ?_
  rcases zb f9q with ⟨e1l,f2r⟩ | ⟨e1l,f3r⟩
  ·refine ct e1l<|ws fun h4r=>Ah<|sV (AL (vals:=[]) (cells:=[.bool false,.slice none 0 0]) (by rfl) (by kernel_rfl)) ?_
   refine ss EC ((q1o.ext E0f).ext E5d) fun w6 U5r q6r=>?_
   have X7r:=belU X6o U5r g2o
   refine sV (Ab rfl) ?_
   refine wh h4r<|wp_ret ?_
   exact Gd f2r rfl (Res.cellN rfl EO q6r rfl rfl (Res.tmp rfl Res.nil)) (AJ X7r ⟨none,0,rfl,(RU.nil _)⟩)
  ·refine cf e1l<|wp_skip<|h6q _ _<|ws fun h8r=>DT [13] 15 mo rfl fun w6 E3c S2l=>have X0e:=xtr X6o E3c;dA 0 rfl (fun _=>Af (o':=0) Fo rfl rfl) ?_
   refine dV 1 rfl (fun _ hw=>Ag Gy rfl (Bx.cell ((((q3o.ext E0f).ext E5d).ext E3c).ext hw) rfl)) S2l ?_
   refine dA2 2 4 rfl rfl (fun _=>Aa rfl) (fun _=>Af (o':=0) Fo rfl rfl) ?_
   refine dV 5 rfl (fun _ hw=>Ag Gy rfl (Bx.cell (((q5o.ext E5d).ext E3c).ext hw) rfl)) S2l ?_
   refine dA 6 rfl (fun _=>Aa rfl) ?_
   obtain ⟨r4c,h8o,f9r⟩:=Ad f3r
   obtain ⟨r2c,h3l,f0s⟩:=Ad f9r
   obtain ⟨r5a,h4f,f1s⟩:=Ad f0s
   refine QY (tb 15 16383) 1 (fun l' w'=>∃(A4l:OA) (c5l:Nat) (A6l:OA) (c7l:Nat) (A7d:OA) (c8d:Nat) (b5f:Nat),Ext w6 w'∧RU w' A4l c5l r4c.Abs∧RU w' A6l c7l r2c.Abs∧RU w' A7d c8d r5a.1.Abs∧w6.heap.size≤b5f∧Bx w' b5f 25 [.bool r5a.1.Neg,.slice A7d (sz r5a.1.Abs) c8d]∧l'=[.agg #[.bool x0.Neg,.slice A1 (sz x0.Abs) c2],.slice A4 (sz x1) c5,.agg #[.bool x2.Neg,.slice A7 (sz x2.Abs) c8],.slice A8e (sz x3) c9e,.pointer (some ⟨b4k,0,none⟩),uu,.pointer (some ⟨b5k,0,none⟩),uu,.pointer (some ⟨b0q,0,none⟩),.bool false,.slice A3d (sz r0b.1) c4d,.int .i64 r0b.2,.slice A6c (sz r8a.1) c7c,.int .i64 r8a.2,.pointer (some ⟨b5f,0,none⟩),.tuple #[.slice A3d (sz r0b.1) c4d,.int .i64 r0b.2],.pointer (some ⟨b4k,1,none⟩),.slice A1 (sz x0.Abs) c2,.slice A4 (sz x1) c5,.tuple #[.slice A3d (sz r0b.1) c4d,.int .i64 r0b.2],.slice A3d (sz r0b.1) c4d,.int .i64 r0b.2,.tuple #[.slice A6c (sz r8a.1) c7c,.int .i64 r8a.2],.pointer (some ⟨b5k,1,none⟩),.slice A7 (sz x2.Abs) c8,.slice A8e (sz x3) c9e,.tuple #[.slice A6c (sz r8a.1) c7c,.int .i64 r8a.2],.slice A6c (sz r8a.1) c7c,.int .i64 r8a.2,.int .i64 r0b.2,.bool z3f,.bool z3f,t8k,t9k,.bool m7o,uu,.tuple #[.agg #[.bool r5a.1.Neg,.slice A7d (sz r5a.1.Abs) c8d],.int .i64 r5a.2],.pointer (some ⟨b4k,0,none⟩),.bool x0.Neg,.slice A3d (sz r0b.1) c4d,.agg #[.bool r4c.Neg,.slice A4l (sz r4c.Abs) c5l],.pointer (some ⟨b5k,0,none⟩),.bool x2.Neg,.slice A6c (sz r8a.1) c7c,.agg #[.bool r2c.Neg,.slice A6l (sz r2c.Abs) c7l],.tuple #[.agg #[.bool r5a.1.Neg,.slice A7d (sz r5a.1.Abs) c8d],.int .i64 r5a.2],.agg #[.bool r5a.1.Neg,.slice A7d (sz r5a.1.Abs) c8d],.int .i64 r5a.2,uu,uu,uu]) ?_ ?_
   ·rintro _ w7 ⟨A4l,c5l,A6l,c7l,A7d,c8d,b5f,E8l,n5v,n6v,n2s,g3s,q4s,rfl⟩
    have g7v:=nlt X0e.size g3s
    have X5s:=xtr X0e E8l
    have S8v:=S2l.trans E8l
    refine dA 14 rfl (fun _=>Ab rfl) ?_
    refine Cx (by kernel_rfl) ?_
    refine h8r _ _<|ws fun h6s=>Ah<|sV2 (Ak EO rfl q4s rfl) (Aa rfl) ?_
    refine sbl (Cy rfl rfl) fun z9l hz9l=>?_
    have q9o:=(((q1o.ext E0f).ext E5d).ext E3c).ext E8l
    refine ss EC q9o fun w8 U0p q7s=>?_
    have X8s:=belU X5s U0p g2o
    refine sV (Ab rfl) ?_
    refine wh h6s<|wp_ret ?_
    obtain rfl:z9l=decide (r5a.2=0):=bz hz9l
    exact Gd f1s rfl (Res.cellN rfl EO q7s rfl rfl (Res.tmp rfl Res.nil)) (AJ X8s ⟨A7d,c8d,rfl,(n2s.upd U0p q9o (by decide))⟩)
   ·intro HJ110
    refine Ea 3 12 (by kernel_rfl) ?_ ?_
    ·have q1e:=tbx X0e hT
     refine opC 3 rfl (by rfl) (Ac KR (by rfl)) (DQ x0.Neg r0b.1 A3d c4d _ (tbx (Ext.refl _) q1e) (((n4o.ext E5d).ext E3c).ext (Ext.refl _)) r4c h8o) ?_
     rintro _ _ E0a ⟨A3a,c4a,rfl,n0m⟩
     refine dnrm ?_
     refine Ea 7 12 (by kernel_rfl) ?_ ?_
     ·refine opC 7 rfl (by rfl) (Ac KR (by rfl)) (DQ x2.Neg r8a.1 A6c c7c _ (tbx E0a q1e) ((n7k.ext E3c).ext E0a) r2c h3l) ?_
      rintro _ _ E2a ⟨A6a,c7a,rfl,n9a⟩
      refine dnrm ?_
      refine Ea 8 12 (by kernel_rfl) ?_ ?_
      ·have q1b:=n0m.ext E2a
       refine opC 8 rfl (by rfl) (Ac Pk (by rfl)) (KC r4c r2c A3a c4a A6a c7a _ (tbx (E0a.trans E2a) q1e) q1b n9a r5a h4f) ?_
       rintro _ _ E1a ⟨A9b,c0c,rfl,n1c⟩
       refine dnrm ?_
       refine Ea 9 12 (by kernel_rfl) ?_ ?_
       ·refine opV 9 rfl (by rfl) (Aa rfl) (dnrm ?_)
        refine Oy 10 11 12 (by kernel_rfl) ?_ ?_ ?_
        ·refine opV 10 rfl (by rfl) (Ai rfl rfl) (dnrm ?_)
         refine Ea 11 12 (by kernel_rfl) ?_ ?_
         ·refine opV 11 rfl (by rfl) (Ai rfl rfl) (dnrm ?_)
          refine Bc 12 (by kernel_rfl) ?_
          ·refine opA 12 rfl (by rfl) (AR HT) fun b9s _ E6f g1p q7f=>dnrm ?_
           refine Bc 13 (by kernel_rfl) ?_
           ·refine opK 13 rfl (by decide) (by rfl) EC rfl rfl q7f rfl rfl rfl rfl (by simp only [SP0,SP1,S0,S1,Nat.reduceAdd];rfl) fun _ U8f q0t=>?_
            exact dls (HJ110 _ _ ⟨A3a,c4a,A6a,c7a,A9b,c0c,b9s,(belU (((E0a.trans E2a).trans E1a).trans E6f) U8f (nlt ((E0a.trans E2a).trans E1a).size g1p)),(((q1b.ext E1a).ext E6f).upd U8f q7f (by decide)),(((n9a.ext E1a).ext E6f).upd U8f q7f (by decide)),((n1c.ext E6f).upd U8f q7f (by decide)),(nlt ((E0a.trans E2a).trans E1a).size g1p),q0t,rfl⟩)
         ·refine opA 12 rfl (by rfl) (AR HT) fun b2p _ E8c g9f q9c=>dnrm ?_
          refine Ea 11 13 (by kernel_rfl) ?_ ?_
          ·refine opV 11 rfl (by rfl) (Ai rfl rfl) (dnrm ?_)
           refine Bc 13 (by kernel_rfl) ?_
           ·refine opK 13 rfl (by decide) (by rfl) EC rfl rfl q9c rfl rfl rfl rfl (by simp only [SP0,SP1,S0,S1,Nat.reduceAdd];rfl) fun _ U0g q1t=>?_
            exact dls (HJ110 _ _ ⟨A3a,c4a,A6a,c7a,A9b,c0c,b2p,(belU (((E0a.trans E2a).trans E1a).trans E8c) U0g (nlt ((E0a.trans E2a).trans E1a).size g9f)),(((q1b.ext E1a).ext E8c).upd U0g q9c (by decide)),(((n9a.ext E1a).ext E8c).upd U0g q9c (by decide)),((n1c.ext E8c).upd U0g q9c (by decide)),(nlt ((E0a.trans E2a).trans E1a).size g9f),q1t,rfl⟩)
          ·refine opK 13 rfl (by decide) (by rfl) EC rfl rfl q9c rfl rfl rfl rfl (by simp only [SP0,SP1,S0,S1,Nat.reduceAdd];rfl) fun _ U1g q2t=>?_
           refine Bc 11 (by kernel_rfl) ?_
           ·refine opV 11 rfl (by rfl) (Ai rfl rfl) (dnrm ?_)
            exact dls (HJ110 _ _ ⟨A3a,c4a,A6a,c7a,A9b,c0c,b2p,(belU (((E0a.trans E2a).trans E1a).trans E8c) U1g (nlt ((E0a.trans E2a).trans E1a).size g9f)),(((q1b.ext E1a).ext E8c).upd U1g q9c (by decide)),(((n9a.ext E1a).ext E8c).upd U1g q9c (by decide)),((n1c.ext E8c).upd U1g q9c (by decide)),(nlt ((E0a.trans E2a).trans E1a).size g9f),q2t,rfl⟩)
        ·refine opV 11 rfl (by rfl) (Ai rfl rfl) (dnrm ?_)
         refine Ea 10 12 (by kernel_rfl) ?_ ?_
         ·refine opV 10 rfl (by rfl) (Ai rfl rfl) (dnrm ?_)
          refine Bc 12 (by kernel_rfl) ?_
          ·refine opA 12 rfl (by rfl) (AR HT) fun b3t _ E2g g3p q3g=>dnrm ?_
           refine Bc 13 (by kernel_rfl) ?_
           ·refine opK 13 rfl (by decide) (by rfl) EC rfl rfl q3g rfl rfl rfl rfl (by simp only [SP0,SP1,S0,S1,Nat.reduceAdd];rfl) fun _ U4g q4t=>?_
            exact dls (HJ110 _ _ ⟨A3a,c4a,A6a,c7a,A9b,c0c,b3t,(belU (((E0a.trans E2a).trans E1a).trans E2g) U4g (nlt ((E0a.trans E2a).trans E1a).size g3p)),(((q1b.ext E1a).ext E2g).upd U4g q3g (by decide)),(((n9a.ext E1a).ext E2g).upd U4g q3g (by decide)),((n1c.ext E2g).upd U4g q3g (by decide)),(nlt ((E0a.trans E2a).trans E1a).size g3p),q4t,rfl⟩)
         ·refine opA 12 rfl (by rfl) (AR HT) fun b5t _ E5g g4p q6g=>dnrm ?_
          refine Bc 10 (by kernel_rfl) ?_
          ·refine opV 10 rfl (by rfl) (Ai rfl rfl) (dnrm ?_)
           refine Bc 13 (by kernel_rfl) ?_
           ·refine opK 13 rfl (by decide) (by rfl) EC rfl rfl q6g rfl rfl rfl rfl (by simp only [SP0,SP1,S0,S1,Nat.reduceAdd];rfl) fun _ U7g q6t=>?_
            exact dls (HJ110 _ _ ⟨A3a,c4a,A6a,c7a,A9b,c0c,b5t,(belU (((E0a.trans E2a).trans E1a).trans E5g) U7g (nlt ((E0a.trans E2a).trans E1a).size g4p)),(((q1b.ext E1a).ext E5g).upd U7g q6g (by decide)),(((n9a.ext E1a).ext E5g).upd U7g q6g (by decide)),((n1c.ext E5g).upd U7g q6g (by decide)),(nlt ((E0a.trans E2a).trans E1a).size g4p),q6t,rfl⟩)
        ·refine opA 12 rfl (by rfl) (AR HT) fun b1m _ E2b g2e q3b=>dnrm ?_
         refine Ea 10 11 (by kernel_rfl) ?_ ?_
         ·refine opV 10 rfl (by rfl) (Ai rfl rfl) (dnrm ?_)
          refine Ea 11 13 (by kernel_rfl) ?_ ?_
          ·refine opV 11 rfl (by rfl) (Ai rfl rfl) (dnrm ?_)
           refine Bc 13 (by kernel_rfl) ?_
           ·refine opK 13 rfl (by decide) (by rfl) EC rfl rfl q3b rfl rfl rfl rfl (by simp only [SP0,SP1,S0,S1,Nat.reduceAdd];rfl) fun _ U8g q7t=>?_
            exact dls (HJ110 _ _ ⟨A3a,c4a,A6a,c7a,A9b,c0c,b1m,(belU (((E0a.trans E2a).trans E1a).trans E2b) U8g (nlt ((E0a.trans E2a).trans E1a).size g2e)),(((q1b.ext E1a).ext E2b).upd U8g q3b (by decide)),(((n9a.ext E1a).ext E2b).upd U8g q3b (by decide)),((n1c.ext E2b).upd U8g q3b (by decide)),(nlt ((E0a.trans E2a).trans E1a).size g2e),q7t,rfl⟩)
          ·refine opK 13 rfl (by decide) (by rfl) EC rfl rfl q3b rfl rfl rfl rfl (by simp only [SP0,SP1,S0,S1,Nat.reduceAdd];rfl) fun _ U9g q8t=>?_
           refine Bc 11 (by kernel_rfl) ?_
           ·refine opV 11 rfl (by rfl) (Ai rfl rfl) (dnrm ?_)
            exact dls (HJ110 _ _ ⟨A3a,c4a,A6a,c7a,A9b,c0c,b1m,(belU (((E0a.trans E2a).trans E1a).trans E2b) U9g (nlt ((E0a.trans E2a).trans E1a).size g2e)),(((q1b.ext E1a).ext E2b).upd U9g q3b (by decide)),(((n9a.ext E1a).ext E2b).upd U9g q3b (by decide)),((n1c.ext E2b).upd U9g q3b (by decide)),(nlt ((E0a.trans E2a).trans E1a).size g2e),q8t,rfl⟩)
         ·refine opV 11 rfl (by rfl) (Ai rfl rfl) (dnrm ?_)
          refine Bc 10 (by kernel_rfl) ?_
          ·refine opV 10 rfl (by rfl) (Ai rfl rfl) (dnrm ?_)
           refine Bc 13 (by kernel_rfl) ?_
           ·refine opK 13 rfl (by decide) (by rfl) EC rfl rfl q3b rfl rfl rfl rfl (by simp only [SP0,SP1,S0,S1,Nat.reduceAdd];rfl) fun _ U0h q9t=>?_
            exact dls (HJ110 _ _ ⟨A3a,c4a,A6a,c7a,A9b,c0c,b1m,(belU (((E0a.trans E2a).trans E1a).trans E2b) U0h (nlt ((E0a.trans E2a).trans E1a).size g2e)),(((q1b.ext E1a).ext E2b).upd U0h q3b (by decide)),(((n9a.ext E1a).ext E2b).upd U0h q3b (by decide)),((n1c.ext E2b).upd U0h q3b (by decide)),(nlt ((E0a.trans E2a).trans E1a).size g2e),q9t,rfl⟩)
       ·refine opA 12 rfl (by rfl) (AR HT) fun b2m _ E4b g3e q5b=>dnrm ?_
        refine Bc 9 (by kernel_rfl) ?_
        ·refine opV 9 rfl (by rfl) (Aa rfl) (dnrm ?_)
         refine Ea 10 11 (by kernel_rfl) ?_ ?_
         ·refine opV 10 rfl (by rfl) (Ai rfl rfl) (dnrm ?_)
          refine Ea 11 13 (by kernel_rfl) ?_ ?_
          ·refine opV 11 rfl (by rfl) (Ai rfl rfl) (dnrm ?_)
           refine Bc 13 (by kernel_rfl) ?_
           ·refine opK 13 rfl (by decide) (by rfl) EC rfl rfl q5b rfl rfl rfl rfl (by simp only [SP0,SP1,S0,S1,Nat.reduceAdd];rfl) fun _ U1h q0u=>?_
            exact dls (HJ110 _ _ ⟨A3a,c4a,A6a,c7a,A9b,c0c,b2m,(belU (((E0a.trans E2a).trans E1a).trans E4b) U1h (nlt ((E0a.trans E2a).trans E1a).size g3e)),(((q1b.ext E1a).ext E4b).upd U1h q5b (by decide)),(((n9a.ext E1a).ext E4b).upd U1h q5b (by decide)),((n1c.ext E4b).upd U1h q5b (by decide)),(nlt ((E0a.trans E2a).trans E1a).size g3e),q0u,rfl⟩)
          ·refine opK 13 rfl (by decide) (by rfl) EC rfl rfl q5b rfl rfl rfl rfl (by simp only [SP0,SP1,S0,S1,Nat.reduceAdd];rfl) fun _ U2h q1u=>?_
           refine Bc 11 (by kernel_rfl) ?_
           ·refine opV 11 rfl (by rfl) (Ai rfl rfl) (dnrm ?_)
            exact dls (HJ110 _ _ ⟨A3a,c4a,A6a,c7a,A9b,c0c,b2m,(belU (((E0a.trans E2a).trans E1a).trans E4b) U2h (nlt ((E0a.trans E2a).trans E1a).size g3e)),(((q1b.ext E1a).ext E4b).upd U2h q5b (by decide)),(((n9a.ext E1a).ext E4b).upd U2h q5b (by decide)),((n1c.ext E4b).upd U2h q5b (by decide)),(nlt ((E0a.trans E2a).trans E1a).size g3e),q1u,rfl⟩)
         ·refine opV 11 rfl (by rfl) (Ai rfl rfl) (dnrm ?_)
          refine Bc 10 (by kernel_rfl) ?_
          ·refine opV 10 rfl (by rfl) (Ai rfl rfl) (dnrm ?_)
           refine Bc 13 (by kernel_rfl) ?_
           ·refine opK 13 rfl (by decide) (by rfl) EC rfl rfl q5b rfl rfl rfl rfl (by simp only [SP0,SP1,S0,S1,Nat.reduceAdd];rfl) fun _ U3h q2u=>?_
            exact dls (HJ110 _ _ ⟨A3a,c4a,A6a,c7a,A9b,c0c,b2m,(belU (((E0a.trans E2a).trans E1a).trans E4b) U3h (nlt ((E0a.trans E2a).trans E1a).size g3e)),(((q1b.ext E1a).ext E4b).upd U3h q5b (by decide)),(((n9a.ext E1a).ext E4b).upd U3h q5b (by decide)),((n1c.ext E4b).upd U3h q5b (by decide)),(nlt ((E0a.trans E2a).trans E1a).size g3e),q2u,rfl⟩)
      ·refine opA 12 rfl (by rfl) (AR HT) fun b3m _ E4e g5e q4m=>dnrm ?_
       refine Bc 8 (by kernel_rfl) ?_
       ·have q4h:=(n0m.ext E2a).ext E4e
        have q5h:=n9a.ext E4e
        refine opC 8 rfl (by rfl) (Ac Pk (by rfl)) (KC r4c r2c A3a c4a A6a c7a _ (tbx ((E0a.trans E2a).trans E4e) q1e) q4h q5h r5a h4f) ?_
        rintro _ _ E6b ⟨A5m,c6m,rfl,n7m⟩
        refine dnrm ?_
        refine Bc 9 (by kernel_rfl) ?_
        ·refine opV 9 rfl (by rfl) (Aa rfl) (dnrm ?_)
         refine Ea 10 11 (by kernel_rfl) ?_ ?_
         ·refine opV 10 rfl (by rfl) (Ai rfl rfl) (dnrm ?_)
          refine Ea 11 13 (by kernel_rfl) ?_ ?_
          ·refine opV 11 rfl (by rfl) (Ai rfl rfl) (dnrm ?_)
           refine Bc 13 (by kernel_rfl) ?_
           ·have q6h:=q4m.ext E6b
            refine opK 13 rfl (by decide) (by rfl) EC rfl rfl q6h rfl rfl rfl rfl (by simp only [SP0,SP1,S0,S1,Nat.reduceAdd];rfl) fun _ U7h q3u=>?_
            exact dls (HJ110 _ _ ⟨A3a,c4a,A6a,c7a,A5m,c6m,b3m,(belU (((E0a.trans E2a).trans E4e).trans E6b) U7h (nlt (E0a.trans E2a).size g5e)),((q4h.ext E6b).upd U7h q6h (by decide)),((q5h.ext E6b).upd U7h q6h (by decide)),(n7m.upd U7h q6h (by decide)),(nlt (E0a.trans E2a).size g5e),q3u,rfl⟩)
          ·have q8h:=q4m.ext E6b
           refine opK 13 rfl (by decide) (by rfl) EC rfl rfl q8h rfl rfl rfl rfl (by simp only [SP0,SP1,S0,S1,Nat.reduceAdd];rfl) fun _ U9h q4u=>?_
           refine Bc 11 (by kernel_rfl) ?_
           ·refine opV 11 rfl (by rfl) (Ai rfl rfl) (dnrm ?_)
            exact dls (HJ110 _ _ ⟨A3a,c4a,A6a,c7a,A5m,c6m,b3m,(belU (((E0a.trans E2a).trans E4e).trans E6b) U9h (nlt (E0a.trans E2a).size g5e)),((q4h.ext E6b).upd U9h q8h (by decide)),((q5h.ext E6b).upd U9h q8h (by decide)),(n7m.upd U9h q8h (by decide)),(nlt (E0a.trans E2a).size g5e),q4u,rfl⟩)
         ·refine opV 11 rfl (by rfl) (Ai rfl rfl) (dnrm ?_)
          refine Bc 10 (by kernel_rfl) ?_
          ·refine opV 10 rfl (by rfl) (Ai rfl rfl) (dnrm ?_)
           refine Bc 13 (by kernel_rfl) ?_
           ·have q0i:=q4m.ext E6b
            refine opK 13 rfl (by decide) (by rfl) EC rfl rfl q0i rfl rfl rfl rfl (by simp only [SP0,SP1,S0,S1,Nat.reduceAdd];rfl) fun _ U1i q5u=>?_
            exact dls (HJ110 _ _ ⟨A3a,c4a,A6a,c7a,A5m,c6m,b3m,(belU (((E0a.trans E2a).trans E4e).trans E6b) U1i (nlt (E0a.trans E2a).size g5e)),((q4h.ext E6b).upd U1i q0i (by decide)),((q5h.ext E6b).upd U1i q0i (by decide)),(n7m.upd U1i q0i (by decide)),(nlt (E0a.trans E2a).size g5e),q5u,rfl⟩)
     ·refine opA 12 rfl (by rfl) (AR HT) fun b8m _ E9d g6e q9m=>dnrm ?_
      refine Bc 7 (by kernel_rfl) ?_
      ·refine opC 7 rfl (by rfl) (Ac KR (by rfl)) (DQ x2.Neg r8a.1 A6c c7c _ (tbx (E0a.trans E9d) q1e) ((n7k.ext E3c).ext (E0a.trans E9d)) r2c h3l) ?_
       rintro _ _ E0d ⟨A2i,c3i,rfl,n4i⟩
       refine dnrm ?_
       refine Bc 8 (by kernel_rfl) ?_
       ·have q5i:=(n0m.ext E9d).ext E0d
        refine opC 8 rfl (by rfl) (Ac Pk (by rfl)) (KC r4c r2c A3a c4a A2i c3i _ (tbx ((E0a.trans E9d).trans E0d) q1e) q5i n4i r5a h4f) ?_
        rintro _ _ E7b ⟨A0n,c1n,rfl,n2n⟩
        refine dnrm ?_
        refine Bc 9 (by kernel_rfl) ?_
        ·refine opV 9 rfl (by rfl) (Aa rfl) (dnrm ?_)
         refine Ea 10 11 (by kernel_rfl) ?_ ?_
         ·refine opV 10 rfl (by rfl) (Ai rfl rfl) (dnrm ?_)
          refine Ea 11 13 (by kernel_rfl) ?_ ?_
          ·refine opV 11 rfl (by rfl) (Ai rfl rfl) (dnrm ?_)
           refine Bc 13 (by kernel_rfl) ?_
           ·have q6i:=(q9m.ext E0d).ext E7b
            refine opK 13 rfl (by decide) (by rfl) EC rfl rfl q6i rfl rfl rfl rfl (by simp only [SP0,SP1,S0,S1,Nat.reduceAdd];rfl) fun _ U7i q6u=>?_
            exact dls (HJ110 _ _ ⟨A3a,c4a,A2i,c3i,A0n,c1n,b8m,(belU (((E0a.trans E9d).trans E0d).trans E7b) U7i (nlt E0a.size g6e)),((q5i.ext E7b).upd U7i q6i (by decide)),((n4i.ext E7b).upd U7i q6i (by decide)),(n2n.upd U7i q6i (by decide)),(nlt E0a.size g6e),q6u,rfl⟩)
          ·have q8i:=(q9m.ext E0d).ext E7b
           refine opK 13 rfl (by decide) (by rfl) EC rfl rfl q8i rfl rfl rfl rfl (by simp only [SP0,SP1,S0,S1,Nat.reduceAdd];rfl) fun _ U9i q7u=>?_
           refine Bc 11 (by kernel_rfl) ?_
           ·refine opV 11 rfl (by rfl) (Ai rfl rfl) (dnrm ?_)
            exact dls (HJ110 _ _ ⟨A3a,c4a,A2i,c3i,A0n,c1n,b8m,(belU (((E0a.trans E9d).trans E0d).trans E7b) U9i (nlt E0a.size g6e)),((q5i.ext E7b).upd U9i q8i (by decide)),((n4i.ext E7b).upd U9i q8i (by decide)),(n2n.upd U9i q8i (by decide)),(nlt E0a.size g6e),q7u,rfl⟩)
         ·refine opV 11 rfl (by rfl) (Ai rfl rfl) (dnrm ?_)
          refine Bc 10 (by kernel_rfl) ?_
          ·refine opV 10 rfl (by rfl) (Ai rfl rfl) (dnrm ?_)
           refine Bc 13 (by kernel_rfl) ?_
           ·have q0j:=(q9m.ext E0d).ext E7b
            refine opK 13 rfl (by decide) (by rfl) EC rfl rfl q0j rfl rfl rfl rfl (by simp only [SP0,SP1,S0,S1,Nat.reduceAdd];rfl) fun _ U1j q8u=>?_
            exact dls (HJ110 _ _ ⟨A3a,c4a,A2i,c3i,A0n,c1n,b8m,(belU (((E0a.trans E9d).trans E0d).trans E7b) U1j (nlt E0a.size g6e)),((q5i.ext E7b).upd U1j q0j (by decide)),((n4i.ext E7b).upd U1j q0j (by decide)),(n2n.upd U1j q0j (by decide)),(nlt E0a.size g6e),q8u,rfl⟩)
    ·refine opA 12 rfl (by rfl) (AR HT) fun b3n _ E1d g7e q4n=>dnrm ?_
     refine Bc 3 (by kernel_rfl) ?_
     ·refine opC 3 rfl (by rfl) (Ac KR (by rfl)) (DQ x0.Neg r0b.1 A3d c4d _ (tbx E1d (tbx X0e hT)) (((n4o.ext E5d).ext E3c).ext E1d) r4c h8o) ?_
      rintro _ _ E5c ⟨A2j,c3j,rfl,n9u⟩
      refine dnrm ?_
      refine Bc 7 (by kernel_rfl) ?_
      ·refine opC 7 rfl (by rfl) (Ac KR (by rfl)) (DQ x2.Neg r8a.1 A6c c7c _ (tbx (E1d.trans E5c) (tbx X0e hT)) ((n7k.ext E3c).ext (E1d.trans E5c)) r2c h3l) ?_
       rintro _ _ E2d ⟨A4j,c5j,rfl,n6j⟩
       refine dnrm ?_
       refine Bc 8 (by kernel_rfl) ?_
       ·have q7j:=n9u.ext E2d
        refine opC 8 rfl (by rfl) (Ac Pk (by rfl)) (KC r4c r2c A2j c3j A4j c5j _ (tbx ((E1d.trans E5c).trans E2d) (tbx X0e hT)) q7j n6j r5a h4f) ?_
        rintro _ _ E8b ⟨A5n,c6n,rfl,n7n⟩
        refine dnrm ?_
        refine Bc 9 (by kernel_rfl) ?_
        ·refine opV 9 rfl (by rfl) (Aa rfl) (dnrm ?_)
         refine Ea 10 11 (by kernel_rfl) ?_ ?_
         ·refine opV 10 rfl (by rfl) (Ai rfl rfl) (dnrm ?_)
          refine Ea 11 13 (by kernel_rfl) ?_ ?_
          ·refine opV 11 rfl (by rfl) (Ai rfl rfl) (dnrm ?_)
           refine Bc 13 (by kernel_rfl) ?_
           ·have q8j:=((q4n.ext E5c).ext E2d).ext E8b
            refine opK 13 rfl (by decide) (by rfl) EC rfl rfl q8j rfl rfl rfl rfl (by simp only [SP0,SP1,S0,S1,Nat.reduceAdd];rfl) fun _ U9j q0v=>?_
            exact dls (HJ110 _ _ ⟨A2j,c3j,A4j,c5j,A5n,c6n,b3n,(belU (((E1d.trans E5c).trans E2d).trans E8b) U9j g7e),((q7j.ext E8b).upd U9j q8j (by decide)),((n6j.ext E8b).upd U9j q8j (by decide)),(n7n.upd U9j q8j (by decide)),g7e,q0v,rfl⟩)
          ·have q0k:=((q4n.ext E5c).ext E2d).ext E8b
           refine opK 13 rfl (by decide) (by rfl) EC rfl rfl q0k rfl rfl rfl rfl (by simp only [SP0,SP1,S0,S1,Nat.reduceAdd];rfl) fun _ U1k q1v=>?_
           refine Bc 11 (by kernel_rfl) ?_
           ·refine opV 11 rfl (by rfl) (Ai rfl rfl) (dnrm ?_)
            exact dls (HJ110 _ _ ⟨A2j,c3j,A4j,c5j,A5n,c6n,b3n,(belU (((E1d.trans E5c).trans E2d).trans E8b) U1k g7e),((q7j.ext E8b).upd U1k q0k (by decide)),((n6j.ext E8b).upd U1k q0k (by decide)),(n7n.upd U1k q0k (by decide)),g7e,q1v,rfl⟩)
         ·refine opV 11 rfl (by rfl) (Ai rfl rfl) (dnrm ?_)
          refine Bc 10 (by kernel_rfl) ?_
          ·refine opV 10 rfl (by rfl) (Ai rfl rfl) (dnrm ?_)
           refine Bc 13 (by kernel_rfl) ?_
           ·have q2k:=((q4n.ext E5c).ext E2d).ext E8b
            refine opK 13 rfl (by decide) (by rfl) EC rfl rfl q2k rfl rfl rfl rfl (by simp only [SP0,SP1,S0,S1,Nat.reduceAdd];rfl) fun _ U3k q2v=>?_
            exact dls (HJ110 _ _ ⟨A2j,c3j,A4j,c5j,A5n,c6n,b3n,(belU (((E1d.trans E5c).trans E2d).trans E8b) U3k g7e),((q7j.ext E8b).upd U3k q2k (by decide)),((n6j.ext E8b).upd U3k q2k (by decide)),(n7n.upd U3k q2k (by decide)),g7e,q2v,rfl⟩)
theorem FW (x0:Nat) (x1:Nat) (A1:OA) (c2:Nat) (A4:OA) (c5:Nat) (w:World) (hT:TB w) (n3:RU w A1 c2 x0) (n6:RU w A4 c5 x1) (r:Except Int (Nat)) (hr:FY x0 x1=some r) :
  Calls prog 231 #[.slice A1 (sz x0) c2,.slice A4 (sz x1) c5] w (RetE 232 Nw w r):=by
 unfold FY at hr
 go_enter func231,ntmps231
 refine ws fun h7=>Ah<|sV (Ab rfl) ?_
 refine nx h7 fun h8=>sV2 (Aa rfl) (Aa rfl) ?_
 refine scn hr (Ac Qs (by rfl)) (Nl x0 x1 A1 c2 A4 c5 w hT n3 n6) fun r9 f4a w1 A5a c6a E0a n7a=>?_
 refine sV3 (Aa rfl) (Ai rfl rfl) (Ai rfl rfl) ?_
 refine sV2 (Ab rfl) (Ab rfl) ?_
 refine nx h8 fun h8a=>sV (Aa rfl) ?_
 rcases AC f4a with ⟨r2a,h3a,f9a⟩ | ⟨r2a,h3a,rfl⟩
 ·refine scO (Ac KL (by rfl)) (Fl r9.2 w1 (tbx E0a hT)  (.ok r2a) h3a) ?_
  rintro _ w2 E1a rfl
  refine nrm ?_
  have X0b:=xtr E0a E1a
  refine nx h8a fun h1b=>sV2 (Aa rfl) (Ab rfl) ?_
  refine wh h1b<|wp_ret ?_
  exact Gd f9a rfl (Res.tmp rfl Res.nil) (Cl X0b ⟨A5a,c6a,rfl,(n7a.ext E1a)⟩)
 ·refine scP (Ac KL (by rfl)) (Fl r9.2 w1 (tbx E0a hT)  (.error r2a) h3a) fun w2 E1a=>?_
  have X2b:=xtr E0a E1a
  exact ⟨rfl,AP X2b⟩
theorem KG (x0:Ap) (x1:Ap) (A1:OA) (c2:Nat) (A4:OA) (c5:Nat) (A7:OA) (c8:Nat) (A9a:OA) (c6a:Nat) (w:World) (hT:TB w) (n3:RU w A1 c2 x0.Num.Abs) (n6:RU w A4 c5 x0.Den) (n9:RU w A7 c8 x1.Num.Abs) (n0b:RU w A9a c6a x1.Den) (r:Except Int (Ap)) (hr:IJ x0 x1=some r) :
  Calls prog 171 #[.agg #[.bool x0.Num.Neg,.slice A1 (sz x0.Num.Abs) c2,.slice A4 (sz x0.Den) c5],.agg #[.bool x1.Num.Neg,.slice A7 (sz x1.Num.Abs) c8,.slice A9a (sz x1.Den) c6a]] w (RetE 232 Oc w r):=by
 unfold IJ at hr
 go_enter func171,ntmps171
 refine ws fun h1c=>Ah<|sbx rfl rfl fun b7e w1 E2c g0d q8e=>?_
 refine sbx rfl rfl fun b7j w2 E2h g8j q3h=>?_
 have g8o:=nlt E2c.size g8j
 have X4h:=xtr E2c E2h
 refine sal HK fun b9o w3 E1d g9j q0k=>?_
 have g1k:=nlt X4h.size g9j
 have X2d:=xtr X4h E1d
 have q5h:=(q8e.ext E2h).ext E1d
 refine nx h1c fun h2k=>sV3 (Af (o':=2) GT rfl rfl) (Ag Ci rfl (Bx.cell q5h rfl)) (Af (o':=2) GT rfl rfl) ?_
 refine sV (Ag Ci rfl (Bx.cell (q3h.ext E1d) rfl)) ?_
 refine scn hr (Ac Pu (by rfl)) (Mq x0.Den x1.Den A4 c5 A9a c6a w3 (tbx X2d hT) (n6.ext X2d) (n0b.ext X2d)) fun r3a f3k w4 A1b c2b E3d n3c=>?_
 have X4d:=xtr X2d E3d
 refine sV3 (Aa rfl) (Ai rfl rfl) (Ai rfl rfl) ?_
 refine sV2 (Ab rfl) (Ab rfl) ?_
 refine nx h2k fun h4k=>sV (Aa rfl) ?_
 rcases AC f3k with ⟨r9e,h0f,f5k⟩ | ⟨r9e,h0f,rfl⟩
 ·refine scO (Ac KL (by rfl)) (Fl r3a.2 w4 (tbx X4d hT)  (.ok r9e) h0f) ?_
  rintro _ w5 E1a rfl
  refine nrm ?_
  have X5b:=xtr X4d E1a
  refine nx h4k fun h6k=>sV (Af (o':=2) GT rfl rfl) ?_
  have q6h:=(q5h.ext E3d).ext E1a
  refine sV2 (Ag Ci rfl (Bx.cell q6h rfl)) (Aa rfl) ?_
  rcases AC f5k with ⟨r6b,h1f,f7k⟩ | ⟨r6b,h1f,rfl⟩
  ·refine scO (Ac JZ (by rfl)) (Cq x0.Den r3a.1 A4 c5 A1b c2b w5 (tbx X5b hT) (n6.ext X5b) (n3c.ext E1a) (.ok r6b) h1f) ?_
   rintro _ w6 E4a ⟨A2f,c3f,A0p,c1p,rfl,n7h,n2p⟩
   refine nrm ?_
   have X7b:=xtr X5b E4a
   refine sV3 (Aa rfl) (Ai rfl rfl) (Ai rfl rfl) ?_
   refine sV2 (Ab rfl) (Ab rfl) ?_
   refine nx h6k fun h8k=>sV (Af (o':=2) GT rfl rfl) ?_
   have q8h:=(((q3h.ext E1d).ext E3d).ext E1a).ext E4a
   refine sV2 (Ag Ci rfl (Bx.cell q8h rfl)) (Aa rfl) ?_
   rcases AC f7k with ⟨r8b,h4f,f64⟩ | ⟨r8b,h4f,rfl⟩
   ·refine scO (Ac JZ (by rfl)) (Cq x1.Den r3a.1 A9a c6a A1b c2b w6 (tbx X7b hT) (n0b.ext X7b) ((n3c.ext E1a).ext E4a) (.ok r8b) h4f) ?_
    rintro _ w7 E5a ⟨A5f,c6f,A3p,c4p,rfl,n9h,n5p⟩
    refine nrm ?_
    have X5d:=xtr X7b E5a
    refine sV3 (Aa rfl) (Ai rfl rfl) (Ai rfl rfl) ?_
    refine sV2 (Ab rfl) (Ab rfl) ?_
    refine nx h8k fun h9k=>sV2 (Af (o':=0) Gv rfl rfl) (dld EO ((q6h.ext E4a).ext E5a)) ?_
    refine sV3 (Aa rfl) (Af (o':=0) Gv rfl rfl) (dld EO (q8h.ext E5a)) ?_
    refine sV (Aa rfl) ?_
    refine scn f64 (Ac en_229 (by rfl)) (c_ratio_joined x0.Num r8b.1 x1.Num r6b.1 A1 c2 A5f c6f A7 c8 A2f c3f w7 (tbx X5d hT) (n3.ext X5d) n9h (n9.ext X5d) (n7h.ext E5a)) fun r4c f0i w8 A7f c8f E5c n1i=>?_
    have X2i:=xtr X5d E5c
    refine sV3 (Aa rfl) (Ai rfl rfl) (Ai rfl rfl) ?_
    refine sal HT fun b6p w9 E0l g3i q1l=>?_
    have g7p:=nlt X2i.size g3i
    refine ss EC q1l fun w9a U2l q9f=>?_
    have F3b:=belU E0l U2l g3i
    have X4i:=xtr X2i F3b
    refine sV (Ab rfl) ?_
    refine wh h9k<|ws fun h8p=>ws fun h3l=>Ah<|sV (Aa rfl) ?_
    refine wh h3l ?_
    rcases bft r4c.2 with e6d | e6d
    ·have p4l:=e6d
     have f5l:=ifP p4l f0i
     refine ct e6d<|ws fun h6l=>Ah<|sV3 (Af (o':=1) BI rfl rfl) (Ag Ci rfl (Bx.cell q9f rfl)) (Aa rfl) ?_
     have n5i:=((((n3c.ext E1a).ext E4a).ext E5a).ext E5c).ext F3b
     refine scn f5l (Ac Pu (by rfl)) (Mq r4c.1.Abs r3a.1 A7f c8f A1b c2b w9a (tbx X4i hT) (n1i.ext F3b) n5i) fun r9b f7l w6a A7d c8d E7a n9d=>?_
     have X0e:=xtr X4i E7a
     refine sV3 (Aa rfl) (Ai rfl rfl) (Ai rfl rfl) ?_
     refine sV2 (Ab rfl) (Ab rfl) ?_
     refine nx h6l fun h8l=>sV (Aa rfl) ?_
     rcases AC f7l with ⟨r0g,h1g,f9l⟩ | ⟨r0g,h1g,rfl⟩
     ·refine scO (Ac KL (by rfl)) (Fl r9b.2 w6a (tbx X0e hT)  (.ok r0g) h1g) ?_
      rintro _ w0b E0a rfl
      refine nrm ?_
      have X1e:=xtr X0e E0a
      refine nx h8l fun h0m=>sV3 (Af (o':=1) BI rfl rfl) (Ag Ci rfl (Bx.cell ((q9f.ext E7a).ext E0a) rfl)) (Aa rfl) ?_
      have n6i:=((n1i.ext F3b).ext E7a).ext E0a
      rcases AC f9l with ⟨r2e,h2g,f1m⟩ | ⟨r2e,h2g,rfl⟩
      ·refine scO (Ac JZ (by rfl)) (Cq r4c.1.Abs r9b.1 A7f c8f A7d c8d w0b (tbx X1e hT) n6i (n9d.ext E0a) (.ok r2e) h2g) ?_
       rintro _ w1c E2a ⟨A2m,c3m,A9p,c0q,rfl,n4m,n1q⟩
       refine nrm ?_
       have X3e:=xtr X1e E2a
       refine sV3 (Aa rfl) (Ai rfl rfl) (Ai rfl rfl) ?_
       refine sV2 (Ab rfl) (Ab rfl) ?_
       refine nx h0m fun h5m=>sV2 (Aa rfl) (Aa rfl) ?_
       have n7i:=((n5i.ext E7a).ext E0a).ext E2a
       rcases AC f1m with ⟨r6c,h3g,f6m⟩ | ⟨r6c,h3g,rfl⟩
       ·refine scO (Ac JZ (by rfl)) (Cq r3a.1 r9b.1 A1b c2b A7d c8d w1c (tbx X3e hT) n7i ((n9d.ext E0a).ext E2a) (.ok r6c) h3g) ?_
        rintro _ w7e E8a ⟨A8i,c9i,A2q,c3q,rfl,n0j,n4q⟩
        refine nrm ?_
        have X1j:=xtr X3e E8a
        refine sV3 (Aa rfl) (Ai rfl rfl) (Ai rfl rfl) ?_
        refine sV2 (Ab rfl) (Ab rfl) ?_
        refine nx h5m fun h7m=>sV (Af (o':=0) Fo rfl rfl) ?_
        have q8m:=(((q9f.ext E7a).ext E0a).ext E2a).ext E8a
        refine sV2 (Ag Gy rfl (Bx.cell q8m rfl)) (Aa rfl) ?_
        refine scn f6m (Ac KR (by rfl)) (DQ r4c.1.Neg r2e.1 A2m c3m w7e (tbx X1j hT) (n4m.ext E8a)) fun r4e f9m w2c A4g c5g E0c n0n=>?_
        have X5e:=xtr X1j E0c
        refine sV2 (Aa rfl) (Aa rfl) ?_
        have n2j:=(((((((n7h.ext E5a).ext E5c).ext F3b).ext E7a).ext E0a).ext E2a).ext E8a).ext E0c
        have n3j:=((((((n9h.ext E5c).ext F3b).ext E7a).ext E0a).ext E2a).ext E8a).ext E0c
        rcases AC f9m with ⟨r7c,h6g,f1n⟩ | ⟨r7c,h6g,rfl⟩
        ·refine scO (Ac Mj (by rfl)) (FW r6b.1 r8b.1 A2f c3f A5f c6f w2c (tbx X5e hT) n2j n3j (.ok r7c) h6g) ?_
         rintro _ w0d E4b ⟨A4j,c5j,rfl,n6j⟩
         refine nrm ?_
         have X6e:=xtr X5e E4b
         refine sV (Aa rfl) ?_
         rcases AC f1n with ⟨r8c,h7g,f2n⟩ | ⟨r8c,h7g,rfl⟩
         ·refine scO (Ac Mj (by rfl)) (FW r7c r6c.1 A4j c5j A8i c9i w0d (tbx X6e hT) n6j ((n0j.ext E0c).ext E4b) (.ok r8c) h7g) ?_
          rintro _ w8e E9c ⟨A8g,c9g,rfl,n3n⟩
          refine nrm ?_
          have X4n:=xtr X6e E9c
          refine sV (AL (vals:=[(0,.agg #[.bool r4e.Neg,.slice A4g (sz r4e.Abs) c5g]),(1,.slice A8g (sz r8c) c9g)]) (cells:=[.bool r4e.Neg,.slice A4g (sz r4e.Abs) c5g,.slice A8g (sz r8c) c9g]) (by rfl) (by kernel_rfl)) ?_
          have q0h:=((((((((((((q0k.ext E3d).ext E1a).ext E4a).ext E5a).ext E5c).ext F3b).ext E7a).ext E0a).ext E2a).ext E8a).ext E0c).ext E4b).ext E9c
          refine ss EM q0h fun w7j U1h q5n=>?_
          have X6n:=belU X4n U1h g1k
          refine wh h7m<|wp_ret ?_
          have n7n:=((n0n.ext E4b).ext E9c).upd U1h q0h (by decide)
          exact Gd f2n rfl (Res.cellN rfl Bl q5n rfl rfl Res.nil) (Cl X6n ⟨A4g,c5g,A8g,c9g,rfl,n7n,(n3n.upd U1h q0h (by decide))⟩)
         ·refine scP (Ac Mj (by rfl)) (FW r7c r6c.1 A4j c5j A8i c9i w0d (tbx X6e hT) n6j ((n0j.ext E0c).ext E4b) (.error r8c) h7g) fun w8e E9c=>?_
          have X8n:=xtr X6e E9c
          exact ⟨rfl,AP X8n⟩
        ·refine scP (Ac Mj (by rfl)) (FW r6b.1 r8b.1 A2f c3f A5f c6f w2c (tbx X5e hT) n2j n3j (.error r7c) h6g) fun w0d E4b=>?_
         have X9n:=xtr X5e E4b
         exact ⟨rfl,AP X9n⟩
       ·refine scP (Ac JZ (by rfl)) (Cq r3a.1 r9b.1 A1b c2b A7d c8d w1c (tbx X3e hT) n7i ((n9d.ext E0a).ext E2a) (.error r6c) h3g) fun w7e E8a=>?_
        have X0o:=xtr X3e E8a
        exact ⟨rfl,AP X0o⟩
      ·refine scP (Ac JZ (by rfl)) (Cq r4c.1.Abs r9b.1 A7f c8f A7d c8d w0b (tbx X1e hT) n6i (n9d.ext E0a) (.error r2e) h2g) fun w1c E2a=>?_
       have X1o:=xtr X1e E2a
       exact ⟨rfl,AP X1o⟩
     ·refine scP (Ac KL (by rfl)) (Fl r9b.2 w6a (tbx X0e hT)  (.error r0g) h1g) fun w0b E0a=>?_
      have X2o:=xtr X0e E0a
      exact ⟨rfl,AP X2o⟩
    ·have p3o:=bF e6d
     have f4o:=ifN p3o f0i
     exact nomatch f4o
   ·refine scP (Ac JZ (by rfl)) (Cq x1.Den r3a.1 A9a c6a A1b c2b w6 (tbx X7b hT) (n0b.ext X7b) ((n3c.ext E1a).ext E4a) (.error r8b) h4f) fun w7 E5a=>?_
    have X5o:=xtr X7b E5a
    exact ⟨rfl,AP X5o⟩
  ·refine scP (Ac JZ (by rfl)) (Cq x0.Den r3a.1 A4 c5 A1b c2b w5 (tbx X5b hT) (n6.ext X5b) (n3c.ext E1a) (.error r6b) h1f) fun w6 E4a=>?_
   have X6o:=xtr X5b E4a
   exact ⟨rfl,AP X6o⟩
 ·refine scP (Ac KL (by rfl)) (Fl r3a.2 w4 (tbx X4d hT)  (.error r9e) h0f) fun w5 E1a=>?_
  have X7o:=xtr X4d E1a
  exact ⟨rfl,AP X7o⟩
theorem c_ratio_Add (x0:Ap) (x1:Ap) (A1:OA) (c2:Nat) (A4:OA) (c5:Nat) (A7:OA) (c8:Nat) (A4a:OA) (c5a:Nat) (w:World) (hT:TB w) (n3:RU w A1 c2 x0.Num.Abs) (n6:RU w A4 c5 x0.Den) (n9:RU w A7 c8 x1.Num.Abs) (n8a:RU w A4a c5a x1.Den) (r:Ap × Int) (hr:JH x0 x1=some r) :
  Calls prog 91 #[.agg #[.bool x0.Num.Neg,.slice A1 (sz x0.Num.Abs) c2,.slice A4 (sz x0.Den) c5],.agg #[.bool x1.Num.Neg,.slice A7 (sz x1.Num.Abs) c8,.slice A4a (sz x1.Den) c5a]] w (Ret KZ w r):=by
 unfold JH at hr
 obtain ⟨q0,hq0,hr0⟩:=Ad hr
 unfold Lu at hq0
 go_enter_defers func91,ntmps91
 refine ws fun h5d=>Ah<|sbx rfl rfl fun b6g w1 E4c g7g q6d=>?_
 refine sbx rfl rfl fun b8g w2 E5c g7d q8d=>?_
 have g9g:=nlt E4c.size g7d
 have X6c:=xtr E4c E5c
 refine sal HK fun b4b w3 E5b g9d q6b=>?_
 have g7b:=nlt X6c.size g9d
 have X7c:=xtr X6c E5b
 refine sal JN fun b8b w4 E7a g0e q9b=>?_
 have g0c:=nlt X7c.size g0e
 have X8c:=xtr X7c E7a
 have q9c:=(q8d.ext E5b).ext E7a
 refine nx h5d fun h1e=>HP (vs:=[.pointer (some ⟨b4b,0,none⟩),.pointer (some ⟨b8b,0,none⟩)]) (by rfl) (by rfl)<|nx h1e fun h2e=>have q0d:=((q6d.ext E5c).ext E5b).ext E7a;sV2 (Ak Bl rfl q0d rfl) (Ak Bl rfl q9c rfl) ?_
 refine Dj (vals:=[(0,.agg #[.bool x0.Num.Neg,.slice A1 (sz x0.Num.Abs) c2,.slice A4 (sz x0.Den) c5]),(1,.agg #[.bool x1.Num.Neg,.slice A7 (sz x1.Num.Abs) c8,.slice A4a (sz x1.Den) c5a])]) (cs:=[.bool x0.Num.Neg,.slice A1 (sz x0.Num.Abs) c2,.slice A4 (sz x0.Den) c5,.bool x1.Num.Neg,.slice A7 (sz x1.Num.Abs) c8,.slice A4a (sz x1.Den) c5a]) Hj EM HK (by rfl) (by decide) (by kernel_rfl) fun b1d w5 E3a g3e q2d=>?_
 refine nrm ?_
 have g0h:=nlt X8c.size g3e
 have X0a:=xtr X8c E3a
 rcases AC hq0 with ⟨r9a,h1c,f4e⟩ | ⟨r9a,h1c,rfl⟩
 ·refine scO (Ac KN (by rfl)) (Em x0 x1 b1d A1 c2 A4 c5 A7 c8 A4a c5a w5 (tbx X0a hT) (n3.ext X0a) (n6.ext X0a) (n9.ext X0a) (n8a.ext X0a) q2d (.ok r9a) h1c) ?_
  rintro _ w6 E2a rfl
  refine nrm ?_
  have X1a:=xtr X0a E2a
  refine nx h2e fun h5e=>sV (Ak Bl rfl ((q0d.ext E3a).ext E2a) rfl) ?_
  have q6e:=(q9c.ext E3a).ext E2a
  refine sV (Ak Bl rfl q6e rfl) ?_
  rcases AC f4e with ⟨r0b,h2c,f7e⟩ | ⟨r0b,h2c,rfl⟩
  ·refine scO (Ac Pe (by rfl)) (KG x0 x1 A1 c2 A4 c5 A7 c8 A4a c5a w6 (tbx X1a hT) (n3.ext X1a) (n6.ext X1a) (n9.ext X1a) (n8a.ext X1a) (.ok r0b) h2c) ?_
   rintro _ w7 E6a ⟨A8e,c9e,A0f,c1f,rfl,n2f,n3f⟩
   refine nrm ?_
   have X4f:=xtr X1a E6a
   have q1b:=(((q6b.ext E7a).ext E3a).ext E2a).ext E6a
   refine ss EM q1b fun w8 U2b q5f=>?_
   have X6f:=belU X4f U2b g7b
   have q3d:=((q9b.ext E3a).ext E2a).ext E6a
   have ne4d:=(Bx.neT q3d q1b (by decide))
   have q3c:=q3d.upd U2b ne4d
   refine ss HU q3c fun w9 U3b q7f=>?_
   have X8f:=belU X6f U3b g0c
   refine wh h5e<|wp_ret ?_
   have n9f:=(n2f.upd U2b q1b (by decide)).upd U3b q3c (by decide)
   have n0g:=(n3f.upd U2b q1b (by decide)).upd U3b q3c (by decide)
   obtain rfl:=sj f7e
   obtain rfl:=sj hr0
   exact NJ EW IF rfl (Res.cellN rfl Bl (q5f.upd U3b (Ne.symm ne4d)) rfl rfl (Res.cell1 rfl CO (Bx.cell q7f rfl) Res.nil)) (AJ X8f ⟨A8e,c9e,A0f,c1f,rfl,n9f,n0g⟩)
  ·refine scP (Ac Pe (by rfl)) (KG x0 x1 A1 c2 A4 c5 A7 c8 A4a c5a w6 (tbx X1a hT) (n3.ext X1a) (n6.ext X1a) (n9.ext X1a) (n8a.ext X1a) (.error r0b) h2c) fun w7 E6a=>?_
   have X1g:=xtr X1a E6a
   have q2g:=(((q6b.ext E7a).ext E3a).ext E2a).ext E6a
   have q3g:=((q9b.ext E3a).ext E2a).ext E6a
   refine Kg IF (Cj b4b b8b (.bool false:Value) (.slice none 0 0:Value) (.slice none 0 0:Value) (.int .i64 0:Value) r0b q2g q3g) rfl ?_
   rintro w9 ⟨u9,q9,q9'⟩
   obtain rfl:=sj hr0
   exact ⟨_,(Res.cellN rfl Bl q9 rfl rfl (Res.cell1 rfl CO (Bx.cell q9' rfl) Res.nil)),AJ (u9.toExt X1g g7b g0c) ⟨none,0,none,0,rfl,RU.nil _,RU.nil _⟩⟩
 ·refine scP (Ac KN (by rfl)) (Em x0 x1 b1d A1 c2 A4 c5 A7 c8 A4a c5a w5 (tbx X0a hT) (n3.ext X0a) (n6.ext X0a) (n9.ext X0a) (n8a.ext X0a) q2d (.error r9a) h1c) fun w6 E2a=>?_
  have X4g:=xtr X0a E2a
  have q5g:=((q6b.ext E7a).ext E3a).ext E2a
  refine Kg IF (Cj b4b b8b (.bool false:Value) (.slice none 0 0:Value) (.slice none 0 0:Value) (.int .i64 0:Value) r9a q5g ((q9b.ext E3a).ext E2a)) rfl ?_
  rintro w9 ⟨u9,q9,q9'⟩
  obtain rfl:=sj hr0
  exact ⟨_,(Res.cellN rfl Bl q9 rfl rfl (Res.cell1 rfl CO (Bx.cell q9' rfl) Res.nil)),AJ (u9.toExt X4g g7b g0c) ⟨none,0,none,0,rfl,RU.nil _,RU.nil _⟩⟩
theorem c_ratio_minus (x0:Ae) (A1:OA) (c2:Nat) (w:World) (hT:TB w) (n3:RU w A1 c2 x0.Abs) (r:Ae) (hr:JC x0=some r) :
  Calls prog 233 #[.agg #[.bool x0.Neg,.slice A1 (sz x0.Abs) c2]] w (Ret Lg w r):=by
 unfold JC at hr
 go_enter func233,ntmps233
 refine ws fun h4=>Ah<|sbx rfl rfl fun b5 w1 E6 g7 q8=>?_
 refine sal HT fun b9 w2 E0a g6a q4a=>?_
 have g7a:=nlt E6.size g6a
 have X1a:=xtr E6 E0a
 refine nx h4 fun h8a=>sV2 (Af (o':=0) Fo rfl rfl) (Ag Gy rfl (Bx.cell (q8.ext E0a) rfl)) ?_
 refine sbl (FL rfl) fun z2a hz2a=>?_
 refine sV2 (Af (o':=1) BI rfl rfl) (Ag Ci rfl (Bx.cell (q8.ext E0a) rfl)) ?_
 obtain rfl:z2a=decide (¬(x0.Neg=true)):=bz hz2a
 refine scn hr (Ac KR (by rfl)) (DQ (decide (¬(x0.Neg=true))) x0.Abs A1 c2 w2 (tbx X1a hT) (n3.ext X1a)) fun r7b f9a w3 A0b c1b E3a n2b=>?_
 have X3b:=xtr X1a E3a
 refine ss EC (q4a.ext E3a) fun w4 U5a q4b=>?_
 have X5b:=belU X3b U5a g7a
 refine wh h8a<|wp_ret ?_
 have n6b:=n2b.upd U5a (q4a.ext E3a) (by decide)
 exact He f9a EO q4b X5b ⟨A0b,c1b,rfl,n6b⟩
theorem KY (x0:Ap) (A1:OA) (c2:Nat) (A4:OA) (c5:Nat) (w:World) (hT:TB w) (n3:RU w A1 c2 x0.Num.Abs) (n6:RU w A4 c5 x0.Den) (r:Ap) (hr:Ge x0=some r) :
  Calls prog 172 #[.agg #[.bool x0.Num.Neg,.slice A1 (sz x0.Num.Abs) c2,.slice A4 (sz x0.Den) c5]] w (Ret Oc w r):=by
 unfold Ge at hr
 go_enter func172,ntmps172
 refine ws fun h7=>Ah<|sbx rfl rfl fun b8 w1 E9 g3c q2b=>?_
 refine sal HK fun b4c w2 E7a g3b q4b=>?_
 have g5b:=nlt E9.size g3b
 have X6b:=xtr E9 E7a
 refine wh h7<|ws fun h7b=>DT [6] 7 mo rfl fun w3 E1a S2a=>have X3a:=xtr X6b E1a;dA 0 rfl (fun _=>Af (o':=0) Gv rfl rfl) ?_
 have q8a:=(q2b.ext E7a).ext E1a
 refine dV 1 rfl (fun _ hw=>dld EO (q8a.ext hw)) S2a ?_
 refine dA 3 rfl (fun _=>Af (o':=2) GT rfl rfl) ?_
 refine dV 4 rfl (fun _ hw=>Ag Ci rfl (Bx.cell (q8a.ext hw) rfl)) S2a ?_
 refine dcn hr 2 rfl (by rfl) (Ac en_233 (by rfl)) (c_ratio_minus x0.Num A1 c2 w3 (tbx X3a hT) (n3.ext X3a)) fun r0a f8b w4 A4a c5a E6a n9b=>?_
 have X0c:=xtr X3a E6a
 have S5c:=S2a.trans E6a
 refine dA 5 rfl (fun _=>AL (vals:=[(0,.agg #[.bool r0a.Neg,.slice A4a (sz r0a.Abs) c5a]),(1,.slice A4 (sz x0.Den) c5)]) (cells:=[.bool r0a.Neg,.slice A4a (sz r0a.Abs) c5a,.slice A4 (sz x0.Den) c5]) (by rfl) (by kernel_rfl)) ?_
 have q9a:=(q4b.ext E1a).ext E6a
 refine dkk 6 EM q9a fun w5 U0b q1c=>?_
 have X1b:=belU X0c U0b g5b
 refine Cx (by kernel_rfl) ?_
 refine h7b _ _<|wp_ret ?_
 have n2c:=n9b.upd U0b q9a (by decide)
 exact He f8b Bl q1c X1b ⟨A4a,c5a,A4,c5,rfl,n2c,(n6.ext X1b)⟩
theorem c_ratio_Sub (x0:Ap) (x1:Ap) (A1:OA) (c2:Nat) (A4:OA) (c5:Nat) (A7:OA) (c8:Nat) (A3a:OA) (c4a:Nat) (w:World) (hT:TB w) (n3:RU w A1 c2 x0.Num.Abs) (n6:RU w A4 c5 x0.Den) (n9:RU w A7 c8 x1.Num.Abs) (n6b:RU w A3a c4a x1.Den) (r:Ap × Int) (hr:JG x0 x1=some r) :
  Calls prog 92 #[.agg #[.bool x0.Num.Neg,.slice A1 (sz x0.Num.Abs) c2,.slice A4 (sz x0.Den) c5],.agg #[.bool x1.Num.Neg,.slice A7 (sz x1.Num.Abs) c8,.slice A3a (sz x1.Den) c4a]] w (Ret KZ w r):=by
 unfold JG at hr
 obtain ⟨q0,hq0,hr0⟩:=Ad hr
 unfold LB at hq0
 go_enter_defers func92,ntmps92
 refine ws fun h6e=>Ah<|sbx rfl rfl fun b0i w1 E9c g1i q7e=>?_
 refine sbx rfl rfl fun b2i w2 E0d g8e q9e=>?_
 have g3i:=nlt E9c.size g8e
 have X1d:=xtr E9c E0d
 refine sal HK fun b7b w3 E8b g0f q9b=>?_
 have g0c:=nlt X1d.size g0f
 have X2d:=xtr X1d E8b
 refine sal JN fun b1c w4 E8a g1f q2c=>?_
 have g3c:=nlt X2d.size g1f
 have X3d:=xtr X2d E8a
 have q4d:=(q9e.ext E8b).ext E8a
 refine nx h6e fun h2f=>HP (vs:=[.pointer (some ⟨b7b,0,none⟩),.pointer (some ⟨b1c,0,none⟩)]) (by rfl) (by rfl)<|nx h2f fun h3f=>have q5d:=((q7e.ext E0d).ext E8b).ext E8a;sV2 (Ak Bl rfl q5d rfl) (Ak Bl rfl q4d rfl) ?_
 refine Dj (vals:=[(0,.agg #[.bool x0.Num.Neg,.slice A1 (sz x0.Num.Abs) c2,.slice A4 (sz x0.Den) c5]),(1,.agg #[.bool x1.Num.Neg,.slice A7 (sz x1.Num.Abs) c8,.slice A3a (sz x1.Den) c4a])]) (cs:=[.bool x0.Num.Neg,.slice A1 (sz x0.Num.Abs) c2,.slice A4 (sz x0.Den) c5,.bool x1.Num.Neg,.slice A7 (sz x1.Num.Abs) c8,.slice A3a (sz x1.Den) c4a]) Hj EM HK (by rfl) (by decide) (by kernel_rfl) fun b6d w5 E2a g4f q7d=>?_
 refine nrm ?_
 have g4i:=nlt X3d.size g4f
 have X0a:=xtr X3d E2a
 rcases AC hq0 with ⟨r0b,h4c,f5f⟩ | ⟨r0b,h4c,rfl⟩
 ·refine scO (Ac KN (by rfl)) (Em x0 x1 b6d A1 c2 A4 c5 A7 c8 A3a c4a w5 (tbx X0a hT) (n3.ext X0a) (n6.ext X0a) (n9.ext X0a) (n6b.ext X0a) q7d (.ok r0b) h4c) ?_
  rintro _ w6 E1a rfl
  refine nrm ?_
  have X6f:=xtr X0a E1a
  refine wh h3f<|ws fun h7f=>DT [4,5] 6 mo rfl fun w7 E7a S5c=>?_
  have X1b:=xtr X6f E7a
  refine dV 0 rfl (fun _ hw=>Ak Bl rfl ((((q5d.ext E2a).ext E1a).ext E7a).ext hw) rfl) S5c ?_ (hQ:=fun _ _ _ h=>dq (rs:=[.cell 4 65,.cell 5 33]) rfl (by decide) h)
  refine dV 1 rfl (fun _ hw=>Ak Bl rfl ((((q4d.ext E2a).ext E1a).ext E7a).ext hw) rfl) S5c ?_ (hQ:=fun _ _ _ h=>dq (rs:=[.cell 4 65,.cell 5 33]) rfl (by decide) h)
  obtain ⟨r6c,h8f,f9f⟩:=Ad f5f
  refine dc 2 rfl (by kernel_rfl) (by rfl) (Ac Rx (by rfl)) (KY x1 A7 c8 A3a c4a w7 (tbx X1b hT) (n9.ext X1b) (n6b.ext X1b) r6c h8f) ?_
  rintro _ w8 E9a ⟨A8d,c9d,A0e,c1e,rfl,n2e,n3e⟩
  refine dnrm ?_
  have X5a:=xtr X1b E9a
  have S0g:=S5c.trans E9a
  rcases AC f9f with ⟨r2b,h7c,f1g⟩ | ⟨r2b,h7c,rfl⟩
  ·refine dcO 3 rfl (by kernel_rfl) (by rfl) (Ac Pe (by rfl)) (KG x0 r6c A1 c2 A4 c5 A8d c9d A0e c1e w8 (tbx X5a hT) (n3.ext X5a) (n6.ext X5a) n2e n3e (.ok r2b) h7c) ?_
   rintro _ w9 E6a ⟨A2g,c3g,A4g,c5g,rfl,n6g,n7g⟩
   refine dnrm ?_
   have X8g:=xtr X5a E6a
   have S5i:=S0g.trans E6a
   have q3b:=(((((q9b.ext E8a).ext E2a).ext E1a).ext E7a).ext E9a).ext E6a
   refine dkk 4 EM q3b fun w3a U4b q9g=>?_
   have X0h:=belU X8g U4b g0c
   have q4e:=((((q2c.ext E2a).ext E1a).ext E7a).ext E9a).ext E6a
   have ne5e:=(Bx.neT q4e q3b (by decide))
   have q8c:=q4e.upd U4b ne5e
   refine dkk 5 HU q8c fun w4a U5b q1h=>?_
   have X2h:=belU X0h U5b g3c
   refine Cx (by kernel_rfl) ?_
   refine h7f _ _<|wp_ret ?_
   have n3h:=(n6g.upd U4b q3b (by decide)).upd U5b q8c (by decide)
   have n4h:=(n7g.upd U4b q3b (by decide)).upd U5b q8c (by decide)
   obtain rfl:=sj f1g
   obtain rfl:=sj hr0
   exact NJ EW IF rfl (Res.cellN rfl Bl (q9g.upd U5b (Ne.symm ne5e)) rfl rfl (Res.cell1 rfl CO (Bx.cell q1h rfl) Res.nil)) (AJ X2h ⟨A2g,c3g,A4g,c5g,rfl,n3h,n4h⟩)
  ·refine dcP 3 rfl (by kernel_rfl) (by rfl) (Ac Pe (by rfl)) (KG x0 r6c A1 c2 A4 c5 A8d c9d A0e c1e w8 (tbx X5a hT) (n3.ext X5a) (n6.ext X5a) n2e n3e (.error r2b) h7c) fun w9 E6a=>?_
   have X5h:=xtr X5a E6a
   have q6h:=(((((q9b.ext E8a).ext E2a).ext E1a).ext E7a).ext E9a).ext E6a
   have q7h:=((((q2c.ext E2a).ext E1a).ext E7a).ext E9a).ext E6a
   refine Kg IF (Cj b7b b1c (.bool false:Value) (.slice none 0 0:Value) (.slice none 0 0:Value) (.int .i64 0:Value) r2b q6h q7h) rfl ?_
   rintro w9 ⟨u9,q9,q9'⟩
   obtain rfl:=sj hr0
   exact ⟨_,(Res.cellN rfl Bl q9 rfl rfl (Res.cell1 rfl CO (Bx.cell q9' rfl) Res.nil)),AJ (u9.toExt X5h g0c g3c) ⟨none,0,none,0,rfl,RU.nil _,RU.nil _⟩⟩
 ·refine scP (Ac KN (by rfl)) (Em x0 x1 b6d A1 c2 A4 c5 A7 c8 A3a c4a w5 (tbx X0a hT) (n3.ext X0a) (n6.ext X0a) (n9.ext X0a) (n6b.ext X0a) q7d (.error r0b) h4c) fun w6 E1a=>?_
  have X8h:=xtr X0a E1a
  have q9h:=((q9b.ext E8a).ext E2a).ext E1a
  refine Kg IF (Cj b7b b1c (.bool false:Value) (.slice none 0 0:Value) (.slice none 0 0:Value) (.int .i64 0:Value) r0b q9h ((q2c.ext E2a).ext E1a)) rfl ?_
  rintro w9 ⟨u9,q9,q9'⟩
  obtain rfl:=sj hr0
  exact ⟨_,(Res.cellN rfl Bl q9 rfl rfl (Res.cell1 rfl CO (Bx.cell q9' rfl) Res.nil)),AJ (u9.toExt X8h g0c g3c) ⟨none,0,none,0,rfl,RU.nil _,RU.nil _⟩⟩
theorem IV (x0:Ae) (x1:Nat) (A1:OA) (c2:Nat) (A4:OA) (c5:Nat) (w:World) (hT:TB w) (n3:RU w A1 c2 x0.Abs) (n6:RU w A4 c5 x1) (r:Except Int (Ap)) (hr:GW x0 x1=some r) :
  Calls prog 234 #[.agg #[.bool x0.Neg,.slice A1 (sz x0.Abs) c2],.slice A4 (sz x1) c5] w (RetE 232 Oc w r):=by
 unfold GW at hr
 go_enter func234,ntmps234
 refine ws fun h7=>Ah<|sbx rfl rfl fun b8 w1 E9 g4f q7c=>?_
 refine sal HK fun b5f w2 E4b g0d q1d=>?_
 have g2d:=nlt E9.size g0d
 have X7a:=xtr E9 E4b
 refine nx h7 fun h3d=>sV3 (Af (o':=1) BI rfl rfl) (Ag Ci rfl (Bx.cell (q7c.ext E4b) rfl)) (Aa rfl) ?_
 refine scn hr (Ac Pu (by rfl)) (Mq x0.Abs x1 A1 c2 A4 c5 w2 (tbx X7a hT) (n3.ext X7a) (n6.ext X7a)) fun r2a f4d w3 A8a c9a E5b n0b=>?_
 have X1b:=xtr X7a E5b
 refine sV3 (Aa rfl) (Ai rfl rfl) (Ai rfl rfl) ?_
 refine sV2 (Ab rfl) (Ab rfl) ?_
 refine nx h3d fun h5d=>sV (Aa rfl) ?_
 rcases AC f4d with ⟨r6b,h7b,f6d⟩ | ⟨r6b,h7b,rfl⟩
 ·refine scO (Ac KL (by rfl)) (Fl r2a.2 w3 (tbx X1b hT)  (.ok r6b) h7b) ?_
  rintro _ w4 E0a rfl
  refine nrm ?_
  have X3a:=xtr X1b E0a
  refine nx h5d fun h7d=>sV (Af (o':=1) BI rfl rfl) ?_
  have q8c:=((q7c.ext E4b).ext E5b).ext E0a
  refine sV2 (Ag Ci rfl (Bx.cell q8c rfl)) (Aa rfl) ?_
  rcases AC f6d with ⟨r2b,h8b,f8d⟩ | ⟨r2b,h8b,rfl⟩
  ·refine scO (Ac JZ (by rfl)) (Cq x0.Abs r2a.1 A1 c2 A8a c9a w4 (tbx X3a hT) (n3.ext X3a) (n0b.ext E0a) (.ok r2b) h8b) ?_
   rintro _ w5 E1a ⟨A9d,c0e,A6f,c7f,rfl,n1e,n8f⟩
   refine nrm ?_
   have X4a:=xtr X3a E1a
   refine sV3 (Aa rfl) (Ai rfl rfl) (Ai rfl rfl) ?_
   refine sV2 (Ab rfl) (Ab rfl) ?_
   refine nx h7d fun h2e=>sV2 (Aa rfl) (Aa rfl) ?_
   rcases AC f8d with ⟨r6a,h9b,f3e⟩ | ⟨r6a,h9b,rfl⟩
   ·refine scO (Ac JZ (by rfl)) (Cq x1 r2a.1 A4 c5 A8a c9a w5 (tbx X4a hT) (n6.ext X4a) ((n0b.ext E0a).ext E1a) (.ok r6a) h9b) ?_
    rintro _ w6 E5a ⟨A0c,c1c,A9f,c0g,rfl,n4e,n1g⟩
    refine nrm ?_
    have X9c:=xtr X4a E5a
    refine sV3 (Aa rfl) (Ai rfl rfl) (Ai rfl rfl) ?_
    refine sV2 (Ab rfl) (Ab rfl) ?_
    refine nx h2e fun h5e=>sV3 (Af (o':=0) Fo rfl rfl) (Ag Gy rfl (Bx.cell ((q8c.ext E1a).ext E5a) rfl)) (Aa rfl) ?_
    refine scn f3e (Ac KR (by rfl)) (DQ x0.Neg r2b.1 A9d c0e w6 (tbx X9c hT) (n1e.ext E5a)) fun r3b f64 w7 A2c c3c E4c n6e=>?_
    have X7e:=xtr X9c E4c
    refine sV2 (Aa rfl) (AL (vals:=[(0,.agg #[.bool r3b.Neg,.slice A2c (sz r3b.Abs) c3c]),(1,.slice A0c (sz r6a.1) c1c)]) (cells:=[.bool r3b.Neg,.slice A2c (sz r3b.Abs) c3c,.slice A0c (sz r6a.1) c1c]) (by rfl) (by kernel_rfl)) ?_
    have q5c:=((((q1d.ext E5b).ext E0a).ext E1a).ext E5a).ext E4c
    refine ss EM q5c fun w8 U6c q8e=>?_
    have X9e:=belU X7e U6c g2d
    refine wh h5e<|wp_ret ?_
    have n0f:=(n4e.ext E4c).upd U6c q5c (by decide)
    exact Gd f64 rfl (Res.cellN rfl Bl q8e rfl rfl Res.nil) (Cl X9e ⟨A2c,c3c,A0c,c1c,rfl,(n6e.upd U6c q5c (by decide)),n0f⟩)
   ·refine scP (Ac JZ (by rfl)) (Cq x1 r2a.1 A4 c5 A8a c9a w5 (tbx X4a hT) (n6.ext X4a) ((n0b.ext E0a).ext E1a) (.error r6a) h9b) fun w6 E5a=>?_
    have X1f:=xtr X4a E5a
    exact ⟨rfl,AP X1f⟩
  ·refine scP (Ac JZ (by rfl)) (Cq x0.Abs r2a.1 A1 c2 A8a c9a w4 (tbx X3a hT) (n3.ext X3a) (n0b.ext E0a) (.error r2b) h8b) fun w5 E1a=>?_
   have X2f:=xtr X3a E1a
   exact ⟨rfl,AP X2f⟩
 ·refine scP (Ac KL (by rfl)) (Fl r2a.2 w3 (tbx X1b hT)  (.error r6b) h7b) fun w4 E0a=>?_
  have X3f:=xtr X1b E0a
  exact ⟨rfl,AP X3f⟩
theorem Iy (x0:Ap) (x1:Ap) (A1:OA) (c2:Nat) (A4:OA) (c5:Nat) (A7:OA) (c8:Nat) (A5a:OA) (c6a:Nat) (w:World) (hT:TB w) (n3:RU w A1 c2 x0.Num.Abs) (n6:RU w A4 c5 x0.Den) (n9:RU w A7 c8 x1.Num.Abs) (n4b:RU w A5a c6a x1.Den) (r:Except Int (Ap)) (hr:FN x0 x1=some r) :
  Calls prog 173 #[.agg #[.bool x0.Num.Neg,.slice A1 (sz x0.Num.Abs) c2,.slice A4 (sz x0.Den) c5],.agg #[.bool x1.Num.Neg,.slice A7 (sz x1.Num.Abs) c8,.slice A5a (sz x1.Den) c6a]] w (RetE 232 Oc w r):=by
 unfold FN at hr
 go_enter func173,ntmps173
 refine ws fun h2c=>Ah<|sbx rfl rfl fun b0g w1 E4d g0k q1g=>?_
 refine sbx rfl rfl fun b1k w2 E5d g2g q6d=>?_
 have g2k:=nlt E4d.size g2g
 have X7d:=xtr E4d E5d
 refine sal HK fun b3k w3 E7b g3g q4g=>?_
 have g5g:=nlt X7d.size g3g
 have X3a:=xtr X7d E7b
 have q8d:=(q1g.ext E5d).ext E7b
 refine nx h2c fun h6g=>sV2 (Af (o':=0) Gv rfl rfl) (dld EO q8d) ?_
 refine sV2 (Af (o':=2) GT rfl rfl) (Ag Ci rfl (Bx.cell (q6d.ext E7b) rfl)) ?_
 rcases AC hr with ⟨r7a,h3c,f7g⟩ | ⟨r7a,h3c,rfl⟩
 ·refine scO (Ac OR (by rfl)) (IV x0.Num x1.Den A1 c2 A5a c6a w3 (tbx X3a hT) (n3.ext X3a) (n4b.ext X3a) (.ok r7a) h3c) ?_
  rintro _ w4 E1b ⟨A9d,c0e,A1e,c2e,rfl,n8g,n9g⟩
  refine nrm ?_
  have X3e:=xtr X3a E1b
  refine sal HK fun b4k w5 E0h g4e q1h=>?_
  have g5k:=nlt X3e.size g4e
  refine ss EM q1h fun w6 U2h q3h=>?_
  have F2b:=belU E0h U2h g4e
  have X4a:=xtr X3e F2b
  refine nx h6g fun h4h=>sV (Af (o':=0) Gv rfl rfl) ?_
  have q5e:=((q6d.ext E7b).ext E1b).ext F2b
  refine sV (dld EO q5e) ?_
  refine sV (Af (o':=2) GT rfl rfl) ?_
  have q6e:=(q8d.ext E1b).ext F2b
  refine sV (Ag Ci rfl (Bx.cell q6e rfl)) ?_
  rcases AC f7g with ⟨r8a,h4c,f5h⟩ | ⟨r8a,h4c,rfl⟩
  ·refine scO (Ac OR (by rfl)) (IV x1.Num x0.Den A7 c8 A4 c5 w6 (tbx X4a hT) (n9.ext X4a) (n6.ext X4a) (.ok r8a) h4c) ?_
   rintro _ w7 E2a ⟨A7e,c8e,A9e,c0f,rfl,n1f,n6h⟩
   refine nrm ?_
   have X2f:=xtr X4a E2a
   refine sal HK fun b6k w8 E7h g3f q8h=>?_
   have g7k:=nlt X2f.size g3f
   refine ss EM q8h fun w9 U9h q4f=>?_
   have F1a:=belU E7h U9h g3f
   have X0i:=xtr X2f F1a
   refine wh h4h<|ws fun h1i=>DT [21] 22 mo rfl fun w5a E0a S9a=>have X8b:=xtr X0i E0a;dA 0 rfl (fun _=>Af (o':=0) Gv rfl rfl) ?_
   refine dA 1 rfl (fun _=>Af (o':=0) Fo rfl rfl) ?_
   refine dV 2 rfl (fun _ hw=>Ag Gy rfl (Bx.cell ((((q6e.ext E2a).ext F1a).ext E0a).ext hw) rfl)) S9a ?_
   refine dA2 3 4 rfl rfl (fun _=>Af (o':=0) Gv rfl rfl) (fun _=>Af (o':=0) Fo rfl rfl) ?_
   refine dV 5 rfl (fun _ hw=>Ag Gy rfl (Bx.cell ((((q5e.ext E2a).ext F1a).ext E0a).ext hw) rfl)) S9a ?_
   refine dab 6 rfl (by kernel_rfl) (fun _ _ _ h=>h) (by rfl) (fun _=>PV Qw rfl rfl) fun z5c hz5c=>?_
   refine dnrm ?_
   refine dA2 7 8 rfl rfl (fun _=>Af (o':=0) Gv rfl rfl) (fun _=>Af (o':=1) BI rfl rfl) ?_
   have q5f:=((q3h.ext E2a).ext F1a).ext E0a
   refine dV 9 rfl (fun _ hw=>Ag Ci rfl (Bx.cell (q5f.ext hw) rfl)) S9a ?_
   refine dA2 10 11 rfl rfl (fun _=>Af (o':=0) Gv rfl rfl) (fun _=>Af (o':=1) BI rfl rfl) ?_
   refine dV 12 rfl (fun _ hw=>Ag Ci rfl (Bx.cell ((q4f.ext E0a).ext hw) rfl)) S9a ?_
   refine dA 15 rfl (fun _=>Af (o':=2) GT rfl rfl) ?_
   refine dV 16 rfl (fun _ hw=>Ag Ci rfl (Bx.cell (q5f.ext hw) rfl)) S9a ?_
   refine dA 17 rfl (fun _=>Af (o':=2) GT rfl rfl) ?_
   refine dV 18 rfl (fun _ hw=>Ag Ci rfl (Bx.cell ((q4f.ext E0a).ext hw) rfl)) S9a ?_
   have n6f:=(((n8g.ext F2b).ext E2a).ext F1a).ext E0a
   rcases AC f5h with ⟨r9b,h6c,f2i⟩ | ⟨r9b,h6c,rfl⟩
   ·refine dcO 13 rfl (by kernel_rfl) (by rfl) (Ac Mj (by rfl)) (FW r7a.Num.Abs r8a.Num.Abs A9d c0e A7e c8e w5a (tbx X8b hT) n6f ((n1f.ext F1a).ext E0a) (.ok r9b) h6c) ?_
    rintro _ w6a E0b ⟨A3i,c4i,rfl,n5i⟩
    refine dnrm ?_
    have X7f:=xtr X8b E0b
    have S6i:=S9a.trans E0b
    obtain rfl:z5c=decide (¬x0.Num.Neg=x1.Num.Neg):=bz hz5c
    refine dcn f2i 14 rfl (by rfl) (Ac KR (by rfl)) (DQ (decide (¬x0.Num.Neg=x1.Num.Neg)) r9b A3i c4i w6a (tbx X7f hT) n5i) fun r0c f7i w4b A7c c8c E5b n8i=>?_
    have X1c:=xtr X7f E5b
    have S9i:=S6i.trans E5b
    have n8f:=(((((n9g.ext F2b).ext E2a).ext F1a).ext E0a).ext E0b).ext E5b
    have n9f:=(((n6h.ext F1a).ext E0a).ext E0b).ext E5b
    rcases AC f7i with ⟨r6b,h9c,f0j⟩ | ⟨r6b,h9c,rfl⟩
    ·refine dcO 19 rfl (by kernel_rfl) (by rfl) (Ac Mj (by rfl)) (FW r7a.Den r8a.Den A1e c2e A9e c0f w4b (tbx X1c hT) n8f n9f (.ok r6b) h9c) ?_
     rintro _ w2c E3b ⟨A0d,c1d,rfl,n1j⟩
     refine dnrm ?_
     have X2j:=xtr X1c E3b
     have S8k:=S9i.trans E3b
     refine dA 20 rfl (fun _=>AL (vals:=[(0,.agg #[.bool r0c.Neg,.slice A7c (sz r0c.Abs) c8c]),(1,.slice A0d (sz r6b) c1d)]) (cells:=[.bool r0c.Neg,.slice A7c (sz r0c.Abs) c8c,.slice A0d (sz r6b) c1d]) (by rfl) (by kernel_rfl)) ?_
     have q2d:=(((((((q4g.ext E1b).ext F2b).ext E2a).ext F1a).ext E0a).ext E0b).ext E5b).ext E3b
     refine dkk 21 EM q2d fun w0g U3d q3j=>?_
     have X4j:=belU X2j U3d g5g
     refine Cx (by kernel_rfl) ?_
     refine h1i _ _<|wp_ret ?_
     have n5j:=(n8i.ext E3b).upd U3d q2d (by decide)
     exact Gd f0j rfl (Res.cellN rfl Bl q3j rfl rfl Res.nil) (Cl X4j ⟨A7c,c8c,A0d,c1d,rfl,n5j,(n1j.upd U3d q2d (by decide))⟩)
    ·refine dcP 19 rfl (by kernel_rfl) (by rfl) (Ac Mj (by rfl)) (FW r7a.Den r8a.Den A1e c2e A9e c0f w4b (tbx X1c hT) n8f n9f (.error r6b) h9c) fun w2c E3b=>?_
     have X6j:=xtr X1c E3b
     exact ⟨rfl,AP X6j⟩
   ·refine dcP 13 rfl (by kernel_rfl) (by rfl) (Ac Mj (by rfl)) (FW r7a.Num.Abs r8a.Num.Abs A9d c0e A7e c8e w5a (tbx X8b hT) n6f ((n1f.ext F1a).ext E0a) (.error r9b) h6c) fun w6a E0b=>?_
    have X7j:=xtr X8b E0b
    exact ⟨rfl,AP X7j⟩
  ·refine scP (Ac OR (by rfl)) (IV x1.Num x0.Den A7 c8 A4 c5 w6 (tbx X4a hT) (n9.ext X4a) (n6.ext X4a) (.error r8a) h4c) fun w7 E2a=>?_
   have X8j:=xtr X4a E2a
   exact ⟨rfl,AP X8j⟩
 ·refine scP (Ac OR (by rfl)) (IV x0.Num x1.Den A1 c2 A5a c6a w3 (tbx X3a hT) (n3.ext X3a) (n4b.ext X3a) (.error r7a) h3c) fun w4 E1b=>?_
  have X9j:=xtr X3a E1b
  exact ⟨rfl,AP X9j⟩
theorem NF (x0:Ap) (x1:Ap) (A1:OA) (c2:Nat) (A4:OA) (c5:Nat) (A7:OA) (c8:Nat) (A4a:OA) (c5a:Nat) (w:World) (hT:TB w) (n3:RU w A1 c2 x0.Num.Abs) (n6:RU w A4 c5 x0.Den) (n9:RU w A7 c8 x1.Num.Abs) (n8a:RU w A4a c5a x1.Den) (r:Ap × Int) (hr:IN x0 x1=some r) :
  Calls prog 93 #[.agg #[.bool x0.Num.Neg,.slice A1 (sz x0.Num.Abs) c2,.slice A4 (sz x0.Den) c5],.agg #[.bool x1.Num.Neg,.slice A7 (sz x1.Num.Abs) c8,.slice A4a (sz x1.Den) c5a]] w (Ret KZ w r):=by
 unfold IN at hr
 obtain ⟨q0,hq0,hr0⟩:=Ad hr
 unfold Lx at hq0
 go_enter_defers func93,ntmps93
 refine ws fun h5d=>Ah<|sbx rfl rfl fun b6g w1 E4c g7g q6d=>?_
 refine sbx rfl rfl fun b8g w2 E5c g7d q8d=>?_
 have g9g:=nlt E4c.size g7d
 have X6c:=xtr E4c E5c
 refine sal HK fun b4b w3 E5b g9d q6b=>?_
 have g7b:=nlt X6c.size g9d
 have X7c:=xtr X6c E5b
 refine sal JN fun b8b w4 E7a g0e q9b=>?_
 have g0c:=nlt X7c.size g0e
 have X8c:=xtr X7c E7a
 have q9c:=(q8d.ext E5b).ext E7a
 refine nx h5d fun h1e=>HP (vs:=[.pointer (some ⟨b4b,0,none⟩),.pointer (some ⟨b8b,0,none⟩)]) (by rfl) (by rfl)<|nx h1e fun h2e=>have q0d:=((q6d.ext E5c).ext E5b).ext E7a;sV2 (Ak Bl rfl q0d rfl) (Ak Bl rfl q9c rfl) ?_
 refine Dj (vals:=[(0,.agg #[.bool x0.Num.Neg,.slice A1 (sz x0.Num.Abs) c2,.slice A4 (sz x0.Den) c5]),(1,.agg #[.bool x1.Num.Neg,.slice A7 (sz x1.Num.Abs) c8,.slice A4a (sz x1.Den) c5a])]) (cs:=[.bool x0.Num.Neg,.slice A1 (sz x0.Num.Abs) c2,.slice A4 (sz x0.Den) c5,.bool x1.Num.Neg,.slice A7 (sz x1.Num.Abs) c8,.slice A4a (sz x1.Den) c5a]) Hj EM HK (by rfl) (by decide) (by kernel_rfl) fun b1d w5 E3a g3e q2d=>?_
 refine nrm ?_
 have g0h:=nlt X8c.size g3e
 have X0a:=xtr X8c E3a
 rcases AC hq0 with ⟨r9a,h1c,f4e⟩ | ⟨r9a,h1c,rfl⟩
 ·refine scO (Ac KN (by rfl)) (Em x0 x1 b1d A1 c2 A4 c5 A7 c8 A4a c5a w5 (tbx X0a hT) (n3.ext X0a) (n6.ext X0a) (n9.ext X0a) (n8a.ext X0a) q2d (.ok r9a) h1c) ?_
  rintro _ w6 E2a rfl
  refine nrm ?_
  have X1a:=xtr X0a E2a
  refine nx h2e fun h5e=>sV (Ak Bl rfl ((q0d.ext E3a).ext E2a) rfl) ?_
  have q6e:=(q9c.ext E3a).ext E2a
  refine sV (Ak Bl rfl q6e rfl) ?_
  rcases AC f4e with ⟨r0b,h2c,f7e⟩ | ⟨r0b,h2c,rfl⟩
  ·refine scO (Ac Pp (by rfl)) (Iy x0 x1 A1 c2 A4 c5 A7 c8 A4a c5a w6 (tbx X1a hT) (n3.ext X1a) (n6.ext X1a) (n9.ext X1a) (n8a.ext X1a) (.ok r0b) h2c) ?_
   rintro _ w7 E6a ⟨A8e,c9e,A0f,c1f,rfl,n2f,n3f⟩
   refine nrm ?_
   have X4f:=xtr X1a E6a
   have q1b:=(((q6b.ext E7a).ext E3a).ext E2a).ext E6a
   refine ss EM q1b fun w8 U2b q5f=>?_
   have X6f:=belU X4f U2b g7b
   have q3d:=((q9b.ext E3a).ext E2a).ext E6a
   have ne4d:=(Bx.neT q3d q1b (by decide))
   have q3c:=q3d.upd U2b ne4d
   refine ss HU q3c fun w9 U3b q7f=>?_
   have X8f:=belU X6f U3b g0c
   refine wh h5e<|wp_ret ?_
   have n9f:=(n2f.upd U2b q1b (by decide)).upd U3b q3c (by decide)
   have n0g:=(n3f.upd U2b q1b (by decide)).upd U3b q3c (by decide)
   obtain rfl:=sj f7e
   obtain rfl:=sj hr0
   exact NJ EW IF rfl (Res.cellN rfl Bl (q5f.upd U3b (Ne.symm ne4d)) rfl rfl (Res.cell1 rfl CO (Bx.cell q7f rfl) Res.nil)) (AJ X8f ⟨A8e,c9e,A0f,c1f,rfl,n9f,n0g⟩)
  ·refine scP (Ac Pp (by rfl)) (Iy x0 x1 A1 c2 A4 c5 A7 c8 A4a c5a w6 (tbx X1a hT) (n3.ext X1a) (n6.ext X1a) (n9.ext X1a) (n8a.ext X1a) (.error r0b) h2c) fun w7 E6a=>?_
   have X1g:=xtr X1a E6a
   have q2g:=(((q6b.ext E7a).ext E3a).ext E2a).ext E6a
   have q3g:=((q9b.ext E3a).ext E2a).ext E6a
   refine Kg IF (Cj b4b b8b (.bool false:Value) (.slice none 0 0:Value) (.slice none 0 0:Value) (.int .i64 0:Value) r0b q2g q3g) rfl ?_
   rintro w9 ⟨u9,q9,q9'⟩
   obtain rfl:=sj hr0
   exact ⟨_,(Res.cellN rfl Bl q9 rfl rfl (Res.cell1 rfl CO (Bx.cell q9' rfl) Res.nil)),AJ (u9.toExt X1g g7b g0c) ⟨none,0,none,0,rfl,RU.nil _,RU.nil _⟩⟩
 ·refine scP (Ac KN (by rfl)) (Em x0 x1 b1d A1 c2 A4 c5 A7 c8 A4a c5a w5 (tbx X0a hT) (n3.ext X0a) (n6.ext X0a) (n9.ext X0a) (n8a.ext X0a) q2d (.error r9a) h1c) fun w6 E2a=>?_
  have X4g:=xtr X0a E2a
  have q5g:=((q6b.ext E7a).ext E3a).ext E2a
  refine Kg IF (Cj b4b b8b (.bool false:Value) (.slice none 0 0:Value) (.slice none 0 0:Value) (.int .i64 0:Value) r9a q5g ((q9b.ext E3a).ext E2a)) rfl ?_
  rintro w9 ⟨u9,q9,q9'⟩
  obtain rfl:=sj hr0
  exact ⟨_,(Res.cellN rfl Bl q9 rfl rfl (Res.cell1 rfl CO (Bx.cell q9' rfl) Res.nil)),AJ (u9.toExt X4g g7b g0c) ⟨none,0,none,0,rfl,RU.nil _,RU.nil _⟩⟩
theorem c_ratio_zero (x0:Ap) (A1:OA) (c2:Nat) (A4:OA) (c5:Nat) (w:World) (hT:TB w) (n3:RU w A1 c2 x0.Num.Abs) (n6:RU w A4 c5 x0.Den) (r:Bool) (hr:Ja x0=some r) :
  Calls prog 175 #[.agg #[.bool x0.Num.Neg,.slice A1 (sz x0.Num.Abs) c2,.slice A4 (sz x0.Den) c5]] w (Ret Gi w r):=by
 unfold Ja at hr
 go_enter func175,ntmps175
 refine ws fun h7=>Ah<|sbx rfl rfl fun b8 w1 E9 g3a q1a=>?_
 refine sV (Ab rfl) ?_
 refine nx h7 fun h2a=>sV3 (Af (o':=0) Gv rfl rfl) (Af (o':=1) BI rfl rfl) (Ag Ci rfl (Bx.cell q1a rfl)) ?_
 refine sV (AD CH rfl) ?_
 refine sbl (Cy rfl rfl) fun z0a hz0a=>?_
 refine sV (Ab rfl) ?_
 refine wh h2a<|wp_ret ?_
 obtain rfl:z0a=decide ((sz x0.Num.Abs:Int)=0):=bz hz0a
 exact Bn hr E9 rfl
theorem c_ratio_inverse (x0:Ap) (A1:OA) (c2:Nat) (A4:OA) (c5:Nat) (w:World) (hT:TB w) (n3:RU w A1 c2 x0.Num.Abs) (n6:RU w A4 c5 x0.Den) (r:Ap) (hr:Iz x0=some r) :
  Calls prog 176 #[.agg #[.bool x0.Num.Neg,.slice A1 (sz x0.Num.Abs) c2,.slice A4 (sz x0.Den) c5]] w (Ret Oc w r):=by
 unfold Iz at hr
 go_enter func176,ntmps176
 refine ws fun h7=>Ah<|sbx rfl rfl fun b8 w1 E9 g3c q2b=>?_
 refine sal HK fun b4c w2 E8a g3b q4b=>?_
 have g5b:=nlt E9.size g3b
 have X6b:=xtr E9 E8a
 refine wh h7<|ws fun h7b=>DT [10] 11 mo rfl fun w3 E2a S0a=>have X3a:=xtr X6b E2a;dA 0 rfl (fun _=>Af (o':=0) Gv rfl rfl) ?_
 refine dA 1 rfl (fun _=>Af (o':=0) Fo rfl rfl) ?_
 have q4a:=(q2b.ext E8a).ext E2a
 refine dV 2 rfl (fun _ hw=>Ag Gy rfl (Bx.cell (q4a.ext hw) rfl)) S0a ?_
 refine dA 3 rfl (fun _=>Af (o':=2) GT rfl rfl) ?_
 refine dV 4 rfl (fun _ hw=>Ag Ci rfl (Bx.cell (q4a.ext hw) rfl)) S0a ?_
 refine dA2 6 7 rfl rfl (fun _=>Af (o':=0) Gv rfl rfl) (fun _=>Af (o':=1) BI rfl rfl) ?_
 refine dV 8 rfl (fun _ hw=>Ag Ci rfl (Bx.cell (q4a.ext hw) rfl)) S0a ?_
 refine dcn hr 5 rfl (by rfl) (Ac KR (by rfl)) (DQ x0.Num.Neg x0.Den A4 c5 w3 (tbx X3a hT) (n6.ext X3a)) fun r1a f8b w4 A5a c6a E7a n9b=>?_
 have X0c:=xtr X3a E7a
 have S5c:=S0a.trans E7a
 refine dA 9 rfl (fun _=>AL (vals:=[(0,.agg #[.bool r1a.Neg,.slice A5a (sz r1a.Abs) c6a]),(1,.slice A1 (sz x0.Num.Abs) c2)]) (cells:=[.bool r1a.Neg,.slice A5a (sz r1a.Abs) c6a,.slice A1 (sz x0.Num.Abs) c2]) (by rfl) (by kernel_rfl)) ?_
 have q9a:=(q4b.ext E2a).ext E7a
 refine dkk 10 EM q9a fun w5 U0b q1c=>?_
 have X1b:=belU X0c U0b g5b
 refine Cx (by kernel_rfl) ?_
 refine h7b _ _<|wp_ret ?_
 have n2c:=n9b.upd U0b q9a (by decide)
 exact He f8b Bl q1c X1b ⟨A5a,c6a,A1,c2,rfl,n2c,(n3.ext X1b)⟩
theorem c_ratio_Div (x0:Ap) (x1:Ap) (A1:OA) (c2:Nat) (A4:OA) (c5:Nat) (A7:OA) (c8:Nat) (A2a:OA) (c5a:Nat) (w:World) (hT:TB w) (n3:RU w A1 c2 x0.Num.Abs) (n6:RU w A4 c5 x0.Den) (n9:RU w A7 c8 x1.Num.Abs) (n2b:RU w A2a c5a x1.Den) (r:Ap × Int) (hr:Hl x0 x1=some r) :
  Calls prog 94 #[.agg #[.bool x0.Num.Neg,.slice A1 (sz x0.Num.Abs) c2,.slice A4 (sz x0.Den) c5],.agg #[.bool x1.Num.Neg,.slice A7 (sz x1.Num.Abs) c8,.slice A2a (sz x1.Den) c5a]] w (Ret KZ w r):=by
 unfold Hl at hr
 obtain ⟨q0,hq0,hr0⟩:=Ad hr
 unfold Kj at hq0
 go_enter_defers func94,ntmps94
 refine ws fun h7d=>Ah<|sbx rfl rfl fun b5j w1 E8d g6j q6f=>?_
 refine sbx rfl rfl fun b7j w2 E9d g7f q8f=>?_
 have g8j:=nlt E8d.size g7f
 have X0e:=xtr E8d E9d
 refine sal HK fun b3b w3 E8c g9f q4b=>?_
 have g5b:=nlt X0e.size g9f
 have X1e:=xtr X0e E8c
 refine sal JN fun b6b w4 E9a g0g q7b=>?_
 have g8b:=nlt X1e.size g0g
 have X2e:=xtr X1e E9a
 have q3e:=(q8f.ext E8c).ext E9a
 refine nx h7d fun h1g=>HP (vs:=[.pointer (some ⟨b3b,0,none⟩),.pointer (some ⟨b6b,0,none⟩)]) (by rfl) (by rfl)<|nx h1g fun h2g=>have q4e:=((q6f.ext E9d).ext E8c).ext E9a;sV2 (Ak Bl rfl q4e rfl) (Ak Bl rfl q3e rfl) ?_
 refine Dj (vals:=[(0,.agg #[.bool x0.Num.Neg,.slice A1 (sz x0.Num.Abs) c2,.slice A4 (sz x0.Den) c5]),(1,.agg #[.bool x1.Num.Neg,.slice A7 (sz x1.Num.Abs) c8,.slice A2a (sz x1.Den) c5a])]) (cs:=[.bool x0.Num.Neg,.slice A1 (sz x0.Num.Abs) c2,.slice A4 (sz x0.Den) c5,.bool x1.Num.Neg,.slice A7 (sz x1.Num.Abs) c8,.slice A2a (sz x1.Den) c5a]) Hj EM HK (by rfl) (by decide) (by kernel_rfl) fun b5e w5 E3a g3g q6e=>?_
 refine nrm ?_
 have g9j:=nlt X2e.size g3g
 have X1a:=xtr X2e E3a
 rcases AC hq0 with ⟨r9b,h9c,f4g⟩ | ⟨r9b,h9c,rfl⟩
 ·refine scO (Ac KN (by rfl)) (Em x0 x1 b5e A1 c2 A4 c5 A7 c8 A2a c5a w5 (tbx X1a hT) (n3.ext X1a) (n6.ext X1a) (n9.ext X1a) (n2b.ext X1a) q6e (.ok r9b) h9c) ?_
  rintro _ w6 E0a rfl
  refine nrm ?_
  have X0c:=xtr X1a E0a
  refine nx h2g fun h5g=>have q7e:=(q3e.ext E3a).ext E0a;sV (Ak Bl rfl q7e rfl) ?_
  refine scr f4g (Ac en_175 (by rfl)) (c_ratio_zero x1 A7 c8 A2a c5a w6 (tbx X0c hT) (n9.ext X0c) (n2b.ext X0c)) fun r0d f6g w7 E6a=>?_
  have X1c:=xtr X0c E6a
  refine sbl (FL rfl) fun z1d hz1d=>?_
  obtain rfl:z1d=decide (¬(r0d=true)):=bz hz1d
  rcases AC f6g with ⟨r2c,h2d,f7g⟩ | ⟨r2c,h2d,rfl⟩
  ·refine scO (Ac LN (by rfl)) (GF (decide (¬(r0d=true))) 8 w7 (tbx X1c hT)  (.ok r2c) h2d) ?_
   rintro _ w8 E4a rfl
   refine nrm ?_
   have X8g:=xtr X1c E4a
   refine wh h5g<|ws fun h9g=>DT [4,5] 6 mo rfl fun w9 E0b S3d=>?_
   have X3c:=xtr X8g E0b
   refine dV 0 rfl (fun _ hw=>Ak Bl rfl ((((((q4e.ext E3a).ext E0a).ext E6a).ext E4a).ext E0b).ext hw) rfl) S3d ?_ (hQ:=fun _ _ _ h=>dq (rs:=[.cell 4 65,.cell 5 33]) rfl (by decide) h)
   refine dV 1 rfl (fun _ hw=>Ak Bl rfl ((((q7e.ext E6a).ext E4a).ext E0b).ext hw) rfl) S3d ?_ (hQ:=fun _ _ _ h=>dq (rs:=[.cell 4 65,.cell 5 33]) rfl (by decide) h)
   obtain ⟨r4d,h0h,f1h⟩:=Ad f7g
   refine dc 2 rfl (by kernel_rfl) (by rfl) (Ac en_176 (by rfl)) (c_ratio_inverse x1 A7 c8 A2a c5a w9 (tbx X3c hT) (n9.ext X3c) (n2b.ext X3c) r4d h0h) ?_
   rintro _ w2a E1b ⟨A8e,c9e,A0f,c1f,rfl,n2f,n3f⟩
   refine dnrm ?_
   have X7a:=xtr X3c E1b
   have S2h:=S3d.trans E1b
   rcases AC f1h with ⟨r4c,h5d,f3h⟩ | ⟨r4c,h5d,rfl⟩
   ·refine dcO 3 rfl (by kernel_rfl) (by rfl) (Ac Pp (by rfl)) (Iy x0 r4d A1 c2 A4 c5 A8e c9e A0f c1f w2a (tbx X7a hT) (n3.ext X7a) (n6.ext X7a) n2f n3f (.ok r4c) h5d) ?_
    rintro _ w5a E8a ⟨A4h,c5h,A6h,c7h,rfl,n8h,n9h⟩
    refine dnrm ?_
    have X0i:=xtr X7a E8a
    have S0k:=S2h.trans E8a
    have q5c:=(((((((q4b.ext E9a).ext E3a).ext E0a).ext E6a).ext E4a).ext E0b).ext E1b).ext E8a
    refine dkk 4 EM q5c fun w2b U6c q1i=>?_
    have X2i:=belU X0i U6c g5b
    have q4f:=((((((q7b.ext E3a).ext E0a).ext E6a).ext E4a).ext E0b).ext E1b).ext E8a
    have ne5f:=(Bx.neT q4f q5c (by decide))
    have q6d:=q4f.upd U6c ne5f
    refine dkk 5 HU q6d fun w7d U7c q3i=>?_
    have X4i:=belU X2i U7c g8b
    refine Cx (by kernel_rfl) ?_
    refine h9g _ _<|wp_ret ?_
    have n5i:=(n8h.upd U6c q5c (by decide)).upd U7c q6d (by decide)
    have n6i:=(n9h.upd U6c q5c (by decide)).upd U7c q6d (by decide)
    obtain rfl:=sj f3h
    obtain rfl:=sj hr0
    exact NJ EW IF rfl (Res.cellN rfl Bl (q1i.upd U7c (Ne.symm ne5f)) rfl rfl (Res.cell1 rfl CO (Bx.cell q3i rfl) Res.nil)) (AJ X4i ⟨A4h,c5h,A6h,c7h,rfl,n5i,n6i⟩)
   ·refine dcP 3 rfl (by kernel_rfl) (by rfl) (Ac Pp (by rfl)) (Iy x0 r4d A1 c2 A4 c5 A8e c9e A0f c1f w2a (tbx X7a hT) (n3.ext X7a) (n6.ext X7a) n2f n3f (.error r4c) h5d) fun w5a E8a=>?_
    have X7i:=xtr X7a E8a
    have q8i:=(((((((q4b.ext E9a).ext E3a).ext E0a).ext E6a).ext E4a).ext E0b).ext E1b).ext E8a
    have q9i:=((((((q7b.ext E3a).ext E0a).ext E6a).ext E4a).ext E0b).ext E1b).ext E8a
    refine Kg IF (Cj b3b b6b (.bool false:Value) (.slice none 0 0:Value) (.slice none 0 0:Value) (.int .i64 0:Value) r4c q8i q9i) rfl ?_
    rintro w9 ⟨u9,q9,q9'⟩
    obtain rfl:=sj hr0
    exact ⟨_,(Res.cellN rfl Bl q9 rfl rfl (Res.cell1 rfl CO (Bx.cell q9' rfl) Res.nil)),AJ (u9.toExt X7i g5b g8b) ⟨none,0,none,0,rfl,RU.nil _,RU.nil _⟩⟩
  ·refine scP (Ac LN (by rfl)) (GF (decide (¬(r0d=true))) 8 w7 (tbx X1c hT)  (.error r2c) h2d) fun w8 E4a=>?_
   have X0j:=xtr X1c E4a
   have q1j:=((((q4b.ext E9a).ext E3a).ext E0a).ext E6a).ext E4a
   have q2j:=(((q7b.ext E3a).ext E0a).ext E6a).ext E4a
   refine Kg IF (Cj b3b b6b (.bool false:Value) (.slice none 0 0:Value) (.slice none 0 0:Value) (.int .i64 0:Value) r2c q1j q2j) rfl ?_
   rintro w9 ⟨u9,q9,q9'⟩
   obtain rfl:=sj hr0
   exact ⟨_,(Res.cellN rfl Bl q9 rfl rfl (Res.cell1 rfl CO (Bx.cell q9' rfl) Res.nil)),AJ (u9.toExt X0j g5b g8b) ⟨none,0,none,0,rfl,RU.nil _,RU.nil _⟩⟩
 ·refine scP (Ac KN (by rfl)) (Em x0 x1 b5e A1 c2 A4 c5 A7 c8 A2a c5a w5 (tbx X1a hT) (n3.ext X1a) (n6.ext X1a) (n9.ext X1a) (n2b.ext X1a) q6e (.error r9b) h9c) fun w6 E0a=>?_
  have X3j:=xtr X1a E0a
  have q4j:=((q4b.ext E9a).ext E3a).ext E0a
  refine Kg IF (Cj b3b b6b (.bool false:Value) (.slice none 0 0:Value) (.slice none 0 0:Value) (.int .i64 0:Value) r9b q4j ((q7b.ext E3a).ext E0a)) rfl ?_
  rintro w9 ⟨u9,q9,q9'⟩
  obtain rfl:=sj hr0
  exact ⟨_,(Res.cellN rfl Bl q9 rfl rfl (Res.cell1 rfl CO (Bx.cell q9' rfl) Res.nil)),AJ (u9.toExt X3j g5b g8b) ⟨none,0,none,0,rfl,RU.nil _,RU.nil _⟩⟩
theorem KT (x0_0:Ap) (bp0:Nat) (A1:OA) (c2:Nat) (A4:OA) (c5:Nat) (w:World) (hT:TB w) (n3:RU w A1 c2 x0_0.Num.Abs) (n6:RU w A4 c5 x0_0.Den) (q7:Bx w bp0 65 [.bool x0_0.Num.Neg,.slice A1 (sz x0_0.Num.Abs) c2,.slice A4 (sz x0_0.Den) c5]) (r:Except Int (Unit)) (hr:Ic x0_0=some r) :
  Calls prog 170 #[.slice (some ⟨bp0,0,none⟩) 1 1] w (RetE 232 KD w r):=by
 unfold Ic at hr
 go_enter func170,ntmps170
 refine ws fun h8=>Ah<|sV3 (Aa rfl) (AD Hj rfl) (Aa rfl) ?_
 refine wh h8 ?_
 apply wp_block
 refine GO<|AW<|ws fun h9=>Ah<|sV (HI (v:=.bool true) (Bv rfl rfl) (by rfl)) ?_
 refine wh h9<|ws fun h6a=>ct rfl<|wp_skip<|h6a _ _<|ws fun h7a=>?_
 apply wp_block
 refine ws fun h8a=>Ah<|sV (CN (o':=0) Hj EM rfl rfl (by decide) (by decide) (by decide)) ?_
 refine sV (Ak Bl rfl q7 rfl) ?_
 refine sal HK fun b0c w1 E9a g0b q1b=>?_
 refine ss EM q1b fun w2 U2b q3b=>?_
 have F0a:=belU E9a U2b g0b
 refine wh h8a<|Ah<|sV (Ak Bl rfl q3b rfl) ?_
 refine scr hr (Ac MD (by rfl)) (GK (⟨(⟨x0_0.Num.Neg,(limbs x0_0.Num.Abs)⟩:Ar),(limbs x0_0.Den)⟩:BT) A1 c2 A4 c5 w2 (tbx F0a hT) (n3.ext F0a) (n6.ext F0a)) fun r5a f4b w3 E5b=>?_
 have X1a:=xtr F0a E5b
 rcases AC f4b with ⟨r2a,h3a,f6b⟩ | ⟨r2a,h3a,rfl⟩
 ·refine scO (Ac LN (by rfl)) (GF r5a 1 w3 (tbx X1a hT)  (.ok r2a) h3a) ?_
  rintro _ w4 E4a rfl
  refine nrm ?_
  have X7b:=xtr X1a E4a
  refine wh h7a<|Ah<|sV (AV (c:=1) rfl rfl (by decide)) ?_
  refine sV (Aa rfl) ?_
  refine AF<|AW<|ws fun h8b=>Ah<|sV (HI (v:=.bool false) (Bv rfl rfl) (by rfl)) ?_
  refine wh h8b<|ws fun h1c=>cf rfl<|wp_exit ?_
  simp only [Exit.then,Exit.inBlock,↓reduceIte,Nat.reduceEqDiff]
  obtain rfl:=sj f6b
  exact MS rfl Res.nil (Cl X7b rfl)
 ·refine scP (Ac LN (by rfl)) (GF r5a 1 w3 (tbx X1a hT)  (.error r2a) h3a) fun w4 E4a=>?_
  have X9b:=xtr X1a E4a
  exact ⟨rfl,AP X9b⟩
theorem c_ratio_Neg (x0:Ap) (A1:OA) (c2:Nat) (A4:OA) (c5:Nat) (w:World) (hT:TB w) (n3:RU w A1 c2 x0.Num.Abs) (n6:RU w A4 c5 x0.Den) (r:Ap × Int) (hr:JP x0=some r) :
  Calls prog 177 #[.agg #[.bool x0.Num.Neg,.slice A1 (sz x0.Num.Abs) c2,.slice A4 (sz x0.Den) c5]] w (Ret KZ w r):=by
 unfold JP at hr
 obtain ⟨q0,hq0,hr0⟩:=Ad hr
 unfold Lh at hq0
 go_enter_defers func177,ntmps177
 refine ws fun h7=>Ah<|sbx rfl rfl fun b8 w1 E9 g3f q6c=>?_
 refine sal HK fun b2b w2 E3b g7c q4b=>?_
 have g5b:=nlt E9.size g7c
 have X6b:=xtr E9 E3b
 refine sal JN fun b7b w3 E3a g8c q8b=>?_
 have g9b:=nlt X6b.size g8c
 have X0c:=xtr X6b E3a
 have q1c:=(q6c.ext E3b).ext E3a
 refine nx h7 fun h9c=>HP (vs:=[.pointer (some ⟨b2b,0,none⟩),.pointer (some ⟨b7b,0,none⟩)]) (by rfl) (by rfl)<|nx h9c fun h0d=>sV (Ak Bl rfl q1c rfl) ?_
 refine Dj (vals:=[(0,.agg #[.bool x0.Num.Neg,.slice A1 (sz x0.Num.Abs) c2,.slice A4 (sz x0.Den) c5])]) (cs:=[.bool x0.Num.Neg,.slice A1 (sz x0.Num.Abs) c2,.slice A4 (sz x0.Den) c5]) Hj EM HK (by rfl) (by decide) (by kernel_rfl) fun b2c w4 E2a g1d q3c=>?_
 refine nrm ?_
 have g4f:=nlt X0c.size g1d
 have X0a:=xtr X0c E2a
 rcases AC hq0 with ⟨r4a,h9a,f2d⟩ | ⟨r4a,h9a,rfl⟩
 ·refine scO (Ac KN (by rfl)) (KT x0 b2c A1 c2 A4 c5 w4 (tbx X0a hT) (n3.ext X0a) (n6.ext X0a) q3c (.ok r4a) h9a) ?_
  rintro _ w5 E1a rfl
  refine nrm ?_
  have X5a:=xtr X0a E1a
  refine nx h0d fun h3d=>have q4d:=(q1c.ext E2a).ext E1a;sV (Ak Bl rfl q4d rfl) ?_
  obtain ⟨r5d,h6d,f7d⟩:=Ad f2d
  refine sc (Ac Rx (by rfl)) (KY x0 A1 c2 A4 c5 w5 (tbx X5a hT) (n3.ext X5a) (n6.ext X5a) r5d h6d) ?_
  rintro _ w6 E0b ⟨A8d,c9d,A0e,c1e,rfl,n2e,n3e⟩
  refine nrm ?_
  have X4e:=xtr X5a E0b
  have q6a:=(((q4b.ext E3a).ext E2a).ext E1a).ext E0b
  refine ss EM q6a fun w7 U7a q5e=>?_
  have X6e:=belU X4e U7a g5b
  have q4c:=((q8b.ext E2a).ext E1a).ext E0b
  have ne5c:=(Bx.neT q4c q6a (by decide))
  have q1b:=q4c.upd U7a ne5c
  refine ss HU q1b fun w8 U8a q7e=>?_
  have X8e:=belU X6e U8a g9b
  refine wh h3d<|wp_ret ?_
  have n9e:=(n2e.upd U7a q6a (by decide)).upd U8a q1b (by decide)
  have n0f:=(n3e.upd U7a q6a (by decide)).upd U8a q1b (by decide)
  obtain rfl:=sj f7d
  obtain rfl:=sj hr0
  exact NJ EW IF rfl (Res.cellN rfl Bl (q5e.upd U8a (Ne.symm ne5c)) rfl rfl (Res.cell1 rfl CO (Bx.cell q7e rfl) Res.nil)) (AJ X8e ⟨A8d,c9d,A0e,c1e,rfl,n9e,n0f⟩)
 ·refine scP (Ac KN (by rfl)) (KT x0 b2c A1 c2 A4 c5 w4 (tbx X0a hT) (n3.ext X0a) (n6.ext X0a) q3c (.error r4a) h9a) fun w5 E1a=>?_
  have X1f:=xtr X0a E1a
  have q2f:=((q4b.ext E3a).ext E2a).ext E1a
  refine Kg IF (Cj b2b b7b (.bool false:Value) (.slice none 0 0:Value) (.slice none 0 0:Value) (.int .i64 0:Value) r4a q2f ((q8b.ext E2a).ext E1a)) rfl ?_
  rintro w9 ⟨u9,q9,q9'⟩
  obtain rfl:=sj hr0
  exact ⟨_,(Res.cellN rfl Bl q9 rfl rfl (Res.cell1 rfl CO (Bx.cell q9' rfl) Res.nil)),AJ (u9.toExt X1f g5b g9b) ⟨none,0,none,0,rfl,RU.nil _,RU.nil _⟩⟩
theorem c_sorobanlaw04_rooted (x0:Ap) (x1:Int) (x2:Int) (A1:OA) (c2:Nat) (A4:OA) (c5:Nat) (w:World) (hT:TB w) (n3:RU w A1 c2 x0.Num.Abs) (n6:RU w A4 c5 x0.Den) (r:Bool) (hr:EU x0 x1 x2=some r) :
  Calls prog 95 #[.agg #[.bool x0.Num.Neg,.slice A1 (sz x0.Num.Abs) c2,.slice A4 (sz x0.Den) c5],.int .i64 x1,.int .i64 x2] w (Ret Gi w r):=by
 unfold EU at hr
 go_enter func95,ntmps95
 refine ws fun h7=>Ah<|sbx rfl rfl fun b8 w1 E9 g4b q5a=>?_
 refine sV (Ab rfl) ?_
 refine nx h7 fun h5b=>sV2 (Ak Bl rfl q5a rfl) (Ak Bl rfl q5a rfl) ?_
 obtain ⟨r6b,h2g,f3g⟩:=Ad hr
 refine sc (Ac SU (by rfl)) (NF x0 x0 A1 c2 A4 c5 A1 c2 A4 c5 w1 (tbx E9 hT) (n3.ext E9) (n6.ext E9) (n3.ext E9) (n6.ext E9) r6b h2g) ?_
 rintro _ w2 E5d ⟨A4g,c5g,A6g,c7g,rfl,n8g,n9g⟩
 refine nrm ?_
 have X6d:=xtr E9 E5d
 refine sV3 (Aa rfl) (Ai rfl rfl) (Ai rfl rfl) ?_
 refine sal HK fun b6n w3 E0h g7d q1h=>?_
 have g7n:=nlt X6d.size g7d
 refine ss EM q1h fun w4 U2h q3h=>?_
 have F7b:=belU E0h U2h g7d
 have X8d:=xtr X6d F7b
 refine sV (Ab rfl) ?_
 refine nx h5b fun h4h=>sV2 (Ak Bl rfl q3h rfl) (Aa rfl) ?_
 obtain ⟨r4a,h5h,f6h⟩:=Ad f3g
 refine sc (Ac Sf (by rfl)) (KO (⟨(⟨r6b.1.Num.Neg,(limbs r6b.1.Num.Abs)⟩:Ar),(limbs r6b.1.Den)⟩:BT) x1 A4g c5g A6g c7g w4 (tbx X8d hT) (n8g.ext F7b) (n9g.ext F7b) r4a h5h) ?_
 rintro _ w5 E9d ⟨A7h,c8h,A9h,c0i,rfl,n1i,n2i⟩
 refine nrm ?_
 have X0e:=xtr X8d E9d
 refine sV3 (Aa rfl) (Ai rfl rfl) (Ai rfl rfl) ?_
 refine sal Gp fun b8n w6 E3i g1e q4i=>?_
 have g9n:=nlt X0e.size g1e
 refine ss EG q4i fun w7 U5i q6i=>?_
 have F8b:=belU E3i U5i g1e
 have X5c:=xtr X0e F8b
 refine sV (Ab rfl) ?_
 refine wh h4h<|ws fun h7i=>ws fun h8i=>Ah<|sV (Aa rfl) ?_
 refine sbl (Il rfl rfl) fun z2e hz2e=>?_
 refine sV (Aa rfl) ?_
 obtain ⟨m9i,h0j,f1j⟩:=Ad f6h
 refine BH 6 (fun l l' w'=>∃(t3e:Value) (t4e:Value),w7=w'∧l'=(((l.set 28 t3e).set 29 t4e).set 30 (.bool m9i))) ?_ ?_
 ·intro HJ71
  rcases zi hz2e h0j with ⟨e6a,_,f2j⟩ | ⟨e6a,_,f3j⟩
  ·refine sQ rfl e6a ?_
   refine sQ rfl e6a ?_
   refine sV (Az (evb rfl e6a) rfl) ?_
   obtain rfl:=sj f2j
   exact HJ71 _ _ ⟨uu,uu,rfl,(by kernel_rfl)⟩
  ·refine sV (Aa rfl) ?_ (hw:=wgT rfl e6a)
   refine sbl (Il rfl rfl) (fun z6c hz6c=>?_) (hw:=wgT rfl e6a)
   refine sV (AE (evb rfl e6a) rfl) ?_
   obtain rfl:z6c=decide (¬r4a.2=0):=bz hz6c
   obtain rfl:=sj f3j
   exact HJ71 _ _ ⟨(.int .i64 r4a.2),(.bool (decide (¬r4a.2=0))),rfl,(by kernel_rfl)⟩
 ·rintro l' _ ⟨t3e,t4e,rfl,rfl⟩ l'' hl
  simp only [S0,S1] at hl;subst hl
  refine wh h8i ?_
  rcases zb f1j with ⟨e7c,f4j⟩ | ⟨e7c,f5j⟩
  ·refine ct e7c<|ws fun h6j=>Ah<|sV (Ab rfl) ?_
   refine wh h6j<|wp_ret ?_
   exact Bn f4j X5c rfl
  ·refine cf e7c<|wp_skip<|h7i _ _<|ws fun h7j=>Ah<|sV2 (Ak BB rfl q6i rfl) (Aa rfl) ?_
   obtain ⟨r3a,h8j,f9j⟩:=Ad f5j
   refine sc (Ac SK (by rfl)) (NB (⟨(⟨(⟨r4a.1.Lo.Man.Neg,(limbs r4a.1.Lo.Man.Abs)⟩:Ar),r4a.1.Lo.Exp⟩:Aq),(⟨(⟨r4a.1.Hi.Man.Neg,(limbs r4a.1.Hi.Man.Abs)⟩:Ar),r4a.1.Hi.Exp⟩:Aq)⟩:Am) x2 A7h c8h A9h c0i w7 (tbx X5c hT) (n1i.ext F8b) (n2i.ext F8b) r3a h8j) ?_
   rintro _ w8 E5e ⟨A8c,c9c,A0d,c1d,rfl,n0k,n1k⟩
   refine nrm ?_
   have X6e:=xtr X5c E5e
   refine sV3 (Aa rfl) (Ai rfl rfl) (Ai rfl rfl) ?_
   refine sal Gp fun b0o w9 E2k g7e q3k=>?_
   have g1o:=nlt X6e.size g7e
   refine ss EG q3k fun w4b U4k q8e=>?_
   have F9b:=belU E2k U4k g7e
   have X7a:=xtr X6e F9b
   refine sV (Ab rfl) ?_
   refine wh h7j<|ws fun h5k=>ws fun h6k=>Ah<|sV2 (Af (o':=0) Gv rfl rfl) (Af (o':=0) Fo rfl rfl) ?_
   have q8a:=(((((q5a.ext E5d).ext F7b).ext E9d).ext F8b).ext E5e).ext F9b
   refine sV (Ag Gy rfl (Bx.cell q8a rfl)) ?_
   refine wh h6k ?_
   obtain ⟨m0a,h9e,f7k⟩:=Ad f9j
   refine CG (fun l l' w'=>∃(t0f:Value) (t1f:Value) (t2f:Value) (t3f:Value) (t4f:Value) (A9a:OA) (c0b:Nat) (A1b:OA) (c2b:Nat),UpdS [b8] w4b w'∧Bx w' b8 65 [.bool m0a.2.1,.slice A9a (sz m0a.2.2.1) c0b,.slice A1b (sz m0a.2.2.2) c2b]∧RU w' A9a c0b m0a.2.2.1∧RU w' A1b c2b m0a.2.2.2∧l'=((((((l.set 8 (.int .i64 m0a.1)).set 40 t0f).set 41 t1f).set 42 t2f).set 43 t3f).set 44 t4f)) ?_ ?_
   ·rcases bft x0.Num.Neg with e3b | e3b
    ·have p8k:=e3b
     have f9k:=ifP p8k h9e
     refine ct e3b<|Ah<|sV (Ak Bl rfl q8a rfl) ?_
     obtain ⟨r1a,h0l,f1l⟩:=Ad f9k
     refine sc (Ac en_177 (by rfl)) (c_ratio_Neg x0 A1 c2 A4 c5 w4b (tbx X7a hT) (n3.ext X7a) (n6.ext X7a) r1a h0l) ?_
     rintro _ w5a E5f ⟨A0c,c1c,A2c,c3c,rfl,n2l,n3l⟩
     refine nrm ?_
     refine sV3 (Aa rfl) (Ai rfl rfl) (Ai rfl rfl) ?_
     have q2d:=q8a.ext E5f
     refine ss EM q2d fun w5b U3d q4l=>?_
     refine sV (Ab rfl) ?_
     refine AF ?_
     have n5l:=n2l.upd U3d q2d (by decide)
     have n6l:=n3l.upd U3d q2d (by decide)
     obtain rfl:=sj f1l
     exact ⟨_,rfl,(.tuple #[.agg #[.bool r1a.1.Num.Neg,.slice A0c (sz r1a.1.Num.Abs) c1c,.slice A2c (sz r1a.1.Den) c3c],.int .i64 r1a.2]),(.agg #[.bool x0.Num.Neg,.slice A1 (sz x0.Num.Abs) c2,.slice A4 (sz x0.Den) c5]),(.tuple #[.agg #[.bool r1a.1.Num.Neg,.slice A0c (sz r1a.1.Num.Abs) c1c,.slice A2c (sz r1a.1.Den) c3c],.int .i64 r1a.2]),(.agg #[.bool r1a.1.Num.Neg,.slice A0c (sz r1a.1.Num.Abs) c1c,.slice A2c (sz r1a.1.Den) c3c]),(.int .i64 r1a.2),A0c,c1c,A2c,c3c,(((UpdS.refl _ _).ext E5f).upd U3d (.inl im0)),q4l,n5l,n6l,(by kernel_rfl)⟩
    ·have p7l:=bF e3b
     have f8l:=ifN p7l h9e
     refine cf e3b<|wp_skip ?_
     obtain rfl:=sj f8l
     exact ⟨_,rfl,uu,uu,uu,uu,uu,A1,c2,A4,c5,(UpdS.refl _ _),q8a,(n3.ext X7a),(n6.ext X7a),(by kernel_rfl)⟩
   ·rintro l' w5a ⟨t0f,t1f,t2f,t3f,t4f,A9a,c0b,A1b,c2b,U4c,q9l,n0m,n1m,rfl⟩ l'' hl
    simp only [S0,S1] at hl;subst hl
    have X4d:=Kc X7a U4c (X7a).size (alc g4b al0)
    refine h5k _ _<|ws fun h2m=>Ah<|sV (Aa rfl) ?_
    refine sbl (Cy rfl rfl) fun z6f hz6f=>?_
    refine sV (Aa rfl) ?_
    obtain ⟨m3m,h4m,f5m⟩:=Ad f7k
    refine BH 9 (fun l l' w'=>∃(t7f:Value) (t8f:Value) (t9f:Value) (t0g:Value) (t1g:Value),UpdS [] w5a w'∧l'=((((((l.set 48 t7f).set 49 t8f).set 50 t9f).set 51 t0g).set 52 t1g).set 53 (.bool m3m))) ?_ ?_
    ·intro HJ196
     rcases zi hz6f h4m with ⟨e2a,_,f6m⟩ | ⟨e2a,_,f7m⟩
     ·have ne8m:=(Bx.neT q8e q8a (by decide))
      refine sV (Ak BB rfl (q8e.updS U4c (nmc ne8m nm0)) rfl) ?_ (hw:=wgT rfl e2a)
      refine sV (Aa rfl) ?_ (hw:=wgT rfl e2a)
      refine sV (Ak Bl rfl q9l rfl) ?_ (hw:=wgT rfl e2a)
      refine sV (Aa rfl) ?_ (hw:=wgT rfl e2a)
      have n9m:RU w5a A8c c9c r3a.1.Lo.Man.Abs:=(n0k.ext F9b).updS U4c (alc ⟨_,_,by decide,q8a⟩ al0)
      have n0n:RU w5a A0d c1d r3a.1.Hi.Man.Abs:=(n1k.ext F9b).updS U4c (alc ⟨_,_,by decide,q8a⟩ al0)
      refine scr f6m (Ac Od (by rfl)) (Ec r3a.1 r3a.2 (⟨(⟨m0a.2.1,m0a.2.2.1⟩:Ae),m0a.2.2.2⟩:Ap) m0a.1 A8c c9c A0d c1d A9a c0b A1b c2b w5a (tbx X4d hT) n9m n0n n0m n1m) (fun r1n f2n w5b E3n=>?_) (hw:=wgT rfl e2a)
      refine sV (Az (evb rfl e2a) rfl) ?_
      obtain rfl:=sj f2n
      exact HJ196 _ _ ⟨(.agg #[.bool r3a.1.Lo.Man.Neg,.slice A8c (sz r3a.1.Lo.Man.Abs) c9c,.int .i64 r3a.1.Lo.Exp,.bool r3a.1.Hi.Man.Neg,.slice A0d (sz r3a.1.Hi.Man.Abs) c1d,.int .i64 r3a.1.Hi.Exp]),(.int .i64 r3a.2),(.agg #[.bool m0a.2.1,.slice A9a (sz m0a.2.2.1) c0b,.slice A1b (sz m0a.2.2.2) c2b]),(.int .i64 m0a.1),(.bool r1n),((UpdS.refl _ _).ext E3n),(by kernel_rfl)⟩
     ·refine sQ rfl e2a ?_
      refine sQ rfl e2a ?_
      refine sQ rfl e2a ?_
      refine sQ rfl e2a ?_
      refine sQ rfl e2a ?_
      refine sV (AE (evb rfl e2a) rfl) ?_
      obtain rfl:=sj f7m
      exact HJ196 _ _ ⟨uu,uu,uu,uu,uu,(UpdS.refl _ _),(by kernel_rfl)⟩
    ·rintro l' w5b ⟨t7f,t8f,t9f,t0g,t1g,U4n,rfl⟩ l'' hl
     simp only [S0,S1] at hl;subst hl
     have X5n:=Kc X4d U4n (X4d).size al0
     refine sV (Ab rfl) ?_
     refine wh h2m<|wp_ret ?_
     exact Bn f5m X5n rfl
end Go.Proofs

