import Derived.Test.YtabiobmfelafoaaGreatDoorGen6
namespace Go.Proofs
set_option linter.unusedVariables false
set_option linter.unusedSimpArgs false
set_option maxHeartbeats 4000000
open Go.RowKit Go.Sb Go.Proofs.Sbn
set_option maxRecDepth 20000 in
theorem c_sorobanlaw04_DyadEncloses (x0:BT) (x1:BT) (x2:Am) (x3:Int) (x4:Int) (A1:OA) (c2:Nat) (A4:OA) (c5:Nat) (A7:OA) (c8:Nat) (A3a:OA) (c4a:Nat) (A3c:OA) (c0e:Nat) (A9g:OA) (c7e:Nat) (w:World) (hT:TB w) (n3:RLu w A1 c2 x0.Num.Abs) (n6:RLu w A4 c5 x0.Den) (n9:RLu w A7 c8 x1.Num.Abs) (n6b:RLu w A3a c4a x1.Den) (n2k:RLu w A3c c0e x2.Lo.Man.Abs) (n8e:RLu w A9g c7e x2.Hi.Man.Abs) (r:Bool) (hr:Ez x0 x1 x2 x3 x4=some r) :
  Calls Tryz.prog 13 #[.agg #[.bool x0.Num.Neg,.slice A1 x0.Num.Abs.length c2,.slice A4 x0.Den.length c5],.agg #[.bool x1.Num.Neg,.slice A7 x1.Num.Abs.length c8,.slice A3a x1.Den.length c4a],.agg #[.bool x2.Lo.Man.Neg,.slice A3c x2.Lo.Man.Abs.length c0e,.int .i64 x2.Lo.Exp,.bool x2.Hi.Man.Neg,.slice A9g x2.Hi.Man.Abs.length c7e,.int .i64 x2.Hi.Exp],.int .i64 x3,.int .i64 x4] w (Ret Gi w r):=by
 unfold Ez at hr
 refine Na Tryz.func13 rfl 167 ?_
 refine ws fun h4p=>Ah<|sbx rfl rfl fun b0a1 w1 E1e g1a1 q5p=>?_
 refine sbx rfl rfl fun b6p w2 E1j g7p q2e=>?_
 have g2a1:=nlt E1e.size g7p
 have X2j:=xtr E1e E1j
 refine sbx rfl rfl fun b8p w3 E1i g9e q3k=>?_
 have g9p:=nlt X2j.size g9e
 have X3j:=xtr X2j E1i
 refine sV (Ab rfl) ?_
 have q0q:=(q5p.ext E1j).ext E1i
 refine wh h4p<|ws fun h1q=>ws fun h0f=>Ah<|sV2 (Ak Bl rfl q0q rfl) (Ak Bl rfl (q2e.ext E1i) rfl) ?_
 refine Dj (vals:=[(0,.agg #[.bool x0.Num.Neg,.slice A1 x0.Num.Abs.length c2,.slice A4 x0.Den.length c5]),(1,.agg #[.bool x1.Num.Neg,.slice A7 x1.Num.Abs.length c8,.slice A3a x1.Den.length c4a])]) (cs:=[.bool x0.Num.Neg,.slice A1 x0.Num.Abs.length c2,.slice A4 x0.Den.length c5,.bool x1.Num.Neg,.slice A7 x1.Num.Abs.length c8,.slice A3a x1.Den.length c4a]) Hj EM HK (by rfl) (by decide) (by kernel_rfl) fun b2q w4 E1f g4k q0h=>?_
 refine nrm ?_
 have g3q:=nlt X3j.size g4k
 have X1h:=xtr X3j E1f
 refine scr hr (Ac en_89 (by rfl)) (c_sorobanlaw04_moderate__2 x0 x1 b2q A1 c2 A4 c5 A7 c8 A3a c4a w4 (tbx X1h hT) (n3.ext X1h) (n6.ext X1h) (n9.ext X1h) (n6b.ext X1h) q0h) fun r9as f3a1 w5 E2i=>?_
 have X3i:=xtr X1h E2i
 refine sbl (FL rfl) fun z4q hz4q=>?_
 refine sV (Aa rfl) ?_
 obtain ⟨m4a1,h5a1,f6a1⟩:=Ad f3a1
 refine BH 10 (fun l l' w'=>∃(t5q:Value) (t6q:Value) (t7q:Value),UpdS [] w5 w'∧l'=((((l.set 25 t5q).set 26 t6q).set 27 t7q).set 28 (.bool m4a1))) ?_ ?_
 ·intro HJ68
  rcases zi hz4q h5a1 with ⟨e7d,_,f7a1⟩ | ⟨e7d,_,f8a1⟩
  ·refine sQ rfl e7d ?_
   refine sQ rfl e7d ?_
   refine sQ rfl e7d ?_
   refine sV (Az (evb rfl e7d) rfl) ?_
   obtain rfl:=sj f7a1
   exact HJ68 _ _ ⟨uu,uu,uu,(UpdS.refl _ _),(by kernel_rfl)⟩
  ·refine sV (Ak BB rfl ((q3k.ext E1f).ext E2i) rfl) ?_ (hw:=wgT rfl e7d)
   refine scr f8a1 (Ac en_14 (by rfl)) (c_sorobanlaw04_few x2 A3c c0e A9g c7e w5 (tbx X3i hT) (n2k.ext X3i) (n8e.ext X3i)) (fun r5k f9a1 w6 E0a2=>?_) (hw:=wgT rfl e7d)
   refine sbl (FL rfl) (fun z6k hz6k=>?_) (hw:=wgT rfl e7d)
   refine sV (AE (evb rfl e7d) rfl) ?_
   obtain rfl:z6k=decide (¬(r5k=true)):=bz hz6k
   obtain rfl:=sj f9a1
   exact HJ68 _ _ ⟨(.agg #[.bool x2.Lo.Man.Neg,.slice A3c x2.Lo.Man.Abs.length c0e,.int .i64 x2.Lo.Exp,.bool x2.Hi.Man.Neg,.slice A9g x2.Hi.Man.Abs.length c7e,.int .i64 x2.Hi.Exp]),(.bool r5k),(.bool (decide (¬(r5k=true)))),((UpdS.refl _ _).ext E0a2),(by kernel_rfl)⟩
 ·rintro l' w6 ⟨t5q,t6q,t7q,U4j,rfl⟩ l'' hl
  simp only [S0,S1] at hl;subst hl
  have X2h:=Kc X3i U4j (X3i).size al0
  refine sV (Aa rfl) ?_
  obtain ⟨m1a2,h2a2,f3a2⟩:=Ad f6a1
  refine BH 14 (fun l l' w'=>∃(t8q:Value) (t9q:Value),w6=w'∧l'=(((l.set 30 t8q).set 31 t9q).set 32 (.bool m1a2))) ?_ ?_
  ·intro HJ93
   rcases zb h2a2 with ⟨e2f,f4a2⟩ | ⟨e2f,f5a2⟩
   ·refine sQ rfl e2f ?_
    refine sQ rfl e2f ?_
    refine sV (Az (evb rfl e2f) rfl) ?_
    obtain rfl:=sj f4a2
    exact HJ93 _ _ ⟨uu,uu,rfl,(by kernel_rfl)⟩
   ·refine sV (Aa rfl) ?_ (hw:=wgT rfl e2f)
    refine sbl (Bv rfl rfl) (fun z7k hz7k=>?_) (hw:=wgT rfl e2f)
    refine sV (AE (evb rfl e2f) rfl) ?_
    obtain rfl:z7k=decide (x3<1):=bz hz7k
    obtain rfl:=sj f5a2
    exact HJ93 _ _ ⟨(.int .i64 x3),(.bool (decide (x3<1))),rfl,(by kernel_rfl)⟩
  ·rintro l' _ ⟨t8q,t9q,rfl,rfl⟩ l'' hl
   simp only [S0,S1] at hl;subst hl
   refine sV (Aa rfl) ?_
   obtain ⟨m6a2,h7a2,f8a2⟩:=Ad f3a2
   refine BH 18 (fun l l' w'=>∃(t0r:Value) (t1r:Value),w6=w'∧l'=(((l.set 34 t0r).set 35 t1r).set 36 (.bool m6a2))) ?_ ?_
   ·intro HJ112
    rcases zb h7a2 with ⟨e3f,f9a2⟩ | ⟨e3f,f0a3⟩
    ·refine sQ rfl e3f ?_
     refine sQ rfl e3f ?_
     refine sV (Az (evb rfl e3f) rfl) ?_
     obtain rfl:=sj f9a2
     exact HJ112 _ _ ⟨uu,uu,rfl,(by kernel_rfl)⟩
    ·refine sV (Aa rfl) ?_ (hw:=wgT rfl e3f)
     refine sbl (Eh rfl rfl) (fun z8k hz8k=>?_) (hw:=wgT rfl e3f)
     refine sV (AE (evb rfl e3f) rfl) ?_
     obtain rfl:z8k=decide (500<x3):=bz hz8k
     obtain rfl:=sj f0a3
     exact HJ112 _ _ ⟨(.int .i64 x3),(.bool (decide (500<x3))),rfl,(by kernel_rfl)⟩
   ·rintro l' _ ⟨t0r,t1r,rfl,rfl⟩ l'' hl
    simp only [S0,S1] at hl;subst hl
    refine sV (Aa rfl) ?_
    obtain ⟨m1a3,h2a3,f3a3⟩:=Ad f8a2
    refine BH 22 (fun l l' w'=>∃(t2r:Value) (t3r:Value),w6=w'∧l'=(((l.set 38 t2r).set 39 t3r).set 40 (.bool m1a3))) ?_ ?_
    ·intro HJ131
     rcases zb h2a3 with ⟨e4f,f4a3⟩ | ⟨e4f,f5a3⟩
     ·refine sQ rfl e4f ?_
      refine sQ rfl e4f ?_
      refine sV (Az (evb rfl e4f) rfl) ?_
      obtain rfl:=sj f4a3
      exact HJ131 _ _ ⟨uu,uu,rfl,(by kernel_rfl)⟩
     ·refine sV (Aa rfl) ?_ (hw:=wgT rfl e4f)
      refine sbl (Bv rfl rfl) (fun z9k hz9k=>?_) (hw:=wgT rfl e4f)
      refine sV (AE (evb rfl e4f) rfl) ?_
      obtain rfl:z9k=decide (x4<1):=bz hz9k
      obtain rfl:=sj f5a3
      exact HJ131 _ _ ⟨(.int .i64 x4),(.bool (decide (x4<1))),rfl,(by kernel_rfl)⟩
    ·rintro l' _ ⟨t2r,t3r,rfl,rfl⟩ l'' hl
     simp only [S0,S1] at hl;subst hl
     refine sV (Aa rfl) ?_
     obtain ⟨m6a3,h7a3,f8a3⟩:=Ad f3a3
     refine BH 26 (fun l l' w'=>∃(t4r:Value) (t5r:Value),w6=w'∧l'=(((l.set 42 t4r).set 43 t5r).set 44 (.bool m6a3))) ?_ ?_
     ·intro HJ150
      rcases zb h7a3 with ⟨e5f,f9a3⟩ | ⟨e5f,f0a4⟩
      ·refine sQ rfl e5f ?_
       refine sQ rfl e5f ?_
       refine sV (Az (evb rfl e5f) rfl) ?_
       obtain rfl:=sj f9a3
       exact HJ150 _ _ ⟨uu,uu,rfl,(by kernel_rfl)⟩
      ·refine sV (Aa rfl) ?_ (hw:=wgT rfl e5f)
       refine sbl (Eh rfl rfl) (fun z0l hz0l=>?_) (hw:=wgT rfl e5f)
       refine sV (AE (evb rfl e5f) rfl) ?_
       obtain rfl:z0l=decide (500<x4):=bz hz0l
       obtain rfl:=sj f0a4
       exact HJ150 _ _ ⟨(.int .i64 x4),(.bool (decide (500<x4))),rfl,(by kernel_rfl)⟩
     ·rintro l' _ ⟨t4r,t5r,rfl,rfl⟩ l'' hl
      simp only [S0,S1] at hl;subst hl
      refine wh h0f ?_
      rcases zb f8a3 with ⟨e1l,f1a4⟩ | ⟨e1l,f2a4⟩
      ·refine ct e1l<|ws fun h3a4=>Ah ?_
       refine scr f1a4 (Ac SP (by rfl)) (Jl w6 (tbx X2h hT)) fun r0at f4a4 w7 E5a4=>?_
       have X6a4:=xtr X2h E5a4
       refine sV (Ab rfl) ?_
       refine wh h3a4<|wp_ret ?_
       exact Bn f4a4 X6a4 rfl
      ·refine cf e1l<|wp_skip<|h1q _ _<|ws fun h7a4=>Ah<|have q2l:=((q0q.ext E1f).ext E2i).updS U4j nm0;sV2 (Ak Bl rfl q2l rfl) (Aa rfl) ?_
       obtain ⟨r0a,h8a4,f9a4⟩:=Ad f2a4
       refine sc (Ac Sf (by rfl)) (KO x0 x3 A1 c2 A4 c5 w6 (tbx X2h hT) (n3.ext X2h) (n6.ext X2h) r0a h8a4) ?_
       rintro _ w7 E4i ⟨A6f,c7f,A8f,c9f,rfl,n6r,n7r⟩
       refine nrm ?_
       have X8r:=xtr X2h E4i
       refine sV3 (Aa rfl) (Ai rfl rfl) (Ai rfl rfl) ?_
       refine sal Gp fun b1at w8 E0a5 g9r q1a5=>?_
       have g2at:=nlt X8r.size g9r
       refine ss EG q1a5 fun w9 U2a5 q3l=>?_
       have F8d:=belU E0a5 U2a5 g9r
       have X5j:=xtr X8r F8d
       refine sV (Ab rfl) ?_
       refine nx h7a4 fun h3a5=>have q4l:=(((((q2e.ext E1i).ext E1f).ext E2i).updS U4j nm0).ext E4i).ext F8d;sV2 (Ak Bl rfl q4l rfl) (Aa rfl) ?_
       obtain ⟨r2a,h4a5,f5a5⟩:=Ad f9a4
       refine sc (Ac Sf (by rfl)) (KO x1 x3 A7 c8 A3a c4a w9 (tbx X5j hT) (n9.ext X5j) (n6b.ext X5j) r2a h4a5) ?_
       rintro _ w3a E7b ⟨A6j,c7j,A8j,c9j,rfl,n0s,n1s⟩
       refine nrm ?_
       have X2s:=xtr X5j E7b
       refine sV3 (Aa rfl) (Ai rfl rfl) (Ai rfl rfl) ?_
       refine sal Gp fun b3s w4a E6a5 g5l q7a5=>?_
       have g8a5:=nlt X2s.size g5l
       refine ss EG q7a5 fun w6b U9a5 q4s=>?_
       have F5a:=belU E6a5 U9a5 g5l
       have X5i:=xtr X2s F5a
       refine sV (Ab rfl) ?_
       refine wh h3a5<|ws fun h0a6=>ws fun h1a6=>Ah<|sV (Aa rfl) ?_
       refine sbl (Il rfl rfl) fun z5s hz5s=>?_
       refine sV (Aa rfl) ?_
       obtain ⟨m2a6,h3a6,f4a6⟩:=Ad f5a5
       refine BH 6 (fun l l' w'=>∃(t6s:Value) (t7s:Value),w6b=w'∧l'=(((l.set 61 t6s).set 62 t7s).set 63 (.bool m2a6))) ?_ ?_
       ·intro HJ234
        rcases zi hz5s h3a6 with ⟨e0g,_,f5a6⟩ | ⟨e0g,_,f6a6⟩
        ·refine sQ rfl e0g ?_
         refine sQ rfl e0g ?_
         refine sV (Az (evb rfl e0g) rfl) ?_
         obtain rfl:=sj f5a6
         exact HJ234 _ _ ⟨uu,uu,rfl,(by kernel_rfl)⟩
        ·refine sV (Aa rfl) ?_ (hw:=wgT rfl e0g)
         refine sbl (Il rfl rfl) (fun z6l hz6l=>?_) (hw:=wgT rfl e0g)
         refine sV (AE (evb rfl e0g) rfl) ?_
         obtain rfl:z6l=decide (¬r2a.2=0):=bz hz6l
         obtain rfl:=sj f6a6
         exact HJ234 _ _ ⟨(.int .i64 r2a.2),(.bool (decide (¬r2a.2=0))),rfl,(by kernel_rfl)⟩
       ·rintro l' _ ⟨t6s,t7s,rfl,rfl⟩ l'' hl
        simp only [S0,S1] at hl;subst hl
        refine sV (Aa rfl) ?_
        obtain ⟨m7a6,h8a6,f9a6⟩:=Ad f4a6
        refine BH 14 (fun l l' w'=>∃(t8s:Value) (t9s:Value) (t0t:Value) (t1t:Value) (t2t:Value) (t3t:Value),UpdS [] w6b w'∧l'=(((((((l.set 65 t8s).set 66 t9s).set 67 t0t).set 68 t1t).set 69 t2t).set 70 t3t).set 71 (.bool m7a6))) ?_ ?_
        ·intro HJ275
         rcases zb h8a6 with ⟨e7a,f0a7⟩ | ⟨e7a,f1a7⟩
         ·refine sQ rfl e7a ?_
          refine sQ rfl e7a ?_
          refine sQ rfl e7a ?_
          refine sQ rfl e7a ?_
          refine sQ rfl e7a ?_
          refine sQ rfl e7a ?_
          refine sV (Az (evb rfl e7a) rfl) ?_
          obtain rfl:=sj f0a7
          exact HJ275 _ _ ⟨uu,uu,uu,uu,uu,uu,(UpdS.refl _ _),(by kernel_rfl)⟩
         ·refine sV (Ak BB rfl ((q3l.ext E7b).ext F5a) rfl) ?_ (hw:=wgT rfl e7a)
          refine sV (Aa rfl) ?_ (hw:=wgT rfl e7a)
          have q2a7:=(((q2l.ext E4i).ext F8d).ext E7b).ext F5a
          refine sV (Ak Bl rfl q2a7 rfl) ?_ (hw:=wgT rfl e7a)
          refine sV (Aa rfl) ?_ (hw:=wgT rfl e7a)
          have n3a7:=((n6r.ext F8d).ext E7b).ext F5a
          have n4a7:=((n7r.ext F8d).ext E7b).ext F5a
          obtain ⟨m4t,h5a7,f6a7⟩:=Ad f1a7
          have hx5t:=Dd h5a7
          have n7a7:RU w6b A1 c2 m4t:=by unfold RU;rw [hx5t];exact (n3.ext X5i)
          obtain ⟨m6t,h8a7,f9a7⟩:=Ad f6a7
          have hx7t:=Dd h8a7
          have n0a8:RU w6b A4 c5 m6t:=by unfold RU;rw [hx7t];exact (n6.ext X5i)
          refine scr f9a7 (Ac Od (by simp only [sz,hx5t,hx7t];rfl)) (Ec r0a.1 r0a.2 (⟨(⟨x0.Num.Neg,m4t⟩:Ae),m6t⟩:Ap) r2a.2 A6f c7f A8f c9f A1 c2 A4 c5 w6b (tbx X5i hT) n3a7 n4a7 n7a7 n0a8) (fun r7l f1a8 w3c E2a8=>?_) (hw:=wgT rfl e7a)
          refine sbl (FL rfl) (fun z8l hz8l=>?_) (hw:=wgT rfl e7a)
          refine sV (AE (evb rfl e7a) rfl) ?_
          obtain rfl:z8l=decide (¬(r7l=true)):=bz hz8l
          obtain rfl:=sj f1a8
          exact HJ275 _ _ ⟨(.agg #[.bool r0a.1.Lo.Man.Neg,.slice A6f (sz r0a.1.Lo.Man.Abs) c7f,.int .i64 r0a.1.Lo.Exp,.bool r0a.1.Hi.Man.Neg,.slice A8f (sz r0a.1.Hi.Man.Abs) c9f,.int .i64 r0a.1.Hi.Exp]),(.int .i64 r0a.2),(.agg #[.bool x0.Num.Neg,.slice A1 x0.Num.Abs.length c2,.slice A4 x0.Den.length c5]),(.int .i64 r2a.2),(.bool r7l),(.bool (decide (¬(r7l=true)))),((UpdS.refl _ _).ext E2a8),(by kernel_rfl)⟩
        ·rintro l' w3c ⟨t8s,t9s,t0t,t1t,t2t,t3t,U1b,rfl⟩ l'' hl
         simp only [S0,S1] at hl;subst hl
         have X6i:=Kc X5i U1b (X5i).size al0
         refine sV (Aa rfl) ?_
         obtain ⟨m3a8,h4a8,f5a8⟩:=Ad f9a6
         refine BH 22 (fun l l' w'=>∃(t8t:Value) (t9t:Value) (t0u:Value) (t1u:Value) (t2u:Value) (t3u:Value),UpdS [] w3c w'∧l'=(((((((l.set 73 t8t).set 74 t9t).set 75 t0u).set 76 t1u).set 77 t2u).set 78 t3u).set 79 (.bool m3a8))) ?_ ?_
         ·intro HJ333
          rcases zb h4a8 with ⟨e8a,f6a8⟩ | ⟨e8a,f7a8⟩
          ·refine sQ rfl e8a ?_
           refine sQ rfl e8a ?_
           refine sQ rfl e8a ?_
           refine sQ rfl e8a ?_
           refine sQ rfl e8a ?_
           refine sQ rfl e8a ?_
           refine sV (Az (evb rfl e8a) rfl) ?_
           obtain rfl:=sj f6a8
           exact HJ333 _ _ ⟨uu,uu,uu,uu,uu,uu,(UpdS.refl _ _),(by kernel_rfl)⟩
          ·refine sV (Ak BB rfl (q4s.updS U1b nm0) rfl) ?_ (hw:=wgT rfl e8a)
           refine sV (Aa rfl) ?_ (hw:=wgT rfl e8a)
           have q8a8:=((q4l.ext E7b).ext F5a).updS U1b nm0
           refine sV (Ak Bl rfl q8a8 rfl) ?_ (hw:=wgT rfl e8a)
           refine sV (Aa rfl) ?_ (hw:=wgT rfl e8a)
           obtain ⟨m4u,h9a8,f0a9⟩:=Ad f7a8
           have hx5u:=Dd h9a8
           have n1a9:RU w3c A7 c8 m4u:=by unfold RU;rw [hx5u];exact (n9.ext X6i)
           obtain ⟨m6u,h2a9,f3a9⟩:=Ad f0a9
           have hx7u:=Dd h2a9
           have n4a9:RU w3c A3a c4a m6u:=by unfold RU;rw [hx7u];exact (n6b.ext X6i)
           refine scr f3a9 (Ac Od (by simp only [sz,hx5u,hx7u];rfl)) (Ec r2a.1 r2a.2 (⟨(⟨x1.Num.Neg,m4u⟩:Ae),m6u⟩:Ap) r0a.2 A6j c7j A8j c9j A7 c8 A3a c4a w3c (tbx X6i hT) ((n0s.ext F5a).updS U1b al0) ((n1s.ext F5a).updS U1b al0) n1a9 n4a9) (fun r9l f5a9 w0e E6a9=>?_) (hw:=wgT rfl e8a)
           refine sbl (FL rfl) (fun z0m hz0m=>?_) (hw:=wgT rfl e8a)
           refine sV (AE (evb rfl e8a) rfl) ?_
           obtain rfl:z0m=decide (¬(r9l=true)):=bz hz0m
           obtain rfl:=sj f5a9
           exact HJ333 _ _ ⟨(.agg #[.bool r2a.1.Lo.Man.Neg,.slice A6j (sz r2a.1.Lo.Man.Abs) c7j,.int .i64 r2a.1.Lo.Exp,.bool r2a.1.Hi.Man.Neg,.slice A8j (sz r2a.1.Hi.Man.Abs) c9j,.int .i64 r2a.1.Hi.Exp]),(.int .i64 r2a.2),(.agg #[.bool x1.Num.Neg,.slice A7 x1.Num.Abs.length c8,.slice A3a x1.Den.length c4a]),(.int .i64 r0a.2),(.bool r9l),(.bool (decide (¬(r9l=true)))),((UpdS.refl _ _).ext E6a9),(by kernel_rfl)⟩
         ·rintro l' w0e ⟨t8t,t9t,t0u,t1u,t2u,t3u,U1d,rfl⟩ l'' hl
          simp only [S0,S1] at hl;subst hl
          have X7i:=Kc X6i U1d (X6i).size al0
          refine wh h1a6 ?_
          rcases zb f5a8 with ⟨e1m,f7a9⟩ | ⟨e1m,f8a9⟩
          ·refine ct e1m<|ws fun h9a9=>Ah<|sV (Ab rfl) ?_
           refine wh h9a9<|wp_ret ?_
           exact Bn f7a9 X7i rfl
          ·refine cf e1m<|wp_skip<|h0a6 _ _<|ws fun h0aa=>ws fun h1aa=>Ah<|have q1g:=(q4s.updS U1b nm0).updS U1d nm0;sV (Ak BB rfl q1g rfl) ?_
           have q2aa:=((((((((q3k.ext E1f).ext E2i).updS U4j nm0).ext E4i).ext F8d).ext E7b).ext F5a).updS U1b nm0).updS U1d nm0
           refine sV (Ak BB rfl q2aa rfl) ?_
           have n8u:=((n0s.ext F5a).updS U1b al0).updS U1d al0
           have n9u:=((n1s.ext F5a).updS U1b al0).updS U1d al0
           obtain ⟨r2g,h3aa,f4aa⟩:=Ad f8a9
           refine sc (Ac en_74 (by rfl)) (c_dyad_Hull (⟨(⟨(⟨r2a.1.Lo.Man.Neg,(limbs r2a.1.Lo.Man.Abs)⟩:Ar),r2a.1.Lo.Exp⟩:Aq),(⟨(⟨r2a.1.Hi.Man.Neg,(limbs r2a.1.Hi.Man.Abs)⟩:Ar),r2a.1.Hi.Exp⟩:Aq)⟩:Am) x2 A6j c7j A8j c9j A3c c0e A9g c7e w0e (tbx X7i hT) n8u n9u (n2k.ext X7i) (n8e.ext X7i) r2g h3aa) ?_
           rintro _ w2k E2b ⟨A0v,c1v,A2v,c3v,rfl,n5aa,n6aa⟩
           refine nrm ?_
           have X4v:=xtr X7i E2b
           refine sV3 (Aa rfl) (Ai rfl rfl) (Ai rfl rfl) ?_
           refine sal Gp fun b3at w9g E7aa g5v q8aa=>?_
           have g4at:=nlt X4v.size g5v
           refine ss EG q8aa fun w7e U9aa q0ab=>?_
           have F6a:=belU E7aa U9aa g5v
           have X6v:=xtr X4v F6a
           refine sV (Ab rfl) ?_
           refine nx h1aa fun h1ab=>sV (Aa rfl) ?_
           refine sbl (Cy rfl rfl) fun z7v hz7v=>?_
           refine wh h1ab ?_
           obtain ⟨m1a,h2ab,f3ab⟩:=Ad f4aa
           refine CG (fun l l' w'=>∃(t8v:Value) (A3g:OA) (c4g:Nat) (A5g:OA) (c6g:Nat),UpdS [b3s] w7e w'∧Bx w' b3s 29 [.bool m1a.1,.slice A3g (sz m1a.2.1) c4g,.int .i64 m1a.2.2.1,.bool m1a.2.2.2.1,.slice A5g (sz m1a.2.2.2.2.1) c6g,.int .i64 m1a.2.2.2.2.2]∧RU w' A3g c4g m1a.2.1∧RU w' A5g c6g m1a.2.2.2.2.1∧l'=(l.set 88 t8v)) ?_ ?_
           ·rcases zi hz7v h2ab with ⟨e2m,_,f4ab⟩ | ⟨e2m,_,f5ab⟩
            ·refine ct e2m<|Ah<|sV (Ak BB rfl q0ab rfl) ?_
             have q3m:=(q1g.ext E2b).ext F6a
             refine ss EG q3m fun w8e U4m q6ab=>?_
             refine AF ?_
             have n7ab:=(n5aa.ext F6a).upd U4m q3m (by decide)
             have n8ab:=(n6aa.ext F6a).upd U4m q3m (by decide)
             obtain rfl:=sj f4ab
             exact ⟨_,rfl,(.agg #[.bool r2g.1.Lo.Man.Neg,.slice A0v (sz r2g.1.Lo.Man.Abs) c1v,.int .i64 r2g.1.Lo.Exp,.bool r2g.1.Hi.Man.Neg,.slice A2v (sz r2g.1.Hi.Man.Abs) c3v,.int .i64 r2g.1.Hi.Exp]),A0v,c1v,A2v,c3v,((UpdS.refl _ _).upd U4m (.inl im0)),q6ab,n7ab,n8ab,(by kernel_rfl)⟩
            ·refine cf e2m<|wp_skip ?_
             obtain rfl:=sj f5ab
             exact ⟨_,rfl,uu,A6j,c7j,A8j,c9j,(UpdS.refl _ _),((q1g.ext E2b).ext F6a),((n8u.ext E2b).ext F6a),((n9u.ext E2b).ext F6a),(by kernel_rfl)⟩
           ·rintro l' w8e ⟨t8v,A3g,c4g,A5g,c6g,U3h,q5m,n9v,n0w,rfl⟩ l'' hl
            simp only [S0,S1] at hl;subst hl
            have X1w:=Kc X6v U3h (X6v).size (alc g8a5 al0)
            refine h0aa _ _<|ws fun h9ab=>Ah<|have ne0ac:=(Bx.ne (q3l.ext E7b) g5l);have q6m:=((((((q3l.ext E7b).ext F5a).updS U1b nm0).updS U1d nm0).ext E2b).ext F6a).updS U3h (nmc ne0ac nm0);sV3 (Ak BB rfl q6m rfl) (Ak BB rfl q5m rfl) (Aa rfl) ?_
            have n2w:RU w8e A6f c7f r0a.1.Lo.Man.Abs:=(((((((n6r.ext F8d).ext E7b).ext F5a).updS U1b al0).updS U1d al0).ext E2b).ext F6a).updS U3h (alc ⟨_,_,by decide,(q1g.ext E2b).ext F6a⟩ al0)
            have n3w:RU w8e A8f c9f r0a.1.Hi.Man.Abs:=(((((((n7r.ext F8d).ext E7b).ext F5a).updS U1b al0).updS U1d al0).ext E2b).ext F6a).updS U3h (alc ⟨_,_,by decide,(q1g.ext E2b).ext F6a⟩ al0)
            obtain ⟨r7m,h1ac,f2ac⟩:=Ad f3ab
            refine sc (Ac en_30 (by rfl)) (c_dyad_Plus (⟨(⟨(⟨r0a.1.Lo.Man.Neg,(limbs r0a.1.Lo.Man.Abs)⟩:Ar),r0a.1.Lo.Exp⟩:Aq),(⟨(⟨r0a.1.Hi.Man.Neg,(limbs r0a.1.Hi.Man.Abs)⟩:Ar),r0a.1.Hi.Exp⟩:Aq)⟩:Am) (⟨(⟨(⟨m1a.1,(limbs m1a.2.1)⟩:Ar),m1a.2.2.1⟩:Aq),(⟨(⟨m1a.2.2.2.1,(limbs m1a.2.2.2.2.1)⟩:Ar),m1a.2.2.2.2.2⟩:Aq)⟩:Am) x4 A6f c7f A8f c9f A3g c4g A5g c6g w8e (tbx X1w hT) n2w n3w n9v n0w r7m h1ac) ?_
            rintro _ w4p E4c ⟨A3ac,c4ac,A5ac,c6ac,rfl,n7ac,n8ac⟩
            refine nrm ?_
            have X4w:=xtr X1w E4c
            refine sV3 (Aa rfl) (Ai rfl rfl) (Ai rfl rfl) ?_
            refine sal Gp fun b5at w0a1 E9ac g0k q0ad=>?_
            have g8m:=nlt X4w.size g0k
            refine ss EG q0ad fun w1e U1ad q5w=>?_
            have F5c:=belU E9ac U1ad g0k
            have X4h:=xtr X4w F5c
            refine sV (Ab rfl) ?_
            have q6w:=(((((((q2l.ext E4i).ext F8d).ext E7b).ext F5a).updS U1b nm0).updS U1d nm0).ext E2b).ext F6a
            refine nx h9ab fun h2ad=>have ne3ad:=(Bx.neT q6w ((q1g.ext E2b).ext F6a) (by decide));have q9m:=((q6w.updS U3h (nmc ne3ad nm0)).ext E4c).ext F5c;sV (Ak Bl rfl q9m rfl) ?_
            have q7w:=(((((q4l.ext E7b).ext F5a).updS U1b nm0).updS U1d nm0).ext E2b).ext F6a
            have ne4ad:=(Bx.neT q7w ((q1g.ext E2b).ext F6a) (by decide))
            have q0n:=((q7w.updS U3h (nmc ne4ad nm0)).ext E4c).ext F5c
            refine sV (Ak Bl rfl q0n rfl) ?_
            obtain ⟨m2d,h5ad,f6ad⟩:=Ad f2ac
            have hx3d:=Dd h5ad
            have n7ad:RU w1e A1 c2 m2d:=by unfold RU;rw [hx3d];exact (n3.ext X4h)
            obtain ⟨m4d,h8ad,f9ad⟩:=Ad f6ad
            have hx5d:=Dd h8ad
            have n0ae:RU w1e A4 c5 m4d:=by unfold RU;rw [hx5d];exact (n6.ext X4h)
            obtain ⟨m3e,h1ae,f2ae⟩:=Ad f9ad
            have hx4e:=Dd h1ae
            have n3ae:RU w1e A7 c8 m3e:=by unfold RU;rw [hx4e];exact (n9.ext X4h)
            obtain ⟨m5e,h4ae,f5ae⟩:=Ad f2ae
            have hx6e:=Dd h4ae
            have n6ae:RU w1e A3a c4a m5e:=by unfold RU;rw [hx6e];exact (n6b.ext X4h)
            obtain ⟨r1n,h7ae,f8ae⟩:=Ad f5ae
            refine sc (Ac en_91 (by simp only [sz,hx3d,hx5d,hx4e,hx6e];rfl)) (c_ratio_Add (⟨(⟨x0.Num.Neg,m2d⟩:Ae),m4d⟩:Ap) (⟨(⟨x1.Num.Neg,m3e⟩:Ae),m5e⟩:Ap) A1 c2 A4 c5 A7 c8 A3a c4a w1e (tbx X4h hT) n7ad n0ae n3ae n6ae r1n h7ae) ?_
            rintro _ w1a1 E9a ⟨A9ae,c0af,A1af,c2af,rfl,n3af,n4af⟩
            refine nrm ?_
            have X8w:=xtr X4h E9a
            refine sV3 (Aa rfl) (Ai rfl rfl) (Ai rfl rfl) ?_
            refine sal HK fun b6at w5p E5af g1k q6af=>?_
            have g2n:=nlt X8w.size g1k
            refine ss EM q6af fun w6p U7af q3n=>?_
            have F0b:=belU E5af U7af g1k
            have X9w:=xtr X8w F0b
            refine sV (Ab rfl) ?_
            refine wh h2ad<|ws fun h8af=>ws fun h9af=>Ah<|sV3 (Ak BB rfl ((q5w.ext E9a).ext F0b) rfl) (Aa rfl) (Ak Bl rfl q3n rfl) ?_
            refine sV (Aa rfl) ?_
            have n0ag:=((n7ac.ext F5c).ext E9a).ext F0b
            have n1ag:=((n8ac.ext F5c).ext E9a).ext F0b
            refine scr f8ae (Ac Od (by rfl)) (Ec r7m.1 r7m.2 r1n.1 r1n.2 A3ac c4ac A5ac c6ac A9ae c0af A1af c2af w6p (tbx X9w hT) n0ag n1ag (n3af.ext F0b) (n4af.ext F0b)) fun r7at f2ag w1j E1c=>?_
            have X4n:=xtr X9w E1c
            refine sbl (FL rfl) fun z0x hz0x=>?_
            refine wh h9af ?_
            rcases zi hz0x f2ag with ⟨e5n,_,f3ag⟩ | ⟨e5n,_,f4ag⟩
            ·refine ct e5n<|ws fun h5ag=>Ah<|sV (Ab rfl) ?_
             refine wh h5ag<|wp_ret ?_
             exact Bn f3ag X4n rfl
            ·refine cf e5n<|wp_skip<|h8af _ _<|ws fun h6ag=>Ah<|have q6n:=((((q6m.ext E4c).ext F5c).ext E9a).ext F0b).ext E1c;sV (Ak BB rfl q6n rfl) ?_
             have q1x:=((((q5m.ext E4c).ext F5c).ext E9a).ext F0b).ext E1c
             refine sV2 (Ak BB rfl q1x rfl) (Aa rfl) ?_
             have n2x:=((((n2w.ext E4c).ext F5c).ext E9a).ext F0b).ext E1c
             have n3x:=((((n3w.ext E4c).ext F5c).ext E9a).ext F0b).ext E1c
             have n4x:=((((n9v.ext E4c).ext F5c).ext E9a).ext F0b).ext E1c
             have n5x:=((((n0w.ext E4c).ext F5c).ext E9a).ext F0b).ext E1c
             obtain ⟨r7n,h7ag,f8ag⟩:=Ad f4ag
             refine sc (Ac en_31 (by rfl)) (c_dyad_Minus (⟨(⟨(⟨r0a.1.Lo.Man.Neg,(limbs r0a.1.Lo.Man.Abs)⟩:Ar),r0a.1.Lo.Exp⟩:Aq),(⟨(⟨r0a.1.Hi.Man.Neg,(limbs r0a.1.Hi.Man.Abs)⟩:Ar),r0a.1.Hi.Exp⟩:Aq)⟩:Am) (⟨(⟨(⟨m1a.1,(limbs m1a.2.1)⟩:Ar),m1a.2.2.1⟩:Aq),(⟨(⟨m1a.2.2.2.1,(limbs m1a.2.2.2.2.1)⟩:Ar),m1a.2.2.2.2.2⟩:Aq)⟩:Am) x4 A6f c7f A8f c9f A3g c4g A5g c6g w1j (tbx X4n hT) n2x n3x n4x n5x r7n h7ag) ?_
             rintro _ w7p E8b ⟨A9ag,c0ah,A1ah,c2ah,rfl,n3ah,n4ah⟩
             refine nrm ?_
             have X5ah:=xtr X4n E8b
             refine sV3 (Aa rfl) (Ai rfl rfl) (Ai rfl rfl) ?_
             have q6d:=(((q5w.ext E9a).ext F0b).ext E1c).ext E8b
             refine ss EG q6d fun w2e U9b q6ah=>?_
             have X5h:=belU X5ah U9b g8m
             refine sV (Ab rfl) ?_
             have q6x:=(((q9m.ext E9a).ext F0b).ext E1c).ext E8b
             refine nx h6ag fun h7ah=>have ne8n:=(Bx.neT q6x q6d (by decide));have q7x:=q6x.upd U9b ne8n;sV (Ak Bl rfl q7x rfl) ?_
             have q8x:=(((q0n.ext E9a).ext F0b).ext E1c).ext E8b
             have ne9n:=(Bx.neT q8x q6d (by decide))
             have q9x:=q8x.upd U9b ne9n
             refine sV (Ak Bl rfl q9x rfl) ?_
             have n8ah:RU w2e A1 c2 m2d:=by unfold RU;rw [hx3d];exact (n3.ext X5h)
             have n9ah:RU w2e A4 c5 m4d:=by unfold RU;rw [hx5d];exact (n6.ext X5h)
             have n0ai:RU w2e A7 c8 m3e:=by unfold RU;rw [hx4e];exact (n9.ext X5h)
             have n1ai:RU w2e A3a c4a m5e:=by unfold RU;rw [hx6e];exact (n6b.ext X5h)
             obtain ⟨r0o,h2ai,f3ai⟩:=Ad f8ag
             refine sc (Ac en_92 (by simp only [sz,hx3d,hx5d,hx4e,hx6e];rfl)) (c_ratio_Sub (⟨(⟨x0.Num.Neg,m2d⟩:Ae),m4d⟩:Ap) (⟨(⟨x1.Num.Neg,m3e⟩:Ae),m5e⟩:Ap) A1 c2 A4 c5 A7 c8 A3a c4a w2e (tbx X5h hT) n8ah n9ah n0ai n1ai r0o h2ai) ?_
             rintro _ w2a1 E3b ⟨A4ai,c5ai,A6ai,c7ai,rfl,n8ai,n9ai⟩
             refine nrm ?_
             have X0aj:=xtr X5h E3b
             refine sV3 (Aa rfl) (Ai rfl rfl) (Ai rfl rfl) ?_
             have ne6h:=(Bx.neT ((q3n.ext E1c).ext E8b) q6d (by decide))
             have q6c:=(((q3n.ext E1c).ext E8b).upd U9b ne6h).ext E3b
             refine ss EM q6c fun w2j U4b q0y=>?_
             have X1y:=belU X0aj U4b g2n
             refine sV (Ab rfl) ?_
             refine wh h7ah<|ws fun h1aj=>ws fun h2aj=>Ah<|have q2y:=(q6ah.ext E3b).upd U4b (Ne.symm ne6h);sV3 (Ak BB rfl q2y rfl) (Aa rfl) (Ak Bl rfl q0y rfl) ?_
             refine sV (Aa rfl) ?_
             have n3aj:=((n3ah.upd U9b q6d (by decide)).ext E3b).upd U4b q6c (by decide)
             have n4aj:=((n4ah.upd U9b q6d (by decide)).ext E3b).upd U4b q6c (by decide)
             refine scr f3ai (Ac Od (by rfl)) (Ec r7n.1 r7n.2 r0o.1 r0o.2 A9ag c0ah A1ah c2ah A4ai c5ai A6ai c7ai w2j (tbx X1y hT) n3aj n4aj (n8ai.upd U4b q6c (by decide)) (n9ai.upd U4b q6c (by decide))) fun r8at f5aj w8p E7c=>?_
             have X1o:=xtr X1y E7c
             refine sbl (FL rfl) fun z3y hz3y=>?_
             refine wh h2aj ?_
             rcases zi hz3y f5aj with ⟨e2o,_,f6aj⟩ | ⟨e2o,_,f7aj⟩
             ·refine ct e2o<|ws fun h8aj=>Ah<|sV (Ab rfl) ?_
              refine wh h8aj<|wp_ret ?_
              exact Bn f6aj X1o rfl
             ·refine cf e2o<|wp_skip<|h1aj _ _<|ws fun h9aj=>Ah<|have ne3o:=(Bx.ne (q6m.ext E4c) g0k);have ne4y:=(Bx.neT (((q6n.ext E8b).upd U9b ne3o).ext E3b) q6c (by decide));have q5y:=((((q6n.ext E8b).upd U9b ne3o).ext E3b).upd U4b ne4y).ext E7c;sV (Ak BB rfl q5y rfl) ?_
              have ne6y:=(Bx.ne (q5m.ext E4c) g0k)
              have q7y:=((q1x.ext E8b).upd U9b ne6y).ext E3b
              have ne8y:=(Bx.neT q7y q6c (by decide))
              have q9y:=(q7y.upd U4b ne8y).ext E7c
              refine sV2 (Ak BB rfl q9y rfl) (Aa rfl) ?_
              have n0z:=((((n2x.ext E8b).upd U9b q6d (by decide)).ext E3b).upd U4b q6c (by decide)).ext E7c
              have n1z:=((((n3x.ext E8b).upd U9b q6d (by decide)).ext E3b).upd U4b q6c (by decide)).ext E7c
              have n2z:=((((n4x.ext E8b).upd U9b q6d (by decide)).ext E3b).upd U4b q6c (by decide)).ext E7c
              have n3z:=((((n5x.ext E8b).upd U9b q6d (by decide)).ext E3b).upd U4b q6c (by decide)).ext E7c
              obtain ⟨r4o,h0ak,f1ak⟩:=Ad f7aj
              refine sc (Ac SW (by rfl)) (MR (⟨(⟨(⟨r0a.1.Lo.Man.Neg,(limbs r0a.1.Lo.Man.Abs)⟩:Ar),r0a.1.Lo.Exp⟩:Aq),(⟨(⟨r0a.1.Hi.Man.Neg,(limbs r0a.1.Hi.Man.Abs)⟩:Ar),r0a.1.Hi.Exp⟩:Aq)⟩:Am) (⟨(⟨(⟨m1a.1,(limbs m1a.2.1)⟩:Ar),m1a.2.2.1⟩:Aq),(⟨(⟨m1a.2.2.2.1,(limbs m1a.2.2.2.2.1)⟩:Ar),m1a.2.2.2.2.2⟩:Aq)⟩:Am) x4 A6f c7f A8f c9f A3g c4g A5g c6g w8p (tbx X1o hT) n0z n1z n2z n3z r4o h0ak) ?_
              rintro _ w1i E8c ⟨A2ak,c3ak,A4ak,c5ak,rfl,n6ak,n7ak⟩
              refine nrm ?_
              have X8ak:=xtr X1o E8c
              refine sV3 (Aa rfl) (Ai rfl rfl) (Ai rfl rfl) ?_
              have q7g:=(q2y.ext E7c).ext E8c
              refine ss EG q7g fun w9e U2c q9ak=>?_
              have X7h:=belU X8ak U2c g8m
              refine sV (Ab rfl) ?_
              refine nx h9aj fun h0al=>have ne5o:=(Bx.ne (q9m.ext E9a) g1k);have q4z:=((((q7x.ext E3b).upd U4b ne5o).ext E7c).ext E8c).upd U2c ne8n;sV (Ak Bl rfl q4z rfl) ?_
              have ne5z:=(Bx.ne (q0n.ext E9a) g1k)
              have q6z:=((((q9x.ext E3b).upd U4b ne5z).ext E7c).ext E8c).upd U2c ne9n
              refine sV (Ak Bl rfl q6z rfl) ?_
              have n1al:RU w9e A1 c2 m2d:=by unfold RU;rw [hx3d];exact (n3.ext X7h)
              have n2al:RU w9e A4 c5 m4d:=by unfold RU;rw [hx5d];exact (n6.ext X7h)
              have n3al:RU w9e A7 c8 m3e:=by unfold RU;rw [hx4e];exact (n9.ext X7h)
              have n4al:RU w9e A3a c4a m5e:=by unfold RU;rw [hx6e];exact (n6b.ext X7h)
              obtain ⟨r6o,h5al,f6al⟩:=Ad f1ak
              refine sc (Ac SU (by simp only [sz,hx3d,hx5d,hx4e,hx6e];rfl)) (NF (⟨(⟨x0.Num.Neg,m2d⟩:Ae),m4d⟩:Ap) (⟨(⟨x1.Num.Neg,m3e⟩:Ae),m5e⟩:Ap) A1 c2 A4 c5 A7 c8 A3a c4a w9e (tbx X7h hT) n1al n2al n3al n4al r6o h5al) ?_
              rintro _ w3k E0c ⟨A7al,c8al,A9al,c0am,rfl,n1am,n2am⟩
              refine nrm ?_
              have X3am:=xtr X7h E0c
              refine sV3 (Aa rfl) (Ai rfl rfl) (Ai rfl rfl) ?_
              have q9d:=(((q0y.ext E7c).ext E8c).upd U2c ne6h).ext E0c
              refine ss EM q9d fun w9p U5b q7z=>?_
              have X8z:=belU X3am U5b g2n
              refine sV (Ab rfl) ?_
              refine wh h0al<|ws fun h4am=>ws fun h5am=>Ah<|have q9z:=(q9ak.ext E0c).upd U5b (Ne.symm ne6h);sV3 (Ak BB rfl q9z rfl) (Aa rfl) (Ak Bl rfl q7z rfl) ?_
              refine sV (Aa rfl) ?_
              have n6am:=((n6ak.upd U2c q7g (by decide)).ext E0c).upd U5b q9d (by decide)
              have n7am:=((n7ak.upd U2c q7g (by decide)).ext E0c).upd U5b q9d (by decide)
              refine scr f6al (Ac Od (by rfl)) (Ec r4o.1 r4o.2 r6o.1 r6o.2 A2ak c3ak A4ak c5ak A7al c8al A9al c0am w9p (tbx X8z hT) n6am n7am (n1am.upd U5b q9d (by decide)) (n2am.upd U5b q9d (by decide))) fun r9at f8am w3j E9c=>?_
              have X7o:=xtr X8z E9c
              refine sbl (FL rfl) fun z0a0 hz0a0=>?_
              refine wh h5am ?_
              rcases zi hz0a0 f8am with ⟨e8o,_,f9am⟩ | ⟨e8o,_,f0an⟩
              ·refine ct e8o<|ws fun h1an=>Ah<|sV (Ab rfl) ?_
               refine wh h1an<|wp_ret ?_
               exact Bn f9am X7o rfl
              ·refine cf e8o<|wp_skip<|h4am _ _<|ws fun h2an=>Ah<|have q3an:=((((q5y.ext E8c).upd U2c ne3o).ext E0c).upd U5b ne4y).ext E9c;sV (Ak BB rfl q3an rfl) ?_
               have q4an:=((((q9y.ext E8c).upd U2c ne6y).ext E0c).upd U5b ne8y).ext E9c
               refine sV2 (Ak BB rfl q4an rfl) (Aa rfl) ?_
               have n5an:=((((n0z.ext E8c).upd U2c q7g (by decide)).ext E0c).upd U5b q9d (by decide)).ext E9c
               have n6an:=((((n1z.ext E8c).upd U2c q7g (by decide)).ext E0c).upd U5b q9d (by decide)).ext E9c
               have n7an:=((((n2z.ext E8c).upd U2c q7g (by decide)).ext E0c).upd U5b q9d (by decide)).ext E9c
               have n8an:=((((n3z.ext E8c).upd U2c q7g (by decide)).ext E0c).upd U5b q9d (by decide)).ext E9c
               obtain ⟨r9o,h9an,f0ao⟩:=Ad f0an
               refine sc (Ac Ru (by rfl)) (Mc (⟨(⟨(⟨r0a.1.Lo.Man.Neg,(limbs r0a.1.Lo.Man.Abs)⟩:Ar),r0a.1.Lo.Exp⟩:Aq),(⟨(⟨r0a.1.Hi.Man.Neg,(limbs r0a.1.Hi.Man.Abs)⟩:Ar),r0a.1.Hi.Exp⟩:Aq)⟩:Am) (⟨(⟨(⟨m1a.1,(limbs m1a.2.1)⟩:Ar),m1a.2.2.1⟩:Aq),(⟨(⟨m1a.2.2.2.1,(limbs m1a.2.2.2.2.1)⟩:Ar),m1a.2.2.2.2.2⟩:Aq)⟩:Am) x4 A6f c7f A8f c9f A3g c4g A5g c6g w3j (tbx X7o hT) n5an n6an n7an n8an r9o h9an) ?_
               rintro _ w1q E8i ⟨A1ao,c2ao,A3ao,c4ao,rfl,n5ao,n6ao⟩
               refine nrm ?_
               have X7ao:=xtr X7o E8i
               refine sV3 (Aa rfl) (Ai rfl rfl) (Ai rfl rfl) ?_
               have q0p:=(q9z.ext E9c).ext E8i
               refine ss EG q0p fun w0f U8h q8ao=>?_
               have X9h:=belU X7ao U8h g8m
               refine sV (Ab rfl) ?_
               refine nx h2an fun h9ao=>have q1a0:=((((q4z.ext E0c).upd U5b ne5o).ext E9c).ext E8i).upd U8h ne8n;sV (Ak Bl rfl q1a0 rfl) ?_
               have q0ap:=((((q6z.ext E0c).upd U5b ne5z).ext E9c).ext E8i).upd U8h ne9n
               refine sV (Ak Bl rfl q0ap rfl) ?_
               have n1ap:RU w0f A1 c2 m2d:=by unfold RU;rw [hx3d];exact (n3.ext X9h)
               have n2ap:RU w0f A4 c5 m4d:=by unfold RU;rw [hx5d];exact (n6.ext X9h)
               have n3ap:RU w0f A7 c8 m3e:=by unfold RU;rw [hx4e];exact (n9.ext X9h)
               have n4ap:RU w0f A3a c4a m5e:=by unfold RU;rw [hx6e];exact (n6b.ext X9h)
               obtain ⟨r1p,h5ap,f6ap⟩:=Ad f0ao
               refine sc (Ac en_94 (by simp only [sz,hx3d,hx5d,hx4e,hx6e];rfl)) (c_ratio_Div (⟨(⟨x0.Num.Neg,m2d⟩:Ae),m4d⟩:Ap) (⟨(⟨x1.Num.Neg,m3e⟩:Ae),m5e⟩:Ap) A1 c2 A4 c5 A7 c8 A3a c4a w0f (tbx X9h hT) n1ap n2ap n3ap n4ap r1p h5ap) ?_
               rintro _ w2q E0i ⟨A7ap,c8ap,A9ap,c0aq,rfl,n1aq,n2aq⟩
               refine nrm ?_
               have X3aq:=xtr X9h E0i
               refine sV3 (Aa rfl) (Ai rfl rfl) (Ai rfl rfl) ?_
               have q9i:=(((q7z.ext E9c).ext E8i).upd U8h ne6h).ext E0i
               refine ss EM q9i fun w1f U8g q4aq=>?_
               have X2a0:=belU X3aq U8g g2n
               refine sV (Ab rfl) ?_
               refine wh h9ao<|ws fun h5aq=>ws fun h6aq=>Ah<|have q7aq:=(q8ao.ext E0i).upd U8g (Ne.symm ne6h);sV3 (Ak BB rfl q7aq rfl) (Aa rfl) (Ak Bl rfl q4aq rfl) ?_
               refine sV (Aa rfl) ?_
               have n8aq:=((n5ao.upd U8h q0p (by decide)).ext E0i).upd U8g q9i (by decide)
               have n9aq:=((n6ao.upd U8h q0p (by decide)).ext E0i).upd U8g q9i (by decide)
               refine scr f6ap (Ac Od (by rfl)) (Ec r9o.1 r9o.2 r1p.1 r1p.2 A1ao c2ao A3ao c4ao A7ap c8ap A9ap c0aq w1f (tbx X2a0 hT) n8aq n9aq (n1aq.upd U8g q9i (by decide)) (n2aq.upd U8g q9i (by decide))) fun r0au f0ar w4k E3a0=>?_
               have X2p:=xtr X2a0 E3a0
               refine sbl (FL rfl) fun z4a0 hz4a0=>?_
               refine wh h6aq ?_
               rcases zi hz4a0 f0ar with ⟨e3p,_,f1ar⟩ | ⟨e3p,_,f2ar⟩
               ·refine ct e3p<|ws fun h3ar=>Ah<|sV (Ab rfl) ?_
                refine wh h3ar<|wp_ret ?_
                exact Bn f1ar X2p rfl
               ·refine cf e3p<|wp_skip<|h5aq _ _<|ws fun h4ar=>Ah ?_
                refine scr f2ar (Ac SP (by rfl)) (Jl w4k (tbx X2p hT)) fun r1au f5ar w0h E5a0=>?_
                have X0j:=xtr X2p E5a0
                refine sV (Aa rfl) ?_
                obtain ⟨m6ar,h7ar,f8ar⟩:=Ad f5ar
                refine BH 7 (fun l l' w'=>∃(t6a0:Value) (t7a0:Value) (t8a0:Value) (t9a0:Value),UpdS [] w0h w'∧l'=(((((l.set 167 t6a0).set 168 t7a0).set 169 t8a0).set 170 t9a0).set 171 (.bool m6ar))) ?_ ?_
                ·intro HJ754
                 rcases zb h7ar with ⟨e0d,f9ar⟩ | ⟨e0d,f0as⟩
                 ·have q1as:=(((q1a0.ext E0i).upd U8g ne5o).ext E3a0).ext E5a0
                  refine sV (Ak Bl rfl q1as rfl) ?_ (hw:=wgT rfl e0d)
                  refine sV (Aa rfl) ?_ (hw:=wgT rfl e0d)
                  refine sV (Aa rfl) ?_ (hw:=wgT rfl e0d)
                  have n2as:RU w0h A1 c2 m2d:=by unfold RU;rw [hx3d];exact (n3.ext X0j)
                  have n3as:RU w0h A4 c5 m4d:=by unfold RU;rw [hx5d];exact (n6.ext X0j)
                  refine scr f9ar (Ac en_95 (by simp only [sz,hx3d,hx5d];rfl)) (c_sorobanlaw04_rooted (⟨(⟨x0.Num.Neg,m2d⟩:Ae),m4d⟩:Ap) x3 x4 A1 c2 A4 c5 w0h (tbx X0j hT) n2as n3as) (fun r4as f5as w3q E6as=>?_) (hw:=wgT rfl e0d)
                  refine sV (Az (evb rfl e0d) rfl) ?_
                  obtain rfl:=sj f5as
                  exact HJ754 _ _ ⟨(.agg #[.bool x0.Num.Neg,.slice A1 x0.Num.Abs.length c2,.slice A4 x0.Den.length c5]),(.int .i64 x3),(.int .i64 x4),(.bool r4as),((UpdS.refl _ _).ext E6as),(by kernel_rfl)⟩
                 ·refine sQ rfl e0d ?_
                  refine sQ rfl e0d ?_
                  refine sQ rfl e0d ?_
                  refine sQ rfl e0d ?_
                  refine sV (AE (evb rfl e0d) rfl) ?_
                  obtain rfl:=sj f0as
                  exact HJ754 _ _ ⟨uu,uu,uu,uu,(UpdS.refl _ _),(by kernel_rfl)⟩
                ·rintro l' w3q ⟨t6a0,t7a0,t8a0,t9a0,U7as,rfl⟩ l'' hl
                 simp only [S0,S1] at hl;subst hl
                 have X8as:=Kc X0j U7as (X0j).size al0
                 refine sV (Ab rfl) ?_
                 refine wh h4ar<|wp_ret ?_
                 exact Bn f8ar X8as rfl
end Go.Proofs

