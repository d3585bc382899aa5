import Derived.Test.YtabiobmfelafoaaGreatDoorGen6
namespace Go.Proofs
set_option linter.unusedVariables false
set_option linter.unusedSimpArgs false
set_option maxHeartbeats 4000000
open Go.RowKit Go.Sb Go.Proofs.Sbn
set_option maxRecDepth 20000 in
theorem c_sorobanlaw04_DyadSets (x0:Am) (x1:Am) (x2:Et) (x3:Int) (A1:OA) (c2:Nat) (A4:OA) (c5:Nat) (A7:OA) (c8:Nat) (A6d:OA) (c7d:Nat) (A2c:OA) (c9b:Nat) (A0c:OA) (c1b:Nat) (w:World) (hT:TB w) (n3:RLu w A1 c2 x0.Lo.Man.Abs) (n6:RLu w A4 c5 x0.Hi.Man.Abs) (n9:RLu w A7 c8 x1.Lo.Man.Abs) (n4h:RLu w A6d c7d x1.Hi.Man.Abs) (n8d:RLu w A2c c9b x2.Num.Abs) (n3d:RLu w A0c c1b x2.Den) (r:Bool) (hr:FT x0 x1 x2 x3=some r) :
  Calls Tryz.prog 9 #[.agg #[.bool x0.Lo.Man.Neg,.slice A1 x0.Lo.Man.Abs.length c2,.int .i64 x0.Lo.Exp,.bool x0.Hi.Man.Neg,.slice A4 x0.Hi.Man.Abs.length c5,.int .i64 x0.Hi.Exp],.agg #[.bool x1.Lo.Man.Neg,.slice A7 x1.Lo.Man.Abs.length c8,.int .i64 x1.Lo.Exp,.bool x1.Hi.Man.Neg,.slice A6d x1.Hi.Man.Abs.length c7d,.int .i64 x1.Hi.Exp],.agg #[.bool x2.Num.Neg,.slice A2c x2.Num.Abs.length c9b,.slice A0c x2.Den.length c1b],.int .i64 x3] w (Ret Gc w r):=by
 unfold FT at hr
 refine LB Tryz.func9 rfl 221 ?_
 refine ws fun h9k=>Ai<|sbx rfl rfl fun b8f w1 E1o g0s q6y=>?_
 refine sbx rfl rfl fun b5ak w2 E2o g7y q0l=>?_
 have g8y:=nlt E1o.size g7y
 have X1s:=xtr E1o E2o
 refine sbx rfl rfl fun b6ak w3 E5h g2s q6h=>?_
 have g3s:=nlt X1s.size g2s
 have X6g:=xtr X1s E5h
 refine sV (Ab rfl) ?_
 have q9y:=(q6y.ext E2o).ext E5h
 refine wh h9k<|ws fun h3o=>ws fun h7h=>Ai<|sV (Ak Bk rfl q9y rfl) ?_
 refine scr hr (Ad RJ (by rfl)) (Ie x0 A1 c2 A4 c5 w3 (tbx X6g hT) (n3.ext X6g) (n6.ext X6g)) fun r2f f4o w4 E3c=>?_
 have X9f:=xtr X6g E3c
 refine sbl (Fj rfl) fun z4s hz4s=>?_
 refine sV (Aa rfl) ?_
 obtain ⟨m7ak,h8ak,f9ak⟩:=Ac f4o
 refine Bw 8 (fun l l' w'=>∃(t0z:Value) (t1z:Value) (t2z:Value),UpdS [] w4 w'∧l'=((((l.set 33 t0z).set 34 t1z).set 35 t2z).set 36 (.bool m7ak))) ?_ ?_
 ·intro HJ62
  rcases zi hz4s h8ak with ⟨e0g,_,f0al⟩ | ⟨e0g,_,f1al⟩
  ·refine sQ rfl e0g ?_
   refine sQ rfl e0g ?_
   refine sQ rfl e0g ?_
   refine sV (Aq (evb rfl e0g) rfl) ?_
   obtain rfl:=sj f0al
   exact HJ62 _ _ ⟨uu,uu,uu,(UpdS.refl _ _),(by kernel_rfl)⟩
  ·refine sV (Ak Bk rfl ((q0l.ext E5h).ext E3c) rfl) ?_ (hw:=wgT rfl e0g)
   refine scr f1al (Ad RJ (by rfl)) (Ie x1 A7 c8 A6d c7d w4 (tbx X9f hT) (n9.ext X9f) (n4h.ext X9f)) (fun r5s f2al w5 E3al=>?_) (hw:=wgT rfl e0g)
   refine sbl (Fj rfl) (fun z6s hz6s=>?_) (hw:=wgT rfl e0g)
   refine sV (Av (evb rfl e0g) rfl) ?_
   obtain rfl:z6s=decide (¬(r5s=true)):=bz hz6s
   obtain rfl:=sj f2al
   exact HJ62 _ _ ⟨(.agg #[.bool x1.Lo.Man.Neg,.slice A7 x1.Lo.Man.Abs.length c8,.int .i64 x1.Lo.Exp,.bool x1.Hi.Man.Neg,.slice A6d x1.Hi.Man.Abs.length c7d,.int .i64 x1.Hi.Exp]),(.bool r5s),(.bool (decide (¬(r5s=true)))),((UpdS.refl _ _).ext E3al),(by kernel_rfl)⟩
 ·rintro l' w5 ⟨t0z,t1z,t2z,U1g,rfl⟩ l'' hl
  simp only [S0,S1] at hl;subst hl
  have X1l:=GM X9f U1g (X9f).size al0
  refine sV (Aa rfl) ?_
  obtain ⟨m4al,h5al,f6al⟩:=Ac f9ak
  refine Bw 13 (fun l l' w'=>∃(t3z:Value) (t4z:Value) (t5z:Value),UpdS [] w5 w'∧l'=((((l.set 38 t3z).set 39 t4z).set 40 t5z).set 41 (.bool m4al))) ?_ ?_
  ·intro HJ93
   rcases zb h5al with ⟨e2g,f7al⟩ | ⟨e2g,f8al⟩
   ·refine sQ rfl e2g ?_
    refine sQ rfl e2g ?_
    refine sQ rfl e2g ?_
    refine sV (Aq (evb rfl e2g) rfl) ?_
    obtain rfl:=sj f7al
    exact HJ93 _ _ ⟨uu,uu,uu,(UpdS.refl _ _),(by kernel_rfl)⟩
   ·refine sV (Ak HW rfl ((q6h.ext E3c).updS U1g nm0) rfl) ?_ (hw:=wgT rfl e2g)
    refine scr f8al (Ad en_53 (by rfl)) (c_sorobanlaw04_lightRat x2 A2c c9b A0c c1b w5 (tbx X1l hT) (n8d.ext X1l) (n3d.ext X1l)) (fun r7s f9al w6 E0am=>?_) (hw:=wgT rfl e2g)
    refine sbl (Fj rfl) (fun z8s hz8s=>?_) (hw:=wgT rfl e2g)
    refine sV (Av (evb rfl e2g) rfl) ?_
    obtain rfl:z8s=decide (¬(r7s=true)):=bz hz8s
    obtain rfl:=sj f9al
    exact HJ93 _ _ ⟨(.agg #[.bool x2.Num.Neg,.slice A2c x2.Num.Abs.length c9b,.slice A0c x2.Den.length c1b]),(.bool r7s),(.bool (decide (¬(r7s=true)))),((UpdS.refl _ _).ext E0am),(by kernel_rfl)⟩
  ·rintro l' w6 ⟨t3z,t4z,t5z,U7g,rfl⟩ l'' hl
   simp only [S0,S1] at hl;subst hl
   have X5j:=GM X1l U7g (X1l).size al0
   refine wh h7h ?_
   rcases zb f6al with ⟨e9s,f1am⟩ | ⟨e9s,f2am⟩
   ·refine ct e9s<|ws fun h3am=>Ai ?_
    refine scr f1am (Ad Ql (by rfl)) (Hv w6 (tbx X5j hT)) fun r5bq f4am w7 E5am=>?_
    have X6am:=xtr X5j E5am
    refine sV (Ab rfl) ?_
    refine wh h3am<|wp_ret ?_
    exact Bq f4am X6am rfl
   ·refine cf e9s<|wp_skip<|h3o _ _<|ws fun h7am=>Ai<|have q4e:=((q9y.ext E3c).updS U1g nm0).updS U7g nm0;sV (Ak Bk rfl q4e rfl) ?_
    refine scr f2am (Ad RB (by rfl)) (IU x0 A1 c2 A4 c5 w6 (tbx X5j hT) (n3.ext X5j) (n6.ext X5j)) fun r6z f8am w7 E8c=>?_
    have X2l:=xtr X5j E8c
    refine sV (Ab rfl) ?_
    refine nx h7am fun h9am=>sV2 (Aa rfl) (Aa rfl) ?_
    obtain ⟨m0t,h0an,f1an⟩:=Ac f8am
    refine Bw 5 (fun l l' w'=>∃(t7z:Value) (t8z:Value),UpdS [] w7 w'∧l'=(((l.set 47 t7z).set 48 t8z).set 49 (.bool m0t))) ?_ ?_
    ·intro HJ147
     rcases zb h0an with ⟨e8h,f2an⟩ | ⟨e8h,f3an⟩
     ·have q4an:=((((q0l.ext E5h).ext E3c).updS U1g nm0).updS U7g nm0).ext E8c
      refine sV (Ak Bk rfl q4an rfl) ?_ (hw:=wgT rfl e8h)
      refine scr f2an (Ad RB (by rfl)) (IU x1 A7 c8 A6d c7d w7 (tbx X2l hT) (n9.ext X2l) (n4h.ext X2l)) (fun r5an f6an w8 E7an=>?_) (hw:=wgT rfl e8h)
      refine sV (Aq (evb rfl e8h) rfl) ?_
      obtain rfl:=sj f6an
      exact HJ147 _ _ ⟨(.agg #[.bool x1.Lo.Man.Neg,.slice A7 x1.Lo.Man.Abs.length c8,.int .i64 x1.Lo.Exp,.bool x1.Hi.Man.Neg,.slice A6d x1.Hi.Man.Abs.length c7d,.int .i64 x1.Hi.Exp]),(.bool r5an),((UpdS.refl _ _).ext E7an),(by kernel_rfl)⟩
     ·refine sQ rfl e8h ?_
      refine sQ rfl e8h ?_
      refine sV (Av (evb rfl e8h) rfl) ?_
      obtain rfl:=sj f3an
      exact HJ147 _ _ ⟨uu,uu,(UpdS.refl _ _),(by kernel_rfl)⟩
    ·rintro l' w8 ⟨t7z,t8z,U1d,rfl⟩ l'' hl
     simp only [S0,S1] at hl;subst hl
     have X9z:=GM X2l U1d (X2l).size al0
     refine sV (Ab rfl) ?_
     refine nx h9am fun h8an=>sal Fo fun b0a0 w9 E9c g6j q9d=>?_
     have g9an:=nlt X9z.size g6j
     have X1a0:=xtr X9z E9c
     refine sal Fo fun b2a0 w6d E6b g3f q7e=>?_
     have g0ao:=nlt X1a0.size g3f
     have X3a0:=xtr X1a0 E6b
     refine sal Fo fun b4a0 w7d E2b g8e q9h=>?_
     have g5a0:=nlt X3a0.size g8e
     have X6a0:=xtr X3a0 E2b
     refine nx h8an fun h1ao=>sV (AR (vals:=[(1,.int .i64 1)]) (cells:=[.bool false,.slice none 0 0,.int .i64 0,.bool false,.slice none 0 0,.int .i64 0,.int .i64 1]) (by rfl) (by kernel_rfl)) ?_
     refine sal Px fun b5o w4h E2ao g7a0 q3ao=>?_
     have g4ao:=nlt X6a0.size g7a0
     refine ss MX q3ao fun w2c U5ao q0e=>?_
     have F5a:=belU E2ao U5ao g7a0
     have X8a0:=xtr X6a0 F5a
     refine wh h1ao<|ws fun h6ao=>ws fun h7ao=>Ai<|sV (Aa rfl) ?_
     refine scr f1an (Ad PB (by rfl)) (GP x3 w2c (tbx X8a0 hT)) fun r6bq f8ao w9b E0a=>?_
     have X3l:=xtr X8a0 E0a
     refine sV (Aa rfl) ?_
     obtain ⟨m9ao,h0ap,f1ap⟩:=Ac f8ao
     refine Bw 6 (fun l l' w'=>∃(t9a0:Value) (t0a1:Value),UpdS [] w9b w'∧l'=(((l.set 54 t9a0).set 55 t0a1).set 56 (.bool m9ao))) ?_ ?_
     ·intro HJ214
      rcases zb h0ap with ⟨e0i,f2ap⟩ | ⟨e0i,f3ap⟩
      ·have q4ap:=(((((((((q6h.ext E3c).updS U1g nm0).updS U7g nm0).ext E8c).updS U1d nm0).ext E9c).ext E6b).ext E2b).ext F5a).ext E0a
       refine sV (Ak HW rfl q4ap rfl) ?_ (hw:=wgT rfl e0i)
       refine scr f2ap (Ad Qy (by rfl)) (HP x2 A2c c9b A0c c1b w9b (tbx X3l hT) (n8d.ext X3l) (n3d.ext X3l)) (fun r5ap f6ap w8d E7ap=>?_) (hw:=wgT rfl e0i)
       refine sV (Aq (evb rfl e0i) rfl) ?_
       obtain rfl:=sj f6ap
       exact HJ214 _ _ ⟨(.agg #[.bool x2.Num.Neg,.slice A2c x2.Num.Abs.length c9b,.slice A0c x2.Den.length c1b]),(.bool r5ap),((UpdS.refl _ _).ext E7ap),(by kernel_rfl)⟩
      ·refine sQ rfl e0i ?_
       refine sQ rfl e0i ?_
       refine sV (Av (evb rfl e0i) rfl) ?_
       obtain rfl:=sj f3ap
       exact HJ214 _ _ ⟨uu,uu,(UpdS.refl _ _),(by kernel_rfl)⟩
     ·rintro l' w8d ⟨t9a0,t0a1,U2a,rfl⟩ l'' hl
      simp only [S0,S1] at hl;subst hl
      have X4l:=GM X3l U2a (X3l).size al0
      refine wh h7ao ?_
      obtain ⟨m4d,h8ap,f9ap⟩:=Ac f1ap
      refine BJ (fun l l' w'=>∃(t1a1:Value) (t2a1:Value) (t3a1:Value) (A5l:OA) (c6l:Nat) (A7l:OA) (c8l:Nat),UpdS [b0a0] w8d w'∧Bx w' b0a0 29 [.bool m4d.1,.slice A5l (sz m4d.2.1) c6l,.int .i64 m4d.2.2.1,.bool m4d.2.2.2.1,.slice A7l (sz m4d.2.2.2.2.1) c8l,.int .i64 m4d.2.2.2.2.2]∧RU w' A5l c6l m4d.2.1∧RU w' A7l c8l m4d.2.2.2.2.1∧l'=(((l.set 57 t1a1).set 58 t2a1).set 59 t3a1)) ?_ ?_
      ·rcases zb h8ap with ⟨e1t,f0aq⟩ | ⟨e1t,f1aq⟩
       ·refine ct e1t<|Ai<|have q2aq:=((((((((((q6h.ext E3c).updS U1g nm0).updS U7g nm0).ext E8c).updS U1d nm0).ext E9c).ext E6b).ext E2b).ext F5a).ext E0a).updS U2a nm0;sV2 (Ak HW rfl q2aq rfl) (Aa rfl) ?_
        obtain ⟨m4a1,h3aq,f4aq⟩:=Ac f0aq
        have hx5a1:=Bs h3aq
        have n5aq:RU w8d A2c c9b m4a1:=by unfold RU;rw [hx5a1];exact (n8d.ext X4l)
        obtain ⟨m6a1,h6aq,f7aq⟩:=Ac f4aq
        have hx7a1:=Bs h6aq
        have n8aq:RU w8d A0c c1b m6a1:=by unfold RU;rw [hx7a1];exact (n3d.ext X4l)
        obtain ⟨r1i,h9aq,f0ar⟩:=Ac f7aq
        refine sc (Ad en_68 (by simp only [sz,hx5a1,hx7a1];rfl)) (c_sorobanref04_Around (⟨(⟨x2.Num.Neg,m4a1⟩:Af),m6a1⟩:BG) x3 A2c c9b A0c c1b w8d (tbx X4l hT) n5aq n8aq r1i h9aq) ?_
        rintro _ w0c E8a1 ⟨A9a1,c0a2,A1a2,c2a2,rfl,n1ar,n2ar⟩
        refine nrm ?_
        have q2t:=(((((q9d.ext E6b).ext E2b).ext F5a).ext E0a).updS U2a nm0).ext E8a1
        refine ss EM q2t fun w1b U3t q3ar=>?_
        refine AE ?_
        obtain rfl:=sj f0ar
        exact ⟨_,rfl,(.agg #[.bool x2.Num.Neg,.slice A2c x2.Num.Abs.length c9b,.slice A0c x2.Den.length c1b]),(.int .i64 x3),(.agg #[.bool r1i.Lo.Man.Neg,.slice A9a1 (sz r1i.Lo.Man.Abs) c0a2,.int .i64 r1i.Lo.Exp,.bool r1i.Hi.Man.Neg,.slice A1a2 (sz r1i.Hi.Man.Abs) c2a2,.int .i64 r1i.Hi.Exp]),A9a1,c0a2,A1a2,c2a2,(((UpdS.refl _ _).ext E8a1).upd U3t (.inl im0)),q3ar,(n1ar.upd U3t q2t (by decide)),(n2ar.upd U3t q2t (by decide)),(by kernel_rfl)⟩
       ·refine cf e1t<|wp_skip ?_
        have q4ar:=((((q9d.ext E6b).ext E2b).ext F5a).ext E0a).updS U2a nm0
        obtain rfl:=sj f1aq
        exact ⟨_,rfl,uu,uu,uu,none,0,none,0,(UpdS.refl _ _),q4ar,(RU.nil _),(RU.nil _),(by kernel_rfl)⟩
      ·rintro l' w0c ⟨t1a1,t2a1,t3a1,A5l,c6l,A7l,c8l,U4a,q5ar,n6ar,n7ar,rfl⟩ l'' hl
       simp only [S0,S1] at hl;subst hl
       have X3a2:=GM X4l U4a (X4l).size (alc g9an al0)
       refine h6ao _ _<|ws fun h8ar=>ws fun h9ar=>Ai<|sV (Aa rfl) ?_
       refine scr f9ap (Ad PB (by rfl)) (GP x3 w0c (tbx X3a2 hT)) fun r7bq f0as w1b E3a=>?_
       have X9l:=xtr X3a2 E3a
       refine sV (Aa rfl) ?_
       obtain ⟨m1as,h2as,f3as⟩:=Ac f0as
       refine Bw 5 (fun l l' w'=>∃(t4a2:Value),w1b=w'∧l'=((l.set 63 t4a2).set 64 (.bool m1as))) ?_ ?_
       ·intro HJ323
        rcases zb h2as with ⟨e0m,f4as⟩ | ⟨e0m,f5as⟩
        ·refine sV (Aa rfl) ?_ (hw:=wgT rfl e0m)
         refine sV (Aq (evb rfl e0m) rfl) ?_
         obtain rfl:=sj f4as
         exact HJ323 _ _ ⟨(.bool r6z),rfl,(by kernel_rfl)⟩
        ·refine sQ rfl e0m ?_
         refine sV (Av (evb rfl e0m) rfl) ?_
         obtain rfl:=sj f5as
         exact HJ323 _ _ ⟨uu,rfl,(by kernel_rfl)⟩
       ·rintro l' _ ⟨t4a2,rfl,rfl⟩ l'' hl
        simp only [S0,S1] at hl;subst hl
        refine wh h9ar ?_
        obtain ⟨m7b,h6as,f7as⟩:=Ac f3as
        refine BJ (fun l l' w'=>∃(t5a2:Value) (t6a2:Value) (t7a2:Value) (A7j:OA) (c8j:Nat) (A9j:OA) (c0k:Nat),UpdS [b2a0] w1b w'∧Bx w' b2a0 29 [.bool m7b.1,.slice A7j (sz m7b.2.1) c8j,.int .i64 m7b.2.2.1,.bool m7b.2.2.2.1,.slice A9j (sz m7b.2.2.2.2.1) c0k,.int .i64 m7b.2.2.2.2.2]∧RU w' A7j c8j m7b.2.1∧RU w' A9j c0k m7b.2.2.2.2.1∧l'=(((l.set 65 t5a2).set 66 t6a2).set 67 t7a2)) ?_ ?_
        ·rcases zb h6as with ⟨e4t,f8as⟩ | ⟨e4t,f9as⟩
         ·refine ct e4t<|Ai<|have ne0at:=(Bx.ne ((q4e.ext E8c).updS U1d nm0) g6j);have q1at:=(((((((((q4e.ext E8c).updS U1d nm0).ext E9c).ext E6b).ext E2b).ext F5a).ext E0a).updS U2a nm0).updS U4a (nmc ne0at nm0)).ext E3a;sV2 (Ak Bk rfl q1at rfl) (Aa rfl) ?_
          obtain ⟨m8a2,h2at,f3at⟩:=Ac f8as
          have hx9a2:=Bs h2at
          have n4at:RU w1b A1 c2 m8a2:=by unfold RU;rw [hx9a2];exact (n3.ext X9l)
          obtain ⟨m0a3,h5at,f6at⟩:=Ac f3at
          have hx1a3:=Bs h5at
          have n7at:RU w1b A4 c5 m0a3:=by unfold RU;rw [hx1a3];exact (n6.ext X9l)
          obtain ⟨r2i,h8at,f9at⟩:=Ac f6at
          refine sc (Ad en_69 (by simp only [sz,hx9a2,hx1a3];rfl)) (c_sorobanref04_Outward (⟨(⟨(⟨x0.Lo.Man.Neg,m8a2⟩:Af),x0.Lo.Exp⟩:Ae),(⟨(⟨x0.Hi.Man.Neg,m0a3⟩:Af),x0.Hi.Exp⟩:Ae)⟩:Aj) x3 A1 c2 A4 c5 w1b (tbx X9l hT) n4at n7at r2i h8at) ?_
          rintro _ w3d E2a3 ⟨A3a3,c4a3,A5a3,c6a3,rfl,n0au,n1au⟩
          refine nrm ?_
          have ne2au:=(Bx.ne q9d g3f).symm
          have q5t:=((((((q7e.ext E2b).ext F5a).ext E0a).updS U2a nm0).updS U4a (nmc ne2au nm0)).ext E3a).ext E2a3
          refine ss EM q5t fun w9k U6t q3au=>?_
          refine AE ?_
          obtain rfl:=sj f9at
          exact ⟨_,rfl,(.agg #[.bool x0.Lo.Man.Neg,.slice A1 x0.Lo.Man.Abs.length c2,.int .i64 x0.Lo.Exp,.bool x0.Hi.Man.Neg,.slice A4 x0.Hi.Man.Abs.length c5,.int .i64 x0.Hi.Exp]),(.int .i64 x3),(.agg #[.bool r2i.Lo.Man.Neg,.slice A3a3 (sz r2i.Lo.Man.Abs) c4a3,.int .i64 r2i.Lo.Exp,.bool r2i.Hi.Man.Neg,.slice A5a3 (sz r2i.Hi.Man.Abs) c6a3,.int .i64 r2i.Hi.Exp]),A3a3,c4a3,A5a3,c6a3,(((UpdS.refl _ _).ext E2a3).upd U6t (.inl im0)),q3au,(n0au.upd U6t q5t (by decide)),(n1au.upd U6t q5t (by decide)),(by kernel_rfl)⟩
         ·refine cf e4t<|wp_skip ?_
          have ne4au:=(Bx.ne q9d g3f).symm
          have q5au:=(((((q7e.ext E2b).ext F5a).ext E0a).updS U2a nm0).updS U4a (nmc ne4au nm0)).ext E3a
          obtain rfl:=sj f9as
          exact ⟨_,rfl,uu,uu,uu,none,0,none,0,(UpdS.refl _ _),q5au,(RU.nil _),(RU.nil _),(by kernel_rfl)⟩
        ·rintro l' w3d ⟨t5a2,t6a2,t7a2,A7j,c8j,A9j,c0k,U7a,q6au,n7au,n8au,rfl⟩ l'' hl
         simp only [S0,S1] at hl;subst hl
         have X8g:=GM X9l U7a (X9l).size (alc g0ao al0)
         refine h8ar _ _<|ws fun h9au=>ws fun h0av=>Ai<|sV (Aa rfl) ?_
         refine wh h0av ?_
         obtain ⟨m1a,h1av,f2av⟩:=Ac f7as
         refine BJ (fun l l' w'=>∃(t7a3:Value) (t8a3:Value) (t9a3:Value) (t0a4:Value) (t1a4:Value) (t2a4:Value) (A1m:OA) (c2m:Nat) (A3m:OA) (c4m:Nat) (A5m:OA) (c6m:Nat) (A7m:OA) (c8m:Nat),UpdS [b4a0,b5o] w3d w'∧Bx w' b4a0 29 [.bool m1a.1,.slice A1m (sz m1a.2.1) c2m,.int .i64 m1a.2.2.1,.bool m1a.2.2.2.1,.slice A3m (sz m1a.2.2.2.2.1) c4m,.int .i64 m1a.2.2.2.2.2.1]∧Bx w' b5o 81 [.bool m1a.2.2.2.2.2.2.1,.slice A5m (sz m1a.2.2.2.2.2.2.2.1) c6m,.int .i64 m1a.2.2.2.2.2.2.2.2.1,.bool m1a.2.2.2.2.2.2.2.2.2.1,.slice A7m (sz m1a.2.2.2.2.2.2.2.2.2.2.1) c8m,.int .i64 m1a.2.2.2.2.2.2.2.2.2.2.2.1,.int .i64 m1a.2.2.2.2.2.2.2.2.2.2.2.2]∧RU w' A1m c2m m1a.2.1∧RU w' A3m c4m m1a.2.2.2.2.1∧RU w' A5m c6m m1a.2.2.2.2.2.2.2.1∧RU w' A7m c8m m1a.2.2.2.2.2.2.2.2.2.2.1∧l'=((((((l.set 69 t7a3).set 70 t8a3).set 71 t9a3).set 72 t0a4).set 73 t1a4).set 74 t2a4)) ?_ ?_
         ·rcases zb h1av with ⟨e7t,f3av⟩ | ⟨e7t,f4av⟩
          ·refine ct e7t<|ws fun h5av=>Ai<|have ne6av:=(Bx.ne ((q4e.ext E8c).updS U1d nm0) g6j);have ne7av:=(Bx.ne (((q4e.ext E8c).updS U1d nm0).ext E9c) g3f);have q3a4:=((((((((((q4e.ext E8c).updS U1d nm0).ext E9c).ext E6b).ext E2b).ext F5a).ext E0a).updS U2a nm0).updS U4a (nmc ne6av nm0)).ext E3a).updS U7a (nmc ne7av nm0);sV (Ak Bk rfl q3a4 rfl) ?_
           have q6o:=(((((q0l.ext E5h).ext E3c).updS U1g nm0).updS U7g nm0).ext E8c).updS U1d nm0
           have ne8av:=(Bx.ne q6o g6j)
           have ne9av:=(Bx.ne (q6o.ext E9c) g3f)
           have q4a4:=((((((((q6o.ext E9c).ext E6b).ext E2b).ext F5a).ext E0a).updS U2a nm0).updS U4a (nmc ne8av nm0)).ext E3a).updS U7a (nmc ne9av nm0)
           refine sV (Ak Bk rfl q4a4 rfl) ?_
           obtain ⟨m7o,h0aw,f1aw⟩:=Ac f3av
           have hx8o:=Bs h0aw
           have n2aw:RU w3d A1 c2 m7o:=by unfold RU;rw [hx8o];exact (n3.ext X8g)
           obtain ⟨m9o,h3aw,f4aw⟩:=Ac f1aw
           have hx0p:=Bs h3aw
           have n5aw:RU w3d A4 c5 m9o:=by unfold RU;rw [hx0p];exact (n6.ext X8g)
           obtain ⟨m1p,h6aw,f7aw⟩:=Ac f4aw
           have hx2p:=Bs h6aw
           have n8aw:RU w3d A7 c8 m1p:=by unfold RU;rw [hx2p];exact (n9.ext X8g)
           obtain ⟨m3p,h9aw,f0ax⟩:=Ac f7aw
           have hx4p:=Bs h9aw
           have n1ax:RU w3d A6d c7d m3p:=by unfold RU;rw [hx4p];exact (n4h.ext X8g)
           obtain ⟨r3i,h2ax,f3ax⟩:=Ac f0ax
           refine sc (Ad en_70 (by simp only [sz,hx8o,hx0p,hx2p,hx4p];rfl)) (c_sorobanref04_Hull (⟨(⟨(⟨x0.Lo.Man.Neg,m7o⟩:Af),x0.Lo.Exp⟩:Ae),(⟨(⟨x0.Hi.Man.Neg,m9o⟩:Af),x0.Hi.Exp⟩:Ae)⟩:Aj) (⟨(⟨(⟨x1.Lo.Man.Neg,m1p⟩:Af),x1.Lo.Exp⟩:Ae),(⟨(⟨x1.Hi.Man.Neg,m3p⟩:Af),x1.Hi.Exp⟩:Ae)⟩:Aj) A1 c2 A4 c5 A7 c8 A6d c7d w3d (tbx X8g hT) n2aw n5aw n8aw n1ax r3i h2ax) ?_
           rintro _ w9k E1k ⟨A5a4,c6a4,A7a4,c8a4,rfl,n4ax,n5ax⟩
           refine nrm ?_
           have X6ax:=xtr X8g E1k
           have ne7ax:=(Bx.ne (q9d.ext E6b) g8e).symm
           have ne8ax:=(Bx.ne q7e g8e).symm
           have q5p:=((((((q9h.ext F5a).ext E0a).updS U2a nm0).updS U4a (nmc ne7ax nm0)).ext E3a).updS U7a (nmc ne8ax nm0)).ext E1k
           refine ss EM q5p fun w8f U4i q9ax=>?_
           have X9m:=belU X6ax U4i g5a0
           refine wh h5av<|Ai<|have ne0ay:=(Bx.ne ((((q4e.ext E8c).updS U1d nm0).ext E9c).ext E6b) g8e);sV (Ak Bk rfl ((q3a4.ext E1k).upd U4i ne0ay) rfl) ?_
           have ne1ay:=(Bx.ne ((q6o.ext E9c).ext E6b) g8e)
           refine sV (Ak Bk rfl ((q4a4.ext E1k).upd U4i ne1ay) rfl) ?_
           have n2ay:RU w8f A1 c2 m7o:=by unfold RU;rw [hx8o];exact (n3.ext X9m)
           have n3ay:RU w8f A4 c5 m9o:=by unfold RU;rw [hx0p];exact (n6.ext X9m)
           have n4ay:RU w8f A7 c8 m1p:=by unfold RU;rw [hx2p];exact (n9.ext X9m)
           have n5ay:RU w8f A6d c7d m3p:=by unfold RU;rw [hx4p];exact (n4h.ext X9m)
           obtain ⟨r9g,h6ay,f7ay⟩:=Ac f3ax
           refine sc (Ad en_71 (by simp only [sz,hx8o,hx0p,hx2p,hx4p];rfl)) (c_sorobanref04_Meet (⟨(⟨(⟨x0.Lo.Man.Neg,m7o⟩:Af),x0.Lo.Exp⟩:Ae),(⟨(⟨x0.Hi.Man.Neg,m9o⟩:Af),x0.Hi.Exp⟩:Ae)⟩:Aj) (⟨(⟨(⟨x1.Lo.Man.Neg,m1p⟩:Af),x1.Lo.Exp⟩:Ae),(⟨(⟨x1.Hi.Man.Neg,m3p⟩:Af),x1.Hi.Exp⟩:Ae)⟩:Aj) A1 c2 A4 c5 A7 c8 A6d c7d w8f (tbx X9m hT) n2ay n3ay n4ay n5ay r9g h6ay) ?_
           rintro _ w1o E0n ⟨A9a4,c0a5,A1a5,c2a5,rfl,n8ay,n9ay⟩
           refine nrm ?_
           have ne0az:=(Bx.neT ((q0e.ext E0a).updS U2a nm0) (((((q9d.ext E6b).ext E2b).ext F5a).ext E0a).updS U2a nm0) (by decide))
           have ne1az:=(Bx.ne q9d g3f).symm
           have q3a5:=(((q0e.ext E0a).updS U2a nm0).updS U4a (nmc ne0az nm0)).ext E3a
           have ne2az:=(Bx.neT q3a5 ((((((q7e.ext E2b).ext F5a).ext E0a).updS U2a nm0).updS U4a (nmc ne1az nm0)).ext E3a) (by decide))
           have q4a5:=(q3a5.updS U7a (nmc ne2az nm0)).ext E1k
           have ne5a5:=(Bx.neT q4a5 q5p (by decide))
           have q1n:=(q4a5.upd U4i ne5a5).ext E0n
           refine ss MX q1n fun w0s U2k q3az=>?_
           refine AE ?_
           have n4az:=((n4ax.upd U4i q5p (by decide)).ext E0n).upd U2k q1n (by decide)
           have n5az:=((n5ax.upd U4i q5p (by decide)).ext E0n).upd U2k q1n (by decide)
           have q6az:=(q9ax.ext E0n).upd U2k (Ne.symm ne5a5)
           obtain rfl:=sj f7ay
           exact ⟨_,rfl,(.agg #[.bool x0.Lo.Man.Neg,.slice A1 x0.Lo.Man.Abs.length c2,.int .i64 x0.Lo.Exp,.bool x0.Hi.Man.Neg,.slice A4 x0.Hi.Man.Abs.length c5,.int .i64 x0.Hi.Exp]),(.agg #[.bool x1.Lo.Man.Neg,.slice A7 x1.Lo.Man.Abs.length c8,.int .i64 x1.Lo.Exp,.bool x1.Hi.Man.Neg,.slice A6d x1.Hi.Man.Abs.length c7d,.int .i64 x1.Hi.Exp]),(.agg #[.bool r3i.Lo.Man.Neg,.slice A5a4 (sz r3i.Lo.Man.Abs) c6a4,.int .i64 r3i.Lo.Exp,.bool r3i.Hi.Man.Neg,.slice A7a4 (sz r3i.Hi.Man.Abs) c8a4,.int .i64 r3i.Hi.Exp]),(.agg #[.bool x0.Lo.Man.Neg,.slice A1 x0.Lo.Man.Abs.length c2,.int .i64 x0.Lo.Exp,.bool x0.Hi.Man.Neg,.slice A4 x0.Hi.Man.Abs.length c5,.int .i64 x0.Hi.Exp]),(.agg #[.bool x1.Lo.Man.Neg,.slice A7 x1.Lo.Man.Abs.length c8,.int .i64 x1.Lo.Exp,.bool x1.Hi.Man.Neg,.slice A6d x1.Hi.Man.Abs.length c7d,.int .i64 x1.Hi.Exp]),(.agg #[.bool r9g.S.Lo.Man.Neg,.slice A9a4 (sz r9g.S.Lo.Man.Abs) c0a5,.int .i64 r9g.S.Lo.Exp,.bool r9g.S.Hi.Man.Neg,.slice A1a5 (sz r9g.S.Hi.Man.Abs) c2a5,.int .i64 r9g.S.Hi.Exp,.int .i64 r9g.E]),A5a4,c6a4,A7a4,c8a4,A9a4,c0a5,A1a5,c2a5,(((((UpdS.refl _ _).ext E1k).upd U4i (.inl im0)).ext E0n).upd U2k (.inl (imc im0))),q6az,q3az,n4az,n5az,(n8ay.upd U2k q1n (by decide)),(n9ay.upd U2k q1n (by decide)),(by kernel_rfl)⟩
          ·refine cf e7t<|wp_skip ?_
           have ne7az:=(Bx.ne (q9d.ext E6b) g8e).symm
           have ne8az:=(Bx.ne q7e g8e).symm
           have q9az:=(((((q9h.ext F5a).ext E0a).updS U2a nm0).updS U4a (nmc ne7az nm0)).ext E3a).updS U7a (nmc ne8az nm0)
           have ne0b0:=(Bx.neT ((q0e.ext E0a).updS U2a nm0) (((((q9d.ext E6b).ext E2b).ext F5a).ext E0a).updS U2a nm0) (by decide))
           have ne1b0:=(Bx.ne q9d g3f).symm
           have q6a5:=(((q0e.ext E0a).updS U2a nm0).updS U4a (nmc ne0b0 nm0)).ext E3a
           have ne2b0:=(Bx.neT q6a5 ((((((q7e.ext E2b).ext F5a).ext E0a).updS U2a nm0).updS U4a (nmc ne1b0 nm0)).ext E3a) (by decide))
           have q3b0:=q6a5.updS U7a (nmc ne2b0 nm0)
           obtain rfl:=sj f4av
           exact ⟨_,rfl,uu,uu,uu,uu,uu,uu,none,0,none,0,none,0,none,0,(UpdS.refl _ _),q9az,q3b0,(RU.nil _),(RU.nil _),(RU.nil _),(RU.nil _),(by kernel_rfl)⟩
         ·rintro l' w9k ⟨t7a3,t8a3,t9a3,t0a4,t1a4,t2a4,A1m,c2m,A3m,c4m,A5m,c6m,A7m,c8m,U4f,q4b0,q7a5,n5b0,n6b0,n7b0,n8b0,rfl⟩ l'' hl
          simp only [S0,S1] at hl;subst hl
          have X6p:=GM X8g U4f (X8g).size (alc g5a0 (alc g4ao al0))
          have q2n:=((((((((((q6h.ext E3c).updS U1g nm0).updS U7g nm0).ext E8c).updS U1d nm0).ext E9c).ext E6b).ext E2b).ext F5a).ext E0a).updS U2a nm0
          refine h9au _ _<|ws fun h9b0=>Ai<|have ne7p:=(Bx.neT q2n (((((q9d.ext E6b).ext E2b).ext F5a).ext E0a).updS U2a nm0) (by decide));have ne3n:=(Bx.ne q9d g3f).symm;have ne8t:=(Bx.neT ((q2n.updS U4a (nmc ne7p nm0)).ext E3a) ((((((q7e.ext E2b).ext F5a).ext E0a).updS U2a nm0).updS U4a (nmc ne3n nm0)).ext E3a) (by decide));have ne3g:=(Bx.neT ((q0e.ext E0a).updS U2a nm0) (((((q9d.ext E6b).ext E2b).ext F5a).ext E0a).updS U2a nm0) (by decide));have ne0h:=(Bx.neT ((((q0e.ext E0a).updS U2a nm0).updS U4a (nmc ne3g nm0)).ext E3a) ((((((q7e.ext E2b).ext F5a).ext E0a).updS U2a nm0).updS U4a (nmc ne3n nm0)).ext E3a) (by decide));have ne0b1:=(Bx.neT (((q2n.updS U4a (nmc ne7p nm0)).ext E3a).updS U7a (nmc ne8t nm0)) (((((q0e.ext E0a).updS U2a nm0).updS U4a (nmc ne3g nm0)).ext E3a).updS U7a (nmc ne0h nm0)) (by decide));have ne3k:=(Bx.ne (q9d.ext E6b) g8e).symm;have ne4k:=(Bx.ne q7e g8e).symm;have ne1b1:=(Bx.neT (((q2n.updS U4a (nmc ne7p nm0)).ext E3a).updS U7a (nmc ne8t nm0)) ((((((q9h.ext F5a).ext E0a).updS U2a nm0).updS U4a (nmc ne3k nm0)).ext E3a).updS U7a (nmc ne4k nm0)) (by decide));have q9t:=(((q2n.updS U4a (nmc ne7p nm0)).ext E3a).updS U7a (nmc ne8t nm0)).updS U4f (nmc ne1b1 (nmc ne0b1 nm0));sV2 (Ak HW rfl q9t rfl) (Aa rfl) ?_
          obtain ⟨r0u,h2b1,f3b1⟩:=Ac f2av
          refine sc (Ad en_72 (by rfl)) (c_dyad_Around x2 x3 A2c c9b A0c c1b w9k (tbx X6p hT) (n8d.ext X6p) (n3d.ext X6p) r0u h2b1) ?_
          rintro _ w8f E0d ⟨A4b1,c5b1,A6b1,c7b1,rfl,n8b1,n9b1⟩
          refine nrm ?_
          have X8a5:=xtr X6p E0d
          refine sV3 (Aa rfl) (Aw rfl rfl) (Aw rfl rfl) ?_
          refine sal Fo fun b8bq w1o E0b2 g9a5 q1b2=>?_
          have g9bq:=nlt X8a5.size g9a5
          refine ss EM q1b2 fun w0s U2b2 q3b2=>?_
          have F4c:=belU E0b2 U2b2 g9a5
          have X8p:=xtr X8a5 F4c
          refine sV (Ab rfl) ?_
          refine nx h9b0 fun h4b2=>have ne0a6:=(Bx.ne ((q4e.ext E8c).updS U1d nm0) g6j);have ne1a6:=(Bx.ne (((q4e.ext E8c).updS U1d nm0).ext E9c) g3f);have ne5b2:=(Bx.neT (((((((((((q4e.ext E8c).updS U1d nm0).ext E9c).ext E6b).ext E2b).ext F5a).ext E0a).updS U2a nm0).updS U4a (nmc ne0a6 nm0)).ext E3a).updS U7a (nmc ne1a6 nm0)) (((((q0e.ext E0a).updS U2a nm0).updS U4a (nmc ne3g nm0)).ext E3a).updS U7a (nmc ne0h nm0)) (by decide));have ne6b2:=(Bx.ne ((((q4e.ext E8c).updS U1d nm0).ext E9c).ext E6b) g8e);have q1u:=(((((((((((((q4e.ext E8c).updS U1d nm0).ext E9c).ext E6b).ext E2b).ext F5a).ext E0a).updS U2a nm0).updS U4a (nmc ne0a6 nm0)).ext E3a).updS U7a (nmc ne1a6 nm0)).updS U4f (nmc ne6b2 (nmc ne5b2 nm0))).ext E0d).ext F4c;sV2 (Ak Bk rfl q1u rfl) (Aa rfl) ?_
          obtain ⟨r5f,h7b2,f8b2⟩:=Ac f3b1
          refine sc (Ad en_73 (by rfl)) (c_dyad_Outward x0 x3 A1 c2 A4 c5 w0s (tbx X8p hT) (n3.ext X8p) (n6.ext X8p) r5f h7b2) ?_
          rintro _ w6y E8b ⟨A2a6,c3a6,A4a6,c5a6,rfl,n9b2,n0b3⟩
          refine nrm ?_
          have X6a6:=xtr X8p E8b
          refine sV3 (Aa rfl) (Aw rfl rfl) (Aw rfl rfl) ?_
          refine sal Fo fun b0br w5ak E1b3 g7a6 q2b3=>?_
          have g1br:=nlt X6a6.size g7a6
          refine ss EM q2b3 fun w2o U3b3 q4b3=>?_
          have F3b:=belU E1b3 U3b3 g7a6
          have X5k:=xtr X6a6 F3b
          refine sV (Ab rfl) ?_
          refine nx h4b2 fun h5b3=>sV (Ak Bk rfl ((q1u.ext E8b).ext F3b) rfl) ?_
          have q9p:=(((((q0l.ext E5h).ext E3c).updS U1g nm0).updS U7g nm0).ext E8c).updS U1d nm0
          have ne6b3:=(Bx.ne q9p g6j)
          have ne7b3:=(Bx.ne (q9p.ext E9c) g3f)
          have q8a6:=((((((((q9p.ext E9c).ext E6b).ext E2b).ext F5a).ext E0a).updS U2a nm0).updS U4a (nmc ne6b3 nm0)).ext E3a).updS U7a (nmc ne7b3 nm0)
          have ne8b3:=(Bx.neT q8a6 (((((q0e.ext E0a).updS U2a nm0).updS U4a (nmc ne3g nm0)).ext E3a).updS U7a (nmc ne0h nm0)) (by decide))
          have ne9b3:=(Bx.ne ((q9p.ext E9c).ext E6b) g8e)
          have q9a6:=((((q8a6.updS U4f (nmc ne9b3 (nmc ne8b3 nm0))).ext E0d).ext F4c).ext E8b).ext F3b
          refine sV (Ak Bk rfl q9a6 rfl) ?_
          obtain ⟨r6f,h0b4,f1b4⟩:=Ac f8b2
          refine sc (Ad en_74 (by rfl)) (c_dyad_Hull x0 x1 A1 c2 A4 c5 A7 c8 A6d c7d w2o (tbx X5k hT) (n3.ext X5k) (n6.ext X5k) (n9.ext X5k) (n4h.ext X5k) r6f h0b4) ?_
          rintro _ w7y E4b ⟨A0a7,c1a7,A2a7,c3a7,rfl,n2b4,n3b4⟩
          refine nrm ?_
          have X4a7:=xtr X5k E4b
          refine sV3 (Aa rfl) (Aw rfl rfl) (Aw rfl rfl) ?_
          refine sal Fo fun b2br w0l E4b4 g5a7 q5b4=>?_
          have g3br:=nlt X4a7.size g5a7
          refine ss EM q5b4 fun w8y U6b4 q7b4=>?_
          have F9a:=belU E4b4 U6b4 g5a7
          have X6k:=xtr X4a7 F9a
          refine sV (Ab rfl) ?_
          refine nx h5b3 fun h8b4=>have q6a7:=(((q1u.ext E8b).ext F3b).ext E4b).ext F9a;sV2 (Ak Bk rfl q6a7 rfl) (Ak Bk rfl ((q9a6.ext E4b).ext F9a) rfl) ?_
          obtain ⟨r9e,h9b4,f0b5⟩:=Ac f1b4
          refine sc (Ad en_75 (by rfl)) (c_dyad_Meet x0 x1 A1 c2 A4 c5 A7 c8 A6d c7d w8y (tbx X6k hT) (n3.ext X6k) (n6.ext X6k) (n9.ext X6k) (n4h.ext X6k) r9e h9b4) ?_
          rintro _ w1s E0b ⟨A7a7,c8a7,A9a7,c0a8,rfl,n1b5,n2b5⟩
          refine nrm ?_
          have X1a8:=xtr X6k E0b
          refine sV3 (Aa rfl) (Aw rfl rfl) (Aw rfl rfl) ?_
          refine sal Fo fun b4br w6ak E3b5 g2a8 q4b5=>?_
          have g5br:=nlt X1a8.size g2a8
          refine ss EM q4b5 fun w5h U5b5 q6b5=>?_
          have F8a:=belU E3b5 U5b5 g2a8
          have X7b5:=xtr X1a8 F8a
          refine sV (Ab rfl) ?_
          refine wh h8b4<|ws fun h8b5=>ws fun h9b5=>DD [] 47 mo rfl fun w2s E6a S2u=>have X3a8:=xtr X7b5 E6a;dV 0 rfl (fun _ hw=>Ak Bk rfl ((((((((q3b2.ext E8b).ext F3b).ext E4b).ext F9a).ext E0b).ext F8a).ext E6a).ext hw) rfl) S2u ?_
          refine dA2 1 2 rfl rfl (fun _=>Aa rfl) (fun _=>Aa rfl) ?_
          refine dV 9 rfl (fun _ hw=>Ak Bk rfl (((((((((((((q5ar.ext E3a).updS U7a (nmc (Ne.symm ne3n) nm0)).updS U4f (nmc (Ne.symm ne3k) (nmc (Ne.symm ne3g) nm0))).ext E0d).ext F4c).ext E8b).ext F3b).ext E4b).ext F9a).ext E0b).ext F8a).ext E6a).ext hw) rfl) S2u ?_
          refine dcr f0b5 3 rfl (by rfl) (Ad PB (by rfl)) (GP x3 w2s (tbx X3a8 hT)) fun r6br f0b6 w6h E5c=>?_
          have X0q:=xtr X3a8 E5c
          have S3u:=S2u.trans E5c
          refine dA 4 rfl (fun _=>Aa rfl) ?_
          obtain ⟨m4a8,h1b6,f2b6⟩:=Ac f0b6
          refine GZ (tb 47 767) 38 (fun l l' w'=>∃(t5a8:Value) (t6a8:Value),UpdS [] w6h w'∧l'=(((l.set 104 t5a8).set 105 t6a8).set 106 (.bool m4a8))) ?_ ?_
          ·intro HJ736
           rcases zb h1b6 with ⟨e5i,f3b6⟩ | ⟨e5i,f4b6⟩
           ·refine dV 5 rfl (fun _ hw=>Ak HW rfl ((((((((((q9t.ext E0d).ext F4c).ext E8b).ext F3b).ext E4b).ext F9a).ext E0b).ext F8a).ext E6a).ext hw) rfl) S3u ?_ (hw:=wgT rfl e5i)
            refine dcr f3b6 6 rfl (wgT rfl e5i) (Ad Qy (by rfl)) (HP x2 A2c c9b A0c c1b w6h (tbx X0q hT) (n8d.ext X0q) (n3d.ext X0q)) fun r5b6 f6b6 w3s E7a8=>?_
            have S7br:=S3u.trans E7a8
            refine dA 7 rfl (fun _=>Aq (evb rfl e5i) rfl) ?_
            obtain rfl:=sj f6b6
            exact dls (HJ736 _ _ ⟨(.agg #[.bool x2.Num.Neg,.slice A2c x2.Num.Abs.length c9b,.slice A0c x2.Den.length c1b]),(.bool r5b6),((UpdS.refl _ _).ext E7a8),(by kernel_rfl)⟩)
           ·refine dP 5 rfl ?_ (hw:=wgF rfl e5i)
            refine dP 6 rfl ?_ (hw:=wgF rfl e5i)
            refine dA 7 rfl (fun _=>Av (evb rfl e5i) rfl) ?_
            obtain rfl:=sj f4b6
            exact dls (HJ736 _ _ ⟨uu,uu,(UpdS.refl _ _),(by kernel_rfl)⟩)
          ·rintro l' w3s ⟨t5a8,t6a8,U7b6,rfl⟩ l'' hl
           simp only [S0,S1] at hl;subst hl
           have E6c:=UpdS.e U7b6
           have X8a8:=xtr X0q E6c
           have S8b6:=S3u.trans E6c
           refine dcr f2b6 8 rfl (by rfl) (Ad Qt (by rfl)) (Im m4a8 w3s (tbx X8a8 hT)) fun r9b6 f0b7 w6g E7c=>?_
           have X9a8:=xtr X8a8 E7c
           have S1b7:=S8b6.trans E7c
           have n2b7:=((((((((((n8b1.ext F4c).ext E8b).ext F3b).ext E4b).ext F9a).ext E0b).ext F8a).ext E6a).ext E5c).ext E6c).ext E7c
           have n3b7:=((((((((((n9b1.ext F4c).ext E8b).ext F3b).ext E4b).ext F9a).ext E0b).ext F8a).ext E6a).ext E5c).ext E6c).ext E7c
           have n4b7:RU w6g A5l c6l m4d.2.1:=((((((((((((((n6ar.ext E3a).updS U7a (alc ⟨_,_,by decide,(((((q7e.ext E2b).ext F5a).ext E0a).updS U2a nm0).updS U4a (nmc ne3n nm0)).ext E3a⟩ al0)).updS U4f (alc ⟨_,_,by decide,(((((q9h.ext F5a).ext E0a).updS U2a nm0).updS U4a (nmc ne3k nm0)).ext E3a).updS U7a (nmc ne4k nm0)⟩ (alc ⟨_,_,by decide,((((q0e.ext E0a).updS U2a nm0).updS U4a (nmc ne3g nm0)).ext E3a).updS U7a (nmc ne0h nm0)⟩ al0))).ext E0d).ext F4c).ext E8b).ext F3b).ext E4b).ext F9a).ext E0b).ext F8a).ext E6a).ext E5c).ext E6c).ext E7c
           have n5b7:RU w6g A7l c8l m4d.2.2.2.2.1:=((((((((((((((n7ar.ext E3a).updS U7a (alc ⟨_,_,by decide,(((((q7e.ext E2b).ext F5a).ext E0a).updS U2a nm0).updS U4a (nmc ne3n nm0)).ext E3a⟩ al0)).updS U4f (alc ⟨_,_,by decide,(((((q9h.ext F5a).ext E0a).updS U2a nm0).updS U4a (nmc ne3k nm0)).ext E3a).updS U7a (nmc ne4k nm0)⟩ (alc ⟨_,_,by decide,((((q0e.ext E0a).updS U2a nm0).updS U4a (nmc ne3g nm0)).ext E3a).updS U7a (nmc ne0h nm0)⟩ al0))).ext E0d).ext F4c).ext E8b).ext F3b).ext E4b).ext F9a).ext E0b).ext F8a).ext E6a).ext E5c).ext E6c).ext E7c
           refine dcr f0b7 10 rfl (by rfl) (Ad Rn (by rfl)) (Gw r0u.1 r0u.2 r9b6 (⟨(⟨(⟨m4d.1,m4d.2.1⟩:Af),m4d.2.2.1⟩:Ae),(⟨(⟨m4d.2.2.2.1,m4d.2.2.2.2.1⟩:Af),m4d.2.2.2.2.2⟩:Ae)⟩:Aj) A4b1 c5b1 A6b1 c7b1 A5l c6l A7l c8l w6g (tbx X9a8 hT) n2b7 n3b7 n4b7 n5b7) fun r8br f6b7 w3o E5d=>?_
           have X4u:=xtr X9a8 E5d
           have S1q:=S1b7.trans E5d
           refine dab 11 rfl (by kernel_rfl) (fun _ _ _ h=>h) (by rfl) (fun _=>Fj rfl) fun z0a9 hz0a9=>?_
           refine dnrm ?_
           refine dA 12 rfl (fun _=>Aa rfl) ?_
           obtain ⟨m7b7,h8b7,f9b7⟩:=Ac f6b7
           refine GZ (tb 47 33554431) 22 (fun l l' w'=>∃(t1a9:Value) (t2a9:Value) (t3a9:Value) (t4a9:Value) (t5a9:Value) (t6a9:Value) (t7a9:Value) (t8a9:Value) (t9a9:Value) (t0aa:Value) (t1aa:Value),UpdS [] w3o w'∧l'=((((((((((((l.set 112 t1a9).set 113 t2a9).set 114 t3a9).set 115 t4a9).set 116 t5a9).set 117 t6a9).set 118 t7a9).set 119 t8a9).set 120 t9a9).set 121 t0aa).set 122 t1aa).set 123 (.bool m7b7))) ?_ ?_
           ·intro HJ827
            rcases zi hz0a9 h8b7 with ⟨e5b,_,f0b8⟩ | ⟨e5b,_,f1b8⟩
            ·refine dP 13 rfl ?_ (hw:=wgF rfl e5b)
             refine dP 14 rfl ?_ (hw:=wgF rfl e5b)
             refine dP 15 rfl ?_ (hw:=wgF rfl e5b)
             refine dP 16 rfl ?_ (hw:=wgF rfl e5b)
             refine dP 17 rfl ?_ (hw:=wgF rfl e5b)
             refine dP 18 rfl ?_
             refine dP 19 rfl ?_ (hw:=wgF rfl e5b)
             refine dP 20 rfl ?_ (hw:=wgF rfl e5b)
             refine dP 21 rfl ?_ (hw:=wgF rfl e5b)
             refine dP 22 rfl ?_ (hw:=wgF rfl e5b)
             refine dP 23 rfl ?_ (hw:=wgF rfl e5b)
             refine dA 24 rfl (fun _=>Aq (evb rfl e5b) rfl) ?_
             obtain rfl:=sj f0b8
             exact dls (HJ827 _ _ ⟨uu,uu,uu,uu,uu,uu,uu,uu,uu,uu,uu,(UpdS.refl _ _),(by kernel_rfl)⟩)
            ·refine dV 13 rfl (fun _ hw=>Ak Bk rfl ((((((q4b3.ext E4b).ext F9a).ext E0b).ext F8a).ext E6a).ext hw) rfl) S1q ?_ (hw:=wgT rfl e5b)
             refine dA 14 rfl (fun _=>Aa rfl) ?_ (hw:=wgT rfl e5b)
             refine dA 15 rfl (fun _=>Aa rfl) ?_ (hw:=wgT rfl e5b)
             refine dV 21 rfl (fun _ hw=>Ak Bk rfl (((((((((((q6au.updS U4f (nmc (Ne.symm ne4k) (nmc (Ne.symm ne0h) nm0))).ext E0d).ext F4c).ext E8b).ext F3b).ext E4b).ext F9a).ext E0b).ext F8a).ext E6a).ext hw) rfl) S1q ?_ (hw:=wgT rfl e5b)
             refine dcr f1b8 16 rfl (wgT rfl e5b) (Ad PB (by rfl)) (GP x3 w3o (tbx X4u hT)) fun r2aa f2b8 w7h E6i=>?_
             have X3aa:=xtr X4u E6i
             have S3b8:=S1q.trans E6i
             refine dA 17 rfl (fun _=>Aa rfl) ?_ (hw:=wgT rfl e5b)
             obtain ⟨m5u,h4b8,f5b8⟩:=Ac f2b8
             refine GZ (tb 47 3145727) 26 (fun l l' w'=>∃(t6u:Value),w7h=w'∧l'=((l.set 117 t6u).set 118 (.bool m5u))) ?_ ?_
             ·intro HJ849
              rcases zb h4b8 with ⟨e4n,f6b8⟩ | ⟨e4n,f7b8⟩
              ·refine dA 18 rfl (fun _=>Aa rfl) ?_ (hw:=wgT rfl e4n)
               refine dA 19 rfl (fun _=>Aq (evb rfl e4n) rfl) ?_ (hw:=wgT rfl e5b)
               obtain rfl:=sj f6b8
               exact dls (HJ849 _ _ ⟨(.bool r6z),rfl,(by kernel_rfl)⟩)
              ·refine dP 18 rfl ?_ (hw:=wgF rfl e4n)
               refine dA 19 rfl (fun _=>Av (evb rfl e4n) rfl) ?_ (hw:=wgT rfl e5b)
               obtain rfl:=sj f7b8
               exact dls (HJ849 _ _ ⟨uu,rfl,(by kernel_rfl)⟩)
             ·rintro l' _ ⟨t6u,rfl,rfl⟩ l'' hl
              simp only [S0,S1] at hl;subst hl
              refine dcr f5b8 20 rfl (wgT rfl e5b) (Ad Qt (by rfl)) (Im m5u w7h (tbx X3aa hT)) fun r4aa f8b8 w2f E7i=>?_
              have X9b8:=xtr X3aa E7i
              have S0b9:=S3b8.trans E7i
              have n1b9:=(((((((((((n9b2.ext F3b).ext E4b).ext F9a).ext E0b).ext F8a).ext E6a).ext E5c).ext E6c).ext E7c).ext E5d).ext E6i).ext E7i
              have n2b9:=(((((((((((n0b3.ext F3b).ext E4b).ext F9a).ext E0b).ext F8a).ext E6a).ext E5c).ext E6c).ext E7c).ext E5d).ext E6i).ext E7i
              have n3b9:RU w2f A7j c8j m7b.2.1:=(((((((((((((((n7au.updS U4f (alc ⟨_,_,by decide,(((((q9h.ext F5a).ext E0a).updS U2a nm0).updS U4a (nmc ne3k nm0)).ext E3a).updS U7a (nmc ne4k nm0)⟩ (alc ⟨_,_,by decide,((((q0e.ext E0a).updS U2a nm0).updS U4a (nmc ne3g nm0)).ext E3a).updS U7a (nmc ne0h nm0)⟩ al0))).ext E0d).ext F4c).ext E8b).ext F3b).ext E4b).ext F9a).ext E0b).ext F8a).ext E6a).ext E5c).ext E6c).ext E7c).ext E5d).ext E6i).ext E7i
              have n4b9:RU w2f A9j c0k m7b.2.2.2.2.1:=(((((((((((((((n8au.updS U4f (alc ⟨_,_,by decide,(((((q9h.ext F5a).ext E0a).updS U2a nm0).updS U4a (nmc ne3k nm0)).ext E3a).updS U7a (nmc ne4k nm0)⟩ (alc ⟨_,_,by decide,((((q0e.ext E0a).updS U2a nm0).updS U4a (nmc ne3g nm0)).ext E3a).updS U7a (nmc ne0h nm0)⟩ al0))).ext E0d).ext F4c).ext E8b).ext F3b).ext E4b).ext F9a).ext E0b).ext F8a).ext E6a).ext E5c).ext E6c).ext E7c).ext E5d).ext E6i).ext E7i
              refine dcr f8b8 22 rfl (wgT rfl e5b) (Ad Rn (by rfl)) (Gw r5f.1 r5f.2 r4aa (⟨(⟨(⟨m7b.1,m7b.2.1⟩:Af),m7b.2.2.1⟩:Ae),(⟨(⟨m7b.2.2.2.1,m7b.2.2.2.2.1⟩:Af),m7b.2.2.2.2.2⟩:Ae)⟩:Aj) A2a6 c3a6 A4a6 c5a6 A7j c8j A9j c0k w2f (tbx X9b8 hT) n1b9 n2b9 n3b9 n4b9) fun r7u f5b9 w2q E5aa=>?_
              have S9br:=S0b9.trans E5aa
              refine dab 23 rfl (by kernel_rfl) (fun _ _ _ h=>h) (wgT rfl e5b) (fun _=>Fj rfl) fun z8u hz8u=>?_
              refine dnrm ?_
              refine dA 24 rfl (fun _=>Av (evb rfl e5b) rfl) ?_
              obtain rfl:z8u=decide (¬(r7u=true)):=bz hz8u
              obtain rfl:=sj f5b9
              exact dls (HJ827 _ _ ⟨(.agg #[.bool r5f.1.Lo.Man.Neg,.slice A2a6 (sz r5f.1.Lo.Man.Abs) c3a6,.int .i64 r5f.1.Lo.Exp,.bool r5f.1.Hi.Man.Neg,.slice A4a6 (sz r5f.1.Hi.Man.Abs) c5a6,.int .i64 r5f.1.Hi.Exp]),(.int .i64 r5f.2),(.int .i64 x3),(.bool r2aa),(.bool r2aa),t6u,(.bool m5u),(.int .i64 r4aa),(.agg #[.bool m7b.1,.slice A7j (sz m7b.2.1) c8j,.int .i64 m7b.2.2.1,.bool m7b.2.2.2.1,.slice A9j (sz m7b.2.2.2.2.1) c0k,.int .i64 m7b.2.2.2.2.2]),(.bool r7u),(.bool (decide (¬(r7u=true)))),((((UpdS.refl _ _).ext E6i).ext E7i).ext E5aa),(by kernel_rfl)⟩)
           ·rintro l' w7h ⟨t1a9,t2a9,t3a9,t4a9,t5a9,t6a9,t7a9,t8a9,t9a9,t0aa,t1aa,U6b9,rfl⟩ l'' hl
            simp only [S0,S1] at hl;subst hl
            have E5e:=UpdS.e U6b9
            have X9u:=xtr X4u E5e
            have S3q:=S1q.trans E5e
            refine dA 25 rfl (fun _=>Aa rfl) ?_
            obtain ⟨m7b9,h8b9,f9b9⟩:=Ac f9b7
            refine GZ (tb 47 17179869183) 13 (fun l l' w'=>∃(t6aa:Value) (t7aa:Value) (t8aa:Value) (t9aa:Value) (t0ab:Value) (t1ab:Value) (t2ab:Value),UpdS [] w7h w'∧l'=((((((((l.set 125 t6aa).set 126 t7aa).set 127 t8aa).set 128 t9aa).set 129 t0ab).set 130 t1ab).set 131 t2ab).set 132 (.bool m7b9))) ?_ ?_
            ·intro HJ908
             rcases zb h8b9 with ⟨e2d,f0ba⟩ | ⟨e2d,f1ba⟩
             ·refine dP 26 rfl ?_ (hw:=wgF rfl e2d)
              refine dP 27 rfl ?_ (hw:=wgF rfl e2d)
              refine dP 28 rfl ?_ (hw:=wgF rfl e2d)
              refine dP 29 rfl ?_ (hw:=wgF rfl e2d)
              refine dP 30 rfl ?_ (hw:=wgF rfl e2d)
              refine dP 31 rfl ?_ (hw:=wgF rfl e2d)
              refine dP 32 rfl ?_ (hw:=wgF rfl e2d)
              refine dA 33 rfl (fun _=>Aq (evb rfl e2d) rfl) ?_
              obtain rfl:=sj f0ba
              exact dls (HJ908 _ _ ⟨uu,uu,uu,uu,uu,uu,uu,(UpdS.refl _ _),(by kernel_rfl)⟩)
             ·refine dV 26 rfl (fun _ hw=>Ak Bk rfl ((((q7b4.ext E0b).ext F8a).ext E6a).ext hw) rfl) S3q ?_ (hw:=wgT rfl e2d)
              refine dA 27 rfl (fun _=>Aa rfl) ?_ (hw:=wgT rfl e2d)
              refine dA 28 rfl (fun _=>Aa rfl) ?_ (hw:=wgT rfl e2d)
              refine dV 30 rfl (fun _ hw=>Ak Bk rfl ((((((((((q4b0.ext E0d).ext F4c).ext E8b).ext F3b).ext E4b).ext F9a).ext E0b).ext F8a).ext E6a).ext hw) rfl) S3q ?_ (hw:=wgT rfl e2d)
              refine dcr f1ba 29 rfl (wgT rfl e2d) (Ad Qt (by rfl)) (Im m0t w7h (tbx X9u hT)) fun r3ab f2ba w2f E8i=>?_
              have X3ba:=xtr X9u E8i
              have S4ba:=S3q.trans E8i
              have n5ba:=(((((((((n2b4.ext F9a).ext E0b).ext F8a).ext E6a).ext E5c).ext E6c).ext E7c).ext E5d).ext E5e).ext E8i
              have n6ba:=(((((((((n3b4.ext F9a).ext E0b).ext F8a).ext E6a).ext E5c).ext E6c).ext E7c).ext E5d).ext E5e).ext E8i
              have n7ba:=((((((((((((((n5b0.ext E0d).ext F4c).ext E8b).ext F3b).ext E4b).ext F9a).ext E0b).ext F8a).ext E6a).ext E5c).ext E6c).ext E7c).ext E5d).ext E5e).ext E8i
              have n8ba:=((((((((((((((n6b0.ext E0d).ext F4c).ext E8b).ext F3b).ext E4b).ext F9a).ext E0b).ext F8a).ext E6a).ext E5c).ext E6c).ext E7c).ext E5d).ext E5e).ext E8i
              refine dcr f2ba 31 rfl (wgT rfl e2d) (Ad Rn (by rfl)) (Gw r6f.1 r6f.2 r3ab (⟨(⟨(⟨m1a.1,m1a.2.1⟩:Af),m1a.2.2.1⟩:Ae),(⟨(⟨m1a.2.2.2.1,m1a.2.2.2.2.1⟩:Af),m1a.2.2.2.2.2.1⟩:Ae)⟩:Aj) A0a7 c1a7 A2a7 c3a7 A1m c2m A3m c4m w2f (tbx X3ba hT) n5ba n6ba n7ba n8ba) fun r0v f9ba w2q E4ab=>?_
              have S0bs:=S4ba.trans E4ab
              refine dab 32 rfl (by kernel_rfl) (fun _ _ _ h=>h) (wgT rfl e2d) (fun _=>Fj rfl) fun z1v hz1v=>?_
              refine dnrm ?_
              refine dA 33 rfl (fun _=>Av (evb rfl e2d) rfl) ?_
              obtain rfl:z1v=decide (¬(r0v=true)):=bz hz1v
              obtain rfl:=sj f9ba
              exact dls (HJ908 _ _ ⟨(.agg #[.bool r6f.1.Lo.Man.Neg,.slice A0a7 (sz r6f.1.Lo.Man.Abs) c1a7,.int .i64 r6f.1.Lo.Exp,.bool r6f.1.Hi.Man.Neg,.slice A2a7 (sz r6f.1.Hi.Man.Abs) c3a7,.int .i64 r6f.1.Hi.Exp]),(.int .i64 r6f.2),(.bool m0t),(.int .i64 r3ab),(.agg #[.bool m1a.1,.slice A1m (sz m1a.2.1) c2m,.int .i64 m1a.2.2.1,.bool m1a.2.2.2.1,.slice A3m (sz m1a.2.2.2.2.1) c4m,.int .i64 m1a.2.2.2.2.2.1]),(.bool r0v),(.bool (decide (¬(r0v=true)))),(((UpdS.refl _ _).ext E8i).ext E4ab),(by kernel_rfl)⟩)
            ·rintro l' w2f ⟨t6aa,t7aa,t8aa,t9aa,t0ab,t1ab,t2ab,U0bb,rfl⟩ l'' hl
             simp only [S0,S1] at hl;subst hl
             have E1h:=UpdS.e U0bb
             have X5ab:=xtr X9u E1h
             have S5n:=S3q.trans E1h
             refine dA 34 rfl (fun _=>Aa rfl) ?_
             obtain ⟨m1bb,h2bb,f3bb⟩:=Ac f9b9
             refine GZ (tb 47 1099511627775) 7 (fun l l' w'=>∃(t6ab:Value) (t7ab:Value) (t8ab:Value) (t9ab:Value),w2f=w'∧l'=(((((l.set 134 t6ab).set 135 t7ab).set 136 t8ab).set 137 t9ab).set 138 (.bool m1bb))) ?_ ?_
             ·intro HJ948
              rcases zb h2bb with ⟨e0f,f4bb⟩ | ⟨e0f,f5bb⟩
              ·refine dP 35 rfl ?_ (hw:=wgF rfl e0f)
               refine dP 36 rfl ?_ (hw:=wgF rfl e0f)
               refine dP 37 rfl ?_ (hw:=wgF rfl e0f)
               refine dP 38 rfl ?_ (hw:=wgF rfl e0f)
               refine dA 39 rfl (fun _=>Aq (evb rfl e0f) rfl) ?_
               obtain rfl:=sj f4bb
               exact dls (HJ948 _ _ ⟨uu,uu,uu,uu,rfl,(by kernel_rfl)⟩)
              ·refine dA 35 rfl (fun _=>Aa rfl) ?_ (hw:=wgT rfl e0f)
               refine dA 36 rfl (fun _=>Ag (o':=6) PN rfl rfl) ?_ (hw:=wgT rfl e0f)
               refine dV 37 rfl (fun _ hw=>Ah DQ rfl (Bx.cell ((((((((((q7a5.ext E0d).ext F4c).ext E8b).ext F3b).ext E4b).ext F9a).ext E0b).ext F8a).ext E6a).ext hw) rfl)) S5n ?_ (hw:=wgT rfl e0f)
               refine dab 38 rfl (by kernel_rfl) (fun _ _ _ h=>h) (wgT rfl e0f) (fun _=>IW rfl rfl) fun z2v hz2v=>?_
               refine dnrm ?_
               refine dA 39 rfl (fun _=>Av (evb rfl e0f) rfl) ?_
               obtain rfl:z2v=decide (¬r9e.2=m1a.2.2.2.2.2.2.2.2.2.2.2.2):=bz hz2v
               obtain rfl:=sj f5bb
               exact dls (HJ948 _ _ ⟨(.int .i64 r9e.2),(.pointer (some ⟨b5o,6,none⟩)),(.int .i64 m1a.2.2.2.2.2.2.2.2.2.2.2.2),(.bool (decide (¬r9e.2=m1a.2.2.2.2.2.2.2.2.2.2.2.2))),rfl,(by kernel_rfl)⟩)
             ·rintro l' _ ⟨t6ab,t7ab,t8ab,t9ab,rfl,rfl⟩ l'' hl
              simp only [S0,S1] at hl;subst hl
              refine dA 40 rfl (fun _=>Aa rfl) ?_
              obtain ⟨m6bb,h7bb,f8bb⟩:=Ac f3bb
              refine GZ (tb 47 140737488355327) 0 (fun l l' w'=>∃(t0ac:Value) (t1ac:Value) (t2ac:Value) (t3ac:Value) (t4ac:Value),UpdS [] w2f w'∧l'=((((((l.set 140 t0ac).set 141 t1ac).set 142 t2ac).set 143 t3ac).set 144 t4ac).set 145 (.bool m6bb))) ?_ ?_
              ·intro HJ980
               rcases zb h7bb with ⟨e1e,f9bb⟩ | ⟨e1e,f0bc⟩
               ·refine dP 41 rfl ?_ (hw:=wgF rfl e1e)
                refine dP 42 rfl ?_ (hw:=wgF rfl e1e)
                refine dP 43 rfl ?_ (hw:=wgF rfl e1e)
                refine dP 44 rfl ?_ (hw:=wgF rfl e1e)
                refine dP 45 rfl ?_ (hw:=wgF rfl e1e)
                refine dA 46 rfl (fun _=>Aq (evb rfl e1e) rfl) ?_
                obtain rfl:=sj f9bb
                exact dls (HJ980 _ _ ⟨uu,uu,uu,uu,uu,(UpdS.refl _ _),(by kernel_rfl)⟩)
               ·refine dV 41 rfl (fun _ hw=>Ak Bk rfl ((q6b5.ext E6a).ext hw) rfl) S5n ?_ (hw:=wgT rfl e1e)
                refine dA 42 rfl (fun _=>Ag (o':=0) Pv rfl rfl) ?_ (hw:=wgT rfl e1e)
                refine dV 43 rfl (fun _ hw=>Hk Bk rfl ((((((((((q7a5.ext E0d).ext F4c).ext E8b).ext F3b).ext E4b).ext F9a).ext E0b).ext F8a).ext E6a).ext hw) (by simp only [List.drop_zero,List.take_succ_cons,List.take_zero];rfl) rfl) S5n ?_ (hw:=wgT rfl e1e)
                have n1bc:=(((((((n1b5.ext F8a).ext E6a).ext E5c).ext E6c).ext E7c).ext E5d).ext E5e).ext E1h
                have n2bc:=(((((((n2b5.ext F8a).ext E6a).ext E5c).ext E6c).ext E7c).ext E5d).ext E5e).ext E1h
                have n3bc:=((((((((((((((n7b0.ext E0d).ext F4c).ext E8b).ext F3b).ext E4b).ext F9a).ext E0b).ext F8a).ext E6a).ext E5c).ext E6c).ext E7c).ext E5d).ext E5e).ext E1h
                have n4bc:=((((((((((((((n8b0.ext E0d).ext F4c).ext E8b).ext F3b).ext E4b).ext F9a).ext E0b).ext F8a).ext E6a).ext E5c).ext E6c).ext E7c).ext E5d).ext E5e).ext E1h
                refine dcr f0bc 44 rfl (wgT rfl e1e) (Ad Nz (by rfl)) (DB r9e.1 (⟨(⟨(⟨m1a.2.2.2.2.2.2.1,m1a.2.2.2.2.2.2.2.1⟩:Af),m1a.2.2.2.2.2.2.2.2.1⟩:Ae),(⟨(⟨m1a.2.2.2.2.2.2.2.2.2.1,m1a.2.2.2.2.2.2.2.2.2.2.1⟩:Af),m1a.2.2.2.2.2.2.2.2.2.2.2.1⟩:Ae)⟩:Aj) A7a7 c8a7 A9a7 c0a8 A5m c6m A7m c8m w2f (tbx X5ab hT) n1bc n2bc n3bc n4bc) fun r3v f5bc w2q E5ac=>?_
                have S1bs:=S5n.trans E5ac
                refine dab 45 rfl (by kernel_rfl) (fun _ _ _ h=>h) (wgT rfl e1e) (fun _=>Fj rfl) fun z4v hz4v=>?_
                refine dnrm ?_
                refine dA 46 rfl (fun _=>Av (evb rfl e1e) rfl) ?_
                obtain rfl:z4v=decide (¬(r3v=true)):=bz hz4v
                obtain rfl:=sj f5bc
                exact dls (HJ980 _ _ ⟨(.agg #[.bool r9e.1.Lo.Man.Neg,.slice A7a7 (sz r9e.1.Lo.Man.Abs) c8a7,.int .i64 r9e.1.Lo.Exp,.bool r9e.1.Hi.Man.Neg,.slice A9a7 (sz r9e.1.Hi.Man.Abs) c0a8,.int .i64 r9e.1.Hi.Exp]),(.pointer (some ⟨b5o,0,none⟩)),(.agg #[.bool m1a.2.2.2.2.2.2.1,.slice A5m (sz m1a.2.2.2.2.2.2.2.1) c6m,.int .i64 m1a.2.2.2.2.2.2.2.2.1,.bool m1a.2.2.2.2.2.2.2.2.2.1,.slice A7m (sz m1a.2.2.2.2.2.2.2.2.2.2.1) c8m,.int .i64 m1a.2.2.2.2.2.2.2.2.2.2.2.1]),(.bool r3v),(.bool (decide (¬(r3v=true)))),((UpdS.refl _ _).ext E5ac),(by kernel_rfl)⟩)
              ·rintro l' w2q ⟨t0ac,t1ac,t2ac,t3ac,t4ac,U6bc,rfl⟩ l'' hl
               simp only [S0,S1] at hl;subst hl
               have E4q:=UpdS.e U6bc
               have X9i:=xtr X5ab E4q
               have S2bs:=S5n.trans E4q
               refine CI (by kernel_rfl) ?_
               refine h9b5 _ _ ?_
               rcases zb f8bb with ⟨e5v,f7bc⟩ | ⟨e5v,f8bc⟩
               ·refine ct e5v<|ws fun h9bc=>Ai<|sV (Ab rfl) ?_
                refine wh h9bc<|wp_ret ?_
                exact Bq f7bc X9i rfl
               ·refine cf e5v<|wp_skip<|h8b5 _ _<|ws fun h0bd=>Ai<|have q6v:=(((((((((q6a7.ext E0b).ext F8a).ext E6a).ext E5c).ext E6c).ext E7c).ext E5d).ext E5e).ext E1h).ext E4q;sV (Ak Bk rfl q6v rfl) ?_
                have q7v:=(((((((((((((((q9t.ext E0d).ext F4c).ext E8b).ext F3b).ext E4b).ext F9a).ext E0b).ext F8a).ext E6a).ext E5c).ext E6c).ext E7c).ext E5d).ext E5e).ext E1h).ext E4q
                refine sV (Ak HW rfl q7v rfl) ?_
                refine scr f8bc (Ad en_77 (by rfl)) (c_dyad_Has x0 x2 A1 c2 A4 c5 A2c c9b A0c c1b w2q (tbx X9i hT) (n3.ext X9i) (n6.ext X9i) (n8d.ext X9i) (n3d.ext X9i)) fun r7k f1bd w4o E6n=>?_
                have X7n:=xtr X9i E6n
                refine sV3 (Aa rfl) (Aw rfl rfl) (Aw rfl rfl) ?_
                refine sV2 (Ab rfl) (Ab rfl) ?_
                refine wh h0bd<|ws fun h2bd=>ws fun h3bd=>Ai<|sV (Aa rfl) ?_
                refine sbl (Fj rfl) fun z6ac hz6ac=>?_
                refine sV (Aa rfl) ?_
                obtain ⟨m4bd,h5bd,f6bd⟩:=Ac f1bd
                refine Bw 7 (fun l l' w'=>∃(t7ac:Value) (t8ac:Value) (t9ac:Value),UpdS [] w4o w'∧l'=((((l.set 155 t7ac).set 156 t8ac).set 157 t9ac).set 158 (.bool m4bd))) ?_ ?_
                ·intro HJ1040
                 rcases zi hz6ac h5bd with ⟨e4g,_,f7bd⟩ | ⟨e4g,_,f8bd⟩
                 ·refine sQ rfl e4g ?_
                  refine sQ rfl e4g ?_
                  refine sQ rfl e4g ?_
                  refine sV (Aq (evb rfl e4g) rfl) ?_
                  obtain rfl:=sj f7bd
                  exact HJ1040 _ _ ⟨uu,uu,uu,(UpdS.refl _ _),(by kernel_rfl)⟩
                 ·refine sV (Ak HW rfl (q7v.ext E6n) rfl) ?_ (hw:=wgT rfl e4g)
                  refine scr f8bd (Ad Qy (by rfl)) (HP x2 A2c c9b A0c c1b w4o (tbx X7n hT) (n8d.ext X7n) (n3d.ext X7n)) (fun r8v f9bd w3c E0be=>?_) (hw:=wgT rfl e4g)
                  refine sbl (Fj rfl) (fun z9v hz9v=>?_) (hw:=wgT rfl e4g)
                  refine sV (Av (evb rfl e4g) rfl) ?_
                  obtain rfl:z9v=decide (¬(r8v=true)):=bz hz9v
                  obtain rfl:=sj f9bd
                  exact HJ1040 _ _ ⟨(.agg #[.bool x2.Num.Neg,.slice A2c x2.Num.Abs.length c9b,.slice A0c x2.Den.length c1b]),(.bool r8v),(.bool (decide (¬(r8v=true)))),((UpdS.refl _ _).ext E0be),(by kernel_rfl)⟩
                ·rintro l' w3c ⟨t7ac,t8ac,t9ac,U5q,rfl⟩ l'' hl
                 simp only [S0,S1] at hl;subst hl
                 have X7f:=GM X7n U5q (X7n).size al0
                 refine wh h3bd ?_
                 obtain ⟨v1be,h2be,f0w⟩:=rj_some f6bd
                 refine BJ (fun l l' w'=>∃(m0ad:Unit) (t1ad:Value) (t2ad:Value) (t3ad:Value) (t4ad:Value) (t5ad:Value) (t6ad:Value) (t7ad:Value) (t8ad:Value) (t9ad:Value) (t0ae:Value) (t1ae:Value) (t2ae:Value) (t3ae:Value) (t4ae:Value),v1be = .ok m0ad∧UpdS [] w3c w'∧l'=((((((((((((((l.set 159 t1ad).set 160 t2ad).set 161 t3ad).set 162 t4ad).set 163 t5ad).set 164 t6ad).set 165 t7ad).set 166 t8ad).set 167 t9ad).set 168 t0ae).set 169 t1ae).set 170 t2ae).set 171 t3ae).set 172 t4ae)) ?_ ?_
                 ·rcases zb h2be with ⟨e1w,f3be⟩ | ⟨e1w,f4be⟩
                  ·refine ct e1w<|ws fun h5be=>Ai<|sV (Aa rfl) ?_
                   refine sbl (IW rfl rfl) fun z6q hz6q=>?_
                   refine sV (Aa rfl) ?_
                   obtain ⟨m5ae,h6be,f7be⟩:=Ac f3be
                   refine Bw 5 (fun l l' w'=>∃(t2w:Value),w3c=w'∧l'=((l.set 162 t2w).set 163 (.bool m5ae))) ?_ ?_
                   ·intro HJ1309
                    rcases zi hz6q h6be with ⟨e8n,_,f8be⟩ | ⟨e8n,_,f9be⟩
                    ·refine sQ rfl e8n ?_
                     refine sV (Aq (evb rfl e8n) rfl) ?_
                     obtain rfl:=sj f8be
                     exact HJ1309 _ _ ⟨uu,rfl,(by kernel_rfl)⟩
                    ·refine sV (Aa rfl) ?_ (hw:=wgT rfl e8n)
                     refine sV (Av (evb rfl e8n) rfl) ?_
                     obtain rfl:=sj f9be
                     exact HJ1309 _ _ ⟨(.bool r7k.1),rfl,(by kernel_rfl)⟩
                   ·rintro l' _ ⟨t2w,rfl,rfl⟩ l'' hl
                    simp only [S0,S1] at hl;subst hl
                    refine wh h5be ?_
                    rcases zb f7be with ⟨e3w,f0bf⟩ | ⟨e3w,f1bf⟩
                    ·refine ct e3w<|ws fun h2bf=>Ai<|sV (Ab rfl) ?_
                     refine wh h2bf<|wp_ret ?_
                     obtain rfl:=sj f0bf
                     obtain rfl:=Rk f0w
                     exact fin rfl (Res.tmp rfl Res.nil) (Bg X7f rfl)
                    ·refine cf e3w<|wp_skip ?_
                     obtain rfl:=sj f1bf
                     exact ⟨_,rfl,_,(.int .i64 r7k.2),(.bool z6q),(.bool z6q),t2w,(.bool m5ae),uu,uu,uu,uu,uu,uu,uu,uu,uu,rfl,(UpdS.refl _ _),(by kernel_rfl)⟩
                  ·refine cf e1w<|ws fun h3bf=>Ai<|sV (Aa rfl) ?_
                   refine sbl (IW rfl rfl) fun z7q hz7q=>?_
                   refine sV (Aa rfl) ?_
                   obtain ⟨m6ae,h4bf,f5bf⟩:=Ac f4be
                   refine Bw 9 (fun l l' w'=>∃(t4w:Value) (t5w:Value) (t6w:Value) (t7w:Value) (t8w:Value),UpdS [] w3c w'∧l'=((((((l.set 167 t4w).set 168 t5w).set 169 t6w).set 170 t7w).set 171 t8w).set 172 (.bool m6ae))) ?_ ?_
                   ·intro HJ1250
                    rcases zi hz7q h4bf with ⟨e2e,_,f6bf⟩ | ⟨e2e,_,f7bf⟩
                    ·refine sQ rfl e2e ?_
                     refine sQ rfl e2e ?_
                     refine sQ rfl e2e ?_
                     refine sQ rfl e2e ?_
                     refine sQ rfl e2e ?_
                     refine sV (Aq (evb rfl e2e) rfl) ?_
                     obtain rfl:=sj f6bf
                     exact HJ1250 _ _ ⟨uu,uu,uu,uu,uu,(UpdS.refl _ _),(by kernel_rfl)⟩
                    ·refine sV (Aa rfl) ?_ (hw:=wgT rfl e2e)
                     have q8bf:=(q6v.ext E6n).updS U5q nm0
                     refine sV (Ak Bk rfl q8bf rfl) ?_ (hw:=wgT rfl e2e)
                     have q9bf:=(q7v.ext E6n).updS U5q nm0
                     refine sV (Ak HW rfl q9bf rfl) ?_ (hw:=wgT rfl e2e)
                     obtain ⟨m7ae,h0bg,f1bg⟩:=Ac f7bf
                     have hx8ae:=Bs h0bg
                     have n2bg:RU w3c A1 c2 m7ae:=by unfold RU;rw [hx8ae];exact (n3.ext X7f)
                     obtain ⟨m9ae,h3bg,f4bg⟩:=Ac f1bg
                     have hx0af:=Bs h3bg
                     have n5bg:RU w3c A4 c5 m9ae:=by unfold RU;rw [hx0af];exact (n6.ext X7f)
                     obtain ⟨m1af,h6bg,f7bg⟩:=Ac f4bg
                     have hx2af:=Bs h6bg
                     have n8bg:RU w3c A2c c9b m1af:=by unfold RU;rw [hx2af];exact (n8d.ext X7f)
                     obtain ⟨m3af,h9bg,f0bh⟩:=Ac f7bg
                     have hx4af:=Bs h9bg
                     have n1bh:RU w3c A0c c1b m3af:=by unfold RU;rw [hx4af];exact (n3d.ext X7f)
                     refine scr f0bh (Ad en_78 (by simp only [sz,hx8ae,hx0af,hx2af,hx4af];rfl)) (c_sorobanref04_Has (⟨(⟨(⟨x0.Lo.Man.Neg,m7ae⟩:Af),x0.Lo.Exp⟩:Ae),(⟨(⟨x0.Hi.Man.Neg,m9ae⟩:Af),x0.Hi.Exp⟩:Ae)⟩:Aj) (⟨(⟨x2.Num.Neg,m1af⟩:Af),m3af⟩:BG) A1 c2 A4 c5 A2c c9b A0c c1b w3c (tbx X7f hT) n2bg n5bg n8bg n1bh) (fun r9w f2bh w9f E3bh=>?_) (hw:=wgT rfl e2e)
                     refine sbl (Nf OE rfl rfl) (fun z0x hz0x=>?_) (hw:=wgT rfl e2e)
                     refine sV (Av (evb rfl e2e) rfl) ?_
                     obtain rfl:z0x=decide (¬r7k.1=r9w):=bz hz0x
                     obtain rfl:=sj f2bh
                     exact HJ1250 _ _ ⟨(.bool r7k.1),(.agg #[.bool x0.Lo.Man.Neg,.slice A1 x0.Lo.Man.Abs.length c2,.int .i64 x0.Lo.Exp,.bool x0.Hi.Man.Neg,.slice A4 x0.Hi.Man.Abs.length c5,.int .i64 x0.Hi.Exp]),(.agg #[.bool x2.Num.Neg,.slice A2c x2.Num.Abs.length c9b,.slice A0c x2.Den.length c1b]),(.bool r9w),(.bool (decide (¬r7k.1=r9w))),((UpdS.refl _ _).ext E3bh),(by kernel_rfl)⟩
                   ·rintro l' w9f ⟨t4w,t5w,t6w,t7w,t8w,U5af,rfl⟩ l'' hl
                    simp only [S0,S1] at hl;subst hl
                    have X4bh:=GM X7f U5af (X7f).size al0
                    refine wh h3bf ?_
                    rcases zb f5bf with ⟨e1x,f5bh⟩ | ⟨e1x,f6bh⟩
                    ·refine ct e1x<|ws fun h7bh=>Ai<|sV (Ab rfl) ?_
                     refine wh h7bh<|wp_ret ?_
                     obtain rfl:=sj f5bh
                     obtain rfl:=Rk f0w
                     exact fin rfl (Res.tmp rfl Res.nil) (Bg X4bh rfl)
                    ·refine cf e1x<|wp_skip ?_
                     obtain rfl:=sj f6bh
                     exact ⟨_,rfl,_,uu,uu,uu,uu,uu,(.int .i64 r7k.2),(.bool z7q),(.bool z7q),t4w,t5w,t6w,t7w,t8w,(.bool m6ae),rfl,((UpdS.refl _ _).updS U5af al0),(by kernel_rfl)⟩
                 ·rintro l' w9f ⟨m0ad,t1ad,t2ad,t3ad,t4ad,t5ad,t6ad,t7ad,t8ad,t9ad,t0ae,t1ae,t2ae,t3ae,t4ae,h8bh,U6af,rfl⟩ l'' hl
                  simp only [S0,S1] at hl;subst hl
                  have f9bh:=rj_ok f0w h8bh
                  have X8q:=GM X7f U6af (X7f).size al0
                  refine h2bd _ _<|ws fun h0bi=>Ai<|have q7af:=((q6v.ext E6n).updS U5q nm0).updS U6af nm0;sV (Ak Bk rfl q7af rfl) ?_
                  refine scn f9bh (Ad en_79 (by rfl)) (c_dyad_Width x0 A1 c2 A4 c5 w9f (tbx X8q hT) (n3.ext X8q) (n6.ext X8q)) fun r3e f1bi w4s A9q c0r E8af n9af=>?_
                  have X0ag:=xtr X8q E8af
                  refine sV3 (Aa rfl) (Aw rfl rfl) (Aw rfl rfl) ?_
                  refine sal Ga fun b3bs w4bs E2bi g1ag q3bi=>?_
                  have g5bs:=nlt X0ag.size g1ag
                  refine ss DC q3bi fun w4bi U5bi q2ag=>?_
                  have F1r:=belU E2bi U5bi g1ag
                  have X2r:=xtr X0ag F1r
                  refine sV (Ab rfl) ?_
                  have q3r:=(q7af.ext E8af).ext F1r
                  refine nx h0bi fun h6bi=>sV (Ak Bk rfl q3r rfl) ?_
                  refine scr f1bi (Ad en_80 (by rfl)) (c_dyad_Side x0 A1 c2 A4 c5 w4bi (tbx X2r hT) (n3.ext X2r) (n6.ext X2r)) fun r6e f7bi w8bi E2h=>?_
                  have X2x:=xtr X2r E2h
                  refine sV3 (Aa rfl) (Aw rfl rfl) (Aw rfl rfl) ?_
                  refine sV2 (Ab rfl) (Ab rfl) ?_
                  refine wh h6bi<|ws fun h9bi=>ws fun h0bj=>Ai<|sV (Aa rfl) ?_
                  refine sbl (Fj rfl) fun z3ag hz3ag=>?_
                  refine wh h0bj ?_
                  rcases zi hz3ag f7bi with ⟨e3x,_,f1bj⟩ | ⟨e3x,_,f2bj⟩
                  ·refine ct e3x<|ws fun h3bj=>Ai ?_
                   refine scr f1bj (Ad Ql (by rfl)) (Hv w8bi (tbx X2x hT)) fun r6bs f4bj w0j E4x=>?_
                   have X5x:=xtr X2x E4x
                   refine sV (Aa rfl) ?_
                   obtain ⟨m5bj,h6bj,f7bj⟩:=Ac f4bj
                   refine Bw 5 (fun l l' w'=>∃(t4ag:Value) (t5ag:Value),w0j=w'∧l'=(((l.set 187 t4ag).set 188 t5ag).set 189 (.bool m5bj))) ?_ ?_
                   ·intro HJ1661
                    rcases zb h6bj with ⟨e1j,f8bj⟩ | ⟨e1j,f9bj⟩
                    ·refine sV (Aa rfl) ?_ (hw:=wgT rfl e1j)
                     refine sbl (BD rfl rfl) (fun z6x hz6x=>?_) (hw:=wgT rfl e1j)
                     refine sV (Aq (evb rfl e1j) rfl) ?_
                     obtain rfl:z6x=decide (r3e.2=1):=bz hz6x
                     obtain rfl:=sj f8bj
                     exact HJ1661 _ _ ⟨(.int .i64 r3e.2),(.bool (decide (r3e.2=1))),rfl,(by kernel_rfl)⟩
                    ·refine sQ rfl e1j ?_
                     refine sQ rfl e1j ?_
                     refine sV (Av (evb rfl e1j) rfl) ?_
                     obtain rfl:=sj f9bj
                     exact HJ1661 _ _ ⟨uu,uu,rfl,(by kernel_rfl)⟩
                   ·rintro l' _ ⟨t4ag,t5ag,rfl,rfl⟩ l'' hl
                    simp only [S0,S1] at hl;subst hl
                    refine sV (Aa rfl) ?_
                    obtain ⟨m0bk,h1bk,f2bk⟩:=Ac f7bj
                    refine Bw 9 (fun l l' w'=>∃(t6ag:Value) (t7ag:Value),w0j=w'∧l'=(((l.set 191 t6ag).set 192 t7ag).set 193 (.bool m0bk))) ?_ ?_
                    ·intro HJ1680
                     rcases zb h1bk with ⟨e2j,f3bk⟩ | ⟨e2j,f4bk⟩
                     ·refine sV (Aa rfl) ?_ (hw:=wgT rfl e2j)
                      refine sbl (BD rfl rfl) (fun z7x hz7x=>?_) (hw:=wgT rfl e2j)
                      refine sV (Aq (evb rfl e2j) rfl) ?_
                      obtain rfl:z7x=decide (r6e.2=1):=bz hz7x
                      obtain rfl:=sj f3bk
                      exact HJ1680 _ _ ⟨(.int .i64 r6e.2),(.bool (decide (r6e.2=1))),rfl,(by kernel_rfl)⟩
                     ·refine sQ rfl e2j ?_
                      refine sQ rfl e2j ?_
                      refine sV (Av (evb rfl e2j) rfl) ?_
                      obtain rfl:=sj f4bk
                      exact HJ1680 _ _ ⟨uu,uu,rfl,(by kernel_rfl)⟩
                    ·rintro l' _ ⟨t6ag,t7ag,rfl,rfl⟩ l'' hl
                     simp only [S0,S1] at hl;subst hl
                     refine sV (Aa rfl) ?_
                     obtain ⟨m5bk,h6bk,f7bk⟩:=Ac f2bk
                     refine Bw 13 (fun l l' w'=>∃(t8ag:Value) (t9ag:Value),w0j=w'∧l'=(((l.set 195 t8ag).set 196 t9ag).set 197 (.bool m5bk))) ?_ ?_
                     ·intro HJ1699
                      rcases zb h6bk with ⟨e3j,f8bk⟩ | ⟨e3j,f9bk⟩
                      ·refine sV (Aa rfl) ?_ (hw:=wgT rfl e3j)
                       refine sbl (BD rfl rfl) (fun z8x hz8x=>?_) (hw:=wgT rfl e3j)
                       refine sV (Aq (evb rfl e3j) rfl) ?_
                       obtain rfl:z8x=decide (r6e.1=0):=bz hz8x
                       obtain rfl:=sj f8bk
                       exact HJ1699 _ _ ⟨(.int .i64 r6e.1),(.bool (decide (r6e.1=0))),rfl,(by kernel_rfl)⟩
                      ·refine sQ rfl e3j ?_
                       refine sQ rfl e3j ?_
                       refine sV (Av (evb rfl e3j) rfl) ?_
                       obtain rfl:=sj f9bk
                       exact HJ1699 _ _ ⟨uu,uu,rfl,(by kernel_rfl)⟩
                     ·rintro l' _ ⟨t8ag,t9ag,rfl,rfl⟩ l'' hl
                      simp only [S0,S1] at hl;subst hl
                      refine sV (Aa rfl) ?_
                      obtain ⟨m0bl,h1bl,f2bl⟩:=Ac f7bk
                      refine Bw 18 (fun l l' w'=>∃(t0ah:Value) (t1ah:Value) (t2ah:Value),UpdS [] w0j w'∧l'=((((l.set 199 t0ah).set 200 t1ah).set 201 t2ah).set 202 (.bool m0bl))) ?_ ?_
                      ·intro HJ1724
                       rcases zb h1bl with ⟨e5g,f3bl⟩ | ⟨e5g,f4bl⟩
                       ·refine sV (Ak AH rfl ((q2ag.ext E2h).ext E4x) rfl) ?_ (hw:=wgT rfl e5g)
                        refine sV (AR (vals:=[]) (cells:=[.bool false,.slice none 0 0,.int .i64 0]) (by rfl) (by kernel_rfl)) ?_ (hw:=wgT rfl e5g)
                        have n5bl:=((n9af.ext F1r).ext E2h).ext E4x
                        refine scr f3bl (Ad MD (by rfl)) (Ds r3e.1 (⟨(⟨false,0⟩:Af),0⟩:Ae) A9q c0r none 0 w0j (tbx X5x hT) n5bl (RU.nil _)) (fun r6bl f7bl w9n E8bl=>?_) (hw:=wgT rfl e5g)
                        refine sV (Aq (evb rfl e5g) rfl) ?_
                        obtain rfl:=sj f7bl
                        exact HJ1724 _ _ ⟨(.agg #[.bool r3e.1.Man.Neg,.slice A9q (sz r3e.1.Man.Abs) c0r,.int .i64 r3e.1.Exp]),(.agg #[.bool false,.slice none 0 0,.int .i64 0]),(.bool r6bl),((UpdS.refl _ _).ext E8bl),(by kernel_rfl)⟩
                       ·refine sQ rfl e5g ?_
                        refine sQ rfl e5g ?_
                        refine sQ rfl e5g ?_
                        refine sV (Av (evb rfl e5g) rfl) ?_
                        obtain rfl:=sj f4bl
                        exact HJ1724 _ _ ⟨uu,uu,uu,(UpdS.refl _ _),(by kernel_rfl)⟩
                      ·rintro l' w9n ⟨t0ah,t1ah,t2ah,U9bl,rfl⟩ l'' hl
                       simp only [S0,S1] at hl;subst hl
                       have X0bm:=GM X5x U9bl (X5x).size al0
                       refine sV (Ab rfl) ?_
                       refine wh h3bj<|wp_ret ?_
                       exact Bq f2bl X0bm rfl
                  ·refine cf e3x<|wp_skip<|h9bi _ _<|ws fun h1bm=>DD [] 23 mo rfl fun w0j E8k S2bm=>?_
                   have X3ah:=xtr X2x E8k
                   refine dcr f2bj 0 rfl (by rfl) (Ad Ql (by rfl)) (Hv w0j (tbx X3ah hT)) fun r7bs f3bm w9n E9x=>?_
                   have X4r:=xtr X3ah E9x
                   have S0o:=S2bm.trans E9x
                   refine dA 1 rfl (fun _=>Aa rfl) ?_
                   obtain ⟨m4bm,h5bm,f6bm⟩:=Ac f3bm
                   refine GZ (tb 23 4095) 11 (fun l l' w'=>∃(t4ah:Value) (t5ah:Value) (t6ah:Value) (t7ah:Value) (t8ah:Value) (t9ah:Value) (t0ai:Value) (t1ai:Value) (t2ai:Value),UpdS [] w9n w'∧l'=((((((((((l.set 205 t4ah).set 206 t5ah).set 207 t6ah).set 208 t7ah).set 209 t8ah).set 210 t9ah).set 211 t0ai).set 212 t1ai).set 213 t2ai).set 214 (.bool m4bm))) ?_ ?_
                   ·intro HJ1524
                    rcases zb h5bm with ⟨e1c,f7bm⟩ | ⟨e1c,f8bm⟩
                    ·refine dV 2 rfl (fun _ hw=>Ak AH rfl (((q2ag.ext E2h).ext E8k).ext hw) rfl) S0o ?_ (hw:=wgT rfl e1c)
                     refine dA 3 rfl (fun _=>Aa rfl) ?_ (hw:=wgT rfl e1c)
                     refine dA 4 rfl (fun _=>Ag (o':=3) Ez rfl rfl) ?_ (hw:=wgT rfl e1c)
                     refine dV 5 rfl (fun _ hw=>dld AH (((q3r.ext E2h).ext E8k).ext hw)) S0o ?_ (hw:=wgT rfl e1c)
                     refine dA 6 rfl (fun _=>Ag (o':=0) Ev rfl rfl) ?_ (hw:=wgT rfl e1c)
                     refine dV 7 rfl (fun _ hw=>dld AH (((q3r.ext E2h).ext E8k).ext hw)) S0o ?_ (hw:=wgT rfl e1c)
                     obtain ⟨m3ai,h9bm,f0bn⟩:=Ac f7bm
                     have hx4ai:=Bs h9bm
                     have n1bn:RU w9n A1 c2 m3ai:=by unfold RU;rw [hx4ai];exact (n3.ext X4r)
                     refine dcn f0bn 8 rfl (wgT rfl e1c) (Ad RP (by simp only [sz,hx4ai];rfl)) (Jg (⟨(⟨x0.Lo.Man.Neg,m3ai⟩:Af),x0.Lo.Exp⟩:Ae) A1 c2 w9n (tbx X4r hT) n1bn) fun r5r f2bn w3h A5ai c6ai E6r n3bn=>?_
                     have X0y:=xtr X4r E6r
                     have S4bn:=S0o.trans E6r
                     obtain ⟨m7ai,h5bn,f6bn⟩:=Ac f2bn
                     have hx8ai:=Bs h5bn
                     have n7bn:RU w3h A4 c5 m7ai:=by unfold RU;rw [hx8ai];exact (n6.ext X0y)
                     refine dcn f6bn 9 rfl (wgT rfl e1c) (Ad RT (by simp only [sz,hx8ai];rfl)) (JU (⟨(⟨x0.Hi.Man.Neg,m7ai⟩:Af),x0.Hi.Exp⟩:Ae) r5r A4 c5 A5ai c6ai w3h (tbx X0y hT) n7bn n3bn) fun r7r f8bn w1y A9ai c0aj E8r n9bn=>?_
                     have X0bo:=xtr X0y E8r
                     have S1bo:=S4bn.trans E8r
                     have n2bo:=(((((n9af.ext F1r).ext E2h).ext E8k).ext E9x).ext E6r).ext E8r
                     refine dcr f8bn 10 rfl (wgT rfl e1c) (Ad en_50 (by rfl)) (c_sorobanlaw04_agrees r3e.1 r3e.2 0 r7r A9q c0r A9ai c0aj w1y (tbx X0bo hT) n2bo n9bn) fun r3bo f4bo w8bs E1aj=>?_
                     have S9bs:=S1bo.trans E1aj
                     refine dA 11 rfl (fun _=>Aq (evb rfl e1c) rfl) ?_
                     obtain rfl:=sj f4bo
                     exact dls (HJ1524 _ _ ⟨(.agg #[.bool r3e.1.Man.Neg,.slice A9q (sz r3e.1.Man.Abs) c0r,.int .i64 r3e.1.Exp]),(.int .i64 r3e.2),(.pointer (some ⟨b8f,3,none⟩)),(.agg #[.bool x0.Hi.Man.Neg,.slice A4 x0.Hi.Man.Abs.length c5,.int .i64 x0.Hi.Exp]),(.pointer (some ⟨b8f,0,none⟩)),(.agg #[.bool x0.Lo.Man.Neg,.slice A1 x0.Lo.Man.Abs.length c2,.int .i64 x0.Lo.Exp]),(.agg #[.bool r5r.Man.Neg,.slice A5ai (sz r5r.Man.Abs) c6ai,.int .i64 r5r.Exp]),(.agg #[.bool r7r.Man.Neg,.slice A9ai (sz r7r.Man.Abs) c0aj,.int .i64 r7r.Exp]),(.bool r3bo),((((UpdS.refl _ _).ext E6r).ext E8r).ext E1aj),(by kernel_rfl)⟩)
                    ·refine dP 2 rfl ?_ (hw:=wgF rfl e1c)
                     refine dP 3 rfl ?_ (hw:=wgF rfl e1c)
                     refine dP 4 rfl ?_ (hw:=wgF rfl e1c)
                     refine dP 5 rfl ?_ (hw:=wgF rfl e1c)
                     refine dP 6 rfl ?_ (hw:=wgF rfl e1c)
                     refine dP 7 rfl ?_ (hw:=wgF rfl e1c)
                     refine dP 8 rfl ?_ (hw:=wgF rfl e1c)
                     refine dP 9 rfl ?_ (hw:=wgF rfl e1c)
                     refine dP 10 rfl ?_ (hw:=wgF rfl e1c)
                     refine dA 11 rfl (fun _=>Av (evb rfl e1c) rfl) ?_
                     obtain rfl:=sj f8bm
                     exact dls (HJ1524 _ _ ⟨uu,uu,uu,uu,uu,uu,uu,uu,uu,(UpdS.refl _ _),(by kernel_rfl)⟩)
                   ·rintro l' w3h ⟨t4ah,t5ah,t6ah,t7ah,t8ah,t9ah,t0ai,t1ai,t2ai,U5bo,rfl⟩ l'' hl
                    simp only [S0,S1] at hl;subst hl
                    have E2aj:=UpdS.e U5bo
                    have X9r:=xtr X4r E2aj
                    have S2y:=S0o.trans E2aj
                    refine dA 12 rfl (fun _=>Aa rfl) ?_
                    obtain ⟨m6bo,h7bo,f8bo⟩:=Ac f6bm
                    refine GZ (tb 23 65535) 7 (fun l l' w'=>∃(t3aj:Value) (t4aj:Value),w3h=w'∧l'=(((l.set 216 t3aj).set 217 t4aj).set 218 (.bool m6bo))) ?_ ?_
                    ·intro HJ1580
                     rcases zb h7bo with ⟨e4j,f9bo⟩ | ⟨e4j,f0bp⟩
                     ·refine dA 13 rfl (fun _=>Aa rfl) ?_ (hw:=wgT rfl e4j)
                      refine dab 14 rfl (by kernel_rfl) (fun _ _ _ h=>h) (wgT rfl e4j) (fun _=>BD rfl rfl) fun z3y hz3y=>?_
                      refine dnrm ?_
                      refine dA 15 rfl (fun _=>Aq (evb rfl e4j) rfl) ?_
                      obtain rfl:z3y=decide (r6e.2=0):=bz hz3y
                      obtain rfl:=sj f9bo
                      exact dls (HJ1580 _ _ ⟨(.int .i64 r6e.2),(.bool (decide (r6e.2=0))),rfl,(by kernel_rfl)⟩)
                     ·refine dP 13 rfl ?_ (hw:=wgF rfl e4j)
                      refine dP 14 rfl ?_ (hw:=wgF rfl e4j)
                      refine dA 15 rfl (fun _=>Av (evb rfl e4j) rfl) ?_
                      obtain rfl:=sj f0bp
                      exact dls (HJ1580 _ _ ⟨uu,uu,rfl,(by kernel_rfl)⟩)
                    ·rintro l' _ ⟨t3aj,t4aj,rfl,rfl⟩ l'' hl
                     simp only [S0,S1] at hl;subst hl
                     refine dA 16 rfl (fun _=>Aa rfl) ?_
                     obtain ⟨m1bp,h2bp,f3bp⟩:=Ac f8bo
                     refine GZ (tb 23 4194303) 1 (fun l l' w'=>∃(t5aj:Value) (t6aj:Value) (t7aj:Value) (t8aj:Value),UpdS [] w3h w'∧l'=(((((l.set 220 t5aj).set 221 t6aj).set 222 t7aj).set 223 t8aj).set 224 (.bool m1bp))) ?_ ?_
                     ·intro HJ1617
                      rcases zb h2bp with ⟨e1f,f4bp⟩ | ⟨e1f,f5bp⟩
                      ·refine dA 17 rfl (fun _=>Aa rfl) ?_ (hw:=wgT rfl e1f)
                       refine dV 18 rfl (fun _ hw=>Ak Bk rfl (((q3r.ext E2h).ext E8k).ext hw) rfl) S2y ?_ (hw:=wgT rfl e1f)
                       obtain ⟨m9aj,h6bp,f7bp⟩:=Ac f4bp
                       have hx0ak:=Bs h6bp
                       have n8bp:RU w3h A1 c2 m9aj:=by unfold RU;rw [hx0ak];exact (n3.ext X9r)
                       obtain ⟨m1ak,h9bp,f0bq⟩:=Ac f7bp
                       have hx2ak:=Bs h9bp
                       have n1bq:RU w3h A4 c5 m1ak:=by unfold RU;rw [hx2ak];exact (n6.ext X9r)
                       refine dcr f0bq 19 rfl (wgT rfl e1f) (Ad en_19 (by simp only [sz,hx0ak,hx2ak];rfl)) (c_sorobanref04_Side (⟨(⟨(⟨x0.Lo.Man.Neg,m9aj⟩:Af),x0.Lo.Exp⟩:Ae),(⟨(⟨x0.Hi.Man.Neg,m1ak⟩:Af),x0.Hi.Exp⟩:Ae)⟩:Aj) A1 c2 A4 c5 w3h (tbx X9r hT) n8bp n1bq) fun r4y f2bq w1y E3ak=>?_
                       have S0bt:=S2y.trans E3ak
                       refine dab 20 rfl (by kernel_rfl) (fun _ _ _ h=>h) (wgT rfl e1f) (fun _=>BD rfl rfl) fun z5y hz5y=>?_
                       refine dnrm ?_
                       refine dA 21 rfl (fun _=>Aq (evb rfl e1f) rfl) ?_
                       obtain rfl:z5y=decide (r6e.1=r4y):=bz hz5y
                       obtain rfl:=sj f2bq
                       exact dls (HJ1617 _ _ ⟨(.int .i64 r6e.1),(.agg #[.bool x0.Lo.Man.Neg,.slice A1 x0.Lo.Man.Abs.length c2,.int .i64 x0.Lo.Exp,.bool x0.Hi.Man.Neg,.slice A4 x0.Hi.Man.Abs.length c5,.int .i64 x0.Hi.Exp]),(.int .i64 r4y),(.bool (decide (r6e.1=r4y))),((UpdS.refl _ _).ext E3ak),(by kernel_rfl)⟩)
                      ·refine dP 17 rfl ?_ (hw:=wgF rfl e1f)
                       refine dP 18 rfl ?_ (hw:=wgF rfl e1f)
                       refine dP 19 rfl ?_ (hw:=wgF rfl e1f)
                       refine dP 20 rfl ?_ (hw:=wgF rfl e1f)
                       refine dA 21 rfl (fun _=>Av (evb rfl e1f) rfl) ?_
                       obtain rfl:=sj f5bp
                       exact dls (HJ1617 _ _ ⟨uu,uu,uu,uu,(UpdS.refl _ _),(by kernel_rfl)⟩)
                     ·rintro l' w1y ⟨t5aj,t6aj,t7aj,t8aj,U3bq,rfl⟩ l'' hl
                      simp only [S0,S1] at hl;subst hl
                      have E4ak:=UpdS.e U3bq
                      have X4bq:=xtr X9r E4ak
                      have S1bt:=S2y.trans E4ak
                      refine dA 22 rfl (fun _=>Ab rfl) ?_
                      refine CI (by kernel_rfl) ?_
                      refine h1bm _ _<|wp_ret ?_
                      exact Bq f3bp X4bq rfl
end Go.Proofs

