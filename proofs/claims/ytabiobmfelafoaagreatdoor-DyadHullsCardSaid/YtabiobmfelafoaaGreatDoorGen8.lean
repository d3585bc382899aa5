import Derived.Test.YtabiobmfelafoaaGreatDoorGen7
namespace Go.Proofs
set_option linter.unusedVariables false
set_option linter.unusedSimpArgs false
set_option maxHeartbeats 4000000
open Go.RowKit Go.Sb Go.Proofs.Sbn
set_option maxRecDepth 20000 in
theorem c_sorobanlaw04_DyadHulls (x0:Ao) (x1:Ao) (x2:Aq) (x3:Int) (A1:Option Addr) (c2:Nat) (A4:Option Addr) (c5:Nat) (A7:Option Addr) (c8:Nat) (A0b:Option Addr) (c9a:Nat) (A7g:Option Addr) (c3g:Nat) (w:World) (hT:TB w) (n3:RLu w A1 c2 x0.Lo.Man.Abs) (n6:RLu w A4 c5 x0.Hi.Man.Abs) (n9:RLu w A7 c8 x1.Lo.Man.Abs) (n4h:RLu w A0b c9a x1.Hi.Man.Abs) (n1a4:RLu w A7g c3g x2.Man.Abs) (r:Bool) (hr:Ff x0 x1 x2 x3=some r) :
  Calls Tryz.prog 12 #[.agg #[.bool x0.Lo.Man.Neg,.slice A1 x0.Lo.Man.Abs.length c2,.int .i64 x0.Lo.Exp,.bool x0.Hi.Man.Neg,.slice A4 x0.Hi.Man.Abs.length c5,.int .i64 x0.Hi.Exp],.agg #[.bool x1.Lo.Man.Neg,.slice A7 x1.Lo.Man.Abs.length c8,.int .i64 x1.Lo.Exp,.bool x1.Hi.Man.Neg,.slice A0b x1.Hi.Man.Abs.length c9a,.int .i64 x1.Hi.Exp],.agg #[.bool x2.Man.Neg,.slice A7g x2.Man.Abs.length c3g,.int .i64 x2.Exp],.int .i64 x3] w (Ret FN w r):=by
 unfold Ff at hr
 refine Ns Tryz.func12 rfl [.agg #[.bool x0.Lo.Man.Neg,.slice A1 x0.Lo.Man.Abs.length c2,.int .i64 x0.Lo.Exp,.bool x0.Hi.Man.Neg,.slice A4 x0.Hi.Man.Abs.length c5,.int .i64 x0.Hi.Exp],.agg #[.bool x1.Lo.Man.Neg,.slice A7 x1.Lo.Man.Abs.length c8,.int .i64 x1.Lo.Exp,.bool x1.Hi.Man.Neg,.slice A0b x1.Hi.Man.Abs.length c9a,.int .i64 x1.Hi.Exp],.agg #[.bool x2.Man.Neg,.slice A7g x2.Man.Abs.length c3g,.int .i64 x2.Exp],.int .i64 x3,uu,uu,uu,uu,uu,uu,uu,uu,uu,uu,uu,uu,uu,uu,uu,uu,uu,uu,uu,uu,uu,uu,uu,uu,uu,uu,uu,uu,uu,uu,uu,uu,uu,uu,uu,uu,uu,uu,uu,uu,uu,uu,uu,uu,uu,uu,uu,uu,uu,uu,uu,uu,uu,uu,uu,uu,uu,uu,uu,uu,uu,uu,uu,uu,uu,uu,uu,uu,uu,uu,uu,uu,uu,uu,uu,uu,uu,uu,uu,uu,uu,uu,uu,uu,uu,uu,uu,uu,uu,uu,uu,uu,uu,uu,uu,uu,uu,uu,uu,uu,uu,uu,uu,uu,uu,uu,uu,uu,uu,uu,uu,uu,uu,uu,uu,uu,uu,uu,uu,uu,uu,uu,uu,uu,uu,uu,uu,uu,uu,uu,uu,uu,uu,uu,uu,uu,uu,uu,uu,uu,uu,uu,uu,uu,uu,uu,uu,uu,uu,uu,uu,uu,uu,uu,uu,uu,uu,uu,uu,uu,uu,uu,uu,uu,uu,uu,uu,uu,uu,uu,uu,uu,uu,uu,uu,uu,uu] (by kernel_rfl) ?_
 refine wp_seq_k fun _ h0af=>Af<|Bm rfl rfl fun b9w w1 E0x g1af q3e=>?_
 refine nrm ?_
 refine Bm rfl rfl fun b8k w2 E9i g9n q5p=>?_
 refine nrm ?_
 have g2af:=nlt E0x.size g9n
 have X9k:=xtr E0x E9i
 refine Bm rfl rfl fun b6j w3 E8g g5m q1x=>?_
 refine nrm ?_
 have g9be:=nlt X9k.size g5m
 have X2x:=xtr X9k E8g
 refine sV (Ab rfl) ?_
 refine wh h0af<|wp_seq_k fun _ h1am=>wp_seq_k fun _ h2am=>Af<|sV (Am AI rfl ((q3e.ext E9i).ext E8g) rfl) ?_
 refine scr hr (Ad RR (by rfl)) (Iz x0 A1 c2 A4 c5 w3 (tbx X2x hT) (n3.ext X2x) (n6.ext X2x)) fun r3af f3am w4 E0l=>?_
 have X6p:=xtr X2x E0l
 refine sb (Fq rfl) fun z0o hz0o=>?_
 refine nrm ?_
 refine sV (Aa rfl) ?_
 obtain ⟨m7p,h4am,f5am⟩:=Ac f3am
 refine BH 8 (fun l l' w'=>∃(t3x:Value) (t4x:Value) (t5x:Value),UpdS [] w4 w'∧l'=((((l.set 29 t3x).set 30 t4x).set 31 t5x).set 32 (.bool m7p))) ?_ ?_
 ·intro HJ59
  rcases zi hz0o h4am with ⟨e7j,_,f64⟩ | ⟨e7j,_,f6am⟩
  ·refine sQ rfl e7j ?_
   refine sQ rfl e7j ?_
   refine sQ rfl e7j ?_
   refine sV (AA (evb rfl e7j) rfl) ?_
   obtain rfl:=sj f64
   exact HJ59 _ _ ⟨uu,uu,uu,(UpdS.refl _ _),(by kernel_rfl)⟩
  ·refine sV (Am AI rfl ((q5p.ext E8g).ext E0l) rfl) ?_ (hw:=wgT rfl e7j)
   refine scr f6am (Ad RR (by rfl)) (Iz x1 A7 c8 A0b c9a w4 (tbx X6p hT) (n9.ext X6p) (n4h.ext X6p)) (fun r2a4 f7am w5 E8am=>?_) (hw:=wgT rfl e7j)
   refine sb (Fq rfl) ?_ (hw:=wgT rfl e7j)
   intro z3a4 hz3a4
   refine nrm ?_
   refine sV (AC (evb rfl e7j) rfl) ?_
   obtain rfl:z3a4=decide (¬(r2a4=true)):=bz hz3a4
   obtain rfl:=sj f7am
   exact HJ59 _ _ ⟨(.agg #[.bool x1.Lo.Man.Neg,.slice A7 x1.Lo.Man.Abs.length c8,.int .i64 x1.Lo.Exp,.bool x1.Hi.Man.Neg,.slice A0b x1.Hi.Man.Abs.length c9a,.int .i64 x1.Hi.Exp]),(.bool r2a4),(.bool (decide (¬(r2a4=true)))),((UpdS.refl _ _).ext E8am),(by kernel_rfl)⟩
 ·rintro l' w5 ⟨t3x,t4x,t5x,U6m,hq'⟩ l'' hl
  rw [hq'] at hl
  clear hq'
  simp only [S0,S1] at hl
  subst hl
  have X6x:=Jf X6p U6m (X6p).size al0
  refine sV (Aa rfl) ?_
  obtain ⟨m8p,h9am,f0an⟩:=Ac f5am
  refine BH 14 (fun l l' w'=>∃(t7x:Value) (t8x:Value) (t9x:Value) (t0y:Value),UpdS [] w5 w'∧l'=(((((l.set 34 t7x).set 35 t8x).set 36 t9x).set 37 t0y).set 38 (.bool m8p))) ?_ ?_
  ·intro HJ97
   rcases zb h9am with ⟨e5h,f1an⟩ | ⟨e5h,f2an⟩
   ·refine sQ rfl e5h ?_
    refine sQ rfl e5h ?_
    refine sQ rfl e5h ?_
    refine sQ rfl e5h ?_
    refine sV (AA (evb rfl e5h) rfl) ?_
    obtain rfl:=sj f1an
    exact HJ97 _ _ ⟨uu,uu,uu,uu,(UpdS.refl _ _),(by kernel_rfl)⟩
   ·refine sV (Am BT rfl ((q1x.ext E0l).updS U6m nm0) rfl) ?_ (hw:=wgT rfl e5h)
    refine CI (vals:=[(0,.agg #[.bool x2.Man.Neg,.slice A7g x2.Man.Abs.length c3g,.int .i64 x2.Exp])]) (cs:=[.bool x2.Man.Neg,.slice A7g x2.Man.Abs.length c3g,.int .i64 x2.Exp]) KE FI Hq (by rfl) (by decide) (by kernel_rfl) ?_ (hw:=wgT rfl e5h)
    intro b4af w6 E5af g3an q4an
    refine nrm ?_
    have g0bf:=nlt X6x.size g3an
    have X6af:=xtr X6x E5af
    refine scr f2an (Ad en_33 (by rfl)) (c_sorobanlaw04_valid__1 x2 b4af A7g c3g w6 (tbx X6af hT) (n1a4.ext X6af) q4an) (fun r4a4 f5an w7 E6an=>?_) (hw:=wgT rfl e5h)
    refine sb (Fq rfl) ?_ (hw:=wgT rfl e5h)
    intro z5a4 hz5a4
    refine nrm ?_
    refine sV (AC (evb rfl e5h) rfl) ?_
    obtain rfl:z5a4=decide (¬(r4a4=true)):=bz hz5a4
    obtain rfl:=sj f5an
    exact HJ97 _ _ ⟨(.agg #[.bool x2.Man.Neg,.slice A7g x2.Man.Abs.length c3g,.int .i64 x2.Exp]),(.slice (some ⟨b4af,0,none⟩) 1 1),(.bool r4a4),(.bool (decide (¬(r4a4=true)))),(((UpdS.refl _ _).ext E5af).ext E6an),(by kernel_rfl)⟩
  ·rintro l' w6 ⟨t7x,t8x,t9x,t0y,U1o,hq'⟩ l'' hl
   rw [hq'] at hl
   clear hq'
   simp only [S0,S1] at hl
   subst hl
   have X9p:=Jf X6x U1o (X6x).size al0
   refine sV (Aa rfl) ?_
   obtain ⟨m0q,h7an,f8an⟩:=Ac f0an
   refine BH 19 (fun l l' w'=>∃(t1y:Value) (t2y:Value) (t3y:Value),UpdS [] w6 w'∧l'=((((l.set 40 t1y).set 41 t2y).set 42 t3y).set 43 (.bool m0q))) ?_ ?_
   ·intro HJ135
    rcases zb h7an with ⟨e8j,f9an⟩ | ⟨e8j,f0ao⟩
    ·refine sQ rfl e8j ?_
     refine sQ rfl e8j ?_
     refine sQ rfl e8j ?_
     refine sV (AA (evb rfl e8j) rfl) ?_
     obtain rfl:=sj f9an
     exact HJ135 _ _ ⟨uu,uu,uu,(UpdS.refl _ _),(by kernel_rfl)⟩
    ·have q1ao:=((((q3e.ext E9i).ext E8g).ext E0l).updS U6m nm0).updS U1o nm0
     refine sV (Am AI rfl q1ao rfl) ?_ (hw:=wgT rfl e8j)
     refine scr f0ao (Ad Pg (by rfl)) (Iv x0 A1 c2 A4 c5 w6 (tbx X9p hT) (n3.ext X9p) (n6.ext X9p)) (fun r6a4 f2ao w7 E3ao=>?_) (hw:=wgT rfl e8j)
     refine sb (Fq rfl) ?_ (hw:=wgT rfl e8j)
     intro z7a4 hz7a4
     refine nrm ?_
     refine sV (AC (evb rfl e8j) rfl) ?_
     obtain rfl:z7a4=decide (¬(r6a4=true)):=bz hz7a4
     obtain rfl:=sj f2ao
     exact HJ135 _ _ ⟨(.agg #[.bool x0.Lo.Man.Neg,.slice A1 x0.Lo.Man.Abs.length c2,.int .i64 x0.Lo.Exp,.bool x0.Hi.Man.Neg,.slice A4 x0.Hi.Man.Abs.length c5,.int .i64 x0.Hi.Exp]),(.bool r6a4),(.bool (decide (¬(r6a4=true)))),((UpdS.refl _ _).ext E3ao),(by kernel_rfl)⟩
   ·rintro l' w7 ⟨t1y,t2y,t3y,U1q,hq'⟩ l'' hl
    rw [hq'] at hl
    clear hq'
    simp only [S0,S1] at hl
    subst hl
    have X2q:=Jf X9p U1q (X9p).size al0
    refine sV (Aa rfl) ?_
    obtain ⟨m8a4,h4ao,f5ao⟩:=Ac f8an
    refine BH 24 (fun l l' w'=>∃(t4y:Value) (t5y:Value) (t6y:Value),UpdS [] w7 w'∧l'=((((l.set 45 t4y).set 46 t5y).set 47 t6y).set 48 (.bool m8a4))) ?_ ?_
    ·intro HJ168
     rcases zb h4ao with ⟨e9j,f6ao⟩ | ⟨e9j,f7ao⟩
     ·refine sQ rfl e9j ?_
      refine sQ rfl e9j ?_
      refine sQ rfl e9j ?_
      refine sV (AA (evb rfl e9j) rfl) ?_
      obtain rfl:=sj f6ao
      exact HJ168 _ _ ⟨uu,uu,uu,(UpdS.refl _ _),(by kernel_rfl)⟩
     ·have q8ao:=((((q5p.ext E8g).ext E0l).updS U6m nm0).updS U1o nm0).updS U1q nm0
      refine sV (Am AI rfl q8ao rfl) ?_ (hw:=wgT rfl e9j)
      refine scr f7ao (Ad Pg (by rfl)) (Iv x1 A7 c8 A0b c9a w7 (tbx X2q hT) (n9.ext X2q) (n4h.ext X2q)) (fun r9a4 f9ao w8 E0ap=>?_) (hw:=wgT rfl e9j)
      refine sb (Fq rfl) ?_ (hw:=wgT rfl e9j)
      intro z0a5 hz0a5
      refine nrm ?_
      refine sV (AC (evb rfl e9j) rfl) ?_
      obtain rfl:z0a5=decide (¬(r9a4=true)):=bz hz0a5
      obtain rfl:=sj f9ao
      exact HJ168 _ _ ⟨(.agg #[.bool x1.Lo.Man.Neg,.slice A7 x1.Lo.Man.Abs.length c8,.int .i64 x1.Lo.Exp,.bool x1.Hi.Man.Neg,.slice A0b x1.Hi.Man.Abs.length c9a,.int .i64 x1.Hi.Exp]),(.bool r9a4),(.bool (decide (¬(r9a4=true)))),((UpdS.refl _ _).ext E0ap),(by kernel_rfl)⟩
    ·rintro l' w8 ⟨t4y,t5y,t6y,U7y,hq'⟩ l'' hl
     rw [hq'] at hl
     clear hq'
     simp only [S0,S1] at hl
     subst hl
     have X1l:=Jf X2q U7y (X2q).size al0
     refine wh h2am ?_
     rcases zb f5ao with ⟨e1a5,f1ap⟩ | ⟨e1a5,f2ap⟩
     ·refine wp_cond_true (Ak (evb rfl e1a5))<|wp_seq_k fun _ h3ap=>Af ?_
      refine scr f1ap (Ad Re (by rfl)) (Hy w8 (tbx X1l hT)) fun r1bf f4ap w9 E5ap=>?_
      have X6ap:=xtr X1l E5ap
      refine sV (Ab rfl) ?_
      refine wh h3ap<|wp_ret ?_
      exact BG f4ap X6ap rfl
     ·refine wp_cond_false (Ak (evb rfl e1a5))<|wp_skip<|h1am _ _<|wp_seq_k fun _ h7ap=>Af<|have q2a5:=((((((q3e.ext E9i).ext E8g).ext E0l).updS U6m nm0).updS U1o nm0).updS U1q nm0).updS U7y nm0;sV (Am AI rfl q2a5 rfl) ?_
      have q3a5:=(((((q5p.ext E8g).ext E0l).updS U6m nm0).updS U1o nm0).updS U1q nm0).updS U7y nm0
      refine sV (Am AI rfl q3a5 rfl) ?_
      obtain ⟨r0a,h8ap,f9ap⟩:=Ac f2ap
      refine sc (Ad en_74 (by rfl)) (c_dyad_Hull x0 x1 A1 c2 A4 c5 A7 c8 A0b c9a w8 (tbx X1l hT) (n3.ext X1l) (n6.ext X1l) (n9.ext X1l) (n4h.ext X1l) r0a h8ap) ?_
      rintro _ w9 E2o ⟨A9g,c0h,A1h,c2h,rfl,n0aq,n1aq⟩
      refine nrm ?_
      have X7af:=xtr X1l E2o
      refine sV3 (Aa rfl) (Aj rfl rfl) (Aj rfl rfl) ?_
      refine Ax Cv fun b8af w0b E2aq g9af q3aq=>?_
      refine nrm ?_
      have g2bf:=nlt X7af.size g9af
      refine ss Bp q3aq fun w9a U4aq q5aq=>?_
      have F2l:=belU E2aq U4aq g9af
      have X3o:=xtr X7af F2l
      refine sV (Ab rfl) ?_
      refine wh h7ap<|wp_seq_k fun _ h6aq=>Af<|sV2 (Am AI rfl ((q2a5.ext E2o).ext F2l) rfl) (Am AI rfl ((q3a5.ext E2o).ext F2l) rfl) ?_
      obtain ⟨r2a,h7aq,f8aq⟩:=Ac f9ap
      refine sc (Ad en_75 (by rfl)) (c_dyad_Meet x0 x1 A1 c2 A4 c5 A7 c8 A0b c9a w9a (tbx X3o hT) (n3.ext X3o) (n6.ext X3o) (n9.ext X3o) (n4h.ext X3o) r2a h7aq) ?_
      rintro _ w4h E7m ⟨A3l,c4l,A5l,c6l,rfl,n9aq,n0ar⟩
      refine nrm ?_
      have X0ag:=xtr X3o E7m
      refine sV3 (Aa rfl) (Aj rfl rfl) (Aj rfl rfl) ?_
      refine Ax Cv fun b1ag w7g E1ar g2ag q2ar=>?_
      refine nrm ?_
      have g3bf:=nlt X0ag.size g2ag
      refine ss Bp q2ar fun w3g U3ar q4ar=>?_
      have F0k:=belU E1ar U3ar g2ag
      have X4a5:=xtr X0ag F0k
      refine sV (Ab rfl) ?_
      refine wh h6aq<|wp_seq_k fun _ h5ar=>Af<|have q6ar:=((((((((q1x.ext E0l).updS U6m nm0).updS U1o nm0).updS U1q nm0).updS U7y nm0).ext E2o).ext F2l).ext E7m).ext F0k;sV (Am BT rfl q6ar rfl) ?_
      obtain ⟨r1a,h7ar,f8ar⟩:=Ac f8aq
      refine sc (Ad en_63 (by rfl)) (c_dyad_ToRat x2 A7g c3g w3g (tbx X4a5 hT) (n1a4.ext X4a5) r1a h7ar) ?_
      rintro _ w1a4 E1k ⟨A6c,c7c,A8c,c9c,rfl,n5a5,n6a5⟩
      refine nrm ?_
      have X3ag:=xtr X4a5 E1k
      refine sV3 (Aa rfl) (Aj rfl rfl) (Aj rfl rfl) ?_
      refine Ax QG fun b4ag w0af E9ar g5ag q0as=>?_
      refine nrm ?_
      have g4bf:=nlt X3ag.size g5ag
      refine ss Pa q0as fun w9w U1as q8y=>?_
      have F4e:=belU E9ar U1as g5ag
      have X9y:=xtr X3ag F4e
      refine sV (Ab rfl) ?_
      refine wh h5ar<|wp_seq_k fun _ h2as=>Af<|have q0z:=(((((q2a5.ext E2o).ext F2l).ext E7m).ext F0k).ext E1k).ext F4e;sV2 (Am AI rfl q0z rfl) (Am Lb rfl q8y rfl) ?_
      refine scr f8ar (Ad Qh (by rfl)) (KN x0 (⟨(⟨r1a.1.Num.Neg,(limbs r1a.1.Num.Abs)⟩:Ay),(limbs r1a.1.Den)⟩:GV) A1 c2 A4 c5 A6c c7c A8c c9c w9w (tbx X9y hT) (n3.ext X9y) (n6.ext X9y) (n5a5.ext F4e) (n6a5.ext F4e)) fun r3b f3as w0x E5c=>?_
      have X1z:=xtr X9y E5c
      refine sV3 (Aa rfl) (Aj rfl rfl) (Aj rfl rfl) ?_
      refine sV2 (Ab rfl) (Ab rfl) ?_
      refine wh h2as<|wp_seq_k fun _ h4as=>Af<|have q2z:=((((((q3a5.ext E2o).ext F2l).ext E7m).ext F0k).ext E1k).ext F4e).ext E5c;sV2 (Am AI rfl q2z rfl) (Am Lb rfl (q8y.ext E5c) rfl) ?_
      refine scr f3as (Ad Qh (by rfl)) (KN x1 (⟨(⟨r1a.1.Num.Neg,(limbs r1a.1.Num.Abs)⟩:Ay),(limbs r1a.1.Den)⟩:GV) A7 c8 A0b c9a A6c c7c A8c c9c w0x (tbx X1z hT) (n9.ext X1z) (n4h.ext X1z) ((n5a5.ext F4e).ext E5c) ((n6a5.ext F4e).ext E5c)) fun r0c f5as w1af E0d=>?_
      have X6ag:=xtr X1z E0d
      refine sV3 (Aa rfl) (Aj rfl rfl) (Aj rfl rfl) ?_
      refine sV2 (Ab rfl) (Ab rfl) ?_
      refine wh h4as<|wp_seq_k fun _ h6as=>Af<|have q7a5:=(((((q5aq.ext E7m).ext F0k).ext E1k).ext F4e).ext E5c).ext E0d;sV2 (Am AI rfl q7a5 rfl) (Am Lb rfl ((q8y.ext E5c).ext E0d) rfl) ?_
      have n8a5:=((((((n0aq.ext F2l).ext E7m).ext F0k).ext E1k).ext F4e).ext E5c).ext E0d
      have n9a5:=((((((n1aq.ext F2l).ext E7m).ext F0k).ext E1k).ext F4e).ext E5c).ext E0d
      have n7ag:=((n5a5.ext F4e).ext E5c).ext E0d
      have n8ag:=((n6a5.ext F4e).ext E5c).ext E0d
      refine scr f5as (Ad Qh (by rfl)) (KN (⟨(⟨(⟨r0a.1.Lo.Man.Neg,(limbs r0a.1.Lo.Man.Abs)⟩:Ay),r0a.1.Lo.Exp⟩:Aq),(⟨(⟨r0a.1.Hi.Man.Neg,(limbs r0a.1.Hi.Man.Abs)⟩:Ay),r0a.1.Hi.Exp⟩:Aq)⟩:Ao) (⟨(⟨r1a.1.Num.Neg,(limbs r1a.1.Num.Abs)⟩:Ay),(limbs r1a.1.Den)⟩:GV) A9g c0h A1h c2h A6c c7c A8c c9c w1af (tbx X6ag hT) n8a5 n9a5 n7ag n8ag) fun r1c f7as w3e E4c=>?_
      have X3q:=xtr X6ag E4c
      refine sV3 (Aa rfl) (Aj rfl rfl) (Aj rfl rfl) ?_
      refine sV2 (Ab rfl) (Ab rfl) ?_
      refine wh h6as<|wp_seq_k fun _ h8as=>wp_seq_k fun _ h9as=>Af<|sV (Aa rfl) ?_
      refine sb (Ik rfl rfl) fun z4o hz4o=>?_
      refine nrm ?_
      refine sV (Aa rfl) ?_
      obtain ⟨m4q,h0at,f1at⟩:=Ac f7as
      refine BH 6 (fun l l' w'=>∃(t3z:Value) (t4z:Value),w3e=w'∧l'=(((l.set 88 t3z).set 89 t4z).set 90 (.bool m4q))) ?_ ?_
      ·intro HJ307
       rcases zi hz4o h0at with ⟨e8m,_,f2at⟩ | ⟨e8m,_,f3at⟩
       ·refine sQ rfl e8m ?_
        refine sQ rfl e8m ?_
        refine sV (AA (evb rfl e8m) rfl) ?_
        obtain rfl:=sj f2at
        exact HJ307 _ _ ⟨uu,uu,rfl,(by kernel_rfl)⟩
       ·refine sV (Aa rfl) ?_ (hw:=wgT rfl e8m)
        refine sb (Ik rfl rfl) ?_ (hw:=wgT rfl e8m)
        intro z0a6 hz0a6
        refine nrm ?_
        refine sV (AC (evb rfl e8m) rfl) ?_
        obtain rfl:z0a6=decide (¬r1a.2=0):=bz hz0a6
        obtain rfl:=sj f3at
        exact HJ307 _ _ ⟨(.int .i64 r1a.2),(.bool (decide (¬r1a.2=0))),rfl,(by kernel_rfl)⟩
      ·rintro l' _ ⟨t3z,t4z,rfl,hq'⟩ l'' hl
       rw [hq'] at hl
       clear hq'
       simp only [S0,S1] at hl
       subst hl
       refine sV (Aa rfl) ?_
       obtain ⟨m5q,h4at,f5at⟩:=Ac f1at
       refine BH 10 (fun l l' w'=>∃(t5z:Value) (t6z:Value),w3e=w'∧l'=(((l.set 92 t5z).set 93 t6z).set 94 (.bool m5q))) ?_ ?_
       ·intro HJ326
        rcases zb h4at with ⟨e9m,f6at⟩ | ⟨e9m,f7at⟩
        ·refine sQ rfl e9m ?_
         refine sQ rfl e9m ?_
         refine sV (AA (evb rfl e9m) rfl) ?_
         obtain rfl:=sj f6at
         exact HJ326 _ _ ⟨uu,uu,rfl,(by kernel_rfl)⟩
        ·refine sV (Aa rfl) ?_ (hw:=wgT rfl e9m)
         refine sb (Ik rfl rfl) ?_ (hw:=wgT rfl e9m)
         intro z1a6 hz1a6
         refine nrm ?_
         refine sV (AC (evb rfl e9m) rfl) ?_
         obtain rfl:z1a6=decide (¬r3b.2=0):=bz hz1a6
         obtain rfl:=sj f7at
         exact HJ326 _ _ ⟨(.int .i64 r3b.2),(.bool (decide (¬r3b.2=0))),rfl,(by kernel_rfl)⟩
       ·rintro l' _ ⟨t5z,t6z,rfl,hq'⟩ l'' hl
        rw [hq'] at hl
        clear hq'
        simp only [S0,S1] at hl
        subst hl
        refine sV (Aa rfl) ?_
        obtain ⟨m6q,h8at,f9at⟩:=Ac f5at
        refine BH 14 (fun l l' w'=>∃(t7z:Value) (t8z:Value),w3e=w'∧l'=(((l.set 96 t7z).set 97 t8z).set 98 (.bool m6q))) ?_ ?_
        ·intro HJ345
         rcases zb h8at with ⟨e0n,f0au⟩ | ⟨e0n,f1au⟩
         ·refine sQ rfl e0n ?_
          refine sQ rfl e0n ?_
          refine sV (AA (evb rfl e0n) rfl) ?_
          obtain rfl:=sj f0au
          exact HJ345 _ _ ⟨uu,uu,rfl,(by kernel_rfl)⟩
         ·refine sV (Aa rfl) ?_ (hw:=wgT rfl e0n)
          refine sb (Ik rfl rfl) ?_ (hw:=wgT rfl e0n)
          intro z2a6 hz2a6
          refine nrm ?_
          refine sV (AC (evb rfl e0n) rfl) ?_
          obtain rfl:z2a6=decide (¬r0c.2=0):=bz hz2a6
          obtain rfl:=sj f1au
          exact HJ345 _ _ ⟨(.int .i64 r0c.2),(.bool (decide (¬r0c.2=0))),rfl,(by kernel_rfl)⟩
        ·rintro l' _ ⟨t7z,t8z,rfl,hq'⟩ l'' hl
         rw [hq'] at hl
         clear hq'
         simp only [S0,S1] at hl
         subst hl
         refine sV (Aa rfl) ?_
         obtain ⟨m7q,h2au,f3au⟩:=Ac f9at
         refine BH 18 (fun l l' w'=>∃(t9z:Value) (t0a0:Value),w3e=w'∧l'=(((l.set 100 t9z).set 101 t0a0).set 102 (.bool m7q))) ?_ ?_
         ·intro HJ364
          rcases zb h2au with ⟨e1n,f4au⟩ | ⟨e1n,f5au⟩
          ·refine sQ rfl e1n ?_
           refine sQ rfl e1n ?_
           refine sV (AA (evb rfl e1n) rfl) ?_
           obtain rfl:=sj f4au
           exact HJ364 _ _ ⟨uu,uu,rfl,(by kernel_rfl)⟩
          ·refine sV (Aa rfl) ?_ (hw:=wgT rfl e1n)
           refine sb (Ik rfl rfl) ?_ (hw:=wgT rfl e1n)
           intro z3a6 hz3a6
           refine nrm ?_
           refine sV (AC (evb rfl e1n) rfl) ?_
           obtain rfl:z3a6=decide (¬r1c.2=0):=bz hz3a6
           obtain rfl:=sj f5au
           exact HJ364 _ _ ⟨(.int .i64 r1c.2),(.bool (decide (¬r1c.2=0))),rfl,(by kernel_rfl)⟩
         ·rintro l' _ ⟨t9z,t0a0,rfl,hq'⟩ l'' hl
          rw [hq'] at hl
          clear hq'
          simp only [S0,S1] at hl
          subst hl
          refine sV (Aa rfl) ?_
          obtain ⟨m8q,h6au,f7au⟩:=Ac f3au
          refine BH 28 (fun l l' w'=>∃(t1a0:Value) (t2a0:Value) (t3a0:Value) (t4a0:Value) (t5a0:Value) (t6a0:Value) (t7a0:Value) (t8a0:Value),w3e=w'∧l'=(((((((((l.set 104 t1a0).set 105 t2a0).set 106 t3a0).set 107 t4a0).set 108 t5a0).set 109 t6a0).set 110 t7a0).set 111 t8a0).set 112 (.bool m8q))) ?_ ?_
          ·intro HJ423
           rcases zb h6au with ⟨e5e,f8au⟩ | ⟨e5e,f9au⟩
           ·refine sQ rfl e5e ?_
            refine sQ rfl e5e ?_
            refine sP ?_
            refine sQ rfl e5e ?_
            refine sQ rfl e5e ?_
            refine sP ?_
            refine sP ?_
            refine sQ rfl e5e ?_
            refine sV (AA (evb rfl e5e) rfl) ?_
            obtain rfl:=sj f8au
            exact HJ423 _ _ ⟨uu,uu,uu,uu,uu,uu,uu,uu,rfl,(by kernel_rfl)⟩
           ·refine sV (Aa rfl) ?_ (hw:=wgT rfl e5e)
            refine sV (Aa rfl) ?_ (hw:=wgT rfl e5e)
            obtain ⟨m4a6,h9ag,f0av⟩:=Ac f9au
            refine BH 23 (fun l l' w'=>∃(t5a6:Value),w3e=w'∧l'=((l.set 106 t5a6).set 107 (.bool m4a6))) ?_ ?_
            ·intro HJ439
             rcases bft r3b.1 with e2n | e2n
             ·have p1av:=e2n
              have f2av:=ifP p1av h9ag
              refine sQ rfl e2n ?_
              refine sV (AA (evb rfl e2n) rfl) ?_ (hw:=wgT rfl e5e)
              obtain rfl:=sj f2av
              exact HJ439 _ _ ⟨uu,rfl,(by kernel_rfl)⟩
             ·have p3av:=bF e2n
              have f4av:=ifN p3av h9ag
              refine sV (Aa rfl) ?_ (hw:=wgT rfl e2n)
              refine sV (AC (evb rfl e2n) rfl) ?_ (hw:=wgT rfl e5e)
              obtain rfl:=sj f4av
              exact HJ439 _ _ ⟨(.bool r0c.1),rfl,(by kernel_rfl)⟩
            ·rintro l' _ ⟨t5a6,rfl,hq'⟩ l'' hl
             rw [hq'] at hl
             clear hq'
             simp only [S0,S1] at hl
             subst hl
             refine sV (Aa rfl) ?_ (hw:=wgT rfl e5e)
             obtain ⟨m0ah,h5av,f6av⟩:=Ac f0av
             refine BH 27 (fun l l' w'=>∃(t6a6:Value) (t7a6:Value),w3e=w'∧l'=(((l.set 109 t6a6).set 110 t7a6).set 111 (.bool m0ah))) ?_ ?_
             ·intro HJ457
              rcases zb h5av with ⟨e3n,f7av⟩ | ⟨e3n,f8av⟩
              ·refine sV (Aa rfl) ?_ (hw:=wgT rfl e3n)
               refine sb (Fq rfl) ?_ (hw:=wgT rfl e3n)
               intro z8a6 hz8a6
               refine nrm ?_
               refine sV (AA (evb rfl e3n) rfl) ?_ (hw:=wgT rfl e5e)
               obtain rfl:z8a6=decide (¬(r1c.1=true)):=bz hz8a6
               obtain rfl:=sj f7av
               exact HJ457 _ _ ⟨(.bool r1c.1),(.bool (decide (¬(r1c.1=true)))),rfl,(by kernel_rfl)⟩
              ·refine sQ rfl e3n ?_
               refine sQ rfl e3n ?_
               refine sV (AC (evb rfl e3n) rfl) ?_ (hw:=wgT rfl e5e)
               obtain rfl:=sj f8av
               exact HJ457 _ _ ⟨uu,uu,rfl,(by kernel_rfl)⟩
             ·rintro l' _ ⟨t6a6,t7a6,rfl,hq'⟩ l'' hl
              rw [hq'] at hl
              clear hq'
              simp only [S0,S1] at hl
              subst hl
              refine sV (AC (evb rfl e5e) rfl) ?_
              obtain rfl:=sj f6av
              exact HJ423 _ _ ⟨(.bool r3b.1),(.bool r3b.1),t5a6,(.bool m4a6),(.bool m4a6),t6a6,t7a6,(.bool m0ah),rfl,(by kernel_rfl)⟩
          ·rintro l' _ ⟨t1a0,t2a0,t3a0,t4a0,t5a0,t6a0,t7a0,t8a0,rfl,hq'⟩ l'' hl
           rw [hq'] at hl
           clear hq'
           simp only [S0,S1] at hl
           subst hl
           refine sV (Aa rfl) ?_
           obtain ⟨m9q,h9av,f0aw⟩:=Ac f7au
           refine BH 36 (fun l l' w'=>∃(t9a0:Value) (t0a1:Value) (t1a1:Value) (t2a1:Value) (t3a1:Value) (t4a1:Value),UpdS [] w3e w'∧l'=(((((((l.set 114 t9a0).set 115 t0a1).set 116 t1a1).set 117 t2a1).set 118 t3a1).set 119 t4a1).set 120 (.bool m9q))) ?_ ?_
           ·intro HJ496
            rcases zb h9av with ⟨e6e,f1aw⟩ | ⟨e6e,f2aw⟩
            ·refine sQ rfl e6e ?_
             refine sQ rfl e6e ?_
             refine sQ rfl e6e ?_
             refine sQ rfl e6e ?_
             refine sQ rfl e6e ?_
             refine sQ rfl e6e ?_
             refine sV (AA (evb rfl e6e) rfl) ?_
             obtain rfl:=sj f1aw
             exact HJ496 _ _ ⟨uu,uu,uu,uu,uu,uu,(UpdS.refl _ _),(by kernel_rfl)⟩
            ·have q3aw:=((q0z.ext E5c).ext E0d).ext E4c
             refine sV (Am AI rfl q3aw rfl) ?_ (hw:=wgT rfl e6e)
             refine sV (Aa rfl) ?_ (hw:=wgT rfl e6e)
             refine sV (Am AI rfl (q7a5.ext E4c) rfl) ?_ (hw:=wgT rfl e6e)
             refine sV (Aa rfl) ?_ (hw:=wgT rfl e6e)
             obtain ⟨m1ah,h4aw,f5aw⟩:=Ac f2aw
             have hx2ah:=AU h4aw
             have n6aw:RU w3e A1 c2 m1ah:=by unfold RU;rw [hx2ah];exact (n3.ext X3q)
             obtain ⟨m3ah,h7aw,f8aw⟩:=Ac f5aw
             have hx4ah:=AU h7aw
             have n9aw:RU w3e A4 c5 m3ah:=by unfold RU;rw [hx4ah];exact (n6.ext X3q)
             refine scr f8aw (Ad RV (by simp only [sz,hx2ah,hx4ah];rfl)) (Jg (⟨(⟨(⟨x0.Lo.Man.Neg,m1ah⟩:Ae),x0.Lo.Exp⟩:Ag),(⟨(⟨x0.Hi.Man.Neg,m3ah⟩:Ae),x0.Hi.Exp⟩:Ag)⟩:Al) r0a.2 r0a.1 r0a.2 A1 c2 A4 c5 A9g c0h A1h c2h w3e (tbx X3q hT) n6aw n9aw (n8a5.ext E4c) (n9a5.ext E4c)) (fun r9a6 f0ax w8k E1ax=>?_) (hw:=wgT rfl e6e)
             refine sb (Fq rfl) ?_ (hw:=wgT rfl e6e)
             intro z0a7 hz0a7
             refine nrm ?_
             refine sV (AC (evb rfl e6e) rfl) ?_
             obtain rfl:z0a7=decide (¬(r9a6=true)):=bz hz0a7
             obtain rfl:=sj f0ax
             exact HJ496 _ _ ⟨(.agg #[.bool x0.Lo.Man.Neg,.slice A1 x0.Lo.Man.Abs.length c2,.int .i64 x0.Lo.Exp,.bool x0.Hi.Man.Neg,.slice A4 x0.Hi.Man.Abs.length c5,.int .i64 x0.Hi.Exp]),(.int .i64 r0a.2),(.agg #[.bool r0a.1.Lo.Man.Neg,.slice A9g (sz r0a.1.Lo.Man.Abs) c0h,.int .i64 r0a.1.Lo.Exp,.bool r0a.1.Hi.Man.Neg,.slice A1h (sz r0a.1.Hi.Man.Abs) c2h,.int .i64 r0a.1.Hi.Exp]),(.int .i64 r0a.2),(.bool r9a6),(.bool (decide (¬(r9a6=true)))),((UpdS.refl _ _).ext E1ax),(by kernel_rfl)⟩
           ·rintro l' w8k ⟨t9a0,t0a1,t1a1,t2a1,t3a1,t4a1,U7e,hq'⟩ l'' hl
            rw [hq'] at hl
            clear hq'
            simp only [S0,S1] at hl
            subst hl
            have X0r:=Jf X3q U7e (X3q).size al0
            refine sV (Aa rfl) ?_
            obtain ⟨m1a7,h2ax,f3ax⟩:=Ac f0aw
            refine BH 44 (fun l l' w'=>∃(t5a1:Value) (t6a1:Value) (t7a1:Value) (t8a1:Value) (t9a1:Value) (t0a2:Value),UpdS [] w8k w'∧l'=(((((((l.set 122 t5a1).set 123 t6a1).set 124 t7a1).set 125 t8a1).set 126 t9a1).set 127 t0a2).set 128 (.bool m1a7))) ?_ ?_
            ·intro HJ552
             rcases zb h2ax with ⟨e8e,f4ax⟩ | ⟨e8e,f5ax⟩
             ·refine sQ rfl e8e ?_
              refine sQ rfl e8e ?_
              refine sQ rfl e8e ?_
              refine sQ rfl e8e ?_
              refine sQ rfl e8e ?_
              refine sQ rfl e8e ?_
              refine sV (AA (evb rfl e8e) rfl) ?_
              obtain rfl:=sj f4ax
              exact HJ552 _ _ ⟨uu,uu,uu,uu,uu,uu,(UpdS.refl _ _),(by kernel_rfl)⟩
             ·have q6ax:=((q2z.ext E0d).ext E4c).updS U7e nm0
              refine sV (Am AI rfl q6ax rfl) ?_ (hw:=wgT rfl e8e)
              refine sV (Aa rfl) ?_ (hw:=wgT rfl e8e)
              refine sV (Am AI rfl ((q7a5.ext E4c).updS U7e nm0) rfl) ?_ (hw:=wgT rfl e8e)
              refine sV (Aa rfl) ?_ (hw:=wgT rfl e8e)
              obtain ⟨m5ah,h7ax,f8ax⟩:=Ac f5ax
              have hx6ah:=AU h7ax
              have n9ax:RU w8k A7 c8 m5ah:=by unfold RU;rw [hx6ah];exact (n9.ext X0r)
              obtain ⟨m7ah,h0ay,f1ay⟩:=Ac f8ax
              have hx8ah:=AU h0ay
              have n2ay:RU w8k A0b c9a m7ah:=by unfold RU;rw [hx8ah];exact (n4h.ext X0r)
              refine scr f1ay (Ad RV (by simp only [sz,hx6ah,hx8ah];rfl)) (Jg (⟨(⟨(⟨x1.Lo.Man.Neg,m5ah⟩:Ae),x1.Lo.Exp⟩:Ag),(⟨(⟨x1.Hi.Man.Neg,m7ah⟩:Ae),x1.Hi.Exp⟩:Ag)⟩:Al) r0a.2 r0a.1 r0a.2 A7 c8 A0b c9a A9g c0h A1h c2h w8k (tbx X0r hT) n9ax n2ay ((n8a5.ext E4c).updS U7e al0) ((n9a5.ext E4c).updS U7e al0)) (fun r2a7 f3ay w9i E4ay=>?_) (hw:=wgT rfl e8e)
              refine sb (Fq rfl) ?_ (hw:=wgT rfl e8e)
              intro z3a7 hz3a7
              refine nrm ?_
              refine sV (AC (evb rfl e8e) rfl) ?_
              obtain rfl:z3a7=decide (¬(r2a7=true)):=bz hz3a7
              obtain rfl:=sj f3ay
              exact HJ552 _ _ ⟨(.agg #[.bool x1.Lo.Man.Neg,.slice A7 x1.Lo.Man.Abs.length c8,.int .i64 x1.Lo.Exp,.bool x1.Hi.Man.Neg,.slice A0b x1.Hi.Man.Abs.length c9a,.int .i64 x1.Hi.Exp]),(.int .i64 r0a.2),(.agg #[.bool r0a.1.Lo.Man.Neg,.slice A9g (sz r0a.1.Lo.Man.Abs) c0h,.int .i64 r0a.1.Lo.Exp,.bool r0a.1.Hi.Man.Neg,.slice A1h (sz r0a.1.Hi.Man.Abs) c2h,.int .i64 r0a.1.Hi.Exp]),(.int .i64 r0a.2),(.bool r2a7),(.bool (decide (¬(r2a7=true)))),((UpdS.refl _ _).ext E4ay),(by kernel_rfl)⟩
            ·rintro l' w9i ⟨t5a1,t6a1,t7a1,t8a1,t9a1,t0a2,U6h,hq'⟩ l'' hl
             rw [hq'] at hl
             clear hq'
             simp only [S0,S1] at hl
             subst hl
             have X0j:=Jf X0r U6h (X0r).size al0
             refine wh h9as ?_
             rcases zb f3ax with ⟨e4a7,f5ay⟩ | ⟨e4a7,f6ay⟩
             ·refine wp_cond_true (Ak (evb rfl e4a7))<|wp_seq_k fun _ h7ay=>Af<|sV (Ab rfl) ?_
              refine wh h7ay<|wp_ret ?_
              exact BG f5ay X0j rfl
             ·refine wp_cond_false (Ak (evb rfl e4a7))<|wp_skip<|h8as _ _<|wp_seq_k fun _ h9ah=>wp_seq_k fun _ h8ay=>Af<|sV (Aa rfl) ?_
              refine sb (CG rfl rfl) fun z1a2 hz1a2=>?_
              refine nrm ?_
              refine wh h8ay ?_
              rcases zi hz1a2 f6ay with ⟨e5a7,_,f9ay⟩ | ⟨e5a7,_,f0az⟩
              ·refine wp_cond_true (Ak (evb rfl e5a7))<|wp_seq_k fun _ h1az=>Af<|have q2az:=((((((q4ar.ext E1k).ext F4e).ext E5c).ext E0d).ext E4c).updS U7e nm0).updS U6h nm0;sV (Am AI rfl q2az rfl) ?_
               have q3az:=((((q8y.ext E5c).ext E0d).ext E4c).updS U7e nm0).updS U6h nm0
               refine sV (Am Lb rfl q3az rfl) ?_
               have n4az:=(((((((n9aq.ext F0k).ext E1k).ext F4e).ext E5c).ext E0d).ext E4c).updS U7e al0).updS U6h al0
               have n5az:=(((((((n0ar.ext F0k).ext E1k).ext F4e).ext E5c).ext E0d).ext E4c).updS U7e al0).updS U6h al0
               have n6az:=((n7ag.ext E4c).updS U7e al0).updS U6h al0
               have n7az:=((n8ag.ext E4c).updS U7e al0).updS U6h al0
               refine scr f9ay (Ad Qh (by rfl)) (KN (⟨(⟨(⟨r2a.1.Lo.Man.Neg,(limbs r2a.1.Lo.Man.Abs)⟩:Ay),r2a.1.Lo.Exp⟩:Aq),(⟨(⟨r2a.1.Hi.Man.Neg,(limbs r2a.1.Hi.Man.Abs)⟩:Ay),r2a.1.Hi.Exp⟩:Aq)⟩:Ao) (⟨(⟨r1a.1.Num.Neg,(limbs r1a.1.Num.Abs)⟩:Ay),(limbs r1a.1.Den)⟩:GV) A3l c4l A5l c6l A6c c7c A8c c9c w9i (tbx X0j hT) n4az n5az n6az n7az) fun r3h f8az w9n E6a7=>?_
               have X4n:=xtr X0j E6a7
               refine sV3 (Aa rfl) (Aj rfl rfl) (Aj rfl rfl) ?_
               refine sV2 (Ab rfl) (Ab rfl) ?_
               refine wh h1az<|wp_seq_k fun _ h9az=>Af<|sV (Aa rfl) ?_
               refine sb (Ik rfl rfl) fun z2a2 hz2a2=>?_
               refine nrm ?_
               refine sV (Aa rfl) ?_
               obtain ⟨m0ai,h0b0,f1b0⟩:=Ac f8az
               refine BH 10 (fun l l' w'=>∃(t7a7:Value) (t8a7:Value) (t9a7:Value) (t0a8:Value) (t1a8:Value) (t2a8:Value),w9n=w'∧l'=(((((((l.set 140 t7a7).set 141 t8a7).set 142 t9a7).set 143 t0a8).set 144 t1a8).set 145 t2a8).set 146 (.bool m0ai))) ?_ ?_
               ·intro HJ1050
                rcases zi hz2a2 h0b0 with ⟨e4g,_,f2b0⟩ | ⟨e4g,_,f3b0⟩
                ·refine sQ rfl e4g ?_
                 refine sQ rfl e4g ?_
                 refine sQ rfl e4g ?_
                 refine sP ?_
                 refine sQ rfl e4g ?_
                 refine sQ rfl e4g ?_
                 refine sV (AA (evb rfl e4g) rfl) ?_
                 obtain rfl:=sj f2b0
                 exact HJ1050 _ _ ⟨uu,uu,uu,uu,uu,uu,rfl,(by kernel_rfl)⟩
                ·refine sV (Aa rfl) ?_ (hw:=wgT rfl e4g)
                 refine sV (Aa rfl) ?_ (hw:=wgT rfl e4g)
                 refine sV (Aa rfl) ?_ (hw:=wgT rfl e4g)
                 obtain ⟨m3a2,h1ai,f4b0⟩:=Ac f3b0
                 refine BH 8 (fun l l' w'=>∃(t3a8:Value),w9n=w'∧l'=((l.set 143 t3a8).set 144 (.bool m3a2))) ?_ ?_
                 ·intro HJ1066
                  rcases bft r3b.1 with e5n | e5n
                  ·have p5b0:=e5n
                   have f6b0:=ifP p5b0 h1ai
                   refine sV (Aa rfl) ?_ (hw:=wgT rfl e5n)
                   refine sV (AA (evb rfl e5n) rfl) ?_ (hw:=wgT rfl e4g)
                   obtain rfl:=sj f6b0
                   exact HJ1066 _ _ ⟨(.bool r0c.1),rfl,(by kernel_rfl)⟩
                  ·have p7b0:=bF e5n
                   have f8b0:=ifN p7b0 h1ai
                   refine sQ rfl e5n ?_
                   refine sV (AC (evb rfl e5n) rfl) ?_ (hw:=wgT rfl e4g)
                   obtain rfl:=sj f8b0
                   exact HJ1066 _ _ ⟨uu,rfl,(by kernel_rfl)⟩
                 ·rintro l' _ ⟨t3a8,rfl,hq'⟩ l'' hl
                  rw [hq'] at hl
                  clear hq'
                  simp only [S0,S1] at hl
                  subst hl
                  refine sb (Pu Qv rfl rfl) ?_ (hw:=wgT rfl e4g)
                  intro z4a8 hz4a8
                  refine nrm ?_
                  refine sV (AC (evb rfl e4g) rfl) ?_
                  obtain rfl:z4a8=decide (¬r3h.1=m3a2):=bz hz4a8
                  obtain rfl:=sj f4b0
                  exact HJ1050 _ _ ⟨(.bool r3h.1),(.bool r3b.1),(.bool r3b.1),t3a8,(.bool m3a2),(.bool (decide (¬r3h.1=m3a2))),rfl,(by kernel_rfl)⟩
               ·rintro l' _ ⟨t7a7,t8a7,t9a7,t0a8,t1a8,t2a8,rfl,hq'⟩ l'' hl
                rw [hq'] at hl
                clear hq'
                simp only [S0,S1] at hl
                subst hl
                refine wh h9az ?_
                rcases zb f1b0 with ⟨e5a8,f9b0⟩ | ⟨e5a8,f0b1⟩
                ·refine wp_cond_true (Ak (evb rfl e5a8))<|wp_seq_k fun _ h1b1=>Af<|sV (Ab rfl) ?_
                 refine wh h1b1<|wp_ret ?_
                 exact BG f9b0 X4n rfl
                ·refine wp_cond_false (Ak (evb rfl e5a8))<|wp_skip<|h9ah _ _<|wp_seq_k fun _ h2b1=>Af<|have q2ai:=(((((q0z.ext E5c).ext E0d).ext E4c).updS U7e nm0).updS U6h nm0).ext E6a7;sV (Am AI rfl q2ai rfl) ?_
                 have q3ai:=((((q2z.ext E0d).ext E4c).updS U7e nm0).updS U6h nm0).ext E6a7
                 refine sV2 (Am AI rfl q3ai rfl) (Aa rfl) ?_
                 obtain ⟨r1b,h3b1,f4b1⟩:=Ac f0b1
                 refine sc (Ad RP (by rfl)) (MH x0 x1 x3 A1 c2 A4 c5 A7 c8 A0b c9a w9n (tbx X4n hT) (n3.ext X4n) (n6.ext X4n) (n9.ext X4n) (n4h.ext X4n) r1b h3b1) ?_
                 rintro _ w5p E6a8 ⟨A1r,c2r,A3r,c4r,rfl,n5b1,n6b1⟩
                 refine nrm ?_
                 have X4ai:=xtr X4n E6a8
                 refine sV3 (Aa rfl) (Aj rfl rfl) (Aj rfl rfl) ?_
                 refine Ax Cv fun b7b1 w2af E8b1 g5ai q9b1=>?_
                 refine nrm ?_
                 have g5bf:=nlt X4ai.size g5ai
                 refine ss Bp q9b1 fun w9k U0b2 q1b2=>?_
                 have F5r:=belU E8b1 U0b2 g5ai
                 have X2b2:=xtr X4ai F5r
                 refine sV (Ab rfl) ?_
                 refine wh h2b1<|wp_seq_k fun _ h3b2=>DK [9] 11 mo rfl fun w6j E5o S7a8=>have X9e:=xtr X2b2 E5o;dV 0 rfl (fun _ hw=>Am AI rfl ((((q2ai.ext E6a8).ext F5r).ext E5o).ext hw) rfl) S7a8 ?_
                 refine dV 1 rfl (fun _ hw=>Am AI rfl ((((q3ai.ext E6a8).ext F5r).ext E5o).ext hw) rfl) S7a8 ?_
                 refine dA 3 rfl (fun _=>Aa rfl) ?_
                 obtain ⟨m8a8,h4b2,f5b2⟩:=Ac f4b1
                 have hx9a8:=AU h4b2
                 have n6ai:RU w6j A7 c8 m8a8:=by unfold RU;rw [hx9a8];exact (n9.ext X9e)
                 obtain ⟨m0a9,h6b2,f7b2⟩:=Ac f5b2
                 have hx1a9:=AU h6b2
                 have n7ai:RU w6j A0b c9a m0a9:=by unfold RU;rw [hx1a9];exact (n4h.ext X9e)
                 obtain ⟨r4b,h8ai,f8b2⟩:=Ac f7b2
                 obtain ⟨r7a,h2a9,f9b2⟩:=Ac f8b2
                 refine Pd #[true,true,true,true,true,true,true,true,true,true,false] 1 (fun l' w'=>∃(A3a9:Option Addr) (c4a9:Nat) (A5a9:Option Addr) (c6a9:Nat) (A7l:Option Addr) (c8l:Nat) (A9l:Option Addr) (c0m:Nat) (b4a2:Nat),Ext w6j w'∧RU w' A3a9 c4a9 r4b.Lo.Man.Abs∧RU w' A5a9 c6a9 r4b.Hi.Man.Abs∧RU w' A7l c8l r7a.1.Lo.Man.Abs∧RU w' A9l c0m r7a.1.Hi.Man.Abs∧w6j.heap.size≤b4a2∧Bx w' b4a2 29 [.bool r7a.1.Lo.Man.Neg,.slice A7l (sz r7a.1.Lo.Man.Abs) c8l,.int .i64 r7a.1.Lo.Exp,.bool r7a.1.Hi.Man.Neg,.slice A9l (sz r7a.1.Hi.Man.Abs) c0m,.int .i64 r7a.1.Hi.Exp]∧l'=[.agg #[.bool x0.Lo.Man.Neg,.slice A1 x0.Lo.Man.Abs.length c2,.int .i64 x0.Lo.Exp,.bool x0.Hi.Man.Neg,.slice A4 x0.Hi.Man.Abs.length c5,.int .i64 x0.Hi.Exp],.agg #[.bool x1.Lo.Man.Neg,.slice A7 x1.Lo.Man.Abs.length c8,.int .i64 x1.Lo.Exp,.bool x1.Hi.Man.Neg,.slice A0b x1.Hi.Man.Abs.length c9a,.int .i64 x1.Hi.Exp],.agg #[.bool x2.Man.Neg,.slice A7g x2.Man.Abs.length c3g,.int .i64 x2.Exp],.int .i64 x3,.pointer (some ⟨b9w,0,none⟩),.pointer (some ⟨b8k,0,none⟩),.pointer (some ⟨b6j,0,none⟩),uu,.bool false,.pointer (some ⟨b8af,0,none⟩),.int .i64 r1b.2,.pointer (some ⟨b1ag,0,none⟩),.int .i64 r2a.2,.pointer (some ⟨b4ag,0,none⟩),.int .i64 r1a.2,.bool r3b.1,.int .i64 r3b.2,.bool r0c.1,.int .i64 r0c.2,.bool r1c.1,.int .i64 r1c.2,.bool r3h.1,.int .i64 r3h.2,.pointer (some ⟨b7b1,0,none⟩),.pointer (some ⟨b4a2,0,none⟩),.agg #[.bool x0.Lo.Man.Neg,.slice A1 x0.Lo.Man.Abs.length c2,.int .i64 x0.Lo.Exp,.bool x0.Hi.Man.Neg,.slice A4 x0.Hi.Man.Abs.length c5,.int .i64 x0.Hi.Exp],.bool r3af,.bool z0o,.bool z0o,t3x,t4x,t5x,.bool m7p,.bool m7p,t7x,t8x,t9x,t0y,.bool m8p,.bool m8p,t1y,t2y,t3y,.bool m0q,.bool m0q,t4y,t5y,t6y,.bool m8a4,uu,.tuple #[.agg #[.bool r0a.1.Lo.Man.Neg,.slice A9g (sz r0a.1.Lo.Man.Abs) c0h,.int .i64 r0a.1.Lo.Exp,.bool r0a.1.Hi.Man.Neg,.slice A1h (sz r0a.1.Hi.Man.Abs) c2h,.int .i64 r0a.1.Hi.Exp],.int .i64 r0a.2],.agg #[.bool x0.Lo.Man.Neg,.slice A1 x0.Lo.Man.Abs.length c2,.int .i64 x0.Lo.Exp,.bool x0.Hi.Man.Neg,.slice A4 x0.Hi.Man.Abs.length c5,.int .i64 x0.Hi.Exp],.agg #[.bool x1.Lo.Man.Neg,.slice A7 x1.Lo.Man.Abs.length c8,.int .i64 x1.Lo.Exp,.bool x1.Hi.Man.Neg,.slice A0b x1.Hi.Man.Abs.length c9a,.int .i64 x1.Hi.Exp],.tuple #[.agg #[.bool r0a.1.Lo.Man.Neg,.slice A9g (sz r0a.1.Lo.Man.Abs) c0h,.int .i64 r0a.1.Lo.Exp,.bool r0a.1.Hi.Man.Neg,.slice A1h (sz r0a.1.Hi.Man.Abs) c2h,.int .i64 r0a.1.Hi.Exp],.int .i64 r0a.2],.agg #[.bool r0a.1.Lo.Man.Neg,.slice A9g (sz r0a.1.Lo.Man.Abs) c0h,.int .i64 r0a.1.Lo.Exp,.bool r0a.1.Hi.Man.Neg,.slice A1h (sz r0a.1.Hi.Man.Abs) c2h,.int .i64 r0a.1.Hi.Exp],.int .i64 r0a.2,.tuple #[.agg #[.bool r2a.1.Lo.Man.Neg,.slice A3l (sz r2a.1.Lo.Man.Abs) c4l,.int .i64 r2a.1.Lo.Exp,.bool r2a.1.Hi.Man.Neg,.slice A5l (sz r2a.1.Hi.Man.Abs) c6l,.int .i64 r2a.1.Hi.Exp],.int .i64 r2a.2],.agg #[.bool x0.Lo.Man.Neg,.slice A1 x0.Lo.Man.Abs.length c2,.int .i64 x0.Lo.Exp,.bool x0.Hi.Man.Neg,.slice A4 x0.Hi.Man.Abs.length c5,.int .i64 x0.Hi.Exp],.agg #[.bool x1.Lo.Man.Neg,.slice A7 x1.Lo.Man.Abs.length c8,.int .i64 x1.Lo.Exp,.bool x1.Hi.Man.Neg,.slice A0b x1.Hi.Man.Abs.length c9a,.int .i64 x1.Hi.Exp],.tuple #[.agg #[.bool r2a.1.Lo.Man.Neg,.slice A3l (sz r2a.1.Lo.Man.Abs) c4l,.int .i64 r2a.1.Lo.Exp,.bool r2a.1.Hi.Man.Neg,.slice A5l (sz r2a.1.Hi.Man.Abs) c6l,.int .i64 r2a.1.Hi.Exp],.int .i64 r2a.2],.agg #[.bool r2a.1.Lo.Man.Neg,.slice A3l (sz r2a.1.Lo.Man.Abs) c4l,.int .i64 r2a.1.Lo.Exp,.bool r2a.1.Hi.Man.Neg,.slice A5l (sz r2a.1.Hi.Man.Abs) c6l,.int .i64 r2a.1.Hi.Exp],.int .i64 r2a.2,.tuple #[.agg #[.bool r1a.1.Num.Neg,.slice A6c (sz r1a.1.Num.Abs) c7c,.slice A8c (sz r1a.1.Den) c9c],.int .i64 r1a.2],.agg #[.bool x2.Man.Neg,.slice A7g x2.Man.Abs.length c3g,.int .i64 x2.Exp],.tuple #[.agg #[.bool r1a.1.Num.Neg,.slice A6c (sz r1a.1.Num.Abs) c7c,.slice A8c (sz r1a.1.Den) c9c],.int .i64 r1a.2],.agg #[.bool r1a.1.Num.Neg,.slice A6c (sz r1a.1.Num.Abs) c7c,.slice A8c (sz r1a.1.Den) c9c],.int .i64 r1a.2,.tuple #[.bool r3b.1,.int .i64 r3b.2],.agg #[.bool x0.Lo.Man.Neg,.slice A1 x0.Lo.Man.Abs.length c2,.int .i64 x0.Lo.Exp,.bool x0.Hi.Man.Neg,.slice A4 x0.Hi.Man.Abs.length c5,.int .i64 x0.Hi.Exp],.agg #[.bool r1a.1.Num.Neg,.slice A6c (sz r1a.1.Num.Abs) c7c,.slice A8c (sz r1a.1.Den) c9c],.tuple #[.bool r3b.1,.int .i64 r3b.2],.bool r3b.1,.int .i64 r3b.2,.tuple #[.bool r0c.1,.int .i64 r0c.2],.agg #[.bool x1.Lo.Man.Neg,.slice A7 x1.Lo.Man.Abs.length c8,.int .i64 x1.Lo.Exp,.bool x1.Hi.Man.Neg,.slice A0b x1.Hi.Man.Abs.length c9a,.int .i64 x1.Hi.Exp],.agg #[.bool r1a.1.Num.Neg,.slice A6c (sz r1a.1.Num.Abs) c7c,.slice A8c (sz r1a.1.Den) c9c],.tuple #[.bool r0c.1,.int .i64 r0c.2],.bool r0c.1,.int .i64 r0c.2,.tuple #[.bool r1c.1,.int .i64 r1c.2],.agg #[.bool r0a.1.Lo.Man.Neg,.slice A9g (sz r0a.1.Lo.Man.Abs) c0h,.int .i64 r0a.1.Lo.Exp,.bool r0a.1.Hi.Man.Neg,.slice A1h (sz r0a.1.Hi.Man.Abs) c2h,.int .i64 r0a.1.Hi.Exp],.agg #[.bool r1a.1.Num.Neg,.slice A6c (sz r1a.1.Num.Abs) c7c,.slice A8c (sz r1a.1.Den) c9c],.tuple #[.bool r1c.1,.int .i64 r1c.2],.bool r1c.1,.int .i64 r1c.2,.int .i64 r0a.2,.bool z4o,.bool z4o,t3z,t4z,.bool m4q,.bool m4q,t5z,t6z,.bool m5q,.bool m5q,t7z,t8z,.bool m6q,.bool m6q,t9z,t0a0,.bool m7q,.bool m7q,t1a0,t2a0,t3a0,t4a0,t5a0,t6a0,t7a0,t8a0,.bool m8q,.bool m8q,t9a0,t0a1,t1a1,t2a1,t3a1,t4a1,.bool m9q,.bool m9q,t5a1,t6a1,t7a1,t8a1,t9a1,t0a2,.bool m1a7,.int .i64 r2a.2,.bool z1a2,.tuple #[.bool r3h.1,.int .i64 r3h.2],.agg #[.bool r2a.1.Lo.Man.Neg,.slice A3l (sz r2a.1.Lo.Man.Abs) c4l,.int .i64 r2a.1.Lo.Exp,.bool r2a.1.Hi.Man.Neg,.slice A5l (sz r2a.1.Hi.Man.Abs) c6l,.int .i64 r2a.1.Hi.Exp],.agg #[.bool r1a.1.Num.Neg,.slice A6c (sz r1a.1.Num.Abs) c7c,.slice A8c (sz r1a.1.Den) c9c],.tuple #[.bool r3h.1,.int .i64 r3h.2],.bool r3h.1,.int .i64 r3h.2,.int .i64 r3h.2,.bool z2a2,.bool z2a2,t7a7,t8a7,t9a7,t0a8,t1a8,t2a8,.bool m0ai,uu,uu,uu,uu,uu,uu,uu,uu,.tuple #[.agg #[.bool r1b.1.Lo.Man.Neg,.slice A1r (sz r1b.1.Lo.Man.Abs) c2r,.int .i64 r1b.1.Lo.Exp,.bool r1b.1.Hi.Man.Neg,.slice A3r (sz r1b.1.Hi.Man.Abs) c4r,.int .i64 r1b.1.Hi.Exp],.int .i64 r1b.2],.agg #[.bool x0.Lo.Man.Neg,.slice A1 x0.Lo.Man.Abs.length c2,.int .i64 x0.Lo.Exp,.bool x0.Hi.Man.Neg,.slice A4 x0.Hi.Man.Abs.length c5,.int .i64 x0.Hi.Exp],.agg #[.bool x1.Lo.Man.Neg,.slice A7 x1.Lo.Man.Abs.length c8,.int .i64 x1.Lo.Exp,.bool x1.Hi.Man.Neg,.slice A0b x1.Hi.Man.Abs.length c9a,.int .i64 x1.Hi.Exp],.int .i64 x3,.tuple #[.agg #[.bool r1b.1.Lo.Man.Neg,.slice A1r (sz r1b.1.Lo.Man.Abs) c2r,.int .i64 r1b.1.Lo.Exp,.bool r1b.1.Hi.Man.Neg,.slice A3r (sz r1b.1.Hi.Man.Abs) c4r,.int .i64 r1b.1.Hi.Exp],.int .i64 r1b.2],.agg #[.bool r1b.1.Lo.Man.Neg,.slice A1r (sz r1b.1.Lo.Man.Abs) c2r,.int .i64 r1b.1.Lo.Exp,.bool r1b.1.Hi.Man.Neg,.slice A3r (sz r1b.1.Hi.Man.Abs) c4r,.int .i64 r1b.1.Hi.Exp],.int .i64 r1b.2,.tuple #[.agg #[.bool r7a.1.Lo.Man.Neg,.slice A7l (sz r7a.1.Lo.Man.Abs) c8l,.int .i64 r7a.1.Lo.Exp,.bool r7a.1.Hi.Man.Neg,.slice A9l (sz r7a.1.Hi.Man.Abs) c0m,.int .i64 r7a.1.Hi.Exp],.int .i64 r7a.2],.agg #[.bool x0.Lo.Man.Neg,.slice A1 x0.Lo.Man.Abs.length c2,.int .i64 x0.Lo.Exp,.bool x0.Hi.Man.Neg,.slice A4 x0.Hi.Man.Abs.length c5,.int .i64 x0.Hi.Exp],.agg #[.bool x1.Lo.Man.Neg,.slice A7 x1.Lo.Man.Abs.length c8,.int .i64 x1.Lo.Exp,.bool x1.Hi.Man.Neg,.slice A0b x1.Hi.Man.Abs.length c9a,.int .i64 x1.Hi.Exp],.agg #[.bool r4b.Lo.Man.Neg,.slice A3a9 (sz r4b.Lo.Man.Abs) c4a9,.int .i64 r4b.Lo.Exp,.bool r4b.Hi.Man.Neg,.slice A5a9 (sz r4b.Hi.Man.Abs) c6a9,.int .i64 r4b.Hi.Exp],.int .i64 x3,.tuple #[.agg #[.bool r7a.1.Lo.Man.Neg,.slice A7l (sz r7a.1.Lo.Man.Abs) c8l,.int .i64 r7a.1.Lo.Exp,.bool r7a.1.Hi.Man.Neg,.slice A9l (sz r7a.1.Hi.Man.Abs) c0m,.int .i64 r7a.1.Hi.Exp],.int .i64 r7a.2],.agg #[.bool r7a.1.Lo.Man.Neg,.slice A7l (sz r7a.1.Lo.Man.Abs) c8l,.int .i64 r7a.1.Lo.Exp,.bool r7a.1.Hi.Man.Neg,.slice A9l (sz r7a.1.Hi.Man.Abs) c0m,.int .i64 r7a.1.Hi.Exp],.int .i64 r7a.2,uu,uu,uu,uu,uu,uu,uu,uu,uu,uu,uu]) ?_ ?_
                 ·rintro _ w8g ⟨A3a9,c4a9,A5a9,c6a9,A7l,c8l,A9l,c0m,b4a2,E6r,n6bf,n7bf,n0b3,n1b3,g2b3,q3b3,rfl⟩
                  have g8bf:=nlt X9e.size g2b3
                  have X9ai:=xtr X9e E6r
                  have S9bf:=S7a8.trans E6r
                  refine dA 10 rfl (fun _=>Ab rfl) ?_
                  refine CE (by kernel_rfl) ?_
                  refine h3b2 _ _<|wp_seq_k fun _ h4b3=>Af ?_
                  refine scr f9b2 (Ad Re (by rfl)) (Hy w8g (tbx X9ai hT)) fun r0bg f5b3 w5m E6n=>?_
                  have X7a9:=xtr X9ai E6n
                  refine sV (Aa rfl) ?_
                  obtain ⟨m6b3,h7b3,f8b3⟩:=Ac f5b3
                  refine BH 6 (fun l l' w'=>∃(t0aj:Value) (t1aj:Value) (t2aj:Value),w5m=w'∧l'=((((l.set 172 t0aj).set 173 t1aj).set 174 t2aj).set 175 (.bool m6b3))) ?_ ?_
                  ·intro HJ1316
                   rcases zb h7b3 with ⟨e2k,f9b3⟩ | ⟨e2k,f0b4⟩
                   ·refine sV (Aa rfl) ?_ (hw:=wgT rfl e2k)
                    refine sV (Aa rfl) ?_ (hw:=wgT rfl e2k)
                    refine sb (CG rfl rfl) ?_ (hw:=wgT rfl e2k)
                    intro z8a9 hz8a9
                    refine nrm ?_
                    refine sV (AA (evb rfl e2k) rfl) ?_
                    obtain rfl:z8a9=decide (r1b.2=r7a.2):=bz hz8a9
                    obtain rfl:=sj f9b3
                    exact HJ1316 _ _ ⟨(.int .i64 r1b.2),(.int .i64 r7a.2),(.bool (decide (r1b.2=r7a.2))),rfl,(by kernel_rfl)⟩
                   ·refine sQ rfl e2k ?_
                    refine sQ rfl e2k ?_
                    refine sQ rfl e2k ?_
                    refine sV (AC (evb rfl e2k) rfl) ?_
                    obtain rfl:=sj f0b4
                    exact HJ1316 _ _ ⟨uu,uu,uu,rfl,(by kernel_rfl)⟩
                  ·rintro l' _ ⟨t0aj,t1aj,t2aj,rfl,hq'⟩ l'' hl
                   rw [hq'] at hl
                   clear hq'
                   simp only [S0,S1] at hl
                   subst hl
                   refine sV (Aa rfl) ?_
                   obtain ⟨m1b4,h2b4,f3b4⟩:=Ac f8b3
                   refine BH 11 (fun l l' w'=>∃(t3aj:Value) (t4aj:Value) (t5aj:Value),UpdS [] w5m w'∧l'=((((l.set 177 t3aj).set 178 t4aj).set 179 t5aj).set 180 (.bool m1b4))) ?_ ?_
                   ·intro HJ1343
                    rcases zb h2b4 with ⟨e3k,f4b4⟩ | ⟨e3k,f5b4⟩
                    ·have q6b4:=((q1b2.ext E5o).ext E6r).ext E6n
                     refine sV (Am AI rfl q6b4 rfl) ?_ (hw:=wgT rfl e3k)
                     refine sV (Am AI rfl (q3b3.ext E6n) rfl) ?_ (hw:=wgT rfl e3k)
                     have n7b4:=(((n5b1.ext F5r).ext E5o).ext E6r).ext E6n
                     have n8b4:=(((n6b1.ext F5r).ext E5o).ext E6r).ext E6n
                     refine scr f4b4 (Ad OS (by rfl)) (Et r1b.1 r7a.1 A1r c2r A3r c4r A7l c8l A9l c0m w5m (tbx X7a9 hT) n7b4 n8b4 (n0b3.ext E6n) (n1b3.ext E6n)) (fun r9b4 f0b5 w1x E1b5=>?_) (hw:=wgT rfl e3k)
                     refine sV (AA (evb rfl e3k) rfl) ?_
                     obtain rfl:=sj f0b5
                     exact HJ1343 _ _ ⟨(.agg #[.bool r1b.1.Lo.Man.Neg,.slice A1r (sz r1b.1.Lo.Man.Abs) c2r,.int .i64 r1b.1.Lo.Exp,.bool r1b.1.Hi.Man.Neg,.slice A3r (sz r1b.1.Hi.Man.Abs) c4r,.int .i64 r1b.1.Hi.Exp]),(.agg #[.bool r7a.1.Lo.Man.Neg,.slice A7l (sz r7a.1.Lo.Man.Abs) c8l,.int .i64 r7a.1.Lo.Exp,.bool r7a.1.Hi.Man.Neg,.slice A9l (sz r7a.1.Hi.Man.Abs) c0m,.int .i64 r7a.1.Hi.Exp]),(.bool r9b4),((UpdS.refl _ _).ext E1b5),(by kernel_rfl)⟩
                    ·refine sQ rfl e3k ?_
                     refine sQ rfl e3k ?_
                     refine sQ rfl e3k ?_
                     refine sV (AC (evb rfl e3k) rfl) ?_
                     obtain rfl:=sj f5b4
                     exact HJ1343 _ _ ⟨uu,uu,uu,(UpdS.refl _ _),(by kernel_rfl)⟩
                   ·rintro l' w1x ⟨t3aj,t4aj,t5aj,U2b5,hq'⟩ l'' hl
                    rw [hq'] at hl
                    clear hq'
                    simp only [S0,S1] at hl
                    subst hl
                    have X3b5:=Jf X7a9 U2b5 (X7a9).size al0
                    refine sV (Ab rfl) ?_
                    refine wh h4b3<|wp_ret ?_
                    exact BG f3b4 X3b5 rfl
                 ·intro HJ1144
                  refine CP 2 8 (by kernel_rfl) ?_ ?_
                  ·refine opC 2 rfl (by rfl) (Ad Qg (by simp only [sz,hx9a8,hx1a9];rfl)) (Gi (⟨(⟨(⟨x1.Lo.Man.Neg,m8a8⟩:Ae),x1.Lo.Exp⟩:Ag),(⟨(⟨x1.Hi.Man.Neg,m0a9⟩:Ae),x1.Hi.Exp⟩:Ag)⟩:Al) A7 c8 A0b c9a _ (tbx (Ext.refl _) (tbx X9e hT)) (n6ai.ext (Ext.refl _)) (n7ai.ext (Ext.refl _)) r4b h8ai) ?_
                   rintro _ _ E5a ⟨A1d,c2d,A3d,c4d,rfl,n5d,n6d⟩
                   refine dnrm ?_
                   refine CP 4 8 (by kernel_rfl) ?_ ?_
                   ·refine opC 4 rfl (by rfl) (Ad NV (by rfl)) (IH x0 (⟨(⟨(⟨r4b.Lo.Man.Neg,(limbs r4b.Lo.Man.Abs)⟩:Ay),r4b.Lo.Exp⟩:Aq),(⟨(⟨r4b.Hi.Man.Neg,(limbs r4b.Hi.Man.Abs)⟩:Ay),r4b.Hi.Exp⟩:Aq)⟩:Ao) x3 A1 c2 A4 c5 A1d c2d A3d c4d _ (tbx E5a (tbx X9e hT)) ((n3.ext X9e).ext E5a) ((n6.ext X9e).ext E5a) n5d n6d r7a h2a9) ?_
                    rintro _ _ E3a ⟨A7h,c8h,A9h,c0i,rfl,n1i,n2i⟩
                    refine dnrm ?_
                    refine CP 5 8 (by kernel_rfl) ?_ ?_
                    ·refine opV 5 rfl (by rfl) (Aa rfl) (dnrm ?_)
                     refine Nn 6 7 8 (by kernel_rfl) ?_ ?_ ?_
                     ·refine opV 6 rfl (by rfl) (Aj rfl rfl) (dnrm ?_)
                      refine CP 7 8 (by kernel_rfl) ?_ ?_
                      ·refine opV 7 rfl (by rfl) (Aj rfl rfl) (dnrm ?_)
                       refine AM 8 (by kernel_rfl) ?_
                       ·refine opA 8 rfl (by rfl) (AP Cv) fun b4b5 _ E7r g6aj q8r=>dnrm ?_
                        refine AM 9 (by kernel_rfl) ?_
                        ·refine opK 9 rfl (by decide) (by rfl) Bp rfl rfl q8r rfl rfl rfl rfl (by simp only [SP0,SP1,S0,S1,Nat.reduceAdd];rfl) fun _ U9r q5b5=>?_
                         exact Cm (by kernel_rfl) (HJ1144 _ _ ⟨A1d,c2d,A3d,c4d,A7h,c8h,A9h,c0i,b4b5,(belU ((E5a.trans E3a).trans E7r) U9r (nlt (E5a.trans E3a).size g6aj)),(((n5d.ext E3a).ext E7r).upd U9r q8r (by decide)),(((n6d.ext E3a).ext E7r).upd U9r q8r (by decide)),((n1i.ext E7r).upd U9r q8r (by decide)),((n2i.ext E7r).upd U9r q8r (by decide)),(nlt (E5a.trans E3a).size g6aj),q5b5,rfl⟩)
                      ·refine opA 8 rfl (by rfl) (AP Cv) fun b7aj _ E1j g5a2 q2j=>dnrm ?_
                       refine CP 7 9 (by kernel_rfl) ?_ ?_
                       ·refine opV 7 rfl (by rfl) (Aj rfl rfl) (dnrm ?_)
                        refine AM 9 (by kernel_rfl) ?_
                        ·refine opK 9 rfl (by decide) (by rfl) Bp rfl rfl q2j rfl rfl rfl rfl (by simp only [SP0,SP1,S0,S1,Nat.reduceAdd];rfl) fun _ U0s q6b5=>?_
                         exact Cm (by kernel_rfl) (HJ1144 _ _ ⟨A1d,c2d,A3d,c4d,A7h,c8h,A9h,c0i,b7aj,(belU ((E5a.trans E3a).trans E1j) U0s (nlt (E5a.trans E3a).size g5a2)),(((n5d.ext E3a).ext E1j).upd U0s q2j (by decide)),(((n6d.ext E3a).ext E1j).upd U0s q2j (by decide)),((n1i.ext E1j).upd U0s q2j (by decide)),((n2i.ext E1j).upd U0s q2j (by decide)),(nlt (E5a.trans E3a).size g5a2),q6b5,rfl⟩)
                       ·refine opK 9 rfl (by decide) (by rfl) Bp rfl rfl q2j rfl rfl rfl rfl (by simp only [SP0,SP1,S0,S1,Nat.reduceAdd];rfl) fun _ U1s q7b5=>?_
                        refine AM 7 (by kernel_rfl) ?_
                        ·refine opV 7 rfl (by rfl) (Aj rfl rfl) (dnrm ?_)
                         exact Cm (by kernel_rfl) (HJ1144 _ _ ⟨A1d,c2d,A3d,c4d,A7h,c8h,A9h,c0i,b7aj,(belU ((E5a.trans E3a).trans E1j) U1s (nlt (E5a.trans E3a).size g5a2)),(((n5d.ext E3a).ext E1j).upd U1s q2j (by decide)),(((n6d.ext E3a).ext E1j).upd U1s q2j (by decide)),((n1i.ext E1j).upd U1s q2j (by decide)),((n2i.ext E1j).upd U1s q2j (by decide)),(nlt (E5a.trans E3a).size g5a2),q7b5,rfl⟩)
                     ·refine opV 7 rfl (by rfl) (Aj rfl rfl) (dnrm ?_)
                      refine CP 6 8 (by kernel_rfl) ?_ ?_
                      ·refine opV 6 rfl (by rfl) (Aj rfl rfl) (dnrm ?_)
                       refine AM 8 (by kernel_rfl) ?_
                       ·refine opA 8 rfl (by rfl) (AP Cv) fun b8b5 _ E2s g8aj q3s=>dnrm ?_
                        refine AM 9 (by kernel_rfl) ?_
                        ·refine opK 9 rfl (by decide) (by rfl) Bp rfl rfl q3s rfl rfl rfl rfl (by simp only [SP0,SP1,S0,S1,Nat.reduceAdd];rfl) fun _ U4s q9b5=>?_
                         exact Cm (by kernel_rfl) (HJ1144 _ _ ⟨A1d,c2d,A3d,c4d,A7h,c8h,A9h,c0i,b8b5,(belU ((E5a.trans E3a).trans E2s) U4s (nlt (E5a.trans E3a).size g8aj)),(((n5d.ext E3a).ext E2s).upd U4s q3s (by decide)),(((n6d.ext E3a).ext E2s).upd U4s q3s (by decide)),((n1i.ext E2s).upd U4s q3s (by decide)),((n2i.ext E2s).upd U4s q3s (by decide)),(nlt (E5a.trans E3a).size g8aj),q9b5,rfl⟩)
                      ·refine opA 8 rfl (by rfl) (AP Cv) fun b0b6 _ E5s g9aj q6s=>dnrm ?_
                       refine AM 6 (by kernel_rfl) ?_
                       ·refine opV 6 rfl (by rfl) (Aj rfl rfl) (dnrm ?_)
                        refine AM 9 (by kernel_rfl) ?_
                        ·refine opK 9 rfl (by decide) (by rfl) Bp rfl rfl q6s rfl rfl rfl rfl (by simp only [SP0,SP1,S0,S1,Nat.reduceAdd];rfl) fun _ U7s q1b6=>?_
                         exact Cm (by kernel_rfl) (HJ1144 _ _ ⟨A1d,c2d,A3d,c4d,A7h,c8h,A9h,c0i,b0b6,(belU ((E5a.trans E3a).trans E5s) U7s (nlt (E5a.trans E3a).size g9aj)),(((n5d.ext E3a).ext E5s).upd U7s q6s (by decide)),(((n6d.ext E3a).ext E5s).upd U7s q6s (by decide)),((n1i.ext E5s).upd U7s q6s (by decide)),((n2i.ext E5s).upd U7s q6s (by decide)),(nlt (E5a.trans E3a).size g9aj),q1b6,rfl⟩)
                     ·refine opA 8 rfl (by rfl) (AP Cv) fun b9a9 _ E0f g6o q1f=>dnrm ?_
                      refine CP 6 7 (by kernel_rfl) ?_ ?_
                      ·refine opV 6 rfl (by rfl) (Aj rfl rfl) (dnrm ?_)
                       refine CP 7 9 (by kernel_rfl) ?_ ?_
                       ·refine opV 7 rfl (by rfl) (Aj rfl rfl) (dnrm ?_)
                        refine AM 9 (by kernel_rfl) ?_
                        ·refine opK 9 rfl (by decide) (by rfl) Bp rfl rfl q1f rfl rfl rfl rfl (by simp only [SP0,SP1,S0,S1,Nat.reduceAdd];rfl) fun _ U8s q2b6=>?_
                         exact Cm (by kernel_rfl) (HJ1144 _ _ ⟨A1d,c2d,A3d,c4d,A7h,c8h,A9h,c0i,b9a9,(belU ((E5a.trans E3a).trans E0f) U8s (nlt (E5a.trans E3a).size g6o)),(((n5d.ext E3a).ext E0f).upd U8s q1f (by decide)),(((n6d.ext E3a).ext E0f).upd U8s q1f (by decide)),((n1i.ext E0f).upd U8s q1f (by decide)),((n2i.ext E0f).upd U8s q1f (by decide)),(nlt (E5a.trans E3a).size g6o),q2b6,rfl⟩)
                       ·refine opK 9 rfl (by decide) (by rfl) Bp rfl rfl q1f rfl rfl rfl rfl (by simp only [SP0,SP1,S0,S1,Nat.reduceAdd];rfl) fun _ U9s q3b6=>?_
                        refine AM 7 (by kernel_rfl) ?_
                        ·refine opV 7 rfl (by rfl) (Aj rfl rfl) (dnrm ?_)
                         exact Cm (by kernel_rfl) (HJ1144 _ _ ⟨A1d,c2d,A3d,c4d,A7h,c8h,A9h,c0i,b9a9,(belU ((E5a.trans E3a).trans E0f) U9s (nlt (E5a.trans E3a).size g6o)),(((n5d.ext E3a).ext E0f).upd U9s q1f (by decide)),(((n6d.ext E3a).ext E0f).upd U9s q1f (by decide)),((n1i.ext E0f).upd U9s q1f (by decide)),((n2i.ext E0f).upd U9s q1f (by decide)),(nlt (E5a.trans E3a).size g6o),q3b6,rfl⟩)
                      ·refine opV 7 rfl (by rfl) (Aj rfl rfl) (dnrm ?_)
                       refine AM 6 (by kernel_rfl) ?_
                       ·refine opV 6 rfl (by rfl) (Aj rfl rfl) (dnrm ?_)
                        refine AM 9 (by kernel_rfl) ?_
                        ·refine opK 9 rfl (by decide) (by rfl) Bp rfl rfl q1f rfl rfl rfl rfl (by simp only [SP0,SP1,S0,S1,Nat.reduceAdd];rfl) fun _ U0t q4b6=>?_
                         exact Cm (by kernel_rfl) (HJ1144 _ _ ⟨A1d,c2d,A3d,c4d,A7h,c8h,A9h,c0i,b9a9,(belU ((E5a.trans E3a).trans E0f) U0t (nlt (E5a.trans E3a).size g6o)),(((n5d.ext E3a).ext E0f).upd U0t q1f (by decide)),(((n6d.ext E3a).ext E0f).upd U0t q1f (by decide)),((n1i.ext E0f).upd U0t q1f (by decide)),((n2i.ext E0f).upd U0t q1f (by decide)),(nlt (E5a.trans E3a).size g6o),q4b6,rfl⟩)
                    ·refine opA 8 rfl (by rfl) (AP Cv) fun b0aa _ E2f g7o q3f=>dnrm ?_
                     refine AM 5 (by kernel_rfl) ?_
                     ·refine opV 5 rfl (by rfl) (Aa rfl) (dnrm ?_)
                      refine CP 6 7 (by kernel_rfl) ?_ ?_
                      ·refine opV 6 rfl (by rfl) (Aj rfl rfl) (dnrm ?_)
                       refine CP 7 9 (by kernel_rfl) ?_ ?_
                       ·refine opV 7 rfl (by rfl) (Aj rfl rfl) (dnrm ?_)
                        refine AM 9 (by kernel_rfl) ?_
                        ·refine opK 9 rfl (by decide) (by rfl) Bp rfl rfl q3f rfl rfl rfl rfl (by simp only [SP0,SP1,S0,S1,Nat.reduceAdd];rfl) fun _ U1t q5b6=>?_
                         exact Cm (by kernel_rfl) (HJ1144 _ _ ⟨A1d,c2d,A3d,c4d,A7h,c8h,A9h,c0i,b0aa,(belU ((E5a.trans E3a).trans E2f) U1t (nlt (E5a.trans E3a).size g7o)),(((n5d.ext E3a).ext E2f).upd U1t q3f (by decide)),(((n6d.ext E3a).ext E2f).upd U1t q3f (by decide)),((n1i.ext E2f).upd U1t q3f (by decide)),((n2i.ext E2f).upd U1t q3f (by decide)),(nlt (E5a.trans E3a).size g7o),q5b6,rfl⟩)
                       ·refine opK 9 rfl (by decide) (by rfl) Bp rfl rfl q3f rfl rfl rfl rfl (by simp only [SP0,SP1,S0,S1,Nat.reduceAdd];rfl) fun _ U2t q6b6=>?_
                        refine AM 7 (by kernel_rfl) ?_
                        ·refine opV 7 rfl (by rfl) (Aj rfl rfl) (dnrm ?_)
                         exact Cm (by kernel_rfl) (HJ1144 _ _ ⟨A1d,c2d,A3d,c4d,A7h,c8h,A9h,c0i,b0aa,(belU ((E5a.trans E3a).trans E2f) U2t (nlt (E5a.trans E3a).size g7o)),(((n5d.ext E3a).ext E2f).upd U2t q3f (by decide)),(((n6d.ext E3a).ext E2f).upd U2t q3f (by decide)),((n1i.ext E2f).upd U2t q3f (by decide)),((n2i.ext E2f).upd U2t q3f (by decide)),(nlt (E5a.trans E3a).size g7o),q6b6,rfl⟩)
                      ·refine opV 7 rfl (by rfl) (Aj rfl rfl) (dnrm ?_)
                       refine AM 6 (by kernel_rfl) ?_
                       ·refine opV 6 rfl (by rfl) (Aj rfl rfl) (dnrm ?_)
                        refine AM 9 (by kernel_rfl) ?_
                        ·refine opK 9 rfl (by decide) (by rfl) Bp rfl rfl q3f rfl rfl rfl rfl (by simp only [SP0,SP1,S0,S1,Nat.reduceAdd];rfl) fun _ U3t q7b6=>?_
                         exact Cm (by kernel_rfl) (HJ1144 _ _ ⟨A1d,c2d,A3d,c4d,A7h,c8h,A9h,c0i,b0aa,(belU ((E5a.trans E3a).trans E2f) U3t (nlt (E5a.trans E3a).size g7o)),(((n5d.ext E3a).ext E2f).upd U3t q3f (by decide)),(((n6d.ext E3a).ext E2f).upd U3t q3f (by decide)),((n1i.ext E2f).upd U3t q3f (by decide)),((n2i.ext E2f).upd U3t q3f (by decide)),(nlt (E5a.trans E3a).size g7o),q7b6,rfl⟩)
                   ·refine opA 8 rfl (by rfl) (AP Cv) fun b1aa _ E5g g8o q4f=>dnrm ?_
                    refine AM 4 (by kernel_rfl) ?_
                    ·refine opC 4 rfl (by rfl) (Ad NV (by rfl)) (IH x0 (⟨(⟨(⟨r4b.Lo.Man.Neg,(limbs r4b.Lo.Man.Abs)⟩:Ay),r4b.Lo.Exp⟩:Aq),(⟨(⟨r4b.Hi.Man.Neg,(limbs r4b.Hi.Man.Abs)⟩:Ay),r4b.Hi.Exp⟩:Aq)⟩:Ao) x3 A1 c2 A4 c5 A1d c2d A3d c4d _ (tbx (E5a.trans E5g) (tbx X9e hT)) ((n3.ext X9e).ext (E5a.trans E5g)) ((n6.ext X9e).ext (E5a.trans E5g)) (n5d.ext E5g) (n6d.ext E5g) r7a h2a9) ?_
                     rintro _ _ E6b ⟨A2aa,c3aa,A4aa,c5aa,rfl,n6aa,n7aa⟩
                     refine dnrm ?_
                     refine AM 5 (by kernel_rfl) ?_
                     ·refine opV 5 rfl (by rfl) (Aa rfl) (dnrm ?_)
                      refine CP 6 7 (by kernel_rfl) ?_ ?_
                      ·refine opV 6 rfl (by rfl) (Aj rfl rfl) (dnrm ?_)
                       refine CP 7 9 (by kernel_rfl) ?_ ?_
                       ·refine opV 7 rfl (by rfl) (Aj rfl rfl) (dnrm ?_)
                        refine AM 9 (by kernel_rfl) ?_
                        ·refine opK 9 rfl (by decide) (by rfl) Bp rfl rfl (q4f.ext E6b) rfl rfl rfl rfl (by simp only [SP0,SP1,S0,S1,Nat.reduceAdd];rfl) fun _ U4t q8b6=>?_
                         exact Cm (by kernel_rfl) (HJ1144 _ _ ⟨A1d,c2d,A3d,c4d,A2aa,c3aa,A4aa,c5aa,b1aa,(belU ((E5a.trans E5g).trans E6b) U4t (nlt E5a.size g8o)),(((n5d.ext E5g).ext E6b).upd U4t (q4f.ext E6b) (by decide)),(((n6d.ext E5g).ext E6b).upd U4t (q4f.ext E6b) (by decide)),(n6aa.upd U4t (q4f.ext E6b) (by decide)),(n7aa.upd U4t (q4f.ext E6b) (by decide)),(nlt E5a.size g8o),q8b6,rfl⟩)
                       ·refine opK 9 rfl (by decide) (by rfl) Bp rfl rfl (q4f.ext E6b) rfl rfl rfl rfl (by simp only [SP0,SP1,S0,S1,Nat.reduceAdd];rfl) fun _ U5t q9b6=>?_
                        refine AM 7 (by kernel_rfl) ?_
                        ·refine opV 7 rfl (by rfl) (Aj rfl rfl) (dnrm ?_)
                         exact Cm (by kernel_rfl) (HJ1144 _ _ ⟨A1d,c2d,A3d,c4d,A2aa,c3aa,A4aa,c5aa,b1aa,(belU ((E5a.trans E5g).trans E6b) U5t (nlt E5a.size g8o)),(((n5d.ext E5g).ext E6b).upd U5t (q4f.ext E6b) (by decide)),(((n6d.ext E5g).ext E6b).upd U5t (q4f.ext E6b) (by decide)),(n6aa.upd U5t (q4f.ext E6b) (by decide)),(n7aa.upd U5t (q4f.ext E6b) (by decide)),(nlt E5a.size g8o),q9b6,rfl⟩)
                      ·refine opV 7 rfl (by rfl) (Aj rfl rfl) (dnrm ?_)
                       refine AM 6 (by kernel_rfl) ?_
                       ·refine opV 6 rfl (by rfl) (Aj rfl rfl) (dnrm ?_)
                        refine AM 9 (by kernel_rfl) ?_
                        ·refine opK 9 rfl (by decide) (by rfl) Bp rfl rfl (q4f.ext E6b) rfl rfl rfl rfl (by simp only [SP0,SP1,S0,S1,Nat.reduceAdd];rfl) fun _ U6t q0b7=>?_
                         exact Cm (by kernel_rfl) (HJ1144 _ _ ⟨A1d,c2d,A3d,c4d,A2aa,c3aa,A4aa,c5aa,b1aa,(belU ((E5a.trans E5g).trans E6b) U6t (nlt E5a.size g8o)),(((n5d.ext E5g).ext E6b).upd U6t (q4f.ext E6b) (by decide)),(((n6d.ext E5g).ext E6b).upd U6t (q4f.ext E6b) (by decide)),(n6aa.upd U6t (q4f.ext E6b) (by decide)),(n7aa.upd U6t (q4f.ext E6b) (by decide)),(nlt E5a.size g8o),q0b7,rfl⟩)
                  ·refine opA 8 rfl (by rfl) (AP Cv) fun b8aa _ E4k g9o q5f=>dnrm ?_
                   refine AM 2 (by kernel_rfl) ?_
                   ·refine opC 2 rfl (by rfl) (Ad Qg (by simp only [sz,hx9a8,hx1a9];rfl)) (Gi (⟨(⟨(⟨x1.Lo.Man.Neg,m8a8⟩:Ae),x1.Lo.Exp⟩:Ag),(⟨(⟨x1.Hi.Man.Neg,m0a9⟩:Ae),x1.Hi.Exp⟩:Ag)⟩:Al) A7 c8 A0b c9a _ (tbx E4k (tbx X9e hT)) (n6ai.ext E4k) (n7ai.ext E4k) r4b h8ai) ?_
                    rintro _ _ E2c ⟨A6a2,c7a2,A8a2,c9a2,rfl,n0a3,n1a3⟩
                    refine dnrm ?_
                    refine AM 4 (by kernel_rfl) ?_
                    ·refine opC 4 rfl (by rfl) (Ad NV (by rfl)) (IH x0 (⟨(⟨(⟨r4b.Lo.Man.Neg,(limbs r4b.Lo.Man.Abs)⟩:Ay),r4b.Lo.Exp⟩:Aq),(⟨(⟨r4b.Hi.Man.Neg,(limbs r4b.Hi.Man.Abs)⟩:Ay),r4b.Hi.Exp⟩:Aq)⟩:Ao) x3 A1 c2 A4 c5 A6a2 c7a2 A8a2 c9a2 _ (tbx (E4k.trans E2c) (tbx X9e hT)) ((n3.ext X9e).ext (E4k.trans E2c)) ((n6.ext X9e).ext (E4k.trans E2c)) n0a3 n1a3 r7a h2a9) ?_
                     rintro _ _ E7b ⟨A9aa,c0ab,A1ab,c2ab,rfl,n3ab,n4ab⟩
                     refine dnrm ?_
                     refine AM 5 (by kernel_rfl) ?_
                     ·refine opV 5 rfl (by rfl) (Aa rfl) (dnrm ?_)
                      refine CP 6 7 (by kernel_rfl) ?_ ?_
                      ·refine opV 6 rfl (by rfl) (Aj rfl rfl) (dnrm ?_)
                       refine CP 7 9 (by kernel_rfl) ?_ ?_
                       ·refine opV 7 rfl (by rfl) (Aj rfl rfl) (dnrm ?_)
                        refine AM 9 (by kernel_rfl) ?_
                        ·refine opK 9 rfl (by decide) (by rfl) Bp rfl rfl ((q5f.ext E2c).ext E7b) rfl rfl rfl rfl (by simp only [SP0,SP1,S0,S1,Nat.reduceAdd];rfl) fun _ U7t q1b7=>?_
                         exact Cm (by kernel_rfl) (HJ1144 _ _ ⟨A6a2,c7a2,A8a2,c9a2,A9aa,c0ab,A1ab,c2ab,b8aa,(belU ((E4k.trans E2c).trans E7b) U7t g9o),((n0a3.ext E7b).upd U7t ((q5f.ext E2c).ext E7b) (by decide)),((n1a3.ext E7b).upd U7t ((q5f.ext E2c).ext E7b) (by decide)),(n3ab.upd U7t ((q5f.ext E2c).ext E7b) (by decide)),(n4ab.upd U7t ((q5f.ext E2c).ext E7b) (by decide)),g9o,q1b7,rfl⟩)
                       ·refine opK 9 rfl (by decide) (by rfl) Bp rfl rfl ((q5f.ext E2c).ext E7b) rfl rfl rfl rfl (by simp only [SP0,SP1,S0,S1,Nat.reduceAdd];rfl) fun _ U8t q2b7=>?_
                        refine AM 7 (by kernel_rfl) ?_
                        ·refine opV 7 rfl (by rfl) (Aj rfl rfl) (dnrm ?_)
                         exact Cm (by kernel_rfl) (HJ1144 _ _ ⟨A6a2,c7a2,A8a2,c9a2,A9aa,c0ab,A1ab,c2ab,b8aa,(belU ((E4k.trans E2c).trans E7b) U8t g9o),((n0a3.ext E7b).upd U8t ((q5f.ext E2c).ext E7b) (by decide)),((n1a3.ext E7b).upd U8t ((q5f.ext E2c).ext E7b) (by decide)),(n3ab.upd U8t ((q5f.ext E2c).ext E7b) (by decide)),(n4ab.upd U8t ((q5f.ext E2c).ext E7b) (by decide)),g9o,q2b7,rfl⟩)
                      ·refine opV 7 rfl (by rfl) (Aj rfl rfl) (dnrm ?_)
                       refine AM 6 (by kernel_rfl) ?_
                       ·refine opV 6 rfl (by rfl) (Aj rfl rfl) (dnrm ?_)
                        refine AM 9 (by kernel_rfl) ?_
                        ·refine opK 9 rfl (by decide) (by rfl) Bp rfl rfl ((q5f.ext E2c).ext E7b) rfl rfl rfl rfl (by simp only [SP0,SP1,S0,S1,Nat.reduceAdd];rfl) fun _ U9t q3b7=>?_
                         exact Cm (by kernel_rfl) (HJ1144 _ _ ⟨A6a2,c7a2,A8a2,c9a2,A9aa,c0ab,A1ab,c2ab,b8aa,(belU ((E4k.trans E2c).trans E7b) U9t g9o),((n0a3.ext E7b).upd U9t ((q5f.ext E2c).ext E7b) (by decide)),((n1a3.ext E7b).upd U9t ((q5f.ext E2c).ext E7b) (by decide)),(n3ab.upd U9t ((q5f.ext E2c).ext E7b) (by decide)),(n4ab.upd U9t ((q5f.ext E2c).ext E7b) (by decide)),g9o,q3b7,rfl⟩)
              ·refine wp_cond_false (Ak (evb rfl e5a7))<|wp_seq_k fun _ h4b7=>Af<|sV (Aa rfl) ?_
               refine sb (Ik rfl rfl) fun z2a3 hz2a3=>?_
               refine nrm ?_
               refine sV (Aa rfl) ?_
               obtain ⟨m0ak,h5b7,f6b7⟩:=Ac f0az
               refine BH 8 (fun l l' w'=>∃(t5ab:Value) (t6ab:Value) (t7ab:Value) (t8ab:Value),w9i=w'∧l'=(((((l.set 150 t5ab).set 151 t6ab).set 152 t7ab).set 153 t8ab).set 154 (.bool m0ak))) ?_ ?_
               ·intro HJ696
                rcases zi hz2a3 h5b7 with ⟨e3j,_,f7b7⟩ | ⟨e3j,_,f8b7⟩
                ·refine sQ rfl e3j ?_
                 refine sQ rfl e3j ?_
                 refine sP ?_
                 refine sQ rfl e3j ?_
                 refine sV (AA (evb rfl e3j) rfl) ?_
                 obtain rfl:=sj f7b7
                 exact HJ696 _ _ ⟨uu,uu,uu,uu,rfl,(by kernel_rfl)⟩
                ·refine sV (Aa rfl) ?_ (hw:=wgT rfl e3j)
                 refine sV (Aa rfl) ?_ (hw:=wgT rfl e3j)
                 obtain ⟨m1ak,h2ak,f9b7⟩:=Ac f8b7
                 refine BH 7 (fun l l' w'=>∃(t9ab:Value),w9i=w'∧l'=((l.set 152 t9ab).set 153 (.bool m1ak))) ?_ ?_
                 ·intro HJ712
                  rcases bft r3b.1 with e7n | e7n
                  ·have p0b8:=e7n
                   have f1b8:=ifP p0b8 h2ak
                   refine sV (Aa rfl) ?_ (hw:=wgT rfl e7n)
                   refine sV (AA (evb rfl e7n) rfl) ?_ (hw:=wgT rfl e3j)
                   obtain rfl:=sj f1b8
                   exact HJ712 _ _ ⟨(.bool r0c.1),rfl,(by kernel_rfl)⟩
                  ·have p2b8:=bF e7n
                   have f3b8:=ifN p2b8 h2ak
                   refine sQ rfl e7n ?_
                   refine sV (AC (evb rfl e7n) rfl) ?_ (hw:=wgT rfl e3j)
                   obtain rfl:=sj f3b8
                   exact HJ712 _ _ ⟨uu,rfl,(by kernel_rfl)⟩
                 ·rintro l' _ ⟨t9ab,rfl,hq'⟩ l'' hl
                  rw [hq'] at hl
                  clear hq'
                  simp only [S0,S1] at hl
                  subst hl
                  refine sV (AC (evb rfl e3j) rfl) ?_
                  obtain rfl:=sj f9b7
                  exact HJ696 _ _ ⟨(.bool r3b.1),(.bool r3b.1),t9ab,(.bool m1ak),rfl,(by kernel_rfl)⟩
               ·rintro l' _ ⟨t5ab,t6ab,t7ab,t8ab,rfl,hq'⟩ l'' hl
                rw [hq'] at hl
                clear hq'
                simp only [S0,S1] at hl
                subst hl
                refine wh h4b7 ?_
                rcases zb f6b7 with ⟨e0ac,f4b8⟩ | ⟨e0ac,f5b8⟩
                ·refine wp_cond_true (Ak (evb rfl e0ac))<|wp_seq_k fun _ h6b8=>Af<|sV (Ab rfl) ?_
                 refine wh h6b8<|wp_ret ?_
                 exact BG f4b8 X0j rfl
                ·refine wp_cond_false (Ak (evb rfl e0ac))<|wp_skip<|h9ah _ _<|wp_seq_k fun _ h7b8=>Af<|have q3ak:=((((q0z.ext E5c).ext E0d).ext E4c).updS U7e nm0).updS U6h nm0;sV (Am AI rfl q3ak rfl) ?_
                 have q4ak:=(((q2z.ext E0d).ext E4c).updS U7e nm0).updS U6h nm0
                 refine sV2 (Am AI rfl q4ak rfl) (Aa rfl) ?_
                 obtain ⟨r2b,h8b8,f9b8⟩:=Ac f5b8
                 refine sc (Ad RP (by rfl)) (MH x0 x1 x3 A1 c2 A4 c5 A7 c8 A0b c9a w9i (tbx X0j hT) (n3.ext X0j) (n6.ext X0j) (n9.ext X0j) (n4h.ext X0j) r2b h8b8) ?_
                 rintro _ w9n E1ac ⟨A0u,c1u,A2u,c3u,rfl,n0b9,n1b9⟩
                 refine nrm ?_
                 have X5ak:=xtr X0j E1ac
                 refine sV3 (Aa rfl) (Aj rfl rfl) (Aj rfl rfl) ?_
                 refine Ax Cv fun b2b9 w5p E3b9 g6ak q4b9=>?_
                 refine nrm ?_
                 have g1bg:=nlt X5ak.size g6ak
                 refine ss Bp q4b9 fun w2af U5b9 q6b9=>?_
                 have F4u:=belU E3b9 U5b9 g6ak
                 have X7b9:=xtr X5ak F4u
                 refine sV (Ab rfl) ?_
                 refine wh h7b8<|wp_seq_k fun _ h8b9=>DK [9] 11 mo rfl fun w9k E0p S2ac=>have X6f:=xtr X7b9 E0p;dV 0 rfl (fun _ hw=>Am AI rfl ((((q3ak.ext E1ac).ext F4u).ext E0p).ext hw) rfl) S2ac ?_
                 refine dV 1 rfl (fun _ hw=>Am AI rfl ((((q4ak.ext E1ac).ext F4u).ext E0p).ext hw) rfl) S2ac ?_
                 refine dA 3 rfl (fun _=>Aa rfl) ?_
                 obtain ⟨m3ac,h9b9,f0ba⟩:=Ac f9b8
                 have hx4ac:=AU h9b9
                 have n7ak:RU w9k A7 c8 m3ac:=by unfold RU;rw [hx4ac];exact (n9.ext X6f)
                 obtain ⟨m5ac,h1ba,f2ba⟩:=Ac f0ba
                 have hx6ac:=AU h1ba
                 have n8ak:RU w9k A0b c9a m5ac:=by unfold RU;rw [hx6ac];exact (n4h.ext X6f)
                 obtain ⟨r5b,h9ak,f3ba⟩:=Ac f2ba
                 obtain ⟨r8a,h7ac,f4ba⟩:=Ac f3ba
                 refine Pd #[true,true,true,true,true,true,true,true,true,true,false] 1 (fun l' w'=>∃(A8ac:Option Addr) (c9ac:Nat) (A0ad:Option Addr) (c1ad:Nat) (A1m:Option Addr) (c2m:Nat) (A3m:Option Addr) (c4m:Nat) (b3a3:Nat),Ext w9k w'∧RU w' A8ac c9ac r5b.Lo.Man.Abs∧RU w' A0ad c1ad r5b.Hi.Man.Abs∧RU w' A1m c2m r8a.1.Lo.Man.Abs∧RU w' A3m c4m r8a.1.Hi.Man.Abs∧w9k.heap.size≤b3a3∧Bx w' b3a3 29 [.bool r8a.1.Lo.Man.Neg,.slice A1m (sz r8a.1.Lo.Man.Abs) c2m,.int .i64 r8a.1.Lo.Exp,.bool r8a.1.Hi.Man.Neg,.slice A3m (sz r8a.1.Hi.Man.Abs) c4m,.int .i64 r8a.1.Hi.Exp]∧l'=[.agg #[.bool x0.Lo.Man.Neg,.slice A1 x0.Lo.Man.Abs.length c2,.int .i64 x0.Lo.Exp,.bool x0.Hi.Man.Neg,.slice A4 x0.Hi.Man.Abs.length c5,.int .i64 x0.Hi.Exp],.agg #[.bool x1.Lo.Man.Neg,.slice A7 x1.Lo.Man.Abs.length c8,.int .i64 x1.Lo.Exp,.bool x1.Hi.Man.Neg,.slice A0b x1.Hi.Man.Abs.length c9a,.int .i64 x1.Hi.Exp],.agg #[.bool x2.Man.Neg,.slice A7g x2.Man.Abs.length c3g,.int .i64 x2.Exp],.int .i64 x3,.pointer (some ⟨b9w,0,none⟩),.pointer (some ⟨b8k,0,none⟩),.pointer (some ⟨b6j,0,none⟩),uu,.bool false,.pointer (some ⟨b8af,0,none⟩),.int .i64 r2b.2,.pointer (some ⟨b1ag,0,none⟩),.int .i64 r2a.2,.pointer (some ⟨b4ag,0,none⟩),.int .i64 r1a.2,.bool r3b.1,.int .i64 r3b.2,.bool r0c.1,.int .i64 r0c.2,.bool r1c.1,.int .i64 r1c.2,uu,uu,.pointer (some ⟨b2b9,0,none⟩),.pointer (some ⟨b3a3,0,none⟩),.agg #[.bool x0.Lo.Man.Neg,.slice A1 x0.Lo.Man.Abs.length c2,.int .i64 x0.Lo.Exp,.bool x0.Hi.Man.Neg,.slice A4 x0.Hi.Man.Abs.length c5,.int .i64 x0.Hi.Exp],.bool r3af,.bool z0o,.bool z0o,t3x,t4x,t5x,.bool m7p,.bool m7p,t7x,t8x,t9x,t0y,.bool m8p,.bool m8p,t1y,t2y,t3y,.bool m0q,.bool m0q,t4y,t5y,t6y,.bool m8a4,uu,.tuple #[.agg #[.bool r0a.1.Lo.Man.Neg,.slice A9g (sz r0a.1.Lo.Man.Abs) c0h,.int .i64 r0a.1.Lo.Exp,.bool r0a.1.Hi.Man.Neg,.slice A1h (sz r0a.1.Hi.Man.Abs) c2h,.int .i64 r0a.1.Hi.Exp],.int .i64 r0a.2],.agg #[.bool x0.Lo.Man.Neg,.slice A1 x0.Lo.Man.Abs.length c2,.int .i64 x0.Lo.Exp,.bool x0.Hi.Man.Neg,.slice A4 x0.Hi.Man.Abs.length c5,.int .i64 x0.Hi.Exp],.agg #[.bool x1.Lo.Man.Neg,.slice A7 x1.Lo.Man.Abs.length c8,.int .i64 x1.Lo.Exp,.bool x1.Hi.Man.Neg,.slice A0b x1.Hi.Man.Abs.length c9a,.int .i64 x1.Hi.Exp],.tuple #[.agg #[.bool r0a.1.Lo.Man.Neg,.slice A9g (sz r0a.1.Lo.Man.Abs) c0h,.int .i64 r0a.1.Lo.Exp,.bool r0a.1.Hi.Man.Neg,.slice A1h (sz r0a.1.Hi.Man.Abs) c2h,.int .i64 r0a.1.Hi.Exp],.int .i64 r0a.2],.agg #[.bool r0a.1.Lo.Man.Neg,.slice A9g (sz r0a.1.Lo.Man.Abs) c0h,.int .i64 r0a.1.Lo.Exp,.bool r0a.1.Hi.Man.Neg,.slice A1h (sz r0a.1.Hi.Man.Abs) c2h,.int .i64 r0a.1.Hi.Exp],.int .i64 r0a.2,.tuple #[.agg #[.bool r2a.1.Lo.Man.Neg,.slice A3l (sz r2a.1.Lo.Man.Abs) c4l,.int .i64 r2a.1.Lo.Exp,.bool r2a.1.Hi.Man.Neg,.slice A5l (sz r2a.1.Hi.Man.Abs) c6l,.int .i64 r2a.1.Hi.Exp],.int .i64 r2a.2],.agg #[.bool x0.Lo.Man.Neg,.slice A1 x0.Lo.Man.Abs.length c2,.int .i64 x0.Lo.Exp,.bool x0.Hi.Man.Neg,.slice A4 x0.Hi.Man.Abs.length c5,.int .i64 x0.Hi.Exp],.agg #[.bool x1.Lo.Man.Neg,.slice A7 x1.Lo.Man.Abs.length c8,.int .i64 x1.Lo.Exp,.bool x1.Hi.Man.Neg,.slice A0b x1.Hi.Man.Abs.length c9a,.int .i64 x1.Hi.Exp],.tuple #[.agg #[.bool r2a.1.Lo.Man.Neg,.slice A3l (sz r2a.1.Lo.Man.Abs) c4l,.int .i64 r2a.1.Lo.Exp,.bool r2a.1.Hi.Man.Neg,.slice A5l (sz r2a.1.Hi.Man.Abs) c6l,.int .i64 r2a.1.Hi.Exp],.int .i64 r2a.2],.agg #[.bool r2a.1.Lo.Man.Neg,.slice A3l (sz r2a.1.Lo.Man.Abs) c4l,.int .i64 r2a.1.Lo.Exp,.bool r2a.1.Hi.Man.Neg,.slice A5l (sz r2a.1.Hi.Man.Abs) c6l,.int .i64 r2a.1.Hi.Exp],.int .i64 r2a.2,.tuple #[.agg #[.bool r1a.1.Num.Neg,.slice A6c (sz r1a.1.Num.Abs) c7c,.slice A8c (sz r1a.1.Den) c9c],.int .i64 r1a.2],.agg #[.bool x2.Man.Neg,.slice A7g x2.Man.Abs.length c3g,.int .i64 x2.Exp],.tuple #[.agg #[.bool r1a.1.Num.Neg,.slice A6c (sz r1a.1.Num.Abs) c7c,.slice A8c (sz r1a.1.Den) c9c],.int .i64 r1a.2],.agg #[.bool r1a.1.Num.Neg,.slice A6c (sz r1a.1.Num.Abs) c7c,.slice A8c (sz r1a.1.Den) c9c],.int .i64 r1a.2,.tuple #[.bool r3b.1,.int .i64 r3b.2],.agg #[.bool x0.Lo.Man.Neg,.slice A1 x0.Lo.Man.Abs.length c2,.int .i64 x0.Lo.Exp,.bool x0.Hi.Man.Neg,.slice A4 x0.Hi.Man.Abs.length c5,.int .i64 x0.Hi.Exp],.agg #[.bool r1a.1.Num.Neg,.slice A6c (sz r1a.1.Num.Abs) c7c,.slice A8c (sz r1a.1.Den) c9c],.tuple #[.bool r3b.1,.int .i64 r3b.2],.bool r3b.1,.int .i64 r3b.2,.tuple #[.bool r0c.1,.int .i64 r0c.2],.agg #[.bool x1.Lo.Man.Neg,.slice A7 x1.Lo.Man.Abs.length c8,.int .i64 x1.Lo.Exp,.bool x1.Hi.Man.Neg,.slice A0b x1.Hi.Man.Abs.length c9a,.int .i64 x1.Hi.Exp],.agg #[.bool r1a.1.Num.Neg,.slice A6c (sz r1a.1.Num.Abs) c7c,.slice A8c (sz r1a.1.Den) c9c],.tuple #[.bool r0c.1,.int .i64 r0c.2],.bool r0c.1,.int .i64 r0c.2,.tuple #[.bool r1c.1,.int .i64 r1c.2],.agg #[.bool r0a.1.Lo.Man.Neg,.slice A9g (sz r0a.1.Lo.Man.Abs) c0h,.int .i64 r0a.1.Lo.Exp,.bool r0a.1.Hi.Man.Neg,.slice A1h (sz r0a.1.Hi.Man.Abs) c2h,.int .i64 r0a.1.Hi.Exp],.agg #[.bool r1a.1.Num.Neg,.slice A6c (sz r1a.1.Num.Abs) c7c,.slice A8c (sz r1a.1.Den) c9c],.tuple #[.bool r1c.1,.int .i64 r1c.2],.bool r1c.1,.int .i64 r1c.2,.int .i64 r0a.2,.bool z4o,.bool z4o,t3z,t4z,.bool m4q,.bool m4q,t5z,t6z,.bool m5q,.bool m5q,t7z,t8z,.bool m6q,.bool m6q,t9z,t0a0,.bool m7q,.bool m7q,t1a0,t2a0,t3a0,t4a0,t5a0,t6a0,t7a0,t8a0,.bool m8q,.bool m8q,t9a0,t0a1,t1a1,t2a1,t3a1,t4a1,.bool m9q,.bool m9q,t5a1,t6a1,t7a1,t8a1,t9a1,t0a2,.bool m1a7,.int .i64 r2a.2,.bool z1a2,uu,uu,uu,uu,uu,uu,uu,uu,uu,uu,uu,uu,uu,uu,uu,uu,.int .i64 r2a.2,.bool z2a3,.bool z2a3,t5ab,t6ab,t7ab,t8ab,.bool m0ak,.tuple #[.agg #[.bool r2b.1.Lo.Man.Neg,.slice A0u (sz r2b.1.Lo.Man.Abs) c1u,.int .i64 r2b.1.Lo.Exp,.bool r2b.1.Hi.Man.Neg,.slice A2u (sz r2b.1.Hi.Man.Abs) c3u,.int .i64 r2b.1.Hi.Exp],.int .i64 r2b.2],.agg #[.bool x0.Lo.Man.Neg,.slice A1 x0.Lo.Man.Abs.length c2,.int .i64 x0.Lo.Exp,.bool x0.Hi.Man.Neg,.slice A4 x0.Hi.Man.Abs.length c5,.int .i64 x0.Hi.Exp],.agg #[.bool x1.Lo.Man.Neg,.slice A7 x1.Lo.Man.Abs.length c8,.int .i64 x1.Lo.Exp,.bool x1.Hi.Man.Neg,.slice A0b x1.Hi.Man.Abs.length c9a,.int .i64 x1.Hi.Exp],.int .i64 x3,.tuple #[.agg #[.bool r2b.1.Lo.Man.Neg,.slice A0u (sz r2b.1.Lo.Man.Abs) c1u,.int .i64 r2b.1.Lo.Exp,.bool r2b.1.Hi.Man.Neg,.slice A2u (sz r2b.1.Hi.Man.Abs) c3u,.int .i64 r2b.1.Hi.Exp],.int .i64 r2b.2],.agg #[.bool r2b.1.Lo.Man.Neg,.slice A0u (sz r2b.1.Lo.Man.Abs) c1u,.int .i64 r2b.1.Lo.Exp,.bool r2b.1.Hi.Man.Neg,.slice A2u (sz r2b.1.Hi.Man.Abs) c3u,.int .i64 r2b.1.Hi.Exp],.int .i64 r2b.2,.tuple #[.agg #[.bool r8a.1.Lo.Man.Neg,.slice A1m (sz r8a.1.Lo.Man.Abs) c2m,.int .i64 r8a.1.Lo.Exp,.bool r8a.1.Hi.Man.Neg,.slice A3m (sz r8a.1.Hi.Man.Abs) c4m,.int .i64 r8a.1.Hi.Exp],.int .i64 r8a.2],.agg #[.bool x0.Lo.Man.Neg,.slice A1 x0.Lo.Man.Abs.length c2,.int .i64 x0.Lo.Exp,.bool x0.Hi.Man.Neg,.slice A4 x0.Hi.Man.Abs.length c5,.int .i64 x0.Hi.Exp],.agg #[.bool x1.Lo.Man.Neg,.slice A7 x1.Lo.Man.Abs.length c8,.int .i64 x1.Lo.Exp,.bool x1.Hi.Man.Neg,.slice A0b x1.Hi.Man.Abs.length c9a,.int .i64 x1.Hi.Exp],.agg #[.bool r5b.Lo.Man.Neg,.slice A8ac (sz r5b.Lo.Man.Abs) c9ac,.int .i64 r5b.Lo.Exp,.bool r5b.Hi.Man.Neg,.slice A0ad (sz r5b.Hi.Man.Abs) c1ad,.int .i64 r5b.Hi.Exp],.int .i64 x3,.tuple #[.agg #[.bool r8a.1.Lo.Man.Neg,.slice A1m (sz r8a.1.Lo.Man.Abs) c2m,.int .i64 r8a.1.Lo.Exp,.bool r8a.1.Hi.Man.Neg,.slice A3m (sz r8a.1.Hi.Man.Abs) c4m,.int .i64 r8a.1.Hi.Exp],.int .i64 r8a.2],.agg #[.bool r8a.1.Lo.Man.Neg,.slice A1m (sz r8a.1.Lo.Man.Abs) c2m,.int .i64 r8a.1.Lo.Exp,.bool r8a.1.Hi.Man.Neg,.slice A3m (sz r8a.1.Hi.Man.Abs) c4m,.int .i64 r8a.1.Hi.Exp],.int .i64 r8a.2,uu,uu,uu,uu,uu,uu,uu,uu,uu,uu,uu]) ?_ ?_
                 ·rintro _ w6j ⟨A8ac,c9ac,A0ad,c1ad,A1m,c2m,A3m,c4m,b3a3,E5u,n2bg,n3bg,n5ba,n6ba,g7ba,q8ba,rfl⟩
                  have g4bg:=nlt X6f.size g7ba
                  have X0al:=xtr X6f E5u
                  have S5bg:=S2ac.trans E5u
                  refine dA 10 rfl (fun _=>Ab rfl) ?_
                  refine CE (by kernel_rfl) ?_
                  refine h8b9 _ _<|wp_seq_k fun _ h9ba=>Af ?_
                  refine scr f4ba (Ad Re (by rfl)) (Hy w6j (tbx X0al hT)) fun r6bg f0bb w8g E8n=>?_
                  have X2ad:=xtr X0al E8n
                  refine sV (Aa rfl) ?_
                  obtain ⟨m1bb,h2bb,f3bb⟩:=Ac f0bb
                  refine BH 6 (fun l l' w'=>∃(t1al:Value) (t2al:Value) (t3al:Value),w8g=w'∧l'=((((l.set 172 t1al).set 173 t2al).set 174 t3al).set 175 (.bool m1bb))) ?_ ?_
                  ·intro HJ961
                   rcases zb h2bb with ⟨e5k,f4bb⟩ | ⟨e5k,f5bb⟩
                   ·refine sV (Aa rfl) ?_ (hw:=wgT rfl e5k)
                    refine sV (Aa rfl) ?_ (hw:=wgT rfl e5k)
                    refine sb (CG rfl rfl) ?_ (hw:=wgT rfl e5k)
                    intro z3ad hz3ad
                    refine nrm ?_
                    refine sV (AA (evb rfl e5k) rfl) ?_
                    obtain rfl:z3ad=decide (r2b.2=r8a.2):=bz hz3ad
                    obtain rfl:=sj f4bb
                    exact HJ961 _ _ ⟨(.int .i64 r2b.2),(.int .i64 r8a.2),(.bool (decide (r2b.2=r8a.2))),rfl,(by kernel_rfl)⟩
                   ·refine sQ rfl e5k ?_
                    refine sQ rfl e5k ?_
                    refine sQ rfl e5k ?_
                    refine sV (AC (evb rfl e5k) rfl) ?_
                    obtain rfl:=sj f5bb
                    exact HJ961 _ _ ⟨uu,uu,uu,rfl,(by kernel_rfl)⟩
                  ·rintro l' _ ⟨t1al,t2al,t3al,rfl,hq'⟩ l'' hl
                   rw [hq'] at hl
                   clear hq'
                   simp only [S0,S1] at hl
                   subst hl
                   refine sV (Aa rfl) ?_
                   obtain ⟨m6bb,h7bb,f8bb⟩:=Ac f3bb
                   refine BH 11 (fun l l' w'=>∃(t4al:Value) (t5al:Value) (t6al:Value),UpdS [] w8g w'∧l'=((((l.set 177 t4al).set 178 t5al).set 179 t6al).set 180 (.bool m6bb))) ?_ ?_
                   ·intro HJ988
                    rcases zb h7bb with ⟨e6k,f9bb⟩ | ⟨e6k,f0bc⟩
                    ·have q1bc:=((q6b9.ext E0p).ext E5u).ext E8n
                     refine sV (Am AI rfl q1bc rfl) ?_ (hw:=wgT rfl e6k)
                     refine sV (Am AI rfl (q8ba.ext E8n) rfl) ?_ (hw:=wgT rfl e6k)
                     have n2bc:=(((n0b9.ext F4u).ext E0p).ext E5u).ext E8n
                     have n3bc:=(((n1b9.ext F4u).ext E0p).ext E5u).ext E8n
                     refine scr f9bb (Ad OS (by rfl)) (Et r2b.1 r8a.1 A0u c1u A2u c3u A1m c2m A3m c4m w8g (tbx X2ad hT) n2bc n3bc (n5ba.ext E8n) (n6ba.ext E8n)) (fun r4bc f5bc w5m E6bc=>?_) (hw:=wgT rfl e6k)
                     refine sV (AA (evb rfl e6k) rfl) ?_
                     obtain rfl:=sj f5bc
                     exact HJ988 _ _ ⟨(.agg #[.bool r2b.1.Lo.Man.Neg,.slice A0u (sz r2b.1.Lo.Man.Abs) c1u,.int .i64 r2b.1.Lo.Exp,.bool r2b.1.Hi.Man.Neg,.slice A2u (sz r2b.1.Hi.Man.Abs) c3u,.int .i64 r2b.1.Hi.Exp]),(.agg #[.bool r8a.1.Lo.Man.Neg,.slice A1m (sz r8a.1.Lo.Man.Abs) c2m,.int .i64 r8a.1.Lo.Exp,.bool r8a.1.Hi.Man.Neg,.slice A3m (sz r8a.1.Hi.Man.Abs) c4m,.int .i64 r8a.1.Hi.Exp]),(.bool r4bc),((UpdS.refl _ _).ext E6bc),(by kernel_rfl)⟩
                    ·refine sQ rfl e6k ?_
                     refine sQ rfl e6k ?_
                     refine sQ rfl e6k ?_
                     refine sV (AC (evb rfl e6k) rfl) ?_
                     obtain rfl:=sj f0bc
                     exact HJ988 _ _ ⟨uu,uu,uu,(UpdS.refl _ _),(by kernel_rfl)⟩
                   ·rintro l' w5m ⟨t4al,t5al,t6al,U7bc,hq'⟩ l'' hl
                    rw [hq'] at hl
                    clear hq'
                    simp only [S0,S1] at hl
                    subst hl
                    have X8bc:=Jf X2ad U7bc (X2ad).size al0
                    refine sV (Ab rfl) ?_
                    refine wh h9ba<|wp_ret ?_
                    exact BG f8bb X8bc rfl
                 ·intro HJ789
                  refine CP 2 8 (by kernel_rfl) ?_ ?_
                  ·refine opC 2 rfl (by rfl) (Ad Qg (by simp only [sz,hx4ac,hx6ac];rfl)) (Gi (⟨(⟨(⟨x1.Lo.Man.Neg,m3ac⟩:Ae),x1.Lo.Exp⟩:Ag),(⟨(⟨x1.Hi.Man.Neg,m5ac⟩:Ae),x1.Hi.Exp⟩:Ag)⟩:Al) A7 c8 A0b c9a _ (tbx (Ext.refl _) (tbx X6f hT)) (n7ak.ext (Ext.refl _)) (n8ak.ext (Ext.refl _)) r5b h9ak) ?_
                   rintro _ _ E6a ⟨A7d,c8d,A9d,c0e,rfl,n1e,n2e⟩
                   refine dnrm ?_
                   refine CP 4 8 (by kernel_rfl) ?_ ?_
                   ·refine opC 4 rfl (by rfl) (Ad NV (by rfl)) (IH x0 (⟨(⟨(⟨r5b.Lo.Man.Neg,(limbs r5b.Lo.Man.Abs)⟩:Ay),r5b.Lo.Exp⟩:Aq),(⟨(⟨r5b.Hi.Man.Neg,(limbs r5b.Hi.Man.Abs)⟩:Ay),r5b.Hi.Exp⟩:Aq)⟩:Ao) x3 A1 c2 A4 c5 A7d c8d A9d c0e _ (tbx E6a (tbx X6f hT)) ((n3.ext X6f).ext E6a) ((n6.ext X6f).ext E6a) n1e n2e r8a h7ac) ?_
                    rintro _ _ E4a ⟨A3i,c4i,A5i,c6i,rfl,n7i,n8i⟩
                    refine dnrm ?_
                    refine CP 5 8 (by kernel_rfl) ?_ ?_
                    ·refine opV 5 rfl (by rfl) (Aa rfl) (dnrm ?_)
                     refine Nn 6 7 8 (by kernel_rfl) ?_ ?_ ?_
                     ·refine opV 6 rfl (by rfl) (Aj rfl rfl) (dnrm ?_)
                      refine CP 7 8 (by kernel_rfl) ?_ ?_
                      ·refine opV 7 rfl (by rfl) (Aj rfl rfl) (dnrm ?_)
                       refine AM 8 (by kernel_rfl) ?_
                       ·refine opA 8 rfl (by rfl) (AP Cv) fun b9bc _ E6u g7al q7u=>dnrm ?_
                        refine AM 9 (by kernel_rfl) ?_
                        ·refine opK 9 rfl (by decide) (by rfl) Bp rfl rfl q7u rfl rfl rfl rfl (by simp only [SP0,SP1,S0,S1,Nat.reduceAdd];rfl) fun _ U8u q0bd=>?_
                         exact Cm (by kernel_rfl) (HJ789 _ _ ⟨A7d,c8d,A9d,c0e,A3i,c4i,A5i,c6i,b9bc,(belU ((E6a.trans E4a).trans E6u) U8u (nlt (E6a.trans E4a).size g7al)),(((n1e.ext E4a).ext E6u).upd U8u q7u (by decide)),(((n2e.ext E4a).ext E6u).upd U8u q7u (by decide)),((n7i.ext E6u).upd U8u q7u (by decide)),((n8i.ext E6u).upd U8u q7u (by decide)),(nlt (E6a.trans E4a).size g7al),q0bd,rfl⟩)
                      ·refine opA 8 rfl (by rfl) (AP Cv) fun b8al _ E4j g4a3 q5j=>dnrm ?_
                       refine CP 7 9 (by kernel_rfl) ?_ ?_
                       ·refine opV 7 rfl (by rfl) (Aj rfl rfl) (dnrm ?_)
                        refine AM 9 (by kernel_rfl) ?_
                        ·refine opK 9 rfl (by decide) (by rfl) Bp rfl rfl q5j rfl rfl rfl rfl (by simp only [SP0,SP1,S0,S1,Nat.reduceAdd];rfl) fun _ U9u q1bd=>?_
                         exact Cm (by kernel_rfl) (HJ789 _ _ ⟨A7d,c8d,A9d,c0e,A3i,c4i,A5i,c6i,b8al,(belU ((E6a.trans E4a).trans E4j) U9u (nlt (E6a.trans E4a).size g4a3)),(((n1e.ext E4a).ext E4j).upd U9u q5j (by decide)),(((n2e.ext E4a).ext E4j).upd U9u q5j (by decide)),((n7i.ext E4j).upd U9u q5j (by decide)),((n8i.ext E4j).upd U9u q5j (by decide)),(nlt (E6a.trans E4a).size g4a3),q1bd,rfl⟩)
                       ·refine opK 9 rfl (by decide) (by rfl) Bp rfl rfl q5j rfl rfl rfl rfl (by simp only [SP0,SP1,S0,S1,Nat.reduceAdd];rfl) fun _ U0v q2bd=>?_
                        refine AM 7 (by kernel_rfl) ?_
                        ·refine opV 7 rfl (by rfl) (Aj rfl rfl) (dnrm ?_)
                         exact Cm (by kernel_rfl) (HJ789 _ _ ⟨A7d,c8d,A9d,c0e,A3i,c4i,A5i,c6i,b8al,(belU ((E6a.trans E4a).trans E4j) U0v (nlt (E6a.trans E4a).size g4a3)),(((n1e.ext E4a).ext E4j).upd U0v q5j (by decide)),(((n2e.ext E4a).ext E4j).upd U0v q5j (by decide)),((n7i.ext E4j).upd U0v q5j (by decide)),((n8i.ext E4j).upd U0v q5j (by decide)),(nlt (E6a.trans E4a).size g4a3),q2bd,rfl⟩)
                     ·refine opV 7 rfl (by rfl) (Aj rfl rfl) (dnrm ?_)
                      refine CP 6 8 (by kernel_rfl) ?_ ?_
                      ·refine opV 6 rfl (by rfl) (Aj rfl rfl) (dnrm ?_)
                       refine AM 8 (by kernel_rfl) ?_
                       ·refine opA 8 rfl (by rfl) (AP Cv) fun b3bd _ E1v g9al q2v=>dnrm ?_
                        refine AM 9 (by kernel_rfl) ?_
                        ·refine opK 9 rfl (by decide) (by rfl) Bp rfl rfl q2v rfl rfl rfl rfl (by simp only [SP0,SP1,S0,S1,Nat.reduceAdd];rfl) fun _ U3v q4bd=>?_
                         exact Cm (by kernel_rfl) (HJ789 _ _ ⟨A7d,c8d,A9d,c0e,A3i,c4i,A5i,c6i,b3bd,(belU ((E6a.trans E4a).trans E1v) U3v (nlt (E6a.trans E4a).size g9al)),(((n1e.ext E4a).ext E1v).upd U3v q2v (by decide)),(((n2e.ext E4a).ext E1v).upd U3v q2v (by decide)),((n7i.ext E1v).upd U3v q2v (by decide)),((n8i.ext E1v).upd U3v q2v (by decide)),(nlt (E6a.trans E4a).size g9al),q4bd,rfl⟩)
                      ·refine opA 8 rfl (by rfl) (AP Cv) fun b5bd _ E4v g0am q5v=>dnrm ?_
                       refine AM 6 (by kernel_rfl) ?_
                       ·refine opV 6 rfl (by rfl) (Aj rfl rfl) (dnrm ?_)
                        refine AM 9 (by kernel_rfl) ?_
                        ·refine opK 9 rfl (by decide) (by rfl) Bp rfl rfl q5v rfl rfl rfl rfl (by simp only [SP0,SP1,S0,S1,Nat.reduceAdd];rfl) fun _ U6v q6bd=>?_
                         exact Cm (by kernel_rfl) (HJ789 _ _ ⟨A7d,c8d,A9d,c0e,A3i,c4i,A5i,c6i,b5bd,(belU ((E6a.trans E4a).trans E4v) U6v (nlt (E6a.trans E4a).size g0am)),(((n1e.ext E4a).ext E4v).upd U6v q5v (by decide)),(((n2e.ext E4a).ext E4v).upd U6v q5v (by decide)),((n7i.ext E4v).upd U6v q5v (by decide)),((n8i.ext E4v).upd U6v q5v (by decide)),(nlt (E6a.trans E4a).size g0am),q6bd,rfl⟩)
                     ·refine opA 8 rfl (by rfl) (AP Cv) fun b4ad _ E7f g1p q8f=>dnrm ?_
                      refine CP 6 7 (by kernel_rfl) ?_ ?_
                      ·refine opV 6 rfl (by rfl) (Aj rfl rfl) (dnrm ?_)
                       refine CP 7 9 (by kernel_rfl) ?_ ?_
                       ·refine opV 7 rfl (by rfl) (Aj rfl rfl) (dnrm ?_)
                        refine AM 9 (by kernel_rfl) ?_
                        ·refine opK 9 rfl (by decide) (by rfl) Bp rfl rfl q8f rfl rfl rfl rfl (by simp only [SP0,SP1,S0,S1,Nat.reduceAdd];rfl) fun _ U7v q7bd=>?_
                         exact Cm (by kernel_rfl) (HJ789 _ _ ⟨A7d,c8d,A9d,c0e,A3i,c4i,A5i,c6i,b4ad,(belU ((E6a.trans E4a).trans E7f) U7v (nlt (E6a.trans E4a).size g1p)),(((n1e.ext E4a).ext E7f).upd U7v q8f (by decide)),(((n2e.ext E4a).ext E7f).upd U7v q8f (by decide)),((n7i.ext E7f).upd U7v q8f (by decide)),((n8i.ext E7f).upd U7v q8f (by decide)),(nlt (E6a.trans E4a).size g1p),q7bd,rfl⟩)
                       ·refine opK 9 rfl (by decide) (by rfl) Bp rfl rfl q8f rfl rfl rfl rfl (by simp only [SP0,SP1,S0,S1,Nat.reduceAdd];rfl) fun _ U8v q8bd=>?_
                        refine AM 7 (by kernel_rfl) ?_
                        ·refine opV 7 rfl (by rfl) (Aj rfl rfl) (dnrm ?_)
                         exact Cm (by kernel_rfl) (HJ789 _ _ ⟨A7d,c8d,A9d,c0e,A3i,c4i,A5i,c6i,b4ad,(belU ((E6a.trans E4a).trans E7f) U8v (nlt (E6a.trans E4a).size g1p)),(((n1e.ext E4a).ext E7f).upd U8v q8f (by decide)),(((n2e.ext E4a).ext E7f).upd U8v q8f (by decide)),((n7i.ext E7f).upd U8v q8f (by decide)),((n8i.ext E7f).upd U8v q8f (by decide)),(nlt (E6a.trans E4a).size g1p),q8bd,rfl⟩)
                      ·refine opV 7 rfl (by rfl) (Aj rfl rfl) (dnrm ?_)
                       refine AM 6 (by kernel_rfl) ?_
                       ·refine opV 6 rfl (by rfl) (Aj rfl rfl) (dnrm ?_)
                        refine AM 9 (by kernel_rfl) ?_
                        ·refine opK 9 rfl (by decide) (by rfl) Bp rfl rfl q8f rfl rfl rfl rfl (by simp only [SP0,SP1,S0,S1,Nat.reduceAdd];rfl) fun _ U9v q9bd=>?_
                         exact Cm (by kernel_rfl) (HJ789 _ _ ⟨A7d,c8d,A9d,c0e,A3i,c4i,A5i,c6i,b4ad,(belU ((E6a.trans E4a).trans E7f) U9v (nlt (E6a.trans E4a).size g1p)),(((n1e.ext E4a).ext E7f).upd U9v q8f (by decide)),(((n2e.ext E4a).ext E7f).upd U9v q8f (by decide)),((n7i.ext E7f).upd U9v q8f (by decide)),((n8i.ext E7f).upd U9v q8f (by decide)),(nlt (E6a.trans E4a).size g1p),q9bd,rfl⟩)
                    ·refine opA 8 rfl (by rfl) (AP Cv) fun b5ad _ E9f g2p q0g=>dnrm ?_
                     refine AM 5 (by kernel_rfl) ?_
                     ·refine opV 5 rfl (by rfl) (Aa rfl) (dnrm ?_)
                      refine CP 6 7 (by kernel_rfl) ?_ ?_
                      ·refine opV 6 rfl (by rfl) (Aj rfl rfl) (dnrm ?_)
                       refine CP 7 9 (by kernel_rfl) ?_ ?_
                       ·refine opV 7 rfl (by rfl) (Aj rfl rfl) (dnrm ?_)
                        refine AM 9 (by kernel_rfl) ?_
                        ·refine opK 9 rfl (by decide) (by rfl) Bp rfl rfl q0g rfl rfl rfl rfl (by simp only [SP0,SP1,S0,S1,Nat.reduceAdd];rfl) fun _ U0w q0be=>?_
                         exact Cm (by kernel_rfl) (HJ789 _ _ ⟨A7d,c8d,A9d,c0e,A3i,c4i,A5i,c6i,b5ad,(belU ((E6a.trans E4a).trans E9f) U0w (nlt (E6a.trans E4a).size g2p)),(((n1e.ext E4a).ext E9f).upd U0w q0g (by decide)),(((n2e.ext E4a).ext E9f).upd U0w q0g (by decide)),((n7i.ext E9f).upd U0w q0g (by decide)),((n8i.ext E9f).upd U0w q0g (by decide)),(nlt (E6a.trans E4a).size g2p),q0be,rfl⟩)
                       ·refine opK 9 rfl (by decide) (by rfl) Bp rfl rfl q0g rfl rfl rfl rfl (by simp only [SP0,SP1,S0,S1,Nat.reduceAdd];rfl) fun _ U1w q1be=>?_
                        refine AM 7 (by kernel_rfl) ?_
                        ·refine opV 7 rfl (by rfl) (Aj rfl rfl) (dnrm ?_)
                         exact Cm (by kernel_rfl) (HJ789 _ _ ⟨A7d,c8d,A9d,c0e,A3i,c4i,A5i,c6i,b5ad,(belU ((E6a.trans E4a).trans E9f) U1w (nlt (E6a.trans E4a).size g2p)),(((n1e.ext E4a).ext E9f).upd U1w q0g (by decide)),(((n2e.ext E4a).ext E9f).upd U1w q0g (by decide)),((n7i.ext E9f).upd U1w q0g (by decide)),((n8i.ext E9f).upd U1w q0g (by decide)),(nlt (E6a.trans E4a).size g2p),q1be,rfl⟩)
                      ·refine opV 7 rfl (by rfl) (Aj rfl rfl) (dnrm ?_)
                       refine AM 6 (by kernel_rfl) ?_
                       ·refine opV 6 rfl (by rfl) (Aj rfl rfl) (dnrm ?_)
                        refine AM 9 (by kernel_rfl) ?_
                        ·refine opK 9 rfl (by decide) (by rfl) Bp rfl rfl q0g rfl rfl rfl rfl (by simp only [SP0,SP1,S0,S1,Nat.reduceAdd];rfl) fun _ U2w q2be=>?_
                         exact Cm (by kernel_rfl) (HJ789 _ _ ⟨A7d,c8d,A9d,c0e,A3i,c4i,A5i,c6i,b5ad,(belU ((E6a.trans E4a).trans E9f) U2w (nlt (E6a.trans E4a).size g2p)),(((n1e.ext E4a).ext E9f).upd U2w q0g (by decide)),(((n2e.ext E4a).ext E9f).upd U2w q0g (by decide)),((n7i.ext E9f).upd U2w q0g (by decide)),((n8i.ext E9f).upd U2w q0g (by decide)),(nlt (E6a.trans E4a).size g2p),q2be,rfl⟩)
                   ·refine opA 8 rfl (by rfl) (AP Cv) fun b6ad _ E6g g3p q1g=>dnrm ?_
                    refine AM 4 (by kernel_rfl) ?_
                    ·refine opC 4 rfl (by rfl) (Ad NV (by rfl)) (IH x0 (⟨(⟨(⟨r5b.Lo.Man.Neg,(limbs r5b.Lo.Man.Abs)⟩:Ay),r5b.Lo.Exp⟩:Aq),(⟨(⟨r5b.Hi.Man.Neg,(limbs r5b.Hi.Man.Abs)⟩:Ay),r5b.Hi.Exp⟩:Aq)⟩:Ao) x3 A1 c2 A4 c5 A7d c8d A9d c0e _ (tbx (E6a.trans E6g) (tbx X6f hT)) ((n3.ext X6f).ext (E6a.trans E6g)) ((n6.ext X6f).ext (E6a.trans E6g)) (n1e.ext E6g) (n2e.ext E6g) r8a h7ac) ?_
                     rintro _ _ E8b ⟨A7ad,c8ad,A9ad,c0ae,rfl,n1ae,n2ae⟩
                     refine dnrm ?_
                     refine AM 5 (by kernel_rfl) ?_
                     ·refine opV 5 rfl (by rfl) (Aa rfl) (dnrm ?_)
                      refine CP 6 7 (by kernel_rfl) ?_ ?_
                      ·refine opV 6 rfl (by rfl) (Aj rfl rfl) (dnrm ?_)
                       refine CP 7 9 (by kernel_rfl) ?_ ?_
                       ·refine opV 7 rfl (by rfl) (Aj rfl rfl) (dnrm ?_)
                        refine AM 9 (by kernel_rfl) ?_
                        ·refine opK 9 rfl (by decide) (by rfl) Bp rfl rfl (q1g.ext E8b) rfl rfl rfl rfl (by simp only [SP0,SP1,S0,S1,Nat.reduceAdd];rfl) fun _ U3w q3be=>?_
                         exact Cm (by kernel_rfl) (HJ789 _ _ ⟨A7d,c8d,A9d,c0e,A7ad,c8ad,A9ad,c0ae,b6ad,(belU ((E6a.trans E6g).trans E8b) U3w (nlt E6a.size g3p)),(((n1e.ext E6g).ext E8b).upd U3w (q1g.ext E8b) (by decide)),(((n2e.ext E6g).ext E8b).upd U3w (q1g.ext E8b) (by decide)),(n1ae.upd U3w (q1g.ext E8b) (by decide)),(n2ae.upd U3w (q1g.ext E8b) (by decide)),(nlt E6a.size g3p),q3be,rfl⟩)
                       ·refine opK 9 rfl (by decide) (by rfl) Bp rfl rfl (q1g.ext E8b) rfl rfl rfl rfl (by simp only [SP0,SP1,S0,S1,Nat.reduceAdd];rfl) fun _ U4w q4be=>?_
                        refine AM 7 (by kernel_rfl) ?_
                        ·refine opV 7 rfl (by rfl) (Aj rfl rfl) (dnrm ?_)
                         exact Cm (by kernel_rfl) (HJ789 _ _ ⟨A7d,c8d,A9d,c0e,A7ad,c8ad,A9ad,c0ae,b6ad,(belU ((E6a.trans E6g).trans E8b) U4w (nlt E6a.size g3p)),(((n1e.ext E6g).ext E8b).upd U4w (q1g.ext E8b) (by decide)),(((n2e.ext E6g).ext E8b).upd U4w (q1g.ext E8b) (by decide)),(n1ae.upd U4w (q1g.ext E8b) (by decide)),(n2ae.upd U4w (q1g.ext E8b) (by decide)),(nlt E6a.size g3p),q4be,rfl⟩)
                      ·refine opV 7 rfl (by rfl) (Aj rfl rfl) (dnrm ?_)
                       refine AM 6 (by kernel_rfl) ?_
                       ·refine opV 6 rfl (by rfl) (Aj rfl rfl) (dnrm ?_)
                        refine AM 9 (by kernel_rfl) ?_
                        ·refine opK 9 rfl (by decide) (by rfl) Bp rfl rfl (q1g.ext E8b) rfl rfl rfl rfl (by simp only [SP0,SP1,S0,S1,Nat.reduceAdd];rfl) fun _ U5w q5be=>?_
                         exact Cm (by kernel_rfl) (HJ789 _ _ ⟨A7d,c8d,A9d,c0e,A7ad,c8ad,A9ad,c0ae,b6ad,(belU ((E6a.trans E6g).trans E8b) U5w (nlt E6a.size g3p)),(((n1e.ext E6g).ext E8b).upd U5w (q1g.ext E8b) (by decide)),(((n2e.ext E6g).ext E8b).upd U5w (q1g.ext E8b) (by decide)),(n1ae.upd U5w (q1g.ext E8b) (by decide)),(n2ae.upd U5w (q1g.ext E8b) (by decide)),(nlt E6a.size g3p),q5be,rfl⟩)
                  ·refine opA 8 rfl (by rfl) (AP Cv) fun b3ae _ E7k g4p q2g=>dnrm ?_
                   refine AM 2 (by kernel_rfl) ?_
                   ·refine opC 2 rfl (by rfl) (Ad Qg (by simp only [sz,hx4ac,hx6ac];rfl)) (Gi (⟨(⟨(⟨x1.Lo.Man.Neg,m3ac⟩:Ae),x1.Lo.Exp⟩:Ag),(⟨(⟨x1.Hi.Man.Neg,m5ac⟩:Ae),x1.Hi.Exp⟩:Ag)⟩:Al) A7 c8 A0b c9a _ (tbx E7k (tbx X6f hT)) (n7ak.ext E7k) (n8ak.ext E7k) r5b h9ak) ?_
                    rintro _ _ E3c ⟨A5a3,c6a3,A7a3,c8a3,rfl,n9a3,n0a4⟩
                    refine dnrm ?_
                    refine AM 4 (by kernel_rfl) ?_
                    ·refine opC 4 rfl (by rfl) (Ad NV (by rfl)) (IH x0 (⟨(⟨(⟨r5b.Lo.Man.Neg,(limbs r5b.Lo.Man.Abs)⟩:Ay),r5b.Lo.Exp⟩:Aq),(⟨(⟨r5b.Hi.Man.Neg,(limbs r5b.Hi.Man.Abs)⟩:Ay),r5b.Hi.Exp⟩:Aq)⟩:Ao) x3 A1 c2 A4 c5 A5a3 c6a3 A7a3 c8a3 _ (tbx (E7k.trans E3c) (tbx X6f hT)) ((n3.ext X6f).ext (E7k.trans E3c)) ((n6.ext X6f).ext (E7k.trans E3c)) n9a3 n0a4 r8a h7ac) ?_
                     rintro _ _ E9b ⟨A4ae,c5ae,A6ae,c7ae,rfl,n8ae,n9ae⟩
                     refine dnrm ?_
                     refine AM 5 (by kernel_rfl) ?_
                     ·refine opV 5 rfl (by rfl) (Aa rfl) (dnrm ?_)
                      refine CP 6 7 (by kernel_rfl) ?_ ?_
                      ·refine opV 6 rfl (by rfl) (Aj rfl rfl) (dnrm ?_)
                       refine CP 7 9 (by kernel_rfl) ?_ ?_
                       ·refine opV 7 rfl (by rfl) (Aj rfl rfl) (dnrm ?_)
                        refine AM 9 (by kernel_rfl) ?_
                        ·refine opK 9 rfl (by decide) (by rfl) Bp rfl rfl ((q2g.ext E3c).ext E9b) rfl rfl rfl rfl (by simp only [SP0,SP1,S0,S1,Nat.reduceAdd];rfl) fun _ U6w q6be=>?_
                         exact Cm (by kernel_rfl) (HJ789 _ _ ⟨A5a3,c6a3,A7a3,c8a3,A4ae,c5ae,A6ae,c7ae,b3ae,(belU ((E7k.trans E3c).trans E9b) U6w g4p),((n9a3.ext E9b).upd U6w ((q2g.ext E3c).ext E9b) (by decide)),((n0a4.ext E9b).upd U6w ((q2g.ext E3c).ext E9b) (by decide)),(n8ae.upd U6w ((q2g.ext E3c).ext E9b) (by decide)),(n9ae.upd U6w ((q2g.ext E3c).ext E9b) (by decide)),g4p,q6be,rfl⟩)
                       ·refine opK 9 rfl (by decide) (by rfl) Bp rfl rfl ((q2g.ext E3c).ext E9b) rfl rfl rfl rfl (by simp only [SP0,SP1,S0,S1,Nat.reduceAdd];rfl) fun _ U7w q7be=>?_
                        refine AM 7 (by kernel_rfl) ?_
                        ·refine opV 7 rfl (by rfl) (Aj rfl rfl) (dnrm ?_)
                         exact Cm (by kernel_rfl) (HJ789 _ _ ⟨A5a3,c6a3,A7a3,c8a3,A4ae,c5ae,A6ae,c7ae,b3ae,(belU ((E7k.trans E3c).trans E9b) U7w g4p),((n9a3.ext E9b).upd U7w ((q2g.ext E3c).ext E9b) (by decide)),((n0a4.ext E9b).upd U7w ((q2g.ext E3c).ext E9b) (by decide)),(n8ae.upd U7w ((q2g.ext E3c).ext E9b) (by decide)),(n9ae.upd U7w ((q2g.ext E3c).ext E9b) (by decide)),g4p,q7be,rfl⟩)
                      ·refine opV 7 rfl (by rfl) (Aj rfl rfl) (dnrm ?_)
                       refine AM 6 (by kernel_rfl) ?_
                       ·refine opV 6 rfl (by rfl) (Aj rfl rfl) (dnrm ?_)
                        refine AM 9 (by kernel_rfl) ?_
                        ·refine opK 9 rfl (by decide) (by rfl) Bp rfl rfl ((q2g.ext E3c).ext E9b) rfl rfl rfl rfl (by simp only [SP0,SP1,S0,S1,Nat.reduceAdd];rfl) fun _ U8w q8be=>?_
                         exact Cm (by kernel_rfl) (HJ789 _ _ ⟨A5a3,c6a3,A7a3,c8a3,A4ae,c5ae,A6ae,c7ae,b3ae,(belU ((E7k.trans E3c).trans E9b) U8w g4p),((n9a3.ext E9b).upd U8w ((q2g.ext E3c).ext E9b) (by decide)),((n0a4.ext E9b).upd U8w ((q2g.ext E3c).ext E9b) (by decide)),(n8ae.upd U8w ((q2g.ext E3c).ext E9b) (by decide)),(n9ae.upd U8w ((q2g.ext E3c).ext E9b) (by decide)),g4p,q8be,rfl⟩)
end Go.Proofs

