import Derived.Test.YtabiobmfelafoaaGreatDoorLeafN
namespace Go.Proofs
set_option linter.unusedVariables false
set_option linter.unusedSimpArgs false
set_option maxHeartbeats 4000000
open Go.RowKit Go.Sb Go.Proofs.Sbn
open Go.Proofs.Tryz
theorem c_sorobanref03_ValidInt (x0:Ar) (A1:OA) (c2:Nat) (w:World) (hT:TB w) (n3:RLu w A1 c2 x0.Abs) (r:Bool) (hr:Cr x0=some r) :
  Calls prog 61 #[.agg #[.bool x0.Neg,.slice A1 x0.Abs.length c2]] w (Ret Gi w r):=by
 unfold Cr at hr
 go_enter func61,ntmps61
 refine ws fun h4=>Ah<|sbx rfl rfl fun b5 w1 E6 g7 q8=>?_
 refine sV (Ab rfl) ?_
 refine nx h4 fun h9=>sV2 (Af (o':=1) BI rfl rfl) (Ag Ci rfl (Bx.cell q8 rfl)) ?_
 refine scr hr (Ac en_143 (by rfl)) (HV x0.Abs A1 c2 w1 (tbx E6 hT) (n3.ext E6)) fun r0d f9b w2 E3a=>?_
 have X0c:=xtr E6 E3a
 refine sV (Aa rfl) ?_
 obtain ⟨m1c,h2c,f3c⟩:=Ad f9b
 refine BH 14 (fun l l' w'=>∃(t9a:Value) (t0b:Value) (t1b:Value) (t2b:Value) (t3b:Value) (t4b:Value) (t5b:Value) (t6b:Value) (t7b:Value),w2=w'∧l'=((((((((((l.set 7 t9a).set 8 t0b).set 9 t1b).set 10 t2b).set 11 t3b).set 12 t4b).set 13 t5b).set 14 t6b).set 15 t7b).set 16 (.bool m1c))) ?_ ?_
 ·intro HJ55
  rcases zb h2c with ⟨e0a,f4c⟩ | ⟨e0a,f5c⟩
  ·refine sV (Af (o':=0) Fo rfl rfl) ?_ (hw:=wgT rfl e0a)
   refine sV (Ag Gy rfl (Bx.cell (q8.ext E3a) rfl)) ?_ (hw:=wgT rfl e0a)
   refine sbl (FL rfl) (fun z2a hz2a=>?_) (hw:=wgT rfl e0a)
   refine sV (Aa rfl) ?_ (hw:=wgT rfl e0a)
   obtain ⟨m8b,h6c,f7c⟩:=Ad f4c
   refine BH 13 (fun l l' w'=>∃(t4a:Value) (t5a:Value) (t6a:Value) (t7a:Value),w2=w'∧l'=(((((l.set 11 t4a).set 12 t5a).set 13 t6a).set 14 t7a).set 15 (.bool m8b))) ?_ ?_
   ·intro HJ76
    rcases zi hz2a h6c with ⟨e1a,_,f8c⟩ | ⟨e1a,_,f9c⟩
    ·refine sQ rfl e1a ?_
     refine sQ rfl e1a ?_
     refine sQ rfl e1a ?_
     refine sQ rfl e1a ?_
     refine sV (Az (evb rfl e1a) rfl) ?_ (hw:=wgT rfl e0a)
     obtain rfl:=sj f8c
     exact HJ76 _ _ ⟨uu,uu,uu,uu,rfl,(by kernel_rfl)⟩
    ·refine sV (Af (o':=1) BI rfl rfl) ?_ (hw:=wgT rfl e1a)
     refine sV (Ag Ci rfl (Bx.cell (q8.ext E3a) rfl)) ?_ (hw:=wgT rfl e1a)
     refine sV (AD CH rfl) ?_ (hw:=wgT rfl e1a)
     refine sbl (Eh rfl rfl) (fun z8a hz8a=>?_) (hw:=wgT rfl e1a)
     refine sV (AE (evb rfl e1a) rfl) ?_ (hw:=wgT rfl e0a)
     obtain rfl:z8a=decide (0<(x0.Abs.length:Int)):=bz hz8a
     obtain rfl:=sj f9c
     exact HJ76 _ _ ⟨(.pointer (some ⟨b5,1,none⟩)),(.slice A1 x0.Abs.length c2),(.int .i64 (x0.Abs.length:Int)),(.bool (decide (0<(x0.Abs.length:Int)))),rfl,(by kernel_rfl)⟩
   ·rintro _ _ ⟨t4a,t5a,t6a,t7a,rfl,rfl⟩ _ rfl
    refine sV (Az (evb rfl e0a) rfl) ?_
    obtain rfl:=sj f7c
    exact HJ55 _ _ ⟨(.pointer (some ⟨b5,0,none⟩)),(.bool x0.Neg),(.bool z2a),(.bool z2a),t4a,t5a,t6a,t7a,(.bool m8b),rfl,(by kernel_rfl)⟩
  ·refine sQ rfl e0a ?_
   refine sQ rfl e0a ?_
   refine sQ rfl e0a ?_
   refine sQ rfl e0a ?_
   refine sP ?_
   refine sP ?_
   refine sP ?_
   refine sP ?_
   refine sQ rfl e0a ?_
   refine sV (AE (evb rfl e0a) rfl) ?_
   obtain rfl:=sj f5c
   exact HJ55 _ _ ⟨uu,uu,uu,uu,uu,uu,uu,uu,uu,rfl,(by kernel_rfl)⟩
 ·rintro _ _ ⟨t9a,t0b,t1b,t2b,t3b,t4b,t5b,t6b,t7b,rfl,rfl⟩ _ rfl
  refine sV (Ab rfl) ?_
  refine wh h9<|wp_ret ?_
  exact Bn f3c X0c rfl
theorem JM (x0:Aq) (A1:OA) (c2:Nat) (w:World) (hT:TB w) (n3:RLu w A1 c2 x0.Man.Abs) (r:Bool) (hr:BM x0=some r) :
  Calls prog 45 #[.agg #[.bool x0.Man.Neg,.slice A1 x0.Man.Abs.length c2,.int .i64 x0.Exp]] w (Ret Gi w r):=by
 unfold BM at hr
 go_enter func45,ntmps45
 refine ws fun h4=>Ah<|sbx rfl rfl fun b5 w1 E6 g7 q8=>?_
 refine sV (Ab rfl) ?_
 refine wh h4<|ws fun h9=>ws fun h9b=>Ah<|sV2 (Af (o':=0) Jg rfl rfl) (dld EO q8) ?_
 refine scr hr (Ac en_61 (by rfl)) (c_sorobanref03_ValidInt x0.Man A1 c2 w1 (tbx E6 hT) (n3.ext E6)) fun r2e f0c w2 E2a=>?_
 have X3a:=xtr E6 E2a
 refine sbl (FL rfl) fun z0b hz0b=>?_
 refine wh h9b ?_
 rcases zi hz0b f0c with ⟨e4a,_,f1c⟩ | ⟨e4a,_,f2c⟩
 ·refine ct e4a<|ws fun h3c=>Ah<|sV (Ab rfl) ?_
  refine wh h3c<|wp_ret ?_
  exact Bn f1c X3a rfl
 ·refine cf e4a<|wp_skip<|h9 _ _<|ws fun h4c=>ws fun h5c=>Ah<|sV3 (Af (o':=0) Jg rfl rfl) (Af (o':=1) BI rfl rfl) (Ag Ci rfl (Bx.cell (q8.ext E2a) rfl)) ?_
  refine sV (AD CH rfl) ?_
  refine sbl (Cy rfl rfl) fun z1b hz1b=>?_
  refine wh h5c ?_
  rcases zi hz1b f2c with ⟨e5a,_,f6c⟩ | ⟨e5a,_,f7c⟩
  ·refine ct e5a<|ws fun h8c=>Ah<|sV2 (Af (o':=2) Ib rfl rfl) (Ag GR rfl (Bx.cell (q8.ext E2a) rfl)) ?_
   refine sbl (Cy rfl rfl) fun z6a hz6a=>?_
   refine sV (Ab rfl) ?_
   refine wh h8c<|wp_ret ?_
   obtain rfl:z6a=decide (x0.Exp=0):=bz hz6a
   exact Bn f6c X3a rfl
  ·refine cf e5a<|wp_skip<|h4c _ _<|ws fun h9c=>Ah<|sV3 (Af (o':=0) Jg rfl rfl) (Af (o':=1) BI rfl rfl) (Ag Ci rfl (Bx.cell (q8.ext E2a) rfl)) ?_
   refine scr f7c (Ac Qr (by rfl)) (Hs x0.Man.Abs 0 A1 c2 w2 (tbx X3a hT) (n3.ext X3a)) fun r3e f0d w3 E7a=>?_
   have X1d:=xtr X3a E7a
   refine sbl (Cy rfl rfl) fun z2b hz2b=>?_
   refine sV (Aa rfl) ?_
   obtain ⟨m2d,h3d,f4d⟩:=Ad f0d
   refine BH 10 (fun l l' w'=>∃(t3b:Value) (t4b:Value) (t5b:Value),w3=w'∧l'=((((l.set 21 t3b).set 22 t4b).set 23 t5b).set 24 (.bool m2d))) ?_ ?_
   ·intro HJ63
    rcases zi hz2b h3d with ⟨e0a,_,f5d⟩ | ⟨e0a,_,f6d⟩
    ·refine sV (Af (o':=2) Ib rfl rfl) ?_ (hw:=wgT rfl e0a)
     refine sV (Ag GR rfl (Bx.cell ((q8.ext E2a).ext E7a) rfl)) ?_ (hw:=wgT rfl e0a)
     refine sbl (Hb rfl rfl) (fun z8a hz8a=>?_) (hw:=wgT rfl e0a)
     refine sV (Az (evb rfl e0a) rfl) ?_
     obtain rfl:z8a=decide ((-1048576)≤x0.Exp):=bz hz8a
     obtain rfl:=sj f5d
     exact HJ63 _ _ ⟨(.pointer (some ⟨b5,2,none⟩)),(.int .i64 x0.Exp),(.bool (decide ((-1048576)≤x0.Exp))),rfl,(by kernel_rfl)⟩
    ·refine sQ rfl e0a ?_
     refine sQ rfl e0a ?_
     refine sQ rfl e0a ?_
     refine sV (AE (evb rfl e0a) rfl) ?_
     obtain rfl:=sj f6d
     exact HJ63 _ _ ⟨uu,uu,uu,rfl,(by kernel_rfl)⟩
   ·rintro _ _ ⟨t3b,t4b,t5b,rfl,rfl⟩ _ rfl
    refine sV (Aa rfl) ?_
    obtain ⟨m7d,h8d,f9d⟩:=Ad f4d
    refine BH 15 (fun l l' w'=>∃(t6b:Value) (t7b:Value) (t8b:Value),w3=w'∧l'=((((l.set 26 t6b).set 27 t7b).set 28 t8b).set 29 (.bool m7d))) ?_ ?_
    ·intro HJ83
     rcases zb h8d with ⟨e1a,f0e⟩ | ⟨e1a,f1e⟩
     ·refine sV (Af (o':=2) Ib rfl rfl) ?_ (hw:=wgT rfl e1a)
      refine sV (Ag GR rfl (Bx.cell ((q8.ext E2a).ext E7a) rfl)) ?_ (hw:=wgT rfl e1a)
      refine sbl (KX rfl rfl) (fun z9a hz9a=>?_) (hw:=wgT rfl e1a)
      refine sV (Az (evb rfl e1a) rfl) ?_
      obtain rfl:z9a=decide (x0.Exp≤1048576):=bz hz9a
      obtain rfl:=sj f0e
      exact HJ83 _ _ ⟨(.pointer (some ⟨b5,2,none⟩)),(.int .i64 x0.Exp),(.bool (decide (x0.Exp≤1048576))),rfl,(by kernel_rfl)⟩
     ·refine sQ rfl e1a ?_
      refine sQ rfl e1a ?_
      refine sQ rfl e1a ?_
      refine sV (AE (evb rfl e1a) rfl) ?_
      obtain rfl:=sj f1e
      exact HJ83 _ _ ⟨uu,uu,uu,rfl,(by kernel_rfl)⟩
    ·rintro _ _ ⟨t6b,t7b,t8b,rfl,rfl⟩ _ rfl
     refine sV (Ab rfl) ?_
     refine wh h9c<|wp_ret ?_
     exact Bn f9d X1d rfl
theorem c_sorobanlaw04_few (x0:Am) (A1:OA) (c2:Nat) (A4:OA) (c5:Nat) (w:World) (hT:TB w) (n3:RLu w A1 c2 x0.Lo.Man.Abs) (n6:RLu w A4 c5 x0.Hi.Man.Abs) (r:Bool) (hr:Fe x0=some r) :
  Calls prog 14 #[.agg #[.bool x0.Lo.Man.Neg,.slice A1 x0.Lo.Man.Abs.length c2,.int .i64 x0.Lo.Exp,.bool x0.Hi.Man.Neg,.slice A4 x0.Hi.Man.Abs.length c5,.int .i64 x0.Hi.Exp]] w (Ret Gi w r):=by
 unfold Fe at hr
 go_enter func14,ntmps14
 refine ws fun h7=>Ah<|sbx rfl rfl fun b8 w1 E9 g2q q9f=>?_
 refine sV (Ab rfl) ?_
 refine nx h7 fun h2l=>sV2 (Af (o':=0) Lp rfl rfl) (dld DU q9f) ?_
 refine sV2 (Af (o':=3) Lj rfl rfl) (dld DU q9f) ?_
 refine Dj (vals:=[(0,.agg #[.bool x0.Lo.Man.Neg,.slice A1 x0.Lo.Man.Abs.length c2,.int .i64 x0.Lo.Exp]),(1,.agg #[.bool x0.Hi.Man.Neg,.slice A4 x0.Hi.Man.Abs.length c5,.int .i64 x0.Hi.Exp])]) (cs:=[.bool x0.Lo.Man.Neg,.slice A1 x0.Lo.Man.Abs.length c2,.int .i64 x0.Lo.Exp,.bool x0.Hi.Man.Neg,.slice A4 x0.Hi.Man.Abs.length c5,.int .i64 x0.Hi.Exp]) LH Gw Jn (by rfl) (by decide) (by kernel_rfl) fun b4a w2 E3l g4l q7a=>?_
 refine nrm ?_
 have g3q:=nlt E9.size g4l
 have X9a:=xtr E9 E3l
 refine sV (Ab rfl) ?_
 refine wh h2l<|ws fun h5l=>ws fun h6l=>Ah<|sV (Ab rfl) ?_
 refine wh h6l ?_
 apply wp_block
 refine GO<|AW<|ws fun h7l=>ws fun h8l=>Ah<|sV2 (Aa rfl) (HI (v:=.bool true) (Bv rfl rfl) (by rfl)) ?_
 refine wh h8l<|ct rfl<|wp_skip<|h7l _ _<|ws fun h9l=>?_
 apply wp_block
 refine ws fun h0m=>Ah<|sV3 (Aa rfl) (Aa rfl) (CN (o':=0) LH Gw rfl rfl (by decide) (by decide) (by decide)) ?_
 refine sV3 (Af (o':=0) Jg rfl rfl) (Af (o':=1) BI rfl rfl) (Ag Ci rfl (Bx.cell q7a rfl)) ?_
 refine sV (AD CH rfl) ?_
 refine sbl (Eh rfl rfl) fun z0g hz0g=>?_
 refine sV (Aa rfl) ?_
 obtain ⟨m1m,h2m,f3m⟩:=Ad hr
 refine BH 31 (fun l l' w'=>∃(t1g:Value) (t2g:Value) (t3g:Value) (t4g:Value) (t5g:Value) (t6g:Value) (t7g:Value) (t8g:Value) (t9g:Value) (t0h:Value) (t1h:Value) (t2h:Value) (t3h:Value) (t4h:Value) (t5h:Value) (t6h:Value) (t7h:Value) (t8h:Value) (t9h:Value) (t0i:Value) (t1i:Value),UpdS [] w2 w'∧l'=((((((((((((((((((((((l.set 23 t1g).set 24 t2g).set 25 t3g).set 26 t4g).set 27 t5g).set 28 t6g).set 29 t7g).set 30 t8g).set 31 t9g).set 32 t0h).set 33 t1h).set 34 t2h).set 35 t3h).set 36 t4h).set 37 t5h).set 38 t6h).set 39 t7h).set 40 t8h).set 41 t9h).set 42 t0i).set 43 t1i).set 44 (.bool m1m))) ?_ ?_
 ·intro HJ138
  rcases zi hz0g h2m with ⟨e2a,_,f4m⟩ | ⟨e2a,_,f5m⟩
  ·refine sQ rfl e2a ?_
   refine sQ rfl e2a ?_
   refine sQ rfl e2a ?_
   refine sQ rfl e2a ?_
   refine sQ rfl e2a ?_
   refine sQ rfl e2a ?_
   refine sP ?_
   refine sP ?_
   refine sP ?_
   refine sP ?_
   refine sP ?_
   refine sP ?_
   refine sP ?_
   refine sP ?_
   refine sP ?_
   refine sP ?_
   refine sP ?_
   refine sP ?_
   refine sP ?_
   refine sP ?_
   refine sQ rfl e2a ?_
   refine sV (Az (evb rfl e2a) rfl) ?_
   obtain rfl:=sj f4m
   exact HJ138 _ _ ⟨uu,uu,uu,uu,uu,uu,uu,uu,uu,uu,uu,uu,uu,uu,uu,uu,uu,uu,uu,uu,uu,(UpdS.refl _ _),(by kernel_rfl)⟩
  ·refine sV (Aa rfl) ?_ (hw:=wgT rfl e2a)
   refine sV (Aa rfl) ?_ (hw:=wgT rfl e2a)
   refine sV (CN (o':=0) LH Gw rfl rfl (by decide) (by decide) (by decide)) ?_ (hw:=wgT rfl e2a)
   refine sV (dld DU q7a) ?_ (hw:=wgT rfl e2a)
   refine scr f5m (Ac SV (by rfl)) (JM x0.Lo A1 c2 w2 (tbx X9a hT) (n3.ext X9a)) (fun r2i f6m w3 E3b=>?_) (hw:=wgT rfl e2a)
   refine sV (Aa rfl) ?_ (hw:=wgT rfl e2a)
   obtain ⟨m3i,h7m,f8m⟩:=Ad f6m
   refine BH 30 (fun l l' w'=>∃(t4b:Value) (t5b:Value) (t6b:Value) (t7b:Value) (t8b:Value) (t9b:Value) (t0c:Value) (t1c:Value) (t2c:Value) (t3c:Value) (t4c:Value) (t5c:Value) (t6c:Value) (t7c:Value),w3=w'∧l'=(((((((((((((((l.set 29 t4b).set 30 t5b).set 31 t6b).set 32 t7b).set 33 t8b).set 34 t9b).set 35 t0c).set 36 t1c).set 37 t2c).set 38 t3c).set 39 t4c).set 40 t5c).set 41 t6c).set 42 t7c).set 43 (.bool m3i))) ?_ ?_
   ·intro HJ196
    rcases zb h7m with ⟨e0a,f9m⟩ | ⟨e0a,f0n⟩
    ·refine sV (Aa rfl) ?_ (hw:=wgT rfl e0a)
     refine sV (Aa rfl) ?_ (hw:=wgT rfl e0a)
     refine sV (CN (o':=0) LH Gw rfl rfl (by decide) (by decide) (by decide)) ?_ (hw:=wgT rfl e0a)
     refine sV (Af (o':=2) Ib rfl rfl) ?_ (hw:=wgT rfl e0a)
     refine sV (Ag GR rfl (Bx.cell (q7a.ext E3b) rfl)) ?_ (hw:=wgT rfl e0a)
     refine sbl (Bv rfl rfl) (fun z0b hz0b=>?_) (hw:=wgT rfl e0a)
     refine sV (Aa rfl) ?_ (hw:=wgT rfl e0a)
     obtain ⟨m4i,h1n,f2n⟩:=Ad f9m
     refine BH 29 (fun l l' w'=>∃(t8c:Value) (t9c:Value) (t0d:Value) (t1d:Value) (t2d:Value) (t3d:Value),w3=w'∧l'=(((((((l.set 36 t8c).set 37 t9c).set 38 t0d).set 39 t1d).set 40 t2d).set 41 t3d).set 42 (.bool m4i))) ?_ ?_
     ·intro HJ219
      rcases zi hz0b h1n with ⟨e5a,_,f3n⟩ | ⟨e5a,_,f4n⟩
      ·refine sQ rfl e5a ?_
       refine sQ rfl e5a ?_
       refine sQ rfl e5a ?_
       refine sQ rfl e5a ?_
       refine sQ rfl e5a ?_
       refine sQ rfl e5a ?_
       refine sV (Az (evb rfl e5a) rfl) ?_ (hw:=wgT rfl e0a)
       obtain rfl:=sj f3n
       exact HJ219 _ _ ⟨uu,uu,uu,uu,uu,uu,rfl,(by kernel_rfl)⟩
      ·refine sV (Aa rfl) ?_ (hw:=wgT rfl e5a)
       refine sV (Aa rfl) ?_ (hw:=wgT rfl e5a)
       refine sV (CN (o':=0) LH Gw rfl rfl (by decide) (by decide) (by decide)) ?_ (hw:=wgT rfl e5a)
       refine sV (Af (o':=2) Ib rfl rfl) ?_ (hw:=wgT rfl e5a)
       refine sV (Ag GR rfl (Bx.cell (q7a.ext E3b) rfl)) ?_ (hw:=wgT rfl e5a)
       refine sbl (Eh rfl rfl) (fun z4d hz4d=>?_) (hw:=wgT rfl e5a)
       refine sV (AE (evb rfl e5a) rfl) ?_ (hw:=wgT rfl e0a)
       obtain rfl:z4d=decide (800<x0.Lo.Exp):=bz hz4d
       obtain rfl:=sj f4n
       exact HJ219 _ _ ⟨(.slice (some ⟨b4a,0,none⟩) 2 2),(.int .i64 0),(.pointer (some ⟨b4a,0,none⟩)),(.pointer (some ⟨b4a,2,none⟩)),(.int .i64 x0.Lo.Exp),(.bool (decide (800<x0.Lo.Exp))),rfl,(by kernel_rfl)⟩
     ·rintro l' _ ⟨t8c,t9c,t0d,t1d,t2d,t3d,rfl,rfl⟩ l'' hl
      simp only [S0,S1] at hl;subst hl
      refine sV (Az (evb rfl e0a) rfl) ?_ (hw:=wgT rfl e2a)
      obtain rfl:=sj f2n
      exact HJ196 _ _ ⟨(.slice (some ⟨b4a,0,none⟩) 2 2),(.int .i64 0),(.pointer (some ⟨b4a,0,none⟩)),(.pointer (some ⟨b4a,2,none⟩)),(.int .i64 x0.Lo.Exp),(.bool z0b),(.bool z0b),t8c,t9c,t0d,t1d,t2d,t3d,(.bool m4i),rfl,(by kernel_rfl)⟩
    ·refine sQ rfl e0a ?_
     refine sQ rfl e0a ?_
     refine sQ rfl e0a ?_
     refine sQ rfl e0a ?_
     refine sQ rfl e0a ?_
     refine sQ rfl e0a ?_
     refine sQ rfl e0a ?_
     refine sP ?_
     refine sP ?_
     refine sP ?_
     refine sP ?_
     refine sP ?_
     refine sP ?_
     refine sQ rfl e0a ?_
     refine sV (AE (evb rfl e0a) rfl) ?_ (hw:=wgT rfl e2a)
     obtain rfl:=sj f0n
     exact HJ196 _ _ ⟨uu,uu,uu,uu,uu,uu,uu,uu,uu,uu,uu,uu,uu,uu,rfl,(by kernel_rfl)⟩
   ·rintro l' _ ⟨t4b,t5b,t6b,t7b,t8b,t9b,t0c,t1c,t2c,t3c,t4c,t5c,t6c,t7c,rfl,hq'⟩ l'' hl
    rw [hq'] at hl
    clear hq'
    simp only [S0,S1] at hl;subst hl
    refine sV (AE (evb rfl e2a) rfl) ?_
    obtain rfl:=sj f8m
    exact HJ138 _ _ ⟨(.slice (some ⟨b4a,0,none⟩) 2 2),(.int .i64 0),(.pointer (some ⟨b4a,0,none⟩)),(.agg #[.bool x0.Lo.Man.Neg,.slice A1 x0.Lo.Man.Abs.length c2,.int .i64 x0.Lo.Exp]),(.bool r2i),(.bool r2i),t4b,t5b,t6b,t7b,t8b,t9b,t0c,t1c,t2c,t3c,t4c,t5c,t6c,t7c,(.bool m3i),((UpdS.refl _ _).ext E3b),(by kernel_rfl)⟩
 ·rintro l' w3 ⟨t1g,t2g,t3g,t4g,t5g,t6g,t7g,t8g,t9g,t0h,t1h,t2h,t3h,t4h,t5h,t6h,t7h,t8h,t9h,t0i,t1i,U5i,hq'⟩ l'' hl
  rw [hq'] at hl
  clear hq'
  simp only [S0,S1] at hl;subst hl
  have X8a:=Kc X9a U5i (X9a).size al0
  refine wh h0m ?_
  rcases zb f3m with ⟨e5d,f5n⟩ | ⟨e5d,f6n⟩
  ·refine ct e5d<|ws fun h7n=>Ah<|sV (Ab rfl) ?_
   refine wh h7n<|wp_ret ?_
   exact Bn f5n X8a rfl
  ·refine cf e5d<|wp_skip<|h9l _ _<|Ah<|sV2 (Aa rfl) (AV (c:=1) rfl rfl (by decide)) ?_
   refine sV (Ab rfl) ?_
   refine AF<|AW<|ws fun h8n=>ws fun h9n=>Ah<|sV2 (Aa rfl) (HI (v:=.bool true) (Bv rfl rfl) (by rfl)) ?_
   refine wh h9n<|ct rfl<|wp_skip<|h8n _ _<|ws fun h0o=>?_
   apply wp_block
   refine ws fun h1o=>Ah<|sV3 (Aa rfl) (Aa rfl) (CN (o':=3) LH Gw rfl rfl (by decide) (by decide) (by decide)) ?_
   have q1b:=q7a.updS U5i nm0
   refine sV3 (Af (o':=3) Jg rfl rfl) (Af (o':=4) BI rfl rfl) (Ag Ci rfl (Bx.cell q1b rfl)) ?_
   refine sV (AD CH rfl) ?_
   refine sbl (Eh rfl rfl) fun z6i hz6i=>?_
   refine sV (Aa rfl) ?_
   obtain ⟨m2o,h3o,f4o⟩:=Ad f6n
   refine BH 31 (fun l l' w'=>∃(t7i:Value) (t8i:Value) (t9i:Value) (t0j:Value) (t1j:Value) (t2j:Value) (t3j:Value) (t4j:Value) (t5j:Value) (t6j:Value) (t7j:Value) (t8j:Value) (t9j:Value) (t0k:Value) (t1k:Value) (t2k:Value) (t3k:Value) (t4k:Value) (t5k:Value) (t6k:Value) (t7k:Value),UpdS [] w3 w'∧l'=((((((((((((((((((((((l.set 23 t7i).set 24 t8i).set 25 t9i).set 26 t0j).set 27 t1j).set 28 t2j).set 29 t3j).set 30 t4j).set 31 t5j).set 32 t6j).set 33 t7j).set 34 t8j).set 35 t9j).set 36 t0k).set 37 t1k).set 38 t2k).set 39 t3k).set 40 t4k).set 41 t5k).set 42 t6k).set 43 t7k).set 44 (.bool m2o))) ?_ ?_
   ·intro HJ355
    rcases zi hz6i h3o with ⟨e3a,_,f5o⟩ | ⟨e3a,_,f6o⟩
    ·refine sQ rfl e3a ?_
     refine sQ rfl e3a ?_
     refine sQ rfl e3a ?_
     refine sQ rfl e3a ?_
     refine sQ rfl e3a ?_
     refine sQ rfl e3a ?_
     refine sP ?_
     refine sP ?_
     refine sP ?_
     refine sP ?_
     refine sP ?_
     refine sP ?_
     refine sP ?_
     refine sP ?_
     refine sP ?_
     refine sP ?_
     refine sP ?_
     refine sP ?_
     refine sP ?_
     refine sP ?_
     refine sQ rfl e3a ?_
     refine sV (Az (evb rfl e3a) rfl) ?_
     obtain rfl:=sj f5o
     exact HJ355 _ _ ⟨uu,uu,uu,uu,uu,uu,uu,uu,uu,uu,uu,uu,uu,uu,uu,uu,uu,uu,uu,uu,uu,(UpdS.refl _ _),(by kernel_rfl)⟩
    ·refine sV (Aa rfl) ?_ (hw:=wgT rfl e3a)
     refine sV (Aa rfl) ?_ (hw:=wgT rfl e3a)
     refine sV (CN (o':=3) LH Gw rfl rfl (by decide) (by decide) (by decide)) ?_ (hw:=wgT rfl e3a)
     refine sV (dld DU q1b) ?_ (hw:=wgT rfl e3a)
     refine scr f6o (Ac SV (by rfl)) (JM x0.Hi A4 c5 w3 (tbx X8a hT) (n6.ext X8a)) (fun r8k f7o w4 E6d=>?_) (hw:=wgT rfl e3a)
     refine sV (Aa rfl) ?_ (hw:=wgT rfl e3a)
     obtain ⟨m9k,h8o,f9o⟩:=Ad f7o
     refine BH 30 (fun l l' w'=>∃(t7d:Value) (t8d:Value) (t9d:Value) (t0e:Value) (t1e:Value) (t2e:Value) (t3e:Value) (t4e:Value) (t5e:Value) (t6e:Value) (t7e:Value) (t8e:Value) (t9e:Value) (t0f:Value),w4=w'∧l'=(((((((((((((((l.set 29 t7d).set 30 t8d).set 31 t9d).set 32 t0e).set 33 t1e).set 34 t2e).set 35 t3e).set 36 t4e).set 37 t5e).set 38 t6e).set 39 t7e).set 40 t8e).set 41 t9e).set 42 t0f).set 43 (.bool m9k))) ?_ ?_
     ·intro HJ413
      rcases zb h8o with ⟨e1a,f0p⟩ | ⟨e1a,f1p⟩
      ·refine sV (Aa rfl) ?_ (hw:=wgT rfl e1a)
       refine sV (Aa rfl) ?_ (hw:=wgT rfl e1a)
       refine sV (CN (o':=3) LH Gw rfl rfl (by decide) (by decide) (by decide)) ?_ (hw:=wgT rfl e1a)
       refine sV (Af (o':=5) Ib rfl rfl) ?_ (hw:=wgT rfl e1a)
       refine sV (Ag GR rfl (Bx.cell (q1b.ext E6d) rfl)) ?_ (hw:=wgT rfl e1a)
       refine sbl (Bv rfl rfl) (fun z2b hz2b=>?_) (hw:=wgT rfl e1a)
       refine sV (Aa rfl) ?_ (hw:=wgT rfl e1a)
       obtain ⟨m0l,h2p,f3p⟩:=Ad f0p
       refine BH 29 (fun l l' w'=>∃(t1f:Value) (t2f:Value) (t3f:Value) (t4f:Value) (t5f:Value) (t6f:Value),w4=w'∧l'=(((((((l.set 36 t1f).set 37 t2f).set 38 t3f).set 39 t4f).set 40 t5f).set 41 t6f).set 42 (.bool m0l))) ?_ ?_
       ·intro HJ436
        rcases zi hz2b h2p with ⟨e6a,_,f4p⟩ | ⟨e6a,_,f5p⟩
        ·refine sQ rfl e6a ?_
         refine sQ rfl e6a ?_
         refine sQ rfl e6a ?_
         refine sQ rfl e6a ?_
         refine sQ rfl e6a ?_
         refine sQ rfl e6a ?_
         refine sV (Az (evb rfl e6a) rfl) ?_ (hw:=wgT rfl e1a)
         obtain rfl:=sj f4p
         exact HJ436 _ _ ⟨uu,uu,uu,uu,uu,uu,rfl,(by kernel_rfl)⟩
        ·refine sV (Aa rfl) ?_ (hw:=wgT rfl e6a)
         refine sV (Aa rfl) ?_ (hw:=wgT rfl e6a)
         refine sV (CN (o':=3) LH Gw rfl rfl (by decide) (by decide) (by decide)) ?_ (hw:=wgT rfl e6a)
         refine sV (Af (o':=5) Ib rfl rfl) ?_ (hw:=wgT rfl e6a)
         refine sV (Ag GR rfl (Bx.cell (q1b.ext E6d) rfl)) ?_ (hw:=wgT rfl e6a)
         refine sbl (Eh rfl rfl) (fun z7f hz7f=>?_) (hw:=wgT rfl e6a)
         refine sV (AE (evb rfl e6a) rfl) ?_ (hw:=wgT rfl e1a)
         obtain rfl:z7f=decide (800<x0.Hi.Exp):=bz hz7f
         obtain rfl:=sj f5p
         exact HJ436 _ _ ⟨(.slice (some ⟨b4a,0,none⟩) 2 2),(.int .i64 1),(.pointer (some ⟨b4a,3,none⟩)),(.pointer (some ⟨b4a,5,none⟩)),(.int .i64 x0.Hi.Exp),(.bool (decide (800<x0.Hi.Exp))),rfl,(by kernel_rfl)⟩
       ·rintro l' _ ⟨t1f,t2f,t3f,t4f,t5f,t6f,rfl,rfl⟩ l'' hl
        simp only [S0,S1] at hl;subst hl
        refine sV (Az (evb rfl e1a) rfl) ?_ (hw:=wgT rfl e3a)
        obtain rfl:=sj f3p
        exact HJ413 _ _ ⟨(.slice (some ⟨b4a,0,none⟩) 2 2),(.int .i64 1),(.pointer (some ⟨b4a,3,none⟩)),(.pointer (some ⟨b4a,5,none⟩)),(.int .i64 x0.Hi.Exp),(.bool z2b),(.bool z2b),t1f,t2f,t3f,t4f,t5f,t6f,(.bool m0l),rfl,(by kernel_rfl)⟩
      ·refine sQ rfl e1a ?_
       refine sQ rfl e1a ?_
       refine sQ rfl e1a ?_
       refine sQ rfl e1a ?_
       refine sQ rfl e1a ?_
       refine sQ rfl e1a ?_
       refine sQ rfl e1a ?_
       refine sP ?_
       refine sP ?_
       refine sP ?_
       refine sP ?_
       refine sP ?_
       refine sP ?_
       refine sQ rfl e1a ?_
       refine sV (AE (evb rfl e1a) rfl) ?_ (hw:=wgT rfl e3a)
       obtain rfl:=sj f1p
       exact HJ413 _ _ ⟨uu,uu,uu,uu,uu,uu,uu,uu,uu,uu,uu,uu,uu,uu,rfl,(by kernel_rfl)⟩
     ·rintro l' _ ⟨t7d,t8d,t9d,t0e,t1e,t2e,t3e,t4e,t5e,t6e,t7e,t8e,t9e,t0f,rfl,hq'⟩ l'' hl
      rw [hq'] at hl
      clear hq'
      simp only [S0,S1] at hl;subst hl
      refine sV (AE (evb rfl e3a) rfl) ?_
      obtain rfl:=sj f9o
      exact HJ355 _ _ ⟨(.slice (some ⟨b4a,0,none⟩) 2 2),(.int .i64 1),(.pointer (some ⟨b4a,3,none⟩)),(.agg #[.bool x0.Hi.Man.Neg,.slice A4 x0.Hi.Man.Abs.length c5,.int .i64 x0.Hi.Exp]),(.bool r8k),(.bool r8k),t7d,t8d,t9d,t0e,t1e,t2e,t3e,t4e,t5e,t6e,t7e,t8e,t9e,t0f,(.bool m9k),((UpdS.refl _ _).ext E6d),(by kernel_rfl)⟩
   ·rintro l' w4 ⟨t7i,t8i,t9i,t0j,t1j,t2j,t3j,t4j,t5j,t6j,t7j,t8j,t9j,t0k,t1k,t2k,t3k,t4k,t5k,t6k,t7k,U6p,hq'⟩ l'' hl
    rw [hq'] at hl
    clear hq'
    simp only [S0,S1] at hl;subst hl
    have X1l:=Kc X8a U6p (X8a).size al0
    refine wh h1o ?_
    rcases zb f4o with ⟨e8f,f7p⟩ | ⟨e8f,f8p⟩
    ·refine ct e8f<|ws fun h9p=>Ah<|sV (Ab rfl) ?_
     refine wh h9p<|wp_ret ?_
     exact Bn f7p X1l rfl
    ·refine cf e8f<|wp_skip<|h0o _ _<|Ah<|sV2 (Aa rfl) (AV (c:=2) rfl rfl (by decide)) ?_
     refine sV (Ab rfl) ?_
     refine AF<|AW<|ws fun h4q=>ws fun h0q=>Ah<|sV2 (Aa rfl) (HI (v:=.bool false) (Bv rfl rfl) (by rfl)) ?_
     refine wh h0q<|cf rfl<|wp_exit ?_
     simp only [Exit.then,Exit.inBlock,↓reduceIte,Nat.reduceEqDiff]
     refine h5l _ _<|ws fun h1q=>Ah<|sV (Ab rfl) ?_
     refine wh h1q<|wp_ret ?_
     exact Bn f8p X1l rfl
theorem Jm (x0:Bool) (x1:Nat) (A1:OA) (c2:Nat) (w:World) (hT:TB w) (n3:RU w A1 c2 x1) (r:Ae) (hr:CY x0 x1=some r) :
  Calls prog 178 #[.bool x0,.slice A1 (sz x1) c2] w (Ret Lg w r):=by
 unfold CY at hr
 go_enter func178,ntmps178
 refine ws fun h4=>Ah<|sal HT fun b5 w1 E6 g7 q8=>?_
 refine nx h4 fun h9=>sV2 (Aa rfl) (Aa rfl) ?_
 obtain ⟨m1a,h7a,f8a⟩:=Ad hr
 refine BH 6 (fun l l' w'=>∃(t3a:Value) (t4a:Value) (t5a:Value),w1=w'∧l'=((((l.set 7 t3a).set 8 t4a).set 9 t5a).set 10 (.bool m1a))) ?_ ?_
 ·intro HJ23
  rcases zb h7a with ⟨e0a,f9a⟩ | ⟨e0a,f0b⟩
  ·refine sV (Aa rfl) ?_ (hw:=wgT rfl e0a)
   refine sV (AD CH rfl) ?_ (hw:=wgT rfl e0a)
   refine sbl (Eh rfl rfl) (fun z2a hz2a=>?_) (hw:=wgT rfl e0a)
   refine sV (Az (evb rfl e0a) rfl) ?_
   obtain rfl:z2a=decide (0<(sz x1:Int)):=bz hz2a
   obtain rfl:=sj f9a
   exact HJ23 _ _ ⟨(.slice A1 (sz x1) c2),(.int .i64 (sz x1:Int)),(.bool (decide (0<(sz x1:Int)))),rfl,(by kernel_rfl)⟩
  ·refine sQ rfl e0a ?_
   refine sQ rfl e0a ?_
   refine sQ rfl e0a ?_
   refine sV (AE (evb rfl e0a) rfl) ?_
   obtain rfl:=sj f0b
   exact HJ23 _ _ ⟨uu,uu,uu,rfl,(by kernel_rfl)⟩
 ·rintro _ _ ⟨t3a,t4a,t5a,rfl,rfl⟩ _ rfl
  refine sV2 (Aa rfl) (AL (vals:=[(0,.bool m1a),(1,.slice A1 (sz x1) c2)]) (cells:=[.bool m1a,.slice A1 (sz x1) c2]) (by rfl) (by kernel_rfl)) ?_
  refine ss EC q8 fun w2 U1b q2b=>?_
  have F6a:=belU E6 U1b g7
  refine wh h9<|wp_ret ?_
  exact He f8a EO q2b F6a ⟨A1,c2,rfl,(n3.ext F6a)⟩
theorem JF (x0:Int) (w:World) (hT:TB w) (r:Ae) (hr:GD x0=some r) :
  Calls prog 96 #[.int .i64 x0] w (Ret Lg w r):=by
 unfold GD at hr
 go_enter func96,ntmps96
 refine ws fun h1=>Ah<|sal HT fun b2 w1 E3 g4 q5=>?_
 refine wh h1<|ws fun h6=>ws fun h7=>Ah<|sV (Aa rfl) ?_
 refine sbl (Bv rfl rfl) fun z8 hz8=>?_
 refine wh h7 ?_
 rcases zi hz8 hr with ⟨e0a,_,f9a⟩ | ⟨e0a,_,f0b⟩
 ·refine ct e0a<|ws fun h1b=>Ah<|sV3 (Aa rfl) (SR (c:=wi64 (-x0)) rfl rfl) (AO (c:=wu64 (wi64 (-x0))) it_3 AN rfl rfl) ?_
  refine scn f9a (Ac PX (by rfl)) (HL (wu64 (wi64 (-x0))) w1 (tbx E3 hT)) fun r2b f3b w2 A4b c5b E1a n6b=>?_
  have X5a:=xtr E3 E1a
  refine scn f3b (Ac Sc (by rfl)) (Jm true r2b A4b c5b w2 (tbx X5a hT) n6b) fun r9d f7b w3 A8b c9b E2a n0c=>?_
  have X1c:=xtr X5a E2a
  refine ss EC ((q5.ext E1a).ext E2a) fun w4 U6a q2c=>?_
  have X3c:=belU X1c U6a g4
  refine wh h1b<|wp_ret ?_
  have n4c:=n0c.upd U6a ((q5.ext E1a).ext E2a) (by decide)
  exact He f7b EO q2c X3c ⟨A8b,c9b,rfl,n4c⟩
 ·refine cf e0a<|wp_skip<|h6 _ _<|ws fun h5c=>Ah<|sV2 (Aa rfl) (AO (c:=wu64 x0) it_3 AN rfl rfl) ?_
  refine scn f0b (Ac PX (by rfl)) (HL (wu64 x0) w1 (tbx E3 hT)) fun r6c f7c w2 A8c c9c E3a n0d=>?_
  have X7a:=xtr E3 E3a
  refine scn f7c (Ac Sc (by rfl)) (Jm false r6c A8c c9c w2 (tbx X7a hT) n0d) fun r0e f1d w3 A2d c3d E4a n4d=>?_
  have X5d:=xtr X7a E4a
  refine ss EC ((q5.ext E3a).ext E4a) fun w4 U8a q6d=>?_
  have X7d:=belU X5d U8a g4
  refine wh h5c<|wp_ret ?_
  have n8d:=n4d.upd U8a ((q5.ext E3a).ext E4a) (by decide)
  exact He f1d EO q6d X7d ⟨A2d,c3d,rfl,n8d⟩
theorem Fg (b b':Nat) (v0 v1 v2:Value) (u:Value) (n:Int) {w:World} (qa:Bx w b 27 [v0,v1,v2]) (qb:Bx w b' 33 [u]) :
  CallsD prog 135 #[.pointer (some ⟨b,0,none⟩),.pointer (some ⟨b',0,none⟩)] (.panicking [entry 201 n]) w fun e u' w'=>e = .returned (.tuple #[])∧u' = .panicking [{ entry 201 n with recovered:=true }]∧(Upd2 b b' w w'∧Bx w' b 27 [.bool false,.slice none 0 0,.int .i64 0]∧Bx w' b' 33 [.int .i64 n]):=by
 refine KM func135 rfl [.pointer (some ⟨b,0,none⟩),.pointer (some ⟨b',0,none⟩),uu,uu,uu,uu,uu,uu,uu,uu,uu,uu,uu,uu,uu,uu,uu,uu,uu,uu,uu,uu,uu,uu,uu,uu] (by simp [ntmps135]) fun c₀ cs hu=>?_
 apply wpS_seq
 refine Sy hu rfl ?_
 simp only [S0,S1]
 refine wpS_of_wp<|ws fun h1=>Ah<|sV2 (Aa rfl) (Oe Mx rfl) ?_
 refine wh h1<|ct rfl<|ws fun h2=>Ah<|sV3 (Aa rfl) (Ms Pw rfl) (Aa rfl) ?_
 refine sV2 (Ai rfl rfl) (Ai rfl rfl) ?_
 refine sal Qp fun b3 w1 E4 g5 q6=>?_
 have X7:=(Upd2.refl b b' w).ext E4
 refine ss Qt q6 fun w2 U8 q9=>?_
 have X2a:=X7.upd U8 (.inl g5)
 refine sV (Ab rfl) ?_
 refine wh h2<|ws fun h0b=>ws fun h1b=>Ah<|sV2 (Aa rfl) (Np rfl rfl rfl) ?_
 refine wh h1b<|cf rfl<|wp_skip<|h0b _ _<|ws fun h2b=>Ah<|sal Jn fun b0d w3 E1a g3b q4b=>?_
 have g1d:=nlt X2a.size g3b
 have X5b:=X2a.ext E1a
 refine wh h2b<|DT [6,8] 9 mo rfl fun w4 E0a S6b=>have X7b:=X5b.ext E0a;dA 0 rfl (fun _=>Aa rfl) ?_
 refine dA 1 rfl (fun _=>Aa rfl) ?_
 refine dV 2 rfl (fun _ hw=>Ak DU rfl ((q4b.ext E0a).ext hw) rfl) S6b ?_
 refine dA2 3 5 rfl rfl (fun _=>Af (o':=0) NW rfl rfl) (fun _=>Bz rfl) ?_
 refine Kn (tb 9 127) 2 (fun l l' w'=>UpdS [b] w4 w'∧Bx w' b 27 [.bool false,.slice none 0 0,.int .i64 0]∧l'=(l.set 23 (.int .i64 n))) ?_ ?_
 ·intro HJ38
  refine Ea 4 6 (by kernel_rfl) ?_ ?_
  ·refine opV 4 rfl (by rfl) (Ag CO rfl (Bx.cell ((q9.ext E1a).ext E0a) rfl)) (dnrm ?_)
   refine Bc 6 (by kernel_rfl) ?_
   ·have F8b:=belU E4 U8 g5
    refine opK 6 rfl (by decide) (by rfl) Gw rfl rfl (((qa.ext F8b).ext E1a).ext E0a) rfl rfl rfl rfl (by simp only [SP0,SP1,S0,S1,Nat.reduceAdd];rfl) fun w5 U9b q0c=>?_
    exact dls (HJ38 _ _ ⟨((UpdS.refl _ _).upd U9b (.inl im0)),q0c,(by kernel_rfl)⟩)
  ·have F1c:=belU E4 U8 g5
   have q3a:=((qa.ext F1c).ext E1a).ext E0a
   refine opK 6 rfl (by decide) (by rfl) Gw rfl rfl q3a rfl rfl rfl rfl (by simp only [SP0,SP1,S0,S1,Nat.reduceAdd];rfl) fun w5 U4a q2c=>?_
   refine Bc 4 (by kernel_rfl) ?_
   ·have ne3c:=(Bx.neT ((q9.ext E1a).ext E0a) q3a (by decide))
    have q4c:=((q9.ext E1a).ext E0a).upd U4a ne3c
    refine opV 4 rfl (by rfl) (Ag CO rfl (Bx.cell q4c rfl)) (dnrm ?_)
    exact dls (HJ38 _ _ ⟨((UpdS.refl _ _).upd U4a (.inl im0)),q2c,(by kernel_rfl)⟩)
 ·rintro _ w5 ⟨U5a,q5c,rfl⟩ _ rfl
  have X6c:=X7b.updS U5a (alc (.inr (.inl rfl)) al0)
  refine dA 7 rfl (fun _=>Bz rfl) ?_
  have F6a:=belU E4 U8 g5
  have q7a:=((qb.ext F6a).ext E1a).ext E0a
  have ne8a:=(Bx.neT q7a (((qa.ext F6a).ext E1a).ext E0a) (by decide))
  have q7c:=q7a.updS U5a (nmc ne8a nm0)
  refine dkk 8 HU q7c fun w6 U9a q8c=>?_
  have X9c:=X6c.upd U9a (.inr (.inr rfl))
  refine Cx (by kernel_rfl) ?_
  exact SA (by kernel_rfl) ⟨rfl,rfl,X9c,(q5c.upd U9a (Ne.symm ne8a)),q8c⟩
theorem HF:Ry prog 135:=by
 intro ar b b' w ha
 subst ha
 refine KM func135 rfl [.pointer (some ⟨b,0,none⟩),.pointer (some ⟨b',0,none⟩),uu,uu,uu,uu,uu,uu,uu,uu,uu,uu,uu,uu,uu,uu,uu,uu,uu,uu,uu,uu,uu,uu,uu,uu] (by simp [ntmps135]) fun c₀ cs hu=>?_
 apply wpS_seq
 refine Sg hu rfl ?_
 simp only [S0,S1]
 refine wpS_of_wp<|ws fun h1=>Ah<|sV2 (Aa rfl) (Ml Mx rfl) ?_
 refine wh h1<|cf rfl<|wp_skip ?_
 exact Rc hu (by kernel_rfl) ⟨rfl,rfl,rfl⟩
theorem Jz (x0:Ar) (A1:OA) (c2:Nat) (w:World) (hT:TB w) (n3:RLu w A1 c2 x0.Abs) (r:Bool) (hr:CT x0=some r) :
  Calls prog 151 #[.agg #[.bool x0.Neg,.slice A1 x0.Abs.length c2]] w (Ret Gi w r):=by
 unfold CT at hr
 go_enter func151,ntmps151
 refine ws fun h4=>Ah<|sbx rfl rfl fun b5 w1 E6 g7 q8=>?_
 refine sV (Ab rfl) ?_
 refine nx h4 fun h9=>sV2 (Af (o':=1) BI rfl rfl) (Ag Ci rfl (Bx.cell q8 rfl)) ?_
 refine scr hr (Ac Qo (by rfl)) (JE x0.Abs A1 c2 w1 (tbx E6 hT) (n3.ext E6)) fun r0d f9b w2 E3a=>?_
 have X0c:=xtr E6 E3a
 refine sV (Aa rfl) ?_
 obtain ⟨m1c,h2c,f3c⟩:=Ad f9b
 refine BH 14 (fun l l' w'=>∃(t9a:Value) (t0b:Value) (t1b:Value) (t2b:Value) (t3b:Value) (t4b:Value) (t5b:Value) (t6b:Value) (t7b:Value),w2=w'∧l'=((((((((((l.set 7 t9a).set 8 t0b).set 9 t1b).set 10 t2b).set 11 t3b).set 12 t4b).set 13 t5b).set 14 t6b).set 15 t7b).set 16 (.bool m1c))) ?_ ?_
 ·intro HJ55
  rcases zb h2c with ⟨e0a,f4c⟩ | ⟨e0a,f5c⟩
  ·refine sV (Af (o':=0) Fo rfl rfl) ?_ (hw:=wgT rfl e0a)
   refine sV (Ag Gy rfl (Bx.cell (q8.ext E3a) rfl)) ?_ (hw:=wgT rfl e0a)
   refine sbl (FL rfl) (fun z2a hz2a=>?_) (hw:=wgT rfl e0a)
   refine sV (Aa rfl) ?_ (hw:=wgT rfl e0a)
   obtain ⟨m8b,h6c,f7c⟩:=Ad f4c
   refine BH 13 (fun l l' w'=>∃(t4a:Value) (t5a:Value) (t6a:Value) (t7a:Value),w2=w'∧l'=(((((l.set 11 t4a).set 12 t5a).set 13 t6a).set 14 t7a).set 15 (.bool m8b))) ?_ ?_
   ·intro HJ76
    rcases zi hz2a h6c with ⟨e1a,_,f8c⟩ | ⟨e1a,_,f9c⟩
    ·refine sQ rfl e1a ?_
     refine sQ rfl e1a ?_
     refine sQ rfl e1a ?_
     refine sQ rfl e1a ?_
     refine sV (Az (evb rfl e1a) rfl) ?_ (hw:=wgT rfl e0a)
     obtain rfl:=sj f8c
     exact HJ76 _ _ ⟨uu,uu,uu,uu,rfl,(by kernel_rfl)⟩
    ·refine sV (Af (o':=1) BI rfl rfl) ?_ (hw:=wgT rfl e1a)
     refine sV (Ag Ci rfl (Bx.cell (q8.ext E3a) rfl)) ?_ (hw:=wgT rfl e1a)
     refine sV (AD CH rfl) ?_ (hw:=wgT rfl e1a)
     refine sbl (Eh rfl rfl) (fun z8a hz8a=>?_) (hw:=wgT rfl e1a)
     refine sV (AE (evb rfl e1a) rfl) ?_ (hw:=wgT rfl e0a)
     obtain rfl:z8a=decide (0<(x0.Abs.length:Int)):=bz hz8a
     obtain rfl:=sj f9c
     exact HJ76 _ _ ⟨(.pointer (some ⟨b5,1,none⟩)),(.slice A1 x0.Abs.length c2),(.int .i64 (x0.Abs.length:Int)),(.bool (decide (0<(x0.Abs.length:Int)))),rfl,(by kernel_rfl)⟩
   ·rintro _ _ ⟨t4a,t5a,t6a,t7a,rfl,rfl⟩ _ rfl
    refine sV (Az (evb rfl e0a) rfl) ?_
    obtain rfl:=sj f7c
    exact HJ55 _ _ ⟨(.pointer (some ⟨b5,0,none⟩)),(.bool x0.Neg),(.bool z2a),(.bool z2a),t4a,t5a,t6a,t7a,(.bool m8b),rfl,(by kernel_rfl)⟩
  ·refine sQ rfl e0a ?_
   refine sQ rfl e0a ?_
   refine sQ rfl e0a ?_
   refine sQ rfl e0a ?_
   refine sP ?_
   refine sP ?_
   refine sP ?_
   refine sP ?_
   refine sQ rfl e0a ?_
   refine sV (AE (evb rfl e0a) rfl) ?_
   obtain rfl:=sj f5c
   exact HJ55 _ _ ⟨uu,uu,uu,uu,uu,uu,uu,uu,uu,rfl,(by kernel_rfl)⟩
 ·rintro _ _ ⟨t9a,t0b,t1b,t2b,t3b,t4b,t5b,t6b,t7b,rfl,rfl⟩ _ rfl
  refine sV (Ab rfl) ?_
  refine wh h9<|wp_ret ?_
  exact Bn f3c X0c rfl
theorem Bs (x0:Bool) (x1:Int) (w:World) (hT:TB w) (r:Except Int (Unit)) (hr:Cg x0 x1=some r) :
  Calls prog 102 #[.bool x0,.int .i64 x1] w (RetE 201 KD w r):=by
 unfold Cg at hr
 go_enter func102,ntmps102
 refine ws fun h1=>Ah<|sV (Aa rfl) ?_
 refine sbl (FL rfl) fun z2 hz2=>?_
 refine wh h1 ?_
 rcases zi hz2 hr with ⟨e8,_,f0a⟩ | ⟨e8,_,f1a⟩
 ·refine ct e8<|Ah<|sV2 (Aa rfl) (AL (vals:=[(0,.int .i64 x1)]) (cells:=[.int .i64 x1]) (by rfl) (by kernel_rfl)) ?_
  refine sV (JK Pw rfl) ?_
  refine Ob rfl ?_
  obtain rfl:=sj f0a
  exact ⟨rfl,AP (Ext.refl _)⟩
 ·refine cf e8<|wp_skip ?_
  obtain rfl:=sj f1a
  exact MS rfl Res.nil (Cl (Ext.refl _) rfl)
theorem LK (x0:Ae) (A1:OA) (c2:Nat) (w:World) (hT:TB w) (n3:RU w A1 c2 x0.Abs) (r:Ae) (hr:JO x0=some r) :
  Calls prog 137 #[.agg #[.bool x0.Neg,.slice A1 (sz x0.Abs) c2]] w (Ret Ng w r):=by
 unfold JO at hr
 go_enter func137,ntmps137
 refine ws fun h4=>Ah<|sbx rfl rfl fun b5 w1 E6 g7 q8=>?_
 refine sal HG fun b9 w2 E0a g1a q3a=>?_
 have g8a:=nlt E6.size g1a
 refine nx h4 fun h4a=>sV3 (Af (o':=0) Fo rfl rfl) (Ag Gy rfl (Bx.cell (q8.ext E0a) rfl)) (Af (o':=1) BI rfl rfl) ?_
 refine sV2 (Ag Ci rfl (Bx.cell (q8.ext E0a) rfl)) (AL (vals:=[(0,.bool x0.Neg),(1,.slice A1 (sz x0.Abs) c2)]) (cells:=[.bool x0.Neg,.slice A1 (sz x0.Abs) c2]) (by rfl) (by kernel_rfl)) ?_
 refine ss Hu q3a fun w3 U5a q6a=>?_
 have F7a:=belU E0a U5a g1a
 have X2a:=xtr E6 F7a
 refine wh h4a<|wp_ret ?_
 exact He hr EI q6a X2a ⟨A1,c2,rfl,(n3.ext X2a)⟩
theorem GL (x0:Ae) (x1:Int) (A1:OA) (c2:Nat) (w:World) (hT:TB w) (n3:RU w A1 c2 x0.Abs) (r:Aj) (hr:Cz x0 x1=some r) :
  Calls prog 152 #[.agg #[.bool x0.Neg,.slice A1 (sz x0.Abs) c2],.int .i64 x1] w (Ret Jd w r):=by
 unfold Cz at hr
 go_enter func152,ntmps152
 refine ws fun h4=>Ah<|sbx rfl rfl fun b5 w1 E6 g7 q8=>?_
 refine sal Bg fun b9 w2 E0a g2b q3b=>?_
 have g8b:=nlt E6.size g2b
 have X5a:=xtr E6 E0a
 refine wh h4<|ws fun h9b=>ws fun h0c=>Ah<|sV3 (Af (o':=1) Bm rfl rfl) (Ag CZ rfl (Bx.cell (q8.ext E0a) rfl)) (AD Au rfl) ?_
 refine sbl (Cy rfl rfl) fun z4b hz4b=>?_
 refine wh h0c ?_
 rcases zi hz4b hr with ⟨e6a,_,f32⟩ | ⟨e6a,_,f1c⟩
 ·refine ct e6a<|ws fun h2c=>Ah<|sV (AL (vals:=[]) (cells:=[.bool false,.slice none 0 0,.int .i64 0]) (by rfl) (by kernel_rfl)) ?_
  refine ss BC q3b fun w3 U3c q4c=>?_
  have F5c:=belU E0a U3c g2b
  have X6c:=xtr E6 F5c
  refine wh h2c<|wp_ret ?_
  exact He f32 Aw q4c X6c ⟨none,0,rfl,(RU.nil _)⟩
 ·refine cf e6a<|wp_skip<|h9b _ _<|ws fun h7c=>Ah<|sV2 (Af (o':=1) Bm rfl rfl) (Ag CZ rfl (Bx.cell (q8.ext E0a) rfl)) ?_
  refine scr f1c (Ac en_213 (by rfl)) (Jt x0.Abs A1 c2 w2 (tbx X5a hT) (n3.ext X5a)) fun r3a f8c w3 E7a=>?_
  have X9c:=xtr X5a E7a
  refine sV (Ab rfl) ?_
  refine wh h7c<|ws fun h0d=>DT [11] 12 mo rfl fun w4 E8a S9a=>have X0b:=xtr X9c E8a;dA 0 rfl (fun _=>Af (o':=0) Eg rfl rfl) ?_
  have q5b:=((q8.ext E0a).ext E7a).ext E8a
  refine dV 1 rfl (fun _ hw=>Ag Gy rfl (Bx.cell (q5b.ext hw) rfl)) S9a ?_
  refine dA 2 rfl (fun _=>Af (o':=1) Bm rfl rfl) ?_
  refine dV 3 rfl (fun _ hw=>Ag CZ rfl (Bx.cell (q5b.ext hw) rfl)) S9a ?_
  refine dA2 4 7 rfl rfl (fun _=>Aa rfl) (fun _=>Aa rfl) ?_
  refine dA2 8 9 rfl rfl (fun _=>Aa rfl) (fun _=>AV (c:=wi64 (x1+r3a)) rfl rfl rfl) ?_
  refine dcn f8c 5 rfl (by rfl) (Ac Oa (by rfl)) (Hc x0.Abs r3a A1 c2 w4 (tbx X0b hT) (n3.ext X0b)) fun r4a f1d w5 A1a c2a E1b n2d=>?_
  have X3d:=xtr X0b E1b
  have S6d:=S9a.trans E1b
  refine dA 6 rfl (fun _=>AL (vals:=[(0,.bool x0.Neg),(1,.slice A1a (sz r4a) c2a)]) (cells:=[.bool x0.Neg,.slice A1a (sz r4a) c2a]) (by rfl) (by kernel_rfl)) ?_
  refine dA 10 rfl (fun _=>AL (vals:=[(0,.agg #[.bool x0.Neg,.slice A1a (sz r4a) c2a]),(1,.int .i64 (wi64 (x1+r3a)))]) (cells:=[.bool x0.Neg,.slice A1a (sz r4a) c2a,.int .i64 (wi64 (x1+r3a))]) (by rfl) (by kernel_rfl)) ?_
  have q6b:=((q3b.ext E7a).ext E8a).ext E1b
  refine dkk 11 BC q6b fun w6 U7b q4d=>?_
  have X5d:=belU X3d U7b g8b
  refine Cx (by kernel_rfl) ?_
  refine h0d _ _<|wp_ret ?_
  exact He f1d Aw q4d X5d ⟨A1a,c2a,rfl,(n2d.upd U7b q6b (by decide))⟩
theorem c_wide_Int_Out (x0:Ae) (A1:OA) (c2:Nat) (w:World) (hT:TB w) (n3:RU w A1 c2 x0.Abs) (r:Ae) (hr:Jh x0=some r) :
  Calls prog 202 #[.agg #[.bool x0.Neg,.slice A1 (sz x0.Abs) c2]] w (Ret Lg w r):=by
 unfold Jh at hr
 go_enter func202,ntmps202
 refine ws fun h4=>Ah<|sbx rfl rfl fun b5 w1 E6 g7 q8=>?_
 refine sal HT fun b9 w2 E1a g4a q1b=>?_
 have g1c:=nlt E6.size g4a
 refine nx h4 fun h2b=>sV3 (Af (o':=0) Eg rfl rfl) (Ag Gy rfl (Bx.cell (q8.ext E1a) rfl)) (Aa rfl) ?_
 obtain ⟨m2a,h5a,f3b⟩:=Ad hr
 refine BH 8 (fun l l' w'=>∃(t6a:Value) (t7a:Value) (t8a:Value) (t9a:Value),w2=w'∧l'=(((((l.set 6 t6a).set 7 t7a).set 8 t8a).set 9 t9a).set 10 (.bool m2a))) ?_ ?_
 ·intro HJ30
  rcases bft x0.Neg with e0a | e0a
  ·have p4b:=e0a
   have f5b:=ifP p4b h5a
   refine sV (Af (o':=1) Bm rfl rfl) ?_ (hw:=wgT rfl e0a)
   refine sV (Ag CZ rfl (Bx.cell (q8.ext E1a) rfl)) ?_ (hw:=wgT rfl e0a)
   refine sV (AD Au rfl) ?_ (hw:=wgT rfl e0a)
   refine sbl (Eh rfl rfl) (fun z3a hz3a=>?_) (hw:=wgT rfl e0a)
   refine sV (Az (evb rfl e0a) rfl) ?_
   obtain rfl:z3a=decide (0<(sz x0.Abs:Int)):=bz hz3a
   obtain rfl:=sj f5b
   exact HJ30 _ _ ⟨(.pointer (some ⟨b5,1,none⟩)),(.slice A1 (sz x0.Abs) c2),(.int .i64 (sz x0.Abs:Int)),(.bool (decide (0<(sz x0.Abs:Int)))),rfl,(by kernel_rfl)⟩
  ·have p6b:=bF e0a
   have f7b:=ifN p6b h5a
   refine sQ rfl e0a ?_
   refine sQ rfl e0a ?_
   refine sQ rfl e0a ?_
   refine sQ rfl e0a ?_
   refine sV (AE (evb rfl e0a) rfl) ?_
   obtain rfl:=sj f7b
   exact HJ30 _ _ ⟨uu,uu,uu,uu,rfl,(by kernel_rfl)⟩
 ·rintro _ _ ⟨t6a,t7a,t8a,t9a,rfl,rfl⟩ _ rfl
  refine sV3 (Af (o':=1) Bm rfl rfl) (Ag CZ rfl (Bx.cell (q8.ext E1a) rfl)) (AL (vals:=[(0,.bool m2a),(1,.slice A1 (sz x0.Abs) c2)]) (cells:=[.bool m2a,.slice A1 (sz x0.Abs) c2]) (by rfl) (by kernel_rfl)) ?_
  refine ss EC q1b fun w3 U8b q9b=>?_
  have F0c:=belU E1a U8b g4a
  have X0b:=xtr E6 F0c
  refine wh h2b<|wp_ret ?_
  exact He f3b EO q9b X0b ⟨A1,c2,rfl,(n3.ext X0b)⟩
theorem FB (x0:Aj) (A1:OA) (c2:Nat) (w:World) (hT:TB w) (n3:RU w A1 c2 x0.m.Abs) (r:Except Int (Al)) (hr:ED x0=some r) :
  Calls prog 136 #[.agg #[.bool x0.m.Neg,.slice A1 (sz x0.m.Abs) c2,.int .i64 x0.e]] w (RetE 201 Qi w r):=by
 unfold ED at hr
 go_enter func136,ntmps136
 refine ws fun h4=>Ah<|sbx rfl rfl fun b5 w1 E6 g7 q8=>?_
 refine sal Jn fun b9 w2 E3a g2d q0c=>?_
 have g3d:=nlt E6.size g2d
 have X5a:=xtr E6 E3a
 refine nx h4 fun h4d=>sV3 (Af (o':=0) BJ rfl rfl) (Af (o':=1) Bm rfl rfl) (Ag CZ rfl (Bx.cell (q8.ext E3a) rfl)) ?_
 refine sV (AD Au rfl) ?_
 refine sbl (KX rfl rfl) fun z1c hz1c=>?_
 refine sV (Aa rfl) ?_
 obtain ⟨m5d,h6d,f7d⟩:=Ad hr
 refine BH 10 (fun l l' w'=>∃(t2c:Value) (t3c:Value) (t4c:Value),w2=w'∧l'=((((l.set 9 t2c).set 10 t3c).set 11 t4c).set 12 (.bool m5d))) ?_ ?_
 ·intro HJ30
  rcases zi hz1c h6d with ⟨e0a,_,f8d⟩ | ⟨e0a,_,f9d⟩
  ·refine sV (Af (o':=2) CK rfl rfl) ?_ (hw:=wgT rfl e0a)
   refine sV (Ag GR rfl (Bx.cell (q8.ext E3a) rfl)) ?_ (hw:=wgT rfl e0a)
   refine sbl (KX rfl rfl) (fun z8a hz8a=>?_) (hw:=wgT rfl e0a)
   refine sV (Az (evb rfl e0a) rfl) ?_
   obtain rfl:z8a=decide (x0.e≤1048576):=bz hz8a
   obtain rfl:=sj f8d
   exact HJ30 _ _ ⟨(.pointer (some ⟨b5,2,none⟩)),(.int .i64 x0.e),(.bool (decide (x0.e≤1048576))),rfl,(by kernel_rfl)⟩
  ·refine sQ rfl e0a ?_
   refine sQ rfl e0a ?_
   refine sQ rfl e0a ?_
   refine sV (AE (evb rfl e0a) rfl) ?_
   obtain rfl:=sj f9d
   exact HJ30 _ _ ⟨uu,uu,uu,rfl,(by kernel_rfl)⟩
 ·rintro _ _ ⟨t2c,t3c,t4c,rfl,rfl⟩ _ rfl
  refine sV (Aa rfl) ?_
  obtain ⟨m9a,h0e,f1e⟩:=Ad f7d
  refine BH 15 (fun l l' w'=>∃(t5c:Value) (t6c:Value) (t7c:Value),w2=w'∧l'=((((l.set 14 t5c).set 15 t6c).set 16 t7c).set 17 (.bool m9a))) ?_ ?_
  ·intro HJ50
   rcases zb h0e with ⟨e1a,f2e⟩ | ⟨e1a,f3e⟩
   ·refine sV (Af (o':=2) CK rfl rfl) ?_ (hw:=wgT rfl e1a)
    refine sV (Ag GR rfl (Bx.cell (q8.ext E3a) rfl)) ?_ (hw:=wgT rfl e1a)
    refine sbl (Hb rfl rfl) (fun z0b hz0b=>?_) (hw:=wgT rfl e1a)
    refine sV (Az (evb rfl e1a) rfl) ?_
    obtain rfl:z0b=decide ((-1048576)≤x0.e):=bz hz0b
    obtain rfl:=sj f2e
    exact HJ50 _ _ ⟨(.pointer (some ⟨b5,2,none⟩)),(.int .i64 x0.e),(.bool (decide ((-1048576)≤x0.e))),rfl,(by kernel_rfl)⟩
   ·refine sQ rfl e1a ?_
    refine sQ rfl e1a ?_
    refine sQ rfl e1a ?_
    refine sV (AE (evb rfl e1a) rfl) ?_
    obtain rfl:=sj f3e
    exact HJ50 _ _ ⟨uu,uu,uu,rfl,(by kernel_rfl)⟩
  ·rintro _ _ ⟨t5c,t6c,t7c,rfl,rfl⟩ _ rfl
   rcases AC f1e with ⟨r1b,h2b,f4e⟩ | ⟨r1b,h2b,rfl⟩
   ·refine scO (Ac FS (by rfl)) (Bs m9a 2 w2 (tbx X5a hT)  (.ok r1b) h2b) ?_
    rintro _ w3 E2a rfl
    refine nrm ?_
    have X3b:=xtr X5a E2a
    refine nx h4d fun h5e=>sV3 (Af (o':=0) BJ rfl rfl) (Af (o':=1) Bm rfl rfl) (Ag CZ rfl (Bx.cell ((q8.ext E3a).ext E2a) rfl)) ?_
    refine scn f4e (Ac Qb (by rfl)) (c_slices_Clone_wide_Nat x0.m.Abs A1 c2 w3 (tbx X3b hT) (n3.ext X3b)) fun r6e f7e w4 A8e c9e E6a n0f=>?_
    have X1f:=xtr X3b E6a
    refine sV2 (Af (o':=0) BJ rfl rfl) (Af (o':=1) Bm rfl rfl) ?_
    have q4b:=((q8.ext E3a).ext E2a).ext E6a
    refine ss sz_115 q4b fun w5 U5b q8c=>?_
    have X2f:=belU X1f U5b g7
    refine wh h5e<|ws fun h3f=>DT [6] 7 mo rfl fun w6 E4a S6b=>have X9c:=xtr X2f E4a;dA 0 rfl (fun _=>Af (o':=0) BJ rfl rfl) ?_
    refine dV 1 rfl (fun _ hw=>dld EI ((q8c.ext E4a).ext hw)) S6b ?_
    refine dA 3 rfl (fun _=>Af (o':=2) CK rfl rfl) ?_
    refine dV 4 rfl (fun _ hw=>Ag GR rfl (Bx.cell ((q8c.ext E4a).ext hw) rfl)) S6b ?_
    have n4f:=(n0f.upd U5b q4b (by decide)).ext E4a
    refine dcn f7e 2 rfl (by rfl) (Ac en_202 (by rfl)) (c_wide_Int_Out (⟨x0.m.Neg,r6e⟩:Ae) A8e c9e w6 (tbx X9c hT) n4f) fun r7a f5f w7 A7b c8b E9b n6f=>?_
    have X7f:=xtr X9c E9b
    have S2g:=S6b.trans E9b
    refine dA 5 rfl (fun _=>AL (vals:=[(0,.agg #[.bool r7a.Neg,.slice A7b (sz r7a.Abs) c8b]),(1,.int .i64 x0.e)]) (cells:=[.bool r7a.Neg,.slice A7b (sz r7a.Abs) c8b,.int .i64 x0.e]) (by rfl) (by kernel_rfl)) ?_
    have ne8f:=(Bx.neT ((q0c.ext E2a).ext E6a) q4b (by decide))
    have q0d:=((((q0c.ext E2a).ext E6a).upd U5b ne8f).ext E4a).ext E9b
    refine dkk 6 Gw q0d fun w8 U1d q9f=>?_
    have X0g:=belU X7f U1d g3d
    refine Cx (by kernel_rfl) ?_
    refine h3f _ _<|wp_ret ?_
    exact Gd f5f rfl (Res.cellN rfl DU q9f rfl rfl Res.nil) (Cl X0g ⟨A7b,c8b,rfl,(n6f.upd U1d q0d (by decide))⟩)
   ·refine scP (Ac FS (by rfl)) (Bs m9a 2 w2 (tbx X5a hT)  (.error r1b) h2b) fun w3 E2a=>?_
    have X1g:=xtr X5a E2a
    exact ⟨rfl,AP X1g⟩
theorem c_dyad_Make (x0:Ar) (x1:Int) (A1:OA) (c2:Nat) (w:World) (hT:TB w) (n3:RLu w A1 c2 x0.Abs) (r:Al × Int) (hr:Mb x0 x1=some r) :
  Calls prog 60 #[.agg #[.bool x0.Neg,.slice A1 x0.Abs.length c2],.int .i64 x1] w (Ret OF w r):=by
 unfold Mb at hr
 obtain ⟨q0,hq0,hr0⟩:=Ad hr
 unfold Nd at hq0
 go_enter_defers func60,ntmps60
 refine ws fun h4=>Ah<|sbx rfl rfl fun b5 w1 E6 g7 q8=>?_
 refine sal Jn fun b9 w2 E7a g2e q8a=>?_
 have g9a:=nlt E6.size g2e
 have X4c:=xtr E6 E7a
 refine sal JN fun b6b w3 E2a g3e q4a=>?_
 have g0b:=nlt X4c.size g3e
 have X7b:=xtr X4c E2a
 refine nx h4 fun h4e=>HP (vs:=[.pointer (some ⟨b9,0,none⟩),.pointer (some ⟨b6b,0,none⟩)]) (by rfl) (by rfl)<|nx h4e fun h5e=>sV (Ak EO rfl ((q8.ext E7a).ext E2a) rfl) ?_
 refine scr hq0 (Ac Ps (by rfl)) (Jz x0 A1 c2 w3 (tbx X7b hT) (n3.ext X7b)) fun r5c f6e w4 E1a=>?_
 have X1b:=xtr X7b E1a
 rcases AC f6e with ⟨r2b,h8b,f7e⟩ | ⟨r2b,h8b,rfl⟩
 ·refine scO (Ac FS (by rfl)) (Bs r5c 1 w4 (tbx X1b hT)  (.ok r2b) h8b) ?_
  rintro _ w5 E0a rfl
  refine nrm ?_
  have X3b:=xtr X1b E0a
  refine wh h5e<|ws fun h8e=>ws fun h9e=>Ah<|sV (Af (o':=1) BI rfl rfl) ?_
  have q6c:=(((q8.ext E7a).ext E2a).ext E1a).ext E0a
  refine sV2 (Ag Ci rfl (Bx.cell q6c rfl)) (AD CH rfl) ?_
  refine sbl (Cy rfl rfl) fun z7c hz7c=>?_
  refine wh h9e ?_
  rcases zi hz7c f7e with ⟨e9b,_,f0f⟩ | ⟨e9b,_,f1f⟩
  ·refine ct e9b<|ws fun h2f=>Ah<|sV (AL (vals:=[]) (cells:=[.bool false,.slice none 0 0,.int .i64 0]) (by rfl) (by kernel_rfl)) ?_
   have q8c:=((q8a.ext E2a).ext E1a).ext E0a
   refine ss Gw q8c fun w6 U9c q3f=>?_
   have X4f:=belU X3b U9c g9a
   have ne0d:=(Bx.neT ((q4a.ext E1a).ext E0a) q8c (by decide))
   have q5f:=((q4a.ext E1a).ext E0a).upd U9c ne0d
   refine ss HU q5f fun w7 U1d q6f=>?_
   have X7f:=belU X4f U1d g0b
   refine wh h2f<|wp_ret ?_
   obtain rfl:=sj f0f
   obtain rfl:=sj hr0
   exact NJ HF Ls rfl (Res.cellN rfl DU (q3f.upd U1d (Ne.symm ne0d)) rfl rfl (Res.cell1 rfl CO (Bx.cell q6f rfl) Res.nil)) (AJ X7f ⟨none,0,rfl,(RU.nil _)⟩)
  ·refine cf e9b<|wp_skip<|h8e _ _<|ws fun h8f=>Ah<|sV (Ab rfl) ?_
   refine nx h8f fun h9f=>sV (Ak EO rfl q6c rfl) ?_
   obtain ⟨m2d,h0g,f1g⟩:=Ad f1f
   have hx3d:=Dd h0g
   have n2g:RU w5 A1 c2 m2d:=by unfold RU;rw [hx3d];exact (n3.ext X3b)
   refine scn f1g (Ac Qk (by simp only [sz,hx3d];rfl)) (LK (⟨x0.Neg,m2d⟩:Ae) A1 c2 w5 (tbx X3b hT) n2g) fun r3g f4g w6 A5g c6g E5a n7g=>?_
   have X4d:=xtr X3b E5a
   refine sV2 (Aa rfl) (SR (c:=(-1099511627776)) rfl (by decide)) ?_
   refine sV3 (Aa rfl) (Aa rfl) (PO rfl rfl) ?_
   refine sV (OC rfl rfl) ?_
   refine scn f4g (Ac MF (by rfl)) (GL r3g (max (-1099511627776) (min x1 1099511627776)) A5g c6g w6 (tbx X4d hT) n7g) fun r5d f8g w7 A6d c7d E6a n8d=>?_
   have X4b:=xtr X4d E6a
   rcases AC f8g with ⟨r5b,h0c,f9g⟩ | ⟨r5b,h0c,rfl⟩
   ·refine scO (Ac LY (by rfl)) (FB r5d A6d c7d w7 (tbx X4b hT) n8d (.ok r5b) h0c) ?_
    rintro _ w8 E3a ⟨A0h,c1h,rfl,n2h⟩
    refine nrm ?_
    have X3h:=xtr X4b E3a
    have q1c:=(((((q8a.ext E2a).ext E1a).ext E0a).ext E5a).ext E6a).ext E3a
    refine ss Gw q1c fun w9 U2c q4h=>?_
    have X5h:=belU X3h U2c g9a
    have q9d:=((((q4a.ext E1a).ext E0a).ext E5a).ext E6a).ext E3a
    have ne0e:=(Bx.neT q9d q1c (by decide))
    have q1e:=q9d.upd U2c ne0e
    refine ss HU q1e fun w7a U3c q6h=>?_
    have X7h:=belU X5h U3c g0b
    refine wh h9f<|wp_ret ?_
    have n8h:=(n2h.upd U2c q1c (by decide)).upd U3c q1e (by decide)
    obtain rfl:=sj f9g
    obtain rfl:=sj hr0
    exact NJ HF Ls rfl (Res.cellN rfl DU (q4h.upd U3c (Ne.symm ne0e)) rfl rfl (Res.cell1 rfl CO (Bx.cell q6h rfl) Res.nil)) (AJ X7h ⟨A0h,c1h,rfl,n8h⟩)
   ·refine scP (Ac LY (by rfl)) (FB r5d A6d c7d w7 (tbx X4b hT) n8d (.error r5b) h0c) fun w8 E3a=>?_
    have X9h:=xtr X4b E3a
    have q0i:=(((((q8a.ext E2a).ext E1a).ext E0a).ext E5a).ext E6a).ext E3a
    have q1i:=((((q4a.ext E1a).ext E0a).ext E5a).ext E6a).ext E3a
    refine Kg Ls (Fg b9 b6b (.bool false:Value) (.slice none 0 0:Value) (.int .i64 0:Value) (.int .i64 0:Value) r5b q0i q1i) rfl ?_
    rintro w9 ⟨u9,q9,q9'⟩
    obtain rfl:=sj hr0
    exact ⟨_,(Res.cellN rfl DU q9 rfl rfl (Res.cell1 rfl CO (Bx.cell q9' rfl) Res.nil)),AJ (u9.toExt X9h g9a g0b) ⟨none,0,rfl,RU.nil _⟩⟩
 ·refine scP (Ac FS (by rfl)) (Bs r5c 1 w4 (tbx X1b hT)  (.error r2b) h8b) fun w5 E0a=>?_
  have X2i:=xtr X1b E0a
  have q3i:=((q8a.ext E2a).ext E1a).ext E0a
  refine Kg Ls (Fg b9 b6b (.bool false:Value) (.slice none 0 0:Value) (.int .i64 0:Value) (.int .i64 0:Value) r2b q3i ((q4a.ext E1a).ext E0a)) rfl ?_
  rintro w9 ⟨u9,q9,q9'⟩
  obtain rfl:=sj hr0
  exact ⟨_,(Res.cellN rfl DU q9 rfl rfl (Res.cell1 rfl CO (Bx.cell q9' rfl) Res.nil)),AJ (u9.toExt X2i g9a g0b) ⟨none,0,rfl,RU.nil _⟩⟩
theorem c_sorobanref04_Of (x0:Ae) (x1:Int) (A1:OA) (c2:Nat) (w:World) (hT:TB w) (n3:RU w A1 c2 x0.Abs) (r:Al) (hr:FM x0 x1=some r) :
  Calls prog 62 #[.agg #[.bool x0.Neg,.slice A1 (sz x0.Abs) c2],.int .i64 x1] w (Ret Qi w r):=by
 unfold FM at hr
 go_enter func62,ntmps62
 refine ws fun h4=>Ah<|sbx rfl rfl fun b5 w1 E6 g7 q8=>?_
 refine sal Jn fun b9 w2 E0a g2b q3b=>?_
 have g8b:=nlt E6.size g2b
 have X5a:=xtr E6 E0a
 refine wh h4<|ws fun h9b=>ws fun h0c=>Ah<|sV3 (Af (o':=1) BI rfl rfl) (Ag Ci rfl (Bx.cell (q8.ext E0a) rfl)) (AD CH rfl) ?_
 refine sbl (Cy rfl rfl) fun z4b hz4b=>?_
 refine wh h0c ?_
 rcases zi hz4b hr with ⟨e6a,_,f32⟩ | ⟨e6a,_,f1c⟩
 ·refine ct e6a<|ws fun h2c=>Ah<|sV (AL (vals:=[]) (cells:=[.bool false,.slice none 0 0,.int .i64 0]) (by rfl) (by kernel_rfl)) ?_
  refine ss Gw q3b fun w3 U3c q4c=>?_
  have F5c:=belU E0a U3c g2b
  have X6c:=xtr E6 F5c
  refine wh h2c<|wp_ret ?_
  exact He f32 DU q4c X6c ⟨none,0,rfl,(RU.nil _)⟩
 ·refine cf e6a<|wp_skip<|h9b _ _<|ws fun h7c=>Ah<|sV2 (Af (o':=1) BI rfl rfl) (Ag Ci rfl (Bx.cell (q8.ext E0a) rfl)) ?_
  refine scr f1c (Ac en_153 (by rfl)) (HO x0.Abs A1 c2 w2 (tbx X5a hT) (n3.ext X5a)) fun r3a f8c w3 E7a=>?_
  have X9c:=xtr X5a E7a
  refine sV (Ab rfl) ?_
  refine wh h7c<|ws fun h0d=>DT [11] 12 mo rfl fun w4 E8a S9a=>have X0b:=xtr X9c E8a;dA 0 rfl (fun _=>Af (o':=0) Fo rfl rfl) ?_
  have q5b:=((q8.ext E0a).ext E7a).ext E8a
  refine dV 1 rfl (fun _ hw=>Ag Gy rfl (Bx.cell (q5b.ext hw) rfl)) S9a ?_
  refine dA 2 rfl (fun _=>Af (o':=1) BI rfl rfl) ?_
  refine dV 3 rfl (fun _ hw=>Ag Ci rfl (Bx.cell (q5b.ext hw) rfl)) S9a ?_
  refine dA2 4 7 rfl rfl (fun _=>Aa rfl) (fun _=>Aa rfl) ?_
  refine dA2 8 9 rfl rfl (fun _=>Aa rfl) (fun _=>AV (c:=wi64 (x1+r3a)) rfl rfl rfl) ?_
  refine dcn f8c 5 rfl (by rfl) (Ac Su (by rfl)) (IC x0.Abs r3a A1 c2 w4 (tbx X0b hT) (n3.ext X0b)) fun r4a f1d w5 A1a c2a E1b n2d=>?_
  have X3d:=xtr X0b E1b
  have S6d:=S9a.trans E1b
  refine dA 6 rfl (fun _=>AL (vals:=[(0,.bool x0.Neg),(1,.slice A1a (sz r4a) c2a)]) (cells:=[.bool x0.Neg,.slice A1a (sz r4a) c2a]) (by rfl) (by kernel_rfl)) ?_
  refine dA 10 rfl (fun _=>AL (vals:=[(0,.agg #[.bool x0.Neg,.slice A1a (sz r4a) c2a]),(1,.int .i64 (wi64 (x1+r3a)))]) (cells:=[.bool x0.Neg,.slice A1a (sz r4a) c2a,.int .i64 (wi64 (x1+r3a))]) (by rfl) (by kernel_rfl)) ?_
  have q6b:=((q3b.ext E7a).ext E8a).ext E1b
  refine dkk 11 Gw q6b fun w6 U7b q4d=>?_
  have X5d:=belU X3d U7b g8b
  refine Cx (by kernel_rfl) ?_
  refine h0d _ _<|wp_ret ?_
  exact He f1d DU q4d X5d ⟨A1a,c2a,rfl,(n2d.upd U7b q6b (by decide))⟩
theorem BA (x0:Int) (x1:Int) (w:World) (hT:TB w) (r:Al) (hr:Bh x0 x1=some r) :
  Calls prog 38 #[.int .i64 x0,.int .i64 x1] w (Ret Qi w r):=by
 unfold Bh at hr
 go_enter func38,ntmps38
 refine ws fun h1=>Ah<|sal Jn fun b2 w1 E3 g4 q5=>?_
 refine nx h1 fun h6=>sV (Aa rfl) ?_
 refine scn hr (Ac SJ (by rfl)) (JF x0 w1 (tbx E3 hT)) fun r7 f9 w2 A4a c5a E0a n6a=>?_
 have X2a:=xtr E3 E0a
 refine sV (Aa rfl) ?_
 refine scn f9 (Ac en_62 (by rfl)) (c_sorobanref04_Of r7 x1 A4a c5a w2 (tbx X2a hT) n6a) fun r5b f7a w3 A8a c9a E1a n0b=>?_
 have X1b:=xtr X2a E1a
 refine ss Gw ((q5.ext E0a).ext E1a) fun w4 U3a q2b=>?_
 have X3b:=belU X1b U3a g4
 refine wh h6<|wp_ret ?_
 have n4b:=n0b.upd U3a ((q5.ext E0a).ext E1a) (by decide)
 exact He f7a DU q2b X3b ⟨A8a,c9a,rfl,n4b⟩
theorem Li (x0:Aq) (A1:OA) (c2:Nat) (w:World) (hT:TB w) (n3:RLu w A1 c2 x0.Man.Abs) (r:Bool) (hr:FV x0=some r) :
  Calls prog 64 #[.agg #[.bool x0.Man.Neg,.slice A1 x0.Man.Abs.length c2,.int .i64 x0.Exp]] w (Ret Gi w r):=by
 unfold FV at hr
 go_enter func64,ntmps64
 refine ws fun h4=>Ah<|sbx rfl rfl fun b5 w1 E6 g7 q8=>?_
 refine sV (Ab rfl) ?_
 refine wh h4<|ws fun h9=>ws fun h8b=>Ah<|sV2 (Af (o':=0) Jg rfl rfl) (dld EO q8) ?_
 refine scr hr (Ac Ps (by rfl)) (Jz x0.Man A1 c2 w1 (tbx E6 hT) (n3.ext E6)) fun r4e f9b w2 E2a=>?_
 have X3a:=xtr E6 E2a
 refine sbl (FL rfl) fun z9a hz9a=>?_
 refine wh h8b ?_
 rcases zi hz9a f9b with ⟨e4a,_,f0c⟩ | ⟨e4a,_,f1c⟩
 ·refine ct e4a<|ws fun h2c=>Ah<|sV (Ab rfl) ?_
  refine wh h2c<|wp_ret ?_
  exact Bn f0c X3a rfl
 ·refine cf e4a<|wp_skip<|h9 _ _<|ws fun h3c=>ws fun h4c=>Ah<|sV3 (Af (o':=0) Jg rfl rfl) (Af (o':=1) BI rfl rfl) (Ag Ci rfl (Bx.cell (q8.ext E2a) rfl)) ?_
  refine sV (AD CH rfl) ?_
  refine sbl (Cy rfl rfl) fun z0b hz0b=>?_
  refine wh h4c ?_
  rcases zi hz0b f1c with ⟨e5a,_,f5c⟩ | ⟨e5a,_,f6c⟩
  ·refine ct e5a<|ws fun h7c=>Ah<|sV2 (Af (o':=2) Ib rfl rfl) (Ag GR rfl (Bx.cell (q8.ext E2a) rfl)) ?_
   refine sbl (Cy rfl rfl) fun z6a hz6a=>?_
   refine sV (Ab rfl) ?_
   refine wh h7c<|wp_ret ?_
   obtain rfl:z6a=decide (x0.Exp=0):=bz hz6a
   exact Bn f5c X3a rfl
  ·refine cf e5a<|wp_skip<|h3c _ _<|ws fun h8c=>Ah<|sV3 (Af (o':=0) Jg rfl rfl) (Af (o':=1) BI rfl rfl) (Ag Ci rfl (Bx.cell (q8.ext E2a) rfl)) ?_
   obtain ⟨u5e,h9c,f0d⟩:=Ad f6c
   obtain ⟨bb47,oo48,hA1d,ia2d,ib3d,hc50⟩:=RL.nth (n3.ext X3a) h9c
   refine sV3 (AA CH Av rfl rfl hA1d ia2d ib3d) (Ag AZ rfl hc50) (Qf (k:=.u32) rfl rfl) ?_
   refine sbl (Cy rfl rfl) fun z1b hz1b=>?_
   refine sV (Aa rfl) ?_
   obtain ⟨m4d,h5d,f6d⟩:=Ad f0d
   refine BH 12 (fun l l' w'=>∃(t2b:Value) (t3b:Value) (t4b:Value),w2=w'∧l'=((((l.set 23 t2b).set 24 t3b).set 25 t4b).set 26 (.bool m4d))) ?_ ?_
   ·intro HJ68
    rcases zi hz1b h5d with ⟨e0a,_,f7d⟩ | ⟨e0a,_,f8d⟩
    ·refine sV (Af (o':=2) Ib rfl rfl) ?_ (hw:=wgT rfl e0a)
     refine sV (Ag GR rfl (Bx.cell (q8.ext E2a) rfl)) ?_ (hw:=wgT rfl e0a)
     refine sbl (KX rfl rfl) (fun z7a hz7a=>?_) (hw:=wgT rfl e0a)
     refine sV (Az (evb rfl e0a) rfl) ?_
     obtain rfl:z7a=decide (x0.Exp≤1048576):=bz hz7a
     obtain rfl:=sj f7d
     exact HJ68 _ _ ⟨(.pointer (some ⟨b5,2,none⟩)),(.int .i64 x0.Exp),(.bool (decide (x0.Exp≤1048576))),rfl,(by kernel_rfl)⟩
    ·refine sQ rfl e0a ?_
     refine sQ rfl e0a ?_
     refine sQ rfl e0a ?_
     refine sV (AE (evb rfl e0a) rfl) ?_
     obtain rfl:=sj f8d
     exact HJ68 _ _ ⟨uu,uu,uu,rfl,(by kernel_rfl)⟩
   ·rintro _ _ ⟨t2b,t3b,t4b,rfl,rfl⟩ _ rfl
    refine sV (Aa rfl) ?_
    obtain ⟨m9d,h0e,f1e⟩:=Ad f6d
    refine BH 17 (fun l l' w'=>∃(t5b:Value) (t6b:Value) (t7b:Value),w2=w'∧l'=((((l.set 28 t5b).set 29 t6b).set 30 t7b).set 31 (.bool m9d))) ?_ ?_
    ·intro HJ88
     rcases zb h0e with ⟨e1a,f2e⟩ | ⟨e1a,f3e⟩
     ·refine sV (Af (o':=2) Ib rfl rfl) ?_ (hw:=wgT rfl e1a)
      refine sV (Ag GR rfl (Bx.cell (q8.ext E2a) rfl)) ?_ (hw:=wgT rfl e1a)
      refine sbl (Hb rfl rfl) (fun z8a hz8a=>?_) (hw:=wgT rfl e1a)
      refine sV (Az (evb rfl e1a) rfl) ?_
      obtain rfl:z8a=decide ((-1048576)≤x0.Exp):=bz hz8a
      obtain rfl:=sj f2e
      exact HJ88 _ _ ⟨(.pointer (some ⟨b5,2,none⟩)),(.int .i64 x0.Exp),(.bool (decide ((-1048576)≤x0.Exp))),rfl,(by kernel_rfl)⟩
     ·refine sQ rfl e1a ?_
      refine sQ rfl e1a ?_
      refine sQ rfl e1a ?_
      refine sV (AE (evb rfl e1a) rfl) ?_
      obtain rfl:=sj f3e
      exact HJ88 _ _ ⟨uu,uu,uu,rfl,(by kernel_rfl)⟩
    ·rintro _ _ ⟨t5b,t6b,t7b,rfl,rfl⟩ _ rfl
     refine sV (Ab rfl) ?_
     refine wh h8c<|wp_ret ?_
     exact Bn f1e X3a rfl
theorem LC (x0_0:Aq) (bp0:Nat) (A1:OA) (c2:Nat) (w:World) (hT:TB w) (n3:RLu w A1 c2 x0_0.Man.Abs) (q4:Bx w bp0 27 [.bool x0_0.Man.Neg,.slice A1 x0_0.Man.Abs.length c2,.int .i64 x0_0.Exp]) (r:Except Int (Unit)) (hr:JX x0_0=some r) :
  Calls prog 120 #[.slice (some ⟨bp0,0,none⟩) 1 1] w (RetE 201 KD w r):=by
 unfold JX at hr
 go_enter func120,ntmps120
 refine ws fun h5=>Ah<|sV3 (Aa rfl) (AD LH rfl) (Aa rfl) ?_
 refine wh h5 ?_
 apply wp_block
 refine GO<|AW<|ws fun h6=>Ah<|sV (HI (v:=.bool true) (Bv rfl rfl) (by rfl)) ?_
 refine wh h6<|ws fun h7=>ct rfl<|wp_skip<|h7 _ _<|ws fun h8=>?_
 apply wp_block
 refine ws fun h9=>Ah<|sV (CN (o':=0) LH Gw rfl rfl (by decide) (by decide) (by decide)) ?_
 refine sV (Ak DU rfl q4 rfl) ?_
 refine sal Jn fun b7b w1 E6a g7a q8a=>?_
 refine ss Gw q8a fun w2 U9a q0b=>?_
 have F1a:=belU E6a U9a g7a
 refine wh h9<|Ah<|sV (Ak DU rfl q0b rfl) ?_
 refine scr hr (Ac Sk (by rfl)) (Li x0_0 A1 c2 w2 (tbx F1a hT) (n3.ext F1a)) fun r5a f1b w3 E2b=>?_
 have X0a:=xtr F1a E2b
 rcases AC f1b with ⟨r2a,h3a,f3b⟩ | ⟨r2a,h3a,rfl⟩
 ·refine scO (Ac FS (by rfl)) (Bs r5a 1 w3 (tbx X0a hT)  (.ok r2a) h3a) ?_
  rintro _ w4 E4a rfl
  refine nrm ?_
  have X4b:=xtr X0a E4a
  refine wh h8<|Ah<|sV (AV (c:=1) rfl rfl (by decide)) ?_
  refine sV (Aa rfl) ?_
  refine AF<|AW<|ws fun h5b=>Ah<|sV (HI (v:=.bool false) (Bv rfl rfl) (by rfl)) ?_
  refine wh h5b<|ws fun h8b=>cf rfl<|wp_exit ?_
  simp only [Exit.then,Exit.inBlock,↓reduceIte,Nat.reduceEqDiff]
  obtain rfl:=sj f3b
  exact MS rfl Res.nil (Cl X4b rfl)
 ·refine scP (Ac FS (by rfl)) (Bs r5a 1 w3 (tbx X0a hT)  (.error r2a) h3a) fun w4 E4a=>?_
  have X6b:=xtr X0a E4a
  exact ⟨rfl,AP X6b⟩
theorem IL (x0:Int) (w:World) (hT:TB w) (r:Except Int (Unit)) (hr:Ex x0=some r) :
  Calls prog 138 #[.int .i64 x0] w (RetE 201 KD w r):=by
 unfold Ex at hr
 go_enter func138,ntmps138
 refine Ah<|sV (Aa rfl) ?_
 refine sbl (Hb rfl rfl) fun z1 hz1=>?_
 refine sV (Aa rfl) ?_
 obtain ⟨m8,h9,f7a⟩:=Ad hr
 refine BH 6 (fun l l' w'=>∃(t5a:Value) (t6a:Value),w=w'∧l'=(((l.set 5 t5a).set 6 t6a).set 7 (.bool m8))) ?_ ?_
 ·intro HJ14
  rcases zi hz1 h9 with ⟨e0a,_,f8a⟩ | ⟨e0a,_,f9a⟩
  ·refine sV (Aa rfl) ?_ (hw:=wgT rfl e0a)
   refine sbl (KX rfl rfl) (fun z1a hz1a=>?_) (hw:=wgT rfl e0a)
   refine sV (Az (evb rfl e0a) rfl) ?_
   obtain rfl:z1a=decide (x0≤4096):=bz hz1a
   obtain rfl:=sj f8a
   exact HJ14 _ _ ⟨(.int .i64 x0),(.bool (decide (x0≤4096))),rfl,(by kernel_rfl)⟩
  ·refine sQ rfl e0a ?_
   refine sQ rfl e0a ?_
   refine sV (AE (evb rfl e0a) rfl) ?_
   obtain rfl:=sj f9a
   exact HJ14 _ _ ⟨uu,uu,rfl,(by kernel_rfl)⟩
 ·rintro _ _ ⟨t5a,t6a,rfl,rfl⟩ _ rfl
  rcases AC f7a with ⟨r2a,h3a,f0b⟩ | ⟨r2a,h3a,rfl⟩
  ·refine scO (Ac FS (by rfl)) (Bs m8 1 w hT  (.ok r2a) h3a) ?_
   rintro _ w1 E4a rfl
   refine nrm ?_
   refine AF ?_
   obtain rfl:=sj f0b
   exact MS rfl Res.nil (Cl E4a rfl)
  ·refine scP (Ac FS (by rfl)) (Bs m8 1 w hT  (.error r2a) h3a) fun w1 E4a=>?_
   exact ⟨rfl,AP E4a⟩
theorem LF (x0:Int) (w:World) (hT:TB w) (r:Except Int (Unit)) (hr:JV x0=some r) :
  Calls prog 139 #[.int .i64 x0] w (RetE 201 KD w r):=by
 unfold JV at hr
 go_enter func139,ntmps139
 refine Ah<|sV (Aa rfl) ?_
 refine sbl (Hb rfl rfl) fun z1 hz1=>?_
 refine sV (Aa rfl) ?_
 obtain ⟨m8,h9,f7a⟩:=Ad hr
 refine BH 6 (fun l l' w'=>∃(t5a:Value) (t6a:Value),w=w'∧l'=(((l.set 5 t5a).set 6 t6a).set 7 (.bool m8))) ?_ ?_
 ·intro HJ14
  rcases zi hz1 h9 with ⟨e0a,_,f8a⟩ | ⟨e0a,_,f9a⟩
  ·refine sV (Aa rfl) ?_ (hw:=wgT rfl e0a)
   refine sbl (KX rfl rfl) (fun z1a hz1a=>?_) (hw:=wgT rfl e0a)
   refine sV (Az (evb rfl e0a) rfl) ?_
   obtain rfl:z1a=decide (x0≤5):=bz hz1a
   obtain rfl:=sj f8a
   exact HJ14 _ _ ⟨(.int .i64 x0),(.bool (decide (x0≤5))),rfl,(by kernel_rfl)⟩
  ·refine sQ rfl e0a ?_
   refine sQ rfl e0a ?_
   refine sV (AE (evb rfl e0a) rfl) ?_
   obtain rfl:=sj f9a
   exact HJ14 _ _ ⟨uu,uu,rfl,(by kernel_rfl)⟩
 ·rintro _ _ ⟨t5a,t6a,rfl,rfl⟩ _ rfl
  rcases AC f7a with ⟨r2a,h3a,f0b⟩ | ⟨r2a,h3a,rfl⟩
  ·refine scO (Ac FS (by rfl)) (Bs m8 1 w hT  (.ok r2a) h3a) ?_
   rintro _ w1 E4a rfl
   refine nrm ?_
   refine AF ?_
   obtain rfl:=sj f0b
   exact MS rfl Res.nil (Cl E4a rfl)
  ·refine scP (Ac FS (by rfl)) (Bs m8 1 w hT  (.error r2a) h3a) fun w1 E4a=>?_
   exact ⟨rfl,AP E4a⟩
theorem Js (x0:Al) (A1:OA) (c2:Nat) (w:World) (hT:TB w) (n3:RU w A1 c2 x0.Man.Abs) (r:Aj) (hr:HD x0=some r) :
  Calls prog 121 #[.agg #[.bool x0.Man.Neg,.slice A1 (sz x0.Man.Abs) c2,.int .i64 x0.Exp]] w (Ret Jd w r):=by
 unfold HD at hr
 go_enter func121,ntmps121
 refine ws fun h4=>Ah<|sbx rfl rfl fun b5 w1 E6 g7 q8=>?_
 refine sal Bg fun b9 w2 E2a g0b q1b=>?_
 have g2b:=nlt E6.size g0b
 have X3b:=xtr E6 E2a
 refine wh h4<|ws fun h4b=>DT [6] 7 mo rfl fun w3 E0a S3a=>have X4a:=xtr X3b E0a;dA 0 rfl (fun _=>Af (o':=0) Jg rfl rfl) ?_
 refine dV 1 rfl (fun _ hw=>dld EO (((q8.ext E2a).ext E0a).ext hw)) S3a ?_
 refine dA 3 rfl (fun _=>Af (o':=2) Ib rfl rfl) ?_
 refine dV 4 rfl (fun _ hw=>Ag GR rfl (Bx.cell (((q8.ext E2a).ext E0a).ext hw) rfl)) S3a ?_
 refine dcn hr 2 rfl (by rfl) (Ac Qk (by rfl)) (LK x0.Man A1 c2 w3 (tbx X4a hT) (n3.ext X4a)) fun r1a f5b w4 A5a c6a E7a n6b=>?_
 have X7b:=xtr X4a E7a
 have S1c:=S3a.trans E7a
 refine dA 5 rfl (fun _=>AL (vals:=[(0,.agg #[.bool r1a.Neg,.slice A5a (sz r1a.Abs) c6a]),(1,.int .i64 x0.Exp)]) (cells:=[.bool r1a.Neg,.slice A5a (sz r1a.Abs) c6a,.int .i64 x0.Exp]) (by rfl) (by kernel_rfl)) ?_
 have q8a:=(q1b.ext E0a).ext E7a
 refine dkk 6 BC q8a fun w5 U9a q8b=>?_
 have X9b:=belU X7b U9a g2b
 refine Cx (by kernel_rfl) ?_
 refine h4b _ _<|wp_ret ?_
 have n0c:=n6b.upd U9a q8a (by decide)
 exact He f5b Aw q8b X9b ⟨A5a,c6a,rfl,n0c⟩
theorem Km (x0:Ae) (x1:Int) (A1:OA) (c2:Nat) (w:World) (hT:TB w) (n3:RU w A1 c2 x0.Abs) (r:Ae) (hr:DR x0 x1=some r) :
  Calls prog 203 #[.agg #[.bool x0.Neg,.slice A1 (sz x0.Abs) c2],.int .i64 x1] w (Ret Ng w r):=by
 unfold DR at hr
 go_enter func203,ntmps203
 refine ws fun h4=>Ah<|sbx rfl rfl fun b5 w1 E6 g7 q8=>?_
 refine sal HG fun b9 w2 E1a g0b q1b=>?_
 have g2b:=nlt E6.size g0b
 have X3b:=xtr E6 E1a
 refine wh h4<|ws fun h4b=>DT [7] 8 mo rfl fun w3 E0a S2a=>have X3a:=xtr X3b E0a;dA 0 rfl (fun _=>Af (o':=0) Eg rfl rfl) ?_
 refine dV 1 rfl (fun _ hw=>Ag Gy rfl (Bx.cell (((q8.ext E1a).ext E0a).ext hw) rfl)) S2a ?_
 refine dA 2 rfl (fun _=>Af (o':=1) Bm rfl rfl) ?_
 refine dV 3 rfl (fun _ hw=>Ag CZ rfl (Bx.cell (((q8.ext E1a).ext E0a).ext hw) rfl)) S2a ?_
 refine dA 4 rfl (fun _=>Aa rfl) ?_
 refine dcn hr 5 rfl (by rfl) (Ac Ko (by rfl)) (CL x0.Abs x1 A1 c2 w3 (tbx X3a hT) (n3.ext X3a)) fun r7a f5b w4 A4a c5a E6a n6b=>?_
 have X7b:=xtr X3a E6a
 have S1c:=S2a.trans E6a
 refine dA 6 rfl (fun _=>AL (vals:=[(0,.bool x0.Neg),(1,.slice A4a (sz r7a) c5a)]) (cells:=[.bool x0.Neg,.slice A4a (sz r7a) c5a]) (by rfl) (by kernel_rfl)) ?_
 have q8a:=(q1b.ext E0a).ext E6a
 refine dkk 7 Hu q8a fun w5 U9a q8b=>?_
 have X9b:=belU X7b U9a g2b
 refine Cx (by kernel_rfl) ?_
 refine h4b _ _<|wp_ret ?_
 have n0c:=n6b.upd U9a q8a (by decide)
 exact He f5b EI q8b X9b ⟨A4a,c5a,rfl,n0c⟩
theorem c_wide_Away (x0:Bool) (x1:Int) (x2:Bool) (x3:Bool) (x4:Int) (w:World) (hT:TB w) (r:Bool) (hr:JQ x0 x1 x2 x3 x4=some r) :
  Calls prog 206 #[.bool x0,.int .i64 x1,.bool x2,.bool x3,.int .i64 x4] w (Ret Gi w r):=by
 unfold JQ at hr
 go_enter func206,ntmps206
 refine ws fun h1=>Ah<|sV (Ab rfl) ?_
 refine wh h1<|ws fun h2=>ws fun h3=>Ah<|sV (Aa rfl) ?_
 refine wh h3 ?_
 rcases zb hr with ⟨e3a,f2c⟩ | ⟨e3a,f3c⟩
 ·refine ct e3a<|ws fun h4c=>Ah<|sV (Ab rfl) ?_
  refine wh h4c<|wp_ret ?_
  exact Bn f2c (Ext.refl _) rfl
 ·refine cf e3a<|wp_skip<|h2 _ _<|ws fun h5c=>ws fun h6c=>Ah<|sV (Aa rfl) ?_
  refine wh h6c ?_
  apply wp_block
  refine ws fun h7c=>Ah<|sbl (Cy rfl rfl) fun z1b hz1b=>?_
  refine sV (Ab rfl) ?_
  refine wh h7c ?_
  rcases zi hz1b f3c with ⟨e4a,_,f8c⟩ | ⟨e4a,_,f9c⟩
  ·refine ct e4a<|ws fun h0d=>Ah<|sV (Aa rfl) ?_
   refine sbl (Eh rfl rfl) fun z2b hz2b=>?_
   refine sV (Aa rfl) ?_
   obtain ⟨m1d,h2d,f3d⟩:=Ad f8c
   refine BH 9 (fun l l' w'=>∃(t3b:Value) (t4b:Value) (t5b:Value) (t6b:Value) (t7b:Value),w=w'∧l'=((((((l.set 18 t3b).set 19 t4b).set 20 t5b).set 21 t6b).set 22 t7b).set 23 (.bool m1d))) ?_ ?_
   ·intro HJ251
    rcases zi hz2b h2d with ⟨e0a,_,f4d⟩ | ⟨e0a,_,f5d⟩
    ·refine sQ rfl e0a ?_
     refine sQ rfl e0a ?_
     refine sQ rfl e0a ?_
     refine sP ?_
     refine sQ rfl e0a ?_
     refine sV (Az (evb rfl e0a) rfl) ?_
     obtain rfl:=sj f4d
     exact HJ251 _ _ ⟨uu,uu,uu,uu,uu,rfl,(by kernel_rfl)⟩
    ·refine sV (Aa rfl) ?_ (hw:=wgT rfl e0a)
     refine sbl (Cy rfl rfl) (fun z2a hz2a=>?_) (hw:=wgT rfl e0a)
     refine sV (Aa rfl) ?_ (hw:=wgT rfl e0a)
     obtain ⟨m8b,h6d,f7d⟩:=Ad f5d
     refine BH 8 (fun l l' w'=>∃(t5a:Value),w=w'∧l'=((l.set 21 t5a).set 22 (.bool m8b))) ?_ ?_
     ·intro HJ268
      rcases zi hz2a h6d with ⟨e1a,_,f8d⟩ | ⟨e1a,_,f9d⟩
      ·refine sV (Aa rfl) ?_ (hw:=wgT rfl e1a)
       refine sV (Az (evb rfl e1a) rfl) ?_ (hw:=wgT rfl e0a)
       obtain rfl:=sj f8d
       exact HJ268 _ _ ⟨(.bool x2),rfl,(by kernel_rfl)⟩
      ·refine sQ rfl e1a ?_
       refine sV (AE (evb rfl e1a) rfl) ?_ (hw:=wgT rfl e0a)
       obtain rfl:=sj f9d
       exact HJ268 _ _ ⟨uu,rfl,(by kernel_rfl)⟩
     ·rintro _ _ ⟨t5a,rfl,rfl⟩ _ rfl
      refine sV (AE (evb rfl e0a) rfl) ?_
      obtain rfl:=sj f7d
      exact HJ251 _ _ ⟨(.int .i64 x1),(.bool z2a),(.bool z2a),t5a,(.bool m8b),rfl,(by kernel_rfl)⟩
   ·rintro _ _ ⟨t3b,t4b,t5b,t6b,t7b,rfl,rfl⟩ _ rfl
    refine sV (Ab rfl) ?_
    refine wh h0d<|wp_ret ?_
    exact Bn f3d (Ext.refl _) rfl
  ·refine cf e4a<|ws fun h0e=>Ah<|sbl (Cy rfl rfl) fun z9b hz9b=>?_
   refine sV (Ab rfl) ?_
   refine wh h0e ?_
   rcases zi hz9b f9c with ⟨e6a,_,f1e⟩ | ⟨e6a,_,f2e⟩
   ·refine ct e6a<|ws fun h3e=>Ah<|sV (Aa rfl) ?_
    refine sbl (Hb rfl rfl) fun z7a hz7a=>?_
    refine sV (Ab rfl) ?_
    refine wh h3e<|wp_ret ?_
    obtain rfl:z7a=decide (0≤x1):=bz hz7a
    exact Bn f1e (Ext.refl _) rfl
   ·refine cf e6a<|ws fun h4e=>Ah<|sbl (Cy rfl rfl) fun z0c hz0c=>?_
    refine sV (Ab rfl) ?_
    refine wh h4e ?_
    rcases zi hz0c f2e with ⟨e8a,_,f5e⟩ | ⟨e8a,_,f6e⟩
    ·refine ct e8a<|ws fun h7e=>Ah<|sV (Aa rfl) ?_
     refine sbl (FL rfl) fun z9a hz9a=>?_
     refine sV (Ab rfl) ?_
     refine wh h7e<|wp_ret ?_
     obtain rfl:z9a=decide (¬(x3=true)):=bz hz9a
     exact Bn f5e (Ext.refl _) rfl
    ·refine cf e8a<|ws fun h8e=>Ah<|sbl (Cy rfl rfl) fun z1c hz1c=>?_
     refine sV (Ab rfl) ?_
     refine wh h8e ?_
     rcases zi hz1c f6e with ⟨e0b,_,f9e⟩ | ⟨e0b,_,f0f⟩
     ·refine ct e0b<|ws fun h1f=>Ah<|sV2 (Aa rfl) (Ab rfl) ?_
      refine wh h1f<|wp_ret ?_
      exact Bn f9e (Ext.refl _) rfl
     ·refine cf e0b<|wp_skip<|h5c _ _<|ws fun h2f=>Ah<|sV (Ab rfl) ?_
      refine wh h2f<|wp_ret ?_
      exact Bn f0f (Ext.refl _) rfl
set_option maxRecDepth 20000 in
theorem DC (x0:Aj) (x1:Int) (x2:Int) (x3:Bool) (A1:OA) (c2:Nat) (w:World) (hT:TB w) (n3:RU w A1 c2 x0.m.Abs) (r:Aj) (hr:AH x0 x1 x2 x3=some r) :
  Calls prog 140 #[.agg #[.bool x0.m.Neg,.slice A1 (sz x0.m.Abs) c2,.int .i64 x0.e],.int .i64 x1,.int .i64 x2,.bool x3] w (Ret Jd w r):=by
 unfold AH at hr
 refine Na func140 rfl 100 ?_
 refine ws fun h4=>Ah<|sbx rfl rfl fun b5 w1 E6 g7 q8=>?_
 refine sal Bg fun b9 w2 E3a g0c q4b=>?_
 have g0d:=nlt E6.size g0c
 have X7a:=xtr E6 E3a
 refine nx h4 fun h6d=>sV3 (Af (o':=0) BJ rfl rfl) (Af (o':=1) Bm rfl rfl) (Ag CZ rfl (Bx.cell (q8.ext E3a) rfl)) ?_
 refine scr hr (Ac MK (by rfl)) (DY x0.m.Abs A1 c2 w2 (tbx X7a hT) (n3.ext X7a)) fun r2a f9k w3 E4a=>?_
 have X8a:=xtr X7a E4a
 refine sV3 (Aa rfl) (Bt (c:=wi64 (r2a - x1)) rfl rfl rfl) (Ab rfl) ?_
 refine wh h6d<|ws fun h0l=>ws fun h1l=>Ah<|sV (Aa rfl) ?_
 refine sbl (KX rfl rfl) fun z2f hz2f=>?_
 refine sV (Aa rfl) ?_
 obtain ⟨m2l,h3l,f32⟩:=Ad f9k
 refine BH 6 (fun l l' w'=>∃(t3f:Value) (t4f:Value),w3=w'∧l'=(((l.set 23 t3f).set 24 t4f).set 25 (.bool m2l))) ?_ ?_
 ·intro HJ36
  rcases zi hz2f h3l with ⟨e9a,_,f4l⟩ | ⟨e9a,_,f5l⟩
  ·refine sV (Aa rfl) ?_ (hw:=wgT rfl e9a)
   refine sbl (FL rfl) (fun z7d hz7d=>?_) (hw:=wgT rfl e9a)
   refine sV (Az (evb rfl e9a) rfl) ?_
   obtain rfl:z7d=decide (¬(x3=true)):=bz hz7d
   obtain rfl:=sj f4l
   exact HJ36 _ _ ⟨(.bool x3),(.bool (decide (¬(x3=true)))),rfl,(by kernel_rfl)⟩
  ·refine sQ rfl e9a ?_
   refine sQ rfl e9a ?_
   refine sV (AE (evb rfl e9a) rfl) ?_
   obtain rfl:=sj f5l
   exact HJ36 _ _ ⟨uu,uu,rfl,(by kernel_rfl)⟩
 ·rintro l' _ ⟨t3f,t4f,rfl,rfl⟩ l'' hl
  simp only [S0,S1] at hl;subst hl
  refine wh h1l ?_
  rcases zb f32 with ⟨e8d,f64⟩ | ⟨e8d,f6l⟩
  ·refine ct e8d<|ws fun h7l=>Ah<|sV2 (Af (o':=0) BJ rfl rfl) (dld EI ((q8.ext E3a).ext E4a)) ?_
   refine sV2 (Af (o':=2) CK rfl rfl) (Ag GR rfl (Bx.cell ((q8.ext E3a).ext E4a) rfl)) ?_
   refine scn f64 (Ac MF (by rfl)) (GL x0.m x0.e A1 c2 w3 (tbx X8a hT) (n3.ext X8a)) fun r8v f8l w4 A9l c0m E9d n1m=>?_
   have X2m:=xtr X8a E9d
   refine ss BC ((q4b.ext E4a).ext E9d) fun w5 U5f q3m=>?_
   have X4m:=belU X2m U5f g0d
   refine wh h7l<|wp_ret ?_
   have n5m:=n1m.upd U5f ((q4b.ext E4a).ext E9d) (by decide)
   exact He f8l Aw q3m X4m ⟨A9l,c0m,rfl,n5m⟩
  ·refine cf e8d<|wp_skip<|h0l _ _<|ws fun h6m=>ws fun h7m=>Ah<|sV (Aa rfl) ?_
   refine sbl (Bv rfl rfl) fun z6f hz6f=>?_
   refine wh h7m ?_
   obtain ⟨m0a,h8m,f9m⟩:=Ad f6l
   refine CG (fun l l' w'=>∃(t7f:Value) (t8f:Value) (t9f:Value) (t0g:Value) (t1g:Value) (t2g:Value) (t3g:Value) (t4g:Value) (t5g:Value) (t6g:Value) (t7g:Value) (A1c:OA) (c2c:Nat),UpdS [b5] w3 w'∧Bx w' b5 119 [.bool m0a.2.1,.slice A1c (sz m0a.2.2.1) c2c,.int .i64 m0a.2.2.2]∧RU w' A1c c2c m0a.2.2.1∧l'=((((((((((((l.set 9 (.int .i64 m0a.1)).set 33 t7f).set 34 t8f).set 35 t9f).set 36 t0g).set 37 t1g).set 38 t2g).set 39 t3g).set 40 t4g).set 41 t5g).set 42 t6g).set 43 t7g)) ?_ ?_
   ·rcases zi hz6f h8m with ⟨e0e,_,f0n⟩ | ⟨e0e,_,f1n⟩
    ·refine ct e0e<|ws fun h2n=>DT [11] 12 mo rfl fun w4 E1e S2e=>have X8g:=xtr X8a E1e;dA 0 rfl (fun _=>Af (o':=0) BJ rfl rfl) ?_
     have q3e:=((q8.ext E3a).ext E4a).ext E1e
     refine dV 1 rfl (fun _ hw=>dld EI (q3e.ext hw)) S2e ?_
     refine dA2 2 3 rfl rfl (fun _=>Aa rfl) (fun _=>Bt (c:=wi64 (2 - (wi64 (r2a - x1)))) rfl rfl rfl) ?_
     refine dA 5 rfl (fun _=>Af (o':=2) CK rfl rfl) ?_
     refine dV 6 rfl (fun _ hw=>Ag GR rfl (Bx.cell (q3e.ext hw) rfl)) S2e ?_
     refine dA2 7 8 rfl rfl (fun _=>Bt (c:=wi64 (x0.e - 2)) rfl rfl rfl) (fun _=>Aa rfl) ?_
     refine dA 9 rfl (fun _=>AV (c:=wi64 ((wi64 (x0.e - 2))+(wi64 (r2a - x1)))) rfl rfl rfl) ?_
     refine dcn f0n 4 rfl (by rfl) (Ac Qd (by rfl)) (Km x0.m (wi64 (2 - (wi64 (r2a - x1)))) A1 c2 w4 (tbx X8g hT) (n3.ext X8g)) fun r5a f3n w5 A3c c4c E4e n4n=>?_
     have S9v:=S2e.trans E4e
     refine dA 10 rfl (fun _=>AL (vals:=[(0,.agg #[.bool r5a.Neg,.slice A3c (sz r5a.Abs) c4c]),(1,.int .i64 (wi64 ((wi64 (x0.e - 2))+(wi64 (r2a - x1)))))]) (cells:=[.bool r5a.Neg,.slice A3c (sz r5a.Abs) c4c,.int .i64 (wi64 ((wi64 (x0.e - 2))+(wi64 (r2a - x1))))]) (by rfl) (by kernel_rfl)) ?_
     have q9g:=q3e.ext E4e
     refine dkk 11 BC q9g fun w6 U0h q5n=>?_
     refine Cx (by kernel_rfl) ?_
     refine h2n _ _<|Ah<|sV (Ab rfl) ?_
     refine AF ?_
     obtain rfl:=sj f3n
     exact ⟨_,rfl,(.pointer (some ⟨b5,0,none⟩)),(.agg #[.bool x0.m.Neg,.slice A1 (sz x0.m.Abs) c2]),(.int .i64 (wi64 (r2a - x1))),(.int .i64 (wi64 (2 - (wi64 (r2a - x1))))),(.agg #[.bool r5a.Neg,.slice A3c (sz r5a.Abs) c4c]),(.pointer (some ⟨b5,2,none⟩)),(.int .i64 x0.e),(.int .i64 (wi64 (x0.e - 2))),(.int .i64 (wi64 (r2a - x1))),(.int .i64 (wi64 ((wi64 (x0.e - 2))+(wi64 (r2a - x1))))),(.agg #[.bool r5a.Neg,.slice A3c (sz r5a.Abs) c4c,.int .i64 (wi64 ((wi64 (x0.e - 2))+(wi64 (r2a - x1))))]),A3c,c4c,((((UpdS.refl _ _).ext E1e).ext E4e).upd U0h (.inl im0)),q5n,(n4n.upd U0h q9g (by decide)),(by kernel_rfl)⟩
    ·refine cf e0e<|wp_skip ?_
     obtain rfl:=sj f1n
     exact ⟨_,rfl,uu,uu,uu,uu,uu,uu,uu,uu,uu,uu,uu,A1,c2,(UpdS.refl _ _),((q8.ext E3a).ext E4a),(n3.ext X8a),(by kernel_rfl)⟩
   ·rintro l' w4 ⟨t7f,t8f,t9f,t0g,t1g,t2g,t3g,t4g,t5g,t6g,t7g,A1c,c2c,U1h,q2h,n3h,hq'⟩ l'' hl
    rw [hq'] at hl
    clear hq'
    simp only [S0,S1] at hl;subst hl
    have X4h:=Kc X8a U1h (X8a).size (alc g7 al0)
    refine h6m _ _<|ws fun h6n=>Ah<|sV3 (Af (o':=0) BJ rfl rfl) (Af (o':=1) Bm rfl rfl) (Ag CZ rfl (Bx.cell q2h rfl)) ?_
    refine sV (Aa rfl) ?_
    refine scn f9m (Ac Oa (by rfl)) (Hc m0a.2.2.1 m0a.1 A1c c2c w4 (tbx X4h hT) n3h) fun r1d f7n w5 A5c c6c E2d n8n=>?_
    have X9n:=xtr X4h E2d
    refine sV (Ab rfl) ?_
    refine wh h6n<|ws fun h0o=>DT [] 8 mo rfl fun w6 E7c S5h=>have X6h:=xtr X9n E7c;dA 0 rfl (fun _=>Af (o':=0) BJ rfl rfl) ?_
    refine dA 1 rfl (fun _=>Af (o':=1) Bm rfl rfl) ?_
    have q7h:=(q2h.ext E2d).ext E7c
    refine dV 2 rfl (fun _ hw=>Ag CZ rfl (Bx.cell (q7h.ext hw) rfl)) S5h ?_
    refine dA2 3 4 rfl rfl (fun _=>Aa rfl) (fun _=>Aa rfl) ?_
    have q3d:=n8n.ext E7c
    refine dcn f7n 5 rfl (by rfl) (Ac Ko (by rfl)) (CL r1d m0a.1 A5c c6c w6 (tbx X6h hT) q3d) fun r1o f2o w7 A3o c4o E6a n5o=>?_
    have X8h:=xtr X6h E6a
    have S6o:=S5h.trans E6a
    have n7o:=((n3h.ext E2d).ext E7c).ext E6a
    refine dcn f2o 6 rfl (by rfl) (Ac NV (by rfl)) (Gq m0a.2.2.1 r1o A1c c2c A3o c4o w7 (tbx X8h hT) n7o n5o) fun r8o f9o w8 A0p c1p E0b n2p=>?_
    have X9h:=xtr X8h E0b
    have S0w:=S6o.trans E0b
    refine dA 7 rfl (fun _=>Ab rfl) ?_
    refine Cx (by kernel_rfl) ?_
    refine h0o _ _<|ws fun h3p=>Ah<|sV2 (Aa rfl) (AD Au rfl) ?_
    refine sbl (Cy rfl rfl) fun z0i hz0i=>?_
    refine sV (Aa rfl) ?_
    obtain ⟨m1i,h4p,f5p⟩:=Ad f9o
    refine BH 7 (fun l l' w'=>∃(t2i:Value) (t3i:Value),w8=w'∧l'=(((l.set 60 t2i).set 61 t3i).set 62 (.bool m1i))) ?_ ?_
    ·intro HJ179
     rcases zi hz0i h4p with ⟨e1b,_,f6p⟩ | ⟨e1b,_,f7p⟩
     ·refine sV (Aa rfl) ?_ (hw:=wgT rfl e1b)
      refine sbl (FL rfl) (fun z5e hz5e=>?_) (hw:=wgT rfl e1b)
      refine sV (Az (evb rfl e1b) rfl) ?_
      obtain rfl:z5e=decide (¬(x3=true)):=bz hz5e
      obtain rfl:=sj f6p
      exact HJ179 _ _ ⟨(.bool x3),(.bool (decide (¬(x3=true)))),rfl,(by kernel_rfl)⟩
     ·refine sQ rfl e1b ?_
      refine sQ rfl e1b ?_
      refine sV (AE (evb rfl e1b) rfl) ?_
      obtain rfl:=sj f7p
      exact HJ179 _ _ ⟨uu,uu,rfl,(by kernel_rfl)⟩
    ·rintro l' _ ⟨t2i,t3i,rfl,rfl⟩ l'' hl
     simp only [S0,S1] at hl;subst hl
     refine sV (Ab rfl) ?_
     refine nx h3p fun h8p=>sV (Aa rfl) ?_
     refine Dj (vals:=[(0,.int .u32 1)]) (cs:=[.int .u32 1]) Au Av Jr (by rfl) (by decide) (by kernel_rfl) fun b9p w9 E2b g0q q1q=>?_
     refine nrm ?_
     have g1w:=nlt X9h.size g0q
     have X4i:=xtr X9h E2b
     have n2q:=RL.lit1 q1q (by decide)
     refine sV2 (Aa rfl) (Bt (c:=wi64 (m0a.1 - 1)) rfl rfl rfl) ?_
     refine scn f5p (Ac Ko (by rfl)) (CL 1 (wi64 (m0a.1 - 1)) (some ⟨b9p,0,none⟩) 1 w9 (tbx X4i hT) n2q) fun r3q f4q w3a A5q c6q E3b n7q=>?_
     have X5i:=xtr X4i E3b
     refine scr f4q (Ac NX (by rfl)) (GZ r8o r3q A0p c1p A5q c6q w3a (tbx X5i hT) ((n2p.ext E2b).ext E3b) n7q) fun r2w f8q w0c E5b=>?_
     have X9q:=xtr X5i E5b
     refine sV (Ab rfl) ?_
     refine wh h8p<|ws fun h0r=>ws fun h1r=>Ah<|sV (Aa rfl) ?_
     refine sbl (Cy rfl rfl) fun z6i hz6i=>?_
     refine sV (Aa rfl) ?_
     obtain ⟨m2r,h3r,f4r⟩:=Ad f8q
     refine BH 5 (fun l l' w'=>∃(t7i:Value),w0c=w'∧l'=((l.set 72 t7i).set 73 (.bool m2r))) ?_ ?_
     ·intro HJ220
      rcases zi hz6i h3r with ⟨e8c,_,f5r⟩ | ⟨e8c,_,f6r⟩
      ·refine sV (Aa rfl) ?_ (hw:=wgT rfl e8c)
       refine sV (Az (evb rfl e8c) rfl) ?_
       obtain rfl:=sj f5r
       exact HJ220 _ _ ⟨(.bool x3),rfl,(by kernel_rfl)⟩
      ·refine sQ rfl e8c ?_
       refine sV (AE (evb rfl e8c) rfl) ?_
       obtain rfl:=sj f6r
       exact HJ220 _ _ ⟨uu,rfl,(by kernel_rfl)⟩
     ·rintro l' _ ⟨t7i,rfl,rfl⟩ l'' hl
      simp only [S0,S1] at hl;subst hl
      refine wh h1r ?_
      obtain ⟨m8i,h7r,f8r⟩:=Ad f4r
      refine CG (fun l l' w'=>w0c=w'∧l'=(l.set 13 (.int .i64 m8i))) ?_ ?_
      ·rcases zb h7r with ⟨e6e,f9r⟩ | ⟨e6e,f0s⟩
       ·refine ct e6e<|Ah<|sV (Ab rfl) ?_
        refine AF ?_
        obtain rfl:=sj f9r
        exact ⟨_,rfl,rfl,(by kernel_rfl)⟩
       ·refine cf e6e<|wp_skip ?_
        obtain rfl:=sj f0s
        exact ⟨_,rfl,rfl,(by kernel_rfl)⟩
      ·rintro l' _ ⟨rfl,rfl⟩ l'' hl
       simp only [S0,S1] at hl;subst hl
       refine h0r _ _<|ws fun h1s=>ws fun h2s=>DT [] 17 mo rfl fun w4b E6b S7e=>have X9i:=xtr X9q E6b;dA 0 rfl (fun _=>Aa rfl) ?_
       refine dA2 1 2 rfl rfl (fun _=>Aa rfl) (fun _=>Aa rfl) ?_
       refine dA 3 rfl (fun _=>AD Au rfl) ?_
       refine dab 4 rfl (by kernel_rfl) (fun _ _ _ h=>h) (by rfl) (fun _=>Eh rfl rfl) fun z0j hz0j=>?_
       refine dnrm ?_
       refine dA 5 rfl (fun _=>Aa rfl) ?_
       obtain ⟨m1j,h3s,f4s⟩:=Ad f8r
       refine Kn (tb 17 4095) 5 (fun l l' w'=>∃(t2j:Value) (t3j:Value) (t4j:Value) (t5j:Value) (t6j:Value),w4b=w'∧l'=((((((l.set 80 t2j).set 81 t3j).set 82 t4j).set 83 t5j).set 84 t6j).set 85 (.bool m1j))) ?_ ?_
       ·intro HJ272
        rcases zi hz0j h3s with ⟨e1a,_,f5s⟩ | ⟨e1a,_,f6s⟩
        ·refine dA 6 rfl (fun _=>Aa rfl) ?_ (hw:=wgT rfl e1a)
         have n7s:=(((((q3d.ext E6a).ext E0b).ext E2b).ext E3b).ext E5b).ext E6b
         obtain ⟨u4d,h8s,f9s⟩:=Ad f5s
         obtain ⟨bb282,oo283,hA0t,ia1t,ib2t,hc285⟩:=RL.nth n7s h8s
         refine dA 7 rfl (fun _=>AA Au Av rfl rfl hA0t ia1t ib2t) ?_ (hw:=wgT rfl e1a)
         refine dV 8 rfl (fun _ hw=>Ag AZ rfl (DS hc285 hw)) S7e ?_ (hw:=wgT rfl e1a)
         refine dA 9 rfl (fun _=>Qf (k:=.u32) rfl rfl) ?_ (hw:=wgT rfl e1a)
         refine dab 10 rfl (by kernel_rfl) (fun _ _ _ h=>h) (wgT rfl e1a) (fun _=>Cy rfl rfl) fun z8e hz8e=>?_
         refine dnrm ?_
         refine dA 11 rfl (fun _=>Az (evb rfl e1a) rfl) ?_
         obtain rfl:z8e=decide ((u4d%2)=1):=bz hz8e
         obtain rfl:=sj f9s
         exact dls (HJ272 _ _ ⟨(.slice A5c (sz r1d) c6c),(.pointer (some ⟨bb282,oo283+(0:Int).toNat,none⟩)),(.int .u32 u4d),(.int .u32 (u4d%2)),(.bool (decide ((u4d%2)=1))),rfl,(by kernel_rfl)⟩)
        ·refine dP 6 rfl ?_ (hw:=wgF rfl e1a)
         refine dP 7 rfl ?_ (hw:=wgF rfl e1a)
         refine dP 8 rfl ?_ (hw:=wgF rfl e1a)
         refine dP 9 rfl ?_ (hw:=wgF rfl e1a)
         refine dP 10 rfl ?_ (hw:=wgF rfl e1a)
         refine dA 11 rfl (fun _=>AE (evb rfl e1a) rfl) ?_
         obtain rfl:=sj f6s
         exact dls (HJ272 _ _ ⟨uu,uu,uu,uu,uu,rfl,(by kernel_rfl)⟩)
       ·rintro l' _ ⟨t2j,t3j,t4j,t5j,t6j,rfl,rfl⟩ l'' hl
        simp only [S0,S1] at hl;subst hl
        refine dA2 12 13 rfl rfl (fun _=>Af (o':=0) BJ rfl rfl) (fun _=>Af (o':=0) Eg rfl rfl) ?_
        have q7j:=(((((q7h.ext E6a).ext E0b).ext E2b).ext E3b).ext E5b).ext E6b
        refine dV 14 rfl (fun _ hw=>Ag Gy rfl (Bx.cell (q7j.ext hw) rfl)) S7e ?_
        refine dA 15 rfl (fun _=>Aa rfl) ?_
        refine dcr f4s 16 rfl (by rfl) (Ac en_206 (by rfl)) (c_wide_Away m1i m8i m1j m0a.2.1 x2 w4b (tbx X9i hT)) fun r3w f3t w0d E7b=>?_
        have X5d:=xtr X9i E7b
        have S4w:=S7e.trans E7b
        refine Cx (by kernel_rfl) ?_
        refine h2s _ _ ?_
        obtain ⟨m9c,h4t,f5t⟩:=Ad f3t
        refine CG (fun l l' w'=>∃(A8b:OA) (c9b:Nat) (t8j:Value) (t9j:Value) (t0k:Value),UpdS [] w0d w'∧RU w' A8b c9b m9c∧l'=((((l.set 10 (.slice A8b (sz m9c) c9b)).set 91 t8j).set 92 t9j).set 93 t0k)) ?_ ?_
        ·rcases zb h4t with ⟨e9e,f6t⟩ | ⟨e9e,f7t⟩
         ·refine ct e9e<|Ah<|sV (Aa rfl) ?_
          refine Dj (vals:=[(0,.int .u32 1)]) (cs:=[.int .u32 1]) Au Av Jr (by rfl) (by decide) (by kernel_rfl) fun b1k w7a E0f g8t q9t=>?_
          refine nrm ?_
          have g5w:=nlt X5d.size g8t
          have X0u:=xtr X5d E0f
          have n1u:=RL.lit1 q9t (by decide)
          have n2u:=(((((((q3d.ext E6a).ext E0b).ext E2b).ext E3b).ext E5b).ext E6b).ext E7b).ext E0f
          refine scn f6t (Ac Qx (by rfl)) (HN r1d 1 A5c c6c (some ⟨b1k,0,none⟩) 1 w7a (tbx X0u hT) n2u n1u) fun r3u f4u w6d A2k c3k E5u n6u=>?_
          refine sV (Ab rfl) ?_
          refine AF ?_
          obtain rfl:=sj f4u
          exact ⟨_,rfl,A2k,c3k,(.slice A5c (sz r1d) c6c),(.slice (some ⟨b1k,0,none⟩) (sz 1) 1),(.slice A2k (sz r3u) c3k),(((UpdS.refl _ _).ext E0f).ext E5u),n6u,(by kernel_rfl)⟩
         ·refine cf e9e<|wp_skip ?_
          have n7u:=((((((q3d.ext E6a).ext E0b).ext E2b).ext E3b).ext E5b).ext E6b).ext E7b
          obtain rfl:=sj f7t
          exact ⟨_,rfl,A5c,c6c,uu,uu,uu,(UpdS.refl _ _),n7u,(by kernel_rfl)⟩
        ·rintro l' w7a ⟨A8b,c9b,t8j,t9j,t0k,U1f,n8u,rfl⟩ l'' hl
         simp only [S0,S1] at hl;subst hl
         have X4k:=Kc X5d U1f (X5d).size al0
         refine h1s _ _<|ws fun h9u=>Ah<|sV2 (Af (o':=0) BJ rfl rfl) (Af (o':=0) Eg rfl rfl) ?_
         have q5k:=(q7j.ext E7b).updS U1f nm0
         refine sV3 (Ag Gy rfl (Bx.cell q5k rfl)) (Aa rfl) (AL (vals:=[(0,.bool m0a.2.1),(1,.slice A8b (sz m9c) c9b)]) (cells:=[.bool m0a.2.1,.slice A8b (sz m9c) c9b]) (by rfl) (by kernel_rfl)) ?_
         refine sV3 (Af (o':=2) CK rfl rfl) (Ag GR rfl (Bx.cell q5k rfl)) (Aa rfl) ?_
         refine sV (AV (c:=wi64 (m0a.2.2.2+m0a.1)) rfl rfl rfl) ?_
         refine scn f5t (Ac MF (by rfl)) (GL (⟨m0a.2.1,m9c⟩:Ae) (wi64 (m0a.2.2.2+m0a.1)) A8b c9b w7a (tbx X4k hT) n8u) fun r6w f0v w6d A1v c2v E6k n3v=>?_
         have X4v:=xtr X4k E6k
         have ne5v:=(Bx.ne q8 g0c).symm
         have q7k:=((((((((((((q4b.ext E4a).updS U1h (nmc ne5v nm0)).ext E2d).ext E7c).ext E6a).ext E0b).ext E2b).ext E3b).ext E5b).ext E6b).ext E7b).updS U1f nm0).ext E6k
         refine ss BC q7k fun w2a U8k q6v=>?_
         have X7v:=belU X4v U8k g0d
         refine wh h9u<|wp_ret ?_
         exact He f0v Aw q6v X7v ⟨A1v,c2v,rfl,(n3v.upd U8k q7k (by decide))⟩
theorem MO (x0:Aq) (x1:Int) (x2:Int) (A1:OA) (c2:Nat) (w:World) (hT:TB w) (n3:RLu w A1 c2 x0.Man.Abs) (r:Al × Int) (hr:Ki x0 x1 x2=some r) :
  Calls prog 55 #[.agg #[.bool x0.Man.Neg,.slice A1 x0.Man.Abs.length c2,.int .i64 x0.Exp],.int .i64 x1,.int .i64 x2] w (Ret OF w r):=by
 unfold Ki at hr
 obtain ⟨q0,hq0,hr0⟩:=Ad hr
 unfold MA at hq0
 go_enter_defers func55,ntmps55
 refine ws fun h4=>Ah<|sbx rfl rfl fun b5 w1 E6 g7 q8=>?_
 refine sal Jn fun b9 w2 E8a g0d q6a=>?_
 have g9a:=nlt E6.size g0d
 have X1d:=xtr E6 E8a
 refine sal JN fun b0b w3 E4a g5e q1b=>?_
 have g2b:=nlt X1d.size g5e
 have X2d:=xtr X1d E4a
 refine nx h4 fun h6e=>HP (vs:=[.pointer (some ⟨b9,0,none⟩),.pointer (some ⟨b0b,0,none⟩)]) (by rfl) (by rfl)<|nx h6e fun h7e=>sV (Ak DU rfl ((q8.ext E8a).ext E4a) rfl) ?_
 refine Dj (vals:=[(0,.agg #[.bool x0.Man.Neg,.slice A1 x0.Man.Abs.length c2,.int .i64 x0.Exp])]) (cs:=[.bool x0.Man.Neg,.slice A1 x0.Man.Abs.length c2,.int .i64 x0.Exp]) LH Gw Jn (by rfl) (by decide) (by kernel_rfl) fun b3d w4 E1a g8e q4d=>?_
 refine nrm ?_
 have g6i:=nlt X2d.size g8e
 have X7a:=xtr X2d E1a
 rcases AC hq0 with ⟨r5b,h2c,f9e⟩ | ⟨r5b,h2c,rfl⟩
 ·refine scO (Ac RB (by rfl)) (LC x0 b3d A1 c2 w4 (tbx X7a hT) (n3.ext X7a) q4d (.ok r5b) h2c) ?_
  rintro _ w5 E0a rfl
  refine nrm ?_
  have X6b:=xtr X7a E0a
  refine nx h7e fun h0f=>sV (Aa rfl) ?_
  rcases AC f9e with ⟨r7b,h3c,f1f⟩ | ⟨r7b,h3c,rfl⟩
  ·refine scO (Ac Nt (by rfl)) (IL x1 w5 (tbx X6b hT)  (.ok r7b) h3c) ?_
   rintro _ w6 E2a rfl
   refine nrm ?_
   have X8b:=xtr X6b E2a
   refine nx h0f fun h2f=>sV (Aa rfl) ?_
   rcases AC f1f with ⟨r9b,h4c,f3f⟩ | ⟨r9b,h4c,rfl⟩
   ·refine scO (Ac Si (by rfl)) (LF x2 w6 (tbx X8b hT)  (.ok r9b) h4c) ?_
    rintro _ w7 E3a rfl
    refine nrm ?_
    have X5c:=xtr X8b E3a
    refine nx h2f fun h4f=>have q5f:=(((((q8.ext E8a).ext E4a).ext E1a).ext E0a).ext E2a).ext E3a;sV (Ak DU rfl q5f rfl) ?_
    obtain ⟨m5d,h6f,f7f⟩:=Ad f3f
    have hx6d:=Dd h6f
    have n8f:RU w7 A1 c2 m5d:=by unfold RU;rw [hx6d];exact (n3.ext X5c)
    refine scn f7f (Ac ML (by simp only [sz,hx6d];rfl)) (Js (⟨(⟨x0.Man.Neg,m5d⟩:Ae),x0.Exp⟩:Al) A1 c2 w7 (tbx X5c hT) n8f) fun r9f f0g w8 A1g c2g E3b n3g=>?_
    have X7d:=xtr X5c E3b
    refine sV2 (Aa rfl) (Aa rfl) ?_
    refine scn f0g (Ac LA (by rfl)) (DC r9f x1 x2 false A1g c2g w8 (tbx X7d hT) n3g) fun r8d f4g w9 A9d c0e E4b n1e=>?_
    have X0c:=xtr X7d E4b
    rcases AC f4g with ⟨r1c,h6c,f5g⟩ | ⟨r1c,h6c,rfl⟩
    ·refine scO (Ac LY (by rfl)) (FB r8d A9d c0e w9 (tbx X0c hT) n1e (.ok r1c) h6c) ?_
     rintro _ w8a E5a ⟨A6g,c7g,rfl,n8g⟩
     refine nrm ?_
     have X9g:=xtr X0c E5a
     have q7c:=(((((((q6a.ext E4a).ext E1a).ext E0a).ext E2a).ext E3a).ext E3b).ext E4b).ext E5a
     refine ss Gw q7c fun w0d U8c q0h=>?_
     have X1h:=belU X9g U8c g9a
     have q2e:=((((((q1b.ext E1a).ext E0a).ext E2a).ext E3a).ext E3b).ext E4b).ext E5a
     have ne3e:=(Bx.neT q2e q7c (by decide))
     have q4e:=q2e.upd U8c ne3e
     refine ss HU q4e fun w6a U9c q2h=>?_
     have X3h:=belU X1h U9c g2b
     refine wh h4f<|wp_ret ?_
     have n4h:=(n8g.upd U8c q7c (by decide)).upd U9c q4e (by decide)
     obtain rfl:=sj f5g
     obtain rfl:=sj hr0
     exact NJ HF Ls rfl (Res.cellN rfl DU (q0h.upd U9c (Ne.symm ne3e)) rfl rfl (Res.cell1 rfl CO (Bx.cell q2h rfl) Res.nil)) (AJ X3h ⟨A6g,c7g,rfl,n4h⟩)
    ·refine scP (Ac LY (by rfl)) (FB r8d A9d c0e w9 (tbx X0c hT) n1e (.error r1c) h6c) fun w8a E5a=>?_
     have X5h:=xtr X0c E5a
     have q6h:=(((((((q6a.ext E4a).ext E1a).ext E0a).ext E2a).ext E3a).ext E3b).ext E4b).ext E5a
     have q7h:=((((((q1b.ext E1a).ext E0a).ext E2a).ext E3a).ext E3b).ext E4b).ext E5a
     refine Kg Ls (Fg b9 b0b (.bool false:Value) (.slice none 0 0:Value) (.int .i64 0:Value) (.int .i64 0:Value) r1c q6h q7h) rfl ?_
     rintro w9 ⟨u9,q9,q9'⟩
     obtain rfl:=sj hr0
     exact ⟨_,(Res.cellN rfl DU q9 rfl rfl (Res.cell1 rfl CO (Bx.cell q9' rfl) Res.nil)),AJ (u9.toExt X5h g9a g2b) ⟨none,0,rfl,RU.nil _⟩⟩
   ·refine scP (Ac Si (by rfl)) (LF x2 w6 (tbx X8b hT)  (.error r9b) h4c) fun w7 E3a=>?_
    have X8h:=xtr X8b E3a
    have q9h:=((((q6a.ext E4a).ext E1a).ext E0a).ext E2a).ext E3a
    have q0i:=(((q1b.ext E1a).ext E0a).ext E2a).ext E3a
    refine Kg Ls (Fg b9 b0b (.bool false:Value) (.slice none 0 0:Value) (.int .i64 0:Value) (.int .i64 0:Value) r9b q9h q0i) rfl ?_
    rintro w9 ⟨u9,q9,q9'⟩
    obtain rfl:=sj hr0
    exact ⟨_,(Res.cellN rfl DU q9 rfl rfl (Res.cell1 rfl CO (Bx.cell q9' rfl) Res.nil)),AJ (u9.toExt X8h g9a g2b) ⟨none,0,rfl,RU.nil _⟩⟩
  ·refine scP (Ac Nt (by rfl)) (IL x1 w5 (tbx X6b hT)  (.error r7b) h3c) fun w6 E2a=>?_
   have X1i:=xtr X6b E2a
   have q2i:=(((q6a.ext E4a).ext E1a).ext E0a).ext E2a
   have q3i:=((q1b.ext E1a).ext E0a).ext E2a
   refine Kg Ls (Fg b9 b0b (.bool false:Value) (.slice none 0 0:Value) (.int .i64 0:Value) (.int .i64 0:Value) r7b q2i q3i) rfl ?_
   rintro w9 ⟨u9,q9,q9'⟩
   obtain rfl:=sj hr0
   exact ⟨_,(Res.cellN rfl DU q9 rfl rfl (Res.cell1 rfl CO (Bx.cell q9' rfl) Res.nil)),AJ (u9.toExt X1i g9a g2b) ⟨none,0,rfl,RU.nil _⟩⟩
 ·refine scP (Ac RB (by rfl)) (LC x0 b3d A1 c2 w4 (tbx X7a hT) (n3.ext X7a) q4d (.error r5b) h2c) fun w5 E0a=>?_
  have X4i:=xtr X7a E0a
  have q5i:=((q6a.ext E4a).ext E1a).ext E0a
  refine Kg Ls (Fg b9 b0b (.bool false:Value) (.slice none 0 0:Value) (.int .i64 0:Value) (.int .i64 0:Value) r5b q5i ((q1b.ext E1a).ext E0a)) rfl ?_
  rintro w9 ⟨u9,q9,q9'⟩
  obtain rfl:=sj hr0
  exact ⟨_,(Res.cellN rfl DU q9 rfl rfl (Res.cell1 rfl CO (Bx.cell q9' rfl) Res.nil)),AJ (u9.toExt X4i g9a g2b) ⟨none,0,rfl,RU.nil _⟩⟩
theorem CX (x0:Int) (x1:Int) (w:World) (hT:TB w) (r:Ao) (hr:Cc x0 x1=some r) :
  Calls prog 97 #[.int .i64 x0,.int .i64 x1] w (Ret Ld w r):=by
 unfold Cc at hr
 go_enter func97,ntmps97
 refine ws fun h1=>Ah<|sal Gp fun b2 w1 E3 g4 q5=>?_
 refine nx h1 fun h6=>sV (Aa rfl) ?_
 refine scn hr (Ac Me (by rfl)) (BA x0 0 w1 (tbx E3 hT)) fun r7 f9 w2 A3a c4a E0b n6b=>?_
 have X1b:=xtr E3 E0b
 refine sal Jn fun b4d w3 E7b g2b q8b=>?_
 have g5d:=nlt X1b.size g2b
 refine ss Gw q8b fun w4 U9b q0c=>?_
 have F5a:=belU E7b U9b g2b
 have X3b:=xtr X1b F5a
 refine nx h6 fun h1c=>sV (Aa rfl) ?_
 refine scn f9 (Ac Me (by rfl)) (BA x1 0 w4 (tbx X3b hT)) fun r0a f2c w5 A6a c7a E2a n3c=>?_
 have X4b:=xtr X3b E2a
 refine sal Jn fun b6d w6 E4c g5b q5c=>?_
 have g7d:=nlt X4b.size g5b
 refine ss Gw q5c fun w7 U6c q7c=>?_
 have F1a:=belU E4c U6c g5b
 have X8c:=xtr X4b F1a
 refine nx h1c fun h9c=>sV3 (Ak DU rfl ((q0c.ext E2a).ext F1a) rfl) (Ak DU rfl q7c rfl) (AL (vals:=[(0,.agg #[.bool r7.Man.Neg,.slice A3a (sz r7.Man.Abs) c4a,.int .i64 r7.Exp]),(1,.agg #[.bool r0a.Man.Neg,.slice A6a (sz r0a.Man.Abs) c7a,.int .i64 r0a.Exp])]) (cells:=[.bool r7.Man.Neg,.slice A3a (sz r7.Man.Abs) c4a,.int .i64 r7.Exp,.bool r0a.Man.Neg,.slice A6a (sz r0a.Man.Abs) c7a,.int .i64 r0a.Exp]) (by rfl) (by kernel_rfl)) ?_
 have q8a:=(((q5.ext E0b).ext F5a).ext E2a).ext F1a
 refine ss EG q8a fun w8 U9a q0d=>?_
 have X1d:=belU X8c U9a g4
 refine wh h9c<|wp_ret ?_
 have n2d:=(((n6b.ext F5a).ext E2a).ext F1a).upd U9a q8a (by decide)
 have n3d:=(n3c.ext F1a).upd U9a q8a (by decide)
 exact He f2c BB q0d X1d ⟨A3a,c4a,A6a,c7a,rfl,n2d,n3d⟩
theorem Fb (b b':Nat) (v0 v1 v2 v3 v4 v5:Value) (u:Value) (n:Int) {w:World} (qa:Bx w b 29 [v0,v1,v2,v3,v4,v5]) (qb:Bx w b' 33 [u]) :
  CallsD prog 161 #[.pointer (some ⟨b,0,none⟩),.pointer (some ⟨b',0,none⟩)] (.panicking [entry 201 n]) w fun e u' w'=>e = .returned (.tuple #[])∧u' = .panicking [{ entry 201 n with recovered:=true }]∧(Upd2 b b' w w'∧Bx w' b 29 [.bool false,.slice none 0 0,.int .i64 0,.bool false,.slice none 0 0,.int .i64 0]∧Bx w' b' 33 [.int .i64 n]):=by
 refine KM func161 rfl [.pointer (some ⟨b,0,none⟩),.pointer (some ⟨b',0,none⟩),uu,uu,uu,uu,uu,uu,uu,uu,uu,uu,uu,uu,uu,uu,uu,uu,uu,uu,uu,uu,uu,uu,uu,uu] (by simp [ntmps161]) fun c₀ cs hu=>?_
 apply wpS_seq
 refine Sy hu rfl ?_
 simp only [S0,S1]
 refine wpS_of_wp<|ws fun h1=>Ah<|sV2 (Aa rfl) (Oe Mx rfl) ?_
 refine wh h1<|ct rfl<|ws fun h2=>Ah<|sV3 (Aa rfl) (Ms Pw rfl) (Aa rfl) ?_
 refine sV2 (Ai rfl rfl) (Ai rfl rfl) ?_
 refine sal Qp fun b3 w1 E4 g5 q6=>?_
 have X7:=(Upd2.refl b b' w).ext E4
 refine ss Qt q6 fun w2 U8 q9=>?_
 have X2a:=X7.upd U8 (.inl g5)
 refine sV (Ab rfl) ?_
 refine wh h2<|ws fun h0b=>ws fun h1b=>Ah<|sV2 (Aa rfl) (Np rfl rfl rfl) ?_
 refine wh h1b<|cf rfl<|wp_skip<|h0b _ _<|ws fun h2b=>Ah<|sal Gp fun b0d w3 E1a g3b q4b=>?_
 have g1d:=nlt X2a.size g3b
 have X5b:=X2a.ext E1a
 refine wh h2b<|DT [6,8] 9 mo rfl fun w4 E0a S6b=>have X7b:=X5b.ext E0a;dA 0 rfl (fun _=>Aa rfl) ?_
 refine dA 1 rfl (fun _=>Aa rfl) ?_
 refine dV 2 rfl (fun _ hw=>Ak BB rfl ((q4b.ext E0a).ext hw) rfl) S6b ?_
 refine dA2 3 5 rfl rfl (fun _=>Af (o':=0) NW rfl rfl) (fun _=>Bz rfl) ?_
 refine Kn (tb 9 127) 2 (fun l l' w'=>UpdS [b] w4 w'∧Bx w' b 29 [.bool false,.slice none 0 0,.int .i64 0,.bool false,.slice none 0 0,.int .i64 0]∧l'=(l.set 23 (.int .i64 n))) ?_ ?_
 ·intro HJ38
  refine Ea 4 6 (by kernel_rfl) ?_ ?_
  ·refine opV 4 rfl (by rfl) (Ag CO rfl (Bx.cell ((q9.ext E1a).ext E0a) rfl)) (dnrm ?_)
   refine Bc 6 (by kernel_rfl) ?_
   ·have F8b:=belU E4 U8 g5
    refine opK 6 rfl (by decide) (by rfl) EG rfl rfl (((qa.ext F8b).ext E1a).ext E0a) rfl rfl rfl rfl (by simp only [SP0,SP1,S0,S1,Nat.reduceAdd];rfl) fun w5 U9b q0c=>?_
    exact dls (HJ38 _ _ ⟨((UpdS.refl _ _).upd U9b (.inl im0)),q0c,(by kernel_rfl)⟩)
  ·have F1c:=belU E4 U8 g5
   have q3a:=((qa.ext F1c).ext E1a).ext E0a
   refine opK 6 rfl (by decide) (by rfl) EG rfl rfl q3a rfl rfl rfl rfl (by simp only [SP0,SP1,S0,S1,Nat.reduceAdd];rfl) fun w5 U4a q2c=>?_
   refine Bc 4 (by kernel_rfl) ?_
   ·have ne3c:=(Bx.neT ((q9.ext E1a).ext E0a) q3a (by decide))
    have q4c:=((q9.ext E1a).ext E0a).upd U4a ne3c
    refine opV 4 rfl (by rfl) (Ag CO rfl (Bx.cell q4c rfl)) (dnrm ?_)
    exact dls (HJ38 _ _ ⟨((UpdS.refl _ _).upd U4a (.inl im0)),q2c,(by kernel_rfl)⟩)
 ·rintro _ w5 ⟨U5a,q5c,rfl⟩ _ rfl
  have X6c:=X7b.updS U5a (alc (.inr (.inl rfl)) al0)
  refine dA 7 rfl (fun _=>Bz rfl) ?_
  have F6a:=belU E4 U8 g5
  have q7a:=((qb.ext F6a).ext E1a).ext E0a
  have ne8a:=(Bx.neT q7a (((qa.ext F6a).ext E1a).ext E0a) (by decide))
  have q7c:=q7a.updS U5a (nmc ne8a nm0)
  refine dkk 8 HU q7c fun w6 U9a q8c=>?_
  have X9c:=X6c.upd U9a (.inr (.inr rfl))
  refine Cx (by kernel_rfl) ?_
  exact SA (by kernel_rfl) ⟨rfl,rfl,X9c,(q5c.upd U9a (Ne.symm ne8a)),q8c⟩
theorem Jj:Ry prog 161:=by
 intro ar b b' w ha
 subst ha
 refine KM func161 rfl [.pointer (some ⟨b,0,none⟩),.pointer (some ⟨b',0,none⟩),uu,uu,uu,uu,uu,uu,uu,uu,uu,uu,uu,uu,uu,uu,uu,uu,uu,uu,uu,uu,uu,uu,uu,uu] (by simp [ntmps161]) fun c₀ cs hu=>?_
 apply wpS_seq
 refine Sg hu rfl ?_
 simp only [S0,S1]
 refine wpS_of_wp<|ws fun h1=>Ah<|sV2 (Aa rfl) (Ml Mx rfl) ?_
 refine wh h1<|cf rfl<|wp_skip ?_
 exact Rc hu (by kernel_rfl) ⟨rfl,rfl,rfl⟩
theorem c_wide_Int_Sign (x0:Ae) (A1:OA) (c2:Nat) (w:World) (hT:TB w) (n3:RU w A1 c2 x0.Abs) (r:Int) (hr:Ix x0=some r) :
  Calls prog 182 #[.agg #[.bool x0.Neg,.slice A1 (sz x0.Abs) c2]] w (Ret HY w r):=by
 unfold Ix at hr
 go_enter func182,ntmps182
 refine ws fun h4=>Ah<|sbx rfl rfl fun b5 w1 E6 g7 q8=>?_
 refine sV (Ab rfl) ?_
 refine wh h4<|ws fun h9=>?_
 apply wp_block
 refine ws fun h3a=>Ah<|sV3 (Af (o':=1) Bm rfl rfl) (Ag CZ rfl (Bx.cell q8 rfl)) (AD Au rfl) ?_
 refine sbl (Cy rfl rfl) fun z2a hz2a=>?_
 refine sV (Ab rfl) ?_
 refine wh h3a ?_
 rcases zi hz2a hr with ⟨e1a,_,f4a⟩ | ⟨e1a,_,f32⟩
 ·refine ct e1a<|ws fun h5a=>Ah<|sV (Ab rfl) ?_
  refine wh h5a<|wp_ret ?_
  exact Bn f4a E6 rfl
 ·refine cf e1a<|ws fun h6a=>Ah<|sV3 (Af (o':=0) Eg rfl rfl) (Ag Gy rfl (Bx.cell q8 rfl)) (Ab rfl) ?_
  refine wh h6a ?_
  rcases bft x0.Neg with e0a | e0a
  ·have p7a:=e0a
   have f8a:=ifP p7a f32
   refine ct e0a<|ws fun h9a=>Ah<|sV (Ab rfl) ?_
   refine wh h9a<|wp_ret ?_
   exact Bn f8a E6 rfl
  ·have p0b:=bF e0a
   have f1b:=ifN p0b f32
   refine cf e0a<|wp_skip<|h9 _ _<|ws fun h2b=>Ah<|sV (Ab rfl) ?_
   refine wh h2b<|wp_ret ?_
   exact Bn f1b E6 rfl
theorem CP (x0:Aj) (A1:OA) (c2:Nat) (w:World) (hT:TB w) (n3:RU w A1 c2 x0.m.Abs) (r:Int) (hr:AU x0=some r) :
  Calls prog 103 #[.agg #[.bool x0.m.Neg,.slice A1 (sz x0.m.Abs) c2,.int .i64 x0.e]] w (Ret HY w r):=by
 unfold AU at hr
 go_enter func103,ntmps103
 refine ws fun h4=>Ah<|sbx rfl rfl fun b5 w1 E6 g7 q8=>?_
 refine sV (Ab rfl) ?_
 refine nx h4 fun h9=>sV2 (Af (o':=0) BJ rfl rfl) (dld EI q8) ?_
 refine scr hr (Ac en_182 (by rfl)) (c_wide_Int_Sign x0.m A1 c2 w1 (tbx E6 hT) (n3.ext E6)) fun r3a f0a w2 E1a=>?_
 have X2a:=xtr E6 E1a
 refine sV (Ab rfl) ?_
 refine wh h9<|wp_ret ?_
 exact Bn f0a X2a rfl
theorem Md (x0:Int) (x1:Int) (w:World) (hT:TB w) (r:Int) (hr:Hg x0 x1=some r) :
  Calls prog 187 #[.int .i64 x0,.int .i64 x1] w (Ret HY w r):=by
 unfold Hg at hr
 go_enter func187,ntmps187
 refine ws fun h1=>Ah<|sV (Ab rfl) ?_
 refine wh h1<|ws fun h2=>?_
 apply wp_block
 refine ws fun h3=>Ah<|sV2 (Aa rfl) (Aa rfl) ?_
 refine sbl (Bv rfl rfl) fun z4 hz4=>?_
 refine sV (Ab rfl) ?_
 refine wh h3 ?_
 rcases zi hz4 hr with ⟨e0a,_,f3a⟩ | ⟨e0a,_,f4a⟩
 ·refine ct e0a<|ws fun h5a=>Ah<|sV (Ab rfl) ?_
  refine wh h5a<|wp_ret ?_
  exact Bn f3a (Ext.refl _) rfl
 ·refine cf e0a<|ws fun h6a=>Ah<|sV2 (Aa rfl) (Aa rfl) ?_
  refine sbl (Eh rfl rfl) fun z2a hz2a=>?_
  refine sV (Ab rfl) ?_
  refine wh h6a ?_
  rcases zi hz2a f4a with ⟨e1a,_,f7a⟩ | ⟨e1a,_,f8a⟩
  ·refine ct e1a<|ws fun h9a=>Ah<|sV (Ab rfl) ?_
   refine wh h9a<|wp_ret ?_
   exact Bn f7a (Ext.refl _) rfl
  ·refine cf e1a<|wp_skip<|h2 _ _<|ws fun h0b=>Ah<|sV (Ab rfl) ?_
   refine wh h0b<|wp_ret ?_
   exact Bn f8a (Ext.refl _) rfl
theorem Gg (x0:Aj) (A1:OA) (c2:Nat) (w:World) (hT:TB w) (n3:RU w A1 c2 x0.m.Abs) (r:Int) (hr:Du x0=some r) :
  Calls prog 122 #[.agg #[.bool x0.m.Neg,.slice A1 (sz x0.m.Abs) c2,.int .i64 x0.e]] w (Ret HY w r):=by
 unfold Du at hr
 go_enter func122,ntmps122
 refine ws fun h4=>Ah<|sbx rfl rfl fun b5 w1 E6 g7 q8=>?_
 refine sV (Ab rfl) ?_
 refine wh h4<|ws fun h9=>DT [] 9 mo rfl fun w2 E0a S1a=>have X2a:=xtr E6 E0a;dA 0 rfl (fun _=>Af (o':=0) BJ rfl rfl) ?_
 refine dA 1 rfl (fun _=>Af (o':=1) Bm rfl rfl) ?_
 refine dV 2 rfl (fun _ hw=>Ag CZ rfl (Bx.cell ((q8.ext E0a).ext hw) rfl)) S1a ?_
 refine dA 5 rfl (fun _=>Af (o':=2) CK rfl rfl) ?_
 refine dV 6 rfl (fun _ hw=>Ag GR rfl (Bx.cell ((q8.ext E0a).ext hw) rfl)) S1a ?_
 refine dcr hr 3 rfl (by rfl) (Ac MK (by rfl)) (DY x0.m.Abs A1 c2 w2 (tbx X2a hT) (n3.ext X2a)) fun r3a f5a w3 E4a=>?_
 have X6a:=xtr X2a E4a
 have S7a:=S1a.trans E4a
 refine dA2 4 7 rfl rfl (fun _=>Bt (c:=wi64 (r3a - 1)) rfl rfl rfl) (fun _=>AV (c:=wi64 ((wi64 (r3a - 1))+x0.e)) rfl rfl rfl) ?_
 refine dA 8 rfl (fun _=>Ab rfl) ?_
 refine Cx (by kernel_rfl) ?_
 refine h9 _ _<|wp_ret ?_
 exact Bn f5a X6a rfl
theorem c_wide_Int_Minus (x0:Ae) (A1:OA) (c2:Nat) (w:World) (hT:TB w) (n3:RU w A1 c2 x0.Abs) (r:Ae) (hr:Hh x0=some r) :
  Calls prog 192 #[.agg #[.bool x0.Neg,.slice A1 (sz x0.Abs) c2]] w (Ret Ng w r):=by
 unfold Hh at hr
 go_enter func192,ntmps192
 refine ws fun h4=>Ah<|sbx rfl rfl fun b5 w1 E6 g7 q8=>?_
 refine sal HG fun b9 w2 E1a g2a q4a=>?_
 have g9a:=nlt E6.size g2a
 refine nx h4 fun h5a=>sV2 (Af (o':=0) Eg rfl rfl) (Ag Gy rfl (Bx.cell (q8.ext E1a) rfl)) ?_
 refine sbl (FL rfl) fun z0a hz0a=>?_
 refine sV3 (Af (o':=1) Bm rfl rfl) (Ag CZ rfl (Bx.cell (q8.ext E1a) rfl)) (AL (vals:=[(0,.bool z0a),(1,.slice A1 (sz x0.Abs) c2)]) (cells:=[.bool z0a,.slice A1 (sz x0.Abs) c2]) (by rfl) (by kernel_rfl)) ?_
 refine ss Hu q4a fun w3 U6a q7a=>?_
 have F8a:=belU E1a U6a g2a
 have X3a:=xtr E6 F8a
 refine wh h5a<|wp_ret ?_
 obtain rfl:z0a=decide (¬(x0.Neg=true)):=bz hz0a
 exact He hr EI q7a X3a ⟨A1,c2,rfl,(n3.ext X3a)⟩
theorem Jw (x0:Aj) (A1:OA) (c2:Nat) (w:World) (hT:TB w) (n3:RU w A1 c2 x0.m.Abs) (r:Aj) (hr:Ei x0=some r) :
  Calls prog 115 #[.agg #[.bool x0.m.Neg,.slice A1 (sz x0.m.Abs) c2,.int .i64 x0.e]] w (Ret Jd w r):=by
 unfold Ei at hr
 go_enter func115,ntmps115
 refine ws fun h4=>Ah<|sbx rfl rfl fun b5 w1 E6 g7 q8=>?_
 refine sal Bg fun b9 w2 E2a g0b q1b=>?_
 have g2b:=nlt E6.size g0b
 have X3b:=xtr E6 E2a
 refine wh h4<|ws fun h4b=>DT [6] 7 mo rfl fun w3 E0a S3a=>have X4a:=xtr X3b E0a;dA 0 rfl (fun _=>Af (o':=0) BJ rfl rfl) ?_
 refine dV 1 rfl (fun _ hw=>dld EI (((q8.ext E2a).ext E0a).ext hw)) S3a ?_
 refine dA 3 rfl (fun _=>Af (o':=2) CK rfl rfl) ?_
 refine dV 4 rfl (fun _ hw=>Ag GR rfl (Bx.cell (((q8.ext E2a).ext E0a).ext hw) rfl)) S3a ?_
 refine dcn hr 2 rfl (by rfl) (Ac en_192 (by rfl)) (c_wide_Int_Minus x0.m A1 c2 w3 (tbx X4a hT) (n3.ext X4a)) fun r1a f5b w4 A5a c6a E7a n6b=>?_
 have X7b:=xtr X4a E7a
 have S1c:=S3a.trans E7a
 refine dA 5 rfl (fun _=>AL (vals:=[(0,.agg #[.bool r1a.Neg,.slice A5a (sz r1a.Abs) c6a]),(1,.int .i64 x0.e)]) (cells:=[.bool r1a.Neg,.slice A5a (sz r1a.Abs) c6a,.int .i64 x0.e]) (by rfl) (by kernel_rfl)) ?_
 have q8a:=(q1b.ext E0a).ext E7a
 refine dkk 6 BC q8a fun w5 U9a q8b=>?_
 have X9b:=belU X7b U9a g2b
 refine Cx (by kernel_rfl) ?_
 refine h4b _ _<|wp_ret ?_
 have n0c:=n6b.upd U9a q8a (by decide)
 exact He f5b Aw q8b X9b ⟨A5a,c6a,rfl,n0c⟩
theorem c_wide_Int_Add (x0:Ae) (x1:Ae) (A1:OA) (c2:Nat) (A4:OA) (c5:Nat) (w:World) (hT:TB w) (n3:RU w A1 c2 x0.Abs) (n6:RU w A4 c5 x1.Abs) (r:Ae) (hr:FC x0 x1=some r) :
  Calls prog 196 #[.agg #[.bool x0.Neg,.slice A1 (sz x0.Abs) c2],.agg #[.bool x1.Neg,.slice A4 (sz x1.Abs) c5]] w (Ret Ng w r):=by
 unfold FC at hr
 go_enter func196,ntmps196
 refine ws fun h7=>Ah<|sbx rfl rfl fun b8 w1 E9 g4h q3e=>?_
 refine sbx rfl rfl fun b5h w2 E7c g4e q3a=>?_
 have g6h:=nlt E9.size g4e
 have X8c:=xtr E9 E7c
 refine sal HG fun b7h w3 E0a g5e q4b=>?_
 have g5b:=nlt X8c.size g5e
 have X4a:=xtr X8c E0a
 have q2a:=(q3e.ext E7c).ext E0a
 refine wh h7<|ws fun h6e=>ws fun h7e=>Ah<|sV3 (Af (o':=0) Eg rfl rfl) (Ag Gy rfl (Bx.cell q2a rfl)) (Af (o':=0) Eg rfl rfl) ?_
 refine sV (Ag Gy rfl (Bx.cell (q3a.ext E0a) rfl)) ?_
 refine sbl (Pg Qw rfl rfl) fun z9c hz9c=>?_
 refine wh h7e ?_
 rcases zi hz9c hr with ⟨e6b,_,f8e⟩ | ⟨e6b,_,f9e⟩
 ·refine ct e6b<|ws fun h0f=>DT [8] 9 mo rfl fun w4 E5a S6a=>have X7a:=xtr X4a E5a;dA 0 rfl (fun _=>Af (o':=0) Eg rfl rfl) ?_
  refine dV 1 rfl (fun _ hw=>Ag Gy rfl (Bx.cell ((q2a.ext E5a).ext hw) rfl)) S6a ?_
  refine dA 2 rfl (fun _=>Af (o':=1) Bm rfl rfl) ?_
  refine dV 3 rfl (fun _ hw=>Ag CZ rfl (Bx.cell ((q2a.ext E5a).ext hw) rfl)) S6a ?_
  refine dA 4 rfl (fun _=>Af (o':=1) Bm rfl rfl) ?_
  refine dV 5 rfl (fun _ hw=>Ag CZ rfl (Bx.cell (((q3a.ext E0a).ext E5a).ext hw) rfl)) S6a ?_
  refine dcn f8e 6 rfl (by rfl) (Ac Qx (by rfl)) (HN x0.Abs x1.Abs A1 c2 A4 c5 w4 (tbx X7a hT) (n3.ext X7a) (n6.ext X7a)) fun r0d f1f w5 A7b c8b E9b n2f=>?_
  have X3f:=xtr X7a E9b
  have S8h:=S6a.trans E9b
  refine dA 7 rfl (fun _=>AL (vals:=[(0,.bool x0.Neg),(1,.slice A7b (sz r0d) c8b)]) (cells:=[.bool x0.Neg,.slice A7b (sz r0d) c8b]) (by rfl) (by kernel_rfl)) ?_
  have q1d:=(q4b.ext E5a).ext E9b
  refine dkk 8 Hu q1d fun w6 U2d q4f=>?_
  have X5f:=belU X3f U2d g5b
  refine Cx (by kernel_rfl) ?_
  refine h0f _ _<|wp_ret ?_
  have n6f:=n2f.upd U2d q1d (by decide)
  exact He f1f EI q4f X5f ⟨A7b,c8b,rfl,n6f⟩
 ·refine cf e6b<|wp_skip<|h6e _ _<|ws fun h7f=>ws fun h8f=>Ah<|sV3 (Af (o':=1) Bm rfl rfl) (Ag CZ rfl (Bx.cell q2a rfl)) (Af (o':=1) Bm rfl rfl) ?_
  refine sV (Ag CZ rfl (Bx.cell (q3a.ext E0a) rfl)) ?_
  refine scr f9e (Ac NX (by rfl)) (GZ x0.Abs x1.Abs A1 c2 A4 c5 w3 (tbx X4a hT) (n3.ext X4a) (n6.ext X4a)) fun r9h f9f w4 E1a=>?_
  have X3d:=xtr X4a E1a
  refine sbl (Hb rfl rfl) fun z4d hz4d=>?_
  refine wh h8f ?_
  rcases zi hz4d f9f with ⟨e0c,_,f0g⟩ | ⟨e0c,_,f1g⟩
  ·refine ct e0c<|ws fun h2g=>DT [8] 9 mo rfl fun w5 E8a S9a=>have X0b:=xtr X3d E8a;dA 0 rfl (fun _=>Af (o':=0) Eg rfl rfl) ?_
   have q5d:=(q2a.ext E1a).ext E8a
   refine dV 1 rfl (fun _ hw=>Ag Gy rfl (Bx.cell (q5d.ext hw) rfl)) S9a ?_
   refine dA 2 rfl (fun _=>Af (o':=1) Bm rfl rfl) ?_
   refine dV 3 rfl (fun _ hw=>Ag CZ rfl (Bx.cell (q5d.ext hw) rfl)) S9a ?_
   refine dA 4 rfl (fun _=>Af (o':=1) Bm rfl rfl) ?_
   refine dV 5 rfl (fun _ hw=>Ag CZ rfl (Bx.cell ((((q3a.ext E0a).ext E1a).ext E8a).ext hw) rfl)) S9a ?_
   refine dcn f0g 6 rfl (by rfl) (Ac NV (by rfl)) (Gq x0.Abs x1.Abs A1 c2 A4 c5 w5 (tbx X0b hT) (n3.ext X0b) (n6.ext X0b)) fun r6d f3g w6 A1c c2c E3c n4g=>?_
   have X5g:=xtr X0b E3c
   have S0i:=S9a.trans E3c
   refine dA 7 rfl (fun _=>AL (vals:=[(0,.bool x0.Neg),(1,.slice A1c (sz r6d) c2c)]) (cells:=[.bool x0.Neg,.slice A1c (sz r6d) c2c]) (by rfl) (by kernel_rfl)) ?_
   have q7d:=((q4b.ext E1a).ext E8a).ext E3c
   refine dkk 8 Hu q7d fun w7 U8d q6g=>?_
   have X7g:=belU X5g U8d g5b
   refine Cx (by kernel_rfl) ?_
   refine h2g _ _<|wp_ret ?_
   exact He f3g EI q6g X7g ⟨A1c,c2c,rfl,(n4g.upd U8d q7d (by decide))⟩
  ·refine cf e0c<|wp_skip<|h7f _ _<|ws fun h8g=>DT [8] 9 mo rfl fun w5 E1b S2b=>have X3b:=xtr X3d E1b;dA 0 rfl (fun _=>Af (o':=0) Eg rfl rfl) ?_
   have q9d:=((q3a.ext E0a).ext E1a).ext E1b
   refine dV 1 rfl (fun _ hw=>Ag Gy rfl (Bx.cell (q9d.ext hw) rfl)) S2b ?_
   refine dA 2 rfl (fun _=>Af (o':=1) Bm rfl rfl) ?_
   refine dV 3 rfl (fun _ hw=>Ag CZ rfl (Bx.cell (q9d.ext hw) rfl)) S2b ?_
   refine dA 4 rfl (fun _=>Af (o':=1) Bm rfl rfl) ?_
   refine dV 5 rfl (fun _ hw=>Ag CZ rfl (Bx.cell (((q2a.ext E1a).ext E1b).ext hw) rfl)) S2b ?_
   refine dcn f1g 6 rfl (by rfl) (Ac NV (by rfl)) (Gq x1.Abs x0.Abs A4 c5 A1 c2 w5 (tbx X3b hT) (n6.ext X3b) (n3.ext X3b)) fun r0e f9g w6 A4c c5c E6c n0h=>?_
   have X1h:=xtr X3b E6c
   have S1i:=S2b.trans E6c
   refine dA 7 rfl (fun _=>AL (vals:=[(0,.bool x1.Neg),(1,.slice A4c (sz r0e) c5c)]) (cells:=[.bool x1.Neg,.slice A4c (sz r0e) c5c]) (by rfl) (by kernel_rfl)) ?_
   have q1e:=((q4b.ext E1a).ext E1b).ext E6c
   refine dkk 8 Hu q1e fun w7 U2e q2h=>?_
   have X3h:=belU X1h U2e g5b
   refine Cx (by kernel_rfl) ?_
   refine h8g _ _<|wp_ret ?_
   exact He f9g EI q2h X3h ⟨A4c,c5c,rfl,(n0h.upd U2e q1e (by decide))⟩
theorem c_dyad_num_plus_1 (x0:Ae) (x1:Ae) (x2:Int) (A1:OA) (c2:Nat) (A4:OA) (c5:Nat) (w:World) (hT:TB w) (n3:RU w A1 c2 x0.Abs) (n6:RU w A4 c5 x1.Abs) (r:Aj) (hr:DI x0 x1 x2=some r) :
  Calls prog 195 #[.agg #[.bool x0.Neg,.slice A1 (sz x0.Abs) c2],.agg #[.bool x1.Neg,.slice A4 (sz x1.Abs) c5],.int .i64 x2] w (Ret Jd w r):=by
 unfold DI at hr
 go_enter func195,ntmps195
 refine ws fun h7=>Ah<|sbx rfl rfl fun b8 w1 E9 g9c q9a=>?_
 refine sbx rfl rfl fun b0d w2 E2a g0b q1b=>?_
 have g1d:=nlt E9.size g0b
 have X3a:=xtr E9 E2a
 refine sal Bg fun b2d w3 E1a g2b q3b=>?_
 have g4b:=nlt X3a.size g2b
 have X0a:=xtr X3a E1a
 refine nx h7 fun h5b=>sV2 (Ak EI rfl ((q9a.ext E2a).ext E1a) rfl) (Ak EI rfl (q1b.ext E1a) rfl) ?_
 refine scn hr (Ac en_196 (by rfl)) (c_wide_Int_Add x0 x1 A1 c2 A4 c5 w3 (tbx X0a hT) (n3.ext X0a) (n6.ext X0a)) fun r6b f7b w4 A8b c9b E4a n0c=>?_
 have X5a:=xtr X0a E4a
 refine sV (Aa rfl) ?_
 refine scn f7b (Ac MF (by rfl)) (GL r6b x2 A8b c9b w4 (tbx X5a hT) n0c) fun r3d f1c w5 A2c c3c E6a n4c=>?_
 have X5c:=xtr X5a E6a
 have q7a:=(q3b.ext E4a).ext E6a
 refine ss BC q7a fun w6 U8a q6c=>?_
 have X7c:=belU X5c U8a g4b
 refine wh h5b<|wp_ret ?_
 have n8c:=n4c.upd U8a q7a (by decide)
 exact He f1c Aw q6c X7c ⟨A2c,c3c,rfl,n8c⟩
theorem c_dyad_aligned__dyad_num_plus_1 (x0:Aj) (x1:Aj) (A1:OA) (c2:Nat) (A4:OA) (c5:Nat) (w:World) (hT:TB w) (n3:RU w A1 c2 x0.m.Abs) (n6:RU w A4 c5 x1.m.Abs) (r:Aj) (hr:Bo x0 x1=some r) :
  Calls prog 194 #[.agg #[.bool x0.m.Neg,.slice A1 (sz x0.m.Abs) c2,.int .i64 x0.e],.agg #[.bool x1.m.Neg,.slice A4 (sz x1.m.Abs) c5,.int .i64 x1.e],.func (.func 195) #[] #[]] w (Ret Jd w r):=by
 unfold Bo at hr
 go_enter func194,ntmps194
 refine ws fun h7=>Ah<|sbx rfl rfl fun b8 w1 E9 g1m q2m=>?_
 refine sbx rfl rfl fun b6f w2 E7f g3m q3a=>?_
 have g5v:=nlt E9.size g3m
 have X8f:=xtr E9 E7f
 refine sal Bg fun b6v w3 E0a g4m q5m=>?_
 have g6m:=nlt X8f.size g4m
 have X7m:=xtr X8f E0a
 have q8c:=(q2m.ext E7f).ext E0a
 refine nx h7 fun h8m=>sV3 (Af (o':=2) CK rfl rfl) (Ag GR rfl (Bx.cell q8c rfl)) (Af (o':=2) CK rfl rfl) ?_
 refine sV3 (Ag GR rfl (Bx.cell (q3a.ext E0a) rfl)) (PO rfl rfl) (Ab rfl) ?_
 refine wh h8m<|ws fun h9m=>ws fun h0n=>Ah<|sV3 (Af (o':=0) BJ rfl rfl) (Af (o':=1) Bm rfl rfl) (Ag CZ rfl (Bx.cell q8c rfl)) ?_
 refine sV (AD Au rfl) ?_
 refine sbl (Cy rfl rfl) fun z9f hz9f=>?_
 refine wh h0n ?_
 obtain ⟨m1n,h2n,f3n⟩:=Ad hr
 refine CG (fun l l' w'=>∃(t0g:Value) (t1g:Value),w3=w'∧l'=(((l.set 7 (.int .i64 m1n)).set 20 t0g).set 21 t1g)) ?_ ?_
 ·rcases zi hz9f h2n with ⟨e6d,_,f4n⟩ | ⟨e6d,_,f5n⟩
  ·refine ct e6d<|Ah<|sV3 (Af (o':=2) CK rfl rfl) (Ag GR rfl (Bx.cell (q3a.ext E0a) rfl)) (Ab rfl) ?_
   refine AF ?_
   obtain rfl:=sj f4n
   exact ⟨_,rfl,(.pointer (some ⟨b6f,2,none⟩)),(.int .i64 x1.e),rfl,(by kernel_rfl)⟩
  ·refine cf e6d<|wp_skip ?_
   obtain rfl:=sj f5n
   exact ⟨_,rfl,uu,uu,rfl,(by kernel_rfl)⟩
 ·rintro l' _ ⟨t0g,t1g,rfl,rfl⟩ l'' hl
  simp only [S0,S1] at hl;subst hl
  refine h9m _ _<|ws fun h6n=>ws fun h7n=>Ah<|sV3 (Af (o':=0) BJ rfl rfl) (Af (o':=1) Bm rfl rfl) (Ag CZ rfl (Bx.cell (q3a.ext E0a) rfl)) ?_
  refine sV (AD Au rfl) ?_
  refine sbl (Cy rfl rfl) fun z2g hz2g=>?_
  refine wh h7n ?_
  obtain ⟨m4a,h8n,f9n⟩:=Ad f3n
  refine CG (fun l l' w'=>∃(t3g:Value) (t4g:Value),w3=w'∧l'=(((l.set 7 (.int .i64 m4a)).set 27 t3g).set 28 t4g)) ?_ ?_
  ·rcases zi hz2g h8n with ⟨e7d,_,f64⟩ | ⟨e7d,_,f0o⟩
   ·refine ct e7d<|Ah<|sV3 (Af (o':=2) CK rfl rfl) (Ag GR rfl (Bx.cell q8c rfl)) (Ab rfl) ?_
    refine AF ?_
    obtain rfl:=sj f64
    exact ⟨_,rfl,(.pointer (some ⟨b8,2,none⟩)),(.int .i64 x0.e),rfl,(by kernel_rfl)⟩
   ·refine cf e7d<|wp_skip ?_
    obtain rfl:=sj f0o
    exact ⟨_,rfl,uu,uu,rfl,(by kernel_rfl)⟩
  ·rintro l' _ ⟨t3g,t4g,rfl,rfl⟩ l'' hl
   simp only [S0,S1] at hl;subst hl
   refine h6n _ _<|ws fun h1o=>DT [6,7] 8 mo rfl fun w4 E5a S2o=>have X2a:=xtr X7m E5a;dA 0 rfl (fun _=>Af (o':=0) BJ rfl rfl) ?_
   have q8d:=q8c.ext E5a
   refine dV 1 rfl (fun _ hw=>dld EI (q8d.ext hw)) S2o ?_
   refine dA 2 rfl (fun _=>Af (o':=0) BJ rfl rfl) ?_
   refine Kn (tb 8 127) 1 (fun l l' w'=>∃(b8a:Nat) (b9a:Nat),UpdS [] w4 w'∧w4.heap.size≤b8a∧Bx w' b8a 117 [.bool x0.m.Neg,.slice A1 (sz x0.m.Abs) c2]∧w4.heap.size≤b9a∧Bx w' b9a 117 [.bool false,.slice none 0 0]∧b8a≠b9a∧l'=(((l.set 8 (.pointer (some ⟨b8a,0,none⟩))).set 9 (.pointer (some ⟨b9a,0,none⟩))).set 32 (.agg #[.bool x1.m.Neg,.slice A4 (sz x1.m.Abs) c5]))) ?_ ?_
   ·intro HJ172
    refine Oy 3 4 5 (by kernel_rfl) ?_ ?_ ?_
    ·refine opV 3 rfl (by rfl) (dld EI ((q3a.ext E0a).ext E5a)) (dnrm ?_)
     refine Ea 4 5 (by kernel_rfl) ?_ ?_
     ·refine opA 4 rfl (by rfl) (AR HG) fun b3o w5 E9d g0e q5g=>dnrm ?_
      have g7v:=nlt X2a.size g0e
      have X4o:=xtr X2a E9d
      refine Bc 5 (by kernel_rfl) ?_
      ·refine opA 5 rfl (by rfl) (AR HG) fun b5o w6 E6g g1e q6o=>dnrm ?_
       have g8v:=nlt X4o.size g1e
       refine Bc 6 (by kernel_rfl) ?_
       ·refine opK 6 rfl (by decide) (by rfl) Hu rfl rfl (q5g.ext E6g) rfl rfl rfl rfl (by simp only [SP0,SP1,S0,S1,Nat.reduceAdd];rfl) fun w7 U7g q7o=>?_
        have ne8g:=(Bx.ne q5g g1e).symm
        exact dls (HJ172 _ _ ⟨b3o,b5o,((((UpdS.refl _ _).ext E9d).ext E6g).upd U7g (.inr (nlt (Nat.le_refl _) g0e))),(nlt (Nat.le_refl _) g0e),q7o,(nlt (nlt (Nat.le_refl _) E9d.size) g1e),(q6o.upd U7g ne8g),(Ne.symm ne8g),(by kernel_rfl)⟩)
     ·refine opA 5 rfl (by rfl) (AR HG) fun b8o w5 E9c g9g q0h=>dnrm ?_
      have g9v:=nlt X2a.size g9g
      have X9o:=xtr X2a E9c
      refine Bc 4 (by kernel_rfl) ?_
      ·refine opA 4 rfl (by rfl) (AR HG) fun b0p w6 E1h g0d q1p=>dnrm ?_
       have g0w:=nlt X9o.size g0d
       refine Bc 6 (by kernel_rfl) ?_
       ·refine opK 6 rfl (by decide) (by rfl) Hu rfl rfl q1p rfl rfl rfl rfl (by simp only [SP0,SP1,S0,S1,Nat.reduceAdd];rfl) fun w7 U2h q2p=>?_
        have ne3h:=(Bx.ne q0h g0d)
        exact dls (HJ172 _ _ ⟨b0p,b8o,((((UpdS.refl _ _).ext E9c).ext E1h).upd U2h (.inr (nlt (nlt (Nat.le_refl _) E9c.size) g0d))),(nlt (nlt (Nat.le_refl _) E9c.size) g0d),q2p,(nlt (Nat.le_refl _) g9g),((q0h.ext E1h).upd U2h ne3h),(Ne.symm ne3h),(by kernel_rfl)⟩)
    ·refine opA 4 rfl (by rfl) (AR HG) fun b2e w5 E6a g0b q1b=>dnrm ?_
     have g1w:=nlt X2a.size g0b
     have X4h:=xtr X2a E6a
     refine Ea 3 5 (by kernel_rfl) ?_ ?_
     ·have q3p:=((q3a.ext E0a).ext E5a).ext E6a
      refine opV 3 rfl (by rfl) (dld EI q3p) (dnrm ?_)
      refine Bc 5 (by kernel_rfl) ?_
      ·refine opA 5 rfl (by rfl) (AR HG) fun b4p w6 E5h g3e q5p=>dnrm ?_
       have g2w:=nlt X4h.size g3e
       refine Bc 6 (by kernel_rfl) ?_
       ·refine opK 6 rfl (by decide) (by rfl) Hu rfl rfl (q1b.ext E5h) rfl rfl rfl rfl (by simp only [SP0,SP1,S0,S1,Nat.reduceAdd];rfl) fun w7 U6h q6p=>?_
        have ne7h:=(Bx.ne q1b g3e).symm
        exact dls (HJ172 _ _ ⟨b2e,b4p,((((UpdS.refl _ _).ext E6a).ext E5h).upd U6h (.inr (nlt (Nat.le_refl _) g0b))),(nlt (Nat.le_refl _) g0b),q6p,(nlt (nlt (Nat.le_refl _) E6a.size) g3e),(q5p.upd U6h ne7h),(Ne.symm ne7h),(by kernel_rfl)⟩)
     ·refine opA 5 rfl (by rfl) (AR HG) fun b8h w6 E2b g2c q9h=>dnrm ?_
      have g3w:=nlt X4h.size g2c
      refine Ea 3 6 (by kernel_rfl) ?_ ?_
      ·have q7p:=(((q3a.ext E0a).ext E5a).ext E6a).ext E2b
       refine opV 3 rfl (by rfl) (dld EI q7p) (dnrm ?_)
       refine Bc 6 (by kernel_rfl) ?_
       ·refine opK 6 rfl (by decide) (by rfl) Hu rfl rfl (q1b.ext E2b) rfl rfl rfl rfl (by simp only [SP0,SP1,S0,S1,Nat.reduceAdd];rfl) fun w7 U0i q8p=>?_
        have ne1i:=(Bx.ne q1b g2c).symm
        exact dls (HJ172 _ _ ⟨b2e,b8h,((((UpdS.refl _ _).ext E6a).ext E2b).upd U0i (.inr (nlt (Nat.le_refl _) g0b))),(nlt (Nat.le_refl _) g0b),q8p,(nlt (nlt (Nat.le_refl _) E6a.size) g2c),(q9h.upd U0i ne1i),(Ne.symm ne1i),(by kernel_rfl)⟩)
      ·refine opK 6 rfl (by decide) (by rfl) Hu rfl rfl (q1b.ext E2b) rfl rfl rfl rfl (by simp only [SP0,SP1,S0,S1,Nat.reduceAdd];rfl) fun w7 U4e q9p=>?_
       refine Bc 3 (by kernel_rfl) ?_
       ·have q2i:=(((q3a.ext E0a).ext E5a).ext E6a).ext E2b
        have ne0q:=(Bx.neT q2i (q1b.ext E2b) (by decide))
        have q1q:=q2i.upd U4e ne0q
        refine opV 3 rfl (by rfl) (dld EI q1q) (dnrm ?_)
        have ne3i:=(Bx.ne q1b g2c).symm
        exact dls (HJ172 _ _ ⟨b2e,b8h,((((UpdS.refl _ _).ext E6a).ext E2b).upd U4e (.inr (nlt (Nat.le_refl _) g0b))),(nlt (Nat.le_refl _) g0b),q9p,(nlt (nlt (Nat.le_refl _) E6a.size) g2c),(q9h.upd U4e ne3i),(Ne.symm ne3i),(by kernel_rfl)⟩)
    ·refine opA 5 rfl (by rfl) (AR HG) fun b5e w5 E1a g1d q7b=>dnrm ?_
     have g4w:=nlt X2a.size g1d
     have X4i:=xtr X2a E1a
     refine Ea 3 4 (by kernel_rfl) ?_ ?_
     ·have q2q:=((q3a.ext E0a).ext E5a).ext E1a
      refine opV 3 rfl (by rfl) (dld EI q2q) (dnrm ?_)
      refine Bc 4 (by kernel_rfl) ?_
      ·refine opA 4 rfl (by rfl) (AR HG) fun b3q w6 E5i g2d q4q=>dnrm ?_
       have g5w:=nlt X4i.size g2d
       refine Bc 6 (by kernel_rfl) ?_
       ·refine opK 6 rfl (by decide) (by rfl) Hu rfl rfl q4q rfl rfl rfl rfl (by simp only [SP0,SP1,S0,S1,Nat.reduceAdd];rfl) fun w7 U6i q5q=>?_
        have ne7i:=(Bx.ne q7b g2d)
        exact dls (HJ172 _ _ ⟨b3q,b5e,((((UpdS.refl _ _).ext E1a).ext E5i).upd U6i (.inr (nlt (nlt (Nat.le_refl _) E1a.size) g2d))),(nlt (nlt (Nat.le_refl _) E1a.size) g2d),q5q,(nlt (Nat.le_refl _) g1d),((q7b.ext E5i).upd U6i ne7i),(Ne.symm ne7i),(by kernel_rfl)⟩)
     ·refine opA 4 rfl (by rfl) (AR HG) fun b8i w6 E8b g3b q6e=>dnrm ?_
      have g6w:=nlt X4i.size g3b
      refine Ea 3 6 (by kernel_rfl) ?_ ?_
      ·have q6q:=(((q3a.ext E0a).ext E5a).ext E1a).ext E8b
       refine opV 3 rfl (by rfl) (dld EI q6q) (dnrm ?_)
       refine Bc 6 (by kernel_rfl) ?_
       ·refine opK 6 rfl (by decide) (by rfl) Hu rfl rfl q6e rfl rfl rfl rfl (by simp only [SP0,SP1,S0,S1,Nat.reduceAdd];rfl) fun w7 U9i q7q=>?_
        have ne0j:=(Bx.ne q7b g3b)
        exact dls (HJ172 _ _ ⟨b8i,b5e,((((UpdS.refl _ _).ext E1a).ext E8b).upd U9i (.inr (nlt (nlt (Nat.le_refl _) E1a.size) g3b))),(nlt (nlt (Nat.le_refl _) E1a.size) g3b),q7q,(nlt (Nat.le_refl _) g1d),((q7b.ext E8b).upd U9i ne0j),(Ne.symm ne0j),(by kernel_rfl)⟩)
      ·refine opK 6 rfl (by decide) (by rfl) Hu rfl rfl q6e rfl rfl rfl rfl (by simp only [SP0,SP1,S0,S1,Nat.reduceAdd];rfl) fun w7 U7e q8q=>?_
       refine Bc 3 (by kernel_rfl) ?_
       ·have q1j:=(((q3a.ext E0a).ext E5a).ext E1a).ext E8b
        have ne9q:=(Bx.neT q1j q6e (by decide))
        have q0r:=q1j.upd U7e ne9q
        refine opV 3 rfl (by rfl) (dld EI q0r) (dnrm ?_)
        have ne2j:=(Bx.ne q7b g3b)
        exact dls (HJ172 _ _ ⟨b8i,b5e,((((UpdS.refl _ _).ext E1a).ext E8b).upd U7e (.inr (nlt (nlt (Nat.le_refl _) E1a.size) g3b))),(nlt (nlt (Nat.le_refl _) E1a.size) g3b),q8q,(nlt (Nat.le_refl _) g1d),((q7b.ext E8b).upd U7e ne2j),(Ne.symm ne2j),(by kernel_rfl)⟩)
   ·rintro l' w5 ⟨b8a,b9a,U3c,g1r,q2r,g3r,q3d,ne8e,rfl⟩ l'' hl
    simp only [S0,S1] at hl;subst hl
    have g4r:=nlt X2a.size g1r
    have g3j:=nlt X2a.size g3r
    have X5r:=Kc X2a U3c (X2a).size al0
    refine dkk 7 Hu q3d fun w6 U4b q6r=>?_
    have X4c:=belU X5r U4b g3j
    refine Cx (by kernel_rfl) ?_
    have q5b:=q2r.upd U4b ne8e
    refine h1o _ _<|ws fun h7r=>ws fun h8r=>Ah<|sV3 (Af (o':=1) Bm rfl rfl) (Ag CZ rfl (Bx.cell q5b rfl)) (AD Au rfl) ?_
    refine sbl (Eh rfl rfl) fun z4j hz4j=>?_
    refine wh h8r ?_
    obtain ⟨m7a,h9r,f0s⟩:=Ad f9n
    refine CG (fun l l' w'=>∃(t5j:Value) (t6j:Value) (t7j:Value) (t8j:Value) (t9j:Value) (t0k:Value) (A9b:OA) (c0c:Nat),UpdS [b8a] w6 w'∧Bx w' b8a 117 [.bool m7a.1,.slice A9b (sz m7a.2) c0c]∧RU w' A9b c0c m7a.2∧l'=((((((l.set 37 t5j).set 38 t6j).set 39 t7j).set 40 t8j).set 41 t9j).set 42 t0k)) ?_ ?_
    ·rcases zi hz4j h9r with ⟨e9e,_,f1s⟩ | ⟨e9e,_,f2s⟩
     ·refine ct e9e<|Ah<|sV2 (Ak EI rfl q5b rfl) (Af (o':=2) CK rfl rfl) ?_
      have ne3s:=(Bx.neT (q8d.updS U3c nm0) q3d (by decide))
      have q4s:=(q8d.updS U3c nm0).upd U4b ne3s
      refine sV3 (Ag GR rfl (Bx.cell q4s rfl)) (Aa rfl) (Bt (c:=wi64 (x0.e - m4a)) rfl rfl rfl) ?_
      refine scn f1s (Ac Qd (by rfl)) (Km x0.m (wi64 (x0.e - m4a)) A1 c2 w6 (tbx X4c hT) (n3.ext X4c)) fun r1k f5s w7 A2k c3k E0f n6s=>?_
      refine ss Hu (q5b.ext E0f) fun w8 U4k q7s=>?_
      refine AF ?_
      have n8s:=n6s.upd U4k (q5b.ext E0f) (by decide)
      obtain rfl:=sj f5s
      exact ⟨_,rfl,(.agg #[.bool x0.m.Neg,.slice A1 (sz x0.m.Abs) c2]),(.pointer (some ⟨b8,2,none⟩)),(.int .i64 x0.e),(.int .i64 m4a),(.int .i64 (wi64 (x0.e - m4a))),(.agg #[.bool r1k.Neg,.slice A2k (sz r1k.Abs) c3k]),A2k,c3k,(((UpdS.refl _ _).ext E0f).upd U4k (.inl im0)),q7s,n8s,(by kernel_rfl)⟩
     ·refine cf e9e<|wp_skip ?_
      obtain rfl:=sj f2s
      exact ⟨_,rfl,uu,uu,uu,uu,uu,uu,A1,c2,(UpdS.refl _ _),q5b,(n3.ext X4c),(by kernel_rfl)⟩
    ·rintro l' w7 ⟨t5j,t6j,t7j,t8j,t9j,t0k,A9b,c0c,U4d,q9s,n0t,rfl⟩ l'' hl
     simp only [S0,S1] at hl;subst hl
     have X5c:=Kc X4c U4d (X4c).size (alc g4r al0)
     refine h7r _ _<|ws fun h1t=>ws fun h2t=>Ah<|sV (Af (o':=1) Bm rfl rfl) ?_
     have q1c:=q6r.updS U4d (nmc (Ne.symm ne8e) nm0)
     refine sV2 (Ag CZ rfl (Bx.cell q1c rfl)) (AD Au rfl) ?_
     refine sbl (Eh rfl rfl) fun z5k hz5k=>?_
     refine wh h2t ?_
     obtain ⟨m6b,h3t,f4t⟩:=Ad f0s
     refine CG (fun l l' w'=>∃(t6k:Value) (t7k:Value) (t8k:Value) (t9k:Value) (t0l:Value) (t1l:Value) (A6c:OA) (c7c:Nat),UpdS [b9a] w7 w'∧Bx w' b9a 117 [.bool m6b.1,.slice A6c (sz m6b.2) c7c]∧RU w' A6c c7c m6b.2∧l'=((((((l.set 47 t6k).set 48 t7k).set 49 t8k).set 50 t9k).set 51 t0l).set 52 t1l)) ?_ ?_
     ·rcases zi hz5k h3t with ⟨e1f,_,f5t⟩ | ⟨e1f,_,f6t⟩
      ·refine ct e1f<|Ah<|sV2 (Ak EI rfl q1c rfl) (Af (o':=2) CK rfl rfl) ?_
       have q2f:=((q3a.ext E0a).ext E5a).updS U3c nm0
       have ne2l:=(Bx.neT q2f q3d (by decide))
       have ne7t:=(Bx.neT (q2f.upd U4b ne2l) q5b (by decide))
       have q8t:=(q2f.upd U4b ne2l).updS U4d (nmc ne7t nm0)
       refine sV3 (Ag GR rfl (Bx.cell q8t rfl)) (Aa rfl) (Bt (c:=wi64 (x1.e - m4a)) rfl rfl rfl) ?_
       refine scn f5t (Ac Qd (by rfl)) (Km x1.m (wi64 (x1.e - m4a)) A4 c5 w7 (tbx X5c hT) (n6.ext X5c)) fun r3l f9t w8 A4l c5l E3f n0u=>?_
       refine ss Hu (q1c.ext E3f) fun w9 U6l q1u=>?_
       refine AF ?_
       have n2u:=n0u.upd U6l (q1c.ext E3f) (by decide)
       obtain rfl:=sj f9t
       exact ⟨_,rfl,(.agg #[.bool x1.m.Neg,.slice A4 (sz x1.m.Abs) c5]),(.pointer (some ⟨b6f,2,none⟩)),(.int .i64 x1.e),(.int .i64 m4a),(.int .i64 (wi64 (x1.e - m4a))),(.agg #[.bool r3l.Neg,.slice A4l (sz r3l.Abs) c5l]),A4l,c5l,(((UpdS.refl _ _).ext E3f).upd U6l (.inl im0)),q1u,n2u,(by kernel_rfl)⟩
      ·refine cf e1f<|wp_skip ?_
       obtain rfl:=sj f6t
       exact ⟨_,rfl,uu,uu,uu,uu,uu,uu,A4,c5,(UpdS.refl _ _),q1c,(n6.ext X5c),(by kernel_rfl)⟩
     ·rintro l' w8 ⟨t6k,t7k,t8k,t9k,t0l,t1l,A6c,c7c,U5d,q3u,n4u,rfl⟩ l'' hl
      simp only [S0,S1] at hl;subst hl
      have X7l:=Kc X5c U5d (X5c).size (alc g3j al0)
      refine h1t _ _<|ws fun h5u=>Ah<|sV3 (Aa rfl) (Ak EI rfl (q9s.updS U5d (nmc ne8e nm0)) rfl) (Ak EI rfl q3u rfl) ?_
      refine sV (Aa rfl) ?_
      have n6u:RU w8 A9b c0c m7a.2:=n0t.updS U5d (alc ⟨_,_,by decide,q1c⟩ al0)
      refine scn f4t (Ho (first:=[]) (cap:=[]) (args:=[.agg #[.bool m7a.1,.slice A9b (sz m7a.2) c0c],.agg #[.bool m6b.1,.slice A6c (sz m6b.2) c7c],.int .i64 m4a]) en_195 (by rfl) (by rfl)) (c_dyad_num_plus_1 (⟨m7a.1,m7a.2⟩:Ae) (⟨m6b.1,m6b.2⟩:Ae) m4a A9b c0c A6c c7c w8 (tbx X7l hT) n6u n4u) fun r7w f7u w9 A8u c9u E8l n0v=>?_
      have X1v:=xtr X7l E8l
      have q4f:=(q5m.ext E5a).updS U3c nm0
      have ne5f:=(Bx.neT q4f q3d (by decide))
      have ne2v:=(Bx.neT (q4f.upd U4b ne5f) q5b (by decide))
      have q9l:=(((q4f.upd U4b ne5f).updS U4d (nmc ne2v nm0)).updS U5d (nmc ne5f nm0)).ext E8l
      refine ss BC q9l fun w1m U0m q3v=>?_
      have X4v:=belU X1v U0m g6m
      refine wh h5u<|wp_ret ?_
      exact He f7u Aw q3v X4v ⟨A8u,c9u,rfl,(n0v.upd U0m q9l (by decide))⟩
theorem JW (x0:Aj) (x1:Aj) (A1:OA) (c2:Nat) (A4:OA) (c5:Nat) (w:World) (hT:TB w) (n3:RU w A1 c2 x0.m.Abs) (n6:RU w A4 c5 x1.m.Abs) (r:Aj) (hr:BD x0 x1=some r) :
  Calls prog 124 #[.agg #[.bool x0.m.Neg,.slice A1 (sz x0.m.Abs) c2,.int .i64 x0.e],.agg #[.bool x1.m.Neg,.slice A4 (sz x1.m.Abs) c5,.int .i64 x1.e]] w (Ret Jd w r):=by
 unfold BD at hr
 go_enter func124,ntmps124
 refine ws fun h7=>Ah<|sbx rfl rfl fun b8 w1 E9 g1c q7a=>?_
 refine sbx rfl rfl fun b2c w2 E3a g8a q9a=>?_
 have g3c:=nlt E9.size g8a
 have X4a:=xtr E9 E3a
 refine sal Bg fun b4c w3 E1a g0b q5a=>?_
 have g1b:=nlt X4a.size g0b
 have X0a:=xtr X4a E1a
 refine nx h7 fun h2b=>sV2 (Ak Aw rfl ((q7a.ext E3a).ext E1a) rfl) (Ak Aw rfl (q9a.ext E1a) rfl) ?_
 refine scn hr (Ac en_194 (by rfl)) (c_dyad_aligned__dyad_num_plus_1 x0 x1 A1 c2 A4 c5 w3 (tbx X0a hT) (n3.ext X0a) (n6.ext X0a)) fun r5c f3b w4 A4b c5b E2a n6b=>?_
 have X7b:=xtr X0a E2a
 refine ss BC (q5a.ext E2a) fun w5 U6a q8b=>?_
 have X9b:=belU X7b U6a g1b
 refine wh h2b<|wp_ret ?_
 have n0c:=n6b.upd U6a (q5a.ext E2a) (by decide)
 exact He f3b Aw q8b X9b ⟨A4b,c5b,rfl,n0c⟩
theorem Cu (x0:Aj) (x1:Aj) (A1:OA) (c2:Nat) (A4:OA) (c5:Nat) (w:World) (hT:TB w) (n3:RU w A1 c2 x0.m.Abs) (n6:RU w A4 c5 x1.m.Abs) (r:Int) (hr:Bb x0 x1=some r) :
  Calls prog 106 #[.agg #[.bool x0.m.Neg,.slice A1 (sz x0.m.Abs) c2,.int .i64 x0.e],.agg #[.bool x1.m.Neg,.slice A4 (sz x1.m.Abs) c5,.int .i64 x1.e]] w (Ret HY w r):=by
 unfold Bb at hr
 go_enter func106,ntmps106
 refine ws fun h7=>Ah<|sbx rfl rfl fun b8 w1 E9 g0b q5a=>?_
 refine sbx rfl rfl fun b8d w2 E1b g9d q7c=>?_
 have g3j:=nlt E9.size g9d
 have X0e:=xtr E9 E1b
 refine sV (Ab rfl) ?_
 refine wh h7<|ws fun h1e=>ws fun h2e=>DT [] 6 mo rfl fun w3 E1a S2b=>have X3b:=xtr X0e E1a;dV 0 rfl (fun _ hw=>Ak Aw rfl (((q5a.ext E1b).ext E1a).ext hw) rfl) S2b ?_
 refine dV 2 rfl (fun _ hw=>Ak Aw rfl ((q7c.ext E1a).ext hw) rfl) S2b ?_
 refine dcr hr 1 rfl (by rfl) (Ac Kq (by rfl)) (CP x0 A1 c2 w3 (tbx X3b hT) (n3.ext X3b)) fun r6a f3e w4 E7a=>?_
 have X4b:=xtr X3b E7a
 have S4e:=S2b.trans E7a
 refine dcr f3e 3 rfl (by rfl) (Ac Kq (by rfl)) (CP x1 A4 c5 w4 (tbx X4b hT) (n6.ext X4b)) fun r5e f6e w5 E8a=>?_
 have X5b:=xtr X4b E8a
 have S4j:=S4e.trans E8a
 refine dA2 4 5 rfl rfl (fun _=>Ab rfl) (fun _=>Ab rfl) ?_
 refine Cx (by kernel_rfl) ?_
 refine h2e _ _<|ws fun h7e=>Ah<|sV2 (Aa rfl) (Aa rfl) ?_
 refine sbl (Il rfl rfl) fun z8c hz8c=>?_
 refine sV (Aa rfl) ?_
 obtain ⟨m8e,h9e,f0f⟩:=Ad f6e
 refine BH 7 (fun l l' w'=>∃(t9c:Value) (t0d:Value),w5=w'∧l'=(((l.set 17 t9c).set 18 t0d).set 19 (.bool m8e))) ?_ ?_
 ·intro HJ49
  rcases zi hz8c h9e with ⟨e0a,_,f1f⟩ | ⟨e0a,_,f2f⟩
  ·refine sQ rfl e0a ?_
   refine sQ rfl e0a ?_
   refine sV (Az (evb rfl e0a) rfl) ?_
   obtain rfl:=sj f1f
   exact HJ49 _ _ ⟨uu,uu,rfl,(by kernel_rfl)⟩
  ·refine sV (Aa rfl) ?_ (hw:=wgT rfl e0a)
   refine sbl (Cy rfl rfl) (fun z6b hz6b=>?_) (hw:=wgT rfl e0a)
   refine sV (AE (evb rfl e0a) rfl) ?_
   obtain rfl:z6b=decide (r6a=0):=bz hz6b
   obtain rfl:=sj f2f
   exact HJ49 _ _ ⟨(.int .i64 r6a),(.bool (decide (r6a=0))),rfl,(by kernel_rfl)⟩
 ·rintro _ _ ⟨t9c,t0d,rfl,rfl⟩ _ rfl
  refine wh h7e ?_
  rcases zb f0f with ⟨e7b,f3f⟩ | ⟨e7b,f4f⟩
  ·refine ct e7b<|ws fun h5f=>Ah<|sV2 (Aa rfl) (Aa rfl) ?_
   refine scr f3f (Ac RA (by rfl)) (Md r6a r5e w5 (tbx X5b hT)) fun r5j f6f w6 E7f=>?_
   have X8f:=xtr X5b E7f
   refine sV (Ab rfl) ?_
   refine wh h5f<|wp_ret ?_
   exact Bn f6f X8f rfl
  ·have q8b:=(((q5a.ext E1b).ext E1a).ext E7a).ext E8a
   refine cf e7b<|wp_skip<|h1e _ _<|ws fun h9f=>ws fun h0g=>DT [] 6 mo rfl fun w6 E2a S9b=>have X0c:=xtr X5b E2a;dV 0 rfl (fun _ hw=>Ak Aw rfl ((q8b.ext E2a).ext hw) rfl) S9b ?_
   have q1d:=(((q7c.ext E1a).ext E7a).ext E8a).ext E2a
   refine dV 2 rfl (fun _ hw=>Ak Aw rfl (q1d.ext hw) rfl) S9b ?_
   refine dcr f4f 1 rfl (by rfl) (Ac MI (by rfl)) (Gg x0 A1 c2 w6 (tbx X0c hT) (n3.ext X0c)) fun r1g f2g w7 E3a=>?_
   have X1c:=xtr X0c E3a
   have S3g:=S9b.trans E3a
   refine dcr f2g 3 rfl (by rfl) (Ac MI (by rfl)) (Gg x1 A4 c5 w7 (tbx X1c hT) (n6.ext X1c)) fun r4g f5g w8 E4a=>?_
   have X9a:=xtr X1c E4a
   have S6j:=S3g.trans E4a
   refine dA2 4 5 rfl rfl (fun _=>Ab rfl) (fun _=>Ab rfl) ?_
   refine Cx (by kernel_rfl) ?_
   refine h0g _ _<|ws fun h6g=>Ah<|sV2 (Aa rfl) (Aa rfl) ?_
   refine sbl (Il rfl rfl) fun z2d hz2d=>?_
   refine wh h6g ?_
   rcases zi hz2d f5g with ⟨e2c,_,f7g⟩ | ⟨e2c,_,f8g⟩
   ·refine ct e2c<|ws fun h9g=>Ah<|have q0h:=((q8b.ext E2a).ext E3a).ext E4a;sV (Ak Aw rfl q0h rfl) ?_
    refine scr f7g (Ac Kq (by rfl)) (CP x0 A1 c2 w8 (tbx X9a hT) (n3.ext X9a)) fun r1h f2h w9 E3h=>?_
    have X3d:=xtr X9a E3h
    refine sV2 (Aa rfl) (Aa rfl) ?_
    refine scr f2h (Ac RA (by rfl)) (Md r1g r4g w9 (tbx X3d hT)) fun r4h f5h w0b E6h=>?_
    have X7h:=xtr X3d E6h
    refine sV2 (KS (c:=wi64 (r1h*r4h)) rfl rfl rfl) (Ab rfl) ?_
    refine wh h9g<|wp_ret ?_
    exact Bn f5h X7h rfl
   ·refine cf e2c<|wp_skip<|h9f _ _<|ws fun h8h=>DT [] 6 mo rfl fun w9 E3c S4c=>have X5c:=xtr X9a E3c;dV 0 rfl (fun _ hw=>Ak Aw rfl (((((q8b.ext E2a).ext E3a).ext E4a).ext E3c).ext hw) rfl) S4c ?_
    refine dV 1 rfl (fun _ hw=>Ak Aw rfl ((((q1d.ext E3a).ext E4a).ext E3c).ext hw) rfl) S4c ?_
    refine dcn f8g 2 rfl (by rfl) (Ac PY (by rfl)) (Jw x1 A4 c5 w9 (tbx X5c hT) (n6.ext X5c)) fun r9h f0i w0b A1i c2i E4d n3i=>?_
    have X6c:=xtr X5c E4d
    have S4i:=S4c.trans E4d
    refine dcn f0i 3 rfl (by rfl) (Ac Qc (by rfl)) (JW x0 r9h A1 c2 A1i c2i w0b (tbx X6c hT) (n3.ext X6c) n3i) fun r5i f6i w5a A7i c8i E5d n9i=>?_
    have X6d:=xtr X6c E5d
    have S0j:=S4i.trans E5d
    refine dcr f6i 4 rfl (by rfl) (Ac Kq (by rfl)) (CP r5i A7i c8i w5a (tbx X6d hT) n9i) fun r7j f1j w8d E7d=>?_
    have X2j:=xtr X6d E7d
    have S8j:=S0j.trans E7d
    refine dA 5 rfl (fun _=>Ab rfl) ?_
    refine Cx (by kernel_rfl) ?_
    refine h8h _ _<|wp_ret ?_
    exact Bn f1j X2j rfl
theorem KQ (x0:Am) (A1:OA) (c2:Nat) (A4:OA) (c5:Nat) (w:World) (hT:TB w) (n3:RLu w A1 c2 x0.Lo.Man.Abs) (n6:RLu w A4 c5 x0.Hi.Man.Abs) (r:Bool) (hr:Be x0=some r) :
  Calls prog 65 #[.agg #[.bool x0.Lo.Man.Neg,.slice A1 x0.Lo.Man.Abs.length c2,.int .i64 x0.Lo.Exp,.bool x0.Hi.Man.Neg,.slice A4 x0.Hi.Man.Abs.length c5,.int .i64 x0.Hi.Exp]] w (Ret Gi w r):=by
 unfold Be at hr
 go_enter func65,ntmps65
 refine ws fun h7=>Ah<|sbx rfl rfl fun b8 w1 E9 g0f q3a=>?_
 refine sV (Ab rfl) ?_
 refine wh h7<|ws fun h6a=>DT [] 19 mo rfl fun w2 E2a S2b=>have X7a:=xtr E9 E2a;dA 0 rfl (fun _=>Af (o':=0) Lp rfl rfl) ?_
 refine dV 1 rfl (fun _ hw=>dld DU ((q3a.ext E2a).ext hw)) S2b ?_
 refine dcr hr 2 rfl (by rfl) (Ac Sk (by rfl)) (Li x0.Lo A1 c2 w2 (tbx X7a hT) (n3.ext X7a)) fun r1f f3c w3 E3b=>?_
 have X4a:=xtr X7a E3b
 have S4b:=S2b.trans E3b
 refine dA 3 rfl (fun _=>Aa rfl) ?_
 rcases zb f3c with ⟨e1a,f4c⟩ | ⟨e1a,f5c⟩
 ·refine dA 4 rfl (fun _=>Af (o':=3) Lj rfl rfl) ?_ (hw:=wgT rfl e1a)
  refine dV 5 rfl (fun _ hw=>dld DU ((q3a.ext E2a).ext hw)) S4b ?_ (hw:=wgT rfl e1a)
  refine dcr f4c 6 rfl (wgT rfl e1a) (Ac Sk (by rfl)) (Li x0.Hi A4 c5 w3 (tbx X4a hT) (n6.ext X4a)) fun r2f f6c w4 E5b=>?_
  have X5a:=xtr X4a E5b
  have S8a:=S4b.trans E5b
  refine dA2 7 8 rfl rfl (fun _=>Az (evb rfl e1a) rfl) (fun _=>Aa rfl) ?_
  rcases zb f6c with ⟨e0a,f7c⟩ | ⟨e0a,f8c⟩
  ·refine dA 9 rfl (fun _=>Af (o':=0) Lp rfl rfl) ?_ (hw:=wgT rfl e0a)
   refine dV 10 rfl (fun _ hw=>dld DU ((q3a.ext E2a).ext hw)) S8a ?_ (hw:=wgT rfl e0a)
   refine dA 12 rfl (fun _=>Af (o':=3) Lj rfl rfl) ?_ (hw:=wgT rfl e0a)
   refine dV 13 rfl (fun _ hw=>dld DU ((q3a.ext E2a).ext hw)) S8a ?_ (hw:=wgT rfl e0a)
   obtain ⟨m6b,h9c,f0d⟩:=Ad f7c
   have hx7b:=Dd h9c
   have n1d:RU w4 A1 c2 m6b:=by unfold RU;rw [hx7b];exact (n3.ext X5a)
   refine dcn f0d 11 rfl (wgT rfl e0a) (Ac ML (by simp only [sz,hx7b];rfl)) (Js (⟨(⟨x0.Lo.Man.Neg,m6b⟩:Ae),x0.Lo.Exp⟩:Al) A1 c2 w4 (tbx X5a hT) n1d) fun r2d f3d w5 A4d c5d E8b n6d=>?_
   have X9a:=xtr X5a E8b
   have S7d:=S8a.trans E8b
   obtain ⟨m9b,h8d,f9d⟩:=Ad f3d
   have hx0c:=Dd h8d
   have n0e:RU w5 A4 c5 m9b:=by unfold RU;rw [hx0c];exact (n6.ext X9a)
   refine dcn f9d 14 rfl (wgT rfl e0a) (Ac ML (by simp only [sz,hx0c];rfl)) (Js (⟨(⟨x0.Hi.Man.Neg,m9b⟩:Ae),x0.Hi.Exp⟩:Al) A4 c5 w5 (tbx X9a hT) n0e) fun r1e f2e w6 A3e c4e E0b n5e=>?_
   have X1c:=xtr X9a E0b
   have S6e:=S7d.trans E0b
   refine dcr f2e 15 rfl (wgT rfl e0a) (Ac Ju (by rfl)) (Cu r2d r1e A4d c5d A3e c4e w6 (tbx X1c hT) (n6d.ext E0b) n5e) fun r7e f8e w7 E2c=>?_
   have X9e:=xtr X1c E2c
   have S3f:=S6e.trans E2c
   refine dab 16 rfl (by kernel_rfl) (fun _ _ _ h=>h) (wgT rfl e0a) (fun _=>KX rfl rfl) fun z1b hz1b=>?_
   refine dnrm ?_
   refine dA2 17 18 rfl rfl (fun _=>Az (evb rfl e0a) rfl) (fun _=>Ab rfl) ?_
   refine Cx (by kernel_rfl) ?_
   refine h6a _ _<|wp_ret ?_
   obtain rfl:z1b=decide (r7e≤0):=bz hz1b
   exact Bn f8e X9e rfl
  ·refine dP 9 rfl ?_ (hw:=wgF rfl e0a)
   refine dP 10 rfl ?_ (hw:=wgF rfl e0a)
   refine dP 11 rfl ?_ (hw:=wgF rfl e0a)
   refine dP 12 rfl ?_ (hw:=wgF rfl e0a)
   refine dP 13 rfl ?_ (hw:=wgF rfl e0a)
   refine dP 14 rfl ?_ (hw:=wgF rfl e0a)
   refine dP 15 rfl ?_ (hw:=wgF rfl e0a)
   refine dP 16 rfl ?_ (hw:=wgF rfl e0a)
   refine dA2 17 18 rfl rfl (fun _=>AE (evb rfl e0a) rfl) (fun _=>Ab rfl) ?_
   refine Cx (by kernel_rfl) ?_
   refine h6a _ _<|wp_ret ?_
   exact Bn f8c X5a rfl
 ·refine dP 4 rfl ?_ (hw:=wgF rfl e1a)
  refine dP 5 rfl ?_ (hw:=wgF rfl e1a)
  refine dP 6 rfl ?_ (hw:=wgF rfl e1a)
  refine dA2 7 8 rfl rfl (fun _=>AE (evb rfl e1a) rfl) (fun _=>Aa rfl) ?_
  refine dP 9 rfl ?_ (hw:=wgF rfl rfl)
  refine dP 10 rfl ?_ (hw:=wgF rfl rfl)
  refine dP 11 rfl ?_ (hw:=wgF rfl rfl)
  refine dP 12 rfl ?_ (hw:=wgF rfl rfl)
  refine dP 13 rfl ?_ (hw:=wgF rfl rfl)
  refine dP 14 rfl ?_ (hw:=wgF rfl rfl)
  refine dP 15 rfl ?_ (hw:=wgF rfl rfl)
  refine dP 16 rfl ?_ (hw:=wgF rfl rfl)
  refine dA2 17 18 rfl rfl (fun _=>AE (evb rfl rfl) rfl) (fun _=>Ab rfl) ?_
  refine Cx (by kernel_rfl) ?_
  refine h6a _ _<|wp_ret ?_
  exact Bn f5c X4a rfl
theorem Lc (x0_0:Am) (x0_1:Am) (bp0:Nat) (A1:OA) (c2:Nat) (A4:OA) (c5:Nat) (A7:OA) (c8:Nat) (A5a:OA) (c6a:Nat) (w:World) (hT:TB w) (n3:RLu w A1 c2 x0_0.Lo.Man.Abs) (n6:RLu w A4 c5 x0_0.Hi.Man.Abs) (n9:RLu w A7 c8 x0_1.Lo.Man.Abs) (n8b:RLu w A5a c6a x0_1.Hi.Man.Abs) (q2b:Bx w bp0 29 [.bool x0_0.Lo.Man.Neg,.slice A1 x0_0.Lo.Man.Abs.length c2,.int .i64 x0_0.Lo.Exp,.bool x0_0.Hi.Man.Neg,.slice A4 x0_0.Hi.Man.Abs.length c5,.int .i64 x0_0.Hi.Exp,.bool x0_1.Lo.Man.Neg,.slice A7 x0_1.Lo.Man.Abs.length c8,.int .i64 x0_1.Lo.Exp,.bool x0_1.Hi.Man.Neg,.slice A5a x0_1.Hi.Man.Abs.length c6a,.int .i64 x0_1.Hi.Exp]) (r:Except Int (Unit)) (hr:Ba x0_0 x0_1=some r) :
  Calls prog 162 #[.slice (some ⟨bp0,0,none⟩) 2 2] w (RetE 201 KD w r):=by
 unfold Ba at hr
 go_enter func162,ntmps162
 refine ws fun h9b=>Ah<|sV3 (Aa rfl) (AD MC rfl) (Aa rfl) ?_
 refine wh h9b ?_
 apply wp_block
 refine GO<|AW<|ws fun h0c=>Ah<|sV (HI (v:=.bool true) (Bv rfl rfl) (by rfl)) ?_
 refine wh h0c<|ws fun h1c=>ct rfl<|wp_skip<|h1c _ _<|ws fun h2c=>?_
 apply wp_block
 refine ws fun h3c=>Ah<|sV (CN (o':=0) MC EG rfl rfl (by decide) (by decide) (by decide)) ?_
 refine sV (dld BB q2b) ?_
 refine sal Gp fun b8e w1 E4c g5c q6c=>?_
 refine ss EG q6c fun w2 U7c q8c=>?_
 have F0a:=belU E4c U7c g5c
 refine wh h3c<|Ah<|sV (Ak BB rfl q8c rfl) ?_
 refine scr hr (Ac RJ (by rfl)) (KQ x0_0 A1 c2 A4 c5 w2 (tbx F0a hT) (n3.ext F0a) (n6.ext F0a)) fun r3b f9c w3 E4b=>?_
 have X1a:=xtr F0a E4b
 rcases AC f9c with ⟨r7a,h8a,f0d⟩ | ⟨r7a,h8a,rfl⟩
 ·refine scO (Ac FS (by rfl)) (Bs r3b 1 w3 (tbx X1a hT)  (.ok r7a) h8a) ?_
  rintro _ w4 E2a rfl
  refine nrm ?_
  have X5b:=xtr X1a E2a
  refine wh h2c<|Ah<|sV (AV (c:=1) rfl rfl (by decide)) ?_
  refine sV (Aa rfl) ?_
  refine AF<|AW<|ws fun h1d=>Ah<|sV (HI (v:=.bool true) (Bv rfl rfl) (by rfl)) ?_
  refine wh h1d<|ws fun h2d=>ct rfl<|wp_skip<|h2d _ _<|ws fun h3d=>?_
  apply wp_block
  refine ws fun h4d=>Ah<|sV (CN (o':=6) MC EG rfl rfl (by decide) (by decide) (by decide)) ?_
  have q5d:=((q2b.ext F0a).ext E4b).ext E2a
  refine sV (dld BB q5d) ?_
  refine sal Gp fun b9e w5 E6d g6b q7d=>?_
  have g0f:=nlt X5b.size g6b
  refine ss EG q7d fun w6 U8d q9d=>?_
  have F0e:=belU E6d U8d g6b
  have X3a:=xtr X5b F0e
  refine wh h4d<|Ah<|sV (Ak BB rfl q9d rfl) ?_
  refine scr f0d (Ac RJ (by rfl)) (KQ x0_1 A7 c8 A5a c6a w6 (tbx X3a hT) (n9.ext X3a) (n8b.ext X3a)) fun r7b f1e w7 E2e=>?_
  have X4a:=xtr X3a E2e
  rcases AC f1e with ⟨r9a,h0b,f3e⟩ | ⟨r9a,h0b,rfl⟩
  ·refine scO (Ac FS (by rfl)) (Bs r7b 1 w7 (tbx X4a hT)  (.ok r9a) h0b) ?_
   rintro _ w8 E1b rfl
   refine nrm ?_
   have X4e:=xtr X4a E1b
   refine wh h3d<|Ah<|sV (AV (c:=2) rfl rfl (by decide)) ?_
   refine sV (Aa rfl) ?_
   refine AF<|AW<|ws fun h5e=>Ah<|sV (HI (v:=.bool false) (Bv rfl rfl) (by rfl)) ?_
   refine wh h5e<|ws fun h1f=>cf rfl<|wp_exit ?_
   simp only [Exit.then,Exit.inBlock,↓reduceIte,Nat.reduceEqDiff]
   obtain rfl:=sj f3e
   exact MS rfl Res.nil (Cl X4e rfl)
  ·refine scP (Ac FS (by rfl)) (Bs r7b 1 w7 (tbx X4a hT)  (.error r9a) h0b) fun w8 E1b=>?_
   have X6e:=xtr X4a E1b
   exact ⟨rfl,AP X6e⟩
 ·refine scP (Ac FS (by rfl)) (Bs r3b 1 w3 (tbx X1a hT)  (.error r7a) h8a) fun w4 E2a=>?_
  have X7e:=xtr X1a E2a
  exact ⟨rfl,AP X7e⟩
theorem Mv (x0:Ao) (A1:OA) (c2:Nat) (A4:OA) (c5:Nat) (w:World) (hT:TB w) (n3:RU w A1 c2 x0.Lo.Man.Abs) (n6:RU w A4 c5 x0.Hi.Man.Abs) (r:An) (hr:BY x0=some r) :
  Calls prog 163 #[.agg #[.bool x0.Lo.Man.Neg,.slice A1 (sz x0.Lo.Man.Abs) c2,.int .i64 x0.Lo.Exp,.bool x0.Hi.Man.Neg,.slice A4 (sz x0.Hi.Man.Abs) c5,.int .i64 x0.Hi.Exp]] w (Ret QM w r):=by
 unfold BY at hr
 go_enter func163,ntmps163
 refine ws fun h7=>Ah<|sbx rfl rfl fun b8 w1 E9 g1d q6b=>?_
 refine sal Rl fun b2d w2 E4b g7b q8b=>?_
 have g9b:=nlt E9.size g7b
 have X0c:=xtr E9 E4b
 refine wh h7<|ws fun h1c=>DT [7] 8 mo rfl fun w3 E3a S4a=>have X5a:=xtr X0c E3a;dA 0 rfl (fun _=>Af (o':=0) Lp rfl rfl) ?_
 have q5b:=(q6b.ext E4b).ext E3a
 refine dV 1 rfl (fun _ hw=>dld DU (q5b.ext hw)) S4a ?_
 refine dA 3 rfl (fun _=>Af (o':=3) Lj rfl rfl) ?_
 refine dV 4 rfl (fun _ hw=>dld DU (q5b.ext hw)) S4a ?_
 refine dcn hr 2 rfl (by rfl) (Ac ML (by rfl)) (Js x0.Lo A1 c2 w3 (tbx X5a hT) (n3.ext X5a)) fun r0a f2c w4 A6a c7a E8a n3c=>?_
 have X9a:=xtr X5a E8a
 have S4c:=S4a.trans E8a
 refine dcn f2c 5 rfl (by rfl) (Ac ML (by rfl)) (Js x0.Hi A4 c5 w4 (tbx X9a hT) (n6.ext X9a)) fun r1a f5c w5 A0b c1b E2a n6c=>?_
 have X7c:=xtr X9a E2a
 have S3d:=S4c.trans E2a
 refine dA 6 rfl (fun _=>AL (vals:=[(0,.agg #[.bool r0a.m.Neg,.slice A6a (sz r0a.m.Abs) c7a,.int .i64 r0a.e]),(1,.agg #[.bool r1a.m.Neg,.slice A0b (sz r1a.m.Abs) c1b,.int .i64 r1a.e])]) (cells:=[.bool r0a.m.Neg,.slice A6a (sz r0a.m.Abs) c7a,.int .i64 r0a.e,.bool r1a.m.Neg,.slice A0b (sz r1a.m.Abs) c1b,.int .i64 r1a.e]) (by rfl) (by kernel_rfl)) ?_
 have q2b:=((q8b.ext E3a).ext E8a).ext E2a
 refine dkk 7 Rq q2b fun w6 U3b q8c=>?_
 have X9c:=belU X7c U3b g9b
 refine Cx (by kernel_rfl) ?_
 refine h1c _ _<|wp_ret ?_
 have n0d:=(n3c.ext E2a).upd U3b q2b (by decide)
 exact He f5c Ln q8c X9c ⟨A6a,c7a,A0b,c1b,rfl,n0d,(n6c.upd U3b q2b (by decide))⟩
theorem c_wide_Int_Mul (x0:Ae) (x1:Ae) (A1:OA) (c2:Nat) (A4:OA) (c5:Nat) (w:World) (hT:TB w) (n3:RU w A1 c2 x0.Abs) (n6:RU w A4 c5 x1.Abs) (r:Ae) (hr:IW x0 x1=some r) :
  Calls prog 193 #[.agg #[.bool x0.Neg,.slice A1 (sz x0.Abs) c2],.agg #[.bool x1.Neg,.slice A4 (sz x1.Abs) c5]] w (Ret Ng w r):=by
 unfold IW at hr
 go_enter func193,ntmps193
 refine ws fun h7=>Ah<|sbx rfl rfl fun b8 w1 E9 g9c q5b=>?_
 refine sbx rfl rfl fun b0d w2 E8a g6b q7b=>?_
 have g1d:=nlt E9.size g6b
 have X9a:=xtr E9 E8a
 refine sal HG fun b2d w3 E4a g8b q9b=>?_
 have g0c:=nlt X9a.size g8b
 have X1c:=xtr X9a E4a
 refine wh h7<|ws fun h2c=>DT [11] 12 mo rfl fun w4 E2a S0a=>have X3a:=xtr X1c E2a;dA 0 rfl (fun _=>Af (o':=0) Eg rfl rfl) ?_
 have q0b:=((q5b.ext E8a).ext E4a).ext E2a
 refine dV 1 rfl (fun _ hw=>Ag Gy rfl (Bx.cell (q0b.ext hw) rfl)) S0a ?_
 refine dA 2 rfl (fun _=>Af (o':=0) Eg rfl rfl) ?_
 have q1b:=(q7b.ext E4a).ext E2a
 refine dV 3 rfl (fun _ hw=>Ag Gy rfl (Bx.cell (q1b.ext hw) rfl)) S0a ?_
 refine dab 4 rfl (by kernel_rfl) (fun _ _ _ h=>h) (by rfl) (fun _=>PV Qw rfl rfl) fun z1a hz1a=>?_
 refine dnrm ?_
 refine dA 5 rfl (fun _=>Af (o':=1) Bm rfl rfl) ?_
 refine dV 6 rfl (fun _ hw=>Ag CZ rfl (Bx.cell (q0b.ext hw) rfl)) S0a ?_
 refine dA 7 rfl (fun _=>Af (o':=1) Bm rfl rfl) ?_
 refine dV 8 rfl (fun _ hw=>Ag CZ rfl (Bx.cell (q1b.ext hw) rfl)) S0a ?_
 refine dcn hr 9 rfl (by rfl) (Ac RW (by rfl)) (IR x0.Abs x1.Abs A1 c2 A4 c5 w4 (tbx X3a hT) (n3.ext X3a) (n6.ext X3a)) fun r2b f3c w5 A5a c6a E7a n4c=>?_
 have X5c:=xtr X3a E7a
 have S3d:=S0a.trans E7a
 refine dA 10 rfl (fun _=>AL (vals:=[(0,.bool z1a),(1,.slice A5a (sz r2b) c6a)]) (cells:=[.bool z1a,.slice A5a (sz r2b) c6a]) (by rfl) (by kernel_rfl)) ?_
 have q3b:=(q9b.ext E2a).ext E7a
 refine dkk 11 Hu q3b fun w6 U4b q6c=>?_
 have X7c:=belU X5c U4b g0c
 refine Cx (by kernel_rfl) ?_
 refine h2c _ _<|wp_ret ?_
 obtain rfl:z1a=decide (¬x0.Neg=x1.Neg):=bz hz1a
 have n8c:=n4c.upd U4b q3b (by decide)
 exact He f3c EI q6c X7c ⟨A5a,c6a,rfl,n8c⟩
theorem Ii (x0:Aj) (x1:Aj) (A1:OA) (c2:Nat) (A4:OA) (c5:Nat) (w:World) (hT:TB w) (n3:RU w A1 c2 x0.m.Abs) (n6:RU w A4 c5 x1.m.Abs) (r:Aj) (hr:CV x0 x1=some r) :
  Calls prog 117 #[.agg #[.bool x0.m.Neg,.slice A1 (sz x0.m.Abs) c2,.int .i64 x0.e],.agg #[.bool x1.m.Neg,.slice A4 (sz x1.m.Abs) c5,.int .i64 x1.e]] w (Ret Jd w r):=by
 unfold CV at hr
 go_enter func117,ntmps117
 refine ws fun h7=>Ah<|sbx rfl rfl fun b8 w1 E9 g4d q3b=>?_
 refine sbx rfl rfl fun b5d w2 E6a g4b q5b=>?_
 have g6d:=nlt E9.size g4b
 have X7a:=xtr E9 E6a
 refine sal Bg fun b7d w3 E3a g6b q7b=>?_
 have g8b:=nlt X7a.size g6b
 have X9b:=xtr X7a E3a
 refine wh h7<|ws fun h0c=>DT [11] 12 mo rfl fun w4 E1a S0a=>have X2a:=xtr X9b E1a;dA 0 rfl (fun _=>Af (o':=0) BJ rfl rfl) ?_
 have q8a:=((q3b.ext E6a).ext E3a).ext E1a
 refine dV 1 rfl (fun _ hw=>dld EI (q8a.ext hw)) S0a ?_
 refine dA 2 rfl (fun _=>Af (o':=0) BJ rfl rfl) ?_
 have q9a:=(q5b.ext E3a).ext E1a
 refine dV 3 rfl (fun _ hw=>dld EI (q9a.ext hw)) S0a ?_
 refine dA 5 rfl (fun _=>Af (o':=2) CK rfl rfl) ?_
 refine dV 6 rfl (fun _ hw=>Ag GR rfl (Bx.cell (q8a.ext hw) rfl)) S0a ?_
 refine dA 7 rfl (fun _=>Af (o':=2) CK rfl rfl) ?_
 refine dV 8 rfl (fun _ hw=>Ag GR rfl (Bx.cell (q9a.ext hw) rfl)) S0a ?_
 refine dA 9 rfl (fun _=>AV (c:=wi64 (x0.e+x1.e)) rfl rfl rfl) ?_
 refine dcn hr 4 rfl (by rfl) (Ac en_193 (by rfl)) (c_wide_Int_Mul x0.m x1.m A1 c2 A4 c5 w4 (tbx X2a hT) (n3.ext X2a) (n6.ext X2a)) fun r1c f2c w5 A3c c4c E4a n5c=>?_
 have X0b:=xtr X2a E4a
 have S6c:=S0a.trans E4a
 refine dcn f2c 10 rfl (by rfl) (Ac MF (by rfl)) (GL r1c (wi64 (x0.e+x1.e)) A3c c4c w5 (tbx X0b hT) n5c) fun r8d f7c w6 A8c c9c E5a n0d=>?_
 have X1d:=xtr X0b E5a
 have S9d:=S6c.trans E5a
 have q1b:=((q7b.ext E1a).ext E4a).ext E5a
 refine dkk 11 BC q1b fun w7 U2b q2d=>?_
 have X3d:=belU X1d U2b g8b
 refine Cx (by kernel_rfl) ?_
 refine h0c _ _<|wp_ret ?_
 exact He f7c Aw q2d X3d ⟨A8c,c9c,rfl,(n0d.upd U2b q1b (by decide))⟩
theorem c_dyad_span_outward (x0:An) (x1:Int) (A1:OA) (c2:Nat) (A4:OA) (c5:Nat) (w:World) (hT:TB w) (n3:RU w A1 c2 x0.lo.m.Abs) (n6:RU w A4 c5 x0.hi.m.Abs) (r:An) (hr:GU x0 x1=some r) :
  Calls prog 118 #[.agg #[.bool x0.lo.m.Neg,.slice A1 (sz x0.lo.m.Abs) c2,.int .i64 x0.lo.e,.bool x0.hi.m.Neg,.slice A4 (sz x0.hi.m.Abs) c5,.int .i64 x0.hi.e],.int .i64 x1] w (Ret QM w r):=by
 unfold GU at hr
 go_enter func118,ntmps118
 refine ws fun h7=>Ah<|sbx rfl rfl fun b8 w1 E9 g1d q6b=>?_
 refine sal Rl fun b2d w2 E4b g7b q8b=>?_
 have g9b:=nlt E9.size g7b
 have X0c:=xtr E9 E4b
 refine wh h7<|ws fun h1c=>DT [9] 10 mo rfl fun w3 E3a S4a=>have X5a:=xtr X0c E3a;dA 0 rfl (fun _=>Af (o':=0) CM rfl rfl) ?_
 have q5b:=(q6b.ext E4b).ext E3a
 refine dV 1 rfl (fun _ hw=>dld Aw (q5b.ext hw)) S4a ?_
 refine dA2 2 4 rfl rfl (fun _=>Aa rfl) (fun _=>Af (o':=3) Da rfl rfl) ?_
 refine dV 5 rfl (fun _ hw=>dld Aw (q5b.ext hw)) S4a ?_
 refine dA 6 rfl (fun _=>Aa rfl) ?_
 refine dcn hr 3 rfl (by rfl) (Ac LA (by rfl)) (DC x0.lo x1 5 false A1 c2 w3 (tbx X5a hT) (n3.ext X5a)) fun r0a f2c w4 A6a c7a E8a n3c=>?_
 have X9a:=xtr X5a E8a
 have S4c:=S4a.trans E8a
 refine dcn f2c 7 rfl (by rfl) (Ac LA (by rfl)) (DC x0.hi x1 4 false A4 c5 w4 (tbx X9a hT) (n6.ext X9a)) fun r1a f5c w5 A0b c1b E2a n6c=>?_
 have X7c:=xtr X9a E2a
 have S3d:=S4c.trans E2a
 refine dA 8 rfl (fun _=>AL (vals:=[(0,.agg #[.bool r0a.m.Neg,.slice A6a (sz r0a.m.Abs) c7a,.int .i64 r0a.e]),(1,.agg #[.bool r1a.m.Neg,.slice A0b (sz r1a.m.Abs) c1b,.int .i64 r1a.e])]) (cells:=[.bool r0a.m.Neg,.slice A6a (sz r0a.m.Abs) c7a,.int .i64 r0a.e,.bool r1a.m.Neg,.slice A0b (sz r1a.m.Abs) c1b,.int .i64 r1a.e]) (by rfl) (by kernel_rfl)) ?_
 have q2b:=((q8b.ext E3a).ext E8a).ext E2a
 refine dkk 9 Rq q2b fun w6 U3b q8c=>?_
 have X9c:=belU X7c U3b g9b
 refine Cx (by kernel_rfl) ?_
 refine h1c _ _<|wp_ret ?_
 have n0d:=(n3c.ext E2a).upd U3b q2b (by decide)
 exact He f5c Ln q8c X9c ⟨A6a,c7a,A0b,c1b,rfl,n0d,(n6c.upd U3b q2b (by decide))⟩
theorem BS (x0:An) (A1:OA) (c2:Nat) (A4:OA) (c5:Nat) (w:World) (hT:TB w) (n3:RU w A1 c2 x0.lo.m.Abs) (n6:RU w A4 c5 x0.hi.m.Abs) (r:Except Int (Ao)) (hr:Cp x0=some r) :
  Calls prog 107 #[.agg #[.bool x0.lo.m.Neg,.slice A1 (sz x0.lo.m.Abs) c2,.int .i64 x0.lo.e,.bool x0.hi.m.Neg,.slice A4 (sz x0.hi.m.Abs) c5,.int .i64 x0.hi.e]] w (RetE 201 Ld w r):=by
 unfold Cp at hr
 go_enter func107,ntmps107
 refine ws fun h7=>Ah<|sbx rfl rfl fun b8 w1 E9 g5d q8b=>?_
 refine sal Gp fun b6d w2 E6b g9b q0c=>?_
 have g1c:=nlt E9.size g9b
 have X2c:=xtr E9 E6b
 refine wh h7<|ws fun h3c=>DT [7] 8 mo rfl fun w3 E6a S7a=>have X2a:=xtr X2c E6a;dA 0 rfl (fun _=>Af (o':=0) CM rfl rfl) ?_
 have q7b:=(q8b.ext E6b).ext E6a
 refine dV 1 rfl (fun _ hw=>dld Aw (q7b.ext hw)) S7a ?_
 refine dA 3 rfl (fun _=>Af (o':=3) Da rfl rfl) ?_
 refine dV 4 rfl (fun _ hw=>dld Aw (q7b.ext hw)) S7a ?_
 rcases AC hr with ⟨r0a,h8a,f4c⟩ | ⟨r0a,h8a,rfl⟩
 ·refine dcO 2 rfl (by kernel_rfl) (by rfl) (Ac LY (by rfl)) (FB x0.lo A1 c2 w3 (tbx X2a hT) (n3.ext X2a) (.ok r0a) h8a) ?_
  rintro _ w4 E5a ⟨A9a,c0b,rfl,n5c⟩
  refine dnrm ?_
  have X3a:=xtr X2a E5a
  have S6c:=S7a.trans E5a
  rcases AC f4c with ⟨r1a,h1b,f7c⟩ | ⟨r1a,h1b,rfl⟩
  ·refine dcO 5 rfl (by kernel_rfl) (by rfl) (Ac LY (by rfl)) (FB x0.hi A4 c5 w4 (tbx X3a hT) (n6.ext X3a) (.ok r1a) h1b) ?_
   rintro _ w5 E4a ⟨A2b,c3b,rfl,n8c⟩
   refine dnrm ?_
   have X9c:=xtr X3a E4a
   have S7d:=S6c.trans E4a
   refine dA 6 rfl (fun _=>AL (vals:=[(0,.agg #[.bool r0a.Man.Neg,.slice A9a (sz r0a.Man.Abs) c0b,.int .i64 r0a.Exp]),(1,.agg #[.bool r1a.Man.Neg,.slice A2b (sz r1a.Man.Abs) c3b,.int .i64 r1a.Exp])]) (cells:=[.bool r0a.Man.Neg,.slice A9a (sz r0a.Man.Abs) c0b,.int .i64 r0a.Exp,.bool r1a.Man.Neg,.slice A2b (sz r1a.Man.Abs) c3b,.int .i64 r1a.Exp]) (by rfl) (by kernel_rfl)) ?_
   have q4b:=((q0c.ext E6a).ext E5a).ext E4a
   refine dkk 7 EG q4b fun w6 U5b q0d=>?_
   have X1d:=belU X9c U5b g1c
   refine Cx (by kernel_rfl) ?_
   refine h3c _ _<|wp_ret ?_
   have n2d:=(n5c.ext E4a).upd U5b q4b (by decide)
   exact Gd f7c rfl (Res.cellN rfl BB q0d rfl rfl Res.nil) (Cl X1d ⟨A9a,c0b,A2b,c3b,rfl,n2d,(n8c.upd U5b q4b (by decide))⟩)
  ·refine dcP 5 rfl (by kernel_rfl) (by rfl) (Ac LY (by rfl)) (FB x0.hi A4 c5 w4 (tbx X3a hT) (n6.ext X3a) (.error r1a) h1b) fun w5 E4a=>?_
   have X3d:=xtr X3a E4a
   exact ⟨rfl,AP X3d⟩
 ·refine dcP 2 rfl (by kernel_rfl) (by rfl) (Ac LY (by rfl)) (FB x0.lo A1 c2 w3 (tbx X2a hT) (n3.ext X2a) (.error r0a) h8a) fun w4 E5a=>?_
  have X4d:=xtr X2a E5a
  exact ⟨rfl,AP X4d⟩
end Go.Proofs

