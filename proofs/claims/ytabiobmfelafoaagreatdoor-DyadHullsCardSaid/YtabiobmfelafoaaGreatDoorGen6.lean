import Derived.Test.YtabiobmfelafoaaGreatDoorGen5
namespace Go.Proofs
set_option linter.unusedVariables false
set_option linter.unusedSimpArgs false
set_option maxHeartbeats 4000000
open Go.RowKit Go.Sb Go.Proofs.Sbn
theorem Mf (x0:Ap) (x1:Ap) (x2:Int) (A1:Option Addr) (c2:Nat) (A4:Option Addr) (c5:Nat) (A7:Option Addr) (c8:Nat) (A8a:Option Addr) (c9a:Nat) (w:World) (hT:TB w) (n3:RU w A1 c2 x0.lo.m.Abs) (n6:RU w A4 c5 x0.hi.m.Abs) (n9:RU w A7 c8 x1.lo.m.Abs) (n1d:RU w A8a c9a x1.hi.m.Abs) (r:Except Int (Al)) (hr:Hu x0 x1 x2=some r) :
  Calls Tryz.prog 164 #[.agg #[.bool x0.lo.m.Neg,.slice A1 (sz x0.lo.m.Abs) c2,.int .i64 x0.lo.e,.bool x0.hi.m.Neg,.slice A4 (sz x0.hi.m.Abs) c5,.int .i64 x0.hi.e],.agg #[.bool x1.lo.m.Neg,.slice A7 (sz x1.lo.m.Abs) c8,.int .i64 x1.lo.e,.bool x1.hi.m.Neg,.slice A8a (sz x1.hi.m.Abs) c9a,.int .i64 x1.hi.e],.int .i64 x2] w (RetE 201 KA w r):=by
 unfold Hu at hr
 go_enter Tryz.func164,Tryz.ntmps164
 refine wp_seq_k fun _ h1f=>Af<|Bm rfl rfl fun b7a w1 E2d g4b q0b=>?_
 refine nrm ?_
 refine Bm rfl rfl fun b3d w2 E1b g4d q2c=>?_
 refine nrm ?_
 have g9i:=nlt E2d.size g4d
 have X5d:=xtr E2d E1b
 refine Ax Cv fun b0j w3 E2a g2f q6d=>?_
 refine nrm ?_
 have g3f:=nlt X5d.size g2f
 have X5b:=xtr X5d E2a
 refine wh h1f<|wp_seq_k fun _ h4f=>wp_seq_k fun _ h5f=>Af<|sV2 (Ah (o':=0) Cl rfl rfl) (dld Aw (q2c.ext E2a)) ?_
 refine sV2 (Ah (o':=0) Cl rfl rfl) (dld Aw ((q0b.ext E1b).ext E2a)) ?_
 refine scr hr (Ad HJ (by rfl)) (BN x1.lo x0.lo A7 c8 A1 c2 w3 (tbx X5b hT) (n9.ext X5b) (n3.ext X5b)) fun r1j f6f w4 E3a=>?_
 have X6b:=xtr X5b E3a
 refine sb (Cn rfl rfl) fun z7d hz7d=>?_
 refine nrm ?_
 refine wh h5f ?_
 obtain ⟨m0a,h7f,f8f⟩:=Ac f6f
 refine Dm (fun l l' w'=>∃(t8d:Value) (t9d:Value) (t0e:Value) (A4a:Option Addr) (c5a:Nat),UpdS [b7a] w4 w'∧Bx w' b7a 121 [.bool m0a.1,.slice A4a (sz m0a.2.1) c5a,.int .i64 m0a.2.2,.bool x0.hi.m.Neg,.slice A4 (sz x0.hi.m.Abs) c5,.int .i64 x0.hi.e]∧RU w' A4a c5a m0a.2.1∧l'=(((l.set 13 t8d).set 14 t9d).set 15 t0e)) ?_ ?_
 ·rcases zi hz7d h7f with ⟨e3c,_,f9f⟩ | ⟨e3c,_,f0g⟩
  ·refine wp_cond_true (Ak (evb rfl e3c))<|Af<|sV2 (Ah (o':=0) Cl rfl rfl) (dld Aw ((q2c.ext E2a).ext E3a)) ?_
   refine sV (Ah (o':=0) Cl rfl rfl) ?_
   have q1g:=((q0b.ext E1b).ext E2a).ext E3a
   refine ss BO q1g fun w5 U1e q2g=>?_
   have X3g:=belU X6b U1e g4b
   refine AK ?_
   obtain rfl:=sj f9f
   exact ⟨_,rfl,(.pointer (some ⟨b3d,0,none⟩)),(.agg #[.bool x1.lo.m.Neg,.slice A7 (sz x1.lo.m.Abs) c8,.int .i64 x1.lo.e]),(.pointer (some ⟨b7a,0,none⟩)),A7,c8,((UpdS.refl _ _).upd U1e (.inl im0)),q2g,(n9.ext X3g),(by kernel_rfl)⟩
  ·refine wp_cond_false (Ak (evb rfl e3c))<|wp_skip ?_
   have q4g:=((q0b.ext E1b).ext E2a).ext E3a
   obtain rfl:=sj f0g
   exact ⟨_,rfl,uu,uu,uu,A1,c2,(UpdS.refl _ _),q4g,(n3.ext X6b),(by kernel_rfl)⟩
 ·rintro l' w5 ⟨t8d,t9d,t0e,A4a,c5a,U4c,q7b,n5g,hq'⟩ l'' hl
  rw [hq'] at hl
  clear hq'
  simp only [S0,S1] at hl
  subst hl
  have X8b:=Jf X6b U4c (X6b).size (alc g4b al0)
  refine h4f _ _<|wp_seq_k fun _ h6g=>wp_seq_k fun _ h7g=>Af<|sV (Ah (o':=3) Cw rfl rfl) ?_
  have ne8g:=(Bx.ne q0b g4d).symm
  have q2e:=((q2c.ext E2a).ext E3a).updS U4c (nmc ne8g nm0)
  refine sV (dld Aw q2e) ?_
  refine sV2 (Ah (o':=3) Cw rfl rfl) (dld Aw q7b) ?_
  refine scr f8f (Ad HJ (by rfl)) (BN x1.hi x0.hi A8a c9a A4 c5 w5 (tbx X8b hT) (n1d.ext X8b) (n6.ext X8b)) fun r2j f9g w6 E6a=>?_
  have X9b:=xtr X8b E6a
  refine sb (Gm rfl rfl) fun z3e hz3e=>?_
  refine nrm ?_
  refine wh h7g ?_
  obtain ⟨m1a,h0h,f1h⟩:=Ac f9g
  refine Dm (fun l l' w'=>∃(t4e:Value) (t5e:Value) (t6e:Value) (A2b:Option Addr) (c3b:Nat),UpdS [b7a] w6 w'∧Bx w' b7a 121 [.bool m0a.1,.slice A4a (sz m0a.2.1) c5a,.int .i64 m0a.2.2,.bool m1a.1,.slice A2b (sz m1a.2.1) c3b,.int .i64 m1a.2.2]∧RU w' A2b c3b m1a.2.1∧l'=(((l.set 22 t4e).set 23 t5e).set 24 t6e)) ?_ ?_
  ·rcases zi hz3e h0h with ⟨e5c,_,f2h⟩ | ⟨e5c,_,f3h⟩
   ·refine wp_cond_true (Ak (evb rfl e5c))<|Af<|sV2 (Ah (o':=3) Cw rfl rfl) (dld Aw (q2e.ext E6a)) ?_
    refine sV (Ah (o':=3) Cw rfl rfl) ?_
    refine ss BO (q7b.ext E6a) fun w7 U7e q4h=>?_
    have X5h:=belU X9b U7e g4b
    refine AK ?_
    obtain rfl:=sj f2h
    exact ⟨_,rfl,(.pointer (some ⟨b3d,3,none⟩)),(.agg #[.bool x1.hi.m.Neg,.slice A8a (sz x1.hi.m.Abs) c9a,.int .i64 x1.hi.e]),(.pointer (some ⟨b7a,3,none⟩)),A8a,c9a,((UpdS.refl _ _).upd U7e (.inl im0)),q4h,(n1d.ext X5h),(by kernel_rfl)⟩
   ·refine wp_cond_false (Ak (evb rfl e5c))<|wp_skip ?_
    obtain rfl:=sj f3h
    exact ⟨_,rfl,uu,uu,uu,A4,c5,(UpdS.refl _ _),(q7b.ext E6a),(n6.ext X9b),(by kernel_rfl)⟩
  ·rintro l' w7 ⟨t4e,t5e,t6e,A2b,c3b,U6c,q6h,n8e,hq'⟩ l'' hl
   rw [hq'] at hl
   clear hq'
   simp only [S0,S1] at hl
   subst hl
   have X0c:=Jf X9b U6c (X9b).size (alc g4b al0)
   refine h6g _ _<|wp_seq_k fun _ h7h=>Af<|sV (Am Kz rfl q6h rfl) ?_
   have n9e:RU w7 A4a c5a m0a.2.1:=(n5g.ext E6a).updS U6c (alc ⟨_,_,by decide,q7b.ext E6a⟩ al0)
   rcases AF f1h with ⟨r7c,h8c,f8h⟩ | ⟨r7c,h8c,rfl⟩
   ·refine scO (Ad IZ (by rfl)) (BX (⟨(⟨(⟨m0a.1,m0a.2.1⟩:Ae),m0a.2.2⟩:An),(⟨(⟨m1a.1,m1a.2.1⟩:Ae),m1a.2.2⟩:An)⟩:Ap) A4a c5a A2b c3b w7 (tbx X0c hT) n9e n8e (.ok r7c) h8c) ?_
    rintro _ w8 E1c ⟨A9h,c0i,A1i,c2i,rfl,n3i,n4i⟩
    refine nrm ?_
    have X5i:=xtr X0c E1c
    have ne0f:=(Bx.neT (q6d.ext E3a) (((q0b.ext E1b).ext E2a).ext E3a) (by decide))
    have q9c:=((((q6d.ext E3a).updS U4c (nmc ne0f nm0)).ext E6a).updS U6c (nmc ne0f nm0)).ext E1c
    refine ss Bp q9c fun w9 U0d q6i=>?_
    have X7i:=belU X5i U0d g3f
    refine wh h7h<|wp_ret ?_
    exact CV f8h rfl (Res.cellN rfl AI q6i rfl rfl Res.nil) (DC X7i ⟨A9h,c0i,A1i,c2i,rfl,(n3i.upd U0d q9c (by decide)),(n4i.upd U0d q9c (by decide))⟩)
   ·refine scP (Ad IZ (by rfl)) (BX (⟨(⟨(⟨m0a.1,m0a.2.1⟩:Ae),m0a.2.2⟩:An),(⟨(⟨m1a.1,m1a.2.1⟩:Ae),m1a.2.2⟩:An)⟩:Ap) A4a c5a A2b c3b w7 (tbx X0c hT) n9e n8e (.error r7c) h8c) fun w8 E1c=>?_
    have X8i:=xtr X0c E1c
    exact ⟨rfl,BK X8i⟩
theorem c_dyad_made_Span__dyad_Hull_1 (x0:Ao) (x1:Ao) (x2:Int) (A1:Option Addr) (c2:Nat) (A4:Option Addr) (c5:Nat) (A7:Option Addr) (c8:Nat) (A6a:Option Addr) (c8a:Nat) (w:World) (hT:TB w) (n3:RLu w A1 c2 x0.Lo.Man.Abs) (n6:RLu w A4 c5 x0.Hi.Man.Abs) (n9:RLu w A7 c8 x1.Lo.Man.Abs) (n4b:RLu w A6a c8a x1.Hi.Man.Abs) (r:Al × Int) (hr:DT x0 x1 x2=some r) :
  Calls Tryz.prog 100 #[.agg #[.bool x0.Lo.Man.Neg,.slice A1 x0.Lo.Man.Abs.length c2,.int .i64 x0.Lo.Exp,.bool x0.Hi.Man.Neg,.slice A4 x0.Hi.Man.Abs.length c5,.int .i64 x0.Hi.Exp],.agg #[.bool x1.Lo.Man.Neg,.slice A7 x1.Lo.Man.Abs.length c8,.int .i64 x1.Lo.Exp,.bool x1.Hi.Man.Neg,.slice A6a x1.Hi.Man.Abs.length c8a,.int .i64 x1.Hi.Exp],.int .i64 x2,.func (.func 164) #[] #[]] w (Ret FC w r):=by
 unfold DT at hr
 obtain ⟨q0,hq0,hr0⟩:=Ac hr
 unfold EX at hq0
 go_enter_defers Tryz.func100,Tryz.ntmps100
 refine wp_seq_k fun _ h4e=>Af<|Bm rfl rfl fun b9l w1 E5e g0m q7g=>?_
 refine nrm ?_
 refine Bm rfl rfl fun b1m w2 E6e g8g q7e=>?_
 refine nrm ?_
 have g2m:=nlt E5e.size g8g
 have X8e:=xtr E5e E6e
 refine Ax Cv fun b5b w3 E6b g9g q7b=>?_
 refine nrm ?_
 have g8b:=nlt X8e.size g9g
 have X9e:=xtr X8e E6b
 refine Ax Jk fun b9b w4 E0b g0h q3b=>?_
 refine nrm ?_
 have g0c:=nlt X9e.size g0h
 have X0f:=xtr X9e E0b
 refine wh h4e<|wp_seq_k fun _ h1h=>Af<|Hw (vs:=[.pointer (some ⟨b5b,0,none⟩),.pointer (some ⟨b9b,0,none⟩)]) (by rfl) (by rfl)<|wh h1h<|wp_seq_k fun _ h2h=>Af<|have q1f:=((q7g.ext E6e).ext E6b).ext E0b;sV2 (Am AI rfl q1f rfl) (Am AI rfl ((q7e.ext E6b).ext E0b) rfl) ?_
 refine CI (vals:=[(0,.agg #[.bool x0.Lo.Man.Neg,.slice A1 x0.Lo.Man.Abs.length c2,.int .i64 x0.Lo.Exp,.bool x0.Hi.Man.Neg,.slice A4 x0.Hi.Man.Abs.length c5,.int .i64 x0.Hi.Exp]),(1,.agg #[.bool x1.Lo.Man.Neg,.slice A7 x1.Lo.Man.Abs.length c8,.int .i64 x1.Lo.Exp,.bool x1.Hi.Man.Neg,.slice A6a x1.Hi.Man.Abs.length c8a,.int .i64 x1.Hi.Exp])]) (cs:=[.bool x0.Lo.Man.Neg,.slice A1 x0.Lo.Man.Abs.length c2,.int .i64 x0.Lo.Exp,.bool x0.Hi.Man.Neg,.slice A4 x0.Hi.Man.Abs.length c5,.int .i64 x0.Hi.Exp,.bool x1.Lo.Man.Neg,.slice A7 x1.Lo.Man.Abs.length c8,.int .i64 x1.Lo.Exp,.bool x1.Hi.Man.Neg,.slice A6a x1.Hi.Man.Abs.length c8a,.int .i64 x1.Hi.Exp]) Jn Bp Cv (by rfl) (by decide) (by kernel_rfl) fun b2f w5 E3a g3h q3f=>?_
 refine nrm ?_
 have g3m:=nlt X0f.size g3h
 have X4a:=xtr X0f E3a
 rcases AF hq0 with ⟨r1c,h9d,f4h⟩ | ⟨r1c,h9d,rfl⟩
 ·refine scO (Ad It (by rfl)) (BP x0 x1 b2f A1 c2 A4 c5 A7 c8 A6a c8a w5 (tbx X4a hT) (n3.ext X4a) (n6.ext X4a) (n9.ext X4a) (n4b.ext X4a) q3f (.ok r1c) h9d) ?_
  rintro _ w6 E2a rfl
  refine nrm ?_
  have X2c:=xtr X4a E2a
  refine wh h2h<|wp_seq_k fun _ h5h=>Af<|sV (Aa rfl) ?_
  rcases AF f4h with ⟨r3c,h0e,f6h⟩ | ⟨r3c,h0e,rfl⟩
  ·refine scO (Ad Ip (by rfl)) (Dj x2 w6 (tbx X2c hT)  (.ok r3c) h0e) ?_
   rintro _ w7 E5a rfl
   refine nrm ?_
   have X7h:=xtr X2c E5a
   refine wh h5h<|wp_seq_k fun _ h8h=>DK [7,8] 9 mo rfl fun w8 E1b S1e=>?_
   have X4c:=xtr X7h E1b
   refine dA 0 rfl (fun _=>Aa rfl) ?_ (hQ:=fun _ _ _ h=>dq (rs:=[.cell 8 29,.cell 9 33]) rfl (by decide) h)
   refine dV 1 rfl (fun _ hw=>Am AI rfl (((((q1f.ext E3a).ext E2a).ext E5a).ext E1b).ext hw) rfl) S1e ?_ (hQ:=fun _ _ _ h=>dq (rs:=[.cell 8 29,.cell 9 33]) rfl (by decide) h)
   refine dV 3 rfl (fun _ hw=>Am AI rfl (((((((q7e.ext E6b).ext E0b).ext E3a).ext E2a).ext E5a).ext E1b).ext hw) rfl) S1e ?_ (hQ:=fun _ _ _ h=>dq (rs:=[.cell 8 29,.cell 9 33]) rfl (by decide) h)
   refine dA 5 rfl (fun _=>Aa rfl) ?_ (hQ:=fun _ _ _ h=>dq (rs:=[.cell 8 29,.cell 9 33]) rfl (by decide) h)
   obtain ⟨m4f,h9h,f0i⟩:=Ac f6h
   have hx5f:=AU h9h
   have n1i:RU w8 A1 c2 m4f:=by unfold RU;rw [hx5f];exact (n3.ext X4c)
   obtain ⟨m6f,h2i,f3i⟩:=Ac f0i
   have hx7f:=AU h2i
   have n4i:RU w8 A4 c5 m6f:=by unfold RU;rw [hx7f];exact (n6.ext X4c)
   obtain ⟨r0a,h5i,f6i⟩:=Ac f3i
   refine dc 2 rfl (by kernel_rfl) (by rfl) (Ad IY (by simp only [sz,hx5f,hx7f];rfl)) (CN (⟨(⟨(⟨x0.Lo.Man.Neg,m4f⟩:Ae),x0.Lo.Exp⟩:Ag),(⟨(⟨x0.Hi.Man.Neg,m6f⟩:Ae),x0.Hi.Exp⟩:Ag)⟩:Al) A1 c2 A4 c5 w8 (tbx X4c hT) n1i n4i r0a h5i) ?_
   rintro _ w9 E2b ⟨A5c,c6c,A7c,c8c,rfl,n8f,n9f⟩
   refine dnrm ?_
   have X9c:=xtr X4c E2b
   have S7i:=S1e.trans E2b
   obtain ⟨m0g,h8i,f9i⟩:=Ac f6i
   have hx1g:=AU h8i
   have n0j:RU w9 A7 c8 m0g:=by unfold RU;rw [hx1g];exact (n9.ext X9c)
   obtain ⟨m2g,h1j,f2j⟩:=Ac f9i
   have hx3g:=AU h1j
   have n3j:RU w9 A6a c8a m2g:=by unfold RU;rw [hx3g];exact (n4b.ext X9c)
   obtain ⟨r1a,h4j,f5j⟩:=Ac f2j
   refine dc 4 rfl (by kernel_rfl) (by rfl) (Ad IY (by simp only [sz,hx1g,hx3g];rfl)) (CN (⟨(⟨(⟨x1.Lo.Man.Neg,m0g⟩:Ae),x1.Lo.Exp⟩:Ag),(⟨(⟨x1.Hi.Man.Neg,m2g⟩:Ae),x1.Hi.Exp⟩:Ag)⟩:Al) A7 c8 A6a c8a w9 (tbx X9c hT) n0j n3j r1a h4j) ?_
   rintro _ w6a E7a ⟨A0d,c1d,A2d,c3d,rfl,n4g,n5g⟩
   refine dnrm ?_
   have X4d:=xtr X9c E7a
   have S6j:=S7i.trans E7a
   rcases AF f5j with ⟨r5d,h2e,f7j⟩ | ⟨r5d,h2e,rfl⟩
   ·refine dcO 6 rfl (by kernel_rfl) (by rfl) (Ee (first:=[]) (cap:=[]) (args:=[.agg #[.bool r0a.lo.m.Neg,.slice A5c (sz r0a.lo.m.Abs) c6c,.int .i64 r0a.lo.e,.bool r0a.hi.m.Neg,.slice A7c (sz r0a.hi.m.Abs) c8c,.int .i64 r0a.hi.e],.agg #[.bool r1a.lo.m.Neg,.slice A0d (sz r1a.lo.m.Abs) c1d,.int .i64 r1a.lo.e,.bool r1a.hi.m.Neg,.slice A2d (sz r1a.hi.m.Abs) c3d,.int .i64 r1a.hi.e],.int .i64 x2]) Rt (by rfl) (by rfl)) (Mf r0a r1a x2 A5c c6c A7c c8c A0d c1d A2d c3d w6a (tbx X4d hT) (n8f.ext E7a) (n9f.ext E7a) n4g n5g (.ok r5d) h2e) ?_
    rintro _ w8a E9a ⟨A8j,c9j,A0k,c1k,rfl,n2k,n3k⟩
    refine dnrm ?_
    have X4k:=xtr X4d E9a
    have S4m:=S6j.trans E9a
    have q6d:=(((((((q7b.ext E0b).ext E3a).ext E2a).ext E5a).ext E1b).ext E2b).ext E7a).ext E9a
    refine dkk 7 Bp q6d fun w4b U7d q5k=>?_
    have X6k:=belU X4k U7d g8b
    have ne6g:=(Bx.neT (((((((q3b.ext E3a).ext E2a).ext E5a).ext E1b).ext E2b).ext E7a).ext E9a) q6d (by decide))
    have q3e:=(((((((q3b.ext E3a).ext E2a).ext E5a).ext E1b).ext E2b).ext E7a).ext E9a).upd U7d ne6g
    refine dkk 8 GW q3e fun w4e U8d q7k=>?_
    have X8k:=belU X6k U8d g0c
    refine CE (by kernel_rfl) ?_
    refine h8h _ _<|wp_ret ?_
    have n9k:=(n2k.upd U7d q6d (by decide)).upd U8d q3e (by decide)
    have n0l:=(n3k.upd U7d q6d (by decide)).upd U8d q3e (by decide)
    obtain rfl:=sj f7j
    obtain rfl:=sj hr0
    exact Mj Dl ER rfl (Res.cellN rfl AI (q5k.upd U8d (Ne.symm ne6g)) rfl rfl (Res.cell1 rfl BW (Bx.cell q7k rfl) Res.nil)) (Av X8k ⟨A8j,c9j,A0k,c1k,rfl,n9k,n0l⟩)
   ·refine dcP 6 rfl (by kernel_rfl) (by rfl) (Ee (first:=[]) (cap:=[]) (args:=[.agg #[.bool r0a.lo.m.Neg,.slice A5c (sz r0a.lo.m.Abs) c6c,.int .i64 r0a.lo.e,.bool r0a.hi.m.Neg,.slice A7c (sz r0a.hi.m.Abs) c8c,.int .i64 r0a.hi.e],.agg #[.bool r1a.lo.m.Neg,.slice A0d (sz r1a.lo.m.Abs) c1d,.int .i64 r1a.lo.e,.bool r1a.hi.m.Neg,.slice A2d (sz r1a.hi.m.Abs) c3d,.int .i64 r1a.hi.e],.int .i64 x2]) Rt (by rfl) (by rfl)) (Mf r0a r1a x2 A5c c6c A7c c8c A0d c1d A2d c3d w6a (tbx X4d hT) (n8f.ext E7a) (n9f.ext E7a) n4g n5g (.error r5d) h2e) fun w8a E9a=>?_
    have X1l:=xtr X4d E9a
    have q2l:=(((((((q7b.ext E0b).ext E3a).ext E2a).ext E5a).ext E1b).ext E2b).ext E7a).ext E9a
    have q3l:=((((((q3b.ext E3a).ext E2a).ext E5a).ext E1b).ext E2b).ext E7a).ext E9a
    refine Ir ER (AL b5b b9b (.bool false:Value) (.slice none 0 0:Value) (.int .i64 0:Value) (.bool false:Value) (.slice none 0 0:Value) (.int .i64 0:Value) (.int .i64 0:Value) r5d q2l q3l) rfl ?_
    rintro w9 ⟨u9,q9,q9'⟩
    obtain rfl:=sj hr0
    exact ⟨_,(Res.cellN rfl AI q9 rfl rfl (Res.cell1 rfl BW (Bx.cell q9' rfl) Res.nil)),Av (u9.toExt X1l g8b g0c) ⟨none,0,none,0,rfl,RU.nil _,RU.nil _⟩⟩
  ·refine scP (Ad Ip (by rfl)) (Dj x2 w6 (tbx X2c hT)  (.error r3c) h0e) fun w7 E5a=>?_
   have X4l:=xtr X2c E5a
   have q5l:=(((q7b.ext E0b).ext E3a).ext E2a).ext E5a
   have q6l:=((q3b.ext E3a).ext E2a).ext E5a
   refine Ir ER (AL b5b b9b (.bool false:Value) (.slice none 0 0:Value) (.int .i64 0:Value) (.bool false:Value) (.slice none 0 0:Value) (.int .i64 0:Value) (.int .i64 0:Value) r3c q5l q6l) rfl ?_
   rintro w9 ⟨u9,q9,q9'⟩
   obtain rfl:=sj hr0
   exact ⟨_,(Res.cellN rfl AI q9 rfl rfl (Res.cell1 rfl BW (Bx.cell q9' rfl) Res.nil)),Av (u9.toExt X4l g8b g0c) ⟨none,0,none,0,rfl,RU.nil _,RU.nil _⟩⟩
 ·refine scP (Ad It (by rfl)) (BP x0 x1 b2f A1 c2 A4 c5 A7 c8 A6a c8a w5 (tbx X4a hT) (n3.ext X4a) (n6.ext X4a) (n9.ext X4a) (n4b.ext X4a) q3f (.error r1c) h9d) fun w6 E2a=>?_
  have X7l:=xtr X4a E2a
  have q8l:=((q7b.ext E0b).ext E3a).ext E2a
  refine Ir ER (AL b5b b9b (.bool false:Value) (.slice none 0 0:Value) (.int .i64 0:Value) (.bool false:Value) (.slice none 0 0:Value) (.int .i64 0:Value) (.int .i64 0:Value) r1c q8l ((q3b.ext E3a).ext E2a)) rfl ?_
  rintro w9 ⟨u9,q9,q9'⟩
  obtain rfl:=sj hr0
  exact ⟨_,(Res.cellN rfl AI q9 rfl rfl (Res.cell1 rfl BW (Bx.cell q9' rfl) Res.nil)),Av (u9.toExt X7l g8b g0c) ⟨none,0,none,0,rfl,RU.nil _,RU.nil _⟩⟩
theorem c_dyad_Hull (x0:Ao) (x1:Ao) (A1:Option Addr) (c2:Nat) (A4:Option Addr) (c5:Nat) (A7:Option Addr) (c8:Nat) (A2a:Option Addr) (c3a:Nat) (w:World) (hT:TB w) (n3:RLu w A1 c2 x0.Lo.Man.Abs) (n6:RLu w A4 c5 x0.Hi.Man.Abs) (n9:RLu w A7 c8 x1.Lo.Man.Abs) (n0b:RLu w A2a c3a x1.Hi.Man.Abs) (r:Al × Int) (hr:II x0 x1=some r) :
  Calls Tryz.prog 74 #[.agg #[.bool x0.Lo.Man.Neg,.slice A1 x0.Lo.Man.Abs.length c2,.int .i64 x0.Lo.Exp,.bool x0.Hi.Man.Neg,.slice A4 x0.Hi.Man.Abs.length c5,.int .i64 x0.Hi.Exp],.agg #[.bool x1.Lo.Man.Neg,.slice A7 x1.Lo.Man.Abs.length c8,.int .i64 x1.Lo.Exp,.bool x1.Hi.Man.Neg,.slice A2a x1.Hi.Man.Abs.length c3a,.int .i64 x1.Hi.Exp]] w (Ret FC w r):=by
 unfold II at hr
 go_enter Tryz.func74,Tryz.ntmps74
 refine wp_seq_k fun _ h1b=>Af<|Bm rfl rfl fun b2d w1 E7a g3d q2b=>?_
 refine nrm ?_
 refine Bm rfl rfl fun b4d w2 E8a g3b q4b=>?_
 refine nrm ?_
 have g5d:=nlt E7a.size g3b
 have X9a:=xtr E7a E8a
 refine Ax Cv fun b6d w3 E4a g5b q5a=>?_
 refine nrm ?_
 have g6b:=nlt X9a.size g5b
 have X0a:=xtr X9a E4a
 refine sV (Ab rfl) ?_
 refine wh h1b<|wp_seq_k fun _ h7b=>Af<|sV2 (Am AI rfl ((q2b.ext E8a).ext E4a) rfl) (Am AI rfl (q4b.ext E4a) rfl) ?_
 obtain ⟨r8b,h9b,f0c⟩:=Ac hr
 refine sc (Ad Mk (by rfl)) (c_dyad_made_Span__dyad_Hull_1 x0 x1 1 A1 c2 A4 c5 A7 c8 A2a c3a w3 (tbx X0a hT) (n3.ext X0a) (n6.ext X0a) (n9.ext X0a) (n0b.ext X0a) r8b h9b) ?_
 rintro _ w4 E1a ⟨A1c,c2c,A3c,c4c,rfl,n5c,n6c⟩
 refine nrm ?_
 have X7c:=xtr X0a E1a
 refine sV2 (Aj rfl rfl) (Aj rfl rfl) ?_
 refine ss Bp (q5a.ext E1a) fun w5 U6a q8c=>?_
 have X9c:=belU X7c U6a g6b
 refine sV (Ab rfl) ?_
 refine wh h7b<|wp_ret ?_
 have n0d:=n5c.upd U6a (q5a.ext E1a) (by decide)
 have n1d:=n6c.upd U6a (q5a.ext E1a) (by decide)
 exact CV f0c rfl (Res.cellN rfl AI q8c rfl rfl (Res.tmp rfl Res.nil)) (Av X9c ⟨A1c,c2c,A3c,c4c,rfl,n0d,n1d⟩)
theorem Mb (x0:Ap) (x1:Ap) (x2:Int) (A1:Option Addr) (c2:Nat) (A4:Option Addr) (c5:Nat) (A7:Option Addr) (c8:Nat) (A7a:Option Addr) (c0b:Nat) (w:World) (hT:TB w) (n3:RU w A1 c2 x0.lo.m.Abs) (n6:RU w A4 c5 x0.hi.m.Abs) (n9:RU w A7 c8 x1.lo.m.Abs) (n1e:RU w A7a c0b x1.hi.m.Abs) (r:Except Int (Al)) (hr:Fg x0 x1 x2=some r) :
  Calls Tryz.prog 165 #[.agg #[.bool x0.lo.m.Neg,.slice A1 (sz x0.lo.m.Abs) c2,.int .i64 x0.lo.e,.bool x0.hi.m.Neg,.slice A4 (sz x0.hi.m.Abs) c5,.int .i64 x0.hi.e],.agg #[.bool x1.lo.m.Neg,.slice A7 (sz x1.lo.m.Abs) c8,.int .i64 x1.lo.e,.bool x1.hi.m.Neg,.slice A7a (sz x1.hi.m.Abs) c0b,.int .i64 x1.hi.e],.int .i64 x2] w (RetE 201 KA w r):=by
 unfold Fg at hr
 go_enter Tryz.func165,Tryz.ntmps165
 refine wp_seq_k fun _ h0g=>Af<|Bm rfl rfl fun b1b w1 E2e g6b q4b=>?_
 refine nrm ?_
 refine Bm rfl rfl fun b3e w2 E5b g4e q5c=>?_
 refine nrm ?_
 have g1k:=nlt E2e.size g4e
 have X5e:=xtr E2e E5b
 refine Ax Cv fun b2k w3 E3a g1g q6e=>?_
 refine nrm ?_
 have g2g:=nlt X5e.size g1g
 have X7b:=xtr X5e E3a
 refine wh h0g<|wp_seq_k fun _ h3g=>wp_seq_k fun _ h4g=>Af<|sV2 (Ah (o':=0) Cl rfl rfl) (dld Aw (q5c.ext E3a)) ?_
 refine sV2 (Ah (o':=0) Cl rfl rfl) (dld Aw ((q4b.ext E5b).ext E3a)) ?_
 refine scr hr (Ad HJ (by rfl)) (BN x1.lo x0.lo A7 c8 A1 c2 w3 (tbx X7b hT) (n9.ext X7b) (n3.ext X7b)) fun r3k f5g w4 E4a=>?_
 have X8b:=xtr X7b E4a
 refine sb (Gm rfl rfl) fun z7e hz7e=>?_
 refine nrm ?_
 refine wh h4g ?_
 obtain ⟨m0a,h6g,f7g⟩:=Ac f5g
 refine Dm (fun l l' w'=>∃(t8e:Value) (t9e:Value) (t0f:Value) (A5a:Option Addr) (c6a:Nat),UpdS [b1b] w4 w'∧Bx w' b1b 121 [.bool m0a.1,.slice A5a (sz m0a.2.1) c6a,.int .i64 m0a.2.2,.bool x0.hi.m.Neg,.slice A4 (sz x0.hi.m.Abs) c5,.int .i64 x0.hi.e]∧RU w' A5a c6a m0a.2.1∧l'=(((l.set 13 t8e).set 14 t9e).set 15 t0f)) ?_ ?_
 ·rcases zi hz7e h6g with ⟨e6c,_,f8g⟩ | ⟨e6c,_,f9g⟩
  ·refine wp_cond_true (Ak (evb rfl e6c))<|Af<|sV2 (Ah (o':=0) Cl rfl rfl) (dld Aw ((q5c.ext E3a).ext E4a)) ?_
   refine sV (Ah (o':=0) Cl rfl rfl) ?_
   have q0h:=((q4b.ext E5b).ext E3a).ext E4a
   refine ss BO q0h fun w5 U1f q1h=>?_
   have X2h:=belU X8b U1f g6b
   refine AK ?_
   obtain rfl:=sj f8g
   exact ⟨_,rfl,(.pointer (some ⟨b3e,0,none⟩)),(.agg #[.bool x1.lo.m.Neg,.slice A7 (sz x1.lo.m.Abs) c8,.int .i64 x1.lo.e]),(.pointer (some ⟨b1b,0,none⟩)),A7,c8,((UpdS.refl _ _).upd U1f (.inl im0)),q1h,(n9.ext X2h),(by kernel_rfl)⟩
  ·refine wp_cond_false (Ak (evb rfl e6c))<|wp_skip ?_
   have q3h:=((q4b.ext E5b).ext E3a).ext E4a
   obtain rfl:=sj f9g
   exact ⟨_,rfl,uu,uu,uu,A1,c2,(UpdS.refl _ _),q3h,(n3.ext X8b),(by kernel_rfl)⟩
 ·rintro l' w5 ⟨t8e,t9e,t0f,A5a,c6a,U7c,q9b,n4h,hq'⟩ l'' hl
  rw [hq'] at hl
  clear hq'
  simp only [S0,S1] at hl
  subst hl
  have X0c:=Jf X8b U7c (X8b).size (alc g6b al0)
  refine h3g _ _<|wp_seq_k fun _ h5h=>wp_seq_k fun _ h6h=>Af<|sV (Ah (o':=3) Cw rfl rfl) ?_
  have ne7h:=(Bx.ne q4b g4e).symm
  have q2f:=((q5c.ext E3a).ext E4a).updS U7c (nmc ne7h nm0)
  refine sV (dld Aw q2f) ?_
  refine sV2 (Ah (o':=3) Cw rfl rfl) (dld Aw q9b) ?_
  refine scr f7g (Ad HJ (by rfl)) (BN x1.hi x0.hi A7a c0b A4 c5 w5 (tbx X0c hT) (n1e.ext X0c) (n6.ext X0c)) fun r4k f8h w6 E8a=>?_
  have X1c:=xtr X0c E8a
  refine sb (Cn rfl rfl) fun z3f hz3f=>?_
  refine nrm ?_
  refine wh h6h ?_
  obtain ⟨m1a,h9h,f0i⟩:=Ac f8h
  refine Dm (fun l l' w'=>∃(t4f:Value) (t5f:Value) (t6f:Value) (A2b:Option Addr) (c3b:Nat),UpdS [b1b] w6 w'∧Bx w' b1b 121 [.bool m0a.1,.slice A5a (sz m0a.2.1) c6a,.int .i64 m0a.2.2,.bool m1a.1,.slice A2b (sz m1a.2.1) c3b,.int .i64 m1a.2.2]∧RU w' A2b c3b m1a.2.1∧l'=(((l.set 22 t4f).set 23 t5f).set 24 t6f)) ?_ ?_
  ·rcases zi hz3f h9h with ⟨e8c,_,f1i⟩ | ⟨e8c,_,f2i⟩
   ·refine wp_cond_true (Ak (evb rfl e8c))<|Af<|sV2 (Ah (o':=3) Cw rfl rfl) (dld Aw (q2f.ext E8a)) ?_
    refine sV (Ah (o':=3) Cw rfl rfl) ?_
    refine ss BO (q9b.ext E8a) fun w7 U7f q3i=>?_
    have X4i:=belU X1c U7f g6b
    refine AK ?_
    obtain rfl:=sj f1i
    exact ⟨_,rfl,(.pointer (some ⟨b3e,3,none⟩)),(.agg #[.bool x1.hi.m.Neg,.slice A7a (sz x1.hi.m.Abs) c0b,.int .i64 x1.hi.e]),(.pointer (some ⟨b1b,3,none⟩)),A7a,c0b,((UpdS.refl _ _).upd U7f (.inl im0)),q3i,(n1e.ext X4i),(by kernel_rfl)⟩
   ·refine wp_cond_false (Ak (evb rfl e8c))<|wp_skip ?_
    obtain rfl:=sj f2i
    exact ⟨_,rfl,uu,uu,uu,A4,c5,(UpdS.refl _ _),(q9b.ext E8a),(n6.ext X1c),(by kernel_rfl)⟩
  ·rintro l' w7 ⟨t4f,t5f,t6f,A2b,c3b,U9c,q0d,n1d,hq'⟩ l'' hl
   rw [hq'] at hl
   clear hq'
   simp only [S0,S1] at hl
   subst hl
   have X8f:=Jf X1c U9c (X1c).size (alc g6b al0)
   refine h5h _ _<|wp_seq_k fun _ h5i=>Af<|sV2 (Ah (o':=0) Cl rfl rfl) (dld Aw q0d) ?_
   refine sV2 (Ah (o':=3) Cw rfl rfl) (dld Aw q0d) ?_
   have n2d:RU w7 A5a c6a m0a.2.1:=(n4h.ext E8a).updS U9c (alc ⟨_,_,by decide,q9b.ext E8a⟩ al0)
   refine scr f0i (Ad HJ (by rfl)) (BN (⟨(⟨m0a.1,m0a.2.1⟩:Ae),m0a.2.2⟩:An) (⟨(⟨m1a.1,m1a.2.1⟩:Ae),m1a.2.2⟩:An) A5a c6a A2b c3b w7 (tbx X8f hT) n2d n1d) fun r3d f6i w8 E9a=>?_
   have X2c:=xtr X8f E9a
   refine sb (Jh rfl rfl) fun z4d hz4d=>?_
   refine nrm ?_
   obtain rfl:z4d=decide (r3d≤0):=bz hz4d
   rcases AF f6i with ⟨r5d,h6d,f7i⟩ | ⟨r5d,h6d,rfl⟩
   ·refine scO (Ad DY (by rfl)) (AZ (decide (r3d≤0)) 5 w8 (tbx X2c hT)  (.ok r5d) h6d) ?_
    rintro _ w9 E2a rfl
    refine nrm ?_
    have X3c:=xtr X2c E2a
    refine wh h5i<|wp_seq_k fun _ h8i=>Af<|sV (Am Kz rfl ((q0d.ext E9a).ext E2a) rfl) ?_
    rcases AF f7i with ⟨r7d,h8d,f9i⟩ | ⟨r7d,h8d,rfl⟩
    ·refine scO (Ad IZ (by rfl)) (BX (⟨(⟨(⟨m0a.1,m0a.2.1⟩:Ae),m0a.2.2⟩:An),(⟨(⟨m1a.1,m1a.2.1⟩:Ae),m1a.2.2⟩:An)⟩:Ap) A5a c6a A2b c3b w9 (tbx X3c hT) ((n2d.ext E9a).ext E2a) ((n1d.ext E9a).ext E2a) (.ok r7d) h8d) ?_
     rintro _ w7a E4c ⟨A0j,c1j,A2j,c3j,rfl,n4j,n5j⟩
     refine nrm ?_
     have X6j:=xtr X3c E4c
     have ne9f:=(Bx.neT (q6e.ext E4a) (((q4b.ext E5b).ext E3a).ext E4a) (by decide))
     have q9d:=((((((q6e.ext E4a).updS U7c (nmc ne9f nm0)).ext E8a).updS U9c (nmc ne9f nm0)).ext E9a).ext E2a).ext E4c
     refine ss Bp q9d fun w0b U0e q7j=>?_
     have X8j:=belU X6j U0e g2g
     refine wh h8i<|wp_ret ?_
     exact CV f9i rfl (Res.cellN rfl AI q7j rfl rfl Res.nil) (DC X8j ⟨A0j,c1j,A2j,c3j,rfl,(n4j.upd U0e q9d (by decide)),(n5j.upd U0e q9d (by decide))⟩)
    ·refine scP (Ad IZ (by rfl)) (BX (⟨(⟨(⟨m0a.1,m0a.2.1⟩:Ae),m0a.2.2⟩:An),(⟨(⟨m1a.1,m1a.2.1⟩:Ae),m1a.2.2⟩:An)⟩:Ap) A5a c6a A2b c3b w9 (tbx X3c hT) ((n2d.ext E9a).ext E2a) ((n1d.ext E9a).ext E2a) (.error r7d) h8d) fun w7a E4c=>?_
     have X9j:=xtr X3c E4c
     exact ⟨rfl,BK X9j⟩
   ·refine scP (Ad DY (by rfl)) (AZ (decide (r3d≤0)) 5 w8 (tbx X2c hT)  (.error r5d) h6d) fun w9 E2a=>?_
    have X0k:=xtr X2c E2a
    exact ⟨rfl,BK X0k⟩
theorem c_dyad_made_Span__dyad_Meet_1 (x0:Ao) (x1:Ao) (x2:Int) (A1:Option Addr) (c2:Nat) (A4:Option Addr) (c5:Nat) (A7:Option Addr) (c8:Nat) (A6a:Option Addr) (c8a:Nat) (w:World) (hT:TB w) (n3:RLu w A1 c2 x0.Lo.Man.Abs) (n6:RLu w A4 c5 x0.Hi.Man.Abs) (n9:RLu w A7 c8 x1.Lo.Man.Abs) (n4b:RLu w A6a c8a x1.Hi.Man.Abs) (r:Al × Int) (hr:DN x0 x1 x2=some r) :
  Calls Tryz.prog 100 #[.agg #[.bool x0.Lo.Man.Neg,.slice A1 x0.Lo.Man.Abs.length c2,.int .i64 x0.Lo.Exp,.bool x0.Hi.Man.Neg,.slice A4 x0.Hi.Man.Abs.length c5,.int .i64 x0.Hi.Exp],.agg #[.bool x1.Lo.Man.Neg,.slice A7 x1.Lo.Man.Abs.length c8,.int .i64 x1.Lo.Exp,.bool x1.Hi.Man.Neg,.slice A6a x1.Hi.Man.Abs.length c8a,.int .i64 x1.Hi.Exp],.int .i64 x2,.func (.func 165) #[] #[]] w (Ret FC w r):=by
 unfold DN at hr
 obtain ⟨q0,hq0,hr0⟩:=Ac hr
 unfold Fc at hq0
 go_enter_defers Tryz.func100,Tryz.ntmps100
 refine wp_seq_k fun _ h4e=>Af<|Bm rfl rfl fun b9l w1 E5e g0m q7g=>?_
 refine nrm ?_
 refine Bm rfl rfl fun b1m w2 E6e g8g q7e=>?_
 refine nrm ?_
 have g2m:=nlt E5e.size g8g
 have X8e:=xtr E5e E6e
 refine Ax Cv fun b5b w3 E6b g9g q7b=>?_
 refine nrm ?_
 have g8b:=nlt X8e.size g9g
 have X9e:=xtr X8e E6b
 refine Ax Jk fun b9b w4 E0b g0h q3b=>?_
 refine nrm ?_
 have g0c:=nlt X9e.size g0h
 have X0f:=xtr X9e E0b
 refine wh h4e<|wp_seq_k fun _ h1h=>Af<|Hw (vs:=[.pointer (some ⟨b5b,0,none⟩),.pointer (some ⟨b9b,0,none⟩)]) (by rfl) (by rfl)<|wh h1h<|wp_seq_k fun _ h2h=>Af<|have q1f:=((q7g.ext E6e).ext E6b).ext E0b;sV2 (Am AI rfl q1f rfl) (Am AI rfl ((q7e.ext E6b).ext E0b) rfl) ?_
 refine CI (vals:=[(0,.agg #[.bool x0.Lo.Man.Neg,.slice A1 x0.Lo.Man.Abs.length c2,.int .i64 x0.Lo.Exp,.bool x0.Hi.Man.Neg,.slice A4 x0.Hi.Man.Abs.length c5,.int .i64 x0.Hi.Exp]),(1,.agg #[.bool x1.Lo.Man.Neg,.slice A7 x1.Lo.Man.Abs.length c8,.int .i64 x1.Lo.Exp,.bool x1.Hi.Man.Neg,.slice A6a x1.Hi.Man.Abs.length c8a,.int .i64 x1.Hi.Exp])]) (cs:=[.bool x0.Lo.Man.Neg,.slice A1 x0.Lo.Man.Abs.length c2,.int .i64 x0.Lo.Exp,.bool x0.Hi.Man.Neg,.slice A4 x0.Hi.Man.Abs.length c5,.int .i64 x0.Hi.Exp,.bool x1.Lo.Man.Neg,.slice A7 x1.Lo.Man.Abs.length c8,.int .i64 x1.Lo.Exp,.bool x1.Hi.Man.Neg,.slice A6a x1.Hi.Man.Abs.length c8a,.int .i64 x1.Hi.Exp]) Jn Bp Cv (by rfl) (by decide) (by kernel_rfl) fun b2f w5 E3a g3h q3f=>?_
 refine nrm ?_
 have g3m:=nlt X0f.size g3h
 have X4a:=xtr X0f E3a
 rcases AF hq0 with ⟨r1c,h9d,f4h⟩ | ⟨r1c,h9d,rfl⟩
 ·refine scO (Ad It (by rfl)) (BP x0 x1 b2f A1 c2 A4 c5 A7 c8 A6a c8a w5 (tbx X4a hT) (n3.ext X4a) (n6.ext X4a) (n9.ext X4a) (n4b.ext X4a) q3f (.ok r1c) h9d) ?_
  rintro _ w6 E2a rfl
  refine nrm ?_
  have X2c:=xtr X4a E2a
  refine wh h2h<|wp_seq_k fun _ h5h=>Af<|sV (Aa rfl) ?_
  rcases AF f4h with ⟨r3c,h0e,f6h⟩ | ⟨r3c,h0e,rfl⟩
  ·refine scO (Ad Ip (by rfl)) (Dj x2 w6 (tbx X2c hT)  (.ok r3c) h0e) ?_
   rintro _ w7 E5a rfl
   refine nrm ?_
   have X7h:=xtr X2c E5a
   refine wh h5h<|wp_seq_k fun _ h8h=>DK [7,8] 9 mo rfl fun w8 E1b S1e=>?_
   have X4c:=xtr X7h E1b
   refine dA 0 rfl (fun _=>Aa rfl) ?_ (hQ:=fun _ _ _ h=>dq (rs:=[.cell 8 29,.cell 9 33]) rfl (by decide) h)
   refine dV 1 rfl (fun _ hw=>Am AI rfl (((((q1f.ext E3a).ext E2a).ext E5a).ext E1b).ext hw) rfl) S1e ?_ (hQ:=fun _ _ _ h=>dq (rs:=[.cell 8 29,.cell 9 33]) rfl (by decide) h)
   refine dV 3 rfl (fun _ hw=>Am AI rfl (((((((q7e.ext E6b).ext E0b).ext E3a).ext E2a).ext E5a).ext E1b).ext hw) rfl) S1e ?_ (hQ:=fun _ _ _ h=>dq (rs:=[.cell 8 29,.cell 9 33]) rfl (by decide) h)
   refine dA 5 rfl (fun _=>Aa rfl) ?_ (hQ:=fun _ _ _ h=>dq (rs:=[.cell 8 29,.cell 9 33]) rfl (by decide) h)
   obtain ⟨m4f,h9h,f0i⟩:=Ac f6h
   have hx5f:=AU h9h
   have n1i:RU w8 A1 c2 m4f:=by unfold RU;rw [hx5f];exact (n3.ext X4c)
   obtain ⟨m6f,h2i,f3i⟩:=Ac f0i
   have hx7f:=AU h2i
   have n4i:RU w8 A4 c5 m6f:=by unfold RU;rw [hx7f];exact (n6.ext X4c)
   obtain ⟨r0a,h5i,f6i⟩:=Ac f3i
   refine dc 2 rfl (by kernel_rfl) (by rfl) (Ad IY (by simp only [sz,hx5f,hx7f];rfl)) (CN (⟨(⟨(⟨x0.Lo.Man.Neg,m4f⟩:Ae),x0.Lo.Exp⟩:Ag),(⟨(⟨x0.Hi.Man.Neg,m6f⟩:Ae),x0.Hi.Exp⟩:Ag)⟩:Al) A1 c2 A4 c5 w8 (tbx X4c hT) n1i n4i r0a h5i) ?_
   rintro _ w9 E2b ⟨A5c,c6c,A7c,c8c,rfl,n8f,n9f⟩
   refine dnrm ?_
   have X9c:=xtr X4c E2b
   have S7i:=S1e.trans E2b
   obtain ⟨m0g,h8i,f9i⟩:=Ac f6i
   have hx1g:=AU h8i
   have n0j:RU w9 A7 c8 m0g:=by unfold RU;rw [hx1g];exact (n9.ext X9c)
   obtain ⟨m2g,h1j,f2j⟩:=Ac f9i
   have hx3g:=AU h1j
   have n3j:RU w9 A6a c8a m2g:=by unfold RU;rw [hx3g];exact (n4b.ext X9c)
   obtain ⟨r1a,h4j,f5j⟩:=Ac f2j
   refine dc 4 rfl (by kernel_rfl) (by rfl) (Ad IY (by simp only [sz,hx1g,hx3g];rfl)) (CN (⟨(⟨(⟨x1.Lo.Man.Neg,m0g⟩:Ae),x1.Lo.Exp⟩:Ag),(⟨(⟨x1.Hi.Man.Neg,m2g⟩:Ae),x1.Hi.Exp⟩:Ag)⟩:Al) A7 c8 A6a c8a w9 (tbx X9c hT) n0j n3j r1a h4j) ?_
   rintro _ w6a E7a ⟨A0d,c1d,A2d,c3d,rfl,n4g,n5g⟩
   refine dnrm ?_
   have X4d:=xtr X9c E7a
   have S6j:=S7i.trans E7a
   rcases AF f5j with ⟨r5d,h2e,f7j⟩ | ⟨r5d,h2e,rfl⟩
   ·refine dcO 6 rfl (by kernel_rfl) (by rfl) (Ee (first:=[]) (cap:=[]) (args:=[.agg #[.bool r0a.lo.m.Neg,.slice A5c (sz r0a.lo.m.Abs) c6c,.int .i64 r0a.lo.e,.bool r0a.hi.m.Neg,.slice A7c (sz r0a.hi.m.Abs) c8c,.int .i64 r0a.hi.e],.agg #[.bool r1a.lo.m.Neg,.slice A0d (sz r1a.lo.m.Abs) c1d,.int .i64 r1a.lo.e,.bool r1a.hi.m.Neg,.slice A2d (sz r1a.hi.m.Abs) c3d,.int .i64 r1a.hi.e],.int .i64 x2]) QB (by rfl) (by rfl)) (Mb r0a r1a x2 A5c c6c A7c c8c A0d c1d A2d c3d w6a (tbx X4d hT) (n8f.ext E7a) (n9f.ext E7a) n4g n5g (.ok r5d) h2e) ?_
    rintro _ w8a E9a ⟨A8j,c9j,A0k,c1k,rfl,n2k,n3k⟩
    refine dnrm ?_
    have X4k:=xtr X4d E9a
    have S4m:=S6j.trans E9a
    have q6d:=(((((((q7b.ext E0b).ext E3a).ext E2a).ext E5a).ext E1b).ext E2b).ext E7a).ext E9a
    refine dkk 7 Bp q6d fun w4b U7d q5k=>?_
    have X6k:=belU X4k U7d g8b
    have ne6g:=(Bx.neT (((((((q3b.ext E3a).ext E2a).ext E5a).ext E1b).ext E2b).ext E7a).ext E9a) q6d (by decide))
    have q3e:=(((((((q3b.ext E3a).ext E2a).ext E5a).ext E1b).ext E2b).ext E7a).ext E9a).upd U7d ne6g
    refine dkk 8 GW q3e fun w4e U8d q7k=>?_
    have X8k:=belU X6k U8d g0c
    refine CE (by kernel_rfl) ?_
    refine h8h _ _<|wp_ret ?_
    have n9k:=(n2k.upd U7d q6d (by decide)).upd U8d q3e (by decide)
    have n0l:=(n3k.upd U7d q6d (by decide)).upd U8d q3e (by decide)
    obtain rfl:=sj f7j
    obtain rfl:=sj hr0
    exact Mj Dl ER rfl (Res.cellN rfl AI (q5k.upd U8d (Ne.symm ne6g)) rfl rfl (Res.cell1 rfl BW (Bx.cell q7k rfl) Res.nil)) (Av X8k ⟨A8j,c9j,A0k,c1k,rfl,n9k,n0l⟩)
   ·refine dcP 6 rfl (by kernel_rfl) (by rfl) (Ee (first:=[]) (cap:=[]) (args:=[.agg #[.bool r0a.lo.m.Neg,.slice A5c (sz r0a.lo.m.Abs) c6c,.int .i64 r0a.lo.e,.bool r0a.hi.m.Neg,.slice A7c (sz r0a.hi.m.Abs) c8c,.int .i64 r0a.hi.e],.agg #[.bool r1a.lo.m.Neg,.slice A0d (sz r1a.lo.m.Abs) c1d,.int .i64 r1a.lo.e,.bool r1a.hi.m.Neg,.slice A2d (sz r1a.hi.m.Abs) c3d,.int .i64 r1a.hi.e],.int .i64 x2]) QB (by rfl) (by rfl)) (Mb r0a r1a x2 A5c c6c A7c c8c A0d c1d A2d c3d w6a (tbx X4d hT) (n8f.ext E7a) (n9f.ext E7a) n4g n5g (.error r5d) h2e) fun w8a E9a=>?_
    have X1l:=xtr X4d E9a
    have q2l:=(((((((q7b.ext E0b).ext E3a).ext E2a).ext E5a).ext E1b).ext E2b).ext E7a).ext E9a
    have q3l:=((((((q3b.ext E3a).ext E2a).ext E5a).ext E1b).ext E2b).ext E7a).ext E9a
    refine Ir ER (AL b5b b9b (.bool false:Value) (.slice none 0 0:Value) (.int .i64 0:Value) (.bool false:Value) (.slice none 0 0:Value) (.int .i64 0:Value) (.int .i64 0:Value) r5d q2l q3l) rfl ?_
    rintro w9 ⟨u9,q9,q9'⟩
    obtain rfl:=sj hr0
    exact ⟨_,(Res.cellN rfl AI q9 rfl rfl (Res.cell1 rfl BW (Bx.cell q9' rfl) Res.nil)),Av (u9.toExt X1l g8b g0c) ⟨none,0,none,0,rfl,RU.nil _,RU.nil _⟩⟩
  ·refine scP (Ad Ip (by rfl)) (Dj x2 w6 (tbx X2c hT)  (.error r3c) h0e) fun w7 E5a=>?_
   have X4l:=xtr X2c E5a
   have q5l:=(((q7b.ext E0b).ext E3a).ext E2a).ext E5a
   have q6l:=((q3b.ext E3a).ext E2a).ext E5a
   refine Ir ER (AL b5b b9b (.bool false:Value) (.slice none 0 0:Value) (.int .i64 0:Value) (.bool false:Value) (.slice none 0 0:Value) (.int .i64 0:Value) (.int .i64 0:Value) r3c q5l q6l) rfl ?_
   rintro w9 ⟨u9,q9,q9'⟩
   obtain rfl:=sj hr0
   exact ⟨_,(Res.cellN rfl AI q9 rfl rfl (Res.cell1 rfl BW (Bx.cell q9' rfl) Res.nil)),Av (u9.toExt X4l g8b g0c) ⟨none,0,none,0,rfl,RU.nil _,RU.nil _⟩⟩
 ·refine scP (Ad It (by rfl)) (BP x0 x1 b2f A1 c2 A4 c5 A7 c8 A6a c8a w5 (tbx X4a hT) (n3.ext X4a) (n6.ext X4a) (n9.ext X4a) (n4b.ext X4a) q3f (.error r1c) h9d) fun w6 E2a=>?_
  have X7l:=xtr X4a E2a
  have q8l:=((q7b.ext E0b).ext E3a).ext E2a
  refine Ir ER (AL b5b b9b (.bool false:Value) (.slice none 0 0:Value) (.int .i64 0:Value) (.bool false:Value) (.slice none 0 0:Value) (.int .i64 0:Value) (.int .i64 0:Value) r1c q8l ((q3b.ext E3a).ext E2a)) rfl ?_
  rintro w9 ⟨u9,q9,q9'⟩
  obtain rfl:=sj hr0
  exact ⟨_,(Res.cellN rfl AI q9 rfl rfl (Res.cell1 rfl BW (Bx.cell q9' rfl) Res.nil)),Av (u9.toExt X7l g8b g0c) ⟨none,0,none,0,rfl,RU.nil _,RU.nil _⟩⟩
theorem c_dyad_Meet (x0:Ao) (x1:Ao) (A1:Option Addr) (c2:Nat) (A4:Option Addr) (c5:Nat) (A7:Option Addr) (c8:Nat) (A2a:Option Addr) (c3a:Nat) (w:World) (hT:TB w) (n3:RLu w A1 c2 x0.Lo.Man.Abs) (n6:RLu w A4 c5 x0.Hi.Man.Abs) (n9:RLu w A7 c8 x1.Lo.Man.Abs) (n0b:RLu w A2a c3a x1.Hi.Man.Abs) (r:Al × Int) (hr:GZ x0 x1=some r) :
  Calls Tryz.prog 75 #[.agg #[.bool x0.Lo.Man.Neg,.slice A1 x0.Lo.Man.Abs.length c2,.int .i64 x0.Lo.Exp,.bool x0.Hi.Man.Neg,.slice A4 x0.Hi.Man.Abs.length c5,.int .i64 x0.Hi.Exp],.agg #[.bool x1.Lo.Man.Neg,.slice A7 x1.Lo.Man.Abs.length c8,.int .i64 x1.Lo.Exp,.bool x1.Hi.Man.Neg,.slice A2a x1.Hi.Man.Abs.length c3a,.int .i64 x1.Hi.Exp]] w (Ret FC w r):=by
 unfold GZ at hr
 go_enter Tryz.func75,Tryz.ntmps75
 refine wp_seq_k fun _ h1b=>Af<|Bm rfl rfl fun b2d w1 E7a g3d q2b=>?_
 refine nrm ?_
 refine Bm rfl rfl fun b4d w2 E8a g3b q4b=>?_
 refine nrm ?_
 have g5d:=nlt E7a.size g3b
 have X9a:=xtr E7a E8a
 refine Ax Cv fun b6d w3 E4a g5b q5a=>?_
 refine nrm ?_
 have g6b:=nlt X9a.size g5b
 have X0a:=xtr X9a E4a
 refine sV (Ab rfl) ?_
 refine wh h1b<|wp_seq_k fun _ h7b=>Af<|sV2 (Am AI rfl ((q2b.ext E8a).ext E4a) rfl) (Am AI rfl (q4b.ext E4a) rfl) ?_
 obtain ⟨r8b,h9b,f0c⟩:=Ac hr
 refine sc (Ad Mk (by rfl)) (c_dyad_made_Span__dyad_Meet_1 x0 x1 1 A1 c2 A4 c5 A7 c8 A2a c3a w3 (tbx X0a hT) (n3.ext X0a) (n6.ext X0a) (n9.ext X0a) (n0b.ext X0a) r8b h9b) ?_
 rintro _ w4 E1a ⟨A1c,c2c,A3c,c4c,rfl,n5c,n6c⟩
 refine nrm ?_
 have X7c:=xtr X0a E1a
 refine sV2 (Aj rfl rfl) (Aj rfl rfl) ?_
 refine ss Bp (q5a.ext E1a) fun w5 U6a q8c=>?_
 have X9c:=belU X7c U6a g6b
 refine sV (Ab rfl) ?_
 refine wh h7b<|wp_ret ?_
 have n0d:=n5c.upd U6a (q5a.ext E1a) (by decide)
 have n1d:=n6c.upd U6a (q5a.ext E1a) (by decide)
 exact CV f0c rfl (Res.cellN rfl AI q8c rfl rfl (Res.tmp rfl Res.nil)) (Av X9c ⟨A1c,c2c,A3c,c4c,rfl,n0d,n1d⟩)
theorem Kh (b b':Nat) (v0:Value) (u:Value) (n:Int) {w:World} (qa:Bx w b 4 [v0]) (qb:Bx w b' 33 [u]) :
  CallsD Tryz.prog 166 #[.pointer (some ⟨b,0,none⟩),.pointer (some ⟨b',0,none⟩)] (.panicking [entry 201 n]) w fun e u' w'=>e = .returned (.tuple #[])∧u' = .panicking [{ entry 201 n with recovered:=true }]∧(Upd2 b b' w w'∧Bx w' b 4 [.bool false]∧Bx w' b' 33 [.int .i64 n]):=by
 refine JM Tryz.func166 rfl [.pointer (some ⟨b,0,none⟩),.pointer (some ⟨b',0,none⟩),uu,uu,uu,uu,uu,uu,uu,uu,uu,uu,uu,uu,uu,uu,uu,uu,uu,uu,uu,uu,uu,uu,uu,uu] (by simp [Tryz.ntmps166]) fun c₀ cs hu=>?_
 apply wpS_seq
 refine Rq hu rfl ?_
 simp only [S0,S1]
 refine wpS_of_wp<|wp_seq_k fun _ h1=>Af<|sV2 (Aa rfl) (Lx Ld rfl) ?_
 refine wh h1<|wp_cond_true (Ak (evb rfl rfl))<|wp_seq_k fun _ h2=>Af<|sV3 (Aa rfl) (KH MM rfl) (Aa rfl) ?_
 refine sV2 (Aj rfl rfl) (Aj rfl rfl) ?_
 refine Ax Nq fun b3 w1 E4 g5 q6=>?_
 refine nrm ?_
 have X7:=(Upd2.refl b b' w).ext E4
 refine ss No q6 fun w2 U8 q9=>?_
 have X7a:=X7.upd U8 (.inl g5)
 refine sV (Ab rfl) ?_
 refine wh h2<|wp_seq_k fun _ h8a=>wp_seq_k fun _ h9a=>Af<|sV2 (Aa rfl) (Mr rfl rfl rfl) ?_
 refine wh h9a<|wp_cond_false (Ak (evb rfl rfl))<|wp_skip<|h8a _ _<|wp_seq_k fun _ h0b=>Af<|sV (Ab rfl) ?_
 refine wh h0b<|DK [6,8] 9 mo rfl fun w3 E0a S2c=>have X1b:=X7a.ext E0a;dA 0 rfl (fun _=>Aa rfl) ?_
 refine dA 1 rfl (fun _=>Aa rfl) ?_
 refine dA 2 rfl (fun _=>Aa rfl) ?_
 refine dA 3 rfl (fun _=>Ah (o':=0) LL rfl rfl) ?_
 refine dA 5 rfl (fun _=>Bv rfl) ?_
 refine JQ #[true,true,true,true,true,true,true,false,false] 2 (fun l l' w'=>UpdS [b] w3 w'∧Bx w' b 4 [.bool false]∧l'=(l.set 23 (.int .i64 n))) ?_ ?_
 ·intro HJ31
  refine CP 4 6 (by kernel_rfl) ?_ ?_
  ·refine opV 4 rfl (by rfl) (Ai BW rfl (Bx.cell (q9.ext E0a) rfl)) (dnrm ?_)
   refine AM 6 (by kernel_rfl) ?_
   ·have F2b:=belU E4 U8 g5
    refine opK 6 rfl (by decide) (by rfl) RE rfl rfl ((qa.ext F2b).ext E0a) rfl rfl rfl rfl (by simp only [SP0,SP1,S0,S1,Nat.reduceAdd];rfl) fun w4 U3b q4b=>?_
    exact Cm (by kernel_rfl) (HJ31 _ _ ⟨((UpdS.refl _ _).upd U3b (.inl im0)),q4b,(by kernel_rfl)⟩)
  ·have F2a:=belU E4 U8 g5
   refine opK 6 rfl (by decide) (by rfl) RE rfl rfl ((qa.ext F2a).ext E0a) rfl rfl rfl rfl (by simp only [SP0,SP1,S0,S1,Nat.reduceAdd];rfl) fun w4 U3a q5b=>?_
   refine AM 4 (by kernel_rfl) ?_
   ·have ne6b:=(Bx.neT (q9.ext E0a) ((qa.ext F2a).ext E0a) (by decide))
    refine opV 4 rfl (by rfl) (Ai BW rfl (Bx.cell ((q9.ext E0a).upd U3a ne6b) rfl)) (dnrm ?_)
    exact Cm (by kernel_rfl) (HJ31 _ _ ⟨((UpdS.refl _ _).upd U3a (.inl im0)),q5b,(by kernel_rfl)⟩)
 ·rintro l' w4 ⟨U4a,q7b,hq'⟩ l'' hl
  rw [hq'] at hl
  clear hq'
  simp only [S0,S1] at hl
  subst hl
  have X8b:=X1b.updS U4a (alc (.inr (.inl rfl)) al0)
  refine dA 7 rfl (fun _=>Bv rfl) ?_
  have F1a:=belU E4 U8 g5
  have ne5a:=(Bx.neT ((qb.ext F1a).ext E0a) ((qa.ext F1a).ext E0a) (by decide))
  have q9b:=((qb.ext F1a).ext E0a).updS U4a (nmc ne5a nm0)
  refine dkk 8 GW q9b fun w5 U6a q0c=>?_
  have X1c:=X8b.upd U6a (.inr (.inr rfl))
  refine CE (by kernel_rfl) ?_
  exact Rw (by kernel_rfl) ⟨rfl,rfl,X1c,(q7b.upd U6a (Ne.symm ne5a)),q0c⟩
theorem Jm:Qt Tryz.prog 166:=by
 intro ar b b' w ha
 subst ha
 refine JM Tryz.func166 rfl [.pointer (some ⟨b,0,none⟩),.pointer (some ⟨b',0,none⟩),uu,uu,uu,uu,uu,uu,uu,uu,uu,uu,uu,uu,uu,uu,uu,uu,uu,uu,uu,uu,uu,uu,uu,uu] (by simp [Tryz.ntmps166]) fun c₀ cs hu=>?_
 apply wpS_seq
 refine Qr hu rfl ?_
 simp only [S0,S1]
 refine wpS_of_wp<|wp_seq_k fun _ h1=>Af<|sV2 (Aa rfl) (JY Ld rfl) ?_
 refine wh h1<|wp_cond_false (Ak (evb rfl rfl))<|wp_skip ?_
 exact PM hu (by kernel_rfl) ⟨rfl,rfl,rfl⟩
theorem KN (x0:Ao) (x1:GV) (A1:Option Addr) (c2:Nat) (A4:Option Addr) (c5:Nat) (A7:Option Addr) (c8:Nat) (A2c:Option Addr) (c3c:Nat) (w:World) (hT:TB w) (n3:RLu w A1 c2 x0.Lo.Man.Abs) (n6:RLu w A4 c5 x0.Hi.Man.Abs) (n9:RLu w A7 c8 x1.Num.Abs) (n1e:RLu w A2c c3c x1.Den) (r:Bool × Int) (hr:FW x0 x1=some r) :
  Calls Tryz.prog 77 #[.agg #[.bool x0.Lo.Man.Neg,.slice A1 x0.Lo.Man.Abs.length c2,.int .i64 x0.Lo.Exp,.bool x0.Hi.Man.Neg,.slice A4 x0.Hi.Man.Abs.length c5,.int .i64 x0.Hi.Exp],.agg #[.bool x1.Num.Neg,.slice A7 x1.Num.Abs.length c8,.slice A2c x1.Den.length c3c]] w (Ret rep_4_33 w r):=by
 unfold FW at hr
 obtain ⟨q0,hq0,hr0⟩:=Ac hr
 unfold Ls at hq0
 go_enter_defers Tryz.func77,Tryz.ntmps77
 refine wp_seq_k fun _ h4f=>Af<|Bm rfl rfl fun b2e w1 E9c g5f q0d=>?_
 refine nrm ?_
 refine Bm rfl rfl fun b3e w2 E5c g6f q7f=>?_
 refine nrm ?_
 have g3k:=nlt E9c.size g6f
 have X8f:=xtr E9c E5c
 refine Ax zt_4 fun b4e w3 E5e g4k q8b=>?_
 refine nrm ?_
 have g1d:=nlt X8f.size g4k
 have X9f:=xtr X8f E5e
 refine Ax Jk fun b6e w4 E1b g5k q2b=>?_
 refine nrm ?_
 have g2d:=nlt X9f.size g5k
 have X0g:=xtr X9f E1b
 refine wh h4f<|wp_seq_k fun _ h6k=>Af<|Hw (vs:=[.pointer (some ⟨b4e,0,none⟩),.pointer (some ⟨b6e,0,none⟩)]) (by rfl) (by rfl)<|wh h6k<|wp_seq_k fun _ h7k=>Af<|have q6c:=((q0d.ext E5c).ext E5e).ext E1b;sV (Am AI rfl q6c rfl) ?_
 refine CI (vals:=[(0,.agg #[.bool x0.Lo.Man.Neg,.slice A1 x0.Lo.Man.Abs.length c2,.int .i64 x0.Lo.Exp,.bool x0.Hi.Man.Neg,.slice A4 x0.Hi.Man.Abs.length c5,.int .i64 x0.Hi.Exp])]) (cs:=[.bool x0.Lo.Man.Neg,.slice A1 x0.Lo.Man.Abs.length c2,.int .i64 x0.Lo.Exp,.bool x0.Hi.Man.Neg,.slice A4 x0.Hi.Man.Abs.length c5,.int .i64 x0.Hi.Exp]) Jn Bp Cv (by rfl) (by decide) (by kernel_rfl) fun b1g w5 E2a g8k q2g=>?_
 refine nrm ?_
 have g5s:=nlt X0g.size g8k
 have X9b:=xtr X0g E2a
 rcases AF hq0 with ⟨r3d,h7e,f9k⟩ | ⟨r3d,h7e,rfl⟩
 ·refine scO (Ad It (by rfl)) (KD x0 b1g A1 c2 A4 c5 w5 (tbx X9b hT) (n3.ext X9b) (n6.ext X9b) q2g (.ok r3d) h7e) ?_
  rintro _ w6 E1a rfl
  refine nrm ?_
  have X4d:=xtr X9b E1a
  refine wh h7k<|wp_seq_k fun _ h0l=>Af<|have q3g:=(((q7f.ext E5e).ext E1b).ext E2a).ext E1a;sV (Am Lb rfl q3g rfl) ?_
  refine scr f9k (Ad en_141 (by rfl)) (c_ratio_Valid x1 A7 c8 A2c c3c w6 (tbx X4d hT) (n9.ext X4d) (n1e.ext X4d)) fun r4g f1l w7 E5a=>?_
  have X5d:=xtr X4d E5a
  rcases AF f1l with ⟨r6d,h8e,f2l⟩ | ⟨r6d,h8e,rfl⟩
  ·refine scO (Ad DY (by rfl)) (AZ r4g 1 w7 (tbx X5d hT)  (.ok r6d) h8e) ?_
   rintro _ w8 E3a rfl
   refine nrm ?_
   have X7d:=xtr X5d E3a
   refine wh h0l<|wp_seq_k fun _ h3l=>Af<|sV (Am Lb rfl ((q3g.ext E5a).ext E3a) rfl) ?_
   obtain ⟨m5g,h4l,f5l⟩:=Ac f2l
   have hx6g:=AU h4l
   have n6l:RU w8 A7 c8 m5g:=by unfold RU;rw [hx6g];exact (n9.ext X7d)
   obtain ⟨m7g,h7l,f8l⟩:=Ac f5l
   have hx8g:=AU h7l
   have n9l:RU w8 A2c c3c m7g:=by unfold RU;rw [hx8g];exact (n1e.ext X7d)
   obtain ⟨r7c,h0m,f1m⟩:=Ac f8l
   refine sc (Ad en_142 (by simp only [sz,hx6g,hx8g];rfl)) (c_dyad_ratOf (⟨(⟨x1.Num.Neg,m5g⟩:Ae),m7g⟩:Dt) A7 c8 A2c c3c w8 (tbx X7d hT) n6l n9l r7c h0m) ?_
   rintro _ w9 E7a ⟨A9g,c0h,A1h,c2h,rfl,n2m,n3m⟩
   refine nrm ?_
   have X3h:=xtr X7d E7a
   refine sV3 (Aa rfl) (Aj rfl rfl) (Aj rfl rfl) ?_
   refine Ax Bn fun b6s w2c E6a g4m q7b=>?_
   refine nrm ?_
   have g5m:=nlt X3h.size g4m
   have X4h:=xtr X3h E6a
   refine Ax Bn fun b7s w3c E0a g5h q0c=>?_
   refine nrm ?_
   have g6m:=nlt X4h.size g5h
   have X7m:=xtr X4h E0a
   refine ss BO (q7b.ext E0a) fun w1e U4a q6h=>?_
   have X8m:=belU X7m U4a g5m
   have ne3b:=(Bx.ne q7b g5h).symm
   refine ss BO (q0c.upd U4a ne3b) fun w4f U0b q7h=>?_
   have X9m:=belU X8m U0b g6m
   refine wh h3l<|wp_seq_k fun _ h8h=>DK [18,19] 20 mo rfl fun w2e E9a S8d=>?_
   have X9e:=xtr X9m E9a
   refine dA 0 rfl (fun _=>Ah (o':=0) Jy rfl rfl) ?_ (hQ:=fun _ _ _ h=>dq (rs:=[.cell 4 4,.cell 5 33]) rfl (by decide) h)
   have ne0f:=(Bx.neT (((((((q6c.ext E2a).ext E1a).ext E5a).ext E3a).ext E7a).ext E6a).ext E0a) (q7b.ext E0a) (by decide))
   have ne9h:=(Bx.neT ((((((((q6c.ext E2a).ext E1a).ext E5a).ext E3a).ext E7a).ext E6a).ext E0a).upd U4a ne0f) (q0c.upd U4a ne3b) (by decide))
   refine dV 1 rfl (fun _ hw=>HE BT rfl (((((((((((q6c.ext E2a).ext E1a).ext E5a).ext E3a).ext E7a).ext E6a).ext E0a).upd U4a ne0f).upd U0b ne9h).ext E9a).ext hw) (by simp only [List.drop_zero,List.take_succ_cons,List.take_zero];rfl) rfl) S8d ?_ (hQ:=fun _ _ _ h=>dq (rs:=[.cell 4 4,.cell 5 33]) rfl (by decide) h)
   refine dV 3 rfl (fun _ hw=>Am Aw rfl ((q7h.ext E9a).ext hw) rfl) S8d ?_ (hQ:=fun _ _ _ h=>dq (rs:=[.cell 4 4,.cell 5 33]) rfl (by decide) h)
   refine dV 5 rfl (fun _ hw=>Am Aw rfl (((q6h.upd U0b (Ne.symm ne3b)).ext E9a).ext hw) rfl) S8d ?_ (hQ:=fun _ _ _ h=>dq (rs:=[.cell 4 4,.cell 5 33]) rfl (by decide) h)
   obtain ⟨m0i,h0n,f1n⟩:=Ac f1m
   have hx1i:=AU h0n
   have n2n:RU w2e A1 c2 m0i:=by unfold RU;rw [hx1i];exact (n3.ext X9e)
   refine dcn f1n 2 rfl (by rfl) (Ad KT (by simp only [sz,hx1i];rfl)) (Ig (⟨(⟨x0.Lo.Man.Neg,m0i⟩:Ae),x0.Lo.Exp⟩:Ag) A1 c2 w2e (tbx X9e hT) n2n) fun r3n f4n w9c A5n c6n E4b n7n=>?_
   have X2i:=xtr X9e E4b
   have S8n:=S8d.trans E4b
   have n3i:=(((((n3m.ext E6a).ext E0a).upd U4a (q7b.ext E0a) (by decide)).upd U0b (q0c.upd U4a ne3b) (by decide)).ext E9a).ext E4b
   refine dcn f4n 4 rfl (by rfl) (Ad Oi (by rfl)) (Ii r3n r7c.2 A5n c6n A1h c2h w9c (tbx X2i hT) n7n n3i) fun r9n f0o w5f A1o c2o E5b n3o=>?_
   have X4i:=xtr X2i E5b
   have S4o:=S8n.trans E5b
   have n5i:=((((((n2m.ext E6a).ext E0a).upd U4a (q7b.ext E0a) (by decide)).upd U0b (q0c.upd U4a ne3b) (by decide)).ext E9a).ext E4b).ext E5b
   refine dcr f0o 6 rfl (by rfl) (Ad HJ (by rfl)) (BN r9n r7c.1 A1o c2o A9g c0h w5f (tbx X4i hT) n3o n5i) fun r8s f5o w0d E6b=>?_
   have X9d:=xtr X4i E6b
   have S0e:=S4o.trans E6b
   refine dab 7 rfl (by kernel_rfl) (fun _ _ _ h=>dq (rs:=[.cell 4 4,.cell 5 33]) rfl (by decide) h) (by rfl) (fun _=>Jh rfl rfl) fun z6i hz6i=>?_
   refine dnrm ?_
   refine dA 8 rfl (fun _=>Aa rfl) ?_ (hQ:=fun _ _ _ h=>dq (rs:=[.cell 4 4,.cell 5 33]) rfl (by decide) h)
   rcases zi hz6i f5o with ⟨e8a,_,f6o⟩ | ⟨e8a,_,f7o⟩
   ·refine dA 9 rfl (fun _=>Ah (o':=3) Jv rfl rfl) ?_ (hw:=wgT rfl e8a) (hQ:=fun _ _ _ h=>dq (rs:=[.cell 4 4,.cell 5 33]) rfl (by decide) h)
    refine dV 10 rfl (fun _ hw=>HE BT rfl (((((((((((q6c.ext E2a).ext E1a).ext E5a).ext E3a).ext E7a).ext E6a).ext E0a).upd U4a ne0f).upd U0b ne9h).ext E9a).ext hw) (by simp only [List.drop_succ_cons,List.drop_zero,List.take_succ_cons,List.take_zero];rfl) rfl) S0e ?_ (hw:=wgT rfl e8a) (hQ:=fun _ _ _ h=>dq (rs:=[.cell 4 4,.cell 5 33]) rfl (by decide) h)
    refine dV 12 rfl (fun _ hw=>Am Aw rfl ((q7h.ext E9a).ext hw) rfl) S0e ?_ (hw:=wgT rfl e8a) (hQ:=fun _ _ _ h=>dq (rs:=[.cell 4 4,.cell 5 33]) rfl (by decide) h)
    refine dV 14 rfl (fun _ hw=>Am Aw rfl (((q6h.upd U0b (Ne.symm ne3b)).ext E9a).ext hw) rfl) S0e ?_ (hw:=wgT rfl e8a) (hQ:=fun _ _ _ h=>dq (rs:=[.cell 4 4,.cell 5 33]) rfl (by decide) h)
    obtain ⟨m7i,h8o,f9o⟩:=Ac f6o
    have hx8i:=AU h8o
    have n0p:RU w0d A4 c5 m7i:=by unfold RU;rw [hx8i];exact (n6.ext X9d)
    refine dcn f9o 11 rfl (wgT rfl e8a) (Ad KT (by simp only [sz,hx8i];rfl)) (Ig (⟨(⟨x0.Hi.Man.Neg,m7i⟩:Ae),x0.Hi.Exp⟩:Ag) A4 c5 w0d (tbx X9d hT) n0p) fun r1p f2p w3e A3p c4p E1c n5p=>?_
    have X9i:=xtr X9d E1c
    have S6p:=S0e.trans E1c
    have n7p:=((n3i.ext E5b).ext E6b).ext E1c
    refine dcn f2p 13 rfl (wgT rfl e8a) (Ad Oi (by rfl)) (Ii r1p r7c.2 A3p c4p A1h c2h w3e (tbx X9i hT) n5p n7p) fun r8p f9p w5c A0q c1q E4c n2q=>?_
    have X0j:=xtr X9i E4c
    have S3q:=S6p.trans E4c
    have n4q:=((n5i.ext E6b).ext E1c).ext E4c
    refine dcr f9p 15 rfl (wgT rfl e8a) (Ad HJ (by rfl)) (BN r8p r7c.1 A0q c1q A9g c0h w5c (tbx X0j hT) n2q n4q) fun r5q f6q w6f E8c=>?_
    have X7q:=xtr X0j E8c
    have S9s:=S3q.trans E8c
    refine dab 16 rfl (by kernel_rfl) (fun _ _ _ h=>dq (rs:=[.cell 4 4,.cell 5 33]) rfl (by decide) h) (wgT rfl e8a) (fun _=>FP rfl rfl) fun z1f hz1f=>?_
    refine dnrm ?_
    refine dA 17 rfl (fun _=>AA (evb rfl e8a) rfl) ?_ (hQ:=fun _ _ _ h=>dq (rs:=[.cell 4 4,.cell 5 33]) rfl (by decide) h)
    have ne1j:=(Bx.neT ((((((((q8b.ext E1b).ext E2a).ext E1a).ext E5a).ext E3a).ext E7a).ext E6a).ext E0a) (q7b.ext E0a) (by decide))
    have ne8q:=(Bx.neT (((((((((q8b.ext E1b).ext E2a).ext E1a).ext E5a).ext E3a).ext E7a).ext E6a).ext E0a).upd U4a ne1j) (q0c.upd U4a ne3b) (by decide))
    have q2j:=((((((((((((((((q8b.ext E1b).ext E2a).ext E1a).ext E5a).ext E3a).ext E7a).ext E6a).ext E0a).upd U4a ne1j).upd U0b ne8q).ext E9a).ext E4b).ext E5b).ext E6b).ext E1c).ext E4c).ext E8c
    refine dkk 18 RE q2j fun w7f U3j q9q=>?_
    have X0r:=belU X7q U3j g1d
    have ne2f:=(Bx.neT (((((((q2b.ext E2a).ext E1a).ext E5a).ext E3a).ext E7a).ext E6a).ext E0a) (q7b.ext E0a) (by decide))
    have ne4j:=(Bx.neT ((((((((q2b.ext E2a).ext E1a).ext E5a).ext E3a).ext E7a).ext E6a).ext E0a).upd U4a ne2f) (q0c.upd U4a ne3b) (by decide))
    have ne5j:=(Bx.neT ((((((((((((((((q2b.ext E2a).ext E1a).ext E5a).ext E3a).ext E7a).ext E6a).ext E0a).upd U4a ne2f).upd U0b ne4j).ext E9a).ext E4b).ext E5b).ext E6b).ext E1c).ext E4c).ext E8c) q2j (by decide))
    have q1r:=((((((((((((((((q2b.ext E2a).ext E1a).ext E5a).ext E3a).ext E7a).ext E6a).ext E0a).upd U4a ne2f).upd U0b ne4j).ext E9a).ext E4b).ext E5b).ext E6b).ext E1c).ext E4c).ext E8c).upd U3j ne5j
    refine dkk 19 GW q1r fun w3k U6j q2r=>?_
    have X3r:=belU X0r U6j g2d
    refine CE (by kernel_rfl) ?_
    refine h8h _ _<|wp_ret ?_
    obtain rfl:z1f=decide (0≤r5q):=bz hz1f
    obtain rfl:=sj f6q
    obtain rfl:=sj hr0
    exact Mj Jm Oz rfl (Res.cell1 rfl HZ (Bx.cell (q9q.upd U6j (Ne.symm ne5j)) rfl) (Res.cell1 rfl BW (Bx.cell q2r rfl) Res.nil)) (Av X3r rfl)
   ·refine dP 9 rfl ?_ (hw:=wgF rfl e8a) (hQ:=fun _ _ _ h=>dq (rs:=[.cell 4 4,.cell 5 33]) rfl (by decide) h)
    refine dP 10 rfl ?_ (hw:=wgF rfl e8a) (hQ:=fun _ _ _ h=>dq (rs:=[.cell 4 4,.cell 5 33]) rfl (by decide) h)
    refine dP 11 rfl ?_ (hw:=wgF rfl e8a) (hQ:=fun _ _ _ h=>dq (rs:=[.cell 4 4,.cell 5 33]) rfl (by decide) h)
    refine dP 12 rfl ?_ (hw:=wgF rfl e8a) (hQ:=fun _ _ _ h=>dq (rs:=[.cell 4 4,.cell 5 33]) rfl (by decide) h)
    refine dP 13 rfl ?_ (hw:=wgF rfl e8a) (hQ:=fun _ _ _ h=>dq (rs:=[.cell 4 4,.cell 5 33]) rfl (by decide) h)
    refine dP 14 rfl ?_ (hw:=wgF rfl e8a) (hQ:=fun _ _ _ h=>dq (rs:=[.cell 4 4,.cell 5 33]) rfl (by decide) h)
    refine dP 15 rfl ?_ (hw:=wgF rfl e8a) (hQ:=fun _ _ _ h=>dq (rs:=[.cell 4 4,.cell 5 33]) rfl (by decide) h)
    refine dP 16 rfl ?_ (hw:=wgF rfl e8a) (hQ:=fun _ _ _ h=>dq (rs:=[.cell 4 4,.cell 5 33]) rfl (by decide) h)
    refine dA 17 rfl (fun _=>AC (evb rfl e8a) rfl) ?_ (hQ:=fun _ _ _ h=>dq (rs:=[.cell 4 4,.cell 5 33]) rfl (by decide) h)
    have ne7j:=(Bx.neT ((((((((q8b.ext E1b).ext E2a).ext E1a).ext E5a).ext E3a).ext E7a).ext E6a).ext E0a) (q7b.ext E0a) (by decide))
    have ne4r:=(Bx.neT (((((((((q8b.ext E1b).ext E2a).ext E1a).ext E5a).ext E3a).ext E7a).ext E6a).ext E0a).upd U4a ne7j) (q0c.upd U4a ne3b) (by decide))
    have q8j:=(((((((((((((q8b.ext E1b).ext E2a).ext E1a).ext E5a).ext E3a).ext E7a).ext E6a).ext E0a).upd U4a ne7j).upd U0b ne4r).ext E9a).ext E4b).ext E5b).ext E6b
    refine dkk 18 RE q8j fun w3e U9j q5r=>?_
    have X6r:=belU X9d U9j g1d
    have ne3f:=(Bx.neT (((((((q2b.ext E2a).ext E1a).ext E5a).ext E3a).ext E7a).ext E6a).ext E0a) (q7b.ext E0a) (by decide))
    have ne0k:=(Bx.neT ((((((((q2b.ext E2a).ext E1a).ext E5a).ext E3a).ext E7a).ext E6a).ext E0a).upd U4a ne3f) (q0c.upd U4a ne3b) (by decide))
    have ne1k:=(Bx.neT (((((((((((((q2b.ext E2a).ext E1a).ext E5a).ext E3a).ext E7a).ext E6a).ext E0a).upd U4a ne3f).upd U0b ne0k).ext E9a).ext E4b).ext E5b).ext E6b) q8j (by decide))
    have q7r:=(((((((((((((q2b.ext E2a).ext E1a).ext E5a).ext E3a).ext E7a).ext E6a).ext E0a).upd U4a ne3f).upd U0b ne0k).ext E9a).ext E4b).ext E5b).ext E6b).upd U9j ne1k
    refine dkk 19 GW q7r fun w5c U2k q8r=>?_
    have X9r:=belU X6r U2k g2d
    refine CE (by kernel_rfl) ?_
    refine h8h _ _<|wp_ret ?_
    obtain rfl:=sj f7o
    obtain rfl:=sj hr0
    exact Mj Jm Oz rfl (Res.cell1 rfl HZ (Bx.cell (q5r.upd U2k (Ne.symm ne1k)) rfl) (Res.cell1 rfl BW (Bx.cell q8r rfl) Res.nil)) (Av X9r rfl)
  ·refine scP (Ad DY (by rfl)) (AZ r4g 1 w7 (tbx X5d hT)  (.error r6d) h8e) fun w8 E3a=>?_
   have X0s:=xtr X5d E3a
   have q1s:=((((q8b.ext E1b).ext E2a).ext E1a).ext E5a).ext E3a
   have q2s:=(((q2b.ext E2a).ext E1a).ext E5a).ext E3a
   refine Ir Oz (Kh b4e b6e (.bool false:Value) (.int .i64 0:Value) r6d q1s q2s) rfl ?_
   rintro w9 ⟨u9,q9,q9'⟩
   obtain rfl:=sj hr0
   exact ⟨_,(Res.cell1 rfl HZ (Bx.cell q9 rfl) (Res.cell1 rfl BW (Bx.cell q9' rfl) Res.nil)),Av (u9.toExt X0s g1d g2d) rfl⟩
 ·refine scP (Ad It (by rfl)) (KD x0 b1g A1 c2 A4 c5 w5 (tbx X9b hT) (n3.ext X9b) (n6.ext X9b) q2g (.error r3d) h7e) fun w6 E1a=>?_
  have X3s:=xtr X9b E1a
  have q4s:=((q8b.ext E1b).ext E2a).ext E1a
  refine Ir Oz (Kh b4e b6e (.bool false:Value) (.int .i64 0:Value) r3d q4s ((q2b.ext E2a).ext E1a)) rfl ?_
  rintro w9 ⟨u9,q9,q9'⟩
  obtain rfl:=sj hr0
  exact ⟨_,(Res.cell1 rfl HZ (Bx.cell q9 rfl) (Res.cell1 rfl BW (Bx.cell q9' rfl) Res.nil)),Av (u9.toExt X3s g1d g2d) rfl⟩
end Go.Proofs

