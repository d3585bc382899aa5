import Derived.Test.YtabiobmfelafoaaGreatDoorGen0
namespace Go.Proofs
set_option linter.unusedVariables false
set_option linter.unusedSimpArgs false
set_option maxHeartbeats 4000000
open Go.RowKit Go.Sb Go.Proofs.Sbn
def Jh (wk w:World) (b:Nat):Option AB→Prop
 | none=>Bx w b 124 [.pointer none]
 | some r=>∃(bs:Nat) (A1:Option Addr) (c1:Nat) (A2:Option Addr) (c2:Nat),wk.heap.size≤bs∧Bx w b 124 [.pointer (some ⟨bs,0,none⟩)]∧Bx w bs 121 [.bool r.lo.m.Neg,.slice A1 (sz r.lo.m.Abs) c1,.int .i64 r.lo.e,.bool r.hi.m.Neg,.slice A2 (sz r.hi.m.Abs) c2,.int .i64 r.hi.e]∧RU w A1 c1 r.lo.m.Abs∧RU w A2 c2 r.hi.m.Abs
theorem sq_dyad_Times_1 {n0:Nat} {wk w w':World} {b:Nat} : ∀ {o:Option AB},Jh wk w b o→Quiet n0 w w'→Jh wk w' b o
 | none,h,q=>Bx.quiet h q
 | some _,⟨bs,A1,c1,A2,c2,g,q1,q2,n1,n2⟩,q=>⟨bs,A1,c1,A2,c2,g,q1.quiet q,q2.quiet q,n1.quiet q,n2.quiet q⟩
theorem KQ (x0:AB) (x1:AB) (x2:Int) (A1:Option Addr) (c2:Nat) (A4:Option Addr) (c5:Nat) (A7:Option Addr) (c8:Nat) (A0d:Option Addr) (c1d:Nat) (w:World) (hT:TB w) (n3:RU w A1 c2 x0.lo.m.Abs) (n6:RU w A4 c5 x0.hi.m.Abs) (n9:RU w A7 c8 x1.lo.m.Abs) (n8k:RU w A0d c1d x1.hi.m.Abs) (r:Except Int (AI)) (hr:JC x0 x1 x2=some r) :
  Calls Tryz.prog 116 #[.agg #[.bool x0.lo.m.Neg,.slice A1 (sz x0.lo.m.Abs) c2,.int .i64 x0.lo.e,.bool x0.hi.m.Neg,.slice A4 (sz x0.hi.m.Abs) c5,.int .i64 x0.hi.e],.agg #[.bool x1.lo.m.Neg,.slice A7 (sz x1.lo.m.Abs) c8,.int .i64 x1.lo.e,.bool x1.hi.m.Neg,.slice A0d (sz x1.hi.m.Abs) c1d,.int .i64 x1.hi.e],.int .i64 x2] w (RetE 201 Nr w r):=by
 unfold JC at hr
 refine Pp Tryz.func116 rfl [.agg #[.bool x0.lo.m.Neg,.slice A1 (sz x0.lo.m.Abs) c2,.int .i64 x0.lo.e,.bool x0.hi.m.Neg,.slice A4 (sz x0.hi.m.Abs) c5,.int .i64 x0.hi.e],.agg #[.bool x1.lo.m.Neg,.slice A7 (sz x1.lo.m.Abs) c8,.int .i64 x1.lo.e,.bool x1.hi.m.Neg,.slice A0d (sz x1.hi.m.Abs) c1d,.int .i64 x1.hi.e],.int .i64 x2,uu,uu,uu,uu,uu,uu,uu,uu,uu,uu,uu,uu,uu,uu,uu,uu,uu,uu,uu,uu,uu,uu,uu,uu,uu,uu,uu,uu,uu,uu,uu,uu,uu,uu,uu,uu,uu,uu,uu,uu,uu,uu,uu,uu,uu,uu,uu,uu,uu,uu] (by simp [Tryz.ntmps116]) ?_
 refine wp_seq_k fun _ h2s=>Ae<|Bu rfl rfl fun b3i w1 E9k g1a7 q3s=>?_
 refine nrm ?_
 refine Bu rfl rfl fun b4i w2 E0l g4s q5i=>?_
 refine nrm ?_
 have g2a7:=nlt E9k.size g4s
 have X1l:=xtr E9k E0l
 refine AA Ii fun b6i w3 E0f g5s q6s=>?_
 refine nrm ?_
 have g7s:=nlt X1l.size g5s
 have X2l:=xtr X1l E0f
 refine wh h2s<|wp_seq_k fun _ h8s=>Ae<|AA PT fun b3l w4 E2e g9s q0t=>?_
 refine nrm ?_
 have g1t:=nlt X2l.size g9s
 have X7i:=xtr X2l E2e
 refine wh h8s<|wp_seq_k fun _ h2t=>wp_seq_k fun _ h3t=>Ae<|have q8i:=((q3s.ext E0l).ext E0f).ext E2e;sV2 (Al Ln rfl q8i rfl) (Al Ln rfl ((q5i.ext E0f).ext E2e) rfl) ?_
 refine scc (by rfl) (Ad PS rfl) (Lb (.bool x0.lo.m.Neg:Value) (.slice A1 (sz x0.lo.m.Abs) c2:Value) (.int .i64 x0.lo.e:Value) (.bool x0.hi.m.Neg:Value) (.slice A4 (sz x0.hi.m.Abs) c5:Value) (.int .i64 x0.hi.e:Value) (.bool x1.lo.m.Neg:Value) (.slice A7 (sz x1.lo.m.Abs) c8:Value) (.int .i64 x1.lo.e:Value) (.bool x1.hi.m.Neg:Value) (.slice A0d (sz x1.hi.m.Abs) c1d:Value) (.int .i64 x1.hi.e:Value) w4) fun b2g b3g w5 E7d g4t g5t ne3a7 q4l q5l=>nrm ?_
 have g4a7:=nlt X7i.size g4t
 have g5a7:=nlt X7i.size g5t
 have X9i:=xtr X7i E7d
 refine wh h3t ?_
 apply wp_block
 obtain ⟨s6l,h7l,f6t⟩:=Ab hr
 obtain ⟨s0j,h7t,f8t⟩:=Ab f6t
 obtain ⟨s1j,h9t,f0u⟩:=Ab f8t
 obtain ⟨s2j,h1u,f2u⟩:=Ab f0u
 obtain ⟨o3j,hO⟩:∃o:Nat→Option AB,o=(fun i:Nat=>match i with | 0=>none | 1=>some s6l | 2=>some s0j | 3=>some s1j | _=>some s2j):=⟨_,rfl⟩
 have hall3u:∀i,1≤i→i<4→∃(sr:AB) (x y:Am) (AX:Option Addr) (cX:Nat) (AY:Option Addr) (cY:Nat) (s':AB),(encs (.bool x0.lo.m.Neg:Value) (.slice A1 (sz x0.lo.m.Abs) c2:Value) (.int .i64 x0.lo.e:Value) (.bool x0.hi.m.Neg:Value) (.slice A4 (sz x0.hi.m.Abs) c5:Value) (.int .i64 x0.hi.e:Value) (.bool x1.lo.m.Neg:Value) (.slice A7 (sz x1.lo.m.Abs) c8:Value) (.int .i64 x1.lo.e:Value) (.bool x1.hi.m.Neg:Value) (.slice A0d (sz x1.hi.m.Abs) c1d:Value) (.int .i64 x1.hi.e:Value)) i = #[.agg #[.bool x.m.Neg,.slice AX (sz x.m.Abs) cX,.int .i64 x.e],.agg #[.bool y.m.Neg,.slice AY (sz y.m.Abs) cY,.int .i64 y.e]]∧RU w AX cX x.m.Abs∧RU w AY cY y.m.Abs∧o3j i=some sr∧o3j (i+1)=some s'∧Hn x0 x1 x2 sr x y=some s':=by
  subst hO
  rintro (_ | _ | _ | _ | i) h h'
  ·omega
  ·exact ⟨s6l,x0.lo,x1.hi,_,_,_,_,s0j,rfl,n3,n8k,rfl,rfl,h7t⟩
  ·exact ⟨s0j,x0.hi,x1.lo,_,_,_,_,s1j,rfl,n6,n9,rfl,rfl,h9t⟩
  ·exact ⟨s1j,x0.hi,x1.hi,_,_,_,_,s2j,rfl,n6,n8k,rfl,rfl,h1u⟩
  ·omega
 refine rf (N:=4) (n0:=w.heap.size) (encs:=(encs (.bool x0.lo.m.Neg:Value) (.slice A1 (sz x0.lo.m.Abs) c2:Value) (.int .i64 x0.lo.e:Value) (.bool x0.hi.m.Neg:Value) (.slice A4 (sz x0.hi.m.Abs) c5:Value) (.int .i64 x0.hi.e:Value) (.bool x1.lo.m.Neg:Value) (.slice A7 (sz x1.lo.m.Abs) c8:Value) (.int .i64 x1.lo.e:Value) (.bool x1.hi.m.Neg:Value) (.slice A0d (sz x1.hi.m.Abs) c1d:Value) (.int .i64 x1.hi.e:Value))) (I:=fun i w'=>Ext w w'∧w5.heap.size≤w'.heap.size∧Bx w' b3i 121 [.bool x0.lo.m.Neg,.slice A1 (sz x0.lo.m.Abs) c2,.int .i64 x0.lo.e,.bool x0.hi.m.Neg,.slice A4 (sz x0.hi.m.Abs) c5,.int .i64 x0.hi.e]∧Bx w' b4i 121 [.bool x1.lo.m.Neg,.slice A7 (sz x1.lo.m.Abs) c8,.int .i64 x1.lo.e,.bool x1.hi.m.Neg,.slice A0d (sz x1.hi.m.Abs) c1d,.int .i64 x1.hi.e]∧Bx w' b6i 29 [.bool false,.slice none 0 0,.int .i64 0,.bool false,.slice none 0 0,.int .i64 0]∧Bx w' b2g 121 [.bool x0.lo.m.Neg,.slice A1 (sz x0.lo.m.Abs) c2,.int .i64 x0.lo.e,.bool x0.hi.m.Neg,.slice A4 (sz x0.hi.m.Abs) c5,.int .i64 x0.hi.e]∧Bx w' b3g 121 [.bool x1.lo.m.Neg,.slice A7 (sz x1.lo.m.Abs) c8,.int .i64 x1.lo.e,.bool x1.hi.m.Neg,.slice A0d (sz x1.hi.m.Abs) c1d,.int .i64 x1.hi.e]∧Jh w5 w' b3l (o3j i)) rfl Qe X9i.size (QR (.bool x0.lo.m.Neg:Value) (.slice A1 (sz x0.lo.m.Abs) c2:Value) (.int .i64 x0.lo.e:Value) (.bool x0.hi.m.Neg:Value) (.slice A4 (sz x0.hi.m.Abs) c5:Value) (.int .i64 x0.hi.e:Value) (.bool x1.lo.m.Neg:Value) (.slice A7 (sz x1.lo.m.Abs) c8:Value) (.int .i64 x1.lo.e:Value) (.bool x1.hi.m.Neg:Value) (.slice A0d (sz x1.hi.m.Abs) c1d:Value) (.int .i64 x1.hi.e:Value) b2g b3g _ (by rintro i W ⟨_,_,_,_,_,qa,qb,_⟩;exact ⟨qa,qb⟩)) (by rintro (_ | _ | _ | _)<;>rfl) ?_ ?_ ?_ ?_
 ·rintro i W W' ⟨hX,hK,q_b3i,q_b4i,q_b6i,q_b2g,q_b3g,hS⟩ hq
  exact ⟨belQ hX hq hX.size,nlt hK hq.size,q_b3i.quiet hq,q_b4i.quiet hq,q_b6i.quiet hq,q_b2g.quiet hq,q_b3g.quiet hq,sq_dyad_Times_1 hS hq⟩
 ·subst hO
  have q4u:=((q5i.ext E0f).ext E2e).ext E7d
  exact ⟨X9i,Nat.le_refl _,(q8i.ext E7d),q4u,((q6s.ext E2e).ext E7d),q4l,q5l,(q0t.ext E7d)⟩
 ·intro l i w8d hi hI
  obtain ⟨hX,hK,q1f,q2f,q7c,q3f,q4f,hS⟩:=hI
  rcases Nat.eq_zero_or_pos i with rfl | hpos
  ·subst hO
   skip
   have q5f:Bx w8d b3l 124 [.pointer none]:=hS
   unfold KN at h7l
   refine KX (actPQ rfl (by simp only [S0,S1];rfl)) ?_
   refine wpIn_seq_k fun _ h5u=>Im (by rfl) (fun ⟨_,_,h⟩=>h)<|AA Bn fun b6a7 w4j E6u g8l q7u=>?_
   refine nrm ?_
   have g7a7:=nlt (nlt hX.size (Rd.refl w.heap.size w8d).size) g8l
   refine ss CL q7u fun w0b U8u q9u=>?_
   have F6b:=belU E6u U8u g8l
   have X9l:=(Rd.refl w.heap.size w8d).ext F6b
   refine wh h5u<|Im (by rfl) (fun ⟨_,_,h⟩=>h)<|AA Bn fun b8a7 w1b E0v g0m q1v=>?_
   refine nrm ?_
   have g9a7:=nlt (nlt hX.size X9l.size) g0m
   refine ss CL q1v fun w2b U2v q3v=>?_
   have F3b:=belU E0v U2v g0m
   have X3e:=X9l.ext F3b
   refine AG ?_
   refine ⟨X3e,?_⟩
   intro w2d hq
   refine have hE1:=belR hX X3e hX.size;have hE2:=belQ hE1 hq hE1.size;wpIn_block<|wpIn_seq_k fun _ h4v=>Im (by rfl) (fun ⟨_,_,h⟩=>h)<|sV2 (Al AN rfl ((q9u.ext F3b).quiet hq) rfl) (Al AN rfl (q3v.quiet hq) rfl) ?_
   have n5v:=(((n3.ext hX).ext F6b).ext F3b).quiet hq
   have n6v:=(((n9.ext hX).ext F6b).ext F3b).quiet hq
   obtain ⟨r0a,h8d,f4j⟩:=Ab h7l
   refine sc (Ad OK (by rfl)) (IP x0.lo x1.lo A1 c2 A7 c8 w2d (tbx (belR hE2 (Rd.refl w.heap.size w2d) hE2.size) hT) n5v n6v r0a h8d) ?_
   rintro _ w4g E0b ⟨A1b,c2b,rfl,n2d⟩
   refine nrm ?_
   have X4g:=(Rd.refl w.heap.size w2d).ext E0b
   refine AA Bn fun b1m w1m E5g g6f q6g=>?_
   refine nrm ?_
   have g7g:=nlt (nlt (nlt (nlt hX.size X3e.size) hq.size) X4g.size) g6f
   refine ss CL q6g fun w5g U4e q1c=>?_
   have F8a:=belU E5g U4e g6f
   have X8g:=X4g.ext F8a
   refine wh h4v<|wpIn_seq_k fun _ h7v=>wpIn_seq_k fun _ h8v=>Im (by rfl) (fun ⟨_,_,h⟩=>h)<|have q4c:=((((q5f.ext F6b).ext F3b).quiet hq).ext E0b).ext F8a;sV2 (Af Gd rfl (Bx.cell q4c rfl)) (QL NW rfl) ?_
   refine wh h8v<|wpIn_cond_true (Ai (evb rfl rfl))<|Im (by rfl) (fun ⟨_,_,h⟩=>h)<|sV3 (Al AN rfl q1c rfl) (Al AN rfl q1c rfl) (Bb (vals:=[(0,.agg #[.bool r0a.m.Neg,.slice A1b (sz r0a.m.Abs) c2b,.int .i64 r0a.e]),(1,.agg #[.bool r0a.m.Neg,.slice A1b (sz r0a.m.Abs) c2b,.int .i64 r0a.e])]) (cells:=[.bool r0a.m.Neg,.slice A1b (sz r0a.m.Abs) c2b,.int .i64 r0a.e,.bool r0a.m.Neg,.slice A1b (sz r0a.m.Abs) c2b,.int .i64 r0a.e]) (by rfl) (by kernel_rfl)) ?_
   refine Bu rfl rfl fun b5c w6f E2a g5e q4d=>?_
   refine nrm ?_
   have g2m:=nlt (nlt (nlt (nlt hX.size X3e.size) hq.size) X8g.size) g5e
   have X9v:=X8g.ext E2a
   refine ss QK (q4c.ext E2a) fun w6g U4b q7f=>?_
   have X0w:=X9v.upd U4b g1t (q4c.ext E2a)
   refine wh h7v<|wpIn_seq_k fun _ h1w=>wpIn_seq_k fun _ h2w=>Nv (by rfl) (fun ⟨_,_,h⟩=>h) [] 7 mo rfl fun w7g E4a S9g=>have X3m:=X0w.ext E4a;have ne8f:=(Bx.neT (q1c.ext E2a) (q4c.ext E2a) (by decide));dV 0 rfl (fun _ hw=>Al AN rfl ((((q1c.ext E2a).upd U4b ne8f).ext E4a).ext hw) rfl) S9g ?_
   refine dV 1 rfl (fun _ hw=>Af Gd rfl (Bx.cell ((q7f.ext E4a).ext hw) rfl)) S9g ?_
   refine dA 2 rfl (fun _=>BE rfl) ?_
   refine dA 3 rfl (fun _=>Ag (o':=0) Fh rfl rfl) ?_
   have ne6c:=(Bx.neT q4d (q4c.ext E2a) (by decide))
   refine dV 4 rfl (fun _ hw=>AL AN rfl (((q4d.upd U4b ne6c).ext E4a).ext hw) (by simp only [List.drop_zero,List.take_succ_cons,List.take_zero];rfl) rfl) S9g ?_
   have n5j:=(((n2d.ext F8a).ext E2a).upd U4b (q4c.ext E2a) (by decide)).ext E4a
   obtain ⟨r3w,h4w,f5w⟩:=Ab f4j
   refine dc 5 rfl (by kernel_rfl) (by rfl) (Ad JE (by rfl)) (Ds r0a r0a A1b c2b A1b c2b w7g (tbx (belR hE2 X3m hE2.size) hT) n5j n5j r3w h4w) ?_
   rintro _ w9f E5a rfl
   refine dnrm ?_
   have X6w:=X3m.ext E5a
   have S0a8:=S9g.trans E5a
   refine dab 6 rfl (by kernel_rfl) (fun _ _ _ h=>h) (by rfl) (fun _=>Cj rfl rfl) fun z4m hz4m=>?_
   refine dnrm ?_
   refine Cn (by kernel_rfl) ?_
   refine h2w _ _ ?_
   obtain ⟨m1a8,h7w,f8w⟩:=Ab f5w
   refine Lr (fun l l' w'=>∃(t5m:Value) (t6m:Value) (t7m:Value) (t8m:Value),UpdS [b5c] w9f w'∧Bx w' b5c 121 [.bool r0a.m.Neg,.slice A1b (sz r0a.m.Abs) c2b,.int .i64 r0a.e,.bool r0a.m.Neg,.slice A1b (sz r0a.m.Abs) c2b,.int .i64 r0a.e]∧l'=((((l.set 32 t5m).set 33 t6m).set 34 t7m).set 35 t8m)) ?_ ?_
   ·rcases zi hz4m h7w with ⟨e6j,_,f9w⟩ | ⟨e6j,_,f0x⟩
    ·refine wpIn_cond_true (Ai (evb rfl e6j))<|Im (by rfl) (fun ⟨_,_,h⟩=>h)<|sV (Af Gd rfl (Bx.cell ((q7f.ext E4a).ext E5a) rfl)) ?_
     have q1x:=(((q1c.ext E2a).upd U4b ne8f).ext E4a).ext E5a
     refine sV3 (Al AN rfl q1x rfl) (BE rfl) (Ag (o':=0) Fh rfl rfl) ?_
     have q2x:=((q4d.upd U4b ne6c).ext E4a).ext E5a
     refine ss CL q2x fun w4e U3x q4x=>?_
     refine AG ?_
     obtain rfl:=sj f9w
     exact ⟨_,rfl,(.pointer (some ⟨b5c,0,none⟩)),(.agg #[.bool r0a.m.Neg,.slice A1b (sz r0a.m.Abs) c2b,.int .i64 r0a.e]),(.pointer (some ⟨b5c,0,none⟩)),(.pointer (some ⟨b5c,0,none⟩)),((UpdS.refl _ _).upd U3x (.inl im0)),q4x,(by simp only [S0,S1]<;>rfl)⟩
    ·refine wpIn_cond_false (Ai (evb rfl e6j))<|wpIn_skip ?_
     have q5x:=((q4d.upd U4b ne6c).ext E4a).ext E5a
     obtain rfl:=sj f0x
     exact ⟨_,rfl,uu,uu,uu,uu,(UpdS.refl _ _),q5x,(by simp only [S0,S1]<;>rfl)⟩
   ·rintro l' w4e ⟨t5m,t6m,t7m,t8m,U3c,q0g,hq'⟩ l'' hl
    rw [hq'] at hl
    clear hq'
    simp only [S0,S1] at hl
    subst hl
    have X6x:=X6w.updS U3c (alc ⟨g2m,_,_,((q4d.upd U4b ne6c).ext E4a).ext E5a⟩ al0)
    refine h1w _ _<|wpIn_seq_k fun _ h7x=>Nv (by rfl) (fun ⟨_,_,h⟩=>h) [] 7 mo rfl fun w1c E9b S0h=>have X9m:=X6x.ext E9b;have ne0n:=(Bx.neT ((((q1c.ext E2a).upd U4b ne8f).ext E4a).ext E5a) (((q4d.upd U4b ne6c).ext E4a).ext E5a) (by decide));dV 0 rfl (fun _ hw=>Al AN rfl (((((((q1c.ext E2a).upd U4b ne8f).ext E4a).ext E5a).updS U3c (nmc ne0n nm0)).ext E9b).ext hw) rfl) S0h ?_
    refine dV 1 rfl (fun _ hw=>Af Gd rfl (Bx.cell (((((q7f.ext E4a).ext E5a).updS U3c (nmc (Ne.symm ne6c) nm0)).ext E9b).ext hw) rfl)) S0h ?_
    refine dA 2 rfl (fun _=>BE rfl) ?_
    refine dA 3 rfl (fun _=>Ag (o':=3) Fw rfl rfl) ?_
    refine dV 4 rfl (fun _ hw=>AL AN rfl ((q0g.ext E9b).ext hw) (by simp only [List.drop_succ_cons,List.drop_zero,List.take_succ_cons,List.take_zero];rfl) rfl) S0h ?_
    have n7j:RU w1c A1b c2b r0a.m.Abs:=((n5j.ext E5a).updS U3c (alc ⟨_,_,by decide,((q4d.upd U4b ne6c).ext E4a).ext E5a⟩ al0)).ext E9b
    obtain ⟨r8x,h9x,f0y⟩:=Ab f8w
    refine dc 5 rfl (by kernel_rfl) (by rfl) (Ad JE (by rfl)) (Ds r0a r0a A1b c2b A1b c2b w1c (tbx (belR hE2 X9m hE2.size) hT) n7j n7j r8x h9x) ?_
    rintro _ w8g E0c rfl
    refine dnrm ?_
    have X1y:=X9m.ext E0c
    have S2a8:=S0h.trans E0c
    refine dab 6 rfl (by kernel_rfl) (fun _ _ _ h=>h) (by rfl) (fun _=>EX rfl rfl) fun z1n hz1n=>?_
    refine dnrm ?_
    refine Cn (by kernel_rfl) ?_
    refine h7x _ _ ?_
    obtain ⟨m3a8,h1h,f2h⟩:=Ab f0y
    refine Lr (fun l l' w'=>∃(t8j:Value) (t2n:Value) (t3n:Value) (t4n:Value),UpdS [b5c] w8g w'∧Bx w' b5c 121 [.bool r0a.m.Neg,.slice A1b (sz r0a.m.Abs) c2b,.int .i64 r0a.e,.bool r0a.m.Neg,.slice A1b (sz r0a.m.Abs) c2b,.int .i64 r0a.e]∧l'=((((l.set 43 t8j).set 44 t2n).set 45 t3n).set 46 t4n)) ?_ ?_
    ·rcases zi hz1n h1h with ⟨e9j,_,f2y⟩ | ⟨e9j,_,f3y⟩
     ·refine wpIn_cond_true (Ai (evb rfl e9j))<|Im (by rfl) (fun ⟨_,_,h⟩=>h)<|have q4y:=((((q7f.ext E4a).ext E5a).updS U3c (nmc (Ne.symm ne6c) nm0)).ext E9b).ext E0c;sV (Af Gd rfl (Bx.cell q4y rfl)) ?_
      have q5y:=((((((q1c.ext E2a).upd U4b ne8f).ext E4a).ext E5a).updS U3c (nmc ne0n nm0)).ext E9b).ext E0c
      refine sV3 (Al AN rfl q5y rfl) (BE rfl) (Ag (o':=3) Fw rfl rfl) ?_
      refine ss CL ((q0g.ext E9b).ext E0c) fun w8a U6y q7y=>?_
      refine AG ?_
      obtain rfl:=sj f2y
      exact ⟨_,rfl,(.pointer (some ⟨b5c,0,none⟩)),(.agg #[.bool r0a.m.Neg,.slice A1b (sz r0a.m.Abs) c2b,.int .i64 r0a.e]),(.pointer (some ⟨b5c,0,none⟩)),(.pointer (some ⟨b5c,3,none⟩)),((UpdS.refl _ _).upd U6y (.inl im0)),q7y,(by simp only [S0,S1]<;>rfl)⟩
     ·refine wpIn_cond_false (Ai (evb rfl e9j))<|wpIn_skip ?_
      obtain rfl:=sj f3y
      exact ⟨_,rfl,uu,uu,uu,uu,(UpdS.refl _ _),((q0g.ext E9b).ext E0c),(by simp only [S0,S1]<;>rfl)⟩
    ·rintro l' w8a ⟨t8j,t2n,t3n,t4n,U8c,q8y,hq'⟩ l'' hl
     rw [hq'] at hl
     clear hq'
     simp only [S0,S1] at hl
     subst hl
     have X0k:=X1y.updS U8c (alc ⟨g2m,_,_,(q0g.ext E9b).ext E0c⟩ al0)
     have hE3:=belR hE2 X0k hE2.size
     have ne9y:=(Bx.neT ((((((q1f.ext F6b).ext F3b).quiet hq).ext E0b).ext F8a).ext E2a) (q4c.ext E2a) (by decide))
     have ne5n:=(Bx.ne (((((q1f.ext F6b).ext F3b).quiet hq).ext E0b).ext F8a) g5e)
     have q0z:=((((((((((((q1f.ext F6b).ext F3b).quiet hq).ext E0b).ext F8a).ext E2a).upd U4b ne9y).ext E4a).ext E5a).updS U3c (nmc ne5n nm0)).ext E9b).ext E0c).updS U8c (nmc ne5n nm0)
     have ne1z:=(Bx.neT ((((((q2f.ext F6b).ext F3b).quiet hq).ext E0b).ext F8a).ext E2a) (q4c.ext E2a) (by decide))
     have ne6n:=(Bx.ne (((((q2f.ext F6b).ext F3b).quiet hq).ext E0b).ext F8a) g5e)
     have q2z:=((((((((((((q2f.ext F6b).ext F3b).quiet hq).ext E0b).ext F8a).ext E2a).upd U4b ne1z).ext E4a).ext E5a).updS U3c (nmc ne6n nm0)).ext E9b).ext E0c).updS U8c (nmc ne6n nm0)
     have ne7n:=(Bx.neT ((((((q7c.ext F6b).ext F3b).quiet hq).ext E0b).ext F8a).ext E2a) (q4c.ext E2a) (by decide))
     have ne8n:=(Bx.neT (((((((((q7c.ext F6b).ext F3b).quiet hq).ext E0b).ext F8a).ext E2a).upd U4b ne7n).ext E4a).ext E5a) (((q4d.upd U4b ne6c).ext E4a).ext E5a) (by decide))
     have q3z:=((((((((((((q7c.ext F6b).ext F3b).quiet hq).ext E0b).ext F8a).ext E2a).upd U4b ne7n).ext E4a).ext E5a).updS U3c (nmc ne8n nm0)).ext E9b).ext E0c).updS U8c (nmc ne8n nm0)
     have ne4z:=(Bx.neT ((((((q3f.ext F6b).ext F3b).quiet hq).ext E0b).ext F8a).ext E2a) (q4c.ext E2a) (by decide))
     have ne9n:=(Bx.ne (((((q3f.ext F6b).ext F3b).quiet hq).ext E0b).ext F8a) g5e)
     have q5z:=((((((((((((q3f.ext F6b).ext F3b).quiet hq).ext E0b).ext F8a).ext E2a).upd U4b ne4z).ext E4a).ext E5a).updS U3c (nmc ne9n nm0)).ext E9b).ext E0c).updS U8c (nmc ne9n nm0)
     have ne6z:=(Bx.neT ((((((q4f.ext F6b).ext F3b).quiet hq).ext E0b).ext F8a).ext E2a) (q4c.ext E2a) (by decide))
     have ne0o:=(Bx.ne (((((q4f.ext F6b).ext F3b).quiet hq).ext E0b).ext F8a) g5e)
     have q7z:=((((((((((((q4f.ext F6b).ext F3b).quiet hq).ext E0b).ext F8a).ext E2a).upd U4b ne6z).ext E4a).ext E5a).updS U3c (nmc ne0o nm0)).ext E9b).ext E0c).updS U8c (nmc ne0o nm0)
     have q8z:=(((((q7f.ext E4a).ext E5a).updS U3c (nmc (Ne.symm ne6c) nm0)).ext E9b).ext E0c).updS U8c (nmc (Ne.symm ne6c) nm0)
     have n1o:RU w8a A1b c2b r0a.m.Abs:=(n7j.ext E0c).updS U8c (alc ⟨_,_,by decide,(q0g.ext E9b).ext E0c⟩ al0)
     obtain rfl:=sj f2h
     exact ⟨X0k,hE3,nlt (nlt (nlt hK X3e.size) hq.size) X0k.size,q0z,q2z,q3z,q5z,q7z,⟨b5c,A1b,c2b,A1b,c2b,(nlt (nlt (nlt (nlt (nlt (nlt hK X3e.size) hq.size) E0b.size) E5g.size) (Nat.le_of_eq U4e.size.symm)) g5e),q8z,q8y,n1o,n1o⟩⟩
  ·obtain ⟨sr,x,y,AX,cX,AY,cY,s',he,nx,ny,ho,ho',hr1⟩:=hall3u i hpos hi
   rw [ho] at hS
   obtain ⟨bs,AS,cS,AT,cT,gbs,q5f,qs,n5,n6⟩:=hS
   unfold Hn at hr1
   have g00:w.heap.size≤bs:=nlt X9i.size gbs
   refine KX (actPQ he (by simp only [S0,S1];rfl)) ?_
   refine wpIn_seq_k fun _ h9z=>Im (by rfl) (fun ⟨_,_,h⟩=>h)<|AA Bn fun b4a8 w4j E0a0 g2o q1a0=>?_
   refine nrm ?_
   have g5a8:=nlt (nlt hX.size (Rd.refl w.heap.size w8d).size) g2o
   refine ss CL q1a0 fun w0b U2a0 q3a0=>?_
   have F9a:=belU E0a0 U2a0 g2o
   have X3o:=(Rd.refl w.heap.size w8d).ext F9a
   refine wh h9z<|Im (by rfl) (fun ⟨_,_,h⟩=>h)<|AA Bn fun b6a8 w1b E4a0 g4o q5a0=>?_
   refine nrm ?_
   have g7a8:=nlt (nlt hX.size X3o.size) g4o
   refine ss CL q5a0 fun w2b U6a0 q7a0=>?_
   have F6a:=belU E4a0 U6a0 g4o
   have X3h:=X3o.ext F6a
   refine AG ?_
   refine ⟨X3h,?_⟩
   intro w2d hq
   refine have hE1:=belR hX X3h hX.size;have hE2:=belQ hE1 hq hE1.size;wpIn_block<|wpIn_seq_k fun _ h8a0=>Im (by rfl) (fun ⟨_,_,h⟩=>h)<|sV2 (Al AN rfl ((q3a0.ext F6a).quiet hq) rfl) (Al AN rfl (q7a0.quiet hq) rfl) ?_
   have n9a0:=(((nx.ext hX).ext F9a).ext F6a).quiet hq
   have n0a1:=(((ny.ext hX).ext F9a).ext F6a).quiet hq
   obtain ⟨r9c,h1a1,f2a1⟩:=Ab hr1
   refine sc (Ad OK (by rfl)) (IP x y AX cX AY cY w2d (tbx (belR hE2 (Rd.refl w.heap.size w2d) hE2.size) hT) n9a0 n0a1 r9c h1a1) ?_
   rintro _ w4g E7b ⟨A9d,c0e,rfl,n1k⟩
   refine nrm ?_
   have X5o:=(Rd.refl w.heap.size w2d).ext E7b
   refine AA Bn fun b8a8 w1m E3a1 g6o q4a1=>?_
   refine nrm ?_
   have g9a8:=nlt (nlt (nlt (nlt hX.size X3h.size) hq.size) X5o.size) g6o
   refine ss CL q4a1 fun w5g U5a1 q1g=>?_
   have F7a:=belU E3a1 U5a1 g6o
   have X6a1:=X5o.ext F7a
   refine wh h8a0<|wpIn_seq_k fun _ h7a1=>wpIn_seq_k fun _ h8a1=>Im (by rfl) (fun ⟨_,_,h⟩=>h)<|have q1e:=((((q5f.ext F9a).ext F6a).quiet hq).ext E7b).ext F7a;sV2 (Af Gd rfl (Bx.cell q1e rfl)) (Rm NW rfl) ?_
   refine wh h8a1<|wpIn_cond_false (Ai (evb rfl rfl))<|wpIn_skip<|h7a1 _ _<|wpIn_seq_k fun _ h9a1=>wpIn_seq_k fun _ h0a2=>Nv (by rfl) (fun ⟨_,_,h⟩=>h) [] 7 mo rfl fun w6f E1a S4h=>have X7o:=X6a1.ext E1a;dV 0 rfl (fun _ hw=>Al AN rfl ((q1g.ext E1a).ext hw) rfl) S4h ?_
   refine dV 1 rfl (fun _ hw=>Af Gd rfl (Bx.cell ((q1e.ext E1a).ext hw) rfl)) S4h ?_
   refine dA 2 rfl (fun _=>BE rfl) ?_
   refine dA 3 rfl (fun _=>Ag (o':=0) Fh rfl rfl) ?_
   refine dV 4 rfl (fun _ hw=>AL AN rfl (((((((qs.ext F9a).ext F6a).quiet hq).ext E7b).ext F7a).ext E1a).ext hw) (by simp only [List.drop_zero,List.take_succ_cons,List.take_zero];rfl) rfl) S4h ?_
   have n8o:=(((((n5.ext F9a).ext F6a).quiet hq).ext E7b).ext F7a).ext E1a
   obtain ⟨r1a2,h2a2,f3a2⟩:=Ab f2a1
   refine dc 5 rfl (by kernel_rfl) (by rfl) (Ad JE (by rfl)) (Ds r9c sr.lo A9d c0e AS cS w6f (tbx (belR hE2 X7o hE2.size) hT) ((n1k.ext F7a).ext E1a) n8o r1a2 h2a2) ?_
   rintro _ w6g E3a rfl
   refine dnrm ?_
   have X4a2:=X7o.ext E3a
   have S0a9:=S4h.trans E3a
   refine dab 6 rfl (by kernel_rfl) (fun _ _ _ h=>h) (by rfl) (fun _=>Cj rfl rfl) fun z9o hz9o=>?_
   refine dnrm ?_
   refine Cn (by kernel_rfl) ?_
   refine h0a2 _ _ ?_
   obtain ⟨m5d,h5a2,f6a2⟩:=Ab f3a2
   refine Lr (fun l l' w'=>∃(t0p:Value) (t1p:Value) (t2p:Value) (t3p:Value) (A6e:Option Addr) (c7e:Nat),UpdS [bs] w6g w'∧Bx w' bs 121 [.bool m5d.1,.slice A6e (sz m5d.2.1) c7e,.int .i64 m5d.2.2,.bool sr.hi.m.Neg,.slice AT (sz sr.hi.m.Abs) cT,.int .i64 sr.hi.e]∧RU w' A6e c7e m5d.2.1∧l'=((((l.set 32 t0p).set 33 t1p).set 34 t2p).set 35 t3p)) ?_ ?_
   ·rcases zi hz9o h5a2 with ⟨e2k,_,f7a2⟩ | ⟨e2k,_,f8a2⟩
    ·refine wpIn_cond_true (Ai (evb rfl e2k))<|Im (by rfl) (fun ⟨_,_,h⟩=>h)<|sV3 (Af Gd rfl (Bx.cell ((q1e.ext E1a).ext E3a) rfl)) (Al AN rfl ((q1g.ext E1a).ext E3a) rfl) (BE rfl) ?_
     refine sV (Ag (o':=0) Fh rfl rfl) ?_
     have q4p:=((((((qs.ext F9a).ext F6a).quiet hq).ext E7b).ext F7a).ext E1a).ext E3a
     refine ss CL q4p fun w7g U5p q9a2=>?_
     refine AG ?_
     have n0a3:=(((n1k.ext F7a).ext E1a).ext E3a).upd U5p q4p (by decide)
     obtain rfl:=sj f7a2
     exact ⟨_,rfl,(.pointer (some ⟨bs,0,none⟩)),(.agg #[.bool r9c.m.Neg,.slice A9d (sz r9c.m.Abs) c0e,.int .i64 r9c.e]),(.pointer (some ⟨bs,0,none⟩)),(.pointer (some ⟨bs,0,none⟩)),A9d,c0e,((UpdS.refl _ _).upd U5p (.inl im0)),q9a2,n0a3,(by simp only [S0,S1]<;>rfl)⟩
    ·refine wpIn_cond_false (Ai (evb rfl e2k))<|wpIn_skip ?_
     have q1a3:=((((((qs.ext F9a).ext F6a).quiet hq).ext E7b).ext F7a).ext E1a).ext E3a
     obtain rfl:=sj f8a2
     exact ⟨_,rfl,uu,uu,uu,uu,AS,cS,(UpdS.refl _ _),q1a3,(n8o.ext E3a),(by simp only [S0,S1]<;>rfl)⟩
   ·rintro l' w7g ⟨t0p,t1p,t2p,t3p,A6e,c7e,U2c,q8e,n2a3,hq'⟩ l'' hl
    rw [hq'] at hl
    clear hq'
    simp only [S0,S1] at hl
    subst hl
    have X3a3:=X4a2.updS U2c (alc ⟨g00,_,_,((((((qs.ext F9a).ext F6a).quiet hq).ext E7b).ext F7a).ext E1a).ext E3a⟩ al0)
    refine h9a1 _ _<|wpIn_seq_k fun _ h4a3=>Nv (by rfl) (fun ⟨_,_,h⟩=>h) [] 7 mo rfl fun w9f E5b S5h=>have X6p:=X3a3.ext E5b;have ne7p:=(Bx.neT ((q1g.ext E1a).ext E3a) (((((((qs.ext F9a).ext F6a).quiet hq).ext E7b).ext F7a).ext E1a).ext E3a) (by decide));dV 0 rfl (fun _ hw=>Al AN rfl (((((q1g.ext E1a).ext E3a).updS U2c (nmc ne7p nm0)).ext E5b).ext hw) rfl) S5h ?_
    have ne6h:=(Bx.neT ((q1e.ext E1a).ext E3a) (((((((qs.ext F9a).ext F6a).quiet hq).ext E7b).ext F7a).ext E1a).ext E3a) (by decide))
    refine dV 1 rfl (fun _ hw=>Af Gd rfl (Bx.cell (((((q1e.ext E1a).ext E3a).updS U2c (nmc ne6h nm0)).ext E5b).ext hw) rfl)) S5h ?_
    refine dA 2 rfl (fun _=>BE rfl) ?_
    refine dA 3 rfl (fun _=>Ag (o':=3) Fw rfl rfl) ?_
    refine dV 4 rfl (fun _ hw=>AL AN rfl ((q8e.ext E5b).ext hw) (by simp only [List.drop_succ_cons,List.drop_zero,List.take_succ_cons,List.take_zero];rfl) rfl) S5h ?_
    have n8p:RU w9f A9d c0e r9c.m.Abs:=((((n1k.ext F7a).ext E1a).ext E3a).updS U2c (alc ⟨_,_,by decide,((((((qs.ext F9a).ext F6a).quiet hq).ext E7b).ext F7a).ext E1a).ext E3a⟩ al0)).ext E5b
    have n9p:RU w9f AT cT sr.hi.m.Abs:=((((((((n6.ext F9a).ext F6a).quiet hq).ext E7b).ext F7a).ext E1a).ext E3a).updS U2c (alc ⟨_,_,by decide,((((((qs.ext F9a).ext F6a).quiet hq).ext E7b).ext F7a).ext E1a).ext E3a⟩ al0)).ext E5b
    obtain ⟨r5a3,h6a3,f7a3⟩:=Ab f6a2
    refine dc 5 rfl (by kernel_rfl) (by rfl) (Ad JE (by rfl)) (Ds r9c sr.hi A9d c0e AT cT w9f (tbx (belR hE2 X6p hE2.size) hT) n8p n9p r5a3 h6a3) ?_
    rintro _ w4e E8b rfl
    refine dnrm ?_
    have X8a3:=X6p.ext E8b
    have S1a9:=S5h.trans E8b
    refine dab 6 rfl (by kernel_rfl) (fun _ _ _ h=>h) (by rfl) (fun _=>EX rfl rfl) fun z0q hz0q=>?_
    refine dnrm ?_
    refine Cn (by kernel_rfl) ?_
    refine h4a3 _ _ ?_
    obtain ⟨m7h,h9a3,f0a4⟩:=Ab f7a3
    refine Lr (fun l l' w'=>∃(t1q:Value) (t2q:Value) (t3q:Value) (t4q:Value) (A8h:Option Addr) (c9h:Nat),UpdS [bs] w4e w'∧Bx w' bs 121 [.bool m5d.1,.slice A6e (sz m5d.2.1) c7e,.int .i64 m5d.2.2,.bool m7h.1,.slice A8h (sz m7h.2.1) c9h,.int .i64 m7h.2.2]∧RU w' A8h c9h m7h.2.1∧l'=((((l.set 43 t1q).set 44 t2q).set 45 t3q).set 46 t4q)) ?_ ?_
    ·rcases zi hz0q h9a3 with ⟨e3k,_,f1a4⟩ | ⟨e3k,_,f2a4⟩
     ·refine wpIn_cond_true (Ai (evb rfl e3k))<|Im (by rfl) (fun ⟨_,_,h⟩=>h)<|have q3a4:=((((q1e.ext E1a).ext E3a).updS U2c (nmc ne6h nm0)).ext E5b).ext E8b;sV (Af Gd rfl (Bx.cell q3a4 rfl)) ?_
      have q4a4:=((((q1g.ext E1a).ext E3a).updS U2c (nmc ne7p nm0)).ext E5b).ext E8b
      refine sV3 (Al AN rfl q4a4 rfl) (BE rfl) (Ag (o':=3) Fw rfl rfl) ?_
      refine ss CL ((q8e.ext E5b).ext E8b) fun w1c U5q q5a4=>?_
      refine AG ?_
      have n6a4:=(n8p.ext E8b).upd U5q ((q8e.ext E5b).ext E8b) (by decide)
      obtain rfl:=sj f1a4
      exact ⟨_,rfl,(.pointer (some ⟨bs,0,none⟩)),(.agg #[.bool r9c.m.Neg,.slice A9d (sz r9c.m.Abs) c0e,.int .i64 r9c.e]),(.pointer (some ⟨bs,0,none⟩)),(.pointer (some ⟨bs,3,none⟩)),A9d,c0e,((UpdS.refl _ _).upd U5q (.inl im0)),q5a4,n6a4,(by simp only [S0,S1]<;>rfl)⟩
     ·refine wpIn_cond_false (Ai (evb rfl e3k))<|wpIn_skip ?_
      obtain rfl:=sj f2a4
      exact ⟨_,rfl,uu,uu,uu,uu,AT,cT,(UpdS.refl _ _),((q8e.ext E5b).ext E8b),(n9p.ext E8b),(by simp only [S0,S1]<;>rfl)⟩
    ·rintro l' w1c ⟨t1q,t2q,t3q,t4q,A8h,c9h,U6d,q7a4,n8a4,hq'⟩ l'' hl
     rw [hq'] at hl
     clear hq'
     simp only [S0,S1] at hl
     subst hl
     have X4k:=X8a3.updS U6d (alc ⟨g00,_,_,(q8e.ext E5b).ext E8b⟩ al0)
     have hE3:=belR hE2 X4k hE2.size
     have ne6q:=(Bx.ne (q8i.ext E7d) gbs)
     have q9a4:=((((((((((q1f.ext F9a).ext F6a).quiet hq).ext E7b).ext F7a).ext E1a).ext E3a).updS U2c (nmc ne6q nm0)).ext E5b).ext E8b).updS U6d (nmc ne6q nm0)
     have ne7q:=(Bx.ne (((q5i.ext E0f).ext E2e).ext E7d) gbs)
     have q0a5:=((((((((((q2f.ext F9a).ext F6a).quiet hq).ext E7b).ext F7a).ext E1a).ext E3a).updS U2c (nmc ne7q nm0)).ext E5b).ext E8b).updS U6d (nmc ne7q nm0)
     have ne8q:=(Bx.neT (((((((q7c.ext F9a).ext F6a).quiet hq).ext E7b).ext F7a).ext E1a).ext E3a) (((((((qs.ext F9a).ext F6a).quiet hq).ext E7b).ext F7a).ext E1a).ext E3a) (by decide))
     have q1a5:=((((((((((q7c.ext F9a).ext F6a).quiet hq).ext E7b).ext F7a).ext E1a).ext E3a).updS U2c (nmc ne8q nm0)).ext E5b).ext E8b).updS U6d (nmc ne8q nm0)
     have ne9q:=(Bx.ne q4l gbs)
     have q2a5:=((((((((((q3f.ext F9a).ext F6a).quiet hq).ext E7b).ext F7a).ext E1a).ext E3a).updS U2c (nmc ne9q nm0)).ext E5b).ext E8b).updS U6d (nmc ne9q nm0)
     have ne0r:=(Bx.ne q5l gbs)
     have q3a5:=((((((((((q4f.ext F9a).ext F6a).quiet hq).ext E7b).ext F7a).ext E1a).ext E3a).updS U2c (nmc ne0r nm0)).ext E5b).ext E8b).updS U6d (nmc ne0r nm0)
     have q4a5:=(((((q1e.ext E1a).ext E3a).updS U2c (nmc ne6h nm0)).ext E5b).ext E8b).updS U6d (nmc ne6h nm0)
     have n5a5:RU w1c A6e c7e m5d.2.1:=((n2a3.ext E5b).ext E8b).updS U6d (alc ⟨_,_,by decide,(q8e.ext E5b).ext E8b⟩ al0)
     obtain rfl:=sj f0a4
     exact ⟨X4k,hE3,nlt (nlt (nlt hK X3h.size) hq.size) X4k.size,q9a4,q0a5,q1a5,q2a5,q3a5,(by rw [ho'];exact ⟨bs,A6e,c7e,A8h,c9h,gbs,q4a5,q7a4,n5a5,n8a4⟩)⟩
 ·intro D w1h hD hI hk0
  subst hO
  obtain ⟨hX,hK,q1f,q2f,q7c,q3f,q4f,hS⟩:=hI
  obtain ⟨bs,AS,cS,AT,cT,gbs,q5f,qs,n5,n6⟩:=hS
  have hk:Df w1h D:=hk0
  refine h2t _ _<|wp_seq_k fun _ h6a5=>Ae<|sV3 (Af Gd rfl (Bx.cell q5f rfl)) (BE rfl) (Al Ln rfl qs rfl) ?_
  refine sV (Aa rfl) ?_
  obtain ⟨r5k,h7a5,f8a5⟩:=Ab f2u
  refine sc (Ad en_118 (by rfl)) (c_dyad_span_outward s2j x2 AS cS AT cT w1h (tbx hX hT) n5 n6 r5k h7a5) ?_
  rintro _ w2h E9e ⟨A1r,c2r,A3r,c4r,rfl,n5r,n6r⟩
  refine nrm ?_
  have X0i:=xtr hX E9e
  have hk7r:=Df.ext hk E9e
  rcases AR f8a5 with ⟨r6k,h7k,f9a5⟩ | ⟨r6k,h7k,rfl⟩
  ·refine scO (Ad Mv (by rfl)) (Gi r5k A1r c2r A3r c4r w2h (tbx X0i hT) n5r n6r (.ok r6k) h7k) ?_
   rintro _ w8c E3d ⟨A0a6,c1a6,A2a6,c3a6,rfl,n4a6,n5a6⟩
   refine nrm ?_
   have X6a6:=xtr X0i E3d
   have hk7a6:=Df.ext hk7r E3d
   refine ss HJ ((q7c.ext E9e).ext E3d) fun w8j U1i q8a6=>?_
   have X8r:=belU X6a6 U1i g7s
   have hk9r:=Df.upd hk7a6 U1i ((q7c.ext E9e).ext E3d)
   refine wh h6a5<|wp_ret ?_
   have Q2i:=Quiet.put (n0:=w.heap.size) (.deferred none) hk9r hD rfl
   have hXE:=belQ X8r Q2i X8r.size
   have n9a6:=(n4a6.upd U1i ((q7c.ext E9e).ext E3d) (by decide)).quiet Q2i
   have n0a7:=(n5a6.upd U1i ((q7c.ext E9e).ext E3d) (by decide)).quiet Q2i
   obtain rfl:=sj f9a5
   exact QX hk9r rfl (Res.cellN rfl DE (q8a6.quiet Q2i) rfl rfl Res.nil) (EK hXE ⟨A0a6,c1a6,A2a6,c3a6,rfl,n9a6,n0a7⟩)
  ·refine scP (Ad Mv (by rfl)) (Gi r5k A1r c2r A3r c4r w2h (tbx X0i hT) n5r n6r (.error r6k) h7k) fun w8c E3d=>?_
   have X0s:=xtr X0i E3d
   have hk1s:=Df.ext hk7r E3d
   exact panM hk1s (Cw (belQ X0s (Quiet.put _ hk1s hD rfl) X0s.size))
theorem c_dyad_made_Span__dyad_Times_1 (x0:AO) (x1:AO) (x2:Int) (A1:Option Addr) (c2:Nat) (A4:Option Addr) (c5:Nat) (A7:Option Addr) (c8:Nat) (A6a:Option Addr) (c8a:Nat) (w:World) (hT:TB w) (n3:RLu w A1 c2 x0.Lo.Man.Abs) (n6:RLu w A4 c5 x0.Hi.Man.Abs) (n9:RLu w A7 c8 x1.Lo.Man.Abs) (n4b:RLu w A6a c8a x1.Hi.Man.Abs) (r:AI × Int) (hr:EV x0 x1 x2=some r) :
  Calls Tryz.prog 100 #[.agg #[.bool x0.Lo.Man.Neg,.slice A1 x0.Lo.Man.Abs.length c2,.int .i64 x0.Lo.Exp,.bool x0.Hi.Man.Neg,.slice A4 x0.Hi.Man.Abs.length c5,.int .i64 x0.Hi.Exp],.agg #[.bool x1.Lo.Man.Neg,.slice A7 x1.Lo.Man.Abs.length c8,.int .i64 x1.Lo.Exp,.bool x1.Hi.Man.Neg,.slice A6a x1.Hi.Man.Abs.length c8a,.int .i64 x1.Hi.Exp],.int .i64 x2,.func (.func 116) #[] #[]] w (Ret Jy w r):=by
 unfold EV at hr
 obtain ⟨q0,hq0,hr0⟩:=Ab hr
 unfold GD at hq0
 go_enter_defers Tryz.func100,Tryz.ntmps100
 refine wp_seq_k fun _ h4e=>Ae<|Bu rfl rfl fun b9l w1 E5e g0m q7g=>?_
 refine nrm ?_
 refine Bu rfl rfl fun b1m w2 E6e g8g q7e=>?_
 refine nrm ?_
 have g2m:=nlt E5e.size g8g
 have X8e:=xtr E5e E6e
 refine AA Ii fun b5b w3 E6b g9g q7b=>?_
 refine nrm ?_
 have g8b:=nlt X8e.size g9g
 have X9e:=xtr X8e E6b
 refine AA JM fun b9b w4 E0b g0h q3b=>?_
 refine nrm ?_
 have g0c:=nlt X9e.size g0h
 have X0f:=xtr X9e E0b
 refine wh h4e<|wp_seq_k fun _ h1h=>Ae<|Ic (vs:=[.pointer (some ⟨b5b,0,none⟩),.pointer (some ⟨b9b,0,none⟩)]) (by rfl) (by rfl)<|wh h1h<|wp_seq_k fun _ h2h=>Ae<|have q1f:=((q7g.ext E6e).ext E6b).ext E0b;sV2 (Al DE rfl q1f rfl) (Al DE rfl ((q7e.ext E6b).ext E0b) rfl) ?_
 refine Cv (vals:=[(0,.agg #[.bool x0.Lo.Man.Neg,.slice A1 x0.Lo.Man.Abs.length c2,.int .i64 x0.Lo.Exp,.bool x0.Hi.Man.Neg,.slice A4 x0.Hi.Man.Abs.length c5,.int .i64 x0.Hi.Exp]),(1,.agg #[.bool x1.Lo.Man.Neg,.slice A7 x1.Lo.Man.Abs.length c8,.int .i64 x1.Lo.Exp,.bool x1.Hi.Man.Neg,.slice A6a x1.Hi.Man.Abs.length c8a,.int .i64 x1.Hi.Exp])]) (cs:=[.bool x0.Lo.Man.Neg,.slice A1 x0.Lo.Man.Abs.length c2,.int .i64 x0.Lo.Exp,.bool x0.Hi.Man.Neg,.slice A4 x0.Hi.Man.Abs.length c5,.int .i64 x0.Hi.Exp,.bool x1.Lo.Man.Neg,.slice A7 x1.Lo.Man.Abs.length c8,.int .i64 x1.Lo.Exp,.bool x1.Hi.Man.Neg,.slice A6a x1.Hi.Man.Abs.length c8a,.int .i64 x1.Hi.Exp]) Mx HJ Ii (by rfl) (by decide) (by kernel_rfl) fun b2f w5 E3a g3h q3f=>?_
 refine nrm ?_
 have g3m:=nlt X0f.size g3h
 have X4a:=xtr X0f E3a
 rcases AR hq0 with ⟨r1c,h9d,f4h⟩ | ⟨r1c,h9d,rfl⟩
 ·refine scO (Ad Mq (by rfl)) (FM x0 x1 b2f A1 c2 A4 c5 A7 c8 A6a c8a w5 (tbx X4a hT) (n3.ext X4a) (n6.ext X4a) (n9.ext X4a) (n4b.ext X4a) q3f (.ok r1c) h9d) ?_
  rintro _ w6 E2a rfl
  refine nrm ?_
  have X2c:=xtr X4a E2a
  refine wh h2h<|wp_seq_k fun _ h5h=>Ae<|sV (Aa rfl) ?_
  rcases AR f4h with ⟨r3c,h0e,f6h⟩ | ⟨r3c,h0e,rfl⟩
  ·refine scO (Ad Lh (by rfl)) (GT x2 w6 (tbx X2c hT)  (.ok r3c) h0e) ?_
   rintro _ w7 E5a rfl
   refine nrm ?_
   have X7h:=xtr X2c E5a
   refine wh h5h<|wp_seq_k fun _ h8h=>Dn [7,8] 9 mo rfl fun w8 E1b S1e=>?_
   have X4c:=xtr X7h E1b
   refine dA 0 rfl (fun _=>Aa rfl) ?_ (hQ:=fun _ _ _ h=>dq (rs:=[.cell 8 29,.cell 9 33]) rfl (by decide) h)
   refine dV 1 rfl (fun _ hw=>Al DE rfl (((((q1f.ext E3a).ext E2a).ext E5a).ext E1b).ext hw) rfl) S1e ?_ (hQ:=fun _ _ _ h=>dq (rs:=[.cell 8 29,.cell 9 33]) rfl (by decide) h)
   refine dV 3 rfl (fun _ hw=>Al DE rfl (((((((q7e.ext E6b).ext E0b).ext E3a).ext E2a).ext E5a).ext E1b).ext hw) rfl) S1e ?_ (hQ:=fun _ _ _ h=>dq (rs:=[.cell 8 29,.cell 9 33]) rfl (by decide) h)
   refine dA 5 rfl (fun _=>Aa rfl) ?_ (hQ:=fun _ _ _ h=>dq (rs:=[.cell 8 29,.cell 9 33]) rfl (by decide) h)
   obtain ⟨m4f,h9h,f0i⟩:=Ab f6h
   have hx5f:=BO h9h
   have n1i:RU w8 A1 c2 m4f:=by unfold RU;rw [hx5f];exact (n3.ext X4c)
   obtain ⟨m6f,h2i,f3i⟩:=Ab f0i
   have hx7f:=BO h2i
   have n4i:RU w8 A4 c5 m6f:=by unfold RU;rw [hx7f];exact (n6.ext X4c)
   obtain ⟨r0a,h5i,f6i⟩:=Ab f3i
   refine dc 2 rfl (by kernel_rfl) (by rfl) (Ad MB (by simp only [sz,hx5f,hx7f];rfl)) (Hp (⟨(⟨(⟨x0.Lo.Man.Neg,m4f⟩:Ah),x0.Lo.Exp⟩:Ak),(⟨(⟨x0.Hi.Man.Neg,m6f⟩:Ah),x0.Hi.Exp⟩:Ak)⟩:AI) A1 c2 A4 c5 w8 (tbx X4c hT) n1i n4i r0a h5i) ?_
   rintro _ w9 E2b ⟨A5c,c6c,A7c,c8c,rfl,n8f,n9f⟩
   refine dnrm ?_
   have X9c:=xtr X4c E2b
   have S7i:=S1e.trans E2b
   obtain ⟨m0g,h8i,f9i⟩:=Ab f6i
   have hx1g:=BO h8i
   have n0j:RU w9 A7 c8 m0g:=by unfold RU;rw [hx1g];exact (n9.ext X9c)
   obtain ⟨m2g,h1j,f2j⟩:=Ab f9i
   have hx3g:=BO h1j
   have n3j:RU w9 A6a c8a m2g:=by unfold RU;rw [hx3g];exact (n4b.ext X9c)
   obtain ⟨r1a,h4j,f5j⟩:=Ab f2j
   refine dc 4 rfl (by kernel_rfl) (by rfl) (Ad MB (by simp only [sz,hx1g,hx3g];rfl)) (Hp (⟨(⟨(⟨x1.Lo.Man.Neg,m0g⟩:Ah),x1.Lo.Exp⟩:Ak),(⟨(⟨x1.Hi.Man.Neg,m2g⟩:Ah),x1.Hi.Exp⟩:Ak)⟩:AI) A7 c8 A6a c8a w9 (tbx X9c hT) n0j n3j r1a h4j) ?_
   rintro _ w6a E7a ⟨A0d,c1d,A2d,c3d,rfl,n4g,n5g⟩
   refine dnrm ?_
   have X4d:=xtr X9c E7a
   have S6j:=S7i.trans E7a
   rcases AR f5j with ⟨r5d,h2e,f7j⟩ | ⟨r5d,h2e,rfl⟩
   ·refine dcO 6 rfl (by kernel_rfl) (by rfl) (Gx (first:=[]) (cap:=[]) (args:=[.agg #[.bool r0a.lo.m.Neg,.slice A5c (sz r0a.lo.m.Abs) c6c,.int .i64 r0a.lo.e,.bool r0a.hi.m.Neg,.slice A7c (sz r0a.hi.m.Abs) c8c,.int .i64 r0a.hi.e],.agg #[.bool r1a.lo.m.Neg,.slice A0d (sz r1a.lo.m.Abs) c1d,.int .i64 r1a.lo.e,.bool r1a.hi.m.Neg,.slice A2d (sz r1a.hi.m.Abs) c3d,.int .i64 r1a.hi.e],.int .i64 x2]) QM (by rfl) (by rfl)) (KQ r0a r1a x2 A5c c6c A7c c8c A0d c1d A2d c3d w6a (tbx X4d hT) (n8f.ext E7a) (n9f.ext E7a) n4g n5g (.ok r5d) h2e) ?_
    rintro _ w8a E9a ⟨A8j,c9j,A0k,c1k,rfl,n2k,n3k⟩
    refine dnrm ?_
    have X4k:=xtr X4d E9a
    have S4m:=S6j.trans E9a
    have q6d:=(((((((q7b.ext E0b).ext E3a).ext E2a).ext E5a).ext E1b).ext E2b).ext E7a).ext E9a
    refine dkk 7 HJ q6d fun w4b U7d q5k=>?_
    have X6k:=belU X4k U7d g8b
    have ne6g:=(Bx.neT (((((((q3b.ext E3a).ext E2a).ext E5a).ext E1b).ext E2b).ext E7a).ext E9a) q6d (by decide))
    have q3e:=(((((((q3b.ext E3a).ext E2a).ext E5a).ext E1b).ext E2b).ext E7a).ext E9a).upd U7d ne6g
    refine dkk 8 HU q3e fun w4e U8d q7k=>?_
    have X8k:=belU X6k U8d g0c
    refine Cn (by kernel_rfl) ?_
    refine h8h _ _<|wp_ret ?_
    have n9k:=(n2k.upd U7d q6d (by decide)).upd U8d q3e (by decide)
    have n0l:=(n3k.upd U7d q6d (by decide)).upd U8d q3e (by decide)
    obtain rfl:=sj f7j
    obtain rfl:=sj hr0
    exact Nu Hs Jj rfl (Res.cellN rfl DE (q5k.upd U8d (Ne.symm ne6g)) rfl rfl (Res.cell1 rfl Dy (Bx.cell q7k rfl) Res.nil)) (Aj X8k ⟨A8j,c9j,A0k,c1k,rfl,n9k,n0l⟩)
   ·refine dcP 6 rfl (by kernel_rfl) (by rfl) (Gx (first:=[]) (cap:=[]) (args:=[.agg #[.bool r0a.lo.m.Neg,.slice A5c (sz r0a.lo.m.Abs) c6c,.int .i64 r0a.lo.e,.bool r0a.hi.m.Neg,.slice A7c (sz r0a.hi.m.Abs) c8c,.int .i64 r0a.hi.e],.agg #[.bool r1a.lo.m.Neg,.slice A0d (sz r1a.lo.m.Abs) c1d,.int .i64 r1a.lo.e,.bool r1a.hi.m.Neg,.slice A2d (sz r1a.hi.m.Abs) c3d,.int .i64 r1a.hi.e],.int .i64 x2]) QM (by rfl) (by rfl)) (KQ r0a r1a x2 A5c c6c A7c c8c A0d c1d A2d c3d w6a (tbx X4d hT) (n8f.ext E7a) (n9f.ext E7a) n4g n5g (.error r5d) h2e) fun w8a E9a=>?_
    have X1l:=xtr X4d E9a
    have q2l:=(((((((q7b.ext E0b).ext E3a).ext E2a).ext E5a).ext E1b).ext E2b).ext E7a).ext E9a
    have q3l:=((((((q3b.ext E3a).ext E2a).ext E5a).ext E1b).ext E2b).ext E7a).ext E9a
    refine JP Jj (CU b5b b9b (.bool false:Value) (.slice none 0 0:Value) (.int .i64 0:Value) (.bool false:Value) (.slice none 0 0:Value) (.int .i64 0:Value) (.int .i64 0:Value) r5d q2l q3l) rfl ?_
    rintro w9 ⟨u9,q9,q9'⟩
    obtain rfl:=sj hr0
    exact ⟨_,(Res.cellN rfl DE q9 rfl rfl (Res.cell1 rfl Dy (Bx.cell q9' rfl) Res.nil)),Aj (u9.toExt X1l g8b g0c) ⟨none,0,none,0,rfl,RU.nil _,RU.nil _⟩⟩
  ·refine scP (Ad Lh (by rfl)) (GT x2 w6 (tbx X2c hT)  (.error r3c) h0e) fun w7 E5a=>?_
   have X4l:=xtr X2c E5a
   have q5l:=(((q7b.ext E0b).ext E3a).ext E2a).ext E5a
   have q6l:=((q3b.ext E3a).ext E2a).ext E5a
   refine JP Jj (CU b5b b9b (.bool false:Value) (.slice none 0 0:Value) (.int .i64 0:Value) (.bool false:Value) (.slice none 0 0:Value) (.int .i64 0:Value) (.int .i64 0:Value) r3c q5l q6l) rfl ?_
   rintro w9 ⟨u9,q9,q9'⟩
   obtain rfl:=sj hr0
   exact ⟨_,(Res.cellN rfl DE q9 rfl rfl (Res.cell1 rfl Dy (Bx.cell q9' rfl) Res.nil)),Aj (u9.toExt X4l g8b g0c) ⟨none,0,none,0,rfl,RU.nil _,RU.nil _⟩⟩
 ·refine scP (Ad Mq (by rfl)) (FM x0 x1 b2f A1 c2 A4 c5 A7 c8 A6a c8a w5 (tbx X4a hT) (n3.ext X4a) (n6.ext X4a) (n9.ext X4a) (n4b.ext X4a) q3f (.error r1c) h9d) fun w6 E2a=>?_
  have X7l:=xtr X4a E2a
  have q8l:=((q7b.ext E0b).ext E3a).ext E2a
  refine JP Jj (CU b5b b9b (.bool false:Value) (.slice none 0 0:Value) (.int .i64 0:Value) (.bool false:Value) (.slice none 0 0:Value) (.int .i64 0:Value) (.int .i64 0:Value) r1c q8l ((q3b.ext E3a).ext E2a)) rfl ?_
  rintro w9 ⟨u9,q9,q9'⟩
  obtain rfl:=sj hr0
  exact ⟨_,(Res.cellN rfl DE q9 rfl rfl (Res.cell1 rfl Dy (Bx.cell q9' rfl) Res.nil)),Aj (u9.toExt X7l g8b g0c) ⟨none,0,none,0,rfl,RU.nil _,RU.nil _⟩⟩
theorem c_dyad_Times (x0:AO) (x1:AO) (x2:Int) (A1:Option Addr) (c2:Nat) (A4:Option Addr) (c5:Nat) (A7:Option Addr) (c8:Nat) (A2a:Option Addr) (c3a:Nat) (w:World) (hT:TB w) (n3:RLu w A1 c2 x0.Lo.Man.Abs) (n6:RLu w A4 c5 x0.Hi.Man.Abs) (n9:RLu w A7 c8 x1.Lo.Man.Abs) (n0b:RLu w A2a c3a x1.Hi.Man.Abs) (r:AI × Int) (hr:Kx x0 x1 x2=some r) :
  Calls Tryz.prog 32 #[.agg #[.bool x0.Lo.Man.Neg,.slice A1 x0.Lo.Man.Abs.length c2,.int .i64 x0.Lo.Exp,.bool x0.Hi.Man.Neg,.slice A4 x0.Hi.Man.Abs.length c5,.int .i64 x0.Hi.Exp],.agg #[.bool x1.Lo.Man.Neg,.slice A7 x1.Lo.Man.Abs.length c8,.int .i64 x1.Lo.Exp,.bool x1.Hi.Man.Neg,.slice A2a x1.Hi.Man.Abs.length c3a,.int .i64 x1.Hi.Exp],.int .i64 x2] w (Ret Jy w r):=by
 unfold Kx at hr
 go_enter Tryz.func32,Tryz.ntmps32
 refine wp_seq_k fun _ h1b=>Ae<|Bu rfl rfl fun b2d w1 E7a g3d q2b=>?_
 refine nrm ?_
 refine Bu rfl rfl fun b4d w2 E8a g3b q4b=>?_
 refine nrm ?_
 have g5d:=nlt E7a.size g3b
 have X9a:=xtr E7a E8a
 refine AA Ii fun b6d w3 E4a g5b q5a=>?_
 refine nrm ?_
 have g6b:=nlt X9a.size g5b
 have X0a:=xtr X9a E4a
 refine sV (Ac rfl) ?_
 refine wh h1b<|wp_seq_k fun _ h7b=>Ae<|sV3 (Al DE rfl ((q2b.ext E8a).ext E4a) rfl) (Al DE rfl (q4b.ext E4a) rfl) (Aa rfl) ?_
 obtain ⟨r8b,h9b,f0c⟩:=Ab hr
 refine sc (Ad Pj (by rfl)) (c_dyad_made_Span__dyad_Times_1 x0 x1 x2 A1 c2 A4 c5 A7 c8 A2a c3a w3 (tbx X0a hT) (n3.ext X0a) (n6.ext X0a) (n9.ext X0a) (n0b.ext X0a) r8b h9b) ?_
 rintro _ w4 E1a ⟨A1c,c2c,A3c,c4c,rfl,n5c,n6c⟩
 refine nrm ?_
 have X7c:=xtr X0a E1a
 refine sV2 (Av rfl rfl) (Av rfl rfl) ?_
 refine ss HJ (q5a.ext E1a) fun w5 U6a q8c=>?_
 have X9c:=belU X7c U6a g6b
 refine sV (Ac rfl) ?_
 refine wh h7b<|wp_ret ?_
 have n0d:=n5c.upd U6a (q5a.ext E1a) (by decide)
 have n1d:=n6c.upd U6a (q5a.ext E1a) (by decide)
 obtain rfl:=sj f0c
 exact fin rfl (Res.cellN rfl DE q8c rfl rfl (Res.tmp rfl Res.nil)) (Aj X9c ⟨A1c,c2c,A3c,c4c,rfl,n0d,n1d⟩)
theorem ID (x0:Ah) (x1:Ah) (A1:Option Addr) (c2:Nat) (A4:Option Addr) (c5:Nat) (w:World) (hT:TB w) (n3:RU w A1 c2 x0.Abs) (n6:RU w A4 c5 x1.Abs) (r:Bool) (hr:CW x0 x1=some r) :
  Calls Tryz.prog 86 #[.agg #[.bool x0.Neg,.slice A1 (sz x0.Abs) c2],.agg #[.bool x1.Neg,.slice A4 (sz x1.Abs) c5]] w (Ret Gq w r):=by
 unfold CW at hr
 go_enter Tryz.func86,Tryz.ntmps86
 refine wp_seq_k fun _ h7=>Ae<|Bu rfl rfl fun b8 w1 E9 g4c q3a=>?_
 refine nrm ?_
 refine Bu rfl rfl fun b2b w2 E2a g3b q4a=>?_
 refine nrm ?_
 have g5c:=nlt E9.size g3b
 have X1a:=xtr E9 E2a
 refine sV (Ac rfl) ?_
 refine wh h7<|wp_seq_k fun _ h4b=>Ae<|sV3 (Ag (o':=0) DF rfl rfl) (Af GC rfl (Bx.cell (q3a.ext E2a) rfl)) (Ag (o':=0) DF rfl rfl) ?_
 refine sV (Af GC rfl (Bx.cell q4a rfl)) ?_
 refine sb (Pa Ps rfl rfl) fun z5a hz5a=>?_
 refine nrm ?_
 refine sV (Aa rfl) ?_
 obtain ⟨m5b,h6b,f32⟩:=Ab hr
 refine Bm 12 (fun l l' w'=>∃(t6a:Value) (t7a:Value) (t8a:Value) (t9a:Value) (t0b:Value),UpdS [] w2 w'∧l'=((((((l.set 11 t6a).set 12 t7a).set 13 t8a).set 14 t9a).set 15 t0b).set 16 (.bool m5b))) ?_ ?_
 ·intro HJ39
  rcases zi hz5a h6b with ⟨e0a,_,f7b⟩ | ⟨e0a,_,f8b⟩
  ·refine sV (Ag (o':=1) Bf rfl rfl) ?_ (hw:=wgT rfl e0a)
   refine sV (Af BJ rfl (Bx.cell (q3a.ext E2a) rfl)) ?_ (hw:=wgT rfl e0a)
   refine sV (Ag (o':=1) Bf rfl rfl) ?_ (hw:=wgT rfl e0a)
   refine sV (Af BJ rfl (Bx.cell q4a rfl)) ?_ (hw:=wgT rfl e0a)
   obtain ⟨r1b,h9b,f0c⟩:=Ab f7b
   refine sc (Ad OI (by rfl)) (Fx (limbs x0.Abs) (limbs x1.Abs) A1 c2 A4 c5 w2 (tbx X1a hT) (n3.ext X1a) (n6.ext X1a) r1b h9b) ?_ (hw:=wgT rfl e0a)
   rintro _ w3 E1c rfl
   refine nrm ?_
   refine sV (Ar (evb rfl e0a) rfl) ?_
   obtain rfl:=sj f0c
   exact HJ39 _ _ ⟨(.pointer (some ⟨b8,1,none⟩)),(.slice A1 (sz x0.Abs) c2),(.pointer (some ⟨b2b,1,none⟩)),(.slice A4 (sz x1.Abs) c5),(.bool r1b),((UpdS.refl _ _).ext E1c),(by simp only [S0,S1]<;>rfl)⟩
  ·refine sP ?_ (hw:=wgF rfl e0a)
   refine sP ?_ (hw:=wgF rfl e0a)
   refine sP ?_ (hw:=wgF rfl e0a)
   refine sP ?_ (hw:=wgF rfl e0a)
   refine sP ?_ (hw:=wgF rfl e0a)
   refine sV (Aw (evb rfl e0a) rfl) ?_
   obtain rfl:=sj f8b
   exact HJ39 _ _ ⟨uu,uu,uu,uu,uu,(UpdS.refl _ _),(by simp only [S0,S1]<;>rfl)⟩
 ·rintro l' w3 ⟨t6a,t7a,t8a,t9a,t0b,U2c,hq'⟩ l'' hl
  rw [hq'] at hl
  clear hq'
  simp only [S0,S1] at hl
  subst hl
  have X3c:=KR X1a U2c (X1a).size al0
  refine sV (Ac rfl) ?_
  refine wh h4b<|wp_ret ?_
  obtain rfl:=sj f32
  exact fin rfl (Res.tmp rfl Res.nil) (Aj X3c rfl)
theorem FD (x0:Ak) (x1:Ak) (A1:Option Addr) (c2:Nat) (A4:Option Addr) (c5:Nat) (w:World) (hT:TB w) (n3:RU w A1 c2 x0.Man.Abs) (n6:RU w A4 c5 x1.Man.Abs) (r:Bool) (hr:DL x0 x1=some r) :
  Calls Tryz.prog 37 #[.agg #[.bool x0.Man.Neg,.slice A1 (sz x0.Man.Abs) c2,.int .i64 x0.Exp],.agg #[.bool x1.Man.Neg,.slice A4 (sz x1.Man.Abs) c5,.int .i64 x1.Exp]] w (Ret Gq w r):=by
 unfold DL at hr
 go_enter Tryz.func37,Tryz.ntmps37
 refine wp_seq_k fun _ h7=>Ae<|Bu rfl rfl fun b8 w1 E9 g3c q5a=>?_
 refine nrm ?_
 refine Bu rfl rfl fun b2b w2 E2a g3b q6a=>?_
 refine nrm ?_
 have g4c:=nlt E9.size g3b
 have X1a:=xtr E9 E2a
 refine sV (Ac rfl) ?_
 refine wh h7<|wp_seq_k fun _ h4b=>Ae<|sV2 (Ag (o':=0) Ey rfl rfl) (AL Dq rfl (q5a.ext E2a) (by simp only [List.drop_zero,List.take_succ_cons,List.take_zero];rfl) rfl) ?_
 refine sV2 (Ag (o':=0) Ey rfl rfl) (AL Dq rfl q6a (by simp only [List.drop_zero,List.take_succ_cons,List.take_zero];rfl) rfl) ?_
 obtain ⟨r5b,h6b,f7b⟩:=Ab hr
 refine sc (Ad Rf (by rfl)) (ID x0.Man x1.Man A1 c2 A4 c5 w2 (tbx X1a hT) (n3.ext X1a) (n6.ext X1a) r5b h6b) ?_
 rintro _ w3 E3a rfl
 refine nrm ?_
 have X8b:=xtr X1a E3a
 refine sV (Aa rfl) ?_
 obtain ⟨m9b,h0c,f32⟩:=Ab f7b
 refine Bm 12 (fun l l' w'=>∃(t7a:Value) (t8a:Value) (t9a:Value) (t0b:Value) (t1b:Value),w3=w'∧l'=((((((l.set 11 t7a).set 12 t8a).set 13 t9a).set 14 t0b).set 15 t1b).set 16 (.bool m9b))) ?_ ?_
 ·intro HJ39
  rcases zb h0c with ⟨e0a,f1c⟩ | ⟨e0a,f2c⟩
  ·refine sV (Ag (o':=2) EZ rfl rfl) ?_ (hw:=wgT rfl e0a)
   refine sV (Af EN rfl (Bx.cell ((q5a.ext E2a).ext E3a) rfl)) ?_ (hw:=wgT rfl e0a)
   refine sV (Ag (o':=2) EZ rfl rfl) ?_ (hw:=wgT rfl e0a)
   refine sV (Af EN rfl (Bx.cell (q6a.ext E3a) rfl)) ?_ (hw:=wgT rfl e0a)
   refine sb (Bl rfl rfl) ?_ (hw:=wgT rfl e0a)
   intro z4a hz4a
   refine nrm ?_
   refine sV (Ar (evb rfl e0a) rfl) ?_
   obtain rfl:z4a=decide (x0.Exp=x1.Exp):=bz hz4a
   obtain rfl:=sj f1c
   exact HJ39 _ _ ⟨(.pointer (some ⟨b8,2,none⟩)),(.int .i64 x0.Exp),(.pointer (some ⟨b2b,2,none⟩)),(.int .i64 x1.Exp),(.bool (decide (x0.Exp=x1.Exp))),rfl,(by simp only [S0,S1]<;>rfl)⟩
  ·refine sP ?_ (hw:=wgF rfl e0a)
   refine sP ?_ (hw:=wgF rfl e0a)
   refine sP ?_ (hw:=wgF rfl e0a)
   refine sP ?_ (hw:=wgF rfl e0a)
   refine sP ?_ (hw:=wgF rfl e0a)
   refine sV (Aw (evb rfl e0a) rfl) ?_
   obtain rfl:=sj f2c
   exact HJ39 _ _ ⟨uu,uu,uu,uu,uu,rfl,(by simp only [S0,S1]<;>rfl)⟩
 ·rintro l' _ ⟨t7a,t8a,t9a,t0b,t1b,rfl,hq'⟩ l'' hl
  rw [hq'] at hl
  clear hq'
  simp only [S0,S1] at hl
  subst hl
  refine sV (Ac rfl) ?_
  refine wh h4b<|wp_ret ?_
  obtain rfl:=sj f32
  exact fin rfl (Res.tmp rfl Res.nil) (Aj X8b rfl)
theorem GN (x0:AI) (x1:AI) (A1:Option Addr) (c2:Nat) (A4:Option Addr) (c5:Nat) (A7:Option Addr) (c8:Nat) (A2a:Option Addr) (c3a:Nat) (w:World) (hT:TB w) (n3:RU w A1 c2 x0.Lo.Man.Abs) (n6:RU w A4 c5 x0.Hi.Man.Abs) (n9:RU w A7 c8 x1.Lo.Man.Abs) (n6b:RU w A2a c3a x1.Hi.Man.Abs) (r:Bool) (hr:Em x0 x1=some r) :
  Calls Tryz.prog 76 #[.agg #[.bool x0.Lo.Man.Neg,.slice A1 (sz x0.Lo.Man.Abs) c2,.int .i64 x0.Lo.Exp,.bool x0.Hi.Man.Neg,.slice A4 (sz x0.Hi.Man.Abs) c5,.int .i64 x0.Hi.Exp],.agg #[.bool x1.Lo.Man.Neg,.slice A7 (sz x1.Lo.Man.Abs) c8,.int .i64 x1.Lo.Exp,.bool x1.Hi.Man.Neg,.slice A2a (sz x1.Hi.Man.Abs) c3a,.int .i64 x1.Hi.Exp]] w (Ret Gq w r):=by
 unfold Em at hr
 go_enter Tryz.func76,Tryz.ntmps76
 refine wp_seq_k fun _ h7b=>Ae<|Bu rfl rfl fun b8b w1 E7a g5d q8a=>?_
 refine nrm ?_
 refine Bu rfl rfl fun b9b w2 E5a g0c q9a=>?_
 refine nrm ?_
 have g6d:=nlt E7a.size g0c
 have X4a:=xtr E7a E5a
 refine sV (Ac rfl) ?_
 refine wh h7b<|wp_seq_k fun _ h1c=>Ae<|sV2 (Ag (o':=0) Mc rfl rfl) (AL Bt rfl (q8a.ext E5a) (by simp only [List.drop_zero,List.take_succ_cons,List.take_zero];rfl) rfl) ?_
 refine sV2 (Ag (o':=0) Mc rfl rfl) (AL Bt rfl q9a (by simp only [List.drop_zero,List.take_succ_cons,List.take_zero];rfl) rfl) ?_
 obtain ⟨r2c,h3c,f4c⟩:=Ab hr
 refine sc (Ad Ox (by rfl)) (FD x0.Lo x1.Lo A1 c2 A7 c8 w2 (tbx X4a hT) (n3.ext X4a) (n9.ext X4a) r2c h3c) ?_
 rintro _ w3 E6a rfl
 refine nrm ?_
 have X1a:=xtr X4a E6a
 refine sV (Aa rfl) ?_
 obtain ⟨m5c,h6c,f7c⟩:=Ab f4c
 refine Bm 12 (fun l l' w'=>∃(t0b:Value) (t1b:Value) (t2b:Value) (t3b:Value) (t4b:Value),UpdS [] w3 w'∧l'=((((((l.set 11 t0b).set 12 t1b).set 13 t2b).set 14 t3b).set 15 t4b).set 16 (.bool m5c))) ?_ ?_
 ·intro HJ49
  rcases zb h6c with ⟨e0a,f8c⟩ | ⟨e0a,f9c⟩
  ·refine sV (Ag (o':=3) Mb rfl rfl) ?_ (hw:=wgT rfl e0a)
   refine sV (AL Bt rfl ((q8a.ext E5a).ext E6a) (by simp only [List.drop_succ_cons,List.drop_zero,List.take_succ_cons,List.take_zero];rfl) rfl) ?_ (hw:=wgT rfl e0a)
   refine sV (Ag (o':=3) Mb rfl rfl) ?_ (hw:=wgT rfl e0a)
   refine sV (AL Bt rfl (q9a.ext E6a) (by simp only [List.drop_succ_cons,List.drop_zero,List.take_succ_cons,List.take_zero];rfl) rfl) ?_ (hw:=wgT rfl e0a)
   obtain ⟨r5b,h0d,f1d⟩:=Ab f8c
   refine sc (Ad Ox (by rfl)) (FD x0.Hi x1.Hi A4 c5 A2a c3a w3 (tbx X1a hT) (n6.ext X1a) (n6b.ext X1a) r5b h0d) ?_ (hw:=wgT rfl e0a)
   rintro _ w4 E2d rfl
   refine nrm ?_
   refine sV (Ar (evb rfl e0a) rfl) ?_
   obtain rfl:=sj f1d
   exact HJ49 _ _ ⟨(.pointer (some ⟨b8b,3,none⟩)),(.agg #[.bool x0.Hi.Man.Neg,.slice A4 (sz x0.Hi.Man.Abs) c5,.int .i64 x0.Hi.Exp]),(.pointer (some ⟨b9b,3,none⟩)),(.agg #[.bool x1.Hi.Man.Neg,.slice A2a (sz x1.Hi.Man.Abs) c3a,.int .i64 x1.Hi.Exp]),(.bool r5b),((UpdS.refl _ _).ext E2d),(by simp only [S0,S1]<;>rfl)⟩
  ·refine sP ?_ (hw:=wgF rfl e0a)
   refine sP ?_ (hw:=wgF rfl e0a)
   refine sP ?_ (hw:=wgF rfl e0a)
   refine sP ?_ (hw:=wgF rfl e0a)
   refine sP ?_ (hw:=wgF rfl e0a)
   refine sV (Aw (evb rfl e0a) rfl) ?_
   obtain rfl:=sj f9c
   exact HJ49 _ _ ⟨uu,uu,uu,uu,uu,(UpdS.refl _ _),(by simp only [S0,S1]<;>rfl)⟩
 ·rintro l' w4 ⟨t0b,t1b,t2b,t3b,t4b,U3d,hq'⟩ l'' hl
  rw [hq'] at hl
  clear hq'
  simp only [S0,S1] at hl
  subst hl
  have X4d:=KR X1a U3d (X1a).size al0
  refine sV (Ac rfl) ?_
  refine wh h1c<|wp_ret ?_
  obtain rfl:=sj f7c
  exact fin rfl (Res.tmp rfl Res.nil) (Aj X4d rfl)
theorem AC (x0:Am) (x1:Am) (x2:Int) (x3:Int) (A1:Option Addr) (c2:Nat) (A4:Option Addr) (c5:Nat) (w:World) (hT:TB w) (n3:RU w A1 c2 x0.m.Abs) (n6:RU w A4 c5 x1.m.Abs) (r:Am) (hr:Gf x0 x1 x2 x3=some r) :
  Calls Tryz.prog 105 #[.agg #[.bool x0.m.Neg,.slice A1 (sz x0.m.Abs) c2,.int .i64 x0.e],.agg #[.bool x1.m.Neg,.slice A4 (sz x1.m.Abs) c5,.int .i64 x1.e],.int .i64 x2,.int .i64 x3] w (Ret IS w r):=by
 unfold Gf at hr
 go_enter Tryz.func105,Tryz.ntmps105
 refine wp_seq_k fun _ h7=>Ae<|Bu rfl rfl fun b8 w1 E9 g6c q0b=>?_
 refine nrm ?_
 refine Bu rfl rfl fun b9d w2 E1b g0e q6b=>?_
 refine nrm ?_
 have g0i:=nlt E9.size g0e
 have X7c:=xtr E9 E1b
 refine AA Bn fun b1i w3 E1a g1e q8c=>?_
 refine nrm ?_
 have g9c:=nlt X7c.size g1e
 have X7b:=xtr X7c E1a
 refine wh h7<|wp_seq_k fun _ h2e=>wp_seq_k fun _ h3e=>Ae<|sV (Al AN rfl ((q0b.ext E1b).ext E1a) rfl) ?_
 obtain ⟨r4e,h5e,f6e⟩:=Ab hr
 refine sc (Ad Kz (by rfl)) (DZ x0 A1 c2 w3 (tbx X7b hT) (n3.ext X7b) r4e h5e) ?_
 rintro _ w4 E0a rfl
 refine nrm ?_
 have X0d:=xtr X7b E0a
 refine sb (Bl rfl rfl) fun z1d hz1d=>?_
 refine nrm ?_
 refine wh h3e ?_
 rcases zi hz1d f6e with ⟨e8b,_,f7e⟩ | ⟨e8b,_,f8e⟩
 ·refine wp_cond_true (Ai (evb rfl e8b))<|wp_seq_k fun _ h9e=>Ae<|sV (Bb (vals:=[]) (cells:=[.bool false,.slice none 0 0,.int .i64 0]) (by rfl) (by kernel_rfl)) ?_
  refine ss CL (q8c.ext E0a) fun w5 U0f q1f=>?_
  have X2f:=belU X0d U0f g9c
  refine wh h9e<|wp_ret ?_
  obtain rfl:=sj f7e
  exact fin rfl (Res.cellN rfl AN q1f rfl rfl Res.nil) (Aj X2f ⟨none,0,rfl,(RU.nil _)⟩)
 ·refine wp_cond_false (Ai (evb rfl e8b))<|wp_skip<|h2e _ _<|wp_seq_k fun _ h3f=>Dn [] 14 mo rfl fun w5 E2a S9b=>have X0c:=xtr X0d E2a;dA 0 rfl (fun _=>Aa rfl) ?_
  refine dA 1 rfl (fun _=>AM (c:=wi64 (x2+2)) rfl rfl rfl) ?_
  refine dA 2 rfl (fun _=>Ag (o':=0) CB rfl rfl) ?_
  refine dA 3 rfl (fun _=>Ag (o':=1) BF rfl rfl) ?_
  refine dV 4 rfl (fun _ hw=>Af DI rfl (Bx.cell ((((q6b.ext E1a).ext E0a).ext E2a).ext hw) rfl)) S9b ?_
  refine dA 7 rfl (fun _=>Ag (o':=0) CB rfl rfl) ?_
  refine dA 8 rfl (fun _=>Ag (o':=1) BF rfl rfl) ?_
  refine dV 9 rfl (fun _ hw=>Af DI rfl (Bx.cell (((((q0b.ext E1b).ext E1a).ext E0a).ext E2a).ext hw) rfl)) S9b ?_
  obtain ⟨r3a,h4f,f5f⟩:=Ab f8e
  refine dc 5 rfl (by kernel_rfl) (by rfl) (Ad ME (by rfl)) (EF x1.m.Abs A4 c5 w5 (tbx X0c hT) (n6.ext X0c) r3a h4f) ?_
  rintro _ w6 E5a rfl
  refine dnrm ?_
  have X1c:=xtr X0c E5a
  have S6f:=S9b.trans E5a
  refine dA 6 rfl (fun _=>AM (c:=wi64 ((wi64 (x2+2))+r3a)) rfl rfl rfl) ?_
  obtain ⟨r6a,h7f,f8f⟩:=Ab f5f
  refine dc 10 rfl (by kernel_rfl) (by rfl) (Ad ME (by rfl)) (EF x0.m.Abs A1 c2 w6 (tbx X1c hT) (n3.ext X1c) r6a h7f) ?_
  rintro _ w7 E7a rfl
  refine dnrm ?_
  have X9f:=xtr X1c E7a
  have S2i:=S6f.trans E7a
  refine dA 11 rfl (fun _=>Ba (c:=wi64 ((wi64 ((wi64 (x2+2))+r3a)) - r6a)) rfl rfl rfl) ?_
  refine dA 12 rfl (fun _=>Nm rfl rfl) ?_
  refine dA 13 rfl (fun _=>Ac rfl) ?_
  refine Cn (by kernel_rfl) ?_
  refine h3f _ _<|wp_seq_k fun _ h0g=>Dn [] 14 mo rfl fun w8 E9a S2c=>have X3c:=xtr X9f E9a;dA 0 rfl (fun _=>Ag (o':=0) CB rfl rfl) ?_
  refine dA 1 rfl (fun _=>Ag (o':=1) BF rfl rfl) ?_
  refine dV 2 rfl (fun _ hw=>Af DI rfl (Bx.cell ((((((((q0b.ext E1b).ext E1a).ext E0a).ext E2a).ext E5a).ext E7a).ext E9a).ext hw) rfl)) S2c ?_
  refine dA 3 rfl (fun _=>Aa rfl) ?_
  refine dA 5 rfl (fun _=>Ag (o':=0) CB rfl rfl) ?_
  refine dA 6 rfl (fun _=>Ag (o':=1) BF rfl rfl) ?_
  refine dV 7 rfl (fun _ hw=>Af DI rfl (Bx.cell (((((((q6b.ext E1a).ext E0a).ext E2a).ext E5a).ext E7a).ext E9a).ext hw) rfl)) S2c ?_
  obtain ⟨r2d,h1g,f2g⟩:=Ab f8f
  refine dc 4 rfl (by kernel_rfl) (by rfl) (Ad KG (by rfl)) (DT x0.m.Abs (max 0 (wi64 ((wi64 ((wi64 (x2+2))+r3a)) - r6a))) A1 c2 w8 (tbx X3c hT) (n3.ext X3c) r2d h1g) ?_
  rintro _ w9 E2b ⟨A3g,c4g,rfl,n5g⟩
  refine dnrm ?_
  have X4c:=xtr X3c E2b
  have S6g:=S2c.trans E2b
  obtain ⟨r4a,h7g,f8g⟩:=Ab f2g
  refine dc 8 rfl (by kernel_rfl) (by rfl) (Ad QQ (by rfl)) (Iy r2d x1.m.Abs A3g c4g A4 c5 w9 (tbx X4c hT) n5g (n6.ext X4c) r4a h7g) ?_
  rintro _ w6c E3b ⟨A4b,c5b,A3i,c4i,rfl,n9g,n5i⟩
  refine dnrm ?_
  have X3d:=xtr X4c E3b
  have S6i:=S6g.trans E3b
  refine dA 9 rfl (fun _=>Aa rfl) ?_
  refine dA 10 rfl (fun _=>Av rfl rfl) ?_
  refine dA 11 rfl (fun _=>Av rfl rfl) ?_
  refine dA 12 rfl (fun _=>Ac rfl) ?_
  refine dA 13 rfl (fun _=>Ac rfl) ?_
  refine Cn (by kernel_rfl) ?_
  refine h0g _ _<|wp_seq_k fun _ h0h=>Ae<|sV2 (Ag (o':=0) CB rfl rfl) (Ag (o':=0) Fz rfl rfl) ?_
  have q4d:=((((((((q0b.ext E1b).ext E1a).ext E0a).ext E2a).ext E5a).ext E7a).ext E9a).ext E2b).ext E3b
  refine sV3 (Af GC rfl (Bx.cell q4d rfl)) (Ag (o':=0) CB rfl rfl) (Ag (o':=0) Fz rfl rfl) ?_
  have q5d:=(((((((q6b.ext E1a).ext E0a).ext E2a).ext E5a).ext E7a).ext E9a).ext E2b).ext E3b
  refine sV (Af GC rfl (Bx.cell q5d rfl)) ?_
  refine sb (NI Ps rfl rfl) fun z8a hz8a=>?_
  refine nrm ?_
  refine sV2 (Aa rfl) (Bb (vals:=[(0,.bool z8a),(1,.slice A4b (sz r4a.1) c5b)]) (cells:=[.bool z8a,.slice A4b (sz r4a.1) c5b]) (by rfl) (by kernel_rfl)) ?_
  refine sV3 (Ag (o':=2) Ef rfl rfl) (Af EN rfl (Bx.cell q4d rfl)) (Ag (o':=2) Ef rfl rfl) ?_
  refine sV3 (Af EN rfl (Bx.cell q5d rfl)) (Ba (c:=wi64 (x0.e - x1.e)) rfl rfl rfl) (Aa rfl) ?_
  refine sV2 (Ba (c:=wi64 ((wi64 (x0.e - x1.e)) - (max 0 (wi64 ((wi64 ((wi64 (x2+2))+r3a)) - r6a))))) rfl rfl rfl) (Bb (vals:=[(0,.agg #[.bool z8a,.slice A4b (sz r4a.1) c5b]),(1,.int .i64 (wi64 ((wi64 (x0.e - x1.e)) - (max 0 (wi64 ((wi64 ((wi64 (x2+2))+r3a)) - r6a))))))]) (cells:=[.bool z8a,.slice A4b (sz r4a.1) c5b,.int .i64 (wi64 ((wi64 (x0.e - x1.e)) - (max 0 (wi64 ((wi64 ((wi64 (x2+2))+r3a)) - r6a)))))]) (by rfl) (by kernel_rfl)) ?_
  refine sV3 (Aa rfl) (Aa rfl) (Aa rfl) ?_
  refine sV (Ax Aq rfl) ?_
  refine sb (EX rfl rfl) fun z5c hz5c=>?_
  refine nrm ?_
  obtain rfl:z8a=decide (¬x0.m.Neg=x1.m.Neg):=bz hz8a
  obtain rfl:z5c=decide (0<(sz r4a.2:Int)):=bz hz5c
  obtain ⟨r1h,h2h,f3h⟩:=Ab f8g
  refine sc (Ad Ni (by rfl)) (GO (⟨(⟨(decide (¬x0.m.Neg=x1.m.Neg)),r4a.1⟩:Ah),(wi64 ((wi64 (x0.e - x1.e)) - (max 0 (wi64 ((wi64 ((wi64 (x2+2))+r3a)) - r6a)))))⟩:Am) x2 x3 (decide (0<(sz r4a.2:Int))) A4b c5b w6c (tbx X3d hT) n9g r1h h2h) ?_
  rintro _ w0b E6d ⟨A4h,c5h,rfl,n6h⟩
  refine nrm ?_
  have X7h:=xtr X3d E6d
  have q7d:=(((((((q8c.ext E0a).ext E2a).ext E5a).ext E7a).ext E9a).ext E2b).ext E3b).ext E6d
  refine ss CL q7d fun w9d U8d q8h=>?_
  have X9h:=belU X7h U8d g9c
  refine wh h0h<|wp_ret ?_
  obtain rfl:=sj f3h
  exact fin rfl (Res.cellN rfl AN q8h rfl rfl Res.nil) (Aj X9h ⟨A4h,c5h,rfl,(n6h.upd U8d q7d (by decide))⟩)
def JN (wk w:World) (b:Nat):Option AB→Prop
 | none=>Bx w b 124 [.pointer none]
 | some r=>∃(bs:Nat) (A1:Option Addr) (c1:Nat) (A2:Option Addr) (c2:Nat),wk.heap.size≤bs∧Bx w b 124 [.pointer (some ⟨bs,0,none⟩)]∧Bx w bs 121 [.bool r.lo.m.Neg,.slice A1 (sz r.lo.m.Abs) c1,.int .i64 r.lo.e,.bool r.hi.m.Neg,.slice A2 (sz r.hi.m.Abs) c2,.int .i64 r.hi.e]∧RU w A1 c1 r.lo.m.Abs∧RU w A2 c2 r.hi.m.Abs
theorem sq_dyad_Over_1 {n0:Nat} {wk w w':World} {b:Nat} : ∀ {o:Option AB},JN wk w b o→Quiet n0 w w'→JN wk w' b o
 | none,h,q=>Bx.quiet h q
 | some _,⟨bs,A1,c1,A2,c2,g,q1,q2,n1,n2⟩,q=>⟨bs,A1,c1,A2,c2,g,q1.quiet q,q2.quiet q,n1.quiet q,n2.quiet q⟩
theorem LI (x0:AB) (x1:AB) (x2:Int) (A1:Option Addr) (c2:Nat) (A4:Option Addr) (c5:Nat) (A7:Option Addr) (c8:Nat) (A0d:Option Addr) (c5d:Nat) (w:World) (hT:TB w) (n3:RU w A1 c2 x0.lo.m.Abs) (n6:RU w A4 c5 x0.hi.m.Abs) (n9:RU w A7 c8 x1.lo.m.Abs) (n5v:RU w A0d c5d x1.hi.m.Abs) (r:Except Int (AI)) (hr:Kb x0 x1 x2=some r) :
  Calls Tryz.prog 101 #[.agg #[.bool x0.lo.m.Neg,.slice A1 (sz x0.lo.m.Abs) c2,.int .i64 x0.lo.e,.bool x0.hi.m.Neg,.slice A4 (sz x0.hi.m.Abs) c5,.int .i64 x0.hi.e],.agg #[.bool x1.lo.m.Neg,.slice A7 (sz x1.lo.m.Abs) c8,.int .i64 x1.lo.e,.bool x1.hi.m.Neg,.slice A0d (sz x1.hi.m.Abs) c5d,.int .i64 x1.hi.e],.int .i64 x2] w (RetE 201 Nr w r):=by
 unfold Kb at hr
 refine Pp Tryz.func101 rfl [.agg #[.bool x0.lo.m.Neg,.slice A1 (sz x0.lo.m.Abs) c2,.int .i64 x0.lo.e,.bool x0.hi.m.Neg,.slice A4 (sz x0.hi.m.Abs) c5,.int .i64 x0.hi.e],.agg #[.bool x1.lo.m.Neg,.slice A7 (sz x1.lo.m.Abs) c8,.int .i64 x1.lo.e,.bool x1.hi.m.Neg,.slice A0d (sz x1.hi.m.Abs) c5d,.int .i64 x1.hi.e],.int .i64 x2,uu,uu,uu,uu,uu,uu,uu,uu,uu,uu,uu,uu,uu,uu,uu,uu,uu,uu,uu,uu,uu,uu,uu,uu,uu,uu,uu,uu,uu,uu,uu,uu,uu,uu,uu,uu,uu,uu,uu,uu,uu,uu,uu,uu,uu,uu,uu,uu,uu,uu,uu,uu,uu,uu,uu,uu,uu,uu,uu,uu,uu,uu,uu] (by simp [Tryz.ntmps101]) ?_
 refine wp_seq_k fun _ h2ad=>Ae<|Bu rfl rfl fun b5n w1 E3a0 g8b7 q3ad=>?_
 refine nrm ?_
 refine Bu rfl rfl fun b5h w2 E4a0 g4ad q6v=>?_
 refine nrm ?_
 have g9b7:=nlt E3a0.size g4ad
 have X5a0:=xtr E3a0 E4a0
 refine Bu rfl rfl fun b6n w3 E7n g5ad q6ad=>?_
 refine nrm ?_
 have g0b8:=nlt X5a0.size g5ad
 have X6a0:=xtr X5a0 E7n
 refine AA Ii fun b8n w4 E9j g7ad q8ad=>?_
 refine nrm ?_
 have g9ad:=nlt X6a0.size g7ad
 have X0ae:=xtr X6a0 E9j
 refine wh h2ad<|wp_seq_k fun _ h1ae=>Dn [] 9 mo rfl fun w5 E1j S7v=>?_
 have X8v:=xtr X0ae E1j
 refine dA 0 rfl (fun _=>Ag (o':=0) Fh rfl rfl) ?_ (hQ:=fun _ _ _ h=>dqM (rs:=[.cell 6 29]) rfl (by decide) h)
 refine dV 1 rfl (fun _ hw=>AL AN rfl ((((q6v.ext E7n).ext E9j).ext E1j).ext hw) (by simp only [List.drop_zero,List.take_succ_cons,List.take_zero];rfl) rfl) S7v ?_ (hQ:=fun _ _ _ h=>dqM (rs:=[.cell 6 29]) rfl (by decide) h)
 refine dA 3 rfl (fun _=>Ag (o':=3) Fw rfl rfl) ?_ (hQ:=fun _ _ _ h=>dqM (rs:=[.cell 6 29]) rfl (by decide) h)
 refine dV 4 rfl (fun _ hw=>AL AN rfl ((((q6v.ext E7n).ext E9j).ext E1j).ext hw) (by simp only [List.drop_succ_cons,List.drop_zero,List.take_succ_cons,List.take_zero];rfl) rfl) S7v ?_ (hQ:=fun _ _ _ h=>dqM (rs:=[.cell 6 29]) rfl (by decide) h)
 obtain ⟨r2g,h2ae,f3ae⟩:=Ab hr
 refine dc 2 rfl (by kernel_rfl) (by rfl) (Ad Kz (by rfl)) (DZ x1.lo A7 c8 w5 (tbx X8v hT) (n9.ext X8v) r2g h2ae) ?_
 rintro _ w6 E0k rfl
 refine dnrm ?_
 have X9v:=xtr X8v E0k
 have S4ae:=S7v.trans E0k
 obtain ⟨r3g,h5ae,f6ae⟩:=Ab f3ae
 refine dc 5 rfl (by kernel_rfl) (by rfl) (Ad Kz (by rfl)) (DZ x1.hi A0d c5d w6 (tbx X9v hT) (n5v.ext X9v) r3g h5ae) ?_
 rintro _ w7 E1k rfl
 refine dnrm ?_
 have X8p:=xtr X9v E1k
 have S7ae:=S4ae.trans E1k
 refine dA 6 rfl (fun _=>Jq (c:=wi64 (r2g*r3g)) rfl rfl rfl) ?_ (hQ:=fun _ _ _ h=>dqM (rs:=[.cell 6 29]) rfl (by decide) h)
 refine dab 7 rfl (by kernel_rfl) (fun _ _ _ h=>dqM (rs:=[.cell 6 29]) rfl (by decide) h) (by rfl) (fun _=>EX rfl rfl) fun z0w hz0w=>?_
 refine dnrm ?_
 obtain rfl:z0w=decide (0<(wi64 (r2g*r3g))):=bz hz0w
 rcases AR f6ae with ⟨r1w,h2w,f8ae⟩ | ⟨r1w,h2w,rfl⟩
 ·refine dcO 8 rfl (by kernel_rfl) (by rfl) (Ad EI (by rfl)) (Bh (decide (0<(wi64 (r2g*r3g)))) 8 w7 (tbx X8p hT)  (.ok r1w) h2w) ?_
  rintro _ w8 E2i rfl
  refine dnrm ?_
  have X7a0:=xtr X8p E2i
  have S1b8:=S7ae.trans E2i
  refine Cn (by kernel_rfl) ?_
  refine h1ae _ _<|wp_seq_k fun _ h9ae=>Ae<|AA PT fun b9p w9 E9n g0af q1af=>?_
  refine nrm ?_
  have g2af:=nlt X7a0.size g0af
  have X3w:=xtr X7a0 E9n
  refine wh h9ae<|wp_seq_k fun _ h3af=>wp_seq_k fun _ h4af=>Ae<|have q4w:=(((((((q3ad.ext E4a0).ext E7n).ext E9j).ext E1j).ext E0k).ext E1k).ext E2i).ext E9n;sV (Al Ln rfl q4w rfl) ?_
  have q5w:=((((((q6v.ext E7n).ext E9j).ext E1j).ext E0k).ext E1k).ext E2i).ext E9n
  refine sV (Al Ln rfl q5w rfl) ?_
  refine scc (by rfl) (Ad PS rfl) (Lb (.bool x0.lo.m.Neg:Value) (.slice A1 (sz x0.lo.m.Abs) c2:Value) (.int .i64 x0.lo.e:Value) (.bool x0.hi.m.Neg:Value) (.slice A4 (sz x0.hi.m.Abs) c5:Value) (.int .i64 x0.hi.e:Value) (.bool x1.lo.m.Neg:Value) (.slice A7 (sz x1.lo.m.Abs) c8:Value) (.int .i64 x1.lo.e:Value) (.bool x1.hi.m.Neg:Value) (.slice A0d (sz x1.hi.m.Abs) c5d:Value) (.int .i64 x1.hi.e:Value) w9) fun b2k b3k w0d E3i g5af g6af ne2b8 q8a0 q9a0=>nrm ?_
  have g3b8:=nlt X3w.size g5af
  have g4b8:=nlt X3w.size g6af
  have X6w:=xtr X3w E3i
  refine wh h4af ?_
  apply wp_block
  obtain ⟨s0a1,h1a1,f7af⟩:=Ab f8ae
  obtain ⟨s7w,h8af,f9af⟩:=Ab f7af
  obtain ⟨s8w,h0ag,f1ag⟩:=Ab f9af
  obtain ⟨s0q,h2ag,f3ag⟩:=Ab f1ag
  obtain ⟨o9w,hO⟩:∃o:Nat→Option AB,o=(fun i:Nat=>match i with | 0=>none | 1=>some s0a1 | 2=>some s7w | 3=>some s8w | _=>some s0q):=⟨_,rfl⟩
  have hall4ag:∀i,1≤i→i<4→∃(sr:AB) (x y:Am) (AX:Option Addr) (cX:Nat) (AY:Option Addr) (cY:Nat) (s':AB),(encs (.bool x0.lo.m.Neg:Value) (.slice A1 (sz x0.lo.m.Abs) c2:Value) (.int .i64 x0.lo.e:Value) (.bool x0.hi.m.Neg:Value) (.slice A4 (sz x0.hi.m.Abs) c5:Value) (.int .i64 x0.hi.e:Value) (.bool x1.lo.m.Neg:Value) (.slice A7 (sz x1.lo.m.Abs) c8:Value) (.int .i64 x1.lo.e:Value) (.bool x1.hi.m.Neg:Value) (.slice A0d (sz x1.hi.m.Abs) c5d:Value) (.int .i64 x1.hi.e:Value)) i = #[.agg #[.bool x.m.Neg,.slice AX (sz x.m.Abs) cX,.int .i64 x.e],.agg #[.bool y.m.Neg,.slice AY (sz y.m.Abs) cY,.int .i64 y.e]]∧RU w AX cX x.m.Abs∧RU w AY cY y.m.Abs∧o9w i=some sr∧o9w (i+1)=some s'∧HI x0 x1 x2 sr x y=some s':=by
   subst hO
   rintro (_ | _ | _ | _ | i) h h'
   ·omega
   ·exact ⟨s0a1,x0.lo,x1.hi,_,_,_,_,s7w,rfl,n3,n5v,rfl,rfl,h8af⟩
   ·exact ⟨s7w,x0.hi,x1.lo,_,_,_,_,s8w,rfl,n6,n9,rfl,rfl,h0ag⟩
   ·exact ⟨s8w,x0.hi,x1.hi,_,_,_,_,s0q,rfl,n6,n5v,rfl,rfl,h2ag⟩
   ·omega
  refine rf (N:=4) (n0:=w.heap.size) (encs:=(encs (.bool x0.lo.m.Neg:Value) (.slice A1 (sz x0.lo.m.Abs) c2:Value) (.int .i64 x0.lo.e:Value) (.bool x0.hi.m.Neg:Value) (.slice A4 (sz x0.hi.m.Abs) c5:Value) (.int .i64 x0.hi.e:Value) (.bool x1.lo.m.Neg:Value) (.slice A7 (sz x1.lo.m.Abs) c8:Value) (.int .i64 x1.lo.e:Value) (.bool x1.hi.m.Neg:Value) (.slice A0d (sz x1.hi.m.Abs) c5d:Value) (.int .i64 x1.hi.e:Value))) (I:=fun i w'=>Ext w w'∧w0d.heap.size≤w'.heap.size∧Bx w' b5n 121 [.bool x0.lo.m.Neg,.slice A1 (sz x0.lo.m.Abs) c2,.int .i64 x0.lo.e,.bool x0.hi.m.Neg,.slice A4 (sz x0.hi.m.Abs) c5,.int .i64 x0.hi.e]∧Bx w' b5h 121 [.bool x1.lo.m.Neg,.slice A7 (sz x1.lo.m.Abs) c8,.int .i64 x1.lo.e,.bool x1.hi.m.Neg,.slice A0d (sz x1.hi.m.Abs) c5d,.int .i64 x1.hi.e]∧Bx w' b6n 3 [.int .i64 x2]∧Bx w' b8n 29 [.bool false,.slice none 0 0,.int .i64 0,.bool false,.slice none 0 0,.int .i64 0]∧Bx w' b2k 121 [.bool x0.lo.m.Neg,.slice A1 (sz x0.lo.m.Abs) c2,.int .i64 x0.lo.e,.bool x0.hi.m.Neg,.slice A4 (sz x0.hi.m.Abs) c5,.int .i64 x0.hi.e]∧Bx w' b3k 121 [.bool x1.lo.m.Neg,.slice A7 (sz x1.lo.m.Abs) c8,.int .i64 x1.lo.e,.bool x1.hi.m.Neg,.slice A0d (sz x1.hi.m.Abs) c5d,.int .i64 x1.hi.e]∧JN w0d w' b9p (o9w i)) rfl Qe X6w.size (QR (.bool x0.lo.m.Neg:Value) (.slice A1 (sz x0.lo.m.Abs) c2:Value) (.int .i64 x0.lo.e:Value) (.bool x0.hi.m.Neg:Value) (.slice A4 (sz x0.hi.m.Abs) c5:Value) (.int .i64 x0.hi.e:Value) (.bool x1.lo.m.Neg:Value) (.slice A7 (sz x1.lo.m.Abs) c8:Value) (.int .i64 x1.lo.e:Value) (.bool x1.hi.m.Neg:Value) (.slice A0d (sz x1.hi.m.Abs) c5d:Value) (.int .i64 x1.hi.e:Value) b2k b3k _ (by rintro i W ⟨_,_,_,_,_,_,qa,qb,_⟩;exact ⟨qa,qb⟩)) (by rintro (_ | _ | _ | _)<;>rfl) ?_ ?_ ?_ ?_
  ·rintro i W W' ⟨hX,hK,q_b5n,q_b5h,q_b6n,q_b8n,q_b2k,q_b3k,hS⟩ hq
   exact ⟨belQ hX hq hX.size,nlt hK hq.size,q_b5n.quiet hq,q_b5h.quiet hq,q_b6n.quiet hq,q_b8n.quiet hq,q_b2k.quiet hq,q_b3k.quiet hq,sq_dyad_Over_1 hS hq⟩
  ·subst hO
   have q6h:=((((((q6ad.ext E9j).ext E1j).ext E0k).ext E1k).ext E2i).ext E9n).ext E3i
   have q0x:=(((((q8ad.ext E1j).ext E0k).ext E1k).ext E2i).ext E9n).ext E3i
   exact ⟨X6w,Nat.le_refl _,(q4w.ext E3i),(q5w.ext E3i),q6h,q0x,q8a0,q9a0,(q1af.ext E3i)⟩
  ·intro l i w7c hi hI
   obtain ⟨hX,hK,q7h,q8h,q2e,q7c,q4g,q5g,hS⟩:=hI
   rcases Nat.eq_zero_or_pos i with rfl | hpos
   ·subst hO
    skip
    have q9h:Bx w7c b9p 124 [.pointer none]:=hS
    unfold KU at h1a1
    refine KX (actPQ rfl (by simp only [S0,S1];rfl)) ?_
    refine wpIn_seq_k fun _ h1x=>Im (by rfl) (fun ⟨_,_,h⟩=>h)<|AA Bn fun b2x w4g E1q g0o q1o=>?_
    refine nrm ?_
    have g4k:=nlt (nlt hX.size (Rd.refl w.heap.size w7c).size) g0o
    refine ss CL q1o fun w5g U2j q2q=>?_
    have F7a:=belU E1q U2j g0o
    have X5k:=(Rd.refl w.heap.size w7c).ext F7a
    refine wh h1x<|Im (by rfl) (fun ⟨_,_,h⟩=>h)<|AA Bn fun b5ag w6ag E7ag g2a1 q8ag=>?_
    refine nrm ?_
    have g5b8:=nlt (nlt hX.size X5k.size) g2a1
    refine ss CL q8ag fun w9ag U0ah q3a1=>?_
    have F6a:=belU E7ag U0ah g2a1
    have X3j:=X5k.ext F6a
    refine AG ?_
    refine ⟨X3j,?_⟩
    intro w3x hq
    refine have hE1:=belR hX X3j hX.size;have hE2:=belQ hE1 hq hE1.size;wpIn_block<|wpIn_seq_k fun _ h1ah=>Nv (by rfl) (fun ⟨_,_,h⟩=>h) [10,11] 12 mo rfl fun w6h E2a S4j=>have X1d:=(Rd.refl w.heap.size w3x).ext E2a;dV 0 rfl (fun _ hw=>Al AN rfl ((((q2q.ext F6a).quiet hq).ext E2a).ext hw) rfl) S4j ?_
    refine dV 1 rfl (fun _ hw=>Al AN rfl (((q3a1.quiet hq).ext E2a).ext hw) rfl) S4j ?_
    refine dV 2 rfl (fun _ hw=>Af EN rfl (Bx.cell (((((q2e.ext F7a).ext F6a).quiet hq).ext E2a).ext hw) rfl)) S4j ?_
    refine dV 4 rfl (fun _ hw=>Al AN rfl ((((q2q.ext F6a).quiet hq).ext E2a).ext hw) rfl) S4j ?_
    refine dV 5 rfl (fun _ hw=>Al AN rfl (((q3a1.quiet hq).ext E2a).ext hw) rfl) S4j ?_
    refine dV 6 rfl (fun _ hw=>Af EN rfl (Bx.cell (((((q2e.ext F7a).ext F6a).quiet hq).ext E2a).ext hw) rfl)) S4j ?_
    have n6d:=((((n3.ext hX).ext F7a).ext F6a).quiet hq).ext E2a
    have n7d:=((((n9.ext hX).ext F7a).ext F6a).quiet hq).ext E2a
    obtain ⟨r8b,h2o,f2ah⟩:=Ab h1a1
    obtain ⟨r0b,h6g,f3ah⟩:=Ab f2ah
    refine QY #[true,true,true,true,true,true,true,true,true,true,false,false] 2 (fun l' w'=>∃(A6f:Option Addr) (c7f:Nat) (A2f:Option Addr) (c3f:Nat) (b3o:Nat) (b4o:Nat),Ext w6h w'∧RU w' A6f c7f r8b.m.Abs∧RU w' A2f c3f r0b.m.Abs∧w6h.heap.size≤b3o∧Bx w' b3o 119 [.bool false,.slice none 0 0,.int .i64 0]∧w6h.heap.size≤b4o∧Bx w' b4o 119 [.bool false,.slice none 0 0,.int .i64 0]∧b3o≠b4o∧l'=[.agg #[.bool x0.lo.m.Neg,.slice A1 (sz x0.lo.m.Abs) c2,.int .i64 x0.lo.e,.bool x0.hi.m.Neg,.slice A4 (sz x0.hi.m.Abs) c5,.int .i64 x0.hi.e],.agg #[.bool x1.lo.m.Neg,.slice A7 (sz x1.lo.m.Abs) c8,.int .i64 x1.lo.e,.bool x1.hi.m.Neg,.slice A0d (sz x1.hi.m.Abs) c5d,.int .i64 x1.hi.e],.int .i64 x2,.pointer (some ⟨b5n,0,none⟩),.pointer (some ⟨b5h,0,none⟩),.pointer (some ⟨b6n,0,none⟩),.pointer (some ⟨b8n,0,none⟩),.pointer (some ⟨b9p,0,none⟩),.pointer (some ⟨b2x,0,none⟩),.pointer (some ⟨b5ag,0,none⟩),.pointer (some ⟨b3o,0,none⟩),.pointer (some ⟨b4o,0,none⟩),.pointer (some ⟨b5h,0,none⟩),.agg #[.bool x1.lo.m.Neg,.slice A7 (sz x1.lo.m.Abs) c8,.int .i64 x1.lo.e],.int .i64 r2g,.pointer (some ⟨b5h,3,none⟩),.agg #[.bool x1.hi.m.Neg,.slice A0d (sz x1.hi.m.Abs) c5d,.int .i64 x1.hi.e],.int .i64 r3g,.int .i64 (wi64 (r2g*r3g)),.bool (decide (0<(wi64 (r2g*r3g)))),.tuple #[],.agg #[.bool x0.lo.m.Neg,.slice A1 (sz x0.lo.m.Abs) c2,.int .i64 x0.lo.e,.bool x0.hi.m.Neg,.slice A4 (sz x0.hi.m.Abs) c5,.int .i64 x0.hi.e],.agg #[.bool x1.lo.m.Neg,.slice A7 (sz x1.lo.m.Abs) c8,.int .i64 x1.lo.e,.bool x1.hi.m.Neg,.slice A0d (sz x1.hi.m.Abs) c5d,.int .i64 x1.hi.e],.func (.func 183) #[] #[.pointer (some ⟨b2k,0,none⟩),.pointer (some ⟨b3k,0,none⟩)],.agg #[.bool x0.lo.m.Neg,.slice A1 (sz x0.lo.m.Abs) c2,.int .i64 x0.lo.e],.agg #[.bool x1.lo.m.Neg,.slice A7 (sz x1.lo.m.Abs) c8,.int .i64 x1.lo.e],.agg #[.bool x0.lo.m.Neg,.slice A1 (sz x0.lo.m.Abs) c2,.int .i64 x0.lo.e],.agg #[.bool x1.lo.m.Neg,.slice A7 (sz x1.lo.m.Abs) c8,.int .i64 x1.lo.e],.int .i64 x2,.agg #[.bool r8b.m.Neg,.slice A6f (sz r8b.m.Abs) c7f,.int .i64 r8b.e],.agg #[.bool x0.lo.m.Neg,.slice A1 (sz x0.lo.m.Abs) c2,.int .i64 x0.lo.e],.agg #[.bool x1.lo.m.Neg,.slice A7 (sz x1.lo.m.Abs) c8,.int .i64 x1.lo.e],.int .i64 x2,.agg #[.bool r0b.m.Neg,.slice A2f (sz r0b.m.Abs) c3f,.int .i64 r0b.e],uu,uu,uu,uu,uu,uu,uu,uu,uu,uu,uu,uu,uu,uu,uu,uu,uu,uu,uu,uu,uu,uu,uu,uu,uu,uu,uu,uu,uu,uu,uu,uu]) ?_ ?_
    ·rintro _ w0x ⟨A6f,c7f,A2f,c3f,b3o,b4o,E9a,n4ah,n5ah,g6ah,q7g,g7ah,q8g,ne3e,rfl⟩
     have g8ah:=nlt (nlt (nlt (nlt hX.size X3j.size) hq.size) X1d.size) g6ah
     have g9ah:=nlt (nlt (nlt (nlt hX.size X3j.size) hq.size) X1d.size) g7ah
     have X0ai:=X1d.ext E9a
     have S6b8:=S4j.trans E9a
     refine dkk 10 CL q7g fun w1x U4a q4x=>?_
     have X1ai:=X0ai.upd U4a g8ah q7g
     refine dkk 11 CL (q8g.upd U4a (Ne.symm ne3e)) fun w2x U9b q3q=>?_
     have X4a1:=X1ai.upd U9b g9ah (q8g.upd U4a (Ne.symm ne3e))
     refine Cn (by kernel_rfl) ?_
     refine h1ah _ _<|wpIn_seq_k fun _ h2ai=>wpIn_seq_k fun _ h3ai=>Im (by rfl) (fun ⟨_,_,h⟩=>h)<|have ne4q:=(Bx.neT (((((q9h.ext F7a).ext F6a).quiet hq).ext E2a).ext E9a) q7g (by decide));have ne5q:=(Bx.neT ((((((q9h.ext F7a).ext F6a).quiet hq).ext E2a).ext E9a).upd U4a ne4q) (q8g.upd U4a (Ne.symm ne3e)) (by decide));have q8f:=((((((q9h.ext F7a).ext F6a).quiet hq).ext E2a).ext E9a).upd U4a ne4q).upd U9b ne5q;sV2 (Af Gd rfl (Bx.cell q8f rfl)) (QL NW rfl) ?_
     refine wh h3ai<|wpIn_cond_true (Ai (evb rfl rfl))<|Im (by rfl) (fun ⟨_,_,h⟩=>h)<|sV3 (Al AN rfl (q4x.upd U9b ne3e) rfl) (Al AN rfl q3q rfl) (Bb (vals:=[(0,.agg #[.bool r8b.m.Neg,.slice A6f (sz r8b.m.Abs) c7f,.int .i64 r8b.e]),(1,.agg #[.bool r0b.m.Neg,.slice A2f (sz r0b.m.Abs) c3f,.int .i64 r0b.e])]) (cells:=[.bool r8b.m.Neg,.slice A6f (sz r8b.m.Abs) c7f,.int .i64 r8b.e,.bool r0b.m.Neg,.slice A2f (sz r0b.m.Abs) c3f,.int .i64 r0b.e]) (by rfl) (by kernel_rfl)) ?_
     refine Bu rfl rfl fun b9g w1q E1b g6k q2h=>?_
     refine nrm ?_
     have g5a1:=nlt (nlt (nlt (nlt hX.size X3j.size) hq.size) X4a1.size) g6k
     have X4ai:=X4a1.ext E1b
     refine ss QK (q8f.ext E1b) fun w0o U0c q5o=>?_
     have X5ai:=X4ai.upd U0c g2af (q8f.ext E1b)
     refine wh h2ai<|wpIn_seq_k fun _ h6ai=>wpIn_seq_k fun _ h7ai=>Nv (by rfl) (fun ⟨_,_,h⟩=>h) [] 7 mo rfl fun w1o E5b S6q=>have X6a1:=X5ai.ext E5b;dV 0 rfl (fun _ hw=>Al AN rfl (((((q4x.upd U9b ne3e).ext E1b).upd U0c (Ne.symm ne4q)).ext E5b).ext hw) rfl) S6q ?_
     refine dV 1 rfl (fun _ hw=>Af Gd rfl (Bx.cell ((q5o.ext E5b).ext hw) rfl)) S6q ?_
     refine dA 2 rfl (fun _=>BE rfl) ?_
     refine dA 3 rfl (fun _=>Ag (o':=0) Fh rfl rfl) ?_
     have ne4f:=(Bx.neT q2h (q8f.ext E1b) (by decide))
     refine dV 4 rfl (fun _ hw=>AL AN rfl (((q2h.upd U0c ne4f).ext E5b).ext hw) (by simp only [List.drop_zero,List.take_succ_cons,List.take_zero];rfl) rfl) S6q ?_
     have n5x:=((((n4ah.upd U4a q7g (by decide)).upd U9b (q8g.upd U4a (Ne.symm ne3e)) (by decide)).ext E1b).upd U0c (q8f.ext E1b) (by decide)).ext E5b
     obtain ⟨r8ai,h9ai,f0aj⟩:=Ab f3ah
     refine dc 5 rfl (by kernel_rfl) (by rfl) (Ad JE (by rfl)) (Ds r8b r8b A6f c7f A6f c7f w1o (tbx (belR hE2 X6a1 hE2.size) hT) n5x n5x r8ai h9ai) ?_
     rintro _ w4k E7b rfl
     refine dnrm ?_
     have X1aj:=X6a1.ext E7b
     have S7b8:=S6q.trans E7b
     refine dab 6 rfl (by kernel_rfl) (fun _ _ _ h=>h) (by rfl) (fun _=>Cj rfl rfl) fun z7a1 hz7a1=>?_
     refine dnrm ?_
     refine Cn (by kernel_rfl) ?_
     refine h7ai _ _ ?_
     obtain ⟨m8b8,h2aj,f3aj⟩:=Ab f0aj
     refine Lr (fun l l' w'=>∃(t8a1:Value) (t9a1:Value) (t0a2:Value) (t1a2:Value),UpdS [b9g] w4k w'∧Bx w' b9g 121 [.bool r8b.m.Neg,.slice A6f (sz r8b.m.Abs) c7f,.int .i64 r8b.e,.bool r0b.m.Neg,.slice A2f (sz r0b.m.Abs) c3f,.int .i64 r0b.e]∧l'=((((l.set 47 t8a1).set 48 t9a1).set 49 t0a2).set 50 t1a2)) ?_ ?_
     ·rcases zi hz7a1 h2aj with ⟨e6x,_,f4aj⟩ | ⟨e6x,_,f5aj⟩
      ·refine wpIn_cond_true (Ai (evb rfl e6x))<|Im (by rfl) (fun ⟨_,_,h⟩=>h)<|sV (Af Gd rfl (Bx.cell ((q5o.ext E5b).ext E7b) rfl)) ?_
       have q6aj:=((((q4x.upd U9b ne3e).ext E1b).upd U0c (Ne.symm ne4q)).ext E5b).ext E7b
       refine sV3 (Al AN rfl q6aj rfl) (BE rfl) (Ag (o':=0) Fh rfl rfl) ?_
       have q7aj:=((q2h.upd U0c ne4f).ext E5b).ext E7b
       refine ss CL q7aj fun w7x U8aj q9aj=>?_
       refine AG ?_
       obtain rfl:=sj f4aj
       exact ⟨_,rfl,(.pointer (some ⟨b9g,0,none⟩)),(.agg #[.bool r8b.m.Neg,.slice A6f (sz r8b.m.Abs) c7f,.int .i64 r8b.e]),(.pointer (some ⟨b9g,0,none⟩)),(.pointer (some ⟨b9g,0,none⟩)),((UpdS.refl _ _).upd U8aj (.inl im0)),q9aj,(by simp only [S0,S1]<;>rfl)⟩
      ·refine wpIn_cond_false (Ai (evb rfl e6x))<|wpIn_skip ?_
       have q0ak:=((q2h.upd U0c ne4f).ext E5b).ext E7b
       obtain rfl:=sj f5aj
       exact ⟨_,rfl,uu,uu,uu,uu,(UpdS.refl _ _),q0ak,(by simp only [S0,S1]<;>rfl)⟩
     ·rintro l' w7x ⟨t8a1,t9a1,t0a2,t1a2,U4e,q7k,hq'⟩ l'' hl
      rw [hq'] at hl
      clear hq'
      simp only [S0,S1] at hl
      subst hl
      have X1ak:=X1aj.updS U4e (alc ⟨g5a1,_,_,((q2h.upd U0c ne4f).ext E5b).ext E7b⟩ al0)
      refine h6ai _ _<|wpIn_seq_k fun _ h2ak=>Nv (by rfl) (fun ⟨_,_,h⟩=>h) [] 7 mo rfl fun w2j E8c S7q=>have X2a2:=X1ak.ext E8c;have ne3a2:=(Bx.neT ((((q3q.ext E1b).upd U0c (Ne.symm ne5q)).ext E5b).ext E7b) (((q2h.upd U0c ne4f).ext E5b).ext E7b) (by decide));dV 0 rfl (fun _ hw=>Al AN rfl (((((((q3q.ext E1b).upd U0c (Ne.symm ne5q)).ext E5b).ext E7b).updS U4e (nmc ne3a2 nm0)).ext E8c).ext hw) rfl) S7q ?_
      refine dV 1 rfl (fun _ hw=>Af Gd rfl (Bx.cell (((((q5o.ext E5b).ext E7b).updS U4e (nmc (Ne.symm ne4f) nm0)).ext E8c).ext hw) rfl)) S7q ?_
      refine dA 2 rfl (fun _=>BE rfl) ?_
      refine dA 3 rfl (fun _=>Ag (o':=3) Fw rfl rfl) ?_
      refine dV 4 rfl (fun _ hw=>AL AN rfl ((q7k.ext E8c).ext hw) (by simp only [List.drop_succ_cons,List.drop_zero,List.take_succ_cons,List.take_zero];rfl) rfl) S7q ?_
      have n8x:RU w2j A2f c3f r0b.m.Abs:=(((((((n5ah.upd U4a q7g (by decide)).upd U9b (q8g.upd U4a (Ne.symm ne3e)) (by decide)).ext E1b).upd U0c (q8f.ext E1b) (by decide)).ext E5b).ext E7b).updS U4e (alc ⟨_,_,by decide,((q2h.upd U0c ne4f).ext E5b).ext E7b⟩ al0)).ext E8c
      obtain ⟨r3ak,h4ak,f5ak⟩:=Ab f3aj
      refine dc 5 rfl (by kernel_rfl) (by rfl) (Ad JE (by rfl)) (Ds r0b r0b A2f c3f A2f c3f w2j (tbx (belR hE2 X2a2 hE2.size) hT) n8x n8x r3ak h4ak) ?_
      rintro _ w2q E4d rfl
      refine dnrm ?_
      have X6ak:=X2a2.ext E4d
      have S9b8:=S7q.trans E4d
      refine dab 6 rfl (by kernel_rfl) (fun _ _ _ h=>h) (by rfl) (fun _=>EX rfl rfl) fun z4a2 hz4a2=>?_
      refine dnrm ?_
      refine Cn (by kernel_rfl) ?_
      refine h2ak _ _ ?_
      obtain ⟨m0b9,h7ak,f8ak⟩:=Ab f5ak
      refine Lr (fun l l' w'=>∃(t5a2:Value) (t6a2:Value) (t7a2:Value) (t8a2:Value),UpdS [b9g] w2q w'∧Bx w' b9g 121 [.bool r8b.m.Neg,.slice A6f (sz r8b.m.Abs) c7f,.int .i64 r8b.e,.bool r0b.m.Neg,.slice A2f (sz r0b.m.Abs) c3f,.int .i64 r0b.e]∧l'=((((l.set 58 t5a2).set 59 t6a2).set 60 t7a2).set 61 t8a2)) ?_ ?_
      ·rcases zi hz4a2 h7ak with ⟨e9x,_,f9ak⟩ | ⟨e9x,_,f0al⟩
       ·refine wpIn_cond_true (Ai (evb rfl e9x))<|Im (by rfl) (fun ⟨_,_,h⟩=>h)<|have q1al:=((((q5o.ext E5b).ext E7b).updS U4e (nmc (Ne.symm ne4f) nm0)).ext E8c).ext E4d;sV (Af Gd rfl (Bx.cell q1al rfl)) ?_
        have q2al:=((((((q3q.ext E1b).upd U0c (Ne.symm ne5q)).ext E5b).ext E7b).updS U4e (nmc ne3a2 nm0)).ext E8c).ext E4d
        refine sV3 (Al AN rfl q2al rfl) (BE rfl) (Ag (o':=3) Fw rfl rfl) ?_
        refine ss CL ((q7k.ext E8c).ext E4d) fun w5k U3al q4al=>?_
        refine AG ?_
        obtain rfl:=sj f9ak
        exact ⟨_,rfl,(.pointer (some ⟨b9g,0,none⟩)),(.agg #[.bool r0b.m.Neg,.slice A2f (sz r0b.m.Abs) c3f,.int .i64 r0b.e]),(.pointer (some ⟨b9g,0,none⟩)),(.pointer (some ⟨b9g,3,none⟩)),((UpdS.refl _ _).upd U3al (.inl im0)),q4al,(by simp only [S0,S1]<;>rfl)⟩
       ·refine wpIn_cond_false (Ai (evb rfl e9x))<|wpIn_skip ?_
        obtain rfl:=sj f0al
        exact ⟨_,rfl,uu,uu,uu,uu,(UpdS.refl _ _),((q7k.ext E8c).ext E4d),(by simp only [S0,S1]<;>rfl)⟩
      ·rintro l' w5k ⟨t5a2,t6a2,t7a2,t8a2,U3h,q5al,hq'⟩ l'' hl
       rw [hq'] at hl
       clear hq'
       simp only [S0,S1] at hl
       subst hl
       have X0y:=X6ak.updS U3h (alc ⟨g5a1,_,_,(q7k.ext E8c).ext E4d⟩ al0)
       have hE3:=belR hE2 X0y hE2.size
       have ne8q:=(Bx.neT (((((q7h.ext F7a).ext F6a).quiet hq).ext E2a).ext E9a) q7g (by decide))
       have ne1y:=(Bx.neT ((((((q7h.ext F7a).ext F6a).quiet hq).ext E2a).ext E9a).upd U4a ne8q) (q8g.upd U4a (Ne.symm ne3e)) (by decide))
       have ne6al:=(Bx.neT ((((((((q7h.ext F7a).ext F6a).quiet hq).ext E2a).ext E9a).upd U4a ne8q).upd U9b ne1y).ext E1b) (q8f.ext E1b) (by decide))
       have ne9a2:=(Bx.ne (((((((q7h.ext F7a).ext F6a).quiet hq).ext E2a).ext E9a).upd U4a ne8q).upd U9b ne1y) g6k)
       have q7al:=((((((((((((((q7h.ext F7a).ext F6a).quiet hq).ext E2a).ext E9a).upd U4a ne8q).upd U9b ne1y).ext E1b).upd U0c ne6al).ext E5b).ext E7b).updS U4e (nmc ne9a2 nm0)).ext E8c).ext E4d).updS U3h (nmc ne9a2 nm0)
       have ne9q:=(Bx.neT (((((q8h.ext F7a).ext F6a).quiet hq).ext E2a).ext E9a) q7g (by decide))
       have ne2y:=(Bx.neT ((((((q8h.ext F7a).ext F6a).quiet hq).ext E2a).ext E9a).upd U4a ne9q) (q8g.upd U4a (Ne.symm ne3e)) (by decide))
       have ne8al:=(Bx.neT ((((((((q8h.ext F7a).ext F6a).quiet hq).ext E2a).ext E9a).upd U4a ne9q).upd U9b ne2y).ext E1b) (q8f.ext E1b) (by decide))
       have ne0a3:=(Bx.ne (((((((q8h.ext F7a).ext F6a).quiet hq).ext E2a).ext E9a).upd U4a ne9q).upd U9b ne2y) g6k)
       have q9al:=((((((((((((((q8h.ext F7a).ext F6a).quiet hq).ext E2a).ext E9a).upd U4a ne9q).upd U9b ne2y).ext E1b).upd U0c ne8al).ext E5b).ext E7b).updS U4e (nmc ne0a3 nm0)).ext E8c).ext E4d).updS U3h (nmc ne0a3 nm0)
       have ne0r:=(Bx.neT (((((q2e.ext F7a).ext F6a).quiet hq).ext E2a).ext E9a) q7g (by decide))
       have ne3y:=(Bx.neT ((((((q2e.ext F7a).ext F6a).quiet hq).ext E2a).ext E9a).upd U4a ne0r) (q8g.upd U4a (Ne.symm ne3e)) (by decide))
       have ne1a3:=(Bx.neT ((((((((q2e.ext F7a).ext F6a).quiet hq).ext E2a).ext E9a).upd U4a ne0r).upd U9b ne3y).ext E1b) (q8f.ext E1b) (by decide))
       have ne2a3:=(Bx.neT (((((((((((q2e.ext F7a).ext F6a).quiet hq).ext E2a).ext E9a).upd U4a ne0r).upd U9b ne3y).ext E1b).upd U0c ne1a3).ext E5b).ext E7b) (((q2h.upd U0c ne4f).ext E5b).ext E7b) (by decide))
       have q0am:=((((((((((((((q2e.ext F7a).ext F6a).quiet hq).ext E2a).ext E9a).upd U4a ne0r).upd U9b ne3y).ext E1b).upd U0c ne1a3).ext E5b).ext E7b).updS U4e (nmc ne2a3 nm0)).ext E8c).ext E4d).updS U3h (nmc ne2a3 nm0)
       have ne1r:=(Bx.neT (((((q7c.ext F7a).ext F6a).quiet hq).ext E2a).ext E9a) q7g (by decide))
       have ne4y:=(Bx.neT ((((((q7c.ext F7a).ext F6a).quiet hq).ext E2a).ext E9a).upd U4a ne1r) (q8g.upd U4a (Ne.symm ne3e)) (by decide))
       have ne3a3:=(Bx.neT ((((((((q7c.ext F7a).ext F6a).quiet hq).ext E2a).ext E9a).upd U4a ne1r).upd U9b ne4y).ext E1b) (q8f.ext E1b) (by decide))
       have ne4a3:=(Bx.neT (((((((((((q7c.ext F7a).ext F6a).quiet hq).ext E2a).ext E9a).upd U4a ne1r).upd U9b ne4y).ext E1b).upd U0c ne3a3).ext E5b).ext E7b) (((q2h.upd U0c ne4f).ext E5b).ext E7b) (by decide))
       have q1am:=((((((((((((((q7c.ext F7a).ext F6a).quiet hq).ext E2a).ext E9a).upd U4a ne1r).upd U9b ne4y).ext E1b).upd U0c ne3a3).ext E5b).ext E7b).updS U4e (nmc ne4a3 nm0)).ext E8c).ext E4d).updS U3h (nmc ne4a3 nm0)
       have ne2r:=(Bx.neT (((((q4g.ext F7a).ext F6a).quiet hq).ext E2a).ext E9a) q7g (by decide))
       have ne5y:=(Bx.neT ((((((q4g.ext F7a).ext F6a).quiet hq).ext E2a).ext E9a).upd U4a ne2r) (q8g.upd U4a (Ne.symm ne3e)) (by decide))
       have ne2am:=(Bx.neT ((((((((q4g.ext F7a).ext F6a).quiet hq).ext E2a).ext E9a).upd U4a ne2r).upd U9b ne5y).ext E1b) (q8f.ext E1b) (by decide))
       have ne5a3:=(Bx.ne (((((((q4g.ext F7a).ext F6a).quiet hq).ext E2a).ext E9a).upd U4a ne2r).upd U9b ne5y) g6k)
       have q3am:=((((((((((((((q4g.ext F7a).ext F6a).quiet hq).ext E2a).ext E9a).upd U4a ne2r).upd U9b ne5y).ext E1b).upd U0c ne2am).ext E5b).ext E7b).updS U4e (nmc ne5a3 nm0)).ext E8c).ext E4d).updS U3h (nmc ne5a3 nm0)
       have ne3r:=(Bx.neT (((((q5g.ext F7a).ext F6a).quiet hq).ext E2a).ext E9a) q7g (by decide))
       have ne6y:=(Bx.neT ((((((q5g.ext F7a).ext F6a).quiet hq).ext E2a).ext E9a).upd U4a ne3r) (q8g.upd U4a (Ne.symm ne3e)) (by decide))
       have ne4am:=(Bx.neT ((((((((q5g.ext F7a).ext F6a).quiet hq).ext E2a).ext E9a).upd U4a ne3r).upd U9b ne6y).ext E1b) (q8f.ext E1b) (by decide))
       have ne6a3:=(Bx.ne (((((((q5g.ext F7a).ext F6a).quiet hq).ext E2a).ext E9a).upd U4a ne3r).upd U9b ne6y) g6k)
       have q5am:=((((((((((((((q5g.ext F7a).ext F6a).quiet hq).ext E2a).ext E9a).upd U4a ne3r).upd U9b ne6y).ext E1b).upd U0c ne4am).ext E5b).ext E7b).updS U4e (nmc ne6a3 nm0)).ext E8c).ext E4d).updS U3h (nmc ne6a3 nm0)
       have q6am:=(((((q5o.ext E5b).ext E7b).updS U4e (nmc (Ne.symm ne4f) nm0)).ext E8c).ext E4d).updS U3h (nmc (Ne.symm ne4f) nm0)
       have n7am:RU w5k A6f c7f r8b.m.Abs:=((((n5x.ext E7b).updS U4e (alc ⟨_,_,by decide,((q2h.upd U0c ne4f).ext E5b).ext E7b⟩ al0)).ext E8c).ext E4d).updS U3h (alc ⟨_,_,by decide,(q7k.ext E8c).ext E4d⟩ al0)
       have n8am:RU w5k A2f c3f r0b.m.Abs:=(n8x.ext E4d).updS U3h (alc ⟨_,_,by decide,(q7k.ext E8c).ext E4d⟩ al0)
       obtain rfl:=sj f8ak
       exact ⟨X0y,hE3,nlt (nlt (nlt hK X3j.size) hq.size) X0y.size,q7al,q9al,q0am,q1am,q3am,q5am,⟨b9g,A6f,c7f,A2f,c3f,(nlt (nlt (nlt (nlt (nlt (nlt (nlt hK X3j.size) hq.size) E2a.size) E9a.size) (Nat.le_of_eq U4a.size.symm)) (Nat.le_of_eq U9b.size.symm)) g6k),q6am,q5al,n7am,n8am⟩⟩
    ·intro HJ155
     refine Og 3 8 9 (by kernel_rfl) ?_ ?_ ?_
     ·refine opC 3 rfl (by rfl) (Ad DU (by rfl)) (AC x0.lo x1.lo x2 5 A1 c2 A7 c8 _ (tbx (Ext.refl _) (tbx (belR hE2 X1d hE2.size) hT)) (n6d.ext (Ext.refl _)) (n7d.ext (Ext.refl _)) r8b h2o) ?_
      rintro _ _ E2b ⟨A8k,c9k,rfl,n0l⟩
      refine dnrm ?_
      refine Og 7 8 9 (by kernel_rfl) ?_ ?_ ?_
      ·refine opC 7 rfl (by rfl) (Ad DU (by rfl)) (AC x0.lo x1.lo x2 4 A1 c2 A7 c8 _ (tbx E2b (tbx (belR hE2 X1d hE2.size) hT)) (n6d.ext E2b) (n7d.ext E2b) r0b h6g) ?_
       rintro _ _ E4i ⟨A7a3,c8a3,rfl,n9a3⟩
       refine dnrm ?_
       refine Hz 8 9 (by kernel_rfl) ?_ ?_
       ·refine opA 8 rfl (by rfl) (Bq Bn) fun b9am _ E4r g0an q0a4=>dnrm ?_
        refine Dl 9 (by kernel_rfl) ?_
        ·refine opA 9 rfl (by rfl) (Bq Bn) fun b1an _ E5r g1a4 q2an=>dnrm ?_
         exact EL (by kernel_rfl) (HJ155 _ _ ⟨A8k,c9k,A7a3,c8a3,b9am,b1an,(((E2b.trans E4i).trans E4r).trans E5r),(((n0l.ext E4i).ext E4r).ext E5r),((n9a3.ext E4r).ext E5r),(nlt (E2b.trans E4i).size g0an),(q0a4.ext E5r),(nlt ((E2b.trans E4i).trans E4r).size g1a4),q2an,(Bx.ne q0a4 g1a4),rfl⟩)
       ·refine opA 9 rfl (by rfl) (Bq Bn) fun b3an _ E6r g4an q2a4=>dnrm ?_
        refine Dl 8 (by kernel_rfl) ?_
        ·refine opA 8 rfl (by rfl) (Bq Bn) fun b5an _ E7r g3a4 q6an=>dnrm ?_
         exact EL (by kernel_rfl) (HJ155 _ _ ⟨A8k,c9k,A7a3,c8a3,b5an,b3an,(((E2b.trans E4i).trans E6r).trans E7r),(((n0l.ext E4i).ext E6r).ext E7r),((n9a3.ext E6r).ext E7r),(nlt ((E2b.trans E4i).trans E6r).size g3a4),q6an,(nlt (E2b.trans E4i).size g4an),(q2a4.ext E7r),(Ne.symm (Bx.ne q2a4 g3a4)),rfl⟩)
      ·refine opA 8 rfl (by rfl) (Bq Bn) fun b4a4 _ E9f g5a4 q8r=>dnrm ?_
       refine Hz 7 9 (by kernel_rfl) ?_ ?_
       ·refine opC 7 rfl (by rfl) (Ad DU (by rfl)) (AC x0.lo x1.lo x2 4 A1 c2 A7 c8 _ (tbx (E2b.trans E9f) (tbx (belR hE2 X1d hE2.size) hT)) (n6d.ext (E2b.trans E9f)) (n7d.ext (E2b.trans E9f)) r0b h6g) ?_
        rintro _ _ E6o ⟨A7an,c8an,rfl,n9an⟩
        refine dnrm ?_
        refine Dl 9 (by kernel_rfl) ?_
        ·refine opA 9 rfl (by rfl) (Bq Bn) fun b0ao _ E9r g6a4 q1ao=>dnrm ?_
         exact EL (by kernel_rfl) (HJ155 _ _ ⟨A8k,c9k,A7an,c8an,b4a4,b0ao,(((E2b.trans E9f).trans E6o).trans E9r),(((n0l.ext E9f).ext E6o).ext E9r),(n9an.ext E9r),(nlt E2b.size g5a4),((q8r.ext E6o).ext E9r),(nlt ((E2b.trans E9f).trans E6o).size g6a4),q1ao,(Bx.ne (q8r.ext E6o) g6a4),rfl⟩)
       ·refine opA 9 rfl (by rfl) (Bq Bn) fun b2ao _ E1l g7a4 q3ao=>dnrm ?_
        refine Dl 7 (by kernel_rfl) ?_
        ·refine opC 7 rfl (by rfl) (Ad DU (by rfl)) (AC x0.lo x1.lo x2 4 A1 c2 A7 c8 _ (tbx ((E2b.trans E9f).trans E1l) (tbx (belR hE2 X1d hE2.size) hT)) (n6d.ext ((E2b.trans E9f).trans E1l)) (n7d.ext ((E2b.trans E9f).trans E1l)) r0b h6g) ?_
         rintro _ _ E0s ⟨A4ao,c5ao,rfl,n6ao⟩
         refine dnrm ?_
         exact EL (by kernel_rfl) (HJ155 _ _ ⟨A8k,c9k,A4ao,c5ao,b4a4,b2ao,(((E2b.trans E9f).trans E1l).trans E0s),(((n0l.ext E9f).ext E1l).ext E0s),n6ao,(nlt E2b.size g5a4),((q8r.ext E1l).ext E0s),(nlt (E2b.trans E9f).size g7a4),(q3ao.ext E0s),(Bx.ne q8r g7a4),rfl⟩)
      ·refine opA 9 rfl (by rfl) (Bq Bn) fun b1s _ E8d g7y q2s=>dnrm ?_
       refine Hz 7 8 (by kernel_rfl) ?_ ?_
       ·refine opC 7 rfl (by rfl) (Ad DU (by rfl)) (AC x0.lo x1.lo x2 4 A1 c2 A7 c8 _ (tbx (E2b.trans E8d) (tbx (belR hE2 X1d hE2.size) hT)) (n6d.ext (E2b.trans E8d)) (n7d.ext (E2b.trans E8d)) r0b h6g) ?_
        rintro _ _ E7o ⟨A7ao,c8ao,rfl,n9ao⟩
        refine dnrm ?_
        refine Dl 8 (by kernel_rfl) ?_
        ·refine opA 8 rfl (by rfl) (Bq Bn) fun b0ap _ E3s g8a4 q1ap=>dnrm ?_
         exact EL (by kernel_rfl) (HJ155 _ _ ⟨A8k,c9k,A7ao,c8ao,b0ap,b1s,(((E2b.trans E8d).trans E7o).trans E3s),(((n0l.ext E8d).ext E7o).ext E3s),(n9ao.ext E3s),(nlt ((E2b.trans E8d).trans E7o).size g8a4),q1ap,(nlt E2b.size g7y),((q2s.ext E7o).ext E3s),(Ne.symm (Bx.ne (q2s.ext E7o) g8a4)),rfl⟩)
       ·refine opA 8 rfl (by rfl) (Bq Bn) fun b2ap _ E2l g9a4 q3ap=>dnrm ?_
        refine Dl 7 (by kernel_rfl) ?_
        ·refine opC 7 rfl (by rfl) (Ad DU (by rfl)) (AC x0.lo x1.lo x2 4 A1 c2 A7 c8 _ (tbx ((E2b.trans E8d).trans E2l) (tbx (belR hE2 X1d hE2.size) hT)) (n6d.ext ((E2b.trans E8d).trans E2l)) (n7d.ext ((E2b.trans E8d).trans E2l)) r0b h6g) ?_
         rintro _ _ E4s ⟨A4ap,c5ap,rfl,n6ap⟩
         refine dnrm ?_
         exact EL (by kernel_rfl) (HJ155 _ _ ⟨A8k,c9k,A4ap,c5ap,b2ap,b1s,(((E2b.trans E8d).trans E2l).trans E4s),(((n0l.ext E8d).ext E2l).ext E4s),n6ap,(nlt (E2b.trans E8d).size g9a4),(q3ap.ext E4s),(nlt E2b.size g7y),((q2s.ext E2l).ext E4s),(Ne.symm (Bx.ne q2s g9a4)),rfl⟩)
     ·refine opA 8 rfl (by rfl) (Bq Bn) fun b8y _ E2c g9y q3l=>dnrm ?_
      refine Hz 3 9 (by kernel_rfl) ?_ ?_
      ·refine opC 3 rfl (by rfl) (Ad DU (by rfl)) (AC x0.lo x1.lo x2 5 A1 c2 A7 c8 _ (tbx E2c (tbx (belR hE2 X1d hE2.size) hT)) (n6d.ext E2c) (n7d.ext E2c) r8b h2o) ?_
       rintro _ _ E5e ⟨A0a5,c1a5,rfl,n2a5⟩
       refine dnrm ?_
       refine Hz 7 9 (by kernel_rfl) ?_ ?_
       ·refine opC 7 rfl (by rfl) (Ad DU (by rfl)) (AC x0.lo x1.lo x2 4 A1 c2 A7 c8 _ (tbx (E2c.trans E5e) (tbx (belR hE2 X1d hE2.size) hT)) (n6d.ext (E2c.trans E5e)) (n7d.ext (E2c.trans E5e)) r0b h6g) ?_
        rintro _ _ E8o ⟨A7ap,c8ap,rfl,n9ap⟩
        refine dnrm ?_
        refine Dl 9 (by kernel_rfl) ?_
        ·refine opA 9 rfl (by rfl) (Bq Bn) fun b0aq _ E5s g3a5 q1aq=>dnrm ?_
         exact EL (by kernel_rfl) (HJ155 _ _ ⟨A0a5,c1a5,A7ap,c8ap,b8y,b0aq,(((E2c.trans E5e).trans E8o).trans E5s),((n2a5.ext E8o).ext E5s),(n9ap.ext E5s),g9y,(((q3l.ext E5e).ext E8o).ext E5s),(nlt ((E2c.trans E5e).trans E8o).size g3a5),q1aq,(Bx.ne ((q3l.ext E5e).ext E8o) g3a5),rfl⟩)
       ·refine opA 9 rfl (by rfl) (Bq Bn) fun b2aq _ E4l g4a5 q3aq=>dnrm ?_
        refine Dl 7 (by kernel_rfl) ?_
        ·refine opC 7 rfl (by rfl) (Ad DU (by rfl)) (AC x0.lo x1.lo x2 4 A1 c2 A7 c8 _ (tbx ((E2c.trans E5e).trans E4l) (tbx (belR hE2 X1d hE2.size) hT)) (n6d.ext ((E2c.trans E5e).trans E4l)) (n7d.ext ((E2c.trans E5e).trans E4l)) r0b h6g) ?_
         rintro _ _ E6s ⟨A4aq,c5aq,rfl,n6aq⟩
         refine dnrm ?_
         exact EL (by kernel_rfl) (HJ155 _ _ ⟨A0a5,c1a5,A4aq,c5aq,b8y,b2aq,(((E2c.trans E5e).trans E4l).trans E6s),((n2a5.ext E4l).ext E6s),n6aq,g9y,(((q3l.ext E5e).ext E4l).ext E6s),(nlt (E2c.trans E5e).size g4a5),(q3aq.ext E6s),(Bx.ne (q3l.ext E5e) g4a5),rfl⟩)
      ·refine opA 9 rfl (by rfl) (Bq Bn) fun b7aq _ E5i g5a5 q8aq=>dnrm ?_
       refine Dl 3 (by kernel_rfl) ?_
       ·refine opC 3 rfl (by rfl) (Ad DU (by rfl)) (AC x0.lo x1.lo x2 5 A1 c2 A7 c8 _ (tbx (E2c.trans E5i) (tbx (belR hE2 X1d hE2.size) hT)) (n6d.ext (E2c.trans E5i)) (n7d.ext (E2c.trans E5i)) r8b h2o) ?_
        rintro _ _ E5l ⟨A9aq,c0ar,rfl,n1ar⟩
        refine dnrm ?_
        refine Dl 7 (by kernel_rfl) ?_
        ·refine opC 7 rfl (by rfl) (Ad DU (by rfl)) (AC x0.lo x1.lo x2 4 A1 c2 A7 c8 _ (tbx ((E2c.trans E5i).trans E5l) (tbx (belR hE2 X1d hE2.size) hT)) (n6d.ext ((E2c.trans E5i).trans E5l)) (n7d.ext ((E2c.trans E5i).trans E5l)) r0b h6g) ?_
         rintro _ _ E7s ⟨A2ar,c3ar,rfl,n4ar⟩
         refine dnrm ?_
         exact EL (by kernel_rfl) (HJ155 _ _ ⟨A9aq,c0ar,A2ar,c3ar,b8y,b7aq,(((E2c.trans E5i).trans E5l).trans E7s),(n1ar.ext E7s),n4ar,g9y,(((q3l.ext E5i).ext E5l).ext E7s),(nlt E2c.size g5a5),((q8aq.ext E5l).ext E7s),(Bx.ne q3l g5a5),rfl⟩)
     ·refine opA 9 rfl (by rfl) (Bq Bn) fun b0z _ E3c g1z q6l=>dnrm ?_
      refine Hz 3 8 (by kernel_rfl) ?_ ?_
      ·refine opC 3 rfl (by rfl) (Ad DU (by rfl)) (AC x0.lo x1.lo x2 5 A1 c2 A7 c8 _ (tbx E3c (tbx (belR hE2 X1d hE2.size) hT)) (n6d.ext E3c) (n7d.ext E3c) r8b h2o) ?_
       rintro _ _ E6e ⟨A6a5,c7a5,rfl,n8a5⟩
       refine dnrm ?_
       refine Hz 7 8 (by kernel_rfl) ?_ ?_
       ·refine opC 7 rfl (by rfl) (Ad DU (by rfl)) (AC x0.lo x1.lo x2 4 A1 c2 A7 c8 _ (tbx (E3c.trans E6e) (tbx (belR hE2 X1d hE2.size) hT)) (n6d.ext (E3c.trans E6e)) (n7d.ext (E3c.trans E6e)) r0b h6g) ?_
        rintro _ _ E9o ⟨A5ar,c6ar,rfl,n7ar⟩
        refine dnrm ?_
        refine Dl 8 (by kernel_rfl) ?_
        ·refine opA 8 rfl (by rfl) (Bq Bn) fun b8ar _ E8s g9a5 q9ar=>dnrm ?_
         exact EL (by kernel_rfl) (HJ155 _ _ ⟨A6a5,c7a5,A5ar,c6ar,b8ar,b0z,(((E3c.trans E6e).trans E9o).trans E8s),((n8a5.ext E9o).ext E8s),(n7ar.ext E8s),(nlt ((E3c.trans E6e).trans E9o).size g9a5),q9ar,g1z,(((q6l.ext E6e).ext E9o).ext E8s),(Ne.symm (Bx.ne ((q6l.ext E6e).ext E9o) g9a5)),rfl⟩)
       ·refine opA 8 rfl (by rfl) (Bq Bn) fun b0as _ E7l g0a6 q1as=>dnrm ?_
        refine Dl 7 (by kernel_rfl) ?_
        ·refine opC 7 rfl (by rfl) (Ad DU (by rfl)) (AC x0.lo x1.lo x2 4 A1 c2 A7 c8 _ (tbx ((E3c.trans E6e).trans E7l) (tbx (belR hE2 X1d hE2.size) hT)) (n6d.ext ((E3c.trans E6e).trans E7l)) (n7d.ext ((E3c.trans E6e).trans E7l)) r0b h6g) ?_
         rintro _ _ E9s ⟨A2as,c3as,rfl,n4as⟩
         refine dnrm ?_
         exact EL (by kernel_rfl) (HJ155 _ _ ⟨A6a5,c7a5,A2as,c3as,b0as,b0z,(((E3c.trans E6e).trans E7l).trans E9s),((n8a5.ext E7l).ext E9s),n4as,(nlt (E3c.trans E6e).size g0a6),(q1as.ext E9s),g1z,(((q6l.ext E6e).ext E7l).ext E9s),(Ne.symm (Bx.ne (q6l.ext E6e) g0a6)),rfl⟩)
      ·refine opA 8 rfl (by rfl) (Bq Bn) fun b5as _ E6i g1a6 q6as=>dnrm ?_
       refine Dl 3 (by kernel_rfl) ?_
       ·refine opC 3 rfl (by rfl) (Ad DU (by rfl)) (AC x0.lo x1.lo x2 5 A1 c2 A7 c8 _ (tbx (E3c.trans E6i) (tbx (belR hE2 X1d hE2.size) hT)) (n6d.ext (E3c.trans E6i)) (n7d.ext (E3c.trans E6i)) r8b h2o) ?_
        rintro _ _ E8l ⟨A7as,c8as,rfl,n9as⟩
        refine dnrm ?_
        refine Dl 7 (by kernel_rfl) ?_
        ·refine opC 7 rfl (by rfl) (Ad DU (by rfl)) (AC x0.lo x1.lo x2 4 A1 c2 A7 c8 _ (tbx ((E3c.trans E6i).trans E8l) (tbx (belR hE2 X1d hE2.size) hT)) (n6d.ext ((E3c.trans E6i).trans E8l)) (n7d.ext ((E3c.trans E6i).trans E8l)) r0b h6g) ?_
         rintro _ _ E0t ⟨A0at,c1at,rfl,n2at⟩
         refine dnrm ?_
         exact EL (by kernel_rfl) (HJ155 _ _ ⟨A7as,c8as,A0at,c1at,b5as,b0z,(((E3c.trans E6i).trans E8l).trans E0t),(n9as.ext E0t),n2at,(nlt E3c.size g1a6),((q6as.ext E8l).ext E0t),g1z,(((q6l.ext E6i).ext E8l).ext E0t),(Ne.symm (Bx.ne q6l g1a6)),rfl⟩)
   ·obtain ⟨sr,x,y,AX,cX,AY,cY,s',he,nx,ny,ho,ho',hr1⟩:=hall4ag i hpos hi
    rw [ho] at hS
    obtain ⟨bs,AS,cS,AT,cT,gbs,q9h,qs,n5,n6⟩:=hS
    unfold HI at hr1
    have g00:w.heap.size≤bs:=nlt X6w.size gbs
    refine KX (actPQ he (by simp only [S0,S1];rfl)) ?_
    refine wpIn_seq_k fun _ h3at=>Im (by rfl) (fun ⟨_,_,h⟩=>h)<|AA Bn fun b4at w4g E5at g2a6 q6at=>?_
    refine nrm ?_
    have g1b9:=nlt (nlt hX.size (Rd.refl w.heap.size w7c).size) g2a6
    refine ss CL q6at fun w5g U7at q3a6=>?_
    have F5a:=belU E5at U7at g2a6
    have X4a6:=(Rd.refl w.heap.size w7c).ext F5a
    refine wh h3at<|Im (by rfl) (fun ⟨_,_,h⟩=>h)<|AA Bn fun b8at w6ag E9at g5a6 q0au=>?_
    refine nrm ?_
    have g2b9:=nlt (nlt hX.size X4a6.size) g5a6
    refine ss CL q0au fun w9ag U1au q6a6=>?_
    have F3a:=belU E9at U1au g5a6
    have X0p:=X4a6.ext F3a
    refine AG ?_
    refine ⟨X0p,?_⟩
    intro w3x hq
    refine have hE1:=belR hX X0p hX.size;have hE2:=belQ hE1 hq hE1.size;wpIn_block<|wpIn_seq_k fun _ h2au=>Nv (by rfl) (fun ⟨_,_,h⟩=>h) [10,11] 12 mo rfl fun w6h E0a S5j=>have X2d:=(Rd.refl w.heap.size w3x).ext E0a;dV 0 rfl (fun _ hw=>Al AN rfl ((((q3a6.ext F3a).quiet hq).ext E0a).ext hw) rfl) S5j ?_
    refine dV 1 rfl (fun _ hw=>Al AN rfl (((q6a6.quiet hq).ext E0a).ext hw) rfl) S5j ?_
    refine dV 2 rfl (fun _ hw=>Af EN rfl (Bx.cell (((((q2e.ext F5a).ext F3a).quiet hq).ext E0a).ext hw) rfl)) S5j ?_
    refine dV 4 rfl (fun _ hw=>Al AN rfl ((((q3a6.ext F3a).quiet hq).ext E0a).ext hw) rfl) S5j ?_
    refine dV 5 rfl (fun _ hw=>Al AN rfl (((q6a6.quiet hq).ext E0a).ext hw) rfl) S5j ?_
    refine dV 6 rfl (fun _ hw=>Af EN rfl (Bx.cell (((((q2e.ext F5a).ext F3a).quiet hq).ext E0a).ext hw) rfl)) S5j ?_
    have n9d:=((((nx.ext hX).ext F5a).ext F3a).quiet hq).ext E0a
    have n0e:=((((ny.ext hX).ext F5a).ext F3a).quiet hq).ext E0a
    obtain ⟨r5f,h1p,f3au⟩:=Ab hr1
    obtain ⟨r9c,h0h,f4au⟩:=Ab f3au
    refine QY #[true,true,true,true,true,true,true,true,true,true,false,false] 2 (fun l' w'=>∃(A9l:Option Addr) (c0m:Nat) (A6j:Option Addr) (c7j:Nat) (b2p:Nat) (b3p:Nat),Ext w6h w'∧RU w' A9l c0m r5f.m.Abs∧RU w' A6j c7j r9c.m.Abs∧w6h.heap.size≤b2p∧Bx w' b2p 119 [.bool false,.slice none 0 0,.int .i64 0]∧w6h.heap.size≤b3p∧Bx w' b3p 119 [.bool false,.slice none 0 0,.int .i64 0]∧b2p≠b3p∧l'=[.agg #[.bool x0.lo.m.Neg,.slice A1 (sz x0.lo.m.Abs) c2,.int .i64 x0.lo.e,.bool x0.hi.m.Neg,.slice A4 (sz x0.hi.m.Abs) c5,.int .i64 x0.hi.e],.agg #[.bool x1.lo.m.Neg,.slice A7 (sz x1.lo.m.Abs) c8,.int .i64 x1.lo.e,.bool x1.hi.m.Neg,.slice A0d (sz x1.hi.m.Abs) c5d,.int .i64 x1.hi.e],.int .i64 x2,.pointer (some ⟨b5n,0,none⟩),.pointer (some ⟨b5h,0,none⟩),.pointer (some ⟨b6n,0,none⟩),.pointer (some ⟨b8n,0,none⟩),.pointer (some ⟨b9p,0,none⟩),.pointer (some ⟨b4at,0,none⟩),.pointer (some ⟨b8at,0,none⟩),.pointer (some ⟨b2p,0,none⟩),.pointer (some ⟨b3p,0,none⟩),.pointer (some ⟨b5h,0,none⟩),.agg #[.bool x1.lo.m.Neg,.slice A7 (sz x1.lo.m.Abs) c8,.int .i64 x1.lo.e],.int .i64 r2g,.pointer (some ⟨b5h,3,none⟩),.agg #[.bool x1.hi.m.Neg,.slice A0d (sz x1.hi.m.Abs) c5d,.int .i64 x1.hi.e],.int .i64 r3g,.int .i64 (wi64 (r2g*r3g)),.bool (decide (0<(wi64 (r2g*r3g)))),.tuple #[],.agg #[.bool x0.lo.m.Neg,.slice A1 (sz x0.lo.m.Abs) c2,.int .i64 x0.lo.e,.bool x0.hi.m.Neg,.slice A4 (sz x0.hi.m.Abs) c5,.int .i64 x0.hi.e],.agg #[.bool x1.lo.m.Neg,.slice A7 (sz x1.lo.m.Abs) c8,.int .i64 x1.lo.e,.bool x1.hi.m.Neg,.slice A0d (sz x1.hi.m.Abs) c5d,.int .i64 x1.hi.e],.func (.func 183) #[] #[.pointer (some ⟨b2k,0,none⟩),.pointer (some ⟨b3k,0,none⟩)],.agg #[.bool x.m.Neg,.slice AX (sz x.m.Abs) cX,.int .i64 x.e],.agg #[.bool y.m.Neg,.slice AY (sz y.m.Abs) cY,.int .i64 y.e],.agg #[.bool x.m.Neg,.slice AX (sz x.m.Abs) cX,.int .i64 x.e],.agg #[.bool y.m.Neg,.slice AY (sz y.m.Abs) cY,.int .i64 y.e],.int .i64 x2,.agg #[.bool r5f.m.Neg,.slice A9l (sz r5f.m.Abs) c0m,.int .i64 r5f.e],.agg #[.bool x.m.Neg,.slice AX (sz x.m.Abs) cX,.int .i64 x.e],.agg #[.bool y.m.Neg,.slice AY (sz y.m.Abs) cY,.int .i64 y.e],.int .i64 x2,.agg #[.bool r9c.m.Neg,.slice A6j (sz r9c.m.Abs) c7j,.int .i64 r9c.e],uu,uu,uu,uu,uu,uu,uu,uu,uu,uu,uu,uu,uu,uu,uu,uu,uu,uu,uu,uu,uu,uu,uu,uu,uu,uu,uu,uu,uu,uu,uu,uu]) ?_ ?_
    ·rintro _ w0x ⟨A9l,c0m,A6j,c7j,b2p,b3p,E8a,n5au,n6au,g7au,q7e,g8au,q8e,ne1e,rfl⟩
     have g9au:=nlt (nlt (nlt (nlt hX.size X0p.size) hq.size) X2d.size) g7au
     have g0av:=nlt (nlt (nlt (nlt hX.size X0p.size) hq.size) X2d.size) g8au
     have X1av:=X2d.ext E8a
     have S3b9:=S5j.trans E8a
     refine dkk 10 CL q7e fun w1x U1a q7a6=>?_
     have X2av:=X1av.upd U1a g9au q7e
     refine dkk 11 CL (q8e.upd U1a (Ne.symm ne1e)) fun w2x U1c q8a6=>?_
     have X3av:=X2av.upd U1c g0av (q8e.upd U1a (Ne.symm ne1e))
     refine Cn (by kernel_rfl) ?_
     refine h2au _ _<|wpIn_seq_k fun _ h4av=>wpIn_seq_k fun _ h5av=>Im (by rfl) (fun ⟨_,_,h⟩=>h)<|have ne9a6:=(Bx.neT (((((q9h.ext F5a).ext F3a).quiet hq).ext E0a).ext E8a) q7e (by decide));have ne6av:=(Bx.neT ((((((q9h.ext F5a).ext F3a).quiet hq).ext E0a).ext E8a).upd U1a ne9a6) (q8e.upd U1a (Ne.symm ne1e)) (by decide));have q8j:=((((((q9h.ext F5a).ext F3a).quiet hq).ext E0a).ext E8a).upd U1a ne9a6).upd U1c ne6av;sV2 (Af Gd rfl (Bx.cell q8j rfl)) (Rm NW rfl) ?_
     refine wh h5av<|wpIn_cond_false (Ai (evb rfl rfl))<|wpIn_skip<|h4av _ _<|wpIn_seq_k fun _ h7av=>wpIn_seq_k fun _ h8av=>Nv (by rfl) (fun ⟨_,_,h⟩=>h) [] 7 mo rfl fun w1q E4b S1t=>have X0a7:=X3av.ext E4b;dV 0 rfl (fun _ hw=>Al AN rfl (((q7a6.upd U1c ne1e).ext E4b).ext hw) rfl) S1t ?_
     refine dV 1 rfl (fun _ hw=>Af Gd rfl (Bx.cell ((q8j.ext E4b).ext hw) rfl)) S1t ?_
     refine dA 2 rfl (fun _=>BE rfl) ?_
     refine dA 3 rfl (fun _=>Ag (o':=0) Fh rfl rfl) ?_
     have ne4h:=(Bx.neT (((((qs.ext F5a).ext F3a).quiet hq).ext E0a).ext E8a) q7e (by decide))
     have ne1h:=(Bx.neT ((((((qs.ext F5a).ext F3a).quiet hq).ext E0a).ext E8a).upd U1a ne4h) (q8e.upd U1a (Ne.symm ne1e)) (by decide))
     refine dV 4 rfl (fun _ hw=>AL AN rfl (((((((((qs.ext F5a).ext F3a).quiet hq).ext E0a).ext E8a).upd U1a ne4h).upd U1c ne1h).ext E4b).ext hw) (by simp only [List.drop_zero,List.take_succ_cons,List.take_zero];rfl) rfl) S1t ?_
     have n1a7:=((n5au.upd U1a q7e (by decide)).upd U1c (q8e.upd U1a (Ne.symm ne1e)) (by decide)).ext E4b
     have n2a7:=(((((((n5.ext F5a).ext F3a).quiet hq).ext E0a).ext E8a).upd U1a q7e (by decide)).upd U1c (q8e.upd U1a (Ne.symm ne1e)) (by decide)).ext E4b
     obtain ⟨r9av,h0aw,f1aw⟩:=Ab f4au
     refine dc 5 rfl (by kernel_rfl) (by rfl) (Ad JE (by rfl)) (Ds r5f sr.lo A9l c0m AS cS w1q (tbx (belR hE2 X0a7 hE2.size) hT) n1a7 n2a7 r9av h0aw) ?_
     rintro _ w0o E6b rfl
     refine dnrm ?_
     have X2aw:=X0a7.ext E6b
     have S4b9:=S1t.trans E6b
     refine dab 6 rfl (by kernel_rfl) (fun _ _ _ h=>h) (by rfl) (fun _=>Cj rfl rfl) fun z3a7 hz3a7=>?_
     refine dnrm ?_
     refine Cn (by kernel_rfl) ?_
     refine h8av _ _ ?_
     obtain ⟨m7i,h3aw,f4aw⟩:=Ab f1aw
     refine Lr (fun l l' w'=>∃(t4a7:Value) (t5a7:Value) (t6a7:Value) (t7a7:Value) (A1m:Option Addr) (c2m:Nat),UpdS [bs] w0o w'∧Bx w' bs 121 [.bool m7i.1,.slice A1m (sz m7i.2.1) c2m,.int .i64 m7i.2.2,.bool sr.hi.m.Neg,.slice AT (sz sr.hi.m.Abs) cT,.int .i64 sr.hi.e]∧RU w' A1m c2m m7i.2.1∧l'=((((l.set 47 t4a7).set 48 t5a7).set 49 t6a7).set 50 t7a7)) ?_ ?_
     ·rcases zi hz3a7 h3aw with ⟨e2z,_,f5aw⟩ | ⟨e2z,_,f6aw⟩
      ·refine wpIn_cond_true (Ai (evb rfl e2z))<|Im (by rfl) (fun ⟨_,_,h⟩=>h)<|sV (Af Gd rfl (Bx.cell ((q8j.ext E4b).ext E6b) rfl)) ?_
       have q7aw:=((q7a6.upd U1c ne1e).ext E4b).ext E6b
       refine sV3 (Al AN rfl q7aw rfl) (BE rfl) (Ag (o':=0) Fh rfl rfl) ?_
       have q8a7:=((((((((qs.ext F5a).ext F3a).quiet hq).ext E0a).ext E8a).upd U1a ne4h).upd U1c ne1h).ext E4b).ext E6b
       refine ss CL q8a7 fun w1o U9a7 q8aw=>?_
       refine AG ?_
       have n9aw:=(n1a7.ext E6b).upd U9a7 q8a7 (by decide)
       obtain rfl:=sj f5aw
       exact ⟨_,rfl,(.pointer (some ⟨bs,0,none⟩)),(.agg #[.bool r5f.m.Neg,.slice A9l (sz r5f.m.Abs) c0m,.int .i64 r5f.e]),(.pointer (some ⟨bs,0,none⟩)),(.pointer (some ⟨bs,0,none⟩)),A9l,c0m,((UpdS.refl _ _).upd U9a7 (.inl im0)),q8aw,n9aw,(by simp only [S0,S1]<;>rfl)⟩
      ·refine wpIn_cond_false (Ai (evb rfl e2z))<|wpIn_skip ?_
       have q0ax:=((((((((qs.ext F5a).ext F3a).quiet hq).ext E0a).ext E8a).upd U1a ne4h).upd U1c ne1h).ext E4b).ext E6b
       obtain rfl:=sj f6aw
       exact ⟨_,rfl,uu,uu,uu,uu,AS,cS,(UpdS.refl _ _),q0ax,(n2a7.ext E6b),(by simp only [S0,S1]<;>rfl)⟩
     ·rintro l' w1o ⟨t4a7,t5a7,t6a7,t7a7,A1m,c2m,U9e,q3m,n1ax,hq'⟩ l'' hl
      rw [hq'] at hl
      clear hq'
      simp only [S0,S1] at hl
      subst hl
      have X2ax:=X2aw.updS U9e (alc ⟨g00,_,_,((((((((qs.ext F5a).ext F3a).quiet hq).ext E0a).ext E8a).upd U1a ne4h).upd U1c ne1h).ext E4b).ext E6b⟩ al0)
      refine h7av _ _<|wpIn_seq_k fun _ h3ax=>Nv (by rfl) (fun ⟨_,_,h⟩=>h) [] 7 mo rfl fun w4k E4c S2t=>have X0a8:=X2ax.ext E4c;dV 0 rfl (fun _ hw=>Al AN rfl (((((q8a6.ext E4b).ext E6b).updS U9e (nmc (Ne.symm ne1h) nm0)).ext E4c).ext hw) rfl) S2t ?_
      have ne3t:=(Bx.neT ((q8j.ext E4b).ext E6b) (((((((((qs.ext F5a).ext F3a).quiet hq).ext E0a).ext E8a).upd U1a ne4h).upd U1c ne1h).ext E4b).ext E6b) (by decide))
      refine dV 1 rfl (fun _ hw=>Af Gd rfl (Bx.cell (((((q8j.ext E4b).ext E6b).updS U9e (nmc ne3t nm0)).ext E4c).ext hw) rfl)) S2t ?_
      refine dA 2 rfl (fun _=>BE rfl) ?_
      refine dA 3 rfl (fun _=>Ag (o':=3) Fw rfl rfl) ?_
      refine dV 4 rfl (fun _ hw=>AL AN rfl ((q3m.ext E4c).ext hw) (by simp only [List.drop_succ_cons,List.drop_zero,List.take_succ_cons,List.take_zero];rfl) rfl) S2t ?_
      have n1a8:RU w4k A6j c7j r9c.m.Abs:=(((((n6au.upd U1a q7e (by decide)).upd U1c (q8e.upd U1a (Ne.symm ne1e)) (by decide)).ext E4b).ext E6b).updS U9e (alc ⟨_,_,by decide,((((((((qs.ext F5a).ext F3a).quiet hq).ext E0a).ext E8a).upd U1a ne4h).upd U1c ne1h).ext E4b).ext E6b⟩ al0)).ext E4c
      have n2a8:RU w4k AT cT sr.hi.m.Abs:=((((((((((n6.ext F5a).ext F3a).quiet hq).ext E0a).ext E8a).upd U1a q7e (by decide)).upd U1c (q8e.upd U1a (Ne.symm ne1e)) (by decide)).ext E4b).ext E6b).updS U9e (alc ⟨_,_,by decide,((((((((qs.ext F5a).ext F3a).quiet hq).ext E0a).ext E8a).upd U1a ne4h).upd U1c ne1h).ext E4b).ext E6b⟩ al0)).ext E4c
      obtain ⟨r4ax,h5ax,f6ax⟩:=Ab f4aw
      refine dc 5 rfl (by kernel_rfl) (by rfl) (Ad JE (by rfl)) (Ds r9c sr.hi A6j c7j AT cT w4k (tbx (belR hE2 X0a8 hE2.size) hT) n1a8 n2a8 r4ax h5ax) ?_
      rintro _ w7x E3d rfl
      refine dnrm ?_
      have X7ax:=X0a8.ext E3d
      have S5b9:=S2t.trans E3d
      refine dab 6 rfl (by kernel_rfl) (fun _ _ _ h=>h) (by rfl) (fun _=>EX rfl rfl) fun z3a8 hz3a8=>?_
      refine dnrm ?_
      refine Cn (by kernel_rfl) ?_
      refine h3ax _ _ ?_
      obtain ⟨m4t,h8ax,f9ax⟩:=Ab f6ax
      refine Lr (fun l l' w'=>∃(t4a8:Value) (t5a8:Value) (t6a8:Value) (t7a8:Value) (A5t:Option Addr) (c6t:Nat),UpdS [bs] w7x w'∧Bx w' bs 121 [.bool m7i.1,.slice A1m (sz m7i.2.1) c2m,.int .i64 m7i.2.2,.bool m4t.1,.slice A5t (sz m4t.2.1) c6t,.int .i64 m4t.2.2]∧RU w' A5t c6t m4t.2.1∧l'=((((l.set 58 t4a8).set 59 t5a8).set 60 t6a8).set 61 t7a8)) ?_ ?_
      ·rcases zi hz3a8 h8ax with ⟨e3z,_,f0ay⟩ | ⟨e3z,_,f1ay⟩
       ·refine wpIn_cond_true (Ai (evb rfl e3z))<|Im (by rfl) (fun ⟨_,_,h⟩=>h)<|have q2ay:=((((q8j.ext E4b).ext E6b).updS U9e (nmc ne3t nm0)).ext E4c).ext E3d;sV (Af Gd rfl (Bx.cell q2ay rfl)) ?_
        have q3ay:=((((q8a6.ext E4b).ext E6b).updS U9e (nmc (Ne.symm ne1h) nm0)).ext E4c).ext E3d
        refine sV3 (Al AN rfl q3ay rfl) (BE rfl) (Ag (o':=3) Fw rfl rfl) ?_
        refine ss CL ((q3m.ext E4c).ext E3d) fun w2j U8a8 q4ay=>?_
        refine AG ?_
        have n5ay:=(n1a8.ext E3d).upd U8a8 ((q3m.ext E4c).ext E3d) (by decide)
        obtain rfl:=sj f0ay
        exact ⟨_,rfl,(.pointer (some ⟨bs,0,none⟩)),(.agg #[.bool r9c.m.Neg,.slice A6j (sz r9c.m.Abs) c7j,.int .i64 r9c.e]),(.pointer (some ⟨bs,0,none⟩)),(.pointer (some ⟨bs,3,none⟩)),A6j,c7j,((UpdS.refl _ _).upd U8a8 (.inl im0)),q4ay,n5ay,(by simp only [S0,S1]<;>rfl)⟩
       ·refine wpIn_cond_false (Ai (evb rfl e3z))<|wpIn_skip ?_
        obtain rfl:=sj f1ay
        exact ⟨_,rfl,uu,uu,uu,uu,AT,cT,(UpdS.refl _ _),((q3m.ext E4c).ext E3d),(n2a8.ext E3d),(by simp only [S0,S1]<;>rfl)⟩
      ·rintro l' w2j ⟨t4a8,t5a8,t6a8,t7a8,A5t,c6t,U0i,q6ay,n7ay,hq'⟩ l'' hl
       rw [hq'] at hl
       clear hq'
       simp only [S0,S1] at hl
       subst hl
       have X4z:=X7ax.updS U0i (alc ⟨g00,_,_,(q3m.ext E4c).ext E3d⟩ al0)
       have hE3:=belR hE2 X4z hE2.size
       have ne9a8:=(Bx.neT (((((q7h.ext F5a).ext F3a).quiet hq).ext E0a).ext E8a) q7e (by decide))
       have ne8ay:=(Bx.neT ((((((q7h.ext F5a).ext F3a).quiet hq).ext E0a).ext E8a).upd U1a ne9a8) (q8e.upd U1a (Ne.symm ne1e)) (by decide))
       have ne0a9:=(Bx.ne (q4w.ext E3i) gbs)
       have q9ay:=((((((((((((q7h.ext F5a).ext F3a).quiet hq).ext E0a).ext E8a).upd U1a ne9a8).upd U1c ne8ay).ext E4b).ext E6b).updS U9e (nmc ne0a9 nm0)).ext E4c).ext E3d).updS U0i (nmc ne0a9 nm0)
       have ne1a9:=(Bx.neT (((((q8h.ext F5a).ext F3a).quiet hq).ext E0a).ext E8a) q7e (by decide))
       have ne0az:=(Bx.neT ((((((q8h.ext F5a).ext F3a).quiet hq).ext E0a).ext E8a).upd U1a ne1a9) (q8e.upd U1a (Ne.symm ne1e)) (by decide))
       have ne2a9:=(Bx.ne (q5w.ext E3i) gbs)
       have q1az:=((((((((((((q8h.ext F5a).ext F3a).quiet hq).ext E0a).ext E8a).upd U1a ne1a9).upd U1c ne0az).ext E4b).ext E6b).updS U9e (nmc ne2a9 nm0)).ext E4c).ext E3d).updS U0i (nmc ne2a9 nm0)
       have ne5z:=(Bx.neT (((((q2e.ext F5a).ext F3a).quiet hq).ext E0a).ext E8a) q7e (by decide))
       have ne3a9:=(Bx.neT ((((((q2e.ext F5a).ext F3a).quiet hq).ext E0a).ext E8a).upd U1a ne5z) (q8e.upd U1a (Ne.symm ne1e)) (by decide))
       have ne4a9:=(Bx.neT (((((((((q2e.ext F5a).ext F3a).quiet hq).ext E0a).ext E8a).upd U1a ne5z).upd U1c ne3a9).ext E4b).ext E6b) (((((((((qs.ext F5a).ext F3a).quiet hq).ext E0a).ext E8a).upd U1a ne4h).upd U1c ne1h).ext E4b).ext E6b) (by decide))
       have q2az:=((((((((((((q2e.ext F5a).ext F3a).quiet hq).ext E0a).ext E8a).upd U1a ne5z).upd U1c ne3a9).ext E4b).ext E6b).updS U9e (nmc ne4a9 nm0)).ext E4c).ext E3d).updS U0i (nmc ne4a9 nm0)
       have ne6z:=(Bx.neT (((((q7c.ext F5a).ext F3a).quiet hq).ext E0a).ext E8a) q7e (by decide))
       have ne5a9:=(Bx.neT ((((((q7c.ext F5a).ext F3a).quiet hq).ext E0a).ext E8a).upd U1a ne6z) (q8e.upd U1a (Ne.symm ne1e)) (by decide))
       have ne6a9:=(Bx.neT (((((((((q7c.ext F5a).ext F3a).quiet hq).ext E0a).ext E8a).upd U1a ne6z).upd U1c ne5a9).ext E4b).ext E6b) (((((((((qs.ext F5a).ext F3a).quiet hq).ext E0a).ext E8a).upd U1a ne4h).upd U1c ne1h).ext E4b).ext E6b) (by decide))
       have q3az:=((((((((((((q7c.ext F5a).ext F3a).quiet hq).ext E0a).ext E8a).upd U1a ne6z).upd U1c ne5a9).ext E4b).ext E6b).updS U9e (nmc ne6a9 nm0)).ext E4c).ext E3d).updS U0i (nmc ne6a9 nm0)
       have ne7a9:=(Bx.neT (((((q4g.ext F5a).ext F3a).quiet hq).ext E0a).ext E8a) q7e (by decide))
       have ne4az:=(Bx.neT ((((((q4g.ext F5a).ext F3a).quiet hq).ext E0a).ext E8a).upd U1a ne7a9) (q8e.upd U1a (Ne.symm ne1e)) (by decide))
       have ne8a9:=(Bx.ne q8a0 gbs)
       have q5az:=((((((((((((q4g.ext F5a).ext F3a).quiet hq).ext E0a).ext E8a).upd U1a ne7a9).upd U1c ne4az).ext E4b).ext E6b).updS U9e (nmc ne8a9 nm0)).ext E4c).ext E3d).updS U0i (nmc ne8a9 nm0)
       have ne9a9:=(Bx.neT (((((q5g.ext F5a).ext F3a).quiet hq).ext E0a).ext E8a) q7e (by decide))
       have ne6az:=(Bx.neT ((((((q5g.ext F5a).ext F3a).quiet hq).ext E0a).ext E8a).upd U1a ne9a9) (q8e.upd U1a (Ne.symm ne1e)) (by decide))
       have ne0aa:=(Bx.ne q9a0 gbs)
       have q7az:=((((((((((((q5g.ext F5a).ext F3a).quiet hq).ext E0a).ext E8a).upd U1a ne9a9).upd U1c ne6az).ext E4b).ext E6b).updS U9e (nmc ne0aa nm0)).ext E4c).ext E3d).updS U0i (nmc ne0aa nm0)
       have q8az:=(((((q8j.ext E4b).ext E6b).updS U9e (nmc ne3t nm0)).ext E4c).ext E3d).updS U0i (nmc ne3t nm0)
       have n9az:RU w2j A1m c2m m7i.2.1:=((n1ax.ext E4c).ext E3d).updS U0i (alc ⟨_,_,by decide,(q3m.ext E4c).ext E3d⟩ al0)
       obtain rfl:=sj f9ax
       exact ⟨X4z,hE3,nlt (nlt (nlt hK X0p.size) hq.size) X4z.size,q9ay,q1az,q2az,q3az,q5az,q7az,(by rw [ho'];exact ⟨bs,A1m,c2m,A5t,c6t,gbs,q8az,q6ay,n9az,n7ay⟩)⟩
    ·intro HJ486
     refine Og 3 8 9 (by kernel_rfl) ?_ ?_ ?_
     ·refine opC 3 rfl (by rfl) (Ad DU (by rfl)) (AC x y x2 5 AX cX AY cY _ (tbx (Ext.refl _) (tbx (belR hE2 X2d hE2.size) hT)) (n9d.ext (Ext.refl _)) (n0e.ext (Ext.refl _)) r5f h1p) ?_
      rintro _ _ E3b ⟨A4m,c5m,rfl,n6m⟩
      refine dnrm ?_
      refine Og 7 8 9 (by kernel_rfl) ?_ ?_ ?_
      ·refine opC 7 rfl (by rfl) (Ad DU (by rfl)) (AC x y x2 4 AX cX AY cY _ (tbx E3b (tbx (belR hE2 X2d hE2.size) hT)) (n9d.ext E3b) (n0e.ext E3b) r9c h0h) ?_
       rintro _ _ E8i ⟨A1aa,c2aa,rfl,n3aa⟩
       refine dnrm ?_
       refine Hz 8 9 (by kernel_rfl) ?_ ?_
       ·refine opA 8 rfl (by rfl) (Bq Bn) fun b0b0 _ E7t g1b0 q4aa=>dnrm ?_
        refine Dl 9 (by kernel_rfl) ?_
        ·refine opA 9 rfl (by rfl) (Bq Bn) fun b2b0 _ E8t g5aa q3b0=>dnrm ?_
         exact EL (by kernel_rfl) (HJ486 _ _ ⟨A4m,c5m,A1aa,c2aa,b0b0,b2b0,(((E3b.trans E8i).trans E7t).trans E8t),(((n6m.ext E8i).ext E7t).ext E8t),((n3aa.ext E7t).ext E8t),(nlt (E3b.trans E8i).size g1b0),(q4aa.ext E8t),(nlt ((E3b.trans E8i).trans E7t).size g5aa),q3b0,(Bx.ne q4aa g5aa),rfl⟩)
       ·refine opA 9 rfl (by rfl) (Bq Bn) fun b4b0 _ E9t g5b0 q6aa=>dnrm ?_
        refine Dl 8 (by kernel_rfl) ?_
        ·refine opA 8 rfl (by rfl) (Bq Bn) fun b6b0 _ E0u g7aa q7b0=>dnrm ?_
         exact EL (by kernel_rfl) (HJ486 _ _ ⟨A4m,c5m,A1aa,c2aa,b6b0,b4b0,(((E3b.trans E8i).trans E9t).trans E0u),(((n6m.ext E8i).ext E9t).ext E0u),((n3aa.ext E9t).ext E0u),(nlt ((E3b.trans E8i).trans E9t).size g7aa),q7b0,(nlt (E3b.trans E8i).size g5b0),(q6aa.ext E0u),(Ne.symm (Bx.ne q6aa g7aa)),rfl⟩)
      ·refine opA 8 rfl (by rfl) (Bq Bn) fun b8aa _ E0g g9aa q1u=>dnrm ?_
       refine Hz 7 9 (by kernel_rfl) ?_ ?_
       ·refine opC 7 rfl (by rfl) (Ad DU (by rfl)) (AC x y x2 4 AX cX AY cY _ (tbx (E3b.trans E0g) (tbx (belR hE2 X2d hE2.size) hT)) (n9d.ext (E3b.trans E0g)) (n0e.ext (E3b.trans E0g)) r9c h0h) ?_
        rintro _ _ E4p ⟨A8b0,c9b0,rfl,n0b1⟩
        refine dnrm ?_
        refine Dl 9 (by kernel_rfl) ?_
        ·refine opA 9 rfl (by rfl) (Bq Bn) fun b1b1 _ E2u g0ab q2b1=>dnrm ?_
         exact EL (by kernel_rfl) (HJ486 _ _ ⟨A4m,c5m,A8b0,c9b0,b8aa,b1b1,(((E3b.trans E0g).trans E4p).trans E2u),(((n6m.ext E0g).ext E4p).ext E2u),(n0b1.ext E2u),(nlt E3b.size g9aa),((q1u.ext E4p).ext E2u),(nlt ((E3b.trans E0g).trans E4p).size g0ab),q2b1,(Bx.ne (q1u.ext E4p) g0ab),rfl⟩)
       ·refine opA 9 rfl (by rfl) (Bq Bn) fun b3b1 _ E7m g1ab q4b1=>dnrm ?_
        refine Dl 7 (by kernel_rfl) ?_
        ·refine opC 7 rfl (by rfl) (Ad DU (by rfl)) (AC x y x2 4 AX cX AY cY _ (tbx ((E3b.trans E0g).trans E7m) (tbx (belR hE2 X2d hE2.size) hT)) (n9d.ext ((E3b.trans E0g).trans E7m)) (n0e.ext ((E3b.trans E0g).trans E7m)) r9c h0h) ?_
         rintro _ _ E3u ⟨A5b1,c6b1,rfl,n7b1⟩
         refine dnrm ?_
         exact EL (by kernel_rfl) (HJ486 _ _ ⟨A4m,c5m,A5b1,c6b1,b8aa,b3b1,(((E3b.trans E0g).trans E7m).trans E3u),(((n6m.ext E0g).ext E7m).ext E3u),n7b1,(nlt E3b.size g9aa),((q1u.ext E7m).ext E3u),(nlt (E3b.trans E0g).size g1ab),(q4b1.ext E3u),(Bx.ne q1u g1ab),rfl⟩)
      ·refine opA 9 rfl (by rfl) (Bq Bn) fun b2ab _ E1g g3ab q4u=>dnrm ?_
       refine Hz 7 8 (by kernel_rfl) ?_ ?_
       ·refine opC 7 rfl (by rfl) (Ad DU (by rfl)) (AC x y x2 4 AX cX AY cY _ (tbx (E3b.trans E1g) (tbx (belR hE2 X2d hE2.size) hT)) (n9d.ext (E3b.trans E1g)) (n0e.ext (E3b.trans E1g)) r9c h0h) ?_
        rintro _ _ E5p ⟨A8b1,c9b1,rfl,n0b2⟩
        refine dnrm ?_
        refine Dl 8 (by kernel_rfl) ?_
        ·refine opA 8 rfl (by rfl) (Bq Bn) fun b1b2 _ E5u g4ab q2b2=>dnrm ?_
         exact EL (by kernel_rfl) (HJ486 _ _ ⟨A4m,c5m,A8b1,c9b1,b1b2,b2ab,(((E3b.trans E1g).trans E5p).trans E5u),(((n6m.ext E1g).ext E5p).ext E5u),(n0b2.ext E5u),(nlt ((E3b.trans E1g).trans E5p).size g4ab),q2b2,(nlt E3b.size g3ab),((q4u.ext E5p).ext E5u),(Ne.symm (Bx.ne (q4u.ext E5p) g4ab)),rfl⟩)
       ·refine opA 8 rfl (by rfl) (Bq Bn) fun b3b2 _ E8m g5ab q4b2=>dnrm ?_
        refine Dl 7 (by kernel_rfl) ?_
        ·refine opC 7 rfl (by rfl) (Ad DU (by rfl)) (AC x y x2 4 AX cX AY cY _ (tbx ((E3b.trans E1g).trans E8m) (tbx (belR hE2 X2d hE2.size) hT)) (n9d.ext ((E3b.trans E1g).trans E8m)) (n0e.ext ((E3b.trans E1g).trans E8m)) r9c h0h) ?_
         rintro _ _ E6u ⟨A5b2,c6b2,rfl,n7b2⟩
         refine dnrm ?_
         exact EL (by kernel_rfl) (HJ486 _ _ ⟨A4m,c5m,A5b2,c6b2,b3b2,b2ab,(((E3b.trans E1g).trans E8m).trans E6u),(((n6m.ext E1g).ext E8m).ext E6u),n7b2,(nlt (E3b.trans E1g).size g5ab),(q4b2.ext E6u),(nlt E3b.size g3ab),((q4u.ext E8m).ext E6u),(Ne.symm (Bx.ne q4u g5ab)),rfl⟩)
     ·refine opA 8 rfl (by rfl) (Bq Bn) fun b7z _ E5c g8z q9m=>dnrm ?_
      refine Hz 3 9 (by kernel_rfl) ?_ ?_
      ·refine opC 3 rfl (by rfl) (Ad DU (by rfl)) (AC x y x2 5 AX cX AY cY _ (tbx E5c (tbx (belR hE2 X2d hE2.size) hT)) (n9d.ext E5c) (n0e.ext E5c) r5f h1p) ?_
       rintro _ _ E0f ⟨A6ab,c7ab,rfl,n8ab⟩
       refine dnrm ?_
       refine Hz 7 9 (by kernel_rfl) ?_ ?_
       ·refine opC 7 rfl (by rfl) (Ad DU (by rfl)) (AC x y x2 4 AX cX AY cY _ (tbx (E5c.trans E0f) (tbx (belR hE2 X2d hE2.size) hT)) (n9d.ext (E5c.trans E0f)) (n0e.ext (E5c.trans E0f)) r9c h0h) ?_
        rintro _ _ E6p ⟨A8b2,c9b2,rfl,n0b3⟩
        refine dnrm ?_
        refine Dl 9 (by kernel_rfl) ?_
        ·refine opA 9 rfl (by rfl) (Bq Bn) fun b1b3 _ E7u g9ab q2b3=>dnrm ?_
         exact EL (by kernel_rfl) (HJ486 _ _ ⟨A6ab,c7ab,A8b2,c9b2,b7z,b1b3,(((E5c.trans E0f).trans E6p).trans E7u),((n8ab.ext E6p).ext E7u),(n0b3.ext E7u),g8z,(((q9m.ext E0f).ext E6p).ext E7u),(nlt ((E5c.trans E0f).trans E6p).size g9ab),q2b3,(Bx.ne ((q9m.ext E0f).ext E6p) g9ab),rfl⟩)
       ·refine opA 9 rfl (by rfl) (Bq Bn) fun b3b3 _ E0n g0ac q4b3=>dnrm ?_
        refine Dl 7 (by kernel_rfl) ?_
        ·refine opC 7 rfl (by rfl) (Ad DU (by rfl)) (AC x y x2 4 AX cX AY cY _ (tbx ((E5c.trans E0f).trans E0n) (tbx (belR hE2 X2d hE2.size) hT)) (n9d.ext ((E5c.trans E0f).trans E0n)) (n0e.ext ((E5c.trans E0f).trans E0n)) r9c h0h) ?_
         rintro _ _ E8u ⟨A5b3,c6b3,rfl,n7b3⟩
         refine dnrm ?_
         exact EL (by kernel_rfl) (HJ486 _ _ ⟨A6ab,c7ab,A5b3,c6b3,b7z,b3b3,(((E5c.trans E0f).trans E0n).trans E8u),((n8ab.ext E0n).ext E8u),n7b3,g8z,(((q9m.ext E0f).ext E0n).ext E8u),(nlt (E5c.trans E0f).size g0ac),(q4b3.ext E8u),(Bx.ne (q9m.ext E0f) g0ac),rfl⟩)
      ·refine opA 9 rfl (by rfl) (Bq Bn) fun b8b3 _ E9i g1ac q9b3=>dnrm ?_
       refine Dl 3 (by kernel_rfl) ?_
       ·refine opC 3 rfl (by rfl) (Ad DU (by rfl)) (AC x y x2 5 AX cX AY cY _ (tbx (E5c.trans E9i) (tbx (belR hE2 X2d hE2.size) hT)) (n9d.ext (E5c.trans E9i)) (n0e.ext (E5c.trans E9i)) r5f h1p) ?_
        rintro _ _ E1n ⟨A0b4,c1b4,rfl,n2b4⟩
        refine dnrm ?_
        refine Dl 7 (by kernel_rfl) ?_
        ·refine opC 7 rfl (by rfl) (Ad DU (by rfl)) (AC x y x2 4 AX cX AY cY _ (tbx ((E5c.trans E9i).trans E1n) (tbx (belR hE2 X2d hE2.size) hT)) (n9d.ext ((E5c.trans E9i).trans E1n)) (n0e.ext ((E5c.trans E9i).trans E1n)) r9c h0h) ?_
         rintro _ _ E9u ⟨A3b4,c4b4,rfl,n5b4⟩
         refine dnrm ?_
         exact EL (by kernel_rfl) (HJ486 _ _ ⟨A0b4,c1b4,A3b4,c4b4,b7z,b8b3,(((E5c.trans E9i).trans E1n).trans E9u),(n2b4.ext E9u),n5b4,g8z,(((q9m.ext E9i).ext E1n).ext E9u),(nlt E5c.size g1ac),((q9b3.ext E1n).ext E9u),(Bx.ne q9m g1ac),rfl⟩)
     ·refine opA 9 rfl (by rfl) (Bq Bn) fun b9z _ E6c g0a0 q2n=>dnrm ?_
      refine Hz 3 8 (by kernel_rfl) ?_ ?_
      ·refine opC 3 rfl (by rfl) (Ad DU (by rfl)) (AC x y x2 5 AX cX AY cY _ (tbx E6c (tbx (belR hE2 X2d hE2.size) hT)) (n9d.ext E6c) (n0e.ext E6c) r5f h1p) ?_
       rintro _ _ E1f ⟨A2ac,c3ac,rfl,n4ac⟩
       refine dnrm ?_
       refine Hz 7 8 (by kernel_rfl) ?_ ?_
       ·refine opC 7 rfl (by rfl) (Ad DU (by rfl)) (AC x y x2 4 AX cX AY cY _ (tbx (E6c.trans E1f) (tbx (belR hE2 X2d hE2.size) hT)) (n9d.ext (E6c.trans E1f)) (n0e.ext (E6c.trans E1f)) r9c h0h) ?_
        rintro _ _ E7p ⟨A6b4,c7b4,rfl,n8b4⟩
        refine dnrm ?_
        refine Dl 8 (by kernel_rfl) ?_
        ·refine opA 8 rfl (by rfl) (Bq Bn) fun b9b4 _ E0v g5ac q0b5=>dnrm ?_
         exact EL (by kernel_rfl) (HJ486 _ _ ⟨A2ac,c3ac,A6b4,c7b4,b9b4,b9z,(((E6c.trans E1f).trans E7p).trans E0v),((n4ac.ext E7p).ext E0v),(n8b4.ext E0v),(nlt ((E6c.trans E1f).trans E7p).size g5ac),q0b5,g0a0,(((q2n.ext E1f).ext E7p).ext E0v),(Ne.symm (Bx.ne ((q2n.ext E1f).ext E7p) g5ac)),rfl⟩)
       ·refine opA 8 rfl (by rfl) (Bq Bn) fun b1b5 _ E3n g6ac q2b5=>dnrm ?_
        refine Dl 7 (by kernel_rfl) ?_
        ·refine opC 7 rfl (by rfl) (Ad DU (by rfl)) (AC x y x2 4 AX cX AY cY _ (tbx ((E6c.trans E1f).trans E3n) (tbx (belR hE2 X2d hE2.size) hT)) (n9d.ext ((E6c.trans E1f).trans E3n)) (n0e.ext ((E6c.trans E1f).trans E3n)) r9c h0h) ?_
         rintro _ _ E1v ⟨A3b5,c4b5,rfl,n5b5⟩
         refine dnrm ?_
         exact EL (by kernel_rfl) (HJ486 _ _ ⟨A2ac,c3ac,A3b5,c4b5,b1b5,b9z,(((E6c.trans E1f).trans E3n).trans E1v),((n4ac.ext E3n).ext E1v),n5b5,(nlt (E6c.trans E1f).size g6ac),(q2b5.ext E1v),g0a0,(((q2n.ext E1f).ext E3n).ext E1v),(Ne.symm (Bx.ne (q2n.ext E1f) g6ac)),rfl⟩)
      ·refine opA 8 rfl (by rfl) (Bq Bn) fun b6b5 _ E0j g7ac q7b5=>dnrm ?_
       refine Dl 3 (by kernel_rfl) ?_
       ·refine opC 3 rfl (by rfl) (Ad DU (by rfl)) (AC x y x2 5 AX cX AY cY _ (tbx (E6c.trans E0j) (tbx (belR hE2 X2d hE2.size) hT)) (n9d.ext (E6c.trans E0j)) (n0e.ext (E6c.trans E0j)) r5f h1p) ?_
        rintro _ _ E4n ⟨A8b5,c9b5,rfl,n0b6⟩
        refine dnrm ?_
        refine Dl 7 (by kernel_rfl) ?_
        ·refine opC 7 rfl (by rfl) (Ad DU (by rfl)) (AC x y x2 4 AX cX AY cY _ (tbx ((E6c.trans E0j).trans E4n) (tbx (belR hE2 X2d hE2.size) hT)) (n9d.ext ((E6c.trans E0j).trans E4n)) (n0e.ext ((E6c.trans E0j).trans E4n)) r9c h0h) ?_
         rintro _ _ E2v ⟨A1b6,c2b6,rfl,n3b6⟩
         refine dnrm ?_
         exact EL (by kernel_rfl) (HJ486 _ _ ⟨A8b5,c9b5,A1b6,c2b6,b6b5,b9z,(((E6c.trans E0j).trans E4n).trans E2v),(n0b6.ext E2v),n3b6,(nlt E6c.size g7ac),((q7b5.ext E4n).ext E2v),g0a0,(((q2n.ext E0j).ext E4n).ext E2v),(Ne.symm (Bx.ne q2n g7ac)),rfl⟩)
  ·intro D w8d hD hI hk0
   subst hO
   obtain ⟨hX,hK,q7h,q8h,q2e,q7c,q4g,q5g,hS⟩:=hI
   obtain ⟨bs,AS,cS,AT,cT,gbs,q9h,qs,n5,n6⟩:=hS
   have hk:Df w8d D:=hk0
   refine h3af _ _<|wp_seq_k fun _ h4b6=>Ae<|sV3 (Af Gd rfl (Bx.cell q9h rfl)) (BE rfl) (Al Ln rfl qs rfl) ?_
   rcases AR f3ag with ⟨r1a0,h2a0,f5b6⟩ | ⟨r1a0,h2a0,rfl⟩
   ·refine scO (Ad Mv (by rfl)) (Gi s0q AS cS AT cT w8d (tbx hX hT) n5 n6 (.ok r1a0) h2a0) ?_
    rintro _ w1s E1i ⟨A6b6,c7b6,A8b6,c9b6,rfl,n0b7,n1b7⟩
    refine nrm ?_
    have X2b7:=xtr hX E1i
    have hk3b7:=Df.ext hk E1i
    refine ss HJ (q7c.ext E1i) fun w7y U3v q4b7=>?_
    have X8ac:=belU X2b7 U3v g9ad
    have hk9ac:=Df.upd hk3b7 U3v (q7c.ext E1i)
    refine wh h4b6<|wp_ret ?_
    have Q4v:=Quiet.put (n0:=w.heap.size) (.deferred none) hk9ac hD rfl
    have hXE:=belQ X8ac Q4v X8ac.size
    have n5b7:=(n0b7.upd U3v (q7c.ext E1i) (by decide)).quiet Q4v
    have n6b7:=(n1b7.upd U3v (q7c.ext E1i) (by decide)).quiet Q4v
    obtain rfl:=sj f5b6
    exact QX hk9ac rfl (Res.cellN rfl DE (q4b7.quiet Q4v) rfl rfl Res.nil) (EK hXE ⟨A6b6,c7b6,A8b6,c9b6,rfl,n5b7,n6b7⟩)
   ·refine scP (Ad Mv (by rfl)) (Gi s0q AS cS AT cT w8d (tbx hX hT) n5 n6 (.error r1a0) h2a0) fun w1s E1i=>?_
    have X0ad:=xtr hX E1i
    have hk1ad:=Df.ext hk E1i
    exact panM hk1ad (Cw (belQ X0ad (Quiet.put _ hk1ad hD rfl) X0ad.size))
 ·refine dcP 8 rfl (by kernel_rfl) (by rfl) (Ad EI (by rfl)) (Bh (decide (0<(wi64 (r2g*r3g)))) 8 w7 (tbx X8p hT)  (.error r1w) h2w) fun w8 E2i=>?_
  have X7b7:=xtr X8p E2i
  exact panM0 (Cw X7b7)
theorem c_dyad_made_Span__dyad_Over_1 (x0:AO) (x1:AO) (x2:Int) (A1:Option Addr) (c2:Nat) (A4:Option Addr) (c5:Nat) (A7:Option Addr) (c8:Nat) (A6a:Option Addr) (c8a:Nat) (w:World) (hT:TB w) (n3:RLu w A1 c2 x0.Lo.Man.Abs) (n6:RLu w A4 c5 x0.Hi.Man.Abs) (n9:RLu w A7 c8 x1.Lo.Man.Abs) (n4b:RLu w A6a c8a x1.Hi.Man.Abs) (r:AI × Int) (hr:Fl x0 x1 x2=some r) :
  Calls Tryz.prog 100 #[.agg #[.bool x0.Lo.Man.Neg,.slice A1 x0.Lo.Man.Abs.length c2,.int .i64 x0.Lo.Exp,.bool x0.Hi.Man.Neg,.slice A4 x0.Hi.Man.Abs.length c5,.int .i64 x0.Hi.Exp],.agg #[.bool x1.Lo.Man.Neg,.slice A7 x1.Lo.Man.Abs.length c8,.int .i64 x1.Lo.Exp,.bool x1.Hi.Man.Neg,.slice A6a x1.Hi.Man.Abs.length c8a,.int .i64 x1.Hi.Exp],.int .i64 x2,.func (.func 101) #[] #[]] w (Ret Jy w r):=by
 unfold Fl at hr
 obtain ⟨q0,hq0,hr0⟩:=Ab hr
 unfold GL at hq0
 go_enter_defers Tryz.func100,Tryz.ntmps100
 refine wp_seq_k fun _ h4e=>Ae<|Bu rfl rfl fun b9l w1 E5e g0m q7g=>?_
 refine nrm ?_
 refine Bu rfl rfl fun b1m w2 E6e g8g q7e=>?_
 refine nrm ?_
 have g2m:=nlt E5e.size g8g
 have X8e:=xtr E5e E6e
 refine AA Ii fun b5b w3 E6b g9g q7b=>?_
 refine nrm ?_
 have g8b:=nlt X8e.size g9g
 have X9e:=xtr X8e E6b
 refine AA JM fun b9b w4 E0b g0h q3b=>?_
 refine nrm ?_
 have g0c:=nlt X9e.size g0h
 have X0f:=xtr X9e E0b
 refine wh h4e<|wp_seq_k fun _ h1h=>Ae<|Ic (vs:=[.pointer (some ⟨b5b,0,none⟩),.pointer (some ⟨b9b,0,none⟩)]) (by rfl) (by rfl)<|wh h1h<|wp_seq_k fun _ h2h=>Ae<|have q1f:=((q7g.ext E6e).ext E6b).ext E0b;sV2 (Al DE rfl q1f rfl) (Al DE rfl ((q7e.ext E6b).ext E0b) rfl) ?_
 refine Cv (vals:=[(0,.agg #[.bool x0.Lo.Man.Neg,.slice A1 x0.Lo.Man.Abs.length c2,.int .i64 x0.Lo.Exp,.bool x0.Hi.Man.Neg,.slice A4 x0.Hi.Man.Abs.length c5,.int .i64 x0.Hi.Exp]),(1,.agg #[.bool x1.Lo.Man.Neg,.slice A7 x1.Lo.Man.Abs.length c8,.int .i64 x1.Lo.Exp,.bool x1.Hi.Man.Neg,.slice A6a x1.Hi.Man.Abs.length c8a,.int .i64 x1.Hi.Exp])]) (cs:=[.bool x0.Lo.Man.Neg,.slice A1 x0.Lo.Man.Abs.length c2,.int .i64 x0.Lo.Exp,.bool x0.Hi.Man.Neg,.slice A4 x0.Hi.Man.Abs.length c5,.int .i64 x0.Hi.Exp,.bool x1.Lo.Man.Neg,.slice A7 x1.Lo.Man.Abs.length c8,.int .i64 x1.Lo.Exp,.bool x1.Hi.Man.Neg,.slice A6a x1.Hi.Man.Abs.length c8a,.int .i64 x1.Hi.Exp]) Mx HJ Ii (by rfl) (by decide) (by kernel_rfl) fun b2f w5 E3a g3h q3f=>?_
 refine nrm ?_
 have g3m:=nlt X0f.size g3h
 have X4a:=xtr X0f E3a
 rcases AR hq0 with ⟨r1c,h9d,f4h⟩ | ⟨r1c,h9d,rfl⟩
 ·refine scO (Ad Mq (by rfl)) (FM x0 x1 b2f A1 c2 A4 c5 A7 c8 A6a c8a w5 (tbx X4a hT) (n3.ext X4a) (n6.ext X4a) (n9.ext X4a) (n4b.ext X4a) q3f (.ok r1c) h9d) ?_
  rintro _ w6 E2a rfl
  refine nrm ?_
  have X2c:=xtr X4a E2a
  refine wh h2h<|wp_seq_k fun _ h5h=>Ae<|sV (Aa rfl) ?_
  rcases AR f4h with ⟨r3c,h0e,f6h⟩ | ⟨r3c,h0e,rfl⟩
  ·refine scO (Ad Lh (by rfl)) (GT x2 w6 (tbx X2c hT)  (.ok r3c) h0e) ?_
   rintro _ w7 E5a rfl
   refine nrm ?_
   have X7h:=xtr X2c E5a
   refine wh h5h<|wp_seq_k fun _ h8h=>Dn [7,8] 9 mo rfl fun w8 E1b S1e=>?_
   have X4c:=xtr X7h E1b
   refine dA 0 rfl (fun _=>Aa rfl) ?_ (hQ:=fun _ _ _ h=>dq (rs:=[.cell 8 29,.cell 9 33]) rfl (by decide) h)
   refine dV 1 rfl (fun _ hw=>Al DE rfl (((((q1f.ext E3a).ext E2a).ext E5a).ext E1b).ext hw) rfl) S1e ?_ (hQ:=fun _ _ _ h=>dq (rs:=[.cell 8 29,.cell 9 33]) rfl (by decide) h)
   refine dV 3 rfl (fun _ hw=>Al DE rfl (((((((q7e.ext E6b).ext E0b).ext E3a).ext E2a).ext E5a).ext E1b).ext hw) rfl) S1e ?_ (hQ:=fun _ _ _ h=>dq (rs:=[.cell 8 29,.cell 9 33]) rfl (by decide) h)
   refine dA 5 rfl (fun _=>Aa rfl) ?_ (hQ:=fun _ _ _ h=>dq (rs:=[.cell 8 29,.cell 9 33]) rfl (by decide) h)
   obtain ⟨m4f,h9h,f0i⟩:=Ab f6h
   have hx5f:=BO h9h
   have n1i:RU w8 A1 c2 m4f:=by unfold RU;rw [hx5f];exact (n3.ext X4c)
   obtain ⟨m6f,h2i,f3i⟩:=Ab f0i
   have hx7f:=BO h2i
   have n4i:RU w8 A4 c5 m6f:=by unfold RU;rw [hx7f];exact (n6.ext X4c)
   obtain ⟨r0a,h5i,f6i⟩:=Ab f3i
   refine dc 2 rfl (by kernel_rfl) (by rfl) (Ad MB (by simp only [sz,hx5f,hx7f];rfl)) (Hp (⟨(⟨(⟨x0.Lo.Man.Neg,m4f⟩:Ah),x0.Lo.Exp⟩:Ak),(⟨(⟨x0.Hi.Man.Neg,m6f⟩:Ah),x0.Hi.Exp⟩:Ak)⟩:AI) A1 c2 A4 c5 w8 (tbx X4c hT) n1i n4i r0a h5i) ?_
   rintro _ w9 E2b ⟨A5c,c6c,A7c,c8c,rfl,n8f,n9f⟩
   refine dnrm ?_
   have X9c:=xtr X4c E2b
   have S7i:=S1e.trans E2b
   obtain ⟨m0g,h8i,f9i⟩:=Ab f6i
   have hx1g:=BO h8i
   have n0j:RU w9 A7 c8 m0g:=by unfold RU;rw [hx1g];exact (n9.ext X9c)
   obtain ⟨m2g,h1j,f2j⟩:=Ab f9i
   have hx3g:=BO h1j
   have n3j:RU w9 A6a c8a m2g:=by unfold RU;rw [hx3g];exact (n4b.ext X9c)
   obtain ⟨r1a,h4j,f5j⟩:=Ab f2j
   refine dc 4 rfl (by kernel_rfl) (by rfl) (Ad MB (by simp only [sz,hx1g,hx3g];rfl)) (Hp (⟨(⟨(⟨x1.Lo.Man.Neg,m0g⟩:Ah),x1.Lo.Exp⟩:Ak),(⟨(⟨x1.Hi.Man.Neg,m2g⟩:Ah),x1.Hi.Exp⟩:Ak)⟩:AI) A7 c8 A6a c8a w9 (tbx X9c hT) n0j n3j r1a h4j) ?_
   rintro _ w6a E7a ⟨A0d,c1d,A2d,c3d,rfl,n4g,n5g⟩
   refine dnrm ?_
   have X4d:=xtr X9c E7a
   have S6j:=S7i.trans E7a
   rcases AR f5j with ⟨r5d,h2e,f7j⟩ | ⟨r5d,h2e,rfl⟩
   ·refine dcO 6 rfl (by kernel_rfl) (by rfl) (Gx (first:=[]) (cap:=[]) (args:=[.agg #[.bool r0a.lo.m.Neg,.slice A5c (sz r0a.lo.m.Abs) c6c,.int .i64 r0a.lo.e,.bool r0a.hi.m.Neg,.slice A7c (sz r0a.hi.m.Abs) c8c,.int .i64 r0a.hi.e],.agg #[.bool r1a.lo.m.Neg,.slice A0d (sz r1a.lo.m.Abs) c1d,.int .i64 r1a.lo.e,.bool r1a.hi.m.Neg,.slice A2d (sz r1a.hi.m.Abs) c3d,.int .i64 r1a.hi.e],.int .i64 x2]) Qk (by rfl) (by rfl)) (LI r0a r1a x2 A5c c6c A7c c8c A0d c1d A2d c3d w6a (tbx X4d hT) (n8f.ext E7a) (n9f.ext E7a) n4g n5g (.ok r5d) h2e) ?_
    rintro _ w8a E9a ⟨A8j,c9j,A0k,c1k,rfl,n2k,n3k⟩
    refine dnrm ?_
    have X4k:=xtr X4d E9a
    have S4m:=S6j.trans E9a
    have q6d:=(((((((q7b.ext E0b).ext E3a).ext E2a).ext E5a).ext E1b).ext E2b).ext E7a).ext E9a
    refine dkk 7 HJ q6d fun w4b U7d q5k=>?_
    have X6k:=belU X4k U7d g8b
    have ne6g:=(Bx.neT (((((((q3b.ext E3a).ext E2a).ext E5a).ext E1b).ext E2b).ext E7a).ext E9a) q6d (by decide))
    have q3e:=(((((((q3b.ext E3a).ext E2a).ext E5a).ext E1b).ext E2b).ext E7a).ext E9a).upd U7d ne6g
    refine dkk 8 HU q3e fun w4e U8d q7k=>?_
    have X8k:=belU X6k U8d g0c
    refine Cn (by kernel_rfl) ?_
    refine h8h _ _<|wp_ret ?_
    have n9k:=(n2k.upd U7d q6d (by decide)).upd U8d q3e (by decide)
    have n0l:=(n3k.upd U7d q6d (by decide)).upd U8d q3e (by decide)
    obtain rfl:=sj f7j
    obtain rfl:=sj hr0
    exact Nu Hs Jj rfl (Res.cellN rfl DE (q5k.upd U8d (Ne.symm ne6g)) rfl rfl (Res.cell1 rfl Dy (Bx.cell q7k rfl) Res.nil)) (Aj X8k ⟨A8j,c9j,A0k,c1k,rfl,n9k,n0l⟩)
   ·refine dcP 6 rfl (by kernel_rfl) (by rfl) (Gx (first:=[]) (cap:=[]) (args:=[.agg #[.bool r0a.lo.m.Neg,.slice A5c (sz r0a.lo.m.Abs) c6c,.int .i64 r0a.lo.e,.bool r0a.hi.m.Neg,.slice A7c (sz r0a.hi.m.Abs) c8c,.int .i64 r0a.hi.e],.agg #[.bool r1a.lo.m.Neg,.slice A0d (sz r1a.lo.m.Abs) c1d,.int .i64 r1a.lo.e,.bool r1a.hi.m.Neg,.slice A2d (sz r1a.hi.m.Abs) c3d,.int .i64 r1a.hi.e],.int .i64 x2]) Qk (by rfl) (by rfl)) (LI r0a r1a x2 A5c c6c A7c c8c A0d c1d A2d c3d w6a (tbx X4d hT) (n8f.ext E7a) (n9f.ext E7a) n4g n5g (.error r5d) h2e) fun w8a E9a=>?_
    have X1l:=xtr X4d E9a
    have q2l:=(((((((q7b.ext E0b).ext E3a).ext E2a).ext E5a).ext E1b).ext E2b).ext E7a).ext E9a
    have q3l:=((((((q3b.ext E3a).ext E2a).ext E5a).ext E1b).ext E2b).ext E7a).ext E9a
    refine JP Jj (CU b5b b9b (.bool false:Value) (.slice none 0 0:Value) (.int .i64 0:Value) (.bool false:Value) (.slice none 0 0:Value) (.int .i64 0:Value) (.int .i64 0:Value) r5d q2l q3l) rfl ?_
    rintro w9 ⟨u9,q9,q9'⟩
    obtain rfl:=sj hr0
    exact ⟨_,(Res.cellN rfl DE q9 rfl rfl (Res.cell1 rfl Dy (Bx.cell q9' rfl) Res.nil)),Aj (u9.toExt X1l g8b g0c) ⟨none,0,none,0,rfl,RU.nil _,RU.nil _⟩⟩
  ·refine scP (Ad Lh (by rfl)) (GT x2 w6 (tbx X2c hT)  (.error r3c) h0e) fun w7 E5a=>?_
   have X4l:=xtr X2c E5a
   have q5l:=(((q7b.ext E0b).ext E3a).ext E2a).ext E5a
   have q6l:=((q3b.ext E3a).ext E2a).ext E5a
   refine JP Jj (CU b5b b9b (.bool false:Value) (.slice none 0 0:Value) (.int .i64 0:Value) (.bool false:Value) (.slice none 0 0:Value) (.int .i64 0:Value) (.int .i64 0:Value) r3c q5l q6l) rfl ?_
   rintro w9 ⟨u9,q9,q9'⟩
   obtain rfl:=sj hr0
   exact ⟨_,(Res.cellN rfl DE q9 rfl rfl (Res.cell1 rfl Dy (Bx.cell q9' rfl) Res.nil)),Aj (u9.toExt X4l g8b g0c) ⟨none,0,none,0,rfl,RU.nil _,RU.nil _⟩⟩
 ·refine scP (Ad Mq (by rfl)) (FM x0 x1 b2f A1 c2 A4 c5 A7 c8 A6a c8a w5 (tbx X4a hT) (n3.ext X4a) (n6.ext X4a) (n9.ext X4a) (n4b.ext X4a) q3f (.error r1c) h9d) fun w6 E2a=>?_
  have X7l:=xtr X4a E2a
  have q8l:=((q7b.ext E0b).ext E3a).ext E2a
  refine JP Jj (CU b5b b9b (.bool false:Value) (.slice none 0 0:Value) (.int .i64 0:Value) (.bool false:Value) (.slice none 0 0:Value) (.int .i64 0:Value) (.int .i64 0:Value) r1c q8l ((q3b.ext E3a).ext E2a)) rfl ?_
  rintro w9 ⟨u9,q9,q9'⟩
  obtain rfl:=sj hr0
  exact ⟨_,(Res.cellN rfl DE q9 rfl rfl (Res.cell1 rfl Dy (Bx.cell q9' rfl) Res.nil)),Aj (u9.toExt X7l g8b g0c) ⟨none,0,none,0,rfl,RU.nil _,RU.nil _⟩⟩
theorem MF (x0:AO) (x1:AO) (x2:Int) (A1:Option Addr) (c2:Nat) (A4:Option Addr) (c5:Nat) (A7:Option Addr) (c8:Nat) (A2a:Option Addr) (c3a:Nat) (w:World) (hT:TB w) (n3:RLu w A1 c2 x0.Lo.Man.Abs) (n6:RLu w A4 c5 x0.Hi.Man.Abs) (n9:RLu w A7 c8 x1.Lo.Man.Abs) (n0b:RLu w A2a c3a x1.Hi.Man.Abs) (r:AI × Int) (hr:JV x0 x1 x2=some r) :
  Calls Tryz.prog 21 #[.agg #[.bool x0.Lo.Man.Neg,.slice A1 x0.Lo.Man.Abs.length c2,.int .i64 x0.Lo.Exp,.bool x0.Hi.Man.Neg,.slice A4 x0.Hi.Man.Abs.length c5,.int .i64 x0.Hi.Exp],.agg #[.bool x1.Lo.Man.Neg,.slice A7 x1.Lo.Man.Abs.length c8,.int .i64 x1.Lo.Exp,.bool x1.Hi.Man.Neg,.slice A2a x1.Hi.Man.Abs.length c3a,.int .i64 x1.Hi.Exp],.int .i64 x2] w (Ret Jy w r):=by
 unfold JV at hr
 go_enter Tryz.func21,Tryz.ntmps21
 refine wp_seq_k fun _ h1b=>Ae<|Bu rfl rfl fun b2d w1 E7a g3d q2b=>?_
 refine nrm ?_
 refine Bu rfl rfl fun b4d w2 E8a g3b q4b=>?_
 refine nrm ?_
 have g5d:=nlt E7a.size g3b
 have X9a:=xtr E7a E8a
 refine AA Ii fun b6d w3 E4a g5b q5a=>?_
 refine nrm ?_
 have g6b:=nlt X9a.size g5b
 have X0a:=xtr X9a E4a
 refine sV (Ac rfl) ?_
 refine wh h1b<|wp_seq_k fun _ h7b=>Ae<|sV3 (Al DE rfl ((q2b.ext E8a).ext E4a) rfl) (Al DE rfl (q4b.ext E4a) rfl) (Aa rfl) ?_
 obtain ⟨r8b,h9b,f0c⟩:=Ab hr
 refine sc (Ad Pj (by rfl)) (c_dyad_made_Span__dyad_Over_1 x0 x1 x2 A1 c2 A4 c5 A7 c8 A2a c3a w3 (tbx X0a hT) (n3.ext X0a) (n6.ext X0a) (n9.ext X0a) (n0b.ext X0a) r8b h9b) ?_
 rintro _ w4 E1a ⟨A1c,c2c,A3c,c4c,rfl,n5c,n6c⟩
 refine nrm ?_
 have X7c:=xtr X0a E1a
 refine sV2 (Av rfl rfl) (Av rfl rfl) ?_
 refine ss HJ (q5a.ext E1a) fun w5 U6a q8c=>?_
 have X9c:=belU X7c U6a g6b
 refine sV (Ac rfl) ?_
 refine wh h7b<|wp_ret ?_
 have n0d:=n5c.upd U6a (q5a.ext E1a) (by decide)
 have n1d:=n6c.upd U6a (q5a.ext E1a) (by decide)
 obtain rfl:=sj f0c
 exact fin rfl (Res.cellN rfl DE q8c rfl rfl (Res.tmp rfl Res.nil)) (Aj X9c ⟨A1c,c2c,A3c,c4c,rfl,n0d,n1d⟩)
theorem c_wide_Nat_Root (x0:Nat) (A1:Option Addr) (c2:Nat) (w:World) (hT:TB w) (n3:RU w A1 c2 x0) (r:Nat × Nat) (hr:Ji x0=some r) :
  Calls Tryz.prog 190 #[.slice A1 (sz x0) c2] w (Ret MI w r):=by
 unfold Ji at hr
 go_enter Tryz.func190,Tryz.ntmps190
 refine wp_seq_k fun _ h4=>Ae<|sV2 (Ac rfl) (Ac rfl) ?_
 refine wh h4<|wp_seq_k fun _ h5=>wp_seq_k fun _ h6=>Ae<|sV2 (Aa rfl) (Ax Aq rfl) ?_
 refine sb (Bl rfl rfl) fun z7 hz7=>?_
 refine nrm ?_
 refine wh h6 ?_
 rcases zi hz7 hr with ⟨e9a,_,f6d⟩ | ⟨e9a,_,f7d⟩
 ·refine wp_cond_true (Ai (evb rfl e9a))<|wp_seq_k fun _ h8d=>Ae<|sV2 (Ac rfl) (Ac rfl) ?_
  refine wh h8d<|wp_ret ?_
  obtain rfl:=sj f6d
  exact fin rfl (Res.tmp rfl (Res.tmp rfl Res.nil)) (Aj (Ext.refl _) ⟨none,0,none,0,rfl,(RU.nil _),(RU.nil _)⟩)
 ·refine wp_cond_false (Ai (evb rfl e9a))<|wp_skip<|h5 _ _<|wp_seq_k fun _ h9d=>Ae<|Cv (vals:=[(0,.int .u32 1)]) (cs:=[.int .u32 1]) Aq An Ge (by rfl) (by decide) (by kernel_rfl) fun b0e w1 E0b g8i q1e=>?_
  refine nrm ?_
  have n2e:=RL.lit1 q1e (by decide)
  refine sV (Aa rfl) ?_
  obtain ⟨r8a,h3e,f4e⟩:=Ab f7d
  refine sc (Ad ME (by rfl)) (EF x0 A1 c2 w1 (tbx E0b hT) (n3.ext E0b) r8a h3e) ?_
  rintro _ w2 E6b rfl
  refine nrm ?_
  have X7b:=xtr E0b E6b
  refine sV2 (AM (c:=wi64 (r8a+1)) rfl rfl rfl) (Hj (c:=wi64 ((wi64 (r8a+1)).tdiv 2)) (by decide) rfl rfl rfl) ?_
  obtain ⟨r8b,h5e,f32⟩:=Ab f4e
  refine sc (Ad KG (by rfl)) (DT 1 (wi64 ((wi64 (r8a+1)).tdiv 2)) (some ⟨b0e,0,none⟩) 1 w2 (tbx X7b hT) (n2e.ext E6b) r8b h5e) ?_
  rintro _ w3 E6e ⟨A7e,c8e,rfl,n9e⟩
  refine nrm ?_
  have X0f:=xtr X7b E6e
  refine sV (Ac rfl) ?_
  refine wh h9d ?_
  apply wp_block
  refine AP (fun l n9b l' w'=>∃(v0a:Nat) (A1a:Option Addr) (c2a:Nat),Ext w3 w'∧RU w' A1a c2a v0a∧Hw x0 n9b v0a=some r∧Fr l' (fun t1b=>.slice A1 (sz x0) c2::gp t1b 1 3 (.slice A1a (sz v0a) c2a::gp t1b 5 33 []))) 18446744073709551616 ?_ ?_ ?_
  ·exact ⟨r8b,A7e,c8e,(Ext.refl _),n9e,f32,(Fr.mk (by kernel_rfl))⟩
  ·rintro l' w' ⟨v0a,A1a,c2a,_,_,hz,_⟩
   exact nomatch hz
  ·rintro n9b ih1f _ w4 ⟨v0a,A1a,c2a,U0c,n4a,hr1c,⟨t1b,rfl⟩⟩ l'' hl
   simp only [gp,Nat.reduceAdd] at hl
   subst hl
   unfold Hw at hr1c
   refine AV ?_
   have X2b:=xtr X0f U0c
   apply wp_block
   refine wp_seq_k fun _ h2f=>Ae<|sV2 (Aa rfl) (Aa rfl) ?_
   obtain ⟨r2c,h3f,f4f⟩:=Ab hr1c
   refine sc (Ad QQ (by rfl)) (Iy x0 v0a A1 c2 A1a c2a w4 (tbx X2b hT) (n3.ext X2b) n4a r2c h3f) ?_
   rintro _ w5 E3a ⟨A5f,c6f,A9i,c0j,rfl,n7f,n1j⟩
   refine nrm ?_
   have X3c:=xtr X2b E3a
   refine sV3 (Aa rfl) (Av rfl rfl) (Av rfl rfl) ?_
   refine sV2 (Ac rfl) (Ac rfl) ?_
   refine wh h2f<|wp_seq_k fun _ h8f=>Ae<|sV2 (Aa rfl) (Aa rfl) ?_
   obtain ⟨r4c,h9f,f0g⟩:=Ab f4f
   refine sc (Ad Ph (by rfl)) (HB v0a r2c.1 A1a c2a A5f c6f w5 (tbx X3c hT) (n4a.ext E3a) n7f r4c h9f) ?_
   rintro _ w6 E5a ⟨A1g,c2g,rfl,n3g⟩
   refine nrm ?_
   have X5c:=xtr X3c E5a
   obtain ⟨r3b,h4g,f5g⟩:=Ab f0g
   refine sc (Ad MV (by rfl)) (GG r4c 1 A1g c2g w6 (tbx X5c hT) n3g r3b h4g) ?_
   rintro _ w7 E6a ⟨A6c,c7c,rfl,n8c⟩
   refine nrm ?_
   have X9c:=xtr X5c E6a
   refine sV (Ac rfl) ?_
   refine wh h8f<|wp_seq_k fun _ h6g=>wp_seq_k fun _ h7g=>Ae<|sV2 (Aa rfl) (Aa rfl) ?_
   have n8g:=((n4a.ext E3a).ext E5a).ext E6a
   obtain ⟨r9g,h0h,f1h⟩:=Ab f5g
   refine sc (Ad Nd (by rfl)) (GF r3b v0a A6c c7c A1a c2a w7 (tbx X9c hT) n8c n8g r9g h0h) ?_
   rintro _ w8 E7a rfl
   refine nrm ?_
   have X0d:=xtr X9c E7a
   refine sb (Fu rfl rfl) fun z1d hz1d=>?_
   refine nrm ?_
   refine wh h7g ?_
   rcases zi hz1d f1h with ⟨e4b,_,f2h⟩ | ⟨e4b,_,f3h⟩
   ·refine wp_cond_true (Ai (evb rfl e4b))<|wp_seq_k fun _ h4h=>Ae<|sV3 (Aa rfl) (Aa rfl) (Aa rfl) ?_
    refine sV (Aa rfl) ?_
    have n2d:=(((n4a.ext E3a).ext E5a).ext E6a).ext E7a
    obtain ⟨r3d,h5h,f6h⟩:=Ab f2h
    refine sc (Ad QI (by rfl)) (Iv v0a v0a A1a c2a A1a c2a w8 (tbx X0d hT) n2d n2d r3d h5h) ?_
    rintro _ w9 E4d ⟨A7h,c8h,rfl,n9h⟩
    refine nrm ?_
    have X5b:=xtr X0d E4d
    obtain ⟨r0i,h1i,f2i⟩:=Ab f6h
    refine sc (Ad NL (by rfl)) (GM x0 r3d A1 c2 A7h c8h w9 (tbx X5b hT) (n3.ext X5b) n9h r0i h1i) ?_
    rintro _ w2j E5d ⟨A3i,c4i,rfl,n5i⟩
    refine nrm ?_
    have X6i:=xtr X5b E5d
    refine sV2 (Ac rfl) (Ac rfl) ?_
    refine wh h4h<|wp_ret ?_
    have n7i:=(((((n4a.ext E3a).ext E5a).ext E6a).ext E7a).ext E4d).ext E5d
    obtain rfl:=sj f2i
    exact fin rfl (Res.tmp rfl (Res.tmp rfl Res.nil)) (Aj X6i ⟨A1a,c2a,A3i,c4i,rfl,n7i,n5i⟩)
   ·refine wp_cond_false (Ai (evb rfl e4b))<|wp_skip<|h6g _ _<|Ae<|sV2 (Aa rfl) (Ac rfl) ?_
    refine AG ?_
    exact ih1f _ _ ⟨r3b,A6c,c7c,((((U0c.trans E3a).trans E5a).trans E6a).trans E7a),(n8c.ext E7a),f3h,(Fr.mk (by kernel_rfl))⟩
theorem ML (x0:Am) (x1:Int) (x2:Int) (A1:Option Addr) (c2:Nat) (w:World) (hT:TB w) (n3:RU w A1 c2 x0.m.Abs) (r:Am) (hr:JU x0 x1 x2=some r) :
  Calls Tryz.prog 111 #[.agg #[.bool x0.m.Neg,.slice A1 (sz x0.m.Abs) c2,.int .i64 x0.e],.int .i64 x1,.int .i64 x2] w (Ret IS w r):=by
 unfold JU at hr
 go_enter Tryz.func111,Tryz.ntmps111
 refine wp_seq_k fun _ h4=>Ae<|Bu rfl rfl fun b5 w1 E6 g7 q8=>?_
 refine nrm ?_
 refine AA Bn fun b9 w2 E3a g8c q6b=>?_
 refine nrm ?_
 have g7b:=nlt E6.size g8c
 have X9a:=xtr E6 E3a
 refine wh h4<|wp_seq_k fun _ h9c=>wp_seq_k fun _ h0d=>Ae<|sV (Al AN rfl (q8.ext E3a) rfl) ?_
 obtain ⟨r1d,h2d,f3d⟩:=Ab hr
 refine sc (Ad Kz (by rfl)) (DZ x0 A1 c2 w2 (tbx X9a hT) (n3.ext X9a) r1d h2d) ?_
 rintro _ w3 E1a rfl
 refine nrm ?_
 have X8a:=xtr X9a E1a
 refine sb (Bl rfl rfl) fun z8b hz8b=>?_
 refine nrm ?_
 refine wh h0d ?_
 rcases zi hz8b f3d with ⟨e0b,_,f4d⟩ | ⟨e0b,_,f5d⟩
 ·refine wp_cond_true (Ai (evb rfl e0b))<|wp_seq_k fun _ h6d=>Ae<|sV (Bb (vals:=[]) (cells:=[.bool false,.slice none 0 0,.int .i64 0]) (by rfl) (by kernel_rfl)) ?_
  refine ss CL (q6b.ext E1a) fun w4 U7d q8d=>?_
  have X9d:=belU X8a U7d g7b
  refine wh h6d<|wp_ret ?_
  obtain rfl:=sj f4d
  exact fin rfl (Res.cellN rfl AN q8d rfl rfl Res.nil) (Aj X9d ⟨none,0,rfl,(RU.nil _)⟩)
 ·refine wp_cond_false (Ai (evb rfl e0b))<|wp_skip<|h9c _ _<|wp_seq_k fun _ h0e=>Ae<|sV3 (Aa rfl) (Jq (c:=wi64 (2*x1)) rfl rfl rfl) (AM (c:=wi64 ((wi64 (2*x1))+4)) rfl rfl rfl) ?_
  refine sV3 (Ag (o':=0) CB rfl rfl) (Ag (o':=1) BF rfl rfl) (Af DI rfl (Bx.cell ((q8.ext E3a).ext E1a) rfl)) ?_
  obtain ⟨r4a,h1e,f2e⟩:=Ab f5d
  refine sc (Ad ME (by rfl)) (EF x0.m.Abs A1 c2 w3 (tbx X8a hT) (n3.ext X8a) r4a h1e) ?_
  rintro _ w4 E5a rfl
  refine nrm ?_
  have X1b:=xtr X8a E5a
  refine sV3 (Ba (c:=wi64 ((wi64 ((wi64 (2*x1))+4)) - r4a)) rfl rfl rfl) (Nm rfl rfl) (Ac rfl) ?_
  refine wh h0e<|wp_seq_k fun _ h3e=>wp_seq_k fun _ h4e=>Ae<|sV3 (Ag (o':=2) Ef rfl rfl) (Af EN rfl (Bx.cell (((q8.ext E3a).ext E1a).ext E5a) rfl)) (Aa rfl) ?_
  refine sV2 (Ba (c:=wi64 (x0.e - (max 0 (wi64 ((wi64 ((wi64 (2*x1))+4)) - r4a))))) rfl rfl rfl) (OE (k:=.i64) rfl rfl) ?_
  refine sb (HT rfl rfl) fun z9b hz9b=>?_
  refine nrm ?_
  refine wh h4e ?_
  obtain ⟨m2a,h5e,f6e⟩:=Ab f2e
  refine BX (fun l l' w'=>∃(t0c:Value) (t1c:Value),w4=w'∧l'=(((l.set 7 (.int .i64 m2a)).set 29 t0c).set 30 t1c)) ?_ ?_
  ·rcases zi hz9b h5e with ⟨e2b,_,f7e⟩ | ⟨e2b,_,f8e⟩
   ·refine wp_cond_true (Ai (evb rfl e2b))<|Ae<|sV3 (Aa rfl) (AM (c:=wi64 ((max 0 (wi64 ((wi64 ((wi64 (2*x1))+4)) - r4a)))+1)) rfl rfl rfl) (Ac rfl) ?_
    refine AG ?_
    obtain rfl:=sj f7e
    exact ⟨_,rfl,(.int .i64 (max 0 (wi64 ((wi64 ((wi64 (2*x1))+4)) - r4a)))),(.int .i64 (wi64 ((max 0 (wi64 ((wi64 ((wi64 (2*x1))+4)) - r4a)))+1))),rfl,(by simp only [S0,S1]<;>rfl)⟩
   ·refine wp_cond_false (Ai (evb rfl e2b))<|wp_skip ?_
    obtain rfl:=sj f8e
    exact ⟨_,rfl,uu,uu,rfl,(by simp only [S0,S1]<;>rfl)⟩
  ·rintro l' _ ⟨t0c,t1c,rfl,hq'⟩ l'' hl
   rw [hq'] at hl
   clear hq'
   simp only [S0,S1] at hl
   subst hl
   refine h3e _ _<|wp_seq_k fun _ h9e=>Ae<|sV3 (Ag (o':=0) CB rfl rfl) (Ag (o':=1) BF rfl rfl) (Af DI rfl (Bx.cell (((q8.ext E3a).ext E1a).ext E5a) rfl)) ?_
   refine sV (Aa rfl) ?_
   obtain ⟨r2c,h0f,f1f⟩:=Ab f6e
   refine sc (Ad KG (by rfl)) (DT x0.m.Abs m2a A1 c2 w4 (tbx X1b hT) (n3.ext X1b) r2c h0f) ?_
   rintro _ w5 E3b ⟨A2f,c3f,rfl,n4f⟩
   refine nrm ?_
   have X3c:=xtr X1b E3b
   obtain ⟨r0a,h5f,f6f⟩:=Ab f1f
   refine sc (Ad en_190 (by rfl)) (c_wide_Nat_Root r2c A2f c3f w5 (tbx X3c hT) n4f r0a h5f) ?_
   rintro _ w6 E4b ⟨A6a,c7a,A9g,c0h,rfl,n7f,n1h⟩
   refine nrm ?_
   have X4c:=xtr X3c E4b
   refine sV3 (Aa rfl) (Av rfl rfl) (Av rfl rfl) ?_
   refine sV2 (Ac rfl) (Ac rfl) ?_
   refine wh h9e<|wp_seq_k fun _ h8f=>Ae<|sV2 (Aa rfl) (Bb (vals:=[(1,.slice A6a (sz r0a.1) c7a)]) (cells:=[.bool false,.slice A6a (sz r0a.1) c7a]) (by rfl) (by kernel_rfl)) ?_
   refine sV (Ag (o':=2) Ef rfl rfl) ?_
   have q9f:=((((q8.ext E3a).ext E1a).ext E5a).ext E3b).ext E4b
   refine sV3 (Af EN rfl (Bx.cell q9f rfl)) (Aa rfl) (Ba (c:=wi64 (x0.e - m2a)) rfl rfl rfl) ?_
   refine sV (Hj (c:=wi64 ((wi64 (x0.e - m2a)).tdiv 2)) (by decide) rfl rfl rfl) ?_
   refine sV (Bb (vals:=[(0,.agg #[.bool false,.slice A6a (sz r0a.1) c7a]),(1,.int .i64 (wi64 ((wi64 (x0.e - m2a)).tdiv 2)))]) (cells:=[.bool false,.slice A6a (sz r0a.1) c7a,.int .i64 (wi64 ((wi64 (x0.e - m2a)).tdiv 2))]) (by rfl) (by kernel_rfl)) ?_
   refine sV3 (Aa rfl) (Aa rfl) (Aa rfl) ?_
   refine sV (Ax Aq rfl) ?_
   refine sb (EX rfl rfl) fun z5b hz5b=>?_
   refine nrm ?_
   obtain rfl:z5b=decide (0<(sz r0a.2:Int)):=bz hz5b
   obtain ⟨r0g,h1g,f2g⟩:=Ab f6f
   refine sc (Ad Ni (by rfl)) (GO (⟨(⟨false,r0a.1⟩:Ah),(wi64 ((wi64 (x0.e - m2a)).tdiv 2))⟩:Am) x1 x2 (decide (0<(sz r0a.2:Int))) A6a c7a w6 (tbx X4c hT) n7f r0g h1g) ?_
   rintro _ w7 E5c ⟨A3g,c4g,rfl,n5g⟩
   refine nrm ?_
   have X6g:=xtr X4c E5c
   have q6c:=((((q6b.ext E1a).ext E5a).ext E3b).ext E4b).ext E5c
   refine ss CL q6c fun w8 U7c q7g=>?_
   have X8g:=belU X6g U7c g7b
   refine wh h8f<|wp_ret ?_
   obtain rfl:=sj f2g
   exact fin rfl (Res.cellN rfl AN q7g rfl rfl Res.nil) (Aj X8g ⟨A3g,c4g,rfl,(n5g.upd U7c q6c (by decide))⟩)
theorem LD (x0:AB) (x1:AB) (x2:Int) (A1:Option Addr) (c2:Nat) (A4:Option Addr) (c5:Nat) (A7:Option Addr) (c8:Nat) (A6b:Option Addr) (c0d:Nat) (w:World) (hT:TB w) (n3:RU w A1 c2 x0.lo.m.Abs) (n6:RU w A4 c5 x0.hi.m.Abs) (n9:RU w A7 c8 x1.lo.m.Abs) (n4g:RU w A6b c0d x1.hi.m.Abs) (r:Except Int (AI)) (hr:Kd x0 x1 x2=some r) :
  Calls Tryz.prog 110 #[.agg #[.bool x0.lo.m.Neg,.slice A1 (sz x0.lo.m.Abs) c2,.int .i64 x0.lo.e,.bool x0.hi.m.Neg,.slice A4 (sz x0.hi.m.Abs) c5,.int .i64 x0.hi.e],.agg #[.bool x1.lo.m.Neg,.slice A7 (sz x1.lo.m.Abs) c8,.int .i64 x1.lo.e,.bool x1.hi.m.Neg,.slice A6b (sz x1.hi.m.Abs) c0d,.int .i64 x1.hi.e],.int .i64 x2] w (RetE 201 Nr w r):=by
 unfold Kd at hr
 go_enter Tryz.func110,Tryz.ntmps110
 refine wp_seq_k fun _ h5d=>Ae<|Bu rfl rfl fun b5g w1 E1d g6g q7b=>?_
 refine nrm ?_
 refine Bu rfl rfl fun b7g w2 E5a g6d q8g=>?_
 refine nrm ?_
 have g9g:=nlt E1d.size g6d
 have X2d:=xtr E1d E5a
 refine AA Ii fun b0h w3 E6a g7d q8d=>?_
 refine nrm ?_
 have g9d:=nlt X2d.size g7d
 have X8b:=xtr X2d E6a
 refine wh h5d<|wp_seq_k fun _ h0e=>Ae<|sV2 (Ag (o':=0) Fh rfl rfl) (AL AN rfl ((q7b.ext E5a).ext E6a) (by simp only [List.drop_zero,List.take_succ_cons,List.take_zero];rfl) rfl) ?_
 obtain ⟨r7a,h1e,f2e⟩:=Ab hr
 refine sc (Ad Kz (by rfl)) (DZ x0.lo A1 c2 w3 (tbx X8b hT) (n3.ext X8b) r7a h1e) ?_
 rintro _ w4 E8a rfl
 refine nrm ?_
 have X9a:=xtr X8b E8a
 refine sb (Fu rfl rfl) fun z9b hz9b=>?_
 refine nrm ?_
 obtain rfl:z9b=decide (0≤r7a):=bz hz9b
 rcases AR f2e with ⟨r0c,h1c,f3e⟩ | ⟨r0c,h1c,rfl⟩
 ·refine scO (Ad EI (by rfl)) (Bh (decide (0≤r7a)) 3 w4 (tbx X9a hT)  (.ok r0c) h1c) ?_
  rintro _ w5 E2a rfl
  refine nrm ?_
  have X4e:=xtr X9a E2a
  refine wh h0e<|wp_seq_k fun _ h5e=>Dn [10] 11 mo rfl fun w6 E0b S2c=>have X3c:=xtr X4e E0b;dA 0 rfl (fun _=>Ag (o':=0) Fh rfl rfl) ?_
  refine dV 1 rfl (fun _ hw=>AL AN rfl ((((((q7b.ext E5a).ext E6a).ext E8a).ext E2a).ext E0b).ext hw) (by simp only [List.drop_zero,List.take_succ_cons,List.take_zero];rfl) rfl) S2c ?_
  refine dA 2 rfl (fun _=>Aa rfl) ?_
  refine dA 4 rfl (fun _=>Ag (o':=3) Fw rfl rfl) ?_
  refine dV 5 rfl (fun _ hw=>AL AN rfl ((((((q7b.ext E5a).ext E6a).ext E8a).ext E2a).ext E0b).ext hw) (by simp only [List.drop_succ_cons,List.drop_zero,List.take_succ_cons,List.take_zero];rfl) rfl) S2c ?_
  refine dA 6 rfl (fun _=>Aa rfl) ?_
  obtain ⟨r0a,h6e,f7e⟩:=Ab f3e
  refine dc 3 rfl (by kernel_rfl) (by rfl) (Ad QF (by rfl)) (ML x0.lo x2 5 A1 c2 w6 (tbx X3c hT) (n3.ext X3c) r0a h6e) ?_
  rintro _ w7 E4c ⟨A1b,c2b,rfl,n3d⟩
  refine dnrm ?_
  have X5c:=xtr X3c E4c
  have S8e:=S2c.trans E4c
  obtain ⟨r1a,h9e,f0f⟩:=Ab f7e
  refine dc 7 rfl (by kernel_rfl) (by rfl) (Ad QF (by rfl)) (ML x0.hi x2 4 A4 c5 w7 (tbx X5c hT) (n6.ext X5c) r1a h9e) ?_
  rintro _ w8 E3a ⟨A3b,c4b,rfl,n4d⟩
  refine dnrm ?_
  have X5b:=xtr X5c E3a
  have S1f:=S8e.trans E3a
  refine dA 8 rfl (fun _=>Bb (vals:=[(0,.agg #[.bool r0a.m.Neg,.slice A1b (sz r0a.m.Abs) c2b,.int .i64 r0a.e]),(1,.agg #[.bool r1a.m.Neg,.slice A3b (sz r1a.m.Abs) c4b,.int .i64 r1a.e])]) (cells:=[.bool r0a.m.Neg,.slice A1b (sz r0a.m.Abs) c2b,.int .i64 r0a.e,.bool r1a.m.Neg,.slice A3b (sz r1a.m.Abs) c4b,.int .i64 r1a.e]) (by rfl) (by kernel_rfl)) ?_
  rcases AR f0f with ⟨r6c,h7c,f2f⟩ | ⟨r6c,h7c,rfl⟩
  ·refine dcO 9 rfl (by kernel_rfl) (by rfl) (Ad Mv (by rfl)) (Gi (⟨r0a,r1a⟩:AB) A1b c2b A3b c4b w8 (tbx X5b hT) (n3d.ext E3a) n4d (.ok r6c) h7c) ?_
   rintro _ w9 E4a ⟨A3f,c4f,A5f,c6f,rfl,n7f,n8f⟩
   refine dnrm ?_
   have X9f:=xtr X5b E4a
   have S1h:=S1f.trans E4a
   have q8c:=(((((q8d.ext E8a).ext E2a).ext E0b).ext E4c).ext E3a).ext E4a
   refine dkk 10 HJ q8c fun w6b U9c q0g=>?_
   have X1g:=belU X9f U9c g9d
   refine Cn (by kernel_rfl) ?_
   refine h5e _ _<|wp_ret ?_
   obtain rfl:=sj f2f
   exact fin rfl (Res.cellN rfl DE q0g rfl rfl Res.nil) (EK X1g ⟨A3f,c4f,A5f,c6f,rfl,(n7f.upd U9c q8c (by decide)),(n8f.upd U9c q8c (by decide))⟩)
  ·refine dcP 9 rfl (by kernel_rfl) (by rfl) (Ad Mv (by rfl)) (Gi (⟨r0a,r1a⟩:AB) A1b c2b A3b c4b w8 (tbx X5b hT) (n3d.ext E3a) n4d (.error r6c) h7c) fun w9 E4a=>?_
   have X2g:=xtr X5b E4a
   exact ⟨rfl,Cw X2g⟩
 ·refine scP (Ad EI (by rfl)) (Bh (decide (0≤r7a)) 3 w4 (tbx X9a hT)  (.error r0c) h1c) fun w5 E2a=>?_
  have X3g:=xtr X9a E2a
  exact ⟨rfl,Cw X3g⟩
theorem c_dyad_made_Span__dyad_Root_1 (x0:AO) (x1:AO) (x2:Int) (A1:Option Addr) (c2:Nat) (A4:Option Addr) (c5:Nat) (A7:Option Addr) (c8:Nat) (A6a:Option Addr) (c8a:Nat) (w:World) (hT:TB w) (n3:RLu w A1 c2 x0.Lo.Man.Abs) (n6:RLu w A4 c5 x0.Hi.Man.Abs) (n9:RLu w A7 c8 x1.Lo.Man.Abs) (n4b:RLu w A6a c8a x1.Hi.Man.Abs) (r:AI × Int) (hr:Fk x0 x1 x2=some r) :
  Calls Tryz.prog 100 #[.agg #[.bool x0.Lo.Man.Neg,.slice A1 x0.Lo.Man.Abs.length c2,.int .i64 x0.Lo.Exp,.bool x0.Hi.Man.Neg,.slice A4 x0.Hi.Man.Abs.length c5,.int .i64 x0.Hi.Exp],.agg #[.bool x1.Lo.Man.Neg,.slice A7 x1.Lo.Man.Abs.length c8,.int .i64 x1.Lo.Exp,.bool x1.Hi.Man.Neg,.slice A6a x1.Hi.Man.Abs.length c8a,.int .i64 x1.Hi.Exp],.int .i64 x2,.func (.func 110) #[] #[]] w (Ret Jy w r):=by
 unfold Fk at hr
 obtain ⟨q0,hq0,hr0⟩:=Ab hr
 unfold GQ at hq0
 go_enter_defers Tryz.func100,Tryz.ntmps100
 refine wp_seq_k fun _ h4e=>Ae<|Bu rfl rfl fun b9l w1 E5e g0m q7g=>?_
 refine nrm ?_
 refine Bu rfl rfl fun b1m w2 E6e g8g q7e=>?_
 refine nrm ?_
 have g2m:=nlt E5e.size g8g
 have X8e:=xtr E5e E6e
 refine AA Ii fun b5b w3 E6b g9g q7b=>?_
 refine nrm ?_
 have g8b:=nlt X8e.size g9g
 have X9e:=xtr X8e E6b
 refine AA JM fun b9b w4 E0b g0h q3b=>?_
 refine nrm ?_
 have g0c:=nlt X9e.size g0h
 have X0f:=xtr X9e E0b
 refine wh h4e<|wp_seq_k fun _ h1h=>Ae<|Ic (vs:=[.pointer (some ⟨b5b,0,none⟩),.pointer (some ⟨b9b,0,none⟩)]) (by rfl) (by rfl)<|wh h1h<|wp_seq_k fun _ h2h=>Ae<|have q1f:=((q7g.ext E6e).ext E6b).ext E0b;sV2 (Al DE rfl q1f rfl) (Al DE rfl ((q7e.ext E6b).ext E0b) rfl) ?_
 refine Cv (vals:=[(0,.agg #[.bool x0.Lo.Man.Neg,.slice A1 x0.Lo.Man.Abs.length c2,.int .i64 x0.Lo.Exp,.bool x0.Hi.Man.Neg,.slice A4 x0.Hi.Man.Abs.length c5,.int .i64 x0.Hi.Exp]),(1,.agg #[.bool x1.Lo.Man.Neg,.slice A7 x1.Lo.Man.Abs.length c8,.int .i64 x1.Lo.Exp,.bool x1.Hi.Man.Neg,.slice A6a x1.Hi.Man.Abs.length c8a,.int .i64 x1.Hi.Exp])]) (cs:=[.bool x0.Lo.Man.Neg,.slice A1 x0.Lo.Man.Abs.length c2,.int .i64 x0.Lo.Exp,.bool x0.Hi.Man.Neg,.slice A4 x0.Hi.Man.Abs.length c5,.int .i64 x0.Hi.Exp,.bool x1.Lo.Man.Neg,.slice A7 x1.Lo.Man.Abs.length c8,.int .i64 x1.Lo.Exp,.bool x1.Hi.Man.Neg,.slice A6a x1.Hi.Man.Abs.length c8a,.int .i64 x1.Hi.Exp]) Mx HJ Ii (by rfl) (by decide) (by kernel_rfl) fun b2f w5 E3a g3h q3f=>?_
 refine nrm ?_
 have g3m:=nlt X0f.size g3h
 have X4a:=xtr X0f E3a
 rcases AR hq0 with ⟨r1c,h9d,f4h⟩ | ⟨r1c,h9d,rfl⟩
 ·refine scO (Ad Mq (by rfl)) (FM x0 x1 b2f A1 c2 A4 c5 A7 c8 A6a c8a w5 (tbx X4a hT) (n3.ext X4a) (n6.ext X4a) (n9.ext X4a) (n4b.ext X4a) q3f (.ok r1c) h9d) ?_
  rintro _ w6 E2a rfl
  refine nrm ?_
  have X2c:=xtr X4a E2a
  refine wh h2h<|wp_seq_k fun _ h5h=>Ae<|sV (Aa rfl) ?_
  rcases AR f4h with ⟨r3c,h0e,f6h⟩ | ⟨r3c,h0e,rfl⟩
  ·refine scO (Ad Lh (by rfl)) (GT x2 w6 (tbx X2c hT)  (.ok r3c) h0e) ?_
   rintro _ w7 E5a rfl
   refine nrm ?_
   have X7h:=xtr X2c E5a
   refine wh h5h<|wp_seq_k fun _ h8h=>Dn [7,8] 9 mo rfl fun w8 E1b S1e=>?_
   have X4c:=xtr X7h E1b
   refine dA 0 rfl (fun _=>Aa rfl) ?_ (hQ:=fun _ _ _ h=>dq (rs:=[.cell 8 29,.cell 9 33]) rfl (by decide) h)
   refine dV 1 rfl (fun _ hw=>Al DE rfl (((((q1f.ext E3a).ext E2a).ext E5a).ext E1b).ext hw) rfl) S1e ?_ (hQ:=fun _ _ _ h=>dq (rs:=[.cell 8 29,.cell 9 33]) rfl (by decide) h)
   refine dV 3 rfl (fun _ hw=>Al DE rfl (((((((q7e.ext E6b).ext E0b).ext E3a).ext E2a).ext E5a).ext E1b).ext hw) rfl) S1e ?_ (hQ:=fun _ _ _ h=>dq (rs:=[.cell 8 29,.cell 9 33]) rfl (by decide) h)
   refine dA 5 rfl (fun _=>Aa rfl) ?_ (hQ:=fun _ _ _ h=>dq (rs:=[.cell 8 29,.cell 9 33]) rfl (by decide) h)
   obtain ⟨m4f,h9h,f0i⟩:=Ab f6h
   have hx5f:=BO h9h
   have n1i:RU w8 A1 c2 m4f:=by unfold RU;rw [hx5f];exact (n3.ext X4c)
   obtain ⟨m6f,h2i,f3i⟩:=Ab f0i
   have hx7f:=BO h2i
   have n4i:RU w8 A4 c5 m6f:=by unfold RU;rw [hx7f];exact (n6.ext X4c)
   obtain ⟨r0a,h5i,f6i⟩:=Ab f3i
   refine dc 2 rfl (by kernel_rfl) (by rfl) (Ad MB (by simp only [sz,hx5f,hx7f];rfl)) (Hp (⟨(⟨(⟨x0.Lo.Man.Neg,m4f⟩:Ah),x0.Lo.Exp⟩:Ak),(⟨(⟨x0.Hi.Man.Neg,m6f⟩:Ah),x0.Hi.Exp⟩:Ak)⟩:AI) A1 c2 A4 c5 w8 (tbx X4c hT) n1i n4i r0a h5i) ?_
   rintro _ w9 E2b ⟨A5c,c6c,A7c,c8c,rfl,n8f,n9f⟩
   refine dnrm ?_
   have X9c:=xtr X4c E2b
   have S7i:=S1e.trans E2b
   obtain ⟨m0g,h8i,f9i⟩:=Ab f6i
   have hx1g:=BO h8i
   have n0j:RU w9 A7 c8 m0g:=by unfold RU;rw [hx1g];exact (n9.ext X9c)
   obtain ⟨m2g,h1j,f2j⟩:=Ab f9i
   have hx3g:=BO h1j
   have n3j:RU w9 A6a c8a m2g:=by unfold RU;rw [hx3g];exact (n4b.ext X9c)
   obtain ⟨r1a,h4j,f5j⟩:=Ab f2j
   refine dc 4 rfl (by kernel_rfl) (by rfl) (Ad MB (by simp only [sz,hx1g,hx3g];rfl)) (Hp (⟨(⟨(⟨x1.Lo.Man.Neg,m0g⟩:Ah),x1.Lo.Exp⟩:Ak),(⟨(⟨x1.Hi.Man.Neg,m2g⟩:Ah),x1.Hi.Exp⟩:Ak)⟩:AI) A7 c8 A6a c8a w9 (tbx X9c hT) n0j n3j r1a h4j) ?_
   rintro _ w6a E7a ⟨A0d,c1d,A2d,c3d,rfl,n4g,n5g⟩
   refine dnrm ?_
   have X4d:=xtr X9c E7a
   have S6j:=S7i.trans E7a
   rcases AR f5j with ⟨r5d,h2e,f7j⟩ | ⟨r5d,h2e,rfl⟩
   ·refine dcO 6 rfl (by kernel_rfl) (by rfl) (Gx (first:=[]) (cap:=[]) (args:=[.agg #[.bool r0a.lo.m.Neg,.slice A5c (sz r0a.lo.m.Abs) c6c,.int .i64 r0a.lo.e,.bool r0a.hi.m.Neg,.slice A7c (sz r0a.hi.m.Abs) c8c,.int .i64 r0a.hi.e],.agg #[.bool r1a.lo.m.Neg,.slice A0d (sz r1a.lo.m.Abs) c1d,.int .i64 r1a.lo.e,.bool r1a.hi.m.Neg,.slice A2d (sz r1a.hi.m.Abs) c3d,.int .i64 r1a.hi.e],.int .i64 x2]) Qx (by rfl) (by rfl)) (LD r0a r1a x2 A5c c6c A7c c8c A0d c1d A2d c3d w6a (tbx X4d hT) (n8f.ext E7a) (n9f.ext E7a) n4g n5g (.ok r5d) h2e) ?_
    rintro _ w8a E9a ⟨A8j,c9j,A0k,c1k,rfl,n2k,n3k⟩
    refine dnrm ?_
    have X4k:=xtr X4d E9a
    have S4m:=S6j.trans E9a
    have q6d:=(((((((q7b.ext E0b).ext E3a).ext E2a).ext E5a).ext E1b).ext E2b).ext E7a).ext E9a
    refine dkk 7 HJ q6d fun w4b U7d q5k=>?_
    have X6k:=belU X4k U7d g8b
    have ne6g:=(Bx.neT (((((((q3b.ext E3a).ext E2a).ext E5a).ext E1b).ext E2b).ext E7a).ext E9a) q6d (by decide))
    have q3e:=(((((((q3b.ext E3a).ext E2a).ext E5a).ext E1b).ext E2b).ext E7a).ext E9a).upd U7d ne6g
    refine dkk 8 HU q3e fun w4e U8d q7k=>?_
    have X8k:=belU X6k U8d g0c
    refine Cn (by kernel_rfl) ?_
    refine h8h _ _<|wp_ret ?_
    have n9k:=(n2k.upd U7d q6d (by decide)).upd U8d q3e (by decide)
    have n0l:=(n3k.upd U7d q6d (by decide)).upd U8d q3e (by decide)
    obtain rfl:=sj f7j
    obtain rfl:=sj hr0
    exact Nu Hs Jj rfl (Res.cellN rfl DE (q5k.upd U8d (Ne.symm ne6g)) rfl rfl (Res.cell1 rfl Dy (Bx.cell q7k rfl) Res.nil)) (Aj X8k ⟨A8j,c9j,A0k,c1k,rfl,n9k,n0l⟩)
   ·refine dcP 6 rfl (by kernel_rfl) (by rfl) (Gx (first:=[]) (cap:=[]) (args:=[.agg #[.bool r0a.lo.m.Neg,.slice A5c (sz r0a.lo.m.Abs) c6c,.int .i64 r0a.lo.e,.bool r0a.hi.m.Neg,.slice A7c (sz r0a.hi.m.Abs) c8c,.int .i64 r0a.hi.e],.agg #[.bool r1a.lo.m.Neg,.slice A0d (sz r1a.lo.m.Abs) c1d,.int .i64 r1a.lo.e,.bool r1a.hi.m.Neg,.slice A2d (sz r1a.hi.m.Abs) c3d,.int .i64 r1a.hi.e],.int .i64 x2]) Qx (by rfl) (by rfl)) (LD r0a r1a x2 A5c c6c A7c c8c A0d c1d A2d c3d w6a (tbx X4d hT) (n8f.ext E7a) (n9f.ext E7a) n4g n5g (.error r5d) h2e) fun w8a E9a=>?_
    have X1l:=xtr X4d E9a
    have q2l:=(((((((q7b.ext E0b).ext E3a).ext E2a).ext E5a).ext E1b).ext E2b).ext E7a).ext E9a
    have q3l:=((((((q3b.ext E3a).ext E2a).ext E5a).ext E1b).ext E2b).ext E7a).ext E9a
    refine JP Jj (CU b5b b9b (.bool false:Value) (.slice none 0 0:Value) (.int .i64 0:Value) (.bool false:Value) (.slice none 0 0:Value) (.int .i64 0:Value) (.int .i64 0:Value) r5d q2l q3l) rfl ?_
    rintro w9 ⟨u9,q9,q9'⟩
    obtain rfl:=sj hr0
    exact ⟨_,(Res.cellN rfl DE q9 rfl rfl (Res.cell1 rfl Dy (Bx.cell q9' rfl) Res.nil)),Aj (u9.toExt X1l g8b g0c) ⟨none,0,none,0,rfl,RU.nil _,RU.nil _⟩⟩
  ·refine scP (Ad Lh (by rfl)) (GT x2 w6 (tbx X2c hT)  (.error r3c) h0e) fun w7 E5a=>?_
   have X4l:=xtr X2c E5a
   have q5l:=(((q7b.ext E0b).ext E3a).ext E2a).ext E5a
   have q6l:=((q3b.ext E3a).ext E2a).ext E5a
   refine JP Jj (CU b5b b9b (.bool false:Value) (.slice none 0 0:Value) (.int .i64 0:Value) (.bool false:Value) (.slice none 0 0:Value) (.int .i64 0:Value) (.int .i64 0:Value) r3c q5l q6l) rfl ?_
   rintro w9 ⟨u9,q9,q9'⟩
   obtain rfl:=sj hr0
   exact ⟨_,(Res.cellN rfl DE q9 rfl rfl (Res.cell1 rfl Dy (Bx.cell q9' rfl) Res.nil)),Aj (u9.toExt X4l g8b g0c) ⟨none,0,none,0,rfl,RU.nil _,RU.nil _⟩⟩
 ·refine scP (Ad Mq (by rfl)) (FM x0 x1 b2f A1 c2 A4 c5 A7 c8 A6a c8a w5 (tbx X4a hT) (n3.ext X4a) (n6.ext X4a) (n9.ext X4a) (n4b.ext X4a) q3f (.error r1c) h9d) fun w6 E2a=>?_
  have X7l:=xtr X4a E2a
  have q8l:=((q7b.ext E0b).ext E3a).ext E2a
  refine JP Jj (CU b5b b9b (.bool false:Value) (.slice none 0 0:Value) (.int .i64 0:Value) (.bool false:Value) (.slice none 0 0:Value) (.int .i64 0:Value) (.int .i64 0:Value) r1c q8l ((q3b.ext E3a).ext E2a)) rfl ?_
  rintro w9 ⟨u9,q9,q9'⟩
  obtain rfl:=sj hr0
  exact ⟨_,(Res.cellN rfl DE q9 rfl rfl (Res.cell1 rfl Dy (Bx.cell q9' rfl) Res.nil)),Aj (u9.toExt X7l g8b g0c) ⟨none,0,none,0,rfl,RU.nil _,RU.nil _⟩⟩
theorem c_dyad_Root (x0:AO) (x1:Int) (A1:Option Addr) (c2:Nat) (A4:Option Addr) (c5:Nat) (w:World) (hT:TB w) (n3:RLu w A1 c2 x0.Lo.Man.Abs) (n6:RLu w A4 c5 x0.Hi.Man.Abs) (r:AI × Int) (hr:Lm x0 x1=some r) :
  Calls Tryz.prog 25 #[.agg #[.bool x0.Lo.Man.Neg,.slice A1 x0.Lo.Man.Abs.length c2,.int .i64 x0.Lo.Exp,.bool x0.Hi.Man.Neg,.slice A4 x0.Hi.Man.Abs.length c5,.int .i64 x0.Hi.Exp],.int .i64 x1] w (Ret Jy w r):=by
 unfold Lm at hr
 go_enter Tryz.func25,Tryz.ntmps25
 refine wp_seq_k fun _ h7=>Ae<|Bu rfl rfl fun b8 w1 E9 g3c q5a=>?_
 refine nrm ?_
 refine AA Ii fun b4c w2 E2a g6a q3a=>?_
 refine nrm ?_
 have g7a:=nlt E9.size g6a
 have X0a:=xtr E9 E2a
 refine sV (Ac rfl) ?_
 refine wh h7<|wp_seq_k fun _ h8a=>Ae<|sV3 (Al DE rfl (q5a.ext E2a) rfl) (Al DE rfl (q5a.ext E2a) rfl) (Aa rfl) ?_
 obtain ⟨r9a,h0b,f1b⟩:=Ab hr
 refine sc (Ad Pj (by rfl)) (c_dyad_made_Span__dyad_Root_1 x0 x0 x1 A1 c2 A4 c5 A1 c2 A4 c5 w2 (tbx X0a hT) (n3.ext X0a) (n6.ext X0a) (n3.ext X0a) (n6.ext X0a) r9a h0b) ?_
 rintro _ w3 E1a ⟨A2b,c3b,A4b,c5b,rfl,n6b,n7b⟩
 refine nrm ?_
 have X8b:=xtr X0a E1a
 refine sV2 (Av rfl rfl) (Av rfl rfl) ?_
 refine ss HJ (q3a.ext E1a) fun w4 U4a q9b=>?_
 have X0c:=belU X8b U4a g7a
 refine sV (Ac rfl) ?_
 refine wh h8a<|wp_ret ?_
 have n1c:=n6b.upd U4a (q3a.ext E1a) (by decide)
 have n2c:=n7b.upd U4a (q3a.ext E1a) (by decide)
 obtain rfl:=sj f1b
 exact fin rfl (Res.cellN rfl DE q9b rfl rfl (Res.tmp rfl Res.nil)) (Aj X0c ⟨A2b,c3b,A4b,c5b,rfl,n1c,n2c⟩)
set_option maxRecDepth 20000 in
theorem FZ (w:World) (hT:TB w) (r:Bool) (hr:Dg=some r) :
  Calls Tryz.prog 15 #[] w (Ret Gq w r):=by
 unfold Dg at hr
 refine Mp Tryz.func15 rfl [uu,uu,uu,uu,uu,uu,uu,uu,uu,uu,uu,uu,uu,uu,uu,uu,uu,uu,uu,uu,uu,uu,uu,uu,uu,uu,uu,uu,uu,uu,uu,uu,uu,uu,uu,uu,uu,uu,uu,uu,uu,uu,uu,uu,uu,uu,uu,uu,uu,uu,uu,uu,uu,uu,uu,uu,uu,uu,uu,uu,uu,uu,uu,uu,uu,uu,uu,uu,uu,uu,uu,uu,uu,uu,uu,uu,uu,uu,uu,uu,uu,uu,uu,uu,uu,uu,uu,uu,uu,uu,uu,uu,uu,uu,uu,uu,uu,uu,uu,uu,uu,uu,uu,uu,uu,uu,uu,uu,uu,uu,uu,uu,uu,uu,uu,uu,uu,uu,uu] (by kernel_rfl) ?_
 refine wp_seq_k fun _ h1=>Ae<|sV (Ac rfl) ?_
 refine wh h1<|wp_seq_k fun _ h2=>Ae ?_
 obtain ⟨r3,h4,f5⟩:=Ab hr
 refine sc (Ad Rh (by rfl)) (Jd 12 w hT  r3 h4) ?_
 rintro _ w1 E6 ⟨A7,c8,rfl,n9⟩
 refine nrm ?_
 obtain ⟨r0i,h3l,f1i⟩:=Ab f5
 refine sc (Ad en_60 (by rfl)) (c_dyad_Make (⟨r3.Neg,(limbs r3.Abs)⟩:AW) 3 A7 c8 w1 (tbx E6 hT) n9 r0i h3l) ?_
 rintro _ w2 E2i ⟨A3i,c4l,rfl,n5l⟩
 refine nrm ?_
 have X4i:=xtr E6 E2i
 refine sV3 (Aa rfl) (Av rfl rfl) (Av rfl rfl) ?_
 refine AA Hm fun b5e w3 E5i g4g q6i=>?_
 refine nrm ?_
 have g6l:=nlt X4i.size g4g
 refine ss FA q6i fun w4 U7i q8i=>?_
 have F5g:=belU E5i U7i g4g
 have X6g:=xtr X4i F5g
 refine sV (Ac rfl) ?_
 refine wh h2<|wp_seq_k fun _ h9i=>Ae ?_
 obtain ⟨r6e,h7l,f0j⟩:=Ab f1i
 refine sc (Ad KW (by rfl)) (BH 11 0 w4 (tbx X6g hT)  r6e h7l) ?_
 rintro _ w5 E7e ⟨A1j,c2j,rfl,n3j⟩
 refine nrm ?_
 have X4j:=xtr X6g E7e
 obtain ⟨r9d,h5j,f8l⟩:=Ab f0j
 refine sc (Ad Re (by rfl)) (Mf (⟨(⟨r6e.Man.Neg,(limbs r6e.Man.Abs)⟩:AW),r6e.Exp⟩:Ap) 3 1 A1j c2j w5 (tbx X4j hT) n3j r9d h5j) ?_
 rintro _ w6 E7g ⟨A6j,c9l,rfl,n0m⟩
 refine nrm ?_
 have X8g:=xtr X4j E7g
 refine sV3 (Aa rfl) (Av rfl rfl) (Av rfl rfl) ?_
 refine AA Hm fun b4u w7 E1m g9g q2m=>?_
 refine nrm ?_
 have g5u:=nlt X8g.size g9g
 refine ss FA q2m fun w8 U8e q7j=>?_
 have F0h:=belU E1m U8e g9g
 have X3m:=xtr X8g F0h
 refine sV (Ac rfl) ?_
 refine wh h9i<|wp_seq_k fun _ h6u=>Ae ?_
 obtain ⟨r1h,h7u,f8u⟩:=Ab f8l
 refine sc (Ad KW (by rfl)) (BH (-11) 0 w8 (tbx X3m hT)  r1h h7u) ?_
 rintro _ w9 E9e ⟨A9u,c0v,rfl,n1v⟩
 refine nrm ?_
 have X4m:=xtr X3m E9e
 obtain ⟨r0f,h2v,f3v⟩:=Ab f8u
 refine sc (Ad Re (by rfl)) (Mf (⟨(⟨r1h.Man.Neg,(limbs r1h.Man.Abs)⟩:AW),r1h.Exp⟩:Ap) 2 5 A9u c0v w9 (tbx X4m hT) n1v r0f h2v) ?_
 rintro _ w0i E1f ⟨A4v,c5v,rfl,n6v⟩
 refine nrm ?_
 have X5m:=xtr X4m E1f
 refine sV3 (Aa rfl) (Av rfl rfl) (Av rfl rfl) ?_
 refine AA Hm fun b3ak w3l E7v g6m q8v=>?_
 refine nrm ?_
 have g4ak:=nlt X5m.size g6m
 refine ss FA q8v fun w1i U9v q0w=>?_
 have F0e:=belU E7v U9v g6m
 have X7m:=xtr X5m F0e
 refine sV (Ac rfl) ?_
 refine wh h6u<|wp_seq_k fun _ h1w=>Ae ?_
 obtain ⟨r3c,h2w,f3w⟩:=Ab f3v
 refine sc (Ad MJ (by rfl)) (Dd (-1) 2 w1i (tbx X7m hT)  r3c h2w) ?_
 rintro _ w2i E4c ⟨A4w,c5w,A6w,c7w,rfl,n8w,n9w⟩
 refine nrm ?_
 have X8m:=xtr X7m E4c
 obtain ⟨r5c,h0x,f1x⟩:=Ab f3w
 refine sc (Ad MJ (by rfl)) (Dd (-3) 5 w2i (tbx X8m hT)  r5c h0x) ?_
 rintro _ w3i E7b ⟨A2x,c3x,A4x,c5x,rfl,n6x,n7x⟩
 refine nrm ?_
 have X9m:=xtr X8m E7b
 obtain ⟨r2f,h8x,f9x⟩:=Ab f1x
 refine sc (Ad en_32 (by rfl)) (c_dyad_Times (⟨(⟨(⟨r3c.Lo.Man.Neg,(limbs r3c.Lo.Man.Abs)⟩:AW),r3c.Lo.Exp⟩:Ap),(⟨(⟨r3c.Hi.Man.Neg,(limbs r3c.Hi.Man.Abs)⟩:AW),r3c.Hi.Exp⟩:Ap)⟩:AO) (⟨(⟨(⟨r5c.Lo.Man.Neg,(limbs r5c.Lo.Man.Abs)⟩:AW),r5c.Lo.Exp⟩:Ap),(⟨(⟨r5c.Hi.Man.Neg,(limbs r5c.Hi.Man.Abs)⟩:AW),r5c.Hi.Exp⟩:Ap)⟩:AO) 8 A4w c5w A6w c7w A2x c3x A4x c5x w3i (tbx X9m hT) (n8w.ext E7b) (n9w.ext E7b) n6x n7x r2f h8x) ?_
 rintro _ w4l E6c ⟨A0y,c1y,A2y,c3y,rfl,n4y,n5y⟩
 refine nrm ?_
 have X0n:=xtr X9m E6c
 refine sV3 (Aa rfl) (Av rfl rfl) (Av rfl rfl) ?_
 refine AA Ii fun b5ak w5l E6y g1n q7y=>?_
 refine nrm ?_
 have g6ak:=nlt X0n.size g1n
 refine ss HJ q7y fun w4i U8y q9y=>?_
 have F8b:=belU E6y U8y g1n
 have X0z:=xtr X0n F8b
 refine sV (Ac rfl) ?_
 refine wh h1w<|wp_seq_k fun _ h1z=>wp_seq_k fun _ h3f=>Dn [] 38 mo rfl fun w5e E5b S2n=>have X8j:=xtr X0z E5b;dA 0 rfl (fun _=>Aa rfl) ?_
 refine dab 1 rfl (by kernel_rfl) (fun _ _ _ h=>h) (by rfl) (fun _=>HT rfl rfl) fun z3n hz3n=>?_
 refine dnrm ?_
 refine dA 2 rfl (fun _=>Aa rfl) ?_
 obtain ⟨m2z,h3z,f4z⟩:=Ab f9x
 refine IN #[true,true,true,true,true,true,false,false,false,false,false,false,false,false,false,false,false,false,false,false,false,false,false,false,false,false,false,false,false,false,false,false,false,false,false,false,false,false] 32 (fun l l' w'=>∃(t4n:Value) (t5n:Value),w5e=w'∧l'=(((l.set 39 t4n).set 40 t5n).set 41 (.bool m2z))) ?_ ?_
 ·intro HJ144
  rcases zi hz3n h3z with ⟨e7c,_,f5z⟩ | ⟨e7c,_,f6z⟩
  ·refine dP 3 rfl ?_ (hw:=wgF rfl e7c)
   refine dP 4 rfl ?_ (hw:=wgF rfl e7c)
   refine dA 5 rfl (fun _=>Ar (evb rfl e7c) rfl) ?_
   obtain rfl:=sj f5z
   exact EL (by kernel_rfl) (HJ144 _ _ ⟨uu,uu,rfl,(by simp only [S0,S1]<;>rfl)⟩)
  ·refine dA 3 rfl (fun _=>Aa rfl) ?_ (hw:=wgT rfl e7c)
   refine dab 4 rfl (by kernel_rfl) (fun _ _ _ h=>h) (wgT rfl e7c) (fun _=>HT rfl rfl) fun z9j hz9j=>?_
   refine dnrm ?_
   refine dA 5 rfl (fun _=>Aw (evb rfl e7c) rfl) ?_
   obtain rfl:z9j=decide (¬r9d.2=0):=bz hz9j
   obtain rfl:=sj f6z
   exact EL (by kernel_rfl) (HJ144 _ _ ⟨(.int .i64 r9d.2),(.bool (decide (¬r9d.2=0))),rfl,(by simp only [S0,S1]<;>rfl)⟩)
 ·rintro l' _ ⟨t4n,t5n,rfl,hq'⟩ l'' hl
  rw [hq'] at hl
  clear hq'
  simp only [S0,S1] at hl
  subst hl
  refine dA 6 rfl (fun _=>Aa rfl) ?_
  obtain ⟨m7z,h8z,f9z⟩:=Ab f4z
  refine IN #[true,true,true,true,true,true,true,true,true,true,false,false,false,false,false,false,false,false,false,false,false,false,false,false,false,false,false,false,false,false,false,false,false,false,false,false,false,false] 28 (fun l l' w'=>∃(t6n:Value) (t7n:Value),w5e=w'∧l'=(((l.set 43 t6n).set 44 t7n).set 45 (.bool m7z))) ?_ ?_
  ·intro HJ163
   rcases zb h8z with ⟨e8c,f0a0⟩ | ⟨e8c,f1a0⟩
   ·refine dP 7 rfl ?_ (hw:=wgF rfl e8c)
    refine dP 8 rfl ?_ (hw:=wgF rfl e8c)
    refine dA 9 rfl (fun _=>Ar (evb rfl e8c) rfl) ?_
    obtain rfl:=sj f0a0
    exact EL (by kernel_rfl) (HJ163 _ _ ⟨uu,uu,rfl,(by simp only [S0,S1]<;>rfl)⟩)
   ·refine dA 7 rfl (fun _=>Aa rfl) ?_ (hw:=wgT rfl e8c)
    refine dab 8 rfl (by kernel_rfl) (fun _ _ _ h=>h) (wgT rfl e8c) (fun _=>HT rfl rfl) fun z0k hz0k=>?_
    refine dnrm ?_
    refine dA 9 rfl (fun _=>Aw (evb rfl e8c) rfl) ?_
    obtain rfl:z0k=decide (¬r0f.2=0):=bz hz0k
    obtain rfl:=sj f1a0
    exact EL (by kernel_rfl) (HJ163 _ _ ⟨(.int .i64 r0f.2),(.bool (decide (¬r0f.2=0))),rfl,(by simp only [S0,S1]<;>rfl)⟩)
  ·rintro l' _ ⟨t6n,t7n,rfl,hq'⟩ l'' hl
   rw [hq'] at hl
   clear hq'
   simp only [S0,S1] at hl
   subst hl
   refine dA 10 rfl (fun _=>Aa rfl) ?_
   obtain ⟨m2a0,h3a0,f4a0⟩:=Ab f9z
   refine IN #[true,true,true,true,true,true,true,true,true,true,true,true,true,true,false,false,false,false,false,false,false,false,false,false,false,false,false,false,false,false,false,false,false,false,false,false,false,false] 24 (fun l l' w'=>∃(t8n:Value) (t9n:Value),w5e=w'∧l'=(((l.set 47 t8n).set 48 t9n).set 49 (.bool m2a0))) ?_ ?_
   ·intro HJ182
    rcases zb h3a0 with ⟨e9c,f5a0⟩ | ⟨e9c,f6a0⟩
    ·refine dP 11 rfl ?_ (hw:=wgF rfl e9c)
     refine dP 12 rfl ?_ (hw:=wgF rfl e9c)
     refine dA 13 rfl (fun _=>Ar (evb rfl e9c) rfl) ?_
     obtain rfl:=sj f5a0
     exact EL (by kernel_rfl) (HJ182 _ _ ⟨uu,uu,rfl,(by simp only [S0,S1]<;>rfl)⟩)
    ·refine dA 11 rfl (fun _=>Aa rfl) ?_ (hw:=wgT rfl e9c)
     refine dab 12 rfl (by kernel_rfl) (fun _ _ _ h=>h) (wgT rfl e9c) (fun _=>HT rfl rfl) fun z1k hz1k=>?_
     refine dnrm ?_
     refine dA 13 rfl (fun _=>Aw (evb rfl e9c) rfl) ?_
     obtain rfl:z1k=decide (¬r2f.2=0):=bz hz1k
     obtain rfl:=sj f6a0
     exact EL (by kernel_rfl) (HJ182 _ _ ⟨(.int .i64 r2f.2),(.bool (decide (¬r2f.2=0))),rfl,(by simp only [S0,S1]<;>rfl)⟩)
   ·rintro l' _ ⟨t8n,t9n,rfl,hq'⟩ l'' hl
    rw [hq'] at hl
    clear hq'
    simp only [S0,S1] at hl
    subst hl
    refine dA 14 rfl (fun _=>Aa rfl) ?_
    rcases zb f4a0 with ⟨e9a,f7a0⟩ | ⟨e9a,f8a0⟩
    ·refine dP 15 rfl ?_ (hw:=wgF rfl e9a)
     refine dP 16 rfl ?_ (hw:=wgF rfl e9a)
     refine dP 17 rfl ?_ (hw:=wgF rfl e9a)
     refine dP 18 rfl ?_ (hw:=wgF rfl e9a)
     refine dA 19 rfl (fun _=>Ar (evb rfl e9a) rfl) ?_
     refine dA 20 rfl (fun _=>Aa rfl) ?_
     refine dP 21 rfl ?_ (hw:=wgF rfl rfl)
     refine dP 22 rfl ?_ (hw:=wgF rfl rfl)
     refine dP 23 rfl ?_ (hw:=wgF rfl rfl)
     refine dP 24 rfl ?_ (hw:=wgF rfl rfl)
     refine dA 25 rfl (fun _=>Ar (evb rfl rfl) rfl) ?_
     refine dA 26 rfl (fun _=>Aa rfl) ?_
     refine dP 27 rfl ?_ (hw:=wgF rfl rfl)
     refine dP 28 rfl ?_ (hw:=wgF rfl rfl)
     refine dP 29 rfl ?_ (hw:=wgF rfl rfl)
     refine dP 30 rfl ?_ (hw:=wgF rfl rfl)
     refine dA 31 rfl (fun _=>Ar (evb rfl rfl) rfl) ?_
     refine dA 32 rfl (fun _=>Aa rfl) ?_
     refine dP 33 rfl ?_ (hw:=wgF rfl rfl)
     refine dP 34 rfl ?_ (hw:=wgF rfl rfl)
     refine dP 35 rfl ?_ (hw:=wgF rfl rfl)
     refine dP 36 rfl ?_ (hw:=wgF rfl rfl)
     refine dA 37 rfl (fun _=>Ar (evb rfl rfl) rfl) ?_
     refine Cn (by kernel_rfl) ?_
     refine h3f _ _<|wp_cond_true (Ai (evb rfl rfl))<|wp_seq_k fun _ h9a0=>Ae<|sV (Ac rfl) ?_
     refine wh h9a0<|wp_ret ?_
     obtain rfl:=sj f7a0
     exact fin rfl (Res.tmp rfl Res.nil) (Aj X8j rfl)
    ·refine dV 15 rfl (fun _ hw=>Al Bt rfl ((((((((((((q8i.ext E7e).ext E7g).ext F0h).ext E9e).ext E1f).ext F0e).ext E4c).ext E7b).ext E6c).ext F8b).ext E5b).ext hw) rfl) S2n ?_ (hw:=wgT rfl e9a)
     obtain ⟨r0o,h0a1,f1a1⟩:=Ab f8a0
     refine dc 16 rfl (by kernel_rfl) (wgT rfl e9a) (Ad KW (by rfl)) (BH 3 5 w5e (tbx X8j hT)  r0o h0a1) ?_
     rintro _ w5i E0d ⟨A2a1,c3a1,rfl,n4a1⟩
     refine dnrm ?_
     have X1o:=xtr X8j E0d
     have S5a1:=S2n.trans E0d
     have n6a1:=((((((((((((n5l.ext F5g).ext E7e).ext E7g).ext F0h).ext E9e).ext E1f).ext F0e).ext E4c).ext E7b).ext E6c).ext F8b).ext E5b).ext E0d
     obtain ⟨r7a1,h8a1,f9a1⟩:=Ab f1a1
     refine dc 17 rfl (by kernel_rfl) (wgT rfl e9a) (Ad Ox (by rfl)) (FD r0i.1 r0o A3i c4l A2a1 c3a1 w5i (tbx X1o hT) n6a1 n4a1 r7a1 h8a1) ?_
     rintro _ w4g E1e rfl
     refine dnrm ?_
     have X2k:=xtr X1o E1e
     have S2o:=S5a1.trans E1e
     refine dab 18 rfl (by kernel_rfl) (fun _ _ _ h=>h) (wgT rfl e9a) (fun _=>Fv rfl) fun z3o hz3o=>?_
     refine dnrm ?_
     refine dA 19 rfl (fun _=>Aw (evb rfl e9a) rfl) ?_
     refine dA 20 rfl (fun _=>Aa rfl) ?_
     rcases zi hz3o f9a1 with ⟨e0b,_,f0a2⟩ | ⟨e0b,_,f1a2⟩
     ·refine dP 21 rfl ?_ (hw:=wgF rfl e0b)
      refine dP 22 rfl ?_ (hw:=wgF rfl e0b)
      refine dP 23 rfl ?_ (hw:=wgF rfl e0b)
      refine dP 24 rfl ?_ (hw:=wgF rfl e0b)
      refine dA 25 rfl (fun _=>Ar (evb rfl e0b) rfl) ?_
      refine dA 26 rfl (fun _=>Aa rfl) ?_
      refine dP 27 rfl ?_ (hw:=wgF rfl rfl)
      refine dP 28 rfl ?_ (hw:=wgF rfl rfl)
      refine dP 29 rfl ?_ (hw:=wgF rfl rfl)
      refine dP 30 rfl ?_ (hw:=wgF rfl rfl)
      refine dA 31 rfl (fun _=>Ar (evb rfl rfl) rfl) ?_
      refine dA 32 rfl (fun _=>Aa rfl) ?_
      refine dP 33 rfl ?_ (hw:=wgF rfl rfl)
      refine dP 34 rfl ?_ (hw:=wgF rfl rfl)
      refine dP 35 rfl ?_ (hw:=wgF rfl rfl)
      refine dP 36 rfl ?_ (hw:=wgF rfl rfl)
      refine dA 37 rfl (fun _=>Ar (evb rfl rfl) rfl) ?_
      refine Cn (by kernel_rfl) ?_
      refine h3f _ _<|wp_cond_true (Ai (evb rfl rfl))<|wp_seq_k fun _ h2a2=>Ae<|sV (Ac rfl) ?_
      refine wh h2a2<|wp_ret ?_
      obtain rfl:=sj f0a2
      exact fin rfl (Res.tmp rfl Res.nil) (Aj X2k rfl)
     ·refine dV 21 rfl (fun _ hw=>Al Bt rfl (((((((((q7j.ext E9e).ext E1f).ext F0e).ext E4c).ext E7b).ext E6c).ext F8b).ext E5b).ext hw) rfl) S2o ?_ (hw:=wgT rfl e0b)
      obtain ⟨r4o,h3a2,f4a2⟩:=Ab f1a2
      refine dc 22 rfl (by kernel_rfl) (wgT rfl e0b) (Ad KW (by rfl)) (BH 12 0 w4g (tbx X2k hT)  r4o h3a2) ?_
      rintro _ w6i E2e ⟨A5a2,c6a2,rfl,n7a2⟩
      refine dnrm ?_
      have X5o:=xtr X2k E2e
      have S8a2:=S2o.trans E2e
      have n9a2:=(((((((((((n0m.ext F0h).ext E9e).ext E1f).ext F0e).ext E4c).ext E7b).ext E6c).ext F8b).ext E5b).ext E0d).ext E1e).ext E2e
      obtain ⟨r0a3,h1a3,f2a3⟩:=Ab f4a2
      refine dc 23 rfl (by kernel_rfl) (wgT rfl e0b) (Ad Ox (by rfl)) (FD r9d.1 r4o A6j c9l A5a2 c6a2 w6i (tbx X5o hT) n9a2 n7a2 r0a3 h1a3) ?_
      rintro _ w6l E4f rfl
      refine dnrm ?_
      have X3k:=xtr X5o E4f
      have S6o:=S8a2.trans E4f
      refine dab 24 rfl (by kernel_rfl) (fun _ _ _ h=>h) (wgT rfl e0b) (fun _=>Fv rfl) fun z7o hz7o=>?_
      refine dnrm ?_
      refine dA 25 rfl (fun _=>Aw (evb rfl e0b) rfl) ?_
      refine dA 26 rfl (fun _=>Aa rfl) ?_
      rcases zi hz7o f2a3 with ⟨e1b,_,f3a3⟩ | ⟨e1b,_,f4a3⟩
      ·refine dP 27 rfl ?_ (hw:=wgF rfl e1b)
       refine dP 28 rfl ?_ (hw:=wgF rfl e1b)
       refine dP 29 rfl ?_ (hw:=wgF rfl e1b)
       refine dP 30 rfl ?_ (hw:=wgF rfl e1b)
       refine dA 31 rfl (fun _=>Ar (evb rfl e1b) rfl) ?_
       refine dA 32 rfl (fun _=>Aa rfl) ?_
       refine dP 33 rfl ?_ (hw:=wgF rfl rfl)
       refine dP 34 rfl ?_ (hw:=wgF rfl rfl)
       refine dP 35 rfl ?_ (hw:=wgF rfl rfl)
       refine dP 36 rfl ?_ (hw:=wgF rfl rfl)
       refine dA 37 rfl (fun _=>Ar (evb rfl rfl) rfl) ?_
       refine Cn (by kernel_rfl) ?_
       refine h3f _ _<|wp_cond_true (Ai (evb rfl rfl))<|wp_seq_k fun _ h5a3=>Ae<|sV (Ac rfl) ?_
       refine wh h5a3<|wp_ret ?_
       obtain rfl:=sj f3a3
       exact fin rfl (Res.tmp rfl Res.nil) (Aj X3k rfl)
      ·refine dV 27 rfl (fun _ hw=>Al Bt rfl ((((((q0w.ext E4c).ext E7b).ext E6c).ext F8b).ext E5b).ext hw) rfl) S6o ?_ (hw:=wgT rfl e1b)
       obtain ⟨r8o,h6a3,f7a3⟩:=Ab f4a3
       refine dc 28 rfl (by kernel_rfl) (wgT rfl e1b) (Ad KW (by rfl)) (BH (-12) 0 w6l (tbx X3k hT)  r8o h6a3) ?_
       rintro _ w8a3 E5f ⟨A9a3,c0a4,rfl,n1a4⟩
       refine dnrm ?_
       have X9o:=xtr X3k E5f
       have S2a4:=S6o.trans E5f
       have n3a4:=((((((((((n6v.ext F0e).ext E4c).ext E7b).ext E6c).ext F8b).ext E5b).ext E0d).ext E1e).ext E2e).ext E4f).ext E5f
       obtain ⟨r4a4,h5a4,f6a4⟩:=Ab f7a3
       refine dc 29 rfl (by kernel_rfl) (wgT rfl e1b) (Ad Ox (by rfl)) (FD r0f.1 r8o A4v c5v A9a3 c0a4 w8a3 (tbx X9o hT) n3a4 n1a4 r4a4 h5a4) ?_
       rintro _ w7i E2h rfl
       refine dnrm ?_
       have X4k:=xtr X9o E2h
       have S0p:=S2a4.trans E2h
       refine dab 30 rfl (by kernel_rfl) (fun _ _ _ h=>h) (wgT rfl e1b) (fun _=>Fv rfl) fun z1p hz1p=>?_
       refine dnrm ?_
       refine dA 31 rfl (fun _=>Aw (evb rfl e1b) rfl) ?_
       refine dA 32 rfl (fun _=>Aa rfl) ?_
       rcases zi hz1p f6a4 with ⟨e2b,_,f7a4⟩ | ⟨e2b,_,f8a4⟩
       ·refine dP 33 rfl ?_ (hw:=wgF rfl e2b)
        refine dP 34 rfl ?_ (hw:=wgF rfl e2b)
        refine dP 35 rfl ?_ (hw:=wgF rfl e2b)
        refine dP 36 rfl ?_ (hw:=wgF rfl e2b)
        refine dA 37 rfl (fun _=>Ar (evb rfl e2b) rfl) ?_
        refine Cn (by kernel_rfl) ?_
        refine h3f _ _<|wp_cond_true (Ai (evb rfl rfl))<|wp_seq_k fun _ h9a4=>Ae<|sV (Ac rfl) ?_
        refine wh h9a4<|wp_ret ?_
        obtain rfl:=sj f7a4
        exact fin rfl (Res.tmp rfl Res.nil) (Aj X4k rfl)
       ·refine dV 33 rfl (fun _ hw=>Al DE rfl ((q9y.ext E5b).ext hw) rfl) S0p ?_ (hw:=wgT rfl e2b)
        obtain ⟨r2p,h0a5,f1a5⟩:=Ab f8a4
        refine dc 34 rfl (by kernel_rfl) (wgT rfl e2b) (Ad MJ (by rfl)) (Dd (-6) 10 w7i (tbx X4k hT)  r2p h0a5) ?_
        rintro _ w8i E3h ⟨A2a5,c3a5,A4a5,c5a5,rfl,n6a5,n7a5⟩
        refine dnrm ?_
        have X3p:=xtr X4k E3h
        have S8a5:=S0p.trans E3h
        have n9a5:=((((((((n4y.ext F8b).ext E5b).ext E0d).ext E1e).ext E2e).ext E4f).ext E5f).ext E2h).ext E3h
        have n0a6:=((((((((n5y.ext F8b).ext E5b).ext E0d).ext E1e).ext E2e).ext E4f).ext E5f).ext E2h).ext E3h
        obtain ⟨r1a6,h2a6,f3a6⟩:=Ab f1a5
        refine dc 35 rfl (by kernel_rfl) (wgT rfl e2b) (Ad Qd (by rfl)) (GN r2f.1 r2p A0y c1y A2y c3y A2a5 c3a5 A4a5 c5a5 w8i (tbx X3p hT) n9a5 n0a6 n6a5 n7a5 r1a6 h2a6) ?_
        rintro _ w6g E4p rfl
        refine dnrm ?_
        have X5k:=xtr X3p E4p
        have S7ak:=S8a5.trans E4p
        refine dab 36 rfl (by kernel_rfl) (fun _ _ _ h=>h) (wgT rfl e2b) (fun _=>Fv rfl) fun z5p hz5p=>?_
        refine dnrm ?_
        refine dA 37 rfl (fun _=>Aw (evb rfl e2b) rfl) ?_
        refine Cn (by kernel_rfl) ?_
        refine h3f _ _ ?_
        rcases zi hz5p f3a6 with ⟨e6k,_,f4a6⟩ | ⟨e6k,_,f5a6⟩
        ·refine wp_cond_true (Ai (evb rfl e6k))<|wp_seq_k fun _ h6a6=>Ae<|sV (Ac rfl) ?_
         refine wh h6a6<|wp_ret ?_
         obtain rfl:=sj f4a6
         exact fin rfl (Res.tmp rfl Res.nil) (Aj X5k rfl)
        ·refine wp_cond_false (Ai (evb rfl e6k))<|wp_skip<|h1z _ _<|wp_seq_k fun _ h7a6=>Ae ?_
         obtain ⟨r1d,h8a6,f9a6⟩:=Ab f5a6
         refine sc (Ad MJ (by rfl)) (Dd 1 1 w6g (tbx X5k hT)  r1d h8a6) ?_
         rintro _ w5g E0a7 ⟨A1a7,c2a7,A3a7,c4a7,rfl,n5a7,n6a7⟩
         refine nrm ?_
         have X6p:=xtr X5k E0a7
         obtain ⟨r2d,h7a7,f8a7⟩:=Ab f9a6
         refine sc (Ad MJ (by rfl)) (Dd 3 3 w5g (tbx X6p hT)  r2d h7a7) ?_
         rintro _ w9i E7k ⟨A9a7,c0a8,A1a8,c2a8,rfl,n3a8,n4a8⟩
         refine nrm ?_
         have X7p:=xtr X6p E7k
         obtain ⟨r0c,h5a8,f6a8⟩:=Ab f8a7
         refine sc (Ad Rg (by rfl)) (MF (⟨(⟨(⟨r1d.Lo.Man.Neg,(limbs r1d.Lo.Man.Abs)⟩:AW),r1d.Lo.Exp⟩:Ap),(⟨(⟨r1d.Hi.Man.Neg,(limbs r1d.Hi.Man.Abs)⟩:AW),r1d.Hi.Exp⟩:Ap)⟩:AO) (⟨(⟨(⟨r2d.Lo.Man.Neg,(limbs r2d.Lo.Man.Abs)⟩:AW),r2d.Lo.Exp⟩:Ap),(⟨(⟨r2d.Hi.Man.Neg,(limbs r2d.Hi.Man.Abs)⟩:AW),r2d.Hi.Exp⟩:Ap)⟩:AO) 4 A1a7 c2a7 A3a7 c4a7 A9a7 c0a8 A1a8 c2a8 w9i (tbx X7p hT) (n5a7.ext E7k) (n6a7.ext E7k) n3a8 n4a8 r0c h5a8) ?_
         rintro _ w6e E7a8 ⟨A8p,c9p,A0q,c1q,rfl,n8a8,n9a8⟩
         refine nrm ?_
         have X2q:=xtr X7p E7a8
         refine sV3 (Aa rfl) (Av rfl rfl) (Av rfl rfl) ?_
         refine AA Ii fun b8ak w7l E0a9 g3q q1a9=>?_
         refine nrm ?_
         have g9ak:=nlt X2q.size g3q
         refine ss HJ q1a9 fun w0j U2a9 q3a9=>?_
         have F8k:=belU E0a9 U2a9 g3q
         have X4q:=xtr X2q F8k
         refine sV (Ac rfl) ?_
         refine wh h7a6<|wp_seq_k fun _ h4a9=>Ae ?_
         obtain ⟨r3d,h5a9,f6a9⟩:=Ab f6a8
         refine sc (Ad MJ (by rfl)) (Dd 1 1 w0j (tbx X4q hT)  r3d h5a9) ?_
         rintro _ w7e E4h ⟨A7a9,c8a9,A9a9,c0aa,rfl,n1aa,n2aa⟩
         refine nrm ?_
         have X5q:=xtr X4q E4h
         obtain ⟨r4d,h3aa,f4aa⟩:=Ab f6a9
         refine sc (Ad MJ (by rfl)) (Dd (-1) 1 w7e (tbx X5q hT)  r4d h3aa) ?_
         rintro _ w1j E3e ⟨A5aa,c6aa,A7aa,c8aa,rfl,n9aa,n0ab⟩
         refine nrm ?_
         have X6q:=xtr X5q E3e
         obtain ⟨r5h,h1ab,f2ab⟩:=Ab f4aa
         refine sc (Ad Rg (by rfl)) (MF (⟨(⟨(⟨r3d.Lo.Man.Neg,(limbs r3d.Lo.Man.Abs)⟩:AW),r3d.Lo.Exp⟩:Ap),(⟨(⟨r3d.Hi.Man.Neg,(limbs r3d.Hi.Man.Abs)⟩:AW),r3d.Hi.Exp⟩:Ap)⟩:AO) (⟨(⟨(⟨r4d.Lo.Man.Neg,(limbs r4d.Lo.Man.Abs)⟩:AW),r4d.Lo.Exp⟩:Ap),(⟨(⟨r4d.Hi.Man.Neg,(limbs r4d.Hi.Man.Abs)⟩:AW),r4d.Hi.Exp⟩:Ap)⟩:AO) 4 A7a9 c8a9 A9a9 c0aa A5aa c6aa A7aa c8aa w1j (tbx X6q hT) (n1aa.ext E3e) (n2aa.ext E3e) n9aa n0ab r5h h1ab) ?_
         rintro _ w2j E6h ⟨A0al,c1al,A2al,c3al,rfl,n4al,n5al⟩
         refine nrm ?_
         have X7q:=xtr X6q E6h
         refine sV3 (Aa rfl) (Av rfl rfl) (Av rfl rfl) ?_
         refine sV (Ac rfl) ?_
         refine wh h4a9<|wp_seq_k fun _ h3ab=>Ae ?_
         obtain ⟨r5d,h4ab,f5ab⟩:=Ab f2ab
         refine sc (Ad MJ (by rfl)) (Dd 2 2 w2j (tbx X7q hT)  r5d h4ab) ?_
         rintro _ w3j E7h ⟨A6ab,c7ab,A8ab,c9ab,rfl,n0ac,n1ac⟩
         refine nrm ?_
         have X8q:=xtr X7q E7h
         obtain ⟨r3b,h2ac,f3ac⟩:=Ab f5ab
         refine sc (Ad en_25 (by rfl)) (c_dyad_Root (⟨(⟨(⟨r5d.Lo.Man.Neg,(limbs r5d.Lo.Man.Abs)⟩:AW),r5d.Lo.Exp⟩:Ap),(⟨(⟨r5d.Hi.Man.Neg,(limbs r5d.Hi.Man.Abs)⟩:AW),r5d.Hi.Exp⟩:Ap)⟩:AO) 4 A6ab c7ab A8ab c9ab w3j (tbx X8q hT) n0ac n1ac r3b h2ac) ?_
         rintro _ w4j E8h ⟨A9q,c0r,A1r,c2r,rfl,n4ac,n5ac⟩
         refine nrm ?_
         have X3r:=xtr X8q E8h
         refine sV3 (Aa rfl) (Av rfl rfl) (Av rfl rfl) ?_
         refine AA Ii fun b6al w9d E6ac g4r q7ac=>?_
         refine nrm ?_
         have g7al:=nlt X3r.size g4r
         refine ss HJ q7ac fun w5j U8ac q9ac=>?_
         have F4e:=belU E6ac U8ac g4r
         have X5r:=xtr X3r F4e
         refine sV (Ac rfl) ?_
         refine wh h3ab<|wp_seq_k fun _ h0ad=>Ae ?_
         obtain ⟨r0a,h1ad,f2ad⟩:=Ab f3ac
         refine sc (Ad KW (by rfl)) (BH 5 (-4) w5j (tbx X5r hT)  r0a h1ad) ?_
         rintro _ w8l E6d ⟨A6f,c7f,rfl,n3ad⟩
         refine nrm ?_
         have X6r:=xtr X5r E6d
         refine AA Hm fun b8al w7g E4ad g7r q5ad=>?_
         refine nrm ?_
         have g9al:=nlt X6r.size g7r
         refine ss FA q5ad fun w6j U6ad q7ad=>?_
         have F1c:=belU E4ad U6ad g7r
         have X8r:=xtr X6r F1c
         refine wh h0ad<|wp_seq_k fun _ h8ad=>Ae ?_
         obtain ⟨r1a,h9ad,f0ae⟩:=Ab f2ad
         refine sc (Ad KW (by rfl)) (BH 11 (-5) w6j (tbx X8r hT)  r1a h9ad) ?_
         rintro _ w9l E9b ⟨A8f,c9f,rfl,n1ae⟩
         refine nrm ?_
         have X9r:=xtr X8r E9b
         refine AA Hm fun b0am w0m E2ae g0s q3ae=>?_
         refine nrm ?_
         have g1am:=nlt X9r.size g0s
         refine ss FA q3ae fun w8g U4ae q5ae=>?_
         have F6b:=belU E2ae U4ae g0s
         have X1s:=xtr X9r F6b
         refine wh h8ad<|wp_seq_k fun _ h6ae=>Ae ?_
         obtain ⟨r2a,h7ae,f8ae⟩:=Ab f0ae
         refine sc (Ad KW (by rfl)) (BH 11 (-3) w8g (tbx X1s hT)  r2a h7ae) ?_
         rintro _ w4u E4b ⟨A0g,c1g,rfl,n9ae⟩
         refine nrm ?_
         have X2s:=xtr X1s E4b
         refine AA Hm fun b2am w1m E0af g3s q1af=>?_
         refine nrm ?_
         have g3am:=nlt X2s.size g3s
         refine ss FA q1af fun w9g U2af q3af=>?_
         have F8a:=belU E0af U2af g3s
         have X4s:=xtr X2s F8a
         refine wh h6ae<|wp_seq_k fun _ h4af=>Ae ?_
         obtain ⟨r3a,h5af,f6af⟩:=Ab f8ae
         refine sc (Ad KW (by rfl)) (BH 3 (-1) w9g (tbx X4s hT)  r3a h5af) ?_
         rintro _ w2m E5a ⟨A2g,c3g,rfl,n7af⟩
         refine nrm ?_
         have X5s:=xtr X4s E5a
         refine AA Hm fun b4am w5u E8af g6s q9af=>?_
         refine nrm ?_
         have g5am:=nlt X5s.size g6s
         refine ss FA q9af fun w9h U0ag q1ag=>?_
         have F4a:=belU E8af U0ag g6s
         have X9k:=xtr X5s F4a
         refine wh h4af<|wp_seq_k fun _ h2ag=>Ae<|sV (Aa rfl) ?_
         refine sb (Bl rfl rfl) fun z7s hz7s=>?_
         refine nrm ?_
         refine sV (Aa rfl) ?_
         obtain ⟨m3ag,h4ag,f5ag⟩:=Ab f6af
         refine Bm 6 (fun l l' w'=>∃(t8s:Value) (t9s:Value),w9h=w'∧l'=(((l.set 98 t8s).set 99 t9s).set 100 (.bool m3ag))) ?_ ?_
         ·intro HJ493
          rcases zi hz7s h4ag with ⟨e7d,_,f6ag⟩ | ⟨e7d,_,f7ag⟩
          ·refine sV (Aa rfl) ?_ (hw:=wgT rfl e7d)
           refine sb (Bl rfl rfl) ?_ (hw:=wgT rfl e7d)
           intro z0l hz0l
           refine nrm ?_
           refine sV (Ar (evb rfl e7d) rfl) ?_
           obtain rfl:z0l=decide (r5h.2=8):=bz hz0l
           obtain rfl:=sj f6ag
           exact HJ493 _ _ ⟨(.int .i64 r5h.2),(.bool (decide (r5h.2=8))),rfl,(by simp only [S0,S1]<;>rfl)⟩
          ·refine sP ?_ (hw:=wgF rfl e7d)
           refine sP ?_ (hw:=wgF rfl e7d)
           refine sV (Aw (evb rfl e7d) rfl) ?_
           obtain rfl:=sj f7ag
           exact HJ493 _ _ ⟨uu,uu,rfl,(by simp only [S0,S1]<;>rfl)⟩
         ·rintro l' _ ⟨t8s,t9s,rfl,hq'⟩ l'' hl
          rw [hq'] at hl
          clear hq'
          simp only [S0,S1] at hl
          subst hl
          refine sV (Aa rfl) ?_
          obtain ⟨m8ag,h9ag,f0ah⟩:=Ab f5ag
          refine Bm 10 (fun l l' w'=>∃(t0t:Value) (t1t:Value),w9h=w'∧l'=(((l.set 102 t0t).set 103 t1t).set 104 (.bool m8ag))) ?_ ?_
          ·intro HJ512
           rcases zb h9ag with ⟨e8d,f1ah⟩ | ⟨e8d,f2ah⟩
           ·refine sV (Aa rfl) ?_ (hw:=wgT rfl e8d)
            refine sb (Bl rfl rfl) ?_ (hw:=wgT rfl e8d)
            intro z1l hz1l
            refine nrm ?_
            refine sV (Ar (evb rfl e8d) rfl) ?_
            obtain rfl:z1l=decide (r3b.2=0):=bz hz1l
            obtain rfl:=sj f1ah
            exact HJ512 _ _ ⟨(.int .i64 r3b.2),(.bool (decide (r3b.2=0))),rfl,(by simp only [S0,S1]<;>rfl)⟩
           ·refine sP ?_ (hw:=wgF rfl e8d)
            refine sP ?_ (hw:=wgF rfl e8d)
            refine sV (Aw (evb rfl e8d) rfl) ?_
            obtain rfl:=sj f2ah
            exact HJ512 _ _ ⟨uu,uu,rfl,(by simp only [S0,S1]<;>rfl)⟩
          ·rintro l' _ ⟨t0t,t1t,rfl,hq'⟩ l'' hl
           rw [hq'] at hl
           clear hq'
           simp only [S0,S1] at hl
           subst hl
           refine sV (Aa rfl) ?_
           obtain ⟨m3ah,h4ah,f5ah⟩:=Ab f0ah
           refine Bm 17 (fun l l' w'=>∃(t2t:Value) (t3t:Value) (t4t:Value) (t5t:Value) (t6t:Value),UpdS [] w9h w'∧l'=((((((l.set 106 t2t).set 107 t3t).set 108 t4t).set 109 t5t).set 110 t6t).set 111 (.bool m3ah))) ?_ ?_
           ·intro HJ545
            rcases zb h4ah with ⟨e6a,f6ah⟩ | ⟨e6a,f7ah⟩
            ·have q8ah:=(((((((((((((q3a9.ext E4h).ext E3e).ext E6h).ext E7h).ext E8h).ext F4e).ext E6d).ext F1c).ext E9b).ext F6b).ext E4b).ext F8a).ext E5a).ext F4a
             refine sV (Al DE rfl q8ah rfl) ?_ (hw:=wgT rfl e6a)
             have q9ah:=(((((q7ad.ext E9b).ext F6b).ext E4b).ext F8a).ext E5a).ext F4a
             refine sV (Al Bt rfl q9ah rfl) ?_ (hw:=wgT rfl e6a)
             have q0ai:=(((q5ae.ext E4b).ext F8a).ext E5a).ext F4a
             refine sV (Al Bt rfl q0ai rfl) ?_ (hw:=wgT rfl e6a)
             refine sV (Bb (vals:=[(0,.agg #[.bool r0a.Man.Neg,.slice A6f (sz r0a.Man.Abs) c7f,.int .i64 r0a.Exp]),(1,.agg #[.bool r1a.Man.Neg,.slice A8f (sz r1a.Man.Abs) c9f,.int .i64 r1a.Exp])]) (cells:=[.bool r0a.Man.Neg,.slice A6f (sz r0a.Man.Abs) c7f,.int .i64 r0a.Exp,.bool r1a.Man.Neg,.slice A8f (sz r1a.Man.Abs) c9f,.int .i64 r1a.Exp]) (by rfl) (by kernel_rfl)) ?_ (hw:=wgT rfl e6a)
             have n1ai:=((((((((((((((n8a8.ext F8k).ext E4h).ext E3e).ext E6h).ext E7h).ext E8h).ext F4e).ext E6d).ext F1c).ext E9b).ext F6b).ext E4b).ext F8a).ext E5a).ext F4a
             have n2ai:=((((((((((((((n9a8.ext F8k).ext E4h).ext E3e).ext E6h).ext E7h).ext E8h).ext F4e).ext E6d).ext F1c).ext E9b).ext F6b).ext E4b).ext F8a).ext E5a).ext F4a
             have n3ai:=((((((n3ad.ext F1c).ext E9b).ext F6b).ext E4b).ext F8a).ext E5a).ext F4a
             have n4ai:=((((n1ae.ext F6b).ext E4b).ext F8a).ext E5a).ext F4a
             obtain ⟨r7t,h5ai,f6ai⟩:=Ab f6ah
             refine sc (Ad Qd (by rfl)) (GN r0c.1 (⟨r0a,r1a⟩:AI) A8p c9p A0q c1q A6f c7f A8f c9f w9h (tbx X9k hT) n1ai n2ai n3ai n4ai r7t h5ai) ?_ (hw:=wgT rfl e6a)
             rintro _ w8e E7ai rfl
             refine nrm ?_
             refine sV (Ar (evb rfl e6a) rfl) ?_
             obtain rfl:=sj f6ai
             exact HJ545 _ _ ⟨(.agg #[.bool r0c.1.Lo.Man.Neg,.slice A8p (sz r0c.1.Lo.Man.Abs) c9p,.int .i64 r0c.1.Lo.Exp,.bool r0c.1.Hi.Man.Neg,.slice A0q (sz r0c.1.Hi.Man.Abs) c1q,.int .i64 r0c.1.Hi.Exp]),(.agg #[.bool r0a.Man.Neg,.slice A6f (sz r0a.Man.Abs) c7f,.int .i64 r0a.Exp]),(.agg #[.bool r1a.Man.Neg,.slice A8f (sz r1a.Man.Abs) c9f,.int .i64 r1a.Exp]),(.agg #[.bool r0a.Man.Neg,.slice A6f (sz r0a.Man.Abs) c7f,.int .i64 r0a.Exp,.bool r1a.Man.Neg,.slice A8f (sz r1a.Man.Abs) c9f,.int .i64 r1a.Exp]),(.bool r7t),((UpdS.refl _ _).ext E7ai),(by simp only [S0,S1]<;>rfl)⟩
            ·refine sP ?_ (hw:=wgF rfl e6a)
             refine sP ?_ (hw:=wgF rfl e6a)
             refine sP ?_ (hw:=wgF rfl e6a)
             refine sP ?_ (hw:=wgF rfl e6a)
             refine sP ?_ (hw:=wgF rfl e6a)
             refine sV (Aw (evb rfl e6a) rfl) ?_
             obtain rfl:=sj f7ah
             exact HJ545 _ _ ⟨uu,uu,uu,uu,uu,(UpdS.refl _ _),(by simp only [S0,S1]<;>rfl)⟩
           ·rintro l' w8e ⟨t2t,t3t,t4t,t5t,t6t,U2c,hq'⟩ l'' hl
            rw [hq'] at hl
            clear hq'
            simp only [S0,S1] at hl
            subst hl
            have X2l:=KR X9k U2c (X9k).size al0
            refine sV (Aa rfl) ?_
            obtain ⟨m8ai,h9ai,f0aj⟩:=Ab f5ah
            refine Bm 24 (fun l l' w'=>∃(t8t:Value) (t9t:Value) (t0u:Value) (t1u:Value) (t2u:Value),UpdS [] w8e w'∧l'=((((((l.set 113 t8t).set 114 t9t).set 115 t0u).set 116 t1u).set 117 t2u).set 118 (.bool m8ai))) ?_ ?_
            ·intro HJ588
             rcases zb h9ai with ⟨e7a,f1aj⟩ | ⟨e7a,f2aj⟩
             ·have q3aj:=((((((((q9ac.ext E6d).ext F1c).ext E9b).ext F6b).ext E4b).ext F8a).ext E5a).ext F4a).updS U2c nm0
              refine sV (Al DE rfl q3aj rfl) ?_ (hw:=wgT rfl e7a)
              have q4aj:=((q3af.ext E5a).ext F4a).updS U2c nm0
              refine sV (Al Bt rfl q4aj rfl) ?_ (hw:=wgT rfl e7a)
              refine sV (Al Bt rfl (q1ag.updS U2c nm0) rfl) ?_ (hw:=wgT rfl e7a)
              refine sV (Bb (vals:=[(0,.agg #[.bool r2a.Man.Neg,.slice A0g (sz r2a.Man.Abs) c1g,.int .i64 r2a.Exp]),(1,.agg #[.bool r3a.Man.Neg,.slice A2g (sz r3a.Man.Abs) c3g,.int .i64 r3a.Exp])]) (cells:=[.bool r2a.Man.Neg,.slice A0g (sz r2a.Man.Abs) c1g,.int .i64 r2a.Exp,.bool r3a.Man.Neg,.slice A2g (sz r3a.Man.Abs) c3g,.int .i64 r3a.Exp]) (by rfl) (by kernel_rfl)) ?_ (hw:=wgT rfl e7a)
              have n5aj:=(((((((((n4ac.ext F4e).ext E6d).ext F1c).ext E9b).ext F6b).ext E4b).ext F8a).ext E5a).ext F4a).updS U2c al0
              have n6aj:=(((((((((n5ac.ext F4e).ext E6d).ext F1c).ext E9b).ext F6b).ext E4b).ext F8a).ext E5a).ext F4a).updS U2c al0
              have n7aj:=(((n9ae.ext F8a).ext E5a).ext F4a).updS U2c al0
              obtain ⟨r3u,h8aj,f9aj⟩:=Ab f1aj
              refine sc (Ad Qd (by rfl)) (GN r3b.1 (⟨r2a,r3a⟩:AI) A9q c0r A1r c2r A0g c1g A2g c3g w8e (tbx X2l hT) n5aj n6aj n7aj ((n7af.ext F4a).updS U2c al0) r3u h8aj) ?_ (hw:=wgT rfl e7a)
              rintro _ w7j E0ak rfl
              refine nrm ?_
              refine sV (Ar (evb rfl e7a) rfl) ?_
              obtain rfl:=sj f9aj
              exact HJ588 _ _ ⟨(.agg #[.bool r3b.1.Lo.Man.Neg,.slice A9q (sz r3b.1.Lo.Man.Abs) c0r,.int .i64 r3b.1.Lo.Exp,.bool r3b.1.Hi.Man.Neg,.slice A1r (sz r3b.1.Hi.Man.Abs) c2r,.int .i64 r3b.1.Hi.Exp]),(.agg #[.bool r2a.Man.Neg,.slice A0g (sz r2a.Man.Abs) c1g,.int .i64 r2a.Exp]),(.agg #[.bool r3a.Man.Neg,.slice A2g (sz r3a.Man.Abs) c3g,.int .i64 r3a.Exp]),(.agg #[.bool r2a.Man.Neg,.slice A0g (sz r2a.Man.Abs) c1g,.int .i64 r2a.Exp,.bool r3a.Man.Neg,.slice A2g (sz r3a.Man.Abs) c3g,.int .i64 r3a.Exp]),(.bool r3u),((UpdS.refl _ _).ext E0ak),(by simp only [S0,S1]<;>rfl)⟩
             ·refine sP ?_ (hw:=wgF rfl e7a)
              refine sP ?_ (hw:=wgF rfl e7a)
              refine sP ?_ (hw:=wgF rfl e7a)
              refine sP ?_ (hw:=wgF rfl e7a)
              refine sP ?_ (hw:=wgF rfl e7a)
              refine sV (Aw (evb rfl e7a) rfl) ?_
              obtain rfl:=sj f2aj
              exact HJ588 _ _ ⟨uu,uu,uu,uu,uu,(UpdS.refl _ _),(by simp only [S0,S1]<;>rfl)⟩
            ·rintro l' w7j ⟨t8t,t9t,t0u,t1u,t2u,U1ak,hq'⟩ l'' hl
             rw [hq'] at hl
             clear hq'
             simp only [S0,S1] at hl
             subst hl
             have X2ak:=KR X2l U1ak (X2l).size al0
             refine sV (Ac rfl) ?_
             refine wh h2ag<|wp_ret ?_
             obtain rfl:=sj f0aj
             exact fin rfl (Res.tmp rfl Res.nil) (Aj X2ak rfl)
theorem c_sorobanref03_NegInt (x0:Ah) (A1:Option Addr) (c2:Nat) (w:World) (hT:TB w) (n3:RU w A1 c2 x0.Abs) (r:Ah) (hr:FY x0=some r) :
  Calls Tryz.prog 131 #[.agg #[.bool x0.Neg,.slice A1 (sz x0.Abs) c2]] w (Ret Jm w r):=by
 unfold FY at hr
 go_enter Tryz.func131,Tryz.ntmps131
 refine wp_seq_k fun _ h4=>Ae<|Bu rfl rfl fun b5 w1 E6 g7 q8=>?_
 refine nrm ?_
 refine AA IJ fun b9 w2 E0a g6a q4a=>?_
 refine nrm ?_
 have g7a:=nlt E6.size g6a
 have X1a:=xtr E6 E0a
 refine wh h4<|wp_seq_k fun _ h8a=>Ae<|sV2 (Ag (o':=0) DF rfl rfl) (Af GC rfl (Bx.cell (q8.ext E0a) rfl)) ?_
 refine sb (Fv rfl) fun z2a hz2a=>?_
 refine nrm ?_
 refine sV2 (Ag (o':=1) Bf rfl rfl) (Af BJ rfl (Bx.cell (q8.ext E0a) rfl)) ?_
 obtain rfl:z2a=decide (¬(x0.Neg=true)):=bz hz2a
 obtain ⟨r9a,h0b,f1b⟩:=Ab hr
 refine sc (Ad JO (by rfl)) (Bv (decide (¬(x0.Neg=true))) x0.Abs A1 c2 w2 (tbx X1a hT) (n3.ext X1a) r9a h0b) ?_
 rintro _ w3 E3a ⟨A2b,c3b,rfl,n4b⟩
 refine nrm ?_
 have X5b:=xtr X1a E3a
 refine ss GU (q4a.ext E3a) fun w4 U5a q6b=>?_
 have X7b:=belU X5b U5a g7a
 refine wh h8a<|wp_ret ?_
 have n8b:=n4b.upd U5a (q4a.ext E3a) (by decide)
 obtain rfl:=sj f1b
 exact fin rfl (Res.cellN rfl Dq q6b rfl rfl Res.nil) (Aj X7b ⟨A2b,c3b,rfl,n8b⟩)
theorem c_sorobanref04_Minus (x0:Ak) (A1:Option Addr) (c2:Nat) (w:World) (hT:TB w) (n3:RU w A1 c2 x0.Man.Abs) (r:Ak) (hr:Fg x0=some r) :
  Calls Tryz.prog 47 #[.agg #[.bool x0.Man.Neg,.slice A1 (sz x0.Man.Abs) c2,.int .i64 x0.Exp]] w (Ret MZ w r):=by
 unfold Fg at hr
 go_enter Tryz.func47,Tryz.ntmps47
 refine wp_seq_k fun _ h4=>Ae<|Bu rfl rfl fun b5 w1 E6 g7 q8=>?_
 refine nrm ?_
 refine AA Hm fun b9 w2 E3a g0b q8a=>?_
 refine nrm ?_
 have g1b:=nlt E6.size g0b
 have X2b:=xtr E6 E3a
 refine wh h4<|wp_seq_k fun _ h3b=>Dn [6] 7 mo rfl fun w3 E0a S4a=>have X5a:=xtr X2b E0a;dA 0 rfl (fun _=>Ag (o':=0) Ey rfl rfl) ?_
 refine dV 1 rfl (fun _ hw=>AL Dq rfl (((q8.ext E3a).ext E0a).ext hw) (by simp only [List.drop_zero,List.take_succ_cons,List.take_zero];rfl) rfl) S4a ?_
 refine dA 3 rfl (fun _=>Ag (o':=2) EZ rfl rfl) ?_
 refine dV 4 rfl (fun _ hw=>Af EN rfl (Bx.cell (((q8.ext E3a).ext E0a).ext hw) rfl)) S4a ?_
 obtain ⟨r1a,h4b,f5b⟩:=Ab hr
 refine dc 2 rfl (by kernel_rfl) (by rfl) (Ad en_131 (by rfl)) (c_sorobanref03_NegInt x0.Man A1 c2 w3 (tbx X5a hT) (n3.ext X5a) r1a h4b) ?_
 rintro _ w4 E2a ⟨A6a,c7a,rfl,n6b⟩
 refine dnrm ?_
 have X7b:=xtr X5a E2a
 have S1c:=S4a.trans E2a
 refine dA 5 rfl (fun _=>Bb (vals:=[(0,.agg #[.bool r1a.Neg,.slice A6a (sz r1a.Abs) c7a]),(1,.int .i64 x0.Exp)]) (cells:=[.bool r1a.Neg,.slice A6a (sz r1a.Abs) c7a,.int .i64 x0.Exp]) (by rfl) (by kernel_rfl)) ?_
 refine dkk 6 FA ((q8a.ext E0a).ext E2a) fun w5 U9a q8b=>?_
 have X9b:=belU X7b U9a g1b
 refine Cn (by kernel_rfl) ?_
 refine h3b _ _<|wp_ret ?_
 have n0c:=n6b.upd U9a ((q8a.ext E0a).ext E2a) (by decide)
 obtain rfl:=sj f5b
 exact fin rfl (Res.cellN rfl Bt q8b rfl rfl Res.nil) (Aj X9b ⟨A6a,c7a,rfl,n0c⟩)
theorem IH (x0:Ah) (x1:Int) (A1:Option Addr) (c2:Nat) (w:World) (hT:TB w) (n3:RU w A1 c2 x0.Abs) (r:Ah) (hr:Ex x0 x1=some r) :
  Calls Tryz.prog 130 #[.agg #[.bool x0.Neg,.slice A1 (sz x0.Abs) c2],.int .i64 x1] w (Ret Jm w r):=by
 unfold Ex at hr
 go_enter Tryz.func130,Tryz.ntmps130
 refine wp_seq_k fun _ h4=>Ae<|Bu rfl rfl fun b5 w1 E6 g7 q8=>?_
 refine nrm ?_
 refine AA IJ fun b9 w2 E2a g0b q8a=>?_
 refine nrm ?_
 have g1b:=nlt E6.size g0b
 have X2b:=xtr E6 E2a
 refine wh h4<|wp_seq_k fun _ h3b=>Dn [7] 8 mo rfl fun w3 E0a S3a=>have X4a:=xtr X2b E0a;dA 0 rfl (fun _=>Ag (o':=0) DF rfl rfl) ?_
 refine dV 1 rfl (fun _ hw=>Af GC rfl (Bx.cell (((q8.ext E2a).ext E0a).ext hw) rfl)) S3a ?_
 refine dA 2 rfl (fun _=>Ag (o':=1) Bf rfl rfl) ?_
 refine dV 3 rfl (fun _ hw=>Af BJ rfl (Bx.cell (((q8.ext E2a).ext E0a).ext hw) rfl)) S3a ?_
 refine dA 4 rfl (fun _=>Aa rfl) ?_
 obtain ⟨r5a,h4b,f5b⟩:=Ab hr
 refine dc 5 rfl (by kernel_rfl) (by rfl) (Ad Mz (by rfl)) (FQ x0.Abs x1 A1 c2 w3 (tbx X4a hT) (n3.ext X4a) r5a h4b) ?_
 rintro _ w4 E1a ⟨A6a,c7a,rfl,n6b⟩
 refine dnrm ?_
 have X7b:=xtr X4a E1a
 have S1c:=S3a.trans E1a
 refine dA 6 rfl (fun _=>Bb (vals:=[(0,.bool x0.Neg),(1,.slice A6a (sz r5a) c7a)]) (cells:=[.bool x0.Neg,.slice A6a (sz r5a) c7a]) (by rfl) (by kernel_rfl)) ?_
 refine dkk 7 GU ((q8a.ext E0a).ext E1a) fun w5 U9a q8b=>?_
 have X9b:=belU X7b U9a g1b
 refine Cn (by kernel_rfl) ?_
 refine h3b _ _<|wp_ret ?_
 have n0c:=n6b.upd U9a ((q8a.ext E0a).ext E1a) (by decide)
 obtain rfl:=sj f5b
 exact fin rfl (Res.cellN rfl Dq q8b rfl rfl Res.nil) (Aj X9b ⟨A6a,c7a,rfl,n0c⟩)
theorem c_sorobanref03_AddInt (x0:Ah) (x1:Ah) (A1:Option Addr) (c2:Nat) (A4:Option Addr) (c5:Nat) (w:World) (hT:TB w) (n3:RU w A1 c2 x0.Abs) (n6:RU w A4 c5 x1.Abs) (r:Ah) (hr:Gb x0 x1=some r) :
  Calls Tryz.prog 129 #[.agg #[.bool x0.Neg,.slice A1 (sz x0.Abs) c2],.agg #[.bool x1.Neg,.slice A4 (sz x1.Abs) c5]] w (Ret Jm w r):=by
 unfold Gb at hr
 go_enter Tryz.func129,Tryz.ntmps129
 refine wp_seq_k fun _ h7=>Ae<|Bu rfl rfl fun b8 w1 E9 g2k q3a=>?_
 refine nrm ?_
 refine Bu rfl rfl fun b3k w2 E2a g1e q4a=>?_
 refine nrm ?_
 have g4k:=nlt E9.size g1e
 have X5c:=xtr E9 E2a
 refine AA IJ fun b5k w3 E0a g2e q5b=>?_
 refine nrm ?_
 have g6b:=nlt X5c.size g2e
 have X5a:=xtr X5c E0a
 refine wh h7<|wp_seq_k fun _ h3e=>wp_seq_k fun _ h4e=>Ae<|sV3 (Ag (o':=0) DF rfl rfl) (Af GC rfl (Bx.cell ((q3a.ext E2a).ext E0a) rfl)) (Ag (o':=0) DF rfl rfl) ?_
 refine sV (Af GC rfl (Bx.cell (q4a.ext E0a) rfl)) ?_
 refine sb (Pa Ps rfl rfl) fun z6c hz6c=>?_
 refine nrm ?_
 refine wh h4e ?_
 rcases zi hz6c hr with ⟨e7b,_,f5e⟩ | ⟨e7b,_,f6e⟩
 ·refine wp_cond_true (Ai (evb rfl e7b))<|wp_seq_k fun _ h7e=>Dn [8] 9 mo rfl fun w4 E6a S9a=>have X0b:=xtr X5a E6a;dA 0 rfl (fun _=>Ag (o':=0) DF rfl rfl) ?_
  refine dV 1 rfl (fun _ hw=>Af GC rfl (Bx.cell ((((q3a.ext E2a).ext E0a).ext E6a).ext hw) rfl)) S9a ?_
  refine dA 2 rfl (fun _=>Ag (o':=1) Bf rfl rfl) ?_
  refine dV 3 rfl (fun _ hw=>Af BJ rfl (Bx.cell ((((q3a.ext E2a).ext E0a).ext E6a).ext hw) rfl)) S9a ?_
  refine dA 4 rfl (fun _=>Ag (o':=1) Bf rfl rfl) ?_
  refine dV 5 rfl (fun _ hw=>Af BJ rfl (Bx.cell (((q4a.ext E0a).ext E6a).ext hw) rfl)) S9a ?_
  obtain ⟨r7c,h8e,f9e⟩:=Ab f5e
  refine dc 6 rfl (by kernel_rfl) (by rfl) (Ad OM (by rfl)) (FW x0.Abs x1.Abs A1 c2 A4 c5 w4 (tbx X0b hT) (n3.ext X0b) (n6.ext X0b) r7c h8e) ?_
  rintro _ w5 E8b ⟨A0f,c1f,rfl,n2f⟩
  refine dnrm ?_
  have X8c:=xtr X0b E8b
  have S3f:=S9a.trans E8b
  obtain ⟨r4f,h5f,f6f⟩:=Ab f9e
  refine dc 7 rfl (by kernel_rfl) (by rfl) (Ad JO (by rfl)) (Bv x0.Neg r7c A0f c1f w5 (tbx X8c hT) n2f r4f h5f) ?_
  rintro _ w6 E9b ⟨A7f,c8f,rfl,n9f⟩
  refine dnrm ?_
  have X0g:=xtr X8c E9b
  have S6k:=S3f.trans E9b
  have q9c:=((q5b.ext E6a).ext E8b).ext E9b
  refine dkk 8 GU q9c fun w7 U0d q1g=>?_
  have X2g:=belU X0g U0d g6b
  refine Cn (by kernel_rfl) ?_
  refine h7e _ _<|wp_ret ?_
  obtain rfl:=sj f6f
  exact fin rfl (Res.cellN rfl Dq q1g rfl rfl Res.nil) (Aj X2g ⟨A7f,c8f,rfl,(n9f.upd U0d q9c (by decide))⟩)
 ·refine wp_cond_false (Ai (evb rfl e7b))<|wp_skip<|h3e _ _<|wp_seq_k fun _ h3g=>wp_seq_k fun _ h4g=>Ae<|sV3 (Ag (o':=1) Bf rfl rfl) (Af BJ rfl (Bx.cell ((q3a.ext E2a).ext E0a) rfl)) (Ag (o':=1) Bf rfl rfl) ?_
  refine sV (Af BJ rfl (Bx.cell (q4a.ext E0a) rfl)) ?_
  obtain ⟨r5g,h6g,f7g⟩:=Ab f6e
  refine sc (Ad Mw (by rfl)) (Ed x0.Abs x1.Abs A1 c2 A4 c5 w3 (tbx X5a hT) (n3.ext X5a) (n6.ext X5a) r5g h6g) ?_
  rintro _ w4 E1a rfl
  refine nrm ?_
  have X1d:=xtr X5a E1a
  refine sb (Fu rfl rfl) fun z2d hz2d=>?_
  refine nrm ?_
  refine wh h4g ?_
  rcases zi hz2d f7g with ⟨e0c,_,f8g⟩ | ⟨e0c,_,f9g⟩
  ·refine wp_cond_true (Ai (evb rfl e0c))<|wp_seq_k fun _ h0h=>Dn [8] 9 mo rfl fun w5 E7a S1b=>have X2b:=xtr X1d E7a;dA 0 rfl (fun _=>Ag (o':=0) DF rfl rfl) ?_
   refine dV 1 rfl (fun _ hw=>Af GC rfl (Bx.cell (((((q3a.ext E2a).ext E0a).ext E1a).ext E7a).ext hw) rfl)) S1b ?_
   refine dA 2 rfl (fun _=>Ag (o':=1) Bf rfl rfl) ?_
   refine dV 3 rfl (fun _ hw=>Af BJ rfl (Bx.cell (((((q3a.ext E2a).ext E0a).ext E1a).ext E7a).ext hw) rfl)) S1b ?_
   refine dA 4 rfl (fun _=>Ag (o':=1) Bf rfl rfl) ?_
   refine dV 5 rfl (fun _ hw=>Af BJ rfl (Bx.cell ((((q4a.ext E0a).ext E1a).ext E7a).ext hw) rfl)) S1b ?_
   obtain ⟨r3d,h1h,f2h⟩:=Ab f8g
   refine dc 6 rfl (by kernel_rfl) (by rfl) (Ad Qu (by rfl)) (Hb x0.Abs x1.Abs A1 c2 A4 c5 w5 (tbx X2b hT) (n3.ext X2b) (n6.ext X2b) r3d h1h) ?_
   rintro _ w6 E1c ⟨A3h,c4h,rfl,n5h⟩
   refine dnrm ?_
   have X4d:=xtr X2b E1c
   have S6h:=S1b.trans E1c
   obtain ⟨r7h,h8h,f9h⟩:=Ab f2h
   refine dc 7 rfl (by kernel_rfl) (by rfl) (Ad JO (by rfl)) (Bv x0.Neg r3d A3h c4h w6 (tbx X4d hT) n5h r7h h8h) ?_
   rintro _ w7 E2c ⟨A0i,c1i,rfl,n2i⟩
   refine dnrm ?_
   have X3i:=xtr X4d E2c
   have S7k:=S6h.trans E2c
   have q5d:=(((q5b.ext E1a).ext E7a).ext E1c).ext E2c
   refine dkk 8 GU q5d fun w8 U6d q4i=>?_
   have X5i:=belU X3i U6d g6b
   refine Cn (by kernel_rfl) ?_
   refine h0h _ _<|wp_ret ?_
   obtain rfl:=sj f9h
   exact fin rfl (Res.cellN rfl Dq q4i rfl rfl Res.nil) (Aj X5i ⟨A0i,c1i,rfl,(n2i.upd U6d q5d (by decide))⟩)
  ·refine wp_cond_false (Ai (evb rfl e0c))<|wp_skip<|h3g _ _<|wp_seq_k fun _ h6i=>Dn [8] 9 mo rfl fun w5 E8a S3b=>have X4b:=xtr X1d E8a;dA 0 rfl (fun _=>Ag (o':=0) DF rfl rfl) ?_
   refine dV 1 rfl (fun _ hw=>Af GC rfl (Bx.cell ((((q4a.ext E0a).ext E1a).ext E8a).ext hw) rfl)) S3b ?_
   refine dA 2 rfl (fun _=>Ag (o':=1) Bf rfl rfl) ?_
   refine dV 3 rfl (fun _ hw=>Af BJ rfl (Bx.cell ((((q4a.ext E0a).ext E1a).ext E8a).ext hw) rfl)) S3b ?_
   refine dA 4 rfl (fun _=>Ag (o':=1) Bf rfl rfl) ?_
   refine dV 5 rfl (fun _ hw=>Af BJ rfl (Bx.cell (((((q3a.ext E2a).ext E0a).ext E1a).ext E8a).ext hw) rfl)) S3b ?_
   obtain ⟨r7d,h7i,f8i⟩:=Ab f9g
   refine dc 6 rfl (by kernel_rfl) (by rfl) (Ad Qu (by rfl)) (Hb x1.Abs x0.Abs A4 c5 A1 c2 w5 (tbx X4b hT) (n6.ext X4b) (n3.ext X4b) r7d h7i) ?_
   rintro _ w6 E3c ⟨A9i,c0j,rfl,n1j⟩
   refine dnrm ?_
   have X8d:=xtr X4b E3c
   have S2j:=S3b.trans E3c
   obtain ⟨r3j,h4j,f5j⟩:=Ab f8i
   refine dc 7 rfl (by kernel_rfl) (by rfl) (Ad JO (by rfl)) (Bv x1.Neg r7d A9i c0j w6 (tbx X8d hT) n1j r3j h4j) ?_
   rintro _ w7 E4c ⟨A6j,c7j,rfl,n8j⟩
   refine dnrm ?_
   have X9j:=xtr X8d E4c
   have S8k:=S2j.trans E4c
   have q9d:=(((q5b.ext E1a).ext E8a).ext E3c).ext E4c
   refine dkk 8 GU q9d fun w8 U0e q0k=>?_
   have X1k:=belU X9j U0e g6b
   refine Cn (by kernel_rfl) ?_
   refine h6i _ _<|wp_ret ?_
   obtain rfl:=sj f5j
   exact fin rfl (Res.cellN rfl Dq q0k rfl rfl Res.nil) (Aj X1k ⟨A6j,c7j,rfl,(n8j.upd U0e q9d (by decide))⟩)
end Go.Proofs

