import Derived.Test.YtabiobmfelafoaaGreatDoorGen0
namespace Go.Proofs
set_option linter.unusedVariables false
set_option linter.unusedSimpArgs false
set_option maxHeartbeats 4000000
open Go.RowKit Go.Sb Go.Proofs.Sbn
def Im (wk w:World) (b:Nat):Option Av→Prop
 | none=>Bx w b 124 [.pointer none]
 | some r=>∃(bs:Nat) (A1:Option Addr) (c1:Nat) (A2:Option Addr) (c2:Nat),wk.heap.size≤bs∧Bx w b 124 [.pointer (some ⟨bs,0,none⟩)]∧Bx w bs 121 [.bool r.lo.m.Neg,.slice A1 (sz r.lo.m.Abs) c1,.int .i64 r.lo.e,.bool r.hi.m.Neg,.slice A2 (sz r.hi.m.Abs) c2,.int .i64 r.hi.e]∧RU w A1 c1 r.lo.m.Abs∧RU w A2 c2 r.hi.m.Abs
theorem sq_dyad_Times_1 {n0:Nat} {wk w w':World} {b:Nat} : ∀ {o:Option Av},Im wk w b o→Quiet n0 w w'→Im wk w' b o
 | none,h,q=>Bx.quiet h q
 | some _,⟨bs,A1,c1,A2,c2,g,q1,q2,n1,n2⟩,q=>⟨bs,A1,c1,A2,c2,g,q1.quiet q,q2.quiet q,n1.quiet q,n2.quiet q⟩
theorem JV (x0:Av) (x1:Av) (x2:Int) (A1:Option Addr) (c2:Nat) (A4:Option Addr) (c5:Nat) (A7:Option Addr) (c8:Nat) (A0d:Option Addr) (c1d:Nat) (w:World) (hT:TB w) (n3:RU w A1 c2 x0.lo.m.Abs) (n6:RU w A4 c5 x0.hi.m.Abs) (n9:RU w A7 c8 x1.lo.m.Abs) (n2l:RU w A0d c1d x1.hi.m.Abs) (r:Except Int (AC)) (hr:IR x0 x1 x2=some r) :
  Calls Tryz.prog 116 #[.agg #[.bool x0.lo.m.Neg,.slice A1 (sz x0.lo.m.Abs) c2,.int .i64 x0.lo.e,.bool x0.hi.m.Neg,.slice A4 (sz x0.hi.m.Abs) c5,.int .i64 x0.hi.e],.agg #[.bool x1.lo.m.Neg,.slice A7 (sz x1.lo.m.Abs) c8,.int .i64 x1.lo.e,.bool x1.hi.m.Neg,.slice A0d (sz x1.hi.m.Abs) c1d,.int .i64 x1.hi.e],.int .i64 x2] w (RetE 201 Mk w r):=by
 unfold IR at hr
 refine Np Tryz.func116 rfl [.agg #[.bool x0.lo.m.Neg,.slice A1 (sz x0.lo.m.Abs) c2,.int .i64 x0.lo.e,.bool x0.hi.m.Neg,.slice A4 (sz x0.hi.m.Abs) c5,.int .i64 x0.hi.e],.agg #[.bool x1.lo.m.Neg,.slice A7 (sz x1.lo.m.Abs) c8,.int .i64 x1.lo.e,.bool x1.hi.m.Neg,.slice A0d (sz x1.hi.m.Abs) c1d,.int .i64 x1.hi.e],.int .i64 x2,uu,uu,uu,uu,uu,uu,uu,uu,uu,uu,uu,uu,uu,uu,uu,uu,uu,uu,uu,uu,uu,uu,uu,uu,uu,uu,uu,uu,uu,uu,uu,uu,uu,uu,uu,uu,uu,uu,uu,uu,uu,uu,uu,uu,uu,uu,uu,uu,uu,uu] (by simp [Tryz.ntmps116]) ?_
 refine wp_seq_k fun K3l h3l=>Af<|BT rfl rfl fun b1j w1 E4l g9a7 q4u=>?_
 refine nrm ?_
 refine BT rfl rfl fun b2j w2 E5l g5u q3j=>?_
 refine nrm ?_
 have g0a8:=nlt E4l.size g5u
 have X6l:=xtr E4l E5l
 refine Aw Hp fun b4j w3 E0f g6u q7u=>?_
 refine nrm ?_
 have g8u:=nlt X6l.size g6u
 have X7l:=xtr X6l E0f
 refine Ad<|h3l _ _<|wp_seq_k fun K8l h8l=>Af<|Aw OX fun b9l w4 E2e g9u q0v=>?_
 refine nrm ?_
 have g1v:=nlt X7l.size g9u
 have X5j:=xtr X7l E2e
 refine Ad<|h8l _ _<|wp_seq_k fun K0m h0m=>wp_seq_k fun K1m h1m=>Af<|have q6j:=((q4u.ext E5l).ext E0f).ext E2e;sV (Am Ka rfl q6j rfl) ?_
 refine sV (Am Ka rfl ((q3j.ext E0f).ext E2e) rfl) ?_
 refine scc (by rfl) (Ae OE rfl) (JM (.bool x0.lo.m.Neg:Value) (.slice A1 (sz x0.lo.m.Abs) c2:Value) (.int .i64 x0.lo.e:Value) (.bool x0.hi.m.Neg:Value) (.slice A4 (sz x0.hi.m.Abs) c5:Value) (.int .i64 x0.hi.e:Value) (.bool x1.lo.m.Neg:Value) (.slice A7 (sz x1.lo.m.Abs) c8:Value) (.int .i64 x1.lo.e:Value) (.bool x1.hi.m.Neg:Value) (.slice A0d (sz x1.hi.m.Abs) c1d:Value) (.int .i64 x1.hi.e:Value) w4) fun b7g b8g w5 E7d g2v g3v ne1a8 q2m q3m=>nrm ?_
 have g2a8:=nlt X5j.size g2v
 have g3a8:=nlt X5j.size g3v
 have X7j:=xtr X5j E7d
 refine Ad<|h1m _ _ ?_
 apply wp_block
 obtain ⟨s4m,h5m,f4v⟩:=Ab hr
 obtain ⟨s8j,h5v,f6v⟩:=Ab f4v
 obtain ⟨s9j,h7v,f8v⟩:=Ab f6v
 obtain ⟨s0k,h9v,f0w⟩:=Ab f8v
 obtain ⟨o1k,hO⟩:∃o:Nat→Option Av,o=(fun i:Nat=>match i with | 0=>none | 1=>some s4m | 2=>some s8j | 3=>some s9j | _=>some s0k):=⟨_,rfl⟩
 have hall1w:∀i,1≤i→i<4→∃(sr:Av) (x y:An) (AX:Option Addr) (cX:Nat) (AY:Option Addr) (cY:Nat) (s':Av),(encs (.bool x0.lo.m.Neg:Value) (.slice A1 (sz x0.lo.m.Abs) c2:Value) (.int .i64 x0.lo.e:Value) (.bool x0.hi.m.Neg:Value) (.slice A4 (sz x0.hi.m.Abs) c5:Value) (.int .i64 x0.hi.e:Value) (.bool x1.lo.m.Neg:Value) (.slice A7 (sz x1.lo.m.Abs) c8:Value) (.int .i64 x1.lo.e:Value) (.bool x1.hi.m.Neg:Value) (.slice A0d (sz x1.hi.m.Abs) c1d:Value) (.int .i64 x1.hi.e:Value)) i = #[.agg #[.bool x.m.Neg,.slice AX (sz x.m.Abs) cX,.int .i64 x.e],.agg #[.bool y.m.Neg,.slice AY (sz y.m.Abs) cY,.int .i64 y.e]]∧RU w AX cX x.m.Abs∧RU w AY cY y.m.Abs∧o1k i=some sr∧o1k (i+1)=some s'∧Gp x0 x1 x2 sr x y=some s':=by
  subst hO
  rintro (_ | _ | _ | _ | i) h h'
  ·omega
  ·exact ⟨s4m,x0.lo,x1.hi,_,_,_,_,s8j,rfl,n3,n2l,rfl,rfl,h5v⟩
  ·exact ⟨s8j,x0.hi,x1.lo,_,_,_,_,s9j,rfl,n6,n9,rfl,rfl,h7v⟩
  ·exact ⟨s9j,x0.hi,x1.hi,_,_,_,_,s0k,rfl,n6,n2l,rfl,rfl,h9v⟩
  ·omega
 refine rf (N:=4) (n0:=w.heap.size) (encs:=(encs (.bool x0.lo.m.Neg:Value) (.slice A1 (sz x0.lo.m.Abs) c2:Value) (.int .i64 x0.lo.e:Value) (.bool x0.hi.m.Neg:Value) (.slice A4 (sz x0.hi.m.Abs) c5:Value) (.int .i64 x0.hi.e:Value) (.bool x1.lo.m.Neg:Value) (.slice A7 (sz x1.lo.m.Abs) c8:Value) (.int .i64 x1.lo.e:Value) (.bool x1.hi.m.Neg:Value) (.slice A0d (sz x1.hi.m.Abs) c1d:Value) (.int .i64 x1.hi.e:Value))) (I:=fun i w'=>Ext w w'∧w5.heap.size≤w'.heap.size∧Bx w' b1j 121 [.bool x0.lo.m.Neg,.slice A1 (sz x0.lo.m.Abs) c2,.int .i64 x0.lo.e,.bool x0.hi.m.Neg,.slice A4 (sz x0.hi.m.Abs) c5,.int .i64 x0.hi.e]∧Bx w' b2j 121 [.bool x1.lo.m.Neg,.slice A7 (sz x1.lo.m.Abs) c8,.int .i64 x1.lo.e,.bool x1.hi.m.Neg,.slice A0d (sz x1.hi.m.Abs) c1d,.int .i64 x1.hi.e]∧Bx w' b4j 29 [.bool false,.slice none 0 0,.int .i64 0,.bool false,.slice none 0 0,.int .i64 0]∧Bx w' b7g 121 [.bool x0.lo.m.Neg,.slice A1 (sz x0.lo.m.Abs) c2,.int .i64 x0.lo.e,.bool x0.hi.m.Neg,.slice A4 (sz x0.hi.m.Abs) c5,.int .i64 x0.hi.e]∧Bx w' b8g 121 [.bool x1.lo.m.Neg,.slice A7 (sz x1.lo.m.Abs) c8,.int .i64 x1.lo.e,.bool x1.hi.m.Neg,.slice A0d (sz x1.hi.m.Abs) c1d,.int .i64 x1.hi.e]∧Im w5 w' b9l (o1k i)) rfl OS X7j.size (Pk (.bool x0.lo.m.Neg:Value) (.slice A1 (sz x0.lo.m.Abs) c2:Value) (.int .i64 x0.lo.e:Value) (.bool x0.hi.m.Neg:Value) (.slice A4 (sz x0.hi.m.Abs) c5:Value) (.int .i64 x0.hi.e:Value) (.bool x1.lo.m.Neg:Value) (.slice A7 (sz x1.lo.m.Abs) c8:Value) (.int .i64 x1.lo.e:Value) (.bool x1.hi.m.Neg:Value) (.slice A0d (sz x1.hi.m.Abs) c1d:Value) (.int .i64 x1.hi.e:Value) b7g b8g _ (by rintro i W ⟨_,_,_,_,_,qa,qb,_⟩;exact ⟨qa,qb⟩)) (by rintro (_ | _ | _ | _)<;>rfl) ?_ ?_ ?_ ?_
 ·rintro i W W' ⟨hX,hK,q_b1j,q_b2j,q_b4j,q_b7g,q_b8g,hS⟩ hq
  exact ⟨belQ hX hq hX.size,nlt hK hq.size,q_b1j.quiet hq,q_b2j.quiet hq,q_b4j.quiet hq,q_b7g.quiet hq,q_b8g.quiet hq,sq_dyad_Times_1 hS hq⟩
 ·subst hO
  have q2w:=((q3j.ext E0f).ext E2e).ext E7d
  exact ⟨X7j,Nat.le_refl _,(q6j.ext E7d),q2w,((q7u.ext E2e).ext E7d),q2m,q3m,(q0v.ext E7d)⟩
 ·intro l i w8d hi hI
  obtain ⟨hX,hK,q1f,q2f,q7c,q3f,q4f,hS⟩:=hI
  rcases Nat.eq_zero_or_pos i with rfl | hpos
  ·subst hO
   skip
   have q5f:Bx w8d b9l 124 [.pointer none]:=hS
   unfold JC at h5m
   refine JS (actPQ rfl (by simp only [S0,S1];rfl)) ?_
   refine wpIn_seq_k fun K6m h6m=>Hs (by rfl) (fun ⟨_,_,h⟩=>h)<|Aw Ba fun b4a8 w2k E3w g7m q4w=>?_
   refine nrm ?_
   have g5a8:=nlt (nlt hX.size (Rd.refl w.heap.size w8d).size) g7m
   refine Ax BX rfl rfl q4w rfl rfl rfl rfl (by simp only [SP0,SP1,S0,S1,Nat.reduceAdd];rfl) fun w0b U5w q6w=>?_
   have F6b:=belU E3w U5w g7m
   have X8m:=(Rd.refl w.heap.size w8d).ext F6b
   refine Ad<|h6m _ _<|Hs (by rfl) (fun ⟨_,_,h⟩=>h)<|Aw Ba fun b6a8 w1b E7w g9m q8w=>?_
   refine nrm ?_
   have g7a8:=nlt (nlt hX.size X8m.size) g9m
   refine Ax BX rfl rfl q8w rfl rfl rfl rfl (by simp only [SP0,SP1,S0,S1,Nat.reduceAdd];rfl) fun w2b U9w q0x=>?_
   have F3b:=belU E7w U9w g9m
   have X3e:=X8m.ext F3b
   refine Ad ?_
   refine ⟨X3e,?_⟩
   intro w2d hq
   refine have hE1:=belR hX X3e hX.size;have hE2:=belQ hE1 hq hE1.size;wpIn_block<|wpIn_seq_k fun K0n h0n=>Hs (by rfl) (fun ⟨_,_,h⟩=>h)<|sV (Am AE rfl ((q6w.ext F3b).quiet hq) rfl) ?_
   refine sV (Am AE rfl (q0x.quiet hq) rfl) ?_
   have n1x:=(((n3.ext hX).ext F6b).ext F3b).quiet hq
   have n2x:=(((n9.ext hX).ext F6b).ext F3b).quiet hq
   obtain ⟨r0a,h8d,f2k⟩:=Ab h5m
   refine sc (Ae NN (by rfl)) (HP x0.lo x1.lo A1 c2 A7 c8 w2d (tbx (belR hE2 (Rd.refl w.heap.size w2d) hE2.size) hT) n1x n2x r0a h8d) ?_
   rintro _ w9g E0b ⟨A1b,c2b,rfl,n2d⟩
   refine nrm ?_
   have X9g:=(Rd.refl w.heap.size w2d).ext E0b
   refine Aw Ba fun b1n w1n E0h g6f q1h=>?_
   refine nrm ?_
   have g2h:=nlt (nlt (nlt (nlt hX.size X3e.size) hq.size) X9g.size) g6f
   refine Ax BX rfl rfl q1h rfl rfl rfl rfl (by simp only [SP0,SP1,S0,S1,Nat.reduceAdd];rfl) fun w0h U4e q1c=>?_
   have F8a:=belU E0h U4e g6f
   have X3h:=X9g.ext F8a
   refine Ad<|h0n _ _<|wpIn_seq_k fun K2n h2n=>wpIn_seq_k fun K3n h3n=>Hs (by rfl) (fun ⟨_,_,h⟩=>h)<|have q4c:=((((q5f.ext F6b).ext F3b).quiet hq).ext E0b).ext F8a;sV (Ag Fg rfl (Bx.cell q4c rfl)) ?_
   refine sV (OQ MD rfl) ?_
   refine Ad<|h3n _ _<|wpIn_cond_true (Aj (evb rfl rfl))<|Hs (by rfl) (fun ⟨_,_,h⟩=>h)<|sV (Am AE rfl q1c rfl) ?_
   refine sV (Am AE rfl q1c rfl) ?_
   refine sV (Bc (vals:=[(0,.agg #[.bool r0a.m.Neg,.slice A1b (sz r0a.m.Abs) c2b,.int .i64 r0a.e]),(1,.agg #[.bool r0a.m.Neg,.slice A1b (sz r0a.m.Abs) c2b,.int .i64 r0a.e])]) (cells:=[.bool r0a.m.Neg,.slice A1b (sz r0a.m.Abs) c2b,.int .i64 r0a.e,.bool r0a.m.Neg,.slice A1b (sz r0a.m.Abs) c2b,.int .i64 r0a.e]) (by rfl) (by kernel_rfl)) ?_
   refine BT rfl rfl fun b5c w6f E2a g5e q4d=>?_
   refine nrm ?_
   have g4n:=nlt (nlt (nlt (nlt hX.size X3e.size) hq.size) X3h.size) g5e
   have X3x:=X3h.ext E2a
   refine Ax Ox rfl rfl (q4c.ext E2a) rfl rfl rfl rfl (by simp only [SP0,SP1,S0,S1,Nat.reduceAdd];rfl) fun w1h U4b q7f=>?_
   have X4x:=X3x.upd U4b g1v (q4c.ext E2a)
   refine Ad<|h2n _ _<|wpIn_seq_k fun K5n h5n=>wpIn_seq_k fun K6n h6n=>Mo (by rfl) (fun ⟨_,_,h⟩=>h) [] 7 mo rfl fun w2h E4a S4h=>have X7n:=X4x.ext E4a;have ne8f:=(Bx.neT (q1c.ext E2a) (q4c.ext E2a) (by decide));dV 0 rfl (fun _ hw=>Am AE rfl ((((q1c.ext E2a).upd U4b ne8f).ext E4a).ext hw) rfl) S4h ?_
   refine dV 1 rfl (fun _ hw=>Ag Fg rfl (Bx.cell ((q7f.ext E4a).ext hw) rfl)) S4h ?_
   refine dA 2 rfl (fun _=>Bn rfl) ?_
   refine dA 3 rfl (fun _=>Ai (o':=0) Eg rfl rfl) ?_
   have ne6c:=(Bx.neT q4d (q4c.ext E2a) (by decide))
   refine dV 4 rfl (fun _ hw=>AH AE rfl (((q4d.upd U4b ne6c).ext E4a).ext hw) (by simp only [List.drop_zero,List.take_succ_cons,List.take_zero];rfl) rfl) S4h ?_
   have n3k:=(((n2d.ext F8a).ext E2a).upd U4b (q4c.ext E2a) (by decide)).ext E4a
   obtain ⟨r5x,h6x,f7x⟩:=Ab f2k
   refine dc 5 rfl (by kernel_rfl) (by rfl) (Ae IH (by rfl)) (CJ r0a r0a A1b c2b A1b c2b w2h (tbx (belR hE2 X7n hE2.size) hT) n3k n3k r5x h6x) ?_
   rintro _ w9f E5a rfl
   refine dnrm ?_
   have X8x:=X7n.ext E5a
   have S8a8:=S4h.trans E5a
   refine dab 6 rfl (by kernel_rfl) (fun _ _ _ h=>h) (by rfl) (fun _=>Cm rfl rfl) fun z5h hz5h=>?_
   refine dnrm ?_
   refine CU (by kernel_rfl) ?_
   refine h6n _ _ ?_
   obtain ⟨m9a8,h8n,f9x⟩:=Ab f7x
   refine Ke (fun l l' w'=>∃(t9n:Value) (t0o:Value) (t1o:Value) (t2o:Value),UpdS [b5c] w9f w'∧Bx w' b5c 121 [.bool r0a.m.Neg,.slice A1b (sz r0a.m.Abs) c2b,.int .i64 r0a.e,.bool r0a.m.Neg,.slice A1b (sz r0a.m.Abs) c2b,.int .i64 r0a.e]∧l'=((((l.set 32 t9n).set 33 t0o).set 34 t1o).set 35 t2o)) ?_ ?_
   ·rcases bft z5h with e0g | e0g
    ·have p0y:=zP hz5h e0g
     have f1y:=ifP p0y h8n
     refine wpIn_cond_true (Aj (evb rfl e0g))<|Hs (by rfl) (fun ⟨_,_,h⟩=>h)<|sV (Ag Fg rfl (Bx.cell ((q7f.ext E4a).ext E5a) rfl)) ?_
     have q2y:=(((q1c.ext E2a).upd U4b ne8f).ext E4a).ext E5a
     refine sV (Am AE rfl q2y rfl) ?_
     refine sV (Bn rfl) ?_
     refine sV (Ai (o':=0) Eg rfl rfl) ?_
     have q3y:=((q4d.upd U4b ne6c).ext E4a).ext E5a
     refine Ax BX rfl rfl q3y rfl rfl rfl rfl (by simp only [SP0,SP1,S0,S1,Nat.reduceAdd];rfl) fun w4e U4y q5y=>?_
     refine Ad ?_
     obtain rfl:=sj f1y
     exact ⟨_,rfl,(.pointer (some ⟨b5c,0,none⟩)),(.agg #[.bool r0a.m.Neg,.slice A1b (sz r0a.m.Abs) c2b,.int .i64 r0a.e]),(.pointer (some ⟨b5c,0,none⟩)),(.pointer (some ⟨b5c,0,none⟩)),((UpdS.refl _ _).upd U4y (.inl im0)),q5y,(by simp only [S0,S1]<;>rfl)⟩
    ·have p6y:=zN hz5h e0g
     have f7y:=ifN p6y h8n
     refine wpIn_cond_false (Aj (evb rfl e0g))<|wpIn_skip ?_
     have q8y:=((q4d.upd U4b ne6c).ext E4a).ext E5a
     obtain rfl:=sj f7y
     exact ⟨_,rfl,uu,uu,uu,uu,(UpdS.refl _ _),q8y,(by simp only [S0,S1]<;>rfl)⟩
   ·rintro l' w4e ⟨t9n,t0o,t1o,t2o,U3c,q1g,hq'⟩ l'' hl
    rw [hq'] at hl
    clear hq'
    simp only [S0,S1] at hl
    subst hl
    have X9y:=X8x.updS U3c (alc ⟨g4n,_,_,((q4d.upd U4b ne6c).ext E4a).ext E5a⟩ al0)
    refine h5n _ _<|wpIn_seq_k fun K3o h3o=>Mo (by rfl) (fun ⟨_,_,h⟩=>h) [] 7 mo rfl fun w1c E9b S6h=>have X4o:=X9y.ext E9b;have ne5o:=(Bx.neT ((((q1c.ext E2a).upd U4b ne8f).ext E4a).ext E5a) (((q4d.upd U4b ne6c).ext E4a).ext E5a) (by decide));dV 0 rfl (fun _ hw=>Am AE rfl (((((((q1c.ext E2a).upd U4b ne8f).ext E4a).ext E5a).updS U3c (nmc ne5o nm0)).ext E9b).ext hw) rfl) S6h ?_
    refine dV 1 rfl (fun _ hw=>Ag Fg rfl (Bx.cell (((((q7f.ext E4a).ext E5a).updS U3c (nmc (Ne.symm ne6c) nm0)).ext E9b).ext hw) rfl)) S6h ?_
    refine dA 2 rfl (fun _=>Bn rfl) ?_
    refine dA 3 rfl (fun _=>Ai (o':=3) EB rfl rfl) ?_
    refine dV 4 rfl (fun _ hw=>AH AE rfl ((q1g.ext E9b).ext hw) (by simp only [List.drop_succ_cons,List.drop_zero,List.take_succ_cons,List.take_zero];rfl) rfl) S6h ?_
    have n4k:RU w1c A1b c2b r0a.m.Abs:=((n3k.ext E5a).updS U3c (alc ⟨_,_,by decide,((q4d.upd U4b ne6c).ext E4a).ext E5a⟩ al0)).ext E9b
    obtain ⟨r0z,h1z,f2z⟩:=Ab f9x
    refine dc 5 rfl (by kernel_rfl) (by rfl) (Ae IH (by rfl)) (CJ r0a r0a A1b c2b A1b c2b w1c (tbx (belR hE2 X4o hE2.size) hT) n4k n4k r0z h1z) ?_
    rintro _ w3h E0c rfl
    refine dnrm ?_
    have X3z:=X4o.ext E0c
    have S0a9:=S6h.trans E0c
    refine dab 6 rfl (by kernel_rfl) (fun _ _ _ h=>h) (by rfl) (fun _=>Fs rfl rfl) fun z7h hz7h=>?_
    refine dnrm ?_
    refine CU (by kernel_rfl) ?_
    refine h3o _ _ ?_
    obtain ⟨m1a9,h2g,f8h⟩:=Ab f2z
    refine Ke (fun l l' w'=>∃(t5k:Value) (t6o:Value) (t7o:Value) (t8o:Value),UpdS [b5c] w3h w'∧Bx w' b5c 121 [.bool r0a.m.Neg,.slice A1b (sz r0a.m.Abs) c2b,.int .i64 r0a.e,.bool r0a.m.Neg,.slice A1b (sz r0a.m.Abs) c2b,.int .i64 r0a.e]∧l'=((((l.set 43 t5k).set 44 t6o).set 45 t7o).set 46 t8o)) ?_ ?_
    ·rcases bft z7h with e3g | e3g
     ·have p4z:=zP hz7h e3g
      have f5z:=ifP p4z h2g
      refine wpIn_cond_true (Aj (evb rfl e3g))<|Hs (by rfl) (fun ⟨_,_,h⟩=>h)<|have q6z:=((((q7f.ext E4a).ext E5a).updS U3c (nmc (Ne.symm ne6c) nm0)).ext E9b).ext E0c;sV (Ag Fg rfl (Bx.cell q6z rfl)) ?_
      have q7z:=((((((q1c.ext E2a).upd U4b ne8f).ext E4a).ext E5a).updS U3c (nmc ne5o nm0)).ext E9b).ext E0c
      refine sV (Am AE rfl q7z rfl) ?_
      refine sV (Bn rfl) ?_
      refine sV (Ai (o':=3) EB rfl rfl) ?_
      refine Ax BX rfl rfl ((q1g.ext E9b).ext E0c) rfl rfl rfl rfl (by simp only [SP0,SP1,S0,S1,Nat.reduceAdd];rfl) fun w8a U8z q9z=>?_
      refine Ad ?_
      obtain rfl:=sj f5z
      exact ⟨_,rfl,(.pointer (some ⟨b5c,0,none⟩)),(.agg #[.bool r0a.m.Neg,.slice A1b (sz r0a.m.Abs) c2b,.int .i64 r0a.e]),(.pointer (some ⟨b5c,0,none⟩)),(.pointer (some ⟨b5c,3,none⟩)),((UpdS.refl _ _).upd U8z (.inl im0)),q9z,(by simp only [S0,S1]<;>rfl)⟩
     ·have p0a0:=zN hz7h e3g
      have f1a0:=ifN p0a0 h2g
      refine wpIn_cond_false (Aj (evb rfl e3g))<|wpIn_skip ?_
      obtain rfl:=sj f1a0
      exact ⟨_,rfl,uu,uu,uu,uu,(UpdS.refl _ _),((q1g.ext E9b).ext E0c),(by simp only [S0,S1]<;>rfl)⟩
    ·rintro l' w8a ⟨t5k,t6o,t7o,t8o,U8c,q2a0,hq'⟩ l'' hl
     rw [hq'] at hl
     clear hq'
     simp only [S0,S1] at hl
     subst hl
     have X6k:=X3z.updS U8c (alc ⟨g4n,_,_,(q1g.ext E9b).ext E0c⟩ al0)
     have hE3:=belR hE2 X6k hE2.size
     have ne3a0:=(Bx.neT ((((((q1f.ext F6b).ext F3b).quiet hq).ext E0b).ext F8a).ext E2a) (q4c.ext E2a) (by decide))
     have ne9o:=(Bx.ne (((((q1f.ext F6b).ext F3b).quiet hq).ext E0b).ext F8a) g5e)
     have q4a0:=((((((((((((q1f.ext F6b).ext F3b).quiet hq).ext E0b).ext F8a).ext E2a).upd U4b ne3a0).ext E4a).ext E5a).updS U3c (nmc ne9o nm0)).ext E9b).ext E0c).updS U8c (nmc ne9o nm0)
     have ne5a0:=(Bx.neT ((((((q2f.ext F6b).ext F3b).quiet hq).ext E0b).ext F8a).ext E2a) (q4c.ext E2a) (by decide))
     have ne0p:=(Bx.ne (((((q2f.ext F6b).ext F3b).quiet hq).ext E0b).ext F8a) g5e)
     have q6a0:=((((((((((((q2f.ext F6b).ext F3b).quiet hq).ext E0b).ext F8a).ext E2a).upd U4b ne5a0).ext E4a).ext E5a).updS U3c (nmc ne0p nm0)).ext E9b).ext E0c).updS U8c (nmc ne0p nm0)
     have ne1p:=(Bx.neT ((((((q7c.ext F6b).ext F3b).quiet hq).ext E0b).ext F8a).ext E2a) (q4c.ext E2a) (by decide))
     have ne2p:=(Bx.neT (((((((((q7c.ext F6b).ext F3b).quiet hq).ext E0b).ext F8a).ext E2a).upd U4b ne1p).ext E4a).ext E5a) (((q4d.upd U4b ne6c).ext E4a).ext E5a) (by decide))
     have q7a0:=((((((((((((q7c.ext F6b).ext F3b).quiet hq).ext E0b).ext F8a).ext E2a).upd U4b ne1p).ext E4a).ext E5a).updS U3c (nmc ne2p nm0)).ext E9b).ext E0c).updS U8c (nmc ne2p nm0)
     have ne8a0:=(Bx.neT ((((((q3f.ext F6b).ext F3b).quiet hq).ext E0b).ext F8a).ext E2a) (q4c.ext E2a) (by decide))
     have ne3p:=(Bx.ne (((((q3f.ext F6b).ext F3b).quiet hq).ext E0b).ext F8a) g5e)
     have q9a0:=((((((((((((q3f.ext F6b).ext F3b).quiet hq).ext E0b).ext F8a).ext E2a).upd U4b ne8a0).ext E4a).ext E5a).updS U3c (nmc ne3p nm0)).ext E9b).ext E0c).updS U8c (nmc ne3p nm0)
     have ne0a1:=(Bx.neT ((((((q4f.ext F6b).ext F3b).quiet hq).ext E0b).ext F8a).ext E2a) (q4c.ext E2a) (by decide))
     have ne4p:=(Bx.ne (((((q4f.ext F6b).ext F3b).quiet hq).ext E0b).ext F8a) g5e)
     have q1a1:=((((((((((((q4f.ext F6b).ext F3b).quiet hq).ext E0b).ext F8a).ext E2a).upd U4b ne0a1).ext E4a).ext E5a).updS U3c (nmc ne4p nm0)).ext E9b).ext E0c).updS U8c (nmc ne4p nm0)
     have q2a1:=(((((q7f.ext E4a).ext E5a).updS U3c (nmc (Ne.symm ne6c) nm0)).ext E9b).ext E0c).updS U8c (nmc (Ne.symm ne6c) nm0)
     have n5p:RU w8a A1b c2b r0a.m.Abs:=(n4k.ext E0c).updS U8c (alc ⟨_,_,by decide,(q1g.ext E9b).ext E0c⟩ al0)
     obtain rfl:=sj f8h
     exact ⟨X6k,hE3,nlt (nlt (nlt hK X3e.size) hq.size) X6k.size,q4a0,q6a0,q7a0,q9a0,q1a1,⟨b5c,A1b,c2b,A1b,c2b,(nlt (nlt (nlt (nlt (nlt (nlt hK X3e.size) hq.size) E0b.size) E0h.size) (Nat.le_of_eq U4e.size.symm)) g5e),q2a1,q2a0,n5p,n5p⟩⟩
  ·obtain ⟨sr,x,y,AX,cX,AY,cY,s',he,nx,ny,ho,ho',hr1⟩:=hall1w i hpos hi
   rw [ho] at hS
   obtain ⟨bs,AS,cS,AT,cT,gbs,q5f,qs,n5,n6⟩:=hS
   unfold Gp at hr1
   have g00:w.heap.size≤bs:=nlt X7j.size gbs
   refine JS (actPQ he (by simp only [S0,S1];rfl)) ?_
   refine wpIn_seq_k fun K6p h6p=>Hs (by rfl) (fun ⟨_,_,h⟩=>h)<|Aw Ba fun b2a9 w2k E3a1 g7p q4a1=>?_
   refine nrm ?_
   have g3a9:=nlt (nlt hX.size (Rd.refl w.heap.size w8d).size) g7p
   refine Ax BX rfl rfl q4a1 rfl rfl rfl rfl (by simp only [SP0,SP1,S0,S1,Nat.reduceAdd];rfl) fun w0b U5a1 q6a1=>?_
   have F9a:=belU E3a1 U5a1 g7p
   have X8p:=(Rd.refl w.heap.size w8d).ext F9a
   refine Ad<|h6p _ _<|Hs (by rfl) (fun ⟨_,_,h⟩=>h)<|Aw Ba fun b4a9 w1b E7a1 g9p q8a1=>?_
   refine nrm ?_
   have g5a9:=nlt (nlt hX.size X8p.size) g9p
   refine Ax BX rfl rfl q8a1 rfl rfl rfl rfl (by simp only [SP0,SP1,S0,S1,Nat.reduceAdd];rfl) fun w2b U9a1 q0a2=>?_
   have F6a:=belU E7a1 U9a1 g9p
   have X9h:=X8p.ext F6a
   refine Ad ?_
   refine ⟨X9h,?_⟩
   intro w2d hq
   refine have hE1:=belR hX X9h hX.size;have hE2:=belQ hE1 hq hE1.size;wpIn_block<|wpIn_seq_k fun K0q h0q=>Hs (by rfl) (fun ⟨_,_,h⟩=>h)<|sV (Am AE rfl ((q6a1.ext F6a).quiet hq) rfl) ?_
   refine sV (Am AE rfl (q0a2.quiet hq) rfl) ?_
   have n1a2:=(((nx.ext hX).ext F9a).ext F6a).quiet hq
   have n2a2:=(((ny.ext hX).ext F9a).ext F6a).quiet hq
   obtain ⟨r9c,h3a2,f4a2⟩:=Ab hr1
   refine sc (Ae NN (by rfl)) (HP x y AX cX AY cY w2d (tbx (belR hE2 (Rd.refl w.heap.size w2d) hE2.size) hT) n1a2 n2a2 r9c h3a2) ?_
   rintro _ w9g E7b ⟨A9d,c0e,rfl,n7k⟩
   refine nrm ?_
   have X1q:=(Rd.refl w.heap.size w2d).ext E7b
   refine Aw Ba fun b6a9 w1n E5a2 g2q q6a2=>?_
   refine nrm ?_
   have g7a9:=nlt (nlt (nlt (nlt hX.size X9h.size) hq.size) X1q.size) g2q
   refine Ax BX rfl rfl q6a2 rfl rfl rfl rfl (by simp only [SP0,SP1,S0,S1,Nat.reduceAdd];rfl) fun w0h U7a2 q4g=>?_
   have F7a:=belU E5a2 U7a2 g2q
   have X8a2:=X1q.ext F7a
   refine Ad<|h0q _ _<|wpIn_seq_k fun K3q h3q=>wpIn_seq_k fun K4q h4q=>Hs (by rfl) (fun ⟨_,_,h⟩=>h)<|have q1e:=((((q5f.ext F9a).ext F6a).quiet hq).ext E7b).ext F7a;sV (Ag Fg rfl (Bx.cell q1e rfl)) ?_
   refine sV (PI MD rfl) ?_
   refine Ad<|h4q _ _<|wpIn_cond_false (Aj (evb rfl rfl))<|wpIn_skip<|h3q _ _<|wpIn_seq_k fun K5q h5q=>wpIn_seq_k fun K6q h6q=>Mo (by rfl) (fun ⟨_,_,h⟩=>h) [] 7 mo rfl fun w6f E1a S0i=>have X7q:=X8a2.ext E1a;dV 0 rfl (fun _ hw=>Am AE rfl ((q4g.ext E1a).ext hw) rfl) S0i ?_
   refine dV 1 rfl (fun _ hw=>Ag Fg rfl (Bx.cell ((q1e.ext E1a).ext hw) rfl)) S0i ?_
   refine dA 2 rfl (fun _=>Bn rfl) ?_
   refine dA 3 rfl (fun _=>Ai (o':=0) Eg rfl rfl) ?_
   refine dV 4 rfl (fun _ hw=>AH AE rfl (((((((qs.ext F9a).ext F6a).quiet hq).ext E7b).ext F7a).ext E1a).ext hw) (by simp only [List.drop_zero,List.take_succ_cons,List.take_zero];rfl) rfl) S0i ?_
   have n8q:=(((((n5.ext F9a).ext F6a).quiet hq).ext E7b).ext F7a).ext E1a
   obtain ⟨r9a2,h0a3,f1a3⟩:=Ab f4a2
   refine dc 5 rfl (by kernel_rfl) (by rfl) (Ae IH (by rfl)) (CJ r9c sr.lo A9d c0e AS cS w6f (tbx (belR hE2 X7q hE2.size) hT) ((n7k.ext F7a).ext E1a) n8q r9a2 h0a3) ?_
   rintro _ w1h E3a rfl
   refine dnrm ?_
   have X2a3:=X7q.ext E3a
   have S8a9:=S0i.trans E3a
   refine dab 6 rfl (by kernel_rfl) (fun _ _ _ h=>h) (by rfl) (fun _=>Cm rfl rfl) fun z1i hz1i=>?_
   refine dnrm ?_
   refine CU (by kernel_rfl) ?_
   refine h6q _ _ ?_
   obtain ⟨m5d,h9q,f3a3⟩:=Ab f1a3
   refine Ke (fun l l' w'=>∃(t0r:Value) (t1r:Value) (t2r:Value) (t3r:Value) (A6e:Option Addr) (c7e:Nat),UpdS [bs] w1h w'∧Bx w' bs 121 [.bool m5d.1,.slice A6e (sz m5d.2.1) c7e,.int .i64 m5d.2.2,.bool sr.hi.m.Neg,.slice AT (sz sr.hi.m.Abs) cT,.int .i64 sr.hi.e]∧RU w' A6e c7e m5d.2.1∧l'=((((l.set 32 t0r).set 33 t1r).set 34 t2r).set 35 t3r)) ?_ ?_
   ·rcases bft z1i with e5g | e5g
    ·have p4a3:=zP hz1i e5g
     have f5a3:=ifP p4a3 h9q
     refine wpIn_cond_true (Aj (evb rfl e5g))<|Hs (by rfl) (fun ⟨_,_,h⟩=>h)<|sV (Ag Fg rfl (Bx.cell ((q1e.ext E1a).ext E3a) rfl)) ?_
     refine sV (Am AE rfl ((q4g.ext E1a).ext E3a) rfl) ?_
     refine sV (Bn rfl) ?_
     refine sV (Ai (o':=0) Eg rfl rfl) ?_
     have q4r:=((((((qs.ext F9a).ext F6a).quiet hq).ext E7b).ext F7a).ext E1a).ext E3a
     refine Ax BX rfl rfl q4r rfl rfl rfl rfl (by simp only [SP0,SP1,S0,S1,Nat.reduceAdd];rfl) fun w2h U5r q6a3=>?_
     refine Ad ?_
     have n7a3:=(((n7k.ext F7a).ext E1a).ext E3a).upd U5r q4r (by decide)
     obtain rfl:=sj f5a3
     exact ⟨_,rfl,(.pointer (some ⟨bs,0,none⟩)),(.agg #[.bool r9c.m.Neg,.slice A9d (sz r9c.m.Abs) c0e,.int .i64 r9c.e]),(.pointer (some ⟨bs,0,none⟩)),(.pointer (some ⟨bs,0,none⟩)),A9d,c0e,((UpdS.refl _ _).upd U5r (.inl im0)),q6a3,n7a3,(by simp only [S0,S1]<;>rfl)⟩
    ·have p8a3:=zN hz1i e5g
     have f9a3:=ifN p8a3 h9q
     refine wpIn_cond_false (Aj (evb rfl e5g))<|wpIn_skip ?_
     have q0a4:=((((((qs.ext F9a).ext F6a).quiet hq).ext E7b).ext F7a).ext E1a).ext E3a
     obtain rfl:=sj f9a3
     exact ⟨_,rfl,uu,uu,uu,uu,AS,cS,(UpdS.refl _ _),q0a4,(n8q.ext E3a),(by simp only [S0,S1]<;>rfl)⟩
   ·rintro l' w2h ⟨t0r,t1r,t2r,t3r,A6e,c7e,U2c,q8e,n1a4,hq'⟩ l'' hl
    rw [hq'] at hl
    clear hq'
    simp only [S0,S1] at hl
    subst hl
    have X2a4:=X2a3.updS U2c (alc ⟨g00,_,_,((((((qs.ext F9a).ext F6a).quiet hq).ext E7b).ext F7a).ext E1a).ext E3a⟩ al0)
    refine h5q _ _<|wpIn_seq_k fun K6r h6r=>Mo (by rfl) (fun ⟨_,_,h⟩=>h) [] 7 mo rfl fun w9f E5b S2i=>have X7r:=X2a4.ext E5b;have ne8r:=(Bx.neT ((q4g.ext E1a).ext E3a) (((((((qs.ext F9a).ext F6a).quiet hq).ext E7b).ext F7a).ext E1a).ext E3a) (by decide));dV 0 rfl (fun _ hw=>Am AE rfl (((((q4g.ext E1a).ext E3a).updS U2c (nmc ne8r nm0)).ext E5b).ext hw) rfl) S2i ?_
    have ne3i:=(Bx.neT ((q1e.ext E1a).ext E3a) (((((((qs.ext F9a).ext F6a).quiet hq).ext E7b).ext F7a).ext E1a).ext E3a) (by decide))
    refine dV 1 rfl (fun _ hw=>Ag Fg rfl (Bx.cell (((((q1e.ext E1a).ext E3a).updS U2c (nmc ne3i nm0)).ext E5b).ext hw) rfl)) S2i ?_
    refine dA 2 rfl (fun _=>Bn rfl) ?_
    refine dA 3 rfl (fun _=>Ai (o':=3) EB rfl rfl) ?_
    refine dV 4 rfl (fun _ hw=>AH AE rfl ((q8e.ext E5b).ext hw) (by simp only [List.drop_succ_cons,List.drop_zero,List.take_succ_cons,List.take_zero];rfl) rfl) S2i ?_
    have n9r:RU w9f A9d c0e r9c.m.Abs:=((((n7k.ext F7a).ext E1a).ext E3a).updS U2c (alc ⟨_,_,by decide,((((((qs.ext F9a).ext F6a).quiet hq).ext E7b).ext F7a).ext E1a).ext E3a⟩ al0)).ext E5b
    have n0s:RU w9f AT cT sr.hi.m.Abs:=((((((((n6.ext F9a).ext F6a).quiet hq).ext E7b).ext F7a).ext E1a).ext E3a).updS U2c (alc ⟨_,_,by decide,((((((qs.ext F9a).ext F6a).quiet hq).ext E7b).ext F7a).ext E1a).ext E3a⟩ al0)).ext E5b
    obtain ⟨r3a4,h4a4,f5a4⟩:=Ab f3a3
    refine dc 5 rfl (by kernel_rfl) (by rfl) (Ae IH (by rfl)) (CJ r9c sr.hi A9d c0e AT cT w9f (tbx (belR hE2 X7r hE2.size) hT) n9r n0s r3a4 h4a4) ?_
    rintro _ w4e E8b rfl
    refine dnrm ?_
    have X6a4:=X7r.ext E8b
    have S9a9:=S2i.trans E8b
    refine dab 6 rfl (by kernel_rfl) (fun _ _ _ h=>h) (by rfl) (fun _=>Fs rfl rfl) fun z4i hz4i=>?_
    refine dnrm ?_
    refine CU (by kernel_rfl) ?_
    refine h6r _ _ ?_
    obtain ⟨m5i,h1s,f7a4⟩:=Ab f5a4
    refine Ke (fun l l' w'=>∃(t2s:Value) (t3s:Value) (t4s:Value) (t5s:Value) (A6i:Option Addr) (c7i:Nat),UpdS [bs] w4e w'∧Bx w' bs 121 [.bool m5d.1,.slice A6e (sz m5d.2.1) c7e,.int .i64 m5d.2.2,.bool m5i.1,.slice A6i (sz m5i.2.1) c7i,.int .i64 m5i.2.2]∧RU w' A6i c7i m5i.2.1∧l'=((((l.set 43 t2s).set 44 t3s).set 45 t4s).set 46 t5s)) ?_ ?_
    ·rcases bft z4i with e6g | e6g
     ·have p8a4:=zP hz4i e6g
      have f9a4:=ifP p8a4 h1s
      refine wpIn_cond_true (Aj (evb rfl e6g))<|Hs (by rfl) (fun ⟨_,_,h⟩=>h)<|have q0a5:=((((q1e.ext E1a).ext E3a).updS U2c (nmc ne3i nm0)).ext E5b).ext E8b;sV (Ag Fg rfl (Bx.cell q0a5 rfl)) ?_
      have q1a5:=((((q4g.ext E1a).ext E3a).updS U2c (nmc ne8r nm0)).ext E5b).ext E8b
      refine sV (Am AE rfl q1a5 rfl) ?_
      refine sV (Bn rfl) ?_
      refine sV (Ai (o':=3) EB rfl rfl) ?_
      refine Ax BX rfl rfl ((q8e.ext E5b).ext E8b) rfl rfl rfl rfl (by simp only [SP0,SP1,S0,S1,Nat.reduceAdd];rfl) fun w1c U6s q2a5=>?_
      refine Ad ?_
      have n3a5:=(n9r.ext E8b).upd U6s ((q8e.ext E5b).ext E8b) (by decide)
      obtain rfl:=sj f9a4
      exact ⟨_,rfl,(.pointer (some ⟨bs,0,none⟩)),(.agg #[.bool r9c.m.Neg,.slice A9d (sz r9c.m.Abs) c0e,.int .i64 r9c.e]),(.pointer (some ⟨bs,0,none⟩)),(.pointer (some ⟨bs,3,none⟩)),A9d,c0e,((UpdS.refl _ _).upd U6s (.inl im0)),q2a5,n3a5,(by simp only [S0,S1]<;>rfl)⟩
     ·have p4a5:=zN hz4i e6g
      have f5a5:=ifN p4a5 h1s
      refine wpIn_cond_false (Aj (evb rfl e6g))<|wpIn_skip ?_
      obtain rfl:=sj f5a5
      exact ⟨_,rfl,uu,uu,uu,uu,AT,cT,(UpdS.refl _ _),((q8e.ext E5b).ext E8b),(n0s.ext E8b),(by simp only [S0,S1]<;>rfl)⟩
    ·rintro l' w1c ⟨t2s,t3s,t4s,t5s,A6i,c7i,U6d,q6a5,n7a5,hq'⟩ l'' hl
     rw [hq'] at hl
     clear hq'
     simp only [S0,S1] at hl
     subst hl
     have X8k:=X6a4.updS U6d (alc ⟨g00,_,_,(q8e.ext E5b).ext E8b⟩ al0)
     have hE3:=belR hE2 X8k hE2.size
     have ne7s:=(Bx.ne (q6j.ext E7d) gbs)
     have q8a5:=((((((((((q1f.ext F9a).ext F6a).quiet hq).ext E7b).ext F7a).ext E1a).ext E3a).updS U2c (nmc ne7s nm0)).ext E5b).ext E8b).updS U6d (nmc ne7s nm0)
     have ne8s:=(Bx.ne (((q3j.ext E0f).ext E2e).ext E7d) gbs)
     have q9a5:=((((((((((q2f.ext F9a).ext F6a).quiet hq).ext E7b).ext F7a).ext E1a).ext E3a).updS U2c (nmc ne8s nm0)).ext E5b).ext E8b).updS U6d (nmc ne8s nm0)
     have ne9s:=(Bx.neT (((((((q7c.ext F9a).ext F6a).quiet hq).ext E7b).ext F7a).ext E1a).ext E3a) (((((((qs.ext F9a).ext F6a).quiet hq).ext E7b).ext F7a).ext E1a).ext E3a) (by decide))
     have q0a6:=((((((((((q7c.ext F9a).ext F6a).quiet hq).ext E7b).ext F7a).ext E1a).ext E3a).updS U2c (nmc ne9s nm0)).ext E5b).ext E8b).updS U6d (nmc ne9s nm0)
     have ne0t:=(Bx.ne q2m gbs)
     have q1a6:=((((((((((q3f.ext F9a).ext F6a).quiet hq).ext E7b).ext F7a).ext E1a).ext E3a).updS U2c (nmc ne0t nm0)).ext E5b).ext E8b).updS U6d (nmc ne0t nm0)
     have ne1t:=(Bx.ne q3m gbs)
     have q2a6:=((((((((((q4f.ext F9a).ext F6a).quiet hq).ext E7b).ext F7a).ext E1a).ext E3a).updS U2c (nmc ne1t nm0)).ext E5b).ext E8b).updS U6d (nmc ne1t nm0)
     have q3a6:=(((((q1e.ext E1a).ext E3a).updS U2c (nmc ne3i nm0)).ext E5b).ext E8b).updS U6d (nmc ne3i nm0)
     have n4a6:RU w1c A6e c7e m5d.2.1:=((n1a4.ext E5b).ext E8b).updS U6d (alc ⟨_,_,by decide,(q8e.ext E5b).ext E8b⟩ al0)
     obtain rfl:=sj f7a4
     exact ⟨X8k,hE3,nlt (nlt (nlt hK X9h.size) hq.size) X8k.size,q8a5,q9a5,q0a6,q1a6,q2a6,(by rw [ho'];exact ⟨bs,A6e,c7e,A6i,c7i,gbs,q3a6,q6a5,n4a6,n7a5⟩)⟩
 ·intro D w2g hD hI hk0
  subst hO
  obtain ⟨hX,hK,q1f,q2f,q7c,q3f,q4f,hS⟩:=hI
  obtain ⟨bs,AS,cS,AT,cT,gbs,q5f,qs,n5,n6⟩:=hS
  have hk:Df w2g D:=hk0
  refine h0m _ _<|wp_seq_k fun K2t h2t=>Af<|sV (Ag Fg rfl (Bx.cell q5f rfl)) ?_
  refine sV (Bn rfl) ?_
  refine sV (Am Ka rfl qs rfl) ?_
  refine sV (Aa rfl) ?_
  obtain ⟨r9k,h5a6,f6a6⟩:=Ab f0w
  refine sc (Ae en_118 (by rfl)) (c_dyad_span_outward s0k x2 AS cS AT cT w2g (tbx hX hT) n5 n6 r9k h5a6) ?_
  rintro _ w8h E9e ⟨A3t,c4t,A5t,c6t,rfl,n7t,n8t⟩
  refine nrm ?_
  have X8i:=xtr hX E9e
  have hk9t:=Df.ext hk E9e
  rcases AG f6a6 with ⟨r0l,h1l,f7a6⟩ | ⟨r0l,h1l,rfl⟩
  ·refine scO (Ae Lk (by rfl)) (Fk r9k A3t c4t A5t c6t w8h (tbx X8i hT) n7t n8t (.ok r0l) h1l) ?_
   rintro _ w8c E3d ⟨A8a6,c9a6,A0a7,c1a7,rfl,n2a7,n3a7⟩
   refine nrm ?_
   have X4a7:=xtr X8i E3d
   have hk5a7:=Df.ext hk9t E3d
   refine Ax GJ rfl rfl ((q7c.ext E9e).ext E3d) rfl rfl rfl rfl (by simp only [SP0,SP1,S0,S1,Nat.reduceAdd];rfl) fun w5k U9i q6a7=>?_
   have X0u:=belU X4a7 U9i g8u
   have hk1u:=Df.upd hk5a7 U9i ((q7c.ext E9e).ext E3d)
   refine Ad<|h2t _ _<|wp_ret ?_
   have Q0j:=Quiet.put (n0:=w.heap.size) (.deferred none) hk1u hD rfl
   have hXE:=belQ X0u Q0j X0u.size
   have n7a7:=(n2a7.upd U9i ((q7c.ext E9e).ext E3d) (by decide)).quiet Q0j
   have n8a7:=(n3a7.upd U9i ((q7c.ext E9e).ext E3d) (by decide)).quiet Q0j
   obtain rfl:=sj f7a6
   exact Px hk1u rfl (Res.cellN rfl CP (q6a7.quiet Q0j) rfl rfl Res.nil) (DT hXE ⟨A8a6,c9a6,A0a7,c1a7,rfl,n7a7,n8a7⟩)
  ·refine scP (Ae Lk (by rfl)) (Fk r9k A3t c4t A5t c6t w8h (tbx X8i hT) n7t n8t (.error r0l) h1l) fun w8c E3d=>?_
   have X2u:=xtr X8i E3d
   have hk3u:=Df.ext hk9t E3d
   exact panM hk3u (BP (belQ X2u (Quiet.put _ hk3u hD rfl) X2u.size))
theorem c_dyad_made_Span__dyad_Times_1 (x0:AI) (x1:AI) (x2:Int) (A1:Option Addr) (c2:Nat) (A4:Option Addr) (c5:Nat) (A7:Option Addr) (c8:Nat) (A6a:Option Addr) (c8a:Nat) (w:World) (hT:TB w) (n3:RLu w A1 c2 x0.Lo.Man.Abs) (n6:RLu w A4 c5 x0.Hi.Man.Abs) (n9:RLu w A7 c8 x1.Lo.Man.Abs) (n4b:RLu w A6a c8a x1.Hi.Man.Abs) (r:AC × Int) (hr:DZ x0 x1 x2=some r) :
  Calls Tryz.prog 100 #[.agg #[.bool x0.Lo.Man.Neg,.slice A1 x0.Lo.Man.Abs.length c2,.int .i64 x0.Lo.Exp,.bool x0.Hi.Man.Neg,.slice A4 x0.Hi.Man.Abs.length c5,.int .i64 x0.Hi.Exp],.agg #[.bool x1.Lo.Man.Neg,.slice A7 x1.Lo.Man.Abs.length c8,.int .i64 x1.Lo.Exp,.bool x1.Hi.Man.Neg,.slice A6a x1.Hi.Man.Abs.length c8a,.int .i64 x1.Hi.Exp],.int .i64 x2,.func (.func 116) #[] #[]] w (Ret IF w r):=by
 unfold DZ at hr
 obtain ⟨q0,hq0,hr0⟩:=Ab hr
 unfold FG at hq0
 go_enter_defers Tryz.func100,Tryz.ntmps100
 refine wp_seq_k fun K9d h9d=>Af<|BT rfl rfl fun b9l w1 E5e g0m q1h=>?_
 refine nrm ?_
 refine BT rfl rfl fun b1m w2 E6e g2h q7e=>?_
 refine nrm ?_
 have g2m:=nlt E5e.size g2h
 have X8e:=xtr E5e E6e
 refine Aw Hp fun b5b w3 E6b g3h q7b=>?_
 refine nrm ?_
 have g8b:=nlt X8e.size g3h
 have X9e:=xtr X8e E6b
 refine Aw Iw fun b9b w4 E0b g4h q3b=>?_
 refine nrm ?_
 have g0c:=nlt X9e.size g4h
 have X0f:=xtr X9e E0b
 refine Ad<|h9d _ _<|wp_seq_k fun K1f h1f=>Af<|Ha (vs:=[.pointer (some ⟨b5b,0,none⟩),.pointer (some ⟨b9b,0,none⟩)]) (by rfl) (by rfl)<|Ad<|h1f _ _<|wp_seq_k fun K2f h2f=>Af<|have q3f:=((q1h.ext E6e).ext E6b).ext E0b;sV (Am CP rfl q3f rfl) ?_
 refine sV (Am CP rfl ((q7e.ext E6b).ext E0b) rfl) ?_
 refine Ct (vals:=[(0,.agg #[.bool x0.Lo.Man.Neg,.slice A1 x0.Lo.Man.Abs.length c2,.int .i64 x0.Lo.Exp,.bool x0.Hi.Man.Neg,.slice A4 x0.Hi.Man.Abs.length c5,.int .i64 x0.Hi.Exp]),(1,.agg #[.bool x1.Lo.Man.Neg,.slice A7 x1.Lo.Man.Abs.length c8,.int .i64 x1.Lo.Exp,.bool x1.Hi.Man.Neg,.slice A6a x1.Hi.Man.Abs.length c8a,.int .i64 x1.Hi.Exp])]) (cs:=[.bool x0.Lo.Man.Neg,.slice A1 x0.Lo.Man.Abs.length c2,.int .i64 x0.Lo.Exp,.bool x0.Hi.Man.Neg,.slice A4 x0.Hi.Man.Abs.length c5,.int .i64 x0.Hi.Exp,.bool x1.Lo.Man.Neg,.slice A7 x1.Lo.Man.Abs.length c8,.int .i64 x1.Lo.Exp,.bool x1.Hi.Man.Neg,.slice A6a x1.Hi.Man.Abs.length c8a,.int .i64 x1.Hi.Exp]) Ln GJ Hp (by rfl) (by decide) (by kernel_rfl) fun b4f w5 E3a g5h q5f=>?_
 refine nrm ?_
 have g3m:=nlt X0f.size g5h
 have X4a:=xtr X0f E3a
 rcases AG hq0 with ⟨r1c,h0e,f6h⟩ | ⟨r1c,h0e,rfl⟩
 ·refine scO (Ae Le (by rfl)) (EN x0 x1 b4f A1 c2 A4 c5 A7 c8 A6a c8a w5 (tbx X4a hT) (n3.ext X4a) (n6.ext X4a) (n9.ext X4a) (n4b.ext X4a) q5f (.ok r1c) h0e) ?_
  rintro _ w6 E2a rfl
  refine nrm ?_
  have X2c:=xtr X4a E2a
  refine Ad<|h2f _ _<|wp_seq_k fun K6f h6f=>Af<|sV (Aa rfl) ?_
  rcases AG f6h with ⟨r3c,h1e,f7h⟩ | ⟨r3c,h1e,rfl⟩
  ·refine scO (Ae Jk (by rfl)) (EH x2 w6 (tbx X2c hT)  (.ok r3c) h1e) ?_
   rintro _ w7 E5a rfl
   refine nrm ?_
   have X8h:=xtr X2c E5a
   refine Ad<|h6f _ _<|wp_seq_k fun K7f h7f=>Ei [7,8] 9 mo rfl fun w8 E1b S2e=>?_
   have X4c:=xtr X8h E1b
   refine dA 0 rfl (fun _=>Aa rfl) ?_ (hQ:=fun _ _ _ h=>dq (rs:=[.cell 8 29,.cell 9 33]) rfl (by decide) h)
   refine dV 1 rfl (fun _ hw=>Am CP rfl (((((q3f.ext E3a).ext E2a).ext E5a).ext E1b).ext hw) rfl) S2e ?_ (hQ:=fun _ _ _ h=>dq (rs:=[.cell 8 29,.cell 9 33]) rfl (by decide) h)
   refine dV 3 rfl (fun _ hw=>Am CP rfl (((((((q7e.ext E6b).ext E0b).ext E3a).ext E2a).ext E5a).ext E1b).ext hw) rfl) S2e ?_ (hQ:=fun _ _ _ h=>dq (rs:=[.cell 8 29,.cell 9 33]) rfl (by decide) h)
   refine dA 5 rfl (fun _=>Aa rfl) ?_ (hQ:=fun _ _ _ h=>dq (rs:=[.cell 8 29,.cell 9 33]) rfl (by decide) h)
   obtain ⟨m8f,h9h,f0i⟩:=Ab f7h
   have hx9f:=BD h9h
   have n1i:RU w8 A1 c2 m8f:=by unfold RU;rw [hx9f];exact (n3.ext X4c)
   obtain ⟨m0g,h2i,f3i⟩:=Ab f0i
   have hx1g:=BD h2i
   have n4i:RU w8 A4 c5 m0g:=by unfold RU;rw [hx1g];exact (n6.ext X4c)
   obtain ⟨r0a,h5i,f6i⟩:=Ab f3i
   refine dc 2 rfl (by kernel_rfl) (by rfl) (Ae Lg (by simp only [sz,hx9f,hx1g];rfl)) (Gr (⟨(⟨(⟨x0.Lo.Man.Neg,m8f⟩:Ah),x0.Lo.Exp⟩:Al),(⟨(⟨x0.Hi.Man.Neg,m0g⟩:Ah),x0.Hi.Exp⟩:Al)⟩:AC) A1 c2 A4 c5 w8 (tbx X4c hT) n1i n4i r0a h5i) ?_
   rintro _ w9 E2b ⟨A5c,c6c,A7c,c8c,rfl,n2g,n3g⟩
   refine dnrm ?_
   have X9c:=xtr X4c E2b
   have S7i:=S2e.trans E2b
   obtain ⟨m4g,h8i,f9i⟩:=Ab f6i
   have hx5g:=BD h8i
   have n0j:RU w9 A7 c8 m4g:=by unfold RU;rw [hx5g];exact (n9.ext X9c)
   obtain ⟨m6g,h1j,f2j⟩:=Ab f9i
   have hx7g:=BD h1j
   have n3j:RU w9 A6a c8a m6g:=by unfold RU;rw [hx7g];exact (n4b.ext X9c)
   obtain ⟨r1a,h4j,f5j⟩:=Ab f2j
   refine dc 4 rfl (by kernel_rfl) (by rfl) (Ae Lg (by simp only [sz,hx5g,hx7g];rfl)) (Gr (⟨(⟨(⟨x1.Lo.Man.Neg,m4g⟩:Ah),x1.Lo.Exp⟩:Al),(⟨(⟨x1.Hi.Man.Neg,m6g⟩:Ah),x1.Hi.Exp⟩:Al)⟩:AC) A7 c8 A6a c8a w9 (tbx X9c hT) n0j n3j r1a h4j) ?_
   rintro _ w6a E7a ⟨A0d,c1d,A2d,c3d,rfl,n8g,n9g⟩
   refine dnrm ?_
   have X4d:=xtr X9c E7a
   have S6j:=S7i.trans E7a
   rcases AG f5j with ⟨r5d,h3e,f7j⟩ | ⟨r5d,h3e,rfl⟩
   ·refine dcO 6 rfl (by kernel_rfl) (by rfl) (FB (first:=[]) (cap:=[]) (args:=[.agg #[.bool r0a.lo.m.Neg,.slice A5c (sz r0a.lo.m.Abs) c6c,.int .i64 r0a.lo.e,.bool r0a.hi.m.Neg,.slice A7c (sz r0a.hi.m.Abs) c8c,.int .i64 r0a.hi.e],.agg #[.bool r1a.lo.m.Neg,.slice A0d (sz r1a.lo.m.Abs) c1d,.int .i64 r1a.lo.e,.bool r1a.hi.m.Neg,.slice A2d (sz r1a.hi.m.Abs) c3d,.int .i64 r1a.hi.e],.int .i64 x2]) OI (by rfl) (by rfl)) (JV r0a r1a x2 A5c c6c A7c c8c A0d c1d A2d c3d w6a (tbx X4d hT) (n2g.ext E7a) (n3g.ext E7a) n8g n9g (.ok r5d) h3e) ?_
    rintro _ w8a E9a ⟨A8j,c9j,A0k,c1k,rfl,n2k,n3k⟩
    refine dnrm ?_
    have X4k:=xtr X4d E9a
    have S4m:=S6j.trans E9a
    have q6d:=(((((((q7b.ext E0b).ext E3a).ext E2a).ext E5a).ext E1b).ext E2b).ext E7a).ext E9a
    refine dk 7 rfl (by kernel_rfl) (by decide) (by rfl) GJ rfl rfl q6d rfl rfl rfl rfl (by simp only [SP0,SP1,S0,S1,Nat.reduceAdd];rfl) fun w4b U7d q5k=>?_
    have X6k:=belU X4k U7d g8b
    have ne0h:=(Bx.neT (((((((q3b.ext E3a).ext E2a).ext E5a).ext E1b).ext E2b).ext E7a).ext E9a) q6d (by decide))
    have q4e:=(((((((q3b.ext E3a).ext E2a).ext E5a).ext E1b).ext E2b).ext E7a).ext E9a).upd U7d ne0h
    refine dk 8 rfl (by kernel_rfl) (by decide) (by rfl) GA rfl rfl q4e rfl rfl rfl rfl (by simp only [SP0,SP1,S0,S1,Nat.reduceAdd];rfl) fun w9d U8d q7k=>?_
    have X8k:=belU X6k U8d g0c
    refine CU (by kernel_rfl) ?_
    refine h7f _ _<|wp_ret ?_
    have n9k:=(n2k.upd U7d q6d (by decide)).upd U8d q4e (by decide)
    have n0l:=(n3k.upd U7d q6d (by decide)).upd U8d q4e (by decide)
    obtain rfl:=sj f7j
    obtain rfl:=sj hr0
    exact LH Gu Ip rfl (Res.cellN rfl CP (q5k.upd U8d (Ne.symm ne0h)) rfl rfl (Res.cell1 rfl Ck (Bx.cell q7k rfl) Res.nil)) (Ak X8k ⟨A8j,c9j,A0k,c1k,rfl,n9k,n0l⟩)
   ·refine dcP 6 rfl (by kernel_rfl) (by rfl) (FB (first:=[]) (cap:=[]) (args:=[.agg #[.bool r0a.lo.m.Neg,.slice A5c (sz r0a.lo.m.Abs) c6c,.int .i64 r0a.lo.e,.bool r0a.hi.m.Neg,.slice A7c (sz r0a.hi.m.Abs) c8c,.int .i64 r0a.hi.e],.agg #[.bool r1a.lo.m.Neg,.slice A0d (sz r1a.lo.m.Abs) c1d,.int .i64 r1a.lo.e,.bool r1a.hi.m.Neg,.slice A2d (sz r1a.hi.m.Abs) c3d,.int .i64 r1a.hi.e],.int .i64 x2]) OI (by rfl) (by rfl)) (JV r0a r1a x2 A5c c6c A7c c8c A0d c1d A2d c3d w6a (tbx X4d hT) (n2g.ext E7a) (n3g.ext E7a) n8g n9g (.error r5d) h3e) fun w8a E9a=>?_
    have X1l:=xtr X4d E9a
    have q2l:=(((((((q7b.ext E0b).ext E3a).ext E2a).ext E5a).ext E1b).ext E2b).ext E7a).ext E9a
    have q3l:=((((((q3b.ext E3a).ext E2a).ext E5a).ext E1b).ext E2b).ext E7a).ext E9a
    refine HR Ip (Cp b5b b9b (.bool false:Value) (.slice none 0 0:Value) (.int .i64 0:Value) (.bool false:Value) (.slice none 0 0:Value) (.int .i64 0:Value) (.int .i64 0:Value) r5d q2l q3l) rfl ?_
    rintro w9 ⟨u9,q9,q9'⟩
    obtain rfl:=sj hr0
    exact ⟨_,(Res.cellN rfl CP q9 rfl rfl (Res.cell1 rfl Ck (Bx.cell q9' rfl) Res.nil)),Ak (u9.toExt X1l g8b g0c) ⟨none,0,none,0,rfl,RU.nil _,RU.nil _⟩⟩
  ·refine scP (Ae Jk (by rfl)) (EH x2 w6 (tbx X2c hT)  (.error r3c) h1e) fun w7 E5a=>?_
   have X4l:=xtr X2c E5a
   have q5l:=(((q7b.ext E0b).ext E3a).ext E2a).ext E5a
   have q6l:=((q3b.ext E3a).ext E2a).ext E5a
   refine HR Ip (Cp b5b b9b (.bool false:Value) (.slice none 0 0:Value) (.int .i64 0:Value) (.bool false:Value) (.slice none 0 0:Value) (.int .i64 0:Value) (.int .i64 0:Value) r3c q5l q6l) rfl ?_
   rintro w9 ⟨u9,q9,q9'⟩
   obtain rfl:=sj hr0
   exact ⟨_,(Res.cellN rfl CP q9 rfl rfl (Res.cell1 rfl Ck (Bx.cell q9' rfl) Res.nil)),Ak (u9.toExt X4l g8b g0c) ⟨none,0,none,0,rfl,RU.nil _,RU.nil _⟩⟩
 ·refine scP (Ae Le (by rfl)) (EN x0 x1 b4f A1 c2 A4 c5 A7 c8 A6a c8a w5 (tbx X4a hT) (n3.ext X4a) (n6.ext X4a) (n9.ext X4a) (n4b.ext X4a) q5f (.error r1c) h0e) fun w6 E2a=>?_
  have X7l:=xtr X4a E2a
  have q8l:=((q7b.ext E0b).ext E3a).ext E2a
  refine HR Ip (Cp b5b b9b (.bool false:Value) (.slice none 0 0:Value) (.int .i64 0:Value) (.bool false:Value) (.slice none 0 0:Value) (.int .i64 0:Value) (.int .i64 0:Value) r1c q8l ((q3b.ext E3a).ext E2a)) rfl ?_
  rintro w9 ⟨u9,q9,q9'⟩
  obtain rfl:=sj hr0
  exact ⟨_,(Res.cellN rfl CP q9 rfl rfl (Res.cell1 rfl Ck (Bx.cell q9' rfl) Res.nil)),Ak (u9.toExt X7l g8b g0c) ⟨none,0,none,0,rfl,RU.nil _,RU.nil _⟩⟩
theorem c_dyad_Times (x0:AI) (x1:AI) (x2:Int) (A1:Option Addr) (c2:Nat) (A4:Option Addr) (c5:Nat) (A7:Option Addr) (c8:Nat) (A2a:Option Addr) (c3a:Nat) (w:World) (hT:TB w) (n3:RLu w A1 c2 x0.Lo.Man.Abs) (n6:RLu w A4 c5 x0.Hi.Man.Abs) (n9:RLu w A7 c8 x1.Lo.Man.Abs) (n2b:RLu w A2a c3a x1.Hi.Man.Abs) (r:AC × Int) (hr:Jy x0 x1 x2=some r) :
  Calls Tryz.prog 32 #[.agg #[.bool x0.Lo.Man.Neg,.slice A1 x0.Lo.Man.Abs.length c2,.int .i64 x0.Lo.Exp,.bool x0.Hi.Man.Neg,.slice A4 x0.Hi.Man.Abs.length c5,.int .i64 x0.Hi.Exp],.agg #[.bool x1.Lo.Man.Neg,.slice A7 x1.Lo.Man.Abs.length c8,.int .i64 x1.Lo.Exp,.bool x1.Hi.Man.Neg,.slice A2a x1.Hi.Man.Abs.length c3a,.int .i64 x1.Hi.Exp],.int .i64 x2] w (Ret IF w r):=by
 unfold Jy at hr
 go_enter Tryz.func32,Tryz.ntmps32
 refine wp_seq_k fun K7a h7a=>Af<|BT rfl rfl fun b2d w1 E8a g3d q3b=>?_
 refine nrm ?_
 refine BT rfl rfl fun b4d w2 E9a g4b q5b=>?_
 refine nrm ?_
 have g5d:=nlt E8a.size g4b
 have X0b:=xtr E8a E9a
 refine Aw Hp fun b6d w3 E4a g6b q5a=>?_
 refine nrm ?_
 have g7b:=nlt X0b.size g6b
 have X0a:=xtr X0b E4a
 refine sV (Ac rfl) ?_
 refine Ad<|h7a _ _<|wp_seq_k fun K1b h1b=>Af<|sV (Am CP rfl ((q3b.ext E9a).ext E4a) rfl) ?_
 refine sV (Am CP rfl (q5b.ext E4a) rfl) ?_
 refine sV (Aa rfl) ?_
 obtain ⟨r8b,h9b,f0c⟩:=Ab hr
 refine sc (Ae Nu (by rfl)) (c_dyad_made_Span__dyad_Times_1 x0 x1 x2 A1 c2 A4 c5 A7 c8 A2a c3a w3 (tbx X0a hT) (n3.ext X0a) (n6.ext X0a) (n9.ext X0a) (n2b.ext X0a) r8b h9b) ?_
 rintro _ w4 E1a ⟨A1c,c2c,A3c,c4c,rfl,n5c,n6c⟩
 refine nrm ?_
 have X7c:=xtr X0a E1a
 refine sV (Ap rfl rfl) ?_
 refine sV (Ap rfl rfl) ?_
 refine Ax GJ rfl rfl (q5a.ext E1a) rfl rfl rfl rfl (by simp only [SP0,SP1,S0,S1,Nat.reduceAdd];rfl) fun w5 U6a q8c=>?_
 have X9c:=belU X7c U6a g7b
 refine sV (Ac rfl) ?_
 refine Ad<|h1b _ _<|wp_ret ?_
 have n0d:=n5c.upd U6a (q5a.ext E1a) (by decide)
 have n1d:=n6c.upd U6a (q5a.ext E1a) (by decide)
 obtain rfl:=sj f0c
 exact fin rfl (Res.cellN rfl CP q8c rfl rfl (Res.tmp rfl Res.nil)) (Ak X9c ⟨A1c,c2c,A3c,c4c,rfl,n0d,n1d⟩)
theorem c_sorobanref03_SameInt (x0:Ah) (x1:Ah) (A1:Option Addr) (c2:Nat) (A4:Option Addr) (c5:Nat) (w:World) (hT:TB w) (n3:RU w A1 c2 x0.Abs) (n6:RU w A4 c5 x1.Abs) (r:Bool) (hr:CS x0 x1=some r) :
  Calls Tryz.prog 86 #[.agg #[.bool x0.Neg,.slice A1 (sz x0.Abs) c2],.agg #[.bool x1.Neg,.slice A4 (sz x1.Abs) c5]] w (Ret Fy w r):=by
 unfold CS at hr
 go_enter Tryz.func86,Tryz.ntmps86
 refine wp_seq_k fun K7 h7=>Af<|BT rfl rfl fun b8 w1 E9 g6c q4a=>?_
 refine nrm ?_
 refine BT rfl rfl fun b4b w2 E3a g5b q5a=>?_
 refine nrm ?_
 have g7c:=nlt E9.size g5b
 have X1a:=xtr E9 E3a
 refine sV (Ac rfl) ?_
 refine Ad<|h7 _ _<|wp_seq_k fun K6a h6a=>Af<|sV (Ai (o':=0) Ia rfl rfl) ?_
 refine sV (Ag Ik rfl (Bx.cell (q4a.ext E3a) rfl)) ?_
 refine sV (Ai (o':=0) Ia rfl rfl) ?_
 refine sV (Ag Ik rfl (Bx.cell q5a rfl)) ?_
 refine sb (OY OM rfl rfl) fun z2a hz2a=>?_
 refine nrm ?_
 refine sV (Aa rfl) ?_
 obtain ⟨m6b,h7a,f32⟩:=Ab hr
 refine Ca 12 (fun l l' w'=>∃(t8a:Value) (t9a:Value) (t0b:Value) (t1b:Value) (t2b:Value),UpdS [] w2 w'∧l'=((((((l.set 11 t8a).set 12 t9a).set 13 t0b).set 14 t1b).set 15 t2b).set 16 (.bool m6b))) ?_ ?_
 ·intro HJ39
  rcases bft z2a with e0a | e0a
  ·have p7b:=zP hz2a e0a
   have f8b:=ifP p7b h7a
   refine sV (Ai (o':=1) Dl rfl rfl) ?_ (hw:=wgT rfl e0a)
   refine sV (Ag EQ rfl (Bx.cell (q4a.ext E3a) rfl)) ?_ (hw:=wgT rfl e0a)
   refine sV (Ai (o':=1) Dl rfl rfl) ?_ (hw:=wgT rfl e0a)
   refine sV (Ag EQ rfl (Bx.cell q5a rfl)) ?_ (hw:=wgT rfl e0a)
   obtain ⟨r3b,h9b,f0c⟩:=Ab f8b
   refine sc (Ae en_144 (by rfl)) (Hd (limbs x0.Abs) (limbs x1.Abs) A1 c2 A4 c5 w2 (tbx X1a hT) (n3.ext X1a) (n6.ext X1a) r3b h9b) ?_ (hw:=wgT rfl e0a)
   rintro _ w3 E1c rfl
   refine nrm ?_
   refine sV (AB (evb rfl e0a) rfl) ?_
   obtain rfl:=sj f0c
   exact HJ39 _ _ ⟨(.pointer (some ⟨b8,1,none⟩)),(.slice A1 (sz x0.Abs) c2),(.pointer (some ⟨b4b,1,none⟩)),(.slice A4 (sz x1.Abs) c5),(.bool r3b),((UpdS.refl _ _).ext E1c),(by simp only [S0,S1]<;>rfl)⟩
  ·have p2c:=zN hz2a e0a
   have f3c:=ifN p2c h7a
   refine sP ?_ (hw:=wgF rfl e0a)
   refine sP ?_ (hw:=wgF rfl e0a)
   refine sP ?_ (hw:=wgF rfl e0a)
   refine sP ?_ (hw:=wgF rfl e0a)
   refine sP ?_ (hw:=wgF rfl e0a)
   refine sV (AF (evb rfl e0a) rfl) ?_
   obtain rfl:=sj f3c
   exact HJ39 _ _ ⟨uu,uu,uu,uu,uu,(UpdS.refl _ _),(by simp only [S0,S1]<;>rfl)⟩
 ·rintro l' w3 ⟨t8a,t9a,t0b,t1b,t2b,U4c,hq'⟩ l'' hl
  rw [hq'] at hl
  clear hq'
  simp only [S0,S1] at hl
  subst hl
  have X5c:=JN X1a U4c (X1a).size al0
  refine sV (Ac rfl) ?_
  refine Ad<|h6a _ _<|wp_ret ?_
  obtain rfl:=sj f32
  exact fin rfl (Res.tmp rfl Res.nil) (Ak X5c rfl)
theorem Cz (x0:Al) (x1:Al) (A1:Option Addr) (c2:Nat) (A4:Option Addr) (c5:Nat) (w:World) (hT:TB w) (n3:RU w A1 c2 x0.Man.Abs) (n6:RU w A4 c5 x1.Man.Abs) (r:Bool) (hr:AU x0 x1=some r) :
  Calls Tryz.prog 37 #[.agg #[.bool x0.Man.Neg,.slice A1 (sz x0.Man.Abs) c2,.int .i64 x0.Exp],.agg #[.bool x1.Man.Neg,.slice A4 (sz x1.Man.Abs) c5,.int .i64 x1.Exp]] w (Ret Fy w r):=by
 unfold AU at hr
 go_enter Tryz.func37,Tryz.ntmps37
 refine wp_seq_k fun K7 h7=>Af<|BT rfl rfl fun b8 w1 E9 g5c q5a=>?_
 refine nrm ?_
 refine BT rfl rfl fun b5b w2 E2a g6b q6a=>?_
 refine nrm ?_
 have g6c:=nlt E9.size g6b
 have X1a:=xtr E9 E2a
 refine sV (Ac rfl) ?_
 refine Ad<|h7 _ _<|wp_seq_k fun K7a h7a=>Af<|sV (Ai (o':=0) Gd rfl rfl) ?_
 refine sV (AH FY rfl (q5a.ext E2a) (by simp only [List.drop_zero,List.take_succ_cons,List.take_zero];rfl) rfl) ?_
 refine sV (Ai (o':=0) Gd rfl rfl) ?_
 refine sV (AH FY rfl q6a (by simp only [List.drop_zero,List.take_succ_cons,List.take_zero];rfl) rfl) ?_
 obtain ⟨r8a,h7b,f8b⟩:=Ab hr
 refine sc (Ae en_86 (by rfl)) (c_sorobanref03_SameInt x0.Man x1.Man A1 c2 A4 c5 w2 (tbx X1a hT) (n3.ext X1a) (n6.ext X1a) r8a h7b) ?_
 rintro _ w3 E3a rfl
 refine nrm ?_
 have X9b:=xtr X1a E3a
 refine sV (Aa rfl) ?_
 obtain ⟨m0c,h9a,f32⟩:=Ab f8b
 refine Ca 12 (fun l l' w'=>∃(t0b:Value) (t1b:Value) (t2b:Value) (t3b:Value) (t4b:Value),w3=w'∧l'=((((((l.set 11 t0b).set 12 t1b).set 13 t2b).set 14 t3b).set 15 t4b).set 16 (.bool m0c))) ?_ ?_
 ·intro HJ39
  rcases bft r8a with e0a | e0a
  ·have p1c:=e0a
   have f2c:=ifP p1c h9a
   refine sV (Ai (o':=2) FH rfl rfl) ?_ (hw:=wgT rfl e0a)
   refine sV (Ag Ey rfl (Bx.cell ((q5a.ext E2a).ext E3a) rfl)) ?_ (hw:=wgT rfl e0a)
   refine sV (Ai (o':=2) FH rfl rfl) ?_ (hw:=wgT rfl e0a)
   refine sV (Ag Ey rfl (Bx.cell (q6a.ext E3a) rfl)) ?_ (hw:=wgT rfl e0a)
   refine sb (Ce rfl rfl) ?_ (hw:=wgT rfl e0a)
   intro z4a hz4a
   refine nrm ?_
   refine sV (AB (evb rfl e0a) rfl) ?_
   obtain rfl:z4a=decide (x0.Exp=x1.Exp):=bz hz4a
   obtain rfl:=sj f2c
   exact HJ39 _ _ ⟨(.pointer (some ⟨b8,2,none⟩)),(.int .i64 x0.Exp),(.pointer (some ⟨b5b,2,none⟩)),(.int .i64 x1.Exp),(.bool (decide (x0.Exp=x1.Exp))),rfl,(by simp only [S0,S1]<;>rfl)⟩
  ·have p3c:=bF e0a
   have f4c:=ifN p3c h9a
   refine sP ?_ (hw:=wgF rfl e0a)
   refine sP ?_ (hw:=wgF rfl e0a)
   refine sP ?_ (hw:=wgF rfl e0a)
   refine sP ?_ (hw:=wgF rfl e0a)
   refine sP ?_ (hw:=wgF rfl e0a)
   refine sV (AF (evb rfl e0a) rfl) ?_
   obtain rfl:=sj f4c
   exact HJ39 _ _ ⟨uu,uu,uu,uu,uu,rfl,(by simp only [S0,S1]<;>rfl)⟩
 ·rintro l' _ ⟨t0b,t1b,t2b,t3b,t4b,rfl,hq'⟩ l'' hl
  rw [hq'] at hl
  clear hq'
  simp only [S0,S1] at hl
  subst hl
  refine sV (Ac rfl) ?_
  refine Ad<|h7a _ _<|wp_ret ?_
  obtain rfl:=sj f32
  exact fin rfl (Res.tmp rfl Res.nil) (Ak X9b rfl)
theorem FL (x0:AC) (x1:AC) (A1:Option Addr) (c2:Nat) (A4:Option Addr) (c5:Nat) (A7:Option Addr) (c8:Nat) (A2a:Option Addr) (c3a:Nat) (w:World) (hT:TB w) (n3:RU w A1 c2 x0.Lo.Man.Abs) (n6:RU w A4 c5 x0.Hi.Man.Abs) (n9:RU w A7 c8 x1.Lo.Man.Abs) (n0c:RU w A2a c3a x1.Hi.Man.Abs) (r:Bool) (hr:Dt x0 x1=some r) :
  Calls Tryz.prog 76 #[.agg #[.bool x0.Lo.Man.Neg,.slice A1 (sz x0.Lo.Man.Abs) c2,.int .i64 x0.Lo.Exp,.bool x0.Hi.Man.Neg,.slice A4 (sz x0.Hi.Man.Abs) c5,.int .i64 x0.Hi.Exp],.agg #[.bool x1.Lo.Man.Neg,.slice A7 (sz x1.Lo.Man.Abs) c8,.int .i64 x1.Lo.Exp,.bool x1.Hi.Man.Neg,.slice A2a (sz x1.Hi.Man.Abs) c3a,.int .i64 x1.Hi.Exp]] w (Ret Fy w r):=by
 unfold Dt at hr
 go_enter Tryz.func76,Tryz.ntmps76
 refine wp_seq_k fun K7a h7a=>Af<|BT rfl rfl fun b1c w1 E8a g7d q9a=>?_
 refine nrm ?_
 refine BT rfl rfl fun b2c w2 E5a g3c q0b=>?_
 refine nrm ?_
 have g8d:=nlt E8a.size g3c
 have X4a:=xtr E8a E5a
 refine sV (Ac rfl) ?_
 refine Ad<|h7a _ _<|wp_seq_k fun K1b h1b=>Af<|sV (Ai (o':=0) KL rfl rfl) ?_
 refine sV (AH Bk rfl (q9a.ext E5a) (by simp only [List.drop_zero,List.take_succ_cons,List.take_zero];rfl) rfl) ?_
 refine sV (Ai (o':=0) KL rfl rfl) ?_
 refine sV (AH Bk rfl q0b (by simp only [List.drop_zero,List.take_succ_cons,List.take_zero];rfl) rfl) ?_
 obtain ⟨r2b,h4c,f5c⟩:=Ab hr
 refine sc (Ae LF (by rfl)) (Cz x0.Lo x1.Lo A1 c2 A7 c8 w2 (tbx X4a hT) (n3.ext X4a) (n9.ext X4a) r2b h4c) ?_
 rintro _ w3 E6a rfl
 refine nrm ?_
 have X1a:=xtr X4a E6a
 refine sV (Aa rfl) ?_
 obtain ⟨m6c,h3b,f7c⟩:=Ab f5c
 refine Ca 12 (fun l l' w'=>∃(t4b:Value) (t5b:Value) (t6b:Value) (t7b:Value) (t8b:Value),UpdS [] w3 w'∧l'=((((((l.set 11 t4b).set 12 t5b).set 13 t6b).set 14 t7b).set 15 t8b).set 16 (.bool m6c))) ?_ ?_
 ·intro HJ49
  rcases bft r2b with e0a | e0a
  ·have p8c:=e0a
   have f9c:=ifP p8c h3b
   refine sV (Ai (o':=3) KN rfl rfl) ?_ (hw:=wgT rfl e0a)
   refine sV (AH Bk rfl ((q9a.ext E5a).ext E6a) (by simp only [List.drop_succ_cons,List.drop_zero,List.take_succ_cons,List.take_zero];rfl) rfl) ?_ (hw:=wgT rfl e0a)
   refine sV (Ai (o':=3) KN rfl rfl) ?_ (hw:=wgT rfl e0a)
   refine sV (AH Bk rfl (q0b.ext E6a) (by simp only [List.drop_succ_cons,List.drop_zero,List.take_succ_cons,List.take_zero];rfl) rfl) ?_ (hw:=wgT rfl e0a)
   obtain ⟨r9b,h0d,f1d⟩:=Ab f9c
   refine sc (Ae LF (by rfl)) (Cz x0.Hi x1.Hi A4 c5 A2a c3a w3 (tbx X1a hT) (n6.ext X1a) (n0c.ext X1a) r9b h0d) ?_ (hw:=wgT rfl e0a)
   rintro _ w4 E2d rfl
   refine nrm ?_
   refine sV (AB (evb rfl e0a) rfl) ?_
   obtain rfl:=sj f1d
   exact HJ49 _ _ ⟨(.pointer (some ⟨b1c,3,none⟩)),(.agg #[.bool x0.Hi.Man.Neg,.slice A4 (sz x0.Hi.Man.Abs) c5,.int .i64 x0.Hi.Exp]),(.pointer (some ⟨b2c,3,none⟩)),(.agg #[.bool x1.Hi.Man.Neg,.slice A2a (sz x1.Hi.Man.Abs) c3a,.int .i64 x1.Hi.Exp]),(.bool r9b),((UpdS.refl _ _).ext E2d),(by simp only [S0,S1]<;>rfl)⟩
  ·have p3d:=bF e0a
   have f4d:=ifN p3d h3b
   refine sP ?_ (hw:=wgF rfl e0a)
   refine sP ?_ (hw:=wgF rfl e0a)
   refine sP ?_ (hw:=wgF rfl e0a)
   refine sP ?_ (hw:=wgF rfl e0a)
   refine sP ?_ (hw:=wgF rfl e0a)
   refine sV (AF (evb rfl e0a) rfl) ?_
   obtain rfl:=sj f4d
   exact HJ49 _ _ ⟨uu,uu,uu,uu,uu,(UpdS.refl _ _),(by simp only [S0,S1]<;>rfl)⟩
 ·rintro l' w4 ⟨t4b,t5b,t6b,t7b,t8b,U5d,hq'⟩ l'' hl
  rw [hq'] at hl
  clear hq'
  simp only [S0,S1] at hl
  subst hl
  have X6d:=JN X1a U5d (X1a).size al0
  refine sV (Ac rfl) ?_
  refine Ad<|h1b _ _<|wp_ret ?_
  obtain rfl:=sj f7c
  exact fin rfl (Res.tmp rfl Res.nil) (Ak X6d rfl)
theorem Au (x0:An) (x1:An) (x2:Int) (x3:Int) (A1:Option Addr) (c2:Nat) (A4:Option Addr) (c5:Nat) (w:World) (hT:TB w) (n3:RU w A1 c2 x0.m.Abs) (n6:RU w A4 c5 x1.m.Abs) (r:An) (hr:CO x0 x1 x2 x3=some r) :
  Calls Tryz.prog 105 #[.agg #[.bool x0.m.Neg,.slice A1 (sz x0.m.Abs) c2,.int .i64 x0.e],.agg #[.bool x1.m.Neg,.slice A4 (sz x1.m.Abs) c5,.int .i64 x1.e],.int .i64 x2,.int .i64 x3] w (Ret HW w r):=by
 unfold CO at hr
 go_enter Tryz.func105,Tryz.ntmps105
 refine wp_seq_k fun K7 h7=>Af<|BT rfl rfl fun b8 w1 E9 g7c q0b=>?_
 refine nrm ?_
 refine BT rfl rfl fun b6e w2 E1b g7e q8b=>?_
 refine nrm ?_
 have g2i:=nlt E9.size g7e
 have X8c:=xtr E9 E1b
 refine Aw Ba fun b3i w3 E1a g8e q9c=>?_
 refine nrm ?_
 have g0d:=nlt X8c.size g8e
 have X9b:=xtr X8c E1a
 refine Ad<|h7 _ _<|wp_seq_k fun K1d h1d=>wp_seq_k fun K2d h2d=>Af<|sV (Am AE rfl ((q0b.ext E1b).ext E1a) rfl) ?_
 obtain ⟨r9e,h0f,f3d⟩:=Ab hr
 refine sc (Ae Js (by rfl)) (Dj x0 A1 c2 w3 (tbx X9b hT) (n3.ext X9b) r9e h0f) ?_
 rintro _ w4 E0a rfl
 refine nrm ?_
 have X4d:=xtr X9b E0a
 refine sb (Ce rfl rfl) fun z7b hz7b=>?_
 refine nrm ?_
 refine Ad<|h2d _ _ ?_
 rcases bft z7b with e2b | e2b
 ·have p1f:=zP hz7b e2b
  have f2f:=ifP p1f f3d
  refine wp_cond_true (Aj (evb rfl e2b))<|wp_seq_k fun K5d h5d=>Af<|sV (Bc (vals:=[]) (cells:=[.bool false,.slice none 0 0,.int .i64 0]) (by rfl) (by kernel_rfl)) ?_
  refine Ax BX rfl rfl (q9c.ext E0a) rfl rfl rfl rfl (by simp only [SP0,SP1,S0,S1,Nat.reduceAdd];rfl) fun w5 U3f q4f=>?_
  have X5f:=belU X4d U3f g0d
  refine Ad<|h5d _ _<|wp_ret ?_
  obtain rfl:=sj f2f
  exact fin rfl (Res.cellN rfl AE q4f rfl rfl Res.nil) (Ak X5f ⟨none,0,rfl,(RU.nil _)⟩)
 ·have p6f:=zN hz7b e2b
  have f7f:=ifN p6f f3d
  refine wp_cond_false (Aj (evb rfl e2b))<|wp_skip<|h1d _ _<|wp_seq_k fun K6d h6d=>Ei [] 14 mo rfl fun w5 E2a S0c=>have X1c:=xtr X4d E2a;dA 0 rfl (fun _=>Aa rfl) ?_
  refine dA 1 rfl (fun _=>Bd (c:=wi64 (x2+2)) rfl rfl rfl) ?_
  refine dA 2 rfl (fun _=>Ai (o':=0) BZ rfl rfl) ?_
  refine dA 3 rfl (fun _=>Ai (o':=1) Bs rfl rfl) ?_
  refine dV 4 rfl (fun _ hw=>Ag CQ rfl (Bx.cell ((((q8b.ext E1a).ext E0a).ext E2a).ext hw) rfl)) S0c ?_
  refine dA 7 rfl (fun _=>Ai (o':=0) BZ rfl rfl) ?_
  refine dA 8 rfl (fun _=>Ai (o':=1) Bs rfl rfl) ?_
  refine dV 9 rfl (fun _ hw=>Ag CQ rfl (Bx.cell (((((q0b.ext E1b).ext E1a).ext E0a).ext E2a).ext hw) rfl)) S0c ?_
  obtain ⟨r3a,h8f,f9f⟩:=Ab f7f
  refine dc 5 rfl (by kernel_rfl) (by rfl) (Ae Lm (by rfl)) (DP x1.m.Abs A4 c5 w5 (tbx X1c hT) (n6.ext X1c) r3a h8f) ?_
  rintro _ w6 E5a rfl
  refine dnrm ?_
  have X2c:=xtr X1c E5a
  have S0g:=S0c.trans E5a
  refine dA 6 rfl (fun _=>Bd (c:=wi64 ((wi64 (x2+2))+r3a)) rfl rfl rfl) ?_
  obtain ⟨r6a,h1g,f2g⟩:=Ab f9f
  refine dc 10 rfl (by kernel_rfl) (by rfl) (Ae Lm (by rfl)) (DP x0.m.Abs A1 c2 w6 (tbx X2c hT) (n3.ext X2c) r6a h1g) ?_
  rintro _ w7 E7a rfl
  refine dnrm ?_
  have X3g:=xtr X2c E7a
  have S4i:=S0g.trans E7a
  refine dA 11 rfl (fun _=>Bv (c:=wi64 ((wi64 ((wi64 (x2+2))+r3a)) - r6a)) rfl rfl rfl) ?_
  refine dA 12 rfl (fun _=>NT rfl rfl) ?_
  refine dA 13 rfl (fun _=>Ac rfl) ?_
  refine CU (by kernel_rfl) ?_
  refine h6d _ _<|wp_seq_k fun K7d h7d=>Ei [] 14 mo rfl fun w8 E9a S3c=>have X4c:=xtr X3g E9a;dA 0 rfl (fun _=>Ai (o':=0) BZ rfl rfl) ?_
  refine dA 1 rfl (fun _=>Ai (o':=1) Bs rfl rfl) ?_
  refine dV 2 rfl (fun _ hw=>Ag CQ rfl (Bx.cell ((((((((q0b.ext E1b).ext E1a).ext E0a).ext E2a).ext E5a).ext E7a).ext E9a).ext hw) rfl)) S3c ?_
  refine dA 3 rfl (fun _=>Aa rfl) ?_
  refine dA 5 rfl (fun _=>Ai (o':=0) BZ rfl rfl) ?_
  refine dA 6 rfl (fun _=>Ai (o':=1) Bs rfl rfl) ?_
  refine dV 7 rfl (fun _ hw=>Ag CQ rfl (Bx.cell (((((((q8b.ext E1a).ext E0a).ext E2a).ext E5a).ext E7a).ext E9a).ext hw) rfl)) S3c ?_
  obtain ⟨r8d,h4g,f5g⟩:=Ab f2g
  refine dc 4 rfl (by kernel_rfl) (by rfl) (Ae Jz (by rfl)) (Db x0.m.Abs (max 0 (wi64 ((wi64 ((wi64 (x2+2))+r3a)) - r6a))) A1 c2 w8 (tbx X4c hT) (n3.ext X4c) r8d h4g) ?_
  rintro _ w9 E3b ⟨A6g,c7g,rfl,n8g⟩
  refine dnrm ?_
  have X5c:=xtr X4c E3b
  have S9g:=S3c.trans E3b
  obtain ⟨r4a,h0h,f1h⟩:=Ab f5g
  refine dc 8 rfl (by kernel_rfl) (by rfl) (Ae OJ (by rfl)) (Ht r8d x1.m.Abs A6g c7g A4 c5 w9 (tbx X5c hT) n8g (n6.ext X5c) r4a h0h) ?_
  rintro _ w7c E4b ⟨A5b,c6b,A5i,c6i,rfl,n2h,n7i⟩
  refine dnrm ?_
  have X9d:=xtr X5c E4b
  have S8i:=S9g.trans E4b
  refine dA 9 rfl (fun _=>Aa rfl) ?_
  refine dA 10 rfl (fun _=>Ap rfl rfl) ?_
  refine dA 11 rfl (fun _=>Ap rfl rfl) ?_
  refine dA 12 rfl (fun _=>Ac rfl) ?_
  refine dA 13 rfl (fun _=>Ac rfl) ?_
  refine CU (by kernel_rfl) ?_
  refine h7d _ _<|wp_seq_k fun K0e h0e=>Af<|sV (Ai (o':=0) BZ rfl rfl) ?_
  refine sV (Ai (o':=0) EC rfl rfl) ?_
  have q1e:=((((((((q0b.ext E1b).ext E1a).ext E0a).ext E2a).ext E5a).ext E7a).ext E9a).ext E3b).ext E4b
  refine sV (Ag Ik rfl (Bx.cell q1e rfl)) ?_
  refine sV (Ai (o':=0) BZ rfl rfl) ?_
  refine sV (Ai (o':=0) EC rfl rfl) ?_
  have q2e:=(((((((q8b.ext E1a).ext E0a).ext E2a).ext E5a).ext E7a).ext E9a).ext E3b).ext E4b
  refine sV (Ag Ik rfl (Bx.cell q2e rfl)) ?_
  refine sb (NB OM rfl rfl) fun z8a hz8a=>?_
  refine nrm ?_
  refine sV (Aa rfl) ?_
  refine sV (Bc (vals:=[(0,.bool z8a),(1,.slice A5b (sz r4a.1) c6b)]) (cells:=[.bool z8a,.slice A5b (sz r4a.1) c6b]) (by rfl) (by kernel_rfl)) ?_
  refine sV (Ai (o':=2) DE rfl rfl) ?_
  refine sV (Ag Ey rfl (Bx.cell q1e rfl)) ?_
  refine sV (Ai (o':=2) DE rfl rfl) ?_
  refine sV (Ag Ey rfl (Bx.cell q2e rfl)) ?_
  refine sV (Bv (c:=wi64 (x0.e - x1.e)) rfl rfl rfl) ?_
  refine sV (Aa rfl) ?_
  refine sV (Bv (c:=wi64 ((wi64 (x0.e - x1.e)) - (max 0 (wi64 ((wi64 ((wi64 (x2+2))+r3a)) - r6a))))) rfl rfl rfl) ?_
  refine sV (Bc (vals:=[(0,.agg #[.bool z8a,.slice A5b (sz r4a.1) c6b]),(1,.int .i64 (wi64 ((wi64 (x0.e - x1.e)) - (max 0 (wi64 ((wi64 ((wi64 (x2+2))+r3a)) - r6a))))))]) (cells:=[.bool z8a,.slice A5b (sz r4a.1) c6b,.int .i64 (wi64 ((wi64 (x0.e - x1.e)) - (max 0 (wi64 ((wi64 ((wi64 (x2+2))+r3a)) - r6a)))))]) (by rfl) (by kernel_rfl)) ?_
  refine sV (Aa rfl) ?_
  refine sV (Aa rfl) ?_
  refine sV (Aa rfl) ?_
  refine sV (AD Ar rfl) ?_
  refine sb (Fs rfl rfl) fun z6c hz6c=>?_
  refine nrm ?_
  obtain rfl:z8a=decide (¬x0.m.Neg=x1.m.Neg):=bz hz8a
  obtain rfl:z6c=decide (0<(sz r4a.2:Int)):=bz hz6c
  obtain ⟨r3h,h4h,f5h⟩:=Ab f1h
  refine sc (Ae LR (by rfl)) (FN (⟨(⟨(decide (¬x0.m.Neg=x1.m.Neg)),r4a.1⟩:Ah),(wi64 ((wi64 (x0.e - x1.e)) - (max 0 (wi64 ((wi64 ((wi64 (x2+2))+r3a)) - r6a)))))⟩:An) x2 x3 (decide (0<(sz r4a.2:Int))) A5b c6b w7c (tbx X9d hT) n2h r3h h4h) ?_
  rintro _ w0b E3e ⟨A6h,c7h,rfl,n8h⟩
  refine nrm ?_
  have X9h:=xtr X9d E3e
  have q4e:=(((((((q9c.ext E0a).ext E2a).ext E5a).ext E7a).ext E9a).ext E3b).ext E4b).ext E3e
  refine Ax BX rfl rfl q4e rfl rfl rfl rfl (by simp only [SP0,SP1,S0,S1,Nat.reduceAdd];rfl) fun w6e U5e q0i=>?_
  have X1i:=belU X9h U5e g0d
  refine Ad<|h0e _ _<|wp_ret ?_
  obtain rfl:=sj f5h
  exact fin rfl (Res.cellN rfl AE q0i rfl rfl Res.nil) (Ak X1i ⟨A6h,c7h,rfl,(n8h.upd U5e q4e (by decide))⟩)
def IS (wk w:World) (b:Nat):Option Av→Prop
 | none=>Bx w b 124 [.pointer none]
 | some r=>∃(bs:Nat) (A1:Option Addr) (c1:Nat) (A2:Option Addr) (c2:Nat),wk.heap.size≤bs∧Bx w b 124 [.pointer (some ⟨bs,0,none⟩)]∧Bx w bs 121 [.bool r.lo.m.Neg,.slice A1 (sz r.lo.m.Abs) c1,.int .i64 r.lo.e,.bool r.hi.m.Neg,.slice A2 (sz r.hi.m.Abs) c2,.int .i64 r.hi.e]∧RU w A1 c1 r.lo.m.Abs∧RU w A2 c2 r.hi.m.Abs
theorem sq_dyad_Over_1 {n0:Nat} {wk w w':World} {b:Nat} : ∀ {o:Option Av},IS wk w b o→Quiet n0 w w'→IS wk w' b o
 | none,h,q=>Bx.quiet h q
 | some _,⟨bs,A1,c1,A2,c2,g,q1,q2,n1,n2⟩,q=>⟨bs,A1,c1,A2,c2,g,q1.quiet q,q2.quiet q,n1.quiet q,n2.quiet q⟩
theorem Kr (x0:Av) (x1:Av) (x2:Int) (A1:Option Addr) (c2:Nat) (A4:Option Addr) (c5:Nat) (A7:Option Addr) (c8:Nat) (A0d:Option Addr) (c5d:Nat) (w:World) (hT:TB w) (n3:RU w A1 c2 x0.lo.m.Abs) (n6:RU w A4 c5 x0.hi.m.Abs) (n9:RU w A7 c8 x1.lo.m.Abs) (n4w:RU w A0d c5d x1.hi.m.Abs) (r:Except Int (AC)) (hr:Jc x0 x1 x2=some r) :
  Calls Tryz.prog 101 #[.agg #[.bool x0.lo.m.Neg,.slice A1 (sz x0.lo.m.Abs) c2,.int .i64 x0.lo.e,.bool x0.hi.m.Neg,.slice A4 (sz x0.hi.m.Abs) c5,.int .i64 x0.hi.e],.agg #[.bool x1.lo.m.Neg,.slice A7 (sz x1.lo.m.Abs) c8,.int .i64 x1.lo.e,.bool x1.hi.m.Neg,.slice A0d (sz x1.hi.m.Abs) c5d,.int .i64 x1.hi.e],.int .i64 x2] w (RetE 201 Mk w r):=by
 unfold Jc at hr
 refine Np Tryz.func101 rfl [.agg #[.bool x0.lo.m.Neg,.slice A1 (sz x0.lo.m.Abs) c2,.int .i64 x0.lo.e,.bool x0.hi.m.Neg,.slice A4 (sz x0.hi.m.Abs) c5,.int .i64 x0.hi.e],.agg #[.bool x1.lo.m.Neg,.slice A7 (sz x1.lo.m.Abs) c8,.int .i64 x1.lo.e,.bool x1.hi.m.Neg,.slice A0d (sz x1.hi.m.Abs) c5d,.int .i64 x1.hi.e],.int .i64 x2,uu,uu,uu,uu,uu,uu,uu,uu,uu,uu,uu,uu,uu,uu,uu,uu,uu,uu,uu,uu,uu,uu,uu,uu,uu,uu,uu,uu,uu,uu,uu,uu,uu,uu,uu,uu,uu,uu,uu,uu,uu,uu,uu,uu,uu,uu,uu,uu,uu,uu,uu,uu,uu,uu,uu,uu,uu,uu,uu,uu,uu,uu,uu] (by simp [Tryz.ntmps101]) ?_
 refine wp_seq_k fun K7a0 h7a0=>Af<|BT rfl rfl fun b5n w1 E8a0 g6b8 q5af=>?_
 refine nrm ?_
 refine BT rfl rfl fun b5h w2 E9a0 g6af q5w=>?_
 refine nrm ?_
 have g7b8:=nlt E8a0.size g6af
 have X0a1:=xtr E8a0 E9a0
 refine BT rfl rfl fun b6n w3 E7n g7af q8af=>?_
 refine nrm ?_
 have g8b8:=nlt X0a1.size g7af
 have X1a1:=xtr X0a1 E7n
 refine Aw Hp fun b8n w4 E9j g9af q0ag=>?_
 refine nrm ?_
 have g1ag:=nlt X1a1.size g9af
 have X2ag:=xtr X1a1 E9j
 refine Ad<|h7a0 _ _<|wp_seq_k fun K2a1 h2a1=>Ei [] 9 mo rfl fun w5 E1j S6w=>?_
 have X7w:=xtr X2ag E1j
 refine dA 0 rfl (fun _=>Ai (o':=0) Eg rfl rfl) ?_ (hQ:=fun _ _ _ h=>dqM (rs:=[.cell 6 29]) rfl (by decide) h)
 refine dV 1 rfl (fun _ hw=>AH AE rfl ((((q5w.ext E7n).ext E9j).ext E1j).ext hw) (by simp only [List.drop_zero,List.take_succ_cons,List.take_zero];rfl) rfl) S6w ?_ (hQ:=fun _ _ _ h=>dqM (rs:=[.cell 6 29]) rfl (by decide) h)
 refine dA 3 rfl (fun _=>Ai (o':=3) EB rfl rfl) ?_ (hQ:=fun _ _ _ h=>dqM (rs:=[.cell 6 29]) rfl (by decide) h)
 refine dV 4 rfl (fun _ hw=>AH AE rfl ((((q5w.ext E7n).ext E9j).ext E1j).ext hw) (by simp only [List.drop_succ_cons,List.drop_zero,List.take_succ_cons,List.take_zero];rfl) rfl) S6w ?_ (hQ:=fun _ _ _ h=>dqM (rs:=[.cell 6 29]) rfl (by decide) h)
 obtain ⟨r2g,h3ag,f4ag⟩:=Ab hr
 refine dc 2 rfl (by kernel_rfl) (by rfl) (Ae Js (by rfl)) (Dj x1.lo A7 c8 w5 (tbx X7w hT) (n9.ext X7w) r2g h3ag) ?_
 rintro _ w6 E0k rfl
 refine dnrm ?_
 have X8w:=xtr X7w E0k
 have S5ag:=S6w.trans E0k
 obtain ⟨r3g,h6ag,f7ag⟩:=Ab f4ag
 refine dc 5 rfl (by kernel_rfl) (by rfl) (Ae Js (by rfl)) (Dj x1.hi A0d c5d w6 (tbx X8w hT) (n4w.ext X8w) r3g h6ag) ?_
 rintro _ w7 E1k rfl
 refine dnrm ?_
 have X2q:=xtr X8w E1k
 have S8ag:=S5ag.trans E1k
 refine dA 6 rfl (fun _=>JH (c:=wi64 (r2g*r3g)) rfl rfl rfl) ?_ (hQ:=fun _ _ _ h=>dqM (rs:=[.cell 6 29]) rfl (by decide) h)
 refine dab 7 rfl (by kernel_rfl) (fun _ _ _ h=>dqM (rs:=[.cell 6 29]) rfl (by decide) h) (by rfl) (fun _=>Fs rfl rfl) fun z9w hz9w=>?_
 refine dnrm ?_
 obtain rfl:z9w=decide (0<(wi64 (r2g*r3g))):=bz hz9w
 rcases AG f7ag with ⟨r0x,h1x,f9ag⟩ | ⟨r0x,h1x,rfl⟩
 ·refine dcO 8 rfl (by kernel_rfl) (by rfl) (Ae Dh (by rfl)) (AN (decide (0<(wi64 (r2g*r3g)))) 8 w7 (tbx X2q hT)  (.ok r0x) h1x) ?_
  rintro _ w8 E2i rfl
  refine dnrm ?_
  have X3a1:=xtr X2q E2i
  have S9b8:=S8ag.trans E2i
  refine CU (by kernel_rfl) ?_
  refine h2a1 _ _<|wp_seq_k fun K4a1 h4a1=>Af<|Aw OX fun b3q w9 E9n g0ah q1ah=>?_
  refine nrm ?_
  have g2ah:=nlt X3a1.size g0ah
  have X2x:=xtr X3a1 E9n
  refine Ad<|h4a1 _ _<|wp_seq_k fun K5a1 h5a1=>wp_seq_k fun K6a1 h6a1=>Af<|have q3x:=(((((((q5af.ext E9a0).ext E7n).ext E9j).ext E1j).ext E0k).ext E1k).ext E2i).ext E9n;sV (Am Ka rfl q3x rfl) ?_
  have q4x:=((((((q5w.ext E7n).ext E9j).ext E1j).ext E0k).ext E1k).ext E2i).ext E9n
  refine sV (Am Ka rfl q4x rfl) ?_
  refine scc (by rfl) (Ae OE rfl) (JM (.bool x0.lo.m.Neg:Value) (.slice A1 (sz x0.lo.m.Abs) c2:Value) (.int .i64 x0.lo.e:Value) (.bool x0.hi.m.Neg:Value) (.slice A4 (sz x0.hi.m.Abs) c5:Value) (.int .i64 x0.hi.e:Value) (.bool x1.lo.m.Neg:Value) (.slice A7 (sz x1.lo.m.Abs) c8:Value) (.int .i64 x1.lo.e:Value) (.bool x1.hi.m.Neg:Value) (.slice A0d (sz x1.hi.m.Abs) c5d:Value) (.int .i64 x1.hi.e:Value) w9) fun b2k b3k w0d E3i g3ah g4ah ne0b9 q7a1 q8a1=>nrm ?_
  have g1b9:=nlt X2x.size g3ah
  have g2b9:=nlt X2x.size g4ah
  have X5x:=xtr X2x E3i
  refine Ad<|h6a1 _ _ ?_
  apply wp_block
  obtain ⟨s9a1,h0a2,f5ah⟩:=Ab f9ag
  obtain ⟨s6x,h6ah,f7ah⟩:=Ab f5ah
  obtain ⟨s7x,h8ah,f9ah⟩:=Ab f7ah
  obtain ⟨s4q,h0ai,f1ai⟩:=Ab f9ah
  obtain ⟨o8x,hO⟩:∃o:Nat→Option Av,o=(fun i:Nat=>match i with | 0=>none | 1=>some s9a1 | 2=>some s6x | 3=>some s7x | _=>some s4q):=⟨_,rfl⟩
  have hall2ai:∀i,1≤i→i<4→∃(sr:Av) (x y:An) (AX:Option Addr) (cX:Nat) (AY:Option Addr) (cY:Nat) (s':Av),(encs (.bool x0.lo.m.Neg:Value) (.slice A1 (sz x0.lo.m.Abs) c2:Value) (.int .i64 x0.lo.e:Value) (.bool x0.hi.m.Neg:Value) (.slice A4 (sz x0.hi.m.Abs) c5:Value) (.int .i64 x0.hi.e:Value) (.bool x1.lo.m.Neg:Value) (.slice A7 (sz x1.lo.m.Abs) c8:Value) (.int .i64 x1.lo.e:Value) (.bool x1.hi.m.Neg:Value) (.slice A0d (sz x1.hi.m.Abs) c5d:Value) (.int .i64 x1.hi.e:Value)) i = #[.agg #[.bool x.m.Neg,.slice AX (sz x.m.Abs) cX,.int .i64 x.e],.agg #[.bool y.m.Neg,.slice AY (sz y.m.Abs) cY,.int .i64 y.e]]∧RU w AX cX x.m.Abs∧RU w AY cY y.m.Abs∧o8x i=some sr∧o8x (i+1)=some s'∧GQ x0 x1 x2 sr x y=some s':=by
   subst hO
   rintro (_ | _ | _ | _ | i) h h'
   ·omega
   ·exact ⟨s9a1,x0.lo,x1.hi,_,_,_,_,s6x,rfl,n3,n4w,rfl,rfl,h6ah⟩
   ·exact ⟨s6x,x0.hi,x1.lo,_,_,_,_,s7x,rfl,n6,n9,rfl,rfl,h8ah⟩
   ·exact ⟨s7x,x0.hi,x1.hi,_,_,_,_,s4q,rfl,n6,n4w,rfl,rfl,h0ai⟩
   ·omega
  refine rf (N:=4) (n0:=w.heap.size) (encs:=(encs (.bool x0.lo.m.Neg:Value) (.slice A1 (sz x0.lo.m.Abs) c2:Value) (.int .i64 x0.lo.e:Value) (.bool x0.hi.m.Neg:Value) (.slice A4 (sz x0.hi.m.Abs) c5:Value) (.int .i64 x0.hi.e:Value) (.bool x1.lo.m.Neg:Value) (.slice A7 (sz x1.lo.m.Abs) c8:Value) (.int .i64 x1.lo.e:Value) (.bool x1.hi.m.Neg:Value) (.slice A0d (sz x1.hi.m.Abs) c5d:Value) (.int .i64 x1.hi.e:Value))) (I:=fun i w'=>Ext w w'∧w0d.heap.size≤w'.heap.size∧Bx w' b5n 121 [.bool x0.lo.m.Neg,.slice A1 (sz x0.lo.m.Abs) c2,.int .i64 x0.lo.e,.bool x0.hi.m.Neg,.slice A4 (sz x0.hi.m.Abs) c5,.int .i64 x0.hi.e]∧Bx w' b5h 121 [.bool x1.lo.m.Neg,.slice A7 (sz x1.lo.m.Abs) c8,.int .i64 x1.lo.e,.bool x1.hi.m.Neg,.slice A0d (sz x1.hi.m.Abs) c5d,.int .i64 x1.hi.e]∧Bx w' b6n 3 [.int .i64 x2]∧Bx w' b8n 29 [.bool false,.slice none 0 0,.int .i64 0,.bool false,.slice none 0 0,.int .i64 0]∧Bx w' b2k 121 [.bool x0.lo.m.Neg,.slice A1 (sz x0.lo.m.Abs) c2,.int .i64 x0.lo.e,.bool x0.hi.m.Neg,.slice A4 (sz x0.hi.m.Abs) c5,.int .i64 x0.hi.e]∧Bx w' b3k 121 [.bool x1.lo.m.Neg,.slice A7 (sz x1.lo.m.Abs) c8,.int .i64 x1.lo.e,.bool x1.hi.m.Neg,.slice A0d (sz x1.hi.m.Abs) c5d,.int .i64 x1.hi.e]∧IS w0d w' b3q (o8x i)) rfl OS X5x.size (Pk (.bool x0.lo.m.Neg:Value) (.slice A1 (sz x0.lo.m.Abs) c2:Value) (.int .i64 x0.lo.e:Value) (.bool x0.hi.m.Neg:Value) (.slice A4 (sz x0.hi.m.Abs) c5:Value) (.int .i64 x0.hi.e:Value) (.bool x1.lo.m.Neg:Value) (.slice A7 (sz x1.lo.m.Abs) c8:Value) (.int .i64 x1.lo.e:Value) (.bool x1.hi.m.Neg:Value) (.slice A0d (sz x1.hi.m.Abs) c5d:Value) (.int .i64 x1.hi.e:Value) b2k b3k _ (by rintro i W ⟨_,_,_,_,_,_,qa,qb,_⟩;exact ⟨qa,qb⟩)) (by rintro (_ | _ | _ | _)<;>rfl) ?_ ?_ ?_ ?_
  ·rintro i W W' ⟨hX,hK,q_b5n,q_b5h,q_b6n,q_b8n,q_b2k,q_b3k,hS⟩ hq
   exact ⟨belQ hX hq hX.size,nlt hK hq.size,q_b5n.quiet hq,q_b5h.quiet hq,q_b6n.quiet hq,q_b8n.quiet hq,q_b2k.quiet hq,q_b3k.quiet hq,sq_dyad_Over_1 hS hq⟩
  ·subst hO
   have q6h:=((((((q8af.ext E9j).ext E1j).ext E0k).ext E1k).ext E2i).ext E9n).ext E3i
   have q9x:=(((((q0ag.ext E1j).ext E0k).ext E1k).ext E2i).ext E9n).ext E3i
   exact ⟨X5x,Nat.le_refl _,(q3x.ext E3i),(q4x.ext E3i),q6h,q9x,q7a1,q8a1,(q1ah.ext E3i)⟩
  ·intro l i w7c hi hI
   obtain ⟨hX,hK,q7h,q8h,q2e,q7c,q4g,q5g,hS⟩:=hI
   rcases Nat.eq_zero_or_pos i with rfl | hpos
   ·subst hO
    skip
    have q9h:Bx w7c b3q 124 [.pointer none]:=hS
    unfold JJ at h0a2
    refine JS (actPQ rfl (by simp only [S0,S1];rfl)) ?_
    refine wpIn_seq_k fun K5q h5q=>Hs (by rfl) (fun ⟨_,_,h⟩=>h)<|Aw Ba fun b0y w4g E6q g0o q1o=>?_
    refine nrm ?_
    have g4k:=nlt (nlt hX.size (Rd.refl w.heap.size w7c).size) g0o
    refine Ax BX rfl rfl q1o rfl rfl rfl rfl (by simp only [SP0,SP1,S0,S1,Nat.reduceAdd];rfl) fun w5g U2j q7q=>?_
    have F7a:=belU E6q U2j g0o
    have X5k:=(Rd.refl w.heap.size w7c).ext F7a
    refine Ad<|h5q _ _<|Hs (by rfl) (fun ⟨_,_,h⟩=>h)<|Aw Ba fun b3ai w4ai E5ai g1a2 q6ai=>?_
    refine nrm ?_
    have g3b9:=nlt (nlt hX.size X5k.size) g1a2
    refine Ax BX rfl rfl q6ai rfl rfl rfl rfl (by simp only [SP0,SP1,S0,S1,Nat.reduceAdd];rfl) fun w7ai U8ai q2a2=>?_
    have F6a:=belU E5ai U8ai g1a2
    have X3j:=X5k.ext F6a
    refine Ad ?_
    refine ⟨X3j,?_⟩
    intro w1y hq
    refine have hE1:=belR hX X3j hX.size;have hE2:=belQ hE1 hq hE1.size;wpIn_block<|wpIn_seq_k fun K3a2 h3a2=>Mo (by rfl) (fun ⟨_,_,h⟩=>h) [10,11] 12 mo rfl fun w6h E2a S4j=>have X1d:=(Rd.refl w.heap.size w1y).ext E2a;dV 0 rfl (fun _ hw=>Am AE rfl ((((q7q.ext F6a).quiet hq).ext E2a).ext hw) rfl) S4j ?_
    refine dV 1 rfl (fun _ hw=>Am AE rfl (((q2a2.quiet hq).ext E2a).ext hw) rfl) S4j ?_
    refine dV 2 rfl (fun _ hw=>Ag Ey rfl (Bx.cell (((((q2e.ext F7a).ext F6a).quiet hq).ext E2a).ext hw) rfl)) S4j ?_
    refine dV 4 rfl (fun _ hw=>Am AE rfl ((((q7q.ext F6a).quiet hq).ext E2a).ext hw) rfl) S4j ?_
    refine dV 5 rfl (fun _ hw=>Am AE rfl (((q2a2.quiet hq).ext E2a).ext hw) rfl) S4j ?_
    refine dV 6 rfl (fun _ hw=>Ag Ey rfl (Bx.cell (((((q2e.ext F7a).ext F6a).quiet hq).ext E2a).ext hw) rfl)) S4j ?_
    have n6d:=((((n3.ext hX).ext F7a).ext F6a).quiet hq).ext E2a
    have n7d:=((((n9.ext hX).ext F7a).ext F6a).quiet hq).ext E2a
    obtain ⟨r8b,h2o,f9ai⟩:=Ab h0a2
    obtain ⟨r0b,h6g,f0aj⟩:=Ab f9ai
    refine PC #[true,true,true,true,true,true,true,true,true,true,false,false] 2 (fun l' w'=>∃(A6f:Option Addr) (c7f:Nat) (A2f:Option Addr) (c3f:Nat) (b3o:Nat) (b4o:Nat),Ext w6h w'∧RU w' A6f c7f r8b.m.Abs∧RU w' A2f c3f r0b.m.Abs∧w6h.heap.size≤b3o∧Bx w' b3o 119 [.bool false,.slice none 0 0,.int .i64 0]∧w6h.heap.size≤b4o∧Bx w' b4o 119 [.bool false,.slice none 0 0,.int .i64 0]∧b3o≠b4o∧l'=[.agg #[.bool x0.lo.m.Neg,.slice A1 (sz x0.lo.m.Abs) c2,.int .i64 x0.lo.e,.bool x0.hi.m.Neg,.slice A4 (sz x0.hi.m.Abs) c5,.int .i64 x0.hi.e],.agg #[.bool x1.lo.m.Neg,.slice A7 (sz x1.lo.m.Abs) c8,.int .i64 x1.lo.e,.bool x1.hi.m.Neg,.slice A0d (sz x1.hi.m.Abs) c5d,.int .i64 x1.hi.e],.int .i64 x2,.pointer (some ⟨b5n,0,none⟩),.pointer (some ⟨b5h,0,none⟩),.pointer (some ⟨b6n,0,none⟩),.pointer (some ⟨b8n,0,none⟩),.pointer (some ⟨b3q,0,none⟩),.pointer (some ⟨b0y,0,none⟩),.pointer (some ⟨b3ai,0,none⟩),.pointer (some ⟨b3o,0,none⟩),.pointer (some ⟨b4o,0,none⟩),.pointer (some ⟨b5h,0,none⟩),.agg #[.bool x1.lo.m.Neg,.slice A7 (sz x1.lo.m.Abs) c8,.int .i64 x1.lo.e],.int .i64 r2g,.pointer (some ⟨b5h,3,none⟩),.agg #[.bool x1.hi.m.Neg,.slice A0d (sz x1.hi.m.Abs) c5d,.int .i64 x1.hi.e],.int .i64 r3g,.int .i64 (wi64 (r2g*r3g)),.bool (decide (0<(wi64 (r2g*r3g)))),.tuple #[],.agg #[.bool x0.lo.m.Neg,.slice A1 (sz x0.lo.m.Abs) c2,.int .i64 x0.lo.e,.bool x0.hi.m.Neg,.slice A4 (sz x0.hi.m.Abs) c5,.int .i64 x0.hi.e],.agg #[.bool x1.lo.m.Neg,.slice A7 (sz x1.lo.m.Abs) c8,.int .i64 x1.lo.e,.bool x1.hi.m.Neg,.slice A0d (sz x1.hi.m.Abs) c5d,.int .i64 x1.hi.e],.func (.func 183) #[] #[.pointer (some ⟨b2k,0,none⟩),.pointer (some ⟨b3k,0,none⟩)],.agg #[.bool x0.lo.m.Neg,.slice A1 (sz x0.lo.m.Abs) c2,.int .i64 x0.lo.e],.agg #[.bool x1.lo.m.Neg,.slice A7 (sz x1.lo.m.Abs) c8,.int .i64 x1.lo.e],.agg #[.bool x0.lo.m.Neg,.slice A1 (sz x0.lo.m.Abs) c2,.int .i64 x0.lo.e],.agg #[.bool x1.lo.m.Neg,.slice A7 (sz x1.lo.m.Abs) c8,.int .i64 x1.lo.e],.int .i64 x2,.agg #[.bool r8b.m.Neg,.slice A6f (sz r8b.m.Abs) c7f,.int .i64 r8b.e],.agg #[.bool x0.lo.m.Neg,.slice A1 (sz x0.lo.m.Abs) c2,.int .i64 x0.lo.e],.agg #[.bool x1.lo.m.Neg,.slice A7 (sz x1.lo.m.Abs) c8,.int .i64 x1.lo.e],.int .i64 x2,.agg #[.bool r0b.m.Neg,.slice A2f (sz r0b.m.Abs) c3f,.int .i64 r0b.e],uu,uu,uu,uu,uu,uu,uu,uu,uu,uu,uu,uu,uu,uu,uu,uu,uu,uu,uu,uu,uu,uu,uu,uu,uu,uu,uu,uu,uu,uu,uu,uu]) ?_ ?_
    ·rintro _ w9x ⟨A6f,c7f,A2f,c3f,b3o,b4o,E9a,n1aj,n2aj,g3aj,q7g,g4aj,q8g,ne3e,rfl⟩
     have g5aj:=nlt (nlt (nlt (nlt hX.size X3j.size) hq.size) X1d.size) g3aj
     have g6aj:=nlt (nlt (nlt (nlt hX.size X3j.size) hq.size) X1d.size) g4aj
     have X7aj:=X1d.ext E9a
     have S4b9:=S4j.trans E9a
     refine dk 10 rfl (by kernel_rfl) (by decide) (by rfl) BX rfl rfl q7g rfl rfl rfl rfl (by simp only [SP0,SP1,S0,S1,Nat.reduceAdd];rfl) fun w5q U4a q2y=>?_
     have X8aj:=X7aj.upd U4a g5aj q7g
     refine dk 11 rfl (by kernel_rfl) (by decide) (by rfl) BX rfl rfl (q8g.upd U4a (Ne.symm ne3e)) rfl rfl rfl rfl (by simp only [SP0,SP1,S0,S1,Nat.reduceAdd];rfl) fun w0y U9b q8q=>?_
     have X4a2:=X8aj.upd U9b g6aj (q8g.upd U4a (Ne.symm ne3e))
     refine CU (by kernel_rfl) ?_
     refine h3a2 _ _<|wpIn_seq_k fun K5a2 h5a2=>wpIn_seq_k fun K6a2 h6a2=>Hs (by rfl) (fun ⟨_,_,h⟩=>h)<|have ne9q:=(Bx.neT (((((q9h.ext F7a).ext F6a).quiet hq).ext E2a).ext E9a) q7g (by decide));have ne0r:=(Bx.neT ((((((q9h.ext F7a).ext F6a).quiet hq).ext E2a).ext E9a).upd U4a ne9q) (q8g.upd U4a (Ne.symm ne3e)) (by decide));have q8f:=((((((q9h.ext F7a).ext F6a).quiet hq).ext E2a).ext E9a).upd U4a ne9q).upd U9b ne0r;sV (Ag Fg rfl (Bx.cell q8f rfl)) ?_
     refine sV (OQ MD rfl) ?_
     refine Ad<|h6a2 _ _<|wpIn_cond_true (Aj (evb rfl rfl))<|Hs (by rfl) (fun ⟨_,_,h⟩=>h)<|sV (Am AE rfl (q2y.upd U9b ne3e) rfl) ?_
     refine sV (Am AE rfl q8q rfl) ?_
     refine sV (Bc (vals:=[(0,.agg #[.bool r8b.m.Neg,.slice A6f (sz r8b.m.Abs) c7f,.int .i64 r8b.e]),(1,.agg #[.bool r0b.m.Neg,.slice A2f (sz r0b.m.Abs) c3f,.int .i64 r0b.e])]) (cells:=[.bool r8b.m.Neg,.slice A6f (sz r8b.m.Abs) c7f,.int .i64 r8b.e,.bool r0b.m.Neg,.slice A2f (sz r0b.m.Abs) c3f,.int .i64 r0b.e]) (by rfl) (by kernel_rfl)) ?_
     refine BT rfl rfl fun b9g w6q E1b g6k q2h=>?_
     refine nrm ?_
     have g7a2:=nlt (nlt (nlt (nlt hX.size X3j.size) hq.size) X4a2.size) g6k
     have X9aj:=X4a2.ext E1b
     refine Ax Ox rfl rfl (q8f.ext E1b) rfl rfl rfl rfl (by simp only [SP0,SP1,S0,S1,Nat.reduceAdd];rfl) fun w0o U0c q5o=>?_
     have X0ak:=X9aj.upd U0c g2ah (q8f.ext E1b)
     refine Ad<|h5a2 _ _<|wpIn_seq_k fun K8a2 h8a2=>wpIn_seq_k fun K9a2 h9a2=>Mo (by rfl) (fun ⟨_,_,h⟩=>h) [] 7 mo rfl fun w1o E5b S1r=>have X0a3:=X0ak.ext E5b;dV 0 rfl (fun _ hw=>Am AE rfl (((((q2y.upd U9b ne3e).ext E1b).upd U0c (Ne.symm ne9q)).ext E5b).ext hw) rfl) S1r ?_
     refine dV 1 rfl (fun _ hw=>Ag Fg rfl (Bx.cell ((q5o.ext E5b).ext hw) rfl)) S1r ?_
     refine dA 2 rfl (fun _=>Bn rfl) ?_
     refine dA 3 rfl (fun _=>Ai (o':=0) Eg rfl rfl) ?_
     have ne4f:=(Bx.neT q2h (q8f.ext E1b) (by decide))
     refine dV 4 rfl (fun _ hw=>AH AE rfl (((q2h.upd U0c ne4f).ext E5b).ext hw) (by simp only [List.drop_zero,List.take_succ_cons,List.take_zero];rfl) rfl) S1r ?_
     have n3y:=((((n1aj.upd U4a q7g (by decide)).upd U9b (q8g.upd U4a (Ne.symm ne3e)) (by decide)).ext E1b).upd U0c (q8f.ext E1b) (by decide)).ext E5b
     obtain ⟨r1ak,h2ak,f3ak⟩:=Ab f0aj
     refine dc 5 rfl (by kernel_rfl) (by rfl) (Ae IH (by rfl)) (CJ r8b r8b A6f c7f A6f c7f w1o (tbx (belR hE2 X0a3 hE2.size) hT) n3y n3y r1ak h2ak) ?_
     rintro _ w4k E7b rfl
     refine dnrm ?_
     have X4ak:=X0a3.ext E7b
     have S5b9:=S1r.trans E7b
     refine dab 6 rfl (by kernel_rfl) (fun _ _ _ h=>h) (by rfl) (fun _=>Cm rfl rfl) fun z2r hz2r=>?_
     refine dnrm ?_
     refine CU (by kernel_rfl) ?_
     refine h9a2 _ _ ?_
     obtain ⟨m6b9,h1a3,f5ak⟩:=Ab f3ak
     refine Ke (fun l l' w'=>∃(t2a3:Value) (t3a3:Value) (t4a3:Value) (t5a3:Value),UpdS [b9g] w4k w'∧Bx w' b9g 121 [.bool r8b.m.Neg,.slice A6f (sz r8b.m.Abs) c7f,.int .i64 r8b.e,.bool r0b.m.Neg,.slice A2f (sz r0b.m.Abs) c3f,.int .i64 r0b.e]∧l'=((((l.set 47 t2a3).set 48 t3a3).set 49 t4a3).set 50 t5a3)) ?_ ?_
     ·rcases bft z2r with e6o | e6o
      ·have p6ak:=zP hz2r e6o
       have f7ak:=ifP p6ak h1a3
       refine wpIn_cond_true (Aj (evb rfl e6o))<|Hs (by rfl) (fun ⟨_,_,h⟩=>h)<|sV (Ag Fg rfl (Bx.cell ((q5o.ext E5b).ext E7b) rfl)) ?_
       have q8ak:=((((q2y.upd U9b ne3e).ext E1b).upd U0c (Ne.symm ne9q)).ext E5b).ext E7b
       refine sV (Am AE rfl q8ak rfl) ?_
       refine sV (Bn rfl) ?_
       refine sV (Ai (o':=0) Eg rfl rfl) ?_
       have q9ak:=((q2h.upd U0c ne4f).ext E5b).ext E7b
       refine Ax BX rfl rfl q9ak rfl rfl rfl rfl (by simp only [SP0,SP1,S0,S1,Nat.reduceAdd];rfl) fun w4y U0al q1al=>?_
       refine Ad ?_
       obtain rfl:=sj f7ak
       exact ⟨_,rfl,(.pointer (some ⟨b9g,0,none⟩)),(.agg #[.bool r8b.m.Neg,.slice A6f (sz r8b.m.Abs) c7f,.int .i64 r8b.e]),(.pointer (some ⟨b9g,0,none⟩)),(.pointer (some ⟨b9g,0,none⟩)),((UpdS.refl _ _).upd U0al (.inl im0)),q1al,(by simp only [S0,S1]<;>rfl)⟩
      ·have p2al:=zN hz2r e6o
       have f3al:=ifN p2al h1a3
       refine wpIn_cond_false (Aj (evb rfl e6o))<|wpIn_skip ?_
       have q4al:=((q2h.upd U0c ne4f).ext E5b).ext E7b
       obtain rfl:=sj f3al
       exact ⟨_,rfl,uu,uu,uu,uu,(UpdS.refl _ _),q4al,(by simp only [S0,S1]<;>rfl)⟩
     ·rintro l' w4y ⟨t2a3,t3a3,t4a3,t5a3,U4e,q7k,hq'⟩ l'' hl
      rw [hq'] at hl
      clear hq'
      simp only [S0,S1] at hl
      subst hl
      have X5al:=X4ak.updS U4e (alc ⟨g7a2,_,_,((q2h.upd U0c ne4f).ext E5b).ext E7b⟩ al0)
      refine h8a2 _ _<|wpIn_seq_k fun K6a3 h6a3=>Mo (by rfl) (fun ⟨_,_,h⟩=>h) [] 7 mo rfl fun w2j E8c S3r=>have X7a3:=X5al.ext E8c;have ne8a3:=(Bx.neT ((((q8q.ext E1b).upd U0c (Ne.symm ne0r)).ext E5b).ext E7b) (((q2h.upd U0c ne4f).ext E5b).ext E7b) (by decide));dV 0 rfl (fun _ hw=>Am AE rfl (((((((q8q.ext E1b).upd U0c (Ne.symm ne0r)).ext E5b).ext E7b).updS U4e (nmc ne8a3 nm0)).ext E8c).ext hw) rfl) S3r ?_
      refine dV 1 rfl (fun _ hw=>Ag Fg rfl (Bx.cell (((((q5o.ext E5b).ext E7b).updS U4e (nmc (Ne.symm ne4f) nm0)).ext E8c).ext hw) rfl)) S3r ?_
      refine dA 2 rfl (fun _=>Bn rfl) ?_
      refine dA 3 rfl (fun _=>Ai (o':=3) EB rfl rfl) ?_
      refine dV 4 rfl (fun _ hw=>AH AE rfl ((q7k.ext E8c).ext hw) (by simp only [List.drop_succ_cons,List.drop_zero,List.take_succ_cons,List.take_zero];rfl) rfl) S3r ?_
      have n5y:RU w2j A2f c3f r0b.m.Abs:=(((((((n2aj.upd U4a q7g (by decide)).upd U9b (q8g.upd U4a (Ne.symm ne3e)) (by decide)).ext E1b).upd U0c (q8f.ext E1b) (by decide)).ext E5b).ext E7b).updS U4e (alc ⟨_,_,by decide,((q2h.upd U0c ne4f).ext E5b).ext E7b⟩ al0)).ext E8c
      obtain ⟨r6al,h7al,f8al⟩:=Ab f5ak
      refine dc 5 rfl (by kernel_rfl) (by rfl) (Ae IH (by rfl)) (CJ r0b r0b A2f c3f A2f c3f w2j (tbx (belR hE2 X7a3 hE2.size) hT) n5y n5y r6al h7al) ?_
      rintro _ w7q E4d rfl
      refine dnrm ?_
      have X9al:=X7a3.ext E4d
      have S7b9:=S3r.trans E4d
      refine dab 6 rfl (by kernel_rfl) (fun _ _ _ h=>h) (by rfl) (fun _=>Fs rfl rfl) fun z4r hz4r=>?_
      refine dnrm ?_
      refine CU (by kernel_rfl) ?_
      refine h6a3 _ _ ?_
      obtain ⟨m8b9,h9a3,f0am⟩:=Ab f8al
      refine Ke (fun l l' w'=>∃(t0a4:Value) (t1a4:Value) (t2a4:Value) (t3a4:Value),UpdS [b9g] w7q w'∧Bx w' b9g 121 [.bool r8b.m.Neg,.slice A6f (sz r8b.m.Abs) c7f,.int .i64 r8b.e,.bool r0b.m.Neg,.slice A2f (sz r0b.m.Abs) c3f,.int .i64 r0b.e]∧l'=((((l.set 58 t0a4).set 59 t1a4).set 60 t2a4).set 61 t3a4)) ?_ ?_
      ·rcases bft z4r with e7o | e7o
       ·have p1am:=zP hz4r e7o
        have f2am:=ifP p1am h9a3
        refine wpIn_cond_true (Aj (evb rfl e7o))<|Hs (by rfl) (fun ⟨_,_,h⟩=>h)<|have q3am:=((((q5o.ext E5b).ext E7b).updS U4e (nmc (Ne.symm ne4f) nm0)).ext E8c).ext E4d;sV (Ag Fg rfl (Bx.cell q3am rfl)) ?_
        have q4am:=((((((q8q.ext E1b).upd U0c (Ne.symm ne0r)).ext E5b).ext E7b).updS U4e (nmc ne8a3 nm0)).ext E8c).ext E4d
        refine sV (Am AE rfl q4am rfl) ?_
        refine sV (Bn rfl) ?_
        refine sV (Ai (o':=3) EB rfl rfl) ?_
        refine Ax BX rfl rfl ((q7k.ext E8c).ext E4d) rfl rfl rfl rfl (by simp only [SP0,SP1,S0,S1,Nat.reduceAdd];rfl) fun w5k U5am q6am=>?_
        refine Ad ?_
        obtain rfl:=sj f2am
        exact ⟨_,rfl,(.pointer (some ⟨b9g,0,none⟩)),(.agg #[.bool r0b.m.Neg,.slice A2f (sz r0b.m.Abs) c3f,.int .i64 r0b.e]),(.pointer (some ⟨b9g,0,none⟩)),(.pointer (some ⟨b9g,3,none⟩)),((UpdS.refl _ _).upd U5am (.inl im0)),q6am,(by simp only [S0,S1]<;>rfl)⟩
       ·have p7am:=zN hz4r e7o
        have f8am:=ifN p7am h9a3
        refine wpIn_cond_false (Aj (evb rfl e7o))<|wpIn_skip ?_
        obtain rfl:=sj f8am
        exact ⟨_,rfl,uu,uu,uu,uu,(UpdS.refl _ _),((q7k.ext E8c).ext E4d),(by simp only [S0,S1]<;>rfl)⟩
      ·rintro l' w5k ⟨t0a4,t1a4,t2a4,t3a4,U3h,q9am,hq'⟩ l'' hl
       rw [hq'] at hl
       clear hq'
       simp only [S0,S1] at hl
       subst hl
       have X6y:=X9al.updS U3h (alc ⟨g7a2,_,_,(q7k.ext E8c).ext E4d⟩ al0)
       have hE3:=belR hE2 X6y hE2.size
       have ne5r:=(Bx.neT (((((q7h.ext F7a).ext F6a).quiet hq).ext E2a).ext E9a) q7g (by decide))
       have ne7y:=(Bx.neT ((((((q7h.ext F7a).ext F6a).quiet hq).ext E2a).ext E9a).upd U4a ne5r) (q8g.upd U4a (Ne.symm ne3e)) (by decide))
       have ne0an:=(Bx.neT ((((((((q7h.ext F7a).ext F6a).quiet hq).ext E2a).ext E9a).upd U4a ne5r).upd U9b ne7y).ext E1b) (q8f.ext E1b) (by decide))
       have ne4a4:=(Bx.ne (((((((q7h.ext F7a).ext F6a).quiet hq).ext E2a).ext E9a).upd U4a ne5r).upd U9b ne7y) g6k)
       have q1an:=((((((((((((((q7h.ext F7a).ext F6a).quiet hq).ext E2a).ext E9a).upd U4a ne5r).upd U9b ne7y).ext E1b).upd U0c ne0an).ext E5b).ext E7b).updS U4e (nmc ne4a4 nm0)).ext E8c).ext E4d).updS U3h (nmc ne4a4 nm0)
       have ne6r:=(Bx.neT (((((q8h.ext F7a).ext F6a).quiet hq).ext E2a).ext E9a) q7g (by decide))
       have ne8y:=(Bx.neT ((((((q8h.ext F7a).ext F6a).quiet hq).ext E2a).ext E9a).upd U4a ne6r) (q8g.upd U4a (Ne.symm ne3e)) (by decide))
       have ne2an:=(Bx.neT ((((((((q8h.ext F7a).ext F6a).quiet hq).ext E2a).ext E9a).upd U4a ne6r).upd U9b ne8y).ext E1b) (q8f.ext E1b) (by decide))
       have ne5a4:=(Bx.ne (((((((q8h.ext F7a).ext F6a).quiet hq).ext E2a).ext E9a).upd U4a ne6r).upd U9b ne8y) g6k)
       have q3an:=((((((((((((((q8h.ext F7a).ext F6a).quiet hq).ext E2a).ext E9a).upd U4a ne6r).upd U9b ne8y).ext E1b).upd U0c ne2an).ext E5b).ext E7b).updS U4e (nmc ne5a4 nm0)).ext E8c).ext E4d).updS U3h (nmc ne5a4 nm0)
       have ne7r:=(Bx.neT (((((q2e.ext F7a).ext F6a).quiet hq).ext E2a).ext E9a) q7g (by decide))
       have ne9y:=(Bx.neT ((((((q2e.ext F7a).ext F6a).quiet hq).ext E2a).ext E9a).upd U4a ne7r) (q8g.upd U4a (Ne.symm ne3e)) (by decide))
       have ne6a4:=(Bx.neT ((((((((q2e.ext F7a).ext F6a).quiet hq).ext E2a).ext E9a).upd U4a ne7r).upd U9b ne9y).ext E1b) (q8f.ext E1b) (by decide))
       have ne7a4:=(Bx.neT (((((((((((q2e.ext F7a).ext F6a).quiet hq).ext E2a).ext E9a).upd U4a ne7r).upd U9b ne9y).ext E1b).upd U0c ne6a4).ext E5b).ext E7b) (((q2h.upd U0c ne4f).ext E5b).ext E7b) (by decide))
       have q4an:=((((((((((((((q2e.ext F7a).ext F6a).quiet hq).ext E2a).ext E9a).upd U4a ne7r).upd U9b ne9y).ext E1b).upd U0c ne6a4).ext E5b).ext E7b).updS U4e (nmc ne7a4 nm0)).ext E8c).ext E4d).updS U3h (nmc ne7a4 nm0)
       have ne8r:=(Bx.neT (((((q7c.ext F7a).ext F6a).quiet hq).ext E2a).ext E9a) q7g (by decide))
       have ne0z:=(Bx.neT ((((((q7c.ext F7a).ext F6a).quiet hq).ext E2a).ext E9a).upd U4a ne8r) (q8g.upd U4a (Ne.symm ne3e)) (by decide))
       have ne8a4:=(Bx.neT ((((((((q7c.ext F7a).ext F6a).quiet hq).ext E2a).ext E9a).upd U4a ne8r).upd U9b ne0z).ext E1b) (q8f.ext E1b) (by decide))
       have ne9a4:=(Bx.neT (((((((((((q7c.ext F7a).ext F6a).quiet hq).ext E2a).ext E9a).upd U4a ne8r).upd U9b ne0z).ext E1b).upd U0c ne8a4).ext E5b).ext E7b) (((q2h.upd U0c ne4f).ext E5b).ext E7b) (by decide))
       have q5an:=((((((((((((((q7c.ext F7a).ext F6a).quiet hq).ext E2a).ext E9a).upd U4a ne8r).upd U9b ne0z).ext E1b).upd U0c ne8a4).ext E5b).ext E7b).updS U4e (nmc ne9a4 nm0)).ext E8c).ext E4d).updS U3h (nmc ne9a4 nm0)
       have ne9r:=(Bx.neT (((((q4g.ext F7a).ext F6a).quiet hq).ext E2a).ext E9a) q7g (by decide))
       have ne1z:=(Bx.neT ((((((q4g.ext F7a).ext F6a).quiet hq).ext E2a).ext E9a).upd U4a ne9r) (q8g.upd U4a (Ne.symm ne3e)) (by decide))
       have ne6an:=(Bx.neT ((((((((q4g.ext F7a).ext F6a).quiet hq).ext E2a).ext E9a).upd U4a ne9r).upd U9b ne1z).ext E1b) (q8f.ext E1b) (by decide))
       have ne0a5:=(Bx.ne (((((((q4g.ext F7a).ext F6a).quiet hq).ext E2a).ext E9a).upd U4a ne9r).upd U9b ne1z) g6k)
       have q7an:=((((((((((((((q4g.ext F7a).ext F6a).quiet hq).ext E2a).ext E9a).upd U4a ne9r).upd U9b ne1z).ext E1b).upd U0c ne6an).ext E5b).ext E7b).updS U4e (nmc ne0a5 nm0)).ext E8c).ext E4d).updS U3h (nmc ne0a5 nm0)
       have ne0s:=(Bx.neT (((((q5g.ext F7a).ext F6a).quiet hq).ext E2a).ext E9a) q7g (by decide))
       have ne2z:=(Bx.neT ((((((q5g.ext F7a).ext F6a).quiet hq).ext E2a).ext E9a).upd U4a ne0s) (q8g.upd U4a (Ne.symm ne3e)) (by decide))
       have ne8an:=(Bx.neT ((((((((q5g.ext F7a).ext F6a).quiet hq).ext E2a).ext E9a).upd U4a ne0s).upd U9b ne2z).ext E1b) (q8f.ext E1b) (by decide))
       have ne1a5:=(Bx.ne (((((((q5g.ext F7a).ext F6a).quiet hq).ext E2a).ext E9a).upd U4a ne0s).upd U9b ne2z) g6k)
       have q9an:=((((((((((((((q5g.ext F7a).ext F6a).quiet hq).ext E2a).ext E9a).upd U4a ne0s).upd U9b ne2z).ext E1b).upd U0c ne8an).ext E5b).ext E7b).updS U4e (nmc ne1a5 nm0)).ext E8c).ext E4d).updS U3h (nmc ne1a5 nm0)
       have q0ao:=(((((q5o.ext E5b).ext E7b).updS U4e (nmc (Ne.symm ne4f) nm0)).ext E8c).ext E4d).updS U3h (nmc (Ne.symm ne4f) nm0)
       have n1ao:RU w5k A6f c7f r8b.m.Abs:=((((n3y.ext E7b).updS U4e (alc ⟨_,_,by decide,((q2h.upd U0c ne4f).ext E5b).ext E7b⟩ al0)).ext E8c).ext E4d).updS U3h (alc ⟨_,_,by decide,(q7k.ext E8c).ext E4d⟩ al0)
       have n2ao:RU w5k A2f c3f r0b.m.Abs:=(n5y.ext E4d).updS U3h (alc ⟨_,_,by decide,(q7k.ext E8c).ext E4d⟩ al0)
       obtain rfl:=sj f0am
       exact ⟨X6y,hE3,nlt (nlt (nlt hK X3j.size) hq.size) X6y.size,q1an,q3an,q4an,q5an,q7an,q9an,⟨b9g,A6f,c7f,A2f,c3f,(nlt (nlt (nlt (nlt (nlt (nlt (nlt hK X3j.size) hq.size) E2a.size) E9a.size) (Nat.le_of_eq U4a.size.symm)) (Nat.le_of_eq U9b.size.symm)) g6k),q0ao,q9am,n1ao,n2ao⟩⟩
    ·intro HJ155
     refine Na 3 8 9 (by kernel_rfl) ?_ ?_ ?_
     ·refine opC 3 rfl (by rfl) (Ae CY (by rfl)) (Au x0.lo x1.lo x2 5 A1 c2 A7 c8 _ (tbx (Ext.refl _) (tbx (belR hE2 X1d hE2.size) hT)) (n6d.ext (Ext.refl _)) (n7d.ext (Ext.refl _)) r8b h2o) ?_
      rintro _ _ E2b ⟨A8k,c9k,rfl,n0l⟩
      refine dnrm ?_
      refine Na 7 8 9 (by kernel_rfl) ?_ ?_ ?_
      ·refine opC 7 rfl (by rfl) (Ae CY (by rfl)) (Au x0.lo x1.lo x2 4 A1 c2 A7 c8 _ (tbx E2b (tbx (belR hE2 X1d hE2.size) hT)) (n6d.ext E2b) (n7d.ext E2b) r0b h6g) ?_
       rintro _ _ E4i ⟨A2a5,c3a5,rfl,n4a5⟩
       refine dnrm ?_
       refine GF 8 9 (by kernel_rfl) ?_ ?_
       ·refine opA 8 rfl (by rfl) (Be Ba) fun b3ao _ E1s g4ao q5a5=>dnrm ?_
        refine CF 9 (by kernel_rfl) ?_
        ·refine opA 9 rfl (by rfl) (Be Ba) fun b5ao _ E2s g6a5 q6ao=>dnrm ?_
         exact Et (by kernel_rfl) (HJ155 _ _ ⟨A8k,c9k,A2a5,c3a5,b3ao,b5ao,(((E2b.trans E4i).trans E1s).trans E2s),(((n0l.ext E4i).ext E1s).ext E2s),((n4a5.ext E1s).ext E2s),(nlt (E2b.trans E4i).size g4ao),(q5a5.ext E2s),(nlt ((E2b.trans E4i).trans E1s).size g6a5),q6ao,(Bx.ne q5a5 g6a5),rfl⟩)
       ·refine opA 9 rfl (by rfl) (Be Ba) fun b7ao _ E3s g8ao q7a5=>dnrm ?_
        refine CF 8 (by kernel_rfl) ?_
        ·refine opA 8 rfl (by rfl) (Be Ba) fun b9ao _ E4s g8a5 q0ap=>dnrm ?_
         exact Et (by kernel_rfl) (HJ155 _ _ ⟨A8k,c9k,A2a5,c3a5,b9ao,b7ao,(((E2b.trans E4i).trans E3s).trans E4s),(((n0l.ext E4i).ext E3s).ext E4s),((n4a5.ext E3s).ext E4s),(nlt ((E2b.trans E4i).trans E3s).size g8a5),q0ap,(nlt (E2b.trans E4i).size g8ao),(q7a5.ext E4s),(Ne.symm (Bx.ne q7a5 g8a5)),rfl⟩)
      ·refine opA 8 rfl (by rfl) (Be Ba) fun b9a5 _ E9f g0a6 q5s=>dnrm ?_
       refine GF 7 9 (by kernel_rfl) ?_ ?_
       ·refine opC 7 rfl (by rfl) (Ae CY (by rfl)) (Au x0.lo x1.lo x2 4 A1 c2 A7 c8 _ (tbx (E2b.trans E9f) (tbx (belR hE2 X1d hE2.size) hT)) (n6d.ext (E2b.trans E9f)) (n7d.ext (E2b.trans E9f)) r0b h6g) ?_
        rintro _ _ E8o ⟨A1ap,c2ap,rfl,n3ap⟩
        refine dnrm ?_
        refine CF 9 (by kernel_rfl) ?_
        ·refine opA 9 rfl (by rfl) (Be Ba) fun b4ap _ E6s g1a6 q5ap=>dnrm ?_
         exact Et (by kernel_rfl) (HJ155 _ _ ⟨A8k,c9k,A1ap,c2ap,b9a5,b4ap,(((E2b.trans E9f).trans E8o).trans E6s),(((n0l.ext E9f).ext E8o).ext E6s),(n3ap.ext E6s),(nlt E2b.size g0a6),((q5s.ext E8o).ext E6s),(nlt ((E2b.trans E9f).trans E8o).size g1a6),q5ap,(Bx.ne (q5s.ext E8o) g1a6),rfl⟩)
       ·refine opA 9 rfl (by rfl) (Be Ba) fun b6ap _ E1l g2a6 q7ap=>dnrm ?_
        refine CF 7 (by kernel_rfl) ?_
        ·refine opC 7 rfl (by rfl) (Ae CY (by rfl)) (Au x0.lo x1.lo x2 4 A1 c2 A7 c8 _ (tbx ((E2b.trans E9f).trans E1l) (tbx (belR hE2 X1d hE2.size) hT)) (n6d.ext ((E2b.trans E9f).trans E1l)) (n7d.ext ((E2b.trans E9f).trans E1l)) r0b h6g) ?_
         rintro _ _ E7s ⟨A8ap,c9ap,rfl,n0aq⟩
         refine dnrm ?_
         exact Et (by kernel_rfl) (HJ155 _ _ ⟨A8k,c9k,A8ap,c9ap,b9a5,b6ap,(((E2b.trans E9f).trans E1l).trans E7s),(((n0l.ext E9f).ext E1l).ext E7s),n0aq,(nlt E2b.size g0a6),((q5s.ext E1l).ext E7s),(nlt (E2b.trans E9f).size g2a6),(q7ap.ext E7s),(Bx.ne q5s g2a6),rfl⟩)
      ·refine opA 9 rfl (by rfl) (Be Ba) fun b8s _ E8d g3z q9s=>dnrm ?_
       refine GF 7 8 (by kernel_rfl) ?_ ?_
       ·refine opC 7 rfl (by rfl) (Ae CY (by rfl)) (Au x0.lo x1.lo x2 4 A1 c2 A7 c8 _ (tbx (E2b.trans E8d) (tbx (belR hE2 X1d hE2.size) hT)) (n6d.ext (E2b.trans E8d)) (n7d.ext (E2b.trans E8d)) r0b h6g) ?_
        rintro _ _ E9o ⟨A1aq,c2aq,rfl,n3aq⟩
        refine dnrm ?_
        refine CF 8 (by kernel_rfl) ?_
        ·refine opA 8 rfl (by rfl) (Be Ba) fun b4aq _ E0t g3a6 q5aq=>dnrm ?_
         exact Et (by kernel_rfl) (HJ155 _ _ ⟨A8k,c9k,A1aq,c2aq,b4aq,b8s,(((E2b.trans E8d).trans E9o).trans E0t),(((n0l.ext E8d).ext E9o).ext E0t),(n3aq.ext E0t),(nlt ((E2b.trans E8d).trans E9o).size g3a6),q5aq,(nlt E2b.size g3z),((q9s.ext E9o).ext E0t),(Ne.symm (Bx.ne (q9s.ext E9o) g3a6)),rfl⟩)
       ·refine opA 8 rfl (by rfl) (Be Ba) fun b6aq _ E2l g4a6 q7aq=>dnrm ?_
        refine CF 7 (by kernel_rfl) ?_
        ·refine opC 7 rfl (by rfl) (Ae CY (by rfl)) (Au x0.lo x1.lo x2 4 A1 c2 A7 c8 _ (tbx ((E2b.trans E8d).trans E2l) (tbx (belR hE2 X1d hE2.size) hT)) (n6d.ext ((E2b.trans E8d).trans E2l)) (n7d.ext ((E2b.trans E8d).trans E2l)) r0b h6g) ?_
         rintro _ _ E1t ⟨A8aq,c9aq,rfl,n0ar⟩
         refine dnrm ?_
         exact Et (by kernel_rfl) (HJ155 _ _ ⟨A8k,c9k,A8aq,c9aq,b6aq,b8s,(((E2b.trans E8d).trans E2l).trans E1t),(((n0l.ext E8d).ext E2l).ext E1t),n0ar,(nlt (E2b.trans E8d).size g4a6),(q7aq.ext E1t),(nlt E2b.size g3z),((q9s.ext E2l).ext E1t),(Ne.symm (Bx.ne q9s g4a6)),rfl⟩)
     ·refine opA 8 rfl (by rfl) (Be Ba) fun b4z _ E2c g5z q3l=>dnrm ?_
      refine GF 3 9 (by kernel_rfl) ?_ ?_
      ·refine opC 3 rfl (by rfl) (Ae CY (by rfl)) (Au x0.lo x1.lo x2 5 A1 c2 A7 c8 _ (tbx E2c (tbx (belR hE2 X1d hE2.size) hT)) (n6d.ext E2c) (n7d.ext E2c) r8b h2o) ?_
       rintro _ _ E5e ⟨A5a6,c6a6,rfl,n7a6⟩
       refine dnrm ?_
       refine GF 7 9 (by kernel_rfl) ?_ ?_
       ·refine opC 7 rfl (by rfl) (Ae CY (by rfl)) (Au x0.lo x1.lo x2 4 A1 c2 A7 c8 _ (tbx (E2c.trans E5e) (tbx (belR hE2 X1d hE2.size) hT)) (n6d.ext (E2c.trans E5e)) (n7d.ext (E2c.trans E5e)) r0b h6g) ?_
        rintro _ _ E0p ⟨A1ar,c2ar,rfl,n3ar⟩
        refine dnrm ?_
        refine CF 9 (by kernel_rfl) ?_
        ·refine opA 9 rfl (by rfl) (Be Ba) fun b4ar _ E2t g8a6 q5ar=>dnrm ?_
         exact Et (by kernel_rfl) (HJ155 _ _ ⟨A5a6,c6a6,A1ar,c2ar,b4z,b4ar,(((E2c.trans E5e).trans E0p).trans E2t),((n7a6.ext E0p).ext E2t),(n3ar.ext E2t),g5z,(((q3l.ext E5e).ext E0p).ext E2t),(nlt ((E2c.trans E5e).trans E0p).size g8a6),q5ar,(Bx.ne ((q3l.ext E5e).ext E0p) g8a6),rfl⟩)
       ·refine opA 9 rfl (by rfl) (Be Ba) fun b6ar _ E4l g9a6 q7ar=>dnrm ?_
        refine CF 7 (by kernel_rfl) ?_
        ·refine opC 7 rfl (by rfl) (Ae CY (by rfl)) (Au x0.lo x1.lo x2 4 A1 c2 A7 c8 _ (tbx ((E2c.trans E5e).trans E4l) (tbx (belR hE2 X1d hE2.size) hT)) (n6d.ext ((E2c.trans E5e).trans E4l)) (n7d.ext ((E2c.trans E5e).trans E4l)) r0b h6g) ?_
         rintro _ _ E3t ⟨A8ar,c9ar,rfl,n0as⟩
         refine dnrm ?_
         exact Et (by kernel_rfl) (HJ155 _ _ ⟨A5a6,c6a6,A8ar,c9ar,b4z,b6ar,(((E2c.trans E5e).trans E4l).trans E3t),((n7a6.ext E4l).ext E3t),n0as,g5z,(((q3l.ext E5e).ext E4l).ext E3t),(nlt (E2c.trans E5e).size g9a6),(q7ar.ext E3t),(Bx.ne (q3l.ext E5e) g9a6),rfl⟩)
      ·refine opA 9 rfl (by rfl) (Be Ba) fun b1as _ E5i g0a7 q2as=>dnrm ?_
       refine CF 3 (by kernel_rfl) ?_
       ·refine opC 3 rfl (by rfl) (Ae CY (by rfl)) (Au x0.lo x1.lo x2 5 A1 c2 A7 c8 _ (tbx (E2c.trans E5i) (tbx (belR hE2 X1d hE2.size) hT)) (n6d.ext (E2c.trans E5i)) (n7d.ext (E2c.trans E5i)) r8b h2o) ?_
        rintro _ _ E5l ⟨A3as,c4as,rfl,n5as⟩
        refine dnrm ?_
        refine CF 7 (by kernel_rfl) ?_
        ·refine opC 7 rfl (by rfl) (Ae CY (by rfl)) (Au x0.lo x1.lo x2 4 A1 c2 A7 c8 _ (tbx ((E2c.trans E5i).trans E5l) (tbx (belR hE2 X1d hE2.size) hT)) (n6d.ext ((E2c.trans E5i).trans E5l)) (n7d.ext ((E2c.trans E5i).trans E5l)) r0b h6g) ?_
         rintro _ _ E4t ⟨A6as,c7as,rfl,n8as⟩
         refine dnrm ?_
         exact Et (by kernel_rfl) (HJ155 _ _ ⟨A3as,c4as,A6as,c7as,b4z,b1as,(((E2c.trans E5i).trans E5l).trans E4t),(n5as.ext E4t),n8as,g5z,(((q3l.ext E5i).ext E5l).ext E4t),(nlt E2c.size g0a7),((q2as.ext E5l).ext E4t),(Bx.ne q3l g0a7),rfl⟩)
     ·refine opA 9 rfl (by rfl) (Be Ba) fun b6z _ E3c g7z q6l=>dnrm ?_
      refine GF 3 8 (by kernel_rfl) ?_ ?_
      ·refine opC 3 rfl (by rfl) (Ae CY (by rfl)) (Au x0.lo x1.lo x2 5 A1 c2 A7 c8 _ (tbx E3c (tbx (belR hE2 X1d hE2.size) hT)) (n6d.ext E3c) (n7d.ext E3c) r8b h2o) ?_
       rintro _ _ E6e ⟨A1a7,c2a7,rfl,n3a7⟩
       refine dnrm ?_
       refine GF 7 8 (by kernel_rfl) ?_ ?_
       ·refine opC 7 rfl (by rfl) (Ae CY (by rfl)) (Au x0.lo x1.lo x2 4 A1 c2 A7 c8 _ (tbx (E3c.trans E6e) (tbx (belR hE2 X1d hE2.size) hT)) (n6d.ext (E3c.trans E6e)) (n7d.ext (E3c.trans E6e)) r0b h6g) ?_
        rintro _ _ E1p ⟨A9as,c0at,rfl,n1at⟩
        refine dnrm ?_
        refine CF 8 (by kernel_rfl) ?_
        ·refine opA 8 rfl (by rfl) (Be Ba) fun b2at _ E5t g4a7 q3at=>dnrm ?_
         exact Et (by kernel_rfl) (HJ155 _ _ ⟨A1a7,c2a7,A9as,c0at,b2at,b6z,(((E3c.trans E6e).trans E1p).trans E5t),((n3a7.ext E1p).ext E5t),(n1at.ext E5t),(nlt ((E3c.trans E6e).trans E1p).size g4a7),q3at,g7z,(((q6l.ext E6e).ext E1p).ext E5t),(Ne.symm (Bx.ne ((q6l.ext E6e).ext E1p) g4a7)),rfl⟩)
       ·refine opA 8 rfl (by rfl) (Be Ba) fun b4at _ E7l g5a7 q5at=>dnrm ?_
        refine CF 7 (by kernel_rfl) ?_
        ·refine opC 7 rfl (by rfl) (Ae CY (by rfl)) (Au x0.lo x1.lo x2 4 A1 c2 A7 c8 _ (tbx ((E3c.trans E6e).trans E7l) (tbx (belR hE2 X1d hE2.size) hT)) (n6d.ext ((E3c.trans E6e).trans E7l)) (n7d.ext ((E3c.trans E6e).trans E7l)) r0b h6g) ?_
         rintro _ _ E6t ⟨A6at,c7at,rfl,n8at⟩
         refine dnrm ?_
         exact Et (by kernel_rfl) (HJ155 _ _ ⟨A1a7,c2a7,A6at,c7at,b4at,b6z,(((E3c.trans E6e).trans E7l).trans E6t),((n3a7.ext E7l).ext E6t),n8at,(nlt (E3c.trans E6e).size g5a7),(q5at.ext E6t),g7z,(((q6l.ext E6e).ext E7l).ext E6t),(Ne.symm (Bx.ne (q6l.ext E6e) g5a7)),rfl⟩)
      ·refine opA 8 rfl (by rfl) (Be Ba) fun b9at _ E6i g6a7 q0au=>dnrm ?_
       refine CF 3 (by kernel_rfl) ?_
       ·refine opC 3 rfl (by rfl) (Ae CY (by rfl)) (Au x0.lo x1.lo x2 5 A1 c2 A7 c8 _ (tbx (E3c.trans E6i) (tbx (belR hE2 X1d hE2.size) hT)) (n6d.ext (E3c.trans E6i)) (n7d.ext (E3c.trans E6i)) r8b h2o) ?_
        rintro _ _ E8l ⟨A1au,c2au,rfl,n3au⟩
        refine dnrm ?_
        refine CF 7 (by kernel_rfl) ?_
        ·refine opC 7 rfl (by rfl) (Ae CY (by rfl)) (Au x0.lo x1.lo x2 4 A1 c2 A7 c8 _ (tbx ((E3c.trans E6i).trans E8l) (tbx (belR hE2 X1d hE2.size) hT)) (n6d.ext ((E3c.trans E6i).trans E8l)) (n7d.ext ((E3c.trans E6i).trans E8l)) r0b h6g) ?_
         rintro _ _ E7t ⟨A4au,c5au,rfl,n6au⟩
         refine dnrm ?_
         exact Et (by kernel_rfl) (HJ155 _ _ ⟨A1au,c2au,A4au,c5au,b9at,b6z,(((E3c.trans E6i).trans E8l).trans E7t),(n3au.ext E7t),n6au,(nlt E3c.size g6a7),((q0au.ext E8l).ext E7t),g7z,(((q6l.ext E6i).ext E8l).ext E7t),(Ne.symm (Bx.ne q6l g6a7)),rfl⟩)
   ·obtain ⟨sr,x,y,AX,cX,AY,cY,s',he,nx,ny,ho,ho',hr1⟩:=hall2ai i hpos hi
    rw [ho] at hS
    obtain ⟨bs,AS,cS,AT,cT,gbs,q9h,qs,n5,n6⟩:=hS
    unfold GQ at hr1
    have g00:w.heap.size≤bs:=nlt X5x.size gbs
    refine JS (actPQ he (by simp only [S0,S1];rfl)) ?_
    refine wpIn_seq_k fun K7a7 h7a7=>Hs (by rfl) (fun ⟨_,_,h⟩=>h)<|Aw Ba fun b7au w4g E8au g8a7 q9au=>?_
    refine nrm ?_
    have g9b9:=nlt (nlt hX.size (Rd.refl w.heap.size w7c).size) g8a7
    refine Ax BX rfl rfl q9au rfl rfl rfl rfl (by simp only [SP0,SP1,S0,S1,Nat.reduceAdd];rfl) fun w5g U0av q9a7=>?_
    have F5a:=belU E8au U0av g8a7
    have X0a8:=(Rd.refl w.heap.size w7c).ext F5a
    refine Ad<|h7a7 _ _<|Hs (by rfl) (fun ⟨_,_,h⟩=>h)<|Aw Ba fun b1av w4ai E2av g1a8 q3av=>?_
    refine nrm ?_
    have g0ba:=nlt (nlt hX.size X0a8.size) g1a8
    refine Ax BX rfl rfl q3av rfl rfl rfl rfl (by simp only [SP0,SP1,S0,S1,Nat.reduceAdd];rfl) fun w7ai U4av q2a8=>?_
    have F3a:=belU E2av U4av g1a8
    have X2p:=X0a8.ext F3a
    refine Ad ?_
    refine ⟨X2p,?_⟩
    intro w1y hq
    refine have hE1:=belR hX X2p hX.size;have hE2:=belQ hE1 hq hE1.size;wpIn_block<|wpIn_seq_k fun K3a8 h3a8=>Mo (by rfl) (fun ⟨_,_,h⟩=>h) [10,11] 12 mo rfl fun w6h E0a S5j=>have X2d:=(Rd.refl w.heap.size w1y).ext E0a;dV 0 rfl (fun _ hw=>Am AE rfl ((((q9a7.ext F3a).quiet hq).ext E0a).ext hw) rfl) S5j ?_
    refine dV 1 rfl (fun _ hw=>Am AE rfl (((q2a8.quiet hq).ext E0a).ext hw) rfl) S5j ?_
    refine dV 2 rfl (fun _ hw=>Ag Ey rfl (Bx.cell (((((q2e.ext F5a).ext F3a).quiet hq).ext E0a).ext hw) rfl)) S5j ?_
    refine dV 4 rfl (fun _ hw=>Am AE rfl ((((q9a7.ext F3a).quiet hq).ext E0a).ext hw) rfl) S5j ?_
    refine dV 5 rfl (fun _ hw=>Am AE rfl (((q2a8.quiet hq).ext E0a).ext hw) rfl) S5j ?_
    refine dV 6 rfl (fun _ hw=>Ag Ey rfl (Bx.cell (((((q2e.ext F5a).ext F3a).quiet hq).ext E0a).ext hw) rfl)) S5j ?_
    have n9d:=((((nx.ext hX).ext F5a).ext F3a).quiet hq).ext E0a
    have n0e:=((((ny.ext hX).ext F5a).ext F3a).quiet hq).ext E0a
    obtain ⟨r5f,h3p,f5av⟩:=Ab hr1
    obtain ⟨r9c,h0h,f6av⟩:=Ab f5av
    refine PC #[true,true,true,true,true,true,true,true,true,true,false,false] 2 (fun l' w'=>∃(A9l:Option Addr) (c0m:Nat) (A6j:Option Addr) (c7j:Nat) (b4p:Nat) (b5p:Nat),Ext w6h w'∧RU w' A9l c0m r5f.m.Abs∧RU w' A6j c7j r9c.m.Abs∧w6h.heap.size≤b4p∧Bx w' b4p 119 [.bool false,.slice none 0 0,.int .i64 0]∧w6h.heap.size≤b5p∧Bx w' b5p 119 [.bool false,.slice none 0 0,.int .i64 0]∧b4p≠b5p∧l'=[.agg #[.bool x0.lo.m.Neg,.slice A1 (sz x0.lo.m.Abs) c2,.int .i64 x0.lo.e,.bool x0.hi.m.Neg,.slice A4 (sz x0.hi.m.Abs) c5,.int .i64 x0.hi.e],.agg #[.bool x1.lo.m.Neg,.slice A7 (sz x1.lo.m.Abs) c8,.int .i64 x1.lo.e,.bool x1.hi.m.Neg,.slice A0d (sz x1.hi.m.Abs) c5d,.int .i64 x1.hi.e],.int .i64 x2,.pointer (some ⟨b5n,0,none⟩),.pointer (some ⟨b5h,0,none⟩),.pointer (some ⟨b6n,0,none⟩),.pointer (some ⟨b8n,0,none⟩),.pointer (some ⟨b3q,0,none⟩),.pointer (some ⟨b7au,0,none⟩),.pointer (some ⟨b1av,0,none⟩),.pointer (some ⟨b4p,0,none⟩),.pointer (some ⟨b5p,0,none⟩),.pointer (some ⟨b5h,0,none⟩),.agg #[.bool x1.lo.m.Neg,.slice A7 (sz x1.lo.m.Abs) c8,.int .i64 x1.lo.e],.int .i64 r2g,.pointer (some ⟨b5h,3,none⟩),.agg #[.bool x1.hi.m.Neg,.slice A0d (sz x1.hi.m.Abs) c5d,.int .i64 x1.hi.e],.int .i64 r3g,.int .i64 (wi64 (r2g*r3g)),.bool (decide (0<(wi64 (r2g*r3g)))),.tuple #[],.agg #[.bool x0.lo.m.Neg,.slice A1 (sz x0.lo.m.Abs) c2,.int .i64 x0.lo.e,.bool x0.hi.m.Neg,.slice A4 (sz x0.hi.m.Abs) c5,.int .i64 x0.hi.e],.agg #[.bool x1.lo.m.Neg,.slice A7 (sz x1.lo.m.Abs) c8,.int .i64 x1.lo.e,.bool x1.hi.m.Neg,.slice A0d (sz x1.hi.m.Abs) c5d,.int .i64 x1.hi.e],.func (.func 183) #[] #[.pointer (some ⟨b2k,0,none⟩),.pointer (some ⟨b3k,0,none⟩)],.agg #[.bool x.m.Neg,.slice AX (sz x.m.Abs) cX,.int .i64 x.e],.agg #[.bool y.m.Neg,.slice AY (sz y.m.Abs) cY,.int .i64 y.e],.agg #[.bool x.m.Neg,.slice AX (sz x.m.Abs) cX,.int .i64 x.e],.agg #[.bool y.m.Neg,.slice AY (sz y.m.Abs) cY,.int .i64 y.e],.int .i64 x2,.agg #[.bool r5f.m.Neg,.slice A9l (sz r5f.m.Abs) c0m,.int .i64 r5f.e],.agg #[.bool x.m.Neg,.slice AX (sz x.m.Abs) cX,.int .i64 x.e],.agg #[.bool y.m.Neg,.slice AY (sz y.m.Abs) cY,.int .i64 y.e],.int .i64 x2,.agg #[.bool r9c.m.Neg,.slice A6j (sz r9c.m.Abs) c7j,.int .i64 r9c.e],uu,uu,uu,uu,uu,uu,uu,uu,uu,uu,uu,uu,uu,uu,uu,uu,uu,uu,uu,uu,uu,uu,uu,uu,uu,uu,uu,uu,uu,uu,uu,uu]) ?_ ?_
    ·rintro _ w9x ⟨A9l,c0m,A6j,c7j,b4p,b5p,E8a,n7av,n8av,g9av,q7e,g0aw,q8e,ne1e,rfl⟩
     have g1aw:=nlt (nlt (nlt (nlt hX.size X2p.size) hq.size) X2d.size) g9av
     have g2aw:=nlt (nlt (nlt (nlt hX.size X2p.size) hq.size) X2d.size) g0aw
     have X3aw:=X2d.ext E8a
     have S1ba:=S5j.trans E8a
     refine dk 10 rfl (by kernel_rfl) (by decide) (by rfl) BX rfl rfl q7e rfl rfl rfl rfl (by simp only [SP0,SP1,S0,S1,Nat.reduceAdd];rfl) fun w5q U1a q4a8=>?_
     have X4aw:=X3aw.upd U1a g1aw q7e
     refine dk 11 rfl (by kernel_rfl) (by decide) (by rfl) BX rfl rfl (q8e.upd U1a (Ne.symm ne1e)) rfl rfl rfl rfl (by simp only [SP0,SP1,S0,S1,Nat.reduceAdd];rfl) fun w0y U1c q5a8=>?_
     have X5aw:=X4aw.upd U1c g2aw (q8e.upd U1a (Ne.symm ne1e))
     refine CU (by kernel_rfl) ?_
     refine h3a8 _ _<|wpIn_seq_k fun K6a8 h6a8=>wpIn_seq_k fun K7a8 h7a8=>Hs (by rfl) (fun ⟨_,_,h⟩=>h)<|have ne8a8:=(Bx.neT (((((q9h.ext F5a).ext F3a).quiet hq).ext E0a).ext E8a) q7e (by decide));have ne6aw:=(Bx.neT ((((((q9h.ext F5a).ext F3a).quiet hq).ext E0a).ext E8a).upd U1a ne8a8) (q8e.upd U1a (Ne.symm ne1e)) (by decide));have q8j:=((((((q9h.ext F5a).ext F3a).quiet hq).ext E0a).ext E8a).upd U1a ne8a8).upd U1c ne6aw;sV (Ag Fg rfl (Bx.cell q8j rfl)) ?_
     refine sV (PI MD rfl) ?_
     refine Ad<|h7a8 _ _<|wpIn_cond_false (Aj (evb rfl rfl))<|wpIn_skip<|h6a8 _ _<|wpIn_seq_k fun K9a8 h9a8=>wpIn_seq_k fun K0a9 h0a9=>Mo (by rfl) (fun ⟨_,_,h⟩=>h) [] 7 mo rfl fun w6q E4b S8t=>have X1a9:=X5aw.ext E4b;dV 0 rfl (fun _ hw=>Am AE rfl (((q4a8.upd U1c ne1e).ext E4b).ext hw) rfl) S8t ?_
     refine dV 1 rfl (fun _ hw=>Ag Fg rfl (Bx.cell ((q8j.ext E4b).ext hw) rfl)) S8t ?_
     refine dA 2 rfl (fun _=>Bn rfl) ?_
     refine dA 3 rfl (fun _=>Ai (o':=0) Eg rfl rfl) ?_
     have ne4h:=(Bx.neT (((((qs.ext F5a).ext F3a).quiet hq).ext E0a).ext E8a) q7e (by decide))
     have ne1h:=(Bx.neT ((((((qs.ext F5a).ext F3a).quiet hq).ext E0a).ext E8a).upd U1a ne4h) (q8e.upd U1a (Ne.symm ne1e)) (by decide))
     refine dV 4 rfl (fun _ hw=>AH AE rfl (((((((((qs.ext F5a).ext F3a).quiet hq).ext E0a).ext E8a).upd U1a ne4h).upd U1c ne1h).ext E4b).ext hw) (by simp only [List.drop_zero,List.take_succ_cons,List.take_zero];rfl) rfl) S8t ?_
     have n2a9:=((n7av.upd U1a q7e (by decide)).upd U1c (q8e.upd U1a (Ne.symm ne1e)) (by decide)).ext E4b
     have n3a9:=(((((((n5.ext F5a).ext F3a).quiet hq).ext E0a).ext E8a).upd U1a q7e (by decide)).upd U1c (q8e.upd U1a (Ne.symm ne1e)) (by decide)).ext E4b
     obtain ⟨r7aw,h8aw,f9aw⟩:=Ab f6av
     refine dc 5 rfl (by kernel_rfl) (by rfl) (Ae IH (by rfl)) (CJ r5f sr.lo A9l c0m AS cS w6q (tbx (belR hE2 X1a9 hE2.size) hT) n2a9 n3a9 r7aw h8aw) ?_
     rintro _ w0o E6b rfl
     refine dnrm ?_
     have X0ax:=X1a9.ext E6b
     have S2ba:=S8t.trans E6b
     refine dab 6 rfl (by kernel_rfl) (fun _ _ _ h=>h) (by rfl) (fun _=>Cm rfl rfl) fun z9t hz9t=>?_
     refine dnrm ?_
     refine CU (by kernel_rfl) ?_
     refine h0a9 _ _ ?_
     obtain ⟨m7i,h4a9,f1ax⟩:=Ab f9aw
     refine Ke (fun l l' w'=>∃(t5a9:Value) (t6a9:Value) (t7a9:Value) (t8a9:Value) (A1m:Option Addr) (c2m:Nat),UpdS [bs] w0o w'∧Bx w' bs 121 [.bool m7i.1,.slice A1m (sz m7i.2.1) c2m,.int .i64 m7i.2.2,.bool sr.hi.m.Neg,.slice AT (sz sr.hi.m.Abs) cT,.int .i64 sr.hi.e]∧RU w' A1m c2m m7i.2.1∧l'=((((l.set 47 t5a9).set 48 t6a9).set 49 t7a9).set 50 t8a9)) ?_ ?_
     ·rcases bft z9t with e6p | e6p
      ·have p2ax:=zP hz9t e6p
       have f3ax:=ifP p2ax h4a9
       refine wpIn_cond_true (Aj (evb rfl e6p))<|Hs (by rfl) (fun ⟨_,_,h⟩=>h)<|sV (Ag Fg rfl (Bx.cell ((q8j.ext E4b).ext E6b) rfl)) ?_
       have q4ax:=((q4a8.upd U1c ne1e).ext E4b).ext E6b
       refine sV (Am AE rfl q4ax rfl) ?_
       refine sV (Bn rfl) ?_
       refine sV (Ai (o':=0) Eg rfl rfl) ?_
       have q9a9:=((((((((qs.ext F5a).ext F3a).quiet hq).ext E0a).ext E8a).upd U1a ne4h).upd U1c ne1h).ext E4b).ext E6b
       refine Ax BX rfl rfl q9a9 rfl rfl rfl rfl (by simp only [SP0,SP1,S0,S1,Nat.reduceAdd];rfl) fun w1o U0aa q5ax=>?_
       refine Ad ?_
       have n6ax:=(n2a9.ext E6b).upd U0aa q9a9 (by decide)
       obtain rfl:=sj f3ax
       exact ⟨_,rfl,(.pointer (some ⟨bs,0,none⟩)),(.agg #[.bool r5f.m.Neg,.slice A9l (sz r5f.m.Abs) c0m,.int .i64 r5f.e]),(.pointer (some ⟨bs,0,none⟩)),(.pointer (some ⟨bs,0,none⟩)),A9l,c0m,((UpdS.refl _ _).upd U0aa (.inl im0)),q5ax,n6ax,(by simp only [S0,S1]<;>rfl)⟩
      ·have p7ax:=zN hz9t e6p
       have f8ax:=ifN p7ax h4a9
       refine wpIn_cond_false (Aj (evb rfl e6p))<|wpIn_skip ?_
       have q9ax:=((((((((qs.ext F5a).ext F3a).quiet hq).ext E0a).ext E8a).upd U1a ne4h).upd U1c ne1h).ext E4b).ext E6b
       obtain rfl:=sj f8ax
       exact ⟨_,rfl,uu,uu,uu,uu,AS,cS,(UpdS.refl _ _),q9ax,(n3a9.ext E6b),(by simp only [S0,S1]<;>rfl)⟩
     ·rintro l' w1o ⟨t5a9,t6a9,t7a9,t8a9,A1m,c2m,U9e,q3m,n0ay,hq'⟩ l'' hl
      rw [hq'] at hl
      clear hq'
      simp only [S0,S1] at hl
      subst hl
      have X1ay:=X0ax.updS U9e (alc ⟨g00,_,_,((((((((qs.ext F5a).ext F3a).quiet hq).ext E0a).ext E8a).upd U1a ne4h).upd U1c ne1h).ext E4b).ext E6b⟩ al0)
      refine h9a8 _ _<|wpIn_seq_k fun K1aa h1aa=>Mo (by rfl) (fun ⟨_,_,h⟩=>h) [] 7 mo rfl fun w4k E4c S0u=>have X2aa:=X1ay.ext E4c;dV 0 rfl (fun _ hw=>Am AE rfl (((((q5a8.ext E4b).ext E6b).updS U9e (nmc (Ne.symm ne1h) nm0)).ext E4c).ext hw) rfl) S0u ?_
      have ne1u:=(Bx.neT ((q8j.ext E4b).ext E6b) (((((((((qs.ext F5a).ext F3a).quiet hq).ext E0a).ext E8a).upd U1a ne4h).upd U1c ne1h).ext E4b).ext E6b) (by decide))
      refine dV 1 rfl (fun _ hw=>Ag Fg rfl (Bx.cell (((((q8j.ext E4b).ext E6b).updS U9e (nmc ne1u nm0)).ext E4c).ext hw) rfl)) S0u ?_
      refine dA 2 rfl (fun _=>Bn rfl) ?_
      refine dA 3 rfl (fun _=>Ai (o':=3) EB rfl rfl) ?_
      refine dV 4 rfl (fun _ hw=>AH AE rfl ((q3m.ext E4c).ext hw) (by simp only [List.drop_succ_cons,List.drop_zero,List.take_succ_cons,List.take_zero];rfl) rfl) S0u ?_
      have n3aa:RU w4k A6j c7j r9c.m.Abs:=(((((n8av.upd U1a q7e (by decide)).upd U1c (q8e.upd U1a (Ne.symm ne1e)) (by decide)).ext E4b).ext E6b).updS U9e (alc ⟨_,_,by decide,((((((((qs.ext F5a).ext F3a).quiet hq).ext E0a).ext E8a).upd U1a ne4h).upd U1c ne1h).ext E4b).ext E6b⟩ al0)).ext E4c
      have n4aa:RU w4k AT cT sr.hi.m.Abs:=((((((((((n6.ext F5a).ext F3a).quiet hq).ext E0a).ext E8a).upd U1a q7e (by decide)).upd U1c (q8e.upd U1a (Ne.symm ne1e)) (by decide)).ext E4b).ext E6b).updS U9e (alc ⟨_,_,by decide,((((((((qs.ext F5a).ext F3a).quiet hq).ext E0a).ext E8a).upd U1a ne4h).upd U1c ne1h).ext E4b).ext E6b⟩ al0)).ext E4c
      obtain ⟨r2ay,h3ay,f4ay⟩:=Ab f1ax
      refine dc 5 rfl (by kernel_rfl) (by rfl) (Ae IH (by rfl)) (CJ r9c sr.hi A6j c7j AT cT w4k (tbx (belR hE2 X2aa hE2.size) hT) n3aa n4aa r2ay h3ay) ?_
      rintro _ w4y E3d rfl
      refine dnrm ?_
      have X5ay:=X2aa.ext E3d
      have S3ba:=S0u.trans E3d
      refine dab 6 rfl (by kernel_rfl) (fun _ _ _ h=>h) (by rfl) (fun _=>Fs rfl rfl) fun z2u hz2u=>?_
      refine dnrm ?_
      refine CU (by kernel_rfl) ?_
      refine h1aa _ _ ?_
      obtain ⟨m3u,h5aa,f6ay⟩:=Ab f4ay
      refine Ke (fun l l' w'=>∃(t6aa:Value) (t7aa:Value) (t8aa:Value) (t9aa:Value) (A4u:Option Addr) (c5u:Nat),UpdS [bs] w4y w'∧Bx w' bs 121 [.bool m7i.1,.slice A1m (sz m7i.2.1) c2m,.int .i64 m7i.2.2,.bool m3u.1,.slice A4u (sz m3u.2.1) c5u,.int .i64 m3u.2.2]∧RU w' A4u c5u m3u.2.1∧l'=((((l.set 58 t6aa).set 59 t7aa).set 60 t8aa).set 61 t9aa)) ?_ ?_
      ·rcases bft z2u with e7p | e7p
       ·have p7ay:=zP hz2u e7p
        have f8ay:=ifP p7ay h5aa
        refine wpIn_cond_true (Aj (evb rfl e7p))<|Hs (by rfl) (fun ⟨_,_,h⟩=>h)<|have q9ay:=((((q8j.ext E4b).ext E6b).updS U9e (nmc ne1u nm0)).ext E4c).ext E3d;sV (Ag Fg rfl (Bx.cell q9ay rfl)) ?_
        have q0az:=((((q5a8.ext E4b).ext E6b).updS U9e (nmc (Ne.symm ne1h) nm0)).ext E4c).ext E3d
        refine sV (Am AE rfl q0az rfl) ?_
        refine sV (Bn rfl) ?_
        refine sV (Ai (o':=3) EB rfl rfl) ?_
        refine Ax BX rfl rfl ((q3m.ext E4c).ext E3d) rfl rfl rfl rfl (by simp only [SP0,SP1,S0,S1,Nat.reduceAdd];rfl) fun w2j U0ab q1az=>?_
        refine Ad ?_
        have n2az:=(n3aa.ext E3d).upd U0ab ((q3m.ext E4c).ext E3d) (by decide)
        obtain rfl:=sj f8ay
        exact ⟨_,rfl,(.pointer (some ⟨bs,0,none⟩)),(.agg #[.bool r9c.m.Neg,.slice A6j (sz r9c.m.Abs) c7j,.int .i64 r9c.e]),(.pointer (some ⟨bs,0,none⟩)),(.pointer (some ⟨bs,3,none⟩)),A6j,c7j,((UpdS.refl _ _).upd U0ab (.inl im0)),q1az,n2az,(by simp only [S0,S1]<;>rfl)⟩
       ·have p3az:=zN hz2u e7p
        have f4az:=ifN p3az h5aa
        refine wpIn_cond_false (Aj (evb rfl e7p))<|wpIn_skip ?_
        obtain rfl:=sj f4az
        exact ⟨_,rfl,uu,uu,uu,uu,AT,cT,(UpdS.refl _ _),((q3m.ext E4c).ext E3d),(n4aa.ext E3d),(by simp only [S0,S1]<;>rfl)⟩
      ·rintro l' w2j ⟨t6aa,t7aa,t8aa,t9aa,A4u,c5u,U0i,q5az,n6az,hq'⟩ l'' hl
       rw [hq'] at hl
       clear hq'
       simp only [S0,S1] at hl
       subst hl
       have X8z:=X5ay.updS U0i (alc ⟨g00,_,_,(q3m.ext E4c).ext E3d⟩ al0)
       have hE3:=belR hE2 X8z hE2.size
       have ne1ab:=(Bx.neT (((((q7h.ext F5a).ext F3a).quiet hq).ext E0a).ext E8a) q7e (by decide))
       have ne7az:=(Bx.neT ((((((q7h.ext F5a).ext F3a).quiet hq).ext E0a).ext E8a).upd U1a ne1ab) (q8e.upd U1a (Ne.symm ne1e)) (by decide))
       have ne2ab:=(Bx.ne (q3x.ext E3i) gbs)
       have q8az:=((((((((((((q7h.ext F5a).ext F3a).quiet hq).ext E0a).ext E8a).upd U1a ne1ab).upd U1c ne7az).ext E4b).ext E6b).updS U9e (nmc ne2ab nm0)).ext E4c).ext E3d).updS U0i (nmc ne2ab nm0)
       have ne3ab:=(Bx.neT (((((q8h.ext F5a).ext F3a).quiet hq).ext E0a).ext E8a) q7e (by decide))
       have ne9az:=(Bx.neT ((((((q8h.ext F5a).ext F3a).quiet hq).ext E0a).ext E8a).upd U1a ne3ab) (q8e.upd U1a (Ne.symm ne1e)) (by decide))
       have ne4ab:=(Bx.ne (q4x.ext E3i) gbs)
       have q0b0:=((((((((((((q8h.ext F5a).ext F3a).quiet hq).ext E0a).ext E8a).upd U1a ne3ab).upd U1c ne9az).ext E4b).ext E6b).updS U9e (nmc ne4ab nm0)).ext E4c).ext E3d).updS U0i (nmc ne4ab nm0)
       have ne9z:=(Bx.neT (((((q2e.ext F5a).ext F3a).quiet hq).ext E0a).ext E8a) q7e (by decide))
       have ne5ab:=(Bx.neT ((((((q2e.ext F5a).ext F3a).quiet hq).ext E0a).ext E8a).upd U1a ne9z) (q8e.upd U1a (Ne.symm ne1e)) (by decide))
       have ne6ab:=(Bx.neT (((((((((q2e.ext F5a).ext F3a).quiet hq).ext E0a).ext E8a).upd U1a ne9z).upd U1c ne5ab).ext E4b).ext E6b) (((((((((qs.ext F5a).ext F3a).quiet hq).ext E0a).ext E8a).upd U1a ne4h).upd U1c ne1h).ext E4b).ext E6b) (by decide))
       have q1b0:=((((((((((((q2e.ext F5a).ext F3a).quiet hq).ext E0a).ext E8a).upd U1a ne9z).upd U1c ne5ab).ext E4b).ext E6b).updS U9e (nmc ne6ab nm0)).ext E4c).ext E3d).updS U0i (nmc ne6ab nm0)
       have ne0a0:=(Bx.neT (((((q7c.ext F5a).ext F3a).quiet hq).ext E0a).ext E8a) q7e (by decide))
       have ne7ab:=(Bx.neT ((((((q7c.ext F5a).ext F3a).quiet hq).ext E0a).ext E8a).upd U1a ne0a0) (q8e.upd U1a (Ne.symm ne1e)) (by decide))
       have ne8ab:=(Bx.neT (((((((((q7c.ext F5a).ext F3a).quiet hq).ext E0a).ext E8a).upd U1a ne0a0).upd U1c ne7ab).ext E4b).ext E6b) (((((((((qs.ext F5a).ext F3a).quiet hq).ext E0a).ext E8a).upd U1a ne4h).upd U1c ne1h).ext E4b).ext E6b) (by decide))
       have q2b0:=((((((((((((q7c.ext F5a).ext F3a).quiet hq).ext E0a).ext E8a).upd U1a ne0a0).upd U1c ne7ab).ext E4b).ext E6b).updS U9e (nmc ne8ab nm0)).ext E4c).ext E3d).updS U0i (nmc ne8ab nm0)
       have ne9ab:=(Bx.neT (((((q4g.ext F5a).ext F3a).quiet hq).ext E0a).ext E8a) q7e (by decide))
       have ne3b0:=(Bx.neT ((((((q4g.ext F5a).ext F3a).quiet hq).ext E0a).ext E8a).upd U1a ne9ab) (q8e.upd U1a (Ne.symm ne1e)) (by decide))
       have ne0ac:=(Bx.ne q7a1 gbs)
       have q4b0:=((((((((((((q4g.ext F5a).ext F3a).quiet hq).ext E0a).ext E8a).upd U1a ne9ab).upd U1c ne3b0).ext E4b).ext E6b).updS U9e (nmc ne0ac nm0)).ext E4c).ext E3d).updS U0i (nmc ne0ac nm0)
       have ne1ac:=(Bx.neT (((((q5g.ext F5a).ext F3a).quiet hq).ext E0a).ext E8a) q7e (by decide))
       have ne5b0:=(Bx.neT ((((((q5g.ext F5a).ext F3a).quiet hq).ext E0a).ext E8a).upd U1a ne1ac) (q8e.upd U1a (Ne.symm ne1e)) (by decide))
       have ne2ac:=(Bx.ne q8a1 gbs)
       have q6b0:=((((((((((((q5g.ext F5a).ext F3a).quiet hq).ext E0a).ext E8a).upd U1a ne1ac).upd U1c ne5b0).ext E4b).ext E6b).updS U9e (nmc ne2ac nm0)).ext E4c).ext E3d).updS U0i (nmc ne2ac nm0)
       have q7b0:=(((((q8j.ext E4b).ext E6b).updS U9e (nmc ne1u nm0)).ext E4c).ext E3d).updS U0i (nmc ne1u nm0)
       have n8b0:RU w2j A1m c2m m7i.2.1:=((n0ay.ext E4c).ext E3d).updS U0i (alc ⟨_,_,by decide,(q3m.ext E4c).ext E3d⟩ al0)
       obtain rfl:=sj f6ay
       exact ⟨X8z,hE3,nlt (nlt (nlt hK X2p.size) hq.size) X8z.size,q8az,q0b0,q1b0,q2b0,q4b0,q6b0,(by rw [ho'];exact ⟨bs,A1m,c2m,A4u,c5u,gbs,q7b0,q5az,n8b0,n6az⟩)⟩
    ·intro HJ486
     refine Na 3 8 9 (by kernel_rfl) ?_ ?_ ?_
     ·refine opC 3 rfl (by rfl) (Ae CY (by rfl)) (Au x y x2 5 AX cX AY cY _ (tbx (Ext.refl _) (tbx (belR hE2 X2d hE2.size) hT)) (n9d.ext (Ext.refl _)) (n0e.ext (Ext.refl _)) r5f h3p) ?_
      rintro _ _ E3b ⟨A4m,c5m,rfl,n6m⟩
      refine dnrm ?_
      refine Na 7 8 9 (by kernel_rfl) ?_ ?_ ?_
      ·refine opC 7 rfl (by rfl) (Ae CY (by rfl)) (Au x y x2 4 AX cX AY cY _ (tbx E3b (tbx (belR hE2 X2d hE2.size) hT)) (n9d.ext E3b) (n0e.ext E3b) r9c h0h) ?_
       rintro _ _ E8i ⟨A3ac,c4ac,rfl,n5ac⟩
       refine dnrm ?_
       refine GF 8 9 (by kernel_rfl) ?_ ?_
       ·refine opA 8 rfl (by rfl) (Be Ba) fun b9b0 _ E6u g0b1 q6ac=>dnrm ?_
        refine CF 9 (by kernel_rfl) ?_
        ·refine opA 9 rfl (by rfl) (Be Ba) fun b1b1 _ E7u g7ac q2b1=>dnrm ?_
         exact Et (by kernel_rfl) (HJ486 _ _ ⟨A4m,c5m,A3ac,c4ac,b9b0,b1b1,(((E3b.trans E8i).trans E6u).trans E7u),(((n6m.ext E8i).ext E6u).ext E7u),((n5ac.ext E6u).ext E7u),(nlt (E3b.trans E8i).size g0b1),(q6ac.ext E7u),(nlt ((E3b.trans E8i).trans E6u).size g7ac),q2b1,(Bx.ne q6ac g7ac),rfl⟩)
       ·refine opA 9 rfl (by rfl) (Be Ba) fun b3b1 _ E8u g4b1 q8ac=>dnrm ?_
        refine CF 8 (by kernel_rfl) ?_
        ·refine opA 8 rfl (by rfl) (Be Ba) fun b5b1 _ E9u g9ac q6b1=>dnrm ?_
         exact Et (by kernel_rfl) (HJ486 _ _ ⟨A4m,c5m,A3ac,c4ac,b5b1,b3b1,(((E3b.trans E8i).trans E8u).trans E9u),(((n6m.ext E8i).ext E8u).ext E9u),((n5ac.ext E8u).ext E9u),(nlt ((E3b.trans E8i).trans E8u).size g9ac),q6b1,(nlt (E3b.trans E8i).size g4b1),(q8ac.ext E9u),(Ne.symm (Bx.ne q8ac g9ac)),rfl⟩)
      ·refine opA 8 rfl (by rfl) (Be Ba) fun b0ad _ E0g g1ad q0v=>dnrm ?_
       refine GF 7 9 (by kernel_rfl) ?_ ?_
       ·refine opC 7 rfl (by rfl) (Ae CY (by rfl)) (Au x y x2 4 AX cX AY cY _ (tbx (E3b.trans E0g) (tbx (belR hE2 X2d hE2.size) hT)) (n9d.ext (E3b.trans E0g)) (n0e.ext (E3b.trans E0g)) r9c h0h) ?_
        rintro _ _ E8p ⟨A7b1,c8b1,rfl,n9b1⟩
        refine dnrm ?_
        refine CF 9 (by kernel_rfl) ?_
        ·refine opA 9 rfl (by rfl) (Be Ba) fun b0b2 _ E1v g2ad q1b2=>dnrm ?_
         exact Et (by kernel_rfl) (HJ486 _ _ ⟨A4m,c5m,A7b1,c8b1,b0ad,b0b2,(((E3b.trans E0g).trans E8p).trans E1v),(((n6m.ext E0g).ext E8p).ext E1v),(n9b1.ext E1v),(nlt E3b.size g1ad),((q0v.ext E8p).ext E1v),(nlt ((E3b.trans E0g).trans E8p).size g2ad),q1b2,(Bx.ne (q0v.ext E8p) g2ad),rfl⟩)
       ·refine opA 9 rfl (by rfl) (Be Ba) fun b2b2 _ E7m g3ad q3b2=>dnrm ?_
        refine CF 7 (by kernel_rfl) ?_
        ·refine opC 7 rfl (by rfl) (Ae CY (by rfl)) (Au x y x2 4 AX cX AY cY _ (tbx ((E3b.trans E0g).trans E7m) (tbx (belR hE2 X2d hE2.size) hT)) (n9d.ext ((E3b.trans E0g).trans E7m)) (n0e.ext ((E3b.trans E0g).trans E7m)) r9c h0h) ?_
         rintro _ _ E2v ⟨A4b2,c5b2,rfl,n6b2⟩
         refine dnrm ?_
         exact Et (by kernel_rfl) (HJ486 _ _ ⟨A4m,c5m,A4b2,c5b2,b0ad,b2b2,(((E3b.trans E0g).trans E7m).trans E2v),(((n6m.ext E0g).ext E7m).ext E2v),n6b2,(nlt E3b.size g1ad),((q0v.ext E7m).ext E2v),(nlt (E3b.trans E0g).size g3ad),(q3b2.ext E2v),(Bx.ne q0v g3ad),rfl⟩)
      ·refine opA 9 rfl (by rfl) (Be Ba) fun b4ad _ E1g g5ad q3v=>dnrm ?_
       refine GF 7 8 (by kernel_rfl) ?_ ?_
       ·refine opC 7 rfl (by rfl) (Ae CY (by rfl)) (Au x y x2 4 AX cX AY cY _ (tbx (E3b.trans E1g) (tbx (belR hE2 X2d hE2.size) hT)) (n9d.ext (E3b.trans E1g)) (n0e.ext (E3b.trans E1g)) r9c h0h) ?_
        rintro _ _ E9p ⟨A7b2,c8b2,rfl,n9b2⟩
        refine dnrm ?_
        refine CF 8 (by kernel_rfl) ?_
        ·refine opA 8 rfl (by rfl) (Be Ba) fun b0b3 _ E4v g6ad q1b3=>dnrm ?_
         exact Et (by kernel_rfl) (HJ486 _ _ ⟨A4m,c5m,A7b2,c8b2,b0b3,b4ad,(((E3b.trans E1g).trans E9p).trans E4v),(((n6m.ext E1g).ext E9p).ext E4v),(n9b2.ext E4v),(nlt ((E3b.trans E1g).trans E9p).size g6ad),q1b3,(nlt E3b.size g5ad),((q3v.ext E9p).ext E4v),(Ne.symm (Bx.ne (q3v.ext E9p) g6ad)),rfl⟩)
       ·refine opA 8 rfl (by rfl) (Be Ba) fun b2b3 _ E8m g7ad q3b3=>dnrm ?_
        refine CF 7 (by kernel_rfl) ?_
        ·refine opC 7 rfl (by rfl) (Ae CY (by rfl)) (Au x y x2 4 AX cX AY cY _ (tbx ((E3b.trans E1g).trans E8m) (tbx (belR hE2 X2d hE2.size) hT)) (n9d.ext ((E3b.trans E1g).trans E8m)) (n0e.ext ((E3b.trans E1g).trans E8m)) r9c h0h) ?_
         rintro _ _ E5v ⟨A4b3,c5b3,rfl,n6b3⟩
         refine dnrm ?_
         exact Et (by kernel_rfl) (HJ486 _ _ ⟨A4m,c5m,A4b3,c5b3,b2b3,b4ad,(((E3b.trans E1g).trans E8m).trans E5v),(((n6m.ext E1g).ext E8m).ext E5v),n6b3,(nlt (E3b.trans E1g).size g7ad),(q3b3.ext E5v),(nlt E3b.size g5ad),((q3v.ext E8m).ext E5v),(Ne.symm (Bx.ne q3v g7ad)),rfl⟩)
     ·refine opA 8 rfl (by rfl) (Be Ba) fun b1a0 _ E5c g2a0 q9m=>dnrm ?_
      refine GF 3 9 (by kernel_rfl) ?_ ?_
      ·refine opC 3 rfl (by rfl) (Ae CY (by rfl)) (Au x y x2 5 AX cX AY cY _ (tbx E5c (tbx (belR hE2 X2d hE2.size) hT)) (n9d.ext E5c) (n0e.ext E5c) r5f h3p) ?_
       rintro _ _ E0f ⟨A8ad,c9ad,rfl,n0ae⟩
       refine dnrm ?_
       refine GF 7 9 (by kernel_rfl) ?_ ?_
       ·refine opC 7 rfl (by rfl) (Ae CY (by rfl)) (Au x y x2 4 AX cX AY cY _ (tbx (E5c.trans E0f) (tbx (belR hE2 X2d hE2.size) hT)) (n9d.ext (E5c.trans E0f)) (n0e.ext (E5c.trans E0f)) r9c h0h) ?_
        rintro _ _ E0q ⟨A7b3,c8b3,rfl,n9b3⟩
        refine dnrm ?_
        refine CF 9 (by kernel_rfl) ?_
        ·refine opA 9 rfl (by rfl) (Be Ba) fun b0b4 _ E6v g1ae q1b4=>dnrm ?_
         exact Et (by kernel_rfl) (HJ486 _ _ ⟨A8ad,c9ad,A7b3,c8b3,b1a0,b0b4,(((E5c.trans E0f).trans E0q).trans E6v),((n0ae.ext E0q).ext E6v),(n9b3.ext E6v),g2a0,(((q9m.ext E0f).ext E0q).ext E6v),(nlt ((E5c.trans E0f).trans E0q).size g1ae),q1b4,(Bx.ne ((q9m.ext E0f).ext E0q) g1ae),rfl⟩)
       ·refine opA 9 rfl (by rfl) (Be Ba) fun b2b4 _ E0n g2ae q3b4=>dnrm ?_
        refine CF 7 (by kernel_rfl) ?_
        ·refine opC 7 rfl (by rfl) (Ae CY (by rfl)) (Au x y x2 4 AX cX AY cY _ (tbx ((E5c.trans E0f).trans E0n) (tbx (belR hE2 X2d hE2.size) hT)) (n9d.ext ((E5c.trans E0f).trans E0n)) (n0e.ext ((E5c.trans E0f).trans E0n)) r9c h0h) ?_
         rintro _ _ E7v ⟨A4b4,c5b4,rfl,n6b4⟩
         refine dnrm ?_
         exact Et (by kernel_rfl) (HJ486 _ _ ⟨A8ad,c9ad,A4b4,c5b4,b1a0,b2b4,(((E5c.trans E0f).trans E0n).trans E7v),((n0ae.ext E0n).ext E7v),n6b4,g2a0,(((q9m.ext E0f).ext E0n).ext E7v),(nlt (E5c.trans E0f).size g2ae),(q3b4.ext E7v),(Bx.ne (q9m.ext E0f) g2ae),rfl⟩)
      ·refine opA 9 rfl (by rfl) (Be Ba) fun b7b4 _ E9i g3ae q8b4=>dnrm ?_
       refine CF 3 (by kernel_rfl) ?_
       ·refine opC 3 rfl (by rfl) (Ae CY (by rfl)) (Au x y x2 5 AX cX AY cY _ (tbx (E5c.trans E9i) (tbx (belR hE2 X2d hE2.size) hT)) (n9d.ext (E5c.trans E9i)) (n0e.ext (E5c.trans E9i)) r5f h3p) ?_
        rintro _ _ E1n ⟨A9b4,c0b5,rfl,n1b5⟩
        refine dnrm ?_
        refine CF 7 (by kernel_rfl) ?_
        ·refine opC 7 rfl (by rfl) (Ae CY (by rfl)) (Au x y x2 4 AX cX AY cY _ (tbx ((E5c.trans E9i).trans E1n) (tbx (belR hE2 X2d hE2.size) hT)) (n9d.ext ((E5c.trans E9i).trans E1n)) (n0e.ext ((E5c.trans E9i).trans E1n)) r9c h0h) ?_
         rintro _ _ E8v ⟨A2b5,c3b5,rfl,n4b5⟩
         refine dnrm ?_
         exact Et (by kernel_rfl) (HJ486 _ _ ⟨A9b4,c0b5,A2b5,c3b5,b1a0,b7b4,(((E5c.trans E9i).trans E1n).trans E8v),(n1b5.ext E8v),n4b5,g2a0,(((q9m.ext E9i).ext E1n).ext E8v),(nlt E5c.size g3ae),((q8b4.ext E1n).ext E8v),(Bx.ne q9m g3ae),rfl⟩)
     ·refine opA 9 rfl (by rfl) (Be Ba) fun b3a0 _ E6c g4a0 q2n=>dnrm ?_
      refine GF 3 8 (by kernel_rfl) ?_ ?_
      ·refine opC 3 rfl (by rfl) (Ae CY (by rfl)) (Au x y x2 5 AX cX AY cY _ (tbx E6c (tbx (belR hE2 X2d hE2.size) hT)) (n9d.ext E6c) (n0e.ext E6c) r5f h3p) ?_
       rintro _ _ E1f ⟨A4ae,c5ae,rfl,n6ae⟩
       refine dnrm ?_
       refine GF 7 8 (by kernel_rfl) ?_ ?_
       ·refine opC 7 rfl (by rfl) (Ae CY (by rfl)) (Au x y x2 4 AX cX AY cY _ (tbx (E6c.trans E1f) (tbx (belR hE2 X2d hE2.size) hT)) (n9d.ext (E6c.trans E1f)) (n0e.ext (E6c.trans E1f)) r9c h0h) ?_
        rintro _ _ E1q ⟨A5b5,c6b5,rfl,n7b5⟩
        refine dnrm ?_
        refine CF 8 (by kernel_rfl) ?_
        ·refine opA 8 rfl (by rfl) (Be Ba) fun b8b5 _ E9v g7ae q9b5=>dnrm ?_
         exact Et (by kernel_rfl) (HJ486 _ _ ⟨A4ae,c5ae,A5b5,c6b5,b8b5,b3a0,(((E6c.trans E1f).trans E1q).trans E9v),((n6ae.ext E1q).ext E9v),(n7b5.ext E9v),(nlt ((E6c.trans E1f).trans E1q).size g7ae),q9b5,g4a0,(((q2n.ext E1f).ext E1q).ext E9v),(Ne.symm (Bx.ne ((q2n.ext E1f).ext E1q) g7ae)),rfl⟩)
       ·refine opA 8 rfl (by rfl) (Be Ba) fun b0b6 _ E3n g8ae q1b6=>dnrm ?_
        refine CF 7 (by kernel_rfl) ?_
        ·refine opC 7 rfl (by rfl) (Ae CY (by rfl)) (Au x y x2 4 AX cX AY cY _ (tbx ((E6c.trans E1f).trans E3n) (tbx (belR hE2 X2d hE2.size) hT)) (n9d.ext ((E6c.trans E1f).trans E3n)) (n0e.ext ((E6c.trans E1f).trans E3n)) r9c h0h) ?_
         rintro _ _ E0w ⟨A2b6,c3b6,rfl,n4b6⟩
         refine dnrm ?_
         exact Et (by kernel_rfl) (HJ486 _ _ ⟨A4ae,c5ae,A2b6,c3b6,b0b6,b3a0,(((E6c.trans E1f).trans E3n).trans E0w),((n6ae.ext E3n).ext E0w),n4b6,(nlt (E6c.trans E1f).size g8ae),(q1b6.ext E0w),g4a0,(((q2n.ext E1f).ext E3n).ext E0w),(Ne.symm (Bx.ne (q2n.ext E1f) g8ae)),rfl⟩)
      ·refine opA 8 rfl (by rfl) (Be Ba) fun b5b6 _ E0j g9ae q6b6=>dnrm ?_
       refine CF 3 (by kernel_rfl) ?_
       ·refine opC 3 rfl (by rfl) (Ae CY (by rfl)) (Au x y x2 5 AX cX AY cY _ (tbx (E6c.trans E0j) (tbx (belR hE2 X2d hE2.size) hT)) (n9d.ext (E6c.trans E0j)) (n0e.ext (E6c.trans E0j)) r5f h3p) ?_
        rintro _ _ E4n ⟨A7b6,c8b6,rfl,n9b6⟩
        refine dnrm ?_
        refine CF 7 (by kernel_rfl) ?_
        ·refine opC 7 rfl (by rfl) (Ae CY (by rfl)) (Au x y x2 4 AX cX AY cY _ (tbx ((E6c.trans E0j).trans E4n) (tbx (belR hE2 X2d hE2.size) hT)) (n9d.ext ((E6c.trans E0j).trans E4n)) (n0e.ext ((E6c.trans E0j).trans E4n)) r9c h0h) ?_
         rintro _ _ E1w ⟨A0b7,c1b7,rfl,n2b7⟩
         refine dnrm ?_
         exact Et (by kernel_rfl) (HJ486 _ _ ⟨A7b6,c8b6,A0b7,c1b7,b5b6,b3a0,(((E6c.trans E0j).trans E4n).trans E1w),(n9b6.ext E1w),n2b7,(nlt E6c.size g9ae),((q6b6.ext E4n).ext E1w),g4a0,(((q2n.ext E0j).ext E4n).ext E1w),(Ne.symm (Bx.ne q2n g9ae)),rfl⟩)
  ·intro D w8d hD hI hk0
   subst hO
   obtain ⟨hX,hK,q7h,q8h,q2e,q7c,q4g,q5g,hS⟩:=hI
   obtain ⟨bs,AS,cS,AT,cT,gbs,q9h,qs,n5,n6⟩:=hS
   have hk:Df w8d D:=hk0
   refine h5a1 _ _<|wp_seq_k fun K0af h0af=>Af<|sV (Ag Fg rfl (Bx.cell q9h rfl)) ?_
   refine sV (Bn rfl) ?_
   refine sV (Am Ka rfl qs rfl) ?_
   rcases AG f1ai with ⟨r5a0,h6a0,f3b7⟩ | ⟨r5a0,h6a0,rfl⟩
   ·refine scO (Ae Lk (by rfl)) (Fk s4q AS cS AT cT w8d (tbx hX hT) n5 n6 (.ok r5a0) h6a0) ?_
    rintro _ w8s E1i ⟨A4b7,c5b7,A6b7,c7b7,rfl,n8b7,n9b7⟩
    refine nrm ?_
    have X0b8:=xtr hX E1i
    have hk1b8:=Df.ext hk E1i
    refine Ax GJ rfl rfl (q7c.ext E1i) rfl rfl rfl rfl (by simp only [SP0,SP1,S0,S1,Nat.reduceAdd];rfl) fun w3z U2w q2b8=>?_
    have X1af:=belU X0b8 U2w g1ag
    have hk2af:=Df.upd hk1b8 U2w (q7c.ext E1i)
    refine Ad<|h0af _ _<|wp_ret ?_
    have Q3w:=Quiet.put (n0:=w.heap.size) (.deferred none) hk2af hD rfl
    have hXE:=belQ X1af Q3w X1af.size
    have n3b8:=(n8b7.upd U2w (q7c.ext E1i) (by decide)).quiet Q3w
    have n4b8:=(n9b7.upd U2w (q7c.ext E1i) (by decide)).quiet Q3w
    obtain rfl:=sj f3b7
    exact Px hk2af rfl (Res.cellN rfl CP (q2b8.quiet Q3w) rfl rfl Res.nil) (DT hXE ⟨A4b7,c5b7,A6b7,c7b7,rfl,n3b8,n4b8⟩)
   ·refine scP (Ae Lk (by rfl)) (Fk s4q AS cS AT cT w8d (tbx hX hT) n5 n6 (.error r5a0) h6a0) fun w8s E1i=>?_
    have X3af:=xtr hX E1i
    have hk4af:=Df.ext hk E1i
    exact panM hk4af (BP (belQ X3af (Quiet.put _ hk4af hD rfl) X3af.size))
 ·refine dcP 8 rfl (by kernel_rfl) (by rfl) (Ae Dh (by rfl)) (AN (decide (0<(wi64 (r2g*r3g)))) 8 w7 (tbx X2q hT)  (.error r0x) h1x) fun w8 E2i=>?_
  have X5b8:=xtr X2q E2i
  exact panM0 (BP X5b8)
theorem c_dyad_made_Span__dyad_Over_1 (x0:AI) (x1:AI) (x2:Int) (A1:Option Addr) (c2:Nat) (A4:Option Addr) (c5:Nat) (A7:Option Addr) (c8:Nat) (A6a:Option Addr) (c8a:Nat) (w:World) (hT:TB w) (n3:RLu w A1 c2 x0.Lo.Man.Abs) (n6:RLu w A4 c5 x0.Hi.Man.Abs) (n9:RLu w A7 c8 x1.Lo.Man.Abs) (n4b:RLu w A6a c8a x1.Hi.Man.Abs) (r:AC × Int) (hr:Er x0 x1 x2=some r) :
  Calls Tryz.prog 100 #[.agg #[.bool x0.Lo.Man.Neg,.slice A1 x0.Lo.Man.Abs.length c2,.int .i64 x0.Lo.Exp,.bool x0.Hi.Man.Neg,.slice A4 x0.Hi.Man.Abs.length c5,.int .i64 x0.Hi.Exp],.agg #[.bool x1.Lo.Man.Neg,.slice A7 x1.Lo.Man.Abs.length c8,.int .i64 x1.Lo.Exp,.bool x1.Hi.Man.Neg,.slice A6a x1.Hi.Man.Abs.length c8a,.int .i64 x1.Hi.Exp],.int .i64 x2,.func (.func 101) #[] #[]] w (Ret IF w r):=by
 unfold Er at hr
 obtain ⟨q0,hq0,hr0⟩:=Ab hr
 unfold FQ at hq0
 go_enter_defers Tryz.func100,Tryz.ntmps100
 refine wp_seq_k fun K9d h9d=>Af<|BT rfl rfl fun b9l w1 E5e g0m q1h=>?_
 refine nrm ?_
 refine BT rfl rfl fun b1m w2 E6e g2h q7e=>?_
 refine nrm ?_
 have g2m:=nlt E5e.size g2h
 have X8e:=xtr E5e E6e
 refine Aw Hp fun b5b w3 E6b g3h q7b=>?_
 refine nrm ?_
 have g8b:=nlt X8e.size g3h
 have X9e:=xtr X8e E6b
 refine Aw Iw fun b9b w4 E0b g4h q3b=>?_
 refine nrm ?_
 have g0c:=nlt X9e.size g4h
 have X0f:=xtr X9e E0b
 refine Ad<|h9d _ _<|wp_seq_k fun K1f h1f=>Af<|Ha (vs:=[.pointer (some ⟨b5b,0,none⟩),.pointer (some ⟨b9b,0,none⟩)]) (by rfl) (by rfl)<|Ad<|h1f _ _<|wp_seq_k fun K2f h2f=>Af<|have q3f:=((q1h.ext E6e).ext E6b).ext E0b;sV (Am CP rfl q3f rfl) ?_
 refine sV (Am CP rfl ((q7e.ext E6b).ext E0b) rfl) ?_
 refine Ct (vals:=[(0,.agg #[.bool x0.Lo.Man.Neg,.slice A1 x0.Lo.Man.Abs.length c2,.int .i64 x0.Lo.Exp,.bool x0.Hi.Man.Neg,.slice A4 x0.Hi.Man.Abs.length c5,.int .i64 x0.Hi.Exp]),(1,.agg #[.bool x1.Lo.Man.Neg,.slice A7 x1.Lo.Man.Abs.length c8,.int .i64 x1.Lo.Exp,.bool x1.Hi.Man.Neg,.slice A6a x1.Hi.Man.Abs.length c8a,.int .i64 x1.Hi.Exp])]) (cs:=[.bool x0.Lo.Man.Neg,.slice A1 x0.Lo.Man.Abs.length c2,.int .i64 x0.Lo.Exp,.bool x0.Hi.Man.Neg,.slice A4 x0.Hi.Man.Abs.length c5,.int .i64 x0.Hi.Exp,.bool x1.Lo.Man.Neg,.slice A7 x1.Lo.Man.Abs.length c8,.int .i64 x1.Lo.Exp,.bool x1.Hi.Man.Neg,.slice A6a x1.Hi.Man.Abs.length c8a,.int .i64 x1.Hi.Exp]) Ln GJ Hp (by rfl) (by decide) (by kernel_rfl) fun b4f w5 E3a g5h q5f=>?_
 refine nrm ?_
 have g3m:=nlt X0f.size g5h
 have X4a:=xtr X0f E3a
 rcases AG hq0 with ⟨r1c,h0e,f6h⟩ | ⟨r1c,h0e,rfl⟩
 ·refine scO (Ae Le (by rfl)) (EN x0 x1 b4f A1 c2 A4 c5 A7 c8 A6a c8a w5 (tbx X4a hT) (n3.ext X4a) (n6.ext X4a) (n9.ext X4a) (n4b.ext X4a) q5f (.ok r1c) h0e) ?_
  rintro _ w6 E2a rfl
  refine nrm ?_
  have X2c:=xtr X4a E2a
  refine Ad<|h2f _ _<|wp_seq_k fun K6f h6f=>Af<|sV (Aa rfl) ?_
  rcases AG f6h with ⟨r3c,h1e,f7h⟩ | ⟨r3c,h1e,rfl⟩
  ·refine scO (Ae Jk (by rfl)) (EH x2 w6 (tbx X2c hT)  (.ok r3c) h1e) ?_
   rintro _ w7 E5a rfl
   refine nrm ?_
   have X8h:=xtr X2c E5a
   refine Ad<|h6f _ _<|wp_seq_k fun K7f h7f=>Ei [7,8] 9 mo rfl fun w8 E1b S2e=>?_
   have X4c:=xtr X8h E1b
   refine dA 0 rfl (fun _=>Aa rfl) ?_ (hQ:=fun _ _ _ h=>dq (rs:=[.cell 8 29,.cell 9 33]) rfl (by decide) h)
   refine dV 1 rfl (fun _ hw=>Am CP rfl (((((q3f.ext E3a).ext E2a).ext E5a).ext E1b).ext hw) rfl) S2e ?_ (hQ:=fun _ _ _ h=>dq (rs:=[.cell 8 29,.cell 9 33]) rfl (by decide) h)
   refine dV 3 rfl (fun _ hw=>Am CP rfl (((((((q7e.ext E6b).ext E0b).ext E3a).ext E2a).ext E5a).ext E1b).ext hw) rfl) S2e ?_ (hQ:=fun _ _ _ h=>dq (rs:=[.cell 8 29,.cell 9 33]) rfl (by decide) h)
   refine dA 5 rfl (fun _=>Aa rfl) ?_ (hQ:=fun _ _ _ h=>dq (rs:=[.cell 8 29,.cell 9 33]) rfl (by decide) h)
   obtain ⟨m8f,h9h,f0i⟩:=Ab f7h
   have hx9f:=BD h9h
   have n1i:RU w8 A1 c2 m8f:=by unfold RU;rw [hx9f];exact (n3.ext X4c)
   obtain ⟨m0g,h2i,f3i⟩:=Ab f0i
   have hx1g:=BD h2i
   have n4i:RU w8 A4 c5 m0g:=by unfold RU;rw [hx1g];exact (n6.ext X4c)
   obtain ⟨r0a,h5i,f6i⟩:=Ab f3i
   refine dc 2 rfl (by kernel_rfl) (by rfl) (Ae Lg (by simp only [sz,hx9f,hx1g];rfl)) (Gr (⟨(⟨(⟨x0.Lo.Man.Neg,m8f⟩:Ah),x0.Lo.Exp⟩:Al),(⟨(⟨x0.Hi.Man.Neg,m0g⟩:Ah),x0.Hi.Exp⟩:Al)⟩:AC) A1 c2 A4 c5 w8 (tbx X4c hT) n1i n4i r0a h5i) ?_
   rintro _ w9 E2b ⟨A5c,c6c,A7c,c8c,rfl,n2g,n3g⟩
   refine dnrm ?_
   have X9c:=xtr X4c E2b
   have S7i:=S2e.trans E2b
   obtain ⟨m4g,h8i,f9i⟩:=Ab f6i
   have hx5g:=BD h8i
   have n0j:RU w9 A7 c8 m4g:=by unfold RU;rw [hx5g];exact (n9.ext X9c)
   obtain ⟨m6g,h1j,f2j⟩:=Ab f9i
   have hx7g:=BD h1j
   have n3j:RU w9 A6a c8a m6g:=by unfold RU;rw [hx7g];exact (n4b.ext X9c)
   obtain ⟨r1a,h4j,f5j⟩:=Ab f2j
   refine dc 4 rfl (by kernel_rfl) (by rfl) (Ae Lg (by simp only [sz,hx5g,hx7g];rfl)) (Gr (⟨(⟨(⟨x1.Lo.Man.Neg,m4g⟩:Ah),x1.Lo.Exp⟩:Al),(⟨(⟨x1.Hi.Man.Neg,m6g⟩:Ah),x1.Hi.Exp⟩:Al)⟩:AC) A7 c8 A6a c8a w9 (tbx X9c hT) n0j n3j r1a h4j) ?_
   rintro _ w6a E7a ⟨A0d,c1d,A2d,c3d,rfl,n8g,n9g⟩
   refine dnrm ?_
   have X4d:=xtr X9c E7a
   have S6j:=S7i.trans E7a
   rcases AG f5j with ⟨r5d,h3e,f7j⟩ | ⟨r5d,h3e,rfl⟩
   ·refine dcO 6 rfl (by kernel_rfl) (by rfl) (FB (first:=[]) (cap:=[]) (args:=[.agg #[.bool r0a.lo.m.Neg,.slice A5c (sz r0a.lo.m.Abs) c6c,.int .i64 r0a.lo.e,.bool r0a.hi.m.Neg,.slice A7c (sz r0a.hi.m.Abs) c8c,.int .i64 r0a.hi.e],.agg #[.bool r1a.lo.m.Neg,.slice A0d (sz r1a.lo.m.Abs) c1d,.int .i64 r1a.lo.e,.bool r1a.hi.m.Neg,.slice A2d (sz r1a.hi.m.Abs) c3d,.int .i64 r1a.hi.e],.int .i64 x2]) Oo (by rfl) (by rfl)) (Kr r0a r1a x2 A5c c6c A7c c8c A0d c1d A2d c3d w6a (tbx X4d hT) (n2g.ext E7a) (n3g.ext E7a) n8g n9g (.ok r5d) h3e) ?_
    rintro _ w8a E9a ⟨A8j,c9j,A0k,c1k,rfl,n2k,n3k⟩
    refine dnrm ?_
    have X4k:=xtr X4d E9a
    have S4m:=S6j.trans E9a
    have q6d:=(((((((q7b.ext E0b).ext E3a).ext E2a).ext E5a).ext E1b).ext E2b).ext E7a).ext E9a
    refine dk 7 rfl (by kernel_rfl) (by decide) (by rfl) GJ rfl rfl q6d rfl rfl rfl rfl (by simp only [SP0,SP1,S0,S1,Nat.reduceAdd];rfl) fun w4b U7d q5k=>?_
    have X6k:=belU X4k U7d g8b
    have ne0h:=(Bx.neT (((((((q3b.ext E3a).ext E2a).ext E5a).ext E1b).ext E2b).ext E7a).ext E9a) q6d (by decide))
    have q4e:=(((((((q3b.ext E3a).ext E2a).ext E5a).ext E1b).ext E2b).ext E7a).ext E9a).upd U7d ne0h
    refine dk 8 rfl (by kernel_rfl) (by decide) (by rfl) GA rfl rfl q4e rfl rfl rfl rfl (by simp only [SP0,SP1,S0,S1,Nat.reduceAdd];rfl) fun w9d U8d q7k=>?_
    have X8k:=belU X6k U8d g0c
    refine CU (by kernel_rfl) ?_
    refine h7f _ _<|wp_ret ?_
    have n9k:=(n2k.upd U7d q6d (by decide)).upd U8d q4e (by decide)
    have n0l:=(n3k.upd U7d q6d (by decide)).upd U8d q4e (by decide)
    obtain rfl:=sj f7j
    obtain rfl:=sj hr0
    exact LH Gu Ip rfl (Res.cellN rfl CP (q5k.upd U8d (Ne.symm ne0h)) rfl rfl (Res.cell1 rfl Ck (Bx.cell q7k rfl) Res.nil)) (Ak X8k ⟨A8j,c9j,A0k,c1k,rfl,n9k,n0l⟩)
   ·refine dcP 6 rfl (by kernel_rfl) (by rfl) (FB (first:=[]) (cap:=[]) (args:=[.agg #[.bool r0a.lo.m.Neg,.slice A5c (sz r0a.lo.m.Abs) c6c,.int .i64 r0a.lo.e,.bool r0a.hi.m.Neg,.slice A7c (sz r0a.hi.m.Abs) c8c,.int .i64 r0a.hi.e],.agg #[.bool r1a.lo.m.Neg,.slice A0d (sz r1a.lo.m.Abs) c1d,.int .i64 r1a.lo.e,.bool r1a.hi.m.Neg,.slice A2d (sz r1a.hi.m.Abs) c3d,.int .i64 r1a.hi.e],.int .i64 x2]) Oo (by rfl) (by rfl)) (Kr r0a r1a x2 A5c c6c A7c c8c A0d c1d A2d c3d w6a (tbx X4d hT) (n2g.ext E7a) (n3g.ext E7a) n8g n9g (.error r5d) h3e) fun w8a E9a=>?_
    have X1l:=xtr X4d E9a
    have q2l:=(((((((q7b.ext E0b).ext E3a).ext E2a).ext E5a).ext E1b).ext E2b).ext E7a).ext E9a
    have q3l:=((((((q3b.ext E3a).ext E2a).ext E5a).ext E1b).ext E2b).ext E7a).ext E9a
    refine HR Ip (Cp b5b b9b (.bool false:Value) (.slice none 0 0:Value) (.int .i64 0:Value) (.bool false:Value) (.slice none 0 0:Value) (.int .i64 0:Value) (.int .i64 0:Value) r5d q2l q3l) rfl ?_
    rintro w9 ⟨u9,q9,q9'⟩
    obtain rfl:=sj hr0
    exact ⟨_,(Res.cellN rfl CP q9 rfl rfl (Res.cell1 rfl Ck (Bx.cell q9' rfl) Res.nil)),Ak (u9.toExt X1l g8b g0c) ⟨none,0,none,0,rfl,RU.nil _,RU.nil _⟩⟩
  ·refine scP (Ae Jk (by rfl)) (EH x2 w6 (tbx X2c hT)  (.error r3c) h1e) fun w7 E5a=>?_
   have X4l:=xtr X2c E5a
   have q5l:=(((q7b.ext E0b).ext E3a).ext E2a).ext E5a
   have q6l:=((q3b.ext E3a).ext E2a).ext E5a
   refine HR Ip (Cp b5b b9b (.bool false:Value) (.slice none 0 0:Value) (.int .i64 0:Value) (.bool false:Value) (.slice none 0 0:Value) (.int .i64 0:Value) (.int .i64 0:Value) r3c q5l q6l) rfl ?_
   rintro w9 ⟨u9,q9,q9'⟩
   obtain rfl:=sj hr0
   exact ⟨_,(Res.cellN rfl CP q9 rfl rfl (Res.cell1 rfl Ck (Bx.cell q9' rfl) Res.nil)),Ak (u9.toExt X4l g8b g0c) ⟨none,0,none,0,rfl,RU.nil _,RU.nil _⟩⟩
 ·refine scP (Ae Le (by rfl)) (EN x0 x1 b4f A1 c2 A4 c5 A7 c8 A6a c8a w5 (tbx X4a hT) (n3.ext X4a) (n6.ext X4a) (n9.ext X4a) (n4b.ext X4a) q5f (.error r1c) h0e) fun w6 E2a=>?_
  have X7l:=xtr X4a E2a
  have q8l:=((q7b.ext E0b).ext E3a).ext E2a
  refine HR Ip (Cp b5b b9b (.bool false:Value) (.slice none 0 0:Value) (.int .i64 0:Value) (.bool false:Value) (.slice none 0 0:Value) (.int .i64 0:Value) (.int .i64 0:Value) r1c q8l ((q3b.ext E3a).ext E2a)) rfl ?_
  rintro w9 ⟨u9,q9,q9'⟩
  obtain rfl:=sj hr0
  exact ⟨_,(Res.cellN rfl CP q9 rfl rfl (Res.cell1 rfl Ck (Bx.cell q9' rfl) Res.nil)),Ak (u9.toExt X7l g8b g0c) ⟨none,0,none,0,rfl,RU.nil _,RU.nil _⟩⟩
theorem Lz (x0:AI) (x1:AI) (x2:Int) (A1:Option Addr) (c2:Nat) (A4:Option Addr) (c5:Nat) (A7:Option Addr) (c8:Nat) (A2a:Option Addr) (c3a:Nat) (w:World) (hT:TB w) (n3:RLu w A1 c2 x0.Lo.Man.Abs) (n6:RLu w A4 c5 x0.Hi.Man.Abs) (n9:RLu w A7 c8 x1.Lo.Man.Abs) (n2b:RLu w A2a c3a x1.Hi.Man.Abs) (r:AC × Int) (hr:IU x0 x1 x2=some r) :
  Calls Tryz.prog 21 #[.agg #[.bool x0.Lo.Man.Neg,.slice A1 x0.Lo.Man.Abs.length c2,.int .i64 x0.Lo.Exp,.bool x0.Hi.Man.Neg,.slice A4 x0.Hi.Man.Abs.length c5,.int .i64 x0.Hi.Exp],.agg #[.bool x1.Lo.Man.Neg,.slice A7 x1.Lo.Man.Abs.length c8,.int .i64 x1.Lo.Exp,.bool x1.Hi.Man.Neg,.slice A2a x1.Hi.Man.Abs.length c3a,.int .i64 x1.Hi.Exp],.int .i64 x2] w (Ret IF w r):=by
 unfold IU at hr
 go_enter Tryz.func21,Tryz.ntmps21
 refine wp_seq_k fun K7a h7a=>Af<|BT rfl rfl fun b2d w1 E8a g3d q3b=>?_
 refine nrm ?_
 refine BT rfl rfl fun b4d w2 E9a g4b q5b=>?_
 refine nrm ?_
 have g5d:=nlt E8a.size g4b
 have X0b:=xtr E8a E9a
 refine Aw Hp fun b6d w3 E4a g6b q5a=>?_
 refine nrm ?_
 have g7b:=nlt X0b.size g6b
 have X0a:=xtr X0b E4a
 refine sV (Ac rfl) ?_
 refine Ad<|h7a _ _<|wp_seq_k fun K1b h1b=>Af<|sV (Am CP rfl ((q3b.ext E9a).ext E4a) rfl) ?_
 refine sV (Am CP rfl (q5b.ext E4a) rfl) ?_
 refine sV (Aa rfl) ?_
 obtain ⟨r8b,h9b,f0c⟩:=Ab hr
 refine sc (Ae Nu (by rfl)) (c_dyad_made_Span__dyad_Over_1 x0 x1 x2 A1 c2 A4 c5 A7 c8 A2a c3a w3 (tbx X0a hT) (n3.ext X0a) (n6.ext X0a) (n9.ext X0a) (n2b.ext X0a) r8b h9b) ?_
 rintro _ w4 E1a ⟨A1c,c2c,A3c,c4c,rfl,n5c,n6c⟩
 refine nrm ?_
 have X7c:=xtr X0a E1a
 refine sV (Ap rfl rfl) ?_
 refine sV (Ap rfl rfl) ?_
 refine Ax GJ rfl rfl (q5a.ext E1a) rfl rfl rfl rfl (by simp only [SP0,SP1,S0,S1,Nat.reduceAdd];rfl) fun w5 U6a q8c=>?_
 have X9c:=belU X7c U6a g7b
 refine sV (Ac rfl) ?_
 refine Ad<|h1b _ _<|wp_ret ?_
 have n0d:=n5c.upd U6a (q5a.ext E1a) (by decide)
 have n1d:=n6c.upd U6a (q5a.ext E1a) (by decide)
 obtain rfl:=sj f0c
 exact fin rfl (Res.cellN rfl CP q8c rfl rfl (Res.tmp rfl Res.nil)) (Ak X9c ⟨A1c,c2c,A3c,c4c,rfl,n0d,n1d⟩)
theorem c_wide_Nat_Root (x0:Nat) (A1:Option Addr) (c2:Nat) (w:World) (hT:TB w) (n3:RU w A1 c2 x0) (r:Nat × Nat) (hr:It x0=some r) :
  Calls Tryz.prog 190 #[.slice A1 (sz x0) c2] w (Ret LA w r):=by
 unfold It at hr
 go_enter Tryz.func190,Tryz.ntmps190
 refine wp_seq_k fun K4 h4=>Af<|sV (Ac rfl) ?_
 refine sV (Ac rfl) ?_
 refine Ad<|h4 _ _<|wp_seq_k fun K5 h5=>wp_seq_k fun K6 h6=>Af<|sV (Aa rfl) ?_
 refine sV (AD Ar rfl) ?_
 refine sb (Ce rfl rfl) fun z7 hz7=>?_
 refine nrm ?_
 refine Ad<|h6 _ _ ?_
 rcases bft z7 with e4a | e4a
 ·have p4e:=zP hz7 e4a
  have f5e:=ifP p4e hr
  refine wp_cond_true (Aj (evb rfl e4a))<|wp_seq_k fun K7b h7b=>Af<|sV (Ac rfl) ?_
  refine sV (Ac rfl) ?_
  refine Ad<|h7b _ _<|wp_ret ?_
  obtain rfl:=sj f5e
  exact fin rfl (Res.tmp rfl (Res.tmp rfl Res.nil)) (Ak (Ext.refl _) ⟨none,0,none,0,rfl,(RU.nil _),(RU.nil _)⟩)
 ·have p6e:=zN hz7 e4a
  have f7e:=ifN p6e hr
  refine wp_cond_false (Aj (evb rfl e4a))<|wp_skip<|h5 _ _<|wp_seq_k fun K8b h8b=>Af<|Ct (vals:=[(0,.int .u32 1)]) (cs:=[.int .u32 1]) Ar As Hc (by rfl) (by decide) (by kernel_rfl) fun b8e w1 E2b g2j q9e=>?_
  refine nrm ?_
  have n0f:=RL.lit1 q9e (by decide)
  refine sV (Aa rfl) ?_
  obtain ⟨r0b,h1f,f2f⟩:=Ab f7e
  refine sc (Ae Lm (by rfl)) (DP x0 A1 c2 w1 (tbx E2b hT) (n3.ext E2b) r0b h1f) ?_
  rintro _ w2 E9b rfl
  refine nrm ?_
  have X0c:=xtr E2b E9b
  refine sV (Bd (c:=wi64 (r0b+1)) rfl rfl rfl) ?_
  refine sV (HK (c:=wi64 ((wi64 (r0b+1)).tdiv 2)) (by decide) rfl rfl rfl) ?_
  obtain ⟨r1c,h3f,f32⟩:=Ab f2f
  refine sc (Ae Jz (by rfl)) (Db 1 (wi64 ((wi64 (r0b+1)).tdiv 2)) (some ⟨b8e,0,none⟩) 1 w2 (tbx X0c hT) (n0f.ext E9b) r1c h3f) ?_
  rintro _ w3 E4f ⟨A5f,c6f,rfl,n7f⟩
  refine nrm ?_
  have X8f:=xtr X0c E4f
  refine sV (Ac rfl) ?_
  refine Ad<|h8b _ _ ?_
  apply wp_block
  refine BA (fun l n2c l' w'=>∃(v0a:Nat) (A1a:Option Addr) (c2a:Nat),Ext w3 w'∧RU w' A1a c2a v0a∧Gx x0 n2c v0a=some r∧Fr l' (fun t3b=>.slice A1 (sz x0) c2::gp t3b 1 3 (.slice A1a (sz v0a) c2a::gp t3b 5 33 []))) 18446744073709551616 ?_ ?_ ?_
  ·exact ⟨r1c,A5f,c6f,(Ext.refl _),n7f,f32,(Fr.mk (by kernel_rfl))⟩
  ·rintro l' w' ⟨v0a,A1a,c2a,_,_,hz,_⟩
   exact nomatch hz
  ·rintro n2c ih9f _ w4 ⟨v0a,A1a,c2a,U3c,n5a,hr4c,⟨t3b,rfl⟩⟩ l'' hl
   simp only [gp,Nat.reduceAdd] at hl
   subst hl
   unfold Gx at hr4c
   refine Bg ?_
   have X4b:=xtr X8f U3c
   apply wp_block
   refine wp_seq_k fun K5c h5c=>Af<|sV (Aa rfl) ?_
   refine sV (Aa rfl) ?_
   obtain ⟨r6c,h0g,f1g⟩:=Ab hr4c
   refine sc (Ae OJ (by rfl)) (Ht x0 v0a A1 c2 A1a c2a w4 (tbx X4b hT) (n3.ext X4b) n5a r6c h0g) ?_
   rintro _ w5 E3a ⟨A2g,c3g,A3j,c4j,rfl,n4g,n5j⟩
   refine nrm ?_
   have X7c:=xtr X4b E3a
   refine sV (Aa rfl) ?_
   refine sV (Ap rfl rfl) ?_
   refine sV (Ap rfl rfl) ?_
   refine sV (Ac rfl) ?_
   refine sV (Ac rfl) ?_
   refine Ad<|h5c _ _<|wp_seq_k fun K8c h8c=>Af<|sV (Aa rfl) ?_
   refine sV (Aa rfl) ?_
   obtain ⟨r9c,h5g,f6g⟩:=Ab f1g
   refine sc (Ae NI (by rfl)) (GH v0a r6c.1 A1a c2a A2g c3g w5 (tbx X7c hT) (n5a.ext E3a) n4g r9c h5g) ?_
   rintro _ w6 E6a ⟨A7g,c8g,rfl,n9g⟩
   refine nrm ?_
   have X0d:=xtr X7c E6a
   obtain ⟨r5b,h0h,f1h⟩:=Ab f6g
   refine sc (Ae Mj (by rfl)) (FT r9c 1 A7g c8g w6 (tbx X0d hT) n9g r5b h0h) ?_
   rintro _ w7 E7a ⟨A1d,c2d,rfl,n3d⟩
   refine nrm ?_
   have X4d:=xtr X0d E7a
   refine sV (Ac rfl) ?_
   refine Ad<|h8c _ _<|wp_seq_k fun K5d h5d=>wp_seq_k fun K6d h6d=>Af<|sV (Aa rfl) ?_
   refine sV (Aa rfl) ?_
   have n2h:=((n5a.ext E3a).ext E6a).ext E7a
   obtain ⟨r3h,h4h,f7d⟩:=Ab f1h
   refine sc (Ae Mc (by rfl)) (FK r5b v0a A1d c2d A1a c2a w7 (tbx X4d hT) n3d n2h r3h h4h) ?_
   rintro _ w8 E8a rfl
   refine nrm ?_
   have X8d:=xtr X4d E8a
   refine sb (EP rfl rfl) fun z1b hz1b=>?_
   refine nrm ?_
   refine Ad<|h6d _ _ ?_
   rcases bft z1b with e9a | e9a
   ·have p5h:=zP hz1b e9a
    have f6h:=ifP p5h f7d
    refine wp_cond_true (Aj (evb rfl e9a))<|wp_seq_k fun K9d h9d=>Af<|sV (Aa rfl) ?_
    refine sV (Aa rfl) ?_
    refine sV (Aa rfl) ?_
    refine sV (Aa rfl) ?_
    have n0e:=(((n5a.ext E3a).ext E6a).ext E7a).ext E8a
    obtain ⟨r1e,h7h,f8h⟩:=Ab f6h
    refine sc (Ae Pb (by rfl)) (Hx v0a v0a A1a c2a A1a c2a w8 (tbx X8d hT) n0e n0e r1e h7h) ?_
    rintro _ w9 E2e ⟨A9h,c0i,rfl,n1i⟩
    refine nrm ?_
    have X6b:=xtr X8d E2e
    obtain ⟨r2i,h3i,f4i⟩:=Ab f8h
    refine sc (Ae MW (by rfl)) (FI x0 r1e A1 c2 A9h c0i w9 (tbx X6b hT) (n3.ext X6b) n1i r2i h3i) ?_
    rintro _ w6j E3e ⟨A5i,c6i,rfl,n7i⟩
    refine nrm ?_
    have X8i:=xtr X6b E3e
    refine sV (Ac rfl) ?_
    refine sV (Ac rfl) ?_
    refine Ad<|h9d _ _<|wp_ret ?_
    have n9i:=(((((n5a.ext E3a).ext E6a).ext E7a).ext E8a).ext E2e).ext E3e
    obtain rfl:=sj f4i
    exact fin rfl (Res.tmp rfl (Res.tmp rfl Res.nil)) (Ak X8i ⟨A1a,c2a,A5i,c6i,rfl,n9i,n7i⟩)
   ·have p0j:=zN hz1b e9a
    have f1j:=ifN p0j f7d
    refine wp_cond_false (Aj (evb rfl e9a))<|wp_skip<|h5d _ _<|Af<|sV (Aa rfl) ?_
    refine sV (Ac rfl) ?_
    refine Ad ?_
    exact ih9f _ _ ⟨r5b,A1d,c2d,((((U3c.trans E3a).trans E6a).trans E7a).trans E8a),(n3d.ext E8a),f1j,(Fr.mk (by kernel_rfl))⟩
theorem LG (x0:An) (x1:Int) (x2:Int) (A1:Option Addr) (c2:Nat) (w:World) (hT:TB w) (n3:RU w A1 c2 x0.m.Abs) (r:An) (hr:IW x0 x1 x2=some r) :
  Calls Tryz.prog 111 #[.agg #[.bool x0.m.Neg,.slice A1 (sz x0.m.Abs) c2,.int .i64 x0.e],.int .i64 x1,.int .i64 x2] w (Ret HW w r):=by
 unfold IW at hr
 go_enter Tryz.func111,Tryz.ntmps111
 refine wp_seq_k fun K4 h4=>Af<|BT rfl rfl fun b5 w1 E6 g7 q8=>?_
 refine nrm ?_
 refine Aw Ba fun b9 w2 E3a g8d q8b=>?_
 refine nrm ?_
 have g9b:=nlt E6.size g8d
 have X3b:=xtr E6 E3a
 refine Ad<|h4 _ _<|wp_seq_k fun K0c h0c=>wp_seq_k fun K1c h1c=>Af<|sV (Am AE rfl (q8.ext E3a) rfl) ?_
 obtain ⟨r9d,h0e,f2c⟩:=Ab hr
 refine sc (Ae Js (by rfl)) (Dj x0 A1 c2 w2 (tbx X3b hT) (n3.ext X3b) r9d h0e) ?_
 rintro _ w3 E1a rfl
 refine nrm ?_
 have X0b:=xtr X3b E1a
 refine sb (Ce rfl rfl) fun z1b hz1b=>?_
 refine nrm ?_
 refine Ad<|h1c _ _ ?_
 rcases bft z1b with e5a | e5a
 ·have p1e:=zP hz1b e5a
  have f2e:=ifP p1e f2c
  refine wp_cond_true (Aj (evb rfl e5a))<|wp_seq_k fun K3c h3c=>Af<|sV (Bc (vals:=[]) (cells:=[.bool false,.slice none 0 0,.int .i64 0]) (by rfl) (by kernel_rfl)) ?_
  refine Ax BX rfl rfl (q8b.ext E1a) rfl rfl rfl rfl (by simp only [SP0,SP1,S0,S1,Nat.reduceAdd];rfl) fun w4 U3e q4e=>?_
  have X5e:=belU X0b U3e g9b
  refine Ad<|h3c _ _<|wp_ret ?_
  obtain rfl:=sj f2e
  exact fin rfl (Res.cellN rfl AE q4e rfl rfl Res.nil) (Ak X5e ⟨none,0,rfl,(RU.nil _)⟩)
 ·have p6e:=zN hz1b e5a
  have f7e:=ifN p6e f2c
  refine wp_cond_false (Aj (evb rfl e5a))<|wp_skip<|h0c _ _<|wp_seq_k fun K4c h4c=>Af<|sV (Aa rfl) ?_
  refine sV (JH (c:=wi64 (2*x1)) rfl rfl rfl) ?_
  refine sV (Bd (c:=wi64 ((wi64 (2*x1))+4)) rfl rfl rfl) ?_
  refine sV (Ai (o':=0) BZ rfl rfl) ?_
  refine sV (Ai (o':=1) Bs rfl rfl) ?_
  refine sV (Ag CQ rfl (Bx.cell ((q8.ext E3a).ext E1a) rfl)) ?_
  obtain ⟨r4a,h8e,f9e⟩:=Ab f7e
  refine sc (Ae Lm (by rfl)) (DP x0.m.Abs A1 c2 w3 (tbx X0b hT) (n3.ext X0b) r4a h8e) ?_
  rintro _ w4 E6a rfl
  refine nrm ?_
  have X4b:=xtr X0b E6a
  refine sV (Bv (c:=wi64 ((wi64 ((wi64 (2*x1))+4)) - r4a)) rfl rfl rfl) ?_
  refine sV (NT rfl rfl) ?_
  refine sV (Ac rfl) ?_
  refine Ad<|h4c _ _<|wp_seq_k fun K5c h5c=>wp_seq_k fun K6c h6c=>Af<|sV (Ai (o':=2) DE rfl rfl) ?_
  refine sV (Ag Ey rfl (Bx.cell (((q8.ext E3a).ext E1a).ext E6a) rfl)) ?_
  refine sV (Aa rfl) ?_
  refine sV (Bv (c:=wi64 (x0.e - (max 0 (wi64 ((wi64 ((wi64 (2*x1))+4)) - r4a))))) rfl rfl rfl) ?_
  refine sV (Nj (k:=.i64) rfl rfl) ?_
  refine sb (Ix rfl rfl) fun z2b hz2b=>?_
  refine nrm ?_
  refine Ad<|h6c _ _ ?_
  obtain ⟨m2a,h7c,f0f⟩:=Ab f9e
  refine Di (fun l l' w'=>∃(t8c:Value) (t9c:Value),w4=w'∧l'=(((l.set 7 (.int .i64 m2a)).set 29 t8c).set 30 t9c)) ?_ ?_
  ·rcases bft z2b with e7a | e7a
   ·have p1f:=zP hz2b e7a
    have f2f:=ifP p1f h7c
    refine wp_cond_true (Aj (evb rfl e7a))<|Af<|sV (Aa rfl) ?_
    refine sV (Bd (c:=wi64 ((max 0 (wi64 ((wi64 ((wi64 (2*x1))+4)) - r4a)))+1)) rfl rfl rfl) ?_
    refine sV (Ac rfl) ?_
    refine Ad ?_
    obtain rfl:=sj f2f
    exact ⟨_,rfl,(.int .i64 (max 0 (wi64 ((wi64 ((wi64 (2*x1))+4)) - r4a)))),(.int .i64 (wi64 ((max 0 (wi64 ((wi64 ((wi64 (2*x1))+4)) - r4a)))+1))),rfl,(by simp only [S0,S1]<;>rfl)⟩
   ·have p3f:=zN hz2b e7a
    have f4f:=ifN p3f h7c
    refine wp_cond_false (Aj (evb rfl e7a))<|wp_skip ?_
    obtain rfl:=sj f4f
    exact ⟨_,rfl,uu,uu,rfl,(by simp only [S0,S1]<;>rfl)⟩
  ·rintro l' _ ⟨t8c,t9c,rfl,hq'⟩ l'' hl
   rw [hq'] at hl
   clear hq'
   simp only [S0,S1] at hl
   subst hl
   refine h5c _ _<|wp_seq_k fun K0d h0d=>Af<|sV (Ai (o':=0) BZ rfl rfl) ?_
   refine sV (Ai (o':=1) Bs rfl rfl) ?_
   refine sV (Ag CQ rfl (Bx.cell (((q8.ext E3a).ext E1a).ext E6a) rfl)) ?_
   refine sV (Aa rfl) ?_
   obtain ⟨r1d,h5f,f6f⟩:=Ab f0f
   refine sc (Ae Jz (by rfl)) (Db x0.m.Abs m2a A1 c2 w4 (tbx X4b hT) (n3.ext X4b) r1d h5f) ?_
   rintro _ w5 E5b ⟨A7f,c8f,rfl,n9f⟩
   refine nrm ?_
   have X2d:=xtr X4b E5b
   obtain ⟨r0a,h0g,f1g⟩:=Ab f6f
   refine sc (Ae en_190 (by rfl)) (c_wide_Nat_Root r1d A7f c8f w5 (tbx X2d hT) n9f r0a h0g) ?_
   rintro _ w6 E6b ⟨A8a,c9a,A3h,c4h,rfl,n2g,n5h⟩
   refine nrm ?_
   have X3d:=xtr X2d E6b
   refine sV (Aa rfl) ?_
   refine sV (Ap rfl rfl) ?_
   refine sV (Ap rfl rfl) ?_
   refine sV (Ac rfl) ?_
   refine sV (Ac rfl) ?_
   refine Ad<|h0d _ _<|wp_seq_k fun K4d h4d=>Af<|sV (Aa rfl) ?_
   refine sV (Bc (vals:=[(1,.slice A8a (sz r0a.1) c9a)]) (cells:=[.bool false,.slice A8a (sz r0a.1) c9a]) (by rfl) (by kernel_rfl)) ?_
   refine sV (Ai (o':=2) DE rfl rfl) ?_
   have q3g:=((((q8.ext E3a).ext E1a).ext E6a).ext E5b).ext E6b
   refine sV (Ag Ey rfl (Bx.cell q3g rfl)) ?_
   refine sV (Aa rfl) ?_
   refine sV (Bv (c:=wi64 (x0.e - m2a)) rfl rfl rfl) ?_
   refine sV (HK (c:=wi64 ((wi64 (x0.e - m2a)).tdiv 2)) (by decide) rfl rfl rfl) ?_
   refine sV (Bc (vals:=[(0,.agg #[.bool false,.slice A8a (sz r0a.1) c9a]),(1,.int .i64 (wi64 ((wi64 (x0.e - m2a)).tdiv 2)))]) (cells:=[.bool false,.slice A8a (sz r0a.1) c9a,.int .i64 (wi64 ((wi64 (x0.e - m2a)).tdiv 2))]) (by rfl) (by kernel_rfl)) ?_
   refine sV (Aa rfl) ?_
   refine sV (Aa rfl) ?_
   refine sV (Aa rfl) ?_
   refine sV (AD Ar rfl) ?_
   refine sb (Fs rfl rfl) fun z7b hz7b=>?_
   refine nrm ?_
   obtain rfl:z7b=decide (0<(sz r0a.2:Int)):=bz hz7b
   obtain ⟨r4g,h5g,f6g⟩:=Ab f1g
   refine sc (Ae LR (by rfl)) (FN (⟨(⟨false,r0a.1⟩:Ah),(wi64 ((wi64 (x0.e - m2a)).tdiv 2))⟩:An) x1 x2 (decide (0<(sz r0a.2:Int))) A8a c9a w6 (tbx X3d hT) n2g r4g h5g) ?_
   rintro _ w7 E5d ⟨A7g,c8g,rfl,n9g⟩
   refine nrm ?_
   have X0h:=xtr X3d E5d
   have q6d:=((((q8b.ext E1a).ext E6a).ext E5b).ext E6b).ext E5d
   refine Ax BX rfl rfl q6d rfl rfl rfl rfl (by simp only [SP0,SP1,S0,S1,Nat.reduceAdd];rfl) fun w8 U7d q1h=>?_
   have X2h:=belU X0h U7d g9b
   refine Ad<|h4d _ _<|wp_ret ?_
   obtain rfl:=sj f6g
   exact fin rfl (Res.cellN rfl AE q1h rfl rfl Res.nil) (Ak X2h ⟨A7g,c8g,rfl,(n9g.upd U7d q6d (by decide))⟩)
theorem Ks (x0:Av) (x1:Av) (x2:Int) (A1:Option Addr) (c2:Nat) (A4:Option Addr) (c5:Nat) (A7:Option Addr) (c8:Nat) (A6b:Option Addr) (c0d:Nat) (w:World) (hT:TB w) (n3:RU w A1 c2 x0.lo.m.Abs) (n6:RU w A4 c5 x0.hi.m.Abs) (n9:RU w A7 c8 x1.lo.m.Abs) (n4g:RU w A6b c0d x1.hi.m.Abs) (r:Except Int (AC)) (hr:Ji x0 x1 x2=some r) :
  Calls Tryz.prog 110 #[.agg #[.bool x0.lo.m.Neg,.slice A1 (sz x0.lo.m.Abs) c2,.int .i64 x0.lo.e,.bool x0.hi.m.Neg,.slice A4 (sz x0.hi.m.Abs) c5,.int .i64 x0.hi.e],.agg #[.bool x1.lo.m.Neg,.slice A7 (sz x1.lo.m.Abs) c8,.int .i64 x1.lo.e,.bool x1.hi.m.Neg,.slice A6b (sz x1.hi.m.Abs) c0d,.int .i64 x1.hi.e],.int .i64 x2] w (RetE 201 Mk w r):=by
 unfold Ji at hr
 go_enter Tryz.func110,Tryz.ntmps110
 refine wp_seq_k fun K1d h1d=>Af<|BT rfl rfl fun b5g w1 E2d g6g q7b=>?_
 refine nrm ?_
 refine BT rfl rfl fun b7g w2 E5a g8d q8g=>?_
 refine nrm ?_
 have g9g:=nlt E2d.size g8d
 have X3d:=xtr E2d E5a
 refine Aw Hp fun b0h w3 E6a g9d q0e=>?_
 refine nrm ?_
 have g1e:=nlt X3d.size g9d
 have X8b:=xtr X3d E6a
 refine Ad<|h1d _ _<|wp_seq_k fun K4d h4d=>Af<|sV (Ai (o':=0) Eg rfl rfl) ?_
 refine sV (AH AE rfl ((q7b.ext E5a).ext E6a) (by simp only [List.drop_zero,List.take_succ_cons,List.take_zero];rfl) rfl) ?_
 obtain ⟨r7a,h2e,f3e⟩:=Ab hr
 refine sc (Ae Js (by rfl)) (Dj x0.lo A1 c2 w3 (tbx X8b hT) (n3.ext X8b) r7a h2e) ?_
 rintro _ w4 E8a rfl
 refine nrm ?_
 have X9a:=xtr X8b E8a
 refine sb (EP rfl rfl) fun z9b hz9b=>?_
 refine nrm ?_
 obtain rfl:z9b=decide (0≤r7a):=bz hz9b
 rcases AG f3e with ⟨r0c,h1c,f4e⟩ | ⟨r0c,h1c,rfl⟩
 ·refine scO (Ae Dh (by rfl)) (AN (decide (0≤r7a)) 3 w4 (tbx X9a hT)  (.ok r0c) h1c) ?_
  rintro _ w5 E2a rfl
  refine nrm ?_
  have X5e:=xtr X9a E2a
  refine Ad<|h4d _ _<|wp_seq_k fun K5d h5d=>Ei [10] 11 mo rfl fun w6 E0b S2c=>have X3c:=xtr X5e E0b;dA 0 rfl (fun _=>Ai (o':=0) Eg rfl rfl) ?_
  refine dV 1 rfl (fun _ hw=>AH AE rfl ((((((q7b.ext E5a).ext E6a).ext E8a).ext E2a).ext E0b).ext hw) (by simp only [List.drop_zero,List.take_succ_cons,List.take_zero];rfl) rfl) S2c ?_
  refine dA 2 rfl (fun _=>Aa rfl) ?_
  refine dA 4 rfl (fun _=>Ai (o':=3) EB rfl rfl) ?_
  refine dV 5 rfl (fun _ hw=>AH AE rfl ((((((q7b.ext E5a).ext E6a).ext E8a).ext E2a).ext E0b).ext hw) (by simp only [List.drop_succ_cons,List.drop_zero,List.take_succ_cons,List.take_zero];rfl) rfl) S2c ?_
  refine dA 6 rfl (fun _=>Aa rfl) ?_
  obtain ⟨r0a,h6e,f7e⟩:=Ab f4e
  refine dc 3 rfl (by kernel_rfl) (by rfl) (Ae Ov (by rfl)) (LG x0.lo x2 5 A1 c2 w6 (tbx X3c hT) (n3.ext X3c) r0a h6e) ?_
  rintro _ w7 E4c ⟨A1b,c2b,rfl,n6d⟩
  refine dnrm ?_
  have X5c:=xtr X3c E4c
  have S8e:=S2c.trans E4c
  obtain ⟨r1a,h9e,f0f⟩:=Ab f7e
  refine dc 7 rfl (by kernel_rfl) (by rfl) (Ae Ov (by rfl)) (LG x0.hi x2 4 A4 c5 w7 (tbx X5c hT) (n6.ext X5c) r1a h9e) ?_
  rintro _ w8 E3a ⟨A3b,c4b,rfl,n7d⟩
  refine dnrm ?_
  have X5b:=xtr X5c E3a
  have S1f:=S8e.trans E3a
  refine dA 8 rfl (fun _=>Bc (vals:=[(0,.agg #[.bool r0a.m.Neg,.slice A1b (sz r0a.m.Abs) c2b,.int .i64 r0a.e]),(1,.agg #[.bool r1a.m.Neg,.slice A3b (sz r1a.m.Abs) c4b,.int .i64 r1a.e])]) (cells:=[.bool r0a.m.Neg,.slice A1b (sz r0a.m.Abs) c2b,.int .i64 r0a.e,.bool r1a.m.Neg,.slice A3b (sz r1a.m.Abs) c4b,.int .i64 r1a.e]) (by rfl) (by kernel_rfl)) ?_
  rcases AG f0f with ⟨r6c,h7c,f2f⟩ | ⟨r6c,h7c,rfl⟩
  ·refine dcO 9 rfl (by kernel_rfl) (by rfl) (Ae Lk (by rfl)) (Fk (⟨r0a,r1a⟩:Av) A1b c2b A3b c4b w8 (tbx X5b hT) (n6d.ext E3a) n7d (.ok r6c) h7c) ?_
   rintro _ w9 E4a ⟨A3f,c4f,A5f,c6f,rfl,n7f,n8f⟩
   refine dnrm ?_
   have X9f:=xtr X5b E4a
   have S1h:=S1f.trans E4a
   have q8c:=(((((q0e.ext E8a).ext E2a).ext E0b).ext E4c).ext E3a).ext E4a
   refine dk 10 rfl (by kernel_rfl) (by decide) (by rfl) GJ rfl rfl q8c rfl rfl rfl rfl (by simp only [SP0,SP1,S0,S1,Nat.reduceAdd];rfl) fun w6b U9c q0g=>?_
   have X1g:=belU X9f U9c g1e
   refine CU (by kernel_rfl) ?_
   refine h5d _ _<|wp_ret ?_
   obtain rfl:=sj f2f
   exact fin rfl (Res.cellN rfl CP q0g rfl rfl Res.nil) (DT X1g ⟨A3f,c4f,A5f,c6f,rfl,(n7f.upd U9c q8c (by decide)),(n8f.upd U9c q8c (by decide))⟩)
  ·refine dcP 9 rfl (by kernel_rfl) (by rfl) (Ae Lk (by rfl)) (Fk (⟨r0a,r1a⟩:Av) A1b c2b A3b c4b w8 (tbx X5b hT) (n6d.ext E3a) n7d (.error r6c) h7c) fun w9 E4a=>?_
   have X2g:=xtr X5b E4a
   exact ⟨rfl,BP X2g⟩
 ·refine scP (Ae Dh (by rfl)) (AN (decide (0≤r7a)) 3 w4 (tbx X9a hT)  (.error r0c) h1c) fun w5 E2a=>?_
  have X3g:=xtr X9a E2a
  exact ⟨rfl,BP X3g⟩
theorem c_dyad_made_Span__dyad_Root_1 (x0:AI) (x1:AI) (x2:Int) (A1:Option Addr) (c2:Nat) (A4:Option Addr) (c5:Nat) (A7:Option Addr) (c8:Nat) (A6a:Option Addr) (c8a:Nat) (w:World) (hT:TB w) (n3:RLu w A1 c2 x0.Lo.Man.Abs) (n6:RLu w A4 c5 x0.Hi.Man.Abs) (n9:RLu w A7 c8 x1.Lo.Man.Abs) (n4b:RLu w A6a c8a x1.Hi.Man.Abs) (r:AC × Int) (hr:El x0 x1 x2=some r) :
  Calls Tryz.prog 100 #[.agg #[.bool x0.Lo.Man.Neg,.slice A1 x0.Lo.Man.Abs.length c2,.int .i64 x0.Lo.Exp,.bool x0.Hi.Man.Neg,.slice A4 x0.Hi.Man.Abs.length c5,.int .i64 x0.Hi.Exp],.agg #[.bool x1.Lo.Man.Neg,.slice A7 x1.Lo.Man.Abs.length c8,.int .i64 x1.Lo.Exp,.bool x1.Hi.Man.Neg,.slice A6a x1.Hi.Man.Abs.length c8a,.int .i64 x1.Hi.Exp],.int .i64 x2,.func (.func 110) #[] #[]] w (Ret IF w r):=by
 unfold El at hr
 obtain ⟨q0,hq0,hr0⟩:=Ab hr
 unfold FU at hq0
 go_enter_defers Tryz.func100,Tryz.ntmps100
 refine wp_seq_k fun K9d h9d=>Af<|BT rfl rfl fun b9l w1 E5e g0m q1h=>?_
 refine nrm ?_
 refine BT rfl rfl fun b1m w2 E6e g2h q7e=>?_
 refine nrm ?_
 have g2m:=nlt E5e.size g2h
 have X8e:=xtr E5e E6e
 refine Aw Hp fun b5b w3 E6b g3h q7b=>?_
 refine nrm ?_
 have g8b:=nlt X8e.size g3h
 have X9e:=xtr X8e E6b
 refine Aw Iw fun b9b w4 E0b g4h q3b=>?_
 refine nrm ?_
 have g0c:=nlt X9e.size g4h
 have X0f:=xtr X9e E0b
 refine Ad<|h9d _ _<|wp_seq_k fun K1f h1f=>Af<|Ha (vs:=[.pointer (some ⟨b5b,0,none⟩),.pointer (some ⟨b9b,0,none⟩)]) (by rfl) (by rfl)<|Ad<|h1f _ _<|wp_seq_k fun K2f h2f=>Af<|have q3f:=((q1h.ext E6e).ext E6b).ext E0b;sV (Am CP rfl q3f rfl) ?_
 refine sV (Am CP rfl ((q7e.ext E6b).ext E0b) rfl) ?_
 refine Ct (vals:=[(0,.agg #[.bool x0.Lo.Man.Neg,.slice A1 x0.Lo.Man.Abs.length c2,.int .i64 x0.Lo.Exp,.bool x0.Hi.Man.Neg,.slice A4 x0.Hi.Man.Abs.length c5,.int .i64 x0.Hi.Exp]),(1,.agg #[.bool x1.Lo.Man.Neg,.slice A7 x1.Lo.Man.Abs.length c8,.int .i64 x1.Lo.Exp,.bool x1.Hi.Man.Neg,.slice A6a x1.Hi.Man.Abs.length c8a,.int .i64 x1.Hi.Exp])]) (cs:=[.bool x0.Lo.Man.Neg,.slice A1 x0.Lo.Man.Abs.length c2,.int .i64 x0.Lo.Exp,.bool x0.Hi.Man.Neg,.slice A4 x0.Hi.Man.Abs.length c5,.int .i64 x0.Hi.Exp,.bool x1.Lo.Man.Neg,.slice A7 x1.Lo.Man.Abs.length c8,.int .i64 x1.Lo.Exp,.bool x1.Hi.Man.Neg,.slice A6a x1.Hi.Man.Abs.length c8a,.int .i64 x1.Hi.Exp]) Ln GJ Hp (by rfl) (by decide) (by kernel_rfl) fun b4f w5 E3a g5h q5f=>?_
 refine nrm ?_
 have g3m:=nlt X0f.size g5h
 have X4a:=xtr X0f E3a
 rcases AG hq0 with ⟨r1c,h0e,f6h⟩ | ⟨r1c,h0e,rfl⟩
 ·refine scO (Ae Le (by rfl)) (EN x0 x1 b4f A1 c2 A4 c5 A7 c8 A6a c8a w5 (tbx X4a hT) (n3.ext X4a) (n6.ext X4a) (n9.ext X4a) (n4b.ext X4a) q5f (.ok r1c) h0e) ?_
  rintro _ w6 E2a rfl
  refine nrm ?_
  have X2c:=xtr X4a E2a
  refine Ad<|h2f _ _<|wp_seq_k fun K6f h6f=>Af<|sV (Aa rfl) ?_
  rcases AG f6h with ⟨r3c,h1e,f7h⟩ | ⟨r3c,h1e,rfl⟩
  ·refine scO (Ae Jk (by rfl)) (EH x2 w6 (tbx X2c hT)  (.ok r3c) h1e) ?_
   rintro _ w7 E5a rfl
   refine nrm ?_
   have X8h:=xtr X2c E5a
   refine Ad<|h6f _ _<|wp_seq_k fun K7f h7f=>Ei [7,8] 9 mo rfl fun w8 E1b S2e=>?_
   have X4c:=xtr X8h E1b
   refine dA 0 rfl (fun _=>Aa rfl) ?_ (hQ:=fun _ _ _ h=>dq (rs:=[.cell 8 29,.cell 9 33]) rfl (by decide) h)
   refine dV 1 rfl (fun _ hw=>Am CP rfl (((((q3f.ext E3a).ext E2a).ext E5a).ext E1b).ext hw) rfl) S2e ?_ (hQ:=fun _ _ _ h=>dq (rs:=[.cell 8 29,.cell 9 33]) rfl (by decide) h)
   refine dV 3 rfl (fun _ hw=>Am CP rfl (((((((q7e.ext E6b).ext E0b).ext E3a).ext E2a).ext E5a).ext E1b).ext hw) rfl) S2e ?_ (hQ:=fun _ _ _ h=>dq (rs:=[.cell 8 29,.cell 9 33]) rfl (by decide) h)
   refine dA 5 rfl (fun _=>Aa rfl) ?_ (hQ:=fun _ _ _ h=>dq (rs:=[.cell 8 29,.cell 9 33]) rfl (by decide) h)
   obtain ⟨m8f,h9h,f0i⟩:=Ab f7h
   have hx9f:=BD h9h
   have n1i:RU w8 A1 c2 m8f:=by unfold RU;rw [hx9f];exact (n3.ext X4c)
   obtain ⟨m0g,h2i,f3i⟩:=Ab f0i
   have hx1g:=BD h2i
   have n4i:RU w8 A4 c5 m0g:=by unfold RU;rw [hx1g];exact (n6.ext X4c)
   obtain ⟨r0a,h5i,f6i⟩:=Ab f3i
   refine dc 2 rfl (by kernel_rfl) (by rfl) (Ae Lg (by simp only [sz,hx9f,hx1g];rfl)) (Gr (⟨(⟨(⟨x0.Lo.Man.Neg,m8f⟩:Ah),x0.Lo.Exp⟩:Al),(⟨(⟨x0.Hi.Man.Neg,m0g⟩:Ah),x0.Hi.Exp⟩:Al)⟩:AC) A1 c2 A4 c5 w8 (tbx X4c hT) n1i n4i r0a h5i) ?_
   rintro _ w9 E2b ⟨A5c,c6c,A7c,c8c,rfl,n2g,n3g⟩
   refine dnrm ?_
   have X9c:=xtr X4c E2b
   have S7i:=S2e.trans E2b
   obtain ⟨m4g,h8i,f9i⟩:=Ab f6i
   have hx5g:=BD h8i
   have n0j:RU w9 A7 c8 m4g:=by unfold RU;rw [hx5g];exact (n9.ext X9c)
   obtain ⟨m6g,h1j,f2j⟩:=Ab f9i
   have hx7g:=BD h1j
   have n3j:RU w9 A6a c8a m6g:=by unfold RU;rw [hx7g];exact (n4b.ext X9c)
   obtain ⟨r1a,h4j,f5j⟩:=Ab f2j
   refine dc 4 rfl (by kernel_rfl) (by rfl) (Ae Lg (by simp only [sz,hx5g,hx7g];rfl)) (Gr (⟨(⟨(⟨x1.Lo.Man.Neg,m4g⟩:Ah),x1.Lo.Exp⟩:Al),(⟨(⟨x1.Hi.Man.Neg,m6g⟩:Ah),x1.Hi.Exp⟩:Al)⟩:AC) A7 c8 A6a c8a w9 (tbx X9c hT) n0j n3j r1a h4j) ?_
   rintro _ w6a E7a ⟨A0d,c1d,A2d,c3d,rfl,n8g,n9g⟩
   refine dnrm ?_
   have X4d:=xtr X9c E7a
   have S6j:=S7i.trans E7a
   rcases AG f5j with ⟨r5d,h3e,f7j⟩ | ⟨r5d,h3e,rfl⟩
   ·refine dcO 6 rfl (by kernel_rfl) (by rfl) (FB (first:=[]) (cap:=[]) (args:=[.agg #[.bool r0a.lo.m.Neg,.slice A5c (sz r0a.lo.m.Abs) c6c,.int .i64 r0a.lo.e,.bool r0a.hi.m.Neg,.slice A7c (sz r0a.hi.m.Abs) c8c,.int .i64 r0a.hi.e],.agg #[.bool r1a.lo.m.Neg,.slice A0d (sz r1a.lo.m.Abs) c1d,.int .i64 r1a.lo.e,.bool r1a.hi.m.Neg,.slice A2d (sz r1a.hi.m.Abs) c3d,.int .i64 r1a.hi.e],.int .i64 x2]) Pm (by rfl) (by rfl)) (Ks r0a r1a x2 A5c c6c A7c c8c A0d c1d A2d c3d w6a (tbx X4d hT) (n2g.ext E7a) (n3g.ext E7a) n8g n9g (.ok r5d) h3e) ?_
    rintro _ w8a E9a ⟨A8j,c9j,A0k,c1k,rfl,n2k,n3k⟩
    refine dnrm ?_
    have X4k:=xtr X4d E9a
    have S4m:=S6j.trans E9a
    have q6d:=(((((((q7b.ext E0b).ext E3a).ext E2a).ext E5a).ext E1b).ext E2b).ext E7a).ext E9a
    refine dk 7 rfl (by kernel_rfl) (by decide) (by rfl) GJ rfl rfl q6d rfl rfl rfl rfl (by simp only [SP0,SP1,S0,S1,Nat.reduceAdd];rfl) fun w4b U7d q5k=>?_
    have X6k:=belU X4k U7d g8b
    have ne0h:=(Bx.neT (((((((q3b.ext E3a).ext E2a).ext E5a).ext E1b).ext E2b).ext E7a).ext E9a) q6d (by decide))
    have q4e:=(((((((q3b.ext E3a).ext E2a).ext E5a).ext E1b).ext E2b).ext E7a).ext E9a).upd U7d ne0h
    refine dk 8 rfl (by kernel_rfl) (by decide) (by rfl) GA rfl rfl q4e rfl rfl rfl rfl (by simp only [SP0,SP1,S0,S1,Nat.reduceAdd];rfl) fun w9d U8d q7k=>?_
    have X8k:=belU X6k U8d g0c
    refine CU (by kernel_rfl) ?_
    refine h7f _ _<|wp_ret ?_
    have n9k:=(n2k.upd U7d q6d (by decide)).upd U8d q4e (by decide)
    have n0l:=(n3k.upd U7d q6d (by decide)).upd U8d q4e (by decide)
    obtain rfl:=sj f7j
    obtain rfl:=sj hr0
    exact LH Gu Ip rfl (Res.cellN rfl CP (q5k.upd U8d (Ne.symm ne0h)) rfl rfl (Res.cell1 rfl Ck (Bx.cell q7k rfl) Res.nil)) (Ak X8k ⟨A8j,c9j,A0k,c1k,rfl,n9k,n0l⟩)
   ·refine dcP 6 rfl (by kernel_rfl) (by rfl) (FB (first:=[]) (cap:=[]) (args:=[.agg #[.bool r0a.lo.m.Neg,.slice A5c (sz r0a.lo.m.Abs) c6c,.int .i64 r0a.lo.e,.bool r0a.hi.m.Neg,.slice A7c (sz r0a.hi.m.Abs) c8c,.int .i64 r0a.hi.e],.agg #[.bool r1a.lo.m.Neg,.slice A0d (sz r1a.lo.m.Abs) c1d,.int .i64 r1a.lo.e,.bool r1a.hi.m.Neg,.slice A2d (sz r1a.hi.m.Abs) c3d,.int .i64 r1a.hi.e],.int .i64 x2]) Pm (by rfl) (by rfl)) (Ks r0a r1a x2 A5c c6c A7c c8c A0d c1d A2d c3d w6a (tbx X4d hT) (n2g.ext E7a) (n3g.ext E7a) n8g n9g (.error r5d) h3e) fun w8a E9a=>?_
    have X1l:=xtr X4d E9a
    have q2l:=(((((((q7b.ext E0b).ext E3a).ext E2a).ext E5a).ext E1b).ext E2b).ext E7a).ext E9a
    have q3l:=((((((q3b.ext E3a).ext E2a).ext E5a).ext E1b).ext E2b).ext E7a).ext E9a
    refine HR Ip (Cp b5b b9b (.bool false:Value) (.slice none 0 0:Value) (.int .i64 0:Value) (.bool false:Value) (.slice none 0 0:Value) (.int .i64 0:Value) (.int .i64 0:Value) r5d q2l q3l) rfl ?_
    rintro w9 ⟨u9,q9,q9'⟩
    obtain rfl:=sj hr0
    exact ⟨_,(Res.cellN rfl CP q9 rfl rfl (Res.cell1 rfl Ck (Bx.cell q9' rfl) Res.nil)),Ak (u9.toExt X1l g8b g0c) ⟨none,0,none,0,rfl,RU.nil _,RU.nil _⟩⟩
  ·refine scP (Ae Jk (by rfl)) (EH x2 w6 (tbx X2c hT)  (.error r3c) h1e) fun w7 E5a=>?_
   have X4l:=xtr X2c E5a
   have q5l:=(((q7b.ext E0b).ext E3a).ext E2a).ext E5a
   have q6l:=((q3b.ext E3a).ext E2a).ext E5a
   refine HR Ip (Cp b5b b9b (.bool false:Value) (.slice none 0 0:Value) (.int .i64 0:Value) (.bool false:Value) (.slice none 0 0:Value) (.int .i64 0:Value) (.int .i64 0:Value) r3c q5l q6l) rfl ?_
   rintro w9 ⟨u9,q9,q9'⟩
   obtain rfl:=sj hr0
   exact ⟨_,(Res.cellN rfl CP q9 rfl rfl (Res.cell1 rfl Ck (Bx.cell q9' rfl) Res.nil)),Ak (u9.toExt X4l g8b g0c) ⟨none,0,none,0,rfl,RU.nil _,RU.nil _⟩⟩
 ·refine scP (Ae Le (by rfl)) (EN x0 x1 b4f A1 c2 A4 c5 A7 c8 A6a c8a w5 (tbx X4a hT) (n3.ext X4a) (n6.ext X4a) (n9.ext X4a) (n4b.ext X4a) q5f (.error r1c) h0e) fun w6 E2a=>?_
  have X7l:=xtr X4a E2a
  have q8l:=((q7b.ext E0b).ext E3a).ext E2a
  refine HR Ip (Cp b5b b9b (.bool false:Value) (.slice none 0 0:Value) (.int .i64 0:Value) (.bool false:Value) (.slice none 0 0:Value) (.int .i64 0:Value) (.int .i64 0:Value) r1c q8l ((q3b.ext E3a).ext E2a)) rfl ?_
  rintro w9 ⟨u9,q9,q9'⟩
  obtain rfl:=sj hr0
  exact ⟨_,(Res.cellN rfl CP q9 rfl rfl (Res.cell1 rfl Ck (Bx.cell q9' rfl) Res.nil)),Ak (u9.toExt X7l g8b g0c) ⟨none,0,none,0,rfl,RU.nil _,RU.nil _⟩⟩
theorem c_dyad_Root (x0:AI) (x1:Int) (A1:Option Addr) (c2:Nat) (A4:Option Addr) (c5:Nat) (w:World) (hT:TB w) (n3:RLu w A1 c2 x0.Lo.Man.Abs) (n6:RLu w A4 c5 x0.Hi.Man.Abs) (r:AC × Int) (hr:JR x0 x1=some r) :
  Calls Tryz.prog 25 #[.agg #[.bool x0.Lo.Man.Neg,.slice A1 x0.Lo.Man.Abs.length c2,.int .i64 x0.Lo.Exp,.bool x0.Hi.Man.Neg,.slice A4 x0.Hi.Man.Abs.length c5,.int .i64 x0.Hi.Exp],.int .i64 x1] w (Ret IF w r):=by
 unfold JR at hr
 go_enter Tryz.func25,Tryz.ntmps25
 refine wp_seq_k fun K7 h7=>Af<|BT rfl rfl fun b8 w1 E9 g3c q5a=>?_
 refine nrm ?_
 refine Aw Hp fun b4c w2 E2a g7a q3a=>?_
 refine nrm ?_
 have g8a:=nlt E9.size g7a
 have X0a:=xtr E9 E2a
 refine sV (Ac rfl) ?_
 refine Ad<|h7 _ _<|wp_seq_k fun K6a h6a=>Af<|sV (Am CP rfl (q5a.ext E2a) rfl) ?_
 refine sV (Am CP rfl (q5a.ext E2a) rfl) ?_
 refine sV (Aa rfl) ?_
 obtain ⟨r9a,h0b,f1b⟩:=Ab hr
 refine sc (Ae Nu (by rfl)) (c_dyad_made_Span__dyad_Root_1 x0 x0 x1 A1 c2 A4 c5 A1 c2 A4 c5 w2 (tbx X0a hT) (n3.ext X0a) (n6.ext X0a) (n3.ext X0a) (n6.ext X0a) r9a h0b) ?_
 rintro _ w3 E1a ⟨A2b,c3b,A4b,c5b,rfl,n6b,n7b⟩
 refine nrm ?_
 have X8b:=xtr X0a E1a
 refine sV (Ap rfl rfl) ?_
 refine sV (Ap rfl rfl) ?_
 refine Ax GJ rfl rfl (q3a.ext E1a) rfl rfl rfl rfl (by simp only [SP0,SP1,S0,S1,Nat.reduceAdd];rfl) fun w4 U4a q9b=>?_
 have X0c:=belU X8b U4a g8a
 refine sV (Ac rfl) ?_
 refine Ad<|h6a _ _<|wp_ret ?_
 have n1c:=n6b.upd U4a (q3a.ext E1a) (by decide)
 have n2c:=n7b.upd U4a (q3a.ext E1a) (by decide)
 obtain rfl:=sj f1b
 exact fin rfl (Res.cellN rfl CP q9b rfl rfl (Res.tmp rfl Res.nil)) (Ak X0c ⟨A2b,c3b,A4b,c5b,rfl,n1c,n2c⟩)
set_option maxRecDepth 20000 in
theorem HM (w:World) (hT:TB w) (r:Bool) (hr:DV=some r) :
  Calls Tryz.prog 15 #[] w (Ret Fy w r):=by
 unfold DV at hr
 refine LQ Tryz.func15 rfl [uu,uu,uu,uu,uu,uu,uu,uu,uu,uu,uu,uu,uu,uu,uu,uu,uu,uu,uu,uu,uu,uu,uu,uu,uu,uu,uu,uu,uu,uu,uu,uu,uu,uu,uu,uu,uu,uu,uu,uu,uu,uu,uu,uu,uu,uu,uu,uu,uu,uu,uu,uu,uu,uu,uu,uu,uu,uu,uu,uu,uu,uu,uu,uu,uu,uu,uu,uu,uu,uu,uu,uu,uu,uu,uu,uu,uu,uu,uu,uu,uu,uu,uu,uu,uu,uu,uu,uu,uu,uu,uu,uu,uu,uu,uu,uu,uu,uu,uu,uu,uu,uu,uu,uu,uu,uu,uu,uu,uu,uu,uu,uu,uu,uu,uu,uu,uu,uu,uu] (by kernel_rfl) ?_
 refine wp_seq_k fun K1 h1=>Af<|sV (Ac rfl) ?_
 refine Ad<|h1 _ _<|wp_seq_k fun K2 h2=>Af ?_
 obtain ⟨r3,h4,f5⟩:=Ab hr
 refine sc (Ae Pz (by rfl)) (Il 12 w hT  r3 h4) ?_
 rintro _ w1 E6 ⟨A7,c8,rfl,n9⟩
 refine nrm ?_
 obtain ⟨r8i,h9l,f9i⟩:=Ab f5
 refine sc (Ae PA (by rfl)) (LB (⟨r3.Neg,(limbs r3.Abs)⟩:AL) 3 A7 c8 w1 (tbx E6 hT) n9 r8i h9l) ?_
 rintro _ w2 E0j ⟨A1j,c0m,rfl,n1m⟩
 refine nrm ?_
 have X2j:=xtr E6 E0j
 refine sV (Aa rfl) ?_
 refine sV (Ap rfl rfl) ?_
 refine sV (Ap rfl rfl) ?_
 refine Aw FM fun b6e w3 E3j g5g q4j=>?_
 refine nrm ?_
 have g2m:=nlt X2j.size g5g
 refine Ax DU rfl rfl q4j rfl rfl rfl rfl (by simp only [SP0,SP1,S0,S1,Nat.reduceAdd];rfl) fun w4 U5j q6j=>?_
 have F6g:=belU E3j U5j g5g
 have X7g:=xtr X2j F6g
 refine sV (Ac rfl) ?_
 refine Ad<|h2 _ _<|wp_seq_k fun K8g h8g=>Af ?_
 obtain ⟨r7e,h3m,f7j⟩:=Ab f9i
 refine sc (Ae JQ (by rfl)) (Br 11 0 w4 (tbx X7g hT)  r7e h3m) ?_
 rintro _ w5 E8e ⟨A8j,c9j,rfl,n0k⟩
 refine nrm ?_
 have X1k:=xtr X7g E8e
 obtain ⟨r9d,h2k,f4m⟩:=Ab f7j
 refine sc (Ae PF (by rfl)) (KY (⟨(⟨r7e.Man.Neg,(limbs r7e.Man.Abs)⟩:AL),r7e.Exp⟩:Aq) 3 1 A8j c9j w5 (tbx X1k hT) n0k r9d h2k) ?_
 rintro _ w6 E9g ⟨A3k,c5m,rfl,n6m⟩
 refine nrm ?_
 have X0h:=xtr X1k E9g
 refine sV (Aa rfl) ?_
 refine sV (Ap rfl rfl) ?_
 refine sV (Ap rfl rfl) ?_
 refine Aw FM fun b8x w7 E7m g1h q8m=>?_
 refine nrm ?_
 have g9x:=nlt X0h.size g1h
 refine Ax DU rfl rfl q8m rfl rfl rfl rfl (by simp only [SP0,SP1,S0,S1,Nat.reduceAdd];rfl) fun w8 U9e q4k=>?_
 have F2h:=belU E7m U9e g1h
 have X9m:=xtr X0h F2h
 refine sV (Ac rfl) ?_
 refine Ad<|h8g _ _<|wp_seq_k fun K0n h0n=>Af ?_
 obtain ⟨r3h,h0y,f1y⟩:=Ab f4m
 refine sc (Ae JQ (by rfl)) (Br (-11) 0 w8 (tbx X9m hT)  r3h h0y) ?_
 rintro _ w9 E0f ⟨A2y,c3y,rfl,n4y⟩
 refine nrm ?_
 have X1n:=xtr X9m E0f
 obtain ⟨r1f,h5y,f6y⟩:=Ab f1y
 refine sc (Ae PF (by rfl)) (KY (⟨(⟨r3h.Man.Neg,(limbs r3h.Man.Abs)⟩:AL),r3h.Exp⟩:Aq) 2 5 A2y c3y w9 (tbx X1n hT) n4y r1f h5y) ?_
 rintro _ w8i E2f ⟨A7y,c8y,rfl,n9y⟩
 refine nrm ?_
 have X2n:=xtr X1n E2f
 refine sV (Aa rfl) ?_
 refine sV (Ap rfl rfl) ?_
 refine sV (Ap rfl rfl) ?_
 refine Aw FM fun b7am w9l E0z g3n q1z=>?_
 refine nrm ?_
 have g8am:=nlt X2n.size g3n
 refine Ax DU rfl rfl q1z rfl rfl rfl rfl (by simp only [SP0,SP1,S0,S1,Nat.reduceAdd];rfl) fun w9i U2z q3z=>?_
 have F0e:=belU E0z U2z g3n
 have X4n:=xtr X2n F0e
 refine sV (Ac rfl) ?_
 refine Ad<|h0n _ _<|wp_seq_k fun K5n h5n=>Af ?_
 obtain ⟨r8c,h4z,f5z⟩:=Ab f6y
 refine sc (Ae LD (by rfl)) (Cy (-1) 2 w9i (tbx X4n hT)  r8c h4z) ?_
 rintro _ w0j E9c ⟨A6z,c7z,A8z,c9z,rfl,n0a0,n1a0⟩
 refine nrm ?_
 have X6n:=xtr X4n E9c
 obtain ⟨r0d,h2a0,f3a0⟩:=Ab f5z
 refine sc (Ae LD (by rfl)) (Cy (-3) 5 w0j (tbx X6n hT)  r0d h2a0) ?_
 rintro _ w1j E7b ⟨A4a0,c5a0,A6a0,c7a0,rfl,n8a0,n9a0⟩
 refine nrm ?_
 have X7n:=xtr X6n E7b
 obtain ⟨r3f,h0a1,f1a1⟩:=Ab f3a0
 refine sc (Ae en_32 (by rfl)) (c_dyad_Times (⟨(⟨(⟨r8c.Lo.Man.Neg,(limbs r8c.Lo.Man.Abs)⟩:AL),r8c.Lo.Exp⟩:Aq),(⟨(⟨r8c.Hi.Man.Neg,(limbs r8c.Hi.Man.Abs)⟩:AL),r8c.Hi.Exp⟩:Aq)⟩:AI) (⟨(⟨(⟨r0d.Lo.Man.Neg,(limbs r0d.Lo.Man.Abs)⟩:AL),r0d.Lo.Exp⟩:Aq),(⟨(⟨r0d.Hi.Man.Neg,(limbs r0d.Hi.Man.Abs)⟩:AL),r0d.Hi.Exp⟩:Aq)⟩:AI) 8 A6z c7z A8z c9z A4a0 c5a0 A6a0 c7a0 w1j (tbx X7n hT) (n0a0.ext E7b) (n1a0.ext E7b) n8a0 n9a0 r3f h0a1) ?_
 rintro _ w0m E1d ⟨A2a1,c3a1,A4a1,c5a1,rfl,n6a1,n7a1⟩
 refine nrm ?_
 have X8n:=xtr X7n E1d
 refine sV (Aa rfl) ?_
 refine sV (Ap rfl rfl) ?_
 refine sV (Ap rfl rfl) ?_
 refine Aw Hp fun b9am w1m E8a1 g9n q9a1=>?_
 refine nrm ?_
 have g0an:=nlt X8n.size g9n
 refine Ax GJ rfl rfl q9a1 rfl rfl rfl rfl (by simp only [SP0,SP1,S0,S1,Nat.reduceAdd];rfl) fun w2j U0a2 q1a2=>?_
 have F8b:=belU E8a1 U0a2 g9n
 have X2a2:=xtr X8n F8b
 refine sV (Ac rfl) ?_
 refine Ad<|h5n _ _<|wp_seq_k fun K0o h0o=>wp_seq_k fun K1e h1e=>Ei [] 38 mo rfl fun w6e E5b S1o=>have X5k:=xtr X2a2 E5b;dA 0 rfl (fun _=>Aa rfl) ?_
 refine dab 1 rfl (by kernel_rfl) (fun _ _ _ h=>h) (by rfl) (fun _=>Ix rfl rfl) fun z4h hz4h=>?_
 refine dnrm ?_
 refine dA 2 rfl (fun _=>Aa rfl) ?_
 obtain ⟨m2o,h3o,f3a2⟩:=Ab f1a1
 refine IP #[true,true,true,true,true,true,false,false,false,false,false,false,false,false,false,false,false,false,false,false,false,false,false,false,false,false,false,false,false,false,false,false,false,false,false,false,false,false] 32 (fun l l' w'=>∃(t4o:Value) (t5o:Value),w6e=w'∧l'=(((l.set 39 t4o).set 40 t5o).set 41 (.bool m2o))) ?_ ?_
 ·intro HJ144
  rcases bft z4h with e9b | e9b
  ·have p4a2:=zP hz4h e9b
   have f5a2:=ifP p4a2 h3o
   refine dP 3 rfl ?_ (hw:=wgF rfl e9b)
   refine dP 4 rfl ?_ (hw:=wgF rfl e9b)
   refine dA 5 rfl (fun _=>AB (evb rfl e9b) rfl) ?_
   obtain rfl:=sj f5a2
   exact Et (by kernel_rfl) (HJ144 _ _ ⟨uu,uu,rfl,(by simp only [S0,S1]<;>rfl)⟩)
  ·have p6a2:=zN hz4h e9b
   have f7a2:=ifN p6a2 h3o
   refine dA 3 rfl (fun _=>Aa rfl) ?_ (hw:=wgT rfl e9b)
   refine dab 4 rfl (by kernel_rfl) (fun _ _ _ h=>h) (wgT rfl e9b) (fun _=>Ix rfl rfl) fun z6k hz6k=>?_
   refine dnrm ?_
   refine dA 5 rfl (fun _=>AF (evb rfl e9b) rfl) ?_
   obtain rfl:z6k=decide (¬r9d.2=0):=bz hz6k
   obtain rfl:=sj f7a2
   exact Et (by kernel_rfl) (HJ144 _ _ ⟨(.int .i64 r9d.2),(.bool (decide (¬r9d.2=0))),rfl,(by simp only [S0,S1]<;>rfl)⟩)
 ·rintro l' _ ⟨t4o,t5o,rfl,hq'⟩ l'' hl
  rw [hq'] at hl
  clear hq'
  simp only [S0,S1] at hl
  subst hl
  refine dA 6 rfl (fun _=>Aa rfl) ?_
  obtain ⟨m6o,h7o,f8a2⟩:=Ab f3a2
  refine IP #[true,true,true,true,true,true,true,true,true,true,false,false,false,false,false,false,false,false,false,false,false,false,false,false,false,false,false,false,false,false,false,false,false,false,false,false,false,false] 28 (fun l l' w'=>∃(t8o:Value) (t9o:Value),w6e=w'∧l'=(((l.set 43 t8o).set 44 t9o).set 45 (.bool m6o))) ?_ ?_
  ·intro HJ163
   rcases bft m2o with e0c | e0c
   ·have p9a2:=e0c
    have f0a3:=ifP p9a2 h7o
    refine dP 7 rfl ?_ (hw:=wgF rfl e0c)
    refine dP 8 rfl ?_ (hw:=wgF rfl e0c)
    refine dA 9 rfl (fun _=>AB (evb rfl e0c) rfl) ?_
    obtain rfl:=sj f0a3
    exact Et (by kernel_rfl) (HJ163 _ _ ⟨uu,uu,rfl,(by simp only [S0,S1]<;>rfl)⟩)
   ·have p1a3:=bF e0c
    have f2a3:=ifN p1a3 h7o
    refine dA 7 rfl (fun _=>Aa rfl) ?_ (hw:=wgT rfl e0c)
    refine dab 8 rfl (by kernel_rfl) (fun _ _ _ h=>h) (wgT rfl e0c) (fun _=>Ix rfl rfl) fun z7k hz7k=>?_
    refine dnrm ?_
    refine dA 9 rfl (fun _=>AF (evb rfl e0c) rfl) ?_
    obtain rfl:z7k=decide (¬r1f.2=0):=bz hz7k
    obtain rfl:=sj f2a3
    exact Et (by kernel_rfl) (HJ163 _ _ ⟨(.int .i64 r1f.2),(.bool (decide (¬r1f.2=0))),rfl,(by simp only [S0,S1]<;>rfl)⟩)
  ·rintro l' _ ⟨t8o,t9o,rfl,hq'⟩ l'' hl
   rw [hq'] at hl
   clear hq'
   simp only [S0,S1] at hl
   subst hl
   refine dA 10 rfl (fun _=>Aa rfl) ?_
   obtain ⟨m0p,h1p,f2p⟩:=Ab f8a2
   refine IP #[true,true,true,true,true,true,true,true,true,true,true,true,true,true,false,false,false,false,false,false,false,false,false,false,false,false,false,false,false,false,false,false,false,false,false,false,false,false] 24 (fun l l' w'=>∃(t3p:Value) (t4p:Value),w6e=w'∧l'=(((l.set 47 t3p).set 48 t4p).set 49 (.bool m0p))) ?_ ?_
   ·intro HJ182
    rcases bft m6o with e1c | e1c
    ·have p3a3:=e1c
     have f4a3:=ifP p3a3 h1p
     refine dP 11 rfl ?_ (hw:=wgF rfl e1c)
     refine dP 12 rfl ?_ (hw:=wgF rfl e1c)
     refine dA 13 rfl (fun _=>AB (evb rfl e1c) rfl) ?_
     obtain rfl:=sj f4a3
     exact Et (by kernel_rfl) (HJ182 _ _ ⟨uu,uu,rfl,(by simp only [S0,S1]<;>rfl)⟩)
    ·have p5a3:=bF e1c
     have f6a3:=ifN p5a3 h1p
     refine dA 11 rfl (fun _=>Aa rfl) ?_ (hw:=wgT rfl e1c)
     refine dab 12 rfl (by kernel_rfl) (fun _ _ _ h=>h) (wgT rfl e1c) (fun _=>Ix rfl rfl) fun z8k hz8k=>?_
     refine dnrm ?_
     refine dA 13 rfl (fun _=>AF (evb rfl e1c) rfl) ?_
     obtain rfl:z8k=decide (¬r3f.2=0):=bz hz8k
     obtain rfl:=sj f6a3
     exact Et (by kernel_rfl) (HJ182 _ _ ⟨(.int .i64 r3f.2),(.bool (decide (¬r3f.2=0))),rfl,(by simp only [S0,S1]<;>rfl)⟩)
   ·rintro l' _ ⟨t3p,t4p,rfl,hq'⟩ l'' hl
    rw [hq'] at hl
    clear hq'
    simp only [S0,S1] at hl
    subst hl
    refine dA 14 rfl (fun _=>Aa rfl) ?_
    rcases bft m0p with e7a | e7a
    ·have p7a3:=e7a
     have f8a3:=ifP p7a3 f2p
     refine dP 15 rfl ?_ (hw:=wgF rfl e7a)
     refine dP 16 rfl ?_ (hw:=wgF rfl e7a)
     refine dP 17 rfl ?_ (hw:=wgF rfl e7a)
     refine dP 18 rfl ?_ (hw:=wgF rfl e7a)
     refine dA 19 rfl (fun _=>AB (evb rfl e7a) rfl) ?_
     refine dA 20 rfl (fun _=>Aa rfl) ?_
     refine dP 21 rfl ?_ (hw:=wgF rfl rfl)
     refine dP 22 rfl ?_ (hw:=wgF rfl rfl)
     refine dP 23 rfl ?_ (hw:=wgF rfl rfl)
     refine dP 24 rfl ?_ (hw:=wgF rfl rfl)
     refine dA 25 rfl (fun _=>AB (evb rfl rfl) rfl) ?_
     refine dA 26 rfl (fun _=>Aa rfl) ?_
     refine dP 27 rfl ?_ (hw:=wgF rfl rfl)
     refine dP 28 rfl ?_ (hw:=wgF rfl rfl)
     refine dP 29 rfl ?_ (hw:=wgF rfl rfl)
     refine dP 30 rfl ?_ (hw:=wgF rfl rfl)
     refine dA 31 rfl (fun _=>AB (evb rfl rfl) rfl) ?_
     refine dA 32 rfl (fun _=>Aa rfl) ?_
     refine dP 33 rfl ?_ (hw:=wgF rfl rfl)
     refine dP 34 rfl ?_ (hw:=wgF rfl rfl)
     refine dP 35 rfl ?_ (hw:=wgF rfl rfl)
     refine dP 36 rfl ?_ (hw:=wgF rfl rfl)
     refine dA 37 rfl (fun _=>AB (evb rfl rfl) rfl) ?_
     refine CU (by kernel_rfl) ?_
     refine h1e _ _<|wp_cond_true (Aj (evb rfl rfl))<|wp_seq_k fun K5p h5p=>Af<|sV (Ac rfl) ?_
     refine Ad<|h5p _ _<|wp_ret ?_
     obtain rfl:=sj f8a3
     exact fin rfl (Res.tmp rfl Res.nil) (Ak X5k rfl)
    ·have p9a3:=bF e7a
     have f0a4:=ifN p9a3 f2p
     refine dV 15 rfl (fun _ hw=>Am Bk rfl ((((((((((((q6j.ext E8e).ext E9g).ext F2h).ext E0f).ext E2f).ext F0e).ext E9c).ext E7b).ext E1d).ext F8b).ext E5b).ext hw) rfl) S1o ?_ (hw:=wgT rfl e7a)
     obtain ⟨r6p,h1a4,f2a4⟩:=Ab f0a4
     refine dc 16 rfl (by kernel_rfl) (wgT rfl e7a) (Ae JQ (by rfl)) (Br 3 5 w6e (tbx X5k hT)  r6p h1a4) ?_
     rintro _ w3j E2d ⟨A3a4,c4a4,rfl,n5a4⟩
     refine dnrm ?_
     have X7p:=xtr X5k E2d
     have S6a4:=S1o.trans E2d
     have n7a4:=((((((((((((n1m.ext F6g).ext E8e).ext E9g).ext F2h).ext E0f).ext E2f).ext F0e).ext E9c).ext E7b).ext E1d).ext F8b).ext E5b).ext E2d
     obtain ⟨r8a4,h9a4,f8p⟩:=Ab f2a4
     refine dc 17 rfl (by kernel_rfl) (wgT rfl e7a) (Ae LF (by rfl)) (Cz r8i.1 r6p A1j c0m A3a4 c4a4 w3j (tbx X7p hT) n7a4 n5a4 r8a4 h9a4) ?_
     rintro _ w5g E2e rfl
     refine dnrm ?_
     have X9k:=xtr X7p E2e
     have S9p:=S6a4.trans E2e
     refine dab 18 rfl (by kernel_rfl) (fun _ _ _ h=>h) (wgT rfl e7a) (fun _=>ER rfl) fun z5h hz5h=>?_
     refine dnrm ?_
     refine dA 19 rfl (fun _=>AF (evb rfl e7a) rfl) ?_
     refine dA 20 rfl (fun _=>Aa rfl) ?_
     rcases bft z5h with e8a | e8a
     ·have p0a5:=zP hz5h e8a
      have f1a5:=ifP p0a5 f8p
      refine dP 21 rfl ?_ (hw:=wgF rfl e8a)
      refine dP 22 rfl ?_ (hw:=wgF rfl e8a)
      refine dP 23 rfl ?_ (hw:=wgF rfl e8a)
      refine dP 24 rfl ?_ (hw:=wgF rfl e8a)
      refine dA 25 rfl (fun _=>AB (evb rfl e8a) rfl) ?_
      refine dA 26 rfl (fun _=>Aa rfl) ?_
      refine dP 27 rfl ?_ (hw:=wgF rfl rfl)
      refine dP 28 rfl ?_ (hw:=wgF rfl rfl)
      refine dP 29 rfl ?_ (hw:=wgF rfl rfl)
      refine dP 30 rfl ?_ (hw:=wgF rfl rfl)
      refine dA 31 rfl (fun _=>AB (evb rfl rfl) rfl) ?_
      refine dA 32 rfl (fun _=>Aa rfl) ?_
      refine dP 33 rfl ?_ (hw:=wgF rfl rfl)
      refine dP 34 rfl ?_ (hw:=wgF rfl rfl)
      refine dP 35 rfl ?_ (hw:=wgF rfl rfl)
      refine dP 36 rfl ?_ (hw:=wgF rfl rfl)
      refine dA 37 rfl (fun _=>AB (evb rfl rfl) rfl) ?_
      refine CU (by kernel_rfl) ?_
      refine h1e _ _<|wp_cond_true (Aj (evb rfl rfl))<|wp_seq_k fun K0q h0q=>Af<|sV (Ac rfl) ?_
      refine Ad<|h0q _ _<|wp_ret ?_
      obtain rfl:=sj f1a5
      exact fin rfl (Res.tmp rfl Res.nil) (Ak X9k rfl)
     ·have p2a5:=zN hz5h e8a
      have f3a5:=ifN p2a5 f8p
      refine dV 21 rfl (fun _ hw=>Am Bk rfl (((((((((q4k.ext E0f).ext E2f).ext F0e).ext E9c).ext E7b).ext E1d).ext F8b).ext E5b).ext hw) rfl) S9p ?_ (hw:=wgT rfl e8a)
      obtain ⟨r1q,h4a5,f5a5⟩:=Ab f3a5
      refine dc 22 rfl (by kernel_rfl) (wgT rfl e8a) (Ae JQ (by rfl)) (Br 12 0 w5g (tbx X9k hT)  r1q h4a5) ?_
      rintro _ w4j E3e ⟨A6a5,c7a5,rfl,n8a5⟩
      refine dnrm ?_
      have X2q:=xtr X9k E3e
      have S9a5:=S9p.trans E3e
      have n0a6:=(((((((((((n6m.ext F2h).ext E0f).ext E2f).ext F0e).ext E9c).ext E7b).ext E1d).ext F8b).ext E5b).ext E2d).ext E2e).ext E3e
      obtain ⟨r1a6,h2a6,f3q⟩:=Ab f5a5
      refine dc 23 rfl (by kernel_rfl) (wgT rfl e8a) (Ae LF (by rfl)) (Cz r9d.1 r1q A3k c5m A6a5 c7a5 w4j (tbx X2q hT) n0a6 n8a5 r1a6 h2a6) ?_
      rintro _ w2m E4f rfl
      refine dnrm ?_
      have X0l:=xtr X2q E4f
      have S4q:=S9a5.trans E4f
      refine dab 24 rfl (by kernel_rfl) (fun _ _ _ h=>h) (wgT rfl e8a) (fun _=>ER rfl) fun z6h hz6h=>?_
      refine dnrm ?_
      refine dA 25 rfl (fun _=>AF (evb rfl e8a) rfl) ?_
      refine dA 26 rfl (fun _=>Aa rfl) ?_
      rcases bft z6h with e9a | e9a
      ·have p3a6:=zP hz6h e9a
       have f4a6:=ifP p3a6 f3q
       refine dP 27 rfl ?_ (hw:=wgF rfl e9a)
       refine dP 28 rfl ?_ (hw:=wgF rfl e9a)
       refine dP 29 rfl ?_ (hw:=wgF rfl e9a)
       refine dP 30 rfl ?_ (hw:=wgF rfl e9a)
       refine dA 31 rfl (fun _=>AB (evb rfl e9a) rfl) ?_
       refine dA 32 rfl (fun _=>Aa rfl) ?_
       refine dP 33 rfl ?_ (hw:=wgF rfl rfl)
       refine dP 34 rfl ?_ (hw:=wgF rfl rfl)
       refine dP 35 rfl ?_ (hw:=wgF rfl rfl)
       refine dP 36 rfl ?_ (hw:=wgF rfl rfl)
       refine dA 37 rfl (fun _=>AB (evb rfl rfl) rfl) ?_
       refine CU (by kernel_rfl) ?_
       refine h1e _ _<|wp_cond_true (Aj (evb rfl rfl))<|wp_seq_k fun K5q h5q=>Af<|sV (Ac rfl) ?_
       refine Ad<|h5q _ _<|wp_ret ?_
       obtain rfl:=sj f4a6
       exact fin rfl (Res.tmp rfl Res.nil) (Ak X0l rfl)
      ·have p5a6:=zN hz6h e9a
       have f6a6:=ifN p5a6 f3q
       refine dV 27 rfl (fun _ hw=>Am Bk rfl ((((((q3z.ext E9c).ext E7b).ext E1d).ext F8b).ext E5b).ext hw) rfl) S4q ?_ (hw:=wgT rfl e9a)
       obtain ⟨r6q,h7a6,f8a6⟩:=Ab f6a6
       refine dc 28 rfl (by kernel_rfl) (wgT rfl e9a) (Ae JQ (by rfl)) (Br (-12) 0 w2m (tbx X0l hT)  r6q h7a6) ?_
       rintro _ w9a6 E5f ⟨A0a7,c1a7,rfl,n2a7⟩
       refine dnrm ?_
       have X7q:=xtr X0l E5f
       have S3a7:=S4q.trans E5f
       have n4a7:=((((((((((n9y.ext F0e).ext E9c).ext E7b).ext E1d).ext F8b).ext E5b).ext E2d).ext E2e).ext E3e).ext E4f).ext E5f
       obtain ⟨r5a7,h6a7,f8q⟩:=Ab f8a6
       refine dc 29 rfl (by kernel_rfl) (wgT rfl e9a) (Ae LF (by rfl)) (Cz r1f.1 r6q A7y c8y A0a7 c1a7 w9a6 (tbx X7q hT) n4a7 n2a7 r5a7 h6a7) ?_
       rintro _ w5j E7h rfl
       refine dnrm ?_
       have X1l:=xtr X7q E7h
       have S9q:=S3a7.trans E7h
       refine dab 30 rfl (by kernel_rfl) (fun _ _ _ h=>h) (wgT rfl e9a) (fun _=>ER rfl) fun z8h hz8h=>?_
       refine dnrm ?_
       refine dA 31 rfl (fun _=>AF (evb rfl e9a) rfl) ?_
       refine dA 32 rfl (fun _=>Aa rfl) ?_
       rcases bft z8h with e0b | e0b
       ·have p7a7:=zP hz8h e0b
        have f8a7:=ifP p7a7 f8q
        refine dP 33 rfl ?_ (hw:=wgF rfl e0b)
        refine dP 34 rfl ?_ (hw:=wgF rfl e0b)
        refine dP 35 rfl ?_ (hw:=wgF rfl e0b)
        refine dP 36 rfl ?_ (hw:=wgF rfl e0b)
        refine dA 37 rfl (fun _=>AB (evb rfl e0b) rfl) ?_
        refine CU (by kernel_rfl) ?_
        refine h1e _ _<|wp_cond_true (Aj (evb rfl rfl))<|wp_seq_k fun K0r h0r=>Af<|sV (Ac rfl) ?_
        refine Ad<|h0r _ _<|wp_ret ?_
        obtain rfl:=sj f8a7
        exact fin rfl (Res.tmp rfl Res.nil) (Ak X1l rfl)
       ·have p9a7:=zN hz8h e0b
        have f0a8:=ifN p9a7 f8q
        refine dV 33 rfl (fun _ hw=>Am CP rfl ((q1a2.ext E5b).ext hw) rfl) S9q ?_ (hw:=wgT rfl e0b)
        obtain ⟨r1r,h1a8,f2a8⟩:=Ab f0a8
        refine dc 34 rfl (by kernel_rfl) (wgT rfl e0b) (Ae LD (by rfl)) (Cy (-6) 10 w5j (tbx X1l hT)  r1r h1a8) ?_
        rintro _ w6j E9h ⟨A3a8,c4a8,A5a8,c6a8,rfl,n7a8,n8a8⟩
        refine dnrm ?_
        have X2r:=xtr X1l E9h
        have S9a8:=S9q.trans E9h
        have n0a9:=((((((((n6a1.ext F8b).ext E5b).ext E2d).ext E2e).ext E3e).ext E4f).ext E5f).ext E7h).ext E9h
        have n1a9:=((((((((n7a1.ext F8b).ext E5b).ext E2d).ext E2e).ext E3e).ext E4f).ext E5f).ext E7h).ext E9h
        obtain ⟨r2a9,h3a9,f3r⟩:=Ab f2a8
        refine dc 35 rfl (by kernel_rfl) (wgT rfl e0b) (Ae OU (by rfl)) (FL r3f.1 r1r A2a1 c3a1 A4a1 c5a1 A3a8 c4a8 A5a8 c6a8 w6j (tbx X2r hT) n0a9 n1a9 n7a8 n8a8 r2a9 h3a9) ?_
        rintro _ w7g E4r rfl
        refine dnrm ?_
        have X2l:=xtr X2r E4r
        have S1an:=S9a8.trans E4r
        refine dab 36 rfl (by kernel_rfl) (fun _ _ _ h=>h) (wgT rfl e0b) (fun _=>ER rfl) fun z0i hz0i=>?_
        refine dnrm ?_
        refine dA 37 rfl (fun _=>AF (evb rfl e0b) rfl) ?_
        refine CU (by kernel_rfl) ?_
        refine h1e _ _ ?_
        rcases bft z0i with e6f | e6f
        ·have p4a9:=zP hz0i e6f
         have f5a9:=ifP p4a9 f3r
         refine wp_cond_true (Aj (evb rfl e6f))<|wp_seq_k fun K5r h5r=>Af<|sV (Ac rfl) ?_
         refine Ad<|h5r _ _<|wp_ret ?_
         obtain rfl:=sj f5a9
         exact fin rfl (Res.tmp rfl Res.nil) (Ak X2l rfl)
        ·have p6a9:=zN hz0i e6f
         have f7a9:=ifN p6a9 f3r
         refine wp_cond_false (Aj (evb rfl e6f))<|wp_skip<|h0o _ _<|wp_seq_k fun K6r h6r=>Af ?_
         obtain ⟨r3d,h8a9,f9a9⟩:=Ab f7a9
         refine sc (Ae LD (by rfl)) (Cy 1 1 w7g (tbx X2l hT)  r3d h8a9) ?_
         rintro _ w6g E0aa ⟨A1aa,c2aa,A3aa,c4aa,rfl,n5aa,n6aa⟩
         refine nrm ?_
         have X7r:=xtr X2l E0aa
         obtain ⟨r4d,h7aa,f8aa⟩:=Ab f9a9
         refine sc (Ae LD (by rfl)) (Cy 3 3 w6g (tbx X7r hT)  r4d h7aa) ?_
         rintro _ w8g E3l ⟨A9aa,c0ab,A1ab,c2ab,rfl,n3ab,n4ab⟩
         refine nrm ?_
         have X8r:=xtr X7r E3l
         obtain ⟨r5c,h5ab,f6ab⟩:=Ab f8aa
         refine sc (Ae PB (by rfl)) (Lz (⟨(⟨(⟨r3d.Lo.Man.Neg,(limbs r3d.Lo.Man.Abs)⟩:AL),r3d.Lo.Exp⟩:Aq),(⟨(⟨r3d.Hi.Man.Neg,(limbs r3d.Hi.Man.Abs)⟩:AL),r3d.Hi.Exp⟩:Aq)⟩:AI) (⟨(⟨(⟨r4d.Lo.Man.Neg,(limbs r4d.Lo.Man.Abs)⟩:AL),r4d.Lo.Exp⟩:Aq),(⟨(⟨r4d.Hi.Man.Neg,(limbs r4d.Hi.Man.Abs)⟩:AL),r4d.Hi.Exp⟩:Aq)⟩:AI) 4 A1aa c2aa A3aa c4aa A9aa c0ab A1ab c2ab w8g (tbx X8r hT) (n5aa.ext E3l) (n6aa.ext E3l) n3ab n4ab r5c h5ab) ?_
         rintro _ w7e E7ab ⟨A9r,c0s,A1s,c2s,rfl,n8ab,n9ab⟩
         refine nrm ?_
         have X3s:=xtr X8r E7ab
         refine sV (Aa rfl) ?_
         refine sV (Ap rfl rfl) ?_
         refine sV (Ap rfl rfl) ?_
         refine Aw Hp fun b2an w3m E0ac g4s q1ac=>?_
         refine nrm ?_
         have g3an:=nlt X3s.size g4s
         refine Ax GJ rfl rfl q1ac rfl rfl rfl rfl (by simp only [SP0,SP1,S0,S1,Nat.reduceAdd];rfl) fun w7j U2ac q3ac=>?_
         have F4l:=belU E0ac U2ac g4s
         have X5s:=xtr X3s F4l
         refine sV (Ac rfl) ?_
         refine Ad<|h6r _ _<|wp_seq_k fun K6s h6s=>Af ?_
         obtain ⟨r5d,h4ac,f5ac⟩:=Ab f6ab
         refine sc (Ae LD (by rfl)) (Cy 1 1 w7j (tbx X5s hT)  r5d h4ac) ?_
         rintro _ w8e E1i ⟨A6ac,c7ac,A8ac,c9ac,rfl,n0ad,n1ad⟩
         refine nrm ?_
         have X7s:=xtr X5s E1i
         obtain ⟨r6d,h2ad,f3ad⟩:=Ab f5ac
         refine sc (Ae LD (by rfl)) (Cy (-1) 1 w8e (tbx X7s hT)  r6d h2ad) ?_
         rintro _ w8j E4e ⟨A4ad,c5ad,A6ad,c7ad,rfl,n8ad,n9ad⟩
         refine nrm ?_
         have X8s:=xtr X7s E4e
         obtain ⟨r2i,h0ae,f1ae⟩:=Ab f3ad
         refine sc (Ae PB (by rfl)) (Lz (⟨(⟨(⟨r5d.Lo.Man.Neg,(limbs r5d.Lo.Man.Abs)⟩:AL),r5d.Lo.Exp⟩:Aq),(⟨(⟨r5d.Hi.Man.Neg,(limbs r5d.Hi.Man.Abs)⟩:AL),r5d.Hi.Exp⟩:Aq)⟩:AI) (⟨(⟨(⟨r6d.Lo.Man.Neg,(limbs r6d.Lo.Man.Abs)⟩:AL),r6d.Lo.Exp⟩:Aq),(⟨(⟨r6d.Hi.Man.Neg,(limbs r6d.Hi.Man.Abs)⟩:AL),r6d.Hi.Exp⟩:Aq)⟩:AI) 4 A6ac c7ac A8ac c9ac A4ad c5ad A6ad c7ad w8j (tbx X8s hT) (n0ad.ext E4e) (n1ad.ext E4e) n8ad n9ad r2i h0ae) ?_
         rintro _ w9j E3i ⟨A4an,c5an,A6an,c7an,rfl,n8an,n9an⟩
         refine nrm ?_
         have X9s:=xtr X8s E3i
         refine sV (Aa rfl) ?_
         refine sV (Ap rfl rfl) ?_
         refine sV (Ap rfl rfl) ?_
         refine sV (Ac rfl) ?_
         refine Ad<|h6s _ _<|wp_seq_k fun K0t h0t=>Af ?_
         obtain ⟨r7d,h2ae,f3ae⟩:=Ab f1ae
         refine sc (Ae LD (by rfl)) (Cy 2 2 w9j (tbx X9s hT)  r7d h2ae) ?_
         rintro _ w0k E4i ⟨A4ae,c5ae,A6ae,c7ae,rfl,n8ae,n9ae⟩
         refine nrm ?_
         have X1t:=xtr X9s E4i
         obtain ⟨r3b,h0af,f1af⟩:=Ab f3ae
         refine sc (Ae en_25 (by rfl)) (c_dyad_Root (⟨(⟨(⟨r7d.Lo.Man.Neg,(limbs r7d.Lo.Man.Abs)⟩:AL),r7d.Lo.Exp⟩:Aq),(⟨(⟨r7d.Hi.Man.Neg,(limbs r7d.Hi.Man.Abs)⟩:AL),r7d.Hi.Exp⟩:Aq)⟩:AI) 4 A4ae c5ae A6ae c7ae w0k (tbx X1t hT) n8ae n9ae r3b h0af) ?_
         rintro _ w1k E5i ⟨A2t,c3t,A4t,c5t,rfl,n2af,n3af⟩
         refine nrm ?_
         have X6t:=xtr X1t E5i
         refine sV (Aa rfl) ?_
         refine sV (Ap rfl rfl) ?_
         refine sV (Ap rfl rfl) ?_
         refine Aw Hp fun b0ao w9d E4af g7t q5af=>?_
         refine nrm ?_
         have g1ao:=nlt X6t.size g7t
         refine Ax GJ rfl rfl q5af rfl rfl rfl rfl (by simp only [SP0,SP1,S0,S1,Nat.reduceAdd];rfl) fun w2k U6af q7af=>?_
         have F5e:=belU E4af U6af g7t
         have X8t:=xtr X6t F5e
         refine sV (Ac rfl) ?_
         refine Ad<|h0t _ _<|wp_seq_k fun K9t h9t=>Af ?_
         obtain ⟨r2a,h8af,f9af⟩:=Ab f1af
         refine sc (Ae JQ (by rfl)) (Br 5 (-4) w2k (tbx X8t hT)  r2a h8af) ?_
         rintro _ w4m E8d ⟨A7f,c8f,rfl,n0ag⟩
         refine nrm ?_
         have X0u:=xtr X8t E8d
         refine Aw FM fun b2ao w9g E1ag g1u q2ag=>?_
         refine nrm ?_
         have g3ao:=nlt X0u.size g1u
         refine Ax DU rfl rfl q2ag rfl rfl rfl rfl (by simp only [SP0,SP1,S0,S1,Nat.reduceAdd];rfl) fun w3k U3ag q4ag=>?_
         have F6c:=belU E1ag U3ag g1u
         have X2u:=xtr X0u F6c
         refine Ad<|h9t _ _<|wp_seq_k fun K3u h3u=>Af ?_
         obtain ⟨r3a,h5ag,f6ag⟩:=Ab f9af
         refine sc (Ae JQ (by rfl)) (Br 11 (-5) w3k (tbx X2u hT)  r3a h5ag) ?_
         rintro _ w5m E2c ⟨A9f,c0g,rfl,n7ag⟩
         refine nrm ?_
         have X4u:=xtr X2u E2c
         refine Aw FM fun b4ao w6m E8ag g5u q9ag=>?_
         refine nrm ?_
         have g5ao:=nlt X4u.size g5u
         refine Ax DU rfl rfl q9ag rfl rfl rfl rfl (by simp only [SP0,SP1,S0,S1,Nat.reduceAdd];rfl) fun w0h U0ah q1ah=>?_
         have F6b:=belU E8ag U0ah g5u
         have X6u:=xtr X4u F6b
         refine Ad<|h3u _ _<|wp_seq_k fun K7u h7u=>Af ?_
         obtain ⟨r4a,h2ah,f3ah⟩:=Ab f6ag
         refine sc (Ae JQ (by rfl)) (Br 11 (-3) w0h (tbx X6u hT)  r4a h2ah) ?_
         rintro _ w8x E4b ⟨A1g,c2g,rfl,n4ah⟩
         refine nrm ?_
         have X8u:=xtr X6u E4b
         refine Aw FM fun b6ao w7m E5ah g9u q6ah=>?_
         refine nrm ?_
         have g7ao:=nlt X8u.size g9u
         refine Ax DU rfl rfl q6ah rfl rfl rfl rfl (by simp only [SP0,SP1,S0,S1,Nat.reduceAdd];rfl) fun w1h U7ah q8ah=>?_
         have F2b:=belU E5ah U7ah g9u
         have X0v:=xtr X8u F2b
         refine Ad<|h7u _ _<|wp_seq_k fun K1v h1v=>Af ?_
         obtain ⟨r5a,h9ah,f0ai⟩:=Ab f3ah
         refine sc (Ae JQ (by rfl)) (Br 3 (-1) w1h (tbx X0v hT)  r5a h9ah) ?_
         rintro _ w8m E1b ⟨A3g,c4g,rfl,n1ai⟩
         refine nrm ?_
         have X2v:=xtr X0v E1b
         refine Aw FM fun b8ao w9x E2ai g3v q3ai=>?_
         refine nrm ?_
         have g9ao:=nlt X2v.size g3v
         refine Ax DU rfl rfl q3ai rfl rfl rfl rfl (by simp only [SP0,SP1,S0,S1,Nat.reduceAdd];rfl) fun w6i U4ai q5ai=>?_
         have F6a:=belU E2ai U4ai g3v
         have X5l:=xtr X2v F6a
         refine Ad<|h1v _ _<|wp_seq_k fun K4v h4v=>Af<|sV (Aa rfl) ?_
         refine sb (Ce rfl rfl) fun z7i hz7i=>?_
         refine nrm ?_
         refine sV (Aa rfl) ?_
         obtain ⟨m5v,h6v,f6ai⟩:=Ab f0ai
         refine Ca 6 (fun l l' w'=>∃(t7v:Value) (t8v:Value),w6i=w'∧l'=(((l.set 98 t7v).set 99 t8v).set 100 (.bool m5v))) ?_ ?_
         ·intro HJ493
          rcases bft z7i with e3c | e3c
          ·have p7ai:=zP hz7i e3c
           have f8ai:=ifP p7ai h6v
           refine sV (Aa rfl) ?_ (hw:=wgT rfl e3c)
           refine sb (Ce rfl rfl) ?_ (hw:=wgT rfl e3c)
           intro z6l hz6l
           refine nrm ?_
           refine sV (AB (evb rfl e3c) rfl) ?_
           obtain rfl:z6l=decide (r2i.2=8):=bz hz6l
           obtain rfl:=sj f8ai
           exact HJ493 _ _ ⟨(.int .i64 r2i.2),(.bool (decide (r2i.2=8))),rfl,(by simp only [S0,S1]<;>rfl)⟩
          ·have p9ai:=zN hz7i e3c
           have f0aj:=ifN p9ai h6v
           refine sP ?_ (hw:=wgF rfl e3c)
           refine sP ?_ (hw:=wgF rfl e3c)
           refine sV (AF (evb rfl e3c) rfl) ?_
           obtain rfl:=sj f0aj
           exact HJ493 _ _ ⟨uu,uu,rfl,(by simp only [S0,S1]<;>rfl)⟩
         ·rintro l' _ ⟨t7v,t8v,rfl,hq'⟩ l'' hl
          rw [hq'] at hl
          clear hq'
          simp only [S0,S1] at hl
          subst hl
          refine sV (Aa rfl) ?_
          obtain ⟨m9v,h0w,f1aj⟩:=Ab f6ai
          refine Ca 10 (fun l l' w'=>∃(t1w:Value) (t2w:Value),w6i=w'∧l'=(((l.set 102 t1w).set 103 t2w).set 104 (.bool m9v))) ?_ ?_
          ·intro HJ512
           rcases bft m5v with e4c | e4c
           ·have p2aj:=e4c
            have f3aj:=ifP p2aj h0w
            refine sV (Aa rfl) ?_ (hw:=wgT rfl e4c)
            refine sb (Ce rfl rfl) ?_ (hw:=wgT rfl e4c)
            intro z7l hz7l
            refine nrm ?_
            refine sV (AB (evb rfl e4c) rfl) ?_
            obtain rfl:z7l=decide (r3b.2=0):=bz hz7l
            obtain rfl:=sj f3aj
            exact HJ512 _ _ ⟨(.int .i64 r3b.2),(.bool (decide (r3b.2=0))),rfl,(by simp only [S0,S1]<;>rfl)⟩
           ·have p4aj:=bF e4c
            have f5aj:=ifN p4aj h0w
            refine sP ?_ (hw:=wgF rfl e4c)
            refine sP ?_ (hw:=wgF rfl e4c)
            refine sV (AF (evb rfl e4c) rfl) ?_
            obtain rfl:=sj f5aj
            exact HJ512 _ _ ⟨uu,uu,rfl,(by simp only [S0,S1]<;>rfl)⟩
          ·rintro l' _ ⟨t1w,t2w,rfl,hq'⟩ l'' hl
           rw [hq'] at hl
           clear hq'
           simp only [S0,S1] at hl
           subst hl
           refine sV (Aa rfl) ?_
           obtain ⟨m3w,h4w,f6aj⟩:=Ab f1aj
           refine Ca 17 (fun l l' w'=>∃(t5w:Value) (t6w:Value) (t7w:Value) (t8w:Value) (t9w:Value),UpdS [] w6i w'∧l'=((((((l.set 106 t5w).set 107 t6w).set 108 t7w).set 109 t8w).set 110 t9w).set 111 (.bool m3w))) ?_ ?_
           ·intro HJ545
            rcases bft m9v with e0a | e0a
            ·have p7aj:=e0a
             have f8aj:=ifP p7aj h4w
             have q9aj:=(((((((((((((q3ac.ext E1i).ext E4e).ext E3i).ext E4i).ext E5i).ext F5e).ext E8d).ext F6c).ext E2c).ext F6b).ext E4b).ext F2b).ext E1b).ext F6a
             refine sV (Am CP rfl q9aj rfl) ?_ (hw:=wgT rfl e0a)
             have q0ak:=(((((q4ag.ext E2c).ext F6b).ext E4b).ext F2b).ext E1b).ext F6a
             refine sV (Am Bk rfl q0ak rfl) ?_ (hw:=wgT rfl e0a)
             have q1ak:=(((q1ah.ext E4b).ext F2b).ext E1b).ext F6a
             refine sV (Am Bk rfl q1ak rfl) ?_ (hw:=wgT rfl e0a)
             refine sV (Bc (vals:=[(0,.agg #[.bool r2a.Man.Neg,.slice A7f (sz r2a.Man.Abs) c8f,.int .i64 r2a.Exp]),(1,.agg #[.bool r3a.Man.Neg,.slice A9f (sz r3a.Man.Abs) c0g,.int .i64 r3a.Exp])]) (cells:=[.bool r2a.Man.Neg,.slice A7f (sz r2a.Man.Abs) c8f,.int .i64 r2a.Exp,.bool r3a.Man.Neg,.slice A9f (sz r3a.Man.Abs) c0g,.int .i64 r3a.Exp]) (by rfl) (by kernel_rfl)) ?_ (hw:=wgT rfl e0a)
             have n2ak:=((((((((((((((n8ab.ext F4l).ext E1i).ext E4e).ext E3i).ext E4i).ext E5i).ext F5e).ext E8d).ext F6c).ext E2c).ext F6b).ext E4b).ext F2b).ext E1b).ext F6a
             have n3ak:=((((((((((((((n9ab.ext F4l).ext E1i).ext E4e).ext E3i).ext E4i).ext E5i).ext F5e).ext E8d).ext F6c).ext E2c).ext F6b).ext E4b).ext F2b).ext E1b).ext F6a
             have n4ak:=((((((n0ag.ext F6c).ext E2c).ext F6b).ext E4b).ext F2b).ext E1b).ext F6a
             have n5ak:=((((n7ag.ext F6b).ext E4b).ext F2b).ext E1b).ext F6a
             obtain ⟨r0x,h6ak,f7ak⟩:=Ab f8aj
             refine sc (Ae OU (by rfl)) (FL r5c.1 (⟨r2a,r3a⟩:AC) A9r c0s A1s c2s A7f c8f A9f c0g w6i (tbx X5l hT) n2ak n3ak n4ak n5ak r0x h6ak) ?_ (hw:=wgT rfl e0a)
             rintro _ w9e E8ak rfl
             refine nrm ?_
             refine sV (AB (evb rfl e0a) rfl) ?_
             obtain rfl:=sj f7ak
             exact HJ545 _ _ ⟨(.agg #[.bool r5c.1.Lo.Man.Neg,.slice A9r (sz r5c.1.Lo.Man.Abs) c0s,.int .i64 r5c.1.Lo.Exp,.bool r5c.1.Hi.Man.Neg,.slice A1s (sz r5c.1.Hi.Man.Abs) c2s,.int .i64 r5c.1.Hi.Exp]),(.agg #[.bool r2a.Man.Neg,.slice A7f (sz r2a.Man.Abs) c8f,.int .i64 r2a.Exp]),(.agg #[.bool r3a.Man.Neg,.slice A9f (sz r3a.Man.Abs) c0g,.int .i64 r3a.Exp]),(.agg #[.bool r2a.Man.Neg,.slice A7f (sz r2a.Man.Abs) c8f,.int .i64 r2a.Exp,.bool r3a.Man.Neg,.slice A9f (sz r3a.Man.Abs) c0g,.int .i64 r3a.Exp]),(.bool r0x),((UpdS.refl _ _).ext E8ak),(by simp only [S0,S1]<;>rfl)⟩
            ·have p9ak:=bF e0a
             have f0al:=ifN p9ak h4w
             refine sP ?_ (hw:=wgF rfl e0a)
             refine sP ?_ (hw:=wgF rfl e0a)
             refine sP ?_ (hw:=wgF rfl e0a)
             refine sP ?_ (hw:=wgF rfl e0a)
             refine sP ?_ (hw:=wgF rfl e0a)
             refine sV (AF (evb rfl e0a) rfl) ?_
             obtain rfl:=sj f0al
             exact HJ545 _ _ ⟨uu,uu,uu,uu,uu,(UpdS.refl _ _),(by simp only [S0,S1]<;>rfl)⟩
           ·rintro l' w9e ⟨t5w,t6w,t7w,t8w,t9w,U7c,hq'⟩ l'' hl
            rw [hq'] at hl
            clear hq'
            simp only [S0,S1] at hl
            subst hl
            have X8l:=JN X5l U7c (X5l).size al0
            refine sV (Aa rfl) ?_
            obtain ⟨m1al,h1x,f2al⟩:=Ab f6aj
            refine Ca 24 (fun l l' w'=>∃(t2x:Value) (t3x:Value) (t4x:Value) (t5x:Value) (t6x:Value),UpdS [] w9e w'∧l'=((((((l.set 113 t2x).set 114 t3x).set 115 t4x).set 116 t5x).set 117 t6x).set 118 (.bool m1al))) ?_ ?_
            ·intro HJ588
             rcases bft m3w with e1a | e1a
             ·have p3al:=e1a
              have f4al:=ifP p3al h1x
              have q5al:=((((((((q7af.ext E8d).ext F6c).ext E2c).ext F6b).ext E4b).ext F2b).ext E1b).ext F6a).updS U7c nm0
              refine sV (Am CP rfl q5al rfl) ?_ (hw:=wgT rfl e1a)
              have q6al:=((q8ah.ext E1b).ext F6a).updS U7c nm0
              refine sV (Am Bk rfl q6al rfl) ?_ (hw:=wgT rfl e1a)
              refine sV (Am Bk rfl (q5ai.updS U7c nm0) rfl) ?_ (hw:=wgT rfl e1a)
              refine sV (Bc (vals:=[(0,.agg #[.bool r4a.Man.Neg,.slice A1g (sz r4a.Man.Abs) c2g,.int .i64 r4a.Exp]),(1,.agg #[.bool r5a.Man.Neg,.slice A3g (sz r5a.Man.Abs) c4g,.int .i64 r5a.Exp])]) (cells:=[.bool r4a.Man.Neg,.slice A1g (sz r4a.Man.Abs) c2g,.int .i64 r4a.Exp,.bool r5a.Man.Neg,.slice A3g (sz r5a.Man.Abs) c4g,.int .i64 r5a.Exp]) (by rfl) (by kernel_rfl)) ?_ (hw:=wgT rfl e1a)
              have n7al:=(((((((((n2af.ext F5e).ext E8d).ext F6c).ext E2c).ext F6b).ext E4b).ext F2b).ext E1b).ext F6a).updS U7c al0
              have n8al:=(((((((((n3af.ext F5e).ext E8d).ext F6c).ext E2c).ext F6b).ext E4b).ext F2b).ext E1b).ext F6a).updS U7c al0
              have n9al:=(((n4ah.ext F2b).ext E1b).ext F6a).updS U7c al0
              obtain ⟨r7x,h0am,f1am⟩:=Ab f4al
              refine sc (Ae OU (by rfl)) (FL r3b.1 (⟨r4a,r5a⟩:AC) A2t c3t A4t c5t A1g c2g A3g c4g w9e (tbx X8l hT) n7al n8al n9al ((n1ai.ext F6a).updS U7c al0) r7x h0am) ?_ (hw:=wgT rfl e1a)
              rintro _ w4k E2am rfl
              refine nrm ?_
              refine sV (AB (evb rfl e1a) rfl) ?_
              obtain rfl:=sj f1am
              exact HJ588 _ _ ⟨(.agg #[.bool r3b.1.Lo.Man.Neg,.slice A2t (sz r3b.1.Lo.Man.Abs) c3t,.int .i64 r3b.1.Lo.Exp,.bool r3b.1.Hi.Man.Neg,.slice A4t (sz r3b.1.Hi.Man.Abs) c5t,.int .i64 r3b.1.Hi.Exp]),(.agg #[.bool r4a.Man.Neg,.slice A1g (sz r4a.Man.Abs) c2g,.int .i64 r4a.Exp]),(.agg #[.bool r5a.Man.Neg,.slice A3g (sz r5a.Man.Abs) c4g,.int .i64 r5a.Exp]),(.agg #[.bool r4a.Man.Neg,.slice A1g (sz r4a.Man.Abs) c2g,.int .i64 r4a.Exp,.bool r5a.Man.Neg,.slice A3g (sz r5a.Man.Abs) c4g,.int .i64 r5a.Exp]),(.bool r7x),((UpdS.refl _ _).ext E2am),(by simp only [S0,S1]<;>rfl)⟩
             ·have p3am:=bF e1a
              have f4am:=ifN p3am h1x
              refine sP ?_ (hw:=wgF rfl e1a)
              refine sP ?_ (hw:=wgF rfl e1a)
              refine sP ?_ (hw:=wgF rfl e1a)
              refine sP ?_ (hw:=wgF rfl e1a)
              refine sP ?_ (hw:=wgF rfl e1a)
              refine sV (AF (evb rfl e1a) rfl) ?_
              obtain rfl:=sj f4am
              exact HJ588 _ _ ⟨uu,uu,uu,uu,uu,(UpdS.refl _ _),(by simp only [S0,S1]<;>rfl)⟩
            ·rintro l' w4k ⟨t2x,t3x,t4x,t5x,t6x,U5am,hq'⟩ l'' hl
             rw [hq'] at hl
             clear hq'
             simp only [S0,S1] at hl
             subst hl
             have X6am:=JN X8l U5am (X8l).size al0
             refine sV (Ac rfl) ?_
             refine Ad<|h4v _ _<|wp_ret ?_
             obtain rfl:=sj f2al
             exact fin rfl (Res.tmp rfl Res.nil) (Ak X6am rfl)
end Go.Proofs

