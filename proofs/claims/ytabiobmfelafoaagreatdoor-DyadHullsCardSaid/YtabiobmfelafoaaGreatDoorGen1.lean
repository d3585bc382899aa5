import Derived.Test.YtabiobmfelafoaaGreatDoorGen0
namespace Go.Proofs
set_option linter.unusedVariables false
set_option linter.unusedSimpArgs false
set_option maxHeartbeats 4000000
open Go.RowKit Go.Sb Go.Proofs.Sbn
def JO (wk w:World) (b:Nat):Option Ap→Prop
 | none=>Bx w b 124 [.pointer none]
 | some r=>∃(bs:Nat) (A1:Option Addr) (c1:Nat) (A2:Option Addr) (c2:Nat),wk.heap.size≤bs∧Bx w b 124 [.pointer (some ⟨bs,0,none⟩)]∧Bx w bs 121 [.bool r.lo.m.Neg,.slice A1 (sz r.lo.m.Abs) c1,.int .i64 r.lo.e,.bool r.hi.m.Neg,.slice A2 (sz r.hi.m.Abs) c2,.int .i64 r.hi.e]∧RU w A1 c1 r.lo.m.Abs∧RU w A2 c2 r.hi.m.Abs
theorem sq_dyad_Times_1 {n0:Nat} {wk w w':World} {b:Nat} : ∀ {o:Option Ap},JO wk w b o→Quiet n0 w w'→JO wk w' b o
 | none,h,q=>Bx.quiet h q
 | some _,⟨bs,A1,c1,A2,c2,g,q1,q2,n1,n2⟩,q=>⟨bs,A1,c1,A2,c2,g,q1.quiet q,q2.quiet q,n1.quiet q,n2.quiet q⟩
theorem LD (x0:Ap) (x1:Ap) (x2:Int) (A1:Option Addr) (c2:Nat) (A4:Option Addr) (c5:Nat) (A7:Option Addr) (c8:Nat) (A9c:Option Addr) (c0d:Nat) (w:World) (hT:TB w) (n3:RU w A1 c2 x0.lo.m.Abs) (n6:RU w A4 c5 x0.hi.m.Abs) (n9:RU w A7 c8 x1.lo.m.Abs) (n8k:RU w A9c c0d x1.hi.m.Abs) (r:Except Int (Al)) (hr:Ke x0 x1 x2=some r) :
  Calls Tryz.prog 116 #[.agg #[.bool x0.lo.m.Neg,.slice A1 (sz x0.lo.m.Abs) c2,.int .i64 x0.lo.e,.bool x0.hi.m.Neg,.slice A4 (sz x0.hi.m.Abs) c5,.int .i64 x0.hi.e],.agg #[.bool x1.lo.m.Neg,.slice A7 (sz x1.lo.m.Abs) c8,.int .i64 x1.lo.e,.bool x1.hi.m.Neg,.slice A9c (sz x1.hi.m.Abs) c0d,.int .i64 x1.hi.e],.int .i64 x2] w (RetE 201 KA w r):=by
 unfold Ke at hr
 refine Pk Tryz.func116 rfl [.agg #[.bool x0.lo.m.Neg,.slice A1 (sz x0.lo.m.Abs) c2,.int .i64 x0.lo.e,.bool x0.hi.m.Neg,.slice A4 (sz x0.hi.m.Abs) c5,.int .i64 x0.hi.e],.agg #[.bool x1.lo.m.Neg,.slice A7 (sz x1.lo.m.Abs) c8,.int .i64 x1.lo.e,.bool x1.hi.m.Neg,.slice A9c (sz x1.hi.m.Abs) c0d,.int .i64 x1.hi.e],.int .i64 x2,uu,uu,uu,uu,uu,uu,uu,uu,uu,uu,uu,uu,uu,uu,uu,uu,uu,uu,uu,uu,uu,uu,uu,uu,uu,uu,uu,uu,uu,uu,uu,uu,uu,uu,uu,uu,uu,uu,uu,uu,uu,uu,uu,uu,uu,uu,uu,uu,uu,uu] (by simp [Tryz.ntmps116]) ?_
 refine wp_seq_k fun _ h2s=>Af<|Bm rfl rfl fun b3i w1 E9k g2a6 q3s=>?_
 refine nrm ?_
 refine Bm rfl rfl fun b4i w2 E0l g4s q5i=>?_
 refine nrm ?_
 have g3a6:=nlt E9k.size g4s
 have X1l:=xtr E9k E0l
 refine Ax Cv fun b6i w3 E9e g5s q6s=>?_
 refine nrm ?_
 have g7s:=nlt X1l.size g5s
 have X2l:=xtr X1l E9e
 refine wh h2s<|wp_seq_k fun _ h8s=>Af<|Ax QK fun b3l w4 E1e g9s q0t=>?_
 refine nrm ?_
 have g1t:=nlt X2l.size g9s
 have X7i:=xtr X2l E1e
 refine wh h8s<|wp_seq_k fun _ h2t=>wp_seq_k fun _ h3t=>Af<|have q8i:=((q3s.ext E0l).ext E9e).ext E1e;sV2 (Am Kz rfl q8i rfl) (Am Kz rfl ((q5i.ext E9e).ext E1e) rfl) ?_
 refine scc (by rfl) (Ad QO rfl) (Lk (.bool x0.lo.m.Neg:Value) (.slice A1 (sz x0.lo.m.Abs) c2:Value) (.int .i64 x0.lo.e:Value) (.bool x0.hi.m.Neg:Value) (.slice A4 (sz x0.hi.m.Abs) c5:Value) (.int .i64 x0.hi.e:Value) (.bool x1.lo.m.Neg:Value) (.slice A7 (sz x1.lo.m.Abs) c8:Value) (.int .i64 x1.lo.e:Value) (.bool x1.hi.m.Neg:Value) (.slice A9c (sz x1.hi.m.Abs) c0d:Value) (.int .i64 x1.hi.e:Value) w4) fun b2g b3g w5 E7d g4t g5t ne4a6 q4l q5l=>nrm ?_
 have g5a6:=nlt X7i.size g4t
 have g6a6:=nlt X7i.size g5t
 have X9i:=xtr X7i E7d
 refine wh h3t ?_
 apply wp_block
 obtain ⟨s6l,h7l,f6t⟩:=Ac hr
 obtain ⟨s0j,h7t,f8t⟩:=Ac f6t
 obtain ⟨s1j,h9t,f0u⟩:=Ac f8t
 obtain ⟨s2j,h1u,f2u⟩:=Ac f0u
 obtain ⟨o3j,hO⟩:∃o:Nat→Option Ap,o=(fun i:Nat=>match i with | 0=>none | 1=>some s6l | 2=>some s0j | 3=>some s1j | _=>some s2j):=⟨_,rfl⟩
 have hall3u:∀i,1≤i→i<4→∃(sr:Ap) (x y:An) (AX:Option Addr) (cX:Nat) (AY:Option Addr) (cY:Nat) (s':Ap),(encs (.bool x0.lo.m.Neg:Value) (.slice A1 (sz x0.lo.m.Abs) c2:Value) (.int .i64 x0.lo.e:Value) (.bool x0.hi.m.Neg:Value) (.slice A4 (sz x0.hi.m.Abs) c5:Value) (.int .i64 x0.hi.e:Value) (.bool x1.lo.m.Neg:Value) (.slice A7 (sz x1.lo.m.Abs) c8:Value) (.int .i64 x1.lo.e:Value) (.bool x1.hi.m.Neg:Value) (.slice A9c (sz x1.hi.m.Abs) c0d:Value) (.int .i64 x1.hi.e:Value)) i = #[.agg #[.bool x.m.Neg,.slice AX (sz x.m.Abs) cX,.int .i64 x.e],.agg #[.bool y.m.Neg,.slice AY (sz y.m.Abs) cY,.int .i64 y.e]]∧RU w AX cX x.m.Abs∧RU w AY cY y.m.Abs∧o3j i=some sr∧o3j (i+1)=some s'∧Hp x0 x1 x2 sr x y=some s':=by
  subst hO
  rintro (_ | _ | _ | _ | i) h h'
  ·omega
  ·exact ⟨s6l,x0.lo,x1.hi,_,_,_,_,s0j,rfl,n3,n8k,rfl,rfl,h7t⟩
  ·exact ⟨s0j,x0.hi,x1.lo,_,_,_,_,s1j,rfl,n6,n9,rfl,rfl,h9t⟩
  ·exact ⟨s1j,x0.hi,x1.hi,_,_,_,_,s2j,rfl,n6,n8k,rfl,rfl,h1u⟩
  ·omega
 refine rf (N:=4) (n0:=w.heap.size) (encs:=(encs (.bool x0.lo.m.Neg:Value) (.slice A1 (sz x0.lo.m.Abs) c2:Value) (.int .i64 x0.lo.e:Value) (.bool x0.hi.m.Neg:Value) (.slice A4 (sz x0.hi.m.Abs) c5:Value) (.int .i64 x0.hi.e:Value) (.bool x1.lo.m.Neg:Value) (.slice A7 (sz x1.lo.m.Abs) c8:Value) (.int .i64 x1.lo.e:Value) (.bool x1.hi.m.Neg:Value) (.slice A9c (sz x1.hi.m.Abs) c0d:Value) (.int .i64 x1.hi.e:Value))) (I:=fun i w'=>Ext w w'∧w5.heap.size≤w'.heap.size∧Bx w' b3i 121 [.bool x0.lo.m.Neg,.slice A1 (sz x0.lo.m.Abs) c2,.int .i64 x0.lo.e,.bool x0.hi.m.Neg,.slice A4 (sz x0.hi.m.Abs) c5,.int .i64 x0.hi.e]∧Bx w' b4i 121 [.bool x1.lo.m.Neg,.slice A7 (sz x1.lo.m.Abs) c8,.int .i64 x1.lo.e,.bool x1.hi.m.Neg,.slice A9c (sz x1.hi.m.Abs) c0d,.int .i64 x1.hi.e]∧Bx w' b6i 29 [.bool false,.slice none 0 0,.int .i64 0,.bool false,.slice none 0 0,.int .i64 0]∧Bx w' b2g 121 [.bool x0.lo.m.Neg,.slice A1 (sz x0.lo.m.Abs) c2,.int .i64 x0.lo.e,.bool x0.hi.m.Neg,.slice A4 (sz x0.hi.m.Abs) c5,.int .i64 x0.hi.e]∧Bx w' b3g 121 [.bool x1.lo.m.Neg,.slice A7 (sz x1.lo.m.Abs) c8,.int .i64 x1.lo.e,.bool x1.hi.m.Neg,.slice A9c (sz x1.hi.m.Abs) c0d,.int .i64 x1.hi.e]∧JO w5 w' b3l (o3j i)) rfl Rn X9i.size (QD (.bool x0.lo.m.Neg:Value) (.slice A1 (sz x0.lo.m.Abs) c2:Value) (.int .i64 x0.lo.e:Value) (.bool x0.hi.m.Neg:Value) (.slice A4 (sz x0.hi.m.Abs) c5:Value) (.int .i64 x0.hi.e:Value) (.bool x1.lo.m.Neg:Value) (.slice A7 (sz x1.lo.m.Abs) c8:Value) (.int .i64 x1.lo.e:Value) (.bool x1.hi.m.Neg:Value) (.slice A9c (sz x1.hi.m.Abs) c0d:Value) (.int .i64 x1.hi.e:Value) b2g b3g _ (by rintro i W ⟨_,_,_,_,_,qa,qb,_⟩;exact ⟨qa,qb⟩)) (by rintro (_ | _ | _ | _)<;>rfl) ?_ ?_ ?_ ?_
 ·rintro i W W' ⟨hX,hK,q_b3i,q_b4i,q_b6i,q_b2g,q_b3g,hS⟩ hq
  exact ⟨belQ hX hq hX.size,nlt hK hq.size,q_b3i.quiet hq,q_b4i.quiet hq,q_b6i.quiet hq,q_b2g.quiet hq,q_b3g.quiet hq,sq_dyad_Times_1 hS hq⟩
 ·subst hO
  have q4u:=((q5i.ext E9e).ext E1e).ext E7d
  exact ⟨X9i,Nat.le_refl _,(q8i.ext E7d),q4u,((q6s.ext E1e).ext E7d),q4l,q5l,(q0t.ext E7d)⟩
 ·intro l i w0f hi hI
  obtain ⟨hX,hK,q1f,q2f,q7c,q3f,q4f,hS⟩:=hI
  rcases Nat.eq_zero_or_pos i with rfl | hpos
  ·subst hO
   skip
   have q5f:Bx w0f b3l 124 [.pointer none]:=hS
   unfold KZ at h7l
   refine Lu (actPQ rfl (by simp only [S0,S1];rfl)) ?_
   refine wpIn_seq_k fun _ h5u=>IL (by rfl) (fun ⟨_,_,h⟩=>h)<|Ax Bn fun b7a6 w4j E6u g8l q7u=>?_
   refine nrm ?_
   have g8a6:=nlt (nlt hX.size (Rd.refl w.heap.size w0f).size) g8l
   refine ss BO q7u fun w0b U8u q9u=>?_
   have F6b:=belU E6u U8u g8l
   have X9l:=(Rd.refl w.heap.size w0f).ext F6b
   refine wh h5u<|IL (by rfl) (fun ⟨_,_,h⟩=>h)<|Ax Bn fun b9a6 w1b E0v g0m q1v=>?_
   refine nrm ?_
   have g0a7:=nlt (nlt hX.size X9l.size) g0m
   refine ss BO q1v fun w2b U2v q3v=>?_
   have F3b:=belU E0v U2v g0m
   have X2e:=X9l.ext F3b
   refine AK ?_
   refine ⟨X2e,?_⟩
   intro w1d hq
   refine have hE1:=belR hX X2e hX.size;have hE2:=belQ hE1 hq hE1.size;wpIn_block<|wpIn_seq_k fun _ h4v=>IL (by rfl) (fun ⟨_,_,h⟩=>h)<|sV2 (Am Aw rfl ((q9u.ext F3b).quiet hq) rfl) (Am Aw rfl (q3v.quiet hq) rfl) ?_
   have n5v:=(((n3.ext hX).ext F6b).ext F3b).quiet hq
   have n6v:=(((n9.ext hX).ext F6b).ext F3b).quiet hq
   refine scn h7l (Ad Oi (by rfl)) (Ii x0.lo x1.lo A1 c2 A7 c8 w1d (tbx (belR hE2 (Rd.refl w.heap.size w1d) hE2.size) hT) n5v n6v) fun r0a f4j w4g A1b c2b E0b n1d=>?_
   have X4g:=(Rd.refl w.heap.size w1d).ext E0b
   refine Ax Bn fun b1m w1m E5g g6f q6g=>?_
   refine nrm ?_
   have g7g:=nlt (nlt (nlt (nlt hX.size X2e.size) hq.size) X4g.size) g6f
   refine ss BO q6g fun w5g U3e q1c=>?_
   have F8a:=belU E5g U3e g6f
   have X8g:=X4g.ext F8a
   refine wh h4v<|wpIn_seq_k fun _ h7v=>wpIn_seq_k fun _ h8v=>IL (by rfl) (fun ⟨_,_,h⟩=>h)<|have q4c:=((((q5f.ext F6b).ext F3b).quiet hq).ext E0b).ext F8a;sV2 (Ai Gp rfl (Bx.cell q4c rfl)) (Rs OF rfl) ?_
   refine wh h8v<|wpIn_cond_true (Ak (evb rfl rfl))<|IL (by rfl) (fun ⟨_,_,h⟩=>h)<|sV3 (Am Aw rfl q1c rfl) (Am Aw rfl q1c rfl) (Bb (vals:=[(0,.agg #[.bool r0a.m.Neg,.slice A1b (sz r0a.m.Abs) c2b,.int .i64 r0a.e]),(1,.agg #[.bool r0a.m.Neg,.slice A1b (sz r0a.m.Abs) c2b,.int .i64 r0a.e])]) (cells:=[.bool r0a.m.Neg,.slice A1b (sz r0a.m.Abs) c2b,.int .i64 r0a.e,.bool r0a.m.Neg,.slice A1b (sz r0a.m.Abs) c2b,.int .i64 r0a.e]) (by rfl) (by kernel_rfl)) ?_
   refine Bm rfl rfl fun b5c w6f E2a g4e q4d=>?_
   refine nrm ?_
   have g2m:=nlt (nlt (nlt (nlt hX.size X2e.size) hq.size) X8g.size) g4e
   have X9v:=X8g.ext E2a
   refine ss Qz (q4c.ext E2a) fun w6g U4b q7f=>?_
   have X0w:=X9v.upd U4b g1t (q4c.ext E2a)
   refine wh h7v<|wpIn_seq_k fun _ h1w=>wpIn_seq_k fun _ h2w=>NM (by rfl) (fun ⟨_,_,h⟩=>h) [] 7 mo rfl fun w7g E4a S9g=>have X3m:=X0w.ext E4a;have ne8f:=(Bx.neT (q1c.ext E2a) (q4c.ext E2a) (by decide));dV 0 rfl (fun _ hw=>Am Aw rfl ((((q1c.ext E2a).upd U4b ne8f).ext E4a).ext hw) rfl) S9g ?_
   refine dV 1 rfl (fun _ hw=>Ai Gp rfl (Bx.cell ((q7f.ext E4a).ext hw) rfl)) S9g ?_
   refine dA 2 rfl (fun _=>Bv rfl) ?_
   refine dA 3 rfl (fun _=>Ah (o':=0) Cl rfl rfl) ?_
   have ne6c:=(Bx.neT q4d (q4c.ext E2a) (by decide))
   refine dV 4 rfl (fun _ hw=>dld Aw (((q4d.upd U4b ne6c).ext E4a).ext hw)) S9g ?_
   have n5j:=(((n1d.ext F8a).ext E2a).upd U4b (q4c.ext E2a) (by decide)).ext E4a
   refine dcr f4j 5 rfl (by rfl) (Ad HJ (by rfl)) (BN r0a r0a A1b c2b A1b c2b w7g (tbx (belR hE2 X3m hE2.size) hT) n5j n5j) fun r1a7 f3w w9f E5a=>?_
   have X4w:=X3m.ext E5a
   have S2a7:=S9g.trans E5a
   refine dab 6 rfl (by kernel_rfl) (fun _ _ _ h=>h) (by rfl) (fun _=>Cn rfl rfl) fun z4m hz4m=>?_
   refine dnrm ?_
   refine CE (by kernel_rfl) ?_
   refine h2w _ _ ?_
   obtain ⟨m3a7,h5w,f6w⟩:=Ac f3w
   refine LK (fun l l' w'=>∃(t5m:Value) (t6m:Value) (t7m:Value) (t8m:Value),UpdS [b5c] w9f w'∧Bx w' b5c 121 [.bool r0a.m.Neg,.slice A1b (sz r0a.m.Abs) c2b,.int .i64 r0a.e,.bool r0a.m.Neg,.slice A1b (sz r0a.m.Abs) c2b,.int .i64 r0a.e]∧l'=((((l.set 32 t5m).set 33 t6m).set 34 t7m).set 35 t8m)) ?_ ?_
   ·rcases zi hz4m h5w with ⟨e6j,_,f7w⟩ | ⟨e6j,_,f8w⟩
    ·refine wpIn_cond_true (Ak (evb rfl e6j))<|IL (by rfl) (fun ⟨_,_,h⟩=>h)<|sV (Ai Gp rfl (Bx.cell ((q7f.ext E4a).ext E5a) rfl)) ?_
     have q9w:=(((q1c.ext E2a).upd U4b ne8f).ext E4a).ext E5a
     refine sV3 (Am Aw rfl q9w rfl) (Bv rfl) (Ah (o':=0) Cl rfl rfl) ?_
     have q0x:=((q4d.upd U4b ne6c).ext E4a).ext E5a
     refine ss BO q0x fun w3e U1x q2x=>?_
     refine AK ?_
     obtain rfl:=sj f7w
     exact ⟨_,rfl,(.pointer (some ⟨b5c,0,none⟩)),(.agg #[.bool r0a.m.Neg,.slice A1b (sz r0a.m.Abs) c2b,.int .i64 r0a.e]),(.pointer (some ⟨b5c,0,none⟩)),(.pointer (some ⟨b5c,0,none⟩)),((UpdS.refl _ _).upd U1x (.inl im0)),q2x,(by kernel_rfl)⟩
    ·refine wpIn_cond_false (Ak (evb rfl e6j))<|wpIn_skip ?_
     have q3x:=((q4d.upd U4b ne6c).ext E4a).ext E5a
     obtain rfl:=sj f8w
     exact ⟨_,rfl,uu,uu,uu,uu,(UpdS.refl _ _),q3x,(by kernel_rfl)⟩
   ·rintro l' w3e ⟨t5m,t6m,t7m,t8m,U3c,q0g,hq'⟩ l'' hl
    rw [hq'] at hl
    clear hq'
    simp only [S0,S1] at hl
    subst hl
    have X4x:=X4w.updS U3c (alc ⟨g2m,_,_,((q4d.upd U4b ne6c).ext E4a).ext E5a⟩ al0)
    refine h1w _ _<|wpIn_seq_k fun _ h5x=>NM (by rfl) (fun ⟨_,_,h⟩=>h) [] 7 mo rfl fun w1c E9b S0h=>have X9m:=X4x.ext E9b;have ne0n:=(Bx.neT ((((q1c.ext E2a).upd U4b ne8f).ext E4a).ext E5a) (((q4d.upd U4b ne6c).ext E4a).ext E5a) (by decide));dV 0 rfl (fun _ hw=>Am Aw rfl (((((((q1c.ext E2a).upd U4b ne8f).ext E4a).ext E5a).updS U3c (nmc ne0n nm0)).ext E9b).ext hw) rfl) S0h ?_
    refine dV 1 rfl (fun _ hw=>Ai Gp rfl (Bx.cell (((((q7f.ext E4a).ext E5a).updS U3c (nmc (Ne.symm ne6c) nm0)).ext E9b).ext hw) rfl)) S0h ?_
    refine dA 2 rfl (fun _=>Bv rfl) ?_
    refine dA 3 rfl (fun _=>Ah (o':=3) Cw rfl rfl) ?_
    refine dV 4 rfl (fun _ hw=>dld Aw ((q0g.ext E9b).ext hw)) S0h ?_
    have n7j:RU w1c A1b c2b r0a.m.Abs:=((n5j.ext E5a).updS U3c (alc ⟨_,_,by decide,((q4d.upd U4b ne6c).ext E4a).ext E5a⟩ al0)).ext E9b
    refine dcr f6w 5 rfl (by rfl) (Ad HJ (by rfl)) (BN r0a r0a A1b c2b A1b c2b w1c (tbx (belR hE2 X9m hE2.size) hT) n7j n7j) fun r4a7 f6x w8g E0c=>?_
    have X7x:=X9m.ext E0c
    have S5a7:=S0h.trans E0c
    refine dab 6 rfl (by kernel_rfl) (fun _ _ _ h=>h) (by rfl) (fun _=>Gm rfl rfl) fun z1n hz1n=>?_
    refine dnrm ?_
    refine CE (by kernel_rfl) ?_
    refine h5x _ _ ?_
    obtain ⟨m6a7,h1h,f2h⟩:=Ac f6x
    refine LK (fun l l' w'=>∃(t8j:Value) (t2n:Value) (t3n:Value) (t4n:Value),UpdS [b5c] w8g w'∧Bx w' b5c 121 [.bool r0a.m.Neg,.slice A1b (sz r0a.m.Abs) c2b,.int .i64 r0a.e,.bool r0a.m.Neg,.slice A1b (sz r0a.m.Abs) c2b,.int .i64 r0a.e]∧l'=((((l.set 43 t8j).set 44 t2n).set 45 t3n).set 46 t4n)) ?_ ?_
    ·rcases zi hz1n h1h with ⟨e9j,_,f8x⟩ | ⟨e9j,_,f9x⟩
     ·refine wpIn_cond_true (Ak (evb rfl e9j))<|IL (by rfl) (fun ⟨_,_,h⟩=>h)<|have q0y:=((((q7f.ext E4a).ext E5a).updS U3c (nmc (Ne.symm ne6c) nm0)).ext E9b).ext E0c;sV (Ai Gp rfl (Bx.cell q0y rfl)) ?_
      have q1y:=((((((q1c.ext E2a).upd U4b ne8f).ext E4a).ext E5a).updS U3c (nmc ne0n nm0)).ext E9b).ext E0c
      refine sV3 (Am Aw rfl q1y rfl) (Bv rfl) (Ah (o':=3) Cw rfl rfl) ?_
      refine ss BO ((q0g.ext E9b).ext E0c) fun w8a U2y q3y=>?_
      refine AK ?_
      obtain rfl:=sj f8x
      exact ⟨_,rfl,(.pointer (some ⟨b5c,0,none⟩)),(.agg #[.bool r0a.m.Neg,.slice A1b (sz r0a.m.Abs) c2b,.int .i64 r0a.e]),(.pointer (some ⟨b5c,0,none⟩)),(.pointer (some ⟨b5c,3,none⟩)),((UpdS.refl _ _).upd U2y (.inl im0)),q3y,(by kernel_rfl)⟩
     ·refine wpIn_cond_false (Ak (evb rfl e9j))<|wpIn_skip ?_
      obtain rfl:=sj f9x
      exact ⟨_,rfl,uu,uu,uu,uu,(UpdS.refl _ _),((q0g.ext E9b).ext E0c),(by kernel_rfl)⟩
    ·rintro l' w8a ⟨t8j,t2n,t3n,t4n,U8c,q4y,hq'⟩ l'' hl
     rw [hq'] at hl
     clear hq'
     simp only [S0,S1] at hl
     subst hl
     have X0k:=X7x.updS U8c (alc ⟨g2m,_,_,(q0g.ext E9b).ext E0c⟩ al0)
     have hE3:=belR hE2 X0k hE2.size
     have ne5y:=(Bx.neT ((((((q1f.ext F6b).ext F3b).quiet hq).ext E0b).ext F8a).ext E2a) (q4c.ext E2a) (by decide))
     have ne5n:=(Bx.ne (((((q1f.ext F6b).ext F3b).quiet hq).ext E0b).ext F8a) g4e)
     have q6y:=((((((((((((q1f.ext F6b).ext F3b).quiet hq).ext E0b).ext F8a).ext E2a).upd U4b ne5y).ext E4a).ext E5a).updS U3c (nmc ne5n nm0)).ext E9b).ext E0c).updS U8c (nmc ne5n nm0)
     have ne7y:=(Bx.neT ((((((q2f.ext F6b).ext F3b).quiet hq).ext E0b).ext F8a).ext E2a) (q4c.ext E2a) (by decide))
     have ne6n:=(Bx.ne (((((q2f.ext F6b).ext F3b).quiet hq).ext E0b).ext F8a) g4e)
     have q8y:=((((((((((((q2f.ext F6b).ext F3b).quiet hq).ext E0b).ext F8a).ext E2a).upd U4b ne7y).ext E4a).ext E5a).updS U3c (nmc ne6n nm0)).ext E9b).ext E0c).updS U8c (nmc ne6n nm0)
     have ne7n:=(Bx.neT ((((((q7c.ext F6b).ext F3b).quiet hq).ext E0b).ext F8a).ext E2a) (q4c.ext E2a) (by decide))
     have ne8n:=(Bx.neT (((((((((q7c.ext F6b).ext F3b).quiet hq).ext E0b).ext F8a).ext E2a).upd U4b ne7n).ext E4a).ext E5a) (((q4d.upd U4b ne6c).ext E4a).ext E5a) (by decide))
     have q9y:=((((((((((((q7c.ext F6b).ext F3b).quiet hq).ext E0b).ext F8a).ext E2a).upd U4b ne7n).ext E4a).ext E5a).updS U3c (nmc ne8n nm0)).ext E9b).ext E0c).updS U8c (nmc ne8n nm0)
     have ne0z:=(Bx.neT ((((((q3f.ext F6b).ext F3b).quiet hq).ext E0b).ext F8a).ext E2a) (q4c.ext E2a) (by decide))
     have ne9n:=(Bx.ne (((((q3f.ext F6b).ext F3b).quiet hq).ext E0b).ext F8a) g4e)
     have q1z:=((((((((((((q3f.ext F6b).ext F3b).quiet hq).ext E0b).ext F8a).ext E2a).upd U4b ne0z).ext E4a).ext E5a).updS U3c (nmc ne9n nm0)).ext E9b).ext E0c).updS U8c (nmc ne9n nm0)
     have ne2z:=(Bx.neT ((((((q4f.ext F6b).ext F3b).quiet hq).ext E0b).ext F8a).ext E2a) (q4c.ext E2a) (by decide))
     have ne0o:=(Bx.ne (((((q4f.ext F6b).ext F3b).quiet hq).ext E0b).ext F8a) g4e)
     have q3z:=((((((((((((q4f.ext F6b).ext F3b).quiet hq).ext E0b).ext F8a).ext E2a).upd U4b ne2z).ext E4a).ext E5a).updS U3c (nmc ne0o nm0)).ext E9b).ext E0c).updS U8c (nmc ne0o nm0)
     have q4z:=(((((q7f.ext E4a).ext E5a).updS U3c (nmc (Ne.symm ne6c) nm0)).ext E9b).ext E0c).updS U8c (nmc (Ne.symm ne6c) nm0)
     have n1o:RU w8a A1b c2b r0a.m.Abs:=(n7j.ext E0c).updS U8c (alc ⟨_,_,by decide,(q0g.ext E9b).ext E0c⟩ al0)
     obtain rfl:=sj f2h
     exact ⟨X0k,hE3,nlt (nlt (nlt hK X2e.size) hq.size) X0k.size,q6y,q8y,q9y,q1z,q3z,⟨b5c,A1b,c2b,A1b,c2b,(nlt (nlt (nlt (nlt (nlt (nlt hK X2e.size) hq.size) E0b.size) E5g.size) (Nat.le_of_eq U3e.size.symm)) g4e),q4z,q4y,n1o,n1o⟩⟩
  ·obtain ⟨sr,x,y,AX,cX,AY,cY,s',he,nx,ny,ho,ho',hr1⟩:=hall3u i hpos hi
   rw [ho] at hS
   obtain ⟨bs,AS,cS,AT,cT,gbs,q5f,qs,n5,n6⟩:=hS
   unfold Hp at hr1
   have g00:w.heap.size≤bs:=nlt X9i.size gbs
   refine Lu (actPQ he (by simp only [S0,S1];rfl)) ?_
   refine wpIn_seq_k fun _ h5z=>IL (by rfl) (fun ⟨_,_,h⟩=>h)<|Ax Bn fun b7a7 w4j E6z g2o q7z=>?_
   refine nrm ?_
   have g8a7:=nlt (nlt hX.size (Rd.refl w.heap.size w0f).size) g2o
   refine ss BO q7z fun w0b U8z q9z=>?_
   have F9a:=belU E6z U8z g2o
   have X3o:=(Rd.refl w.heap.size w0f).ext F9a
   refine wh h5z<|IL (by rfl) (fun ⟨_,_,h⟩=>h)<|Ax Bn fun b9a7 w1b E0a0 g4o q1a0=>?_
   refine nrm ?_
   have g0a8:=nlt (nlt hX.size X3o.size) g4o
   refine ss BO q1a0 fun w2b U2a0 q3a0=>?_
   have F6a:=belU E0a0 U2a0 g4o
   have X3h:=X3o.ext F6a
   refine AK ?_
   refine ⟨X3h,?_⟩
   intro w1d hq
   refine have hE1:=belR hX X3h hX.size;have hE2:=belQ hE1 hq hE1.size;wpIn_block<|wpIn_seq_k fun _ h4a0=>IL (by rfl) (fun ⟨_,_,h⟩=>h)<|sV2 (Am Aw rfl ((q9z.ext F6a).quiet hq) rfl) (Am Aw rfl (q3a0.quiet hq) rfl) ?_
   have n5a0:=(((nx.ext hX).ext F9a).ext F6a).quiet hq
   have n6a0:=(((ny.ext hX).ext F9a).ext F6a).quiet hq
   refine scn hr1 (Ad Oi (by rfl)) (Ii x y AX cX AY cY w1d (tbx (belR hE2 (Rd.refl w.heap.size w1d) hE2.size) hT) n5a0 n6a0) fun r2d f7a0 w4g A8d c9d E7b n1k=>?_
   have X5o:=(Rd.refl w.heap.size w1d).ext E7b
   refine Ax Bn fun b1a8 w1m E8a0 g6o q9a0=>?_
   refine nrm ?_
   have g2a8:=nlt (nlt (nlt (nlt hX.size X3h.size) hq.size) X5o.size) g6o
   refine ss BO q9a0 fun w5g U0a1 q1g=>?_
   have F7a:=belU E8a0 U0a1 g6o
   have X1a1:=X5o.ext F7a
   refine wh h4a0<|wpIn_seq_k fun _ h2a1=>wpIn_seq_k fun _ h3a1=>IL (by rfl) (fun ⟨_,_,h⟩=>h)<|have q0e:=((((q5f.ext F9a).ext F6a).quiet hq).ext E7b).ext F7a;sV2 (Ai Gp rfl (Bx.cell q0e rfl)) (RT OF rfl) ?_
   refine wh h3a1<|wpIn_cond_false (Ak (evb rfl rfl))<|wpIn_skip<|h2a1 _ _<|wpIn_seq_k fun _ h4a1=>wpIn_seq_k fun _ h5a1=>NM (by rfl) (fun ⟨_,_,h⟩=>h) [] 7 mo rfl fun w6f E1a S4h=>have X7o:=X1a1.ext E1a;dV 0 rfl (fun _ hw=>Am Aw rfl ((q1g.ext E1a).ext hw) rfl) S4h ?_
   refine dV 1 rfl (fun _ hw=>Ai Gp rfl (Bx.cell ((q0e.ext E1a).ext hw) rfl)) S4h ?_
   refine dA 2 rfl (fun _=>Bv rfl) ?_
   refine dA 3 rfl (fun _=>Ah (o':=0) Cl rfl rfl) ?_
   refine dV 4 rfl (fun _ hw=>dld Aw (((((((qs.ext F9a).ext F6a).quiet hq).ext E7b).ext F7a).ext E1a).ext hw)) S4h ?_
   have n8o:=(((((n5.ext F9a).ext F6a).quiet hq).ext E7b).ext F7a).ext E1a
   refine dcr f7a0 5 rfl (by rfl) (Ad HJ (by rfl)) (BN r2d sr.lo A8d c9d AS cS w6f (tbx (belR hE2 X7o hE2.size) hT) ((n1k.ext F7a).ext E1a) n8o) fun r3a8 f6a1 w6g E3a=>?_
   have X7a1:=X7o.ext E3a
   have S4a8:=S4h.trans E3a
   refine dab 6 rfl (by kernel_rfl) (fun _ _ _ h=>h) (by rfl) (fun _=>Cn rfl rfl) fun z9o hz9o=>?_
   refine dnrm ?_
   refine CE (by kernel_rfl) ?_
   refine h5a1 _ _ ?_
   obtain ⟨m5d,h8a1,f9a1⟩:=Ac f6a1
   refine LK (fun l l' w'=>∃(t0p:Value) (t1p:Value) (t2p:Value) (t3p:Value) (A5e:Option Addr) (c6e:Nat),UpdS [bs] w6g w'∧Bx w' bs 121 [.bool m5d.1,.slice A5e (sz m5d.2.1) c6e,.int .i64 m5d.2.2,.bool sr.hi.m.Neg,.slice AT (sz sr.hi.m.Abs) cT,.int .i64 sr.hi.e]∧RU w' A5e c6e m5d.2.1∧l'=((((l.set 32 t0p).set 33 t1p).set 34 t2p).set 35 t3p)) ?_ ?_
   ·rcases zi hz9o h8a1 with ⟨e2k,_,f0a2⟩ | ⟨e2k,_,f1a2⟩
    ·refine wpIn_cond_true (Ak (evb rfl e2k))<|IL (by rfl) (fun ⟨_,_,h⟩=>h)<|sV3 (Ai Gp rfl (Bx.cell ((q0e.ext E1a).ext E3a) rfl)) (Am Aw rfl ((q1g.ext E1a).ext E3a) rfl) (Bv rfl) ?_
     refine sV (Ah (o':=0) Cl rfl rfl) ?_
     have q4p:=((((((qs.ext F9a).ext F6a).quiet hq).ext E7b).ext F7a).ext E1a).ext E3a
     refine ss BO q4p fun w7g U5p q2a2=>?_
     refine AK ?_
     have n3a2:=(((n1k.ext F7a).ext E1a).ext E3a).upd U5p q4p (by decide)
     obtain rfl:=sj f0a2
     exact ⟨_,rfl,(.pointer (some ⟨bs,0,none⟩)),(.agg #[.bool r2d.m.Neg,.slice A8d (sz r2d.m.Abs) c9d,.int .i64 r2d.e]),(.pointer (some ⟨bs,0,none⟩)),(.pointer (some ⟨bs,0,none⟩)),A8d,c9d,((UpdS.refl _ _).upd U5p (.inl im0)),q2a2,n3a2,(by kernel_rfl)⟩
    ·refine wpIn_cond_false (Ak (evb rfl e2k))<|wpIn_skip ?_
     have q4a2:=((((((qs.ext F9a).ext F6a).quiet hq).ext E7b).ext F7a).ext E1a).ext E3a
     obtain rfl:=sj f1a2
     exact ⟨_,rfl,uu,uu,uu,uu,AS,cS,(UpdS.refl _ _),q4a2,(n8o.ext E3a),(by kernel_rfl)⟩
   ·rintro l' w7g ⟨t0p,t1p,t2p,t3p,A5e,c6e,U2c,q7e,n5a2,hq'⟩ l'' hl
    rw [hq'] at hl
    clear hq'
    simp only [S0,S1] at hl
    subst hl
    have X6a2:=X7a1.updS U2c (alc ⟨g00,_,_,((((((qs.ext F9a).ext F6a).quiet hq).ext E7b).ext F7a).ext E1a).ext E3a⟩ al0)
    refine h4a1 _ _<|wpIn_seq_k fun _ h7a2=>NM (by rfl) (fun ⟨_,_,h⟩=>h) [] 7 mo rfl fun w9f E5b S5h=>have X6p:=X6a2.ext E5b;have ne7p:=(Bx.neT ((q1g.ext E1a).ext E3a) (((((((qs.ext F9a).ext F6a).quiet hq).ext E7b).ext F7a).ext E1a).ext E3a) (by decide));dV 0 rfl (fun _ hw=>Am Aw rfl (((((q1g.ext E1a).ext E3a).updS U2c (nmc ne7p nm0)).ext E5b).ext hw) rfl) S5h ?_
    have ne6h:=(Bx.neT ((q0e.ext E1a).ext E3a) (((((((qs.ext F9a).ext F6a).quiet hq).ext E7b).ext F7a).ext E1a).ext E3a) (by decide))
    refine dV 1 rfl (fun _ hw=>Ai Gp rfl (Bx.cell (((((q0e.ext E1a).ext E3a).updS U2c (nmc ne6h nm0)).ext E5b).ext hw) rfl)) S5h ?_
    refine dA 2 rfl (fun _=>Bv rfl) ?_
    refine dA 3 rfl (fun _=>Ah (o':=3) Cw rfl rfl) ?_
    refine dV 4 rfl (fun _ hw=>dld Aw ((q7e.ext E5b).ext hw)) S5h ?_
    have n8p:RU w9f A8d c9d r2d.m.Abs:=((((n1k.ext F7a).ext E1a).ext E3a).updS U2c (alc ⟨_,_,by decide,((((((qs.ext F9a).ext F6a).quiet hq).ext E7b).ext F7a).ext E1a).ext E3a⟩ al0)).ext E5b
    have n9p:RU w9f AT cT sr.hi.m.Abs:=((((((((n6.ext F9a).ext F6a).quiet hq).ext E7b).ext F7a).ext E1a).ext E3a).updS U2c (alc ⟨_,_,by decide,((((((qs.ext F9a).ext F6a).quiet hq).ext E7b).ext F7a).ext E1a).ext E3a⟩ al0)).ext E5b
    refine dcr f9a1 5 rfl (by rfl) (Ad HJ (by rfl)) (BN r2d sr.hi A8d c9d AT cT w9f (tbx (belR hE2 X6p hE2.size) hT) n8p n9p) fun r5a8 f8a2 w3e E8b=>?_
    have X9a2:=X6p.ext E8b
    have S6a8:=S5h.trans E8b
    refine dab 6 rfl (by kernel_rfl) (fun _ _ _ h=>h) (by rfl) (fun _=>Gm rfl rfl) fun z0q hz0q=>?_
    refine dnrm ?_
    refine CE (by kernel_rfl) ?_
    refine h7a2 _ _ ?_
    obtain ⟨m7h,h0a3,f1a3⟩:=Ac f8a2
    refine LK (fun l l' w'=>∃(t1q:Value) (t2q:Value) (t3q:Value) (t4q:Value) (A8h:Option Addr) (c9h:Nat),UpdS [bs] w3e w'∧Bx w' bs 121 [.bool m5d.1,.slice A5e (sz m5d.2.1) c6e,.int .i64 m5d.2.2,.bool m7h.1,.slice A8h (sz m7h.2.1) c9h,.int .i64 m7h.2.2]∧RU w' A8h c9h m7h.2.1∧l'=((((l.set 43 t1q).set 44 t2q).set 45 t3q).set 46 t4q)) ?_ ?_
    ·rcases zi hz0q h0a3 with ⟨e3k,_,f2a3⟩ | ⟨e3k,_,f3a3⟩
     ·refine wpIn_cond_true (Ak (evb rfl e3k))<|IL (by rfl) (fun ⟨_,_,h⟩=>h)<|have q4a3:=((((q0e.ext E1a).ext E3a).updS U2c (nmc ne6h nm0)).ext E5b).ext E8b;sV (Ai Gp rfl (Bx.cell q4a3 rfl)) ?_
      have q5a3:=((((q1g.ext E1a).ext E3a).updS U2c (nmc ne7p nm0)).ext E5b).ext E8b
      refine sV3 (Am Aw rfl q5a3 rfl) (Bv rfl) (Ah (o':=3) Cw rfl rfl) ?_
      refine ss BO ((q7e.ext E5b).ext E8b) fun w1c U5q q6a3=>?_
      refine AK ?_
      have n7a3:=(n8p.ext E8b).upd U5q ((q7e.ext E5b).ext E8b) (by decide)
      obtain rfl:=sj f2a3
      exact ⟨_,rfl,(.pointer (some ⟨bs,0,none⟩)),(.agg #[.bool r2d.m.Neg,.slice A8d (sz r2d.m.Abs) c9d,.int .i64 r2d.e]),(.pointer (some ⟨bs,0,none⟩)),(.pointer (some ⟨bs,3,none⟩)),A8d,c9d,((UpdS.refl _ _).upd U5q (.inl im0)),q6a3,n7a3,(by kernel_rfl)⟩
     ·refine wpIn_cond_false (Ak (evb rfl e3k))<|wpIn_skip ?_
      obtain rfl:=sj f3a3
      exact ⟨_,rfl,uu,uu,uu,uu,AT,cT,(UpdS.refl _ _),((q7e.ext E5b).ext E8b),(n9p.ext E8b),(by kernel_rfl)⟩
    ·rintro l' w1c ⟨t1q,t2q,t3q,t4q,A8h,c9h,U6d,q8a3,n9a3,hq'⟩ l'' hl
     rw [hq'] at hl
     clear hq'
     simp only [S0,S1] at hl
     subst hl
     have X4k:=X9a2.updS U6d (alc ⟨g00,_,_,(q7e.ext E5b).ext E8b⟩ al0)
     have hE3:=belR hE2 X4k hE2.size
     have ne6q:=(Bx.ne (q8i.ext E7d) gbs)
     have q0a4:=((((((((((q1f.ext F9a).ext F6a).quiet hq).ext E7b).ext F7a).ext E1a).ext E3a).updS U2c (nmc ne6q nm0)).ext E5b).ext E8b).updS U6d (nmc ne6q nm0)
     have ne7q:=(Bx.ne (((q5i.ext E9e).ext E1e).ext E7d) gbs)
     have q1a4:=((((((((((q2f.ext F9a).ext F6a).quiet hq).ext E7b).ext F7a).ext E1a).ext E3a).updS U2c (nmc ne7q nm0)).ext E5b).ext E8b).updS U6d (nmc ne7q nm0)
     have ne8q:=(Bx.neT (((((((q7c.ext F9a).ext F6a).quiet hq).ext E7b).ext F7a).ext E1a).ext E3a) (((((((qs.ext F9a).ext F6a).quiet hq).ext E7b).ext F7a).ext E1a).ext E3a) (by decide))
     have q2a4:=((((((((((q7c.ext F9a).ext F6a).quiet hq).ext E7b).ext F7a).ext E1a).ext E3a).updS U2c (nmc ne8q nm0)).ext E5b).ext E8b).updS U6d (nmc ne8q nm0)
     have ne9q:=(Bx.ne q4l gbs)
     have q3a4:=((((((((((q3f.ext F9a).ext F6a).quiet hq).ext E7b).ext F7a).ext E1a).ext E3a).updS U2c (nmc ne9q nm0)).ext E5b).ext E8b).updS U6d (nmc ne9q nm0)
     have ne0r:=(Bx.ne q5l gbs)
     have q4a4:=((((((((((q4f.ext F9a).ext F6a).quiet hq).ext E7b).ext F7a).ext E1a).ext E3a).updS U2c (nmc ne0r nm0)).ext E5b).ext E8b).updS U6d (nmc ne0r nm0)
     have q5a4:=(((((q0e.ext E1a).ext E3a).updS U2c (nmc ne6h nm0)).ext E5b).ext E8b).updS U6d (nmc ne6h nm0)
     have n6a4:RU w1c A5e c6e m5d.2.1:=((n5a2.ext E5b).ext E8b).updS U6d (alc ⟨_,_,by decide,(q7e.ext E5b).ext E8b⟩ al0)
     obtain rfl:=sj f1a3
     exact ⟨X4k,hE3,nlt (nlt (nlt hK X3h.size) hq.size) X4k.size,q0a4,q1a4,q2a4,q3a4,q4a4,(by rw [ho'];exact ⟨bs,A5e,c6e,A8h,c9h,gbs,q5a4,q8a3,n6a4,n9a3⟩)⟩
 ·intro D w1h hD hI hk0
  subst hO
  obtain ⟨hX,hK,q1f,q2f,q7c,q3f,q4f,hS⟩:=hI
  obtain ⟨bs,AS,cS,AT,cT,gbs,q5f,qs,n5,n6⟩:=hS
  have hk:Df w1h D:=hk0
  refine h2t _ _<|wp_seq_k fun _ h7a4=>Af<|sV3 (Ai Gp rfl (Bx.cell q5f rfl)) (Bv rfl) (Am Kz rfl qs rfl) ?_
  refine sV (Aa rfl) ?_
  obtain ⟨r5k,h8a4,f9a4⟩:=Ac f2u
  refine sc (Ad en_118 (by rfl)) (c_dyad_span_outward s2j x2 AS cS AT cT w1h (tbx hX hT) n5 n6 r5k h8a4) ?_
  rintro _ w2h E8e ⟨A1r,c2r,A3r,c4r,rfl,n5r,n6r⟩
  refine nrm ?_
  have X0i:=xtr hX E8e
  have hk7r:=Df.ext hk E8e
  rcases AF f9a4 with ⟨r6k,h7k,f0a5⟩ | ⟨r6k,h7k,rfl⟩
  ·refine scO (Ad IZ (by rfl)) (BX r5k A1r c2r A3r c4r w2h (tbx X0i hT) n5r n6r (.ok r6k) h7k) ?_
   rintro _ w8c E3d ⟨A1a5,c2a5,A3a5,c4a5,rfl,n5a5,n6a5⟩
   refine nrm ?_
   have X7a5:=xtr X0i E3d
   have hk8a5:=Df.ext hk7r E3d
   refine ss Bp ((q7c.ext E8e).ext E3d) fun w8j U1i q9a5=>?_
   have X8r:=belU X7a5 U1i g7s
   have hk9r:=Df.upd hk8a5 U1i ((q7c.ext E8e).ext E3d)
   refine wh h7a4<|wp_ret ?_
   have Q2i:=Quiet.put (n0:=w.heap.size) (.deferred none) hk9r hD rfl
   have hXE:=belQ X8r Q2i X8r.size
   have n0a6:=(n5a5.upd U1i ((q7c.ext E8e).ext E3d) (by decide)).quiet Q2i
   have n1a6:=(n6a5.upd U1i ((q7c.ext E8e).ext E3d) (by decide)).quiet Q2i
   obtain rfl:=sj f0a5
   exact RG hk9r rfl (Res.cellN rfl AI (q9a5.quiet Q2i) rfl rfl Res.nil) (DC hXE ⟨A1a5,c2a5,A3a5,c4a5,rfl,n0a6,n1a6⟩)
  ·refine scP (Ad IZ (by rfl)) (BX r5k A1r c2r A3r c4r w2h (tbx X0i hT) n5r n6r (.error r6k) h7k) fun w8c E3d=>?_
   have X0s:=xtr X0i E3d
   have hk1s:=Df.ext hk7r E3d
   exact panM hk1s (BK (belQ X0s (Quiet.put _ hk1s hD rfl) X0s.size))
theorem c_dyad_made_Span__dyad_Times_1 (x0:Ao) (x1:Ao) (x2:Int) (A1:Option Addr) (c2:Nat) (A4:Option Addr) (c5:Nat) (A7:Option Addr) (c8:Nat) (A6a:Option Addr) (c8a:Nat) (w:World) (hT:TB w) (n3:RLu w A1 c2 x0.Lo.Man.Abs) (n6:RLu w A4 c5 x0.Hi.Man.Abs) (n9:RLu w A7 c8 x1.Lo.Man.Abs) (n4b:RLu w A6a c8a x1.Hi.Man.Abs) (r:Al × Int) (hr:EV x0 x1 x2=some r) :
  Calls Tryz.prog 100 #[.agg #[.bool x0.Lo.Man.Neg,.slice A1 x0.Lo.Man.Abs.length c2,.int .i64 x0.Lo.Exp,.bool x0.Hi.Man.Neg,.slice A4 x0.Hi.Man.Abs.length c5,.int .i64 x0.Hi.Exp],.agg #[.bool x1.Lo.Man.Neg,.slice A7 x1.Lo.Man.Abs.length c8,.int .i64 x1.Lo.Exp,.bool x1.Hi.Man.Neg,.slice A6a x1.Hi.Man.Abs.length c8a,.int .i64 x1.Hi.Exp],.int .i64 x2,.func (.func 116) #[] #[]] w (Ret FC w r):=by
 unfold EV at hr
 obtain ⟨q0,hq0,hr0⟩:=Ac hr
 unfold GH at hq0
 go_enter_defers Tryz.func100,Tryz.ntmps100
 refine wp_seq_k fun _ h4e=>Af<|Bm rfl rfl fun b9l w1 E5e g0m q7g=>?_
 refine nrm ?_
 refine Bm rfl rfl fun b1m w2 E6e g8g q7e=>?_
 refine nrm ?_
 have g2m:=nlt E5e.size g8g
 have X8e:=xtr E5e E6e
 refine Ax Cv fun b5b w3 E6b g9g q7b=>?_
 refine nrm ?_
 have g8b:=nlt X8e.size g9g
 have X9e:=xtr X8e E6b
 refine Ax Jk fun b9b w4 E0b g0h q3b=>?_
 refine nrm ?_
 have g0c:=nlt X9e.size g0h
 have X0f:=xtr X9e E0b
 refine wh h4e<|wp_seq_k fun _ h1h=>Af<|Hw (vs:=[.pointer (some ⟨b5b,0,none⟩),.pointer (some ⟨b9b,0,none⟩)]) (by rfl) (by rfl)<|wh h1h<|wp_seq_k fun _ h2h=>Af<|have q1f:=((q7g.ext E6e).ext E6b).ext E0b;sV2 (Am AI rfl q1f rfl) (Am AI rfl ((q7e.ext E6b).ext E0b) rfl) ?_
 refine CI (vals:=[(0,.agg #[.bool x0.Lo.Man.Neg,.slice A1 x0.Lo.Man.Abs.length c2,.int .i64 x0.Lo.Exp,.bool x0.Hi.Man.Neg,.slice A4 x0.Hi.Man.Abs.length c5,.int .i64 x0.Hi.Exp]),(1,.agg #[.bool x1.Lo.Man.Neg,.slice A7 x1.Lo.Man.Abs.length c8,.int .i64 x1.Lo.Exp,.bool x1.Hi.Man.Neg,.slice A6a x1.Hi.Man.Abs.length c8a,.int .i64 x1.Hi.Exp])]) (cs:=[.bool x0.Lo.Man.Neg,.slice A1 x0.Lo.Man.Abs.length c2,.int .i64 x0.Lo.Exp,.bool x0.Hi.Man.Neg,.slice A4 x0.Hi.Man.Abs.length c5,.int .i64 x0.Hi.Exp,.bool x1.Lo.Man.Neg,.slice A7 x1.Lo.Man.Abs.length c8,.int .i64 x1.Lo.Exp,.bool x1.Hi.Man.Neg,.slice A6a x1.Hi.Man.Abs.length c8a,.int .i64 x1.Hi.Exp]) Jn Bp Cv (by rfl) (by decide) (by kernel_rfl) fun b2f w5 E3a g3h q3f=>?_
 refine nrm ?_
 have g3m:=nlt X0f.size g3h
 have X4a:=xtr X0f E3a
 rcases AF hq0 with ⟨r1c,h9d,f4h⟩ | ⟨r1c,h9d,rfl⟩
 ·refine scO (Ad It (by rfl)) (BP x0 x1 b2f A1 c2 A4 c5 A7 c8 A6a c8a w5 (tbx X4a hT) (n3.ext X4a) (n6.ext X4a) (n9.ext X4a) (n4b.ext X4a) q3f (.ok r1c) h9d) ?_
  rintro _ w6 E2a rfl
  refine nrm ?_
  have X2c:=xtr X4a E2a
  refine wh h2h<|wp_seq_k fun _ h5h=>Af<|sV (Aa rfl) ?_
  rcases AF f4h with ⟨r3c,h0e,f6h⟩ | ⟨r3c,h0e,rfl⟩
  ·refine scO (Ad Ip (by rfl)) (Dj x2 w6 (tbx X2c hT)  (.ok r3c) h0e) ?_
   rintro _ w7 E5a rfl
   refine nrm ?_
   have X7h:=xtr X2c E5a
   refine wh h5h<|wp_seq_k fun _ h8h=>DK [7,8] 9 mo rfl fun w8 E1b S1e=>?_
   have X4c:=xtr X7h E1b
   refine dA 0 rfl (fun _=>Aa rfl) ?_ (hQ:=fun _ _ _ h=>dq (rs:=[.cell 8 29,.cell 9 33]) rfl (by decide) h)
   refine dV 1 rfl (fun _ hw=>Am AI rfl (((((q1f.ext E3a).ext E2a).ext E5a).ext E1b).ext hw) rfl) S1e ?_ (hQ:=fun _ _ _ h=>dq (rs:=[.cell 8 29,.cell 9 33]) rfl (by decide) h)
   refine dV 3 rfl (fun _ hw=>Am AI rfl (((((((q7e.ext E6b).ext E0b).ext E3a).ext E2a).ext E5a).ext E1b).ext hw) rfl) S1e ?_ (hQ:=fun _ _ _ h=>dq (rs:=[.cell 8 29,.cell 9 33]) rfl (by decide) h)
   refine dA 5 rfl (fun _=>Aa rfl) ?_ (hQ:=fun _ _ _ h=>dq (rs:=[.cell 8 29,.cell 9 33]) rfl (by decide) h)
   obtain ⟨m4f,h9h,f0i⟩:=Ac f6h
   have hx5f:=AU h9h
   have n1i:RU w8 A1 c2 m4f:=by unfold RU;rw [hx5f];exact (n3.ext X4c)
   obtain ⟨m6f,h2i,f3i⟩:=Ac f0i
   have hx7f:=AU h2i
   have n4i:RU w8 A4 c5 m6f:=by unfold RU;rw [hx7f];exact (n6.ext X4c)
   obtain ⟨r0a,h5i,f6i⟩:=Ac f3i
   refine dc 2 rfl (by kernel_rfl) (by rfl) (Ad IY (by simp only [sz,hx5f,hx7f];rfl)) (CN (⟨(⟨(⟨x0.Lo.Man.Neg,m4f⟩:Ae),x0.Lo.Exp⟩:Ag),(⟨(⟨x0.Hi.Man.Neg,m6f⟩:Ae),x0.Hi.Exp⟩:Ag)⟩:Al) A1 c2 A4 c5 w8 (tbx X4c hT) n1i n4i r0a h5i) ?_
   rintro _ w9 E2b ⟨A5c,c6c,A7c,c8c,rfl,n8f,n9f⟩
   refine dnrm ?_
   have X9c:=xtr X4c E2b
   have S7i:=S1e.trans E2b
   obtain ⟨m0g,h8i,f9i⟩:=Ac f6i
   have hx1g:=AU h8i
   have n0j:RU w9 A7 c8 m0g:=by unfold RU;rw [hx1g];exact (n9.ext X9c)
   obtain ⟨m2g,h1j,f2j⟩:=Ac f9i
   have hx3g:=AU h1j
   have n3j:RU w9 A6a c8a m2g:=by unfold RU;rw [hx3g];exact (n4b.ext X9c)
   obtain ⟨r1a,h4j,f5j⟩:=Ac f2j
   refine dc 4 rfl (by kernel_rfl) (by rfl) (Ad IY (by simp only [sz,hx1g,hx3g];rfl)) (CN (⟨(⟨(⟨x1.Lo.Man.Neg,m0g⟩:Ae),x1.Lo.Exp⟩:Ag),(⟨(⟨x1.Hi.Man.Neg,m2g⟩:Ae),x1.Hi.Exp⟩:Ag)⟩:Al) A7 c8 A6a c8a w9 (tbx X9c hT) n0j n3j r1a h4j) ?_
   rintro _ w6a E7a ⟨A0d,c1d,A2d,c3d,rfl,n4g,n5g⟩
   refine dnrm ?_
   have X4d:=xtr X9c E7a
   have S6j:=S7i.trans E7a
   rcases AF f5j with ⟨r5d,h2e,f7j⟩ | ⟨r5d,h2e,rfl⟩
   ·refine dcO 6 rfl (by kernel_rfl) (by rfl) (Ee (first:=[]) (cap:=[]) (args:=[.agg #[.bool r0a.lo.m.Neg,.slice A5c (sz r0a.lo.m.Abs) c6c,.int .i64 r0a.lo.e,.bool r0a.hi.m.Neg,.slice A7c (sz r0a.hi.m.Abs) c8c,.int .i64 r0a.hi.e],.agg #[.bool r1a.lo.m.Neg,.slice A0d (sz r1a.lo.m.Abs) c1d,.int .i64 r1a.lo.e,.bool r1a.hi.m.Neg,.slice A2d (sz r1a.hi.m.Abs) c3d,.int .i64 r1a.hi.e],.int .i64 x2]) Qw (by rfl) (by rfl)) (LD r0a r1a x2 A5c c6c A7c c8c A0d c1d A2d c3d w6a (tbx X4d hT) (n8f.ext E7a) (n9f.ext E7a) n4g n5g (.ok r5d) h2e) ?_
    rintro _ w8a E9a ⟨A8j,c9j,A0k,c1k,rfl,n2k,n3k⟩
    refine dnrm ?_
    have X4k:=xtr X4d E9a
    have S4m:=S6j.trans E9a
    have q6d:=(((((((q7b.ext E0b).ext E3a).ext E2a).ext E5a).ext E1b).ext E2b).ext E7a).ext E9a
    refine dkk 7 Bp q6d fun w4b U7d q5k=>?_
    have X6k:=belU X4k U7d g8b
    have ne6g:=(Bx.neT (((((((q3b.ext E3a).ext E2a).ext E5a).ext E1b).ext E2b).ext E7a).ext E9a) q6d (by decide))
    have q3e:=(((((((q3b.ext E3a).ext E2a).ext E5a).ext E1b).ext E2b).ext E7a).ext E9a).upd U7d ne6g
    refine dkk 8 GW q3e fun w4e U8d q7k=>?_
    have X8k:=belU X6k U8d g0c
    refine CE (by kernel_rfl) ?_
    refine h8h _ _<|wp_ret ?_
    have n9k:=(n2k.upd U7d q6d (by decide)).upd U8d q3e (by decide)
    have n0l:=(n3k.upd U7d q6d (by decide)).upd U8d q3e (by decide)
    obtain rfl:=sj f7j
    obtain rfl:=sj hr0
    exact Mj Dl ER rfl (Res.cellN rfl AI (q5k.upd U8d (Ne.symm ne6g)) rfl rfl (Res.cell1 rfl BW (Bx.cell q7k rfl) Res.nil)) (Av X8k ⟨A8j,c9j,A0k,c1k,rfl,n9k,n0l⟩)
   ·refine dcP 6 rfl (by kernel_rfl) (by rfl) (Ee (first:=[]) (cap:=[]) (args:=[.agg #[.bool r0a.lo.m.Neg,.slice A5c (sz r0a.lo.m.Abs) c6c,.int .i64 r0a.lo.e,.bool r0a.hi.m.Neg,.slice A7c (sz r0a.hi.m.Abs) c8c,.int .i64 r0a.hi.e],.agg #[.bool r1a.lo.m.Neg,.slice A0d (sz r1a.lo.m.Abs) c1d,.int .i64 r1a.lo.e,.bool r1a.hi.m.Neg,.slice A2d (sz r1a.hi.m.Abs) c3d,.int .i64 r1a.hi.e],.int .i64 x2]) Qw (by rfl) (by rfl)) (LD r0a r1a x2 A5c c6c A7c c8c A0d c1d A2d c3d w6a (tbx X4d hT) (n8f.ext E7a) (n9f.ext E7a) n4g n5g (.error r5d) h2e) fun w8a E9a=>?_
    have X1l:=xtr X4d E9a
    have q2l:=(((((((q7b.ext E0b).ext E3a).ext E2a).ext E5a).ext E1b).ext E2b).ext E7a).ext E9a
    have q3l:=((((((q3b.ext E3a).ext E2a).ext E5a).ext E1b).ext E2b).ext E7a).ext E9a
    refine Ir ER (AL b5b b9b (.bool false:Value) (.slice none 0 0:Value) (.int .i64 0:Value) (.bool false:Value) (.slice none 0 0:Value) (.int .i64 0:Value) (.int .i64 0:Value) r5d q2l q3l) rfl ?_
    rintro w9 ⟨u9,q9,q9'⟩
    obtain rfl:=sj hr0
    exact ⟨_,(Res.cellN rfl AI q9 rfl rfl (Res.cell1 rfl BW (Bx.cell q9' rfl) Res.nil)),Av (u9.toExt X1l g8b g0c) ⟨none,0,none,0,rfl,RU.nil _,RU.nil _⟩⟩
  ·refine scP (Ad Ip (by rfl)) (Dj x2 w6 (tbx X2c hT)  (.error r3c) h0e) fun w7 E5a=>?_
   have X4l:=xtr X2c E5a
   have q5l:=(((q7b.ext E0b).ext E3a).ext E2a).ext E5a
   have q6l:=((q3b.ext E3a).ext E2a).ext E5a
   refine Ir ER (AL b5b b9b (.bool false:Value) (.slice none 0 0:Value) (.int .i64 0:Value) (.bool false:Value) (.slice none 0 0:Value) (.int .i64 0:Value) (.int .i64 0:Value) r3c q5l q6l) rfl ?_
   rintro w9 ⟨u9,q9,q9'⟩
   obtain rfl:=sj hr0
   exact ⟨_,(Res.cellN rfl AI q9 rfl rfl (Res.cell1 rfl BW (Bx.cell q9' rfl) Res.nil)),Av (u9.toExt X4l g8b g0c) ⟨none,0,none,0,rfl,RU.nil _,RU.nil _⟩⟩
 ·refine scP (Ad It (by rfl)) (BP x0 x1 b2f A1 c2 A4 c5 A7 c8 A6a c8a w5 (tbx X4a hT) (n3.ext X4a) (n6.ext X4a) (n9.ext X4a) (n4b.ext X4a) q3f (.error r1c) h9d) fun w6 E2a=>?_
  have X7l:=xtr X4a E2a
  have q8l:=((q7b.ext E0b).ext E3a).ext E2a
  refine Ir ER (AL b5b b9b (.bool false:Value) (.slice none 0 0:Value) (.int .i64 0:Value) (.bool false:Value) (.slice none 0 0:Value) (.int .i64 0:Value) (.int .i64 0:Value) r1c q8l ((q3b.ext E3a).ext E2a)) rfl ?_
  rintro w9 ⟨u9,q9,q9'⟩
  obtain rfl:=sj hr0
  exact ⟨_,(Res.cellN rfl AI q9 rfl rfl (Res.cell1 rfl BW (Bx.cell q9' rfl) Res.nil)),Av (u9.toExt X7l g8b g0c) ⟨none,0,none,0,rfl,RU.nil _,RU.nil _⟩⟩
theorem c_dyad_Times (x0:Ao) (x1:Ao) (x2:Int) (A1:Option Addr) (c2:Nat) (A4:Option Addr) (c5:Nat) (A7:Option Addr) (c8:Nat) (A2a:Option Addr) (c3a:Nat) (w:World) (hT:TB w) (n3:RLu w A1 c2 x0.Lo.Man.Abs) (n6:RLu w A4 c5 x0.Hi.Man.Abs) (n9:RLu w A7 c8 x1.Lo.Man.Abs) (n0b:RLu w A2a c3a x1.Hi.Man.Abs) (r:Al × Int) (hr:KM x0 x1 x2=some r) :
  Calls Tryz.prog 32 #[.agg #[.bool x0.Lo.Man.Neg,.slice A1 x0.Lo.Man.Abs.length c2,.int .i64 x0.Lo.Exp,.bool x0.Hi.Man.Neg,.slice A4 x0.Hi.Man.Abs.length c5,.int .i64 x0.Hi.Exp],.agg #[.bool x1.Lo.Man.Neg,.slice A7 x1.Lo.Man.Abs.length c8,.int .i64 x1.Lo.Exp,.bool x1.Hi.Man.Neg,.slice A2a x1.Hi.Man.Abs.length c3a,.int .i64 x1.Hi.Exp],.int .i64 x2] w (Ret FC w r):=by
 unfold KM at hr
 go_enter Tryz.func32,Tryz.ntmps32
 refine wp_seq_k fun _ h1b=>Af<|Bm rfl rfl fun b2d w1 E7a g3d q2b=>?_
 refine nrm ?_
 refine Bm rfl rfl fun b4d w2 E8a g3b q4b=>?_
 refine nrm ?_
 have g5d:=nlt E7a.size g3b
 have X9a:=xtr E7a E8a
 refine Ax Cv fun b6d w3 E4a g5b q5a=>?_
 refine nrm ?_
 have g6b:=nlt X9a.size g5b
 have X0a:=xtr X9a E4a
 refine sV (Ab rfl) ?_
 refine wh h1b<|wp_seq_k fun _ h7b=>Af<|sV3 (Am AI rfl ((q2b.ext E8a).ext E4a) rfl) (Am AI rfl (q4b.ext E4a) rfl) (Aa rfl) ?_
 obtain ⟨r8b,h9b,f0c⟩:=Ac hr
 refine sc (Ad Mk (by rfl)) (c_dyad_made_Span__dyad_Times_1 x0 x1 x2 A1 c2 A4 c5 A7 c8 A2a c3a w3 (tbx X0a hT) (n3.ext X0a) (n6.ext X0a) (n9.ext X0a) (n0b.ext X0a) r8b h9b) ?_
 rintro _ w4 E1a ⟨A1c,c2c,A3c,c4c,rfl,n5c,n6c⟩
 refine nrm ?_
 have X7c:=xtr X0a E1a
 refine sV2 (Aj rfl rfl) (Aj rfl rfl) ?_
 refine ss Bp (q5a.ext E1a) fun w5 U6a q8c=>?_
 have X9c:=belU X7c U6a g6b
 refine sV (Ab rfl) ?_
 refine wh h7b<|wp_ret ?_
 have n0d:=n5c.upd U6a (q5a.ext E1a) (by decide)
 have n1d:=n6c.upd U6a (q5a.ext E1a) (by decide)
 exact CV f0c rfl (Res.cellN rfl AI q8c rfl rfl (Res.tmp rfl Res.nil)) (Av X9c ⟨A1c,c2c,A3c,c4c,rfl,n0d,n1d⟩)
theorem c_sorobanref03_SameInt (x0:Ae) (x1:Ae) (A1:Option Addr) (c2:Nat) (A4:Option Addr) (c5:Nat) (w:World) (hT:TB w) (n3:RU w A1 c2 x0.Abs) (n6:RU w A4 c5 x1.Abs) (r:Bool) (hr:EK x0 x1=some r) :
  Calls Tryz.prog 86 #[.agg #[.bool x0.Neg,.slice A1 (sz x0.Abs) c2],.agg #[.bool x1.Neg,.slice A4 (sz x1.Abs) c5]] w (Ret FN w r):=by
 unfold EK at hr
 go_enter Tryz.func86,Tryz.ntmps86
 refine wp_seq_k fun _ h7=>Af<|Bm rfl rfl fun b8 w1 E9 g3c q3a=>?_
 refine nrm ?_
 refine Bm rfl rfl fun b1b w2 E2a g2b q4a=>?_
 refine nrm ?_
 have g4c:=nlt E9.size g2b
 have X1a:=xtr E9 E2a
 refine sV (Ab rfl) ?_
 refine wh h7<|wp_seq_k fun _ h3b=>Af<|sV3 (Ah (o':=0) IP rfl rfl) (Ai HZ rfl (Bx.cell (q3a.ext E2a) rfl)) (Ah (o':=0) IP rfl rfl) ?_
 refine sV (Ai HZ rfl (Bx.cell q4a rfl)) ?_
 refine sb (PC Qv rfl rfl) fun z5a hz5a=>?_
 refine nrm ?_
 refine sV (Aa rfl) ?_
 obtain ⟨m4b,h5b,f32⟩:=Ac hr
 refine BH 12 (fun l l' w'=>∃(t6a:Value) (t7a:Value) (t8a:Value) (t9a:Value) (t0b:Value),UpdS [] w2 w'∧l'=((((((l.set 11 t6a).set 12 t7a).set 13 t8a).set 14 t9a).set 15 t0b).set 16 (.bool m4b))) ?_ ?_
 ·intro HJ39
  rcases zi hz5a h5b with ⟨e0a,_,f6b⟩ | ⟨e0a,_,f7b⟩
  ·refine sV (Ah (o':=1) Eb rfl rfl) ?_ (hw:=wgT rfl e0a)
   refine sV (Ai Gf rfl (Bx.cell (q3a.ext E2a) rfl)) ?_ (hw:=wgT rfl e0a)
   refine sV (Ah (o':=1) Eb rfl rfl) ?_ (hw:=wgT rfl e0a)
   refine sV (Ai Gf rfl (Bx.cell q4a rfl)) ?_ (hw:=wgT rfl e0a)
   refine scr f6b (Ad en_144 (by rfl)) (Iu (limbs x0.Abs) (limbs x1.Abs) A1 c2 A4 c5 w2 (tbx X1a hT) (n3.ext X1a) (n6.ext X1a)) (fun r8b f9b w3 E0c=>?_) (hw:=wgT rfl e0a)
   refine sV (AA (evb rfl e0a) rfl) ?_
   obtain rfl:=sj f9b
   exact HJ39 _ _ ⟨(.pointer (some ⟨b8,1,none⟩)),(.slice A1 (sz x0.Abs) c2),(.pointer (some ⟨b1b,1,none⟩)),(.slice A4 (sz x1.Abs) c5),(.bool r8b),((UpdS.refl _ _).ext E0c),(by kernel_rfl)⟩
  ·refine sQ rfl e0a ?_
   refine sQ rfl e0a ?_
   refine sQ rfl e0a ?_
   refine sQ rfl e0a ?_
   refine sQ rfl e0a ?_
   refine sV (AC (evb rfl e0a) rfl) ?_
   obtain rfl:=sj f7b
   exact HJ39 _ _ ⟨uu,uu,uu,uu,uu,(UpdS.refl _ _),(by kernel_rfl)⟩
 ·rintro l' w3 ⟨t6a,t7a,t8a,t9a,t0b,U1c,hq'⟩ l'' hl
  rw [hq'] at hl
  clear hq'
  simp only [S0,S1] at hl
  subst hl
  have X2c:=Jf X1a U1c (X1a).size al0
  refine sV (Ab rfl) ?_
  refine wh h3b<|wp_ret ?_
  exact BG f32 X2c rfl
theorem FK (x0:Ag) (x1:Ag) (A1:Option Addr) (c2:Nat) (A4:Option Addr) (c5:Nat) (w:World) (hT:TB w) (n3:RU w A1 c2 x0.Man.Abs) (n6:RU w A4 c5 x1.Man.Abs) (r:Bool) (hr:CH x0 x1=some r) :
  Calls Tryz.prog 37 #[.agg #[.bool x0.Man.Neg,.slice A1 (sz x0.Man.Abs) c2,.int .i64 x0.Exp],.agg #[.bool x1.Man.Neg,.slice A4 (sz x1.Man.Abs) c5,.int .i64 x1.Exp]] w (Ret FN w r):=by
 unfold CH at hr
 go_enter Tryz.func37,Tryz.ntmps37
 refine wp_seq_k fun _ h7=>Af<|Bm rfl rfl fun b8 w1 E9 g1c q5a=>?_
 refine nrm ?_
 refine Bm rfl rfl fun b2b w2 E2a g3b q6a=>?_
 refine nrm ?_
 have g2c:=nlt E9.size g3b
 have X1a:=xtr E9 E2a
 refine sV (Ab rfl) ?_
 refine wh h7<|wp_seq_k fun _ h4b=>Af<|sV2 (Ah (o':=0) HF rfl rfl) (dld GS (q5a.ext E2a)) ?_
 refine sV2 (Ah (o':=0) HF rfl rfl) (dld GS q6a) ?_
 refine scr hr (Ad en_86 (by rfl)) (c_sorobanref03_SameInt x0.Man x1.Man A1 c2 A4 c5 w2 (tbx X1a hT) (n3.ext X1a) (n6.ext X1a)) fun r3c f5b w3 E3a=>?_
 have X6b:=xtr X1a E3a
 refine sV (Aa rfl) ?_
 obtain ⟨m7b,h8b,f32⟩:=Ac f5b
 refine BH 12 (fun l l' w'=>∃(t7a:Value) (t8a:Value) (t9a:Value) (t0b:Value) (t1b:Value),w3=w'∧l'=((((((l.set 11 t7a).set 12 t8a).set 13 t9a).set 14 t0b).set 15 t1b).set 16 (.bool m7b))) ?_ ?_
 ·intro HJ39
  rcases zb h8b with ⟨e0a,f9b⟩ | ⟨e0a,f0c⟩
  ·refine sV (Ah (o':=2) Hj rfl rfl) ?_ (hw:=wgT rfl e0a)
   refine sV (Ai FM rfl (Bx.cell ((q5a.ext E2a).ext E3a) rfl)) ?_ (hw:=wgT rfl e0a)
   refine sV (Ah (o':=2) Hj rfl rfl) ?_ (hw:=wgT rfl e0a)
   refine sV (Ai FM rfl (Bx.cell (q6a.ext E3a) rfl)) ?_ (hw:=wgT rfl e0a)
   refine sb (CG rfl rfl) ?_ (hw:=wgT rfl e0a)
   intro z4a hz4a
   refine nrm ?_
   refine sV (AA (evb rfl e0a) rfl) ?_
   obtain rfl:z4a=decide (x0.Exp=x1.Exp):=bz hz4a
   obtain rfl:=sj f9b
   exact HJ39 _ _ ⟨(.pointer (some ⟨b8,2,none⟩)),(.int .i64 x0.Exp),(.pointer (some ⟨b2b,2,none⟩)),(.int .i64 x1.Exp),(.bool (decide (x0.Exp=x1.Exp))),rfl,(by kernel_rfl)⟩
  ·refine sQ rfl e0a ?_
   refine sQ rfl e0a ?_
   refine sQ rfl e0a ?_
   refine sQ rfl e0a ?_
   refine sQ rfl e0a ?_
   refine sV (AC (evb rfl e0a) rfl) ?_
   obtain rfl:=sj f0c
   exact HJ39 _ _ ⟨uu,uu,uu,uu,uu,rfl,(by kernel_rfl)⟩
 ·rintro l' _ ⟨t7a,t8a,t9a,t0b,t1b,rfl,hq'⟩ l'' hl
  rw [hq'] at hl
  clear hq'
  simp only [S0,S1] at hl
  subst hl
  refine sV (Ab rfl) ?_
  refine wh h4b<|wp_ret ?_
  exact BG f32 X6b rfl
theorem Et (x0:Al) (x1:Al) (A1:Option Addr) (c2:Nat) (A4:Option Addr) (c5:Nat) (A7:Option Addr) (c8:Nat) (A2a:Option Addr) (c3a:Nat) (w:World) (hT:TB w) (n3:RU w A1 c2 x0.Lo.Man.Abs) (n6:RU w A4 c5 x0.Hi.Man.Abs) (n9:RU w A7 c8 x1.Lo.Man.Abs) (n5b:RU w A2a c3a x1.Hi.Man.Abs) (r:Bool) (hr:Bw x0 x1=some r) :
  Calls Tryz.prog 76 #[.agg #[.bool x0.Lo.Man.Neg,.slice A1 (sz x0.Lo.Man.Abs) c2,.int .i64 x0.Lo.Exp,.bool x0.Hi.Man.Neg,.slice A4 (sz x0.Hi.Man.Abs) c5,.int .i64 x0.Hi.Exp],.agg #[.bool x1.Lo.Man.Neg,.slice A7 (sz x1.Lo.Man.Abs) c8,.int .i64 x1.Lo.Exp,.bool x1.Hi.Man.Neg,.slice A2a (sz x1.Hi.Man.Abs) c3a,.int .i64 x1.Hi.Exp]] w (Ret FN w r):=by
 unfold Bw at hr
 go_enter Tryz.func76,Tryz.ntmps76
 refine wp_seq_k fun _ h6b=>Af<|Bm rfl rfl fun b7b w1 E7a g2d q8a=>?_
 refine nrm ?_
 refine Bm rfl rfl fun b8b w2 E5a g9b q9a=>?_
 refine nrm ?_
 have g3d:=nlt E7a.size g9b
 have X4a:=xtr E7a E5a
 refine sV (Ab rfl) ?_
 refine wh h6b<|wp_seq_k fun _ h0c=>Af<|sV2 (Ah (o':=0) Jy rfl rfl) (dld BT (q8a.ext E5a)) ?_
 refine sV2 (Ah (o':=0) Jy rfl rfl) (dld BT q9a) ?_
 refine scr hr (Ad OZ (by rfl)) (FK x0.Lo x1.Lo A1 c2 A7 c8 w2 (tbx X4a hT) (n3.ext X4a) (n9.ext X4a)) fun r4d f1c w3 E6a=>?_
 have X1a:=xtr X4a E6a
 refine sV (Aa rfl) ?_
 obtain ⟨m2c,h3c,f4c⟩:=Ac f1c
 refine BH 12 (fun l l' w'=>∃(t0b:Value) (t1b:Value) (t2b:Value) (t3b:Value) (t4b:Value),UpdS [] w3 w'∧l'=((((((l.set 11 t0b).set 12 t1b).set 13 t2b).set 14 t3b).set 15 t4b).set 16 (.bool m2c))) ?_ ?_
 ·intro HJ49
  rcases zb h3c with ⟨e0a,f5c⟩ | ⟨e0a,f6c⟩
  ·refine sV (Ah (o':=3) Jv rfl rfl) ?_ (hw:=wgT rfl e0a)
   refine sV (dld BT ((q8a.ext E5a).ext E6a)) ?_ (hw:=wgT rfl e0a)
   refine sV (Ah (o':=3) Jv rfl rfl) ?_ (hw:=wgT rfl e0a)
   refine sV (dld BT (q9a.ext E6a)) ?_ (hw:=wgT rfl e0a)
   refine scr f5c (Ad OZ (by rfl)) (FK x0.Hi x1.Hi A4 c5 A2a c3a w3 (tbx X1a hT) (n6.ext X1a) (n5b.ext X1a)) (fun r7c f8c w4 E9c=>?_) (hw:=wgT rfl e0a)
   refine sV (AA (evb rfl e0a) rfl) ?_
   obtain rfl:=sj f8c
   exact HJ49 _ _ ⟨(.pointer (some ⟨b7b,3,none⟩)),(.agg #[.bool x0.Hi.Man.Neg,.slice A4 (sz x0.Hi.Man.Abs) c5,.int .i64 x0.Hi.Exp]),(.pointer (some ⟨b8b,3,none⟩)),(.agg #[.bool x1.Hi.Man.Neg,.slice A2a (sz x1.Hi.Man.Abs) c3a,.int .i64 x1.Hi.Exp]),(.bool r7c),((UpdS.refl _ _).ext E9c),(by kernel_rfl)⟩
  ·refine sQ rfl e0a ?_
   refine sQ rfl e0a ?_
   refine sQ rfl e0a ?_
   refine sQ rfl e0a ?_
   refine sQ rfl e0a ?_
   refine sV (AC (evb rfl e0a) rfl) ?_
   obtain rfl:=sj f6c
   exact HJ49 _ _ ⟨uu,uu,uu,uu,uu,(UpdS.refl _ _),(by kernel_rfl)⟩
 ·rintro l' w4 ⟨t0b,t1b,t2b,t3b,t4b,U0d,hq'⟩ l'' hl
  rw [hq'] at hl
  clear hq'
  simp only [S0,S1] at hl
  subst hl
  have X1d:=Jf X1a U0d (X1a).size al0
  refine sV (Ab rfl) ?_
  refine wh h0c<|wp_ret ?_
  exact BG f4c X1d rfl
theorem AE (x0:An) (x1:An) (x2:Int) (x3:Int) (A1:Option Addr) (c2:Nat) (A4:Option Addr) (c5:Nat) (w:World) (hT:TB w) (n3:RU w A1 c2 x0.m.Abs) (n6:RU w A4 c5 x1.m.Abs) (r:An) (hr:Gq x0 x1 x2 x3=some r) :
  Calls Tryz.prog 105 #[.agg #[.bool x0.m.Neg,.slice A1 (sz x0.m.Abs) c2,.int .i64 x0.e],.agg #[.bool x1.m.Neg,.slice A4 (sz x1.m.Abs) c5,.int .i64 x1.e],.int .i64 x2,.int .i64 x3] w (Ret IX w r):=by
 unfold Gq at hr
 go_enter Tryz.func105,Tryz.ntmps105
 refine wp_seq_k fun _ h7=>Af<|Bm rfl rfl fun b8 w1 E9 g6c q0b=>?_
 refine nrm ?_
 refine Bm rfl rfl fun b8d w2 E1b g9d q6b=>?_
 refine nrm ?_
 have g3h:=nlt E9.size g9d
 have X7c:=xtr E9 E1b
 refine Ax Bn fun b4h w3 E1a g0e q8c=>?_
 refine nrm ?_
 have g9c:=nlt X7c.size g0e
 have X7b:=xtr X7c E1a
 refine wh h7<|wp_seq_k fun _ h1e=>wp_seq_k fun _ h2e=>Af<|sV (Am Aw rfl ((q0b.ext E1b).ext E1a) rfl) ?_
 refine scr hr (Ad Kf (by rfl)) (CY x0 A1 c2 w3 (tbx X7b hT) (n3.ext X7b)) fun r5h f3e w4 E0a=>?_
 have X0d:=xtr X7b E0a
 refine sb (CG rfl rfl) fun z1d hz1d=>?_
 refine nrm ?_
 refine wh h2e ?_
 rcases zi hz1d f3e with ⟨e8b,_,f4e⟩ | ⟨e8b,_,f5e⟩
 ·refine wp_cond_true (Ak (evb rfl e8b))<|wp_seq_k fun _ h6e=>Af<|sV (Bb (vals:=[]) (cells:=[.bool false,.slice none 0 0,.int .i64 0]) (by rfl) (by kernel_rfl)) ?_
  refine ss BO (q8c.ext E0a) fun w5 U7e q8e=>?_
  have X9e:=belU X0d U7e g9c
  refine wh h6e<|wp_ret ?_
  exact CV f4e rfl (Res.cellN rfl Aw q8e rfl rfl Res.nil) (Av X9e ⟨none,0,rfl,(RU.nil _)⟩)
 ·refine wp_cond_false (Ak (evb rfl e8b))<|wp_skip<|h1e _ _<|wp_seq_k fun _ h0f=>DK [] 14 mo rfl fun w5 E2a S9b=>have X0c:=xtr X0d E2a;dA 0 rfl (fun _=>Aa rfl) ?_
  refine dA 1 rfl (fun _=>Bj (c:=wi64 (x2+2)) rfl rfl rfl) ?_
  refine dA 2 rfl (fun _=>Ah (o':=0) BS rfl rfl) ?_
  refine dA 3 rfl (fun _=>Ah (o':=1) Bt rfl rfl) ?_
  refine dV 4 rfl (fun _ hw=>Ai Dk rfl (Bx.cell ((((q6b.ext E1a).ext E0a).ext E2a).ext hw) rfl)) S9b ?_
  refine dA 7 rfl (fun _=>Ah (o':=0) BS rfl rfl) ?_
  refine dA 8 rfl (fun _=>Ah (o':=1) Bt rfl rfl) ?_
  refine dV 9 rfl (fun _ hw=>Ai Dk rfl (Bx.cell (((((q0b.ext E1b).ext E1a).ext E0a).ext E2a).ext hw) rfl)) S9b ?_
  refine dcr f5e 5 rfl (by rfl) (Ad Mq (by rfl)) (Ef x1.m.Abs A4 c5 w5 (tbx X0c hT) (n6.ext X0c)) fun r4a f1f w6 E5a=>?_
  have X1c:=xtr X0c E5a
  have S2f:=S9b.trans E5a
  refine dA 6 rfl (fun _=>Bj (c:=wi64 ((wi64 (x2+2))+r4a)) rfl rfl rfl) ?_
  refine dcr f1f 10 rfl (by rfl) (Ad Mq (by rfl)) (Ef x0.m.Abs A1 c2 w6 (tbx X1c hT) (n3.ext X1c)) fun r8a f3f w7 E6a=>?_
  have X4f:=xtr X1c E6a
  have S6h:=S2f.trans E6a
  refine dA 11 rfl (fun _=>BA (c:=wi64 ((wi64 ((wi64 (x2+2))+r4a)) - r8a)) rfl rfl rfl) ?_
  refine dA 12 rfl (fun _=>Nt rfl rfl) ?_
  refine dA 13 rfl (fun _=>Ab rfl) ?_
  refine CE (by kernel_rfl) ?_
  refine h0f _ _<|wp_seq_k fun _ h5f=>DK [] 14 mo rfl fun w8 E9a S2c=>have X3c:=xtr X4f E9a;dA 0 rfl (fun _=>Ah (o':=0) BS rfl rfl) ?_
  refine dA 1 rfl (fun _=>Ah (o':=1) Bt rfl rfl) ?_
  refine dV 2 rfl (fun _ hw=>Ai Dk rfl (Bx.cell ((((((((q0b.ext E1b).ext E1a).ext E0a).ext E2a).ext E5a).ext E6a).ext E9a).ext hw) rfl)) S2c ?_
  refine dA 3 rfl (fun _=>Aa rfl) ?_
  refine dA 5 rfl (fun _=>Ah (o':=0) BS rfl rfl) ?_
  refine dA 6 rfl (fun _=>Ah (o':=1) Bt rfl rfl) ?_
  refine dV 7 rfl (fun _ hw=>Ai Dk rfl (Bx.cell (((((((q6b.ext E1a).ext E0a).ext E2a).ext E5a).ext E6a).ext E9a).ext hw) rfl)) S2c ?_
  refine dcn f3f 4 rfl (by rfl) (Ad Kj (by rfl)) (CX x0.m.Abs (max 0 (wi64 ((wi64 ((wi64 (x2+2))+r4a)) - r8a))) A1 c2 w8 (tbx X3c hT) (n3.ext X3c)) fun r6f f7f w9 A8f c9f E2b n0g=>?_
  have X4c:=xtr X3c E2b
  have S1g:=S2c.trans E2b
  obtain ⟨r3a,h2g,f3g⟩:=Ac f7f
  refine dc 8 rfl (by kernel_rfl) (by rfl) (Ad QN (by rfl)) (IQ r6f x1.m.Abs A8f c9f A4 c5 w9 (tbx X4c hT) n0g (n6.ext X4c) r3a h2g) ?_
  rintro _ w6c E3b ⟨A4b,c5b,A7h,c8h,rfl,n4g,n9h⟩
  refine dnrm ?_
  have X2d:=xtr X4c E3b
  have S0i:=S1g.trans E3b
  refine dA 9 rfl (fun _=>Aa rfl) ?_
  refine dA 10 rfl (fun _=>Aj rfl rfl) ?_
  refine dA 11 rfl (fun _=>Aj rfl rfl) ?_
  refine dA 12 rfl (fun _=>Ab rfl) ?_
  refine dA 13 rfl (fun _=>Ab rfl) ?_
  refine CE (by kernel_rfl) ?_
  refine h5f _ _<|wp_seq_k fun _ h5g=>Af<|sV2 (Ah (o':=0) BS rfl rfl) (Ah (o':=0) En rfl rfl) ?_
  have q3d:=((((((((q0b.ext E1b).ext E1a).ext E0a).ext E2a).ext E5a).ext E6a).ext E9a).ext E2b).ext E3b
  refine sV3 (Ai HZ rfl (Bx.cell q3d rfl)) (Ah (o':=0) BS rfl rfl) (Ah (o':=0) En rfl rfl) ?_
  have q4d:=(((((((q6b.ext E1a).ext E0a).ext E2a).ext E5a).ext E6a).ext E9a).ext E2b).ext E3b
  refine sV (Ai HZ rfl (Bx.cell q4d rfl)) ?_
  refine sb (Pu Qv rfl rfl) fun z7a hz7a=>?_
  refine nrm ?_
  refine sV2 (Aa rfl) (Bb (vals:=[(0,.bool z7a),(1,.slice A4b (sz r3a.1) c5b)]) (cells:=[.bool z7a,.slice A4b (sz r3a.1) c5b]) (by rfl) (by kernel_rfl)) ?_
  refine sV3 (Ah (o':=2) CZ rfl rfl) (Ai FM rfl (Bx.cell q3d rfl)) (Ah (o':=2) CZ rfl rfl) ?_
  refine sV3 (Ai FM rfl (Bx.cell q4d rfl)) (BA (c:=wi64 (x0.e - x1.e)) rfl rfl rfl) (Aa rfl) ?_
  refine sV2 (BA (c:=wi64 ((wi64 (x0.e - x1.e)) - (max 0 (wi64 ((wi64 ((wi64 (x2+2))+r4a)) - r8a))))) rfl rfl rfl) (Bb (vals:=[(0,.agg #[.bool z7a,.slice A4b (sz r3a.1) c5b]),(1,.int .i64 (wi64 ((wi64 (x0.e - x1.e)) - (max 0 (wi64 ((wi64 ((wi64 (x2+2))+r4a)) - r8a))))))]) (cells:=[.bool z7a,.slice A4b (sz r3a.1) c5b,.int .i64 (wi64 ((wi64 (x0.e - x1.e)) - (max 0 (wi64 ((wi64 ((wi64 (x2+2))+r4a)) - r8a)))))]) (by rfl) (by kernel_rfl)) ?_
  refine sV3 (Aa rfl) (Aa rfl) (Aa rfl) ?_
  refine sV (AG As rfl) ?_
  refine sb (Gm rfl rfl) fun z5c hz5c=>?_
  refine nrm ?_
  obtain rfl:z7a=decide (¬x0.m.Neg=x1.m.Neg):=bz hz7a
  obtain rfl:z5c=decide (0<(sz r3a.2:Int)):=bz hz5c
  refine scn f3g (Ad KP (by rfl)) (DD (⟨(⟨(decide (¬x0.m.Neg=x1.m.Neg)),r3a.1⟩:Ae),(wi64 ((wi64 (x0.e - x1.e)) - (max 0 (wi64 ((wi64 ((wi64 (x2+2))+r4a)) - r8a)))))⟩:An) x2 x3 (decide (0<(sz r3a.2:Int))) A4b c5b w6c (tbx X2d hT) n4g) fun r1i f6g w0b A7g c8g E5d n9g=>?_
  have X0h:=xtr X2d E5d
  have q6d:=(((((((q8c.ext E0a).ext E2a).ext E5a).ext E6a).ext E9a).ext E2b).ext E3b).ext E5d
  refine ss BO q6d fun w8d U7d q1h=>?_
  have X2h:=belU X0h U7d g9c
  refine wh h5g<|wp_ret ?_
  exact CV f6g rfl (Res.cellN rfl Aw q1h rfl rfl Res.nil) (Av X2h ⟨A7g,c8g,rfl,(n9g.upd U7d q6d (by decide))⟩)
def Kc (wk w:World) (b:Nat):Option Ap→Prop
 | none=>Bx w b 124 [.pointer none]
 | some r=>∃(bs:Nat) (A1:Option Addr) (c1:Nat) (A2:Option Addr) (c2:Nat),wk.heap.size≤bs∧Bx w b 124 [.pointer (some ⟨bs,0,none⟩)]∧Bx w bs 121 [.bool r.lo.m.Neg,.slice A1 (sz r.lo.m.Abs) c1,.int .i64 r.lo.e,.bool r.hi.m.Neg,.slice A2 (sz r.hi.m.Abs) c2,.int .i64 r.hi.e]∧RU w A1 c1 r.lo.m.Abs∧RU w A2 c2 r.hi.m.Abs
theorem sq_dyad_Over_1 {n0:Nat} {wk w w':World} {b:Nat} : ∀ {o:Option Ap},Kc wk w b o→Quiet n0 w w'→Kc wk w' b o
 | none,h,q=>Bx.quiet h q
 | some _,⟨bs,A1,c1,A2,c2,g,q1,q2,n1,n2⟩,q=>⟨bs,A1,c1,A2,c2,g,q1.quiet q,q2.quiet q,n1.quiet q,n2.quiet q⟩
theorem Ma (x0:Ap) (x1:Ap) (x2:Int) (A1:Option Addr) (c2:Nat) (A4:Option Addr) (c5:Nat) (A7:Option Addr) (c8:Nat) (A0d:Option Addr) (c5d:Nat) (w:World) (hT:TB w) (n3:RU w A1 c2 x0.lo.m.Abs) (n6:RU w A4 c5 x0.hi.m.Abs) (n9:RU w A7 c8 x1.lo.m.Abs) (n5v:RU w A0d c5d x1.hi.m.Abs) (r:Except Int (Al)) (hr:Ku x0 x1 x2=some r) :
  Calls Tryz.prog 101 #[.agg #[.bool x0.lo.m.Neg,.slice A1 (sz x0.lo.m.Abs) c2,.int .i64 x0.lo.e,.bool x0.hi.m.Neg,.slice A4 (sz x0.hi.m.Abs) c5,.int .i64 x0.hi.e],.agg #[.bool x1.lo.m.Neg,.slice A7 (sz x1.lo.m.Abs) c8,.int .i64 x1.lo.e,.bool x1.hi.m.Neg,.slice A0d (sz x1.hi.m.Abs) c5d,.int .i64 x1.hi.e],.int .i64 x2] w (RetE 201 KA w r):=by
 unfold Ku at hr
 refine Pk Tryz.func101 rfl [.agg #[.bool x0.lo.m.Neg,.slice A1 (sz x0.lo.m.Abs) c2,.int .i64 x0.lo.e,.bool x0.hi.m.Neg,.slice A4 (sz x0.hi.m.Abs) c5,.int .i64 x0.hi.e],.agg #[.bool x1.lo.m.Neg,.slice A7 (sz x1.lo.m.Abs) c8,.int .i64 x1.lo.e,.bool x1.hi.m.Neg,.slice A0d (sz x1.hi.m.Abs) c5d,.int .i64 x1.hi.e],.int .i64 x2,uu,uu,uu,uu,uu,uu,uu,uu,uu,uu,uu,uu,uu,uu,uu,uu,uu,uu,uu,uu,uu,uu,uu,uu,uu,uu,uu,uu,uu,uu,uu,uu,uu,uu,uu,uu,uu,uu,uu,uu,uu,uu,uu,uu,uu,uu,uu,uu,uu,uu,uu,uu,uu,uu,uu,uu,uu,uu,uu,uu,uu,uu,uu] (by simp [Tryz.ntmps101]) ?_
 refine wp_seq_k fun _ h2ad=>Af<|Bm rfl rfl fun b5n w1 E3a0 g8b6 q3ad=>?_
 refine nrm ?_
 refine Bm rfl rfl fun b5h w2 E4a0 g4ad q6v=>?_
 refine nrm ?_
 have g9b6:=nlt E3a0.size g4ad
 have X5a0:=xtr E3a0 E4a0
 refine Bm rfl rfl fun b6n w3 E7n g5ad q6ad=>?_
 refine nrm ?_
 have g0b7:=nlt X5a0.size g5ad
 have X6a0:=xtr X5a0 E7n
 refine Ax Cv fun b8n w4 E9j g7ad q8ad=>?_
 refine nrm ?_
 have g9ad:=nlt X6a0.size g7ad
 have X0ae:=xtr X6a0 E9j
 refine wh h2ad<|wp_seq_k fun _ h1ae=>DK [] 9 mo rfl fun w5 E1j S7v=>?_
 have X8v:=xtr X0ae E1j
 refine dA 0 rfl (fun _=>Ah (o':=0) Cl rfl rfl) ?_ (hQ:=fun _ _ _ h=>dqM (rs:=[.cell 6 29]) rfl (by decide) h)
 refine dV 1 rfl (fun _ hw=>dld Aw ((((q6v.ext E7n).ext E9j).ext E1j).ext hw)) S7v ?_ (hQ:=fun _ _ _ h=>dqM (rs:=[.cell 6 29]) rfl (by decide) h)
 refine dA 3 rfl (fun _=>Ah (o':=3) Cw rfl rfl) ?_ (hQ:=fun _ _ _ h=>dqM (rs:=[.cell 6 29]) rfl (by decide) h)
 refine dV 4 rfl (fun _ hw=>dld Aw ((((q6v.ext E7n).ext E9j).ext E1j).ext hw)) S7v ?_ (hQ:=fun _ _ _ h=>dqM (rs:=[.cell 6 29]) rfl (by decide) h)
 refine dcr hr 2 rfl (by rfl) (Ad Kf (by rfl)) (CY x1.lo A7 c8 w5 (tbx X8v hT) (n9.ext X8v)) fun r0h f2ae w6 E0k=>?_
 have X9v:=xtr X8v E0k
 have S3ae:=S7v.trans E0k
 refine dcr f2ae 5 rfl (by rfl) (Ad Kf (by rfl)) (CY x1.hi A0d c5d w6 (tbx X9v hT) (n5v.ext X9v)) fun r1h f4ae w7 E1k=>?_
 have X8p:=xtr X9v E1k
 have S5ae:=S3ae.trans E1k
 refine dA 6 rfl (fun _=>Lg (c:=wi64 (r0h*r1h)) rfl rfl rfl) ?_ (hQ:=fun _ _ _ h=>dqM (rs:=[.cell 6 29]) rfl (by decide) h)
 refine dab 7 rfl (by kernel_rfl) (fun _ _ _ h=>dqM (rs:=[.cell 6 29]) rfl (by decide) h) (by rfl) (fun _=>Gm rfl rfl) fun z0w hz0w=>?_
 refine dnrm ?_
 obtain rfl:z0w=decide (0<(wi64 (r0h*r1h))):=bz hz0w
 rcases AF f4ae with ⟨r1w,h2w,f6ae⟩ | ⟨r1w,h2w,rfl⟩
 ·refine dcO 8 rfl (by kernel_rfl) (by rfl) (Ad DY (by rfl)) (AZ (decide (0<(wi64 (r0h*r1h)))) 8 w7 (tbx X8p hT)  (.ok r1w) h2w) ?_
  rintro _ w8 E2i rfl
  refine dnrm ?_
  have X7a0:=xtr X8p E2i
  have S1b7:=S5ae.trans E2i
  refine CE (by kernel_rfl) ?_
  refine h1ae _ _<|wp_seq_k fun _ h7ae=>Af<|Ax QK fun b9p w9 E9n g8ae q9ae=>?_
  refine nrm ?_
  have g0af:=nlt X7a0.size g8ae
  have X3w:=xtr X7a0 E9n
  refine wh h7ae<|wp_seq_k fun _ h1af=>wp_seq_k fun _ h2af=>Af<|have q4w:=(((((((q3ad.ext E4a0).ext E7n).ext E9j).ext E1j).ext E0k).ext E1k).ext E2i).ext E9n;sV (Am Kz rfl q4w rfl) ?_
  have q5w:=((((((q6v.ext E7n).ext E9j).ext E1j).ext E0k).ext E1k).ext E2i).ext E9n
  refine sV (Am Kz rfl q5w rfl) ?_
  refine scc (by rfl) (Ad QO rfl) (Lk (.bool x0.lo.m.Neg:Value) (.slice A1 (sz x0.lo.m.Abs) c2:Value) (.int .i64 x0.lo.e:Value) (.bool x0.hi.m.Neg:Value) (.slice A4 (sz x0.hi.m.Abs) c5:Value) (.int .i64 x0.hi.e:Value) (.bool x1.lo.m.Neg:Value) (.slice A7 (sz x1.lo.m.Abs) c8:Value) (.int .i64 x1.lo.e:Value) (.bool x1.hi.m.Neg:Value) (.slice A0d (sz x1.hi.m.Abs) c5d:Value) (.int .i64 x1.hi.e:Value) w9) fun b2k b3k w0d E3i g3af g4af ne2b7 q8a0 q9a0=>nrm ?_
  have g3b7:=nlt X3w.size g3af
  have g4b7:=nlt X3w.size g4af
  have X6w:=xtr X3w E3i
  refine wh h2af ?_
  apply wp_block
  obtain ⟨s0a1,h1a1,f5af⟩:=Ac f6ae
  obtain ⟨s7w,h6af,f7af⟩:=Ac f5af
  obtain ⟨s8w,h8af,f9af⟩:=Ac f7af
  obtain ⟨s0q,h0ag,f1ag⟩:=Ac f9af
  obtain ⟨o9w,hO⟩:∃o:Nat→Option Ap,o=(fun i:Nat=>match i with | 0=>none | 1=>some s0a1 | 2=>some s7w | 3=>some s8w | _=>some s0q):=⟨_,rfl⟩
  have hall2ag:∀i,1≤i→i<4→∃(sr:Ap) (x y:An) (AX:Option Addr) (cX:Nat) (AY:Option Addr) (cY:Nat) (s':Ap),(encs (.bool x0.lo.m.Neg:Value) (.slice A1 (sz x0.lo.m.Abs) c2:Value) (.int .i64 x0.lo.e:Value) (.bool x0.hi.m.Neg:Value) (.slice A4 (sz x0.hi.m.Abs) c5:Value) (.int .i64 x0.hi.e:Value) (.bool x1.lo.m.Neg:Value) (.slice A7 (sz x1.lo.m.Abs) c8:Value) (.int .i64 x1.lo.e:Value) (.bool x1.hi.m.Neg:Value) (.slice A0d (sz x1.hi.m.Abs) c5d:Value) (.int .i64 x1.hi.e:Value)) i = #[.agg #[.bool x.m.Neg,.slice AX (sz x.m.Abs) cX,.int .i64 x.e],.agg #[.bool y.m.Neg,.slice AY (sz y.m.Abs) cY,.int .i64 y.e]]∧RU w AX cX x.m.Abs∧RU w AY cY y.m.Abs∧o9w i=some sr∧o9w (i+1)=some s'∧HN x0 x1 x2 sr x y=some s':=by
   subst hO
   rintro (_ | _ | _ | _ | i) h h'
   ·omega
   ·exact ⟨s0a1,x0.lo,x1.hi,_,_,_,_,s7w,rfl,n3,n5v,rfl,rfl,h6af⟩
   ·exact ⟨s7w,x0.hi,x1.lo,_,_,_,_,s8w,rfl,n6,n9,rfl,rfl,h8af⟩
   ·exact ⟨s8w,x0.hi,x1.hi,_,_,_,_,s0q,rfl,n6,n5v,rfl,rfl,h0ag⟩
   ·omega
  refine rf (N:=4) (n0:=w.heap.size) (encs:=(encs (.bool x0.lo.m.Neg:Value) (.slice A1 (sz x0.lo.m.Abs) c2:Value) (.int .i64 x0.lo.e:Value) (.bool x0.hi.m.Neg:Value) (.slice A4 (sz x0.hi.m.Abs) c5:Value) (.int .i64 x0.hi.e:Value) (.bool x1.lo.m.Neg:Value) (.slice A7 (sz x1.lo.m.Abs) c8:Value) (.int .i64 x1.lo.e:Value) (.bool x1.hi.m.Neg:Value) (.slice A0d (sz x1.hi.m.Abs) c5d:Value) (.int .i64 x1.hi.e:Value))) (I:=fun i w'=>Ext w w'∧w0d.heap.size≤w'.heap.size∧Bx w' b5n 121 [.bool x0.lo.m.Neg,.slice A1 (sz x0.lo.m.Abs) c2,.int .i64 x0.lo.e,.bool x0.hi.m.Neg,.slice A4 (sz x0.hi.m.Abs) c5,.int .i64 x0.hi.e]∧Bx w' b5h 121 [.bool x1.lo.m.Neg,.slice A7 (sz x1.lo.m.Abs) c8,.int .i64 x1.lo.e,.bool x1.hi.m.Neg,.slice A0d (sz x1.hi.m.Abs) c5d,.int .i64 x1.hi.e]∧Bx w' b6n 3 [.int .i64 x2]∧Bx w' b8n 29 [.bool false,.slice none 0 0,.int .i64 0,.bool false,.slice none 0 0,.int .i64 0]∧Bx w' b2k 121 [.bool x0.lo.m.Neg,.slice A1 (sz x0.lo.m.Abs) c2,.int .i64 x0.lo.e,.bool x0.hi.m.Neg,.slice A4 (sz x0.hi.m.Abs) c5,.int .i64 x0.hi.e]∧Bx w' b3k 121 [.bool x1.lo.m.Neg,.slice A7 (sz x1.lo.m.Abs) c8,.int .i64 x1.lo.e,.bool x1.hi.m.Neg,.slice A0d (sz x1.hi.m.Abs) c5d,.int .i64 x1.hi.e]∧Kc w0d w' b9p (o9w i)) rfl Rn X6w.size (QD (.bool x0.lo.m.Neg:Value) (.slice A1 (sz x0.lo.m.Abs) c2:Value) (.int .i64 x0.lo.e:Value) (.bool x0.hi.m.Neg:Value) (.slice A4 (sz x0.hi.m.Abs) c5:Value) (.int .i64 x0.hi.e:Value) (.bool x1.lo.m.Neg:Value) (.slice A7 (sz x1.lo.m.Abs) c8:Value) (.int .i64 x1.lo.e:Value) (.bool x1.hi.m.Neg:Value) (.slice A0d (sz x1.hi.m.Abs) c5d:Value) (.int .i64 x1.hi.e:Value) b2k b3k _ (by rintro i W ⟨_,_,_,_,_,_,qa,qb,_⟩;exact ⟨qa,qb⟩)) (by rintro (_ | _ | _ | _)<;>rfl) ?_ ?_ ?_ ?_
  ·rintro i W W' ⟨hX,hK,q_b5n,q_b5h,q_b6n,q_b8n,q_b2k,q_b3k,hS⟩ hq
   exact ⟨belQ hX hq hX.size,nlt hK hq.size,q_b5n.quiet hq,q_b5h.quiet hq,q_b6n.quiet hq,q_b8n.quiet hq,q_b2k.quiet hq,q_b3k.quiet hq,sq_dyad_Over_1 hS hq⟩
  ·subst hO
   have q6h:=((((((q6ad.ext E9j).ext E1j).ext E0k).ext E1k).ext E2i).ext E9n).ext E3i
   have q0x:=(((((q8ad.ext E1j).ext E0k).ext E1k).ext E2i).ext E9n).ext E3i
   exact ⟨X6w,Nat.le_refl _,(q4w.ext E3i),(q5w.ext E3i),q6h,q0x,q8a0,q9a0,(q9ae.ext E3i)⟩
  ·intro l i w7c hi hI
   obtain ⟨hX,hK,q7h,q8h,q2e,q7c,q2g,q3g,hS⟩:=hI
   rcases Nat.eq_zero_or_pos i with rfl | hpos
   ·subst hO
    skip
    have q9h:Bx w7c b9p 124 [.pointer none]:=hS
    unfold LJ at h1a1
    refine Lu (actPQ rfl (by simp only [S0,S1];rfl)) ?_
    refine wpIn_seq_k fun _ h1x=>IL (by rfl) (fun ⟨_,_,h⟩=>h)<|Ax Bn fun b2x w2g E1q g0o q1o=>?_
    refine nrm ?_
    have g4k:=nlt (nlt hX.size (Rd.refl w.heap.size w7c).size) g0o
    refine ss BO q1o fun w3g U2j q2q=>?_
    have F7a:=belU E1q U2j g0o
    have X5k:=(Rd.refl w.heap.size w7c).ext F7a
    refine wh h1x<|IL (by rfl) (fun ⟨_,_,h⟩=>h)<|Ax Bn fun b3ag w4ag E5ag g2a1 q6ag=>?_
    refine nrm ?_
    have g5b7:=nlt (nlt hX.size X5k.size) g2a1
    refine ss BO q6ag fun w7ag U8ag q3a1=>?_
    have F6a:=belU E5ag U8ag g2a1
    have X3j:=X5k.ext F6a
    refine AK ?_
    refine ⟨X3j,?_⟩
    intro w3x hq
    refine have hE1:=belR hX X3j hX.size;have hE2:=belQ hE1 hq hE1.size;wpIn_block<|wpIn_seq_k fun _ h9ag=>NM (by rfl) (fun ⟨_,_,h⟩=>h) [10,11] 12 mo rfl fun w6h E2a S4j=>have X1d:=(Rd.refl w.heap.size w3x).ext E2a;dV 0 rfl (fun _ hw=>Am Aw rfl ((((q2q.ext F6a).quiet hq).ext E2a).ext hw) rfl) S4j ?_
    refine dV 1 rfl (fun _ hw=>Am Aw rfl (((q3a1.quiet hq).ext E2a).ext hw) rfl) S4j ?_
    refine dV 2 rfl (fun _ hw=>Ai FM rfl (Bx.cell (((((q2e.ext F7a).ext F6a).quiet hq).ext E2a).ext hw) rfl)) S4j ?_
    refine dV 4 rfl (fun _ hw=>Am Aw rfl ((((q2q.ext F6a).quiet hq).ext E2a).ext hw) rfl) S4j ?_
    refine dV 5 rfl (fun _ hw=>Am Aw rfl (((q3a1.quiet hq).ext E2a).ext hw) rfl) S4j ?_
    refine dV 6 rfl (fun _ hw=>Ai FM rfl (Bx.cell (((((q2e.ext F7a).ext F6a).quiet hq).ext E2a).ext hw) rfl)) S4j ?_
    have n6d:=((((n3.ext hX).ext F7a).ext F6a).quiet hq).ext E2a
    have n7d:=((((n9.ext hX).ext F7a).ext F6a).quiet hq).ext E2a
    obtain ⟨r8b,h2o,f0ah⟩:=Ac h1a1
    obtain ⟨r0b,h4g,f1ah⟩:=Ac f0ah
    refine Pd #[true,true,true,true,true,true,true,true,true,true,false,false] 2 (fun l' w'=>∃(A6f:Option Addr) (c7f:Nat) (A2f:Option Addr) (c3f:Nat) (b3o:Nat) (b4o:Nat),Ext w6h w'∧RU w' A6f c7f r8b.m.Abs∧RU w' A2f c3f r0b.m.Abs∧w6h.heap.size≤b3o∧Bx w' b3o 119 [.bool false,.slice none 0 0,.int .i64 0]∧w6h.heap.size≤b4o∧Bx w' b4o 119 [.bool false,.slice none 0 0,.int .i64 0]∧b3o≠b4o∧l'=[.agg #[.bool x0.lo.m.Neg,.slice A1 (sz x0.lo.m.Abs) c2,.int .i64 x0.lo.e,.bool x0.hi.m.Neg,.slice A4 (sz x0.hi.m.Abs) c5,.int .i64 x0.hi.e],.agg #[.bool x1.lo.m.Neg,.slice A7 (sz x1.lo.m.Abs) c8,.int .i64 x1.lo.e,.bool x1.hi.m.Neg,.slice A0d (sz x1.hi.m.Abs) c5d,.int .i64 x1.hi.e],.int .i64 x2,.pointer (some ⟨b5n,0,none⟩),.pointer (some ⟨b5h,0,none⟩),.pointer (some ⟨b6n,0,none⟩),.pointer (some ⟨b8n,0,none⟩),.pointer (some ⟨b9p,0,none⟩),.pointer (some ⟨b2x,0,none⟩),.pointer (some ⟨b3ag,0,none⟩),.pointer (some ⟨b3o,0,none⟩),.pointer (some ⟨b4o,0,none⟩),.pointer (some ⟨b5h,0,none⟩),.agg #[.bool x1.lo.m.Neg,.slice A7 (sz x1.lo.m.Abs) c8,.int .i64 x1.lo.e],.int .i64 r0h,.pointer (some ⟨b5h,3,none⟩),.agg #[.bool x1.hi.m.Neg,.slice A0d (sz x1.hi.m.Abs) c5d,.int .i64 x1.hi.e],.int .i64 r1h,.int .i64 (wi64 (r0h*r1h)),.bool (decide (0<(wi64 (r0h*r1h)))),.tuple #[],.agg #[.bool x0.lo.m.Neg,.slice A1 (sz x0.lo.m.Abs) c2,.int .i64 x0.lo.e,.bool x0.hi.m.Neg,.slice A4 (sz x0.hi.m.Abs) c5,.int .i64 x0.hi.e],.agg #[.bool x1.lo.m.Neg,.slice A7 (sz x1.lo.m.Abs) c8,.int .i64 x1.lo.e,.bool x1.hi.m.Neg,.slice A0d (sz x1.hi.m.Abs) c5d,.int .i64 x1.hi.e],.func (.func 183) #[] #[.pointer (some ⟨b2k,0,none⟩),.pointer (some ⟨b3k,0,none⟩)],.agg #[.bool x0.lo.m.Neg,.slice A1 (sz x0.lo.m.Abs) c2,.int .i64 x0.lo.e],.agg #[.bool x1.lo.m.Neg,.slice A7 (sz x1.lo.m.Abs) c8,.int .i64 x1.lo.e],.agg #[.bool x0.lo.m.Neg,.slice A1 (sz x0.lo.m.Abs) c2,.int .i64 x0.lo.e],.agg #[.bool x1.lo.m.Neg,.slice A7 (sz x1.lo.m.Abs) c8,.int .i64 x1.lo.e],.int .i64 x2,.agg #[.bool r8b.m.Neg,.slice A6f (sz r8b.m.Abs) c7f,.int .i64 r8b.e],.agg #[.bool x0.lo.m.Neg,.slice A1 (sz x0.lo.m.Abs) c2,.int .i64 x0.lo.e],.agg #[.bool x1.lo.m.Neg,.slice A7 (sz x1.lo.m.Abs) c8,.int .i64 x1.lo.e],.int .i64 x2,.agg #[.bool r0b.m.Neg,.slice A2f (sz r0b.m.Abs) c3f,.int .i64 r0b.e],uu,uu,uu,uu,uu,uu,uu,uu,uu,uu,uu,uu,uu,uu,uu,uu,uu,uu,uu,uu,uu,uu,uu,uu,uu,uu,uu,uu,uu,uu,uu,uu]) ?_ ?_
    ·rintro _ w0x ⟨A6f,c7f,A2f,c3f,b3o,b4o,E9a,n2ah,n3ah,g4ah,q5g,g5ah,q6g,ne3e,rfl⟩
     have g6ah:=nlt (nlt (nlt (nlt hX.size X3j.size) hq.size) X1d.size) g4ah
     have g7ah:=nlt (nlt (nlt (nlt hX.size X3j.size) hq.size) X1d.size) g5ah
     have X8ah:=X1d.ext E9a
     have S6b7:=S4j.trans E9a
     refine dkk 10 BO q5g fun w1x U4a q4x=>?_
     have X9ah:=X8ah.upd U4a g6ah q5g
     refine dkk 11 BO (q6g.upd U4a (Ne.symm ne3e)) fun w2x U9b q3q=>?_
     have X4a1:=X9ah.upd U9b g7ah (q6g.upd U4a (Ne.symm ne3e))
     refine CE (by kernel_rfl) ?_
     refine h9ag _ _<|wpIn_seq_k fun _ h0ai=>wpIn_seq_k fun _ h1ai=>IL (by rfl) (fun ⟨_,_,h⟩=>h)<|have ne4q:=(Bx.neT (((((q9h.ext F7a).ext F6a).quiet hq).ext E2a).ext E9a) q5g (by decide));have ne5q:=(Bx.neT ((((((q9h.ext F7a).ext F6a).quiet hq).ext E2a).ext E9a).upd U4a ne4q) (q6g.upd U4a (Ne.symm ne3e)) (by decide));have q8f:=((((((q9h.ext F7a).ext F6a).quiet hq).ext E2a).ext E9a).upd U4a ne4q).upd U9b ne5q;sV2 (Ai Gp rfl (Bx.cell q8f rfl)) (Rs OF rfl) ?_
     refine wh h1ai<|wpIn_cond_true (Ak (evb rfl rfl))<|IL (by rfl) (fun ⟨_,_,h⟩=>h)<|sV3 (Am Aw rfl (q4x.upd U9b ne3e) rfl) (Am Aw rfl q3q rfl) (Bb (vals:=[(0,.agg #[.bool r8b.m.Neg,.slice A6f (sz r8b.m.Abs) c7f,.int .i64 r8b.e]),(1,.agg #[.bool r0b.m.Neg,.slice A2f (sz r0b.m.Abs) c3f,.int .i64 r0b.e])]) (cells:=[.bool r8b.m.Neg,.slice A6f (sz r8b.m.Abs) c7f,.int .i64 r8b.e,.bool r0b.m.Neg,.slice A2f (sz r0b.m.Abs) c3f,.int .i64 r0b.e]) (by rfl) (by kernel_rfl)) ?_
     refine Bm rfl rfl fun b7g w1q E1b g6k q2h=>?_
     refine nrm ?_
     have g5a1:=nlt (nlt (nlt (nlt hX.size X3j.size) hq.size) X4a1.size) g6k
     have X2ai:=X4a1.ext E1b
     refine ss Qz (q8f.ext E1b) fun w0o U0c q5o=>?_
     have X3ai:=X2ai.upd U0c g0af (q8f.ext E1b)
     refine wh h0ai<|wpIn_seq_k fun _ h4ai=>wpIn_seq_k fun _ h5ai=>NM (by rfl) (fun ⟨_,_,h⟩=>h) [] 7 mo rfl fun w1o E5b S6q=>have X6a1:=X3ai.ext E5b;dV 0 rfl (fun _ hw=>Am Aw rfl (((((q4x.upd U9b ne3e).ext E1b).upd U0c (Ne.symm ne4q)).ext E5b).ext hw) rfl) S6q ?_
     refine dV 1 rfl (fun _ hw=>Ai Gp rfl (Bx.cell ((q5o.ext E5b).ext hw) rfl)) S6q ?_
     refine dA 2 rfl (fun _=>Bv rfl) ?_
     refine dA 3 rfl (fun _=>Ah (o':=0) Cl rfl rfl) ?_
     have ne4f:=(Bx.neT q2h (q8f.ext E1b) (by decide))
     refine dV 4 rfl (fun _ hw=>dld Aw (((q2h.upd U0c ne4f).ext E5b).ext hw)) S6q ?_
     have n5x:=((((n2ah.upd U4a q5g (by decide)).upd U9b (q6g.upd U4a (Ne.symm ne3e)) (by decide)).ext E1b).upd U0c (q8f.ext E1b) (by decide)).ext E5b
     refine dcr f1ah 5 rfl (by rfl) (Ad HJ (by rfl)) (BN r8b r8b A6f c7f A6f c7f w1o (tbx (belR hE2 X6a1 hE2.size) hT) n5x n5x) fun r7b7 f6ai w4k E7b=>?_
     have X7ai:=X6a1.ext E7b
     have S8b7:=S6q.trans E7b
     refine dab 6 rfl (by kernel_rfl) (fun _ _ _ h=>h) (by rfl) (fun _=>Cn rfl rfl) fun z7a1 hz7a1=>?_
     refine dnrm ?_
     refine CE (by kernel_rfl) ?_
     refine h5ai _ _ ?_
     obtain ⟨m9b7,h8ai,f9ai⟩:=Ac f6ai
     refine LK (fun l l' w'=>∃(t8a1:Value) (t9a1:Value) (t0a2:Value) (t1a2:Value),UpdS [b7g] w4k w'∧Bx w' b7g 121 [.bool r8b.m.Neg,.slice A6f (sz r8b.m.Abs) c7f,.int .i64 r8b.e,.bool r0b.m.Neg,.slice A2f (sz r0b.m.Abs) c3f,.int .i64 r0b.e]∧l'=((((l.set 47 t8a1).set 48 t9a1).set 49 t0a2).set 50 t1a2)) ?_ ?_
     ·rcases zi hz7a1 h8ai with ⟨e6x,_,f0aj⟩ | ⟨e6x,_,f1aj⟩
      ·refine wpIn_cond_true (Ak (evb rfl e6x))<|IL (by rfl) (fun ⟨_,_,h⟩=>h)<|sV (Ai Gp rfl (Bx.cell ((q5o.ext E5b).ext E7b) rfl)) ?_
       have q2aj:=((((q4x.upd U9b ne3e).ext E1b).upd U0c (Ne.symm ne4q)).ext E5b).ext E7b
       refine sV3 (Am Aw rfl q2aj rfl) (Bv rfl) (Ah (o':=0) Cl rfl rfl) ?_
       have q3aj:=((q2h.upd U0c ne4f).ext E5b).ext E7b
       refine ss BO q3aj fun w7x U4aj q5aj=>?_
       refine AK ?_
       obtain rfl:=sj f0aj
       exact ⟨_,rfl,(.pointer (some ⟨b7g,0,none⟩)),(.agg #[.bool r8b.m.Neg,.slice A6f (sz r8b.m.Abs) c7f,.int .i64 r8b.e]),(.pointer (some ⟨b7g,0,none⟩)),(.pointer (some ⟨b7g,0,none⟩)),((UpdS.refl _ _).upd U4aj (.inl im0)),q5aj,(by kernel_rfl)⟩
      ·refine wpIn_cond_false (Ak (evb rfl e6x))<|wpIn_skip ?_
       have q6aj:=((q2h.upd U0c ne4f).ext E5b).ext E7b
       obtain rfl:=sj f1aj
       exact ⟨_,rfl,uu,uu,uu,uu,(UpdS.refl _ _),q6aj,(by kernel_rfl)⟩
     ·rintro l' w7x ⟨t8a1,t9a1,t0a2,t1a2,U4e,q7k,hq'⟩ l'' hl
      rw [hq'] at hl
      clear hq'
      simp only [S0,S1] at hl
      subst hl
      have X7aj:=X7ai.updS U4e (alc ⟨g5a1,_,_,((q2h.upd U0c ne4f).ext E5b).ext E7b⟩ al0)
      refine h4ai _ _<|wpIn_seq_k fun _ h8aj=>NM (by rfl) (fun ⟨_,_,h⟩=>h) [] 7 mo rfl fun w2j E8c S7q=>have X2a2:=X7aj.ext E8c;have ne3a2:=(Bx.neT ((((q3q.ext E1b).upd U0c (Ne.symm ne5q)).ext E5b).ext E7b) (((q2h.upd U0c ne4f).ext E5b).ext E7b) (by decide));dV 0 rfl (fun _ hw=>Am Aw rfl (((((((q3q.ext E1b).upd U0c (Ne.symm ne5q)).ext E5b).ext E7b).updS U4e (nmc ne3a2 nm0)).ext E8c).ext hw) rfl) S7q ?_
      refine dV 1 rfl (fun _ hw=>Ai Gp rfl (Bx.cell (((((q5o.ext E5b).ext E7b).updS U4e (nmc (Ne.symm ne4f) nm0)).ext E8c).ext hw) rfl)) S7q ?_
      refine dA 2 rfl (fun _=>Bv rfl) ?_
      refine dA 3 rfl (fun _=>Ah (o':=3) Cw rfl rfl) ?_
      refine dV 4 rfl (fun _ hw=>dld Aw ((q7k.ext E8c).ext hw)) S7q ?_
      have n8x:RU w2j A2f c3f r0b.m.Abs:=(((((((n3ah.upd U4a q5g (by decide)).upd U9b (q6g.upd U4a (Ne.symm ne3e)) (by decide)).ext E1b).upd U0c (q8f.ext E1b) (by decide)).ext E5b).ext E7b).updS U4e (alc ⟨_,_,by decide,((q2h.upd U0c ne4f).ext E5b).ext E7b⟩ al0)).ext E8c
      refine dcr f9ai 5 rfl (by rfl) (Ad HJ (by rfl)) (BN r0b r0b A2f c3f A2f c3f w2j (tbx (belR hE2 X2a2 hE2.size) hT) n8x n8x) fun r0b8 f9aj w2q E4d=>?_
      have X0ak:=X2a2.ext E4d
      have S1b8:=S7q.trans E4d
      refine dab 6 rfl (by kernel_rfl) (fun _ _ _ h=>h) (by rfl) (fun _=>Gm rfl rfl) fun z4a2 hz4a2=>?_
      refine dnrm ?_
      refine CE (by kernel_rfl) ?_
      refine h8aj _ _ ?_
      obtain ⟨m2b8,h1ak,f2ak⟩:=Ac f9aj
      refine LK (fun l l' w'=>∃(t5a2:Value) (t6a2:Value) (t7a2:Value) (t8a2:Value),UpdS [b7g] w2q w'∧Bx w' b7g 121 [.bool r8b.m.Neg,.slice A6f (sz r8b.m.Abs) c7f,.int .i64 r8b.e,.bool r0b.m.Neg,.slice A2f (sz r0b.m.Abs) c3f,.int .i64 r0b.e]∧l'=((((l.set 58 t5a2).set 59 t6a2).set 60 t7a2).set 61 t8a2)) ?_ ?_
      ·rcases zi hz4a2 h1ak with ⟨e9x,_,f3ak⟩ | ⟨e9x,_,f4ak⟩
       ·refine wpIn_cond_true (Ak (evb rfl e9x))<|IL (by rfl) (fun ⟨_,_,h⟩=>h)<|have q5ak:=((((q5o.ext E5b).ext E7b).updS U4e (nmc (Ne.symm ne4f) nm0)).ext E8c).ext E4d;sV (Ai Gp rfl (Bx.cell q5ak rfl)) ?_
        have q6ak:=((((((q3q.ext E1b).upd U0c (Ne.symm ne5q)).ext E5b).ext E7b).updS U4e (nmc ne3a2 nm0)).ext E8c).ext E4d
        refine sV3 (Am Aw rfl q6ak rfl) (Bv rfl) (Ah (o':=3) Cw rfl rfl) ?_
        refine ss BO ((q7k.ext E8c).ext E4d) fun w5k U7ak q8ak=>?_
        refine AK ?_
        obtain rfl:=sj f3ak
        exact ⟨_,rfl,(.pointer (some ⟨b7g,0,none⟩)),(.agg #[.bool r0b.m.Neg,.slice A2f (sz r0b.m.Abs) c3f,.int .i64 r0b.e]),(.pointer (some ⟨b7g,0,none⟩)),(.pointer (some ⟨b7g,3,none⟩)),((UpdS.refl _ _).upd U7ak (.inl im0)),q8ak,(by kernel_rfl)⟩
       ·refine wpIn_cond_false (Ak (evb rfl e9x))<|wpIn_skip ?_
        obtain rfl:=sj f4ak
        exact ⟨_,rfl,uu,uu,uu,uu,(UpdS.refl _ _),((q7k.ext E8c).ext E4d),(by kernel_rfl)⟩
      ·rintro l' w5k ⟨t5a2,t6a2,t7a2,t8a2,U3h,q9ak,hq'⟩ l'' hl
       rw [hq'] at hl
       clear hq'
       simp only [S0,S1] at hl
       subst hl
       have X0y:=X0ak.updS U3h (alc ⟨g5a1,_,_,(q7k.ext E8c).ext E4d⟩ al0)
       have hE3:=belR hE2 X0y hE2.size
       have ne8q:=(Bx.neT (((((q7h.ext F7a).ext F6a).quiet hq).ext E2a).ext E9a) q5g (by decide))
       have ne1y:=(Bx.neT ((((((q7h.ext F7a).ext F6a).quiet hq).ext E2a).ext E9a).upd U4a ne8q) (q6g.upd U4a (Ne.symm ne3e)) (by decide))
       have ne0al:=(Bx.neT ((((((((q7h.ext F7a).ext F6a).quiet hq).ext E2a).ext E9a).upd U4a ne8q).upd U9b ne1y).ext E1b) (q8f.ext E1b) (by decide))
       have ne9a2:=(Bx.ne (((((((q7h.ext F7a).ext F6a).quiet hq).ext E2a).ext E9a).upd U4a ne8q).upd U9b ne1y) g6k)
       have q1al:=((((((((((((((q7h.ext F7a).ext F6a).quiet hq).ext E2a).ext E9a).upd U4a ne8q).upd U9b ne1y).ext E1b).upd U0c ne0al).ext E5b).ext E7b).updS U4e (nmc ne9a2 nm0)).ext E8c).ext E4d).updS U3h (nmc ne9a2 nm0)
       have ne9q:=(Bx.neT (((((q8h.ext F7a).ext F6a).quiet hq).ext E2a).ext E9a) q5g (by decide))
       have ne2y:=(Bx.neT ((((((q8h.ext F7a).ext F6a).quiet hq).ext E2a).ext E9a).upd U4a ne9q) (q6g.upd U4a (Ne.symm ne3e)) (by decide))
       have ne2al:=(Bx.neT ((((((((q8h.ext F7a).ext F6a).quiet hq).ext E2a).ext E9a).upd U4a ne9q).upd U9b ne2y).ext E1b) (q8f.ext E1b) (by decide))
       have ne0a3:=(Bx.ne (((((((q8h.ext F7a).ext F6a).quiet hq).ext E2a).ext E9a).upd U4a ne9q).upd U9b ne2y) g6k)
       have q3al:=((((((((((((((q8h.ext F7a).ext F6a).quiet hq).ext E2a).ext E9a).upd U4a ne9q).upd U9b ne2y).ext E1b).upd U0c ne2al).ext E5b).ext E7b).updS U4e (nmc ne0a3 nm0)).ext E8c).ext E4d).updS U3h (nmc ne0a3 nm0)
       have ne0r:=(Bx.neT (((((q2e.ext F7a).ext F6a).quiet hq).ext E2a).ext E9a) q5g (by decide))
       have ne3y:=(Bx.neT ((((((q2e.ext F7a).ext F6a).quiet hq).ext E2a).ext E9a).upd U4a ne0r) (q6g.upd U4a (Ne.symm ne3e)) (by decide))
       have ne1a3:=(Bx.neT ((((((((q2e.ext F7a).ext F6a).quiet hq).ext E2a).ext E9a).upd U4a ne0r).upd U9b ne3y).ext E1b) (q8f.ext E1b) (by decide))
       have ne2a3:=(Bx.neT (((((((((((q2e.ext F7a).ext F6a).quiet hq).ext E2a).ext E9a).upd U4a ne0r).upd U9b ne3y).ext E1b).upd U0c ne1a3).ext E5b).ext E7b) (((q2h.upd U0c ne4f).ext E5b).ext E7b) (by decide))
       have q4al:=((((((((((((((q2e.ext F7a).ext F6a).quiet hq).ext E2a).ext E9a).upd U4a ne0r).upd U9b ne3y).ext E1b).upd U0c ne1a3).ext E5b).ext E7b).updS U4e (nmc ne2a3 nm0)).ext E8c).ext E4d).updS U3h (nmc ne2a3 nm0)
       have ne1r:=(Bx.neT (((((q7c.ext F7a).ext F6a).quiet hq).ext E2a).ext E9a) q5g (by decide))
       have ne4y:=(Bx.neT ((((((q7c.ext F7a).ext F6a).quiet hq).ext E2a).ext E9a).upd U4a ne1r) (q6g.upd U4a (Ne.symm ne3e)) (by decide))
       have ne3a3:=(Bx.neT ((((((((q7c.ext F7a).ext F6a).quiet hq).ext E2a).ext E9a).upd U4a ne1r).upd U9b ne4y).ext E1b) (q8f.ext E1b) (by decide))
       have ne4a3:=(Bx.neT (((((((((((q7c.ext F7a).ext F6a).quiet hq).ext E2a).ext E9a).upd U4a ne1r).upd U9b ne4y).ext E1b).upd U0c ne3a3).ext E5b).ext E7b) (((q2h.upd U0c ne4f).ext E5b).ext E7b) (by decide))
       have q5al:=((((((((((((((q7c.ext F7a).ext F6a).quiet hq).ext E2a).ext E9a).upd U4a ne1r).upd U9b ne4y).ext E1b).upd U0c ne3a3).ext E5b).ext E7b).updS U4e (nmc ne4a3 nm0)).ext E8c).ext E4d).updS U3h (nmc ne4a3 nm0)
       have ne2r:=(Bx.neT (((((q2g.ext F7a).ext F6a).quiet hq).ext E2a).ext E9a) q5g (by decide))
       have ne5y:=(Bx.neT ((((((q2g.ext F7a).ext F6a).quiet hq).ext E2a).ext E9a).upd U4a ne2r) (q6g.upd U4a (Ne.symm ne3e)) (by decide))
       have ne6al:=(Bx.neT ((((((((q2g.ext F7a).ext F6a).quiet hq).ext E2a).ext E9a).upd U4a ne2r).upd U9b ne5y).ext E1b) (q8f.ext E1b) (by decide))
       have ne5a3:=(Bx.ne (((((((q2g.ext F7a).ext F6a).quiet hq).ext E2a).ext E9a).upd U4a ne2r).upd U9b ne5y) g6k)
       have q7al:=((((((((((((((q2g.ext F7a).ext F6a).quiet hq).ext E2a).ext E9a).upd U4a ne2r).upd U9b ne5y).ext E1b).upd U0c ne6al).ext E5b).ext E7b).updS U4e (nmc ne5a3 nm0)).ext E8c).ext E4d).updS U3h (nmc ne5a3 nm0)
       have ne3r:=(Bx.neT (((((q3g.ext F7a).ext F6a).quiet hq).ext E2a).ext E9a) q5g (by decide))
       have ne6y:=(Bx.neT ((((((q3g.ext F7a).ext F6a).quiet hq).ext E2a).ext E9a).upd U4a ne3r) (q6g.upd U4a (Ne.symm ne3e)) (by decide))
       have ne8al:=(Bx.neT ((((((((q3g.ext F7a).ext F6a).quiet hq).ext E2a).ext E9a).upd U4a ne3r).upd U9b ne6y).ext E1b) (q8f.ext E1b) (by decide))
       have ne6a3:=(Bx.ne (((((((q3g.ext F7a).ext F6a).quiet hq).ext E2a).ext E9a).upd U4a ne3r).upd U9b ne6y) g6k)
       have q9al:=((((((((((((((q3g.ext F7a).ext F6a).quiet hq).ext E2a).ext E9a).upd U4a ne3r).upd U9b ne6y).ext E1b).upd U0c ne8al).ext E5b).ext E7b).updS U4e (nmc ne6a3 nm0)).ext E8c).ext E4d).updS U3h (nmc ne6a3 nm0)
       have q0am:=(((((q5o.ext E5b).ext E7b).updS U4e (nmc (Ne.symm ne4f) nm0)).ext E8c).ext E4d).updS U3h (nmc (Ne.symm ne4f) nm0)
       have n1am:RU w5k A6f c7f r8b.m.Abs:=((((n5x.ext E7b).updS U4e (alc ⟨_,_,by decide,((q2h.upd U0c ne4f).ext E5b).ext E7b⟩ al0)).ext E8c).ext E4d).updS U3h (alc ⟨_,_,by decide,(q7k.ext E8c).ext E4d⟩ al0)
       have n2am:RU w5k A2f c3f r0b.m.Abs:=(n8x.ext E4d).updS U3h (alc ⟨_,_,by decide,(q7k.ext E8c).ext E4d⟩ al0)
       obtain rfl:=sj f2ak
       exact ⟨X0y,hE3,nlt (nlt (nlt hK X3j.size) hq.size) X0y.size,q1al,q3al,q4al,q5al,q7al,q9al,⟨b7g,A6f,c7f,A2f,c3f,(nlt (nlt (nlt (nlt (nlt (nlt (nlt hK X3j.size) hq.size) E2a.size) E9a.size) (Nat.le_of_eq U4a.size.symm)) (Nat.le_of_eq U9b.size.symm)) g6k),q0am,q9ak,n1am,n2am⟩⟩
    ·intro HJ155
     refine Nn 3 8 9 (by kernel_rfl) ?_ ?_ ?_
     ·refine opC 3 rfl (by rfl) (Ad DX (by rfl)) (AE x0.lo x1.lo x2 5 A1 c2 A7 c8 _ (tbx (Ext.refl _) (tbx (belR hE2 X1d hE2.size) hT)) (n6d.ext (Ext.refl _)) (n7d.ext (Ext.refl _)) r8b h2o) ?_
      rintro _ _ E2b ⟨A8k,c9k,rfl,n0l⟩
      refine dnrm ?_
      refine Nn 7 8 9 (by kernel_rfl) ?_ ?_ ?_
      ·refine opC 7 rfl (by rfl) (Ad DX (by rfl)) (AE x0.lo x1.lo x2 4 A1 c2 A7 c8 _ (tbx E2b (tbx (belR hE2 X1d hE2.size) hT)) (n6d.ext E2b) (n7d.ext E2b) r0b h4g) ?_
       rintro _ _ E4i ⟨A7a3,c8a3,rfl,n9a3⟩
       refine dnrm ?_
       refine CP 8 9 (by kernel_rfl) ?_ ?_
       ·refine opA 8 rfl (by rfl) (AP Bn) fun b3am _ E4r g4am q0a4=>dnrm ?_
        refine AM 9 (by kernel_rfl) ?_
        ·refine opA 9 rfl (by rfl) (AP Bn) fun b5am _ E5r g1a4 q6am=>dnrm ?_
         exact Cm (by kernel_rfl) (HJ155 _ _ ⟨A8k,c9k,A7a3,c8a3,b3am,b5am,(((E2b.trans E4i).trans E4r).trans E5r),(((n0l.ext E4i).ext E4r).ext E5r),((n9a3.ext E4r).ext E5r),(nlt (E2b.trans E4i).size g4am),(q0a4.ext E5r),(nlt ((E2b.trans E4i).trans E4r).size g1a4),q6am,(Bx.ne q0a4 g1a4),rfl⟩)
       ·refine opA 9 rfl (by rfl) (AP Bn) fun b7am _ E6r g8am q2a4=>dnrm ?_
        refine AM 8 (by kernel_rfl) ?_
        ·refine opA 8 rfl (by rfl) (AP Bn) fun b9am _ E7r g3a4 q0an=>dnrm ?_
         exact Cm (by kernel_rfl) (HJ155 _ _ ⟨A8k,c9k,A7a3,c8a3,b9am,b7am,(((E2b.trans E4i).trans E6r).trans E7r),(((n0l.ext E4i).ext E6r).ext E7r),((n9a3.ext E6r).ext E7r),(nlt ((E2b.trans E4i).trans E6r).size g3a4),q0an,(nlt (E2b.trans E4i).size g8am),(q2a4.ext E7r),(Ne.symm (Bx.ne q2a4 g3a4)),rfl⟩)
      ·refine opA 8 rfl (by rfl) (AP Bn) fun b4a4 _ E9f g5a4 q8r=>dnrm ?_
       refine CP 7 9 (by kernel_rfl) ?_ ?_
       ·refine opC 7 rfl (by rfl) (Ad DX (by rfl)) (AE x0.lo x1.lo x2 4 A1 c2 A7 c8 _ (tbx (E2b.trans E9f) (tbx (belR hE2 X1d hE2.size) hT)) (n6d.ext (E2b.trans E9f)) (n7d.ext (E2b.trans E9f)) r0b h4g) ?_
        rintro _ _ E6o ⟨A1an,c2an,rfl,n3an⟩
        refine dnrm ?_
        refine AM 9 (by kernel_rfl) ?_
        ·refine opA 9 rfl (by rfl) (AP Bn) fun b4an _ E9r g6a4 q5an=>dnrm ?_
         exact Cm (by kernel_rfl) (HJ155 _ _ ⟨A8k,c9k,A1an,c2an,b4a4,b4an,(((E2b.trans E9f).trans E6o).trans E9r),(((n0l.ext E9f).ext E6o).ext E9r),(n3an.ext E9r),(nlt E2b.size g5a4),((q8r.ext E6o).ext E9r),(nlt ((E2b.trans E9f).trans E6o).size g6a4),q5an,(Bx.ne (q8r.ext E6o) g6a4),rfl⟩)
       ·refine opA 9 rfl (by rfl) (AP Bn) fun b6an _ E1l g7a4 q7an=>dnrm ?_
        refine AM 7 (by kernel_rfl) ?_
        ·refine opC 7 rfl (by rfl) (Ad DX (by rfl)) (AE x0.lo x1.lo x2 4 A1 c2 A7 c8 _ (tbx ((E2b.trans E9f).trans E1l) (tbx (belR hE2 X1d hE2.size) hT)) (n6d.ext ((E2b.trans E9f).trans E1l)) (n7d.ext ((E2b.trans E9f).trans E1l)) r0b h4g) ?_
         rintro _ _ E0s ⟨A8an,c9an,rfl,n0ao⟩
         refine dnrm ?_
         exact Cm (by kernel_rfl) (HJ155 _ _ ⟨A8k,c9k,A8an,c9an,b4a4,b6an,(((E2b.trans E9f).trans E1l).trans E0s),(((n0l.ext E9f).ext E1l).ext E0s),n0ao,(nlt E2b.size g5a4),((q8r.ext E1l).ext E0s),(nlt (E2b.trans E9f).size g7a4),(q7an.ext E0s),(Bx.ne q8r g7a4),rfl⟩)
      ·refine opA 9 rfl (by rfl) (AP Bn) fun b1s _ E8d g7y q2s=>dnrm ?_
       refine CP 7 8 (by kernel_rfl) ?_ ?_
       ·refine opC 7 rfl (by rfl) (Ad DX (by rfl)) (AE x0.lo x1.lo x2 4 A1 c2 A7 c8 _ (tbx (E2b.trans E8d) (tbx (belR hE2 X1d hE2.size) hT)) (n6d.ext (E2b.trans E8d)) (n7d.ext (E2b.trans E8d)) r0b h4g) ?_
        rintro _ _ E7o ⟨A1ao,c2ao,rfl,n3ao⟩
        refine dnrm ?_
        refine AM 8 (by kernel_rfl) ?_
        ·refine opA 8 rfl (by rfl) (AP Bn) fun b4ao _ E3s g8a4 q5ao=>dnrm ?_
         exact Cm (by kernel_rfl) (HJ155 _ _ ⟨A8k,c9k,A1ao,c2ao,b4ao,b1s,(((E2b.trans E8d).trans E7o).trans E3s),(((n0l.ext E8d).ext E7o).ext E3s),(n3ao.ext E3s),(nlt ((E2b.trans E8d).trans E7o).size g8a4),q5ao,(nlt E2b.size g7y),((q2s.ext E7o).ext E3s),(Ne.symm (Bx.ne (q2s.ext E7o) g8a4)),rfl⟩)
       ·refine opA 8 rfl (by rfl) (AP Bn) fun b6ao _ E2l g9a4 q7ao=>dnrm ?_
        refine AM 7 (by kernel_rfl) ?_
        ·refine opC 7 rfl (by rfl) (Ad DX (by rfl)) (AE x0.lo x1.lo x2 4 A1 c2 A7 c8 _ (tbx ((E2b.trans E8d).trans E2l) (tbx (belR hE2 X1d hE2.size) hT)) (n6d.ext ((E2b.trans E8d).trans E2l)) (n7d.ext ((E2b.trans E8d).trans E2l)) r0b h4g) ?_
         rintro _ _ E4s ⟨A8ao,c9ao,rfl,n0ap⟩
         refine dnrm ?_
         exact Cm (by kernel_rfl) (HJ155 _ _ ⟨A8k,c9k,A8ao,c9ao,b6ao,b1s,(((E2b.trans E8d).trans E2l).trans E4s),(((n0l.ext E8d).ext E2l).ext E4s),n0ap,(nlt (E2b.trans E8d).size g9a4),(q7ao.ext E4s),(nlt E2b.size g7y),((q2s.ext E2l).ext E4s),(Ne.symm (Bx.ne q2s g9a4)),rfl⟩)
     ·refine opA 8 rfl (by rfl) (AP Bn) fun b8y _ E2c g9y q3l=>dnrm ?_
      refine CP 3 9 (by kernel_rfl) ?_ ?_
      ·refine opC 3 rfl (by rfl) (Ad DX (by rfl)) (AE x0.lo x1.lo x2 5 A1 c2 A7 c8 _ (tbx E2c (tbx (belR hE2 X1d hE2.size) hT)) (n6d.ext E2c) (n7d.ext E2c) r8b h2o) ?_
       rintro _ _ E5e ⟨A0a5,c1a5,rfl,n2a5⟩
       refine dnrm ?_
       refine CP 7 9 (by kernel_rfl) ?_ ?_
       ·refine opC 7 rfl (by rfl) (Ad DX (by rfl)) (AE x0.lo x1.lo x2 4 A1 c2 A7 c8 _ (tbx (E2c.trans E5e) (tbx (belR hE2 X1d hE2.size) hT)) (n6d.ext (E2c.trans E5e)) (n7d.ext (E2c.trans E5e)) r0b h4g) ?_
        rintro _ _ E8o ⟨A1ap,c2ap,rfl,n3ap⟩
        refine dnrm ?_
        refine AM 9 (by kernel_rfl) ?_
        ·refine opA 9 rfl (by rfl) (AP Bn) fun b4ap _ E5s g3a5 q5ap=>dnrm ?_
         exact Cm (by kernel_rfl) (HJ155 _ _ ⟨A0a5,c1a5,A1ap,c2ap,b8y,b4ap,(((E2c.trans E5e).trans E8o).trans E5s),((n2a5.ext E8o).ext E5s),(n3ap.ext E5s),g9y,(((q3l.ext E5e).ext E8o).ext E5s),(nlt ((E2c.trans E5e).trans E8o).size g3a5),q5ap,(Bx.ne ((q3l.ext E5e).ext E8o) g3a5),rfl⟩)
       ·refine opA 9 rfl (by rfl) (AP Bn) fun b6ap _ E4l g4a5 q7ap=>dnrm ?_
        refine AM 7 (by kernel_rfl) ?_
        ·refine opC 7 rfl (by rfl) (Ad DX (by rfl)) (AE x0.lo x1.lo x2 4 A1 c2 A7 c8 _ (tbx ((E2c.trans E5e).trans E4l) (tbx (belR hE2 X1d hE2.size) hT)) (n6d.ext ((E2c.trans E5e).trans E4l)) (n7d.ext ((E2c.trans E5e).trans E4l)) r0b h4g) ?_
         rintro _ _ E6s ⟨A8ap,c9ap,rfl,n0aq⟩
         refine dnrm ?_
         exact Cm (by kernel_rfl) (HJ155 _ _ ⟨A0a5,c1a5,A8ap,c9ap,b8y,b6ap,(((E2c.trans E5e).trans E4l).trans E6s),((n2a5.ext E4l).ext E6s),n0aq,g9y,(((q3l.ext E5e).ext E4l).ext E6s),(nlt (E2c.trans E5e).size g4a5),(q7ap.ext E6s),(Bx.ne (q3l.ext E5e) g4a5),rfl⟩)
      ·refine opA 9 rfl (by rfl) (AP Bn) fun b1aq _ E5i g5a5 q2aq=>dnrm ?_
       refine AM 3 (by kernel_rfl) ?_
       ·refine opC 3 rfl (by rfl) (Ad DX (by rfl)) (AE x0.lo x1.lo x2 5 A1 c2 A7 c8 _ (tbx (E2c.trans E5i) (tbx (belR hE2 X1d hE2.size) hT)) (n6d.ext (E2c.trans E5i)) (n7d.ext (E2c.trans E5i)) r8b h2o) ?_
        rintro _ _ E5l ⟨A3aq,c4aq,rfl,n5aq⟩
        refine dnrm ?_
        refine AM 7 (by kernel_rfl) ?_
        ·refine opC 7 rfl (by rfl) (Ad DX (by rfl)) (AE x0.lo x1.lo x2 4 A1 c2 A7 c8 _ (tbx ((E2c.trans E5i).trans E5l) (tbx (belR hE2 X1d hE2.size) hT)) (n6d.ext ((E2c.trans E5i).trans E5l)) (n7d.ext ((E2c.trans E5i).trans E5l)) r0b h4g) ?_
         rintro _ _ E7s ⟨A6aq,c7aq,rfl,n8aq⟩
         refine dnrm ?_
         exact Cm (by kernel_rfl) (HJ155 _ _ ⟨A3aq,c4aq,A6aq,c7aq,b8y,b1aq,(((E2c.trans E5i).trans E5l).trans E7s),(n5aq.ext E7s),n8aq,g9y,(((q3l.ext E5i).ext E5l).ext E7s),(nlt E2c.size g5a5),((q2aq.ext E5l).ext E7s),(Bx.ne q3l g5a5),rfl⟩)
     ·refine opA 9 rfl (by rfl) (AP Bn) fun b0z _ E3c g1z q6l=>dnrm ?_
      refine CP 3 8 (by kernel_rfl) ?_ ?_
      ·refine opC 3 rfl (by rfl) (Ad DX (by rfl)) (AE x0.lo x1.lo x2 5 A1 c2 A7 c8 _ (tbx E3c (tbx (belR hE2 X1d hE2.size) hT)) (n6d.ext E3c) (n7d.ext E3c) r8b h2o) ?_
       rintro _ _ E6e ⟨A6a5,c7a5,rfl,n8a5⟩
       refine dnrm ?_
       refine CP 7 8 (by kernel_rfl) ?_ ?_
       ·refine opC 7 rfl (by rfl) (Ad DX (by rfl)) (AE x0.lo x1.lo x2 4 A1 c2 A7 c8 _ (tbx (E3c.trans E6e) (tbx (belR hE2 X1d hE2.size) hT)) (n6d.ext (E3c.trans E6e)) (n7d.ext (E3c.trans E6e)) r0b h4g) ?_
        rintro _ _ E9o ⟨A9aq,c0ar,rfl,n1ar⟩
        refine dnrm ?_
        refine AM 8 (by kernel_rfl) ?_
        ·refine opA 8 rfl (by rfl) (AP Bn) fun b2ar _ E8s g9a5 q3ar=>dnrm ?_
         exact Cm (by kernel_rfl) (HJ155 _ _ ⟨A6a5,c7a5,A9aq,c0ar,b2ar,b0z,(((E3c.trans E6e).trans E9o).trans E8s),((n8a5.ext E9o).ext E8s),(n1ar.ext E8s),(nlt ((E3c.trans E6e).trans E9o).size g9a5),q3ar,g1z,(((q6l.ext E6e).ext E9o).ext E8s),(Ne.symm (Bx.ne ((q6l.ext E6e).ext E9o) g9a5)),rfl⟩)
       ·refine opA 8 rfl (by rfl) (AP Bn) fun b4ar _ E7l g0a6 q5ar=>dnrm ?_
        refine AM 7 (by kernel_rfl) ?_
        ·refine opC 7 rfl (by rfl) (Ad DX (by rfl)) (AE x0.lo x1.lo x2 4 A1 c2 A7 c8 _ (tbx ((E3c.trans E6e).trans E7l) (tbx (belR hE2 X1d hE2.size) hT)) (n6d.ext ((E3c.trans E6e).trans E7l)) (n7d.ext ((E3c.trans E6e).trans E7l)) r0b h4g) ?_
         rintro _ _ E9s ⟨A6ar,c7ar,rfl,n8ar⟩
         refine dnrm ?_
         exact Cm (by kernel_rfl) (HJ155 _ _ ⟨A6a5,c7a5,A6ar,c7ar,b4ar,b0z,(((E3c.trans E6e).trans E7l).trans E9s),((n8a5.ext E7l).ext E9s),n8ar,(nlt (E3c.trans E6e).size g0a6),(q5ar.ext E9s),g1z,(((q6l.ext E6e).ext E7l).ext E9s),(Ne.symm (Bx.ne (q6l.ext E6e) g0a6)),rfl⟩)
      ·refine opA 8 rfl (by rfl) (AP Bn) fun b9ar _ E6i g1a6 q0as=>dnrm ?_
       refine AM 3 (by kernel_rfl) ?_
       ·refine opC 3 rfl (by rfl) (Ad DX (by rfl)) (AE x0.lo x1.lo x2 5 A1 c2 A7 c8 _ (tbx (E3c.trans E6i) (tbx (belR hE2 X1d hE2.size) hT)) (n6d.ext (E3c.trans E6i)) (n7d.ext (E3c.trans E6i)) r8b h2o) ?_
        rintro _ _ E8l ⟨A1as,c2as,rfl,n3as⟩
        refine dnrm ?_
        refine AM 7 (by kernel_rfl) ?_
        ·refine opC 7 rfl (by rfl) (Ad DX (by rfl)) (AE x0.lo x1.lo x2 4 A1 c2 A7 c8 _ (tbx ((E3c.trans E6i).trans E8l) (tbx (belR hE2 X1d hE2.size) hT)) (n6d.ext ((E3c.trans E6i).trans E8l)) (n7d.ext ((E3c.trans E6i).trans E8l)) r0b h4g) ?_
         rintro _ _ E0t ⟨A4as,c5as,rfl,n6as⟩
         refine dnrm ?_
         exact Cm (by kernel_rfl) (HJ155 _ _ ⟨A1as,c2as,A4as,c5as,b9ar,b0z,(((E3c.trans E6i).trans E8l).trans E0t),(n3as.ext E0t),n6as,(nlt E3c.size g1a6),((q0as.ext E8l).ext E0t),g1z,(((q6l.ext E6i).ext E8l).ext E0t),(Ne.symm (Bx.ne q6l g1a6)),rfl⟩)
   ·obtain ⟨sr,x,y,AX,cX,AY,cY,s',he,nx,ny,ho,ho',hr1⟩:=hall2ag i hpos hi
    rw [ho] at hS
    obtain ⟨bs,AS,cS,AT,cT,gbs,q9h,qs,n5,n6⟩:=hS
    unfold HN at hr1
    have g00:w.heap.size≤bs:=nlt X6w.size gbs
    refine Lu (actPQ he (by simp only [S0,S1];rfl)) ?_
    refine wpIn_seq_k fun _ h7as=>IL (by rfl) (fun ⟨_,_,h⟩=>h)<|Ax Bn fun b8as w2g E9as g2a6 q0at=>?_
    refine nrm ?_
    have g3b8:=nlt (nlt hX.size (Rd.refl w.heap.size w7c).size) g2a6
    refine ss BO q0at fun w3g U1at q3a6=>?_
    have F5a:=belU E9as U1at g2a6
    have X4a6:=(Rd.refl w.heap.size w7c).ext F5a
    refine wh h7as<|IL (by rfl) (fun ⟨_,_,h⟩=>h)<|Ax Bn fun b2at w4ag E3at g5a6 q4at=>?_
    refine nrm ?_
    have g4b8:=nlt (nlt hX.size X4a6.size) g5a6
    refine ss BO q4at fun w7ag U5at q6a6=>?_
    have F3a:=belU E3at U5at g5a6
    have X0p:=X4a6.ext F3a
    refine AK ?_
    refine ⟨X0p,?_⟩
    intro w3x hq
    refine have hE1:=belR hX X0p hX.size;have hE2:=belQ hE1 hq hE1.size;wpIn_block<|wpIn_seq_k fun _ h6at=>NM (by rfl) (fun ⟨_,_,h⟩=>h) [10,11] 12 mo rfl fun w6h E0a S5j=>have X2d:=(Rd.refl w.heap.size w3x).ext E0a;dV 0 rfl (fun _ hw=>Am Aw rfl ((((q3a6.ext F3a).quiet hq).ext E0a).ext hw) rfl) S5j ?_
    refine dV 1 rfl (fun _ hw=>Am Aw rfl (((q6a6.quiet hq).ext E0a).ext hw) rfl) S5j ?_
    refine dV 2 rfl (fun _ hw=>Ai FM rfl (Bx.cell (((((q2e.ext F5a).ext F3a).quiet hq).ext E0a).ext hw) rfl)) S5j ?_
    refine dV 4 rfl (fun _ hw=>Am Aw rfl ((((q3a6.ext F3a).quiet hq).ext E0a).ext hw) rfl) S5j ?_
    refine dV 5 rfl (fun _ hw=>Am Aw rfl (((q6a6.quiet hq).ext E0a).ext hw) rfl) S5j ?_
    refine dV 6 rfl (fun _ hw=>Ai FM rfl (Bx.cell (((((q2e.ext F5a).ext F3a).quiet hq).ext E0a).ext hw) rfl)) S5j ?_
    have n9d:=((((nx.ext hX).ext F5a).ext F3a).quiet hq).ext E0a
    have n0e:=((((ny.ext hX).ext F5a).ext F3a).quiet hq).ext E0a
    obtain ⟨r5f,h1p,f7at⟩:=Ac hr1
    obtain ⟨r9c,h8g,f8at⟩:=Ac f7at
    refine Pd #[true,true,true,true,true,true,true,true,true,true,false,false] 2 (fun l' w'=>∃(A9l:Option Addr) (c0m:Nat) (A6j:Option Addr) (c7j:Nat) (b2p:Nat) (b3p:Nat),Ext w6h w'∧RU w' A9l c0m r5f.m.Abs∧RU w' A6j c7j r9c.m.Abs∧w6h.heap.size≤b2p∧Bx w' b2p 119 [.bool false,.slice none 0 0,.int .i64 0]∧w6h.heap.size≤b3p∧Bx w' b3p 119 [.bool false,.slice none 0 0,.int .i64 0]∧b2p≠b3p∧l'=[.agg #[.bool x0.lo.m.Neg,.slice A1 (sz x0.lo.m.Abs) c2,.int .i64 x0.lo.e,.bool x0.hi.m.Neg,.slice A4 (sz x0.hi.m.Abs) c5,.int .i64 x0.hi.e],.agg #[.bool x1.lo.m.Neg,.slice A7 (sz x1.lo.m.Abs) c8,.int .i64 x1.lo.e,.bool x1.hi.m.Neg,.slice A0d (sz x1.hi.m.Abs) c5d,.int .i64 x1.hi.e],.int .i64 x2,.pointer (some ⟨b5n,0,none⟩),.pointer (some ⟨b5h,0,none⟩),.pointer (some ⟨b6n,0,none⟩),.pointer (some ⟨b8n,0,none⟩),.pointer (some ⟨b9p,0,none⟩),.pointer (some ⟨b8as,0,none⟩),.pointer (some ⟨b2at,0,none⟩),.pointer (some ⟨b2p,0,none⟩),.pointer (some ⟨b3p,0,none⟩),.pointer (some ⟨b5h,0,none⟩),.agg #[.bool x1.lo.m.Neg,.slice A7 (sz x1.lo.m.Abs) c8,.int .i64 x1.lo.e],.int .i64 r0h,.pointer (some ⟨b5h,3,none⟩),.agg #[.bool x1.hi.m.Neg,.slice A0d (sz x1.hi.m.Abs) c5d,.int .i64 x1.hi.e],.int .i64 r1h,.int .i64 (wi64 (r0h*r1h)),.bool (decide (0<(wi64 (r0h*r1h)))),.tuple #[],.agg #[.bool x0.lo.m.Neg,.slice A1 (sz x0.lo.m.Abs) c2,.int .i64 x0.lo.e,.bool x0.hi.m.Neg,.slice A4 (sz x0.hi.m.Abs) c5,.int .i64 x0.hi.e],.agg #[.bool x1.lo.m.Neg,.slice A7 (sz x1.lo.m.Abs) c8,.int .i64 x1.lo.e,.bool x1.hi.m.Neg,.slice A0d (sz x1.hi.m.Abs) c5d,.int .i64 x1.hi.e],.func (.func 183) #[] #[.pointer (some ⟨b2k,0,none⟩),.pointer (some ⟨b3k,0,none⟩)],.agg #[.bool x.m.Neg,.slice AX (sz x.m.Abs) cX,.int .i64 x.e],.agg #[.bool y.m.Neg,.slice AY (sz y.m.Abs) cY,.int .i64 y.e],.agg #[.bool x.m.Neg,.slice AX (sz x.m.Abs) cX,.int .i64 x.e],.agg #[.bool y.m.Neg,.slice AY (sz y.m.Abs) cY,.int .i64 y.e],.int .i64 x2,.agg #[.bool r5f.m.Neg,.slice A9l (sz r5f.m.Abs) c0m,.int .i64 r5f.e],.agg #[.bool x.m.Neg,.slice AX (sz x.m.Abs) cX,.int .i64 x.e],.agg #[.bool y.m.Neg,.slice AY (sz y.m.Abs) cY,.int .i64 y.e],.int .i64 x2,.agg #[.bool r9c.m.Neg,.slice A6j (sz r9c.m.Abs) c7j,.int .i64 r9c.e],uu,uu,uu,uu,uu,uu,uu,uu,uu,uu,uu,uu,uu,uu,uu,uu,uu,uu,uu,uu,uu,uu,uu,uu,uu,uu,uu,uu,uu,uu,uu,uu]) ?_ ?_
    ·rintro _ w0x ⟨A9l,c0m,A6j,c7j,b2p,b3p,E8a,n9at,n0au,g1au,q7e,g2au,q8e,ne1e,rfl⟩
     have g3au:=nlt (nlt (nlt (nlt hX.size X0p.size) hq.size) X2d.size) g1au
     have g4au:=nlt (nlt (nlt (nlt hX.size X0p.size) hq.size) X2d.size) g2au
     have X5au:=X2d.ext E8a
     have S5b8:=S5j.trans E8a
     refine dkk 10 BO q7e fun w1x U1a q7a6=>?_
     have X6au:=X5au.upd U1a g3au q7e
     refine dkk 11 BO (q8e.upd U1a (Ne.symm ne1e)) fun w2x U1c q8a6=>?_
     have X7au:=X6au.upd U1c g4au (q8e.upd U1a (Ne.symm ne1e))
     refine CE (by kernel_rfl) ?_
     refine h6at _ _<|wpIn_seq_k fun _ h8au=>wpIn_seq_k fun _ h9au=>IL (by rfl) (fun ⟨_,_,h⟩=>h)<|have ne9a6:=(Bx.neT (((((q9h.ext F5a).ext F3a).quiet hq).ext E0a).ext E8a) q7e (by decide));have ne0av:=(Bx.neT ((((((q9h.ext F5a).ext F3a).quiet hq).ext E0a).ext E8a).upd U1a ne9a6) (q8e.upd U1a (Ne.symm ne1e)) (by decide));have q8j:=((((((q9h.ext F5a).ext F3a).quiet hq).ext E0a).ext E8a).upd U1a ne9a6).upd U1c ne0av;sV2 (Ai Gp rfl (Bx.cell q8j rfl)) (RT OF rfl) ?_
     refine wh h9au<|wpIn_cond_false (Ak (evb rfl rfl))<|wpIn_skip<|h8au _ _<|wpIn_seq_k fun _ h1av=>wpIn_seq_k fun _ h2av=>NM (by rfl) (fun ⟨_,_,h⟩=>h) [] 7 mo rfl fun w1q E4b S1t=>have X0a7:=X7au.ext E4b;dV 0 rfl (fun _ hw=>Am Aw rfl (((q7a6.upd U1c ne1e).ext E4b).ext hw) rfl) S1t ?_
     refine dV 1 rfl (fun _ hw=>Ai Gp rfl (Bx.cell ((q8j.ext E4b).ext hw) rfl)) S1t ?_
     refine dA 2 rfl (fun _=>Bv rfl) ?_
     refine dA 3 rfl (fun _=>Ah (o':=0) Cl rfl rfl) ?_
     have ne4h:=(Bx.neT (((((qs.ext F5a).ext F3a).quiet hq).ext E0a).ext E8a) q7e (by decide))
     have ne9g:=(Bx.neT ((((((qs.ext F5a).ext F3a).quiet hq).ext E0a).ext E8a).upd U1a ne4h) (q8e.upd U1a (Ne.symm ne1e)) (by decide))
     refine dV 4 rfl (fun _ hw=>HE Aw rfl (((((((((qs.ext F5a).ext F3a).quiet hq).ext E0a).ext E8a).upd U1a ne4h).upd U1c ne9g).ext E4b).ext hw) (by simp only [List.drop_zero,List.take_succ_cons,List.take_zero];rfl) rfl) S1t ?_
     have n1a7:=((n9at.upd U1a q7e (by decide)).upd U1c (q8e.upd U1a (Ne.symm ne1e)) (by decide)).ext E4b
     have n2a7:=(((((((n5.ext F5a).ext F3a).quiet hq).ext E0a).ext E8a).upd U1a q7e (by decide)).upd U1c (q8e.upd U1a (Ne.symm ne1e)) (by decide)).ext E4b
     refine dcr f8at 5 rfl (by rfl) (Ad HJ (by rfl)) (BN r5f sr.lo A9l c0m AS cS w1q (tbx (belR hE2 X0a7 hE2.size) hT) n1a7 n2a7) fun r6b8 f3av w0o E6b=>?_
     have X4av:=X0a7.ext E6b
     have S7b8:=S1t.trans E6b
     refine dab 6 rfl (by kernel_rfl) (fun _ _ _ h=>h) (by rfl) (fun _=>Cn rfl rfl) fun z3a7 hz3a7=>?_
     refine dnrm ?_
     refine CE (by kernel_rfl) ?_
     refine h2av _ _ ?_
     obtain ⟨m7i,h5av,f6av⟩:=Ac f3av
     refine LK (fun l l' w'=>∃(t4a7:Value) (t5a7:Value) (t6a7:Value) (t7a7:Value) (A1m:Option Addr) (c2m:Nat),UpdS [bs] w0o w'∧Bx w' bs 121 [.bool m7i.1,.slice A1m (sz m7i.2.1) c2m,.int .i64 m7i.2.2,.bool sr.hi.m.Neg,.slice AT (sz sr.hi.m.Abs) cT,.int .i64 sr.hi.e]∧RU w' A1m c2m m7i.2.1∧l'=((((l.set 47 t4a7).set 48 t5a7).set 49 t6a7).set 50 t7a7)) ?_ ?_
     ·rcases zi hz3a7 h5av with ⟨e2z,_,f7av⟩ | ⟨e2z,_,f8av⟩
      ·refine wpIn_cond_true (Ak (evb rfl e2z))<|IL (by rfl) (fun ⟨_,_,h⟩=>h)<|sV (Ai Gp rfl (Bx.cell ((q8j.ext E4b).ext E6b) rfl)) ?_
       have q9av:=((q7a6.upd U1c ne1e).ext E4b).ext E6b
       refine sV3 (Am Aw rfl q9av rfl) (Bv rfl) (Ah (o':=0) Cl rfl rfl) ?_
       have q8a7:=((((((((qs.ext F5a).ext F3a).quiet hq).ext E0a).ext E8a).upd U1a ne4h).upd U1c ne9g).ext E4b).ext E6b
       refine ss BO q8a7 fun w1o U9a7 q0aw=>?_
       refine AK ?_
       have n1aw:=(n1a7.ext E6b).upd U9a7 q8a7 (by decide)
       obtain rfl:=sj f7av
       exact ⟨_,rfl,(.pointer (some ⟨bs,0,none⟩)),(.agg #[.bool r5f.m.Neg,.slice A9l (sz r5f.m.Abs) c0m,.int .i64 r5f.e]),(.pointer (some ⟨bs,0,none⟩)),(.pointer (some ⟨bs,0,none⟩)),A9l,c0m,((UpdS.refl _ _).upd U9a7 (.inl im0)),q0aw,n1aw,(by kernel_rfl)⟩
      ·refine wpIn_cond_false (Ak (evb rfl e2z))<|wpIn_skip ?_
       have q2aw:=((((((((qs.ext F5a).ext F3a).quiet hq).ext E0a).ext E8a).upd U1a ne4h).upd U1c ne9g).ext E4b).ext E6b
       obtain rfl:=sj f8av
       exact ⟨_,rfl,uu,uu,uu,uu,AS,cS,(UpdS.refl _ _),q2aw,(n2a7.ext E6b),(by kernel_rfl)⟩
     ·rintro l' w1o ⟨t4a7,t5a7,t6a7,t7a7,A1m,c2m,U9e,q3m,n3aw,hq'⟩ l'' hl
      rw [hq'] at hl
      clear hq'
      simp only [S0,S1] at hl
      subst hl
      have X4aw:=X4av.updS U9e (alc ⟨g00,_,_,((((((((qs.ext F5a).ext F3a).quiet hq).ext E0a).ext E8a).upd U1a ne4h).upd U1c ne9g).ext E4b).ext E6b⟩ al0)
      refine h1av _ _<|wpIn_seq_k fun _ h5aw=>NM (by rfl) (fun ⟨_,_,h⟩=>h) [] 7 mo rfl fun w4k E4c S2t=>have X0a8:=X4aw.ext E4c;dV 0 rfl (fun _ hw=>Am Aw rfl (((((q8a6.ext E4b).ext E6b).updS U9e (nmc (Ne.symm ne9g) nm0)).ext E4c).ext hw) rfl) S2t ?_
      have ne3t:=(Bx.neT ((q8j.ext E4b).ext E6b) (((((((((qs.ext F5a).ext F3a).quiet hq).ext E0a).ext E8a).upd U1a ne4h).upd U1c ne9g).ext E4b).ext E6b) (by decide))
      refine dV 1 rfl (fun _ hw=>Ai Gp rfl (Bx.cell (((((q8j.ext E4b).ext E6b).updS U9e (nmc ne3t nm0)).ext E4c).ext hw) rfl)) S2t ?_
      refine dA 2 rfl (fun _=>Bv rfl) ?_
      refine dA 3 rfl (fun _=>Ah (o':=3) Cw rfl rfl) ?_
      refine dV 4 rfl (fun _ hw=>dld Aw ((q3m.ext E4c).ext hw)) S2t ?_
      have n1a8:RU w4k A6j c7j r9c.m.Abs:=(((((n0au.upd U1a q7e (by decide)).upd U1c (q8e.upd U1a (Ne.symm ne1e)) (by decide)).ext E4b).ext E6b).updS U9e (alc ⟨_,_,by decide,((((((((qs.ext F5a).ext F3a).quiet hq).ext E0a).ext E8a).upd U1a ne4h).upd U1c ne9g).ext E4b).ext E6b⟩ al0)).ext E4c
      have n2a8:RU w4k AT cT sr.hi.m.Abs:=((((((((((n6.ext F5a).ext F3a).quiet hq).ext E0a).ext E8a).upd U1a q7e (by decide)).upd U1c (q8e.upd U1a (Ne.symm ne1e)) (by decide)).ext E4b).ext E6b).updS U9e (alc ⟨_,_,by decide,((((((((qs.ext F5a).ext F3a).quiet hq).ext E0a).ext E8a).upd U1a ne4h).upd U1c ne9g).ext E4b).ext E6b⟩ al0)).ext E4c
      refine dcr f6av 5 rfl (by rfl) (Ad HJ (by rfl)) (BN r9c sr.hi A6j c7j AT cT w4k (tbx (belR hE2 X0a8 hE2.size) hT) n1a8 n2a8) fun r8b8 f6aw w7x E3d=>?_
      have X7aw:=X0a8.ext E3d
      have S9b8:=S2t.trans E3d
      refine dab 6 rfl (by kernel_rfl) (fun _ _ _ h=>h) (by rfl) (fun _=>Gm rfl rfl) fun z3a8 hz3a8=>?_
      refine dnrm ?_
      refine CE (by kernel_rfl) ?_
      refine h5aw _ _ ?_
      obtain ⟨m4t,h8aw,f9aw⟩:=Ac f6aw
      refine LK (fun l l' w'=>∃(t4a8:Value) (t5a8:Value) (t6a8:Value) (t7a8:Value) (A5t:Option Addr) (c6t:Nat),UpdS [bs] w7x w'∧Bx w' bs 121 [.bool m7i.1,.slice A1m (sz m7i.2.1) c2m,.int .i64 m7i.2.2,.bool m4t.1,.slice A5t (sz m4t.2.1) c6t,.int .i64 m4t.2.2]∧RU w' A5t c6t m4t.2.1∧l'=((((l.set 58 t4a8).set 59 t5a8).set 60 t6a8).set 61 t7a8)) ?_ ?_
      ·rcases zi hz3a8 h8aw with ⟨e3z,_,f0ax⟩ | ⟨e3z,_,f1ax⟩
       ·refine wpIn_cond_true (Ak (evb rfl e3z))<|IL (by rfl) (fun ⟨_,_,h⟩=>h)<|have q2ax:=((((q8j.ext E4b).ext E6b).updS U9e (nmc ne3t nm0)).ext E4c).ext E3d;sV (Ai Gp rfl (Bx.cell q2ax rfl)) ?_
        have q3ax:=((((q8a6.ext E4b).ext E6b).updS U9e (nmc (Ne.symm ne9g) nm0)).ext E4c).ext E3d
        refine sV3 (Am Aw rfl q3ax rfl) (Bv rfl) (Ah (o':=3) Cw rfl rfl) ?_
        refine ss BO ((q3m.ext E4c).ext E3d) fun w2j U8a8 q4ax=>?_
        refine AK ?_
        have n5ax:=(n1a8.ext E3d).upd U8a8 ((q3m.ext E4c).ext E3d) (by decide)
        obtain rfl:=sj f0ax
        exact ⟨_,rfl,(.pointer (some ⟨bs,0,none⟩)),(.agg #[.bool r9c.m.Neg,.slice A6j (sz r9c.m.Abs) c7j,.int .i64 r9c.e]),(.pointer (some ⟨bs,0,none⟩)),(.pointer (some ⟨bs,3,none⟩)),A6j,c7j,((UpdS.refl _ _).upd U8a8 (.inl im0)),q4ax,n5ax,(by kernel_rfl)⟩
       ·refine wpIn_cond_false (Ak (evb rfl e3z))<|wpIn_skip ?_
        obtain rfl:=sj f1ax
        exact ⟨_,rfl,uu,uu,uu,uu,AT,cT,(UpdS.refl _ _),((q3m.ext E4c).ext E3d),(n2a8.ext E3d),(by kernel_rfl)⟩
      ·rintro l' w2j ⟨t4a8,t5a8,t6a8,t7a8,A5t,c6t,U0i,q6ax,n7ax,hq'⟩ l'' hl
       rw [hq'] at hl
       clear hq'
       simp only [S0,S1] at hl
       subst hl
       have X4z:=X7aw.updS U0i (alc ⟨g00,_,_,(q3m.ext E4c).ext E3d⟩ al0)
       have hE3:=belR hE2 X4z hE2.size
       have ne9a8:=(Bx.neT (((((q7h.ext F5a).ext F3a).quiet hq).ext E0a).ext E8a) q7e (by decide))
       have ne8ax:=(Bx.neT ((((((q7h.ext F5a).ext F3a).quiet hq).ext E0a).ext E8a).upd U1a ne9a8) (q8e.upd U1a (Ne.symm ne1e)) (by decide))
       have ne0a9:=(Bx.ne (q4w.ext E3i) gbs)
       have q9ax:=((((((((((((q7h.ext F5a).ext F3a).quiet hq).ext E0a).ext E8a).upd U1a ne9a8).upd U1c ne8ax).ext E4b).ext E6b).updS U9e (nmc ne0a9 nm0)).ext E4c).ext E3d).updS U0i (nmc ne0a9 nm0)
       have ne1a9:=(Bx.neT (((((q8h.ext F5a).ext F3a).quiet hq).ext E0a).ext E8a) q7e (by decide))
       have ne0ay:=(Bx.neT ((((((q8h.ext F5a).ext F3a).quiet hq).ext E0a).ext E8a).upd U1a ne1a9) (q8e.upd U1a (Ne.symm ne1e)) (by decide))
       have ne2a9:=(Bx.ne (q5w.ext E3i) gbs)
       have q1ay:=((((((((((((q8h.ext F5a).ext F3a).quiet hq).ext E0a).ext E8a).upd U1a ne1a9).upd U1c ne0ay).ext E4b).ext E6b).updS U9e (nmc ne2a9 nm0)).ext E4c).ext E3d).updS U0i (nmc ne2a9 nm0)
       have ne5z:=(Bx.neT (((((q2e.ext F5a).ext F3a).quiet hq).ext E0a).ext E8a) q7e (by decide))
       have ne3a9:=(Bx.neT ((((((q2e.ext F5a).ext F3a).quiet hq).ext E0a).ext E8a).upd U1a ne5z) (q8e.upd U1a (Ne.symm ne1e)) (by decide))
       have ne4a9:=(Bx.neT (((((((((q2e.ext F5a).ext F3a).quiet hq).ext E0a).ext E8a).upd U1a ne5z).upd U1c ne3a9).ext E4b).ext E6b) (((((((((qs.ext F5a).ext F3a).quiet hq).ext E0a).ext E8a).upd U1a ne4h).upd U1c ne9g).ext E4b).ext E6b) (by decide))
       have q2ay:=((((((((((((q2e.ext F5a).ext F3a).quiet hq).ext E0a).ext E8a).upd U1a ne5z).upd U1c ne3a9).ext E4b).ext E6b).updS U9e (nmc ne4a9 nm0)).ext E4c).ext E3d).updS U0i (nmc ne4a9 nm0)
       have ne6z:=(Bx.neT (((((q7c.ext F5a).ext F3a).quiet hq).ext E0a).ext E8a) q7e (by decide))
       have ne5a9:=(Bx.neT ((((((q7c.ext F5a).ext F3a).quiet hq).ext E0a).ext E8a).upd U1a ne6z) (q8e.upd U1a (Ne.symm ne1e)) (by decide))
       have ne6a9:=(Bx.neT (((((((((q7c.ext F5a).ext F3a).quiet hq).ext E0a).ext E8a).upd U1a ne6z).upd U1c ne5a9).ext E4b).ext E6b) (((((((((qs.ext F5a).ext F3a).quiet hq).ext E0a).ext E8a).upd U1a ne4h).upd U1c ne9g).ext E4b).ext E6b) (by decide))
       have q3ay:=((((((((((((q7c.ext F5a).ext F3a).quiet hq).ext E0a).ext E8a).upd U1a ne6z).upd U1c ne5a9).ext E4b).ext E6b).updS U9e (nmc ne6a9 nm0)).ext E4c).ext E3d).updS U0i (nmc ne6a9 nm0)
       have ne7a9:=(Bx.neT (((((q2g.ext F5a).ext F3a).quiet hq).ext E0a).ext E8a) q7e (by decide))
       have ne4ay:=(Bx.neT ((((((q2g.ext F5a).ext F3a).quiet hq).ext E0a).ext E8a).upd U1a ne7a9) (q8e.upd U1a (Ne.symm ne1e)) (by decide))
       have ne8a9:=(Bx.ne q8a0 gbs)
       have q5ay:=((((((((((((q2g.ext F5a).ext F3a).quiet hq).ext E0a).ext E8a).upd U1a ne7a9).upd U1c ne4ay).ext E4b).ext E6b).updS U9e (nmc ne8a9 nm0)).ext E4c).ext E3d).updS U0i (nmc ne8a9 nm0)
       have ne9a9:=(Bx.neT (((((q3g.ext F5a).ext F3a).quiet hq).ext E0a).ext E8a) q7e (by decide))
       have ne6ay:=(Bx.neT ((((((q3g.ext F5a).ext F3a).quiet hq).ext E0a).ext E8a).upd U1a ne9a9) (q8e.upd U1a (Ne.symm ne1e)) (by decide))
       have ne0aa:=(Bx.ne q9a0 gbs)
       have q7ay:=((((((((((((q3g.ext F5a).ext F3a).quiet hq).ext E0a).ext E8a).upd U1a ne9a9).upd U1c ne6ay).ext E4b).ext E6b).updS U9e (nmc ne0aa nm0)).ext E4c).ext E3d).updS U0i (nmc ne0aa nm0)
       have q8ay:=(((((q8j.ext E4b).ext E6b).updS U9e (nmc ne3t nm0)).ext E4c).ext E3d).updS U0i (nmc ne3t nm0)
       have n9ay:RU w2j A1m c2m m7i.2.1:=((n3aw.ext E4c).ext E3d).updS U0i (alc ⟨_,_,by decide,(q3m.ext E4c).ext E3d⟩ al0)
       obtain rfl:=sj f9aw
       exact ⟨X4z,hE3,nlt (nlt (nlt hK X0p.size) hq.size) X4z.size,q9ax,q1ay,q2ay,q3ay,q5ay,q7ay,(by rw [ho'];exact ⟨bs,A1m,c2m,A5t,c6t,gbs,q8ay,q6ax,n9ay,n7ax⟩)⟩
    ·intro HJ486
     refine Nn 3 8 9 (by kernel_rfl) ?_ ?_ ?_
     ·refine opC 3 rfl (by rfl) (Ad DX (by rfl)) (AE x y x2 5 AX cX AY cY _ (tbx (Ext.refl _) (tbx (belR hE2 X2d hE2.size) hT)) (n9d.ext (Ext.refl _)) (n0e.ext (Ext.refl _)) r5f h1p) ?_
      rintro _ _ E3b ⟨A4m,c5m,rfl,n6m⟩
      refine dnrm ?_
      refine Nn 7 8 9 (by kernel_rfl) ?_ ?_ ?_
      ·refine opC 7 rfl (by rfl) (Ad DX (by rfl)) (AE x y x2 4 AX cX AY cY _ (tbx E3b (tbx (belR hE2 X2d hE2.size) hT)) (n9d.ext E3b) (n0e.ext E3b) r9c h8g) ?_
       rintro _ _ E8i ⟨A1aa,c2aa,rfl,n3aa⟩
       refine dnrm ?_
       refine CP 8 9 (by kernel_rfl) ?_ ?_
       ·refine opA 8 rfl (by rfl) (AP Bn) fun b0az _ E7t g1az q4aa=>dnrm ?_
        refine AM 9 (by kernel_rfl) ?_
        ·refine opA 9 rfl (by rfl) (AP Bn) fun b2az _ E8t g5aa q3az=>dnrm ?_
         exact Cm (by kernel_rfl) (HJ486 _ _ ⟨A4m,c5m,A1aa,c2aa,b0az,b2az,(((E3b.trans E8i).trans E7t).trans E8t),(((n6m.ext E8i).ext E7t).ext E8t),((n3aa.ext E7t).ext E8t),(nlt (E3b.trans E8i).size g1az),(q4aa.ext E8t),(nlt ((E3b.trans E8i).trans E7t).size g5aa),q3az,(Bx.ne q4aa g5aa),rfl⟩)
       ·refine opA 9 rfl (by rfl) (AP Bn) fun b4az _ E9t g5az q6aa=>dnrm ?_
        refine AM 8 (by kernel_rfl) ?_
        ·refine opA 8 rfl (by rfl) (AP Bn) fun b6az _ E0u g7aa q7az=>dnrm ?_
         exact Cm (by kernel_rfl) (HJ486 _ _ ⟨A4m,c5m,A1aa,c2aa,b6az,b4az,(((E3b.trans E8i).trans E9t).trans E0u),(((n6m.ext E8i).ext E9t).ext E0u),((n3aa.ext E9t).ext E0u),(nlt ((E3b.trans E8i).trans E9t).size g7aa),q7az,(nlt (E3b.trans E8i).size g5az),(q6aa.ext E0u),(Ne.symm (Bx.ne q6aa g7aa)),rfl⟩)
      ·refine opA 8 rfl (by rfl) (AP Bn) fun b8aa _ E0g g9aa q1u=>dnrm ?_
       refine CP 7 9 (by kernel_rfl) ?_ ?_
       ·refine opC 7 rfl (by rfl) (Ad DX (by rfl)) (AE x y x2 4 AX cX AY cY _ (tbx (E3b.trans E0g) (tbx (belR hE2 X2d hE2.size) hT)) (n9d.ext (E3b.trans E0g)) (n0e.ext (E3b.trans E0g)) r9c h8g) ?_
        rintro _ _ E4p ⟨A8az,c9az,rfl,n0b0⟩
        refine dnrm ?_
        refine AM 9 (by kernel_rfl) ?_
        ·refine opA 9 rfl (by rfl) (AP Bn) fun b1b0 _ E2u g0ab q2b0=>dnrm ?_
         exact Cm (by kernel_rfl) (HJ486 _ _ ⟨A4m,c5m,A8az,c9az,b8aa,b1b0,(((E3b.trans E0g).trans E4p).trans E2u),(((n6m.ext E0g).ext E4p).ext E2u),(n0b0.ext E2u),(nlt E3b.size g9aa),((q1u.ext E4p).ext E2u),(nlt ((E3b.trans E0g).trans E4p).size g0ab),q2b0,(Bx.ne (q1u.ext E4p) g0ab),rfl⟩)
       ·refine opA 9 rfl (by rfl) (AP Bn) fun b3b0 _ E7m g1ab q4b0=>dnrm ?_
        refine AM 7 (by kernel_rfl) ?_
        ·refine opC 7 rfl (by rfl) (Ad DX (by rfl)) (AE x y x2 4 AX cX AY cY _ (tbx ((E3b.trans E0g).trans E7m) (tbx (belR hE2 X2d hE2.size) hT)) (n9d.ext ((E3b.trans E0g).trans E7m)) (n0e.ext ((E3b.trans E0g).trans E7m)) r9c h8g) ?_
         rintro _ _ E3u ⟨A5b0,c6b0,rfl,n7b0⟩
         refine dnrm ?_
         exact Cm (by kernel_rfl) (HJ486 _ _ ⟨A4m,c5m,A5b0,c6b0,b8aa,b3b0,(((E3b.trans E0g).trans E7m).trans E3u),(((n6m.ext E0g).ext E7m).ext E3u),n7b0,(nlt E3b.size g9aa),((q1u.ext E7m).ext E3u),(nlt (E3b.trans E0g).size g1ab),(q4b0.ext E3u),(Bx.ne q1u g1ab),rfl⟩)
      ·refine opA 9 rfl (by rfl) (AP Bn) fun b2ab _ E1g g3ab q4u=>dnrm ?_
       refine CP 7 8 (by kernel_rfl) ?_ ?_
       ·refine opC 7 rfl (by rfl) (Ad DX (by rfl)) (AE x y x2 4 AX cX AY cY _ (tbx (E3b.trans E1g) (tbx (belR hE2 X2d hE2.size) hT)) (n9d.ext (E3b.trans E1g)) (n0e.ext (E3b.trans E1g)) r9c h8g) ?_
        rintro _ _ E5p ⟨A8b0,c9b0,rfl,n0b1⟩
        refine dnrm ?_
        refine AM 8 (by kernel_rfl) ?_
        ·refine opA 8 rfl (by rfl) (AP Bn) fun b1b1 _ E5u g4ab q2b1=>dnrm ?_
         exact Cm (by kernel_rfl) (HJ486 _ _ ⟨A4m,c5m,A8b0,c9b0,b1b1,b2ab,(((E3b.trans E1g).trans E5p).trans E5u),(((n6m.ext E1g).ext E5p).ext E5u),(n0b1.ext E5u),(nlt ((E3b.trans E1g).trans E5p).size g4ab),q2b1,(nlt E3b.size g3ab),((q4u.ext E5p).ext E5u),(Ne.symm (Bx.ne (q4u.ext E5p) g4ab)),rfl⟩)
       ·refine opA 8 rfl (by rfl) (AP Bn) fun b3b1 _ E8m g5ab q4b1=>dnrm ?_
        refine AM 7 (by kernel_rfl) ?_
        ·refine opC 7 rfl (by rfl) (Ad DX (by rfl)) (AE x y x2 4 AX cX AY cY _ (tbx ((E3b.trans E1g).trans E8m) (tbx (belR hE2 X2d hE2.size) hT)) (n9d.ext ((E3b.trans E1g).trans E8m)) (n0e.ext ((E3b.trans E1g).trans E8m)) r9c h8g) ?_
         rintro _ _ E6u ⟨A5b1,c6b1,rfl,n7b1⟩
         refine dnrm ?_
         exact Cm (by kernel_rfl) (HJ486 _ _ ⟨A4m,c5m,A5b1,c6b1,b3b1,b2ab,(((E3b.trans E1g).trans E8m).trans E6u),(((n6m.ext E1g).ext E8m).ext E6u),n7b1,(nlt (E3b.trans E1g).size g5ab),(q4b1.ext E6u),(nlt E3b.size g3ab),((q4u.ext E8m).ext E6u),(Ne.symm (Bx.ne q4u g5ab)),rfl⟩)
     ·refine opA 8 rfl (by rfl) (AP Bn) fun b7z _ E5c g8z q9m=>dnrm ?_
      refine CP 3 9 (by kernel_rfl) ?_ ?_
      ·refine opC 3 rfl (by rfl) (Ad DX (by rfl)) (AE x y x2 5 AX cX AY cY _ (tbx E5c (tbx (belR hE2 X2d hE2.size) hT)) (n9d.ext E5c) (n0e.ext E5c) r5f h1p) ?_
       rintro _ _ E0f ⟨A6ab,c7ab,rfl,n8ab⟩
       refine dnrm ?_
       refine CP 7 9 (by kernel_rfl) ?_ ?_
       ·refine opC 7 rfl (by rfl) (Ad DX (by rfl)) (AE x y x2 4 AX cX AY cY _ (tbx (E5c.trans E0f) (tbx (belR hE2 X2d hE2.size) hT)) (n9d.ext (E5c.trans E0f)) (n0e.ext (E5c.trans E0f)) r9c h8g) ?_
        rintro _ _ E6p ⟨A8b1,c9b1,rfl,n0b2⟩
        refine dnrm ?_
        refine AM 9 (by kernel_rfl) ?_
        ·refine opA 9 rfl (by rfl) (AP Bn) fun b1b2 _ E7u g9ab q2b2=>dnrm ?_
         exact Cm (by kernel_rfl) (HJ486 _ _ ⟨A6ab,c7ab,A8b1,c9b1,b7z,b1b2,(((E5c.trans E0f).trans E6p).trans E7u),((n8ab.ext E6p).ext E7u),(n0b2.ext E7u),g8z,(((q9m.ext E0f).ext E6p).ext E7u),(nlt ((E5c.trans E0f).trans E6p).size g9ab),q2b2,(Bx.ne ((q9m.ext E0f).ext E6p) g9ab),rfl⟩)
       ·refine opA 9 rfl (by rfl) (AP Bn) fun b3b2 _ E0n g0ac q4b2=>dnrm ?_
        refine AM 7 (by kernel_rfl) ?_
        ·refine opC 7 rfl (by rfl) (Ad DX (by rfl)) (AE x y x2 4 AX cX AY cY _ (tbx ((E5c.trans E0f).trans E0n) (tbx (belR hE2 X2d hE2.size) hT)) (n9d.ext ((E5c.trans E0f).trans E0n)) (n0e.ext ((E5c.trans E0f).trans E0n)) r9c h8g) ?_
         rintro _ _ E8u ⟨A5b2,c6b2,rfl,n7b2⟩
         refine dnrm ?_
         exact Cm (by kernel_rfl) (HJ486 _ _ ⟨A6ab,c7ab,A5b2,c6b2,b7z,b3b2,(((E5c.trans E0f).trans E0n).trans E8u),((n8ab.ext E0n).ext E8u),n7b2,g8z,(((q9m.ext E0f).ext E0n).ext E8u),(nlt (E5c.trans E0f).size g0ac),(q4b2.ext E8u),(Bx.ne (q9m.ext E0f) g0ac),rfl⟩)
      ·refine opA 9 rfl (by rfl) (AP Bn) fun b8b2 _ E9i g1ac q9b2=>dnrm ?_
       refine AM 3 (by kernel_rfl) ?_
       ·refine opC 3 rfl (by rfl) (Ad DX (by rfl)) (AE x y x2 5 AX cX AY cY _ (tbx (E5c.trans E9i) (tbx (belR hE2 X2d hE2.size) hT)) (n9d.ext (E5c.trans E9i)) (n0e.ext (E5c.trans E9i)) r5f h1p) ?_
        rintro _ _ E1n ⟨A0b3,c1b3,rfl,n2b3⟩
        refine dnrm ?_
        refine AM 7 (by kernel_rfl) ?_
        ·refine opC 7 rfl (by rfl) (Ad DX (by rfl)) (AE x y x2 4 AX cX AY cY _ (tbx ((E5c.trans E9i).trans E1n) (tbx (belR hE2 X2d hE2.size) hT)) (n9d.ext ((E5c.trans E9i).trans E1n)) (n0e.ext ((E5c.trans E9i).trans E1n)) r9c h8g) ?_
         rintro _ _ E9u ⟨A3b3,c4b3,rfl,n5b3⟩
         refine dnrm ?_
         exact Cm (by kernel_rfl) (HJ486 _ _ ⟨A0b3,c1b3,A3b3,c4b3,b7z,b8b2,(((E5c.trans E9i).trans E1n).trans E9u),(n2b3.ext E9u),n5b3,g8z,(((q9m.ext E9i).ext E1n).ext E9u),(nlt E5c.size g1ac),((q9b2.ext E1n).ext E9u),(Bx.ne q9m g1ac),rfl⟩)
     ·refine opA 9 rfl (by rfl) (AP Bn) fun b9z _ E6c g0a0 q2n=>dnrm ?_
      refine CP 3 8 (by kernel_rfl) ?_ ?_
      ·refine opC 3 rfl (by rfl) (Ad DX (by rfl)) (AE x y x2 5 AX cX AY cY _ (tbx E6c (tbx (belR hE2 X2d hE2.size) hT)) (n9d.ext E6c) (n0e.ext E6c) r5f h1p) ?_
       rintro _ _ E1f ⟨A2ac,c3ac,rfl,n4ac⟩
       refine dnrm ?_
       refine CP 7 8 (by kernel_rfl) ?_ ?_
       ·refine opC 7 rfl (by rfl) (Ad DX (by rfl)) (AE x y x2 4 AX cX AY cY _ (tbx (E6c.trans E1f) (tbx (belR hE2 X2d hE2.size) hT)) (n9d.ext (E6c.trans E1f)) (n0e.ext (E6c.trans E1f)) r9c h8g) ?_
        rintro _ _ E7p ⟨A6b3,c7b3,rfl,n8b3⟩
        refine dnrm ?_
        refine AM 8 (by kernel_rfl) ?_
        ·refine opA 8 rfl (by rfl) (AP Bn) fun b9b3 _ E0v g5ac q0b4=>dnrm ?_
         exact Cm (by kernel_rfl) (HJ486 _ _ ⟨A2ac,c3ac,A6b3,c7b3,b9b3,b9z,(((E6c.trans E1f).trans E7p).trans E0v),((n4ac.ext E7p).ext E0v),(n8b3.ext E0v),(nlt ((E6c.trans E1f).trans E7p).size g5ac),q0b4,g0a0,(((q2n.ext E1f).ext E7p).ext E0v),(Ne.symm (Bx.ne ((q2n.ext E1f).ext E7p) g5ac)),rfl⟩)
       ·refine opA 8 rfl (by rfl) (AP Bn) fun b1b4 _ E3n g6ac q2b4=>dnrm ?_
        refine AM 7 (by kernel_rfl) ?_
        ·refine opC 7 rfl (by rfl) (Ad DX (by rfl)) (AE x y x2 4 AX cX AY cY _ (tbx ((E6c.trans E1f).trans E3n) (tbx (belR hE2 X2d hE2.size) hT)) (n9d.ext ((E6c.trans E1f).trans E3n)) (n0e.ext ((E6c.trans E1f).trans E3n)) r9c h8g) ?_
         rintro _ _ E1v ⟨A3b4,c4b4,rfl,n5b4⟩
         refine dnrm ?_
         exact Cm (by kernel_rfl) (HJ486 _ _ ⟨A2ac,c3ac,A3b4,c4b4,b1b4,b9z,(((E6c.trans E1f).trans E3n).trans E1v),((n4ac.ext E3n).ext E1v),n5b4,(nlt (E6c.trans E1f).size g6ac),(q2b4.ext E1v),g0a0,(((q2n.ext E1f).ext E3n).ext E1v),(Ne.symm (Bx.ne (q2n.ext E1f) g6ac)),rfl⟩)
      ·refine opA 8 rfl (by rfl) (AP Bn) fun b6b4 _ E0j g7ac q7b4=>dnrm ?_
       refine AM 3 (by kernel_rfl) ?_
       ·refine opC 3 rfl (by rfl) (Ad DX (by rfl)) (AE x y x2 5 AX cX AY cY _ (tbx (E6c.trans E0j) (tbx (belR hE2 X2d hE2.size) hT)) (n9d.ext (E6c.trans E0j)) (n0e.ext (E6c.trans E0j)) r5f h1p) ?_
        rintro _ _ E4n ⟨A8b4,c9b4,rfl,n0b5⟩
        refine dnrm ?_
        refine AM 7 (by kernel_rfl) ?_
        ·refine opC 7 rfl (by rfl) (Ad DX (by rfl)) (AE x y x2 4 AX cX AY cY _ (tbx ((E6c.trans E0j).trans E4n) (tbx (belR hE2 X2d hE2.size) hT)) (n9d.ext ((E6c.trans E0j).trans E4n)) (n0e.ext ((E6c.trans E0j).trans E4n)) r9c h8g) ?_
         rintro _ _ E2v ⟨A1b5,c2b5,rfl,n3b5⟩
         refine dnrm ?_
         exact Cm (by kernel_rfl) (HJ486 _ _ ⟨A8b4,c9b4,A1b5,c2b5,b6b4,b9z,(((E6c.trans E0j).trans E4n).trans E2v),(n0b5.ext E2v),n3b5,(nlt E6c.size g7ac),((q7b4.ext E4n).ext E2v),g0a0,(((q2n.ext E0j).ext E4n).ext E2v),(Ne.symm (Bx.ne q2n g7ac)),rfl⟩)
  ·intro D w8d hD hI hk0
   subst hO
   obtain ⟨hX,hK,q7h,q8h,q2e,q7c,q2g,q3g,hS⟩:=hI
   obtain ⟨bs,AS,cS,AT,cT,gbs,q9h,qs,n5,n6⟩:=hS
   have hk:Df w8d D:=hk0
   refine h1af _ _<|wp_seq_k fun _ h4b5=>Af<|sV3 (Ai Gp rfl (Bx.cell q9h rfl)) (Bv rfl) (Am Kz rfl qs rfl) ?_
   rcases AF f1ag with ⟨r1a0,h2a0,f5b5⟩ | ⟨r1a0,h2a0,rfl⟩
   ·refine scO (Ad IZ (by rfl)) (BX s0q AS cS AT cT w8d (tbx hX hT) n5 n6 (.ok r1a0) h2a0) ?_
    rintro _ w1s E1i ⟨A6b5,c7b5,A8b5,c9b5,rfl,n0b6,n1b6⟩
    refine nrm ?_
    have X2b6:=xtr hX E1i
    have hk3b6:=Df.ext hk E1i
    refine ss Bp (q7c.ext E1i) fun w7y U3v q4b6=>?_
    have X8ac:=belU X2b6 U3v g9ad
    have hk9ac:=Df.upd hk3b6 U3v (q7c.ext E1i)
    refine wh h4b5<|wp_ret ?_
    have Q4v:=Quiet.put (n0:=w.heap.size) (.deferred none) hk9ac hD rfl
    have hXE:=belQ X8ac Q4v X8ac.size
    have n5b6:=(n0b6.upd U3v (q7c.ext E1i) (by decide)).quiet Q4v
    have n6b6:=(n1b6.upd U3v (q7c.ext E1i) (by decide)).quiet Q4v
    obtain rfl:=sj f5b5
    exact RG hk9ac rfl (Res.cellN rfl AI (q4b6.quiet Q4v) rfl rfl Res.nil) (DC hXE ⟨A6b5,c7b5,A8b5,c9b5,rfl,n5b6,n6b6⟩)
   ·refine scP (Ad IZ (by rfl)) (BX s0q AS cS AT cT w8d (tbx hX hT) n5 n6 (.error r1a0) h2a0) fun w1s E1i=>?_
    have X0ad:=xtr hX E1i
    have hk1ad:=Df.ext hk E1i
    exact panM hk1ad (BK (belQ X0ad (Quiet.put _ hk1ad hD rfl) X0ad.size))
 ·refine dcP 8 rfl (by kernel_rfl) (by rfl) (Ad DY (by rfl)) (AZ (decide (0<(wi64 (r0h*r1h)))) 8 w7 (tbx X8p hT)  (.error r1w) h2w) fun w8 E2i=>?_
  have X7b6:=xtr X8p E2i
  exact panM0 (BK X7b6)
theorem c_dyad_made_Span__dyad_Over_1 (x0:Ao) (x1:Ao) (x2:Int) (A1:Option Addr) (c2:Nat) (A4:Option Addr) (c5:Nat) (A7:Option Addr) (c8:Nat) (A6a:Option Addr) (c8a:Nat) (w:World) (hT:TB w) (n3:RLu w A1 c2 x0.Lo.Man.Abs) (n6:RLu w A4 c5 x0.Hi.Man.Abs) (n9:RLu w A7 c8 x1.Lo.Man.Abs) (n4b:RLu w A6a c8a x1.Hi.Man.Abs) (r:Al × Int) (hr:Fo x0 x1 x2=some r) :
  Calls Tryz.prog 100 #[.agg #[.bool x0.Lo.Man.Neg,.slice A1 x0.Lo.Man.Abs.length c2,.int .i64 x0.Lo.Exp,.bool x0.Hi.Man.Neg,.slice A4 x0.Hi.Man.Abs.length c5,.int .i64 x0.Hi.Exp],.agg #[.bool x1.Lo.Man.Neg,.slice A7 x1.Lo.Man.Abs.length c8,.int .i64 x1.Lo.Exp,.bool x1.Hi.Man.Neg,.slice A6a x1.Hi.Man.Abs.length c8a,.int .i64 x1.Hi.Exp],.int .i64 x2,.func (.func 101) #[] #[]] w (Ret FC w r):=by
 unfold Fo at hr
 obtain ⟨q0,hq0,hr0⟩:=Ac hr
 unfold GQ at hq0
 go_enter_defers Tryz.func100,Tryz.ntmps100
 refine wp_seq_k fun _ h4e=>Af<|Bm rfl rfl fun b9l w1 E5e g0m q7g=>?_
 refine nrm ?_
 refine Bm rfl rfl fun b1m w2 E6e g8g q7e=>?_
 refine nrm ?_
 have g2m:=nlt E5e.size g8g
 have X8e:=xtr E5e E6e
 refine Ax Cv fun b5b w3 E6b g9g q7b=>?_
 refine nrm ?_
 have g8b:=nlt X8e.size g9g
 have X9e:=xtr X8e E6b
 refine Ax Jk fun b9b w4 E0b g0h q3b=>?_
 refine nrm ?_
 have g0c:=nlt X9e.size g0h
 have X0f:=xtr X9e E0b
 refine wh h4e<|wp_seq_k fun _ h1h=>Af<|Hw (vs:=[.pointer (some ⟨b5b,0,none⟩),.pointer (some ⟨b9b,0,none⟩)]) (by rfl) (by rfl)<|wh h1h<|wp_seq_k fun _ h2h=>Af<|have q1f:=((q7g.ext E6e).ext E6b).ext E0b;sV2 (Am AI rfl q1f rfl) (Am AI rfl ((q7e.ext E6b).ext E0b) rfl) ?_
 refine CI (vals:=[(0,.agg #[.bool x0.Lo.Man.Neg,.slice A1 x0.Lo.Man.Abs.length c2,.int .i64 x0.Lo.Exp,.bool x0.Hi.Man.Neg,.slice A4 x0.Hi.Man.Abs.length c5,.int .i64 x0.Hi.Exp]),(1,.agg #[.bool x1.Lo.Man.Neg,.slice A7 x1.Lo.Man.Abs.length c8,.int .i64 x1.Lo.Exp,.bool x1.Hi.Man.Neg,.slice A6a x1.Hi.Man.Abs.length c8a,.int .i64 x1.Hi.Exp])]) (cs:=[.bool x0.Lo.Man.Neg,.slice A1 x0.Lo.Man.Abs.length c2,.int .i64 x0.Lo.Exp,.bool x0.Hi.Man.Neg,.slice A4 x0.Hi.Man.Abs.length c5,.int .i64 x0.Hi.Exp,.bool x1.Lo.Man.Neg,.slice A7 x1.Lo.Man.Abs.length c8,.int .i64 x1.Lo.Exp,.bool x1.Hi.Man.Neg,.slice A6a x1.Hi.Man.Abs.length c8a,.int .i64 x1.Hi.Exp]) Jn Bp Cv (by rfl) (by decide) (by kernel_rfl) fun b2f w5 E3a g3h q3f=>?_
 refine nrm ?_
 have g3m:=nlt X0f.size g3h
 have X4a:=xtr X0f E3a
 rcases AF hq0 with ⟨r1c,h9d,f4h⟩ | ⟨r1c,h9d,rfl⟩
 ·refine scO (Ad It (by rfl)) (BP x0 x1 b2f A1 c2 A4 c5 A7 c8 A6a c8a w5 (tbx X4a hT) (n3.ext X4a) (n6.ext X4a) (n9.ext X4a) (n4b.ext X4a) q3f (.ok r1c) h9d) ?_
  rintro _ w6 E2a rfl
  refine nrm ?_
  have X2c:=xtr X4a E2a
  refine wh h2h<|wp_seq_k fun _ h5h=>Af<|sV (Aa rfl) ?_
  rcases AF f4h with ⟨r3c,h0e,f6h⟩ | ⟨r3c,h0e,rfl⟩
  ·refine scO (Ad Ip (by rfl)) (Dj x2 w6 (tbx X2c hT)  (.ok r3c) h0e) ?_
   rintro _ w7 E5a rfl
   refine nrm ?_
   have X7h:=xtr X2c E5a
   refine wh h5h<|wp_seq_k fun _ h8h=>DK [7,8] 9 mo rfl fun w8 E1b S1e=>?_
   have X4c:=xtr X7h E1b
   refine dA 0 rfl (fun _=>Aa rfl) ?_ (hQ:=fun _ _ _ h=>dq (rs:=[.cell 8 29,.cell 9 33]) rfl (by decide) h)
   refine dV 1 rfl (fun _ hw=>Am AI rfl (((((q1f.ext E3a).ext E2a).ext E5a).ext E1b).ext hw) rfl) S1e ?_ (hQ:=fun _ _ _ h=>dq (rs:=[.cell 8 29,.cell 9 33]) rfl (by decide) h)
   refine dV 3 rfl (fun _ hw=>Am AI rfl (((((((q7e.ext E6b).ext E0b).ext E3a).ext E2a).ext E5a).ext E1b).ext hw) rfl) S1e ?_ (hQ:=fun _ _ _ h=>dq (rs:=[.cell 8 29,.cell 9 33]) rfl (by decide) h)
   refine dA 5 rfl (fun _=>Aa rfl) ?_ (hQ:=fun _ _ _ h=>dq (rs:=[.cell 8 29,.cell 9 33]) rfl (by decide) h)
   obtain ⟨m4f,h9h,f0i⟩:=Ac f6h
   have hx5f:=AU h9h
   have n1i:RU w8 A1 c2 m4f:=by unfold RU;rw [hx5f];exact (n3.ext X4c)
   obtain ⟨m6f,h2i,f3i⟩:=Ac f0i
   have hx7f:=AU h2i
   have n4i:RU w8 A4 c5 m6f:=by unfold RU;rw [hx7f];exact (n6.ext X4c)
   obtain ⟨r0a,h5i,f6i⟩:=Ac f3i
   refine dc 2 rfl (by kernel_rfl) (by rfl) (Ad IY (by simp only [sz,hx5f,hx7f];rfl)) (CN (⟨(⟨(⟨x0.Lo.Man.Neg,m4f⟩:Ae),x0.Lo.Exp⟩:Ag),(⟨(⟨x0.Hi.Man.Neg,m6f⟩:Ae),x0.Hi.Exp⟩:Ag)⟩:Al) A1 c2 A4 c5 w8 (tbx X4c hT) n1i n4i r0a h5i) ?_
   rintro _ w9 E2b ⟨A5c,c6c,A7c,c8c,rfl,n8f,n9f⟩
   refine dnrm ?_
   have X9c:=xtr X4c E2b
   have S7i:=S1e.trans E2b
   obtain ⟨m0g,h8i,f9i⟩:=Ac f6i
   have hx1g:=AU h8i
   have n0j:RU w9 A7 c8 m0g:=by unfold RU;rw [hx1g];exact (n9.ext X9c)
   obtain ⟨m2g,h1j,f2j⟩:=Ac f9i
   have hx3g:=AU h1j
   have n3j:RU w9 A6a c8a m2g:=by unfold RU;rw [hx3g];exact (n4b.ext X9c)
   obtain ⟨r1a,h4j,f5j⟩:=Ac f2j
   refine dc 4 rfl (by kernel_rfl) (by rfl) (Ad IY (by simp only [sz,hx1g,hx3g];rfl)) (CN (⟨(⟨(⟨x1.Lo.Man.Neg,m0g⟩:Ae),x1.Lo.Exp⟩:Ag),(⟨(⟨x1.Hi.Man.Neg,m2g⟩:Ae),x1.Hi.Exp⟩:Ag)⟩:Al) A7 c8 A6a c8a w9 (tbx X9c hT) n0j n3j r1a h4j) ?_
   rintro _ w6a E7a ⟨A0d,c1d,A2d,c3d,rfl,n4g,n5g⟩
   refine dnrm ?_
   have X4d:=xtr X9c E7a
   have S6j:=S7i.trans E7a
   rcases AF f5j with ⟨r5d,h2e,f7j⟩ | ⟨r5d,h2e,rfl⟩
   ·refine dcO 6 rfl (by kernel_rfl) (by rfl) (Ee (first:=[]) (cap:=[]) (args:=[.agg #[.bool r0a.lo.m.Neg,.slice A5c (sz r0a.lo.m.Abs) c6c,.int .i64 r0a.lo.e,.bool r0a.hi.m.Neg,.slice A7c (sz r0a.hi.m.Abs) c8c,.int .i64 r0a.hi.e],.agg #[.bool r1a.lo.m.Neg,.slice A0d (sz r1a.lo.m.Abs) c1d,.int .i64 r1a.lo.e,.bool r1a.hi.m.Neg,.slice A2d (sz r1a.hi.m.Abs) c3d,.int .i64 r1a.hi.e],.int .i64 x2]) QP (by rfl) (by rfl)) (Ma r0a r1a x2 A5c c6c A7c c8c A0d c1d A2d c3d w6a (tbx X4d hT) (n8f.ext E7a) (n9f.ext E7a) n4g n5g (.ok r5d) h2e) ?_
    rintro _ w8a E9a ⟨A8j,c9j,A0k,c1k,rfl,n2k,n3k⟩
    refine dnrm ?_
    have X4k:=xtr X4d E9a
    have S4m:=S6j.trans E9a
    have q6d:=(((((((q7b.ext E0b).ext E3a).ext E2a).ext E5a).ext E1b).ext E2b).ext E7a).ext E9a
    refine dkk 7 Bp q6d fun w4b U7d q5k=>?_
    have X6k:=belU X4k U7d g8b
    have ne6g:=(Bx.neT (((((((q3b.ext E3a).ext E2a).ext E5a).ext E1b).ext E2b).ext E7a).ext E9a) q6d (by decide))
    have q3e:=(((((((q3b.ext E3a).ext E2a).ext E5a).ext E1b).ext E2b).ext E7a).ext E9a).upd U7d ne6g
    refine dkk 8 GW q3e fun w4e U8d q7k=>?_
    have X8k:=belU X6k U8d g0c
    refine CE (by kernel_rfl) ?_
    refine h8h _ _<|wp_ret ?_
    have n9k:=(n2k.upd U7d q6d (by decide)).upd U8d q3e (by decide)
    have n0l:=(n3k.upd U7d q6d (by decide)).upd U8d q3e (by decide)
    obtain rfl:=sj f7j
    obtain rfl:=sj hr0
    exact Mj Dl ER rfl (Res.cellN rfl AI (q5k.upd U8d (Ne.symm ne6g)) rfl rfl (Res.cell1 rfl BW (Bx.cell q7k rfl) Res.nil)) (Av X8k ⟨A8j,c9j,A0k,c1k,rfl,n9k,n0l⟩)
   ·refine dcP 6 rfl (by kernel_rfl) (by rfl) (Ee (first:=[]) (cap:=[]) (args:=[.agg #[.bool r0a.lo.m.Neg,.slice A5c (sz r0a.lo.m.Abs) c6c,.int .i64 r0a.lo.e,.bool r0a.hi.m.Neg,.slice A7c (sz r0a.hi.m.Abs) c8c,.int .i64 r0a.hi.e],.agg #[.bool r1a.lo.m.Neg,.slice A0d (sz r1a.lo.m.Abs) c1d,.int .i64 r1a.lo.e,.bool r1a.hi.m.Neg,.slice A2d (sz r1a.hi.m.Abs) c3d,.int .i64 r1a.hi.e],.int .i64 x2]) QP (by rfl) (by rfl)) (Ma r0a r1a x2 A5c c6c A7c c8c A0d c1d A2d c3d w6a (tbx X4d hT) (n8f.ext E7a) (n9f.ext E7a) n4g n5g (.error r5d) h2e) fun w8a E9a=>?_
    have X1l:=xtr X4d E9a
    have q2l:=(((((((q7b.ext E0b).ext E3a).ext E2a).ext E5a).ext E1b).ext E2b).ext E7a).ext E9a
    have q3l:=((((((q3b.ext E3a).ext E2a).ext E5a).ext E1b).ext E2b).ext E7a).ext E9a
    refine Ir ER (AL b5b b9b (.bool false:Value) (.slice none 0 0:Value) (.int .i64 0:Value) (.bool false:Value) (.slice none 0 0:Value) (.int .i64 0:Value) (.int .i64 0:Value) r5d q2l q3l) rfl ?_
    rintro w9 ⟨u9,q9,q9'⟩
    obtain rfl:=sj hr0
    exact ⟨_,(Res.cellN rfl AI q9 rfl rfl (Res.cell1 rfl BW (Bx.cell q9' rfl) Res.nil)),Av (u9.toExt X1l g8b g0c) ⟨none,0,none,0,rfl,RU.nil _,RU.nil _⟩⟩
  ·refine scP (Ad Ip (by rfl)) (Dj x2 w6 (tbx X2c hT)  (.error r3c) h0e) fun w7 E5a=>?_
   have X4l:=xtr X2c E5a
   have q5l:=(((q7b.ext E0b).ext E3a).ext E2a).ext E5a
   have q6l:=((q3b.ext E3a).ext E2a).ext E5a
   refine Ir ER (AL b5b b9b (.bool false:Value) (.slice none 0 0:Value) (.int .i64 0:Value) (.bool false:Value) (.slice none 0 0:Value) (.int .i64 0:Value) (.int .i64 0:Value) r3c q5l q6l) rfl ?_
   rintro w9 ⟨u9,q9,q9'⟩
   obtain rfl:=sj hr0
   exact ⟨_,(Res.cellN rfl AI q9 rfl rfl (Res.cell1 rfl BW (Bx.cell q9' rfl) Res.nil)),Av (u9.toExt X4l g8b g0c) ⟨none,0,none,0,rfl,RU.nil _,RU.nil _⟩⟩
 ·refine scP (Ad It (by rfl)) (BP x0 x1 b2f A1 c2 A4 c5 A7 c8 A6a c8a w5 (tbx X4a hT) (n3.ext X4a) (n6.ext X4a) (n9.ext X4a) (n4b.ext X4a) q3f (.error r1c) h9d) fun w6 E2a=>?_
  have X7l:=xtr X4a E2a
  have q8l:=((q7b.ext E0b).ext E3a).ext E2a
  refine Ir ER (AL b5b b9b (.bool false:Value) (.slice none 0 0:Value) (.int .i64 0:Value) (.bool false:Value) (.slice none 0 0:Value) (.int .i64 0:Value) (.int .i64 0:Value) r1c q8l ((q3b.ext E3a).ext E2a)) rfl ?_
  rintro w9 ⟨u9,q9,q9'⟩
  obtain rfl:=sj hr0
  exact ⟨_,(Res.cellN rfl AI q9 rfl rfl (Res.cell1 rfl BW (Bx.cell q9' rfl) Res.nil)),Av (u9.toExt X7l g8b g0c) ⟨none,0,none,0,rfl,RU.nil _,RU.nil _⟩⟩
theorem MY (x0:Ao) (x1:Ao) (x2:Int) (A1:Option Addr) (c2:Nat) (A4:Option Addr) (c5:Nat) (A7:Option Addr) (c8:Nat) (A2a:Option Addr) (c3a:Nat) (w:World) (hT:TB w) (n3:RLu w A1 c2 x0.Lo.Man.Abs) (n6:RLu w A4 c5 x0.Hi.Man.Abs) (n9:RLu w A7 c8 x1.Lo.Man.Abs) (n0b:RLu w A2a c3a x1.Hi.Man.Abs) (r:Al × Int) (hr:Ko x0 x1 x2=some r) :
  Calls Tryz.prog 21 #[.agg #[.bool x0.Lo.Man.Neg,.slice A1 x0.Lo.Man.Abs.length c2,.int .i64 x0.Lo.Exp,.bool x0.Hi.Man.Neg,.slice A4 x0.Hi.Man.Abs.length c5,.int .i64 x0.Hi.Exp],.agg #[.bool x1.Lo.Man.Neg,.slice A7 x1.Lo.Man.Abs.length c8,.int .i64 x1.Lo.Exp,.bool x1.Hi.Man.Neg,.slice A2a x1.Hi.Man.Abs.length c3a,.int .i64 x1.Hi.Exp],.int .i64 x2] w (Ret FC w r):=by
 unfold Ko at hr
 go_enter Tryz.func21,Tryz.ntmps21
 refine wp_seq_k fun _ h1b=>Af<|Bm rfl rfl fun b2d w1 E7a g3d q2b=>?_
 refine nrm ?_
 refine Bm rfl rfl fun b4d w2 E8a g3b q4b=>?_
 refine nrm ?_
 have g5d:=nlt E7a.size g3b
 have X9a:=xtr E7a E8a
 refine Ax Cv fun b6d w3 E4a g5b q5a=>?_
 refine nrm ?_
 have g6b:=nlt X9a.size g5b
 have X0a:=xtr X9a E4a
 refine sV (Ab rfl) ?_
 refine wh h1b<|wp_seq_k fun _ h7b=>Af<|sV3 (Am AI rfl ((q2b.ext E8a).ext E4a) rfl) (Am AI rfl (q4b.ext E4a) rfl) (Aa rfl) ?_
 obtain ⟨r8b,h9b,f0c⟩:=Ac hr
 refine sc (Ad Mk (by rfl)) (c_dyad_made_Span__dyad_Over_1 x0 x1 x2 A1 c2 A4 c5 A7 c8 A2a c3a w3 (tbx X0a hT) (n3.ext X0a) (n6.ext X0a) (n9.ext X0a) (n0b.ext X0a) r8b h9b) ?_
 rintro _ w4 E1a ⟨A1c,c2c,A3c,c4c,rfl,n5c,n6c⟩
 refine nrm ?_
 have X7c:=xtr X0a E1a
 refine sV2 (Aj rfl rfl) (Aj rfl rfl) ?_
 refine ss Bp (q5a.ext E1a) fun w5 U6a q8c=>?_
 have X9c:=belU X7c U6a g6b
 refine sV (Ab rfl) ?_
 refine wh h7b<|wp_ret ?_
 have n0d:=n5c.upd U6a (q5a.ext E1a) (by decide)
 have n1d:=n6c.upd U6a (q5a.ext E1a) (by decide)
 exact CV f0c rfl (Res.cellN rfl AI q8c rfl rfl (Res.tmp rfl Res.nil)) (Av X9c ⟨A1c,c2c,A3c,c4c,rfl,n0d,n1d⟩)
theorem c_wide_Nat_Root (x0:Nat) (A1:Option Addr) (c2:Nat) (w:World) (hT:TB w) (n3:RU w A1 c2 x0) (r:Nat × Nat) (hr:JJ x0=some r) :
  Calls Tryz.prog 190 #[.slice A1 (sz x0) c2] w (Ret Nc w r):=by
 unfold JJ at hr
 go_enter Tryz.func190,Tryz.ntmps190
 refine wp_seq_k fun _ h4=>Af<|sV2 (Ab rfl) (Ab rfl) ?_
 refine wh h4<|wp_seq_k fun _ h5=>wp_seq_k fun _ h6=>Af<|sV2 (Aa rfl) (AG As rfl) ?_
 refine sb (CG rfl rfl) fun z7 hz7=>?_
 refine nrm ?_
 refine wh h6 ?_
 rcases zi hz7 hr with ⟨e8a,_,f3d⟩ | ⟨e8a,_,f4d⟩
 ·refine wp_cond_true (Ak (evb rfl e8a))<|wp_seq_k fun _ h5d=>Af<|sV2 (Ab rfl) (Ab rfl) ?_
  refine wh h5d<|wp_ret ?_
  exact CV f3d rfl (Res.tmp rfl (Res.tmp rfl Res.nil)) (Av (Ext.refl _) ⟨none,0,none,0,rfl,(RU.nil _),(RU.nil _)⟩)
 ·refine wp_cond_false (Ak (evb rfl e8a))<|wp_skip<|h5 _ _<|wp_seq_k fun _ h6d=>Af<|CI (vals:=[(0,.int .u32 1)]) (cs:=[.int .u32 1]) As Au HM (by rfl) (by decide) (by kernel_rfl) fun b7d w1 E9a g9h q8d=>?_
  refine nrm ?_
  have n9d:=RL.lit1 q8d (by decide)
  refine sV (Aa rfl) ?_
  refine scr f4d (Ad Mq (by rfl)) (Ef x0 A1 c2 w1 (tbx E9a hT) (n3.ext E9a)) fun r0b f0e w2 E5b=>?_
  have X6b:=xtr E9a E5b
  refine sV2 (Bj (c:=wi64 (r0b+1)) rfl rfl rfl) (Jj (c:=wi64 ((wi64 (r0b+1)).tdiv 2)) (by decide) rfl rfl rfl) ?_
  refine scn f0e (Ad Kj (by rfl)) (CX 1 (wi64 ((wi64 (r0b+1)).tdiv 2)) (some ⟨b7d,0,none⟩) 1 w2 (tbx X6b hT) (n9d.ext E5b)) fun r1e f32 w3 A2e c3e E4e n5e=>?_
  have X6e:=xtr X6b E4e
  refine sV (Ab rfl) ?_
  refine wh h6d ?_
  apply wp_block
  refine BI (fun l n7b l' w'=>∃(v0a:Nat) (A1a:Option Addr) (c2a:Nat),Ext w3 w'∧RU w' A1a c2a v0a∧HH x0 n7b v0a=some r∧Fr l' (fun t1b=>.slice A1 (sz x0) c2::gp t1b 1 3 (.slice A1a (sz v0a) c2a::gp t1b 5 33 []))) 18446744073709551616 ?_ ?_ ?_
  ·exact ⟨r1e,A2e,c3e,(Ext.refl _),n5e,f32,(Fr.mk (by kernel_rfl))⟩
  ·rintro l' w' ⟨v0a,A1a,c2a,_,_,hz,_⟩
   exact nomatch hz
  ·rintro n7b ih7e _ w4 ⟨v0a,A1a,c2a,U8b,n4a,hr9b,⟨t1b,rfl⟩⟩ l'' hl
   simp only [gp,Nat.reduceAdd] at hl
   subst hl
   unfold HH at hr9b
   refine Bk ?_
   have X2b:=xtr X6e U8b
   apply wp_block
   refine wp_seq_k fun _ h8e=>Af<|sV2 (Aa rfl) (Aa rfl) ?_
   obtain ⟨r0c,h9e,f0f⟩:=Ac hr9b
   refine sc (Ad QN (by rfl)) (IQ x0 v0a A1 c2 A1a c2a w4 (tbx X2b hT) (n3.ext X2b) n4a r0c h9e) ?_
   rintro _ w5 E3a ⟨A1f,c2f,A0i,c1i,rfl,n3f,n2i⟩
   refine nrm ?_
   have X1c:=xtr X2b E3a
   refine sV3 (Aa rfl) (Aj rfl rfl) (Aj rfl rfl) ?_
   refine sV2 (Ab rfl) (Ab rfl) ?_
   refine wh h8e<|wp_seq_k fun _ h4f=>Af<|sV2 (Aa rfl) (Aa rfl) ?_
   refine scn f0f (Ad PA (by rfl)) (HW v0a r0c.1 A1a c2a A1f c2f w5 (tbx X1c hT) (n4a.ext E3a) n3f) fun r5f f6f w6 A7f c8f E5a n9f=>?_
   have X2c:=xtr X1c E5a
   refine scn f6f (Ad NE (by rfl)) (GM r5f 1 A7f c8f w6 (tbx X2c hT) n9f) fun r3c f0g w7 A4c c5c E6a n6c=>?_
   have X7c:=xtr X2c E6a
   refine sV (Ab rfl) ?_
   refine wh h4f<|wp_seq_k fun _ h1g=>wp_seq_k fun _ h2g=>Af<|sV2 (Aa rfl) (Aa rfl) ?_
   have n3g:=((n4a.ext E3a).ext E5a).ext E6a
   refine scr f0g (Ad NB (by rfl)) (GP r3c v0a A4c c5c A1a c2a w7 (tbx X7c hT) n6c n3g) fun r3i f4g w8 E7a=>?_
   have X8c:=xtr X7c E7a
   refine sb (FP rfl rfl) fun z9c hz9c=>?_
   refine nrm ?_
   refine wh h2g ?_
   rcases zi hz9c f4g with ⟨e3b,_,f5g⟩ | ⟨e3b,_,f6g⟩
   ·refine wp_cond_true (Ak (evb rfl e3b))<|wp_seq_k fun _ h7g=>Af<|sV3 (Aa rfl) (Aa rfl) (Aa rfl) ?_
    refine sV (Aa rfl) ?_
    have n0d:=(((n4a.ext E3a).ext E5a).ext E6a).ext E7a
    refine scn f5g (Ad QR (by rfl)) (IW v0a v0a A1a c2a A1a c2a w8 (tbx X8c hT) n0d n0d) fun r8g f9g w9 A0h c1h E1d n2h=>?_
    have X4b:=xtr X8c E1d
    refine scn f9g (Ad Nr (by rfl)) (FY x0 r8g A1 c2 A0h c1h w9 (tbx X4b hT) (n3.ext X4b) n2h) fun r4i f3h w5i A4h c5h E2d n6h=>?_
    have X7h:=xtr X4b E2d
    refine sV2 (Ab rfl) (Ab rfl) ?_
    refine wh h7g<|wp_ret ?_
    have n8h:=(((((n4a.ext E3a).ext E5a).ext E6a).ext E7a).ext E1d).ext E2d
    exact CV f3h rfl (Res.tmp rfl (Res.tmp rfl Res.nil)) (Av X7h ⟨A1a,c2a,A4h,c5h,rfl,n8h,n6h⟩)
   ·refine wp_cond_false (Ak (evb rfl e3b))<|wp_skip<|h1g _ _<|Af<|sV2 (Aa rfl) (Ab rfl) ?_
    refine AK ?_
    exact ih7e _ _ ⟨r3c,A4c,c5c,((((U8b.trans E3a).trans E5a).trans E6a).trans E7a),(n6c.ext E7a),f6g,(Fr.mk (by kernel_rfl))⟩
theorem Nb (x0:An) (x1:Int) (x2:Int) (A1:Option Addr) (c2:Nat) (w:World) (hT:TB w) (n3:RU w A1 c2 x0.m.Abs) (r:An) (hr:Km x0 x1 x2=some r) :
  Calls Tryz.prog 111 #[.agg #[.bool x0.m.Neg,.slice A1 (sz x0.m.Abs) c2,.int .i64 x0.e],.int .i64 x1,.int .i64 x2] w (Ret IX w r):=by
 unfold Km at hr
 go_enter Tryz.func111,Tryz.ntmps111
 refine wp_seq_k fun _ h4=>Af<|Bm rfl rfl fun b5 w1 E6 g7 q8=>?_
 refine nrm ?_
 refine Ax Bn fun b9 w2 E3a g7c q6b=>?_
 refine nrm ?_
 have g7b:=nlt E6.size g7c
 have X9a:=xtr E6 E3a
 refine wh h4<|wp_seq_k fun _ h8c=>wp_seq_k fun _ h9c=>Af<|sV (Am Aw rfl (q8.ext E3a) rfl) ?_
 refine scr hr (Ad Kf (by rfl)) (CY x0 A1 c2 w2 (tbx X9a hT) (n3.ext X9a)) fun r3g f0d w3 E1a=>?_
 have X8a:=xtr X9a E1a
 refine sb (CG rfl rfl) fun z8b hz8b=>?_
 refine nrm ?_
 refine wh h9c ?_
 rcases zi hz8b f0d with ⟨e0b,_,f1d⟩ | ⟨e0b,_,f2d⟩
 ·refine wp_cond_true (Ak (evb rfl e0b))<|wp_seq_k fun _ h3d=>Af<|sV (Bb (vals:=[]) (cells:=[.bool false,.slice none 0 0,.int .i64 0]) (by rfl) (by kernel_rfl)) ?_
  refine ss BO (q6b.ext E1a) fun w4 U4d q5d=>?_
  have X6d:=belU X8a U4d g7b
  refine wh h3d<|wp_ret ?_
  exact CV f1d rfl (Res.cellN rfl Aw q5d rfl rfl Res.nil) (Av X6d ⟨none,0,rfl,(RU.nil _)⟩)
 ·refine wp_cond_false (Ak (evb rfl e0b))<|wp_skip<|h8c _ _<|wp_seq_k fun _ h7d=>Af<|sV3 (Aa rfl) (Lg (c:=wi64 (2*x1)) rfl rfl rfl) (Bj (c:=wi64 ((wi64 (2*x1))+4)) rfl rfl rfl) ?_
  refine sV3 (Ah (o':=0) BS rfl rfl) (Ah (o':=1) Bt rfl rfl) (Ai Dk rfl (Bx.cell ((q8.ext E3a).ext E1a) rfl)) ?_
  refine scr f2d (Ad Mq (by rfl)) (Ef x0.m.Abs A1 c2 w3 (tbx X8a hT) (n3.ext X8a)) fun r4a f8d w4 E5a=>?_
  have X1b:=xtr X8a E5a
  refine sV3 (BA (c:=wi64 ((wi64 ((wi64 (2*x1))+4)) - r4a)) rfl rfl rfl) (Nt rfl rfl) (Ab rfl) ?_
  refine wh h7d<|wp_seq_k fun _ h9d=>wp_seq_k fun _ h0e=>Af<|sV3 (Ah (o':=2) CZ rfl rfl) (Ai FM rfl (Bx.cell (((q8.ext E3a).ext E1a).ext E5a) rfl)) (Aa rfl) ?_
  refine sV2 (BA (c:=wi64 (x0.e - (max 0 (wi64 ((wi64 ((wi64 (2*x1))+4)) - r4a))))) rfl rfl rfl) (Ps (k:=.i64) rfl rfl) ?_
  refine sb (Ik rfl rfl) fun z9b hz9b=>?_
  refine nrm ?_
  refine wh h0e ?_
  obtain ⟨m2a,h1e,f2e⟩:=Ac f8d
  refine Dm (fun l l' w'=>∃(t0c:Value) (t1c:Value),w4=w'∧l'=(((l.set 7 (.int .i64 m2a)).set 29 t0c).set 30 t1c)) ?_ ?_
  ·rcases zi hz9b h1e with ⟨e2b,_,f3e⟩ | ⟨e2b,_,f4e⟩
   ·refine wp_cond_true (Ak (evb rfl e2b))<|Af<|sV3 (Aa rfl) (Bj (c:=wi64 ((max 0 (wi64 ((wi64 ((wi64 (2*x1))+4)) - r4a)))+1)) rfl rfl rfl) (Ab rfl) ?_
    refine AK ?_
    obtain rfl:=sj f3e
    exact ⟨_,rfl,(.int .i64 (max 0 (wi64 ((wi64 ((wi64 (2*x1))+4)) - r4a)))),(.int .i64 (wi64 ((max 0 (wi64 ((wi64 ((wi64 (2*x1))+4)) - r4a)))+1))),rfl,(by kernel_rfl)⟩
   ·refine wp_cond_false (Ak (evb rfl e2b))<|wp_skip ?_
    obtain rfl:=sj f4e
    exact ⟨_,rfl,uu,uu,rfl,(by kernel_rfl)⟩
  ·rintro l' _ ⟨t0c,t1c,rfl,hq'⟩ l'' hl
   rw [hq'] at hl
   clear hq'
   simp only [S0,S1] at hl
   subst hl
   refine h9d _ _<|wp_seq_k fun _ h5e=>Af<|sV3 (Ah (o':=0) BS rfl rfl) (Ah (o':=1) Bt rfl rfl) (Ai Dk rfl (Bx.cell (((q8.ext E3a).ext E1a).ext E5a) rfl)) ?_
   refine sV (Aa rfl) ?_
   refine scn f2e (Ad Kj (by rfl)) (CX x0.m.Abs m2a A1 c2 w4 (tbx X1b hT) (n3.ext X1b)) fun r6e f7e w5 A8e c9e E3b n0f=>?_
   have X2c:=xtr X1b E3b
   obtain ⟨r0a,h1f,f2f⟩:=Ac f7e
   refine sc (Ad en_190 (by rfl)) (c_wide_Nat_Root r6e A8e c9e w5 (tbx X2c hT) n0f r0a h1f) ?_
   rintro _ w6 E4b ⟨A6a,c7a,A4g,c5g,rfl,n3f,n6g⟩
   refine nrm ?_
   have X3c:=xtr X2c E4b
   refine sV3 (Aa rfl) (Aj rfl rfl) (Aj rfl rfl) ?_
   refine sV2 (Ab rfl) (Ab rfl) ?_
   refine wh h5e<|wp_seq_k fun _ h4f=>Af<|sV2 (Aa rfl) (Bb (vals:=[(1,.slice A6a (sz r0a.1) c7a)]) (cells:=[.bool false,.slice A6a (sz r0a.1) c7a]) (by rfl) (by kernel_rfl)) ?_
   refine sV (Ah (o':=2) CZ rfl rfl) ?_
   have q5f:=((((q8.ext E3a).ext E1a).ext E5a).ext E3b).ext E4b
   refine sV3 (Ai FM rfl (Bx.cell q5f rfl)) (Aa rfl) (BA (c:=wi64 (x0.e - m2a)) rfl rfl rfl) ?_
   refine sV (Jj (c:=wi64 ((wi64 (x0.e - m2a)).tdiv 2)) (by decide) rfl rfl rfl) ?_
   refine sV (Bb (vals:=[(0,.agg #[.bool false,.slice A6a (sz r0a.1) c7a]),(1,.int .i64 (wi64 ((wi64 (x0.e - m2a)).tdiv 2)))]) (cells:=[.bool false,.slice A6a (sz r0a.1) c7a,.int .i64 (wi64 ((wi64 (x0.e - m2a)).tdiv 2))]) (by rfl) (by kernel_rfl)) ?_
   refine sV3 (Aa rfl) (Aa rfl) (Aa rfl) ?_
   refine sV (AG As rfl) ?_
   refine sb (Gm rfl rfl) fun z5b hz5b=>?_
   refine nrm ?_
   obtain rfl:z5b=decide (0<(sz r0a.2:Int)):=bz hz5b
   refine scn f2f (Ad KP (by rfl)) (DD (⟨(⟨false,r0a.1⟩:Ae),(wi64 ((wi64 (x0.e - m2a)).tdiv 2))⟩:An) x1 x2 (decide (0<(sz r0a.2:Int))) A6a c7a w6 (tbx X3c hT) n3f) fun r7g f6f w7 A7f c8f E4c n9f=>?_
   have X0g:=xtr X3c E4c
   have q5c:=((((q6b.ext E1a).ext E5a).ext E3b).ext E4b).ext E4c
   refine ss BO q5c fun w8 U6c q1g=>?_
   have X2g:=belU X0g U6c g7b
   refine wh h4f<|wp_ret ?_
   exact CV f6f rfl (Res.cellN rfl Aw q1g rfl rfl Res.nil) (Av X2g ⟨A7f,c8f,rfl,(n9f.upd U6c q5c (by decide))⟩)
theorem Mc (x0:Ap) (x1:Ap) (x2:Int) (A1:Option Addr) (c2:Nat) (A4:Option Addr) (c5:Nat) (A7:Option Addr) (c8:Nat) (A5b:Option Addr) (c0d:Nat) (w:World) (hT:TB w) (n3:RU w A1 c2 x0.lo.m.Abs) (n6:RU w A4 c5 x0.hi.m.Abs) (n9:RU w A7 c8 x1.lo.m.Abs) (n1g:RU w A5b c0d x1.hi.m.Abs) (r:Except Int (Al)) (hr:Ky x0 x1 x2=some r) :
  Calls Tryz.prog 110 #[.agg #[.bool x0.lo.m.Neg,.slice A1 (sz x0.lo.m.Abs) c2,.int .i64 x0.lo.e,.bool x0.hi.m.Neg,.slice A4 (sz x0.hi.m.Abs) c5,.int .i64 x0.hi.e],.agg #[.bool x1.lo.m.Neg,.slice A7 (sz x1.lo.m.Abs) c8,.int .i64 x1.lo.e,.bool x1.hi.m.Neg,.slice A5b (sz x1.hi.m.Abs) c0d,.int .i64 x1.hi.e],.int .i64 x2] w (RetE 201 KA w r):=by
 unfold Ky at hr
 go_enter Tryz.func110,Tryz.ntmps110
 refine wp_seq_k fun _ h5d=>Af<|Bm rfl rfl fun b2g w1 E1d g3g q6b=>?_
 refine nrm ?_
 refine Bm rfl rfl fun b4g w2 E5a g6d q5g=>?_
 refine nrm ?_
 have g6g:=nlt E1d.size g6d
 have X2d:=xtr E1d E5a
 refine Ax Cv fun b7g w3 E6a g7d q8d=>?_
 refine nrm ?_
 have g9d:=nlt X2d.size g7d
 have X7b:=xtr X2d E6a
 refine wh h5d<|wp_seq_k fun _ h0e=>Af<|sV2 (Ah (o':=0) Cl rfl rfl) (dld Aw ((q6b.ext E5a).ext E6a)) ?_
 refine scr hr (Ad Kf (by rfl)) (CY x0.lo A1 c2 w3 (tbx X7b hT) (n3.ext X7b)) fun r8b f1e w4 E7a=>?_
 have X8a:=xtr X7b E7a
 refine sb (FP rfl rfl) fun z9b hz9b=>?_
 refine nrm ?_
 obtain rfl:z9b=decide (0≤r8b):=bz hz9b
 rcases AF f1e with ⟨r0c,h1c,f2e⟩ | ⟨r0c,h1c,rfl⟩
 ·refine scO (Ad DY (by rfl)) (AZ (decide (0≤r8b)) 3 w4 (tbx X8a hT)  (.ok r0c) h1c) ?_
  rintro _ w5 E2a rfl
  refine nrm ?_
  have X3e:=xtr X8a E2a
  refine wh h0e<|wp_seq_k fun _ h4e=>DK [10] 11 mo rfl fun w6 E9a S2c=>have X3c:=xtr X3e E9a;dA 0 rfl (fun _=>Ah (o':=0) Cl rfl rfl) ?_
  refine dV 1 rfl (fun _ hw=>dld Aw ((((((q6b.ext E5a).ext E6a).ext E7a).ext E2a).ext E9a).ext hw)) S2c ?_
  refine dA 2 rfl (fun _=>Aa rfl) ?_
  refine dA 4 rfl (fun _=>Ah (o':=3) Cw rfl rfl) ?_
  refine dV 5 rfl (fun _ hw=>dld Aw ((((((q6b.ext E5a).ext E6a).ext E7a).ext E2a).ext E9a).ext hw)) S2c ?_
  refine dA 6 rfl (fun _=>Aa rfl) ?_
  refine dcn f2e 3 rfl (by rfl) (Ad Rz (by rfl)) (Nb x0.lo x2 5 A1 c2 w6 (tbx X3c hT) (n3.ext X3c)) fun r0a f5e w7 A0b c1b E4c n3d=>?_
  have X5c:=xtr X3c E4c
  have S6e:=S2c.trans E4c
  refine dcn f5e 7 rfl (by rfl) (Ad Rz (by rfl)) (Nb x0.hi x2 4 A4 c5 w7 (tbx X5c hT) (n6.ext X5c)) fun r1a f7e w8 A2b c3b E3a n4d=>?_
  have X4b:=xtr X5c E3a
  have S8e:=S6e.trans E3a
  refine dA 8 rfl (fun _=>Bb (vals:=[(0,.agg #[.bool r0a.m.Neg,.slice A0b (sz r0a.m.Abs) c1b,.int .i64 r0a.e]),(1,.agg #[.bool r1a.m.Neg,.slice A2b (sz r1a.m.Abs) c3b,.int .i64 r1a.e])]) (cells:=[.bool r0a.m.Neg,.slice A0b (sz r0a.m.Abs) c1b,.int .i64 r0a.e,.bool r1a.m.Neg,.slice A2b (sz r1a.m.Abs) c3b,.int .i64 r1a.e]) (by rfl) (by kernel_rfl)) ?_
  rcases AF f7e with ⟨r6c,h7c,f9e⟩ | ⟨r6c,h7c,rfl⟩
  ·refine dcO 9 rfl (by kernel_rfl) (by rfl) (Ad IZ (by rfl)) (BX (⟨r0a,r1a⟩:Ap) A0b c1b A2b c3b w8 (tbx X4b hT) (n3d.ext E3a) n4d (.ok r6c) h7c) ?_
   rintro _ w9 E4a ⟨A0f,c1f,A2f,c3f,rfl,n4f,n5f⟩
   refine dnrm ?_
   have X6f:=xtr X4b E4a
   have S8g:=S8e.trans E4a
   have q8c:=(((((q8d.ext E7a).ext E2a).ext E9a).ext E4c).ext E3a).ext E4a
   refine dkk 10 Bp q8c fun w5b U9c q7f=>?_
   have X8f:=belU X6f U9c g9d
   refine CE (by kernel_rfl) ?_
   refine h4e _ _<|wp_ret ?_
   exact CV f9e rfl (Res.cellN rfl AI q7f rfl rfl Res.nil) (DC X8f ⟨A0f,c1f,A2f,c3f,rfl,(n4f.upd U9c q8c (by decide)),(n5f.upd U9c q8c (by decide))⟩)
  ·refine dcP 9 rfl (by kernel_rfl) (by rfl) (Ad IZ (by rfl)) (BX (⟨r0a,r1a⟩:Ap) A0b c1b A2b c3b w8 (tbx X4b hT) (n3d.ext E3a) n4d (.error r6c) h7c) fun w9 E4a=>?_
   have X9f:=xtr X4b E4a
   exact ⟨rfl,BK X9f⟩
 ·refine scP (Ad DY (by rfl)) (AZ (decide (0≤r8b)) 3 w4 (tbx X8a hT)  (.error r0c) h1c) fun w5 E2a=>?_
  have X0g:=xtr X8a E2a
  exact ⟨rfl,BK X0g⟩
theorem c_dyad_made_Span__dyad_Root_1 (x0:Ao) (x1:Ao) (x2:Int) (A1:Option Addr) (c2:Nat) (A4:Option Addr) (c5:Nat) (A7:Option Addr) (c8:Nat) (A6a:Option Addr) (c8a:Nat) (w:World) (hT:TB w) (n3:RLu w A1 c2 x0.Lo.Man.Abs) (n6:RLu w A4 c5 x0.Hi.Man.Abs) (n9:RLu w A7 c8 x1.Lo.Man.Abs) (n4b:RLu w A6a c8a x1.Hi.Man.Abs) (r:Al × Int) (hr:FB x0 x1 x2=some r) :
  Calls Tryz.prog 100 #[.agg #[.bool x0.Lo.Man.Neg,.slice A1 x0.Lo.Man.Abs.length c2,.int .i64 x0.Lo.Exp,.bool x0.Hi.Man.Neg,.slice A4 x0.Hi.Man.Abs.length c5,.int .i64 x0.Hi.Exp],.agg #[.bool x1.Lo.Man.Neg,.slice A7 x1.Lo.Man.Abs.length c8,.int .i64 x1.Lo.Exp,.bool x1.Hi.Man.Neg,.slice A6a x1.Hi.Man.Abs.length c8a,.int .i64 x1.Hi.Exp],.int .i64 x2,.func (.func 110) #[] #[]] w (Ret FC w r):=by
 unfold FB at hr
 obtain ⟨q0,hq0,hr0⟩:=Ac hr
 unfold GU at hq0
 go_enter_defers Tryz.func100,Tryz.ntmps100
 refine wp_seq_k fun _ h4e=>Af<|Bm rfl rfl fun b9l w1 E5e g0m q7g=>?_
 refine nrm ?_
 refine Bm rfl rfl fun b1m w2 E6e g8g q7e=>?_
 refine nrm ?_
 have g2m:=nlt E5e.size g8g
 have X8e:=xtr E5e E6e
 refine Ax Cv fun b5b w3 E6b g9g q7b=>?_
 refine nrm ?_
 have g8b:=nlt X8e.size g9g
 have X9e:=xtr X8e E6b
 refine Ax Jk fun b9b w4 E0b g0h q3b=>?_
 refine nrm ?_
 have g0c:=nlt X9e.size g0h
 have X0f:=xtr X9e E0b
 refine wh h4e<|wp_seq_k fun _ h1h=>Af<|Hw (vs:=[.pointer (some ⟨b5b,0,none⟩),.pointer (some ⟨b9b,0,none⟩)]) (by rfl) (by rfl)<|wh h1h<|wp_seq_k fun _ h2h=>Af<|have q1f:=((q7g.ext E6e).ext E6b).ext E0b;sV2 (Am AI rfl q1f rfl) (Am AI rfl ((q7e.ext E6b).ext E0b) rfl) ?_
 refine CI (vals:=[(0,.agg #[.bool x0.Lo.Man.Neg,.slice A1 x0.Lo.Man.Abs.length c2,.int .i64 x0.Lo.Exp,.bool x0.Hi.Man.Neg,.slice A4 x0.Hi.Man.Abs.length c5,.int .i64 x0.Hi.Exp]),(1,.agg #[.bool x1.Lo.Man.Neg,.slice A7 x1.Lo.Man.Abs.length c8,.int .i64 x1.Lo.Exp,.bool x1.Hi.Man.Neg,.slice A6a x1.Hi.Man.Abs.length c8a,.int .i64 x1.Hi.Exp])]) (cs:=[.bool x0.Lo.Man.Neg,.slice A1 x0.Lo.Man.Abs.length c2,.int .i64 x0.Lo.Exp,.bool x0.Hi.Man.Neg,.slice A4 x0.Hi.Man.Abs.length c5,.int .i64 x0.Hi.Exp,.bool x1.Lo.Man.Neg,.slice A7 x1.Lo.Man.Abs.length c8,.int .i64 x1.Lo.Exp,.bool x1.Hi.Man.Neg,.slice A6a x1.Hi.Man.Abs.length c8a,.int .i64 x1.Hi.Exp]) Jn Bp Cv (by rfl) (by decide) (by kernel_rfl) fun b2f w5 E3a g3h q3f=>?_
 refine nrm ?_
 have g3m:=nlt X0f.size g3h
 have X4a:=xtr X0f E3a
 rcases AF hq0 with ⟨r1c,h9d,f4h⟩ | ⟨r1c,h9d,rfl⟩
 ·refine scO (Ad It (by rfl)) (BP x0 x1 b2f A1 c2 A4 c5 A7 c8 A6a c8a w5 (tbx X4a hT) (n3.ext X4a) (n6.ext X4a) (n9.ext X4a) (n4b.ext X4a) q3f (.ok r1c) h9d) ?_
  rintro _ w6 E2a rfl
  refine nrm ?_
  have X2c:=xtr X4a E2a
  refine wh h2h<|wp_seq_k fun _ h5h=>Af<|sV (Aa rfl) ?_
  rcases AF f4h with ⟨r3c,h0e,f6h⟩ | ⟨r3c,h0e,rfl⟩
  ·refine scO (Ad Ip (by rfl)) (Dj x2 w6 (tbx X2c hT)  (.ok r3c) h0e) ?_
   rintro _ w7 E5a rfl
   refine nrm ?_
   have X7h:=xtr X2c E5a
   refine wh h5h<|wp_seq_k fun _ h8h=>DK [7,8] 9 mo rfl fun w8 E1b S1e=>?_
   have X4c:=xtr X7h E1b
   refine dA 0 rfl (fun _=>Aa rfl) ?_ (hQ:=fun _ _ _ h=>dq (rs:=[.cell 8 29,.cell 9 33]) rfl (by decide) h)
   refine dV 1 rfl (fun _ hw=>Am AI rfl (((((q1f.ext E3a).ext E2a).ext E5a).ext E1b).ext hw) rfl) S1e ?_ (hQ:=fun _ _ _ h=>dq (rs:=[.cell 8 29,.cell 9 33]) rfl (by decide) h)
   refine dV 3 rfl (fun _ hw=>Am AI rfl (((((((q7e.ext E6b).ext E0b).ext E3a).ext E2a).ext E5a).ext E1b).ext hw) rfl) S1e ?_ (hQ:=fun _ _ _ h=>dq (rs:=[.cell 8 29,.cell 9 33]) rfl (by decide) h)
   refine dA 5 rfl (fun _=>Aa rfl) ?_ (hQ:=fun _ _ _ h=>dq (rs:=[.cell 8 29,.cell 9 33]) rfl (by decide) h)
   obtain ⟨m4f,h9h,f0i⟩:=Ac f6h
   have hx5f:=AU h9h
   have n1i:RU w8 A1 c2 m4f:=by unfold RU;rw [hx5f];exact (n3.ext X4c)
   obtain ⟨m6f,h2i,f3i⟩:=Ac f0i
   have hx7f:=AU h2i
   have n4i:RU w8 A4 c5 m6f:=by unfold RU;rw [hx7f];exact (n6.ext X4c)
   obtain ⟨r0a,h5i,f6i⟩:=Ac f3i
   refine dc 2 rfl (by kernel_rfl) (by rfl) (Ad IY (by simp only [sz,hx5f,hx7f];rfl)) (CN (⟨(⟨(⟨x0.Lo.Man.Neg,m4f⟩:Ae),x0.Lo.Exp⟩:Ag),(⟨(⟨x0.Hi.Man.Neg,m6f⟩:Ae),x0.Hi.Exp⟩:Ag)⟩:Al) A1 c2 A4 c5 w8 (tbx X4c hT) n1i n4i r0a h5i) ?_
   rintro _ w9 E2b ⟨A5c,c6c,A7c,c8c,rfl,n8f,n9f⟩
   refine dnrm ?_
   have X9c:=xtr X4c E2b
   have S7i:=S1e.trans E2b
   obtain ⟨m0g,h8i,f9i⟩:=Ac f6i
   have hx1g:=AU h8i
   have n0j:RU w9 A7 c8 m0g:=by unfold RU;rw [hx1g];exact (n9.ext X9c)
   obtain ⟨m2g,h1j,f2j⟩:=Ac f9i
   have hx3g:=AU h1j
   have n3j:RU w9 A6a c8a m2g:=by unfold RU;rw [hx3g];exact (n4b.ext X9c)
   obtain ⟨r1a,h4j,f5j⟩:=Ac f2j
   refine dc 4 rfl (by kernel_rfl) (by rfl) (Ad IY (by simp only [sz,hx1g,hx3g];rfl)) (CN (⟨(⟨(⟨x1.Lo.Man.Neg,m0g⟩:Ae),x1.Lo.Exp⟩:Ag),(⟨(⟨x1.Hi.Man.Neg,m2g⟩:Ae),x1.Hi.Exp⟩:Ag)⟩:Al) A7 c8 A6a c8a w9 (tbx X9c hT) n0j n3j r1a h4j) ?_
   rintro _ w6a E7a ⟨A0d,c1d,A2d,c3d,rfl,n4g,n5g⟩
   refine dnrm ?_
   have X4d:=xtr X9c E7a
   have S6j:=S7i.trans E7a
   rcases AF f5j with ⟨r5d,h2e,f7j⟩ | ⟨r5d,h2e,rfl⟩
   ·refine dcO 6 rfl (by kernel_rfl) (by rfl) (Ee (first:=[]) (cap:=[]) (args:=[.agg #[.bool r0a.lo.m.Neg,.slice A5c (sz r0a.lo.m.Abs) c6c,.int .i64 r0a.lo.e,.bool r0a.hi.m.Neg,.slice A7c (sz r0a.hi.m.Abs) c8c,.int .i64 r0a.hi.e],.agg #[.bool r1a.lo.m.Neg,.slice A0d (sz r1a.lo.m.Abs) c1d,.int .i64 r1a.lo.e,.bool r1a.hi.m.Neg,.slice A2d (sz r1a.hi.m.Abs) c3d,.int .i64 r1a.hi.e],.int .i64 x2]) QH (by rfl) (by rfl)) (Mc r0a r1a x2 A5c c6c A7c c8c A0d c1d A2d c3d w6a (tbx X4d hT) (n8f.ext E7a) (n9f.ext E7a) n4g n5g (.ok r5d) h2e) ?_
    rintro _ w8a E9a ⟨A8j,c9j,A0k,c1k,rfl,n2k,n3k⟩
    refine dnrm ?_
    have X4k:=xtr X4d E9a
    have S4m:=S6j.trans E9a
    have q6d:=(((((((q7b.ext E0b).ext E3a).ext E2a).ext E5a).ext E1b).ext E2b).ext E7a).ext E9a
    refine dkk 7 Bp q6d fun w4b U7d q5k=>?_
    have X6k:=belU X4k U7d g8b
    have ne6g:=(Bx.neT (((((((q3b.ext E3a).ext E2a).ext E5a).ext E1b).ext E2b).ext E7a).ext E9a) q6d (by decide))
    have q3e:=(((((((q3b.ext E3a).ext E2a).ext E5a).ext E1b).ext E2b).ext E7a).ext E9a).upd U7d ne6g
    refine dkk 8 GW q3e fun w4e U8d q7k=>?_
    have X8k:=belU X6k U8d g0c
    refine CE (by kernel_rfl) ?_
    refine h8h _ _<|wp_ret ?_
    have n9k:=(n2k.upd U7d q6d (by decide)).upd U8d q3e (by decide)
    have n0l:=(n3k.upd U7d q6d (by decide)).upd U8d q3e (by decide)
    obtain rfl:=sj f7j
    obtain rfl:=sj hr0
    exact Mj Dl ER rfl (Res.cellN rfl AI (q5k.upd U8d (Ne.symm ne6g)) rfl rfl (Res.cell1 rfl BW (Bx.cell q7k rfl) Res.nil)) (Av X8k ⟨A8j,c9j,A0k,c1k,rfl,n9k,n0l⟩)
   ·refine dcP 6 rfl (by kernel_rfl) (by rfl) (Ee (first:=[]) (cap:=[]) (args:=[.agg #[.bool r0a.lo.m.Neg,.slice A5c (sz r0a.lo.m.Abs) c6c,.int .i64 r0a.lo.e,.bool r0a.hi.m.Neg,.slice A7c (sz r0a.hi.m.Abs) c8c,.int .i64 r0a.hi.e],.agg #[.bool r1a.lo.m.Neg,.slice A0d (sz r1a.lo.m.Abs) c1d,.int .i64 r1a.lo.e,.bool r1a.hi.m.Neg,.slice A2d (sz r1a.hi.m.Abs) c3d,.int .i64 r1a.hi.e],.int .i64 x2]) QH (by rfl) (by rfl)) (Mc r0a r1a x2 A5c c6c A7c c8c A0d c1d A2d c3d w6a (tbx X4d hT) (n8f.ext E7a) (n9f.ext E7a) n4g n5g (.error r5d) h2e) fun w8a E9a=>?_
    have X1l:=xtr X4d E9a
    have q2l:=(((((((q7b.ext E0b).ext E3a).ext E2a).ext E5a).ext E1b).ext E2b).ext E7a).ext E9a
    have q3l:=((((((q3b.ext E3a).ext E2a).ext E5a).ext E1b).ext E2b).ext E7a).ext E9a
    refine Ir ER (AL b5b b9b (.bool false:Value) (.slice none 0 0:Value) (.int .i64 0:Value) (.bool false:Value) (.slice none 0 0:Value) (.int .i64 0:Value) (.int .i64 0:Value) r5d q2l q3l) rfl ?_
    rintro w9 ⟨u9,q9,q9'⟩
    obtain rfl:=sj hr0
    exact ⟨_,(Res.cellN rfl AI q9 rfl rfl (Res.cell1 rfl BW (Bx.cell q9' rfl) Res.nil)),Av (u9.toExt X1l g8b g0c) ⟨none,0,none,0,rfl,RU.nil _,RU.nil _⟩⟩
  ·refine scP (Ad Ip (by rfl)) (Dj x2 w6 (tbx X2c hT)  (.error r3c) h0e) fun w7 E5a=>?_
   have X4l:=xtr X2c E5a
   have q5l:=(((q7b.ext E0b).ext E3a).ext E2a).ext E5a
   have q6l:=((q3b.ext E3a).ext E2a).ext E5a
   refine Ir ER (AL b5b b9b (.bool false:Value) (.slice none 0 0:Value) (.int .i64 0:Value) (.bool false:Value) (.slice none 0 0:Value) (.int .i64 0:Value) (.int .i64 0:Value) r3c q5l q6l) rfl ?_
   rintro w9 ⟨u9,q9,q9'⟩
   obtain rfl:=sj hr0
   exact ⟨_,(Res.cellN rfl AI q9 rfl rfl (Res.cell1 rfl BW (Bx.cell q9' rfl) Res.nil)),Av (u9.toExt X4l g8b g0c) ⟨none,0,none,0,rfl,RU.nil _,RU.nil _⟩⟩
 ·refine scP (Ad It (by rfl)) (BP x0 x1 b2f A1 c2 A4 c5 A7 c8 A6a c8a w5 (tbx X4a hT) (n3.ext X4a) (n6.ext X4a) (n9.ext X4a) (n4b.ext X4a) q3f (.error r1c) h9d) fun w6 E2a=>?_
  have X7l:=xtr X4a E2a
  have q8l:=((q7b.ext E0b).ext E3a).ext E2a
  refine Ir ER (AL b5b b9b (.bool false:Value) (.slice none 0 0:Value) (.int .i64 0:Value) (.bool false:Value) (.slice none 0 0:Value) (.int .i64 0:Value) (.int .i64 0:Value) r1c q8l ((q3b.ext E3a).ext E2a)) rfl ?_
  rintro w9 ⟨u9,q9,q9'⟩
  obtain rfl:=sj hr0
  exact ⟨_,(Res.cellN rfl AI q9 rfl rfl (Res.cell1 rfl BW (Bx.cell q9' rfl) Res.nil)),Av (u9.toExt X7l g8b g0c) ⟨none,0,none,0,rfl,RU.nil _,RU.nil _⟩⟩
theorem c_dyad_Root (x0:Ao) (x1:Int) (A1:Option Addr) (c2:Nat) (A4:Option Addr) (c5:Nat) (w:World) (hT:TB w) (n3:RLu w A1 c2 x0.Lo.Man.Abs) (n6:RLu w A4 c5 x0.Hi.Man.Abs) (r:Al × Int) (hr:LG x0 x1=some r) :
  Calls Tryz.prog 25 #[.agg #[.bool x0.Lo.Man.Neg,.slice A1 x0.Lo.Man.Abs.length c2,.int .i64 x0.Lo.Exp,.bool x0.Hi.Man.Neg,.slice A4 x0.Hi.Man.Abs.length c5,.int .i64 x0.Hi.Exp],.int .i64 x1] w (Ret FC w r):=by
 unfold LG at hr
 go_enter Tryz.func25,Tryz.ntmps25
 refine wp_seq_k fun _ h7=>Af<|Bm rfl rfl fun b8 w1 E9 g3c q5a=>?_
 refine nrm ?_
 refine Ax Cv fun b4c w2 E2a g6a q3a=>?_
 refine nrm ?_
 have g7a:=nlt E9.size g6a
 have X0a:=xtr E9 E2a
 refine sV (Ab rfl) ?_
 refine wh h7<|wp_seq_k fun _ h8a=>Af<|sV3 (Am AI rfl (q5a.ext E2a) rfl) (Am AI rfl (q5a.ext E2a) rfl) (Aa rfl) ?_
 obtain ⟨r9a,h0b,f1b⟩:=Ac hr
 refine sc (Ad Mk (by rfl)) (c_dyad_made_Span__dyad_Root_1 x0 x0 x1 A1 c2 A4 c5 A1 c2 A4 c5 w2 (tbx X0a hT) (n3.ext X0a) (n6.ext X0a) (n3.ext X0a) (n6.ext X0a) r9a h0b) ?_
 rintro _ w3 E1a ⟨A2b,c3b,A4b,c5b,rfl,n6b,n7b⟩
 refine nrm ?_
 have X8b:=xtr X0a E1a
 refine sV2 (Aj rfl rfl) (Aj rfl rfl) ?_
 refine ss Bp (q3a.ext E1a) fun w4 U4a q9b=>?_
 have X0c:=belU X8b U4a g7a
 refine sV (Ab rfl) ?_
 refine wh h8a<|wp_ret ?_
 have n1c:=n6b.upd U4a (q3a.ext E1a) (by decide)
 have n2c:=n7b.upd U4a (q3a.ext E1a) (by decide)
 exact CV f1b rfl (Res.cellN rfl AI q9b rfl rfl (Res.tmp rfl Res.nil)) (Av X0c ⟨A2b,c3b,A4b,c5b,rfl,n1c,n2c⟩)
set_option maxRecDepth 20000 in
theorem Hy (w:World) (hT:TB w) (r:Bool) (hr:DU=some r) :
  Calls Tryz.prog 15 #[] w (Ret FN w r):=by
 unfold DU at hr
 refine Ns Tryz.func15 rfl [uu,uu,uu,uu,uu,uu,uu,uu,uu,uu,uu,uu,uu,uu,uu,uu,uu,uu,uu,uu,uu,uu,uu,uu,uu,uu,uu,uu,uu,uu,uu,uu,uu,uu,uu,uu,uu,uu,uu,uu,uu,uu,uu,uu,uu,uu,uu,uu,uu,uu,uu,uu,uu,uu,uu,uu,uu,uu,uu,uu,uu,uu,uu,uu,uu,uu,uu,uu,uu,uu,uu,uu,uu,uu,uu,uu,uu,uu,uu,uu,uu,uu,uu,uu,uu,uu,uu,uu,uu,uu,uu,uu,uu,uu,uu,uu,uu,uu,uu,uu,uu,uu,uu,uu,uu,uu,uu,uu,uu,uu,uu,uu,uu,uu,uu,uu,uu,uu,uu] (by kernel_rfl) ?_
 refine wp_seq_k fun _ h1=>Af<|sV (Ab rfl) ?_
 refine wh h1<|wp_seq_k fun _ h2=>Af ?_
 refine scn hr (Ad RN (by rfl)) (JA 12 w hT) fun r3 f5 w1 A7 c8 E6 n9=>?_
 refine scn f5 (Ad en_60 (by rfl)) (c_dyad_Make (⟨r3.Neg,(limbs r3.Abs)⟩:Ay) 3 A7 c8 w1 (tbx E6 hT) n9) fun r1l f9h w2 A0i c2l E1i n3l=>?_
 have X2i:=xtr E6 E1i
 refine sV3 (Aa rfl) (Aj rfl rfl) (Aj rfl rfl) ?_
 refine Ax Hq fun b4e w3 E3i g2g q4i=>?_
 refine nrm ?_
 have g4l:=nlt X2i.size g2g
 refine ss FI q4i fun w4 U5i q6i=>?_
 have F3g:=belU E3i U5i g2g
 have X4g:=xtr X2i F3g
 refine sV (Ab rfl) ?_
 refine wh h2<|wp_seq_k fun _ h7i=>Af ?_
 refine scn f9h (Ad LC (by rfl)) (BM 11 0 w4 (tbx X4g hT)) fun r5g f8i w5 A9i c0j E5e n1j=>?_
 have X2j:=xtr X4g E5e
 refine scn f8i (Ad RJ (by rfl)) (MD (⟨(⟨r5g.Man.Neg,(limbs r5g.Man.Abs)⟩:Ay),r5g.Exp⟩:Aq) 3 1 A9i c0j w5 (tbx X2j hT) n1j) fun r6e f5l w6 A3j c6l E6g n7l=>?_
 have X7g:=xtr X2j E6g
 refine sV3 (Aa rfl) (Aj rfl rfl) (Aj rfl rfl) ?_
 refine Ax Hq fun b6t w7 E8l g8g q9l=>?_
 refine nrm ?_
 have g7t:=nlt X7g.size g8g
 refine ss FI q9l fun w8 U7e q4j=>?_
 have F9g:=belU E8l U7e g8g
 have X0m:=xtr X7g F9g
 refine sV (Ab rfl) ?_
 refine wh h7i<|wp_seq_k fun _ h8t=>Af ?_
 refine scn f5l (Ad LC (by rfl)) (BM (-11) 0 w8 (tbx X0m hT)) fun r5j f9t w9 A0u c1u E8e n2u=>?_
 have X1m:=xtr X0m E8e
 refine scn f9t (Ad RJ (by rfl)) (MD (⟨(⟨r5j.Man.Neg,(limbs r5j.Man.Abs)⟩:Ay),r5j.Exp⟩:Aq) 2 5 A0u c1u w9 (tbx X1m hT) n2u) fun r0h f3u w1l A4u c5u E9e n6u=>?_
 have X2m:=xtr X1m E9e
 refine sV3 (Aa rfl) (Aj rfl rfl) (Aj rfl rfl) ?_
 refine Ax Hq fun b2ai w3ai E7u g3m q8u=>?_
 refine nrm ?_
 have g4ai:=nlt X2m.size g3m
 refine ss FI q8u fun w9h U9u q0v=>?_
 have F9d:=belU E7u U9u g3m
 have X4m:=xtr X2m F9d
 refine sV (Ab rfl) ?_
 refine wh h8t<|wp_seq_k fun _ h1v=>Af ?_
 obtain ⟨r3c,h2v,f3v⟩:=Ac f3u
 refine sc (Ad MZ (by rfl)) (Di (-1) 2 w9h (tbx X4m hT)  r3c h2v) ?_
 rintro _ w1i E4c ⟨A4v,c5v,A6v,c7v,rfl,n8v,n9v⟩
 refine nrm ?_
 have X5m:=xtr X4m E4c
 obtain ⟨r5c,h0w,f1w⟩:=Ac f3v
 refine sc (Ad MZ (by rfl)) (Di (-3) 5 w1i (tbx X5m hT)  r5c h0w) ?_
 rintro _ w0i E7b ⟨A2w,c3w,A4w,c5w,rfl,n6w,n7w⟩
 refine nrm ?_
 have X6m:=xtr X5m E7b
 obtain ⟨r0f,h8w,f9w⟩:=Ac f1w
 refine sc (Ad en_32 (by rfl)) (c_dyad_Times (⟨(⟨(⟨r3c.Lo.Man.Neg,(limbs r3c.Lo.Man.Abs)⟩:Ay),r3c.Lo.Exp⟩:Aq),(⟨(⟨r3c.Hi.Man.Neg,(limbs r3c.Hi.Man.Abs)⟩:Ay),r3c.Hi.Exp⟩:Aq)⟩:Ao) (⟨(⟨(⟨r5c.Lo.Man.Neg,(limbs r5c.Lo.Man.Abs)⟩:Ay),r5c.Lo.Exp⟩:Aq),(⟨(⟨r5c.Hi.Man.Neg,(limbs r5c.Hi.Man.Abs)⟩:Ay),r5c.Hi.Exp⟩:Aq)⟩:Ao) 8 A4v c5v A6v c7v A2w c3w A4w c5w w0i (tbx X6m hT) (n8v.ext E7b) (n9v.ext E7b) n6w n7w r0f h8w) ?_
 rintro _ w2l E6c ⟨A0x,c1x,A2x,c3x,rfl,n4x,n5x⟩
 refine nrm ?_
 have X7m:=xtr X6m E6c
 refine sV3 (Aa rfl) (Aj rfl rfl) (Aj rfl rfl) ?_
 refine Ax Cv fun b5ai w3l E6x g8m q7x=>?_
 refine nrm ?_
 have g6ai:=nlt X7m.size g8m
 refine ss Bp q7x fun w2i U8x q9x=>?_
 have F8b:=belU E6x U8x g8m
 have X0y:=xtr X7m F8b
 refine sV (Ab rfl) ?_
 refine wh h1v<|wp_seq_k fun _ h1y=>wp_seq_k fun _ h1f=>DK [] 38 mo rfl fun w4e E5b S9m=>have X6j:=xtr X0y E5b;dA 0 rfl (fun _=>Aa rfl) ?_
 refine dab 1 rfl (by kernel_rfl) (fun _ _ _ h=>h) (by rfl) (fun _=>Ik rfl rfl) fun z0n hz0n=>?_
 refine dnrm ?_
 refine dA 2 rfl (fun _=>Aa rfl) ?_
 obtain ⟨m2y,h3y,f4y⟩:=Ac f9w
 refine JQ #[true,true,true,true,true,true,false,false,false,false,false,false,false,false,false,false,false,false,false,false,false,false,false,false,false,false,false,false,false,false,false,false,false,false,false,false,false,false] 32 (fun l l' w'=>∃(t1n:Value) (t2n:Value),w4e=w'∧l'=(((l.set 39 t1n).set 40 t2n).set 41 (.bool m2y))) ?_ ?_
 ·intro HJ144
  rcases zi hz0n h3y with ⟨e7c,_,f5y⟩ | ⟨e7c,_,f6y⟩
  ·refine dP 3 rfl ?_ (hw:=wgF rfl e7c)
   refine dP 4 rfl ?_ (hw:=wgF rfl e7c)
   refine dA 5 rfl (fun _=>AA (evb rfl e7c) rfl) ?_
   obtain rfl:=sj f5y
   exact Cm (by kernel_rfl) (HJ144 _ _ ⟨uu,uu,rfl,(by kernel_rfl)⟩)
  ·refine dA 3 rfl (fun _=>Aa rfl) ?_ (hw:=wgT rfl e7c)
   refine dab 4 rfl (by kernel_rfl) (fun _ _ _ h=>h) (wgT rfl e7c) (fun _=>Ik rfl rfl) fun z7j hz7j=>?_
   refine dnrm ?_
   refine dA 5 rfl (fun _=>AC (evb rfl e7c) rfl) ?_
   obtain rfl:z7j=decide (¬r6e.2=0):=bz hz7j
   obtain rfl:=sj f6y
   exact Cm (by kernel_rfl) (HJ144 _ _ ⟨(.int .i64 r6e.2),(.bool (decide (¬r6e.2=0))),rfl,(by kernel_rfl)⟩)
 ·rintro l' _ ⟨t1n,t2n,rfl,hq'⟩ l'' hl
  rw [hq'] at hl
  clear hq'
  simp only [S0,S1] at hl
  subst hl
  refine dA 6 rfl (fun _=>Aa rfl) ?_
  obtain ⟨m7y,h8y,f9y⟩:=Ac f4y
  refine JQ #[true,true,true,true,true,true,true,true,true,true,false,false,false,false,false,false,false,false,false,false,false,false,false,false,false,false,false,false,false,false,false,false,false,false,false,false,false,false] 28 (fun l l' w'=>∃(t3n:Value) (t4n:Value),w4e=w'∧l'=(((l.set 43 t3n).set 44 t4n).set 45 (.bool m7y))) ?_ ?_
  ·intro HJ163
   rcases zb h8y with ⟨e8c,f0z⟩ | ⟨e8c,f1z⟩
   ·refine dP 7 rfl ?_ (hw:=wgF rfl e8c)
    refine dP 8 rfl ?_ (hw:=wgF rfl e8c)
    refine dA 9 rfl (fun _=>AA (evb rfl e8c) rfl) ?_
    obtain rfl:=sj f0z
    exact Cm (by kernel_rfl) (HJ163 _ _ ⟨uu,uu,rfl,(by kernel_rfl)⟩)
   ·refine dA 7 rfl (fun _=>Aa rfl) ?_ (hw:=wgT rfl e8c)
    refine dab 8 rfl (by kernel_rfl) (fun _ _ _ h=>h) (wgT rfl e8c) (fun _=>Ik rfl rfl) fun z8j hz8j=>?_
    refine dnrm ?_
    refine dA 9 rfl (fun _=>AC (evb rfl e8c) rfl) ?_
    obtain rfl:z8j=decide (¬r0h.2=0):=bz hz8j
    obtain rfl:=sj f1z
    exact Cm (by kernel_rfl) (HJ163 _ _ ⟨(.int .i64 r0h.2),(.bool (decide (¬r0h.2=0))),rfl,(by kernel_rfl)⟩)
  ·rintro l' _ ⟨t3n,t4n,rfl,hq'⟩ l'' hl
   rw [hq'] at hl
   clear hq'
   simp only [S0,S1] at hl
   subst hl
   refine dA 10 rfl (fun _=>Aa rfl) ?_
   obtain ⟨m2z,h3z,f4z⟩:=Ac f9y
   refine JQ #[true,true,true,true,true,true,true,true,true,true,true,true,true,true,false,false,false,false,false,false,false,false,false,false,false,false,false,false,false,false,false,false,false,false,false,false,false,false] 24 (fun l l' w'=>∃(t5n:Value) (t6n:Value),w4e=w'∧l'=(((l.set 47 t5n).set 48 t6n).set 49 (.bool m2z))) ?_ ?_
   ·intro HJ182
    rcases zb h3z with ⟨e9c,f5z⟩ | ⟨e9c,f6z⟩
    ·refine dP 11 rfl ?_ (hw:=wgF rfl e9c)
     refine dP 12 rfl ?_ (hw:=wgF rfl e9c)
     refine dA 13 rfl (fun _=>AA (evb rfl e9c) rfl) ?_
     obtain rfl:=sj f5z
     exact Cm (by kernel_rfl) (HJ182 _ _ ⟨uu,uu,rfl,(by kernel_rfl)⟩)
    ·refine dA 11 rfl (fun _=>Aa rfl) ?_ (hw:=wgT rfl e9c)
     refine dab 12 rfl (by kernel_rfl) (fun _ _ _ h=>h) (wgT rfl e9c) (fun _=>Ik rfl rfl) fun z9j hz9j=>?_
     refine dnrm ?_
     refine dA 13 rfl (fun _=>AC (evb rfl e9c) rfl) ?_
     obtain rfl:z9j=decide (¬r0f.2=0):=bz hz9j
     obtain rfl:=sj f6z
     exact Cm (by kernel_rfl) (HJ182 _ _ ⟨(.int .i64 r0f.2),(.bool (decide (¬r0f.2=0))),rfl,(by kernel_rfl)⟩)
   ·rintro l' _ ⟨t5n,t6n,rfl,hq'⟩ l'' hl
    rw [hq'] at hl
    clear hq'
    simp only [S0,S1] at hl
    subst hl
    refine dA 14 rfl (fun _=>Aa rfl) ?_
    rcases zb f4z with ⟨e9a,f7z⟩ | ⟨e9a,f8z⟩
    ·refine dP 15 rfl ?_ (hw:=wgF rfl e9a)
     refine dP 16 rfl ?_ (hw:=wgF rfl e9a)
     refine dP 17 rfl ?_ (hw:=wgF rfl e9a)
     refine dP 18 rfl ?_ (hw:=wgF rfl e9a)
     refine dA 19 rfl (fun _=>AA (evb rfl e9a) rfl) ?_
     refine dA 20 rfl (fun _=>Aa rfl) ?_
     refine dP 21 rfl ?_ (hw:=wgF rfl rfl)
     refine dP 22 rfl ?_ (hw:=wgF rfl rfl)
     refine dP 23 rfl ?_ (hw:=wgF rfl rfl)
     refine dP 24 rfl ?_ (hw:=wgF rfl rfl)
     refine dA 25 rfl (fun _=>AA (evb rfl rfl) rfl) ?_
     refine dA 26 rfl (fun _=>Aa rfl) ?_
     refine dP 27 rfl ?_ (hw:=wgF rfl rfl)
     refine dP 28 rfl ?_ (hw:=wgF rfl rfl)
     refine dP 29 rfl ?_ (hw:=wgF rfl rfl)
     refine dP 30 rfl ?_ (hw:=wgF rfl rfl)
     refine dA 31 rfl (fun _=>AA (evb rfl rfl) rfl) ?_
     refine dA 32 rfl (fun _=>Aa rfl) ?_
     refine dP 33 rfl ?_ (hw:=wgF rfl rfl)
     refine dP 34 rfl ?_ (hw:=wgF rfl rfl)
     refine dP 35 rfl ?_ (hw:=wgF rfl rfl)
     refine dP 36 rfl ?_ (hw:=wgF rfl rfl)
     refine dA 37 rfl (fun _=>AA (evb rfl rfl) rfl) ?_
     refine CE (by kernel_rfl) ?_
     refine h1f _ _<|wp_cond_true (Ak (evb rfl rfl))<|wp_seq_k fun _ h9z=>Af<|sV (Ab rfl) ?_
     refine wh h9z<|wp_ret ?_
     exact BG f7z X6j rfl
    ·refine dV 15 rfl (fun _ hw=>Am BT rfl ((((((((((((q6i.ext E5e).ext E6g).ext F9g).ext E8e).ext E9e).ext F9d).ext E4c).ext E7b).ext E6c).ext F8b).ext E5b).ext hw) rfl) S9m ?_ (hw:=wgT rfl e9a)
     refine dcn f8z 16 rfl (wgT rfl e9a) (Ad LC (by rfl)) (BM 3 5 w4e (tbx X6j hT)) fun r0a0 f1a0 w3i A2a0 c3a0 E0d n4a0=>?_
     have X7n:=xtr X6j E0d
     have S5a0:=S9m.trans E0d
     have n6a0:=((((((((((((n3l.ext F3g).ext E5e).ext E6g).ext F9g).ext E8e).ext E9e).ext F9d).ext E4c).ext E7b).ext E6c).ext F8b).ext E5b).ext E0d
     refine dcr f1a0 17 rfl (wgT rfl e9a) (Ad OZ (by rfl)) (FK r1l.1 r0a0 A0i c2l A2a0 c3a0 w3i (tbx X7n hT) n6a0 n4a0) fun r7ai f7a0 w2g E0e=>?_
     have X0k:=xtr X7n E0e
     have S8n:=S5a0.trans E0e
     refine dab 18 rfl (by kernel_rfl) (fun _ _ _ h=>h) (wgT rfl e9a) (fun _=>Fq rfl) fun z9n hz9n=>?_
     refine dnrm ?_
     refine dA 19 rfl (fun _=>AC (evb rfl e9a) rfl) ?_
     refine dA 20 rfl (fun _=>Aa rfl) ?_
     rcases zi hz9n f7a0 with ⟨e0b,_,f8a0⟩ | ⟨e0b,_,f9a0⟩
     ·refine dP 21 rfl ?_ (hw:=wgF rfl e0b)
      refine dP 22 rfl ?_ (hw:=wgF rfl e0b)
      refine dP 23 rfl ?_ (hw:=wgF rfl e0b)
      refine dP 24 rfl ?_ (hw:=wgF rfl e0b)
      refine dA 25 rfl (fun _=>AA (evb rfl e0b) rfl) ?_
      refine dA 26 rfl (fun _=>Aa rfl) ?_
      refine dP 27 rfl ?_ (hw:=wgF rfl rfl)
      refine dP 28 rfl ?_ (hw:=wgF rfl rfl)
      refine dP 29 rfl ?_ (hw:=wgF rfl rfl)
      refine dP 30 rfl ?_ (hw:=wgF rfl rfl)
      refine dA 31 rfl (fun _=>AA (evb rfl rfl) rfl) ?_
      refine dA 32 rfl (fun _=>Aa rfl) ?_
      refine dP 33 rfl ?_ (hw:=wgF rfl rfl)
      refine dP 34 rfl ?_ (hw:=wgF rfl rfl)
      refine dP 35 rfl ?_ (hw:=wgF rfl rfl)
      refine dP 36 rfl ?_ (hw:=wgF rfl rfl)
      refine dA 37 rfl (fun _=>AA (evb rfl rfl) rfl) ?_
      refine CE (by kernel_rfl) ?_
      refine h1f _ _<|wp_cond_true (Ak (evb rfl rfl))<|wp_seq_k fun _ h0a1=>Af<|sV (Ab rfl) ?_
      refine wh h0a1<|wp_ret ?_
      exact BG f8a0 X0k rfl
     ·refine dV 21 rfl (fun _ hw=>Am BT rfl (((((((((q4j.ext E8e).ext E9e).ext F9d).ext E4c).ext E7b).ext E6c).ext F8b).ext E5b).ext hw) rfl) S8n ?_ (hw:=wgT rfl e0b)
      refine dcn f9a0 22 rfl (wgT rfl e0b) (Ad LC (by rfl)) (BM 12 0 w2g (tbx X0k hT)) fun r1a1 f2a1 w4i A3a1 c4a1 E1e n5a1=>?_
      have X0o:=xtr X0k E1e
      have S6a1:=S8n.trans E1e
      have n7a1:=(((((((((((n7l.ext F9g).ext E8e).ext E9e).ext F9d).ext E4c).ext E7b).ext E6c).ext F8b).ext E5b).ext E0d).ext E0e).ext E1e
      refine dcr f2a1 23 rfl (wgT rfl e0b) (Ad OZ (by rfl)) (FK r6e.1 r1a1 A3j c6l A3a1 c4a1 w4i (tbx X0o hT) n7a1 n5a1) fun r8ai f8a1 w4l E2f=>?_
      have X1k:=xtr X0o E2f
      have S1o:=S6a1.trans E2f
      refine dab 24 rfl (by kernel_rfl) (fun _ _ _ h=>h) (wgT rfl e0b) (fun _=>Fq rfl) fun z2o hz2o=>?_
      refine dnrm ?_
      refine dA 25 rfl (fun _=>AC (evb rfl e0b) rfl) ?_
      refine dA 26 rfl (fun _=>Aa rfl) ?_
      rcases zi hz2o f8a1 with ⟨e1b,_,f9a1⟩ | ⟨e1b,_,f0a2⟩
      ·refine dP 27 rfl ?_ (hw:=wgF rfl e1b)
       refine dP 28 rfl ?_ (hw:=wgF rfl e1b)
       refine dP 29 rfl ?_ (hw:=wgF rfl e1b)
       refine dP 30 rfl ?_ (hw:=wgF rfl e1b)
       refine dA 31 rfl (fun _=>AA (evb rfl e1b) rfl) ?_
       refine dA 32 rfl (fun _=>Aa rfl) ?_
       refine dP 33 rfl ?_ (hw:=wgF rfl rfl)
       refine dP 34 rfl ?_ (hw:=wgF rfl rfl)
       refine dP 35 rfl ?_ (hw:=wgF rfl rfl)
       refine dP 36 rfl ?_ (hw:=wgF rfl rfl)
       refine dA 37 rfl (fun _=>AA (evb rfl rfl) rfl) ?_
       refine CE (by kernel_rfl) ?_
       refine h1f _ _<|wp_cond_true (Ak (evb rfl rfl))<|wp_seq_k fun _ h1a2=>Af<|sV (Ab rfl) ?_
       refine wh h1a2<|wp_ret ?_
       exact BG f9a1 X1k rfl
      ·refine dV 27 rfl (fun _ hw=>Am BT rfl ((((((q0v.ext E4c).ext E7b).ext E6c).ext F8b).ext E5b).ext hw) rfl) S1o ?_ (hw:=wgT rfl e1b)
       refine dcn f0a2 28 rfl (wgT rfl e1b) (Ad LC (by rfl)) (BM (-12) 0 w4l (tbx X1k hT)) fun r2a2 f3a2 w4a2 A5a2 c6a2 E3f n7a2=>?_
       have X3o:=xtr X1k E3f
       have S8a2:=S1o.trans E3f
       have n9a2:=((((((((((n6u.ext F9d).ext E4c).ext E7b).ext E6c).ext F8b).ext E5b).ext E0d).ext E0e).ext E1e).ext E2f).ext E3f
       refine dcr f3a2 29 rfl (wgT rfl e1b) (Ad OZ (by rfl)) (FK r0h.1 r2a2 A4u c5u A5a2 c6a2 w4a2 (tbx X3o hT) n9a2 n7a2) fun r9ai f0a3 w5i E1h=>?_
       have X2k:=xtr X3o E1h
       have S4o:=S8a2.trans E1h
       refine dab 30 rfl (by kernel_rfl) (fun _ _ _ h=>h) (wgT rfl e1b) (fun _=>Fq rfl) fun z5o hz5o=>?_
       refine dnrm ?_
       refine dA 31 rfl (fun _=>AC (evb rfl e1b) rfl) ?_
       refine dA 32 rfl (fun _=>Aa rfl) ?_
       rcases zi hz5o f0a3 with ⟨e2b,_,f1a3⟩ | ⟨e2b,_,f2a3⟩
       ·refine dP 33 rfl ?_ (hw:=wgF rfl e2b)
        refine dP 34 rfl ?_ (hw:=wgF rfl e2b)
        refine dP 35 rfl ?_ (hw:=wgF rfl e2b)
        refine dP 36 rfl ?_ (hw:=wgF rfl e2b)
        refine dA 37 rfl (fun _=>AA (evb rfl e2b) rfl) ?_
        refine CE (by kernel_rfl) ?_
        refine h1f _ _<|wp_cond_true (Ak (evb rfl rfl))<|wp_seq_k fun _ h3a3=>Af<|sV (Ab rfl) ?_
        refine wh h3a3<|wp_ret ?_
        exact BG f1a3 X2k rfl
       ·refine dV 33 rfl (fun _ hw=>Am AI rfl ((q9x.ext E5b).ext hw) rfl) S4o ?_ (hw:=wgT rfl e2b)
        obtain ⟨r6o,h4a3,f5a3⟩:=Ac f2a3
        refine dc 34 rfl (by kernel_rfl) (wgT rfl e2b) (Ad MZ (by rfl)) (Di (-6) 10 w5i (tbx X2k hT)  r6o h4a3) ?_
        rintro _ w6i E2h ⟨A6a3,c7a3,A8a3,c9a3,rfl,n0a4,n1a4⟩
        refine dnrm ?_
        have X7o:=xtr X2k E2h
        have S2a4:=S4o.trans E2h
        have n3a4:=((((((((n4x.ext F8b).ext E5b).ext E0d).ext E0e).ext E1e).ext E2f).ext E3f).ext E1h).ext E2h
        have n4a4:=((((((((n5x.ext F8b).ext E5b).ext E0d).ext E0e).ext E1e).ext E2f).ext E3f).ext E1h).ext E2h
        refine dcr f5a3 35 rfl (wgT rfl e2b) (Ad OS (by rfl)) (Et r0f.1 r6o A0x c1x A2x c3x A6a3 c7a3 A8a3 c9a3 w6i (tbx X7o hT) n3a4 n4a4 n0a4 n1a4) fun r0aj f5a4 w4g E8o=>?_
        have X3k:=xtr X7o E8o
        have S1aj:=S2a4.trans E8o
        refine dab 36 rfl (by kernel_rfl) (fun _ _ _ h=>h) (wgT rfl e2b) (fun _=>Fq rfl) fun z9o hz9o=>?_
        refine dnrm ?_
        refine dA 37 rfl (fun _=>AC (evb rfl e2b) rfl) ?_
        refine CE (by kernel_rfl) ?_
        refine h1f _ _ ?_
        rcases zi hz9o f5a4 with ⟨e4k,_,f6a4⟩ | ⟨e4k,_,f7a4⟩
        ·refine wp_cond_true (Ak (evb rfl e4k))<|wp_seq_k fun _ h8a4=>Af<|sV (Ab rfl) ?_
         refine wh h8a4<|wp_ret ?_
         exact BG f6a4 X3k rfl
        ·refine wp_cond_false (Ak (evb rfl e4k))<|wp_skip<|h1y _ _<|wp_seq_k fun _ h9a4=>Af ?_
         obtain ⟨r1d,h0a5,f1a5⟩:=Ac f7a4
         refine sc (Ad MZ (by rfl)) (Di 1 1 w4g (tbx X3k hT)  r1d h0a5) ?_
         rintro _ w3g E2a5 ⟨A3a5,c4a5,A5a5,c6a5,rfl,n7a5,n8a5⟩
         refine nrm ?_
         have X0p:=xtr X3k E2a5
         obtain ⟨r2d,h9a5,f0a6⟩:=Ac f1a5
         refine sc (Ad MZ (by rfl)) (Di 3 3 w3g (tbx X0p hT)  r2d h9a5) ?_
         rintro _ w7i E5k ⟨A1a6,c2a6,A3a6,c4a6,rfl,n5a6,n6a6⟩
         refine nrm ?_
         have X1p:=xtr X0p E5k
         obtain ⟨r0c,h7a6,f8a6⟩:=Ac f0a6
         refine sc (Ad RH (by rfl)) (MY (⟨(⟨(⟨r1d.Lo.Man.Neg,(limbs r1d.Lo.Man.Abs)⟩:Ay),r1d.Lo.Exp⟩:Aq),(⟨(⟨r1d.Hi.Man.Neg,(limbs r1d.Hi.Man.Abs)⟩:Ay),r1d.Hi.Exp⟩:Aq)⟩:Ao) (⟨(⟨(⟨r2d.Lo.Man.Neg,(limbs r2d.Lo.Man.Abs)⟩:Ay),r2d.Lo.Exp⟩:Aq),(⟨(⟨r2d.Hi.Man.Neg,(limbs r2d.Hi.Man.Abs)⟩:Ay),r2d.Hi.Exp⟩:Aq)⟩:Ao) 4 A3a5 c4a5 A5a5 c6a5 A1a6 c2a6 A3a6 c4a6 w7i (tbx X1p hT) (n7a5.ext E5k) (n8a5.ext E5k) n5a6 n6a6 r0c h7a6) ?_
         rintro _ w5g E9a6 ⟨A2p,c3p,A4p,c5p,rfl,n0a7,n1a7⟩
         refine nrm ?_
         have X6p:=xtr X1p E9a6
         refine sV3 (Aa rfl) (Aj rfl rfl) (Aj rfl rfl) ?_
         refine Ax Cv fun b2aj w3aj E2a7 g7p q3a7=>?_
         refine nrm ?_
         have g4aj:=nlt X6p.size g7p
         refine ss Bp q3a7 fun w8i U4a7 q5a7=>?_
         have F6k:=belU E2a7 U4a7 g7p
         have X8p:=xtr X6p F6k
         refine sV (Ab rfl) ?_
         refine wh h9a4<|wp_seq_k fun _ h6a7=>Af ?_
         obtain ⟨r3d,h7a7,f8a7⟩:=Ac f8a6
         refine sc (Ad MZ (by rfl)) (Di 1 1 w8i (tbx X8p hT)  r3d h7a7) ?_
         rintro _ w5e E3h ⟨A9a7,c0a8,A1a8,c2a8,rfl,n3a8,n4a8⟩
         refine nrm ?_
         have X9p:=xtr X8p E3h
         obtain ⟨r4d,h5a8,f6a8⟩:=Ac f8a7
         refine sc (Ad MZ (by rfl)) (Di (-1) 1 w5e (tbx X9p hT)  r4d h5a8) ?_
         rintro _ w9i E2e ⟨A7a8,c8a8,A9a8,c0a9,rfl,n1a9,n2a9⟩
         refine nrm ?_
         have X0q:=xtr X9p E2e
         obtain ⟨r4h,h3a9,f4a9⟩:=Ac f6a8
         refine sc (Ad RH (by rfl)) (MY (⟨(⟨(⟨r3d.Lo.Man.Neg,(limbs r3d.Lo.Man.Abs)⟩:Ay),r3d.Lo.Exp⟩:Aq),(⟨(⟨r3d.Hi.Man.Neg,(limbs r3d.Hi.Man.Abs)⟩:Ay),r3d.Hi.Exp⟩:Aq)⟩:Ao) (⟨(⟨(⟨r4d.Lo.Man.Neg,(limbs r4d.Lo.Man.Abs)⟩:Ay),r4d.Lo.Exp⟩:Aq),(⟨(⟨r4d.Hi.Man.Neg,(limbs r4d.Hi.Man.Abs)⟩:Ay),r4d.Hi.Exp⟩:Aq)⟩:Ao) 4 A9a7 c0a8 A1a8 c2a8 A7a8 c8a8 A9a8 c0a9 w9i (tbx X0q hT) (n3a8.ext E2e) (n4a8.ext E2e) n1a9 n2a9 r4h h3a9) ?_
         rintro _ w0j E5h ⟨A5aj,c6aj,A7aj,c8aj,rfl,n9aj,n0ak⟩
         refine nrm ?_
         have X1q:=xtr X0q E5h
         refine sV3 (Aa rfl) (Aj rfl rfl) (Aj rfl rfl) ?_
         refine sV (Ab rfl) ?_
         refine wh h6a7<|wp_seq_k fun _ h5a9=>Af ?_
         obtain ⟨r5d,h6a9,f7a9⟩:=Ac f4a9
         refine sc (Ad MZ (by rfl)) (Di 2 2 w0j (tbx X1q hT)  r5d h6a9) ?_
         rintro _ w1j E6h ⟨A8a9,c9a9,A0aa,c1aa,rfl,n2aa,n3aa⟩
         refine nrm ?_
         have X2q:=xtr X1q E6h
         obtain ⟨r3b,h4aa,f5aa⟩:=Ac f7a9
         refine sc (Ad en_25 (by rfl)) (c_dyad_Root (⟨(⟨(⟨r5d.Lo.Man.Neg,(limbs r5d.Lo.Man.Abs)⟩:Ay),r5d.Lo.Exp⟩:Aq),(⟨(⟨r5d.Hi.Man.Neg,(limbs r5d.Hi.Man.Abs)⟩:Ay),r5d.Hi.Exp⟩:Aq)⟩:Ao) 4 A8a9 c9a9 A0aa c1aa w1j (tbx X2q hT) n2aa n3aa r3b h4aa) ?_
         rintro _ w2j E7h ⟨A3q,c4q,A5q,c6q,rfl,n6aa,n7aa⟩
         refine nrm ?_
         have X7q:=xtr X2q E7h
         refine sV3 (Aa rfl) (Aj rfl rfl) (Aj rfl rfl) ?_
         refine Ax Cv fun b1ak w6e E8aa g8q q9aa=>?_
         refine nrm ?_
         have g2ak:=nlt X7q.size g8q
         refine ss Bp q9aa fun w0ab U1ab q2ab=>?_
         have F3e:=belU E8aa U1ab g8q
         have X9q:=xtr X7q F3e
         refine sV (Ab rfl) ?_
         refine wh h5a9<|wp_seq_k fun _ h3ab=>Af ?_
         refine scn f5aa (Ad LC (by rfl)) (BM 5 (-4) w0ab (tbx X9q hT)) fun r1a f4ab w5l A4f c5f E6d n5ab=>?_
         have X0r:=xtr X9q E6d
         refine Ax Hq fun b3ak w6g E6ab g1r q7ab=>?_
         refine nrm ?_
         have g4ak:=nlt X0r.size g1r
         refine ss FI q7ab fun w3j U8ab q9ab=>?_
         have F1c:=belU E6ab U8ab g1r
         have X2r:=xtr X0r F1c
         refine wh h3ab<|wp_seq_k fun _ h0ac=>Af ?_
         refine scn f4ab (Ad LC (by rfl)) (BM 11 (-5) w3j (tbx X2r hT)) fun r2a f1ac w6l A6f c7f E9b n2ac=>?_
         have X3r:=xtr X2r E9b
         refine Ax Hq fun b5ak w7l E3ac g4r q4ac=>?_
         refine nrm ?_
         have g6ak:=nlt X3r.size g4r
         refine ss FI q4ac fun w7g U5ac q6ac=>?_
         have F6b:=belU E3ac U5ac g4r
         have X5r:=xtr X3r F6b
         refine wh h0ac<|wp_seq_k fun _ h7ac=>Af ?_
         refine scn f1ac (Ad LC (by rfl)) (BM 11 (-3) w7g (tbx X5r hT)) fun r3a f8ac w6t A8f c9f E4b n9ac=>?_
         have X6r:=xtr X5r E4b
         refine Ax Hq fun b7ak w8l E0ad g7r q1ad=>?_
         refine nrm ?_
         have g8ak:=nlt X6r.size g7r
         refine ss FI q1ad fun w8g U2ad q3ad=>?_
         have F8a:=belU E0ad U2ad g7r
         have X8r:=xtr X6r F8a
         refine wh h7ac<|wp_seq_k fun _ h4ad=>Af ?_
         refine scn f8ac (Ad LC (by rfl)) (BM 3 (-1) w8g (tbx X8r hT)) fun r4a f5ad w9l A0g c1g E5a n6ad=>?_
         have X9r:=xtr X8r E5a
         refine Ax Hq fun b9ak w7t E7ad g0s q8ad=>?_
         refine nrm ?_
         have g0al:=nlt X9r.size g0s
         refine ss FI q8ad fun w8h U9ad q0ae=>?_
         have F0a:=belU E7ad U9ad g0s
         have X7k:=xtr X9r F0a
         refine wh h4ad<|wp_seq_k fun _ h1ae=>Af<|sV (Aa rfl) ?_
         refine sb (CG rfl rfl) fun z1s hz1s=>?_
         refine nrm ?_
         refine sV (Aa rfl) ?_
         obtain ⟨m2ae,h3ae,f4ae⟩:=Ac f5ad
         refine BH 6 (fun l l' w'=>∃(t2s:Value) (t3s:Value),w8h=w'∧l'=(((l.set 98 t2s).set 99 t3s).set 100 (.bool m2ae))) ?_ ?_
         ·intro HJ493
          rcases zi hz1s h3ae with ⟨e7d,_,f5ae⟩ | ⟨e7d,_,f6ae⟩
          ·refine sV (Aa rfl) ?_ (hw:=wgT rfl e7d)
           refine sb (CG rfl rfl) ?_ (hw:=wgT rfl e7d)
           intro z8k hz8k
           refine nrm ?_
           refine sV (AA (evb rfl e7d) rfl) ?_
           obtain rfl:z8k=decide (r4h.2=8):=bz hz8k
           obtain rfl:=sj f5ae
           exact HJ493 _ _ ⟨(.int .i64 r4h.2),(.bool (decide (r4h.2=8))),rfl,(by kernel_rfl)⟩
          ·refine sQ rfl e7d ?_
           refine sQ rfl e7d ?_
           refine sV (AC (evb rfl e7d) rfl) ?_
           obtain rfl:=sj f6ae
           exact HJ493 _ _ ⟨uu,uu,rfl,(by kernel_rfl)⟩
         ·rintro l' _ ⟨t2s,t3s,rfl,hq'⟩ l'' hl
          rw [hq'] at hl
          clear hq'
          simp only [S0,S1] at hl
          subst hl
          refine sV (Aa rfl) ?_
          obtain ⟨m7ae,h8ae,f9ae⟩:=Ac f4ae
          refine BH 10 (fun l l' w'=>∃(t4s:Value) (t5s:Value),w8h=w'∧l'=(((l.set 102 t4s).set 103 t5s).set 104 (.bool m7ae))) ?_ ?_
          ·intro HJ512
           rcases zb h8ae with ⟨e8d,f0af⟩ | ⟨e8d,f1af⟩
           ·refine sV (Aa rfl) ?_ (hw:=wgT rfl e8d)
            refine sb (CG rfl rfl) ?_ (hw:=wgT rfl e8d)
            intro z9k hz9k
            refine nrm ?_
            refine sV (AA (evb rfl e8d) rfl) ?_
            obtain rfl:z9k=decide (r3b.2=0):=bz hz9k
            obtain rfl:=sj f0af
            exact HJ512 _ _ ⟨(.int .i64 r3b.2),(.bool (decide (r3b.2=0))),rfl,(by kernel_rfl)⟩
           ·refine sQ rfl e8d ?_
            refine sQ rfl e8d ?_
            refine sV (AC (evb rfl e8d) rfl) ?_
            obtain rfl:=sj f1af
            exact HJ512 _ _ ⟨uu,uu,rfl,(by kernel_rfl)⟩
          ·rintro l' _ ⟨t4s,t5s,rfl,hq'⟩ l'' hl
           rw [hq'] at hl
           clear hq'
           simp only [S0,S1] at hl
           subst hl
           refine sV (Aa rfl) ?_
           obtain ⟨m2af,h3af,f4af⟩:=Ac f9ae
           refine BH 17 (fun l l' w'=>∃(t6s:Value) (t7s:Value) (t8s:Value) (t9s:Value) (t0t:Value),UpdS [] w8h w'∧l'=((((((l.set 106 t6s).set 107 t7s).set 108 t8s).set 109 t9s).set 110 t0t).set 111 (.bool m2af))) ?_ ?_
           ·intro HJ545
            rcases zb h3af with ⟨e6a,f5af⟩ | ⟨e6a,f6af⟩
            ·have q7af:=(((((((((((((q5a7.ext E3h).ext E2e).ext E5h).ext E6h).ext E7h).ext F3e).ext E6d).ext F1c).ext E9b).ext F6b).ext E4b).ext F8a).ext E5a).ext F0a
             refine sV (Am AI rfl q7af rfl) ?_ (hw:=wgT rfl e6a)
             have q8af:=(((((q9ab.ext E9b).ext F6b).ext E4b).ext F8a).ext E5a).ext F0a
             refine sV (Am BT rfl q8af rfl) ?_ (hw:=wgT rfl e6a)
             have q9af:=(((q6ac.ext E4b).ext F8a).ext E5a).ext F0a
             refine sV (Am BT rfl q9af rfl) ?_ (hw:=wgT rfl e6a)
             refine sV (Bb (vals:=[(0,.agg #[.bool r1a.Man.Neg,.slice A4f (sz r1a.Man.Abs) c5f,.int .i64 r1a.Exp]),(1,.agg #[.bool r2a.Man.Neg,.slice A6f (sz r2a.Man.Abs) c7f,.int .i64 r2a.Exp])]) (cells:=[.bool r1a.Man.Neg,.slice A4f (sz r1a.Man.Abs) c5f,.int .i64 r1a.Exp,.bool r2a.Man.Neg,.slice A6f (sz r2a.Man.Abs) c7f,.int .i64 r2a.Exp]) (by rfl) (by kernel_rfl)) ?_ (hw:=wgT rfl e6a)
             have n0ag:=((((((((((((((n0a7.ext F6k).ext E3h).ext E2e).ext E5h).ext E6h).ext E7h).ext F3e).ext E6d).ext F1c).ext E9b).ext F6b).ext E4b).ext F8a).ext E5a).ext F0a
             have n1ag:=((((((((((((((n1a7.ext F6k).ext E3h).ext E2e).ext E5h).ext E6h).ext E7h).ext F3e).ext E6d).ext F1c).ext E9b).ext F6b).ext E4b).ext F8a).ext E5a).ext F0a
             have n2ag:=((((((n5ab.ext F1c).ext E9b).ext F6b).ext E4b).ext F8a).ext E5a).ext F0a
             have n3ag:=((((n2ac.ext F6b).ext E4b).ext F8a).ext E5a).ext F0a
             refine scr f5af (Ad OS (by rfl)) (Et r0c.1 (⟨r1a,r2a⟩:Al) A2p c3p A4p c5p A4f c5f A6f c7f w8h (tbx X7k hT) n0ag n1ag n2ag n3ag) (fun r4ag f5ag w7e E6ag=>?_) (hw:=wgT rfl e6a)
             refine sV (AA (evb rfl e6a) rfl) ?_
             obtain rfl:=sj f5ag
             exact HJ545 _ _ ⟨(.agg #[.bool r0c.1.Lo.Man.Neg,.slice A2p (sz r0c.1.Lo.Man.Abs) c3p,.int .i64 r0c.1.Lo.Exp,.bool r0c.1.Hi.Man.Neg,.slice A4p (sz r0c.1.Hi.Man.Abs) c5p,.int .i64 r0c.1.Hi.Exp]),(.agg #[.bool r1a.Man.Neg,.slice A4f (sz r1a.Man.Abs) c5f,.int .i64 r1a.Exp]),(.agg #[.bool r2a.Man.Neg,.slice A6f (sz r2a.Man.Abs) c7f,.int .i64 r2a.Exp]),(.agg #[.bool r1a.Man.Neg,.slice A4f (sz r1a.Man.Abs) c5f,.int .i64 r1a.Exp,.bool r2a.Man.Neg,.slice A6f (sz r2a.Man.Abs) c7f,.int .i64 r2a.Exp]),(.bool r4ag),((UpdS.refl _ _).ext E6ag),(by kernel_rfl)⟩
            ·refine sQ rfl e6a ?_
             refine sQ rfl e6a ?_
             refine sQ rfl e6a ?_
             refine sQ rfl e6a ?_
             refine sQ rfl e6a ?_
             refine sV (AC (evb rfl e6a) rfl) ?_
             obtain rfl:=sj f6af
             exact HJ545 _ _ ⟨uu,uu,uu,uu,uu,(UpdS.refl _ _),(by kernel_rfl)⟩
           ·rintro l' w7e ⟨t6s,t7s,t8s,t9s,t0t,U2c,hq'⟩ l'' hl
            rw [hq'] at hl
            clear hq'
            simp only [S0,S1] at hl
            subst hl
            have X0l:=Jf X7k U2c (X7k).size al0
            refine sV (Aa rfl) ?_
            obtain ⟨m7ag,h8ag,f9ag⟩:=Ac f4af
            refine BH 24 (fun l l' w'=>∃(t1t:Value) (t2t:Value) (t3t:Value) (t4t:Value) (t5t:Value),UpdS [] w7e w'∧l'=((((((l.set 113 t1t).set 114 t2t).set 115 t3t).set 116 t4t).set 117 t5t).set 118 (.bool m7ag))) ?_ ?_
            ·intro HJ588
             rcases zb h8ag with ⟨e7a,f0ah⟩ | ⟨e7a,f1ah⟩
             ·have q2ah:=((((((((q2ab.ext E6d).ext F1c).ext E9b).ext F6b).ext E4b).ext F8a).ext E5a).ext F0a).updS U2c nm0
              refine sV (Am AI rfl q2ah rfl) ?_ (hw:=wgT rfl e7a)
              have q3ah:=((q3ad.ext E5a).ext F0a).updS U2c nm0
              refine sV (Am BT rfl q3ah rfl) ?_ (hw:=wgT rfl e7a)
              refine sV (Am BT rfl (q0ae.updS U2c nm0) rfl) ?_ (hw:=wgT rfl e7a)
              refine sV (Bb (vals:=[(0,.agg #[.bool r3a.Man.Neg,.slice A8f (sz r3a.Man.Abs) c9f,.int .i64 r3a.Exp]),(1,.agg #[.bool r4a.Man.Neg,.slice A0g (sz r4a.Man.Abs) c1g,.int .i64 r4a.Exp])]) (cells:=[.bool r3a.Man.Neg,.slice A8f (sz r3a.Man.Abs) c9f,.int .i64 r3a.Exp,.bool r4a.Man.Neg,.slice A0g (sz r4a.Man.Abs) c1g,.int .i64 r4a.Exp]) (by rfl) (by kernel_rfl)) ?_ (hw:=wgT rfl e7a)
              have n4ah:=(((((((((n6aa.ext F3e).ext E6d).ext F1c).ext E9b).ext F6b).ext E4b).ext F8a).ext E5a).ext F0a).updS U2c al0
              have n5ah:=(((((((((n7aa.ext F3e).ext E6d).ext F1c).ext E9b).ext F6b).ext E4b).ext F8a).ext E5a).ext F0a).updS U2c al0
              have n6ah:=(((n9ac.ext F8a).ext E5a).ext F0a).updS U2c al0
              refine scr f0ah (Ad OS (by rfl)) (Et r3b.1 (⟨r3a,r4a⟩:Al) A3q c4q A5q c6q A8f c9f A0g c1g w7e (tbx X0l hT) n4ah n5ah n6ah ((n6ad.ext F0a).updS U2c al0)) (fun r7ah f8ah w4j E9ah=>?_) (hw:=wgT rfl e7a)
              refine sV (AA (evb rfl e7a) rfl) ?_
              obtain rfl:=sj f8ah
              exact HJ588 _ _ ⟨(.agg #[.bool r3b.1.Lo.Man.Neg,.slice A3q (sz r3b.1.Lo.Man.Abs) c4q,.int .i64 r3b.1.Lo.Exp,.bool r3b.1.Hi.Man.Neg,.slice A5q (sz r3b.1.Hi.Man.Abs) c6q,.int .i64 r3b.1.Hi.Exp]),(.agg #[.bool r3a.Man.Neg,.slice A8f (sz r3a.Man.Abs) c9f,.int .i64 r3a.Exp]),(.agg #[.bool r4a.Man.Neg,.slice A0g (sz r4a.Man.Abs) c1g,.int .i64 r4a.Exp]),(.agg #[.bool r3a.Man.Neg,.slice A8f (sz r3a.Man.Abs) c9f,.int .i64 r3a.Exp,.bool r4a.Man.Neg,.slice A0g (sz r4a.Man.Abs) c1g,.int .i64 r4a.Exp]),(.bool r7ah),((UpdS.refl _ _).ext E9ah),(by kernel_rfl)⟩
             ·refine sQ rfl e7a ?_
              refine sQ rfl e7a ?_
              refine sQ rfl e7a ?_
              refine sQ rfl e7a ?_
              refine sQ rfl e7a ?_
              refine sV (AC (evb rfl e7a) rfl) ?_
              obtain rfl:=sj f1ah
              exact HJ588 _ _ ⟨uu,uu,uu,uu,uu,(UpdS.refl _ _),(by kernel_rfl)⟩
            ·rintro l' w4j ⟨t1t,t2t,t3t,t4t,t5t,U0ai,hq'⟩ l'' hl
             rw [hq'] at hl
             clear hq'
             simp only [S0,S1] at hl
             subst hl
             have X1ai:=Jf X0l U0ai (X0l).size al0
             refine sV (Ab rfl) ?_
             refine wh h1ae<|wp_ret ?_
             exact BG f9ag X1ai rfl
theorem c_sorobanref03_NegInt (x0:Ae) (A1:Option Addr) (c2:Nat) (w:World) (hT:TB w) (n3:RU w A1 c2 x0.Abs) (r:Ae) (hr:Gj x0=some r) :
  Calls Tryz.prog 131 #[.agg #[.bool x0.Neg,.slice A1 (sz x0.Abs) c2]] w (Ret Mm w r):=by
 unfold Gj at hr
 go_enter Tryz.func131,Tryz.ntmps131
 refine wp_seq_k fun _ h4=>Af<|Bm rfl rfl fun b5 w1 E6 g7 q8=>?_
 refine nrm ?_
 refine Ax Lz fun b9 w2 E0a g6a q4a=>?_
 refine nrm ?_
 have g7a:=nlt E6.size g6a
 have X1a:=xtr E6 E0a
 refine wh h4<|wp_seq_k fun _ h8a=>Af<|sV2 (Ah (o':=0) IP rfl rfl) (Ai HZ rfl (Bx.cell (q8.ext E0a) rfl)) ?_
 refine sb (Fq rfl) fun z2a hz2a=>?_
 refine nrm ?_
 refine sV2 (Ah (o':=1) Eb rfl rfl) (Ai Gf rfl (Bx.cell (q8.ext E0a) rfl)) ?_
 obtain rfl:z2a=decide (¬(x0.Neg=true)):=bz hz2a
 refine scn hr (Ad Px (by rfl)) (HC (decide (¬(x0.Neg=true))) x0.Abs A1 c2 w2 (tbx X1a hT) (n3.ext X1a)) fun r7b f9a w3 A0b c1b E3a n2b=>?_
 have X3b:=xtr X1a E3a
 refine ss Kd (q4a.ext E3a) fun w4 U5a q4b=>?_
 have X5b:=belU X3b U5a g7a
 refine wh h8a<|wp_ret ?_
 have n6b:=n2b.upd U5a (q4a.ext E3a) (by decide)
 exact CV f9a rfl (Res.cellN rfl GS q4b rfl rfl Res.nil) (Av X5b ⟨A0b,c1b,rfl,n6b⟩)
theorem JD (x0:Ag) (A1:Option Addr) (c2:Nat) (w:World) (hT:TB w) (n3:RU w A1 c2 x0.Man.Abs) (r:Ag) (hr:Cx x0=some r) :
  Calls Tryz.prog 47 #[.agg #[.bool x0.Man.Neg,.slice A1 (sz x0.Man.Abs) c2,.int .i64 x0.Exp]] w (Ret Oy w r):=by
 unfold Cx at hr
 go_enter Tryz.func47,Tryz.ntmps47
 refine wp_seq_k fun _ h4=>Af<|Bm rfl rfl fun b5 w1 E6 g7 q8=>?_
 refine nrm ?_
 refine Ax Hq fun b9 w2 E3a g0b q8a=>?_
 refine nrm ?_
 have g1b:=nlt E6.size g0b
 have X2b:=xtr E6 E3a
 refine wh h4<|wp_seq_k fun _ h3b=>DK [6] 7 mo rfl fun w3 E0a S4a=>have X5a:=xtr X2b E0a;dA 0 rfl (fun _=>Ah (o':=0) HF rfl rfl) ?_
 refine dV 1 rfl (fun _ hw=>dld GS (((q8.ext E3a).ext E0a).ext hw)) S4a ?_
 refine dA 3 rfl (fun _=>Ah (o':=2) Hj rfl rfl) ?_
 refine dV 4 rfl (fun _ hw=>Ai FM rfl (Bx.cell (((q8.ext E3a).ext E0a).ext hw) rfl)) S4a ?_
 refine dcn hr 2 rfl (by rfl) (Ad en_131 (by rfl)) (c_sorobanref03_NegInt x0.Man A1 c2 w3 (tbx X5a hT) (n3.ext X5a)) fun r1a f4b w4 A6a c7a E2a n5b=>?_
 have X6b:=xtr X5a E2a
 have S0c:=S4a.trans E2a
 refine dA 5 rfl (fun _=>Bb (vals:=[(0,.agg #[.bool r1a.Neg,.slice A6a (sz r1a.Abs) c7a]),(1,.int .i64 x0.Exp)]) (cells:=[.bool r1a.Neg,.slice A6a (sz r1a.Abs) c7a,.int .i64 x0.Exp]) (by rfl) (by kernel_rfl)) ?_
 refine dkk 6 FI ((q8a.ext E0a).ext E2a) fun w5 U9a q7b=>?_
 have X8b:=belU X6b U9a g1b
 refine CE (by kernel_rfl) ?_
 refine h3b _ _<|wp_ret ?_
 have n9b:=n5b.upd U9a ((q8a.ext E0a).ext E2a) (by decide)
 exact CV f4b rfl (Res.cellN rfl BT q7b rfl rfl Res.nil) (Av X8b ⟨A6a,c7a,rfl,n9b⟩)
end Go.Proofs

