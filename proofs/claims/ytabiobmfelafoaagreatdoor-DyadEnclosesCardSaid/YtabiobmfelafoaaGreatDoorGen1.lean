import Derived.Test.YtabiobmfelafoaaGreatDoorGen0
namespace Go.Proofs
set_option linter.unusedVariables false
set_option linter.unusedSimpArgs false
set_option maxHeartbeats 4000000
open Go.RowKit Go.Sb Go.Proofs.Sbn
open Go.Proofs.Tryz
def JY (wk w:World) (b:Nat):Option An→Prop
 | none=>Bx w b 124 [.pointer none]
 | some r=>∃(bs:Nat) (A1:OA) (c1:Nat) (A2:OA) (c2:Nat),wk.heap.size≤bs∧Bx w b 124 [.pointer (some ⟨bs,0,none⟩)]∧Bx w bs 121 [.bool r.lo.m.Neg,.slice A1 (sz r.lo.m.Abs) c1,.int .i64 r.lo.e,.bool r.hi.m.Neg,.slice A2 (sz r.hi.m.Abs) c2,.int .i64 r.hi.e]∧RU w A1 c1 r.lo.m.Abs∧RU w A2 c2 r.hi.m.Abs
theorem sq_dyad_Times_1 {n0:Nat} {wk w w':World} {b:Nat} : ∀ {o:Option An},JY wk w b o→Quiet n0 w w'→JY wk w' b o
 | none,h,q=>Bx.quiet h q
 | some _,⟨bs,A1,c1,A2,c2,g,q1,q2,n1,n2⟩,q=>⟨bs,A1,c1,A2,c2,g,q1.quiet q,q2.quiet q,n1.quiet q,n2.quiet q⟩
theorem c_dyad_Times_1 (x0:An) (x1:An) (x2:Int) (A1:OA) (c2:Nat) (A4:OA) (c5:Nat) (A7:OA) (c8:Nat) (A9c:OA) (c0d:Nat) (w:World) (hT:TB w) (n3:RU w A1 c2 x0.lo.m.Abs) (n6:RU w A4 c5 x0.hi.m.Abs) (n9:RU w A7 c8 x1.lo.m.Abs) (n8l:RU w A9c c0d x1.hi.m.Abs) (r:Except Int (Ao)) (hr:Gs x0 x1 x2=some r) :
  Calls prog 116 #[.agg #[.bool x0.lo.m.Neg,.slice A1 (sz x0.lo.m.Abs) c2,.int .i64 x0.lo.e,.bool x0.hi.m.Neg,.slice A4 (sz x0.hi.m.Abs) c5,.int .i64 x0.hi.e],.agg #[.bool x1.lo.m.Neg,.slice A7 (sz x1.lo.m.Abs) c8,.int .i64 x1.lo.e,.bool x1.hi.m.Neg,.slice A9c (sz x1.hi.m.Abs) c0d,.int .i64 x1.hi.e],.int .i64 x2] w (RetE 201 Ld w r):=by
 unfold Gs at hr
 refine QI func116 rfl 50 ?_
 refine ws fun h8t=>Ah<|sbx rfl rfl fun b6h w1 E9l g4a8 q9t=>?_
 refine sbx rfl rfl fun b7h w2 E0m g0u q1u=>?_
 have g5a8:=nlt E9l.size g0u
 have X1m:=xtr E9l E0m
 refine sal Gp fun b8h w3 E9h g2u q3u=>?_
 have g4u:=nlt X1m.size g2u
 have X2m:=xtr X1m E9h
 refine nx h8t fun h5u=>sal RI fun b3m w4 E1f g6u q7u=>?_
 have g8u:=nlt X2m.size g6u
 have X0i:=xtr X2m E1f
 have q1i:=(q1u.ext E9h).ext E1f
 refine wh h5u<|ws fun h9u=>ws fun h0v=>Ah<|have q2i:=((q9t.ext E0m).ext E9h).ext E1f;sV2 (Ak Ln rfl q2i rfl) (Ak Ln rfl q1i rfl) ?_
 refine scc (by rfl) (Ac RN rfl) (Ma (.bool x0.lo.m.Neg:Value) (.slice A1 (sz x0.lo.m.Abs) c2:Value) (.int .i64 x0.lo.e:Value) (.bool x0.hi.m.Neg:Value) (.slice A4 (sz x0.hi.m.Abs) c5:Value) (.int .i64 x0.hi.e:Value) (.bool x1.lo.m.Neg:Value) (.slice A7 (sz x1.lo.m.Abs) c8:Value) (.int .i64 x1.lo.e:Value) (.bool x1.hi.m.Neg:Value) (.slice A9c (sz x1.hi.m.Abs) c0d:Value) (.int .i64 x1.hi.e:Value) w4) fun b2f b3f w5 E3d g1v g2v ne6a8 q4m q5m=>nrm ?_
 have g7a8:=nlt X0i.size g1v
 have g8a8:=nlt X0i.size g2v
 have X3i:=xtr X0i E3d
 refine wh h0v ?_
 apply wp_block
 obtain ⟨s6m,h7m,f3v⟩:=Ad hr
 obtain ⟨s4i,h4v,f5v⟩:=Ad f3v
 obtain ⟨s5i,h6v,f7v⟩:=Ad f5v
 obtain ⟨s6i,h8v,f9v⟩:=Ad f7v
 obtain ⟨o7i,hO⟩:∃o:Nat→Option An,o=(fun i:Nat=>match i with | 0=>none | 1=>some s6m | 2=>some s4i | 3=>some s5i | _=>some s6i):=⟨_,rfl⟩
 have hall0w:∀i,1≤i→i<4→∃(sr:An) (x y:Aj) (AX:OA) (cX:Nat) (AY:OA) (cY:Nat) (s':An),(encs (.bool x0.lo.m.Neg:Value) (.slice A1 (sz x0.lo.m.Abs) c2:Value) (.int .i64 x0.lo.e:Value) (.bool x0.hi.m.Neg:Value) (.slice A4 (sz x0.hi.m.Abs) c5:Value) (.int .i64 x0.hi.e:Value) (.bool x1.lo.m.Neg:Value) (.slice A7 (sz x1.lo.m.Abs) c8:Value) (.int .i64 x1.lo.e:Value) (.bool x1.hi.m.Neg:Value) (.slice A9c (sz x1.hi.m.Abs) c0d:Value) (.int .i64 x1.hi.e:Value)) i = #[.agg #[.bool x.m.Neg,.slice AX (sz x.m.Abs) cX,.int .i64 x.e],.agg #[.bool y.m.Neg,.slice AY (sz y.m.Abs) cY,.int .i64 y.e]]∧RU w AX cX x.m.Abs∧RU w AY cY y.m.Abs∧o7i i=some sr∧o7i (i+1)=some s'∧GA x0 x1 x2 sr x y=some s':=by
  subst hO
  rintro (_ | _ | _ | _ | i) h h'
  ·omega
  ·exact ⟨s6m,x0.lo,x1.hi,_,_,_,_,s4i,rfl,n3,n8l,rfl,rfl,h4v⟩
  ·exact ⟨s4i,x0.hi,x1.lo,_,_,_,_,s5i,rfl,n6,n9,rfl,rfl,h6v⟩
  ·exact ⟨s5i,x0.hi,x1.hi,_,_,_,_,s6i,rfl,n6,n8l,rfl,rfl,h8v⟩
  ·omega
 refine rf (N:=4) (n0:=w.heap.size) (encs:=(encs (.bool x0.lo.m.Neg:Value) (.slice A1 (sz x0.lo.m.Abs) c2:Value) (.int .i64 x0.lo.e:Value) (.bool x0.hi.m.Neg:Value) (.slice A4 (sz x0.hi.m.Abs) c5:Value) (.int .i64 x0.hi.e:Value) (.bool x1.lo.m.Neg:Value) (.slice A7 (sz x1.lo.m.Abs) c8:Value) (.int .i64 x1.lo.e:Value) (.bool x1.hi.m.Neg:Value) (.slice A9c (sz x1.hi.m.Abs) c0d:Value) (.int .i64 x1.hi.e:Value))) (I:=fun i w'=>Ext w w'∧w5.heap.size≤w'.heap.size∧Bx w' b6h 121 [.bool x0.lo.m.Neg,.slice A1 (sz x0.lo.m.Abs) c2,.int .i64 x0.lo.e,.bool x0.hi.m.Neg,.slice A4 (sz x0.hi.m.Abs) c5,.int .i64 x0.hi.e]∧Bx w' b7h 121 [.bool x1.lo.m.Neg,.slice A7 (sz x1.lo.m.Abs) c8,.int .i64 x1.lo.e,.bool x1.hi.m.Neg,.slice A9c (sz x1.hi.m.Abs) c0d,.int .i64 x1.hi.e]∧Bx w' b8h 29 [.bool false,.slice none 0 0,.int .i64 0,.bool false,.slice none 0 0,.int .i64 0]∧Bx w' b2f 121 [.bool x0.lo.m.Neg,.slice A1 (sz x0.lo.m.Abs) c2,.int .i64 x0.lo.e,.bool x0.hi.m.Neg,.slice A4 (sz x0.hi.m.Abs) c5,.int .i64 x0.hi.e]∧Bx w' b3f 121 [.bool x1.lo.m.Neg,.slice A7 (sz x1.lo.m.Abs) c8,.int .i64 x1.lo.e,.bool x1.hi.m.Neg,.slice A9c (sz x1.hi.m.Abs) c0d,.int .i64 x1.hi.e]∧JY w5 w' b3m (o7i i)) rfl Se X3i.size (Sh (.bool x0.lo.m.Neg:Value) (.slice A1 (sz x0.lo.m.Abs) c2:Value) (.int .i64 x0.lo.e:Value) (.bool x0.hi.m.Neg:Value) (.slice A4 (sz x0.hi.m.Abs) c5:Value) (.int .i64 x0.hi.e:Value) (.bool x1.lo.m.Neg:Value) (.slice A7 (sz x1.lo.m.Abs) c8:Value) (.int .i64 x1.lo.e:Value) (.bool x1.hi.m.Neg:Value) (.slice A9c (sz x1.hi.m.Abs) c0d:Value) (.int .i64 x1.hi.e:Value) b2f b3f _ (by rintro i W ⟨_,_,_,_,_,qa,qb,_⟩;exact ⟨qa,qb⟩)) (by rintro (_ | _ | _ | _)<;>rfl) ?_ ?_ ?_ ?_
 ·rintro i W W' ⟨hX,hK,q_b6h,q_b7h,q_b8h,q_b2f,q_b3f,hS⟩ hq
  exact ⟨belQ hX hq hX.size,nlt hK hq.size,q_b6h.quiet hq,q_b7h.quiet hq,q_b8h.quiet hq,q_b2f.quiet hq,q_b3f.quiet hq,sq_dyad_Times_1 hS hq⟩
 ·subst hO
  have q1w:=q1i.ext E3d
  exact ⟨X3i,Nat.le_refl _,(q2i.ext E3d),q1w,((q3u.ext E1f).ext E3d),q4m,q5m,(q7u.ext E3d)⟩
 ·intro l i w5e hi hI
  obtain ⟨hX,hK,q8i,q9i,q4f,q0j,q1j,hS⟩:=hI
  rcases Nat.eq_zero_or_pos i with rfl | hpos
  ·subst hO
   skip
   have q6e:Bx w5e b3m 124 [.pointer none]:=hS
   unfold JT at h7m
   refine LS (actPQ rfl (by simp only [S0,S1];rfl)) ?_
   refine wsI fun h2w=>IQ (by rfl) (fun ⟨_,_,h⟩=>h)<|sal Bg fun b9a8 w2j E3w g8m q4w=>?_
   have g0a9:=nlt (nlt hX.size (Rd.refl w.heap.size w5e).size) g8m
   refine ss BC q4w fun w9b U5w q6w=>?_
   have F5c:=belU E3w U5w g8m
   have X9m:=(Rd.refl w.heap.size w5e).ext F5c
   refine wh h2w<|IQ (by rfl) (fun ⟨_,_,h⟩=>h)<|sal Bg fun b1a9 w2a E7w g0n q8w=>?_
   have g2a9:=nlt (nlt hX.size X9m.size) g0n
   refine ss BC q8w fun w3a U9w q0x=>?_
   have F0c:=belU E7w U9w g0n
   have X8d:=X9m.ext F0c
   refine AF ?_
   refine ⟨X8d,?_⟩
   intro w6c hq
   refine have hE1:=belR hX X8d hX.size;have hE2:=belQ hE1 hq hE1.size;wpIn_block<|wsI fun h1x=>IQ (by rfl) (fun ⟨_,_,h⟩=>h)<|sV2 (Ak Aw rfl ((q6w.ext F0c).quiet hq) rfl) (Ak Aw rfl (q0x.quiet hq) rfl) ?_
   have n2x:=(((n3.ext hX).ext F5c).ext F0c).quiet hq
   have n3x:=(((n9.ext hX).ext F5c).ext F0c).quiet hq
   refine scn h7m (Ac OU (by rfl)) (Ii x0.lo x1.lo A1 c2 A7 c8 w6c (tbx (belR hE2 (Rd.refl w.heap.size w6c) hE2.size) hT) n2x n3x) fun r0a f2j w5f A2a c3a E9b n6c=>?_
   have X5f:=(Rd.refl w.heap.size w6c).ext E9b
   refine sal Bg fun b1n w1n E6f g7e q7f=>?_
   have g8f:=nlt (nlt (nlt (nlt hX.size X8d.size) hq.size) X5f.size) g7e
   refine ss BC q7f fun w6f U9d q7c=>?_
   have F3b:=belU E6f U9d g7e
   have X9f:=X5f.ext F3b
   refine wh h1x<|wsI fun h4x=>wsI fun h5x=>IQ (by rfl) (fun ⟨_,_,h⟩=>h)<|have q2n:=((((q6e.ext F5c).ext F0c).quiet hq).ext E9b).ext F3b;sV2 (Ag Gx rfl (Bx.cell q2n rfl)) (Rw Po rfl) ?_
   refine wh h5x<|cti rfl<|IQ (by rfl) (fun ⟨_,_,h⟩=>h)<|sV3 (Ak Aw rfl q7c rfl) (Ak Aw rfl q7c rfl) (AL (vals:=[(0,.agg #[.bool r0a.m.Neg,.slice A2a (sz r0a.m.Abs) c3a,.int .i64 r0a.e]),(1,.agg #[.bool r0a.m.Neg,.slice A2a (sz r0a.m.Abs) c3a,.int .i64 r0a.e])]) (cells:=[.bool r0a.m.Neg,.slice A2a (sz r0a.m.Abs) c3a,.int .i64 r0a.e,.bool r0a.m.Neg,.slice A2a (sz r0a.m.Abs) c3a,.int .i64 r0a.e]) (by rfl) (by kernel_rfl)) ?_
   refine sbx rfl rfl fun b4b w7e E8a g0e q3n=>?_
   have g4n:=nlt (nlt (nlt (nlt hX.size X8d.size) hq.size) X9f.size) g0e
   have X6x:=X9f.ext E8a
   have q1c:=q2n.ext E8a
   refine ss Ri q1c fun w7f U5b q7x=>?_
   have X8x:=X6x.upd U5b g8u q1c
   have q0g:=q7c.ext E8a
   refine wh h4x<|wsI fun h9x=>wsI fun h0y=>Om (by rfl) (fun ⟨_,_,h⟩=>h) [] 7 mo rfl fun w8f E1b S1g=>have X5n:=X8x.ext E1b;have ne3j:=(Bx.neT q0g q1c (by decide));dV 0 rfl (fun _ hw=>Ak Aw rfl (((q0g.upd U5b ne3j).ext E1b).ext hw) rfl) S1g ?_
   have q4j:=q7x.ext E1b
   refine dV 1 rfl (fun _ hw=>Ag Gx rfl (Bx.cell (q4j.ext hw) rfl)) S1g ?_
   refine dA2 2 3 rfl rfl (fun _=>Bz rfl) (fun _=>Af (o':=0) CM rfl rfl) ?_
   have ne5j:=(Bx.neT q3n q1c (by decide))
   have q4d:=(q3n.upd U5b ne5j).ext E1b
   refine dV 4 rfl (fun _ hw=>dld Aw (q4d.ext hw)) S1g ?_
   have n6j:=(((n6c.ext F3b).ext E8a).upd U5b q1c (by decide)).ext E1b
   refine dcr f2j 5 rfl (by rfl) (Ac Ju (by rfl)) (Cu r0a r0a A2a c3a A2a c3a w8f (tbx (belR hE2 X5n hE2.size) hT) n6j n6j) fun r3a9 f1y w8e E4a=>?_
   have X2y:=X5n.ext E4a
   have S4a9:=S1g.trans E4a
   refine dab 6 rfl (by kernel_rfl) (fun _ _ _ h=>h) (by rfl) (fun _=>Bv rfl rfl) fun z6n hz6n=>?_
   refine dnrm ?_
   refine Cx (by kernel_rfl) ?_
   refine h0y _ _ ?_
   obtain ⟨m5a9,h3y,f4y⟩:=Ad f1y
   refine LL (fun l l' w'=>∃(t7n:Value) (t8n:Value) (t9n:Value) (t0o:Value),UpdS [b4b] w8e w'∧Bx w' b4b 121 [.bool r0a.m.Neg,.slice A2a (sz r0a.m.Abs) c3a,.int .i64 r0a.e,.bool r0a.m.Neg,.slice A2a (sz r0a.m.Abs) c3a,.int .i64 r0a.e]∧l'=((((l.set 32 t7n).set 33 t8n).set 34 t9n).set 35 t0o)) ?_ ?_
   ·rcases zi hz6n h3y with ⟨e7j,_,f5y⟩ | ⟨e7j,_,f6y⟩
    ·refine cti e7j<|IQ (by rfl) (fun ⟨_,_,h⟩=>h)<|sV (Ag Gx rfl (Bx.cell (q4j.ext E4a) rfl)) ?_
     have q7y:=((q0g.upd U5b ne3j).ext E1b).ext E4a
     refine sV3 (Ak Aw rfl q7y rfl) (Bz rfl) (Af (o':=0) CM rfl rfl) ?_
     have q8y:=q4d.ext E4a
     refine ss BC q8y fun w9d U9y q0z=>?_
     refine AF ?_
     obtain rfl:=sj f5y
     exact ⟨_,rfl,(.pointer (some ⟨b4b,0,none⟩)),(.agg #[.bool r0a.m.Neg,.slice A2a (sz r0a.m.Abs) c3a,.int .i64 r0a.e]),(.pointer (some ⟨b4b,0,none⟩)),(.pointer (some ⟨b4b,0,none⟩)),((UpdS.refl _ _).upd U9y (.inl im0)),q0z,(by kernel_rfl)⟩
    ·refine cfi e7j<|wpIn_skip ?_
     have q1z:=q4d.ext E4a
     obtain rfl:=sj f6y
     exact ⟨_,rfl,uu,uu,uu,uu,(UpdS.refl _ _),q1z,(by kernel_rfl)⟩
   ·rintro l' w9d ⟨t7n,t8n,t9n,t0o,U2c,q2z,rfl⟩ l'' hl
    simp only [S0,S1] at hl;subst hl
    have X3z:=X2y.updS U2c (alc ⟨g4n,_,_,q4d.ext E4a⟩ al0)
    have q8j:=((q0g.upd U5b ne3j).ext E1b).ext E4a
    refine h9x _ _<|wsI fun h4z=>Om (by rfl) (fun ⟨_,_,h⟩=>h) [] 7 mo rfl fun w7c E6b S2g=>have X1o:=X3z.ext E6b;have ne2o:=(Bx.neT q8j (q4d.ext E4a) (by decide));dV 0 rfl (fun _ hw=>Ak Aw rfl (((q8j.updS U2c (nmc ne2o nm0)).ext E6b).ext hw) rfl) S2g ?_
    have q9j:=((q4j.ext E4a).updS U2c (nmc (Ne.symm ne5j) nm0)).ext E6b
    refine dV 1 rfl (fun _ hw=>Ag Gx rfl (Bx.cell (q9j.ext hw) rfl)) S2g ?_
    refine dA2 2 3 rfl rfl (fun _=>Bz rfl) (fun _=>Af (o':=3) Da rfl rfl) ?_
    have q9e:=q2z.ext E6b
    refine dV 4 rfl (fun _ hw=>dld Aw (q9e.ext hw)) S2g ?_
    have n0k:RU w7c A2a c3a r0a.m.Abs:=((n6j.ext E4a).updS U2c (alc ⟨_,_,by decide,q4d.ext E4a⟩ al0)).ext E6b
    refine dcr f4y 5 rfl (by rfl) (Ac Ju (by rfl)) (Cu r0a r0a A2a c3a A2a c3a w7c (tbx (belR hE2 X1o hE2.size) hT) n0k n0k) fun r6a9 f5z w9f E7a=>?_
    have X6z:=X1o.ext E7a
    have S7a9:=S2g.trans E7a
    refine dab 6 rfl (by kernel_rfl) (fun _ _ _ h=>h) (by rfl) (fun _=>Eh rfl rfl) fun z3o hz3o=>?_
    refine dnrm ?_
    refine Cx (by kernel_rfl) ?_
    refine h4z _ _ ?_
    obtain ⟨m8a9,h3g,f4g⟩:=Ad f5z
    refine LL (fun l l' w'=>∃(t1k:Value) (t4o:Value) (t5o:Value) (t6o:Value),UpdS [b4b] w9f w'∧Bx w' b4b 121 [.bool r0a.m.Neg,.slice A2a (sz r0a.m.Abs) c3a,.int .i64 r0a.e,.bool r0a.m.Neg,.slice A2a (sz r0a.m.Abs) c3a,.int .i64 r0a.e]∧l'=((((l.set 43 t1k).set 44 t4o).set 45 t5o).set 46 t6o)) ?_ ?_
    ·rcases zi hz3o h3g with ⟨e2k,_,f7z⟩ | ⟨e2k,_,f8z⟩
     ·refine cti e2k<|IQ (by rfl) (fun ⟨_,_,h⟩=>h)<|have q9z:=q9j.ext E7a;sV (Ag Gx rfl (Bx.cell q9z rfl)) ?_
      have q0a0:=((q8j.updS U2c (nmc ne2o nm0)).ext E6b).ext E7a
      refine sV3 (Ak Aw rfl q0a0 rfl) (Bz rfl) (Af (o':=3) Da rfl rfl) ?_
      refine ss BC (q9e.ext E7a) fun w3b U1a0 q2a0=>?_
      refine AF ?_
      obtain rfl:=sj f7z
      exact ⟨_,rfl,(.pointer (some ⟨b4b,0,none⟩)),(.agg #[.bool r0a.m.Neg,.slice A2a (sz r0a.m.Abs) c3a,.int .i64 r0a.e]),(.pointer (some ⟨b4b,0,none⟩)),(.pointer (some ⟨b4b,3,none⟩)),((UpdS.refl _ _).upd U1a0 (.inl im0)),q2a0,(by kernel_rfl)⟩
     ·refine cfi e2k<|wpIn_skip ?_
      obtain rfl:=sj f8z
      exact ⟨_,rfl,uu,uu,uu,uu,(UpdS.refl _ _),(q9e.ext E7a),(by kernel_rfl)⟩
    ·rintro l' w3b ⟨t1k,t4o,t5o,t6o,U3c,q3a0,rfl⟩ l'' hl
     simp only [S0,S1] at hl;subst hl
     have X3k:=X6z.updS U3c (alc ⟨g4n,_,_,q9e.ext E7a⟩ al0)
     have hE3:=belR hE2 X3k hE2.size
     have q4k:=((((q8i.ext F5c).ext F0c).quiet hq).ext E9b).ext F3b
     have ne4a0:=(Bx.neT (q4k.ext E8a) q1c (by decide))
     have ne7o:=(Bx.ne q4k g0e)
     have q5a0:=(((((((q4k.ext E8a).upd U5b ne4a0).ext E1b).ext E4a).updS U2c (nmc ne7o nm0)).ext E6b).ext E7a).updS U3c (nmc ne7o nm0)
     have q5k:=((((q9i.ext F5c).ext F0c).quiet hq).ext E9b).ext F3b
     have ne6a0:=(Bx.neT (q5k.ext E8a) q1c (by decide))
     have ne8o:=(Bx.ne q5k g0e)
     have q7a0:=(((((((q5k.ext E8a).upd U5b ne6a0).ext E1b).ext E4a).updS U2c (nmc ne8o nm0)).ext E6b).ext E7a).updS U3c (nmc ne8o nm0)
     have q9o:=(((((q4f.ext F5c).ext F0c).quiet hq).ext E9b).ext F3b).ext E8a
     have ne8a0:=(Bx.neT q9o q1c (by decide))
     have q0p:=((q9o.upd U5b ne8a0).ext E1b).ext E4a
     have ne1p:=(Bx.neT q0p (q4d.ext E4a) (by decide))
     have q9a0:=(((q0p.updS U2c (nmc ne1p nm0)).ext E6b).ext E7a).updS U3c (nmc ne1p nm0)
     have q6k:=((((q0j.ext F5c).ext F0c).quiet hq).ext E9b).ext F3b
     have ne0a1:=(Bx.neT (q6k.ext E8a) q1c (by decide))
     have ne2p:=(Bx.ne q6k g0e)
     have q1a1:=(((((((q6k.ext E8a).upd U5b ne0a1).ext E1b).ext E4a).updS U2c (nmc ne2p nm0)).ext E6b).ext E7a).updS U3c (nmc ne2p nm0)
     have q7k:=((((q1j.ext F5c).ext F0c).quiet hq).ext E9b).ext F3b
     have ne2a1:=(Bx.neT (q7k.ext E8a) q1c (by decide))
     have ne3p:=(Bx.ne q7k g0e)
     have q3a1:=(((((((q7k.ext E8a).upd U5b ne2a1).ext E1b).ext E4a).updS U2c (nmc ne3p nm0)).ext E6b).ext E7a).updS U3c (nmc ne3p nm0)
     have q4a1:=(q9j.ext E7a).updS U3c (nmc (Ne.symm ne5j) nm0)
     have n4p:RU w3b A2a c3a r0a.m.Abs:=(n0k.ext E7a).updS U3c (alc ⟨_,_,by decide,q9e.ext E7a⟩ al0)
     obtain rfl:=sj f4g
     exact ⟨X3k,hE3,nlt (nlt (nlt hK X8d.size) hq.size) X3k.size,q5a0,q7a0,q9a0,q1a1,q3a1,⟨b4b,A2a,c3a,A2a,c3a,(nlt (nlt (nlt (nlt (nlt (nlt hK X8d.size) hq.size) E9b.size) E6f.size) (Nat.le_of_eq U9d.size.symm)) g0e),q4a1,q3a0,n4p,n4p⟩⟩
  ·obtain ⟨sr,x,y,AX,cX,AY,cY,s',he,nx,ny,ho,ho',hr1⟩:=hall0w i hpos hi
   rw [ho] at hS
   obtain ⟨bs,AS,cS,AT,cT,gbs,q6e,qs,n5,n6⟩:=hS
   unfold GA at hr1
   have g00:w.heap.size≤bs:=nlt X3i.size gbs
   refine LS (actPQ he (by simp only [S0,S1];rfl)) ?_
   refine wsI fun h5a1=>IQ (by rfl) (fun ⟨_,_,h⟩=>h)<|sal Bg fun b9a9 w2j E6a1 g5p q7a1=>?_
   have g0aa:=nlt (nlt hX.size (Rd.refl w.heap.size w5e).size) g5p
   refine ss BC q7a1 fun w9b U8a1 q9a1=>?_
   have F2b:=belU E6a1 U8a1 g5p
   have X6p:=(Rd.refl w.heap.size w5e).ext F2b
   refine wh h5a1<|IQ (by rfl) (fun ⟨_,_,h⟩=>h)<|sal Bg fun b1aa w2a E0a2 g7p q1a2=>?_
   have g2aa:=nlt (nlt hX.size X6p.size) g7p
   refine ss BC q1a2 fun w3a U2a2 q3a2=>?_
   have F9a:=belU E0a2 U2a2 g7p
   have X5g:=X6p.ext F9a
   refine AF ?_
   refine ⟨X5g,?_⟩
   intro w6c hq
   refine have hE1:=belR hX X5g hX.size;have hE2:=belQ hE1 hq hE1.size;wpIn_block<|wsI fun h4a2=>IQ (by rfl) (fun ⟨_,_,h⟩=>h)<|sV2 (Ak Aw rfl ((q9a1.ext F9a).quiet hq) rfl) (Ak Aw rfl (q3a2.quiet hq) rfl) ?_
   have n5a2:=(((nx.ext hX).ext F2b).ext F9a).quiet hq
   have n6a2:=(((ny.ext hX).ext F2b).ext F9a).quiet hq
   refine scn hr1 (Ac OU (by rfl)) (Ii x y AX cX AY cY w6c (tbx (belR hE2 (Rd.refl w.heap.size w6c) hE2.size) hT) n5a2 n6a2) fun r8c f7a2 w5f A5d c6d E4c n8a2=>?_
   have X8p:=(Rd.refl w.heap.size w6c).ext E4c
   refine sal Bg fun b3aa w1n E9a2 g9p q0a3=>?_
   have g4aa:=nlt (nlt (nlt (nlt hX.size X5g.size) hq.size) X8p.size) g9p
   refine ss BC q0a3 fun w6f U1a3 q0f=>?_
   have F7b:=belU E9a2 U1a3 g9p
   have X2a3:=X8p.ext F7b
   refine wh h4a2<|wsI fun h3a3=>wsI fun h4a3=>IQ (by rfl) (fun ⟨_,_,h⟩=>h)<|have q0q:=((((q6e.ext F2b).ext F9a).quiet hq).ext E4c).ext F7b;sV2 (Ag Gx rfl (Bx.cell q0q rfl)) (SH Po rfl) ?_
   refine wh h4a3<|cfi rfl<|wpIn_skip<|h3a3 _ _<|wsI fun h5a3=>wsI fun h6a3=>Om (by rfl) (fun ⟨_,_,h⟩=>h) [] 7 mo rfl fun w7e E6a S6g=>have X1q:=X2a3.ext E6a;dV 0 rfl (fun _ hw=>Ak Aw rfl ((q0f.ext E6a).ext hw) rfl) S6g ?_
   have q7g:=q0q.ext E6a
   refine dV 1 rfl (fun _ hw=>Ag Gx rfl (Bx.cell (q7g.ext hw) rfl)) S6g ?_
   refine dA2 2 3 rfl rfl (fun _=>Bz rfl) (fun _=>Af (o':=0) CM rfl rfl) ?_
   have q7d:=(((((qs.ext F2b).ext F9a).quiet hq).ext E4c).ext F7b).ext E6a
   refine dV 4 rfl (fun _ hw=>dld Aw (q7d.ext hw)) S6g ?_
   have n2q:=(((((n5.ext F2b).ext F9a).quiet hq).ext E4c).ext F7b).ext E6a
   have q8k:=(n8a2.ext F7b).ext E6a
   refine dcr f7a2 5 rfl (by rfl) (Ac Ju (by rfl)) (Cu r8c sr.lo A5d c6d AS cS w7e (tbx (belR hE2 X1q hE2.size) hT) q8k n2q) fun r5aa f7a3 w7f E1a=>?_
   have X8a3:=X1q.ext E1a
   have S6aa:=S6g.trans E1a
   refine dab 6 rfl (by kernel_rfl) (fun _ _ _ h=>h) (by rfl) (fun _=>Bv rfl rfl) fun z3q hz3q=>?_
   refine dnrm ?_
   refine Cx (by kernel_rfl) ?_
   refine h6a3 _ _ ?_
   obtain ⟨m1d,h9a3,f0a4⟩:=Ad f7a3
   refine LL (fun l l' w'=>∃(t4q:Value) (t5q:Value) (t6q:Value) (t7q:Value) (A1e:OA) (c2e:Nat),UpdS [bs] w7f w'∧Bx w' bs 121 [.bool m1d.1,.slice A1e (sz m1d.2.1) c2e,.int .i64 m1d.2.2,.bool sr.hi.m.Neg,.slice AT (sz sr.hi.m.Abs) cT,.int .i64 sr.hi.e]∧RU w' A1e c2e m1d.2.1∧l'=((((l.set 32 t4q).set 33 t5q).set 34 t6q).set 35 t7q)) ?_ ?_
   ·rcases zi hz3q h9a3 with ⟨e9k,_,f1a4⟩ | ⟨e9k,_,f2a4⟩
    ·refine cti e9k<|IQ (by rfl) (fun ⟨_,_,h⟩=>h)<|sV3 (Ag Gx rfl (Bx.cell (q7g.ext E1a) rfl)) (Ak Aw rfl ((q0f.ext E6a).ext E1a) rfl) (Bz rfl) ?_
     refine sV (Af (o':=0) CM rfl rfl) ?_
     have q8q:=q7d.ext E1a
     refine ss BC q8q fun w8f U9q q3a4=>?_
     refine AF ?_
     have n4a4:=(q8k.ext E1a).upd U9q q8q (by decide)
     obtain rfl:=sj f1a4
     exact ⟨_,rfl,(.pointer (some ⟨bs,0,none⟩)),(.agg #[.bool r8c.m.Neg,.slice A5d (sz r8c.m.Abs) c6d,.int .i64 r8c.e]),(.pointer (some ⟨bs,0,none⟩)),(.pointer (some ⟨bs,0,none⟩)),A5d,c6d,((UpdS.refl _ _).upd U9q (.inl im0)),q3a4,n4a4,(by kernel_rfl)⟩
    ·refine cfi e9k<|wpIn_skip ?_
     have q5a4:=q7d.ext E1a
     obtain rfl:=sj f2a4
     exact ⟨_,rfl,uu,uu,uu,uu,AS,cS,(UpdS.refl _ _),q5a4,(n2q.ext E1a),(by kernel_rfl)⟩
   ·rintro l' w8f ⟨t4q,t5q,t6q,t7q,A1e,c2e,U8b,q6a4,n7a4,rfl⟩ l'' hl
    simp only [S0,S1] at hl;subst hl
    have X8a4:=X8a3.updS U8b (alc ⟨g00,_,_,q7d.ext E1a⟩ al0)
    have q0l:=q7d.ext E1a
    refine h5a3 _ _<|wsI fun h9a4=>Om (by rfl) (fun ⟨_,_,h⟩=>h) [] 7 mo rfl fun w8e E0b S8g=>have X0r:=X8a4.ext E0b;have ne1r:=(Bx.neT ((q0f.ext E6a).ext E1a) q0l (by decide));dV 0 rfl (fun _ hw=>Ak Aw rfl (((((q0f.ext E6a).ext E1a).updS U8b (nmc ne1r nm0)).ext E0b).ext hw) rfl) S8g ?_
    have ne2r:=(Bx.neT (q7g.ext E1a) q0l (by decide))
    have q1l:=((q7g.ext E1a).updS U8b (nmc ne2r nm0)).ext E0b
    refine dV 1 rfl (fun _ hw=>Ag Gx rfl (Bx.cell (q1l.ext hw) rfl)) S8g ?_
    refine dA2 2 3 rfl rfl (fun _=>Bz rfl) (fun _=>Af (o':=3) Da rfl rfl) ?_
    have q3e:=q6a4.ext E0b
    refine dV 4 rfl (fun _ hw=>dld Aw (q3e.ext hw)) S8g ?_
    have n3r:RU w8e A5d c6d r8c.m.Abs:=((q8k.ext E1a).updS U8b (alc ⟨_,_,by decide,q7d.ext E1a⟩ al0)).ext E0b
    have n4r:RU w8e AT cT sr.hi.m.Abs:=((((((((n6.ext F2b).ext F9a).quiet hq).ext E4c).ext F7b).ext E6a).ext E1a).updS U8b (alc ⟨_,_,by decide,q7d.ext E1a⟩ al0)).ext E0b
    refine dcr f0a4 5 rfl (by rfl) (Ac Ju (by rfl)) (Cu r8c sr.hi A5d c6d AT cT w8e (tbx (belR hE2 X0r hE2.size) hT) n3r n4r) fun r7aa f0a5 w9d E5a=>?_
    have X1a5:=X0r.ext E5a
    have S8aa:=S8g.trans E5a
    refine dab 6 rfl (by kernel_rfl) (fun _ _ _ h=>h) (by rfl) (fun _=>Eh rfl rfl) fun z5r hz5r=>?_
    refine dnrm ?_
    refine Cx (by kernel_rfl) ?_
    refine h9a4 _ _ ?_
    obtain ⟨m9g,h2a5,f3a5⟩:=Ad f0a5
    refine LL (fun l l' w'=>∃(t6r:Value) (t7r:Value) (t8r:Value) (t9r:Value) (A0h:OA) (c1h:Nat),UpdS [bs] w9d w'∧Bx w' bs 121 [.bool m1d.1,.slice A1e (sz m1d.2.1) c2e,.int .i64 m1d.2.2,.bool m9g.1,.slice A0h (sz m9g.2.1) c1h,.int .i64 m9g.2.2]∧RU w' A0h c1h m9g.2.1∧l'=((((l.set 43 t6r).set 44 t7r).set 45 t8r).set 46 t9r)) ?_ ?_
    ·rcases zi hz5r h2a5 with ⟨e2l,_,f4a5⟩ | ⟨e2l,_,f5a5⟩
     ·refine cti e2l<|IQ (by rfl) (fun ⟨_,_,h⟩=>h)<|have q6a5:=q1l.ext E5a;sV (Ag Gx rfl (Bx.cell q6a5 rfl)) ?_
      have q7a5:=((((q0f.ext E6a).ext E1a).updS U8b (nmc ne1r nm0)).ext E0b).ext E5a
      refine sV3 (Ak Aw rfl q7a5 rfl) (Bz rfl) (Af (o':=3) Da rfl rfl) ?_
      refine ss BC (q3e.ext E5a) fun w7c U0s q8a5=>?_
      refine AF ?_
      have n9a5:=(n3r.ext E5a).upd U0s (q3e.ext E5a) (by decide)
      obtain rfl:=sj f4a5
      exact ⟨_,rfl,(.pointer (some ⟨bs,0,none⟩)),(.agg #[.bool r8c.m.Neg,.slice A5d (sz r8c.m.Abs) c6d,.int .i64 r8c.e]),(.pointer (some ⟨bs,0,none⟩)),(.pointer (some ⟨bs,3,none⟩)),A5d,c6d,((UpdS.refl _ _).upd U0s (.inl im0)),q8a5,n9a5,(by kernel_rfl)⟩
     ·refine cfi e2l<|wpIn_skip ?_
      obtain rfl:=sj f5a5
      exact ⟨_,rfl,uu,uu,uu,uu,AT,cT,(UpdS.refl _ _),(q3e.ext E5a),(n4r.ext E5a),(by kernel_rfl)⟩
    ·rintro l' w7c ⟨t6r,t7r,t8r,t9r,A0h,c1h,U2d,q0a6,n1a6,rfl⟩ l'' hl
     simp only [S0,S1] at hl;subst hl
     have X3l:=X1a5.updS U2d (alc ⟨g00,_,_,q3e.ext E5a⟩ al0)
     have hE3:=belR hE2 X3l hE2.size
     have ne1s:=(Bx.ne (q2i.ext E3d) gbs)
     have q2a6:=((((((((((q8i.ext F2b).ext F9a).quiet hq).ext E4c).ext F7b).ext E6a).ext E1a).updS U8b (nmc ne1s nm0)).ext E0b).ext E5a).updS U2d (nmc ne1s nm0)
     have ne2s:=(Bx.ne (q1i.ext E3d) gbs)
     have q3a6:=((((((((((q9i.ext F2b).ext F9a).quiet hq).ext E4c).ext F7b).ext E6a).ext E1a).updS U8b (nmc ne2s nm0)).ext E0b).ext E5a).updS U2d (nmc ne2s nm0)
     have q3s:=((((((q4f.ext F2b).ext F9a).quiet hq).ext E4c).ext F7b).ext E6a).ext E1a
     have ne4s:=(Bx.neT q3s q0l (by decide))
     have q4a6:=(((q3s.updS U8b (nmc ne4s nm0)).ext E0b).ext E5a).updS U2d (nmc ne4s nm0)
     have ne5s:=(Bx.ne q4m gbs)
     have q5a6:=((((((((((q0j.ext F2b).ext F9a).quiet hq).ext E4c).ext F7b).ext E6a).ext E1a).updS U8b (nmc ne5s nm0)).ext E0b).ext E5a).updS U2d (nmc ne5s nm0)
     have ne6s:=(Bx.ne q5m gbs)
     have q6a6:=((((((((((q1j.ext F2b).ext F9a).quiet hq).ext E4c).ext F7b).ext E6a).ext E1a).updS U8b (nmc ne6s nm0)).ext E0b).ext E5a).updS U2d (nmc ne6s nm0)
     have q7a6:=(q1l.ext E5a).updS U2d (nmc ne2r nm0)
     have n8a6:RU w7c A1e c2e m1d.2.1:=((n7a4.ext E0b).ext E5a).updS U2d (alc ⟨_,_,by decide,q3e.ext E5a⟩ al0)
     obtain rfl:=sj f3a5
     exact ⟨X3l,hE3,nlt (nlt (nlt hK X5g.size) hq.size) X3l.size,q2a6,q3a6,q4a6,q5a6,q6a6,(by rw [ho'];exact ⟨bs,A1e,c2e,A0h,c1h,gbs,q7a6,q0a6,n8a6,n1a6⟩)⟩
 ·intro D w3g hD hI hk0
  subst hO
  obtain ⟨hX,hK,q8i,q9i,q4f,q0j,q1j,hS⟩:=hI
  obtain ⟨bs,AS,cS,AT,cT,gbs,q6e,qs,n5,n6⟩:=hS
  have hk:Df w3g D:=hk0
  refine h9u _ _<|ws fun h9a6=>Ah<|sV3 (Ag Gx rfl (Bx.cell q6e rfl)) (Bz rfl) (Ak Ln rfl qs rfl) ?_
  refine sV (Aa rfl) ?_
  obtain ⟨r4l,h0a7,f1a7⟩:=Ad f9v
  refine sc (Ac en_118 (by rfl)) (c_dyad_span_outward s6i x2 AS cS AT cT w3g (tbx hX hT) n5 n6 r4l h0a7) ?_
  rintro _ w4g E5l ⟨A7s,c8s,A9s,c0t,rfl,n1t,n2t⟩
  refine nrm ?_
  have X2h:=xtr hX E5l
  have hk3t:=Df.ext hk E5l
  rcases AC f1a7 with ⟨r6l,h7l,f2a7⟩ | ⟨r6l,h7l,rfl⟩
  ·refine scO (Ac Je (by rfl)) (BS r4l A7s c8s A9s c0t w4g (tbx X2h hT) n1t n2t (.ok r6l) h7l) ?_
   rintro _ w3c E4e ⟨A3a7,c4a7,A5a7,c6a7,rfl,n7a7,n8a7⟩
   refine nrm ?_
   have X9a7:=xtr X2h E4e
   have hk0a8:=Df.ext hk3t E4e
   have q3h:=(q4f.ext E5l).ext E4e
   refine ss EG q3h fun w1k U4h q1a8=>?_
   have X4t:=belU X9a7 U4h g4u
   have hk5t:=Df.upd hk0a8 U4h q3h
   refine wh h9a6<|wp_ret ?_
   have Q5h:=Quiet.put (n0:=w.heap.size) (.deferred none) hk5t hD rfl
   have hXE:=belQ X4t Q5h X4t.size
   have n2a8:=(n7a7.upd U4h q3h (by decide)).quiet Q5h
   have n3a8:=(n8a7.upd U4h q3h (by decide)).quiet Q5h
   obtain rfl:=sj f2a7
   exact Sz hk5t rfl (Res.cellN rfl BB (q1a8.quiet Q5h) rfl rfl Res.nil) (Cl hXE ⟨A3a7,c4a7,A5a7,c6a7,rfl,n2a8,n3a8⟩)
  ·refine scP (Ac Je (by rfl)) (BS r4l A7s c8s A9s c0t w4g (tbx X2h hT) n1t n2t (.error r6l) h7l) fun w3c E4e=>?_
   have X6t:=xtr X2h E4e
   have hk7t:=Df.ext hk3t E4e
   exact panM hk7t (AP (belQ X6t (Quiet.put _ hk7t hD rfl) X6t.size))
def Qz (pf:An→An→Int→M Ao) (x0:Am) (x1:Am) (x2:Int):M (Ao × Int):=
 mb (Ba x0 x1) fun r7a=>
 mb (Ex x2) fun r8a=>
 (toN x0.Lo.Man.Abs).bind fun m0a=>
 (toN x0.Hi.Man.Abs).bind fun m1a=>
 (BY (⟨(⟨(⟨x0.Lo.Man.Neg,m0a⟩:Ae),x0.Lo.Exp⟩:Al),(⟨(⟨x0.Hi.Man.Neg,m1a⟩:Ae),x0.Hi.Exp⟩:Al)⟩:Ao)).bind fun r2a=>
 (toN x1.Lo.Man.Abs).bind fun m3a=>
 (toN x1.Hi.Man.Abs).bind fun m4a=>
 (BY (⟨(⟨(⟨x1.Lo.Man.Neg,m3a⟩:Ae),x1.Lo.Exp⟩:Al),(⟨(⟨x1.Hi.Man.Neg,m4a⟩:Ae),x1.Hi.Exp⟩:Al)⟩:Ao)).bind fun r5a=>
 mb (pf r2a r5a x2) fun r6a=>
 some (.ok (r6a,0))
def Sd (pf:An→An→Int→M Ao) (x0:Am) (x1:Am) (x2:Int):Option (Ao × Int):=(Qz pf x0 x1 x2).bind fun q=>match q with | .ok r=>some r | .error n=>some ((⟨(⟨(⟨false,0⟩:Ae),0⟩:Al),(⟨(⟨false,0⟩:Ae),0⟩:Al)⟩:Ao),n)
theorem Nv {kf:Nat} (pf:An→An→Int→M Ao) (hen:Ent prog kf) (hcf:∀ (x0:An) (x1:An) (x2:Int) (A1:OA) (c2:Nat) (A4:OA) (c5:Nat) (A7:OA) (c8:Nat) (A2a:OA) (c3a:Nat) (w:World) (hT:TB w) (n3:RU w A1 c2 x0.lo.m.Abs) (n6:RU w A4 c5 x0.hi.m.Abs) (n9:RU w A7 c8 x1.lo.m.Abs) (n3b:RU w A2a c3a x1.hi.m.Abs) (r:Except Int (Ao)) (hr:pf x0 x1 x2=some r),Calls prog kf #[.agg #[.bool x0.lo.m.Neg,.slice A1 (sz x0.lo.m.Abs) c2,.int .i64 x0.lo.e,.bool x0.hi.m.Neg,.slice A4 (sz x0.hi.m.Abs) c5,.int .i64 x0.hi.e],.agg #[.bool x1.lo.m.Neg,.slice A7 (sz x1.lo.m.Abs) c8,.int .i64 x1.lo.e,.bool x1.hi.m.Neg,.slice A2a (sz x1.hi.m.Abs) c3a,.int .i64 x1.hi.e],.int .i64 x2] w (RetE 201 Ld w r)) (x0:Am) (x1:Am) (x2:Int) (A1:OA) (c2:Nat) (A4:OA) (c5:Nat) (A7:OA) (c8:Nat) (A2a:OA) (c3a:Nat) (w:World) (hT:TB w) (n3:RLu w A1 c2 x0.Lo.Man.Abs) (n6:RLu w A4 c5 x0.Hi.Man.Abs) (n9:RLu w A7 c8 x1.Lo.Man.Abs) (n3b:RLu w A2a c3a x1.Hi.Man.Abs) (r:Ao × Int) (hr:Sd pf x0 x1 x2=some r) :
  Calls prog 100 #[.agg #[.bool x0.Lo.Man.Neg,.slice A1 x0.Lo.Man.Abs.length c2,.int .i64 x0.Lo.Exp,.bool x0.Hi.Man.Neg,.slice A4 x0.Hi.Man.Abs.length c5,.int .i64 x0.Hi.Exp],.agg #[.bool x1.Lo.Man.Neg,.slice A7 x1.Lo.Man.Abs.length c8,.int .i64 x1.Lo.Exp,.bool x1.Hi.Man.Neg,.slice A2a x1.Hi.Man.Abs.length c3a,.int .i64 x1.Hi.Exp],.int .i64 x2,.func (.func kf) #[] #[]] w (Ret FF w r):=by
 unfold Sd at hr
 obtain ⟨q0,hq0,hr0⟩:=Ad hr
 unfold Qz at hq0
 go_enter_defers func100,ntmps100
 refine ws fun h4e=>Ah<|sbx rfl rfl fun b1m w1 E5e g2m q8g=>?_
 refine sbx rfl rfl fun b3m w2 E6e g9g q0h=>?_
 have g4m:=nlt E5e.size g9g
 have X7e:=xtr E5e E6e
 refine sal Gp fun b4b w3 E8d g1h q5b=>?_
 have g6b:=nlt X7e.size g1h
 have X8e:=xtr X7e E8d
 refine sal JN fun b7b w4 E0b g2h q8b=>?_
 have g9b:=nlt X8e.size g2h
 have X9e:=xtr X8e E0b
 have q0f:=(q0h.ext E8d).ext E0b
 refine nx h4e fun h3h=>HP (vs:=[.pointer (some ⟨b4b,0,none⟩),.pointer (some ⟨b7b,0,none⟩)]) (by rfl) (by rfl)<|nx h3h fun h4h=>have q1f:=((q8g.ext E6e).ext E8d).ext E0b;sV2 (Ak BB rfl q1f rfl) (Ak BB rfl q0f rfl) ?_
 refine Dj (vals:=[(0,.agg #[.bool x0.Lo.Man.Neg,.slice A1 x0.Lo.Man.Abs.length c2,.int .i64 x0.Lo.Exp,.bool x0.Hi.Man.Neg,.slice A4 x0.Hi.Man.Abs.length c5,.int .i64 x0.Hi.Exp]),(1,.agg #[.bool x1.Lo.Man.Neg,.slice A7 x1.Lo.Man.Abs.length c8,.int .i64 x1.Lo.Exp,.bool x1.Hi.Man.Neg,.slice A2a x1.Hi.Man.Abs.length c3a,.int .i64 x1.Hi.Exp])]) (cs:=[.bool x0.Lo.Man.Neg,.slice A1 x0.Lo.Man.Abs.length c2,.int .i64 x0.Lo.Exp,.bool x0.Hi.Man.Neg,.slice A4 x0.Hi.Man.Abs.length c5,.int .i64 x0.Hi.Exp,.bool x1.Lo.Man.Neg,.slice A7 x1.Lo.Man.Abs.length c8,.int .i64 x1.Lo.Exp,.bool x1.Hi.Man.Neg,.slice A2a x1.Hi.Man.Abs.length c3a,.int .i64 x1.Hi.Exp]) MC EG Gp (by rfl) (by decide) (by kernel_rfl) fun b2f w5 E6a g5h q3f=>?_
 refine nrm ?_
 have g5m:=nlt X9e.size g5h
 have X5a:=xtr X9e E6a
 rcases AC hq0 with ⟨r0c,h9d,f6h⟩ | ⟨r0c,h9d,rfl⟩
 ·refine scO (Ac Pd (by rfl)) (Lc x0 x1 b2f A1 c2 A4 c5 A7 c8 A2a c3a w5 (tbx X5a hT) (n3.ext X5a) (n6.ext X5a) (n9.ext X5a) (n3b.ext X5a) q3f (.ok r0c) h9d) ?_
  rintro _ w6 E4a rfl
  refine nrm ?_
  have X1c:=xtr X5a E4a
  refine nx h4h fun h7h=>sV (Aa rfl) ?_
  rcases AC f6h with ⟨r2c,h0e,f8h⟩ | ⟨r2c,h0e,rfl⟩
  ·refine scO (Ac Nt (by rfl)) (IL x2 w6 (tbx X1c hT)  (.ok r2c) h0e) ?_
   rintro _ w7 E7a rfl
   refine nrm ?_
   have X9h:=xtr X1c E7a
   refine wh h7h<|ws fun h0i=>DT [7,8] 9 mo rfl fun w8 E1b S1e=>?_
   have X3c:=xtr X9h E1b
   refine dA 0 rfl (fun _=>Aa rfl) ?_ (hQ:=fun _ _ _ h=>dq (rs:=[.cell 8 29,.cell 9 33]) rfl (by decide) h)
   refine dV 1 rfl (fun _ hw=>Ak BB rfl (((((q1f.ext E6a).ext E4a).ext E7a).ext E1b).ext hw) rfl) S1e ?_ (hQ:=fun _ _ _ h=>dq (rs:=[.cell 8 29,.cell 9 33]) rfl (by decide) h)
   refine dV 3 rfl (fun _ hw=>Ak BB rfl (((((q0f.ext E6a).ext E4a).ext E7a).ext E1b).ext hw) rfl) S1e ?_ (hQ:=fun _ _ _ h=>dq (rs:=[.cell 8 29,.cell 9 33]) rfl (by decide) h)
   refine dA 5 rfl (fun _=>Aa rfl) ?_ (hQ:=fun _ _ _ h=>dq (rs:=[.cell 8 29,.cell 9 33]) rfl (by decide) h)
   obtain ⟨m4f,h1i,f2i⟩:=Ad f8h
   have hx5f:=Dd h1i
   have n3i:RU w8 A1 c2 m4f:=by unfold RU;rw [hx5f];exact (n3.ext X3c)
   obtain ⟨m6f,h4i,f5i⟩:=Ad f2i
   have hx7f:=Dd h4i
   have n6i:RU w8 A4 c5 m6f:=by unfold RU;rw [hx7f];exact (n6.ext X3c)
   obtain ⟨r0a,h7i,f8i⟩:=Ad f5i
   refine dc 2 rfl (by kernel_rfl) (by rfl) (Ac Sr (by simp only [sz,hx5f,hx7f];rfl)) (Mv (⟨(⟨(⟨x0.Lo.Man.Neg,m4f⟩:Ae),x0.Lo.Exp⟩:Al),(⟨(⟨x0.Hi.Man.Neg,m6f⟩:Ae),x0.Hi.Exp⟩:Al)⟩:Ao) A1 c2 A4 c5 w8 (tbx X3c hT) n3i n6i r0a h7i) ?_
   rintro _ w9 E2b ⟨A4c,c5c,A6c,c7c,rfl,n8f,n9f⟩
   refine dnrm ?_
   have X8c:=xtr X3c E2b
   have S9i:=S1e.trans E2b
   obtain ⟨m0g,h0j,f1j⟩:=Ad f8i
   have hx1g:=Dd h0j
   have n2j:RU w9 A7 c8 m0g:=by unfold RU;rw [hx1g];exact (n9.ext X8c)
   obtain ⟨m2g,h3j,f4j⟩:=Ad f1j
   have hx3g:=Dd h3j
   have n5j:RU w9 A2a c3a m2g:=by unfold RU;rw [hx3g];exact (n3b.ext X8c)
   obtain ⟨r1a,h6j,f7j⟩:=Ad f4j
   refine dc 4 rfl (by kernel_rfl) (by rfl) (Ac Sr (by simp only [sz,hx1g,hx3g];rfl)) (Mv (⟨(⟨(⟨x1.Lo.Man.Neg,m0g⟩:Ae),x1.Lo.Exp⟩:Al),(⟨(⟨x1.Hi.Man.Neg,m2g⟩:Ae),x1.Hi.Exp⟩:Al)⟩:Ao) A7 c8 A2a c3a w9 (tbx X8c hT) n2j n5j r1a h6j) ?_
   rintro _ w2a E8a ⟨A9c,c0d,A1d,c2d,rfl,n4g,n5g⟩
   refine dnrm ?_
   have X3d:=xtr X8c E8a
   have S8j:=S9i.trans E8a
   rcases AC f7j with ⟨r4d,h2e,f9j⟩ | ⟨r4d,h2e,rfl⟩
   ·refine dcO 6 rfl (by kernel_rfl) (by rfl) (Ho (first:=[]) (cap:=[]) (args:=[.agg #[.bool r0a.lo.m.Neg,.slice A4c (sz r0a.lo.m.Abs) c5c,.int .i64 r0a.lo.e,.bool r0a.hi.m.Neg,.slice A6c (sz r0a.hi.m.Abs) c7c,.int .i64 r0a.hi.e],.agg #[.bool r1a.lo.m.Neg,.slice A9c (sz r1a.lo.m.Abs) c0d,.int .i64 r1a.lo.e,.bool r1a.hi.m.Neg,.slice A1d (sz r1a.hi.m.Abs) c2d,.int .i64 r1a.hi.e],.int .i64 x2]) hen (by rfl) (by rfl)) (hcf r0a r1a x2 A4c c5c A6c c7c A9c c0d A1d c2d w2a (tbx X3d hT) (n8f.ext E8a) (n9f.ext E8a) n4g n5g (.ok r4d) h2e) ?_
    rintro _ w3a E9a ⟨A0k,c1k,A2k,c3k,rfl,n4k,n5k⟩
    refine dnrm ?_
    have X6k:=xtr X3d E9a
    have S6m:=S8j.trans E9a
    have q5d:=(((((((q5b.ext E0b).ext E6a).ext E4a).ext E7a).ext E1b).ext E2b).ext E8a).ext E9a
    refine dkk 7 EG q5d fun w3b U6d q7k=>?_
    have X8k:=belU X6k U6d g6b
    have q6g:=((((((q8b.ext E6a).ext E4a).ext E7a).ext E1b).ext E2b).ext E8a).ext E9a
    have ne7g:=(Bx.neT q6g q5d (by decide))
    have q3e:=q6g.upd U6d ne7g
    refine dkk 8 HU q3e fun w4e U7d q9k=>?_
    have X0l:=belU X8k U7d g9b
    refine Cx (by kernel_rfl) ?_
    refine h0i _ _<|wp_ret ?_
    have n1l:=(n4k.upd U6d q5d (by decide)).upd U7d q3e (by decide)
    have n2l:=(n5k.upd U6d q5d (by decide)).upd U7d q3e (by decide)
    obtain rfl:=sj f9j
    obtain rfl:=sj hr0
    exact NJ Jj Mi rfl (Res.cellN rfl BB (q7k.upd U7d (Ne.symm ne7g)) rfl rfl (Res.cell1 rfl CO (Bx.cell q9k rfl) Res.nil)) (AJ X0l ⟨A0k,c1k,A2k,c3k,rfl,n1l,n2l⟩)
   ·refine dcP 6 rfl (by kernel_rfl) (by rfl) (Ho (first:=[]) (cap:=[]) (args:=[.agg #[.bool r0a.lo.m.Neg,.slice A4c (sz r0a.lo.m.Abs) c5c,.int .i64 r0a.lo.e,.bool r0a.hi.m.Neg,.slice A6c (sz r0a.hi.m.Abs) c7c,.int .i64 r0a.hi.e],.agg #[.bool r1a.lo.m.Neg,.slice A9c (sz r1a.lo.m.Abs) c0d,.int .i64 r1a.lo.e,.bool r1a.hi.m.Neg,.slice A1d (sz r1a.hi.m.Abs) c2d,.int .i64 r1a.hi.e],.int .i64 x2]) hen (by rfl) (by rfl)) (hcf r0a r1a x2 A4c c5c A6c c7c A9c c0d A1d c2d w2a (tbx X3d hT) (n8f.ext E8a) (n9f.ext E8a) n4g n5g (.error r4d) h2e) fun w3a E9a=>?_
    have X3l:=xtr X3d E9a
    have q4l:=(((((((q5b.ext E0b).ext E6a).ext E4a).ext E7a).ext E1b).ext E2b).ext E8a).ext E9a
    have q5l:=((((((q8b.ext E6a).ext E4a).ext E7a).ext E1b).ext E2b).ext E8a).ext E9a
    refine Kg Mi (Fb b4b b7b (.bool false:Value) (.slice none 0 0:Value) (.int .i64 0:Value) (.bool false:Value) (.slice none 0 0:Value) (.int .i64 0:Value) (.int .i64 0:Value) r4d q4l q5l) rfl ?_
    rintro w9 ⟨u9,q9,q9'⟩
    obtain rfl:=sj hr0
    exact ⟨_,(Res.cellN rfl BB q9 rfl rfl (Res.cell1 rfl CO (Bx.cell q9' rfl) Res.nil)),AJ (u9.toExt X3l g6b g9b) ⟨none,0,none,0,rfl,RU.nil _,RU.nil _⟩⟩
  ·refine scP (Ac Nt (by rfl)) (IL x2 w6 (tbx X1c hT)  (.error r2c) h0e) fun w7 E7a=>?_
   have X6l:=xtr X1c E7a
   have q7l:=(((q5b.ext E0b).ext E6a).ext E4a).ext E7a
   have q8l:=((q8b.ext E6a).ext E4a).ext E7a
   refine Kg Mi (Fb b4b b7b (.bool false:Value) (.slice none 0 0:Value) (.int .i64 0:Value) (.bool false:Value) (.slice none 0 0:Value) (.int .i64 0:Value) (.int .i64 0:Value) r2c q7l q8l) rfl ?_
   rintro w9 ⟨u9,q9,q9'⟩
   obtain rfl:=sj hr0
   exact ⟨_,(Res.cellN rfl BB q9 rfl rfl (Res.cell1 rfl CO (Bx.cell q9' rfl) Res.nil)),AJ (u9.toExt X6l g6b g9b) ⟨none,0,none,0,rfl,RU.nil _,RU.nil _⟩⟩
 ·refine scP (Ac Pd (by rfl)) (Lc x0 x1 b2f A1 c2 A4 c5 A7 c8 A2a c3a w5 (tbx X5a hT) (n3.ext X5a) (n6.ext X5a) (n9.ext X5a) (n3b.ext X5a) q3f (.error r0c) h9d) fun w6 E4a=>?_
  have X9l:=xtr X5a E4a
  have q0m:=((q5b.ext E0b).ext E6a).ext E4a
  refine Kg Mi (Fb b4b b7b (.bool false:Value) (.slice none 0 0:Value) (.int .i64 0:Value) (.bool false:Value) (.slice none 0 0:Value) (.int .i64 0:Value) (.int .i64 0:Value) r0c q0m ((q8b.ext E6a).ext E4a)) rfl ?_
  rintro w9 ⟨u9,q9,q9'⟩
  obtain rfl:=sj hr0
  exact ⟨_,(Res.cellN rfl BB q9 rfl rfl (Res.cell1 rfl CO (Bx.cell q9' rfl) Res.nil)),AJ (u9.toExt X9l g6b g9b) ⟨none,0,none,0,rfl,RU.nil _,RU.nil _⟩⟩
theorem c_dyad_made_Span__dyad_Times_1 (x0:Am) (x1:Am) (x2:Int) (A1:OA) (c2:Nat) (A4:OA) (c5:Nat) (A7:OA) (c8:Nat) (A0a:OA) (c1a:Nat) (w:World) (hT:TB w) (n3:RLu w A1 c2 x0.Lo.Man.Abs) (n6:RLu w A4 c5 x0.Hi.Man.Abs) (n9:RLu w A7 c8 x1.Lo.Man.Abs) (n2a:RLu w A0a c1a x1.Hi.Man.Abs) (r:Ao × Int) (hr:Dx x0 x1 x2=some r) :
  Calls prog 100 #[.agg #[.bool x0.Lo.Man.Neg,.slice A1 x0.Lo.Man.Abs.length c2,.int .i64 x0.Lo.Exp,.bool x0.Hi.Man.Neg,.slice A4 x0.Hi.Man.Abs.length c5,.int .i64 x0.Hi.Exp],.agg #[.bool x1.Lo.Man.Neg,.slice A7 x1.Lo.Man.Abs.length c8,.int .i64 x1.Lo.Exp,.bool x1.Hi.Man.Neg,.slice A0a x1.Hi.Man.Abs.length c1a,.int .i64 x1.Hi.Exp],.int .i64 x2,.func (.func 116) #[] #[]] w (Ret FF w r):=Nv Gs en_116 c_dyad_Times_1 x0 x1 x2 A1 c2 A4 c5 A7 c8 A0a c1a w hT n3 n6 n9 n2a r hr
theorem MR (x0:Am) (x1:Am) (x2:Int) (A1:OA) (c2:Nat) (A4:OA) (c5:Nat) (A7:OA) (c8:Nat) (A2a:OA) (c3a:Nat) (w:World) (hT:TB w) (n3:RLu w A1 c2 x0.Lo.Man.Abs) (n6:RLu w A4 c5 x0.Hi.Man.Abs) (n9:RLu w A7 c8 x1.Lo.Man.Abs) (n0b:RLu w A2a c3a x1.Hi.Man.Abs) (r:Ao × Int) (hr:GJ x0 x1 x2=some r) :
  Calls prog 32 #[.agg #[.bool x0.Lo.Man.Neg,.slice A1 x0.Lo.Man.Abs.length c2,.int .i64 x0.Lo.Exp,.bool x0.Hi.Man.Neg,.slice A4 x0.Hi.Man.Abs.length c5,.int .i64 x0.Hi.Exp],.agg #[.bool x1.Lo.Man.Neg,.slice A7 x1.Lo.Man.Abs.length c8,.int .i64 x1.Lo.Exp,.bool x1.Hi.Man.Neg,.slice A2a x1.Hi.Man.Abs.length c3a,.int .i64 x1.Hi.Exp],.int .i64 x2] w (Ret FF w r):=by
 unfold GJ at hr
 go_enter func32,ntmps32
 refine ws fun h1b=>Ah<|sbx rfl rfl fun b2d w1 E7a g3d q2b=>?_
 refine sbx rfl rfl fun b4d w2 E8a g3b q4b=>?_
 have g5d:=nlt E7a.size g3b
 have X9a:=xtr E7a E8a
 refine sal Gp fun b6d w3 E4a g5b q5a=>?_
 have g6b:=nlt X9a.size g5b
 have X0a:=xtr X9a E4a
 refine sV (Ab rfl) ?_
 refine nx h1b fun h7b=>sV3 (Ak BB rfl ((q2b.ext E8a).ext E4a) rfl) (Ak BB rfl (q4b.ext E4a) rfl) (Aa rfl) ?_
 obtain ⟨r8b,h9b,f0c⟩:=Ad hr
 refine sc (Ac Nx (by rfl)) (c_dyad_made_Span__dyad_Times_1 x0 x1 x2 A1 c2 A4 c5 A7 c8 A2a c3a w3 (tbx X0a hT) (n3.ext X0a) (n6.ext X0a) (n9.ext X0a) (n0b.ext X0a) r8b h9b) ?_
 rintro _ w4 E1a ⟨A1c,c2c,A3c,c4c,rfl,n5c,n6c⟩
 refine nrm ?_
 have X7c:=xtr X0a E1a
 refine sV2 (Ai rfl rfl) (Ai rfl rfl) ?_
 refine ss EG (q5a.ext E1a) fun w5 U6a q8c=>?_
 have X9c:=belU X7c U6a g6b
 refine sV (Ab rfl) ?_
 refine wh h7b<|wp_ret ?_
 have n0d:=n5c.upd U6a (q5a.ext E1a) (by decide)
 have n1d:=n6c.upd U6a (q5a.ext E1a) (by decide)
 exact Gd f0c rfl (Res.cellN rfl BB q8c rfl rfl (Res.tmp rfl Res.nil)) (AJ X9c ⟨A1c,c2c,A3c,c4c,rfl,n0d,n1d⟩)
theorem c_sorobanref03_SameInt (x0:Ae) (x1:Ae) (A1:OA) (c2:Nat) (A4:OA) (c5:Nat) (w:World) (hT:TB w) (n3:RU w A1 c2 x0.Abs) (n6:RU w A4 c5 x1.Abs) (r:Bool) (hr:Ht x0 x1=some r) :
  Calls prog 86 #[.agg #[.bool x0.Neg,.slice A1 (sz x0.Abs) c2],.agg #[.bool x1.Neg,.slice A4 (sz x1.Abs) c5]] w (Ret Gi w r):=by
 unfold Ht at hr
 go_enter func86,ntmps86
 refine ws fun h7=>Ah<|sbx rfl rfl fun b8 w1 E9 g3c q3a=>?_
 refine sbx rfl rfl fun b1b w2 E2a g2b q4a=>?_
 have g4c:=nlt E9.size g2b
 have X1a:=xtr E9 E2a
 refine sV (Ab rfl) ?_
 refine nx h7 fun h3b=>sV3 (Af (o':=0) Fo rfl rfl) (Ag Gy rfl (Bx.cell (q3a.ext E2a) rfl)) (Af (o':=0) Fo rfl rfl) ?_
 refine sV (Ag Gy rfl (Bx.cell q4a rfl)) ?_
 refine sbl (Pg Qw rfl rfl) fun z5a hz5a=>?_
 refine sV (Aa rfl) ?_
 obtain ⟨m4b,h5b,f32⟩:=Ad hr
 refine BH 12 (fun l l' w'=>∃(t6a:Value) (t7a:Value) (t8a:Value) (t9a:Value) (t0b:Value),UpdS [] w2 w'∧l'=((((((l.set 11 t6a).set 12 t7a).set 13 t8a).set 14 t9a).set 15 t0b).set 16 (.bool m4b))) ?_ ?_
 ·intro HJ39
  rcases zi hz5a h5b with ⟨e0a,_,f6b⟩ | ⟨e0a,_,f7b⟩
  ·refine sV (Af (o':=1) BI rfl rfl) ?_ (hw:=wgT rfl e0a)
   refine sV (Ag Ci rfl (Bx.cell (q3a.ext E2a) rfl)) ?_ (hw:=wgT rfl e0a)
   refine sV (Af (o':=1) BI rfl rfl) ?_ (hw:=wgT rfl e0a)
   refine sV (Ag Ci rfl (Bx.cell q4a rfl)) ?_ (hw:=wgT rfl e0a)
   refine scr f6b (Ac en_144 (by rfl)) (Iq (limbs x0.Abs) (limbs x1.Abs) A1 c2 A4 c5 w2 (tbx X1a hT) (n3.ext X1a) (n6.ext X1a)) (fun r8b f9b w3 E0c=>?_) (hw:=wgT rfl e0a)
   refine sV (Az (evb rfl e0a) rfl) ?_
   obtain rfl:=sj f9b
   exact HJ39 _ _ ⟨(.pointer (some ⟨b8,1,none⟩)),(.slice A1 (sz x0.Abs) c2),(.pointer (some ⟨b1b,1,none⟩)),(.slice A4 (sz x1.Abs) c5),(.bool r8b),((UpdS.refl _ _).ext E0c),(by kernel_rfl)⟩
  ·refine sQ rfl e0a ?_
   refine sQ rfl e0a ?_
   refine sQ rfl e0a ?_
   refine sQ rfl e0a ?_
   refine sQ rfl e0a ?_
   refine sV (AE (evb rfl e0a) rfl) ?_
   obtain rfl:=sj f7b
   exact HJ39 _ _ ⟨uu,uu,uu,uu,uu,(UpdS.refl _ _),(by kernel_rfl)⟩
 ·rintro _ w3 ⟨t6a,t7a,t8a,t9a,t0b,U1c,rfl⟩ _ rfl
  have X2c:=Kc X1a U1c (X1a).size al0
  refine sV (Ab rfl) ?_
  refine wh h3b<|wp_ret ?_
  exact Bn f32 X2c rfl
theorem FQ (x0:Al) (x1:Al) (A1:OA) (c2:Nat) (A4:OA) (c5:Nat) (w:World) (hT:TB w) (n3:RU w A1 c2 x0.Man.Abs) (n6:RU w A4 c5 x1.Man.Abs) (r:Bool) (hr:DG x0 x1=some r) :
  Calls prog 37 #[.agg #[.bool x0.Man.Neg,.slice A1 (sz x0.Man.Abs) c2,.int .i64 x0.Exp],.agg #[.bool x1.Man.Neg,.slice A4 (sz x1.Man.Abs) c5,.int .i64 x1.Exp]] w (Ret Gi w r):=by
 unfold DG at hr
 go_enter func37,ntmps37
 refine ws fun h7=>Ah<|sbx rfl rfl fun b8 w1 E9 g1c q5a=>?_
 refine sbx rfl rfl fun b2b w2 E2a g3b q6a=>?_
 have g2c:=nlt E9.size g3b
 have X1a:=xtr E9 E2a
 refine sV (Ab rfl) ?_
 refine nx h7 fun h4b=>sV2 (Af (o':=0) Jg rfl rfl) (dld EO (q5a.ext E2a)) ?_
 refine sV2 (Af (o':=0) Jg rfl rfl) (dld EO q6a) ?_
 refine scr hr (Ac en_86 (by rfl)) (c_sorobanref03_SameInt x0.Man x1.Man A1 c2 A4 c5 w2 (tbx X1a hT) (n3.ext X1a) (n6.ext X1a)) fun r3c f5b w3 E3a=>?_
 have X6b:=xtr X1a E3a
 refine sV (Aa rfl) ?_
 obtain ⟨m7b,h8b,f32⟩:=Ad f5b
 refine BH 12 (fun l l' w'=>∃(t7a:Value) (t8a:Value) (t9a:Value) (t0b:Value) (t1b:Value),w3=w'∧l'=((((((l.set 11 t7a).set 12 t8a).set 13 t9a).set 14 t0b).set 15 t1b).set 16 (.bool m7b))) ?_ ?_
 ·intro HJ39
  rcases zb h8b with ⟨e0a,f9b⟩ | ⟨e0a,f0c⟩
  ·refine sV (Af (o':=2) Ib rfl rfl) ?_ (hw:=wgT rfl e0a)
   refine sV (Ag GR rfl (Bx.cell ((q5a.ext E2a).ext E3a) rfl)) ?_ (hw:=wgT rfl e0a)
   refine sV (Af (o':=2) Ib rfl rfl) ?_ (hw:=wgT rfl e0a)
   refine sV (Ag GR rfl (Bx.cell (q6a.ext E3a) rfl)) ?_ (hw:=wgT rfl e0a)
   refine sbl (Cy rfl rfl) (fun z4a hz4a=>?_) (hw:=wgT rfl e0a)
   refine sV (Az (evb rfl e0a) rfl) ?_
   obtain rfl:z4a=decide (x0.Exp=x1.Exp):=bz hz4a
   obtain rfl:=sj f9b
   exact HJ39 _ _ ⟨(.pointer (some ⟨b8,2,none⟩)),(.int .i64 x0.Exp),(.pointer (some ⟨b2b,2,none⟩)),(.int .i64 x1.Exp),(.bool (decide (x0.Exp=x1.Exp))),rfl,(by kernel_rfl)⟩
  ·refine sQ rfl e0a ?_
   refine sQ rfl e0a ?_
   refine sQ rfl e0a ?_
   refine sQ rfl e0a ?_
   refine sQ rfl e0a ?_
   refine sV (AE (evb rfl e0a) rfl) ?_
   obtain rfl:=sj f0c
   exact HJ39 _ _ ⟨uu,uu,uu,uu,uu,rfl,(by kernel_rfl)⟩
 ·rintro _ _ ⟨t7a,t8a,t9a,t0b,t1b,rfl,rfl⟩ _ rfl
  refine sV (Ab rfl) ?_
  refine wh h4b<|wp_ret ?_
  exact Bn f32 X6b rfl
theorem Hd (x0:Ao) (x1:Ao) (A1:OA) (c2:Nat) (A4:OA) (c5:Nat) (A7:OA) (c8:Nat) (A2a:OA) (c3a:Nat) (w:World) (hT:TB w) (n3:RU w A1 c2 x0.Lo.Man.Abs) (n6:RU w A4 c5 x0.Hi.Man.Abs) (n9:RU w A7 c8 x1.Lo.Man.Abs) (n5b:RU w A2a c3a x1.Hi.Man.Abs) (r:Bool) (hr:El x0 x1=some r) :
  Calls prog 76 #[.agg #[.bool x0.Lo.Man.Neg,.slice A1 (sz x0.Lo.Man.Abs) c2,.int .i64 x0.Lo.Exp,.bool x0.Hi.Man.Neg,.slice A4 (sz x0.Hi.Man.Abs) c5,.int .i64 x0.Hi.Exp],.agg #[.bool x1.Lo.Man.Neg,.slice A7 (sz x1.Lo.Man.Abs) c8,.int .i64 x1.Lo.Exp,.bool x1.Hi.Man.Neg,.slice A2a (sz x1.Hi.Man.Abs) c3a,.int .i64 x1.Hi.Exp]] w (Ret Gi w r):=by
 unfold El at hr
 go_enter func76,ntmps76
 refine ws fun h6b=>Ah<|sbx rfl rfl fun b7b w1 E7a g2d q8a=>?_
 refine sbx rfl rfl fun b8b w2 E5a g9b q9a=>?_
 have g3d:=nlt E7a.size g9b
 have X4a:=xtr E7a E5a
 refine sV (Ab rfl) ?_
 refine nx h6b fun h0c=>sV2 (Af (o':=0) Lp rfl rfl) (dld DU (q8a.ext E5a)) ?_
 refine sV2 (Af (o':=0) Lp rfl rfl) (dld DU q9a) ?_
 refine scr hr (Ac PI (by rfl)) (FQ x0.Lo x1.Lo A1 c2 A7 c8 w2 (tbx X4a hT) (n3.ext X4a) (n9.ext X4a)) fun r4d f1c w3 E6a=>?_
 have X1a:=xtr X4a E6a
 refine sV (Aa rfl) ?_
 obtain ⟨m2c,h3c,f4c⟩:=Ad f1c
 refine BH 12 (fun l l' w'=>∃(t0b:Value) (t1b:Value) (t2b:Value) (t3b:Value) (t4b:Value),UpdS [] w3 w'∧l'=((((((l.set 11 t0b).set 12 t1b).set 13 t2b).set 14 t3b).set 15 t4b).set 16 (.bool m2c))) ?_ ?_
 ·intro HJ49
  rcases zb h3c with ⟨e0a,f5c⟩ | ⟨e0a,f6c⟩
  ·refine sV (Af (o':=3) Lj rfl rfl) ?_ (hw:=wgT rfl e0a)
   refine sV (dld DU ((q8a.ext E5a).ext E6a)) ?_ (hw:=wgT rfl e0a)
   refine sV (Af (o':=3) Lj rfl rfl) ?_ (hw:=wgT rfl e0a)
   refine sV (dld DU (q9a.ext E6a)) ?_ (hw:=wgT rfl e0a)
   refine scr f5c (Ac PI (by rfl)) (FQ x0.Hi x1.Hi A4 c5 A2a c3a w3 (tbx X1a hT) (n6.ext X1a) (n5b.ext X1a)) (fun r7c f8c w4 E9c=>?_) (hw:=wgT rfl e0a)
   refine sV (Az (evb rfl e0a) rfl) ?_
   obtain rfl:=sj f8c
   exact HJ49 _ _ ⟨(.pointer (some ⟨b7b,3,none⟩)),(.agg #[.bool x0.Hi.Man.Neg,.slice A4 (sz x0.Hi.Man.Abs) c5,.int .i64 x0.Hi.Exp]),(.pointer (some ⟨b8b,3,none⟩)),(.agg #[.bool x1.Hi.Man.Neg,.slice A2a (sz x1.Hi.Man.Abs) c3a,.int .i64 x1.Hi.Exp]),(.bool r7c),((UpdS.refl _ _).ext E9c),(by kernel_rfl)⟩
  ·refine sQ rfl e0a ?_
   refine sQ rfl e0a ?_
   refine sQ rfl e0a ?_
   refine sQ rfl e0a ?_
   refine sQ rfl e0a ?_
   refine sV (AE (evb rfl e0a) rfl) ?_
   obtain rfl:=sj f6c
   exact HJ49 _ _ ⟨uu,uu,uu,uu,uu,(UpdS.refl _ _),(by kernel_rfl)⟩
 ·rintro _ w4 ⟨t0b,t1b,t2b,t3b,t4b,U0d,rfl⟩ _ rfl
  have X1d:=Kc X1a U0d (X1a).size al0
  refine sV (Ab rfl) ?_
  refine wh h0c<|wp_ret ?_
  exact Bn f4c X1d rfl
theorem Ay (x0:Aj) (x1:Aj) (x2:Int) (x3:Int) (A1:OA) (c2:Nat) (A4:OA) (c5:Nat) (w:World) (hT:TB w) (n3:RU w A1 c2 x0.m.Abs) (n6:RU w A4 c5 x1.m.Abs) (r:Aj) (hr:AM x0 x1 x2 x3=some r) :
  Calls prog 105 #[.agg #[.bool x0.m.Neg,.slice A1 (sz x0.m.Abs) c2,.int .i64 x0.e],.agg #[.bool x1.m.Neg,.slice A4 (sz x1.m.Abs) c5,.int .i64 x1.e],.int .i64 x2,.int .i64 x3] w (Ret Jd w r):=by
 unfold AM at hr
 go_enter func105,ntmps105
 refine ws fun h7=>Ah<|sbx rfl rfl fun b8 w1 E9 g3c q4c=>?_
 refine sbx rfl rfl fun b2e w2 E5c g3e q4e=>?_
 have g8h:=nlt E9.size g3e
 have X6c:=xtr E9 E5c
 refine sal Bg fun b9h w3 E3b g5e q7c=>?_
 have g8c:=nlt X6c.size g5e
 have X4b:=xtr X6c E3b
 have q9c:=(q4c.ext E5c).ext E3b
 refine wh h7<|ws fun h6e=>ws fun h7e=>Ah<|sV (Ak Aw rfl q9c rfl) ?_
 refine scr hr (Ac Kq (by rfl)) (CP x0 A1 c2 w3 (tbx X4b hT) (n3.ext X4b)) fun r0i f8e w4 E4a=>?_
 have X0d:=xtr X4b E4a
 refine sbl (Cy rfl rfl) fun z1d hz1d=>?_
 refine wh h7e ?_
 rcases zi hz1d f8e with ⟨e5b,_,f9e⟩ | ⟨e5b,_,f0f⟩
 ·refine ct e5b<|ws fun h1f=>Ah<|sV (AL (vals:=[]) (cells:=[.bool false,.slice none 0 0,.int .i64 0]) (by rfl) (by kernel_rfl)) ?_
  refine ss BC (q7c.ext E4a) fun w5 U2f q3f=>?_
  have X4f:=belU X0d U2f g8c
  refine wh h1f<|wp_ret ?_
  exact He f9e Aw q3f X4f ⟨none,0,rfl,(RU.nil _)⟩
 ·refine cf e5b<|wp_skip<|h6e _ _<|ws fun h5f=>DT [] 14 mo rfl fun w5 E1b S6b=>have X7b:=xtr X0d E1b;dA 0 rfl (fun _=>Aa rfl) ?_
  refine dA2 1 2 rfl rfl (fun _=>AV (c:=wi64 (x2+2)) rfl rfl rfl) (fun _=>Af (o':=0) BJ rfl rfl) ?_
  refine dA 3 rfl (fun _=>Af (o':=1) Bm rfl rfl) ?_
  have q2d:=((q4e.ext E3b).ext E4a).ext E1b
  refine dV 4 rfl (fun _ hw=>Ag CZ rfl (Bx.cell (q2d.ext hw) rfl)) S6b ?_
  refine dA2 7 8 rfl rfl (fun _=>Af (o':=0) BJ rfl rfl) (fun _=>Af (o':=1) Bm rfl rfl) ?_
  have q3d:=(q9c.ext E4a).ext E1b
  refine dV 9 rfl (fun _ hw=>Ag CZ rfl (Bx.cell (q3d.ext hw) rfl)) S6b ?_
  refine dcr f0f 5 rfl (by rfl) (Ac MK (by rfl)) (DY x1.m.Abs A4 c5 w5 (tbx X7b hT) (n6.ext X7b)) fun r1a f6f w6 E5a=>?_
  have X8b:=xtr X7b E5a
  have S7f:=S6b.trans E5a
  refine dA 6 rfl (fun _=>AV (c:=wi64 ((wi64 (x2+2))+r1a)) rfl rfl rfl) ?_
  refine dcr f6f 10 rfl (by rfl) (Ac MK (by rfl)) (DY x0.m.Abs A1 c2 w6 (tbx X8b hT) (n3.ext X8b)) fun r3a f8f w7 E6a=>?_
  have X9f:=xtr X8b E6a
  have S1i:=S7f.trans E6a
  refine dA2 11 12 rfl rfl (fun _=>Bt (c:=wi64 ((wi64 ((wi64 (x2+2))+r1a)) - r3a)) rfl rfl rfl) (fun _=>OC rfl rfl) ?_
  refine dA 13 rfl (fun _=>Ab rfl) ?_
  refine Cx (by kernel_rfl) ?_
  refine h5f _ _<|ws fun h0g=>DT [] 14 mo rfl fun w8 E2b S9b=>have X0c:=xtr X9f E2b;dA 0 rfl (fun _=>Af (o':=0) BJ rfl rfl) ?_
  refine dA 1 rfl (fun _=>Af (o':=1) Bm rfl rfl) ?_
  have q4d:=((q3d.ext E5a).ext E6a).ext E2b
  refine dV 2 rfl (fun _ hw=>Ag CZ rfl (Bx.cell (q4d.ext hw) rfl)) S9b ?_
  refine dA2 3 5 rfl rfl (fun _=>Aa rfl) (fun _=>Af (o':=0) BJ rfl rfl) ?_
  refine dA 6 rfl (fun _=>Af (o':=1) Bm rfl rfl) ?_
  have q5d:=((q2d.ext E5a).ext E6a).ext E2b
  refine dV 7 rfl (fun _ hw=>Ag CZ rfl (Bx.cell (q5d.ext hw) rfl)) S9b ?_
  refine dcn f8f 4 rfl (by rfl) (Ac Ko (by rfl)) (CL x0.m.Abs (max 0 (wi64 ((wi64 ((wi64 (x2+2))+r1a)) - r3a))) A1 c2 w8 (tbx X0c hT) (n3.ext X0c)) fun r1g f2g w9 A3g c4g E7a n5g=>?_
  have X1c:=xtr X0c E7a
  have S6g:=S9b.trans E7a
  obtain ⟨r0a,h7g,f8g⟩:=Ad f2g
  refine dc 8 rfl (by kernel_rfl) (by rfl) (Ac RM (by rfl)) (Jb r1g x1.m.Abs A3g c4g A4 c5 w9 (tbx X1c hT) n5g (n6.ext X1c) r0a h7g) ?_
  rintro _ w3c E8a ⟨A9a,c0b,A2i,c3i,rfl,n9g,n4i⟩
  refine dnrm ?_
  have X6d:=xtr X1c E8a
  have S5i:=S6g.trans E8a
  refine dA2 9 10 rfl rfl (fun _=>Aa rfl) (fun _=>Ai rfl rfl) ?_
  refine dA2 11 12 rfl rfl (fun _=>Ai rfl rfl) (fun _=>Ab rfl) ?_
  refine dA 13 rfl (fun _=>Ab rfl) ?_
  refine Cx (by kernel_rfl) ?_
  refine h0g _ _<|ws fun h0h=>Ah<|sV2 (Af (o':=0) BJ rfl rfl) (Af (o':=0) Eg rfl rfl) ?_
  have q7d:=(q4d.ext E7a).ext E8a
  refine sV3 (Ag Gy rfl (Bx.cell q7d rfl)) (Af (o':=0) BJ rfl rfl) (Af (o':=0) Eg rfl rfl) ?_
  have q8d:=(q5d.ext E7a).ext E8a
  refine sV (Ag Gy rfl (Bx.cell q8d rfl)) ?_
  refine sbl (PV Qw rfl rfl) fun z2a hz2a=>?_
  refine sV2 (Aa rfl) (AL (vals:=[(0,.bool z2a),(1,.slice A9a (sz r0a.1) c0b)]) (cells:=[.bool z2a,.slice A9a (sz r0a.1) c0b]) (by rfl) (by kernel_rfl)) ?_
  refine sV3 (Af (o':=2) CK rfl rfl) (Ag GR rfl (Bx.cell q7d rfl)) (Af (o':=2) CK rfl rfl) ?_
  refine sV3 (Ag GR rfl (Bx.cell q8d rfl)) (Bt (c:=wi64 (x0.e - x1.e)) rfl rfl rfl) (Aa rfl) ?_
  refine sV2 (Bt (c:=wi64 ((wi64 (x0.e - x1.e)) - (max 0 (wi64 ((wi64 ((wi64 (x2+2))+r1a)) - r3a))))) rfl rfl rfl) (AL (vals:=[(0,.agg #[.bool z2a,.slice A9a (sz r0a.1) c0b]),(1,.int .i64 (wi64 ((wi64 (x0.e - x1.e)) - (max 0 (wi64 ((wi64 ((wi64 (x2+2))+r1a)) - r3a))))))]) (cells:=[.bool z2a,.slice A9a (sz r0a.1) c0b,.int .i64 (wi64 ((wi64 (x0.e - x1.e)) - (max 0 (wi64 ((wi64 ((wi64 (x2+2))+r1a)) - r3a)))))]) (by rfl) (by kernel_rfl)) ?_
  refine sV3 (Aa rfl) (Aa rfl) (Aa rfl) ?_
  refine sV (AD Au rfl) ?_
  refine sbl (Eh rfl rfl) fun z2c hz2c=>?_
  obtain rfl:z2a=decide (¬x0.m.Neg=x1.m.Neg):=bz hz2a
  obtain rfl:z2c=decide (0<(sz r0a.2:Int)):=bz hz2c
  refine scn f8g (Ac LA (by rfl)) (DC (⟨(⟨(decide (¬x0.m.Neg=x1.m.Neg)),r0a.1⟩:Ae),(wi64 ((wi64 (x0.e - x1.e)) - (max 0 (wi64 ((wi64 ((wi64 (x2+2))+r1a)) - r3a)))))⟩:Aj) x2 x3 (decide (0<(sz r0a.2:Int))) A9a c0b w3c (tbx X6d hT) n9g) fun r6i f1h w4c A2h c3h E9d n4h=>?_
  have X5h:=xtr X6d E9d
  have q0e:=(((((((q7c.ext E4a).ext E1b).ext E5a).ext E6a).ext E2b).ext E7a).ext E8a).ext E9d
  refine ss BC q0e fun w2e U1e q6h=>?_
  have X7h:=belU X5h U1e g8c
  refine wh h0h<|wp_ret ?_
  exact He f1h Aw q6h X7h ⟨A2h,c3h,rfl,(n4h.upd U1e q0e (by decide))⟩
def Ku (wk w:World) (b:Nat):Option An→Prop
 | none=>Bx w b 124 [.pointer none]
 | some r=>∃(bs:Nat) (A1:OA) (c1:Nat) (A2:OA) (c2:Nat),wk.heap.size≤bs∧Bx w b 124 [.pointer (some ⟨bs,0,none⟩)]∧Bx w bs 121 [.bool r.lo.m.Neg,.slice A1 (sz r.lo.m.Abs) c1,.int .i64 r.lo.e,.bool r.hi.m.Neg,.slice A2 (sz r.hi.m.Abs) c2,.int .i64 r.hi.e]∧RU w A1 c1 r.lo.m.Abs∧RU w A2 c2 r.hi.m.Abs
theorem sq_dyad_Over_1 {n0:Nat} {wk w w':World} {b:Nat} : ∀ {o:Option An},Ku wk w b o→Quiet n0 w w'→Ku wk w' b o
 | none,h,q=>Bx.quiet h q
 | some _,⟨bs,A1,c1,A2,c2,g,q1,q2,n1,n2⟩,q=>⟨bs,A1,c1,A2,c2,g,q1.quiet q,q2.quiet q,n1.quiet q,n2.quiet q⟩
theorem c_dyad_Over_1 (x0:An) (x1:An) (x2:Int) (A1:OA) (c2:Nat) (A4:OA) (c5:Nat) (A7:OA) (c8:Nat) (A3b:OA) (c4c:Nat) (w:World) (hT:TB w) (n3:RU w A1 c2 x0.lo.m.Abs) (n6:RU w A4 c5 x0.hi.m.Abs) (n9:RU w A7 c8 x1.lo.m.Abs) (n0u:RU w A3b c4c x1.hi.m.Abs) (r:Except Int (Ao)) (hr:Fj x0 x1 x2=some r) :
  Calls prog 101 #[.agg #[.bool x0.lo.m.Neg,.slice A1 (sz x0.lo.m.Abs) c2,.int .i64 x0.lo.e,.bool x0.hi.m.Neg,.slice A4 (sz x0.hi.m.Abs) c5,.int .i64 x0.hi.e],.agg #[.bool x1.lo.m.Neg,.slice A7 (sz x1.lo.m.Abs) c8,.int .i64 x1.lo.e,.bool x1.hi.m.Neg,.slice A3b (sz x1.hi.m.Abs) c4c,.int .i64 x1.hi.e],.int .i64 x2] w (RetE 201 Ld w r):=by
 unfold Fj at hr
 refine QI func101 rfl 63 ?_
 refine ws fun h9ag=>Ah<|sbx rfl rfl fun b4m w1 E5a1 g7bc q0ah=>?_
 refine sbx rfl rfl fun b4g w2 E6a1 g1ah q2ah=>?_
 have g8bc:=nlt E5a1.size g1ah
 have X7a1:=xtr E5a1 E6a1
 refine sbx rfl rfl fun b5m w3 E1u g3ah q4ah=>?_
 have g9bc:=nlt X7a1.size g3ah
 have X8a1:=xtr X7a1 E1u
 refine sal Gp fun b6m w4 E9o g5ah q6ah=>?_
 have g7ah:=nlt X8a1.size g5ah
 have X8ah:=xtr X8a1 E9o
 refine wh h9ag<|ws fun h9ah=>DT [] 9 mo rfl fun w5 E7m S2u=>?_
 have X3u:=xtr X8ah E7m
 refine dA 0 rfl (fun _=>Af (o':=0) CM rfl rfl) ?_ (hQ:=fun _ _ _ h=>dqM (rs:=[.cell 6 29]) rfl (by decide) h)
 have q4u:=((q2ah.ext E1u).ext E9o).ext E7m
 refine dV 1 rfl (fun _ hw=>dld Aw (q4u.ext hw)) S2u ?_ (hQ:=fun _ _ _ h=>dqM (rs:=[.cell 6 29]) rfl (by decide) h)
 refine dA 3 rfl (fun _=>Af (o':=3) Da rfl rfl) ?_ (hQ:=fun _ _ _ h=>dqM (rs:=[.cell 6 29]) rfl (by decide) h)
 refine dV 4 rfl (fun _ hw=>dld Aw (q4u.ext hw)) S2u ?_ (hQ:=fun _ _ _ h=>dqM (rs:=[.cell 6 29]) rfl (by decide) h)
 refine dcr hr 2 rfl (by rfl) (Ac Kq (by rfl)) (CP x1.lo A7 c8 w5 (tbx X3u hT) (n9.ext X3u)) fun r9f f0ai w6 E6i=>?_
 have X5u:=xtr X3u E6i
 have S1ai:=S2u.trans E6i
 refine dcr f0ai 5 rfl (by rfl) (Ac Kq (by rfl)) (CP x1.hi A3b c4c w6 (tbx X5u hT) (n0u.ext X5u)) fun r0g f2ai w7 E7i=>?_
 have X0p:=xtr X5u E7i
 have S3ai:=S1ai.trans E7i
 refine dA 6 rfl (fun _=>KS (c:=wi64 (r9f*r0g)) rfl rfl rfl) ?_ (hQ:=fun _ _ _ h=>dqM (rs:=[.cell 6 29]) rfl (by decide) h)
 refine dab 7 rfl (by kernel_rfl) (fun _ _ _ h=>dqM (rs:=[.cell 6 29]) rfl (by decide) h) (by rfl) (fun _=>Eh rfl rfl) fun z6u hz6u=>?_
 refine dnrm ?_
 obtain rfl:z6u=decide (0<(wi64 (r9f*r0g))):=bz hz6u
 rcases AC f2ai with ⟨r7u,h8u,f4ai⟩ | ⟨r7u,h8u,rfl⟩
 ·refine dcO 8 rfl (by kernel_rfl) (by rfl) (Ac FS (by rfl)) (Bs (decide (0<(wi64 (r9f*r0g)))) 8 w7 (tbx X0p hT)  (.ok r7u) h8u) ?_
  rintro _ w8 E7g rfl
  refine dnrm ?_
  have X9a1:=xtr X0p E7g
  have S0bd:=S3ai.trans E7g
  refine Cx (by kernel_rfl) ?_
  refine h9ah _ _<|ws fun h5ai=>Ah<|sal RI fun b1p w9 E8m g6ai q7ai=>?_
  have g8ai:=nlt X9a1.size g6ai
  have X9u:=xtr X9a1 E8m
  refine wh h5ai<|ws fun h9ai=>ws fun h0aj=>Ah<|have q0v:=(((((((q0ah.ext E6a1).ext E1u).ext E9o).ext E7m).ext E6i).ext E7i).ext E7g).ext E8m;sV (Ak Ln rfl q0v rfl) ?_
  have q1v:=(((q4u.ext E6i).ext E7i).ext E7g).ext E8m
  refine sV (Ak Ln rfl q1v rfl) ?_
  refine scc (by rfl) (Ac RN rfl) (Ma (.bool x0.lo.m.Neg:Value) (.slice A1 (sz x0.lo.m.Abs) c2:Value) (.int .i64 x0.lo.e:Value) (.bool x0.hi.m.Neg:Value) (.slice A4 (sz x0.hi.m.Abs) c5:Value) (.int .i64 x0.hi.e:Value) (.bool x1.lo.m.Neg:Value) (.slice A7 (sz x1.lo.m.Abs) c8:Value) (.int .i64 x1.lo.e:Value) (.bool x1.hi.m.Neg:Value) (.slice A3b (sz x1.hi.m.Abs) c4c:Value) (.int .i64 x1.hi.e:Value) w9) fun b8i b9i w3b E8g g1aj g2aj ne1bd q0a2 q1a2=>nrm ?_
  have g2bd:=nlt X9u.size g1aj
  have g3bd:=nlt X9u.size g2aj
  have X2v:=xtr X9u E8g
  refine wh h0aj ?_
  apply wp_block
  obtain ⟨s2a2,h3a2,f3aj⟩:=Ad f4ai
  obtain ⟨s3v,h4aj,f5aj⟩:=Ad f3aj
  obtain ⟨s4v,h6aj,f7aj⟩:=Ad f5aj
  obtain ⟨s2p,h8aj,f9aj⟩:=Ad f7aj
  obtain ⟨o5v,hO⟩:∃o:Nat→Option An,o=(fun i:Nat=>match i with | 0=>none | 1=>some s2a2 | 2=>some s3v | 3=>some s4v | _=>some s2p):=⟨_,rfl⟩
  have hall0ak:∀i,1≤i→i<4→∃(sr:An) (x y:Aj) (AX:OA) (cX:Nat) (AY:OA) (cY:Nat) (s':An),(encs (.bool x0.lo.m.Neg:Value) (.slice A1 (sz x0.lo.m.Abs) c2:Value) (.int .i64 x0.lo.e:Value) (.bool x0.hi.m.Neg:Value) (.slice A4 (sz x0.hi.m.Abs) c5:Value) (.int .i64 x0.hi.e:Value) (.bool x1.lo.m.Neg:Value) (.slice A7 (sz x1.lo.m.Abs) c8:Value) (.int .i64 x1.lo.e:Value) (.bool x1.hi.m.Neg:Value) (.slice A3b (sz x1.hi.m.Abs) c4c:Value) (.int .i64 x1.hi.e:Value)) i = #[.agg #[.bool x.m.Neg,.slice AX (sz x.m.Abs) cX,.int .i64 x.e],.agg #[.bool y.m.Neg,.slice AY (sz y.m.Abs) cY,.int .i64 y.e]]∧RU w AX cX x.m.Abs∧RU w AY cY y.m.Abs∧o5v i=some sr∧o5v (i+1)=some s'∧EH x0 x1 x2 sr x y=some s':=by
   subst hO
   rintro (_ | _ | _ | _ | i) h h'
   ·omega
   ·exact ⟨s2a2,x0.lo,x1.hi,_,_,_,_,s3v,rfl,n3,n0u,rfl,rfl,h4aj⟩
   ·exact ⟨s3v,x0.hi,x1.lo,_,_,_,_,s4v,rfl,n6,n9,rfl,rfl,h6aj⟩
   ·exact ⟨s4v,x0.hi,x1.hi,_,_,_,_,s2p,rfl,n6,n0u,rfl,rfl,h8aj⟩
   ·omega
  refine rf (N:=4) (n0:=w.heap.size) (encs:=(encs (.bool x0.lo.m.Neg:Value) (.slice A1 (sz x0.lo.m.Abs) c2:Value) (.int .i64 x0.lo.e:Value) (.bool x0.hi.m.Neg:Value) (.slice A4 (sz x0.hi.m.Abs) c5:Value) (.int .i64 x0.hi.e:Value) (.bool x1.lo.m.Neg:Value) (.slice A7 (sz x1.lo.m.Abs) c8:Value) (.int .i64 x1.lo.e:Value) (.bool x1.hi.m.Neg:Value) (.slice A3b (sz x1.hi.m.Abs) c4c:Value) (.int .i64 x1.hi.e:Value))) (I:=fun i w'=>Ext w w'∧w3b.heap.size≤w'.heap.size∧Bx w' b4m 121 [.bool x0.lo.m.Neg,.slice A1 (sz x0.lo.m.Abs) c2,.int .i64 x0.lo.e,.bool x0.hi.m.Neg,.slice A4 (sz x0.hi.m.Abs) c5,.int .i64 x0.hi.e]∧Bx w' b4g 121 [.bool x1.lo.m.Neg,.slice A7 (sz x1.lo.m.Abs) c8,.int .i64 x1.lo.e,.bool x1.hi.m.Neg,.slice A3b (sz x1.hi.m.Abs) c4c,.int .i64 x1.hi.e]∧Bx w' b5m 3 [.int .i64 x2]∧Bx w' b6m 29 [.bool false,.slice none 0 0,.int .i64 0,.bool false,.slice none 0 0,.int .i64 0]∧Bx w' b8i 121 [.bool x0.lo.m.Neg,.slice A1 (sz x0.lo.m.Abs) c2,.int .i64 x0.lo.e,.bool x0.hi.m.Neg,.slice A4 (sz x0.hi.m.Abs) c5,.int .i64 x0.hi.e]∧Bx w' b9i 121 [.bool x1.lo.m.Neg,.slice A7 (sz x1.lo.m.Abs) c8,.int .i64 x1.lo.e,.bool x1.hi.m.Neg,.slice A3b (sz x1.hi.m.Abs) c4c,.int .i64 x1.hi.e]∧Ku w3b w' b1p (o5v i)) rfl Se X2v.size (Sh (.bool x0.lo.m.Neg:Value) (.slice A1 (sz x0.lo.m.Abs) c2:Value) (.int .i64 x0.lo.e:Value) (.bool x0.hi.m.Neg:Value) (.slice A4 (sz x0.hi.m.Abs) c5:Value) (.int .i64 x0.hi.e:Value) (.bool x1.lo.m.Neg:Value) (.slice A7 (sz x1.lo.m.Abs) c8:Value) (.int .i64 x1.lo.e:Value) (.bool x1.hi.m.Neg:Value) (.slice A3b (sz x1.hi.m.Abs) c4c:Value) (.int .i64 x1.hi.e:Value) b8i b9i _ (by rintro i W ⟨_,_,_,_,_,_,qa,qb,_⟩;exact ⟨qa,qb⟩)) (by rintro (_ | _ | _ | _)<;>rfl) ?_ ?_ ?_ ?_
  ·rintro i W W' ⟨hX,hK,q_b4m,q_b4g,q_b5m,q_b6m,q_b8i,q_b9i,hS⟩ hq
   exact ⟨belQ hX hq hX.size,nlt hK hq.size,q_b4m.quiet hq,q_b4g.quiet hq,q_b5m.quiet hq,q_b6m.quiet hq,q_b8i.quiet hq,q_b9i.quiet hq,sq_dyad_Over_1 hS hq⟩
  ·subst hO
   have q5g:=((((((q4ah.ext E9o).ext E7m).ext E6i).ext E7i).ext E7g).ext E8m).ext E8g
   have q6v:=(((((q6ah.ext E7m).ext E6i).ext E7i).ext E7g).ext E8m).ext E8g
   exact ⟨X2v,Nat.le_refl _,(q0v.ext E8g),(q1v.ext E8g),q5g,q6v,q0a2,q1a2,(q7ai.ext E8g)⟩
  ·intro l i w1g hi hI
   obtain ⟨hX,hK,q7v,q8v,q9v,q1g,q9m,q0n,hS⟩:=hI
   rcases Nat.eq_zero_or_pos i with rfl | hpos
   ·subst hO
    skip
    have q1n:Bx w1g b1p 124 [.pointer none]:=hS
    unfold IZ at h3a2
    refine LS (actPQ rfl (by simp only [S0,S1];rfl)) ?_
    refine wsI fun h0w=>IQ (by rfl) (fun ⟨_,_,h⟩=>h)<|sal Bg fun b1w w9m E3p g2n q3n=>?_
    have g0j:=nlt (nlt hX.size (Rd.refl w.heap.size w1g).size) g2n
    refine ss BC q3n fun w0n U8h q2w=>?_
    have F2g:=belU E3p U8h g2n
    have X1j:=(Rd.refl w.heap.size w1g).ext F2g
    refine wh h0w<|IQ (by rfl) (fun ⟨_,_,h⟩=>h)<|sal Bg fun b1ak w2ak E3ak g4a2 q4ak=>?_
    have g4bd:=nlt (nlt hX.size X1j.size) g4a2
    refine ss BC q4ak fun w5ak U6ak q7ak=>?_
    have F0f:=belU E3ak U6ak g4a2
    have X9h:=X1j.ext F0f
    refine AF ?_
    refine ⟨X9h,?_⟩
    intro w3w hq
    have q5a2:=(q2w.ext F0f).quiet hq
    refine have hE1:=belR hX X9h hX.size;have hE2:=belQ hE1 hq hE1.size;wpIn_block<|wsI fun h8ak=>Om (by rfl) (fun ⟨_,_,h⟩=>h) [10,11] 12 mo rfl fun w5g E6c S0i=>have X9g:=(Rd.refl w.heap.size w3w).ext E6c;dV 0 rfl (fun _ hw=>Ak Aw rfl ((q5a2.ext E6c).ext hw) rfl) S0i ?_
    have q6a2:=(q7ak.quiet hq).ext E6c
    refine dV 1 rfl (fun _ hw=>Ak Aw rfl (q6a2.ext hw) rfl) S0i ?_
    have q4p:=(((q9v.ext F2g).ext F0f).quiet hq).ext E6c
    refine dV 2 rfl (fun _ hw=>Ag GR rfl (Bx.cell (q4p.ext hw) rfl)) S0i ?_
    refine dV 4 rfl (fun _ hw=>Ak Aw rfl ((q5a2.ext E6c).ext hw) rfl) S0i ?_
    refine dV 5 rfl (fun _ hw=>Ak Aw rfl (q6a2.ext hw) rfl) S0i ?_
    refine dV 6 rfl (fun _ hw=>Ag GR rfl (Bx.cell (q4p.ext hw) rfl)) S0i ?_
    have n6b:=((((n3.ext hX).ext F2g).ext F0f).quiet hq).ext E6c
    have n7b:=((((n9.ext hX).ext F2g).ext F0f).quiet hq).ext E6c
    obtain ⟨r3a,h4n,f9ak⟩:=Ad h3a2
    obtain ⟨r0a,h1f,f0al⟩:=Ad f9ak
    refine QY (tb 12 1023) 2 (fun l' w'=>∃(A3e:OA) (c4e:Nat) (A6d:OA) (c7d:Nat) (b5n:Nat) (b6n:Nat),Ext w5g w'∧RU w' A3e c4e r3a.m.Abs∧RU w' A6d c7d r0a.m.Abs∧w5g.heap.size≤b5n∧Bx w' b5n 119 [.bool false,.slice none 0 0,.int .i64 0]∧w5g.heap.size≤b6n∧Bx w' b6n 119 [.bool false,.slice none 0 0,.int .i64 0]∧b5n≠b6n∧l'=[.agg #[.bool x0.lo.m.Neg,.slice A1 (sz x0.lo.m.Abs) c2,.int .i64 x0.lo.e,.bool x0.hi.m.Neg,.slice A4 (sz x0.hi.m.Abs) c5,.int .i64 x0.hi.e],.agg #[.bool x1.lo.m.Neg,.slice A7 (sz x1.lo.m.Abs) c8,.int .i64 x1.lo.e,.bool x1.hi.m.Neg,.slice A3b (sz x1.hi.m.Abs) c4c,.int .i64 x1.hi.e],.int .i64 x2,.pointer (some ⟨b4m,0,none⟩),.pointer (some ⟨b4g,0,none⟩),.pointer (some ⟨b5m,0,none⟩),.pointer (some ⟨b6m,0,none⟩),.pointer (some ⟨b1p,0,none⟩),.pointer (some ⟨b1w,0,none⟩),.pointer (some ⟨b1ak,0,none⟩),.pointer (some ⟨b5n,0,none⟩),.pointer (some ⟨b6n,0,none⟩),.pointer (some ⟨b4g,0,none⟩),.agg #[.bool x1.lo.m.Neg,.slice A7 (sz x1.lo.m.Abs) c8,.int .i64 x1.lo.e],.int .i64 r9f,.pointer (some ⟨b4g,3,none⟩),.agg #[.bool x1.hi.m.Neg,.slice A3b (sz x1.hi.m.Abs) c4c,.int .i64 x1.hi.e],.int .i64 r0g,.int .i64 (wi64 (r9f*r0g)),.bool (decide (0<(wi64 (r9f*r0g)))),.tuple #[],.agg #[.bool x0.lo.m.Neg,.slice A1 (sz x0.lo.m.Abs) c2,.int .i64 x0.lo.e,.bool x0.hi.m.Neg,.slice A4 (sz x0.hi.m.Abs) c5,.int .i64 x0.hi.e],.agg #[.bool x1.lo.m.Neg,.slice A7 (sz x1.lo.m.Abs) c8,.int .i64 x1.lo.e,.bool x1.hi.m.Neg,.slice A3b (sz x1.hi.m.Abs) c4c,.int .i64 x1.hi.e],.func (.func 183) #[] #[.pointer (some ⟨b8i,0,none⟩),.pointer (some ⟨b9i,0,none⟩)],.agg #[.bool x0.lo.m.Neg,.slice A1 (sz x0.lo.m.Abs) c2,.int .i64 x0.lo.e],.agg #[.bool x1.lo.m.Neg,.slice A7 (sz x1.lo.m.Abs) c8,.int .i64 x1.lo.e],.agg #[.bool x0.lo.m.Neg,.slice A1 (sz x0.lo.m.Abs) c2,.int .i64 x0.lo.e],.agg #[.bool x1.lo.m.Neg,.slice A7 (sz x1.lo.m.Abs) c8,.int .i64 x1.lo.e],.int .i64 x2,.agg #[.bool r3a.m.Neg,.slice A3e (sz r3a.m.Abs) c4e,.int .i64 r3a.e],.agg #[.bool x0.lo.m.Neg,.slice A1 (sz x0.lo.m.Abs) c2,.int .i64 x0.lo.e],.agg #[.bool x1.lo.m.Neg,.slice A7 (sz x1.lo.m.Abs) c8,.int .i64 x1.lo.e],.int .i64 x2,.agg #[.bool r0a.m.Neg,.slice A6d (sz r0a.m.Abs) c7d,.int .i64 r0a.e],uu,uu,uu,uu,uu,uu,uu,uu,uu,uu,uu,uu,uu,uu,uu,uu,uu,uu,uu,uu,uu,uu,uu,uu,uu,uu,uu,uu,uu,uu,uu,uu]) ?_ ?_
    ·rintro _ w6v ⟨A3e,c4e,A6d,c7d,b5n,b6n,E2f,n1al,n2al,g3al,q3f,g4al,q5al,ne4w,rfl⟩
     have g6al:=nlt (nlt (nlt (nlt hX.size X9h.size) hq.size) X9g.size) g3al
     have g7al:=nlt (nlt (nlt (nlt hX.size X9h.size) hq.size) X9g.size) g4al
     have X8al:=X9g.ext E2f
     have S5bd:=S0i.trans E2f
     refine dkk 10 BC q3f fun w0w U4b q7a2=>?_
     have X9al:=X8al.upd U4b g6al q3f
     have q4f:=q5al.upd U4b (Ne.symm ne4w)
     refine dkk 11 BC q4f fun w1w U8d q8a2=>?_
     have X9a2:=X9al.upd U8d g7al q4f
     refine Cx (by kernel_rfl) ?_
     have q5w:=((((q1n.ext F2g).ext F0f).quiet hq).ext E6c).ext E2f
     refine h8ak _ _<|wsI fun h0am=>wsI fun h1am=>IQ (by rfl) (fun ⟨_,_,h⟩=>h)<|have ne6w:=(Bx.neT q5w q3f (by decide));have ne0a3:=(Bx.neT (q5w.upd U4b ne6w) q4f (by decide));have q1a3:=(q5w.upd U4b ne6w).upd U8d ne0a3;sV2 (Ag Gx rfl (Bx.cell q1a3 rfl)) (Rw Po rfl) ?_
     refine wh h1am<|cti rfl<|IQ (by rfl) (fun ⟨_,_,h⟩=>h)<|sV3 (Ak Aw rfl (q7a2.upd U8d ne4w) rfl) (Ak Aw rfl q8a2 rfl) (AL (vals:=[(0,.agg #[.bool r3a.m.Neg,.slice A3e (sz r3a.m.Abs) c4e,.int .i64 r3a.e]),(1,.agg #[.bool r0a.m.Neg,.slice A6d (sz r0a.m.Abs) c7d,.int .i64 r0a.e])]) (cells:=[.bool r3a.m.Neg,.slice A3e (sz r3a.m.Abs) c4e,.int .i64 r3a.e,.bool r0a.m.Neg,.slice A6d (sz r0a.m.Abs) c7d,.int .i64 r0a.e]) (by rfl) (by kernel_rfl)) ?_
     refine sbx rfl rfl fun b5f w3p E8b g2j q2a3=>?_
     have g3a3:=nlt (nlt (nlt (nlt hX.size X9h.size) hq.size) X9a2.size) g2j
     have X2am:=X9a2.ext E8b
     have q6f:=q1a3.ext E8b
     refine ss Ri q6f fun w2n U5e q3am=>?_
     have X4am:=X2am.upd U5e g8ai q6f
     have q4a3:=((q7a2.upd U8d ne4w).ext E8b).upd U5e (Ne.symm ne6w)
     refine wh h0am<|wsI fun h5am=>wsI fun h6am=>Om (by rfl) (fun ⟨_,_,h⟩=>h) [] 7 mo rfl fun w3n E7c S5p=>have X5a3:=X4am.ext E7c;dV 0 rfl (fun _ hw=>Ak Aw rfl ((q4a3.ext E7c).ext hw) rfl) S5p ?_
     have q7w:=q3am.ext E7c
     refine dV 1 rfl (fun _ hw=>Ag Gx rfl (Bx.cell (q7w.ext hw) rfl)) S5p ?_
     refine dA2 2 3 rfl rfl (fun _=>Bz rfl) (fun _=>Af (o':=0) CM rfl rfl) ?_
     have ne8w:=(Bx.neT q2a3 q6f (by decide))
     have q1i:=(q2a3.upd U5e ne8w).ext E7c
     refine dV 4 rfl (fun _ hw=>dld Aw (q1i.ext hw)) S5p ?_
     have n9w:=((((n1al.upd U4b q3f (by decide)).upd U8d q4f (by decide)).ext E8b).upd U5e q6f (by decide)).ext E7c
     refine dcr f0al 5 rfl (by rfl) (Ac Ju (by rfl)) (Cu r3a r3a A3e c4e A3e c4e w3n (tbx (belR hE2 X5a3 hE2.size) hT) n9w n9w) fun r6bd f7am w0j E0b=>?_
     have X8am:=X5a3.ext E0b
     have S7bd:=S5p.trans E0b
     refine dab 6 rfl (by kernel_rfl) (fun _ _ _ h=>h) (by rfl) (fun _=>Bv rfl rfl) fun z6a3 hz6a3=>?_
     refine dnrm ?_
     refine Cx (by kernel_rfl) ?_
     refine h6am _ _ ?_
     obtain ⟨m8bd,h9am,f0an⟩:=Ad f7am
     refine LL (fun l l' w'=>∃(t7a3:Value) (t8a3:Value) (t9a3:Value) (t0a4:Value),UpdS [b5f] w0j w'∧Bx w' b5f 121 [.bool r3a.m.Neg,.slice A3e (sz r3a.m.Abs) c4e,.int .i64 r3a.e,.bool r0a.m.Neg,.slice A6d (sz r0a.m.Abs) c7d,.int .i64 r0a.e]∧l'=((((l.set 47 t7a3).set 48 t8a3).set 49 t9a3).set 50 t0a4)) ?_ ?_
     ·rcases zi hz6a3 h9am with ⟨e0x,_,f1an⟩ | ⟨e0x,_,f2an⟩
      ·refine cti e0x<|IQ (by rfl) (fun ⟨_,_,h⟩=>h)<|sV (Ag Gx rfl (Bx.cell (q7w.ext E0b) rfl)) ?_
       have q3an:=(q4a3.ext E7c).ext E0b
       refine sV3 (Ak Aw rfl q3an rfl) (Bz rfl) (Af (o':=0) CM rfl rfl) ?_
       have q4an:=q1i.ext E0b
       refine ss BC q4an fun w1x U5an q6an=>?_
       refine AF ?_
       obtain rfl:=sj f1an
       exact ⟨_,rfl,(.pointer (some ⟨b5f,0,none⟩)),(.agg #[.bool r3a.m.Neg,.slice A3e (sz r3a.m.Abs) c4e,.int .i64 r3a.e]),(.pointer (some ⟨b5f,0,none⟩)),(.pointer (some ⟨b5f,0,none⟩)),((UpdS.refl _ _).upd U5an (.inl im0)),q6an,(by kernel_rfl)⟩
      ·refine cfi e0x<|wpIn_skip ?_
       have q7an:=q1i.ext E0b
       obtain rfl:=sj f2an
       exact ⟨_,rfl,uu,uu,uu,uu,(UpdS.refl _ _),q7an,(by kernel_rfl)⟩
     ·rintro l' w1x ⟨t7a3,t8a3,t9a3,t0a4,U6e,q8an,rfl⟩ l'' hl
      simp only [S0,S1] at hl;subst hl
      have X9an:=X8am.updS U6e (alc ⟨g3a3,_,_,q1i.ext E0b⟩ al0)
      have q2x:=(((q8a2.ext E8b).upd U5e (Ne.symm ne0a3)).ext E7c).ext E0b
      have q3x:=q1i.ext E0b
      refine h5am _ _<|wsI fun h0ao=>Om (by rfl) (fun ⟨_,_,h⟩=>h) [] 7 mo rfl fun w8h E9d S6p=>have X1a4:=X9an.ext E9d;have ne2a4:=(Bx.neT q2x q3x (by decide));dV 0 rfl (fun _ hw=>Ak Aw rfl (((q2x.updS U6e (nmc ne2a4 nm0)).ext E9d).ext hw) rfl) S6p ?_
      have q4x:=((q7w.ext E0b).updS U6e (nmc (Ne.symm ne8w) nm0)).ext E9d
      refine dV 1 rfl (fun _ hw=>Ag Gx rfl (Bx.cell (q4x.ext hw) rfl)) S6p ?_
      refine dA2 2 3 rfl rfl (fun _=>Bz rfl) (fun _=>Af (o':=3) Da rfl rfl) ?_
      have q3j:=q8an.ext E9d
      refine dV 4 rfl (fun _ hw=>dld Aw (q3j.ext hw)) S6p ?_
      have n5x:RU w8h A6d c7d r0a.m.Abs:=(((((((n2al.upd U4b q3f (by decide)).upd U8d q4f (by decide)).ext E8b).upd U5e q6f (by decide)).ext E7c).ext E0b).updS U6e (alc ⟨_,_,by decide,q1i.ext E0b⟩ al0)).ext E9d
      refine dcr f0an 5 rfl (by rfl) (Ac Ju (by rfl)) (Cu r0a r0a A6d c7d A6d c7d w8h (tbx (belR hE2 X1a4 hE2.size) hT) n5x n5x) fun r9bd f1ao w2w E5b=>?_
      have X2ao:=X1a4.ext E5b
      have S0be:=S6p.trans E5b
      refine dab 6 rfl (by kernel_rfl) (fun _ _ _ h=>h) (by rfl) (fun _=>Eh rfl rfl) fun z3a4 hz3a4=>?_
      refine dnrm ?_
      refine Cx (by kernel_rfl) ?_
      refine h0ao _ _ ?_
      obtain ⟨m1be,h3ao,f4ao⟩:=Ad f1ao
      refine LL (fun l l' w'=>∃(t4a4:Value) (t5a4:Value) (t6a4:Value) (t7a4:Value),UpdS [b5f] w2w w'∧Bx w' b5f 121 [.bool r3a.m.Neg,.slice A3e (sz r3a.m.Abs) c4e,.int .i64 r3a.e,.bool r0a.m.Neg,.slice A6d (sz r0a.m.Abs) c7d,.int .i64 r0a.e]∧l'=((((l.set 58 t4a4).set 59 t5a4).set 60 t6a4).set 61 t7a4)) ?_ ?_
      ·rcases zi hz3a4 h3ao with ⟨e6x,_,f5ao⟩ | ⟨e6x,_,f6ao⟩
       ·refine cti e6x<|IQ (by rfl) (fun ⟨_,_,h⟩=>h)<|have q7ao:=q4x.ext E5b;sV (Ag Gx rfl (Bx.cell q7ao rfl)) ?_
        have q8ao:=((q2x.updS U6e (nmc ne2a4 nm0)).ext E9d).ext E5b
        refine sV3 (Ak Aw rfl q8ao rfl) (Bz rfl) (Af (o':=3) Da rfl rfl) ?_
        refine ss BC (q3j.ext E5b) fun w1j U9ao q0ap=>?_
        refine AF ?_
        obtain rfl:=sj f5ao
        exact ⟨_,rfl,(.pointer (some ⟨b5f,0,none⟩)),(.agg #[.bool r0a.m.Neg,.slice A6d (sz r0a.m.Abs) c7d,.int .i64 r0a.e]),(.pointer (some ⟨b5f,0,none⟩)),(.pointer (some ⟨b5f,3,none⟩)),((UpdS.refl _ _).upd U9ao (.inl im0)),q0ap,(by kernel_rfl)⟩
       ·refine cfi e6x<|wpIn_skip ?_
        obtain rfl:=sj f6ao
        exact ⟨_,rfl,uu,uu,uu,uu,(UpdS.refl _ _),(q3j.ext E5b),(by kernel_rfl)⟩
      ·rintro l' w1j ⟨t4a4,t5a4,t6a4,t7a4,U3g,q1ap,rfl⟩ l'' hl
       simp only [S0,S1] at hl;subst hl
       have X7x:=X2ao.updS U3g (alc ⟨g3a3,_,_,q3j.ext E5b⟩ al0)
       have hE3:=belR hE2 X7x hE2.size
       have q8x:=((((q7v.ext F2g).ext F0f).quiet hq).ext E6c).ext E2f
       have ne8a4:=(Bx.neT q8x q3f (by decide))
       have ne2ap:=(Bx.neT (q8x.upd U4b ne8a4) q4f (by decide))
       have q9x:=(q8x.upd U4b ne8a4).upd U8d ne2ap
       have ne3ap:=(Bx.neT (q9x.ext E8b) q6f (by decide))
       have ne9a4:=(Bx.ne q9x g2j)
       have q4ap:=(((((((q9x.ext E8b).upd U5e ne3ap).ext E7c).ext E0b).updS U6e (nmc ne9a4 nm0)).ext E9d).ext E5b).updS U3g (nmc ne9a4 nm0)
       have q0y:=((((q8v.ext F2g).ext F0f).quiet hq).ext E6c).ext E2f
       have ne0a5:=(Bx.neT q0y q3f (by decide))
       have ne5ap:=(Bx.neT (q0y.upd U4b ne0a5) q4f (by decide))
       have q1y:=(q0y.upd U4b ne0a5).upd U8d ne5ap
       have ne6ap:=(Bx.neT (q1y.ext E8b) q6f (by decide))
       have ne1a5:=(Bx.ne q1y g2j)
       have q7ap:=(((((((q1y.ext E8b).upd U5e ne6ap).ext E7c).ext E0b).updS U6e (nmc ne1a5 nm0)).ext E9d).ext E5b).updS U3g (nmc ne1a5 nm0)
       have ne8ap:=(Bx.neT (q4p.ext E2f) q3f (by decide))
       have q2a5:=(q4p.ext E2f).upd U4b ne8ap
       have ne9ap:=(Bx.neT q2a5 q4f (by decide))
       have q3a5:=(q2a5.upd U8d ne9ap).ext E8b
       have ne0aq:=(Bx.neT q3a5 q6f (by decide))
       have q4a5:=((q3a5.upd U5e ne0aq).ext E7c).ext E0b
       have ne5a5:=(Bx.neT q4a5 q3x (by decide))
       have q1aq:=(((q4a5.updS U6e (nmc ne5a5 nm0)).ext E9d).ext E5b).updS U3g (nmc ne5a5 nm0)
       have q2y:=((((q1g.ext F2g).ext F0f).quiet hq).ext E6c).ext E2f
       have ne6a5:=(Bx.neT q2y q3f (by decide))
       have ne2aq:=(Bx.neT (q2y.upd U4b ne6a5) q4f (by decide))
       have q7a5:=((q2y.upd U4b ne6a5).upd U8d ne2aq).ext E8b
       have ne3aq:=(Bx.neT q7a5 q6f (by decide))
       have q8a5:=((q7a5.upd U5e ne3aq).ext E7c).ext E0b
       have ne9a5:=(Bx.neT q8a5 q3x (by decide))
       have q4aq:=(((q8a5.updS U6e (nmc ne9a5 nm0)).ext E9d).ext E5b).updS U3g (nmc ne9a5 nm0)
       have q3y:=((((q9m.ext F2g).ext F0f).quiet hq).ext E6c).ext E2f
       have ne0a6:=(Bx.neT q3y q3f (by decide))
       have ne5aq:=(Bx.neT (q3y.upd U4b ne0a6) q4f (by decide))
       have q4y:=(q3y.upd U4b ne0a6).upd U8d ne5aq
       have ne6aq:=(Bx.neT (q4y.ext E8b) q6f (by decide))
       have ne1a6:=(Bx.ne q4y g2j)
       have q7aq:=(((((((q4y.ext E8b).upd U5e ne6aq).ext E7c).ext E0b).updS U6e (nmc ne1a6 nm0)).ext E9d).ext E5b).updS U3g (nmc ne1a6 nm0)
       have q5y:=((((q0n.ext F2g).ext F0f).quiet hq).ext E6c).ext E2f
       have ne2a6:=(Bx.neT q5y q3f (by decide))
       have ne8aq:=(Bx.neT (q5y.upd U4b ne2a6) q4f (by decide))
       have q6y:=(q5y.upd U4b ne2a6).upd U8d ne8aq
       have ne9aq:=(Bx.neT (q6y.ext E8b) q6f (by decide))
       have ne3a6:=(Bx.ne q6y g2j)
       have q0ar:=(((((((q6y.ext E8b).upd U5e ne9aq).ext E7c).ext E0b).updS U6e (nmc ne3a6 nm0)).ext E9d).ext E5b).updS U3g (nmc ne3a6 nm0)
       have q1ar:=(q4x.ext E5b).updS U3g (nmc (Ne.symm ne8w) nm0)
       have n2ar:RU w1j A3e c4e r3a.m.Abs:=((((n9w.ext E0b).updS U6e (alc ⟨_,_,by decide,q1i.ext E0b⟩ al0)).ext E9d).ext E5b).updS U3g (alc ⟨_,_,by decide,q3j.ext E5b⟩ al0)
       have n3ar:RU w1j A6d c7d r0a.m.Abs:=(n5x.ext E5b).updS U3g (alc ⟨_,_,by decide,q3j.ext E5b⟩ al0)
       obtain rfl:=sj f4ao
       exact ⟨X7x,hE3,nlt (nlt (nlt hK X9h.size) hq.size) X7x.size,q4ap,q7ap,q1aq,q4aq,q7aq,q0ar,⟨b5f,A3e,c4e,A6d,c7d,(nlt (nlt (nlt (nlt (nlt (nlt (nlt hK X9h.size) hq.size) E6c.size) E2f.size) (Nat.le_of_eq U4b.size.symm)) (Nat.le_of_eq U8d.size.symm)) g2j),q1ar,q1ap,n2ar,n3ar⟩⟩
    ·intro HJ155
     refine Oy 3 8 9 (by kernel_rfl) ?_ ?_ ?_
     ·have q4j:=tbx (belR hE2 X9g hE2.size) hT
      refine opC 3 rfl (by rfl) (Ac DD (by rfl)) (Ay x0.lo x1.lo x2 5 A1 c2 A7 c8 _ (tbx (Ext.refl _) q4j) (n6b.ext (Ext.refl _)) (n7b.ext (Ext.refl _)) r3a h4n) ?_
      rintro _ _ E1a ⟨A5j,c6j,rfl,n7j⟩
      refine dnrm ?_
      refine Oy 7 8 9 (by kernel_rfl) ?_ ?_ ?_
      ·refine opC 7 rfl (by rfl) (Ac DD (by rfl)) (Ay x0.lo x1.lo x2 4 A1 c2 A7 c8 _ (tbx E1a q4j) (n6b.ext E1a) (n7b.ext E1a) r0a h1f) ?_
       rintro _ _ E0h ⟨A4a6,c5a6,rfl,n6a6⟩
       refine dnrm ?_
       refine Ea 8 9 (by kernel_rfl) ?_ ?_
       ·refine opA 8 rfl (by rfl) (AR Bg) fun b4ar _ E7p g5ar q7a6=>dnrm ?_
        refine Bc 9 (by kernel_rfl) ?_
        ·refine opA 9 rfl (by rfl) (AR Bg) fun b6ar _ E8p g8a6 q7ar=>dnrm ?_
         exact dls (HJ155 _ _ ⟨A5j,c6j,A4a6,c5a6,b4ar,b6ar,(((E1a.trans E0h).trans E7p).trans E8p),(((n7j.ext E0h).ext E7p).ext E8p),((n6a6.ext E7p).ext E8p),(nlt (E1a.trans E0h).size g5ar),(q7a6.ext E8p),(nlt ((E1a.trans E0h).trans E7p).size g8a6),q7ar,(Bx.ne q7a6 g8a6),rfl⟩)
       ·refine opA 9 rfl (by rfl) (AR Bg) fun b8ar _ E9p g9ar q9a6=>dnrm ?_
        refine Bc 8 (by kernel_rfl) ?_
        ·refine opA 8 rfl (by rfl) (AR Bg) fun b0as _ E0q g0a7 q1as=>dnrm ?_
         exact dls (HJ155 _ _ ⟨A5j,c6j,A4a6,c5a6,b0as,b8ar,(((E1a.trans E0h).trans E9p).trans E0q),(((n7j.ext E0h).ext E9p).ext E0q),((n6a6.ext E9p).ext E0q),(nlt ((E1a.trans E0h).trans E9p).size g0a7),q1as,(nlt (E1a.trans E0h).size g9ar),(q9a6.ext E0q),(Ne.symm (Bx.ne q9a6 g0a7)),rfl⟩)
      ·refine opA 8 rfl (by rfl) (AR Bg) fun b1a7 _ E7e g2a7 q1q=>dnrm ?_
       refine Ea 7 9 (by kernel_rfl) ?_ ?_
       ·refine opC 7 rfl (by rfl) (Ac DD (by rfl)) (Ay x0.lo x1.lo x2 4 A1 c2 A7 c8 _ (tbx (E1a.trans E7e) q4j) (n6b.ext (E1a.trans E7e)) (n7b.ext (E1a.trans E7e)) r0a h1f) ?_
        rintro _ _ E7n ⟨A2as,c3as,rfl,n4as⟩
        refine dnrm ?_
        refine Bc 9 (by kernel_rfl) ?_
        ·refine opA 9 rfl (by rfl) (AR Bg) fun b5as _ E2q g3a7 q6as=>dnrm ?_
         exact dls (HJ155 _ _ ⟨A5j,c6j,A2as,c3as,b1a7,b5as,(((E1a.trans E7e).trans E7n).trans E2q),(((n7j.ext E7e).ext E7n).ext E2q),(n4as.ext E2q),(nlt E1a.size g2a7),((q1q.ext E7n).ext E2q),(nlt ((E1a.trans E7e).trans E7n).size g3a7),q6as,(Bx.ne (q1q.ext E7n) g3a7),rfl⟩)
       ·refine opA 9 rfl (by rfl) (AR Bg) fun b7as _ E8j g4a7 q8as=>dnrm ?_
        refine Bc 7 (by kernel_rfl) ?_
        ·refine opC 7 rfl (by rfl) (Ac DD (by rfl)) (Ay x0.lo x1.lo x2 4 A1 c2 A7 c8 _ (tbx ((E1a.trans E7e).trans E8j) q4j) (n6b.ext ((E1a.trans E7e).trans E8j)) (n7b.ext ((E1a.trans E7e).trans E8j)) r0a h1f) ?_
         rintro _ _ E3q ⟨A9as,c0at,rfl,n1at⟩
         refine dnrm ?_
         exact dls (HJ155 _ _ ⟨A5j,c6j,A9as,c0at,b1a7,b7as,(((E1a.trans E7e).trans E8j).trans E3q),(((n7j.ext E7e).ext E8j).ext E3q),n1at,(nlt E1a.size g2a7),((q1q.ext E8j).ext E3q),(nlt (E1a.trans E7e).size g4a7),(q8as.ext E3q),(Bx.ne q1q g4a7),rfl⟩)
      ·refine opA 9 rfl (by rfl) (AR Bg) fun b4q _ E9b g7y q5q=>dnrm ?_
       refine Ea 7 8 (by kernel_rfl) ?_ ?_
       ·refine opC 7 rfl (by rfl) (Ac DD (by rfl)) (Ay x0.lo x1.lo x2 4 A1 c2 A7 c8 _ (tbx (E1a.trans E9b) q4j) (n6b.ext (E1a.trans E9b)) (n7b.ext (E1a.trans E9b)) r0a h1f) ?_
        rintro _ _ E8n ⟨A2at,c3at,rfl,n4at⟩
        refine dnrm ?_
        refine Bc 8 (by kernel_rfl) ?_
        ·refine opA 8 rfl (by rfl) (AR Bg) fun b5at _ E6q g5a7 q6at=>dnrm ?_
         exact dls (HJ155 _ _ ⟨A5j,c6j,A2at,c3at,b5at,b4q,(((E1a.trans E9b).trans E8n).trans E6q),(((n7j.ext E9b).ext E8n).ext E6q),(n4at.ext E6q),(nlt ((E1a.trans E9b).trans E8n).size g5a7),q6at,(nlt E1a.size g7y),((q5q.ext E8n).ext E6q),(Ne.symm (Bx.ne (q5q.ext E8n) g5a7)),rfl⟩)
       ·refine opA 8 rfl (by rfl) (AR Bg) fun b7at _ E9j g6a7 q8at=>dnrm ?_
        refine Bc 7 (by kernel_rfl) ?_
        ·refine opC 7 rfl (by rfl) (Ac DD (by rfl)) (Ay x0.lo x1.lo x2 4 A1 c2 A7 c8 _ (tbx ((E1a.trans E9b).trans E9j) q4j) (n6b.ext ((E1a.trans E9b).trans E9j)) (n7b.ext ((E1a.trans E9b).trans E9j)) r0a h1f) ?_
         rintro _ _ E7q ⟨A9at,c0au,rfl,n1au⟩
         refine dnrm ?_
         exact dls (HJ155 _ _ ⟨A5j,c6j,A9at,c0au,b7at,b4q,(((E1a.trans E9b).trans E9j).trans E7q),(((n7j.ext E9b).ext E9j).ext E7q),n1au,(nlt (E1a.trans E9b).size g6a7),(q8at.ext E7q),(nlt E1a.size g7y),((q5q.ext E9j).ext E7q),(Ne.symm (Bx.ne q5q g6a7)),rfl⟩)
     ·refine opA 8 rfl (by rfl) (AR Bg) fun b8y _ E5a g9y q0k=>dnrm ?_
      refine Ea 3 9 (by kernel_rfl) ?_ ?_
      ·have q0z:=tbx (belR hE2 X9g hE2.size) hT
       refine opC 3 rfl (by rfl) (Ac DD (by rfl)) (Ay x0.lo x1.lo x2 5 A1 c2 A7 c8 _ (tbx E5a q0z) (n6b.ext E5a) (n7b.ext E5a) r3a h4n) ?_
       rintro _ _ E8c ⟨A7a7,c8a7,rfl,n9a7⟩
       refine dnrm ?_
       refine Ea 7 9 (by kernel_rfl) ?_ ?_
       ·refine opC 7 rfl (by rfl) (Ac DD (by rfl)) (Ay x0.lo x1.lo x2 4 A1 c2 A7 c8 _ (tbx (E5a.trans E8c) q0z) (n6b.ext (E5a.trans E8c)) (n7b.ext (E5a.trans E8c)) r0a h1f) ?_
        rintro _ _ E9n ⟨A2au,c3au,rfl,n4au⟩
        refine dnrm ?_
        refine Bc 9 (by kernel_rfl) ?_
        ·refine opA 9 rfl (by rfl) (AR Bg) fun b5au _ E8q g0a8 q6au=>dnrm ?_
         exact dls (HJ155 _ _ ⟨A7a7,c8a7,A2au,c3au,b8y,b5au,(((E5a.trans E8c).trans E9n).trans E8q),((n9a7.ext E9n).ext E8q),(n4au.ext E8q),g9y,(((q0k.ext E8c).ext E9n).ext E8q),(nlt ((E5a.trans E8c).trans E9n).size g0a8),q6au,(Bx.ne ((q0k.ext E8c).ext E9n) g0a8),rfl⟩)
       ·refine opA 9 rfl (by rfl) (AR Bg) fun b7au _ E1k g1a8 q8au=>dnrm ?_
        refine Bc 7 (by kernel_rfl) ?_
        ·refine opC 7 rfl (by rfl) (Ac DD (by rfl)) (Ay x0.lo x1.lo x2 4 A1 c2 A7 c8 _ (tbx ((E5a.trans E8c).trans E1k) q0z) (n6b.ext ((E5a.trans E8c).trans E1k)) (n7b.ext ((E5a.trans E8c).trans E1k)) r0a h1f) ?_
         rintro _ _ E9q ⟨A9au,c0av,rfl,n1av⟩
         refine dnrm ?_
         exact dls (HJ155 _ _ ⟨A7a7,c8a7,A9au,c0av,b8y,b7au,(((E5a.trans E8c).trans E1k).trans E9q),((n9a7.ext E1k).ext E9q),n1av,g9y,(((q0k.ext E8c).ext E1k).ext E9q),(nlt (E5a.trans E8c).size g1a8),(q8au.ext E9q),(Bx.ne (q0k.ext E8c) g1a8),rfl⟩)
      ·refine opA 9 rfl (by rfl) (AR Bg) fun b2av _ E1h g2a8 q3av=>dnrm ?_
       refine Bc 3 (by kernel_rfl) ?_
       ·have q3a8:=tbx (belR hE2 X9g hE2.size) hT
        refine opC 3 rfl (by rfl) (Ac DD (by rfl)) (Ay x0.lo x1.lo x2 5 A1 c2 A7 c8 _ (tbx (E5a.trans E1h) q3a8) (n6b.ext (E5a.trans E1h)) (n7b.ext (E5a.trans E1h)) r3a h4n) ?_
        rintro _ _ E2k ⟨A4av,c5av,rfl,n6av⟩
        refine dnrm ?_
        refine Bc 7 (by kernel_rfl) ?_
        ·refine opC 7 rfl (by rfl) (Ac DD (by rfl)) (Ay x0.lo x1.lo x2 4 A1 c2 A7 c8 _ (tbx ((E5a.trans E1h).trans E2k) q3a8) (n6b.ext ((E5a.trans E1h).trans E2k)) (n7b.ext ((E5a.trans E1h).trans E2k)) r0a h1f) ?_
         rintro _ _ E0r ⟨A7av,c8av,rfl,n9av⟩
         refine dnrm ?_
         exact dls (HJ155 _ _ ⟨A4av,c5av,A7av,c8av,b8y,b2av,(((E5a.trans E1h).trans E2k).trans E0r),(n6av.ext E0r),n9av,g9y,(((q0k.ext E1h).ext E2k).ext E0r),(nlt E5a.size g2a8),((q3av.ext E2k).ext E0r),(Bx.ne q0k g2a8),rfl⟩)
     ·refine opA 9 rfl (by rfl) (AR Bg) fun b1z _ E6a g2z q3k=>dnrm ?_
      refine Ea 3 8 (by kernel_rfl) ?_ ?_
      ·have q3z:=tbx (belR hE2 X9g hE2.size) hT
       refine opC 3 rfl (by rfl) (Ac DD (by rfl)) (Ay x0.lo x1.lo x2 5 A1 c2 A7 c8 _ (tbx E6a q3z) (n6b.ext E6a) (n7b.ext E6a) r3a h4n) ?_
       rintro _ _ E9c ⟨A4a8,c5a8,rfl,n6a8⟩
       refine dnrm ?_
       refine Ea 7 8 (by kernel_rfl) ?_ ?_
       ·refine opC 7 rfl (by rfl) (Ac DD (by rfl)) (Ay x0.lo x1.lo x2 4 A1 c2 A7 c8 _ (tbx (E6a.trans E9c) q3z) (n6b.ext (E6a.trans E9c)) (n7b.ext (E6a.trans E9c)) r0a h1f) ?_
        rintro _ _ E0o ⟨A0aw,c1aw,rfl,n2aw⟩
        refine dnrm ?_
        refine Bc 8 (by kernel_rfl) ?_
        ·refine opA 8 rfl (by rfl) (AR Bg) fun b3aw _ E1r g7a8 q4aw=>dnrm ?_
         exact dls (HJ155 _ _ ⟨A4a8,c5a8,A0aw,c1aw,b3aw,b1z,(((E6a.trans E9c).trans E0o).trans E1r),((n6a8.ext E0o).ext E1r),(n2aw.ext E1r),(nlt ((E6a.trans E9c).trans E0o).size g7a8),q4aw,g2z,(((q3k.ext E9c).ext E0o).ext E1r),(Ne.symm (Bx.ne ((q3k.ext E9c).ext E0o) g7a8)),rfl⟩)
       ·refine opA 8 rfl (by rfl) (AR Bg) fun b5aw _ E4k g8a8 q6aw=>dnrm ?_
        refine Bc 7 (by kernel_rfl) ?_
        ·refine opC 7 rfl (by rfl) (Ac DD (by rfl)) (Ay x0.lo x1.lo x2 4 A1 c2 A7 c8 _ (tbx ((E6a.trans E9c).trans E4k) q3z) (n6b.ext ((E6a.trans E9c).trans E4k)) (n7b.ext ((E6a.trans E9c).trans E4k)) r0a h1f) ?_
         rintro _ _ E2r ⟨A7aw,c8aw,rfl,n9aw⟩
         refine dnrm ?_
         exact dls (HJ155 _ _ ⟨A4a8,c5a8,A7aw,c8aw,b5aw,b1z,(((E6a.trans E9c).trans E4k).trans E2r),((n6a8.ext E4k).ext E2r),n9aw,(nlt (E6a.trans E9c).size g8a8),(q6aw.ext E2r),g2z,(((q3k.ext E9c).ext E4k).ext E2r),(Ne.symm (Bx.ne (q3k.ext E9c) g8a8)),rfl⟩)
      ·refine opA 8 rfl (by rfl) (AR Bg) fun b0ax _ E2h g9a8 q1ax=>dnrm ?_
       refine Bc 3 (by kernel_rfl) ?_
       ·have q0a9:=tbx (belR hE2 X9g hE2.size) hT
        refine opC 3 rfl (by rfl) (Ac DD (by rfl)) (Ay x0.lo x1.lo x2 5 A1 c2 A7 c8 _ (tbx (E6a.trans E2h) q0a9) (n6b.ext (E6a.trans E2h)) (n7b.ext (E6a.trans E2h)) r3a h4n) ?_
        rintro _ _ E5k ⟨A2ax,c3ax,rfl,n4ax⟩
        refine dnrm ?_
        refine Bc 7 (by kernel_rfl) ?_
        ·refine opC 7 rfl (by rfl) (Ac DD (by rfl)) (Ay x0.lo x1.lo x2 4 A1 c2 A7 c8 _ (tbx ((E6a.trans E2h).trans E5k) q0a9) (n6b.ext ((E6a.trans E2h).trans E5k)) (n7b.ext ((E6a.trans E2h).trans E5k)) r0a h1f) ?_
         rintro _ _ E3r ⟨A5ax,c6ax,rfl,n7ax⟩
         refine dnrm ?_
         exact dls (HJ155 _ _ ⟨A2ax,c3ax,A5ax,c6ax,b0ax,b1z,(((E6a.trans E2h).trans E5k).trans E3r),(n4ax.ext E3r),n7ax,(nlt E6a.size g9a8),((q1ax.ext E5k).ext E3r),g2z,(((q3k.ext E2h).ext E5k).ext E3r),(Ne.symm (Bx.ne q3k g9a8)),rfl⟩)
   ·obtain ⟨sr,x,y,AX,cX,AY,cY,s',he,nx,ny,ho,ho',hr1⟩:=hall0ak i hpos hi
    rw [ho] at hS
    obtain ⟨bs,AS,cS,AT,cT,gbs,q1n,qs,n5,n6⟩:=hS
    unfold EH at hr1
    have g00:w.heap.size≤bs:=nlt X2v.size gbs
    refine LS (actPQ he (by simp only [S0,S1];rfl)) ?_
    refine wsI fun h8ax=>IQ (by rfl) (fun ⟨_,_,h⟩=>h)<|sal Bg fun b9ax w9m E0ay g1a9 q1ay=>?_
    have g2be:=nlt (nlt hX.size (Rd.refl w.heap.size w1g).size) g1a9
    refine ss BC q1ay fun w0n U2ay q3ay=>?_
    have F0e:=belU E0ay U2ay g1a9
    have X2a9:=(Rd.refl w.heap.size w1g).ext F0e
    refine wh h8ax<|IQ (by rfl) (fun ⟨_,_,h⟩=>h)<|sal Bg fun b4ay w2ak E5ay g3a9 q6ay=>?_
    have g3be:=nlt (nlt hX.size X2a9.size) g3a9
    refine ss BC q6ay fun w5ak U7ay q8ay=>?_
    have F0d:=belU E5ay U7ay g3a9
    have X1o:=X2a9.ext F0d
    refine AF ?_
    refine ⟨X1o,?_⟩
    intro w3w hq
    have q4a9:=(q3ay.ext F0d).quiet hq
    refine have hE1:=belR hX X1o hX.size;have hE2:=belQ hE1 hq hE1.size;wpIn_block<|wsI fun h9ay=>Om (by rfl) (fun ⟨_,_,h⟩=>h) [10,11] 12 mo rfl fun w5g E0c S2i=>have X3h:=(Rd.refl w.heap.size w3w).ext E0c;dV 0 rfl (fun _ hw=>Ak Aw rfl ((q4a9.ext E0c).ext hw) rfl) S2i ?_
    have q5a9:=(q8ay.quiet hq).ext E0c
    refine dV 1 rfl (fun _ hw=>Ak Aw rfl (q5a9.ext hw) rfl) S2i ?_
    have q4r:=(((q9v.ext F0e).ext F0d).quiet hq).ext E0c
    refine dV 2 rfl (fun _ hw=>Ag GR rfl (Bx.cell (q4r.ext hw) rfl)) S2i ?_
    refine dV 4 rfl (fun _ hw=>Ak Aw rfl ((q4a9.ext E0c).ext hw) rfl) S2i ?_
    refine dV 5 rfl (fun _ hw=>Ak Aw rfl (q5a9.ext hw) rfl) S2i ?_
    refine dV 6 rfl (fun _ hw=>Ag GR rfl (Bx.cell (q4r.ext hw) rfl)) S2i ?_
    have n1c:=((((nx.ext hX).ext F0e).ext F0d).quiet hq).ext E0c
    have n2c:=((((ny.ext hX).ext F0e).ext F0d).quiet hq).ext E0c
    obtain ⟨r1e,h2o,f0az⟩:=Ad hr1
    obtain ⟨r1b,h7f,f1az⟩:=Ad f0az
    refine QY (tb 12 1023) 2 (fun l' w'=>∃(A6k:OA) (c7k:Nat) (A3i:OA) (c4i:Nat) (b3o:Nat) (b4o:Nat),Ext w5g w'∧RU w' A6k c7k r1e.m.Abs∧RU w' A3i c4i r1b.m.Abs∧w5g.heap.size≤b3o∧Bx w' b3o 119 [.bool false,.slice none 0 0,.int .i64 0]∧w5g.heap.size≤b4o∧Bx w' b4o 119 [.bool false,.slice none 0 0,.int .i64 0]∧b3o≠b4o∧l'=[.agg #[.bool x0.lo.m.Neg,.slice A1 (sz x0.lo.m.Abs) c2,.int .i64 x0.lo.e,.bool x0.hi.m.Neg,.slice A4 (sz x0.hi.m.Abs) c5,.int .i64 x0.hi.e],.agg #[.bool x1.lo.m.Neg,.slice A7 (sz x1.lo.m.Abs) c8,.int .i64 x1.lo.e,.bool x1.hi.m.Neg,.slice A3b (sz x1.hi.m.Abs) c4c,.int .i64 x1.hi.e],.int .i64 x2,.pointer (some ⟨b4m,0,none⟩),.pointer (some ⟨b4g,0,none⟩),.pointer (some ⟨b5m,0,none⟩),.pointer (some ⟨b6m,0,none⟩),.pointer (some ⟨b1p,0,none⟩),.pointer (some ⟨b9ax,0,none⟩),.pointer (some ⟨b4ay,0,none⟩),.pointer (some ⟨b3o,0,none⟩),.pointer (some ⟨b4o,0,none⟩),.pointer (some ⟨b4g,0,none⟩),.agg #[.bool x1.lo.m.Neg,.slice A7 (sz x1.lo.m.Abs) c8,.int .i64 x1.lo.e],.int .i64 r9f,.pointer (some ⟨b4g,3,none⟩),.agg #[.bool x1.hi.m.Neg,.slice A3b (sz x1.hi.m.Abs) c4c,.int .i64 x1.hi.e],.int .i64 r0g,.int .i64 (wi64 (r9f*r0g)),.bool (decide (0<(wi64 (r9f*r0g)))),.tuple #[],.agg #[.bool x0.lo.m.Neg,.slice A1 (sz x0.lo.m.Abs) c2,.int .i64 x0.lo.e,.bool x0.hi.m.Neg,.slice A4 (sz x0.hi.m.Abs) c5,.int .i64 x0.hi.e],.agg #[.bool x1.lo.m.Neg,.slice A7 (sz x1.lo.m.Abs) c8,.int .i64 x1.lo.e,.bool x1.hi.m.Neg,.slice A3b (sz x1.hi.m.Abs) c4c,.int .i64 x1.hi.e],.func (.func 183) #[] #[.pointer (some ⟨b8i,0,none⟩),.pointer (some ⟨b9i,0,none⟩)],.agg #[.bool x.m.Neg,.slice AX (sz x.m.Abs) cX,.int .i64 x.e],.agg #[.bool y.m.Neg,.slice AY (sz y.m.Abs) cY,.int .i64 y.e],.agg #[.bool x.m.Neg,.slice AX (sz x.m.Abs) cX,.int .i64 x.e],.agg #[.bool y.m.Neg,.slice AY (sz y.m.Abs) cY,.int .i64 y.e],.int .i64 x2,.agg #[.bool r1e.m.Neg,.slice A6k (sz r1e.m.Abs) c7k,.int .i64 r1e.e],.agg #[.bool x.m.Neg,.slice AX (sz x.m.Abs) cX,.int .i64 x.e],.agg #[.bool y.m.Neg,.slice AY (sz y.m.Abs) cY,.int .i64 y.e],.int .i64 x2,.agg #[.bool r1b.m.Neg,.slice A3i (sz r1b.m.Abs) c4i,.int .i64 r1b.e],uu,uu,uu,uu,uu,uu,uu,uu,uu,uu,uu,uu,uu,uu,uu,uu,uu,uu,uu,uu,uu,uu,uu,uu,uu,uu,uu,uu,uu,uu,uu,uu]) ?_ ?_
    ·rintro _ w6v ⟨A6k,c7k,A3i,c4i,b3o,b4o,E2e,n2az,n3az,g4az,q1d,g5az,q6az,ne4z,rfl⟩
     have g7az:=nlt (nlt (nlt (nlt hX.size X1o.size) hq.size) X3h.size) g4az
     have g8az:=nlt (nlt (nlt (nlt hX.size X1o.size) hq.size) X3h.size) g5az
     have X9az:=X3h.ext E2e
     have S4be:=S2i.trans E2e
     refine dkk 10 BC q1d fun w0w U7a q6a9=>?_
     have X0b0:=X9az.upd U7a g7az q1d
     have q2d:=q6az.upd U7a (Ne.symm ne4z)
     refine dkk 11 BC q2d fun w1w U5c q1b0=>?_
     have X2b0:=X0b0.upd U5c g8az q2d
     refine Cx (by kernel_rfl) ?_
     have q5z:=((((q1n.ext F0e).ext F0d).quiet hq).ext E0c).ext E2e
     refine h9ay _ _<|wsI fun h3b0=>wsI fun h4b0=>IQ (by rfl) (fun ⟨_,_,h⟩=>h)<|have ne7a9:=(Bx.neT q5z q1d (by decide));have ne5b0:=(Bx.neT (q5z.upd U7a ne7a9) q2d (by decide));have q8a9:=(q5z.upd U7a ne7a9).upd U5c ne5b0;sV2 (Ag Gx rfl (Bx.cell q8a9 rfl)) (SH Po rfl) ?_
     refine wh h4b0<|cfi rfl<|wpIn_skip<|h3b0 _ _<|wsI fun h6b0=>wsI fun h7b0=>Om (by rfl) (fun ⟨_,_,h⟩=>h) [] 7 mo rfl fun w3p E3c S5r=>have X9a9:=X2b0.ext E3c;dV 0 rfl (fun _ hw=>Ak Aw rfl (((q6a9.upd U5c ne4z).ext E3c).ext hw) rfl) S5r ?_
     have q6r:=q8a9.ext E3c
     refine dV 1 rfl (fun _ hw=>Ag Gx rfl (Bx.cell (q6r.ext hw) rfl)) S5r ?_
     refine dA2 2 3 rfl rfl (fun _=>Bz rfl) (fun _=>Af (o':=0) CM rfl rfl) ?_
     have q6z:=((((qs.ext F0e).ext F0d).quiet hq).ext E0c).ext E2e
     have ne0aa:=(Bx.neT q6z q1d (by decide))
     have ne1aa:=(Bx.neT (q6z.upd U7a ne0aa) q2d (by decide))
     have q5i:=((q6z.upd U7a ne0aa).upd U5c ne1aa).ext E3c
     refine dV 4 rfl (fun _ hw=>HJ Aw rfl (q5i.ext hw) (by simp only [List.drop_zero,List.take_succ_cons,List.take_zero];rfl) rfl) S5r ?_
     have n2aa:=((n2az.upd U7a q1d (by decide)).upd U5c q2d (by decide)).ext E3c
     have n3aa:=(((((((n5.ext F0e).ext F0d).quiet hq).ext E0c).ext E2e).upd U7a q1d (by decide)).upd U5c q2d (by decide)).ext E3c
     refine dcr f1az 5 rfl (by rfl) (Ac Ju (by rfl)) (Cu r1e sr.lo A6k c7k AS cS w3p (tbx (belR hE2 X9a9 hE2.size) hT) n2aa n3aa) fun r5be f8b0 w2n E4a=>?_
     have X9b0:=X9a9.ext E4a
     have S6be:=S5r.trans E4a
     refine dab 6 rfl (by kernel_rfl) (fun _ _ _ h=>h) (by rfl) (fun _=>Bv rfl rfl) fun z4aa hz4aa=>?_
     refine dnrm ?_
     refine Cx (by kernel_rfl) ?_
     refine h7b0 _ _ ?_
     obtain ⟨m4h,h0b1,f1b1⟩:=Ad f8b0
     refine LL (fun l l' w'=>∃(t5aa:Value) (t6aa:Value) (t7aa:Value) (t8aa:Value) (A8k:OA) (c9k:Nat),UpdS [bs] w2n w'∧Bx w' bs 121 [.bool m4h.1,.slice A8k (sz m4h.2.1) c9k,.int .i64 m4h.2.2,.bool sr.hi.m.Neg,.slice AT (sz sr.hi.m.Abs) cT,.int .i64 sr.hi.e]∧RU w' A8k c9k m4h.2.1∧l'=((((l.set 47 t5aa).set 48 t6aa).set 49 t7aa).set 50 t8aa)) ?_ ?_
     ·rcases zi hz4aa h0b1 with ⟨e7z,_,f2b1⟩ | ⟨e7z,_,f3b1⟩
      ·refine cti e7z<|IQ (by rfl) (fun ⟨_,_,h⟩=>h)<|sV (Ag Gx rfl (Bx.cell (q6r.ext E4a) rfl)) ?_
       have q4b1:=((q6a9.upd U5c ne4z).ext E3c).ext E4a
       refine sV3 (Ak Aw rfl q4b1 rfl) (Bz rfl) (Af (o':=0) CM rfl rfl) ?_
       have q9aa:=q5i.ext E4a
       refine ss BC q9aa fun w3n U0ab q5b1=>?_
       refine AF ?_
       have n6b1:=(n2aa.ext E4a).upd U0ab q9aa (by decide)
       obtain rfl:=sj f2b1
       exact ⟨_,rfl,(.pointer (some ⟨bs,0,none⟩)),(.agg #[.bool r1e.m.Neg,.slice A6k (sz r1e.m.Abs) c7k,.int .i64 r1e.e]),(.pointer (some ⟨bs,0,none⟩)),(.pointer (some ⟨bs,0,none⟩)),A6k,c7k,((UpdS.refl _ _).upd U0ab (.inl im0)),q5b1,n6b1,(by kernel_rfl)⟩
      ·refine cfi e7z<|wpIn_skip ?_
       have q7b1:=q5i.ext E4a
       obtain rfl:=sj f3b1
       exact ⟨_,rfl,uu,uu,uu,uu,AS,cS,(UpdS.refl _ _),q7b1,(n3aa.ext E4a),(by kernel_rfl)⟩
     ·rintro l' w3n ⟨t5aa,t6aa,t7aa,t8aa,A8k,c9k,U8f,q8b1,n9b1,rfl⟩ l'' hl
      simp only [S0,S1] at hl;subst hl
      have X0b2:=X9b0.updS U8f (alc ⟨g00,_,_,q5i.ext E4a⟩ al0)
      have q1ab:=((q1b0.ext E3c).ext E4a).updS U8f (nmc (Ne.symm ne1aa) nm0)
      refine h6b0 _ _<|wsI fun h1b2=>Om (by rfl) (fun ⟨_,_,h⟩=>h) [] 7 mo rfl fun w0j E3d S7r=>have X2ab:=X0b2.ext E3d;dV 0 rfl (fun _ hw=>Ak Aw rfl ((q1ab.ext E3d).ext hw) rfl) S7r ?_
      have q8z:=q5i.ext E4a
      have ne3ab:=(Bx.neT (q6r.ext E4a) q8z (by decide))
      have q9z:=((q6r.ext E4a).updS U8f (nmc ne3ab nm0)).ext E3d
      refine dV 1 rfl (fun _ hw=>Ag Gx rfl (Bx.cell (q9z.ext hw) rfl)) S7r ?_
      refine dA2 2 3 rfl rfl (fun _=>Bz rfl) (fun _=>Af (o':=3) Da rfl rfl) ?_
      have q0l:=q8b1.ext E3d
      refine dV 4 rfl (fun _ hw=>dld Aw (q0l.ext hw)) S7r ?_
      have n4ab:RU w0j A3i c4i r1b.m.Abs:=(((((n3az.upd U7a q1d (by decide)).upd U5c q2d (by decide)).ext E3c).ext E4a).updS U8f (alc ⟨_,_,by decide,q5i.ext E4a⟩ al0)).ext E3d
      have n5ab:RU w0j AT cT sr.hi.m.Abs:=((((((((((n6.ext F0e).ext F0d).quiet hq).ext E0c).ext E2e).upd U7a q1d (by decide)).upd U5c q2d (by decide)).ext E3c).ext E4a).updS U8f (alc ⟨_,_,by decide,q5i.ext E4a⟩ al0)).ext E3d
      refine dcr f1b1 5 rfl (by rfl) (Ac Ju (by rfl)) (Cu r1b sr.hi A3i c4i AT cT w0j (tbx (belR hE2 X2ab hE2.size) hT) n4ab n5ab) fun r7be f2b2 w1x E2b=>?_
      have X3b2:=X2ab.ext E2b
      have S8be:=S7r.trans E2b
      refine dab 6 rfl (by kernel_rfl) (fun _ _ _ h=>h) (by rfl) (fun _=>Eh rfl rfl) fun z6ab hz6ab=>?_
      refine dnrm ?_
      refine Cx (by kernel_rfl) ?_
      refine h1b2 _ _ ?_
      obtain ⟨m8r,h4b2,f5b2⟩:=Ad f2b2
      refine LL (fun l l' w'=>∃(t7ab:Value) (t8ab:Value) (t9ab:Value) (t0ac:Value) (A9r:OA) (c0s:Nat),UpdS [bs] w1x w'∧Bx w' bs 121 [.bool m4h.1,.slice A8k (sz m4h.2.1) c9k,.int .i64 m4h.2.2,.bool m8r.1,.slice A9r (sz m8r.2.1) c0s,.int .i64 m8r.2.2]∧RU w' A9r c0s m8r.2.1∧l'=((((l.set 58 t7ab).set 59 t8ab).set 60 t9ab).set 61 t0ac)) ?_ ?_
      ·rcases zi hz6ab h4b2 with ⟨e0a0,_,f6b2⟩ | ⟨e0a0,_,f7b2⟩
       ·refine cti e0a0<|IQ (by rfl) (fun ⟨_,_,h⟩=>h)<|have q8b2:=q9z.ext E2b;sV (Ag Gx rfl (Bx.cell q8b2 rfl)) ?_
        have q9b2:=(q1ab.ext E3d).ext E2b
        refine sV3 (Ak Aw rfl q9b2 rfl) (Bz rfl) (Af (o':=3) Da rfl rfl) ?_
        refine ss BC (q0l.ext E2b) fun w8h U1ac q0b3=>?_
        refine AF ?_
        have n1b3:=(n4ab.ext E2b).upd U1ac (q0l.ext E2b) (by decide)
        obtain rfl:=sj f6b2
        exact ⟨_,rfl,(.pointer (some ⟨bs,0,none⟩)),(.agg #[.bool r1b.m.Neg,.slice A3i (sz r1b.m.Abs) c4i,.int .i64 r1b.e]),(.pointer (some ⟨bs,0,none⟩)),(.pointer (some ⟨bs,3,none⟩)),A3i,c4i,((UpdS.refl _ _).upd U1ac (.inl im0)),q0b3,n1b3,(by kernel_rfl)⟩
       ·refine cfi e0a0<|wpIn_skip ?_
        obtain rfl:=sj f7b2
        exact ⟨_,rfl,uu,uu,uu,uu,AT,cT,(UpdS.refl _ _),(q0l.ext E2b),(n5ab.ext E2b),(by kernel_rfl)⟩
      ·rintro l' w8h ⟨t7ab,t8ab,t9ab,t0ac,A9r,c0s,U6g,q2b3,n3b3,rfl⟩ l'' hl
       simp only [S0,S1] at hl;subst hl
       have X1a0:=X3b2.updS U6g (alc ⟨g00,_,_,q0l.ext E2b⟩ al0)
       have hE3:=belR hE2 X1a0 hE2.size
       have q2a0:=((((q7v.ext F0e).ext F0d).quiet hq).ext E0c).ext E2e
       have ne2ac:=(Bx.neT q2a0 q1d (by decide))
       have ne4b3:=(Bx.neT (q2a0.upd U7a ne2ac) q2d (by decide))
       have ne3ac:=(Bx.ne (q0v.ext E8g) gbs)
       have q5b3:=(((((((q2a0.upd U7a ne2ac).upd U5c ne4b3).ext E3c).ext E4a).updS U8f (nmc ne3ac nm0)).ext E3d).ext E2b).updS U6g (nmc ne3ac nm0)
       have q3a0:=((((q8v.ext F0e).ext F0d).quiet hq).ext E0c).ext E2e
       have ne4ac:=(Bx.neT q3a0 q1d (by decide))
       have ne6b3:=(Bx.neT (q3a0.upd U7a ne4ac) q2d (by decide))
       have ne5ac:=(Bx.ne (q1v.ext E8g) gbs)
       have q7b3:=(((((((q3a0.upd U7a ne4ac).upd U5c ne6b3).ext E3c).ext E4a).updS U8f (nmc ne5ac nm0)).ext E3d).ext E2b).updS U6g (nmc ne5ac nm0)
       have ne8b3:=(Bx.neT (q4r.ext E2e) q1d (by decide))
       have q6ac:=(q4r.ext E2e).upd U7a ne8b3
       have ne9b3:=(Bx.neT q6ac q2d (by decide))
       have q7ac:=((q6ac.upd U5c ne9b3).ext E3c).ext E4a
       have ne8ac:=(Bx.neT q7ac q8z (by decide))
       have q0b4:=(((q7ac.updS U8f (nmc ne8ac nm0)).ext E3d).ext E2b).updS U6g (nmc ne8ac nm0)
       have q4a0:=((((q1g.ext F0e).ext F0d).quiet hq).ext E0c).ext E2e
       have ne9ac:=(Bx.neT q4a0 q1d (by decide))
       have ne1b4:=(Bx.neT (q4a0.upd U7a ne9ac) q2d (by decide))
       have q0ad:=(((q4a0.upd U7a ne9ac).upd U5c ne1b4).ext E3c).ext E4a
       have ne1ad:=(Bx.neT q0ad q8z (by decide))
       have q2b4:=(((q0ad.updS U8f (nmc ne1ad nm0)).ext E3d).ext E2b).updS U6g (nmc ne1ad nm0)
       have q5a0:=((((q9m.ext F0e).ext F0d).quiet hq).ext E0c).ext E2e
       have ne2ad:=(Bx.neT q5a0 q1d (by decide))
       have ne3b4:=(Bx.neT (q5a0.upd U7a ne2ad) q2d (by decide))
       have ne3ad:=(Bx.ne q0a2 gbs)
       have q4b4:=(((((((q5a0.upd U7a ne2ad).upd U5c ne3b4).ext E3c).ext E4a).updS U8f (nmc ne3ad nm0)).ext E3d).ext E2b).updS U6g (nmc ne3ad nm0)
       have q6a0:=((((q0n.ext F0e).ext F0d).quiet hq).ext E0c).ext E2e
       have ne4ad:=(Bx.neT q6a0 q1d (by decide))
       have ne5b4:=(Bx.neT (q6a0.upd U7a ne4ad) q2d (by decide))
       have ne5ad:=(Bx.ne q1a2 gbs)
       have q6b4:=(((((((q6a0.upd U7a ne4ad).upd U5c ne5b4).ext E3c).ext E4a).updS U8f (nmc ne5ad nm0)).ext E3d).ext E2b).updS U6g (nmc ne5ad nm0)
       have q7b4:=(q9z.ext E2b).updS U6g (nmc ne3ab nm0)
       have n8b4:RU w8h A8k c9k m4h.2.1:=((n9b1.ext E3d).ext E2b).updS U6g (alc ⟨_,_,by decide,q0l.ext E2b⟩ al0)
       obtain rfl:=sj f5b2
       exact ⟨X1a0,hE3,nlt (nlt (nlt hK X1o.size) hq.size) X1a0.size,q5b3,q7b3,q0b4,q2b4,q4b4,q6b4,(by rw [ho'];exact ⟨bs,A8k,c9k,A9r,c0s,gbs,q7b4,q2b3,n8b4,n3b3⟩)⟩
    ·intro HJ486
     refine Oy 3 8 9 (by kernel_rfl) ?_ ?_ ?_
     ·have q1l:=tbx (belR hE2 X3h hE2.size) hT
      refine opC 3 rfl (by rfl) (Ac DD (by rfl)) (Ay x y x2 5 AX cX AY cY _ (tbx (Ext.refl _) q1l) (n1c.ext (Ext.refl _)) (n2c.ext (Ext.refl _)) r1e h2o) ?_
      rintro _ _ E2a ⟨A2l,c3l,rfl,n4l⟩
      refine dnrm ?_
      refine Oy 7 8 9 (by kernel_rfl) ?_ ?_ ?_
      ·refine opC 7 rfl (by rfl) (Ac DD (by rfl)) (Ay x y x2 4 AX cX AY cY _ (tbx E2a q1l) (n1c.ext E2a) (n2c.ext E2a) r1b h7f) ?_
       rintro _ _ E5h ⟨A6ad,c7ad,rfl,n8ad⟩
       refine dnrm ?_
       refine Ea 8 9 (by kernel_rfl) ?_ ?_
       ·refine opA 8 rfl (by rfl) (AR Bg) fun b9b4 _ E1s g0b5 q9ad=>dnrm ?_
        refine Bc 9 (by kernel_rfl) ?_
        ·refine opA 9 rfl (by rfl) (AR Bg) fun b1b5 _ E2s g0ae q2b5=>dnrm ?_
         exact dls (HJ486 _ _ ⟨A2l,c3l,A6ad,c7ad,b9b4,b1b5,(((E2a.trans E5h).trans E1s).trans E2s),(((n4l.ext E5h).ext E1s).ext E2s),((n8ad.ext E1s).ext E2s),(nlt (E2a.trans E5h).size g0b5),(q9ad.ext E2s),(nlt ((E2a.trans E5h).trans E1s).size g0ae),q2b5,(Bx.ne q9ad g0ae),rfl⟩)
       ·refine opA 9 rfl (by rfl) (AR Bg) fun b3b5 _ E3s g4b5 q1ae=>dnrm ?_
        refine Bc 8 (by kernel_rfl) ?_
        ·refine opA 8 rfl (by rfl) (AR Bg) fun b5b5 _ E4s g2ae q6b5=>dnrm ?_
         exact dls (HJ486 _ _ ⟨A2l,c3l,A6ad,c7ad,b5b5,b3b5,(((E2a.trans E5h).trans E3s).trans E4s),(((n4l.ext E5h).ext E3s).ext E4s),((n8ad.ext E3s).ext E4s),(nlt ((E2a.trans E5h).trans E3s).size g2ae),q6b5,(nlt (E2a.trans E5h).size g4b5),(q1ae.ext E4s),(Ne.symm (Bx.ne q1ae g2ae)),rfl⟩)
      ·refine opA 8 rfl (by rfl) (AR Bg) fun b3ae _ E8e g4ae q5s=>dnrm ?_
       refine Ea 7 9 (by kernel_rfl) ?_ ?_
       ·refine opC 7 rfl (by rfl) (Ac DD (by rfl)) (Ay x y x2 4 AX cX AY cY _ (tbx (E2a.trans E8e) q1l) (n1c.ext (E2a.trans E8e)) (n2c.ext (E2a.trans E8e)) r1b h7f) ?_
        rintro _ _ E5o ⟨A7b5,c8b5,rfl,n9b5⟩
        refine dnrm ?_
        refine Bc 9 (by kernel_rfl) ?_
        ·refine opA 9 rfl (by rfl) (AR Bg) fun b0b6 _ E6s g5ae q1b6=>dnrm ?_
         exact dls (HJ486 _ _ ⟨A2l,c3l,A7b5,c8b5,b3ae,b0b6,(((E2a.trans E8e).trans E5o).trans E6s),(((n4l.ext E8e).ext E5o).ext E6s),(n9b5.ext E6s),(nlt E2a.size g4ae),((q5s.ext E5o).ext E6s),(nlt ((E2a.trans E8e).trans E5o).size g5ae),q1b6,(Bx.ne (q5s.ext E5o) g5ae),rfl⟩)
       ·refine opA 9 rfl (by rfl) (AR Bg) fun b2b6 _ E5l g6ae q3b6=>dnrm ?_
        refine Bc 7 (by kernel_rfl) ?_
        ·refine opC 7 rfl (by rfl) (Ac DD (by rfl)) (Ay x y x2 4 AX cX AY cY _ (tbx ((E2a.trans E8e).trans E5l) q1l) (n1c.ext ((E2a.trans E8e).trans E5l)) (n2c.ext ((E2a.trans E8e).trans E5l)) r1b h7f) ?_
         rintro _ _ E7s ⟨A4b6,c5b6,rfl,n6b6⟩
         refine dnrm ?_
         exact dls (HJ486 _ _ ⟨A2l,c3l,A4b6,c5b6,b3ae,b2b6,(((E2a.trans E8e).trans E5l).trans E7s),(((n4l.ext E8e).ext E5l).ext E7s),n6b6,(nlt E2a.size g4ae),((q5s.ext E5l).ext E7s),(nlt (E2a.trans E8e).size g6ae),(q3b6.ext E7s),(Bx.ne q5s g6ae),rfl⟩)
      ·refine opA 9 rfl (by rfl) (AR Bg) fun b7ae _ E9e g8ae q8s=>dnrm ?_
       refine Ea 7 8 (by kernel_rfl) ?_ ?_
       ·refine opC 7 rfl (by rfl) (Ac DD (by rfl)) (Ay x y x2 4 AX cX AY cY _ (tbx (E2a.trans E9e) q1l) (n1c.ext (E2a.trans E9e)) (n2c.ext (E2a.trans E9e)) r1b h7f) ?_
        rintro _ _ E6o ⟨A7b6,c8b6,rfl,n9b6⟩
        refine dnrm ?_
        refine Bc 8 (by kernel_rfl) ?_
        ·refine opA 8 rfl (by rfl) (AR Bg) fun b0b7 _ E9s g9ae q1b7=>dnrm ?_
         exact dls (HJ486 _ _ ⟨A2l,c3l,A7b6,c8b6,b0b7,b7ae,(((E2a.trans E9e).trans E6o).trans E9s),(((n4l.ext E9e).ext E6o).ext E9s),(n9b6.ext E9s),(nlt ((E2a.trans E9e).trans E6o).size g9ae),q1b7,(nlt E2a.size g8ae),((q8s.ext E6o).ext E9s),(Ne.symm (Bx.ne (q8s.ext E6o) g9ae)),rfl⟩)
       ·refine opA 8 rfl (by rfl) (AR Bg) fun b2b7 _ E6l g0af q3b7=>dnrm ?_
        refine Bc 7 (by kernel_rfl) ?_
        ·refine opC 7 rfl (by rfl) (Ac DD (by rfl)) (Ay x y x2 4 AX cX AY cY _ (tbx ((E2a.trans E9e).trans E6l) q1l) (n1c.ext ((E2a.trans E9e).trans E6l)) (n2c.ext ((E2a.trans E9e).trans E6l)) r1b h7f) ?_
         rintro _ _ E0t ⟨A4b7,c5b7,rfl,n6b7⟩
         refine dnrm ?_
         exact dls (HJ486 _ _ ⟨A2l,c3l,A4b7,c5b7,b2b7,b7ae,(((E2a.trans E9e).trans E6l).trans E0t),(((n4l.ext E9e).ext E6l).ext E0t),n6b7,(nlt (E2a.trans E9e).size g0af),(q3b7.ext E0t),(nlt E2a.size g8ae),((q8s.ext E6l).ext E0t),(Ne.symm (Bx.ne q8s g0af)),rfl⟩)
     ·refine opA 8 rfl (by rfl) (AR Bg) fun b7a0 _ E8a g8a0 q7l=>dnrm ?_
      refine Ea 3 9 (by kernel_rfl) ?_ ?_
      ·have q9a0:=tbx (belR hE2 X3h hE2.size) hT
       refine opC 3 rfl (by rfl) (Ac DD (by rfl)) (Ay x y x2 5 AX cX AY cY _ (tbx E8a q9a0) (n1c.ext E8a) (n2c.ext E8a) r1e h2o) ?_
       rintro _ _ E4d ⟨A1af,c2af,rfl,n3af⟩
       refine dnrm ?_
       refine Ea 7 9 (by kernel_rfl) ?_ ?_
       ·refine opC 7 rfl (by rfl) (Ac DD (by rfl)) (Ay x y x2 4 AX cX AY cY _ (tbx (E8a.trans E4d) q9a0) (n1c.ext (E8a.trans E4d)) (n2c.ext (E8a.trans E4d)) r1b h7f) ?_
        rintro _ _ E7o ⟨A7b7,c8b7,rfl,n9b7⟩
        refine dnrm ?_
        refine Bc 9 (by kernel_rfl) ?_
        ·refine opA 9 rfl (by rfl) (AR Bg) fun b0b8 _ E1t g4af q1b8=>dnrm ?_
         exact dls (HJ486 _ _ ⟨A1af,c2af,A7b7,c8b7,b7a0,b0b8,(((E8a.trans E4d).trans E7o).trans E1t),((n3af.ext E7o).ext E1t),(n9b7.ext E1t),g8a0,(((q7l.ext E4d).ext E7o).ext E1t),(nlt ((E8a.trans E4d).trans E7o).size g4af),q1b8,(Bx.ne ((q7l.ext E4d).ext E7o) g4af),rfl⟩)
       ·refine opA 9 rfl (by rfl) (AR Bg) fun b2b8 _ E8l g5af q3b8=>dnrm ?_
        refine Bc 7 (by kernel_rfl) ?_
        ·refine opC 7 rfl (by rfl) (Ac DD (by rfl)) (Ay x y x2 4 AX cX AY cY _ (tbx ((E8a.trans E4d).trans E8l) q9a0) (n1c.ext ((E8a.trans E4d).trans E8l)) (n2c.ext ((E8a.trans E4d).trans E8l)) r1b h7f) ?_
         rintro _ _ E2t ⟨A4b8,c5b8,rfl,n6b8⟩
         refine dnrm ?_
         exact dls (HJ486 _ _ ⟨A1af,c2af,A4b8,c5b8,b7a0,b2b8,(((E8a.trans E4d).trans E8l).trans E2t),((n3af.ext E8l).ext E2t),n6b8,g8a0,(((q7l.ext E4d).ext E8l).ext E2t),(nlt (E8a.trans E4d).size g5af),(q3b8.ext E2t),(Bx.ne (q7l.ext E4d) g5af),rfl⟩)
      ·refine opA 9 rfl (by rfl) (AR Bg) fun b7b8 _ E6h g6af q8b8=>dnrm ?_
       refine Bc 3 (by kernel_rfl) ?_
       ·have q7af:=tbx (belR hE2 X3h hE2.size) hT
        refine opC 3 rfl (by rfl) (Ac DD (by rfl)) (Ay x y x2 5 AX cX AY cY _ (tbx (E8a.trans E6h) q7af) (n1c.ext (E8a.trans E6h)) (n2c.ext (E8a.trans E6h)) r1e h2o) ?_
        rintro _ _ E9l ⟨A9b8,c0b9,rfl,n1b9⟩
        refine dnrm ?_
        refine Bc 7 (by kernel_rfl) ?_
        ·refine opC 7 rfl (by rfl) (Ac DD (by rfl)) (Ay x y x2 4 AX cX AY cY _ (tbx ((E8a.trans E6h).trans E9l) q7af) (n1c.ext ((E8a.trans E6h).trans E9l)) (n2c.ext ((E8a.trans E6h).trans E9l)) r1b h7f) ?_
         rintro _ _ E3t ⟨A2b9,c3b9,rfl,n4b9⟩
         refine dnrm ?_
         exact dls (HJ486 _ _ ⟨A9b8,c0b9,A2b9,c3b9,b7a0,b7b8,(((E8a.trans E6h).trans E9l).trans E3t),(n1b9.ext E3t),n4b9,g8a0,(((q7l.ext E6h).ext E9l).ext E3t),(nlt E8a.size g6af),((q8b8.ext E9l).ext E3t),(Bx.ne q7l g6af),rfl⟩)
     ·refine opA 9 rfl (by rfl) (AR Bg) fun b0a1 _ E9a g1a1 q0m=>dnrm ?_
      refine Ea 3 8 (by kernel_rfl) ?_ ?_
      ·have q2a1:=tbx (belR hE2 X3h hE2.size) hT
       refine opC 3 rfl (by rfl) (Ac DD (by rfl)) (Ay x y x2 5 AX cX AY cY _ (tbx E9a q2a1) (n1c.ext E9a) (n2c.ext E9a) r1e h2o) ?_
       rintro _ _ E5d ⟨A8af,c9af,rfl,n0ag⟩
       refine dnrm ?_
       refine Ea 7 8 (by kernel_rfl) ?_ ?_
       ·refine opC 7 rfl (by rfl) (Ac DD (by rfl)) (Ay x y x2 4 AX cX AY cY _ (tbx (E9a.trans E5d) q2a1) (n1c.ext (E9a.trans E5d)) (n2c.ext (E9a.trans E5d)) r1b h7f) ?_
        rintro _ _ E8o ⟨A5b9,c6b9,rfl,n7b9⟩
        refine dnrm ?_
        refine Bc 8 (by kernel_rfl) ?_
        ·refine opA 8 rfl (by rfl) (AR Bg) fun b8b9 _ E4t g1ag q9b9=>dnrm ?_
         exact dls (HJ486 _ _ ⟨A8af,c9af,A5b9,c6b9,b8b9,b0a1,(((E9a.trans E5d).trans E8o).trans E4t),((n0ag.ext E8o).ext E4t),(n7b9.ext E4t),(nlt ((E9a.trans E5d).trans E8o).size g1ag),q9b9,g1a1,(((q0m.ext E5d).ext E8o).ext E4t),(Ne.symm (Bx.ne ((q0m.ext E5d).ext E8o) g1ag)),rfl⟩)
       ·refine opA 8 rfl (by rfl) (AR Bg) fun b0ba _ E1m g2ag q1ba=>dnrm ?_
        refine Bc 7 (by kernel_rfl) ?_
        ·refine opC 7 rfl (by rfl) (Ac DD (by rfl)) (Ay x y x2 4 AX cX AY cY _ (tbx ((E9a.trans E5d).trans E1m) q2a1) (n1c.ext ((E9a.trans E5d).trans E1m)) (n2c.ext ((E9a.trans E5d).trans E1m)) r1b h7f) ?_
         rintro _ _ E5t ⟨A2ba,c3ba,rfl,n4ba⟩
         refine dnrm ?_
         exact dls (HJ486 _ _ ⟨A8af,c9af,A2ba,c3ba,b0ba,b0a1,(((E9a.trans E5d).trans E1m).trans E5t),((n0ag.ext E1m).ext E5t),n4ba,(nlt (E9a.trans E5d).size g2ag),(q1ba.ext E5t),g1a1,(((q0m.ext E5d).ext E1m).ext E5t),(Ne.symm (Bx.ne (q0m.ext E5d) g2ag)),rfl⟩)
      ·refine opA 8 rfl (by rfl) (AR Bg) fun b5ba _ E7h g3ag q6ba=>dnrm ?_
       refine Bc 3 (by kernel_rfl) ?_
       ·have q4ag:=tbx (belR hE2 X3h hE2.size) hT
        refine opC 3 rfl (by rfl) (Ac DD (by rfl)) (Ay x y x2 5 AX cX AY cY _ (tbx (E9a.trans E7h) q4ag) (n1c.ext (E9a.trans E7h)) (n2c.ext (E9a.trans E7h)) r1e h2o) ?_
        rintro _ _ E2m ⟨A7ba,c8ba,rfl,n9ba⟩
        refine dnrm ?_
        refine Bc 7 (by kernel_rfl) ?_
        ·refine opC 7 rfl (by rfl) (Ac DD (by rfl)) (Ay x y x2 4 AX cX AY cY _ (tbx ((E9a.trans E7h).trans E2m) q4ag) (n1c.ext ((E9a.trans E7h).trans E2m)) (n2c.ext ((E9a.trans E7h).trans E2m)) r1b h7f) ?_
         rintro _ _ E6t ⟨A0bb,c1bb,rfl,n2bb⟩
         refine dnrm ?_
         exact dls (HJ486 _ _ ⟨A7ba,c8ba,A0bb,c1bb,b5ba,b0a1,(((E9a.trans E7h).trans E2m).trans E6t),(n9ba.ext E6t),n2bb,(nlt E9a.size g3ag),((q6ba.ext E2m).ext E6t),g1a1,(((q0m.ext E7h).ext E2m).ext E6t),(Ne.symm (Bx.ne q0m g3ag)),rfl⟩)
  ·intro D w9b hD hI hk0
   subst hO
   obtain ⟨hX,hK,q7v,q8v,q9v,q1g,q9m,q0n,hS⟩:=hI
   obtain ⟨bs,AS,cS,AT,cT,gbs,q1n,qs,n5,n6⟩:=hS
   have hk:Df w9b D:=hk0
   refine h9ai _ _<|ws fun h3bb=>Ah<|sV3 (Ag Gx rfl (Bx.cell q1n rfl)) (Bz rfl) (Ak Ln rfl qs rfl) ?_
   rcases AC f9aj with ⟨r3a1,h4a1,f4bb⟩ | ⟨r3a1,h4a1,rfl⟩
   ·refine scO (Ac Je (by rfl)) (BS s2p AS cS AT cT w9b (tbx hX hT) n5 n6 (.ok r3a1) h4a1) ?_
    rintro _ w4q E3m ⟨A5bb,c6bb,A7bb,c8bb,rfl,n9bb,n0bc⟩
    refine nrm ?_
    have X1bc:=xtr hX E3m
    have hk2bc:=Df.ext hk E3m
    have q7t:=q1g.ext E3m
    refine ss EG q7t fun w7y U8t q3bc=>?_
    have X5ag:=belU X1bc U8t g7ah
    have hk6ag:=Df.upd hk2bc U8t q7t
    refine wh h3bb<|wp_ret ?_
    have Q9t:=Quiet.put (n0:=w.heap.size) (.deferred none) hk6ag hD rfl
    have hXE:=belQ X5ag Q9t X5ag.size
    have n4bc:=(n9bb.upd U8t q7t (by decide)).quiet Q9t
    have n5bc:=(n0bc.upd U8t q7t (by decide)).quiet Q9t
    obtain rfl:=sj f4bb
    exact Sz hk6ag rfl (Res.cellN rfl BB (q3bc.quiet Q9t) rfl rfl Res.nil) (Cl hXE ⟨A5bb,c6bb,A7bb,c8bb,rfl,n4bc,n5bc⟩)
   ·refine scP (Ac Je (by rfl)) (BS s2p AS cS AT cT w9b (tbx hX hT) n5 n6 (.error r3a1) h4a1) fun w4q E3m=>?_
    have X7ag:=xtr hX E3m
    have hk8ag:=Df.ext hk E3m
    exact panM hk8ag (AP (belQ X7ag (Quiet.put _ hk8ag hD rfl) X7ag.size))
 ·refine dcP 8 rfl (by kernel_rfl) (by rfl) (Ac FS (by rfl)) (Bs (decide (0<(wi64 (r9f*r0g)))) 8 w7 (tbx X0p hT)  (.error r7u) h8u) fun w8 E7g=>?_
  have X6bc:=xtr X0p E7g
  exact panM0 (AP X6bc)
theorem c_dyad_made_Span__dyad_Over_1 (x0:Am) (x1:Am) (x2:Int) (A1:OA) (c2:Nat) (A4:OA) (c5:Nat) (A7:OA) (c8:Nat) (A0a:OA) (c1a:Nat) (w:World) (hT:TB w) (n3:RLu w A1 c2 x0.Lo.Man.Abs) (n6:RLu w A4 c5 x0.Hi.Man.Abs) (n9:RLu w A7 c8 x1.Lo.Man.Abs) (n2a:RLu w A0a c1a x1.Hi.Man.Abs) (r:Ao × Int) (hr:FA x0 x1 x2=some r) :
  Calls prog 100 #[.agg #[.bool x0.Lo.Man.Neg,.slice A1 x0.Lo.Man.Abs.length c2,.int .i64 x0.Lo.Exp,.bool x0.Hi.Man.Neg,.slice A4 x0.Hi.Man.Abs.length c5,.int .i64 x0.Hi.Exp],.agg #[.bool x1.Lo.Man.Neg,.slice A7 x1.Lo.Man.Abs.length c8,.int .i64 x1.Lo.Exp,.bool x1.Hi.Man.Neg,.slice A0a x1.Hi.Man.Abs.length c1a,.int .i64 x1.Hi.Exp],.int .i64 x2,.func (.func 101) #[] #[]] w (Ret FF w r):=Nv Fj en_101 c_dyad_Over_1 x0 x1 x2 A1 c2 A4 c5 A7 c8 A0a c1a w hT n3 n6 n9 n2a r hr
theorem Mc (x0:Am) (x1:Am) (x2:Int) (A1:OA) (c2:Nat) (A4:OA) (c5:Nat) (A7:OA) (c8:Nat) (A2a:OA) (c3a:Nat) (w:World) (hT:TB w) (n3:RLu w A1 c2 x0.Lo.Man.Abs) (n6:RLu w A4 c5 x0.Hi.Man.Abs) (n9:RLu w A7 c8 x1.Lo.Man.Abs) (n0b:RLu w A2a c3a x1.Hi.Man.Abs) (r:Ao × Int) (hr:EP x0 x1 x2=some r) :
  Calls prog 21 #[.agg #[.bool x0.Lo.Man.Neg,.slice A1 x0.Lo.Man.Abs.length c2,.int .i64 x0.Lo.Exp,.bool x0.Hi.Man.Neg,.slice A4 x0.Hi.Man.Abs.length c5,.int .i64 x0.Hi.Exp],.agg #[.bool x1.Lo.Man.Neg,.slice A7 x1.Lo.Man.Abs.length c8,.int .i64 x1.Lo.Exp,.bool x1.Hi.Man.Neg,.slice A2a x1.Hi.Man.Abs.length c3a,.int .i64 x1.Hi.Exp],.int .i64 x2] w (Ret FF w r):=by
 unfold EP at hr
 go_enter func21,ntmps21
 refine ws fun h1b=>Ah<|sbx rfl rfl fun b2d w1 E7a g3d q2b=>?_
 refine sbx rfl rfl fun b4d w2 E8a g3b q4b=>?_
 have g5d:=nlt E7a.size g3b
 have X9a:=xtr E7a E8a
 refine sal Gp fun b6d w3 E4a g5b q5a=>?_
 have g6b:=nlt X9a.size g5b
 have X0a:=xtr X9a E4a
 refine sV (Ab rfl) ?_
 refine nx h1b fun h7b=>sV3 (Ak BB rfl ((q2b.ext E8a).ext E4a) rfl) (Ak BB rfl (q4b.ext E4a) rfl) (Aa rfl) ?_
 obtain ⟨r8b,h9b,f0c⟩:=Ad hr
 refine sc (Ac Nx (by rfl)) (c_dyad_made_Span__dyad_Over_1 x0 x1 x2 A1 c2 A4 c5 A7 c8 A2a c3a w3 (tbx X0a hT) (n3.ext X0a) (n6.ext X0a) (n9.ext X0a) (n0b.ext X0a) r8b h9b) ?_
 rintro _ w4 E1a ⟨A1c,c2c,A3c,c4c,rfl,n5c,n6c⟩
 refine nrm ?_
 have X7c:=xtr X0a E1a
 refine sV2 (Ai rfl rfl) (Ai rfl rfl) ?_
 refine ss EG (q5a.ext E1a) fun w5 U6a q8c=>?_
 have X9c:=belU X7c U6a g6b
 refine sV (Ab rfl) ?_
 refine wh h7b<|wp_ret ?_
 have n0d:=n5c.upd U6a (q5a.ext E1a) (by decide)
 have n1d:=n6c.upd U6a (q5a.ext E1a) (by decide)
 exact Gd f0c rfl (Res.cellN rfl BB q8c rfl rfl (Res.tmp rfl Res.nil)) (AJ X9c ⟨A1c,c2c,A3c,c4c,rfl,n0d,n1d⟩)
theorem c_wide_Nat_Root (x0:Nat) (A1:OA) (c2:Nat) (w:World) (hT:TB w) (n3:RU w A1 c2 x0) (r:Nat × Nat) (hr:HC x0=some r) :
  Calls prog 190 #[.slice A1 (sz x0) c2] w (Ret NG w r):=by
 unfold HC at hr
 go_enter func190,ntmps190
 refine ws fun h4=>Ah<|sV2 (Ab rfl) (Ab rfl) ?_
 refine wh h4<|ws fun h5=>ws fun h6=>Ah<|sV2 (Aa rfl) (AD Au rfl) ?_
 refine sbl (Cy rfl rfl) fun z7 hz7=>?_
 refine wh h6 ?_
 rcases zi hz7 hr with ⟨e6a,_,f4d⟩ | ⟨e6a,_,f5d⟩
 ·refine ct e6a<|ws fun h6d=>Ah<|sV2 (Ab rfl) (Ab rfl) ?_
  refine wh h6d<|wp_ret ?_
  exact Gd f4d rfl (Res.tmp rfl (Res.tmp rfl Res.nil)) (AJ (Ext.refl _) ⟨none,0,none,0,rfl,(RU.nil _),(RU.nil _)⟩)
 ·refine cf e6a<|wp_skip<|h5 _ _<|ws fun h7d=>Ah<|Dj (vals:=[(0,.int .u32 1)]) (cs:=[.int .u32 1]) Au Av Jr (by rfl) (by decide) (by kernel_rfl) fun b8d w1 E7a g0i q9d=>?_
  refine nrm ?_
  have n0e:=RL.lit1 q9d (by decide)
  refine sV (Aa rfl) ?_
  refine scr f5d (Ac MK (by rfl)) (DY x0 A1 c2 w1 (tbx E7a hT) (n3.ext E7a)) fun r8a f1e w2 E6b=>?_
  have X7b:=xtr E7a E6b
  refine sV2 (AV (c:=wi64 (r8a+1)) rfl rfl rfl) (Ji (c:=wi64 ((wi64 (r8a+1)).tdiv 2)) (by decide) rfl rfl rfl) ?_
  refine scn f1e (Ac Ko (by rfl)) (CL 1 (wi64 ((wi64 (r8a+1)).tdiv 2)) (some ⟨b8d,0,none⟩) 1 w2 (tbx X7b hT) (n0e.ext E6b)) fun r2e f32 w3 A3e c4e E5e n6e=>?_
  have X7e:=xtr X7b E5e
  refine sV (Ab rfl) ?_
  refine wh h7d ?_
  apply wp_block
  refine Bp (fun l n8b l' w'=>∃(v0a:Nat) (A1a:OA) (c2a:Nat),Ext w3 w'∧RU w' A1a c2a v0a∧FI x0 n8b v0a=some r∧Fr l' (fun t9a=>.slice A1 (sz x0) c2::gp t9a 1 3 (.slice A1a (sz v0a) c2a::gp t9a 5 33 []))) 18446744073709551616 ?_ ?_ ?_
  ·exact ⟨r2e,A3e,c4e,(Ext.refl _),n6e,f32,(Fr.mk (by kernel_rfl))⟩
  ·rintro l' w' ⟨v0a,A1a,c2a,_,_,hz,_⟩
   exact nomatch hz
  ·rintro n8b ih8e _ w4 ⟨v0a,A1a,c2a,U9b,n0b,hr0c,⟨t9a,rfl⟩⟩ l'' hl
   simp only [gp,Nat.reduceAdd] at hl
   subst hl
   unfold FI at hr0c
   refine AW ?_
   have X1b:=xtr X7e U9b
   apply wp_block
   refine ws fun h9e=>Ah<|sV2 (Aa rfl) (Aa rfl) ?_
   obtain ⟨r1c,h0f,f1f⟩:=Ad hr0c
   refine sc (Ac RM (by rfl)) (Jb x0 v0a A1 c2 A1a c2a w4 (tbx X1b hT) (n3.ext X1b) n0b r1c h0f) ?_
   rintro _ w5 E5a ⟨A2f,c3f,A1i,c2i,rfl,n4f,n3i⟩
   refine nrm ?_
   have X2c:=xtr X1b E5a
   refine sV3 (Aa rfl) (Ai rfl rfl) (Ai rfl rfl) ?_
   refine sV2 (Ab rfl) (Ab rfl) ?_
   refine nx h9e fun h5f=>sV2 (Aa rfl) (Aa rfl) ?_
   refine scn f1f (Ac Qx (by rfl)) (HN v0a r1c.1 A1a c2a A2f c3f w5 (tbx X2c hT) (n0b.ext E5a) n4f) fun r6f f7f w6 A8f c9f E2b n0g=>?_
   have X3c:=xtr X2c E2b
   refine scn f7f (Ac Oa (by rfl)) (Hc r6f 1 A8f c9f w6 (tbx X3c hT) n0g) fun r4c f1g w7 A5c c6c E3a n7c=>?_
   have X8c:=xtr X3c E3a
   refine sV (Ab rfl) ?_
   refine wh h5f<|ws fun h2g=>ws fun h3g=>Ah<|sV2 (Aa rfl) (Aa rfl) ?_
   have q3b:=(n0b.ext E5a).ext E2b
   have n4g:=q3b.ext E3a
   refine scr f1g (Ac NX (by rfl)) (GZ r4c v0a A5c c6c A1a c2a w7 (tbx X8c hT) n7c n4g) fun r4i f5g w8 E4a=>?_
   have X9c:=xtr X8c E4a
   refine sbl (Hb rfl rfl) fun z0d hz0d=>?_
   refine wh h3g ?_
   rcases zi hz0d f5g with ⟨e4b,_,f6g⟩ | ⟨e4b,_,f7g⟩
   ·refine ct e4b<|ws fun h8g=>Ah<|sV3 (Aa rfl) (Aa rfl) (Aa rfl) ?_
    refine sV (Aa rfl) ?_
    have n1d:=(q3b.ext E3a).ext E4a
    refine scn f6g (Ac RW (by rfl)) (IR v0a v0a A1a c2a A1a c2a w8 (tbx X9c hT) n1d n1d) fun r9g f0h w9 A1h c2h E2d n3h=>?_
    have X5b:=xtr X9c E2d
    refine scn f0h (Ac NV (by rfl)) (Gq x0 r9g A1 c2 A1h c2h w9 (tbx X5b hT) (n3.ext X5b) n3h) fun r5i f4h w6i A5h c6h E3d n7h=>?_
    have X8h:=xtr X5b E3d
    refine sV2 (Ab rfl) (Ab rfl) ?_
    refine wh h8g<|wp_ret ?_
    have n9h:=(((q3b.ext E3a).ext E4a).ext E2d).ext E3d
    exact Gd f4h rfl (Res.tmp rfl (Res.tmp rfl Res.nil)) (AJ X8h ⟨A1a,c2a,A5h,c6h,rfl,n9h,n7h⟩)
   ·refine cf e4b<|wp_skip<|h2g _ _<|Ah<|sV2 (Aa rfl) (Ab rfl) ?_
    refine AF ?_
    exact ih8e _ _ ⟨r4c,A5c,c6c,((((U9b.trans E5a).trans E2b).trans E3a).trans E4a),(n7c.ext E4a),f7g,(Fr.mk (by kernel_rfl))⟩
theorem NH (x0:Aj) (x1:Int) (x2:Int) (A1:OA) (c2:Nat) (w:World) (hT:TB w) (n3:RU w A1 c2 x0.m.Abs) (r:Aj) (hr:EN x0 x1 x2=some r) :
  Calls prog 111 #[.agg #[.bool x0.m.Neg,.slice A1 (sz x0.m.Abs) c2,.int .i64 x0.e],.int .i64 x1,.int .i64 x2] w (Ret Jd w r):=by
 unfold EN at hr
 go_enter func111,ntmps111
 refine ws fun h4=>Ah<|sbx rfl rfl fun b5 w1 E6 g7 q8=>?_
 refine sal Bg fun b9 w2 E6a g8c q7b=>?_
 have g8b:=nlt E6.size g8c
 have X8a:=xtr E6 E6a
 refine wh h4<|ws fun h9c=>ws fun h0d=>Ah<|sV (Ak Aw rfl (q8.ext E6a) rfl) ?_
 refine scr hr (Ac Kq (by rfl)) (CP x0 A1 c2 w2 (tbx X8a hT) (n3.ext X8a)) fun r4g f1d w3 E2a=>?_
 have X7a:=xtr X8a E2a
 refine sbl (Cy rfl rfl) fun z9b hz9b=>?_
 refine wh h0d ?_
 rcases zi hz9b f1d with ⟨e9a,_,f2d⟩ | ⟨e9a,_,f3d⟩
 ·refine ct e9a<|ws fun h4d=>Ah<|sV (AL (vals:=[]) (cells:=[.bool false,.slice none 0 0,.int .i64 0]) (by rfl) (by kernel_rfl)) ?_
  refine ss BC (q7b.ext E2a) fun w4 U5d q6d=>?_
  have X7d:=belU X7a U5d g8b
  refine wh h4d<|wp_ret ?_
  exact He f2d Aw q6d X7d ⟨none,0,rfl,(RU.nil _)⟩
 ·refine cf e9a<|wp_skip<|h9c _ _<|ws fun h8d=>Ah<|sV3 (Aa rfl) (KS (c:=wi64 (2*x1)) rfl rfl rfl) (AV (c:=wi64 ((wi64 (2*x1))+4)) rfl rfl rfl) ?_
  refine sV3 (Af (o':=0) BJ rfl rfl) (Af (o':=1) Bm rfl rfl) (Ag CZ rfl (Bx.cell ((q8.ext E6a).ext E2a) rfl)) ?_
  refine scr f3d (Ac MK (by rfl)) (DY x0.m.Abs A1 c2 w3 (tbx X7a hT) (n3.ext X7a)) fun r3a f9d w4 E0b=>?_
  have X1b:=xtr X7a E0b
  refine sV3 (Bt (c:=wi64 ((wi64 ((wi64 (2*x1))+4)) - r3a)) rfl rfl rfl) (OC rfl rfl) (Ab rfl) ?_
  have q2b:=((q8.ext E6a).ext E2a).ext E0b
  refine wh h8d<|ws fun h0e=>ws fun h1e=>Ah<|sV3 (Af (o':=2) CK rfl rfl) (Ag GR rfl (Bx.cell q2b rfl)) (Aa rfl) ?_
  refine sV2 (Bt (c:=wi64 (x0.e - (max 0 (wi64 ((wi64 ((wi64 (2*x1))+4)) - r3a))))) rfl rfl rfl) (Qf (k:=.i64) rfl rfl) ?_
  refine sbl (Il rfl rfl) fun z0c hz0c=>?_
  refine wh h1e ?_
  obtain ⟨m1a,h2e,f3e⟩:=Ad f9d
  refine CG (fun l l' w'=>∃(t1c:Value) (t2c:Value),w4=w'∧l'=(((l.set 7 (.int .i64 m1a)).set 29 t1c).set 30 t2c)) ?_ ?_
  ·rcases zi hz0c h2e with ⟨e3b,_,f4e⟩ | ⟨e3b,_,f5e⟩
   ·refine ct e3b<|Ah<|sV3 (Aa rfl) (AV (c:=wi64 ((max 0 (wi64 ((wi64 ((wi64 (2*x1))+4)) - r3a)))+1)) rfl rfl rfl) (Ab rfl) ?_
    refine AF ?_
    obtain rfl:=sj f4e
    exact ⟨_,rfl,(.int .i64 (max 0 (wi64 ((wi64 ((wi64 (2*x1))+4)) - r3a)))),(.int .i64 (wi64 ((max 0 (wi64 ((wi64 ((wi64 (2*x1))+4)) - r3a)))+1))),rfl,(by kernel_rfl)⟩
   ·refine cf e3b<|wp_skip ?_
    obtain rfl:=sj f5e
    exact ⟨_,rfl,uu,uu,rfl,(by kernel_rfl)⟩
  ·rintro _ _ ⟨t1c,t2c,rfl,rfl⟩ _ rfl
   refine h0e _ _<|ws fun h6e=>Ah<|sV3 (Af (o':=0) BJ rfl rfl) (Af (o':=1) Bm rfl rfl) (Ag CZ rfl (Bx.cell q2b rfl)) ?_
   refine sV (Aa rfl) ?_
   refine scn f3e (Ac Ko (by rfl)) (CL x0.m.Abs m1a A1 c2 w4 (tbx X1b hT) (n3.ext X1b)) fun r7e f8e w5 A9e c0f E4b n1f=>?_
   have X3c:=xtr X1b E4b
   obtain ⟨r0a,h2f,f3f⟩:=Ad f8e
   refine sc (Ac en_190 (by rfl)) (c_wide_Nat_Root r7e A9e c0f w5 (tbx X3c hT) n1f r0a h2f) ?_
   rintro _ w6 E5b ⟨A4a,c5a,A5g,c6g,rfl,n4f,n7g⟩
   refine nrm ?_
   have X4c:=xtr X3c E5b
   refine sV3 (Aa rfl) (Ai rfl rfl) (Ai rfl rfl) ?_
   refine sV2 (Ab rfl) (Ab rfl) ?_
   refine nx h6e fun h5f=>sV2 (Aa rfl) (AL (vals:=[(1,.slice A4a (sz r0a.1) c5a)]) (cells:=[.bool false,.slice A4a (sz r0a.1) c5a]) (by rfl) (by kernel_rfl)) ?_
   refine sV (Af (o':=2) CK rfl rfl) ?_
   have q6f:=(q2b.ext E4b).ext E5b
   refine sV3 (Ag GR rfl (Bx.cell q6f rfl)) (Aa rfl) (Bt (c:=wi64 (x0.e - m1a)) rfl rfl rfl) ?_
   refine sV (Ji (c:=wi64 ((wi64 (x0.e - m1a)).tdiv 2)) (by decide) rfl rfl rfl) ?_
   refine sV (AL (vals:=[(0,.agg #[.bool false,.slice A4a (sz r0a.1) c5a]),(1,.int .i64 (wi64 ((wi64 (x0.e - m1a)).tdiv 2)))]) (cells:=[.bool false,.slice A4a (sz r0a.1) c5a,.int .i64 (wi64 ((wi64 (x0.e - m1a)).tdiv 2))]) (by rfl) (by kernel_rfl)) ?_
   refine sV3 (Aa rfl) (Aa rfl) (Aa rfl) ?_
   refine sV (AD Au rfl) ?_
   refine sbl (Eh rfl rfl) fun z6b hz6b=>?_
   obtain rfl:z6b=decide (0<(sz r0a.2:Int)):=bz hz6b
   refine scn f3f (Ac LA (by rfl)) (DC (⟨(⟨false,r0a.1⟩:Ae),(wi64 ((wi64 (x0.e - m1a)).tdiv 2))⟩:Aj) x1 x2 (decide (0<(sz r0a.2:Int))) A4a c5a w6 (tbx X4c hT) n4f) fun r8g f7f w7 A8f c9f E5c n0g=>?_
   have X1g:=xtr X4c E5c
   have q6c:=((((q7b.ext E2a).ext E0b).ext E4b).ext E5b).ext E5c
   refine ss BC q6c fun w8 U7c q2g=>?_
   have X3g:=belU X1g U7c g8b
   refine wh h5f<|wp_ret ?_
   exact He f7f Aw q2g X3g ⟨A8f,c9f,rfl,(n0g.upd U7c q6c (by decide))⟩
theorem c_dyad_Root_1 (x0:An) (x1:An) (x2:Int) (A1:OA) (c2:Nat) (A4:OA) (c5:Nat) (A7:OA) (c8:Nat) (A1b:OA) (c7c:Nat) (w:World) (hT:TB w) (n3:RU w A1 c2 x0.lo.m.Abs) (n6:RU w A4 c5 x0.hi.m.Abs) (n9:RU w A7 c8 x1.lo.m.Abs) (n3g:RU w A1b c7c x1.hi.m.Abs) (r:Except Int (Ao)) (hr:Ga x0 x1 x2=some r) :
  Calls prog 110 #[.agg #[.bool x0.lo.m.Neg,.slice A1 (sz x0.lo.m.Abs) c2,.int .i64 x0.lo.e,.bool x0.hi.m.Neg,.slice A4 (sz x0.hi.m.Abs) c5,.int .i64 x0.hi.e],.agg #[.bool x1.lo.m.Neg,.slice A7 (sz x1.lo.m.Abs) c8,.int .i64 x1.lo.e,.bool x1.hi.m.Neg,.slice A1b (sz x1.hi.m.Abs) c7c,.int .i64 x1.hi.e],.int .i64 x2] w (RetE 201 Ld w r):=by
 unfold Ga at hr
 go_enter func110,ntmps110
 refine ws fun h6d=>Ah<|sbx rfl rfl fun b4g w1 E8c g5g q7d=>?_
 refine sbx rfl rfl fun b6g w2 E9c g8d q7g=>?_
 have g8g:=nlt E8c.size g8d
 have X0d:=xtr E8c E9c
 refine sal Gp fun b9g w3 E1d g9d q0e=>?_
 have g1e:=nlt X0d.size g9d
 have X2b:=xtr X0d E1d
 have q2d:=(q7d.ext E9c).ext E1d
 refine nx h6d fun h2e=>sV2 (Af (o':=0) CM rfl rfl) (dld Aw q2d) ?_
 refine scr hr (Ac Kq (by rfl)) (CP x0.lo A1 c2 w3 (tbx X2b hT) (n3.ext X2b)) fun r3b f3e w4 E4b=>?_
 have X5a:=xtr X2b E4b
 refine sbl (Hb rfl rfl) fun z5b hz5b=>?_
 obtain rfl:z5b=decide (0≤r3b):=bz hz5b
 rcases AC f3e with ⟨r6b,h7b,f4e⟩ | ⟨r6b,h7b,rfl⟩
 ·refine scO (Ac FS (by rfl)) (Bs (decide (0≤r3b)) 3 w4 (tbx X5a hT)  (.ok r6b) h7b) ?_
  rintro _ w5 E2a rfl
  refine nrm ?_
  have X5e:=xtr X5a E2a
  refine wh h2e<|ws fun h6e=>DT [10] 11 mo rfl fun w6 E8b S9b=>have X0c:=xtr X5e E8b;dA 0 rfl (fun _=>Af (o':=0) CM rfl rfl) ?_
  have q3d:=((q2d.ext E4b).ext E2a).ext E8b
  refine dV 1 rfl (fun _ hw=>dld Aw (q3d.ext hw)) S9b ?_
  refine dA2 2 4 rfl rfl (fun _=>Aa rfl) (fun _=>Af (o':=3) Da rfl rfl) ?_
  refine dV 5 rfl (fun _ hw=>dld Aw (q3d.ext hw)) S9b ?_
  refine dA 6 rfl (fun _=>Aa rfl) ?_
  refine dcn f4e 3 rfl (by rfl) (Ac Ro (by rfl)) (NH x0.lo x2 5 A1 c2 w6 (tbx X0c hT) (n3.ext X0c)) fun r0a f7e w7 A6a c7a E1c n4d=>?_
  have X2c:=xtr X0c E1c
  have S8e:=S9b.trans E1c
  refine dcn f7e 7 rfl (by rfl) (Ac Ro (by rfl)) (NH x0.hi x2 4 A4 c5 w7 (tbx X2c hT) (n6.ext X2c)) fun r1a f9e w8 A8a c9a E3a n5d=>?_
  have X0b:=xtr X2c E3a
  have S0f:=S8e.trans E3a
  refine dA 8 rfl (fun _=>AL (vals:=[(0,.agg #[.bool r0a.m.Neg,.slice A6a (sz r0a.m.Abs) c7a,.int .i64 r0a.e]),(1,.agg #[.bool r1a.m.Neg,.slice A8a (sz r1a.m.Abs) c9a,.int .i64 r1a.e])]) (cells:=[.bool r0a.m.Neg,.slice A6a (sz r0a.m.Abs) c7a,.int .i64 r0a.e,.bool r1a.m.Neg,.slice A8a (sz r1a.m.Abs) c9a,.int .i64 r1a.e]) (by rfl) (by kernel_rfl)) ?_
  rcases AC f9e with ⟨r3c,h4c,f1f⟩ | ⟨r3c,h4c,rfl⟩
  ·refine dcO 9 rfl (by kernel_rfl) (by rfl) (Ac Je (by rfl)) (BS (⟨r0a,r1a⟩:An) A6a c7a A8a c9a w8 (tbx X0b hT) (n4d.ext E3a) n5d (.ok r3c) h4c) ?_
   rintro _ w9 E4a ⟨A2f,c3f,A4f,c5f,rfl,n6f,n7f⟩
   refine dnrm ?_
   have X8f:=xtr X0b E4a
   have S0h:=S0f.trans E4a
   have q5c:=(((((q0e.ext E4b).ext E2a).ext E8b).ext E1c).ext E3a).ext E4a
   refine dkk 10 EG q5c fun w1b U6c q9f=>?_
   have X0g:=belU X8f U6c g1e
   refine Cx (by kernel_rfl) ?_
   refine h6e _ _<|wp_ret ?_
   exact Gd f1f rfl (Res.cellN rfl BB q9f rfl rfl Res.nil) (Cl X0g ⟨A2f,c3f,A4f,c5f,rfl,(n6f.upd U6c q5c (by decide)),(n7f.upd U6c q5c (by decide))⟩)
  ·refine dcP 9 rfl (by kernel_rfl) (by rfl) (Ac Je (by rfl)) (BS (⟨r0a,r1a⟩:An) A6a c7a A8a c9a w8 (tbx X0b hT) (n4d.ext E3a) n5d (.error r3c) h4c) fun w9 E4a=>?_
   have X1g:=xtr X0b E4a
   exact ⟨rfl,AP X1g⟩
 ·refine scP (Ac FS (by rfl)) (Bs (decide (0≤r3b)) 3 w4 (tbx X5a hT)  (.error r6b) h7b) fun w5 E2a=>?_
  have X2g:=xtr X5a E2a
  exact ⟨rfl,AP X2g⟩
theorem c_dyad_made_Span__dyad_Root_1 (x0:Am) (x1:Am) (x2:Int) (A1:OA) (c2:Nat) (A4:OA) (c5:Nat) (A7:OA) (c8:Nat) (A0a:OA) (c1a:Nat) (w:World) (hT:TB w) (n3:RLu w A1 c2 x0.Lo.Man.Abs) (n6:RLu w A4 c5 x0.Hi.Man.Abs) (n9:RLu w A7 c8 x1.Lo.Man.Abs) (n2a:RLu w A0a c1a x1.Hi.Man.Abs) (r:Ao × Int) (hr:Fv x0 x1 x2=some r) :
  Calls prog 100 #[.agg #[.bool x0.Lo.Man.Neg,.slice A1 x0.Lo.Man.Abs.length c2,.int .i64 x0.Lo.Exp,.bool x0.Hi.Man.Neg,.slice A4 x0.Hi.Man.Abs.length c5,.int .i64 x0.Hi.Exp],.agg #[.bool x1.Lo.Man.Neg,.slice A7 x1.Lo.Man.Abs.length c8,.int .i64 x1.Lo.Exp,.bool x1.Hi.Man.Neg,.slice A0a x1.Hi.Man.Abs.length c1a,.int .i64 x1.Hi.Exp],.int .i64 x2,.func (.func 110) #[] #[]] w (Ret FF w r):=Nv Ga en_110 c_dyad_Root_1 x0 x1 x2 A1 c2 A4 c5 A7 c8 A0a c1a w hT n3 n6 n9 n2a r hr
theorem NB (x0:Am) (x1:Int) (A1:OA) (c2:Nat) (A4:OA) (c5:Nat) (w:World) (hT:TB w) (n3:RLu w A1 c2 x0.Lo.Man.Abs) (n6:RLu w A4 c5 x0.Hi.Man.Abs) (r:Ao × Int) (hr:GC x0 x1=some r) :
  Calls prog 25 #[.agg #[.bool x0.Lo.Man.Neg,.slice A1 x0.Lo.Man.Abs.length c2,.int .i64 x0.Lo.Exp,.bool x0.Hi.Man.Neg,.slice A4 x0.Hi.Man.Abs.length c5,.int .i64 x0.Hi.Exp],.int .i64 x1] w (Ret FF w r):=by
 unfold GC at hr
 go_enter func25,ntmps25
 refine ws fun h7=>Ah<|sbx rfl rfl fun b8 w1 E9 g3c q5a=>?_
 refine sal Gp fun b4c w2 E2a g6a q3a=>?_
 have g7a:=nlt E9.size g6a
 have X0a:=xtr E9 E2a
 refine sV (Ab rfl) ?_
 refine nx h7 fun h8a=>sV3 (Ak BB rfl (q5a.ext E2a) rfl) (Ak BB rfl (q5a.ext E2a) rfl) (Aa rfl) ?_
 obtain ⟨r9a,h0b,f1b⟩:=Ad hr
 refine sc (Ac Nx (by rfl)) (c_dyad_made_Span__dyad_Root_1 x0 x0 x1 A1 c2 A4 c5 A1 c2 A4 c5 w2 (tbx X0a hT) (n3.ext X0a) (n6.ext X0a) (n3.ext X0a) (n6.ext X0a) r9a h0b) ?_
 rintro _ w3 E1a ⟨A2b,c3b,A4b,c5b,rfl,n6b,n7b⟩
 refine nrm ?_
 have X8b:=xtr X0a E1a
 refine sV2 (Ai rfl rfl) (Ai rfl rfl) ?_
 refine ss EG (q3a.ext E1a) fun w4 U4a q9b=>?_
 have X0c:=belU X8b U4a g7a
 refine sV (Ab rfl) ?_
 refine wh h8a<|wp_ret ?_
 have n1c:=n6b.upd U4a (q3a.ext E1a) (by decide)
 have n2c:=n7b.upd U4a (q3a.ext E1a) (by decide)
 exact Gd f1b rfl (Res.cellN rfl BB q9b rfl rfl (Res.tmp rfl Res.nil)) (AJ X0c ⟨A2b,c3b,A4b,c5b,rfl,n1c,n2c⟩)
set_option maxRecDepth 20000 in
theorem Jl (w:World) (hT:TB w) (r:Bool) (hr:EV=some r) :
  Calls prog 15 #[] w (Ret Gi w r):=by
 unfold EV at hr
 refine Na func15 rfl 119 ?_
 refine ws fun h1=>Ah<|sV (Ab rfl) ?_
 refine wh h1<|ws fun h2=>Ah ?_
 refine scn hr (Ac SJ (by rfl)) (JF 12 w hT) fun r3 f5 w1 A7 c8 E6 n9=>?_
 refine scn f5 (Ac en_60 (by rfl)) (c_dyad_Make (⟨r3.Neg,(limbs r3.Abs)⟩:Ar) 3 A7 c8 w1 (tbx E6 hT) n9) fun r1l f9h w2 A0i c2l E1i n3l=>?_
 have X2i:=xtr E6 E1i
 refine sV3 (Aa rfl) (Ai rfl rfl) (Ai rfl rfl) ?_
 refine sal Jn fun b4e w3 E3i g2g q4i=>?_
 have g4l:=nlt X2i.size g2g
 refine ss Gw q4i fun w4 U5i q6i=>?_
 have F3g:=belU E3i U5i g2g
 have X4g:=xtr X2i F3g
 refine sV (Ab rfl) ?_
 refine wh h2<|ws fun h7i=>Ah ?_
 refine scn f9h (Ac Me (by rfl)) (BA 11 0 w4 (tbx X4g hT)) fun r5g f8i w5 A9i c0j E5e n1j=>?_
 have X2j:=xtr X4g E5e
 refine scn f8i (Ac SS (by rfl)) (MO (⟨(⟨r5g.Man.Neg,(limbs r5g.Man.Abs)⟩:Ar),r5g.Exp⟩:Aq) 3 1 A9i c0j w5 (tbx X2j hT) n1j) fun r6e f5l w6 A3j c6l E6g n7l=>?_
 have X7g:=xtr X2j E6g
 refine sV3 (Aa rfl) (Ai rfl rfl) (Ai rfl rfl) ?_
 refine sal Jn fun b6t w7 E8l g8g q9l=>?_
 have g7t:=nlt X7g.size g8g
 refine ss Gw q9l fun w8 U7e q4j=>?_
 have F9g:=belU E8l U7e g8g
 have X0m:=xtr X7g F9g
 refine sV (Ab rfl) ?_
 refine wh h7i<|ws fun h8t=>Ah ?_
 refine scn f5l (Ac Me (by rfl)) (BA (-11) 0 w8 (tbx X0m hT)) fun r5j f9t w9 A0u c1u E8e n2u=>?_
 have X1m:=xtr X0m E8e
 refine scn f9t (Ac SS (by rfl)) (MO (⟨(⟨r5j.Man.Neg,(limbs r5j.Man.Abs)⟩:Ar),r5j.Exp⟩:Aq) 2 5 A0u c1u w9 (tbx X1m hT) n2u) fun r0h f3u w1l A4u c5u E9e n6u=>?_
 have X2m:=xtr X1m E9e
 refine sV3 (Aa rfl) (Ai rfl rfl) (Ai rfl rfl) ?_
 refine sal Jn fun b2ai w3ai E7u g3m q8u=>?_
 have g4ai:=nlt X2m.size g3m
 refine ss Gw q8u fun w9h U9u q0v=>?_
 have F9d:=belU E7u U9u g3m
 have X4m:=xtr X2m F9d
 refine sV (Ab rfl) ?_
 refine wh h8t<|ws fun h1v=>Ah ?_
 obtain ⟨r3c,h2v,f3v⟩:=Ad f3u
 refine sc (Ac NI (by rfl)) (CX (-1) 2 w9h (tbx X4m hT)  r3c h2v) ?_
 rintro _ w1i E4c ⟨A4v,c5v,A6v,c7v,rfl,n8v,n9v⟩
 refine nrm ?_
 have X5m:=xtr X4m E4c
 obtain ⟨r5c,h0w,f1w⟩:=Ad f3v
 refine sc (Ac NI (by rfl)) (CX (-3) 5 w1i (tbx X5m hT)  r5c h0w) ?_
 rintro _ w0i E7b ⟨A2w,c3w,A4w,c5w,rfl,n6w,n7w⟩
 refine nrm ?_
 have X6m:=xtr X5m E7b
 obtain ⟨r0f,h8w,f9w⟩:=Ad f1w
 refine sc (Ac SW (by rfl)) (MR (⟨(⟨(⟨r3c.Lo.Man.Neg,(limbs r3c.Lo.Man.Abs)⟩:Ar),r3c.Lo.Exp⟩:Aq),(⟨(⟨r3c.Hi.Man.Neg,(limbs r3c.Hi.Man.Abs)⟩:Ar),r3c.Hi.Exp⟩:Aq)⟩:Am) (⟨(⟨(⟨r5c.Lo.Man.Neg,(limbs r5c.Lo.Man.Abs)⟩:Ar),r5c.Lo.Exp⟩:Aq),(⟨(⟨r5c.Hi.Man.Neg,(limbs r5c.Hi.Man.Abs)⟩:Ar),r5c.Hi.Exp⟩:Aq)⟩:Am) 8 A4v c5v A6v c7v A2w c3w A4w c5w w0i (tbx X6m hT) (n8v.ext E7b) (n9v.ext E7b) n6w n7w r0f h8w) ?_
 rintro _ w2l E6c ⟨A0x,c1x,A2x,c3x,rfl,n4x,n5x⟩
 refine nrm ?_
 have X7m:=xtr X6m E6c
 refine sV3 (Aa rfl) (Ai rfl rfl) (Ai rfl rfl) ?_
 refine sal Gp fun b5ai w3l E6x g8m q7x=>?_
 have g6ai:=nlt X7m.size g8m
 refine ss EG q7x fun w2i U8x q9x=>?_
 have F8b:=belU E6x U8x g8m
 have X0y:=xtr X7m F8b
 refine sV (Ab rfl) ?_
 refine wh h1v<|ws fun h1y=>ws fun h1f=>DT [] 38 mo rfl fun w4e E5b S9m=>have X6j:=xtr X0y E5b;dA 0 rfl (fun _=>Aa rfl) ?_
 refine dab 1 rfl (by kernel_rfl) (fun _ _ _ h=>h) (by rfl) (fun _=>Il rfl rfl) fun z0n hz0n=>?_
 refine dnrm ?_
 refine dA 2 rfl (fun _=>Aa rfl) ?_
 obtain ⟨m2y,h3y,f4y⟩:=Ad f9w
 refine Kn (tb 38 63) 32 (fun l l' w'=>∃(t1n:Value) (t2n:Value),w4e=w'∧l'=(((l.set 39 t1n).set 40 t2n).set 41 (.bool m2y))) ?_ ?_
 ·intro HJ144
  rcases zi hz0n h3y with ⟨e7c,_,f5y⟩ | ⟨e7c,_,f6y⟩
  ·refine dP 3 rfl ?_ (hw:=wgF rfl e7c)
   refine dP 4 rfl ?_ (hw:=wgF rfl e7c)
   refine dA 5 rfl (fun _=>Az (evb rfl e7c) rfl) ?_
   obtain rfl:=sj f5y
   exact dls (HJ144 _ _ ⟨uu,uu,rfl,(by kernel_rfl)⟩)
  ·refine dA 3 rfl (fun _=>Aa rfl) ?_ (hw:=wgT rfl e7c)
   refine dab 4 rfl (by kernel_rfl) (fun _ _ _ h=>h) (wgT rfl e7c) (fun _=>Il rfl rfl) fun z7j hz7j=>?_
   refine dnrm ?_
   refine dA 5 rfl (fun _=>AE (evb rfl e7c) rfl) ?_
   obtain rfl:z7j=decide (¬r6e.2=0):=bz hz7j
   obtain rfl:=sj f6y
   exact dls (HJ144 _ _ ⟨(.int .i64 r6e.2),(.bool (decide (¬r6e.2=0))),rfl,(by kernel_rfl)⟩)
 ·rintro l' _ ⟨t1n,t2n,rfl,rfl⟩ l'' hl
  simp only [S0,S1] at hl;subst hl
  refine dA 6 rfl (fun _=>Aa rfl) ?_
  obtain ⟨m7y,h8y,f9y⟩:=Ad f4y
  refine Kn (tb 38 1023) 28 (fun l l' w'=>∃(t3n:Value) (t4n:Value),w4e=w'∧l'=(((l.set 43 t3n).set 44 t4n).set 45 (.bool m7y))) ?_ ?_
  ·intro HJ163
   rcases zb h8y with ⟨e8c,f0z⟩ | ⟨e8c,f1z⟩
   ·refine dP 7 rfl ?_ (hw:=wgF rfl e8c)
    refine dP 8 rfl ?_ (hw:=wgF rfl e8c)
    refine dA 9 rfl (fun _=>Az (evb rfl e8c) rfl) ?_
    obtain rfl:=sj f0z
    exact dls (HJ163 _ _ ⟨uu,uu,rfl,(by kernel_rfl)⟩)
   ·refine dA 7 rfl (fun _=>Aa rfl) ?_ (hw:=wgT rfl e8c)
    refine dab 8 rfl (by kernel_rfl) (fun _ _ _ h=>h) (wgT rfl e8c) (fun _=>Il rfl rfl) fun z8j hz8j=>?_
    refine dnrm ?_
    refine dA 9 rfl (fun _=>AE (evb rfl e8c) rfl) ?_
    obtain rfl:z8j=decide (¬r0h.2=0):=bz hz8j
    obtain rfl:=sj f1z
    exact dls (HJ163 _ _ ⟨(.int .i64 r0h.2),(.bool (decide (¬r0h.2=0))),rfl,(by kernel_rfl)⟩)
  ·rintro l' _ ⟨t3n,t4n,rfl,rfl⟩ l'' hl
   simp only [S0,S1] at hl;subst hl
   refine dA 10 rfl (fun _=>Aa rfl) ?_
   obtain ⟨m2z,h3z,f4z⟩:=Ad f9y
   refine Kn (tb 38 16383) 24 (fun l l' w'=>∃(t5n:Value) (t6n:Value),w4e=w'∧l'=(((l.set 47 t5n).set 48 t6n).set 49 (.bool m2z))) ?_ ?_
   ·intro HJ182
    rcases zb h3z with ⟨e9c,f5z⟩ | ⟨e9c,f6z⟩
    ·refine dP 11 rfl ?_ (hw:=wgF rfl e9c)
     refine dP 12 rfl ?_ (hw:=wgF rfl e9c)
     refine dA 13 rfl (fun _=>Az (evb rfl e9c) rfl) ?_
     obtain rfl:=sj f5z
     exact dls (HJ182 _ _ ⟨uu,uu,rfl,(by kernel_rfl)⟩)
    ·refine dA 11 rfl (fun _=>Aa rfl) ?_ (hw:=wgT rfl e9c)
     refine dab 12 rfl (by kernel_rfl) (fun _ _ _ h=>h) (wgT rfl e9c) (fun _=>Il rfl rfl) fun z9j hz9j=>?_
     refine dnrm ?_
     refine dA 13 rfl (fun _=>AE (evb rfl e9c) rfl) ?_
     obtain rfl:z9j=decide (¬r0f.2=0):=bz hz9j
     obtain rfl:=sj f6z
     exact dls (HJ182 _ _ ⟨(.int .i64 r0f.2),(.bool (decide (¬r0f.2=0))),rfl,(by kernel_rfl)⟩)
   ·rintro l' _ ⟨t5n,t6n,rfl,rfl⟩ l'' hl
    simp only [S0,S1] at hl;subst hl
    refine dA 14 rfl (fun _=>Aa rfl) ?_
    rcases zb f4z with ⟨e9a,f7z⟩ | ⟨e9a,f8z⟩
    ·refine dP 15 rfl ?_ (hw:=wgF rfl e9a)
     refine dP 16 rfl ?_ (hw:=wgF rfl e9a)
     refine dP 17 rfl ?_ (hw:=wgF rfl e9a)
     refine dP 18 rfl ?_ (hw:=wgF rfl e9a)
     refine dA2 19 20 rfl rfl (fun _=>Az (evb rfl e9a) rfl) (fun _=>Aa rfl) ?_
     refine dP 21 rfl ?_ (hw:=wgF rfl rfl)
     refine dP 22 rfl ?_ (hw:=wgF rfl rfl)
     refine dP 23 rfl ?_ (hw:=wgF rfl rfl)
     refine dP 24 rfl ?_ (hw:=wgF rfl rfl)
     refine dA2 25 26 rfl rfl (fun _=>Az (evb rfl rfl) rfl) (fun _=>Aa rfl) ?_
     refine dP 27 rfl ?_ (hw:=wgF rfl rfl)
     refine dP 28 rfl ?_ (hw:=wgF rfl rfl)
     refine dP 29 rfl ?_ (hw:=wgF rfl rfl)
     refine dP 30 rfl ?_ (hw:=wgF rfl rfl)
     refine dA2 31 32 rfl rfl (fun _=>Az (evb rfl rfl) rfl) (fun _=>Aa rfl) ?_
     refine dP 33 rfl ?_ (hw:=wgF rfl rfl)
     refine dP 34 rfl ?_ (hw:=wgF rfl rfl)
     refine dP 35 rfl ?_ (hw:=wgF rfl rfl)
     refine dP 36 rfl ?_ (hw:=wgF rfl rfl)
     refine dA 37 rfl (fun _=>Az (evb rfl rfl) rfl) ?_
     refine Cx (by kernel_rfl) ?_
     refine h1f _ _<|ct rfl<|ws fun h9z=>Ah<|sV (Ab rfl) ?_
     refine wh h9z<|wp_ret ?_
     exact Bn f7z X6j rfl
    ·refine dV 15 rfl (fun _ hw=>Ak DU rfl ((((((((((((q6i.ext E5e).ext E6g).ext F9g).ext E8e).ext E9e).ext F9d).ext E4c).ext E7b).ext E6c).ext F8b).ext E5b).ext hw) rfl) S9m ?_ (hw:=wgT rfl e9a)
     refine dcn f8z 16 rfl (wgT rfl e9a) (Ac Me (by rfl)) (BA 3 5 w4e (tbx X6j hT)) fun r0a0 f1a0 w3i A2a0 c3a0 E0d n4a0=>?_
     have X7n:=xtr X6j E0d
     have S5a0:=S9m.trans E0d
     have n6a0:=((((((((((((n3l.ext F3g).ext E5e).ext E6g).ext F9g).ext E8e).ext E9e).ext F9d).ext E4c).ext E7b).ext E6c).ext F8b).ext E5b).ext E0d
     refine dcr f1a0 17 rfl (wgT rfl e9a) (Ac PI (by rfl)) (FQ r1l.1 r0a0 A0i c2l A2a0 c3a0 w3i (tbx X7n hT) n6a0 n4a0) fun r7ai f7a0 w2g E0e=>?_
     have X0k:=xtr X7n E0e
     have S8n:=S5a0.trans E0e
     refine dab 18 rfl (by kernel_rfl) (fun _ _ _ h=>h) (wgT rfl e9a) (fun _=>FL rfl) fun z9n hz9n=>?_
     refine dnrm ?_
     refine dA2 19 20 rfl rfl (fun _=>AE (evb rfl e9a) rfl) (fun _=>Aa rfl) ?_
     rcases zi hz9n f7a0 with ⟨e0b,_,f8a0⟩ | ⟨e0b,_,f9a0⟩
     ·refine dP 21 rfl ?_ (hw:=wgF rfl e0b)
      refine dP 22 rfl ?_ (hw:=wgF rfl e0b)
      refine dP 23 rfl ?_ (hw:=wgF rfl e0b)
      refine dP 24 rfl ?_ (hw:=wgF rfl e0b)
      refine dA2 25 26 rfl rfl (fun _=>Az (evb rfl e0b) rfl) (fun _=>Aa rfl) ?_
      refine dP 27 rfl ?_ (hw:=wgF rfl rfl)
      refine dP 28 rfl ?_ (hw:=wgF rfl rfl)
      refine dP 29 rfl ?_ (hw:=wgF rfl rfl)
      refine dP 30 rfl ?_ (hw:=wgF rfl rfl)
      refine dA2 31 32 rfl rfl (fun _=>Az (evb rfl rfl) rfl) (fun _=>Aa rfl) ?_
      refine dP 33 rfl ?_ (hw:=wgF rfl rfl)
      refine dP 34 rfl ?_ (hw:=wgF rfl rfl)
      refine dP 35 rfl ?_ (hw:=wgF rfl rfl)
      refine dP 36 rfl ?_ (hw:=wgF rfl rfl)
      refine dA 37 rfl (fun _=>Az (evb rfl rfl) rfl) ?_
      refine Cx (by kernel_rfl) ?_
      refine h1f _ _<|ct rfl<|ws fun h0a1=>Ah<|sV (Ab rfl) ?_
      refine wh h0a1<|wp_ret ?_
      exact Bn f8a0 X0k rfl
     ·refine dV 21 rfl (fun _ hw=>Ak DU rfl (((((((((q4j.ext E8e).ext E9e).ext F9d).ext E4c).ext E7b).ext E6c).ext F8b).ext E5b).ext hw) rfl) S8n ?_ (hw:=wgT rfl e0b)
      refine dcn f9a0 22 rfl (wgT rfl e0b) (Ac Me (by rfl)) (BA 12 0 w2g (tbx X0k hT)) fun r1a1 f2a1 w4i A3a1 c4a1 E1e n5a1=>?_
      have X0o:=xtr X0k E1e
      have S6a1:=S8n.trans E1e
      have n7a1:=(((((((((((n7l.ext F9g).ext E8e).ext E9e).ext F9d).ext E4c).ext E7b).ext E6c).ext F8b).ext E5b).ext E0d).ext E0e).ext E1e
      refine dcr f2a1 23 rfl (wgT rfl e0b) (Ac PI (by rfl)) (FQ r6e.1 r1a1 A3j c6l A3a1 c4a1 w4i (tbx X0o hT) n7a1 n5a1) fun r8ai f8a1 w4l E2f=>?_
      have X1k:=xtr X0o E2f
      have S1o:=S6a1.trans E2f
      refine dab 24 rfl (by kernel_rfl) (fun _ _ _ h=>h) (wgT rfl e0b) (fun _=>FL rfl) fun z2o hz2o=>?_
      refine dnrm ?_
      refine dA2 25 26 rfl rfl (fun _=>AE (evb rfl e0b) rfl) (fun _=>Aa rfl) ?_
      rcases zi hz2o f8a1 with ⟨e1b,_,f9a1⟩ | ⟨e1b,_,f0a2⟩
      ·refine dP 27 rfl ?_ (hw:=wgF rfl e1b)
       refine dP 28 rfl ?_ (hw:=wgF rfl e1b)
       refine dP 29 rfl ?_ (hw:=wgF rfl e1b)
       refine dP 30 rfl ?_ (hw:=wgF rfl e1b)
       refine dA2 31 32 rfl rfl (fun _=>Az (evb rfl e1b) rfl) (fun _=>Aa rfl) ?_
       refine dP 33 rfl ?_ (hw:=wgF rfl rfl)
       refine dP 34 rfl ?_ (hw:=wgF rfl rfl)
       refine dP 35 rfl ?_ (hw:=wgF rfl rfl)
       refine dP 36 rfl ?_ (hw:=wgF rfl rfl)
       refine dA 37 rfl (fun _=>Az (evb rfl rfl) rfl) ?_
       refine Cx (by kernel_rfl) ?_
       refine h1f _ _<|ct rfl<|ws fun h1a2=>Ah<|sV (Ab rfl) ?_
       refine wh h1a2<|wp_ret ?_
       exact Bn f9a1 X1k rfl
      ·refine dV 27 rfl (fun _ hw=>Ak DU rfl ((((((q0v.ext E4c).ext E7b).ext E6c).ext F8b).ext E5b).ext hw) rfl) S1o ?_ (hw:=wgT rfl e1b)
       refine dcn f0a2 28 rfl (wgT rfl e1b) (Ac Me (by rfl)) (BA (-12) 0 w4l (tbx X1k hT)) fun r2a2 f3a2 w4a2 A5a2 c6a2 E3f n7a2=>?_
       have X3o:=xtr X1k E3f
       have S8a2:=S1o.trans E3f
       have n9a2:=((((((((((n6u.ext F9d).ext E4c).ext E7b).ext E6c).ext F8b).ext E5b).ext E0d).ext E0e).ext E1e).ext E2f).ext E3f
       refine dcr f3a2 29 rfl (wgT rfl e1b) (Ac PI (by rfl)) (FQ r0h.1 r2a2 A4u c5u A5a2 c6a2 w4a2 (tbx X3o hT) n9a2 n7a2) fun r9ai f0a3 w5i E1h=>?_
       have X2k:=xtr X3o E1h
       have S4o:=S8a2.trans E1h
       refine dab 30 rfl (by kernel_rfl) (fun _ _ _ h=>h) (wgT rfl e1b) (fun _=>FL rfl) fun z5o hz5o=>?_
       refine dnrm ?_
       refine dA2 31 32 rfl rfl (fun _=>AE (evb rfl e1b) rfl) (fun _=>Aa rfl) ?_
       rcases zi hz5o f0a3 with ⟨e2b,_,f1a3⟩ | ⟨e2b,_,f2a3⟩
       ·refine dP 33 rfl ?_ (hw:=wgF rfl e2b)
        refine dP 34 rfl ?_ (hw:=wgF rfl e2b)
        refine dP 35 rfl ?_ (hw:=wgF rfl e2b)
        refine dP 36 rfl ?_ (hw:=wgF rfl e2b)
        refine dA 37 rfl (fun _=>Az (evb rfl e2b) rfl) ?_
        refine Cx (by kernel_rfl) ?_
        refine h1f _ _<|ct rfl<|ws fun h3a3=>Ah<|sV (Ab rfl) ?_
        refine wh h3a3<|wp_ret ?_
        exact Bn f1a3 X2k rfl
       ·refine dV 33 rfl (fun _ hw=>Ak BB rfl ((q9x.ext E5b).ext hw) rfl) S4o ?_ (hw:=wgT rfl e2b)
        obtain ⟨r6o,h4a3,f5a3⟩:=Ad f2a3
        refine dc 34 rfl (by kernel_rfl) (wgT rfl e2b) (Ac NI (by rfl)) (CX (-6) 10 w5i (tbx X2k hT)  r6o h4a3) ?_
        rintro _ w6i E2h ⟨A6a3,c7a3,A8a3,c9a3,rfl,n0a4,n1a4⟩
        refine dnrm ?_
        have X7o:=xtr X2k E2h
        have S2a4:=S4o.trans E2h
        have n3a4:=((((((((n4x.ext F8b).ext E5b).ext E0d).ext E0e).ext E1e).ext E2f).ext E3f).ext E1h).ext E2h
        have n4a4:=((((((((n5x.ext F8b).ext E5b).ext E0d).ext E0e).ext E1e).ext E2f).ext E3f).ext E1h).ext E2h
        refine dcr f5a3 35 rfl (wgT rfl e2b) (Ac Re (by rfl)) (Hd r0f.1 r6o A0x c1x A2x c3x A6a3 c7a3 A8a3 c9a3 w6i (tbx X7o hT) n3a4 n4a4 n0a4 n1a4) fun r0aj f5a4 w4g E8o=>?_
        have X3k:=xtr X7o E8o
        have S1aj:=S2a4.trans E8o
        refine dab 36 rfl (by kernel_rfl) (fun _ _ _ h=>h) (wgT rfl e2b) (fun _=>FL rfl) fun z9o hz9o=>?_
        refine dnrm ?_
        refine dA 37 rfl (fun _=>AE (evb rfl e2b) rfl) ?_
        refine Cx (by kernel_rfl) ?_
        refine h1f _ _ ?_
        rcases zi hz9o f5a4 with ⟨e4k,_,f6a4⟩ | ⟨e4k,_,f7a4⟩
        ·refine ct e4k<|ws fun h8a4=>Ah<|sV (Ab rfl) ?_
         refine wh h8a4<|wp_ret ?_
         exact Bn f6a4 X3k rfl
        ·refine cf e4k<|wp_skip<|h1y _ _<|ws fun h9a4=>Ah ?_
         obtain ⟨r1d,h0a5,f1a5⟩:=Ad f7a4
         refine sc (Ac NI (by rfl)) (CX 1 1 w4g (tbx X3k hT)  r1d h0a5) ?_
         rintro _ w3g E2a5 ⟨A3a5,c4a5,A5a5,c6a5,rfl,n7a5,n8a5⟩
         refine nrm ?_
         have X0p:=xtr X3k E2a5
         obtain ⟨r2d,h9a5,f0a6⟩:=Ad f1a5
         refine sc (Ac NI (by rfl)) (CX 3 3 w3g (tbx X0p hT)  r2d h9a5) ?_
         rintro _ w7i E5k ⟨A1a6,c2a6,A3a6,c4a6,rfl,n5a6,n6a6⟩
         refine nrm ?_
         have X1p:=xtr X0p E5k
         obtain ⟨r0c,h7a6,f8a6⟩:=Ad f0a6
         refine sc (Ac Ru (by rfl)) (Mc (⟨(⟨(⟨r1d.Lo.Man.Neg,(limbs r1d.Lo.Man.Abs)⟩:Ar),r1d.Lo.Exp⟩:Aq),(⟨(⟨r1d.Hi.Man.Neg,(limbs r1d.Hi.Man.Abs)⟩:Ar),r1d.Hi.Exp⟩:Aq)⟩:Am) (⟨(⟨(⟨r2d.Lo.Man.Neg,(limbs r2d.Lo.Man.Abs)⟩:Ar),r2d.Lo.Exp⟩:Aq),(⟨(⟨r2d.Hi.Man.Neg,(limbs r2d.Hi.Man.Abs)⟩:Ar),r2d.Hi.Exp⟩:Aq)⟩:Am) 4 A3a5 c4a5 A5a5 c6a5 A1a6 c2a6 A3a6 c4a6 w7i (tbx X1p hT) (n7a5.ext E5k) (n8a5.ext E5k) n5a6 n6a6 r0c h7a6) ?_
         rintro _ w5g E9a6 ⟨A2p,c3p,A4p,c5p,rfl,n0a7,n1a7⟩
         refine nrm ?_
         have X6p:=xtr X1p E9a6
         refine sV3 (Aa rfl) (Ai rfl rfl) (Ai rfl rfl) ?_
         refine sal Gp fun b2aj w3aj E2a7 g7p q3a7=>?_
         have g4aj:=nlt X6p.size g7p
         refine ss EG q3a7 fun w8i U4a7 q5a7=>?_
         have F6k:=belU E2a7 U4a7 g7p
         have X8p:=xtr X6p F6k
         refine sV (Ab rfl) ?_
         refine wh h9a4<|ws fun h6a7=>Ah ?_
         obtain ⟨r3d,h7a7,f8a7⟩:=Ad f8a6
         refine sc (Ac NI (by rfl)) (CX 1 1 w8i (tbx X8p hT)  r3d h7a7) ?_
         rintro _ w5e E3h ⟨A9a7,c0a8,A1a8,c2a8,rfl,n3a8,n4a8⟩
         refine nrm ?_
         have X9p:=xtr X8p E3h
         obtain ⟨r4d,h5a8,f6a8⟩:=Ad f8a7
         refine sc (Ac NI (by rfl)) (CX (-1) 1 w5e (tbx X9p hT)  r4d h5a8) ?_
         rintro _ w9i E2e ⟨A7a8,c8a8,A9a8,c0a9,rfl,n1a9,n2a9⟩
         refine nrm ?_
         have X0q:=xtr X9p E2e
         obtain ⟨r4h,h3a9,f4a9⟩:=Ad f6a8
         refine sc (Ac Ru (by rfl)) (Mc (⟨(⟨(⟨r3d.Lo.Man.Neg,(limbs r3d.Lo.Man.Abs)⟩:Ar),r3d.Lo.Exp⟩:Aq),(⟨(⟨r3d.Hi.Man.Neg,(limbs r3d.Hi.Man.Abs)⟩:Ar),r3d.Hi.Exp⟩:Aq)⟩:Am) (⟨(⟨(⟨r4d.Lo.Man.Neg,(limbs r4d.Lo.Man.Abs)⟩:Ar),r4d.Lo.Exp⟩:Aq),(⟨(⟨r4d.Hi.Man.Neg,(limbs r4d.Hi.Man.Abs)⟩:Ar),r4d.Hi.Exp⟩:Aq)⟩:Am) 4 A9a7 c0a8 A1a8 c2a8 A7a8 c8a8 A9a8 c0a9 w9i (tbx X0q hT) (n3a8.ext E2e) (n4a8.ext E2e) n1a9 n2a9 r4h h3a9) ?_
         rintro _ w0j E5h ⟨A5aj,c6aj,A7aj,c8aj,rfl,n9aj,n0ak⟩
         refine nrm ?_
         have X1q:=xtr X0q E5h
         refine sV3 (Aa rfl) (Ai rfl rfl) (Ai rfl rfl) ?_
         refine sV (Ab rfl) ?_
         refine wh h6a7<|ws fun h5a9=>Ah ?_
         obtain ⟨r5d,h6a9,f7a9⟩:=Ad f4a9
         refine sc (Ac NI (by rfl)) (CX 2 2 w0j (tbx X1q hT)  r5d h6a9) ?_
         rintro _ w1j E6h ⟨A8a9,c9a9,A0aa,c1aa,rfl,n2aa,n3aa⟩
         refine nrm ?_
         have X2q:=xtr X1q E6h
         obtain ⟨r3b,h4aa,f5aa⟩:=Ad f7a9
         refine sc (Ac SK (by rfl)) (NB (⟨(⟨(⟨r5d.Lo.Man.Neg,(limbs r5d.Lo.Man.Abs)⟩:Ar),r5d.Lo.Exp⟩:Aq),(⟨(⟨r5d.Hi.Man.Neg,(limbs r5d.Hi.Man.Abs)⟩:Ar),r5d.Hi.Exp⟩:Aq)⟩:Am) 4 A8a9 c9a9 A0aa c1aa w1j (tbx X2q hT) n2aa n3aa r3b h4aa) ?_
         rintro _ w2j E7h ⟨A3q,c4q,A5q,c6q,rfl,n6aa,n7aa⟩
         refine nrm ?_
         have X7q:=xtr X2q E7h
         refine sV3 (Aa rfl) (Ai rfl rfl) (Ai rfl rfl) ?_
         refine sal Gp fun b1ak w6e E8aa g8q q9aa=>?_
         have g2ak:=nlt X7q.size g8q
         refine ss EG q9aa fun w0ab U1ab q2ab=>?_
         have F3e:=belU E8aa U1ab g8q
         have X9q:=xtr X7q F3e
         refine sV (Ab rfl) ?_
         refine wh h5a9<|ws fun h3ab=>Ah ?_
         refine scn f5aa (Ac Me (by rfl)) (BA 5 (-4) w0ab (tbx X9q hT)) fun r1a f4ab w5l A4f c5f E6d n5ab=>?_
         have X0r:=xtr X9q E6d
         refine sal Jn fun b3ak w6g E6ab g1r q7ab=>?_
         have g4ak:=nlt X0r.size g1r
         refine ss Gw q7ab fun w3j U8ab q9ab=>?_
         have F1c:=belU E6ab U8ab g1r
         have X2r:=xtr X0r F1c
         refine wh h3ab<|ws fun h0ac=>Ah ?_
         refine scn f4ab (Ac Me (by rfl)) (BA 11 (-5) w3j (tbx X2r hT)) fun r2a f1ac w6l A6f c7f E9b n2ac=>?_
         have X3r:=xtr X2r E9b
         refine sal Jn fun b5ak w7l E3ac g4r q4ac=>?_
         have g6ak:=nlt X3r.size g4r
         refine ss Gw q4ac fun w7g U5ac q6ac=>?_
         have F6b:=belU E3ac U5ac g4r
         have X5r:=xtr X3r F6b
         refine wh h0ac<|ws fun h7ac=>Ah ?_
         refine scn f1ac (Ac Me (by rfl)) (BA 11 (-3) w7g (tbx X5r hT)) fun r3a f8ac w6t A8f c9f E4b n9ac=>?_
         have X6r:=xtr X5r E4b
         refine sal Jn fun b7ak w8l E0ad g7r q1ad=>?_
         have g8ak:=nlt X6r.size g7r
         refine ss Gw q1ad fun w8g U2ad q3ad=>?_
         have F8a:=belU E0ad U2ad g7r
         have X8r:=xtr X6r F8a
         refine wh h7ac<|ws fun h4ad=>Ah ?_
         refine scn f8ac (Ac Me (by rfl)) (BA 3 (-1) w8g (tbx X8r hT)) fun r4a f5ad w9l A0g c1g E5a n6ad=>?_
         have X9r:=xtr X8r E5a
         refine sal Jn fun b9ak w7t E7ad g0s q8ad=>?_
         have g0al:=nlt X9r.size g0s
         refine ss Gw q8ad fun w8h U9ad q0ae=>?_
         have F0a:=belU E7ad U9ad g0s
         have X7k:=xtr X9r F0a
         refine nx h4ad fun h1ae=>sV (Aa rfl) ?_
         refine sbl (Cy rfl rfl) fun z1s hz1s=>?_
         refine sV (Aa rfl) ?_
         obtain ⟨m2ae,h3ae,f4ae⟩:=Ad f5ad
         refine BH 6 (fun l l' w'=>∃(t2s:Value) (t3s:Value),w8h=w'∧l'=(((l.set 98 t2s).set 99 t3s).set 100 (.bool m2ae))) ?_ ?_
         ·intro HJ493
          rcases zi hz1s h3ae with ⟨e7d,_,f5ae⟩ | ⟨e7d,_,f6ae⟩
          ·refine sV (Aa rfl) ?_ (hw:=wgT rfl e7d)
           refine sbl (Cy rfl rfl) (fun z8k hz8k=>?_) (hw:=wgT rfl e7d)
           refine sV (Az (evb rfl e7d) rfl) ?_
           obtain rfl:z8k=decide (r4h.2=8):=bz hz8k
           obtain rfl:=sj f5ae
           exact HJ493 _ _ ⟨(.int .i64 r4h.2),(.bool (decide (r4h.2=8))),rfl,(by kernel_rfl)⟩
          ·refine sQ rfl e7d ?_
           refine sQ rfl e7d ?_
           refine sV (AE (evb rfl e7d) rfl) ?_
           obtain rfl:=sj f6ae
           exact HJ493 _ _ ⟨uu,uu,rfl,(by kernel_rfl)⟩
         ·rintro l' _ ⟨t2s,t3s,rfl,rfl⟩ l'' hl
          simp only [S0,S1] at hl;subst hl
          refine sV (Aa rfl) ?_
          obtain ⟨m7ae,h8ae,f9ae⟩:=Ad f4ae
          refine BH 10 (fun l l' w'=>∃(t4s:Value) (t5s:Value),w8h=w'∧l'=(((l.set 102 t4s).set 103 t5s).set 104 (.bool m7ae))) ?_ ?_
          ·intro HJ512
           rcases zb h8ae with ⟨e8d,f0af⟩ | ⟨e8d,f1af⟩
           ·refine sV (Aa rfl) ?_ (hw:=wgT rfl e8d)
            refine sbl (Cy rfl rfl) (fun z9k hz9k=>?_) (hw:=wgT rfl e8d)
            refine sV (Az (evb rfl e8d) rfl) ?_
            obtain rfl:z9k=decide (r3b.2=0):=bz hz9k
            obtain rfl:=sj f0af
            exact HJ512 _ _ ⟨(.int .i64 r3b.2),(.bool (decide (r3b.2=0))),rfl,(by kernel_rfl)⟩
           ·refine sQ rfl e8d ?_
            refine sQ rfl e8d ?_
            refine sV (AE (evb rfl e8d) rfl) ?_
            obtain rfl:=sj f1af
            exact HJ512 _ _ ⟨uu,uu,rfl,(by kernel_rfl)⟩
          ·rintro l' _ ⟨t4s,t5s,rfl,rfl⟩ l'' hl
           simp only [S0,S1] at hl;subst hl
           refine sV (Aa rfl) ?_
           obtain ⟨m2af,h3af,f4af⟩:=Ad f9ae
           refine BH 17 (fun l l' w'=>∃(t6s:Value) (t7s:Value) (t8s:Value) (t9s:Value) (t0t:Value),UpdS [] w8h w'∧l'=((((((l.set 106 t6s).set 107 t7s).set 108 t8s).set 109 t9s).set 110 t0t).set 111 (.bool m2af))) ?_ ?_
           ·intro HJ545
            rcases zb h3af with ⟨e6a,f5af⟩ | ⟨e6a,f6af⟩
            ·have q7af:=(((((((((((((q5a7.ext E3h).ext E2e).ext E5h).ext E6h).ext E7h).ext F3e).ext E6d).ext F1c).ext E9b).ext F6b).ext E4b).ext F8a).ext E5a).ext F0a
             refine sV (Ak BB rfl q7af rfl) ?_ (hw:=wgT rfl e6a)
             have q8af:=(((((q9ab.ext E9b).ext F6b).ext E4b).ext F8a).ext E5a).ext F0a
             refine sV (Ak DU rfl q8af rfl) ?_ (hw:=wgT rfl e6a)
             have q9af:=(((q6ac.ext E4b).ext F8a).ext E5a).ext F0a
             refine sV (Ak DU rfl q9af rfl) ?_ (hw:=wgT rfl e6a)
             refine sV (AL (vals:=[(0,.agg #[.bool r1a.Man.Neg,.slice A4f (sz r1a.Man.Abs) c5f,.int .i64 r1a.Exp]),(1,.agg #[.bool r2a.Man.Neg,.slice A6f (sz r2a.Man.Abs) c7f,.int .i64 r2a.Exp])]) (cells:=[.bool r1a.Man.Neg,.slice A4f (sz r1a.Man.Abs) c5f,.int .i64 r1a.Exp,.bool r2a.Man.Neg,.slice A6f (sz r2a.Man.Abs) c7f,.int .i64 r2a.Exp]) (by rfl) (by kernel_rfl)) ?_ (hw:=wgT rfl e6a)
             have n0ag:=((((((((((((((n0a7.ext F6k).ext E3h).ext E2e).ext E5h).ext E6h).ext E7h).ext F3e).ext E6d).ext F1c).ext E9b).ext F6b).ext E4b).ext F8a).ext E5a).ext F0a
             have n1ag:=((((((((((((((n1a7.ext F6k).ext E3h).ext E2e).ext E5h).ext E6h).ext E7h).ext F3e).ext E6d).ext F1c).ext E9b).ext F6b).ext E4b).ext F8a).ext E5a).ext F0a
             have n2ag:=((((((n5ab.ext F1c).ext E9b).ext F6b).ext E4b).ext F8a).ext E5a).ext F0a
             have n3ag:=((((n2ac.ext F6b).ext E4b).ext F8a).ext E5a).ext F0a
             refine scr f5af (Ac Re (by rfl)) (Hd r0c.1 (⟨r1a,r2a⟩:Ao) A2p c3p A4p c5p A4f c5f A6f c7f w8h (tbx X7k hT) n0ag n1ag n2ag n3ag) (fun r4ag f5ag w7e E6ag=>?_) (hw:=wgT rfl e6a)
             refine sV (Az (evb rfl e6a) rfl) ?_
             obtain rfl:=sj f5ag
             exact HJ545 _ _ ⟨(.agg #[.bool r0c.1.Lo.Man.Neg,.slice A2p (sz r0c.1.Lo.Man.Abs) c3p,.int .i64 r0c.1.Lo.Exp,.bool r0c.1.Hi.Man.Neg,.slice A4p (sz r0c.1.Hi.Man.Abs) c5p,.int .i64 r0c.1.Hi.Exp]),(.agg #[.bool r1a.Man.Neg,.slice A4f (sz r1a.Man.Abs) c5f,.int .i64 r1a.Exp]),(.agg #[.bool r2a.Man.Neg,.slice A6f (sz r2a.Man.Abs) c7f,.int .i64 r2a.Exp]),(.agg #[.bool r1a.Man.Neg,.slice A4f (sz r1a.Man.Abs) c5f,.int .i64 r1a.Exp,.bool r2a.Man.Neg,.slice A6f (sz r2a.Man.Abs) c7f,.int .i64 r2a.Exp]),(.bool r4ag),((UpdS.refl _ _).ext E6ag),(by kernel_rfl)⟩
            ·refine sQ rfl e6a ?_
             refine sQ rfl e6a ?_
             refine sQ rfl e6a ?_
             refine sQ rfl e6a ?_
             refine sQ rfl e6a ?_
             refine sV (AE (evb rfl e6a) rfl) ?_
             obtain rfl:=sj f6af
             exact HJ545 _ _ ⟨uu,uu,uu,uu,uu,(UpdS.refl _ _),(by kernel_rfl)⟩
           ·rintro l' w7e ⟨t6s,t7s,t8s,t9s,t0t,U2c,rfl⟩ l'' hl
            simp only [S0,S1] at hl;subst hl
            have X0l:=Kc X7k U2c (X7k).size al0
            refine sV (Aa rfl) ?_
            obtain ⟨m7ag,h8ag,f9ag⟩:=Ad f4af
            refine BH 24 (fun l l' w'=>∃(t1t:Value) (t2t:Value) (t3t:Value) (t4t:Value) (t5t:Value),UpdS [] w7e w'∧l'=((((((l.set 113 t1t).set 114 t2t).set 115 t3t).set 116 t4t).set 117 t5t).set 118 (.bool m7ag))) ?_ ?_
            ·intro HJ588
             rcases zb h8ag with ⟨e7a,f0ah⟩ | ⟨e7a,f1ah⟩
             ·have q2ah:=((((((((q2ab.ext E6d).ext F1c).ext E9b).ext F6b).ext E4b).ext F8a).ext E5a).ext F0a).updS U2c nm0
              refine sV (Ak BB rfl q2ah rfl) ?_ (hw:=wgT rfl e7a)
              have q3ah:=((q3ad.ext E5a).ext F0a).updS U2c nm0
              refine sV (Ak DU rfl q3ah rfl) ?_ (hw:=wgT rfl e7a)
              refine sV (Ak DU rfl (q0ae.updS U2c nm0) rfl) ?_ (hw:=wgT rfl e7a)
              refine sV (AL (vals:=[(0,.agg #[.bool r3a.Man.Neg,.slice A8f (sz r3a.Man.Abs) c9f,.int .i64 r3a.Exp]),(1,.agg #[.bool r4a.Man.Neg,.slice A0g (sz r4a.Man.Abs) c1g,.int .i64 r4a.Exp])]) (cells:=[.bool r3a.Man.Neg,.slice A8f (sz r3a.Man.Abs) c9f,.int .i64 r3a.Exp,.bool r4a.Man.Neg,.slice A0g (sz r4a.Man.Abs) c1g,.int .i64 r4a.Exp]) (by rfl) (by kernel_rfl)) ?_ (hw:=wgT rfl e7a)
              have n4ah:=(((((((((n6aa.ext F3e).ext E6d).ext F1c).ext E9b).ext F6b).ext E4b).ext F8a).ext E5a).ext F0a).updS U2c al0
              have n5ah:=(((((((((n7aa.ext F3e).ext E6d).ext F1c).ext E9b).ext F6b).ext E4b).ext F8a).ext E5a).ext F0a).updS U2c al0
              have n6ah:=(((n9ac.ext F8a).ext E5a).ext F0a).updS U2c al0
              refine scr f0ah (Ac Re (by rfl)) (Hd r3b.1 (⟨r3a,r4a⟩:Ao) A3q c4q A5q c6q A8f c9f A0g c1g w7e (tbx X0l hT) n4ah n5ah n6ah ((n6ad.ext F0a).updS U2c al0)) (fun r7ah f8ah w4j E9ah=>?_) (hw:=wgT rfl e7a)
              refine sV (Az (evb rfl e7a) rfl) ?_
              obtain rfl:=sj f8ah
              exact HJ588 _ _ ⟨(.agg #[.bool r3b.1.Lo.Man.Neg,.slice A3q (sz r3b.1.Lo.Man.Abs) c4q,.int .i64 r3b.1.Lo.Exp,.bool r3b.1.Hi.Man.Neg,.slice A5q (sz r3b.1.Hi.Man.Abs) c6q,.int .i64 r3b.1.Hi.Exp]),(.agg #[.bool r3a.Man.Neg,.slice A8f (sz r3a.Man.Abs) c9f,.int .i64 r3a.Exp]),(.agg #[.bool r4a.Man.Neg,.slice A0g (sz r4a.Man.Abs) c1g,.int .i64 r4a.Exp]),(.agg #[.bool r3a.Man.Neg,.slice A8f (sz r3a.Man.Abs) c9f,.int .i64 r3a.Exp,.bool r4a.Man.Neg,.slice A0g (sz r4a.Man.Abs) c1g,.int .i64 r4a.Exp]),(.bool r7ah),((UpdS.refl _ _).ext E9ah),(by kernel_rfl)⟩
             ·refine sQ rfl e7a ?_
              refine sQ rfl e7a ?_
              refine sQ rfl e7a ?_
              refine sQ rfl e7a ?_
              refine sQ rfl e7a ?_
              refine sV (AE (evb rfl e7a) rfl) ?_
              obtain rfl:=sj f1ah
              exact HJ588 _ _ ⟨uu,uu,uu,uu,uu,(UpdS.refl _ _),(by kernel_rfl)⟩
            ·rintro l' w4j ⟨t1t,t2t,t3t,t4t,t5t,U0ai,rfl⟩ l'' hl
             simp only [S0,S1] at hl;subst hl
             have X1ai:=Kc X0l U0ai (X0l).size al0
             refine sV (Ab rfl) ?_
             refine wh h1ae<|wp_ret ?_
             exact Bn f9ag X1ai rfl
end Go.Proofs

