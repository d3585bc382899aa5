import Derived.Test.YtabiobmfelafoaaGreatDoorGen1
namespace Go.Proofs
set_option linter.unusedVariables false
set_option linter.unusedSimpArgs false
set_option maxHeartbeats 4000000
open Go.RowKit Go.Sb Go.Proofs.Sbn
end Go.Proofs

namespace Go.Proofs
set_option linter.unusedVariables false
set_option linter.unusedSimpArgs false
set_option maxHeartbeats 4000000
open Go.RowKit Go.Sb Go.Proofs.Sbn
open Go.Proofs.Tryz
theorem c_dyad_near (x0:Aj) (x1:Aj) (A1:OA) (c2:Nat) (A4:OA) (c5:Nat) (w:World) (hT:TB w) (n3:RU w A1 c2 x0.m.Abs) (n6:RU w A4 c5 x1.m.Abs) (r:Bool) (hr:JD x0 x1=some r) :
  Calls prog 125 #[.agg #[.bool x0.m.Neg,.slice A1 (sz x0.m.Abs) c2,.int .i64 x0.e],.agg #[.bool x1.m.Neg,.slice A4 (sz x1.m.Abs) c5,.int .i64 x1.e]] w (Ret Gi w r):=by
 unfold JD at hr
 go_enter func125,ntmps125
 refine ws fun h7=>Ah<|sbx rfl rfl fun b8 w1 E9 g6e q4b=>?_
 refine sbx rfl rfl fun b7e w2 E5a g7c q5b=>?_
 have g8e:=nlt E9.size g7c
 have X6a:=xtr E9 E5a
 refine sV (Ab rfl) ?_
 refine wh h7<|ws fun h8c=>ws fun h9c=>Ah<|sV (Ak Aw rfl (q4b.ext E5a) rfl) ?_
 refine scr hr (Ac Kq (by rfl)) (CP x0 A1 c2 w2 (tbx X6a hT) (n3.ext X6a)) fun r9e f0d w3 E2a=>?_
 have X3a:=xtr X6a E2a
 refine sbl (Cy rfl rfl) fun z6b hz6b=>?_
 refine sV (Aa rfl) ?_
 obtain ⟨m1d,h2d,f3d⟩:=Ad f0d
 refine BH 8 (fun l l' w'=>∃(t7b:Value) (t8b:Value) (t9b:Value),UpdS [] w3 w'∧l'=((((l.set 9 t7b).set 10 t8b).set 11 t9b).set 12 (.bool m1d))) ?_ ?_
 ·intro HJ44
  rcases zi hz6b h2d with ⟨e0a,_,f4d⟩ | ⟨e0a,_,f5d⟩
  ·refine sQ rfl e0a ?_
   refine sQ rfl e0a ?_
   refine sQ rfl e0a ?_
   refine sV (Az (evb rfl e0a) rfl) ?_
   obtain rfl:=sj f4d
   exact HJ44 _ _ ⟨uu,uu,uu,(UpdS.refl _ _),(by kernel_rfl)⟩
  ·refine sV (Ak Aw rfl (q5b.ext E2a) rfl) ?_ (hw:=wgT rfl e0a)
   refine scr f5d (Ac Kq (by rfl)) (CP x1 A4 c5 w3 (tbx X3a hT) (n6.ext X3a)) (fun r7a f6d w4 E7d=>?_) (hw:=wgT rfl e0a)
   refine sbl (Cy rfl rfl) (fun z8a hz8a=>?_) (hw:=wgT rfl e0a)
   refine sV (AE (evb rfl e0a) rfl) ?_
   obtain rfl:z8a=decide (r7a=0):=bz hz8a
   obtain rfl:=sj f6d
   exact HJ44 _ _ ⟨(.agg #[.bool x1.m.Neg,.slice A4 (sz x1.m.Abs) c5,.int .i64 x1.e]),(.int .i64 r7a),(.bool (decide (r7a=0))),((UpdS.refl _ _).ext E7d),(by kernel_rfl)⟩
 ·rintro _ w4 ⟨t7b,t8b,t9b,U9a,rfl⟩ _ rfl
  have X0c:=Kc X3a U9a (X3a).size al0
  refine wh h9c ?_
  rcases zb f3d with ⟨e0b,f8d⟩ | ⟨e0b,f9d⟩
  ·refine ct e0b<|ws fun h0e=>Ah<|sV (Ab rfl) ?_
   refine wh h0e<|wp_ret ?_
   exact Bn f8d X0c rfl
  ·have q1c:=((q4b.ext E5a).ext E2a).updS U9a nm0
   refine cf e0b<|wp_skip<|h8c _ _<|ws fun h1e=>DT [] 13 mo rfl fun w5 E4a S1a=>have X1b:=xtr X0c E4a;dV 0 rfl (fun _ hw=>Ak Aw rfl ((q1c.ext E4a).ext hw) rfl) S1a ?_
   have q2c:=((q5b.ext E2a).updS U9a nm0).ext E4a
   refine dV 2 rfl (fun _ hw=>Ak Aw rfl (q2c.ext hw) rfl) S1a ?_
   refine dA 5 rfl (fun _=>Af (o':=2) CK rfl rfl) ?_
   refine dV 6 rfl (fun _ hw=>Ag GR rfl (Bx.cell ((q1c.ext E4a).ext hw) rfl)) S1a ?_
   refine dA 7 rfl (fun _=>Af (o':=2) CK rfl rfl) ?_
   refine dV 8 rfl (fun _ hw=>Ag GR rfl (Bx.cell (q2c.ext hw) rfl)) S1a ?_
   refine dA 9 rfl (fun _=>PO rfl rfl) ?_
   refine dcr f9d 1 rfl (by rfl) (Ac MI (by rfl)) (Gg x0 A1 c2 w5 (tbx X1b hT) (n3.ext X1b)) fun r3c f2e w6 E4c=>?_
   have X2b:=xtr X1b E4c
   have S3e:=S1a.trans E4c
   refine dcr f2e 3 rfl (by rfl) (Ac MI (by rfl)) (Gg x1 A4 c5 w6 (tbx X2b hT) (n6.ext X2b)) fun r5c f4e w7 E6c=>?_
   have X5e:=xtr X2b E6c
   have S0f:=S3e.trans E6c
   refine dA2 4 10 rfl rfl (fun _=>OC rfl rfl) (fun _=>Bt (c:=wi64 ((max r3c r5c) - (min x0.e x1.e))) rfl rfl rfl) ?_
   refine dab 11 rfl (by kernel_rfl) (fun _ _ _ h=>h) (by rfl) (fun _=>KX rfl rfl) fun z3b hz3b=>?_
   refine dnrm ?_
   refine dA 12 rfl (fun _=>Ab rfl) ?_
   refine Cx (by kernel_rfl) ?_
   refine h1e _ _<|wp_ret ?_
   obtain rfl:z3b=decide ((wi64 ((max r3c r5c) - (min x0.e x1.e)))≤32770):=bz hz3b
   exact Bn f4e X5e rfl
theorem Lk (x0:Aj) (x1:Aj) (x2:Int) (x3:Int) (A1:OA) (c2:Nat) (A4:OA) (c5:Nat) (w:World) (hT:TB w) (n3:RU w A1 c2 x0.m.Abs) (n6:RU w A4 c5 x1.m.Abs) (r:Aj) (hr:FO x0 x1 x2 x3=some r) :
  Calls prog 113 #[.agg #[.bool x0.m.Neg,.slice A1 (sz x0.m.Abs) c2,.int .i64 x0.e],.agg #[.bool x1.m.Neg,.slice A4 (sz x1.m.Abs) c5,.int .i64 x1.e],.int .i64 x2,.int .i64 x3] w (Ret Jd w r):=by
 unfold FO at hr
 go_enter func113,ntmps113
 refine ws fun h7=>Ah<|sbx rfl rfl fun b8 w1 E9 g2c q1c=>?_
 refine sbx rfl rfl fun b1e w2 E3c g0d q8a=>?_
 have g4c:=nlt E9.size g0d
 have X5c:=xtr E9 E3c
 refine sal Bg fun b2e w3 E6c g7b q3e=>?_
 have g4e:=nlt X5c.size g7b
 have X5e:=xtr X5c E6c
 have q4f:=(q1c.ext E3c).ext E6c
 refine wh h7<|ws fun h2m=>ws fun h3m=>Ah<|sV2 (Ak Aw rfl q4f rfl) (Ak Aw rfl (q8a.ext E6c) rfl) ?_
 refine scr hr (Ac en_125 (by rfl)) (c_dyad_near x0 x1 A1 c2 A4 c5 w3 (tbx X5e hT) (n3.ext X5e) (n6.ext X5e)) fun r4m f5m w4 E9a=>?_
 have X1d:=xtr X5e E9a
 refine wh h3m ?_
 rcases zb f5m with ⟨e5f,f6m⟩ | ⟨e5f,f7m⟩
 ·refine ct e5f<|ws fun h8m=>Ah<|have q9m:=q4f.ext E9a;sV2 (Ak Aw rfl q9m rfl) (Ak Aw rfl ((q8a.ext E6c).ext E9a) rfl) ?_
  refine scn f6m (Ac Qc (by rfl)) (JW x0 x1 A1 c2 A4 c5 w4 (tbx X1d hT) (n3.ext X1d) (n6.ext X1d)) fun r0n f1n w5 A2n c3n E0i n4n=>?_
  have X1i:=xtr X1d E0i
  refine sV2 (Aa rfl) (Aa rfl) ?_
  refine scn f1n (Ac LA (by rfl)) (DC r0n x2 x3 false A2n c3n w5 (tbx X1i hT) n4n) fun r9x f5n w6 A6n c7n E2i n8n=>?_
  have X9n:=xtr X1i E2i
  have q3i:=((q3e.ext E9a).ext E0i).ext E2i
  refine ss BC q3i fun w7 U4i q0o=>?_
  have X1o:=belU X9n U4i g4e
  refine wh h8m<|wp_ret ?_
  exact He f5n Aw q0o X1o ⟨A6n,c7n,rfl,(n8n.upd U4i q3i (by decide))⟩
 ·have q6f:=q4f.ext E9a
  refine cf e5f<|wp_skip<|h2m _ _<|ws fun h2o=>ws fun h3o=>DT [] 5 mo rfl fun w5 E8b S7f=>have X8f:=xtr X1d E8b;dV 0 rfl (fun _ hw=>Ak Aw rfl ((q6f.ext E8b).ext hw) rfl) S7f ?_
  have q9f:=((q8a.ext E6c).ext E9a).ext E8b
  refine dV 2 rfl (fun _ hw=>Ak Aw rfl (q9f.ext hw) rfl) S7f ?_
  refine dcr f7m 1 rfl (by rfl) (Ac MI (by rfl)) (Gg x0 A1 c2 w5 (tbx X8f hT) (n3.ext X8f)) fun r4o f5o w6 E0b=>?_
  have X0g:=xtr X8f E0b
  have S6o:=S7f.trans E0b
  refine dcr f5o 3 rfl (by rfl) (Ac MI (by rfl)) (Gg x1 A4 c5 w6 (tbx X0g hT) (n6.ext X0g)) fun r7o f8o w7 E1b=>?_
  have X2d:=xtr X0g E1b
  have S0y:=S6o.trans E1b
  refine dab 4 rfl (by kernel_rfl) (fun _ _ _ h=>h) (by rfl) (fun _=>Bv rfl rfl) fun z1g hz1g=>?_
  refine dnrm ?_
  refine Cx (by kernel_rfl) ?_
  refine h3o _ _ ?_
  obtain ⟨m0a,h9o,f0p⟩:=Ad f8o
  refine CG (fun l l' w'=>∃(t2g:Value) (t3g:Value) (A9b:OA) (c0c:Nat) (A3d:OA) (c4d:Nat),UpdS [b8,b1e] w7 w'∧Bx w' b8 119 [.bool m0a.1,.slice A9b (sz m0a.2.1) c0c,.int .i64 m0a.2.2.1]∧Bx w' b1e 119 [.bool m0a.2.2.2.1,.slice A3d (sz m0a.2.2.2.2.1) c4d,.int .i64 m0a.2.2.2.2.2]∧RU w' A9b c0c m0a.2.1∧RU w' A3d c4d m0a.2.2.2.2.1∧l'=((l.set 25 t2g).set 26 t3g)) ?_ ?_
  ·rcases zi hz1g h9o with ⟨e4g,_,f1p⟩ | ⟨e4g,_,f2p⟩
   ·refine ct e4g<|Ah<|have q5i:=(q9f.ext E0b).ext E1b;sV (Ak Aw rfl q5i rfl) ?_
    have q6i:=((q6f.ext E8b).ext E0b).ext E1b
    refine sV (Ak Aw rfl q6i rfl) ?_
    refine ss BC q6i fun w8 U5g q3p=>?_
    have X4p:=belU X2d U5g g2c
    have ne7i:=(Bx.ne q1c g0d).symm
    refine ss BC (q5i.upd U5g ne7i) fun w9 U6g q5p=>?_
    have X8i:=belU X4p U6g g4c
    refine AF ?_
    obtain rfl:=sj f1p
    exact ⟨_,rfl,(.agg #[.bool x1.m.Neg,.slice A4 (sz x1.m.Abs) c5,.int .i64 x1.e]),(.agg #[.bool x0.m.Neg,.slice A1 (sz x0.m.Abs) c2,.int .i64 x0.e]),A4,c5,A1,c2,(((UpdS.refl _ _).upd U5g (.inl im0)).upd U6g (.inl (imc im0))),(q3p.upd U6g (Ne.symm ne7i)),q5p,(n6.ext X8i),(n3.ext X8i),(by kernel_rfl)⟩
   ·refine cf e4g<|wp_skip ?_
    have q6p:=((q6f.ext E8b).ext E0b).ext E1b
    have q7p:=(q9f.ext E0b).ext E1b
    obtain rfl:=sj f2p
    exact ⟨_,rfl,uu,uu,A1,c2,A4,c5,(UpdS.refl _ _),q6p,q7p,(n3.ext X2d),(n6.ext X2d),(by kernel_rfl)⟩
  ·rintro _ w8 ⟨t2g,t3g,A9b,c0c,A3d,c4d,U6e,q9i,q8p,n7g,n9p,rfl⟩ _ rfl
   have X0j:=Kc X2d U6e (X2d).size (alc g2c (alc g4c al0))
   refine h2o _ _<|ws fun h0q=>Ah<|sV3 (Aa rfl) (AV (c:=wi64 (x2+4)) rfl rfl rfl) (Af (o':=0) BJ rfl rfl) ?_
   refine sV2 (Af (o':=1) Bm rfl rfl) (Ag CZ rfl (Bx.cell q9i rfl)) ?_
   refine scr f0p (Ac MK (by rfl)) (DY m0a.2.1 A9b c0c w8 (tbx X0j hT) n7g) fun r1a f1q w9 E2b=>?_
   have X2q:=xtr X0j E2b
   refine sV3 (Bt (c:=wi64 ((wi64 (x2+4)) - r1a)) rfl rfl rfl) (OC rfl rfl) (Ab rfl) ?_
   refine wh h0q<|ws fun h3q=>DT [10] 11 mo rfl fun w2c E3b S8g=>have X7e:=xtr X2q E3b;dA 0 rfl (fun _=>Af (o':=0) BJ rfl rfl) ?_
   refine dA 1 rfl (fun _=>Af (o':=0) Eg rfl rfl) ?_
   have q8e:=(q9i.ext E2b).ext E3b
   refine dV 2 rfl (fun _ hw=>Ag Gy rfl (Bx.cell (q8e.ext hw) rfl)) S8g ?_
   refine dA2 3 4 rfl rfl (fun _=>Af (o':=0) BJ rfl rfl) (fun _=>Af (o':=1) Bm rfl rfl) ?_
   refine dV 5 rfl (fun _ hw=>Ag CZ rfl (Bx.cell (q8e.ext hw) rfl)) S8g ?_
   refine dA 6 rfl (fun _=>Aa rfl) ?_
   obtain ⟨r2a,h1j,f4q⟩:=Ad f1q
   refine QY (tb 11 1023) 1 (fun l' w'=>∃(A4b:OA) (c5b:Nat) (b9e:Nat),Ext w2c w'∧RU w' A4b c5b r2a∧w2c.heap.size≤b9e∧Bx w' b9e 117 [.bool false,.slice none 0 0]∧l'=[.agg #[.bool x0.m.Neg,.slice A1 (sz x0.m.Abs) c2,.int .i64 x0.e],.agg #[.bool x1.m.Neg,.slice A4 (sz x1.m.Abs) c5,.int .i64 x1.e],.int .i64 x2,.int .i64 x3,.pointer (some ⟨b8,0,none⟩),.pointer (some ⟨b1e,0,none⟩),uu,uu,.pointer (some ⟨b2e,0,none⟩),.int .i64 (max 0 (wi64 ((wi64 (x2+4)) - r1a))),.pointer (some ⟨b9e,0,none⟩),.agg #[.bool x0.m.Neg,.slice A1 (sz x0.m.Abs) c2,.int .i64 x0.e],.agg #[.bool x1.m.Neg,.slice A4 (sz x1.m.Abs) c5,.int .i64 x1.e],.bool r4m,uu,uu,uu,uu,uu,uu,.agg #[.bool x0.m.Neg,.slice A1 (sz x0.m.Abs) c2,.int .i64 x0.e],.int .i64 r4o,.agg #[.bool x1.m.Neg,.slice A4 (sz x1.m.Abs) c5,.int .i64 x1.e],.int .i64 r7o,.bool z1g,t2g,t3g,.int .i64 x2,.int .i64 (wi64 (x2+4)),.pointer (some ⟨b8,0,none⟩),.pointer (some ⟨b8,1,none⟩),.slice A9b (sz m0a.2.1) c0c,.int .i64 r1a,.int .i64 (wi64 ((wi64 (x2+4)) - r1a)),.int .i64 (max 0 (wi64 ((wi64 (x2+4)) - r1a))),.pointer (some ⟨b8,0,none⟩),.pointer (some ⟨b8,0,none⟩),.bool m0a.1,.pointer (some ⟨b8,0,none⟩),.pointer (some ⟨b8,1,none⟩),.slice A9b (sz m0a.2.1) c0c,.int .i64 (max 0 (wi64 ((wi64 (x2+4)) - r1a))),.slice A4b (sz r2a) c5b,.agg #[.bool m0a.1,.slice A4b (sz r2a) c5b],uu,uu,uu,uu,uu,uu,uu,uu,uu,uu,uu,uu,uu,uu,uu,uu,uu,uu,uu,uu,uu,uu,uu,uu,uu,uu,uu,uu,uu,uu,uu,uu,uu,uu,uu,uu,uu,uu,uu,uu,uu,uu]) ?_ ?_
   ·rintro _ w1c ⟨A4b,c5b,b9e,E6b,n9g,g5q,q7a,rfl⟩
    have g6q:=nlt X7e.size g5q
    have X7q:=xtr X7e E6b
    have S1y:=S8g.trans E6b
    refine dkk 10 Hu q7a fun w1e U5a q2j=>?_
    have X8q:=belU X7q U5a g6q
    refine Cx (by kernel_rfl) ?_
    refine h3q _ _<|ws fun h9q=>Ah<|sV2 (Ak EI rfl q2j rfl) (Af (o':=2) CK rfl rfl) ?_
    have ne3j:=(Bx.neT (q8e.ext E6b) q7a (by decide))
    have q7c:=(q8e.ext E6b).upd U5a ne3j
    refine sV3 (Ag GR rfl (Bx.cell q7c rfl)) (Aa rfl) (Bt (c:=wi64 (m0a.2.2.1 - (max 0 (wi64 ((wi64 (x2+4)) - r1a))))) rfl rfl rfl) ?_
    refine sV (AL (vals:=[(0,.agg #[.bool m0a.1,.slice A4b (sz r2a) c5b]),(1,.int .i64 (wi64 (m0a.2.2.1 - (max 0 (wi64 ((wi64 (x2+4)) - r1a))))))]) (cells:=[.bool m0a.1,.slice A4b (sz r2a) c5b,.int .i64 (wi64 (m0a.2.2.1 - (max 0 (wi64 ((wi64 (x2+4)) - r1a)))))]) (by rfl) (by kernel_rfl)) ?_
    refine ss BC q7c fun w3c U6a q0r=>?_
    have X1r:=belU X8q U6a g2c
    have q0f:=((q8p.ext E2b).ext E3b).ext E6b
    refine wh h9q<|ws fun h2r=>ws fun h3r=>DT [] 6 mo rfl fun w0d E4a S0h=>have X4j:=xtr X1r E4a;have ne1h:=(Bx.neT q0f q7a (by decide));have ne2h:=(Bx.ne q1c g0d).symm;dV 0 rfl (fun _ hw=>Ak Aw rfl ((((q0f.upd U5a ne1h).upd U6a ne2h).ext E4a).ext hw) rfl) S0h ?_
    refine dA 2 rfl (fun _=>Af (o':=2) CK rfl rfl) ?_
    have q5d:=q0r.ext E4a
    refine dV 3 rfl (fun _ hw=>Ag GR rfl (Bx.cell (q5d.ext hw) rfl)) S0h ?_
    refine dA 4 rfl (fun _=>Bt (c:=wi64 ((wi64 (m0a.2.2.1 - (max 0 (wi64 ((wi64 (x2+4)) - r1a))))) - 1)) rfl rfl rfl) ?_
    have n5j:=(((((n9p.ext E2b).ext E3b).ext E6b).upd U5a q7a (by decide)).upd U6a q7c (by decide)).ext E4a
    refine dcr f4q 1 rfl (by rfl) (Ac MI (by rfl)) (Gg (⟨(⟨m0a.2.2.2.1,m0a.2.2.2.2.1⟩:Ae),m0a.2.2.2.2.2⟩:Aj) A3d c4d w0d (tbx X4j hT) n5j) fun r2y f4r w8a E3a=>?_
    have X6d:=xtr X4j E3a
    have S3y:=S0h.trans E3a
    refine dab 5 rfl (by kernel_rfl) (fun _ _ _ h=>h) (by rfl) (fun _=>Hb rfl rfl) fun z6j hz6j=>?_
    refine dnrm ?_
    refine Cx (by kernel_rfl) ?_
    refine h3r _ _ ?_
    rcases zi hz6j f4r with ⟨e3h,_,f5r⟩ | ⟨e3h,_,f6r⟩
    ·refine ct e3h<|ws fun h7r=>Ah<|sV (Ak Aw rfl (q5d.ext E3a) rfl) ?_
     have q8r:=(((q0f.upd U5a ne1h).upd U6a ne2h).ext E4a).ext E3a
     refine sV (Ak Aw rfl q8r rfl) ?_
     have n9r:=(((n9g.upd U5a q7a (by decide)).upd U6a q7c (by decide)).ext E4a).ext E3a
     refine scn f5r (Ac Qc (by rfl)) (JW (⟨(⟨m0a.1,r2a⟩:Ae),(wi64 (m0a.2.2.1 - (max 0 (wi64 ((wi64 (x2+4)) - r1a)))))⟩:Aj) (⟨(⟨m0a.2.2.2.1,m0a.2.2.2.2.1⟩:Ae),m0a.2.2.2.2.2⟩:Aj) A4b c5b A3d c4d w8a (tbx X6d hT) n9r (n5j.ext E3a)) fun r0s f1s w4c A2s c3s E7j n4s=>?_
     have X8j:=xtr X6d E7j
     refine sV2 (Aa rfl) (Aa rfl) ?_
     refine scn f1s (Ac LA (by rfl)) (DC r0s x2 x3 false A2s c3s w4c (tbx X8j hT) n4s) fun r4y f5s w5c A6s c7s E9j n8s=>?_
     have X9s:=xtr X8j E9j
     have ne0t:=(Bx.ne q8a g7b).symm
     have ne0k:=(Bx.ne (q1c.ext E3c) g7b).symm
     have q1k:=(((((((q3e.ext E9a).ext E8b).ext E0b).ext E1b).updS U6e (nmc ne0k (nmc ne0t nm0))).ext E2b).ext E3b).ext E6b
     have ne1t:=(Bx.neT q1k q7a (by decide))
     have q2k:=(((((q1k.upd U5a ne1t).upd U6a ne0k).ext E4a).ext E3a).ext E7j).ext E9j
     refine ss BC q2k fun w2e U3k q2t=>?_
     have X3t:=belU X9s U3k g4e
     refine wh h7r<|wp_ret ?_
     exact He f5s Aw q2t X3t ⟨A6s,c7s,rfl,(n8s.upd U3k q2k (by decide))⟩
    ·refine cf e3h<|wp_skip<|h2r _ _<|ws fun h4t=>ws fun h5t=>Ah<|sV3 (Af (o':=0) BJ rfl rfl) (Af (o':=0) Eg rfl rfl) (Ag Gy rfl (Bx.cell (q5d.ext E3a) rfl)) ?_
     refine sV2 (Af (o':=0) BJ rfl rfl) (Af (o':=0) Eg rfl rfl) ?_
     have q6t:=(((q0f.upd U5a ne1h).upd U6a ne2h).ext E4a).ext E3a
     refine sV (Ag Gy rfl (Bx.cell q6t rfl)) ?_
     refine sbl (Pg Qw rfl rfl) fun z4k hz4k=>?_
     refine wh h5t ?_
     rcases zi hz4k f6r with ⟨e4h,_,f7t⟩ | ⟨e4h,_,f8t⟩
     ·refine ct e4h<|ws fun h9t=>Ah<|sV3 (Ak Aw rfl (q5d.ext E3a) rfl) (Aa rfl) (Aa rfl) ?_
      have n0u:=(((n9g.upd U5a q7a (by decide)).upd U6a q7c (by decide)).ext E4a).ext E3a
      refine scn f7t (Ac LA (by rfl)) (DC (⟨(⟨m0a.1,r2a⟩:Ae),(wi64 (m0a.2.2.1 - (max 0 (wi64 ((wi64 (x2+4)) - r1a)))))⟩:Aj) x2 x3 true A4b c5b w8a (tbx X6d hT) n0u) fun r5y f1u w4c A2u c3u E5k n4u=>?_
      have X5u:=xtr X6d E5k
      have ne6u:=(Bx.ne q8a g7b).symm
      have ne6k:=(Bx.ne (q1c.ext E3c) g7b).symm
      have q7k:=(((((((q3e.ext E9a).ext E8b).ext E0b).ext E1b).updS U6e (nmc ne6k (nmc ne6u nm0))).ext E2b).ext E3b).ext E6b
      have ne7u:=(Bx.neT q7k q7a (by decide))
      have q8k:=((((q7k.upd U5a ne7u).upd U6a ne6k).ext E4a).ext E3a).ext E5k
      refine ss BC q8k fun w5c U9k q8u=>?_
      have X9u:=belU X5u U9k g4e
      refine wh h9t<|wp_ret ?_
      exact He f1u Aw q8u X9u ⟨A2u,c3u,rfl,(n4u.upd U9k q8k (by decide))⟩
     ·refine cf e4h<|wp_skip<|h4t _ _<|ws fun h0v=>DT [13] 14 mo rfl fun w4c E7d S1f=>have X0l:=xtr X6d E7d;dA 0 rfl (fun _=>Af (o':=0) Eg rfl rfl) ?_
      have q1l:=(((q2j.upd U6a (Ne.symm ne3j)).ext E4a).ext E3a).ext E7d
      refine dV 1 rfl (fun _ hw=>Ag Gy rfl (Bx.cell (q1l.ext hw) rfl)) S1f ?_
      refine dA 2 rfl (fun _=>Af (o':=1) Bm rfl rfl) ?_
      refine dV 3 rfl (fun _ hw=>Ag CZ rfl (Bx.cell (q1l.ext hw) rfl)) S1f ?_
      refine dA 7 rfl (fun _=>Af (o':=2) CK rfl rfl) ?_
      refine dV 8 rfl (fun _ hw=>Ag GR rfl (Bx.cell (((q5d.ext E3a).ext E7d).ext hw) rfl)) S1f ?_
      refine dA2 10 11 rfl rfl (fun _=>Aa rfl) (fun _=>Aa rfl) ?_
      refine Bc 4 (by kernel_rfl) (opB (cs:=[.int .u32 1]) 4 rfl (by rfl) (PE (vals:=[(0,.int .u32 1)]) Au Av Jr (by rfl) (by decide) (by kernel_rfl)) ?_)
      intro b1v w5c E2f g2v q3v
      refine dnrm ?_
      have g6y:=nlt X0l.size g2v
      have X2l:=xtr X0l E2f
      have S4v:=S1f.trans E2f
      have n5v:=RL.lit1 q3v (by decide)
      have n6v:=(((((n9g.upd U5a q7a (by decide)).upd U6a q7c (by decide)).ext E4a).ext E3a).ext E7d).ext E2f
      refine dcn f8t 5 rfl (by rfl) (Ac NV (by rfl)) (Gq r2a 1 A4b c5b (some ⟨b1v,0,none⟩) 1 w5c (tbx X2l hT) n6v n5v) fun r8d f7v w2e A9d c0e E5h n8v=>?_
      have X3l:=xtr X2l E5h
      have S9v:=S4v.trans E5h
      refine dA 6 rfl (fun _=>AL (vals:=[(0,.bool m0a.1),(1,.slice A9d (sz r8d) c0e)]) (cells:=[.bool m0a.1,.slice A9d (sz r8d) c0e]) (by rfl) (by kernel_rfl)) ?_
      refine dA 9 rfl (fun _=>AL (vals:=[(0,.agg #[.bool m0a.1,.slice A9d (sz r8d) c0e]),(1,.int .i64 (wi64 (m0a.2.2.1 - (max 0 (wi64 ((wi64 (x2+4)) - r1a))))))]) (cells:=[.bool m0a.1,.slice A9d (sz r8d) c0e,.int .i64 (wi64 (m0a.2.2.1 - (max 0 (wi64 ((wi64 (x2+4)) - r1a)))))]) (by rfl) (by kernel_rfl)) ?_
      refine dcn f7v 12 rfl (by rfl) (Ac LA (by rfl)) (DC (⟨(⟨m0a.1,r8d⟩:Ae),(wi64 (m0a.2.2.1 - (max 0 (wi64 ((wi64 (x2+4)) - r1a)))))⟩:Aj) x2 x3 true A9d c0e w2e (tbx X3l hT) n8v) fun r7y f0w w6c A1w c2w E6h n3w=>?_
      have X4w:=xtr X3l E6h
      have S8y:=S9v.trans E6h
      have ne5w:=(Bx.ne q8a g7b).symm
      have ne4l:=(Bx.ne (q1c.ext E3c) g7b).symm
      have q5l:=(((((((q3e.ext E9a).ext E8b).ext E0b).ext E1b).updS U6e (nmc ne4l (nmc ne5w nm0))).ext E2b).ext E3b).ext E6b
      have ne6w:=(Bx.neT q5l q7a (by decide))
      have q6l:=(((((((q5l.upd U5a ne6w).upd U6a ne4l).ext E4a).ext E3a).ext E7d).ext E2f).ext E5h).ext E6h
      refine dkk 13 BC q6l fun w7b U7l q7w=>?_
      have X8w:=belU X4w U7l g4e
      refine Cx (by kernel_rfl) ?_
      refine h0v _ _<|wp_ret ?_
      exact He f0w Aw q7w X8w ⟨A1w,c2w,rfl,(n3w.upd U7l q6l (by decide))⟩
   ·intro HJ147
    refine Ea 7 9 (by kernel_rfl) ?_ ?_
    ·refine opC 7 rfl (by rfl) (Ac Ko (by rfl)) (CL m0a.2.1 (max 0 (wi64 ((wi64 (x2+4)) - r1a))) A9b c0c _ (tbx (Ext.refl _) (tbx X7e hT)) (((n7g.ext E2b).ext E3b).ext (Ext.refl _)) r2a h1j) ?_
     rintro _ _ E3f ⟨A8c,c9c,rfl,n8l⟩
     refine dnrm ?_
     refine Ea 8 9 (by kernel_rfl) ?_ ?_
     ·refine opV 8 rfl (by rfl) (AL (vals:=[(0,.bool m0a.1),(1,.slice A8c (sz r2a) c9c)]) (cells:=[.bool m0a.1,.slice A8c (sz r2a) c9c]) (by rfl) (by kernel_rfl)) (dnrm ?_)
      refine Bc 9 (by kernel_rfl) ?_
      ·refine opA 9 rfl (by rfl) (AR HG) fun b9w _ E9l g0x q1x=>dnrm ?_
       exact dls (HJ147 _ _ ⟨A8c,c9c,b9w,(E3f.trans E9l),(n8l.ext E9l),(nlt E3f.size g0x),q1x,rfl⟩)
     ·refine opA 9 rfl (by rfl) (AR HG) fun b2x _ E0m g3x q4x=>dnrm ?_
      refine Bc 8 (by kernel_rfl) ?_
      ·refine opV 8 rfl (by rfl) (AL (vals:=[(0,.bool m0a.1),(1,.slice A8c (sz r2a) c9c)]) (cells:=[.bool m0a.1,.slice A8c (sz r2a) c9c]) (by rfl) (by kernel_rfl)) (dnrm ?_)
       exact dls (HJ147 _ _ ⟨A8c,c9c,b2x,(E3f.trans E0m),(n8l.ext E0m),(nlt E3f.size g3x),q4x,rfl⟩)
    ·refine opA 9 rfl (by rfl) (AR HG) fun b5x _ E7h g6x q7x=>dnrm ?_
     refine Bc 7 (by kernel_rfl) ?_
     ·refine opC 7 rfl (by rfl) (Ac Ko (by rfl)) (CL m0a.2.1 (max 0 (wi64 ((wi64 (x2+4)) - r1a))) A9b c0c _ (tbx E7h (tbx X7e hT)) (((n7g.ext E2b).ext E3b).ext E7h) r2a h1j) ?_
      rintro _ _ E1m ⟨A8h,c9h,rfl,n8x⟩
      refine dnrm ?_
      refine Bc 8 (by kernel_rfl) ?_
      ·refine opV 8 rfl (by rfl) (AL (vals:=[(0,.bool m0a.1),(1,.slice A8h (sz r2a) c9h)]) (cells:=[.bool m0a.1,.slice A8h (sz r2a) c9h]) (by rfl) (by kernel_rfl)) (dnrm ?_)
       exact dls (HJ147 _ _ ⟨A8h,c9h,b5x,(E7h.trans E1m),n8x,g6x,(q7x.ext E1m),rfl⟩)
theorem c_dyad_Plus_1 (x0:An) (x1:An) (x2:Int) (A1:OA) (c2:Nat) (A4:OA) (c5:Nat) (A7:OA) (c8:Nat) (A3b:OA) (c4b:Nat) (w:World) (hT:TB w) (n3:RU w A1 c2 x0.lo.m.Abs) (n6:RU w A4 c5 x0.hi.m.Abs) (n9:RU w A7 c8 x1.lo.m.Abs) (n8c:RU w A3b c4b x1.hi.m.Abs) (r:Except Int (Ao)) (hr:GP x0 x1 x2=some r) :
  Calls prog 112 #[.agg #[.bool x0.lo.m.Neg,.slice A1 (sz x0.lo.m.Abs) c2,.int .i64 x0.lo.e,.bool x0.hi.m.Neg,.slice A4 (sz x0.hi.m.Abs) c5,.int .i64 x0.hi.e],.agg #[.bool x1.lo.m.Neg,.slice A7 (sz x1.lo.m.Abs) c8,.int .i64 x1.lo.e,.bool x1.hi.m.Neg,.slice A3b (sz x1.hi.m.Abs) c4b,.int .i64 x1.hi.e],.int .i64 x2] w (RetE 201 Ld w r):=by
 unfold GP at hr
 go_enter func112,ntmps112
 refine ws fun h9c=>Ah<|sbx rfl rfl fun b3f w1 E1c g4f q0d=>?_
 refine sbx rfl rfl fun b5f w2 E2c g1d q2d=>?_
 have g6f:=nlt E1c.size g1d
 have X3c:=xtr E1c E2c
 refine sal Gp fun b7f w3 E5b g3d q4d=>?_
 have g5d:=nlt X3c.size g3d
 have X6d:=xtr X3c E5b
 refine wh h9c<|ws fun h7d=>DT [14] 15 mo rfl fun w4 E5a S2a=>have X6a:=xtr X6d E5a;dA 0 rfl (fun _=>Af (o':=0) CM rfl rfl) ?_
 have q4c:=((q0d.ext E2c).ext E5b).ext E5a
 refine dV 1 rfl (fun _ hw=>dld Aw (q4c.ext hw)) S2a ?_
 refine dA 2 rfl (fun _=>Af (o':=0) CM rfl rfl) ?_
 have q5c:=(q2d.ext E5b).ext E5a
 refine dV 3 rfl (fun _ hw=>dld Aw (q5c.ext hw)) S2a ?_
 refine dA2 4 6 rfl rfl (fun _=>Aa rfl) (fun _=>Af (o':=3) Da rfl rfl) ?_
 refine dV 7 rfl (fun _ hw=>dld Aw (q4c.ext hw)) S2a ?_
 refine dA 8 rfl (fun _=>Af (o':=3) Da rfl rfl) ?_
 refine dV 9 rfl (fun _ hw=>dld Aw (q5c.ext hw)) S2a ?_
 refine dA 10 rfl (fun _=>Aa rfl) ?_
 refine dcn hr 5 rfl (by rfl) (Ac Pn (by rfl)) (Lk x0.lo x1.lo x2 5 A1 c2 A7 c8 w4 (tbx X6a hT) (n3.ext X6a) (n9.ext X6a)) fun r0a f8d w5 A7a c8a E6b n6c=>?_
 have X9a:=xtr X6a E6b
 have S9d:=S2a.trans E6b
 refine dcn f8d 11 rfl (by rfl) (Ac Pn (by rfl)) (Lk x0.hi x1.hi x2 4 A4 c5 A3b c4b w5 (tbx X9a hT) (n6.ext X9a) (n8c.ext X9a)) fun r1a f0e w6 A0b c1b E3a n7c=>?_
 have X2b:=xtr X9a E3a
 have S1e:=S9d.trans E3a
 refine dA 12 rfl (fun _=>AL (vals:=[(0,.agg #[.bool r0a.m.Neg,.slice A7a (sz r0a.m.Abs) c8a,.int .i64 r0a.e]),(1,.agg #[.bool r1a.m.Neg,.slice A0b (sz r1a.m.Abs) c1b,.int .i64 r1a.e])]) (cells:=[.bool r0a.m.Neg,.slice A7a (sz r0a.m.Abs) c8a,.int .i64 r0a.e,.bool r1a.m.Neg,.slice A0b (sz r1a.m.Abs) c1b,.int .i64 r1a.e]) (by rfl) (by kernel_rfl)) ?_
 rcases AC f0e with ⟨r7b,h8b,f2e⟩ | ⟨r7b,h8b,rfl⟩
 ·refine dcO 13 rfl (by kernel_rfl) (by rfl) (Ac Je (by rfl)) (BS (⟨r0a,r1a⟩:An) A7a c8a A0b c1b w6 (tbx X2b hT) (n6c.ext E3a) n7c (.ok r7b) h8b) ?_
  rintro _ w7 E4a ⟨A3e,c4e,A5e,c6e,rfl,n7e,n8e⟩
  refine dnrm ?_
  have X9e:=xtr X2b E4a
  have S8f:=S1e.trans E4a
  have q9b:=(((q4d.ext E5a).ext E6b).ext E3a).ext E4a
  refine dkk 14 EG q9b fun w8 U0c q0f=>?_
  have X1f:=belU X9e U0c g5d
  refine Cx (by kernel_rfl) ?_
  refine h7d _ _<|wp_ret ?_
  exact Gd f2e rfl (Res.cellN rfl BB q0f rfl rfl Res.nil) (Cl X1f ⟨A3e,c4e,A5e,c6e,rfl,(n7e.upd U0c q9b (by decide)),(n8e.upd U0c q9b (by decide))⟩)
 ·refine dcP 13 rfl (by kernel_rfl) (by rfl) (Ac Je (by rfl)) (BS (⟨r0a,r1a⟩:An) A7a c8a A0b c1b w6 (tbx X2b hT) (n6c.ext E3a) n7c (.error r7b) h8b) fun w7 E4a=>?_
  have X2f:=xtr X2b E4a
  exact ⟨rfl,AP X2f⟩
theorem c_dyad_made_Span__dyad_Plus_1 (x0:Am) (x1:Am) (x2:Int) (A1:OA) (c2:Nat) (A4:OA) (c5:Nat) (A7:OA) (c8:Nat) (A0a:OA) (c1a:Nat) (w:World) (hT:TB w) (n3:RLu w A1 c2 x0.Lo.Man.Abs) (n6:RLu w A4 c5 x0.Hi.Man.Abs) (n9:RLu w A7 c8 x1.Lo.Man.Abs) (n2a:RLu w A0a c1a x1.Hi.Man.Abs) (r:Ao × Int) (hr:DL x0 x1 x2=some r) :
  Calls prog 100 #[.agg #[.bool x0.Lo.Man.Neg,.slice A1 x0.Lo.Man.Abs.length c2,.int .i64 x0.Lo.Exp,.bool x0.Hi.Man.Neg,.slice A4 x0.Hi.Man.Abs.length c5,.int .i64 x0.Hi.Exp],.agg #[.bool x1.Lo.Man.Neg,.slice A7 x1.Lo.Man.Abs.length c8,.int .i64 x1.Lo.Exp,.bool x1.Hi.Man.Neg,.slice A0a x1.Hi.Man.Abs.length c1a,.int .i64 x1.Hi.Exp],.int .i64 x2,.func (.func 112) #[] #[]] w (Ret FF w r):=Nv GP en_112 c_dyad_Plus_1 x0 x1 x2 A1 c2 A4 c5 A7 c8 A0a c1a w hT n3 n6 n9 n2a r hr
theorem c_dyad_Plus (x0:Am) (x1:Am) (x2:Int) (A1:OA) (c2:Nat) (A4:OA) (c5:Nat) (A7:OA) (c8:Nat) (A2a:OA) (c3a:Nat) (w:World) (hT:TB w) (n3:RLu w A1 c2 x0.Lo.Man.Abs) (n6:RLu w A4 c5 x0.Hi.Man.Abs) (n9:RLu w A7 c8 x1.Lo.Man.Abs) (n0b:RLu w A2a c3a x1.Hi.Man.Abs) (r:Ao × Int) (hr:HS x0 x1 x2=some r) :
  Calls prog 30 #[.agg #[.bool x0.Lo.Man.Neg,.slice A1 x0.Lo.Man.Abs.length c2,.int .i64 x0.Lo.Exp,.bool x0.Hi.Man.Neg,.slice A4 x0.Hi.Man.Abs.length c5,.int .i64 x0.Hi.Exp],.agg #[.bool x1.Lo.Man.Neg,.slice A7 x1.Lo.Man.Abs.length c8,.int .i64 x1.Lo.Exp,.bool x1.Hi.Man.Neg,.slice A2a x1.Hi.Man.Abs.length c3a,.int .i64 x1.Hi.Exp],.int .i64 x2] w (Ret FF w r):=by
 unfold HS at hr
 go_enter func30,ntmps30
 refine ws fun h1b=>Ah<|sbx rfl rfl fun b2d w1 E7a g3d q2b=>?_
 refine sbx rfl rfl fun b4d w2 E8a g3b q4b=>?_
 have g5d:=nlt E7a.size g3b
 have X9a:=xtr E7a E8a
 refine sal Gp fun b6d w3 E4a g5b q5a=>?_
 have g6b:=nlt X9a.size g5b
 have X0a:=xtr X9a E4a
 refine sV (Ab rfl) ?_
 refine nx h1b fun h7b=>sV3 (Ak BB rfl ((q2b.ext E8a).ext E4a) rfl) (Ak BB rfl (q4b.ext E4a) rfl) (Aa rfl) ?_
 obtain ⟨r8b,h9b,f0c⟩:=Ad hr
 refine sc (Ac Nx (by rfl)) (c_dyad_made_Span__dyad_Plus_1 x0 x1 x2 A1 c2 A4 c5 A7 c8 A2a c3a w3 (tbx X0a hT) (n3.ext X0a) (n6.ext X0a) (n9.ext X0a) (n0b.ext X0a) r8b h9b) ?_
 rintro _ w4 E1a ⟨A1c,c2c,A3c,c4c,rfl,n5c,n6c⟩
 refine nrm ?_
 have X7c:=xtr X0a E1a
 refine sV2 (Ai rfl rfl) (Ai rfl rfl) ?_
 refine ss EG (q5a.ext E1a) fun w5 U6a q8c=>?_
 have X9c:=belU X7c U6a g6b
 refine sV (Ab rfl) ?_
 refine wh h7b<|wp_ret ?_
 have n0d:=n5c.upd U6a (q5a.ext E1a) (by decide)
 have n1d:=n6c.upd U6a (q5a.ext E1a) (by decide)
 exact Gd f0c rfl (Res.cellN rfl BB q8c rfl rfl (Res.tmp rfl Res.nil)) (AJ X9c ⟨A1c,c2c,A3c,c4c,rfl,n0d,n1d⟩)
theorem c_dyad_Minus_1 (x0:An) (x1:An) (x2:Int) (A1:OA) (c2:Nat) (A4:OA) (c5:Nat) (A7:OA) (c8:Nat) (A6a:OA) (c3b:Nat) (w:World) (hT:TB w) (n3:RU w A1 c2 x0.lo.m.Abs) (n6:RU w A4 c5 x0.hi.m.Abs) (n9:RU w A7 c8 x1.lo.m.Abs) (n2d:RU w A6a c3b x1.hi.m.Abs) (r:Except Int (Ao)) (hr:Gm x0 x1 x2=some r) :
  Calls prog 114 #[.agg #[.bool x0.lo.m.Neg,.slice A1 (sz x0.lo.m.Abs) c2,.int .i64 x0.lo.e,.bool x0.hi.m.Neg,.slice A4 (sz x0.hi.m.Abs) c5,.int .i64 x0.hi.e],.agg #[.bool x1.lo.m.Neg,.slice A7 (sz x1.lo.m.Abs) c8,.int .i64 x1.lo.e,.bool x1.hi.m.Neg,.slice A6a (sz x1.hi.m.Abs) c3b,.int .i64 x1.hi.e],.int .i64 x2] w (RetE 201 Ld w r):=by
 unfold Gm at hr
 go_enter func114,ntmps114
 refine ws fun h3d=>Ah<|sbx rfl rfl fun b9g w1 E5c g0h q4d=>?_
 refine sbx rfl rfl fun b1h w2 E6c g5d q6d=>?_
 have g2h:=nlt E5c.size g5d
 have X7c:=xtr E5c E6c
 refine sal Gp fun b3h w3 E4b g7d q8d=>?_
 have g9d:=nlt X7c.size g7d
 have X0e:=xtr X7c E4b
 refine wh h3d<|ws fun h1e=>DT [16] 17 mo rfl fun w4 E7a S2a=>have X5b:=xtr X0e E7a;dA 0 rfl (fun _=>Af (o':=0) CM rfl rfl) ?_
 have q8c:=((q4d.ext E6c).ext E4b).ext E7a
 refine dV 1 rfl (fun _ hw=>dld Aw (q8c.ext hw)) S2a ?_
 refine dA 2 rfl (fun _=>Af (o':=3) Da rfl rfl) ?_
 have q9c:=(q6d.ext E4b).ext E7a
 refine dV 3 rfl (fun _ hw=>dld Aw (q9c.ext hw)) S2a ?_
 refine dA2 5 7 rfl rfl (fun _=>Aa rfl) (fun _=>Af (o':=3) Da rfl rfl) ?_
 refine dV 8 rfl (fun _ hw=>dld Aw (q8c.ext hw)) S2a ?_
 refine dA 9 rfl (fun _=>Af (o':=0) CM rfl rfl) ?_
 refine dV 10 rfl (fun _ hw=>dld Aw (q9c.ext hw)) S2a ?_
 refine dA 12 rfl (fun _=>Aa rfl) ?_
 refine dcn hr 4 rfl (by rfl) (Ac PY (by rfl)) (Jw x1.hi A6a c3b w4 (tbx X5b hT) (n2d.ext X5b)) fun r2e f3e w5 A4e c5e E6b n6e=>?_
 have X7b:=xtr X5b E6b
 have S7e:=S2a.trans E6b
 refine dcn f3e 6 rfl (by rfl) (Ac Pn (by rfl)) (Lk x0.lo r2e x2 5 A1 c2 A4e c5e w5 (tbx X7b hT) (n3.ext X7b) n6e) fun r0a f8e w6 A8a c9a E8b n0d=>?_
 have X9b:=xtr X7b E8b
 have S9e:=S7e.trans E8b
 refine dcn f8e 11 rfl (by rfl) (Ac PY (by rfl)) (Jw x1.lo A7 c8 w6 (tbx X9b hT) (n9.ext X9b)) fun r0f f1f w7 A2f c3f E3a n4f=>?_
 have X0c:=xtr X9b E3a
 have S5f:=S9e.trans E3a
 refine dcn f1f 13 rfl (by rfl) (Ac Pn (by rfl)) (Lk x0.hi r0f x2 4 A4 c5 A2f c3f w7 (tbx X0c hT) (n6.ext X0c) n4f) fun r1a f6f w8 A0b c1b E4a n1d=>?_
 have X2b:=xtr X0c E4a
 have S7f:=S5f.trans E4a
 refine dA 14 rfl (fun _=>AL (vals:=[(0,.agg #[.bool r0a.m.Neg,.slice A8a (sz r0a.m.Abs) c9a,.int .i64 r0a.e]),(1,.agg #[.bool r1a.m.Neg,.slice A0b (sz r1a.m.Abs) c1b,.int .i64 r1a.e])]) (cells:=[.bool r0a.m.Neg,.slice A8a (sz r0a.m.Abs) c9a,.int .i64 r0a.e,.bool r1a.m.Neg,.slice A0b (sz r1a.m.Abs) c1b,.int .i64 r1a.e]) (by rfl) (by kernel_rfl)) ?_
 rcases AC f6f with ⟨r1c,h2c,f8f⟩ | ⟨r1c,h2c,rfl⟩
 ·refine dcO 15 rfl (by kernel_rfl) (by rfl) (Ac Je (by rfl)) (BS (⟨r0a,r1a⟩:An) A8a c9a A0b c1b w8 (tbx X2b hT) ((n0d.ext E3a).ext E4a) n1d (.ok r1c) h2c) ?_
  rintro _ w9 E5a ⟨A9f,c0g,A1g,c2g,rfl,n3g,n4g⟩
  refine dnrm ?_
  have X5g:=xtr X2b E5a
  have S4h:=S7f.trans E5a
  have q3c:=(((((q8d.ext E7a).ext E6b).ext E8b).ext E3a).ext E4a).ext E5a
  refine dkk 16 EG q3c fun w6a U4c q6g=>?_
  have X7g:=belU X5g U4c g9d
  refine Cx (by kernel_rfl) ?_
  refine h1e _ _<|wp_ret ?_
  exact Gd f8f rfl (Res.cellN rfl BB q6g rfl rfl Res.nil) (Cl X7g ⟨A9f,c0g,A1g,c2g,rfl,(n3g.upd U4c q3c (by decide)),(n4g.upd U4c q3c (by decide))⟩)
 ·refine dcP 15 rfl (by kernel_rfl) (by rfl) (Ac Je (by rfl)) (BS (⟨r0a,r1a⟩:An) A8a c9a A0b c1b w8 (tbx X2b hT) ((n0d.ext E3a).ext E4a) n1d (.error r1c) h2c) fun w9 E5a=>?_
  have X8g:=xtr X2b E5a
  exact ⟨rfl,AP X8g⟩
theorem c_dyad_made_Span__dyad_Minus_1 (x0:Am) (x1:Am) (x2:Int) (A1:OA) (c2:Nat) (A4:OA) (c5:Nat) (A7:OA) (c8:Nat) (A0a:OA) (c1a:Nat) (w:World) (hT:TB w) (n3:RLu w A1 c2 x0.Lo.Man.Abs) (n6:RLu w A4 c5 x0.Hi.Man.Abs) (n9:RLu w A7 c8 x1.Lo.Man.Abs) (n2a:RLu w A0a c1a x1.Hi.Man.Abs) (r:Ao × Int) (hr:DA x0 x1 x2=some r) :
  Calls prog 100 #[.agg #[.bool x0.Lo.Man.Neg,.slice A1 x0.Lo.Man.Abs.length c2,.int .i64 x0.Lo.Exp,.bool x0.Hi.Man.Neg,.slice A4 x0.Hi.Man.Abs.length c5,.int .i64 x0.Hi.Exp],.agg #[.bool x1.Lo.Man.Neg,.slice A7 x1.Lo.Man.Abs.length c8,.int .i64 x1.Lo.Exp,.bool x1.Hi.Man.Neg,.slice A0a x1.Hi.Man.Abs.length c1a,.int .i64 x1.Hi.Exp],.int .i64 x2,.func (.func 114) #[] #[]] w (Ret FF w r):=Nv Gm en_114 c_dyad_Minus_1 x0 x1 x2 A1 c2 A4 c5 A7 c8 A0a c1a w hT n3 n6 n9 n2a r hr
theorem c_dyad_Minus (x0:Am) (x1:Am) (x2:Int) (A1:OA) (c2:Nat) (A4:OA) (c5:Nat) (A7:OA) (c8:Nat) (A2a:OA) (c3a:Nat) (w:World) (hT:TB w) (n3:RLu w A1 c2 x0.Lo.Man.Abs) (n6:RLu w A4 c5 x0.Hi.Man.Abs) (n9:RLu w A7 c8 x1.Lo.Man.Abs) (n0b:RLu w A2a c3a x1.Hi.Man.Abs) (r:Ao × Int) (hr:Hw x0 x1 x2=some r) :
  Calls prog 31 #[.agg #[.bool x0.Lo.Man.Neg,.slice A1 x0.Lo.Man.Abs.length c2,.int .i64 x0.Lo.Exp,.bool x0.Hi.Man.Neg,.slice A4 x0.Hi.Man.Abs.length c5,.int .i64 x0.Hi.Exp],.agg #[.bool x1.Lo.Man.Neg,.slice A7 x1.Lo.Man.Abs.length c8,.int .i64 x1.Lo.Exp,.bool x1.Hi.Man.Neg,.slice A2a x1.Hi.Man.Abs.length c3a,.int .i64 x1.Hi.Exp],.int .i64 x2] w (Ret FF w r):=by
 unfold Hw at hr
 go_enter func31,ntmps31
 refine ws fun h1b=>Ah<|sbx rfl rfl fun b2d w1 E7a g3d q2b=>?_
 refine sbx rfl rfl fun b4d w2 E8a g3b q4b=>?_
 have g5d:=nlt E7a.size g3b
 have X9a:=xtr E7a E8a
 refine sal Gp fun b6d w3 E4a g5b q5a=>?_
 have g6b:=nlt X9a.size g5b
 have X0a:=xtr X9a E4a
 refine sV (Ab rfl) ?_
 refine nx h1b fun h7b=>sV3 (Ak BB rfl ((q2b.ext E8a).ext E4a) rfl) (Ak BB rfl (q4b.ext E4a) rfl) (Aa rfl) ?_
 obtain ⟨r8b,h9b,f0c⟩:=Ad hr
 refine sc (Ac Nx (by rfl)) (c_dyad_made_Span__dyad_Minus_1 x0 x1 x2 A1 c2 A4 c5 A7 c8 A2a c3a w3 (tbx X0a hT) (n3.ext X0a) (n6.ext X0a) (n9.ext X0a) (n0b.ext X0a) r8b h9b) ?_
 rintro _ w4 E1a ⟨A1c,c2c,A3c,c4c,rfl,n5c,n6c⟩
 refine nrm ?_
 have X7c:=xtr X0a E1a
 refine sV2 (Ai rfl rfl) (Ai rfl rfl) ?_
 refine ss EG (q5a.ext E1a) fun w5 U6a q8c=>?_
 have X9c:=belU X7c U6a g6b
 refine sV (Ab rfl) ?_
 refine wh h7b<|wp_ret ?_
 have n0d:=n5c.upd U6a (q5a.ext E1a) (by decide)
 have n1d:=n6c.upd U6a (q5a.ext E1a) (by decide)
 exact Gd f0c rfl (Res.cellN rfl BB q8c rfl rfl (Res.tmp rfl Res.nil)) (AJ X9c ⟨A1c,c2c,A3c,c4c,rfl,n0d,n1d⟩)
theorem idle_whole_caught:RE prog 246:=by
 intro b w
 refine KM func246 rfl [.pointer (some ⟨b,0,none⟩),uu,uu,uu,uu,uu,uu,uu,uu,uu,uu,uu,uu,uu,uu] (by simp [ntmps246]) fun c₀ cs hu=>?_
 apply wpS_seq
 refine rcvI1 hu rfl ?_
 simp only [S0,S1]
 refine wpS_of_wp ?_
 apply wp_block
 refine ws fun h1=>Ah<|sV (OI Mx rfl) ?_
 refine wh h1<|ct rfl<|Ah<|sV (Ab rfl) ?_
 refine AF ?_
 try simp only [Exit.inBlock]
 exact Rc hu (by kernel_rfl) ⟨rfl,rfl,rfl⟩
theorem LJ (x0:Ae) (A1:OA) (c2:Nat) (w:World) (hT:TB w) (n3:RU w A1 c2 x0.Abs) (r:Bool) (hr:Fz x0=some r) :
  Calls prog 270 #[.agg #[.bool x0.Neg,.slice A1 (sz x0.Abs) c2]] w (Ret Gi w r):=by
 unfold Fz at hr
 go_enter func270,ntmps270
 refine ws fun h4=>Ah<|sbx rfl rfl fun b5 w1 E6 g7 q8=>?_
 refine sV (Ab rfl) ?_
 refine nx h4 fun h9=>sV (Ak EO rfl q8 rfl) ?_
 refine scr hr (Ac Ps (by rfl)) (Jz (⟨x0.Neg,(limbs x0.Abs)⟩:Ar) A1 c2 w1 (tbx E6 hT) (n3.ext E6)) fun r1a f2a w2 E3a=>?_
 have X4a:=xtr E6 E3a
 refine sbl (FL rfl) fun z0a hz0a=>?_
 refine sV (Ab rfl) ?_
 refine wh h9<|wp_ret ?_
 obtain rfl:z0a=decide (¬(r1a=true)):=bz hz0a
 exact Bn f2a X4a rfl
theorem Kh (x0:Bool) (x1:Int) (w:World) (hT:TB w) (r:Except Int (Unit)) (hr:IU x0 x1=some r) :
  Calls prog 248 #[.bool x0,.int .i64 x1] w (RetE 274 KD w r):=by
 unfold IU at hr
 go_enter func248,ntmps248
 refine ws fun h1=>Ah<|sV (Aa rfl) ?_
 refine sbl (FL rfl) fun z2 hz2=>?_
 refine wh h1 ?_
 rcases zi hz2 hr with ⟨e8,_,f0a⟩ | ⟨e8,_,f1a⟩
 ·refine ct e8<|Ah<|sV2 (Aa rfl) (AL (vals:=[(0,.int .i64 x1)]) (cells:=[.int .i64 x1]) (by rfl) (by kernel_rfl)) ?_
  refine sV (JK ni_274 rfl) ?_
  refine Ob rfl ?_
  obtain rfl:=sj f0a
  exact ⟨rfl,AP (Ext.refl _)⟩
 ·refine cf e8<|wp_skip ?_
  obtain rfl:=sj f1a
  exact MS rfl Res.nil (Cl (Ext.refl _) rfl)
theorem Gz:RE prog 222:=by
 intro b w
 refine KM func222 rfl [.pointer (some ⟨b,0,none⟩),uu,uu,uu,uu,uu,uu,uu,uu,uu,uu,uu,uu,uu,uu,uu,uu,uu,uu,uu] (by simp [ntmps222]) fun c₀ cs hu=>?_
 apply wpS_seq
 refine Sg hu rfl ?_
 simp only [S0,S1]
 refine wpS_of_wp<|ws fun h1=>Ah<|sV2 (Aa rfl) (Ml Mx rfl) ?_
 refine wh h1<|cf rfl<|wp_skip ?_
 try simp only [Exit.inBlock]
 exact Rc hu (by kernel_rfl) ⟨rfl,rfl,rfl⟩
theorem My (x0:Nat) (A1:OA) (c2:Nat) (w:World) (hT:TB w) (n3:RU w A1 c2 x0) (r:Bool) (hr:Iu x0=some r) :
  Calls prog 255 #[.slice A1 (sz x0) c2] w (Ret Gi w r):=by
 unfold Iu at hr
 go_enter func255,ntmps255
 refine ws fun h4=>Ah<|sV (Ab rfl) ?_
 refine nx h4 fun h5=>sV (Aa rfl) ?_
 refine scr hr (Ac Qo (by rfl)) (JE (limbs x0) A1 c2 w hT n3) fun r6 f8 w1 E9=>?_
 refine sbl (FL rfl) fun z0a hz0a=>?_
 refine sV (Ab rfl) ?_
 refine wh h5<|wp_ret ?_
 obtain rfl:z0a=decide (¬(r6=true)):=bz hz0a
 exact Bn f8 E9 rfl
theorem HW (x0:Bool) (x1:Int) (w:World) (hT:TB w) (r:Except Int (Unit)) (hr:Hm x0 x1=some r) :
  Calls prog 224 #[.bool x0,.int .i64 x1] w (RetE 258 KD w r):=by
 unfold Hm at hr
 go_enter func224,ntmps224
 refine ws fun h1=>Ah<|sV (Aa rfl) ?_
 refine sbl (FL rfl) fun z2 hz2=>?_
 refine wh h1 ?_
 rcases zi hz2 hr with ⟨e8,_,f0a⟩ | ⟨e8,_,f1a⟩
 ·refine ct e8<|Ah<|sV2 (Aa rfl) (AL (vals:=[(0,.int .i64 x1)]) (cells:=[.int .i64 x1]) (by rfl) (by kernel_rfl)) ?_
  refine sV (JK ni_258 rfl) ?_
  refine Ob rfl ?_
  obtain rfl:=sj f0a
  exact ⟨rfl,AP (Ext.refl _)⟩
 ·refine cf e8<|wp_skip ?_
  obtain rfl:=sj f1a
  exact MS rfl Res.nil (Cl (Ext.refl _) rfl)
theorem EQ (x0:Nat) (A1:OA) (c2:Nat) (w:World) (hT:TB w) (n3:RU w A1 c2 x0) (r:Except Int (Nat)) (hr:Gb x0=some r) :
  Calls prog 225 #[.slice A1 (sz x0) c2] w (RetE 258 Nw w r):=by
 unfold Gb at hr
 go_enter func225,ntmps225
 refine ws fun h4=>Ah<|sV (Ab rfl) ?_
 refine nx h4 fun h5=>sV2 (Aa rfl) (AD AG rfl) ?_
 refine sbl (KX rfl rfl) fun z6 hz6=>?_
 obtain rfl:z6=decide ((sz x0:Int)≤1024):=bz hz6
 rcases AC hr with ⟨r7,h8,f9⟩ | ⟨r7,h8,rfl⟩
 ·refine scO (Ac LO (by rfl)) (HW (decide ((sz x0:Int)≤1024)) 2 w hT  (.ok r7) h8) ?_
  rintro _ w1 E0a rfl
  refine nrm ?_
  refine nx h5 fun h1a=>sV (Aa rfl) ?_
  refine scn f9 (Ac en_256 (by rfl)) (c_slices_Clone_nat_limbs x0 A1 c2 w1 (tbx E0a hT) (n3.ext E0a)) fun r8a f2a w2 A3a c4a E5a n6a=>?_
  have X7a:=xtr E0a E5a
  refine sV (Ab rfl) ?_
  refine wh h1a<|wp_ret ?_
  exact Gd f2a rfl (Res.tmp rfl Res.nil) (Cl X7a ⟨A3a,c4a,rfl,n6a⟩)
 ·refine scP (Ac LO (by rfl)) (HW (decide ((sz x0:Int)≤1024)) 2 w hT  (.error r7) h8) fun w1 E0a=>?_
  exact ⟨rfl,AP E0a⟩
theorem Ig (x0:Nat) (x1:Int) (A1:OA) (c2:Nat) (w:World) (hT:TB w) (n3:RU w A1 c2 x0) (r:Except Int (Nat)) (hr:Ij x0 x1=some r) :
  Calls prog 218 #[.slice A1 (sz x0) c2,.int .i64 x1] w (RetE 274 Nw w r):=by
 unfold Ij at hr
 go_enter func218,ntmps218
 refine ws fun h4=>Ah<|sV (Ab rfl) ?_
 refine nx h4 fun h5=>sV (Aa rfl) ?_
 refine sbl (Cy rfl rfl) fun z6 hz6=>?_
 refine sV (Aa rfl) ?_
 obtain rfl:z6=decide (x1=0):=bz hz6
 rcases AC hr with ⟨r7,h8,f9⟩ | ⟨r7,h8,rfl⟩
 ·refine scO (Ac OM (by rfl)) (Kh (decide (x1=0)) x1 w hT  (.ok r7) h8) ?_
  rintro _ w1 E0a rfl
  refine nrm ?_
  refine nx h5 fun h1a=>sV2 (Aa rfl) (Ab rfl) ?_
  refine wh h1a<|wp_ret ?_
  exact Gd f9 rfl (Res.tmp rfl Res.nil) (Cl E0a ⟨A1,c2,rfl,(n3.ext E0a)⟩)
 ·refine scP (Ac OM (by rfl)) (Kh (decide (x1=0)) x1 w hT  (.error r7) h8) fun w1 E0a=>?_
  exact ⟨rfl,AP E0a⟩
theorem c_slices_IndexFunc_Nat__2__nat_taken_1 (x0_0:Nat) (x0_1:Nat) (bp0:Nat) (A1:OA) (c2:Nat) (A4:OA) (c5:Nat) (w:World) (hT:TB w) (n3:RU w A1 c2 x0_0) (n6:RU w A4 c5 x0_1) (q7:Bx w bp0 23 [.slice A1 (sz x0_0) c2,.slice A4 (sz x0_1) c5]) (r:Int) (hr:Cf x0_0 x0_1=some r) :
  Calls prog 274 #[.slice (some ⟨bp0,0,none⟩) 2 2,.func (.func 255) #[] #[]] w (Ret HY w r):=by
 unfold Cf at hr
 go_enter func274,ntmps274
 refine ws fun h8=>Ah<|sV (Ab rfl) ?_
 refine wh h8<|ws fun h9=>ws fun h4a=>Ah<|sV3 (Aa rfl) (AD Lw rfl) (Aa rfl) ?_
 refine wh h4a ?_
 apply wp_block
 refine GO<|AW<|ws fun h5a=>Ah<|sV (HI (v:=.bool true) (Bv rfl rfl) (by rfl)) ?_
 refine wh h5a<|ws fun h6a=>ct rfl<|wp_skip<|h6a _ _<|ws fun h7a=>?_
 apply wp_block
 refine ws fun h8a=>Ah<|sV2 (Aa rfl) (Ab rfl) ?_
 refine nx h8a fun h9a=>sV3 (Aa rfl) (Aa rfl) (Aa rfl) ?_
 refine sV (CN (o':=0) Lw ND rfl rfl (by decide) (by decide) (by decide)) ?_
 refine sV (Ag Ci rfl (Bx.cell q7 rfl)) ?_
 refine scr hr (Ho (first:=[]) (cap:=[]) (args:=[.slice A1 (sz x0_0) c2]) RS (by rfl) (by rfl)) (My x0_0 A1 c2 w hT n3) fun r6c f0b w1 E0a=>?_
 refine wh h9a ?_
 rcases zb f0b with ⟨e1a,f1b⟩ | ⟨e1a,f2b⟩
 ·refine ct e1a<|ws fun h3b=>Ah<|sV2 (Aa rfl) (Ab rfl) ?_
  refine wh h3b<|wp_ret ?_
  exact Bn f1b E0a rfl
 ·refine cf e1a<|wp_skip<|h7a _ _<|Ah<|sV (AV (c:=1) rfl rfl (by decide)) ?_
  refine sV (Aa rfl) ?_
  refine AF<|AW<|ws fun h4b=>Ah<|sV (HI (v:=.bool true) (Bv rfl rfl) (by rfl)) ?_
  refine wh h4b<|ws fun h5b=>ct rfl<|wp_skip<|h5b _ _<|ws fun h6b=>?_
  apply wp_block
  refine ws fun h7b=>Ah<|sV2 (Aa rfl) (Ab rfl) ?_
  refine nx h7b fun h8b=>sV3 (Aa rfl) (Aa rfl) (Aa rfl) ?_
  refine sV (CN (o':=1) Lw ND rfl rfl (by decide) (by decide) (by decide)) ?_
  refine sV (Ag Ci rfl (Bx.cell (q7.ext E0a) rfl)) ?_
  refine scr f2b (Ho (first:=[]) (cap:=[]) (args:=[.slice A4 (sz x0_1) c5]) RS (by rfl) (by rfl)) (My x0_1 A4 c5 w1 (tbx E0a hT) (n6.ext E0a)) fun r7c f9b w2 E0c=>?_
  have X3a:=xtr E0a E0c
  refine wh h8b ?_
  rcases zb f9b with ⟨e2a,f1c⟩ | ⟨e2a,f2c⟩
  ·refine ct e2a<|ws fun h3c=>Ah<|sV2 (Aa rfl) (Ab rfl) ?_
   refine wh h3c<|wp_ret ?_
   exact Bn f1c X3a rfl
  ·refine cf e2a<|wp_skip<|h6b _ _<|Ah<|sV (AV (c:=2) rfl rfl (by decide)) ?_
   refine sV (Aa rfl) ?_
   refine AF<|AW<|ws fun h4c=>Ah<|sV (HI (v:=.bool false) (Bv rfl rfl) (by rfl)) ?_
   refine wh h4c<|ws fun h8c=>cf rfl<|wp_exit ?_
   simp only [Exit.then,Exit.inBlock,↓reduceIte,Nat.reduceEqDiff]
   refine h9 _ _<|ws fun h5c=>Ah<|sV (Ab rfl) ?_
   refine wh h5c<|wp_ret ?_
   exact Bn f2c X3a rfl
theorem c_slices_ContainsFunc_Nat__2__nat_taken_1 (x0_0:Nat) (x0_1:Nat) (bp0:Nat) (A1:OA) (c2:Nat) (A4:OA) (c5:Nat) (w:World) (hT:TB w) (n3:RU w A1 c2 x0_0) (n6:RU w A4 c5 x0_1) (q7:Bx w bp0 23 [.slice A1 (sz x0_0) c2,.slice A4 (sz x0_1) c5]) (r:Bool) (hr:BR x0_0 x0_1=some r) :
  Calls prog 254 #[.slice (some ⟨bp0,0,none⟩) 2 2,.func (.func 255) #[] #[]] w (Ret Gi w r):=by
 unfold BR at hr
 go_enter func254,ntmps254
 refine ws fun h8=>Ah<|sV (Ab rfl) ?_
 refine nx h8 fun h9=>sV2 (Aa rfl) (Aa rfl) ?_
 refine scr hr (Ac en_274 (by rfl)) (c_slices_IndexFunc_Nat__2__nat_taken_1 x0_0 x0_1 bp0 A1 c2 A4 c5 w hT n3 n6 q7) fun r1a f2a w1 E3a=>?_
 refine sbl (Hb rfl rfl) fun z0a hz0a=>?_
 refine sV (Ab rfl) ?_
 refine wh h9<|wp_ret ?_
 obtain rfl:z0a=decide (0≤r1a):=bz hz0a
 exact Bn f2a E3a rfl
theorem CI (x0_0:Nat) (x0_1:Nat) (bp0:Nat) (A1:OA) (c2:Nat) (A4:OA) (c5:Nat) (w:World) (hT:TB w) (n3:RU w A1 c2 x0_0) (n6:RU w A4 c5 x0_1) (q7:Bx w bp0 23 [.slice A1 (sz x0_0) c2,.slice A4 (sz x0_1) c5]) (r:Except Int (Unit)) (hr:DP x0_0 x0_1=some r) :
  Calls prog 223 #[.slice (some ⟨bp0,0,none⟩) 2 2] w (RetE 258 KD w r):=by
 unfold DP at hr
 go_enter func223,ntmps223
 refine Ah<|sV (Aa rfl) ?_
 refine scr hr (Ac en_254 (by rfl)) (c_slices_ContainsFunc_Nat__2__nat_taken_1 x0_0 x0_1 bp0 A1 c2 A4 c5 w hT n3 n6 q7) fun r8 f5a w1 E0a=>?_
 refine sbl (FL rfl) fun z1a hz1a=>?_
 obtain rfl:z1a=decide (¬(r8=true)):=bz hz1a
 rcases AC f5a with ⟨r2a,h3a,f6a⟩ | ⟨r2a,h3a,rfl⟩
 ·refine scO (Ac LO (by rfl)) (HW (decide (¬(r8=true))) 1 w1 (tbx E0a hT)  (.ok r2a) h3a) ?_
  rintro _ w2 E4a rfl
  refine nrm ?_
  have X7a:=xtr E0a E4a
  refine AF ?_
  obtain rfl:=sj f6a
  exact MS rfl Res.nil (Cl X7a rfl)
 ·refine scP (Ac LO (by rfl)) (HW (decide (¬(r8=true))) 1 w1 (tbx E0a hT)  (.error r2a) h3a) fun w2 E4a=>?_
  have X8a:=xtr E0a E4a
  exact ⟨rfl,AP X8a⟩
theorem Ny (x0:Nat) (x1:Nat) (A1:OA) (c2:Nat) (A4:OA) (c5:Nat) (w:World) (hT:TB w) (n3:RU w A1 c2 x0) (n6:RU w A4 c5 x1) (r:Except Int (Nat)) (hr:KI x0 x1=some r) :
  Calls prog 250 #[.slice A1 (sz x0) c2,.slice A4 (sz x1) c5] w (RetE 258 JB w r):=by
 unfold KI at hr
 go_enter func250,ntmps250
 refine ws fun h7=>Ah<|sV (Ab rfl) ?_
 refine nx h7 fun h8=>sV2 (Aa rfl) (Aa rfl) ?_
 refine scr hr (Ac Pv (by rfl)) (Hz x0 x1 A1 c2 A4 c5 w hT n3 n6) fun r9 f6a w1 E0a=>?_
 refine sbl (Hb rfl rfl) fun z2a hz2a=>?_
 obtain rfl:z2a=decide (0≤r9):=bz hz2a
 rcases AC f6a with ⟨r3a,h4a,f7a⟩ | ⟨r3a,h4a,rfl⟩
 ·refine scO (Ac LO (by rfl)) (HW (decide (0≤r9)) 3 w1 (tbx E0a hT)  (.ok r3a) h4a) ?_
  rintro _ w2 E5a rfl
  refine nrm ?_
  have X1a:=xtr E0a E5a
  refine nx h8 fun h8a=>sV2 (Aa rfl) (Aa rfl) ?_
  refine scn f7a (Ac en_252 (by rfl)) (Kb x0 x1 A1 c2 A4 c5 w2 (tbx X1a hT) (n3.ext X1a) (n6.ext X1a)) fun r6b f9a w3 A0b c1b E2b n3b=>?_
  have X4b:=xtr X1a E2b
  refine sV (Ab rfl) ?_
  refine wh h8a<|wp_ret ?_
  exact Gd f9a rfl (Res.tmp rfl Res.nil) (Cl X4b ⟨A0b,c1b,rfl,n3b⟩)
 ·refine scP (Ac LO (by rfl)) (HW (decide (0≤r9)) 3 w1 (tbx E0a hT)  (.error r3a) h4a) fun w2 E5a=>?_
  have X5b:=xtr E0a E5a
  exact ⟨rfl,AP X5b⟩
theorem c_nat_multiplied__nat_Sub_1__nil (x0:Nat) (x1:Nat) (A1:OA) (c2:Nat) (A4:OA) (c5:Nat) (w:World) (hT:TB w) (n3:RU w A1 c2 x0) (n6:RU w A4 c5 x1) (r:Nat × Int) (hr:De x0 x1=some r) :
  Calls prog 242 #[.slice A1 (sz x0) c2,.slice A4 (sz x1) c5,.agg #[.func (.func 250) #[] #[],.nilFunc]] w (Ret IK w r):=by
 unfold De at hr
 obtain ⟨q0,hq0,hr0⟩:=Ad hr
 unfold EA at hq0
 go_enter_defers func242,ntmps242
 refine ws fun h7=>Ah<|sbx rfl rfl fun b8 w1 E9 g1e q2c=>?_
 refine sV (Ab rfl) ?_
 refine sal JN fun b3c w2 E3b g4c q5c=>?_
 have g6c:=nlt E9.size g4c
 have X4b:=xtr E9 E3b
 refine nx h7 fun h7c=>HP (vs:=[.pointer (some ⟨b3c,0,none⟩)]) (by rfl) (by rfl)<|nx h7c fun h8c=>sV2 (Aa rfl) (Aa rfl) ?_
 refine Dj (vals:=[(0,.slice A1 (sz x0) c2),(1,.slice A4 (sz x1) c5)]) (cs:=[.slice A1 (sz x0) c2,.slice A4 (sz x1) c5]) Lw ND OD (by rfl) (by decide) (by kernel_rfl) fun b5b w3 E4a g9c q6b=>?_
 refine nrm ?_
 have g2e:=nlt X4b.size g9c
 have X0a:=xtr X4b E4a
 rcases AC hq0 with ⟨r5a,h6a,f0d⟩ | ⟨r5a,h6a,rfl⟩
 ·refine scO (Ac JU (by rfl)) (CI x0 x1 b5b A1 c2 A4 c5 w3 (tbx X0a hT) (n3.ext X0a) (n6.ext X0a) q6b (.ok r5a) h6a) ?_
  rintro _ w4 E3a rfl
  refine nrm ?_
  have X1a:=xtr X0a E3a
  refine nx h8c fun h1d=>sV (Af (o':=0) Nf rfl rfl) ?_
  have q2d:=((q2c.ext E3b).ext E4a).ext E3a
  refine sV3 (Ag Pr rfl (Bx.cell q2d rfl)) (Aa rfl) (Aa rfl) ?_
  rcases AC f0d with ⟨r2a,h7a,f3d⟩ | ⟨r2a,h7a,rfl⟩
  ·refine scO (Ho (first:=[]) (cap:=[]) (args:=[.slice A1 (sz x0) c2,.slice A4 (sz x1) c5]) RG (by rfl) (by rfl)) (Ny x0 x1 A1 c2 A4 c5 w4 (tbx X1a hT) (n3.ext X1a) (n6.ext X1a) (.ok r2a) h7a) ?_
   rintro _ w5 E8a ⟨A7b,c8b,rfl,n9b⟩
   refine nrm ?_
   have X9a:=xtr X1a E8a
   rcases AC f3d with ⟨r0b,h1b,f4d⟩ | ⟨r0b,h1b,rfl⟩
   ·refine scO (Ac JS (by rfl)) (EQ r2a A7b c8b w5 (tbx X9a hT) n9b (.ok r0b) h1b) ?_
    rintro _ w6 E2b ⟨A5d,c6d,rfl,n7d⟩
    refine nrm ?_
    have X8d:=xtr X9a E2b
    refine sV (Ab rfl) ?_
    have q0c:=(((q5c.ext E4a).ext E3a).ext E8a).ext E2b
    refine ss HU q0c fun w7 U1c q9d=>?_
    have X0e:=belU X8d U1c g6c
    refine wh h1d<|wp_ret ?_
    obtain rfl:=sj f4d
    obtain rfl:=sj hr0
    exact NU Gz Nu rfl (Res.tmp rfl (Res.cell1 rfl CO (Bx.cell q9d rfl) Res.nil)) (AJ X0e ⟨A5d,c6d,rfl,(n7d.upd U1c q0c (by decide))⟩)
   ·refine scP (Ac JS (by rfl)) (EQ r2a A7b c8b w5 (tbx X9a hT) n9b (.error r0b) h1b) fun w6 E2b=>?_
    cases hr0
  ·refine scP (Ho (first:=[]) (cap:=[]) (args:=[.slice A1 (sz x0) c2,.slice A4 (sz x1) c5]) RG (by rfl) (by rfl)) (Ny x0 x1 A1 c2 A4 c5 w4 (tbx X1a hT) (n3.ext X1a) (n6.ext X1a) (.error r2a) h7a) fun w5 E8a=>?_
   cases hr0
 ·refine scP (Ac JU (by rfl)) (CI x0 x1 b5b A1 c2 A4 c5 w3 (tbx X0a hT) (n3.ext X0a) (n6.ext X0a) q6b (.error r5a) h6a) fun w4 E3a=>?_
  cases hr0
theorem OH (x0:Nat) (x1:Nat) (A1:OA) (c2:Nat) (A4:OA) (c5:Nat) (w:World) (hT:TB w) (n3:RU w A1 c2 x0) (n6:RU w A4 c5 x1) (r:Nat × Int) (hr:Kl x0 x1=some r) :
  Calls prog 220 #[.slice A1 (sz x0) c2,.slice A4 (sz x1) c5] w (Ret IK w r):=by
 unfold Kl at hr
 go_enter func220,ntmps220
 refine ws fun h7=>Ah<|sV2 (Ab rfl) (Ab rfl) ?_
 refine nx h7 fun h8=>sV3 (Aa rfl) (Aa rfl) (AL (vals:=[(0,.func (.func 250) #[] #[])]) (cells:=[.func (.func 250) #[] #[],.nilFunc]) (by rfl) (by kernel_rfl)) ?_
 refine scn hr (Ac OY (by rfl)) (c_nat_multiplied__nat_Sub_1__nil x0 x1 A1 c2 A4 c5 w hT n3 n6) fun r9 f0a w1 A1a c2a E3a n4a=>?_
 refine sV3 (Ai rfl rfl) (Ai rfl rfl) (Ab rfl) ?_
 refine sV (Ab rfl) ?_
 refine wh h8<|wp_ret ?_
 exact Gd f0a rfl (Res.tmp rfl (Res.tmp rfl Res.nil)) (AJ E3a ⟨A1a,c2a,rfl,n4a⟩)
theorem c_nat_multiplied__nat_limbs_add__nil (x0:Nat) (x1:Nat) (A1:OA) (c2:Nat) (A4:OA) (c5:Nat) (w:World) (hT:TB w) (n3:RU w A1 c2 x0) (n6:RU w A4 c5 x1) (r:Nat × Int) (hr:Co x0 x1=some r) :
  Calls prog 242 #[.slice A1 (sz x0) c2,.slice A4 (sz x1) c5,.agg #[.func (.func 253) #[] #[],.nilFunc]] w (Ret IK w r):=by
 unfold Co at hr
 obtain ⟨q0,hq0,hr0⟩:=Ad hr
 unfold Dy at hq0
 go_enter_defers func242,ntmps242
 refine ws fun h7=>Ah<|sbx rfl rfl fun b8 w1 E9 g0e q1c=>?_
 refine sV (Ab rfl) ?_
 refine sal JN fun b2c w2 E0b g3c q4c=>?_
 have g5c:=nlt E9.size g3c
 have X1b:=xtr E9 E0b
 refine nx h7 fun h6c=>HP (vs:=[.pointer (some ⟨b2c,0,none⟩)]) (by rfl) (by rfl)<|nx h6c fun h7c=>sV2 (Aa rfl) (Aa rfl) ?_
 refine Dj (vals:=[(0,.slice A1 (sz x0) c2),(1,.slice A4 (sz x1) c5)]) (cs:=[.slice A1 (sz x0) c2,.slice A4 (sz x1) c5]) Lw ND OD (by rfl) (by decide) (by kernel_rfl) fun b2b w3 E3a g8c q3b=>?_
 refine nrm ?_
 have g1e:=nlt X1b.size g8c
 have X0a:=xtr X1b E3a
 rcases AC hq0 with ⟨r4a,h5a,f9c⟩ | ⟨r4a,h5a,rfl⟩
 ·refine scO (Ac JU (by rfl)) (CI x0 x1 b2b A1 c2 A4 c5 w3 (tbx X0a hT) (n3.ext X0a) (n6.ext X0a) q3b (.ok r4a) h5a) ?_
  rintro _ w4 E1a rfl
  refine nrm ?_
  have X2a:=xtr X0a E1a
  refine nx h7c fun h0d=>sV (Af (o':=0) Nf rfl rfl) ?_
  have q1d:=((q1c.ext E0b).ext E3a).ext E1a
  refine sV3 (Ag Pr rfl (Bx.cell q1d rfl)) (Aa rfl) (Aa rfl) ?_
  refine scn f9c (Ho (first:=[]) (cap:=[]) (args:=[.slice A1 (sz x0) c2,.slice A4 (sz x1) c5]) en_253 (by rfl) (by rfl)) (Ka x0 x1 A1 c2 A4 c5 w4 (tbx X2a hT) (n3.ext X2a) (n6.ext X2a)) fun r4b f2d w5 A5b c6b E7b n8b=>?_
  have X6a:=xtr X2a E7b
  rcases AC f2d with ⟨r7a,h8a,f3d⟩ | ⟨r7a,h8a,rfl⟩
  ·refine scO (Ac JS (by rfl)) (EQ r4b A5b c6b w5 (tbx X6a hT) n8b (.ok r7a) h8a) ?_
   rintro _ w6 E9a ⟨A4d,c5d,rfl,n6d⟩
   refine nrm ?_
   have X7d:=xtr X6a E9a
   refine sV (Ab rfl) ?_
   have q9b:=(((q4c.ext E3a).ext E1a).ext E7b).ext E9a
   refine ss HU q9b fun w7 U0c q8d=>?_
   have X9d:=belU X7d U0c g5c
   refine wh h0d<|wp_ret ?_
   obtain rfl:=sj f3d
   obtain rfl:=sj hr0
   exact NU Gz Nu rfl (Res.tmp rfl (Res.cell1 rfl CO (Bx.cell q8d rfl) Res.nil)) (AJ X9d ⟨A4d,c5d,rfl,(n6d.upd U0c q9b (by decide))⟩)
  ·refine scP (Ac JS (by rfl)) (EQ r4b A5b c6b w5 (tbx X6a hT) n8b (.error r7a) h8a) fun w6 E9a=>?_
   cases hr0
 ·refine scP (Ac JU (by rfl)) (CI x0 x1 b2b A1 c2 A4 c5 w3 (tbx X0a hT) (n3.ext X0a) (n6.ext X0a) q3b (.error r4a) h5a) fun w4 E1a=>?_
  cases hr0
theorem c_nat_Add (x0:Nat) (x1:Nat) (A1:OA) (c2:Nat) (A4:OA) (c5:Nat) (w:World) (hT:TB w) (n3:RU w A1 c2 x0) (n6:RU w A4 c5 x1) (r:Nat × Int) (hr:KV x0 x1=some r) :
  Calls prog 221 #[.slice A1 (sz x0) c2,.slice A4 (sz x1) c5] w (Ret IK w r):=by
 unfold KV at hr
 go_enter func221,ntmps221
 refine ws fun h7=>Ah<|sV2 (Ab rfl) (Ab rfl) ?_
 refine nx h7 fun h8=>sV3 (Aa rfl) (Aa rfl) (AL (vals:=[(0,.func (.func 253) #[] #[])]) (cells:=[.func (.func 253) #[] #[],.nilFunc]) (by rfl) (by kernel_rfl)) ?_
 refine scn hr (Ac OY (by rfl)) (c_nat_multiplied__nat_limbs_add__nil x0 x1 A1 c2 A4 c5 w hT n3 n6) fun r9 f0a w1 A1a c2a E3a n4a=>?_
 refine sV3 (Ai rfl rfl) (Ai rfl rfl) (Ab rfl) ?_
 refine sV (Ab rfl) ?_
 refine wh h8<|wp_ret ?_
 exact Gd f0a rfl (Res.tmp rfl (Res.tmp rfl Res.nil)) (AJ E3a ⟨A1a,c2a,rfl,n4a⟩)
theorem Kv (x0:Bool) (x1:Nat) (A1:OA) (c2:Nat) (w:World) (hT:TB w) (n3:RU w A1 c2 x1) (r:Ae) (hr:Gl x0 x1=some r) :
  Calls prog 217 #[.bool x0,.slice A1 (sz x1) c2] w (Ret Lg w r):=by
 unfold Gl at hr
 go_enter func217,ntmps217
 refine ws fun h4=>Ah<|sal HT fun b5 w1 E6 g7 q8=>?_
 refine nx h4 fun h9=>sV2 (Aa rfl) (Aa rfl) ?_
 obtain ⟨m1a,h7a,f8a⟩:=Ad hr
 refine BH 6 (fun l l' w'=>∃(t3a:Value) (t4a:Value) (t5a:Value),w1=w'∧l'=((((l.set 7 t3a).set 8 t4a).set 9 t5a).set 10 (.bool m1a))) ?_ ?_
 ·intro HJ23
  rcases zb h7a with ⟨e0a,f9a⟩ | ⟨e0a,f0b⟩
  ·refine sV (Aa rfl) ?_ (hw:=wgT rfl e0a)
   refine sV (AD CH rfl) ?_ (hw:=wgT rfl e0a)
   refine sbl (Eh rfl rfl) (fun z2a hz2a=>?_) (hw:=wgT rfl e0a)
   refine sV (Az (evb rfl e0a) rfl) ?_
   obtain rfl:z2a=decide (0<(sz x1:Int)):=bz hz2a
   obtain rfl:=sj f9a
   exact HJ23 _ _ ⟨(.slice A1 (sz x1) c2),(.int .i64 (sz x1:Int)),(.bool (decide (0<(sz x1:Int)))),rfl,(by kernel_rfl)⟩
  ·refine sQ rfl e0a ?_
   refine sQ rfl e0a ?_
   refine sQ rfl e0a ?_
   refine sV (AE (evb rfl e0a) rfl) ?_
   obtain rfl:=sj f0b
   exact HJ23 _ _ ⟨uu,uu,uu,rfl,(by kernel_rfl)⟩
 ·rintro _ _ ⟨t3a,t4a,t5a,rfl,rfl⟩ _ rfl
  refine sV2 (Aa rfl) (AL (vals:=[(0,.bool m1a),(1,.slice A1 (sz x1) c2)]) (cells:=[.bool m1a,.slice A1 (sz x1) c2]) (by rfl) (by kernel_rfl)) ?_
  refine ss EC q8 fun w2 U1b q2b=>?_
  have F6a:=belU E6 U1b g7
  refine wh h9<|wp_ret ?_
  exact He f8a EO q2b F6a ⟨A1,c2,rfl,(n3.ext F6a)⟩
theorem c_whole_own (x0:Ae) (A1:OA) (c2:Nat) (w:World) (hT:TB w) (n3:RU w A1 c2 x0.Abs) (r:Ae) (hr:JI x0=some r) :
  Calls prog 216 #[.agg #[.bool x0.Neg,.slice A1 (sz x0.Abs) c2]] w (Ret Lg w r):=by
 unfold JI at hr
 go_enter func216,ntmps216
 refine ws fun h4=>Ah<|sbx rfl rfl fun b5 w1 E6 g7 q8=>?_
 refine sal HT fun b9 w2 E1a g0b q1b=>?_
 have g2b:=nlt E6.size g0b
 have X3b:=xtr E6 E1a
 refine wh h4<|ws fun h4b=>DT [6] 7 mo rfl fun w3 E0a S2a=>have X3a:=xtr X3b E0a;dA 0 rfl (fun _=>Af (o':=0) Fo rfl rfl) ?_
 refine dV 1 rfl (fun _ hw=>Ag Gy rfl (Bx.cell (((q8.ext E1a).ext E0a).ext hw) rfl)) S2a ?_
 refine dA 2 rfl (fun _=>Af (o':=1) BI rfl rfl) ?_
 refine dV 3 rfl (fun _ hw=>Ag Ci rfl (Bx.cell (((q8.ext E1a).ext E0a).ext hw) rfl)) S2a ?_
 refine dcn hr 4 rfl (by rfl) (Ac en_157 (by rfl)) (c_slices_Clone_api_Nat x0.Abs A1 c2 w3 (tbx X3a hT) (n3.ext X3a)) fun r7a f5b w4 A4a c5a E6a n6b=>?_
 have X7b:=xtr X3a E6a
 have S1c:=S2a.trans E6a
 refine dA 5 rfl (fun _=>AL (vals:=[(0,.bool x0.Neg),(1,.slice A4a (sz r7a) c5a)]) (cells:=[.bool x0.Neg,.slice A4a (sz r7a) c5a]) (by rfl) (by kernel_rfl)) ?_
 have q8a:=(q1b.ext E0a).ext E6a
 refine dkk 6 EC q8a fun w5 U9a q8b=>?_
 have X9b:=belU X7b U9a g2b
 refine Cx (by kernel_rfl) ?_
 refine h4b _ _<|wp_ret ?_
 have n0c:=n6b.upd U9a q8a (by decide)
 exact He f5b EO q8b X9b ⟨A4a,c5a,rfl,n0c⟩
theorem c_nat_Gcd_1 (x0:Nat) (x1:Nat) (A1:OA) (c2:Nat) (A4:OA) (c5:Nat) (w:World) (hT:TB w) (n3:RU w A1 c2 x0) (n6:RU w A4 c5 x1) (r:Nat) (hr:JL x0 x1=some r) :
  Calls prog 243 #[.slice A1 (sz x0) c2,.slice A4 (sz x1) c5] w (Ret JB w r):=by
 unfold JL at hr
 go_enter func243,ntmps243
 refine ws fun h7=>Ah<|sV (Ab rfl) ?_
 refine wh h7<|ws fun h8=>?_
 obtain ⟨m8a,h0c,f1c⟩:=Ad hr
 refine CG (fun l l' w'=>∃(A6a:OA) (c7a:Nat),Ext w w'∧RU w' A6a c7a m8a∧Fr l' (fun t1b=>.slice A6a (sz m8a) c7a::gp t1b 1 18 [])) ?_ ?_
 ·apply wp_block
  refine Bp (fun l n2b l' w'=>∃(v1a:Nat) (v0a:Nat) (A2a:OA) (c3a:Nat) (A4a:OA) (c5a:Nat),Ext w w'∧RU w' A2a c3a v1a∧RU w' A4a c5a v0a∧Fp x0 x1 n2b v1a v0a=some m8a∧Fr l' (fun t3b=>.slice A2a (sz v1a) c3a::.slice A4a (sz v0a) c5a::gp t3b 2 17 [])) 18446744073709551616 ?_ ?_ ?_
  ·exact ⟨x0,x1,A1,c2,A4,c5,(Ext.refl _),n3,n6,h0c,(Fr.mk (by kernel_rfl))⟩
  ·rintro l' w' ⟨v1a,v0a,A2a,c3a,A4a,c5a,_,_,_,hz,_⟩
   exact nomatch hz
  ·rintro n2b ih2c _ w1 ⟨v1a,v0a,A2a,c3a,A4a,c5a,U9a,n4b,n5b,hr6b,⟨t3b,rfl⟩⟩ l'' hl
   simp only [gp,Nat.reduceAdd] at hl
   subst hl
   unfold Fp at hr6b
   refine AW<|ws fun h3c=>ws fun h4c=>Ah<|sV2 (Aa rfl) (AD AG rfl) ?_
   refine sbl (Eh rfl rfl) fun z7b hz7b=>?_
   refine wh h4c ?_
   rcases zi hz7b hr6b with ⟨e0b,_,f5c⟩ | ⟨e0b,_,f6c⟩
   ·refine ct e0b<|wp_skip<|h3c _ _ ?_
    apply wp_block
    refine ws fun h7c=>Ah<|sV2 (Aa rfl) (Aa rfl) ?_
    obtain ⟨r8b,h8c,f9c⟩:=Ad f5c
    refine sc (Ac Rz (by rfl)) (Ie v1a v0a A2a c3a A4a c5a w1 (tbx U9a hT) n4b n5b r8b h8c) ?_
    rintro _ w2 E9b ⟨A6d,c7d,A0d,c1d,rfl,n8d,n2d⟩
    refine nrm ?_
    refine sV3 (Aa rfl) (Ai rfl rfl) (Ai rfl rfl) ?_
    refine sV2 (Ab rfl) (Ab rfl) ?_
    refine wh h7c<|Ah<|sV3 (Aa rfl) (Aa rfl) (Ab rfl) ?_
    refine sV (Ab rfl) ?_
    refine AF ?_
    exact ih2c _ _ ⟨v0a,r8b.2,A4a,c5a,A0d,c1d,(U9a.trans E9b),(n5b.ext E9b),n2d,f9c,(Fr.mk (by kernel_rfl))⟩
   ·refine cf e0b<|wp_exit ?_
    simp only [Exit.then,Exit.inBlock,↓reduceIte,Nat.reduceEqDiff]
    obtain rfl:=sj f6c
    exact ⟨_,rfl,A2a,c3a,U9a,n4b,(Fr.mk (by kernel_rfl))⟩
 ·rintro _ w1 ⟨A6a,c7a,U3d,n4d,⟨t1b,rfl⟩⟩ l'' hl
  simp only [gp,Nat.reduceAdd] at hl
  subst hl
  refine h8 _ _<|ws fun h5d=>Ah<|sV2 (Aa rfl) (Ab rfl) ?_
  refine wh h5d<|wp_ret ?_
  exact Bn f1c U3d ⟨A6a,c7a,rfl,n4d⟩
theorem c_nat_multiplied__nat_Gcd_1__nil (x0:Nat) (x1:Nat) (A1:OA) (c2:Nat) (A4:OA) (c5:Nat) (w:World) (hT:TB w) (n3:RU w A1 c2 x0) (n6:RU w A4 c5 x1) (r:Nat × Int) (hr:Dc x0 x1=some r) :
  Calls prog 242 #[.slice A1 (sz x0) c2,.slice A4 (sz x1) c5,.agg #[.func (.func 243) #[] #[],.nilFunc]] w (Ret IK w r):=by
 unfold Dc at hr
 obtain ⟨q0,hq0,hr0⟩:=Ad hr
 unfold EB at hq0
 go_enter_defers func242,ntmps242
 refine ws fun h7=>Ah<|sbx rfl rfl fun b8 w1 E9 g0e q1c=>?_
 refine sV (Ab rfl) ?_
 refine sal JN fun b2c w2 E0b g3c q4c=>?_
 have g5c:=nlt E9.size g3c
 have X1b:=xtr E9 E0b
 refine nx h7 fun h6c=>HP (vs:=[.pointer (some ⟨b2c,0,none⟩)]) (by rfl) (by rfl)<|nx h6c fun h7c=>sV2 (Aa rfl) (Aa rfl) ?_
 refine Dj (vals:=[(0,.slice A1 (sz x0) c2),(1,.slice A4 (sz x1) c5)]) (cs:=[.slice A1 (sz x0) c2,.slice A4 (sz x1) c5]) Lw ND OD (by rfl) (by decide) (by kernel_rfl) fun b2b w3 E3a g8c q3b=>?_
 refine nrm ?_
 have g1e:=nlt X1b.size g8c
 have X0a:=xtr X1b E3a
 rcases AC hq0 with ⟨r4a,h5a,f9c⟩ | ⟨r4a,h5a,rfl⟩
 ·refine scO (Ac JU (by rfl)) (CI x0 x1 b2b A1 c2 A4 c5 w3 (tbx X0a hT) (n3.ext X0a) (n6.ext X0a) q3b (.ok r4a) h5a) ?_
  rintro _ w4 E1a rfl
  refine nrm ?_
  have X2a:=xtr X0a E1a
  refine nx h7c fun h0d=>sV (Af (o':=0) Nf rfl rfl) ?_
  have q1d:=((q1c.ext E0b).ext E3a).ext E1a
  refine sV3 (Ag Pr rfl (Bx.cell q1d rfl)) (Aa rfl) (Aa rfl) ?_
  refine scn f9c (Ho (first:=[]) (cap:=[]) (args:=[.slice A1 (sz x0) c2,.slice A4 (sz x1) c5]) en_243 (by rfl) (by rfl)) (c_nat_Gcd_1 x0 x1 A1 c2 A4 c5 w4 (tbx X2a hT) (n3.ext X2a) (n6.ext X2a)) fun r4b f2d w5 A5b c6b E7b n8b=>?_
  have X6a:=xtr X2a E7b
  rcases AC f2d with ⟨r7a,h8a,f3d⟩ | ⟨r7a,h8a,rfl⟩
  ·refine scO (Ac JS (by rfl)) (EQ r4b A5b c6b w5 (tbx X6a hT) n8b (.ok r7a) h8a) ?_
   rintro _ w6 E9a ⟨A4d,c5d,rfl,n6d⟩
   refine nrm ?_
   have X7d:=xtr X6a E9a
   refine sV (Ab rfl) ?_
   have q9b:=(((q4c.ext E3a).ext E1a).ext E7b).ext E9a
   refine ss HU q9b fun w7 U0c q8d=>?_
   have X9d:=belU X7d U0c g5c
   refine wh h0d<|wp_ret ?_
   obtain rfl:=sj f3d
   obtain rfl:=sj hr0
   exact NU Gz Nu rfl (Res.tmp rfl (Res.cell1 rfl CO (Bx.cell q8d rfl) Res.nil)) (AJ X9d ⟨A4d,c5d,rfl,(n6d.upd U0c q9b (by decide))⟩)
  ·refine scP (Ac JS (by rfl)) (EQ r4b A5b c6b w5 (tbx X6a hT) n8b (.error r7a) h8a) fun w6 E9a=>?_
   cases hr0
 ·refine scP (Ac JU (by rfl)) (CI x0 x1 b2b A1 c2 A4 c5 w3 (tbx X0a hT) (n3.ext X0a) (n6.ext X0a) q3b (.error r4a) h5a) fun w4 E1a=>?_
  cases hr0
theorem Mq (x0:Nat) (x1:Nat) (A1:OA) (c2:Nat) (A4:OA) (c5:Nat) (w:World) (hT:TB w) (n3:RU w A1 c2 x0) (n6:RU w A4 c5 x1) (r:Nat × Int) (hr:IP x0 x1=some r) :
  Calls prog 209 #[.slice A1 (sz x0) c2,.slice A4 (sz x1) c5] w (Ret IK w r):=by
 unfold IP at hr
 go_enter func209,ntmps209
 refine ws fun h7=>Ah<|sV2 (Ab rfl) (Ab rfl) ?_
 refine nx h7 fun h8=>sV3 (Aa rfl) (Aa rfl) (AL (vals:=[(0,.func (.func 243) #[] #[])]) (cells:=[.func (.func 243) #[] #[],.nilFunc]) (by rfl) (by kernel_rfl)) ?_
 refine scn hr (Ac OY (by rfl)) (c_nat_multiplied__nat_Gcd_1__nil x0 x1 A1 c2 A4 c5 w hT n3 n6) fun r9 f0a w1 A1a c2a E3a n4a=>?_
 refine sV3 (Ai rfl rfl) (Ai rfl rfl) (Ab rfl) ?_
 refine sV (Ab rfl) ?_
 refine wh h8<|wp_ret ?_
 exact Gd f0a rfl (Res.tmp rfl (Res.tmp rfl Res.nil)) (AJ E3a ⟨A1a,c2a,rfl,n4a⟩)
theorem GK (x0:BT) (A1:OA) (c2:Nat) (A4:OA) (c5:Nat) (w:World) (hT:TB w) (n3:RLu w A1 c2 x0.Num.Abs) (n6:RLu w A4 c5 x0.Den) (r:Bool) (hr:BN x0=some r) :
  Calls prog 141 #[.agg #[.bool x0.Num.Neg,.slice A1 x0.Num.Abs.length c2,.slice A4 x0.Den.length c5]] w (Ret Gi w r):=by
 unfold BN at hr
 go_enter func141,ntmps141
 refine ws fun h7=>Ah<|sbx rfl rfl fun b8 w1 E9 g5i q4a=>?_
 refine sV (Ab rfl) ?_
 refine wh h7<|ws fun h0e=>ws fun h1e=>Ah<|sV2 (Af (o':=0) Gv rfl rfl) (dld EO q4a) ?_
 refine scr hr (Ac Ps (by rfl)) (Jz x0.Num A1 c2 w1 (tbx E9 hT) (n3.ext E9)) fun r6i f2e w2 E5a=>?_
 have X8a:=xtr E9 E5a
 refine sbl (FL rfl) fun z7b hz7b=>?_
 refine sV (Aa rfl) ?_
 obtain ⟨m3e,h4e,f5e⟩:=Ad f2e
 refine BH 10 (fun l l' w'=>∃(t8b:Value) (t9b:Value) (t0c:Value) (t1c:Value),UpdS [] w2 w'∧l'=(((((l.set 10 t8b).set 11 t9b).set 12 t0c).set 13 t1c).set 14 (.bool m3e))) ?_ ?_
 ·intro HJ39
  rcases zi hz7b h4e with ⟨e0a,_,f6e⟩ | ⟨e0a,_,f7e⟩
  ·refine sQ rfl e0a ?_
   refine sQ rfl e0a ?_
   refine sQ rfl e0a ?_
   refine sQ rfl e0a ?_
   refine sV (Az (evb rfl e0a) rfl) ?_
   obtain rfl:=sj f6e
   exact HJ39 _ _ ⟨uu,uu,uu,uu,(UpdS.refl _ _),(by kernel_rfl)⟩
  ·refine sV (Af (o':=2) GT rfl rfl) ?_ (hw:=wgT rfl e0a)
   refine sV (Ag Ci rfl (Bx.cell (q4a.ext E5a) rfl)) ?_ (hw:=wgT rfl e0a)
   refine scr f7e (Ac Qo (by rfl)) (JE x0.Den A4 c5 w2 (tbx X8a hT) (n6.ext X8a)) (fun r0b f8e w3 E9e=>?_) (hw:=wgT rfl e0a)
   refine sbl (FL rfl) (fun z1b hz1b=>?_) (hw:=wgT rfl e0a)
   refine sV (AE (evb rfl e0a) rfl) ?_
   obtain rfl:z1b=decide (¬(r0b=true)):=bz hz1b
   obtain rfl:=sj f8e
   exact HJ39 _ _ ⟨(.pointer (some ⟨b8,2,none⟩)),(.slice A4 x0.Den.length c5),(.bool r0b),(.bool (decide (¬(r0b=true)))),((UpdS.refl _ _).ext E9e),(by kernel_rfl)⟩
 ·rintro l' w3 ⟨t8b,t9b,t0c,t1c,U9a,rfl⟩ l'' hl
  simp only [S0,S1] at hl;subst hl
  have X6a:=Kc X8a U9a (X8a).size al0
  refine sV (Aa rfl) ?_
  obtain ⟨m0f,h1f,f2f⟩:=Ad f5e
  refine BH 16 (fun l l' w'=>∃(t2c:Value) (t3c:Value) (t4c:Value) (t5c:Value),w3=w'∧l'=(((((l.set 16 t2c).set 17 t3c).set 18 t4c).set 19 t5c).set 20 (.bool m0f))) ?_ ?_
  ·intro HJ66
   rcases zb h1f with ⟨e1a,f3f⟩ | ⟨e1a,f4f⟩
   ·refine sQ rfl e1a ?_
    refine sQ rfl e1a ?_
    refine sQ rfl e1a ?_
    refine sQ rfl e1a ?_
    refine sV (Az (evb rfl e1a) rfl) ?_
    obtain rfl:=sj f3f
    exact HJ66 _ _ ⟨uu,uu,uu,uu,rfl,(by kernel_rfl)⟩
   ·refine sV (Af (o':=2) GT rfl rfl) ?_ (hw:=wgT rfl e1a)
    refine sV (Ag Ci rfl (Bx.cell ((q4a.ext E5a).updS U9a nm0) rfl)) ?_ (hw:=wgT rfl e1a)
    refine sV (AD CH rfl) ?_ (hw:=wgT rfl e1a)
    refine sbl (Cy rfl rfl) (fun z2b hz2b=>?_) (hw:=wgT rfl e1a)
    refine sV (AE (evb rfl e1a) rfl) ?_
    obtain rfl:z2b=decide ((x0.Den.length:Int)=0):=bz hz2b
    obtain rfl:=sj f4f
    exact HJ66 _ _ ⟨(.pointer (some ⟨b8,2,none⟩)),(.slice A4 x0.Den.length c5),(.int .i64 (x0.Den.length:Int)),(.bool (decide ((x0.Den.length:Int)=0))),rfl,(by kernel_rfl)⟩
  ·rintro l' _ ⟨t2c,t3c,t4c,t5c,rfl,rfl⟩ l'' hl
   simp only [S0,S1] at hl;subst hl
   refine wh h1e ?_
   rcases zb f2f with ⟨e3b,f5f⟩ | ⟨e3b,f6f⟩
   ·refine ct e3b<|ws fun h7f=>Ah<|sV (Ab rfl) ?_
    refine wh h7f<|wp_ret ?_
    exact Bn f5f X6a rfl
   ·refine cf e3b<|wp_skip<|h0e _ _<|ws fun h8f=>Ah<|sV3 (Af (o':=0) Gv rfl rfl) (Af (o':=1) BI rfl rfl) (Ag Ci rfl (Bx.cell ((q4a.ext E5a).updS U9a nm0) rfl)) ?_
    refine sV2 (Af (o':=2) GT rfl rfl) (Ag Ci rfl (Bx.cell ((q4a.ext E5a).updS U9a nm0) rfl)) ?_
    obtain ⟨m6c,h9f,f0g⟩:=Ad f6f
    have hx7c:=Dd h9f
    have n1g:RU w3 A1 c2 m6c:=by unfold RU;rw [hx7c];exact (n3.ext X6a)
    obtain ⟨m8c,h2g,f3g⟩:=Ad f0g
    have hx9c:=Dd h2g
    have n4g:RU w3 A4 c5 m8c:=by unfold RU;rw [hx9c];exact (n6.ext X6a)
    refine scn f3g (Ac Pu (by simp only [sz,hx7c,hx9c];rfl)) (Mq m6c m8c A1 c2 A4 c5 w3 (tbx X6a hT) n1g n4g) fun r7a f5g w4 A0d c1d E6g n7g=>?_
    have X8g:=xtr X6a E6g
    refine sV3 (Aa rfl) (Ai rfl rfl) (Ai rfl rfl) ?_
    refine sV2 (Ab rfl) (Ab rfl) ?_
    refine nx h8f fun h9g=>sV (Aa rfl) ?_
    refine sbl (Cy rfl rfl) fun z2d hz2d=>?_
    refine sV (Aa rfl) ?_
    obtain ⟨m0h,h1h,f2h⟩:=Ad f5g
    refine BH 7 (fun l l' w'=>∃(t3d:Value) (t4d:Value) (t5d:Value),w4=w'∧l'=((((l.set 33 t3d).set 34 t4d).set 35 t5d).set 36 (.bool m0h))) ?_ ?_
    ·intro HJ118
     rcases zi hz2d h1h with ⟨e3a,_,f3h⟩ | ⟨e3a,_,f4h⟩
     ·refine sV (Aa rfl) ?_ (hw:=wgT rfl e3a)
      refine sV (AD CH rfl) ?_ (hw:=wgT rfl e3a)
      refine sbl (Cy rfl rfl) (fun z4b hz4b=>?_) (hw:=wgT rfl e3a)
      refine sV (Az (evb rfl e3a) rfl) ?_
      obtain rfl:z4b=decide ((sz r7a.1:Int)=1):=bz hz4b
      obtain rfl:=sj f3h
      exact HJ118 _ _ ⟨(.slice A0d (sz r7a.1) c1d),(.int .i64 (sz r7a.1:Int)),(.bool (decide ((sz r7a.1:Int)=1))),rfl,(by kernel_rfl)⟩
     ·refine sQ rfl e3a ?_
      refine sQ rfl e3a ?_
      refine sQ rfl e3a ?_
      refine sV (AE (evb rfl e3a) rfl) ?_
      obtain rfl:=sj f4h
      exact HJ118 _ _ ⟨uu,uu,uu,rfl,(by kernel_rfl)⟩
    ·rintro l' _ ⟨t3d,t4d,t5d,rfl,rfl⟩ l'' hl
     simp only [S0,S1] at hl;subst hl
     refine sV (Aa rfl) ?_
     obtain ⟨m5h,h6h,f7h⟩:=Ad f2h
     refine BH 13 (fun l l' w'=>∃(t6d:Value) (t7d:Value) (t8d:Value) (t9d:Value),w4=w'∧l'=(((((l.set 38 t6d).set 39 t7d).set 40 t8d).set 41 t9d).set 42 (.bool m5h))) ?_ ?_
     ·intro HJ149
      rcases zb h6h with ⟨e2a,f8h⟩ | ⟨e2a,f9h⟩
      ·refine sV (Aa rfl) ?_ (hw:=wgT rfl e2a)
       obtain ⟨u5b,h0i,f1i⟩:=Ad f8h
       obtain ⟨bb158,oo159,hA2i,ia3i,ib4i,hc161⟩:=RL.nth n7g h0i
       refine sV (AA CH Av rfl rfl hA2i ia3i ib4i) ?_ (hw:=wgT rfl e2a)
       refine sV (Ag AZ rfl hc161) ?_ (hw:=wgT rfl e2a)
       refine sbl (Cy rfl rfl) (fun z6b hz6b=>?_) (hw:=wgT rfl e2a)
       refine sV (Az (evb rfl e2a) rfl) ?_
       obtain rfl:z6b=decide (u5b=1):=bz hz6b
       obtain rfl:=sj f1i
       exact HJ149 _ _ ⟨(.slice A0d (sz r7a.1) c1d),(.pointer (some ⟨bb158,oo159+(0:Int).toNat,none⟩)),(.int .u32 u5b),(.bool (decide (u5b=1))),rfl,(by kernel_rfl)⟩
      ·refine sQ rfl e2a ?_
       refine sQ rfl e2a ?_
       refine sQ rfl e2a ?_
       refine sQ rfl e2a ?_
       refine sV (AE (evb rfl e2a) rfl) ?_
       obtain rfl:=sj f9h
       exact HJ149 _ _ ⟨uu,uu,uu,uu,rfl,(by kernel_rfl)⟩
     ·rintro l' _ ⟨t6d,t7d,t8d,t9d,rfl,rfl⟩ l'' hl
      simp only [S0,S1] at hl;subst hl
      refine sV (Ab rfl) ?_
      refine wh h9g<|wp_ret ?_
      exact Bn f7h X8g rfl
theorem MZ (x0:Ap) (A1:OA) (c2:Nat) (A4:OA) (c5:Nat) (w:World) (hT:TB w) (n3:RU w A1 c2 x0.Num.Abs) (n6:RU w A4 c5 x0.Den) (r:Aj × Aj) (hr:Ia x0=some r) :
  Calls prog 142 #[.agg #[.bool x0.Num.Neg,.slice A1 (sz x0.Num.Abs) c2,.slice A4 (sz x0.Den) c5]] w (Ret rep_119_119 w r):=by
 unfold Ia at hr
 go_enter func142,ntmps142
 refine ws fun h7=>Ah<|sbx rfl rfl fun b8 w1 E9 g8e q9b=>?_
 refine sal Bg fun b9e w2 E2b g0c q3b=>?_
 have g1c:=nlt E9.size g0c
 have X4b:=xtr E9 E2b
 refine sal Bg fun b0f w3 E6a g5b q2c=>?_
 have g3c:=nlt X4b.size g5b
 have X4c:=xtr X4b E6a
 refine wh h7<|ws fun h5c=>DT [8,9] 10 mo rfl fun w4 E1a S7a=>have X8a:=xtr X4c E1a;dA 0 rfl (fun _=>Af (o':=0) Gv rfl rfl) ?_
 have q6b:=((q9b.ext E2b).ext E6a).ext E1a
 refine dV 1 rfl (fun _ hw=>dld EO (q6b.ext hw)) S7a ?_
 refine dA 4 rfl (fun _=>Af (o':=2) GT rfl rfl) ?_
 refine dV 5 rfl (fun _ hw=>Ag Ci rfl (Bx.cell (q6b.ext hw) rfl)) S7a ?_
 refine dA 6 rfl (fun _=>AL (vals:=[(1,.slice A4 (sz x0.Den) c5)]) (cells:=[.bool false,.slice A4 (sz x0.Den) c5]) (by rfl) (by kernel_rfl)) ?_
 refine dcn hr 2 rfl (by rfl) (Ac Qk (by rfl)) (LK x0.Num A1 c2 w4 (tbx X8a hT) (n3.ext X8a)) fun r6c f7c w5 A8c c9c E2a n0d=>?_
 have X7b:=xtr X8a E2a
 have S1d:=S7a.trans E2a
 refine dcn f7c 3 rfl (by rfl) (Ac MF (by rfl)) (GL r6c 0 A8c c9c w5 (tbx X7b hT) n0d) fun r1f f2d w6 A3d c4d E3a n5d=>?_
 have X9a:=xtr X7b E3a
 have S6d:=S1d.trans E3a
 refine dcn f2d 7 rfl (by rfl) (Ac MF (by rfl)) (GL (⟨false,x0.Den⟩:Ae) 0 A4 c5 w6 (tbx X9a hT) (n6.ext X9a)) fun r2f f7d w7 A8d c9d E0a n0e=>?_
 have X1e:=xtr X9a E0a
 have S3f:=S6d.trans E0a
 have q0b:=((((q3b.ext E6a).ext E1a).ext E2a).ext E3a).ext E0a
 refine dkk 8 BC q0b fun w8 U4a q2e=>?_
 have X3e:=belU X1e U4a g1c
 have ne8b:=(Bx.ne q3b g5b).symm
 have q1b:=((((q2c.ext E1a).ext E2a).ext E3a).ext E0a).upd U4a ne8b
 refine dkk 9 BC q1b fun w9 U5a q4e=>?_
 have X5e:=belU X3e U5a g3c
 refine Cx (by kernel_rfl) ?_
 refine h5c _ _<|wp_ret ?_
 have n6e:=((n5d.ext E0a).upd U4a q0b (by decide)).upd U5a q1b (by decide)
 have n7e:=(n0e.upd U4a q0b (by decide)).upd U5a q1b (by decide)
 exact Gd f7d rfl (Res.cellN rfl Aw (q2e.upd U5a (Ne.symm ne8b)) rfl rfl (Res.cellN rfl Aw q4e rfl rfl Res.nil)) (AJ X5e ⟨A3d,c4d,A8d,c9d,rfl,n6e,n7e⟩)
theorem c_sorobanlaw04_moderate__2 (x0_0:BT) (x0_1:BT) (bp0:Nat) (A1:OA) (c2:Nat) (A4:OA) (c5:Nat) (A7:OA) (c8:Nat) (A5a:OA) (c6a:Nat) (w:World) (hT:TB w) (n3:RLu w A1 c2 x0_0.Num.Abs) (n6:RLu w A4 c5 x0_0.Den) (n9:RLu w A7 c8 x0_1.Num.Abs) (n7e:RLu w A5a c6a x0_1.Den) (q7a:Bx w bp0 65 [.bool x0_0.Num.Neg,.slice A1 x0_0.Num.Abs.length c2,.slice A4 x0_0.Den.length c5,.bool x0_1.Num.Neg,.slice A7 x0_1.Num.Abs.length c8,.slice A5a x0_1.Den.length c6a]) (r:Bool) (hr:Dn x0_0 x0_1=some r) :
  Calls prog 89 #[.slice (some ⟨bp0,0,none⟩) 2 2] w (Ret Gi w r):=by
 unfold Dn at hr
 go_enter func89,ntmps89
 refine ws fun h8e=>Ah<|sV (Ab rfl) ?_
 refine wh h8e<|ws fun h9e=>ws fun h0f=>Ah<|sV (Ab rfl) ?_
 refine wh h0f ?_
 apply wp_block
 refine GO<|AW<|ws fun h1f=>ws fun h2f=>Ah<|sV3 (Aa rfl) (Aa rfl) (AD Hj rfl) ?_
 refine sV (HI (v:=.bool true) (Bv rfl rfl) (by rfl)) ?_
 refine wh h2f<|ct rfl<|wp_skip<|h1f _ _<|ws fun h3f=>?_
 apply wp_block
 refine ws fun h4f=>Ah<|sV3 (Aa rfl) (Aa rfl) (CN (o':=0) Hj EM rfl rfl (by decide) (by decide) (by decide)) ?_
 refine sV3 (Af (o':=0) Gv rfl rfl) (Af (o':=1) BI rfl rfl) (Ag Ci rfl (Bx.cell q7a rfl)) ?_
 refine sV (AD CH rfl) ?_
 refine sbl (Eh rfl rfl) fun z7b hz7b=>?_
 refine sV (Aa rfl) ?_
 obtain ⟨m5f,h6f,f7f⟩:=Ad hr
 refine BH 17 (fun l l' w'=>∃(t8b:Value) (t9b:Value) (t0c:Value) (t1c:Value) (t2c:Value) (t3c:Value) (t4c:Value),w=w'∧l'=((((((((l.set 19 t8b).set 20 t9b).set 21 t0c).set 22 t1c).set 23 t2c).set 24 t3c).set 25 t4c).set 26 (.bool m5f))) ?_ ?_
 ·intro HJ39
  rcases zi hz7b h6f with ⟨e0a,_,f8f⟩ | ⟨e0a,_,f9f⟩
  ·refine sQ rfl e0a ?_
   refine sQ rfl e0a ?_
   refine sQ rfl e0a ?_
   refine sQ rfl e0a ?_
   refine sQ rfl e0a ?_
   refine sQ rfl e0a ?_
   refine sQ rfl e0a ?_
   refine sV (Az (evb rfl e0a) rfl) ?_
   obtain rfl:=sj f8f
   exact HJ39 _ _ ⟨uu,uu,uu,uu,uu,uu,uu,rfl,(by kernel_rfl)⟩
  ·refine sV (Aa rfl) ?_ (hw:=wgT rfl e0a)
   refine sV (Aa rfl) ?_ (hw:=wgT rfl e0a)
   refine sV (CN (o':=0) Hj EM rfl rfl (by decide) (by decide) (by decide)) ?_ (hw:=wgT rfl e0a)
   refine sV (Af (o':=2) GT rfl rfl) ?_ (hw:=wgT rfl e0a)
   refine sV (Ag Ci rfl (Bx.cell q7a rfl)) ?_ (hw:=wgT rfl e0a)
   refine sV (AD CH rfl) ?_ (hw:=wgT rfl e0a)
   refine sbl (Eh rfl rfl) (fun z8a hz8a=>?_) (hw:=wgT rfl e0a)
   refine sV (AE (evb rfl e0a) rfl) ?_
   obtain rfl:z8a=decide (20<(x0_0.Den.length:Int)):=bz hz8a
   obtain rfl:=sj f9f
   exact HJ39 _ _ ⟨(.slice (some ⟨bp0,0,none⟩) 2 2),(.int .i64 0),(.pointer (some ⟨bp0,0,none⟩)),(.pointer (some ⟨bp0,2,none⟩)),(.slice A4 x0_0.Den.length c5),(.int .i64 (x0_0.Den.length:Int)),(.bool (decide (20<(x0_0.Den.length:Int)))),rfl,(by kernel_rfl)⟩
 ·rintro l' _ ⟨t8b,t9b,t0c,t1c,t2c,t3c,t4c,rfl,rfl⟩ l'' hl
  simp only [S0,S1] at hl;subst hl
  refine sV (Aa rfl) ?_
  obtain ⟨m0g,h1g,f2g⟩:=Ad f7f
  refine BH 25 (fun l l' w'=>∃(t5c:Value) (t6c:Value) (t7c:Value) (t8c:Value) (t9c:Value) (t0d:Value),UpdS [] w w'∧l'=(((((((l.set 28 t5c).set 29 t6c).set 30 t7c).set 31 t8c).set 32 t9c).set 33 t0d).set 34 (.bool m0g))) ?_ ?_
  ·intro HJ66
   rcases zb h1g with ⟨e2a,f3g⟩ | ⟨e2a,f4g⟩
   ·refine sQ rfl e2a ?_
    refine sQ rfl e2a ?_
    refine sQ rfl e2a ?_
    refine sQ rfl e2a ?_
    refine sQ rfl e2a ?_
    refine sQ rfl e2a ?_
    refine sV (Az (evb rfl e2a) rfl) ?_
    obtain rfl:=sj f3g
    exact HJ66 _ _ ⟨uu,uu,uu,uu,uu,uu,(UpdS.refl _ _),(by kernel_rfl)⟩
   ·refine sV (Aa rfl) ?_ (hw:=wgT rfl e2a)
    refine sV (Aa rfl) ?_ (hw:=wgT rfl e2a)
    refine sV (CN (o':=0) Hj EM rfl rfl (by decide) (by decide) (by decide)) ?_ (hw:=wgT rfl e2a)
    refine sV (dld Bl q7a) ?_ (hw:=wgT rfl e2a)
    refine scr f4g (Ac MD (by rfl)) (GK x0_0 A1 c2 A4 c5 w hT n3 n6) (fun r9a f5g w1 E6g=>?_) (hw:=wgT rfl e2a)
    refine sbl (FL rfl) (fun z0b hz0b=>?_) (hw:=wgT rfl e2a)
    refine sV (AE (evb rfl e2a) rfl) ?_
    obtain rfl:z0b=decide (¬(r9a=true)):=bz hz0b
    obtain rfl:=sj f5g
    exact HJ66 _ _ ⟨(.slice (some ⟨bp0,0,none⟩) 2 2),(.int .i64 0),(.pointer (some ⟨bp0,0,none⟩)),(.agg #[.bool x0_0.Num.Neg,.slice A1 x0_0.Num.Abs.length c2,.slice A4 x0_0.Den.length c5]),(.bool r9a),(.bool (decide (¬(r9a=true)))),((UpdS.refl _ _).ext E6g),(by kernel_rfl)⟩
  ·rintro l' w1 ⟨t5c,t6c,t7c,t8c,t9c,t0d,U1d,rfl⟩ l'' hl
   simp only [S0,S1] at hl;subst hl
   have X4a:=Kc (Ext.refl _) U1d (Nat.le_refl _) al0
   refine wh h4f ?_
   rcases zb f2g with ⟨e1b,f7g⟩ | ⟨e1b,f8g⟩
   ·refine ct e1b<|ws fun h9g=>Ah<|sV (Ab rfl) ?_
    refine wh h9g<|wp_ret ?_
    exact Bn f7g X4a rfl
   ·refine cf e1b<|wp_skip<|h3f _ _<|Ah<|sV2 (Aa rfl) (AV (c:=1) rfl rfl (by decide)) ?_
    refine sV (Ab rfl) ?_
    refine AF<|AW<|ws fun h0h=>ws fun h1h=>Ah<|sV3 (Aa rfl) (Aa rfl) (AD Hj rfl) ?_
    refine sV (HI (v:=.bool true) (Bv rfl rfl) (by rfl)) ?_
    refine wh h1h<|ct rfl<|wp_skip<|h0h _ _<|ws fun h2h=>?_
    apply wp_block
    refine ws fun h3h=>Ah<|sV3 (Aa rfl) (Aa rfl) (CN (o':=3) Hj EM rfl rfl (by decide) (by decide) (by decide)) ?_
    have q2b:=q7a.updS U1d nm0
    refine sV3 (Af (o':=3) Gv rfl rfl) (Af (o':=4) BI rfl rfl) (Ag Ci rfl (Bx.cell q2b rfl)) ?_
    refine sV (AD CH rfl) ?_
    refine sbl (Eh rfl rfl) fun z2d hz2d=>?_
    refine sV (Aa rfl) ?_
    obtain ⟨m4h,h5h,f6h⟩:=Ad f8g
    refine BH 17 (fun l l' w'=>∃(t3d:Value) (t4d:Value) (t5d:Value) (t6d:Value) (t7d:Value) (t8d:Value) (t9d:Value),w1=w'∧l'=((((((((l.set 19 t3d).set 20 t4d).set 21 t5d).set 22 t6d).set 23 t7d).set 24 t8d).set 25 t9d).set 26 (.bool m4h))) ?_ ?_
    ·intro HJ111
     rcases zi hz2d h5h with ⟨e1a,_,f7h⟩ | ⟨e1a,_,f8h⟩
     ·refine sQ rfl e1a ?_
      refine sQ rfl e1a ?_
      refine sQ rfl e1a ?_
      refine sQ rfl e1a ?_
      refine sQ rfl e1a ?_
      refine sQ rfl e1a ?_
      refine sQ rfl e1a ?_
      refine sV (Az (evb rfl e1a) rfl) ?_
      obtain rfl:=sj f7h
      exact HJ111 _ _ ⟨uu,uu,uu,uu,uu,uu,uu,rfl,(by kernel_rfl)⟩
     ·refine sV (Aa rfl) ?_ (hw:=wgT rfl e1a)
      refine sV (Aa rfl) ?_ (hw:=wgT rfl e1a)
      refine sV (CN (o':=3) Hj EM rfl rfl (by decide) (by decide) (by decide)) ?_ (hw:=wgT rfl e1a)
      refine sV (Af (o':=5) GT rfl rfl) ?_ (hw:=wgT rfl e1a)
      refine sV (Ag Ci rfl (Bx.cell q2b rfl)) ?_ (hw:=wgT rfl e1a)
      refine sV (AD CH rfl) ?_ (hw:=wgT rfl e1a)
      refine sbl (Eh rfl rfl) (fun z3b hz3b=>?_) (hw:=wgT rfl e1a)
      refine sV (AE (evb rfl e1a) rfl) ?_
      obtain rfl:z3b=decide (20<(x0_1.Den.length:Int)):=bz hz3b
      obtain rfl:=sj f8h
      exact HJ111 _ _ ⟨(.slice (some ⟨bp0,0,none⟩) 2 2),(.int .i64 1),(.pointer (some ⟨bp0,3,none⟩)),(.pointer (some ⟨bp0,5,none⟩)),(.slice A5a x0_1.Den.length c6a),(.int .i64 (x0_1.Den.length:Int)),(.bool (decide (20<(x0_1.Den.length:Int)))),rfl,(by kernel_rfl)⟩
    ·rintro l' _ ⟨t3d,t4d,t5d,t6d,t7d,t8d,t9d,rfl,rfl⟩ l'' hl
     simp only [S0,S1] at hl;subst hl
     refine sV (Aa rfl) ?_
     obtain ⟨m9h,h0i,f1i⟩:=Ad f6h
     refine BH 25 (fun l l' w'=>∃(t0e:Value) (t1e:Value) (t2e:Value) (t3e:Value) (t4e:Value) (t5e:Value),UpdS [] w1 w'∧l'=(((((((l.set 28 t0e).set 29 t1e).set 30 t2e).set 31 t3e).set 32 t4e).set 33 t5e).set 34 (.bool m9h))) ?_ ?_
     ·intro HJ139
      rcases zb h0i with ⟨e3a,f2i⟩ | ⟨e3a,f3i⟩
      ·refine sQ rfl e3a ?_
       refine sQ rfl e3a ?_
       refine sQ rfl e3a ?_
       refine sQ rfl e3a ?_
       refine sQ rfl e3a ?_
       refine sQ rfl e3a ?_
       refine sV (Az (evb rfl e3a) rfl) ?_
       obtain rfl:=sj f2i
       exact HJ139 _ _ ⟨uu,uu,uu,uu,uu,uu,(UpdS.refl _ _),(by kernel_rfl)⟩
      ·refine sV (Aa rfl) ?_ (hw:=wgT rfl e3a)
       refine sV (Aa rfl) ?_ (hw:=wgT rfl e3a)
       refine sV (CN (o':=3) Hj EM rfl rfl (by decide) (by decide) (by decide)) ?_ (hw:=wgT rfl e3a)
       refine sV (dld Bl q2b) ?_ (hw:=wgT rfl e3a)
       refine scr f3i (Ac MD (by rfl)) (GK x0_1 A7 c8 A5a c6a w1 (tbx X4a hT) (n9.ext X4a) (n7e.ext X4a)) (fun r4b f4i w2 E5i=>?_) (hw:=wgT rfl e3a)
       refine sbl (FL rfl) (fun z5b hz5b=>?_) (hw:=wgT rfl e3a)
       refine sV (AE (evb rfl e3a) rfl) ?_
       obtain rfl:z5b=decide (¬(r4b=true)):=bz hz5b
       obtain rfl:=sj f4i
       exact HJ139 _ _ ⟨(.slice (some ⟨bp0,0,none⟩) 2 2),(.int .i64 1),(.pointer (some ⟨bp0,3,none⟩)),(.agg #[.bool x0_1.Num.Neg,.slice A7 x0_1.Num.Abs.length c8,.slice A5a x0_1.Den.length c6a]),(.bool r4b),(.bool (decide (¬(r4b=true)))),((UpdS.refl _ _).ext E5i),(by kernel_rfl)⟩
     ·rintro l' w2 ⟨t0e,t1e,t2e,t3e,t4e,t5e,U6i,rfl⟩ l'' hl
      simp only [S0,S1] at hl;subst hl
      have X6e:=Kc X4a U6i (X4a).size al0
      refine wh h3h ?_
      rcases zb f1i with ⟨e6b,f7i⟩ | ⟨e6b,f8i⟩
      ·refine ct e6b<|ws fun h9i=>Ah<|sV (Ab rfl) ?_
       refine wh h9i<|wp_ret ?_
       exact Bn f7i X6e rfl
      ·refine cf e6b<|wp_skip<|h2h _ _<|Ah<|sV2 (Aa rfl) (AV (c:=2) rfl rfl (by decide)) ?_
       refine sV (Ab rfl) ?_
       refine AF<|AW<|ws fun h2j=>ws fun h0j=>Ah<|sV3 (Aa rfl) (Aa rfl) (AD Hj rfl) ?_
       refine sV (HI (v:=.bool false) (Bv rfl rfl) (by rfl)) ?_
       refine wh h0j<|cf rfl<|wp_exit ?_
       simp only [Exit.then,Exit.inBlock,↓reduceIte,Nat.reduceEqDiff]
       refine h9e _ _<|ws fun h1j=>Ah<|sV (Ab rfl) ?_
       refine wh h1j<|wp_ret ?_
       exact Bn f8i X6e rfl
theorem KO (x0:BT) (x1:Int) (A1:OA) (c2:Nat) (A4:OA) (c5:Nat) (w:World) (hT:TB w) (n3:RLu w A1 c2 x0.Num.Abs) (n6:RLu w A4 c5 x0.Den) (r:Ao × Int) (hr:GM x0 x1=some r) :
  Calls prog 72 #[.agg #[.bool x0.Num.Neg,.slice A1 x0.Num.Abs.length c2,.slice A4 x0.Den.length c5],.int .i64 x1] w (Ret FF w r):=by
 unfold GM at hr
 obtain ⟨q0,hq0,hr0⟩:=Ad hr
 unfold Kw at hq0
 go_enter_defers func72,ntmps72
 refine ws fun h7=>Ah<|sbx rfl rfl fun b8 w1 E9 g0i q1f=>?_
 refine sal Gp fun b5b w2 E2c g3c q6b=>?_
 have g8b:=nlt E9.size g3c
 have X2e:=xtr E9 E2c
 refine sal JN fun b4c w3 E7b g1i q5c=>?_
 have g6c:=nlt X2e.size g1i
 have X7c:=xtr X2e E7b
 have q2f:=(q1f.ext E2c).ext E7b
 refine nx h7 fun h2i=>HP (vs:=[.pointer (some ⟨b5b,0,none⟩),.pointer (some ⟨b4c,0,none⟩)]) (by rfl) (by rfl)<|nx h2i fun h3i=>sV (Ak Bl rfl q2f rfl) ?_
 refine scr hq0 (Ac MD (by rfl)) (GK x0 A1 c2 A4 c5 w3 (tbx X7c hT) (n3.ext X7c) (n6.ext X7c)) fun r3f f4i w4 E3a=>?_
 have X8c:=xtr X7c E3a
 rcases AC f4i with ⟨r9c,h3e,f5i⟩ | ⟨r9c,h3e,rfl⟩
 ·refine scO (Ac FS (by rfl)) (Bs r3f 1 w4 (tbx X8c hT)  (.ok r9c) h3e) ?_
  rintro _ w5 E1a rfl
  refine nrm ?_
  have X0d:=xtr X8c E1a
  refine nx h3i fun h6i=>sV (Aa rfl) ?_
  rcases AC f5i with ⟨r1d,h4e,f7i⟩ | ⟨r1d,h4e,rfl⟩
  ·refine scO (Ac Nt (by rfl)) (IL x1 w5 (tbx X0d hT)  (.ok r1d) h4e) ?_
   rintro _ w6 E4a rfl
   refine nrm ?_
   have X2d:=xtr X0d E4a
   refine nx h6i fun h8i=>have q9i:=((q2f.ext E3a).ext E1a).ext E4a;sV (Ak Bl rfl q9i rfl) ?_
   obtain ⟨m4f,h0j,f1j⟩:=Ad f7i
   have hx5f:=Dd h0j
   have n2j:RU w6 A1 c2 m4f:=by unfold RU;rw [hx5f];exact (n3.ext X2d)
   obtain ⟨m6f,h3j,f4j⟩:=Ad f1j
   have hx7f:=Dd h3j
   have n5j:RU w6 A4 c5 m6f:=by unfold RU;rw [hx7f];exact (n6.ext X2d)
   obtain ⟨r9b,h6j,f7j⟩:=Ad f4j
   refine sc (Ac Rg (by simp only [sz,hx5f,hx7f];rfl)) (MZ (⟨(⟨x0.Num.Neg,m4f⟩:Ae),m6f⟩:Ap) A1 c2 A4 c5 w6 (tbx X2d hT) n2j n5j r9b h6j) ?_
   rintro _ w7 E0c ⟨A8f,c9f,A0g,c1g,rfl,n8j,n9j⟩
   refine nrm ?_
   have X2g:=xtr X2d E0c
   refine sV3 (Aa rfl) (Ai rfl rfl) (Ai rfl rfl) ?_
   refine sal Bg fun b9n w8 E3b g0k q6a=>?_
   have g1k:=nlt X2g.size g0k
   have X3g:=xtr X2g E3b
   refine sal Bg fun b0o w9 E0a g4g q2k=>?_
   have g3k:=nlt X3g.size g4g
   have X4k:=xtr X3g E0a
   refine ss BC (q6a.ext E0a) fun w0i U2a q5k=>?_
   have X6k:=belU X4k U2a g1k
   have ne5g:=(Bx.ne q6a g4g).symm
   have q4b:=q2k.upd U2a ne5g
   refine ss BC q4b fun w1f U7a q6g=>?_
   have X7k:=belU X6k U7a g3k
   refine wh h8i<|ws fun h8k=>DT [10,11] 12 mo rfl fun w5b E5a S1c=>?_
   have X7g:=xtr X7k E5a
   have q8g:=(q5k.upd U7a (Ne.symm ne5g)).ext E5a
   refine dV 0 rfl (fun _ hw=>Ak Aw rfl (q8g.ext hw) rfl) S1c ?_ (hQ:=fun _ _ _ h=>dq (rs:=[.cell 4 29,.cell 5 33]) rfl (by decide) h)
   refine dV 1 rfl (fun _ hw=>Ak Aw rfl ((q6g.ext E5a).ext hw) rfl) S1c ?_ (hQ:=fun _ _ _ h=>dq (rs:=[.cell 4 29,.cell 5 33]) rfl (by decide) h)
   refine dA 2 rfl (fun _=>Aa rfl) ?_ (hQ:=fun _ _ _ h=>dq (rs:=[.cell 4 29,.cell 5 33]) rfl (by decide) h)
   refine dV 4 rfl (fun _ hw=>Ak Aw rfl (q8g.ext hw) rfl) S1c ?_ (hQ:=fun _ _ _ h=>dq (rs:=[.cell 4 29,.cell 5 33]) rfl (by decide) h)
   refine dV 5 rfl (fun _ hw=>Ak Aw rfl ((q6g.ext E5a).ext hw) rfl) S1c ?_ (hQ:=fun _ _ _ h=>dq (rs:=[.cell 4 29,.cell 5 33]) rfl (by decide) h)
   refine dA 6 rfl (fun _=>Aa rfl) ?_ (hQ:=fun _ _ _ h=>dq (rs:=[.cell 4 29,.cell 5 33]) rfl (by decide) h)
   have n9g:=((((n8j.ext E3b).ext E0a).upd U2a (q6a.ext E0a) (by decide)).upd U7a q4b (by decide)).ext E5a
   have n0h:=((((n9j.ext E3b).ext E0a).upd U2a (q6a.ext E0a) (by decide)).upd U7a q4b (by decide)).ext E5a
   refine dcn f7j 3 rfl (by rfl) (Ac DD (by rfl)) (Ay r9b.1 r9b.2 x1 5 A8f c9f A0g c1g w5b (tbx X7g hT) n9g n0h) fun r8a f9k w2c A3d c4d E9a n1h=>?_
   have X2h:=xtr X7g E9a
   have S0l:=S1c.trans E9a
   refine dcn f9k 7 rfl (by rfl) (Ac DD (by rfl)) (Ay r9b.1 r9b.2 x1 4 A8f c9f A0g c1g w2c (tbx X2h hT) (n9g.ext E9a) (n0h.ext E9a)) fun r0b f1l w3c A5d c6d E1b n3h=>?_
   have X7d:=xtr X2h E1b
   have S2l:=S0l.trans E1b
   refine dA 8 rfl (fun _=>AL (vals:=[(0,.agg #[.bool r8a.m.Neg,.slice A3d (sz r8a.m.Abs) c4d,.int .i64 r8a.e]),(1,.agg #[.bool r0b.m.Neg,.slice A5d (sz r0b.m.Abs) c6d,.int .i64 r0b.e])]) (cells:=[.bool r8a.m.Neg,.slice A3d (sz r8a.m.Abs) c4d,.int .i64 r8a.e,.bool r0b.m.Neg,.slice A5d (sz r0b.m.Abs) c6d,.int .i64 r0b.e]) (by rfl) (by kernel_rfl)) ?_ (hQ:=fun _ _ _ h=>dq (rs:=[.cell 4 29,.cell 5 33]) rfl (by decide) h)
   rcases AC f1l with ⟨r8d,h5e,f3l⟩ | ⟨r8d,h5e,rfl⟩
   ·refine dcO 9 rfl (by kernel_rfl) (by rfl) (Ac Je (by rfl)) (BS (⟨r8a,r0b⟩:An) A3d c4d A5d c6d w3c (tbx X7d hT) (n1h.ext E1b) n3h (.ok r8d) h5e) ?_
    rintro _ w6b E2b ⟨A4l,c5l,A6l,c7l,rfl,n8l,n9l⟩
    refine dnrm ?_
    have X0m:=xtr X7d E2b
    have S1o:=S2l.trans E2b
    have q6e:=((((((q6b.ext E7b).ext E3a).ext E1a).ext E4a).ext E0c).ext E3b).ext E0a
    have ne4h:=(Bx.neT q6e (q6a.ext E0a) (by decide))
    have ne1m:=(Bx.neT (q6e.upd U2a ne4h) q4b (by decide))
    have q9d:=(((((q6e.upd U2a ne4h).upd U7a ne1m).ext E5a).ext E9a).ext E1b).ext E2b
    refine dkk 10 EG q9d fun w8b U0e q2m=>?_
    have X3m:=belU X0m U0e g8b
    have q7e:=(((((q5c.ext E3a).ext E1a).ext E4a).ext E0c).ext E3b).ext E0a
    have ne5h:=(Bx.neT q7e (q6a.ext E0a) (by decide))
    have ne4m:=(Bx.neT (q7e.upd U2a ne5h) q4b (by decide))
    have q6h:=(((((q7e.upd U2a ne5h).upd U7a ne4m).ext E5a).ext E9a).ext E1b).ext E2b
    have ne7h:=(Bx.neT q6h q9d (by decide))
    have q8e:=q6h.upd U0e ne7h
    refine dkk 11 HU q8e fun w2e U1e q5m=>?_
    have X6m:=belU X3m U1e g6c
    refine Cx (by kernel_rfl) ?_
    refine h8k _ _<|wp_ret ?_
    have n7m:=(n8l.upd U0e q9d (by decide)).upd U1e q8e (by decide)
    have n8m:=(n9l.upd U0e q9d (by decide)).upd U1e q8e (by decide)
    obtain rfl:=sj f3l
    obtain rfl:=sj hr0
    exact NJ Jj Mi rfl (Res.cellN rfl BB (q2m.upd U1e (Ne.symm ne7h)) rfl rfl (Res.cell1 rfl CO (Bx.cell q5m rfl) Res.nil)) (AJ X6m ⟨A4l,c5l,A6l,c7l,rfl,n7m,n8m⟩)
   ·refine dcP 9 rfl (by kernel_rfl) (by rfl) (Ac Je (by rfl)) (BS (⟨r8a,r0b⟩:An) A3d c4d A5d c6d w3c (tbx X7d hT) (n1h.ext E1b) n3h (.error r8d) h5e) fun w6b E2b=>?_
    have X9m:=xtr X7d E2b
    have q9e:=((((((q6b.ext E7b).ext E3a).ext E1a).ext E4a).ext E0c).ext E3b).ext E0a
    have ne8h:=(Bx.neT q9e (q6a.ext E0a) (by decide))
    have ne0n:=(Bx.neT (q9e.upd U2a ne8h) q4b (by decide))
    have q1n:=(((((q9e.upd U2a ne8h).upd U7a ne0n).ext E5a).ext E9a).ext E1b).ext E2b
    have q0f:=(((((q5c.ext E3a).ext E1a).ext E4a).ext E0c).ext E3b).ext E0a
    have ne9h:=(Bx.neT q0f (q6a.ext E0a) (by decide))
    have ne2n:=(Bx.neT (q0f.upd U2a ne9h) q4b (by decide))
    have q3n:=(((((q0f.upd U2a ne9h).upd U7a ne2n).ext E5a).ext E9a).ext E1b).ext E2b
    refine Kg Mi (Fb b5b b4c (.bool false:Value) (.slice none 0 0:Value) (.int .i64 0:Value) (.bool false:Value) (.slice none 0 0:Value) (.int .i64 0:Value) (.int .i64 0:Value) r8d q1n q3n) rfl ?_
    rintro w9 ⟨u9,q9,q9'⟩
    obtain rfl:=sj hr0
    exact ⟨_,(Res.cellN rfl BB q9 rfl rfl (Res.cell1 rfl CO (Bx.cell q9' rfl) Res.nil)),AJ (u9.toExt X9m g8b g6c) ⟨none,0,none,0,rfl,RU.nil _,RU.nil _⟩⟩
  ·refine scP (Ac Nt (by rfl)) (IL x1 w5 (tbx X0d hT)  (.error r1d) h4e) fun w6 E4a=>?_
   have X4n:=xtr X0d E4a
   have q5n:=(((q6b.ext E7b).ext E3a).ext E1a).ext E4a
   have q6n:=((q5c.ext E3a).ext E1a).ext E4a
   refine Kg Mi (Fb b5b b4c (.bool false:Value) (.slice none 0 0:Value) (.int .i64 0:Value) (.bool false:Value) (.slice none 0 0:Value) (.int .i64 0:Value) (.int .i64 0:Value) r1d q5n q6n) rfl ?_
   rintro w9 ⟨u9,q9,q9'⟩
   obtain rfl:=sj hr0
   exact ⟨_,(Res.cellN rfl BB q9 rfl rfl (Res.cell1 rfl CO (Bx.cell q9' rfl) Res.nil)),AJ (u9.toExt X4n g8b g6c) ⟨none,0,none,0,rfl,RU.nil _,RU.nil _⟩⟩
 ·refine scP (Ac FS (by rfl)) (Bs r3f 1 w4 (tbx X8c hT)  (.error r9c) h3e) fun w5 E1a=>?_
  have X7n:=xtr X8c E1a
  have q8n:=((q6b.ext E7b).ext E3a).ext E1a
  refine Kg Mi (Fb b5b b4c (.bool false:Value) (.slice none 0 0:Value) (.int .i64 0:Value) (.bool false:Value) (.slice none 0 0:Value) (.int .i64 0:Value) (.int .i64 0:Value) r9c q8n ((q5c.ext E3a).ext E1a)) rfl ?_
  rintro w9 ⟨u9,q9,q9'⟩
  obtain rfl:=sj hr0
  exact ⟨_,(Res.cellN rfl BB q9 rfl rfl (Res.cell1 rfl CO (Bx.cell q9' rfl) Res.nil)),AJ (u9.toExt X7n g8b g6c) ⟨none,0,none,0,rfl,RU.nil _,RU.nil _⟩⟩
theorem Ky (b b':Nat) (v0:Value) (u:Value) (n:Int) {w:World} (qa:Bx w b 4 [v0]) (qb:Bx w b' 33 [u]) :
  CallsD prog 166 #[.pointer (some ⟨b,0,none⟩),.pointer (some ⟨b',0,none⟩)] (.panicking [entry 201 n]) w fun e u' w'=>e = .returned (.tuple #[])∧u' = .panicking [{ entry 201 n with recovered:=true }]∧(Upd2 b b' w w'∧Bx w' b 4 [.bool false]∧Bx w' b' 33 [.int .i64 n]):=by
 refine KM func166 rfl [.pointer (some ⟨b,0,none⟩),.pointer (some ⟨b',0,none⟩),uu,uu,uu,uu,uu,uu,uu,uu,uu,uu,uu,uu,uu,uu,uu,uu,uu,uu,uu,uu,uu,uu,uu,uu] (by simp [ntmps166]) fun c₀ cs hu=>?_
 apply wpS_seq
 refine Sy hu rfl ?_
 simp only [S0,S1]
 refine wpS_of_wp<|ws fun h1=>Ah<|sV2 (Aa rfl) (Oe Mx rfl) ?_
 refine wh h1<|ct rfl<|ws fun h2=>Ah<|sV3 (Aa rfl) (Ms Pw rfl) (Aa rfl) ?_
 refine sV2 (Ai rfl rfl) (Ai rfl rfl) ?_
 refine sal Qp fun b3 w1 E4 g5 q6=>?_
 have X7:=(Upd2.refl b b' w).ext E4
 refine ss Qt q6 fun w2 U8 q9=>?_
 have X7a:=X7.upd U8 (.inl g5)
 refine sV (Ab rfl) ?_
 refine wh h2<|ws fun h8a=>ws fun h9a=>Ah<|sV2 (Aa rfl) (Np rfl rfl rfl) ?_
 refine wh h9a<|cf rfl<|wp_skip<|h8a _ _<|ws fun h0b=>Ah<|sV (Ab rfl) ?_
 refine wh h0b<|DT [6,8] 9 mo rfl fun w3 E0a S2c=>have X1b:=X7a.ext E0a;dA 0 rfl (fun _=>Aa rfl) ?_
 refine dA2 1 2 rfl rfl (fun _=>Aa rfl) (fun _=>Aa rfl) ?_
 refine dA2 3 5 rfl rfl (fun _=>Af (o':=0) NW rfl rfl) (fun _=>Bz rfl) ?_
 refine Kn (tb 9 127) 2 (fun l l' w'=>UpdS [b] w3 w'∧Bx w' b 4 [.bool false]∧l'=(l.set 23 (.int .i64 n))) ?_ ?_
 ·intro HJ31
  refine Ea 4 6 (by kernel_rfl) ?_ ?_
  ·refine opV 4 rfl (by rfl) (Ag CO rfl (Bx.cell (q9.ext E0a) rfl)) (dnrm ?_)
   refine Bc 6 (by kernel_rfl) ?_
   ·have F2b:=belU E4 U8 g5
    refine opK 6 rfl (by decide) (by rfl) SD rfl rfl ((qa.ext F2b).ext E0a) rfl rfl rfl rfl (by simp only [SP0,SP1,S0,S1,Nat.reduceAdd];rfl) fun w4 U3b q4b=>?_
    exact dls (HJ31 _ _ ⟨((UpdS.refl _ _).upd U3b (.inl im0)),q4b,(by kernel_rfl)⟩)
  ·have F2a:=belU E4 U8 g5
   refine opK 6 rfl (by decide) (by rfl) SD rfl rfl ((qa.ext F2a).ext E0a) rfl rfl rfl rfl (by simp only [SP0,SP1,S0,S1,Nat.reduceAdd];rfl) fun w4 U3a q5b=>?_
   refine Bc 4 (by kernel_rfl) ?_
   ·have ne6b:=(Bx.neT (q9.ext E0a) ((qa.ext F2a).ext E0a) (by decide))
    refine opV 4 rfl (by rfl) (Ag CO rfl (Bx.cell ((q9.ext E0a).upd U3a ne6b) rfl)) (dnrm ?_)
    exact dls (HJ31 _ _ ⟨((UpdS.refl _ _).upd U3a (.inl im0)),q5b,(by kernel_rfl)⟩)
 ·rintro _ w4 ⟨U4a,q7b,rfl⟩ _ rfl
  have X8b:=X1b.updS U4a (alc (.inr (.inl rfl)) al0)
  refine dA 7 rfl (fun _=>Bz rfl) ?_
  have F1a:=belU E4 U8 g5
  have ne5a:=(Bx.neT ((qb.ext F1a).ext E0a) ((qa.ext F1a).ext E0a) (by decide))
  have q9b:=((qb.ext F1a).ext E0a).updS U4a (nmc ne5a nm0)
  refine dkk 8 HU q9b fun w5 U6a q0c=>?_
  have X1c:=X8b.upd U6a (.inr (.inr rfl))
  refine Cx (by kernel_rfl) ?_
  exact SA (by kernel_rfl) ⟨rfl,rfl,X1c,(q7b.upd U6a (Ne.symm ne5a)),q0c⟩
theorem Jk:Ry prog 166:=by
 intro ar b b' w ha
 subst ha
 refine KM func166 rfl [.pointer (some ⟨b,0,none⟩),.pointer (some ⟨b',0,none⟩),uu,uu,uu,uu,uu,uu,uu,uu,uu,uu,uu,uu,uu,uu,uu,uu,uu,uu,uu,uu,uu,uu,uu,uu] (by simp [ntmps166]) fun c₀ cs hu=>?_
 apply wpS_seq
 refine Sg hu rfl ?_
 simp only [S0,S1]
 refine wpS_of_wp<|ws fun h1=>Ah<|sV2 (Aa rfl) (Ml Mx rfl) ?_
 refine wh h1<|cf rfl<|wp_skip ?_
 exact Rc hu (by kernel_rfl) ⟨rfl,rfl,rfl⟩
theorem KW (x0_0:Am) (bp0:Nat) (A1:OA) (c2:Nat) (A4:OA) (c5:Nat) (w:World) (hT:TB w) (n3:RLu w A1 c2 x0_0.Lo.Man.Abs) (n6:RLu w A4 c5 x0_0.Hi.Man.Abs) (q7:Bx w bp0 29 [.bool x0_0.Lo.Man.Neg,.slice A1 x0_0.Lo.Man.Abs.length c2,.int .i64 x0_0.Lo.Exp,.bool x0_0.Hi.Man.Neg,.slice A4 x0_0.Hi.Man.Abs.length c5,.int .i64 x0_0.Hi.Exp]) (r:Except Int (Unit)) (hr:Hf x0_0=some r) :
  Calls prog 162 #[.slice (some ⟨bp0,0,none⟩) 1 1] w (RetE 201 KD w r):=by
 unfold Hf at hr
 go_enter func162,ntmps162
 refine ws fun h8=>Ah<|sV3 (Aa rfl) (AD MC rfl) (Aa rfl) ?_
 refine wh h8 ?_
 apply wp_block
 refine GO<|AW<|ws fun h9=>Ah<|sV (HI (v:=.bool true) (Bv rfl rfl) (by rfl)) ?_
 refine wh h9<|ws fun h6a=>ct rfl<|wp_skip<|h6a _ _<|ws fun h7a=>?_
 apply wp_block
 refine ws fun h8a=>Ah<|sV (CN (o':=0) MC EG rfl rfl (by decide) (by decide) (by decide)) ?_
 refine sV (Ak BB rfl q7 rfl) ?_
 refine sal Gp fun b0c w1 E9a g0b q1b=>?_
 refine ss EG q1b fun w2 U2b q3b=>?_
 have F0a:=belU E9a U2b g0b
 refine wh h8a<|Ah<|sV (Ak BB rfl q3b rfl) ?_
 refine scr hr (Ac RJ (by rfl)) (KQ x0_0 A1 c2 A4 c5 w2 (tbx F0a hT) (n3.ext F0a) (n6.ext F0a)) fun r5a f4b w3 E5b=>?_
 have X1a:=xtr F0a E5b
 rcases AC f4b with ⟨r2a,h3a,f6b⟩ | ⟨r2a,h3a,rfl⟩
 ·refine scO (Ac FS (by rfl)) (Bs r5a 1 w3 (tbx X1a hT)  (.ok r2a) h3a) ?_
  rintro _ w4 E4a rfl
  refine nrm ?_
  have X7b:=xtr X1a E4a
  refine wh h7a<|Ah<|sV (AV (c:=1) rfl rfl (by decide)) ?_
  refine sV (Aa rfl) ?_
  refine AF<|AW<|ws fun h8b=>Ah<|sV (HI (v:=.bool false) (Bv rfl rfl) (by rfl)) ?_
  refine wh h8b<|ws fun h1c=>cf rfl<|wp_exit ?_
  simp only [Exit.then,Exit.inBlock,↓reduceIte,Nat.reduceEqDiff]
  obtain rfl:=sj f6b
  exact MS rfl Res.nil (Cl X7b rfl)
 ·refine scP (Ac FS (by rfl)) (Bs r5a 1 w3 (tbx X1a hT)  (.error r2a) h3a) fun w4 E4a=>?_
  have X9b:=xtr X1a E4a
  exact ⟨rfl,AP X9b⟩
end Go.Proofs

