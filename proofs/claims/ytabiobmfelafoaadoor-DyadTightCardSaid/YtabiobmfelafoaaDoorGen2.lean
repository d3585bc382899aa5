import Derived.Test.YtabiobmfelafoaaDoorGen1
namespace Go.Proofs
set_option linter.unusedVariables false
set_option linter.unusedSimpArgs false
set_option maxHeartbeats 4000000
open Go.RowKit Go.Sb Go.Proofs.Sbn
theorem IV (x0:Aj) (x1:Aj) (x2:Int) (x3:Int) (A1:Option Addr) (c2:Nat) (A4:Option Addr) (c5:Nat) (w:World) (hT:TB w) (n3:RU w A1 c2 x0.m.Abs) (n6:RU w A4 c5 x1.m.Abs) (r:Aj) (hr:FS x0 x1 x2 x3=some r) :
  Calls Tryd.prog 53 #[.agg #[.bool x0.m.Neg,.slice A1 (sz x0.m.Abs) c2,.int .i64 x0.e],.agg #[.bool x1.m.Neg,.slice A4 (sz x1.m.Abs) c5,.int .i64 x1.e],.int .i64 x2,.int .i64 x3] w (Ret Gz w r):=by
 unfold FS at hr
 go_enter Tryd.func53,Tryd.ntmps53
 refine wp_seq_k fun K7 h7=>Ai<|Bp rfl rfl fun b8 w1 E9 g6c q5b=>?_
 refine nrm ?_
 refine Bp rfl rfl fun b9e w2 E7b g4d q6b=>?_
 refine nrm ?_
 have g7c:=nlt E9.size g4d
 have X8c:=xtr E9 E7b
 refine AA AI fun b0f w3 E1b g1c q4c=>?_
 refine nrm ?_
 have g1f:=nlt X8c.size g1c
 have X2f:=xtr X8c E1b
 refine Ad<|h7 _ _<|wp_seq_k fun K5i h5i=>wp_seq_k fun K6i h6i=>Ai<|sV (Al AF rfl ((q5b.ext E7b).ext E1b) rfl) ?_
 refine sV (Al AF rfl (q6b.ext E1b) rfl) ?_
 obtain ⟨r1g,h1o,f7i⟩:=Ab hr
 refine sc (Ae LZ (by rfl)) (It x0 x1 A1 c2 A4 c5 w3 (tbx X2f hT) (n3.ext X2f) (n6.ext X2f) r1g h1o) ?_
 rintro _ w4 E6a rfl
 refine nrm ?_
 have X5d:=xtr X2f E6a
 refine Ad<|h6i _ _ ?_
 rcases bft r1g with e6d | e6d
 ·have p2o:=e6d
  have f3o:=ifP p2o f7i
  refine wp_cond_true (Am (evb rfl e6d))<|wp_seq_k fun K8i h8i=>Ai<|have q4o:=((q5b.ext E7b).ext E1b).ext E6a;sV (Al AF rfl q4o rfl) ?_
  refine sV (Al AF rfl ((q6b.ext E1b).ext E6a) rfl) ?_
  obtain ⟨r9i,h5o,f6o⟩:=Ab f3o
  refine sc (Ae KK (by rfl)) (Fv x0 x1 A1 c2 A4 c5 w4 (tbx X5d hT) (n3.ext X5d) (n6.ext X5d) r9i h5o) ?_
  rintro _ w5 E0j ⟨A7o,c8o,rfl,n9o⟩
  refine nrm ?_
  have X1j:=xtr X5d E0j
  refine sV (Aa rfl) ?_
  refine sV (Aa rfl) ?_
  obtain ⟨r0p,h1p,f2p⟩:=Ab f6o
  refine sc (Ae HN (by rfl)) (CH r9i x2 x3 false A7o c8o w5 (tbx X1j hT) n9o r0p h1p) ?_
  rintro _ w6 E2j ⟨A3p,c4p,rfl,n5p⟩
  refine nrm ?_
  have X6p:=xtr X1j E2j
  have q3j:=((q4c.ext E6a).ext E0j).ext E2j
  refine AB Co rfl rfl q3j rfl rfl rfl rfl (by simp only [SP0,SP1,S0,S1,Nat.reduceAdd];rfl) fun w7 U4j q7p=>?_
  have X8p:=AO X6p U4j g1f
  refine Ad<|h8i _ _<|wp_ret ?_
  obtain rfl:=sj f2p
  exact fin rfl (Res.cellN rfl AF q7p rfl rfl Res.nil) (An X8p ⟨A3p,c4p,rfl,(n5p.upd U4j q3j (by decide))⟩)
 ·have p9p:=bF e6d
  have f0q:=ifN p9p f7i
  refine wp_cond_false (Am (evb rfl e6d))<|wp_skip<|h5i _ _<|wp_seq_k fun K5j h5j=>wp_seq_k fun K6j h6j=>Dz [] 5 mo rfl fun w5 E9a S2g=>have X3g:=xtr X5d E9a;dV 0 rfl (fun _ hw=>Al AF rfl (((((q5b.ext E7b).ext E1b).ext E6a).ext E9a).ext hw) rfl) S2g ?_
  refine dV 2 rfl (fun _ hw=>Al AF rfl ((((q6b.ext E1b).ext E6a).ext E9a).ext hw) rfl) S2g ?_
  obtain ⟨r7j,h1q,f2q⟩:=Ab f0q
  refine dc 1 rfl (by kernel_rfl) (by rfl) (Ae IM (by rfl)) (DU x0 A1 c2 w5 (tbx X3g hT) (n3.ext X3g) r7j h1q) ?_
  rintro _ w6 E2b rfl
  refine dnrm ?_
  have X4g:=xtr X3g E2b
  have S3q:=S2g.trans E2b
  obtain ⟨r8j,h4q,f5q⟩:=Ab f2q
  refine dc 3 rfl (by kernel_rfl) (by rfl) (Ae IM (by rfl)) (DU x1 A4 c5 w6 (tbx X4g hT) (n6.ext X4g) r8j h4q) ?_
  rintro _ w7 E3b rfl
  refine dnrm ?_
  have X7d:=xtr X4g E3b
  have S4z:=S3q.trans E3b
  refine dab 4 rfl (by kernel_rfl) (fun _ _ _ h=>h) (by rfl) (fun _=>Cr rfl rfl) fun z8d hz8d=>?_
  refine dnrm ?_
  refine CB (by kernel_rfl) ?_
  refine h6j _ _ ?_
  obtain ⟨m0a,h9j,f6q⟩:=Ab f5q
  refine DN (fun l l' w'=>∃(t5g:Value) (t6g:Value) (A2c:Option Addr) (c3c:Nat) (A9d:Option Addr) (c0e:Nat),UpdS [b8,b9e] w7 w'∧Bx w' b8 63 [.bool m0a.1,.slice A2c (sz m0a.2.1) c3c,.int .i64 m0a.2.2.1]∧Bx w' b9e 63 [.bool m0a.2.2.2.1,.slice A9d (sz m0a.2.2.2.2.1) c0e,.int .i64 m0a.2.2.2.2.2]∧RU w' A2c c3c m0a.2.1∧RU w' A9d c0e m0a.2.2.2.2.1∧l'=((l.set 25 t5g).set 26 t6g)) ?_ ?_
  ·rcases bft z8d with e1e | e1e
   ·have p7q:=zP hz8d e1e
    have f8q:=ifP p7q h9j
    refine wp_cond_true (Am (evb rfl e1e))<|Ai<|have q0k:=((((q6b.ext E1b).ext E6a).ext E9a).ext E2b).ext E3b;sV (Al AF rfl q0k rfl) ?_
    have q1k:=(((((q5b.ext E7b).ext E1b).ext E6a).ext E9a).ext E2b).ext E3b
    refine sV (Al AF rfl q1k rfl) ?_
    refine AB Co rfl rfl q1k rfl rfl rfl rfl (by simp only [SP0,SP1,S0,S1,Nat.reduceAdd];rfl) fun w8 U7g q9q=>?_
    have X0r:=AO X7d U7g g6c
    have ne2k:=(Bx.ne q5b g4d).symm
    refine AB Co rfl rfl (q0k.upd U7g ne2k) rfl rfl rfl rfl (by simp only [SP0,SP1,S0,S1,Nat.reduceAdd];rfl) fun w9 U8g q1r=>?_
    have X3k:=AO X0r U8g g7c
    refine Ad ?_
    obtain rfl:=sj f8q
    exact ⟨_,rfl,(.agg #[.bool x1.m.Neg,.slice A4 (sz x1.m.Abs) c5,.int .i64 x1.e]),(.agg #[.bool x0.m.Neg,.slice A1 (sz x0.m.Abs) c2,.int .i64 x0.e]),A4,c5,A1,c2,(((UpdS.refl _ _).upd U7g (.inl im0)).upd U8g (.inl (imc im0))),(q9q.upd U8g (Ne.symm ne2k)),q1r,(n6.ext X3k),(n3.ext X3k),(by simp only [S0,S1]<;>rfl)⟩
   ·have p2r:=zN hz8d e1e
    have f3r:=ifN p2r h9j
    refine wp_cond_false (Am (evb rfl e1e))<|wp_skip ?_
    have q4r:=(((((q5b.ext E7b).ext E1b).ext E6a).ext E9a).ext E2b).ext E3b
    have q5r:=((((q6b.ext E1b).ext E6a).ext E9a).ext E2b).ext E3b
    obtain rfl:=sj f3r
    exact ⟨_,rfl,uu,uu,A1,c2,A4,c5,(UpdS.refl _ _),q4r,q5r,(n3.ext X7d),(n6.ext X7d),(by simp only [S0,S1]<;>rfl)⟩
  ·rintro l' w8 ⟨t5g,t6g,A2c,c3c,A9d,c0e,U5c,q2e,q3f,n9g,n6r,hq'⟩ l'' hl
   rw [hq'] at hl
   clear hq'
   simp only [S0,S1] at hl
   subst hl
   have X4k:=Gu X7d U5c (X7d).size (alc g6c (alc g7c al0))
   refine h5j _ _<|wp_seq_k fun K5k h5k=>Ai<|sV (Aa rfl) ?_
   refine sV (BC (c:=wi64 (x2+4)) rfl rfl rfl) ?_
   refine sV (Ah (o':=0) BR rfl rfl) ?_
   refine sV (Ah (o':=1) Bv rfl rfl) ?_
   refine sV (Ak Dr rfl (Bx.cell q2e rfl)) ?_
   obtain ⟨r1a,h7r,f8r⟩:=Ab f6q
   refine sc (Ae IT (by rfl)) (CO m0a.2.1 A2c c3c w8 (tbx X4k hT) n9g r1a h7r) ?_
   rintro _ w9 E2a rfl
   refine nrm ?_
   have X9r:=xtr X4k E2a
   refine sV (Cz (c:=wi64 ((wi64 (x2+4)) - r1a)) rfl rfl rfl) ?_
   refine sV (JT rfl rfl) ?_
   refine sV (Ac rfl) ?_
   refine Ad<|h5k _ _<|wp_seq_k fun K6k h6k=>Dz [10] 11 mo rfl fun w6c E3a S0h=>have X4f:=xtr X9r E3a;dA 0 rfl (fun _=>Ah (o':=0) BR rfl rfl) ?_
   refine dA 1 rfl (fun _=>Ah (o':=0) DJ rfl rfl) ?_
   refine dV 2 rfl (fun _ hw=>Ak Gf rfl (Bx.cell (((q2e.ext E2a).ext E3a).ext hw) rfl)) S0h ?_
   refine dA 3 rfl (fun _=>Ah (o':=0) BR rfl rfl) ?_
   refine dA 4 rfl (fun _=>Ah (o':=1) Bv rfl rfl) ?_
   refine dV 5 rfl (fun _ hw=>Ak Dr rfl (Bx.cell (((q2e.ext E2a).ext E3a).ext hw) rfl)) S0h ?_
   refine dA 6 rfl (fun _=>Aa rfl) ?_
   obtain ⟨r7a,h7k,f0s⟩:=Ab f8r
   refine JV #[true,true,true,true,true,true,true,true,true,true,false] 1 (fun l' w'=>∃(A9b:Option Addr) (c0c:Nat) (b5f:Nat),Ext w6c w'∧RU w' A9b c0c r7a∧w6c.heap.size≤b5f∧Bx w' b5f 61 [.bool false,.slice none 0 0]∧l'=[.agg #[.bool x0.m.Neg,.slice A1 (sz x0.m.Abs) c2,.int .i64 x0.e],.agg #[.bool x1.m.Neg,.slice A4 (sz x1.m.Abs) c5,.int .i64 x1.e],.int .i64 x2,.int .i64 x3,.pointer (some ⟨b8,0,none⟩),.pointer (some ⟨b9e,0,none⟩),uu,uu,.pointer (some ⟨b0f,0,none⟩),.int .i64 (max 0 (wi64 ((wi64 (x2+4)) - r1a))),.pointer (some ⟨b5f,0,none⟩),.agg #[.bool x0.m.Neg,.slice A1 (sz x0.m.Abs) c2,.int .i64 x0.e],.agg #[.bool x1.m.Neg,.slice A4 (sz x1.m.Abs) c5,.int .i64 x1.e],.bool r1g,uu,uu,uu,uu,uu,uu,.agg #[.bool x0.m.Neg,.slice A1 (sz x0.m.Abs) c2,.int .i64 x0.e],.int .i64 r7j,.agg #[.bool x1.m.Neg,.slice A4 (sz x1.m.Abs) c5,.int .i64 x1.e],.int .i64 r8j,.bool z8d,t5g,t6g,.int .i64 x2,.int .i64 (wi64 (x2+4)),.pointer (some ⟨b8,0,none⟩),.pointer (some ⟨b8,1,none⟩),.slice A2c (sz m0a.2.1) c3c,.int .i64 r1a,.int .i64 (wi64 ((wi64 (x2+4)) - r1a)),.int .i64 (max 0 (wi64 ((wi64 (x2+4)) - r1a))),.pointer (some ⟨b8,0,none⟩),.pointer (some ⟨b8,0,none⟩),.bool m0a.1,.pointer (some ⟨b8,0,none⟩),.pointer (some ⟨b8,1,none⟩),.slice A2c (sz m0a.2.1) c3c,.int .i64 (max 0 (wi64 ((wi64 (x2+4)) - r1a))),.slice A9b (sz r7a) c0c,.agg #[.bool m0a.1,.slice A9b (sz r7a) c0c],uu,uu,uu,uu,uu,uu,uu,uu,uu,uu,uu,uu,uu,uu,uu,uu,uu,uu,uu,uu,uu,uu,uu,uu,uu,uu,uu,uu,uu,uu,uu,uu,uu,uu,uu,uu,uu,uu,uu,uu,uu,uu]) ?_ ?_
   ·rintro _ w5b ⟨A9b,c0c,b5f,E8a,n1h,g1s,q8b,rfl⟩
    have g2s:=nlt X4f.size g1s
    have X3s:=xtr X4f E8a
    have S5z:=S0h.trans E8a
    refine dk 10 rfl (by kernel_rfl) (by decide) (by rfl) FC rfl rfl q8b rfl rfl rfl rfl (by simp only [SP0,SP1,S0,S1,Nat.reduceAdd];rfl) fun w9e U4b q2h=>?_
    have X4s:=AO X3s U4b g2s
    refine CB (by kernel_rfl) ?_
    refine h6k _ _<|wp_seq_k fun K8k h8k=>Ai<|sV (Al El rfl q2h rfl) ?_
    refine sV (Ah (o':=2) CP rfl rfl) ?_
    have ne3h:=(Bx.neT (((q2e.ext E2a).ext E3a).ext E8a) q8b (by decide))
    have q9c:=(((q2e.ext E2a).ext E3a).ext E8a).upd U4b ne3h
    refine sV (Ak Em rfl (Bx.cell q9c rfl)) ?_
    refine sV (Aa rfl) ?_
    refine sV (Cz (c:=wi64 (m0a.2.2.1 - (max 0 (wi64 ((wi64 (x2+4)) - r1a))))) rfl rfl rfl) ?_
    refine sV (AU (vals:=[(0,.agg #[.bool m0a.1,.slice A9b (sz r7a) c0c]),(1,.int .i64 (wi64 (m0a.2.2.1 - (max 0 (wi64 ((wi64 (x2+4)) - r1a))))))]) (cells:=[.bool m0a.1,.slice A9b (sz r7a) c0c,.int .i64 (wi64 (m0a.2.2.1 - (max 0 (wi64 ((wi64 (x2+4)) - r1a)))))]) (by rfl) (by kernel_rfl)) ?_
    refine AB Co rfl rfl q9c rfl rfl rfl rfl (by simp only [SP0,SP1,S0,S1,Nat.reduceAdd];rfl) fun w7b U0b q3e=>?_
    have X5s:=AO X4s U0b g6c
    refine Ad<|h8k _ _<|wp_seq_k fun K9k h9k=>wp_seq_k fun K0l h0l=>Dz [] 6 mo rfl fun w4d E4a S4h=>have X1l:=xtr X5s E4a;have ne5h:=(Bx.neT (((q3f.ext E2a).ext E3a).ext E8a) q8b (by decide));have ne6h:=(Bx.ne q5b g4d).symm;dV 0 rfl (fun _ hw=>Al AF rfl (((((((q3f.ext E2a).ext E3a).ext E8a).upd U4b ne5h).upd U0b ne6h).ext E4a).ext hw) rfl) S4h ?_
    refine dA 2 rfl (fun _=>Ah (o':=2) CP rfl rfl) ?_
    refine dV 3 rfl (fun _ hw=>Ak Em rfl (Bx.cell ((q3e.ext E4a).ext hw) rfl)) S4h ?_
    refine dA 4 rfl (fun _=>Cz (c:=wi64 ((wi64 (m0a.2.2.1 - (max 0 (wi64 ((wi64 (x2+4)) - r1a))))) - 1)) rfl rfl rfl) ?_
    have n2l:=(((((n6r.ext E2a).ext E3a).ext E8a).upd U4b q8b (by decide)).upd U0b q9c (by decide)).ext E4a
    obtain ⟨r6s,h7s,f3l⟩:=Ab f0s
    refine dc 1 rfl (by kernel_rfl) (by rfl) (Ae IM (by rfl)) (DU (⟨(⟨m0a.2.2.2.1,m0a.2.2.2.2.1⟩:Ag),m0a.2.2.2.2.2⟩:Aj) A9d c0e w4d (tbx X1l hT) n2l r6s h7s) ?_
    rintro _ w6b E5a rfl
    refine dnrm ?_
    have X4e:=xtr X1l E5a
    have S6z:=S4h.trans E5a
    refine dab 5 rfl (by kernel_rfl) (fun _ _ _ h=>h) (by rfl) (fun _=>FQ rfl rfl) fun z6f hz6f=>?_
    refine dnrm ?_
    refine CB (by kernel_rfl) ?_
    refine h0l _ _ ?_
    rcases bft z6f with e5e | e5e
    ·have p8s:=zP hz6f e5e
     have f9s:=ifP p8s f3l
     refine wp_cond_true (Am (evb rfl e5e))<|wp_seq_k fun K4l h4l=>Ai<|sV (Al AF rfl ((q3e.ext E4a).ext E5a) rfl) ?_
     have q0t:=((((((q3f.ext E2a).ext E3a).ext E8a).upd U4b ne5h).upd U0b ne6h).ext E4a).ext E5a
     refine sV (Al AF rfl q0t rfl) ?_
     have n1t:=(((n1h.upd U4b q8b (by decide)).upd U0b q9c (by decide)).ext E4a).ext E5a
     obtain ⟨r5l,h2t,f3t⟩:=Ab f9s
     refine sc (Ae KK (by rfl)) (Fv (⟨(⟨m0a.1,r7a⟩:Ag),(wi64 (m0a.2.2.1 - (max 0 (wi64 ((wi64 (x2+4)) - r1a)))))⟩:Aj) (⟨(⟨m0a.2.2.2.1,m0a.2.2.2.2.1⟩:Ag),m0a.2.2.2.2.2⟩:Aj) A9b c0c A9d c0e w6b (tbx X4e hT) n1t (n2l.ext E5a) r5l h2t) ?_
     rintro _ w7c E6l ⟨A4t,c5t,rfl,n6t⟩
     refine nrm ?_
     have X7l:=xtr X4e E6l
     refine sV (Aa rfl) ?_
     refine sV (Aa rfl) ?_
     obtain ⟨r7t,h8t,f9t⟩:=Ab f3t
     refine sc (Ae HN (by rfl)) (CH r5l x2 x3 false A4t c5t w7c (tbx X7l hT) n6t r7t h8t) ?_
     rintro _ w8c E8l ⟨A0u,c1u,rfl,n2u⟩
     refine nrm ?_
     have X3u:=xtr X7l E8l
     have ne9l:=(Bx.ne q6b g1c).symm
     have ne7h:=(Bx.ne (q5b.ext E7b) g1c).symm
     have ne4u:=(Bx.neT ((((((((q4c.ext E6a).ext E9a).ext E2b).ext E3b).updS U5c (nmc ne7h (nmc ne9l nm0))).ext E2a).ext E3a).ext E8a) q8b (by decide))
     have q0m:=(((((((((((((q4c.ext E6a).ext E9a).ext E2b).ext E3b).updS U5c (nmc ne7h (nmc ne9l nm0))).ext E2a).ext E3a).ext E8a).upd U4b ne4u).upd U0b ne7h).ext E4a).ext E5a).ext E6l).ext E8l
     refine AB Co rfl rfl q0m rfl rfl rfl rfl (by simp only [SP0,SP1,S0,S1,Nat.reduceAdd];rfl) fun w0f U1m q5u=>?_
     have X6u:=AO X3u U1m g1f
     refine Ad<|h4l _ _<|wp_ret ?_
     obtain rfl:=sj f9t
     exact fin rfl (Res.cellN rfl AF q5u rfl rfl Res.nil) (An X6u ⟨A0u,c1u,rfl,(n2u.upd U1m q0m (by decide))⟩)
    ·have p7u:=zN hz6f e5e
     have f2m:=ifN p7u f3l
     refine wp_cond_false (Am (evb rfl e5e))<|wp_skip<|h9k _ _<|wp_seq_k fun K3m h3m=>wp_seq_k fun K4m h4m=>Ai<|sV (Ah (o':=0) BR rfl rfl) ?_
     refine sV (Ah (o':=0) DJ rfl rfl) ?_
     refine sV (Ak Gf rfl (Bx.cell ((q3e.ext E4a).ext E5a) rfl)) ?_
     refine sV (Ah (o':=0) BR rfl rfl) ?_
     refine sV (Ah (o':=0) DJ rfl rfl) ?_
     have q8u:=((((((q3f.ext E2a).ext E3a).ext E8a).upd U4b ne5h).upd U0b ne6h).ext E4a).ext E5a
     refine sV (Ak Gf rfl (Bx.cell q8u rfl)) ?_
     refine sb (Kk Ln rfl rfl) fun z7f hz7f=>?_
     refine nrm ?_
     refine Ad<|h4m _ _ ?_
     rcases bft z7f with e6e | e6e
     ·have p9u:=zP hz7f e6e
      have f0v:=ifP p9u f2m
      refine wp_cond_true (Am (evb rfl e6e))<|wp_seq_k fun K5m h5m=>Ai<|sV (Al AF rfl ((q3e.ext E4a).ext E5a) rfl) ?_
      refine sV (Aa rfl) ?_
      refine sV (Aa rfl) ?_
      have n1v:=(((n1h.upd U4b q8b (by decide)).upd U0b q9c (by decide)).ext E4a).ext E5a
      obtain ⟨r2v,h3v,f4v⟩:=Ab f0v
      refine sc (Ae HN (by rfl)) (CH (⟨(⟨m0a.1,r7a⟩:Ag),(wi64 (m0a.2.2.1 - (max 0 (wi64 ((wi64 (x2+4)) - r1a)))))⟩:Aj) x2 x3 true A9b c0c w6b (tbx X4e hT) n1v r2v h3v) ?_
      rintro _ w7c E6m ⟨A5v,c6v,rfl,n7v⟩
      refine nrm ?_
      have X8v:=xtr X4e E6m
      have ne7m:=(Bx.ne q6b g1c).symm
      have ne8h:=(Bx.ne (q5b.ext E7b) g1c).symm
      have ne9v:=(Bx.neT ((((((((q4c.ext E6a).ext E9a).ext E2b).ext E3b).updS U5c (nmc ne8h (nmc ne7m nm0))).ext E2a).ext E3a).ext E8a) q8b (by decide))
      have q8m:=((((((((((((q4c.ext E6a).ext E9a).ext E2b).ext E3b).updS U5c (nmc ne8h (nmc ne7m nm0))).ext E2a).ext E3a).ext E8a).upd U4b ne9v).upd U0b ne8h).ext E4a).ext E5a).ext E6m
      refine AB Co rfl rfl q8m rfl rfl rfl rfl (by simp only [SP0,SP1,S0,S1,Nat.reduceAdd];rfl) fun w8c U9m q0w=>?_
      have X1w:=AO X8v U9m g1f
      refine Ad<|h5m _ _<|wp_ret ?_
      obtain rfl:=sj f4v
      exact fin rfl (Res.cellN rfl AF q0w rfl rfl Res.nil) (An X1w ⟨A5v,c6v,rfl,(n7v.upd U9m q8m (by decide))⟩)
     ·have p2w:=zN hz7f e6e
      have f3w:=ifN p2w f2m
      refine wp_cond_false (Am (evb rfl e6e))<|wp_skip<|h3m _ _<|wp_seq_k fun K0n h0n=>Dz [13] 14 mo rfl fun w7c E0d S8f=>have X1n:=xtr X4e E0d;dA 0 rfl (fun _=>Ah (o':=0) DJ rfl rfl) ?_
      refine dV 1 rfl (fun _ hw=>Ak Gf rfl (Bx.cell (((((q2h.upd U0b (Ne.symm ne3h)).ext E4a).ext E5a).ext E0d).ext hw) rfl)) S8f ?_
      refine dA 2 rfl (fun _=>Ah (o':=1) Bv rfl rfl) ?_
      refine dV 3 rfl (fun _ hw=>Ak Dr rfl (Bx.cell (((((q2h.upd U0b (Ne.symm ne3h)).ext E4a).ext E5a).ext E0d).ext hw) rfl)) S8f ?_
      refine dA 7 rfl (fun _=>Ah (o':=2) CP rfl rfl) ?_
      refine dV 8 rfl (fun _ hw=>Ak Em rfl (Bx.cell ((((q3e.ext E4a).ext E5a).ext E0d).ext hw) rfl)) S8f ?_
      refine dA 10 rfl (fun _=>Aa rfl) ?_
      refine dA 11 rfl (fun _=>Aa rfl) ?_
      refine AQ 4 (by kernel_rfl) (opB (cs:=[.int .u32 1]) 4 rfl (by rfl) (Je (vals:=[(0,.int .u32 1)]) Ay AL GY (by rfl) (by decide) (by kernel_rfl)) ?_)
      intro b4w w8c E9f g5w q6w
      refine dnrm ?_
      have g7z:=nlt X1n.size g5w
      have X2n:=xtr X1n E9f
      have S7w:=S8f.trans E9f
      have n8w:=RL.lit1 q6w (by decide)
      have n9w:=(((((n1h.upd U4b q8b (by decide)).upd U0b q9c (by decide)).ext E4a).ext E5a).ext E0d).ext E9f
      obtain ⟨r1d,h0x,f1x⟩:=Ab f3w
      refine dc 5 rfl (by kernel_rfl) (by rfl) (Ae JP (by rfl)) (DT r7a 1 A9b c0c (some ⟨b4w,0,none⟩) 1 w8c (tbx X2n hT) n9w n8w r1d h0x) ?_
      rintro _ w0f E9h ⟨A7e,c8e,rfl,n2x⟩
      refine dnrm ?_
      have X3n:=xtr X2n E9h
      have S3x:=S7w.trans E9h
      refine dA 6 rfl (fun _=>AU (vals:=[(0,.bool m0a.1),(1,.slice A7e (sz r1d) c8e)]) (cells:=[.bool m0a.1,.slice A7e (sz r1d) c8e]) (by rfl) (by kernel_rfl)) ?_
      refine dA 9 rfl (fun _=>AU (vals:=[(0,.agg #[.bool m0a.1,.slice A7e (sz r1d) c8e]),(1,.int .i64 (wi64 (m0a.2.2.1 - (max 0 (wi64 ((wi64 (x2+4)) - r1a))))))]) (cells:=[.bool m0a.1,.slice A7e (sz r1d) c8e,.int .i64 (wi64 (m0a.2.2.1 - (max 0 (wi64 ((wi64 (x2+4)) - r1a)))))]) (by rfl) (by kernel_rfl)) ?_
      obtain ⟨r4x,h5x,f6x⟩:=Ab f1x
      refine dc 12 rfl (by kernel_rfl) (by rfl) (Ae HN (by rfl)) (CH (⟨(⟨m0a.1,r1d⟩:Ag),(wi64 (m0a.2.2.1 - (max 0 (wi64 ((wi64 (x2+4)) - r1a)))))⟩:Aj) x2 x3 true A7e c8e w0f (tbx X3n hT) n2x r4x h5x) ?_
      rintro _ w1b E0i ⟨A7x,c8x,rfl,n9x⟩
      refine dnrm ?_
      have X0y:=xtr X3n E0i
      have S8z:=S3x.trans E0i
      have ne4n:=(Bx.ne q6b g1c).symm
      have ne1i:=(Bx.ne (q5b.ext E7b) g1c).symm
      have ne1y:=(Bx.neT ((((((((q4c.ext E6a).ext E9a).ext E2b).ext E3b).updS U5c (nmc ne1i (nmc ne4n nm0))).ext E2a).ext E3a).ext E8a) q8b (by decide))
      have q5n:=(((((((((((((((q4c.ext E6a).ext E9a).ext E2b).ext E3b).updS U5c (nmc ne1i (nmc ne4n nm0))).ext E2a).ext E3a).ext E8a).upd U4b ne1y).upd U0b ne1i).ext E4a).ext E5a).ext E0d).ext E9f).ext E9h).ext E0i
      refine dk 13 rfl (by kernel_rfl) (by decide) (by rfl) Co rfl rfl q5n rfl rfl rfl rfl (by simp only [SP0,SP1,S0,S1,Nat.reduceAdd];rfl) fun w1c U6n q2y=>?_
      have X3y:=AO X0y U6n g1f
      refine CB (by kernel_rfl) ?_
      refine h0n _ _<|wp_ret ?_
      obtain rfl:=sj f6x
      exact fin rfl (Res.cellN rfl AF q2y rfl rfl Res.nil) (An X3y ⟨A7x,c8x,rfl,(n9x.upd U6n q5n (by decide))⟩)
   ·intro HJ147
    refine Dn 7 9 (by kernel_rfl) ?_ ?_
    ·refine opC 7 rfl (by rfl) (Ae Hg (by rfl)) (Cc m0a.2.1 (max 0 (wi64 ((wi64 (x2+4)) - r1a))) A2c c3c _ (tbx (Ext.refl _) (tbx X4f hT)) (((n9g.ext E2a).ext E3a).ext (Ext.refl _)) r7a h7k) ?_
     rintro _ _ E0g ⟨A2d,c3d,rfl,n7n⟩
     refine dnrm ?_
     refine Dn 8 9 (by kernel_rfl) ?_ ?_
     ·refine opV 8 rfl (by rfl) (AU (vals:=[(0,.bool m0a.1),(1,.slice A2d (sz r7a) c3d)]) (cells:=[.bool m0a.1,.slice A2d (sz r7a) c3d]) (by rfl) (by kernel_rfl)) (dnrm ?_)
      refine AQ 9 (by kernel_rfl) ?_
      ·refine opA 9 rfl (by rfl) (Au FP) fun b4y _ E8n g5y q6y=>dnrm ?_
       exact Cl (by kernel_rfl) (HJ147 _ _ ⟨A2d,c3d,b4y,(E0g.trans E8n),(n7n.ext E8n),(nlt E0g.size g5y),q6y,rfl⟩)
     ·refine opA 9 rfl (by rfl) (Au FP) fun b7y _ E9n g8y q9y=>dnrm ?_
      refine AQ 8 (by kernel_rfl) ?_
      ·refine opV 8 rfl (by rfl) (AU (vals:=[(0,.bool m0a.1),(1,.slice A2d (sz r7a) c3d)]) (cells:=[.bool m0a.1,.slice A2d (sz r7a) c3d]) (by rfl) (by kernel_rfl)) (dnrm ?_)
       exact Cl (by kernel_rfl) (HJ147 _ _ ⟨A2d,c3d,b7y,(E0g.trans E9n),(n7n.ext E9n),(nlt E0g.size g8y),q9y,rfl⟩)
    ·refine opA 9 rfl (by rfl) (Au FP) fun b0z _ E2i g1z q2z=>dnrm ?_
     refine AQ 7 (by kernel_rfl) ?_
     ·refine opC 7 rfl (by rfl) (Ae Hg (by rfl)) (Cc m0a.2.1 (max 0 (wi64 ((wi64 (x2+4)) - r1a))) A2c c3c _ (tbx E2i (tbx X4f hT)) (((n9g.ext E2a).ext E3a).ext E2i) r7a h7k) ?_
      rintro _ _ E0o ⟨A3i,c4i,rfl,n3z⟩
      refine dnrm ?_
      refine AQ 8 (by kernel_rfl) ?_
      ·refine opV 8 rfl (by rfl) (AU (vals:=[(0,.bool m0a.1),(1,.slice A3i (sz r7a) c4i)]) (cells:=[.bool m0a.1,.slice A3i (sz r7a) c4i]) (by rfl) (by kernel_rfl)) (dnrm ?_)
       exact Cl (by kernel_rfl) (HJ147 _ _ ⟨A3i,c4i,b0z,(E2i.trans E0o),n3z,g1z,(q2z.ext E0o),rfl⟩)
theorem HC (x0:Ap) (x1:Ap) (x2:Int) (A1:Option Addr) (c2:Nat) (A4:Option Addr) (c5:Nat) (A7:Option Addr) (c8:Nat) (A4b:Option Addr) (c5b:Nat) (w:World) (hT:TB w) (n3:RU w A1 c2 x0.lo.m.Abs) (n6:RU w A4 c5 x0.hi.m.Abs) (n9:RU w A7 c8 x1.lo.m.Abs) (n0d:RU w A4b c5b x1.hi.m.Abs) (r:Except Int (Ar)) (hr:Ep x0 x1 x2=some r) :
  Calls Tryd.prog 52 #[.agg #[.bool x0.lo.m.Neg,.slice A1 (sz x0.lo.m.Abs) c2,.int .i64 x0.lo.e,.bool x0.hi.m.Neg,.slice A4 (sz x0.hi.m.Abs) c5,.int .i64 x0.hi.e],.agg #[.bool x1.lo.m.Neg,.slice A7 (sz x1.lo.m.Abs) c8,.int .i64 x1.lo.e,.bool x1.hi.m.Neg,.slice A4b (sz x1.hi.m.Abs) c5b,.int .i64 x1.hi.e],.int .i64 x2] w (RetE 107 Ig w r):=by
 unfold Ep at hr
 go_enter Tryd.func52,Tryd.ntmps52
 refine wp_seq_k fun K2c h2c=>Ai<|Bp rfl rfl fun b3f w1 E3c g4f q4c=>?_
 refine nrm ?_
 refine Bp rfl rfl fun b5f w2 E6b g1d q5c=>?_
 refine nrm ?_
 have g6f:=nlt E3c.size g1d
 have X6c:=xtr E3c E6b
 refine AA EE fun b7f w3 E3a g2d q3d=>?_
 refine nrm ?_
 have g4d:=nlt X6c.size g2d
 have X5d:=xtr X6c E3a
 refine Ad<|h2c _ _<|wp_seq_k fun K7c h7c=>Dz [14] 15 mo rfl fun w4 E2a S4a=>have X7a:=xtr X5d E2a;dA 0 rfl (fun _=>Ah (o':=0) DO rfl rfl) ?_
 refine dV 1 rfl (fun _ hw=>As AF rfl ((((q4c.ext E6b).ext E3a).ext E2a).ext hw) (by simp only [List.drop_zero,List.take_succ_cons,List.take_zero];rfl) rfl) S4a ?_
 refine dA 2 rfl (fun _=>Ah (o':=0) DO rfl rfl) ?_
 refine dV 3 rfl (fun _ hw=>As AF rfl (((q5c.ext E3a).ext E2a).ext hw) (by simp only [List.drop_zero,List.take_succ_cons,List.take_zero];rfl) rfl) S4a ?_
 refine dA 4 rfl (fun _=>Aa rfl) ?_
 refine dA 6 rfl (fun _=>Ah (o':=3) Ed rfl rfl) ?_
 refine dV 7 rfl (fun _ hw=>As AF rfl ((((q4c.ext E6b).ext E3a).ext E2a).ext hw) (by simp only [List.drop_succ_cons,List.drop_zero,List.take_succ_cons,List.take_zero];rfl) rfl) S4a ?_
 refine dA 8 rfl (fun _=>Ah (o':=3) Ed rfl rfl) ?_
 refine dV 9 rfl (fun _ hw=>As AF rfl (((q5c.ext E3a).ext E2a).ext hw) (by simp only [List.drop_succ_cons,List.drop_zero,List.take_succ_cons,List.take_zero];rfl) rfl) S4a ?_
 refine dA 10 rfl (fun _=>Aa rfl) ?_
 obtain ⟨r0a,h6d,f7d⟩:=Ab hr
 refine dc 5 rfl (by kernel_rfl) (by rfl) (Ae LV (by rfl)) (IV x0.lo x1.lo x2 5 A1 c2 A7 c8 w4 (tbx X7a hT) (n3.ext X7a) (n9.ext X7a) r0a h6d) ?_
 rintro _ w5 E7b ⟨A8a,c9a,rfl,n8c⟩
 refine dnrm ?_
 have X0b:=xtr X7a E7b
 have S8d:=S4a.trans E7b
 obtain ⟨r1a,h9d,f0e⟩:=Ab f7d
 refine dc 11 rfl (by kernel_rfl) (by rfl) (Ae LV (by rfl)) (IV x0.hi x1.hi x2 4 A4 c5 A4b c5b w5 (tbx X0b hT) (n6.ext X0b) (n0d.ext X0b) r1a h9d) ?_
 rintro _ w6 E5a ⟨A1b,c2b,rfl,n9c⟩
 refine dnrm ?_
 have X3b:=xtr X0b E5a
 have S1e:=S8d.trans E5a
 refine dA 12 rfl (fun _=>AU (vals:=[(0,.agg #[.bool r0a.m.Neg,.slice A8a (sz r0a.m.Abs) c9a,.int .i64 r0a.e]),(1,.agg #[.bool r1a.m.Neg,.slice A1b (sz r1a.m.Abs) c2b,.int .i64 r1a.e])]) (cells:=[.bool r0a.m.Neg,.slice A8a (sz r0a.m.Abs) c9a,.int .i64 r0a.e,.bool r1a.m.Neg,.slice A1b (sz r1a.m.Abs) c2b,.int .i64 r1a.e]) (by rfl) (by kernel_rfl)) ?_
 rcases Bj f0e with ⟨r8b,h9b,f2e⟩ | ⟨r8b,h9b,rfl⟩
 ·refine dcO 13 rfl (by kernel_rfl) (by rfl) (Ae Im (by rfl)) (Dm (⟨r0a,r1a⟩:Ap) A8a c9a A1b c2b w6 (tbx X3b hT) (n8c.ext E5a) n9c (.ok r8b) h9b) ?_
  rintro _ w7 E6a ⟨A3e,c4e,A5e,c6e,rfl,n7e,n8e⟩
  refine dnrm ?_
  have X9e:=xtr X3b E6a
  have S8f:=S1e.trans E6a
  have q0c:=(((q3d.ext E2a).ext E7b).ext E5a).ext E6a
  refine dk 14 rfl (by kernel_rfl) (by decide) (by rfl) Ei rfl rfl q0c rfl rfl rfl rfl (by simp only [SP0,SP1,S0,S1,Nat.reduceAdd];rfl) fun w8 U1c q0f=>?_
  have X1f:=AO X9e U1c g4d
  refine CB (by kernel_rfl) ?_
  refine h7c _ _<|wp_ret ?_
  obtain rfl:=sj f2e
  exact fin rfl (Res.cellN rfl Bn q0f rfl rfl Res.nil) (Fu X1f ⟨A3e,c4e,A5e,c6e,rfl,(n7e.upd U1c q0c (by decide)),(n8e.upd U1c q0c (by decide))⟩)
 ·refine dcP 13 rfl (by kernel_rfl) (by rfl) (Ae Im (by rfl)) (Dm (⟨r0a,r1a⟩:Ap) A8a c9a A1b c2b w6 (tbx X3b hT) (n8c.ext E5a) n9c (.error r8b) h9b) fun w7 E6a=>?_
  have X2f:=xtr X3b E6a
  exact ⟨rfl,DA X2f⟩
theorem c_dyad_made_Span__dyad_Plus_1 (x0:Aq) (x1:Aq) (x2:Int) (A1:Option Addr) (c2:Nat) (A4:Option Addr) (c5:Nat) (A7:Option Addr) (c8:Nat) (A6a:Option Addr) (c8a:Nat) (w:World) (hT:TB w) (n3:RLu w A1 c2 x0.Lo.Man.Abs) (n6:RLu w A4 c5 x0.Hi.Man.Abs) (n9:RLu w A7 c8 x1.Lo.Man.Abs) (n4b:RLu w A6a c8a x1.Hi.Man.Abs) (r:Ar × Int) (hr:BY x0 x1 x2=some r) :
  Calls Tryd.prog 48 #[.agg #[.bool x0.Lo.Man.Neg,.slice A1 x0.Lo.Man.Abs.length c2,.int .i64 x0.Lo.Exp,.bool x0.Hi.Man.Neg,.slice A4 x0.Hi.Man.Abs.length c5,.int .i64 x0.Hi.Exp],.agg #[.bool x1.Lo.Man.Neg,.slice A7 x1.Lo.Man.Abs.length c8,.int .i64 x1.Lo.Exp,.bool x1.Hi.Man.Neg,.slice A6a x1.Hi.Man.Abs.length c8a,.int .i64 x1.Hi.Exp],.int .i64 x2,.func (.func 52) #[] #[]] w (Ret Fz w r):=by
 unfold BY at hr
 obtain ⟨q0,hq0,hr0⟩:=Ab hr
 unfold CF at hq0
 go_enter_defers Tryd.func48,Tryd.ntmps48
 refine wp_seq_k fun K9d h9d=>Ai<|Bp rfl rfl fun b9l w1 E5e g0m q1h=>?_
 refine nrm ?_
 refine Bp rfl rfl fun b1m w2 E6e g2h q7e=>?_
 refine nrm ?_
 have g2m:=nlt E5e.size g2h
 have X8e:=xtr E5e E6e
 refine AA EE fun b5b w3 E6b g3h q7b=>?_
 refine nrm ?_
 have g8b:=nlt X8e.size g3h
 have X9e:=xtr X8e E6b
 refine AA HS fun b9b w4 E0b g4h q3b=>?_
 refine nrm ?_
 have g0c:=nlt X9e.size g4h
 have X0f:=xtr X9e E0b
 refine Ad<|h9d _ _<|wp_seq_k fun K1f h1f=>Ai<|GQ (vs:=[.pointer (some ⟨b5b,0,none⟩),.pointer (some ⟨b9b,0,none⟩)]) (by rfl) (by rfl)<|Ad<|h1f _ _<|wp_seq_k fun K2f h2f=>Ai<|have q3f:=((q1h.ext E6e).ext E6b).ext E0b;sV (Al Bn rfl q3f rfl) ?_
 refine sV (Al Bn rfl ((q7e.ext E6b).ext E0b) rfl) ?_
 refine DP (vals:=[(0,.agg #[.bool x0.Lo.Man.Neg,.slice A1 x0.Lo.Man.Abs.length c2,.int .i64 x0.Lo.Exp,.bool x0.Hi.Man.Neg,.slice A4 x0.Hi.Man.Abs.length c5,.int .i64 x0.Hi.Exp]),(1,.agg #[.bool x1.Lo.Man.Neg,.slice A7 x1.Lo.Man.Abs.length c8,.int .i64 x1.Lo.Exp,.bool x1.Hi.Man.Neg,.slice A6a x1.Hi.Man.Abs.length c8a,.int .i64 x1.Hi.Exp])]) (cs:=[.bool x0.Lo.Man.Neg,.slice A1 x0.Lo.Man.Abs.length c2,.int .i64 x0.Lo.Exp,.bool x0.Hi.Man.Neg,.slice A4 x0.Hi.Man.Abs.length c5,.int .i64 x0.Hi.Exp,.bool x1.Lo.Man.Neg,.slice A7 x1.Lo.Man.Abs.length c8,.int .i64 x1.Lo.Exp,.bool x1.Hi.Man.Neg,.slice A6a x1.Hi.Man.Abs.length c8a,.int .i64 x1.Hi.Exp]) HK Ei EE (by rfl) (by decide) (by kernel_rfl) fun b4f w5 E3a g5h q5f=>?_
 refine nrm ?_
 have g3m:=nlt X0f.size g5h
 have X4a:=xtr X0f E3a
 rcases Bj hq0 with ⟨r1c,h0e,f6h⟩ | ⟨r1c,h0e,rfl⟩
 ·refine scO (Ae Iv (by rfl)) (CX x0 x1 b4f A1 c2 A4 c5 A7 c8 A6a c8a w5 (tbx X4a hT) (n3.ext X4a) (n6.ext X4a) (n9.ext X4a) (n4b.ext X4a) q5f (.ok r1c) h0e) ?_
  rintro _ w6 E2a rfl
  refine nrm ?_
  have X2c:=xtr X4a E2a
  refine Ad<|h2f _ _<|wp_seq_k fun K6f h6f=>Ai<|sV (Aa rfl) ?_
  rcases Bj f6h with ⟨r3c,h1e,f7h⟩ | ⟨r3c,h1e,rfl⟩
  ·refine scO (Ae HD (by rfl)) (DR x2 w6 (tbx X2c hT)  (.ok r3c) h1e) ?_
   rintro _ w7 E5a rfl
   refine nrm ?_
   have X8h:=xtr X2c E5a
   refine Ad<|h6f _ _<|wp_seq_k fun K7f h7f=>Dz [7,8] 9 mo rfl fun w8 E1b S2e=>?_
   have X4c:=xtr X8h E1b
   refine dA 0 rfl (fun _=>Aa rfl) ?_ (hQ:=fun _ _ _ h=>dq (rs:=[.cell 8 41,.cell 9 31]) rfl (by decide) h)
   refine dV 1 rfl (fun _ hw=>Al Bn rfl (((((q3f.ext E3a).ext E2a).ext E5a).ext E1b).ext hw) rfl) S2e ?_ (hQ:=fun _ _ _ h=>dq (rs:=[.cell 8 41,.cell 9 31]) rfl (by decide) h)
   refine dV 3 rfl (fun _ hw=>Al Bn rfl (((((((q7e.ext E6b).ext E0b).ext E3a).ext E2a).ext E5a).ext E1b).ext hw) rfl) S2e ?_ (hQ:=fun _ _ _ h=>dq (rs:=[.cell 8 41,.cell 9 31]) rfl (by decide) h)
   refine dA 5 rfl (fun _=>Aa rfl) ?_ (hQ:=fun _ _ _ h=>dq (rs:=[.cell 8 41,.cell 9 31]) rfl (by decide) h)
   obtain ⟨m8f,h9h,f0i⟩:=Ab f7h
   have hx9f:=BH h9h
   have n1i:RU w8 A1 c2 m8f:=by unfold RU;rw [hx9f];exact (n3.ext X4c)
   obtain ⟨m0g,h2i,f3i⟩:=Ab f0i
   have hx1g:=BH h2i
   have n4i:RU w8 A4 c5 m0g:=by unfold RU;rw [hx1g];exact (n6.ext X4c)
   obtain ⟨r0a,h5i,f6i⟩:=Ab f3i
   refine dc 2 rfl (by kernel_rfl) (by rfl) (Ae Il (by simp only [sz,hx9f,hx1g];rfl)) (DQ (⟨(⟨(⟨x0.Lo.Man.Neg,m8f⟩:Ag),x0.Lo.Exp⟩:Af),(⟨(⟨x0.Hi.Man.Neg,m0g⟩:Ag),x0.Hi.Exp⟩:Af)⟩:Ar) A1 c2 A4 c5 w8 (tbx X4c hT) n1i n4i r0a h5i) ?_
   rintro _ w9 E2b ⟨A5c,c6c,A7c,c8c,rfl,n2g,n3g⟩
   refine dnrm ?_
   have X9c:=xtr X4c E2b
   have S7i:=S2e.trans E2b
   obtain ⟨m4g,h8i,f9i⟩:=Ab f6i
   have hx5g:=BH h8i
   have n0j:RU w9 A7 c8 m4g:=by unfold RU;rw [hx5g];exact (n9.ext X9c)
   obtain ⟨m6g,h1j,f2j⟩:=Ab f9i
   have hx7g:=BH h1j
   have n3j:RU w9 A6a c8a m6g:=by unfold RU;rw [hx7g];exact (n4b.ext X9c)
   obtain ⟨r1a,h4j,f5j⟩:=Ab f2j
   refine dc 4 rfl (by kernel_rfl) (by rfl) (Ae Il (by simp only [sz,hx5g,hx7g];rfl)) (DQ (⟨(⟨(⟨x1.Lo.Man.Neg,m4g⟩:Ag),x1.Lo.Exp⟩:Af),(⟨(⟨x1.Hi.Man.Neg,m6g⟩:Ag),x1.Hi.Exp⟩:Af)⟩:Ar) A7 c8 A6a c8a w9 (tbx X9c hT) n0j n3j r1a h4j) ?_
   rintro _ w6a E7a ⟨A0d,c1d,A2d,c3d,rfl,n8g,n9g⟩
   refine dnrm ?_
   have X4d:=xtr X9c E7a
   have S6j:=S7i.trans E7a
   rcases Bj f5j with ⟨r5d,h3e,f7j⟩ | ⟨r5d,h3e,rfl⟩
   ·refine dcO 6 rfl (by kernel_rfl) (by rfl) (Fg (first:=[]) (cap:=[]) (args:=[.agg #[.bool r0a.lo.m.Neg,.slice A5c (sz r0a.lo.m.Abs) c6c,.int .i64 r0a.lo.e,.bool r0a.hi.m.Neg,.slice A7c (sz r0a.hi.m.Abs) c8c,.int .i64 r0a.hi.e],.agg #[.bool r1a.lo.m.Neg,.slice A0d (sz r1a.lo.m.Abs) c1d,.int .i64 r1a.lo.e,.bool r1a.hi.m.Neg,.slice A2d (sz r1a.hi.m.Abs) c3d,.int .i64 r1a.hi.e],.int .i64 x2]) LS (by rfl) (by rfl)) (HC r0a r1a x2 A5c c6c A7c c8c A0d c1d A2d c3d w6a (tbx X4d hT) (n2g.ext E7a) (n3g.ext E7a) n8g n9g (.ok r5d) h3e) ?_
    rintro _ w8a E9a ⟨A8j,c9j,A0k,c1k,rfl,n2k,n3k⟩
    refine dnrm ?_
    have X4k:=xtr X4d E9a
    have S4m:=S6j.trans E9a
    have q6d:=(((((((q7b.ext E0b).ext E3a).ext E2a).ext E5a).ext E1b).ext E2b).ext E7a).ext E9a
    refine dk 7 rfl (by kernel_rfl) (by decide) (by rfl) Ei rfl rfl q6d rfl rfl rfl rfl (by simp only [SP0,SP1,S0,S1,Nat.reduceAdd];rfl) fun w4b U7d q5k=>?_
    have X6k:=AO X4k U7d g8b
    have ne0h:=(Bx.neT (((((((q3b.ext E3a).ext E2a).ext E5a).ext E1b).ext E2b).ext E7a).ext E9a) q6d (by decide))
    have q4e:=(((((((q3b.ext E3a).ext E2a).ext E5a).ext E1b).ext E2b).ext E7a).ext E9a).upd U7d ne0h
    refine dk 8 rfl (by kernel_rfl) (by decide) (by rfl) GN rfl rfl q4e rfl rfl rfl rfl (by simp only [SP0,SP1,S0,S1,Nat.reduceAdd];rfl) fun w9d U8d q7k=>?_
    have X8k:=AO X6k U8d g0c
    refine CB (by kernel_rfl) ?_
    refine h7f _ _<|wp_ret ?_
    have n9k:=(n2k.upd U7d q6d (by decide)).upd U8d q4e (by decide)
    have n0l:=(n3k.upd U7d q6d (by decide)).upd U8d q4e (by decide)
    obtain rfl:=sj f7j
    obtain rfl:=sj hr0
    exact Jj Eb Gn rfl (Res.cellN rfl Bn (q5k.upd U8d (Ne.symm ne0h)) rfl rfl (Res.cell1 rfl CV (Bx.cell q7k rfl) Res.nil)) (An X8k ⟨A8j,c9j,A0k,c1k,rfl,n9k,n0l⟩)
   ·refine dcP 6 rfl (by kernel_rfl) (by rfl) (Fg (first:=[]) (cap:=[]) (args:=[.agg #[.bool r0a.lo.m.Neg,.slice A5c (sz r0a.lo.m.Abs) c6c,.int .i64 r0a.lo.e,.bool r0a.hi.m.Neg,.slice A7c (sz r0a.hi.m.Abs) c8c,.int .i64 r0a.hi.e],.agg #[.bool r1a.lo.m.Neg,.slice A0d (sz r1a.lo.m.Abs) c1d,.int .i64 r1a.lo.e,.bool r1a.hi.m.Neg,.slice A2d (sz r1a.hi.m.Abs) c3d,.int .i64 r1a.hi.e],.int .i64 x2]) LS (by rfl) (by rfl)) (HC r0a r1a x2 A5c c6c A7c c8c A0d c1d A2d c3d w6a (tbx X4d hT) (n2g.ext E7a) (n3g.ext E7a) n8g n9g (.error r5d) h3e) fun w8a E9a=>?_
    have X1l:=xtr X4d E9a
    have q2l:=(((((((q7b.ext E0b).ext E3a).ext E2a).ext E5a).ext E1b).ext E2b).ext E7a).ext E9a
    have q3l:=((((((q3b.ext E3a).ext E2a).ext E5a).ext E1b).ext E2b).ext E7a).ext E9a
    refine Gj Gn (Bk b5b b9b (.bool false:Value) (.slice none 0 0:Value) (.int .i64 0:Value) (.bool false:Value) (.slice none 0 0:Value) (.int .i64 0:Value) (.int .i64 0:Value) r5d q2l q3l) rfl ?_
    rintro w9 ⟨u9,q9,q9'⟩
    obtain rfl:=sj hr0
    exact ⟨_,(Res.cellN rfl Bn q9 rfl rfl (Res.cell1 rfl CV (Bx.cell q9' rfl) Res.nil)),An (u9.toExt X1l g8b g0c) ⟨none,0,none,0,rfl,RU.nil _,RU.nil _⟩⟩
  ·refine scP (Ae HD (by rfl)) (DR x2 w6 (tbx X2c hT)  (.error r3c) h1e) fun w7 E5a=>?_
   have X4l:=xtr X2c E5a
   have q5l:=(((q7b.ext E0b).ext E3a).ext E2a).ext E5a
   have q6l:=((q3b.ext E3a).ext E2a).ext E5a
   refine Gj Gn (Bk b5b b9b (.bool false:Value) (.slice none 0 0:Value) (.int .i64 0:Value) (.bool false:Value) (.slice none 0 0:Value) (.int .i64 0:Value) (.int .i64 0:Value) r3c q5l q6l) rfl ?_
   rintro w9 ⟨u9,q9,q9'⟩
   obtain rfl:=sj hr0
   exact ⟨_,(Res.cellN rfl Bn q9 rfl rfl (Res.cell1 rfl CV (Bx.cell q9' rfl) Res.nil)),An (u9.toExt X4l g8b g0c) ⟨none,0,none,0,rfl,RU.nil _,RU.nil _⟩⟩
 ·refine scP (Ae Iv (by rfl)) (CX x0 x1 b4f A1 c2 A4 c5 A7 c8 A6a c8a w5 (tbx X4a hT) (n3.ext X4a) (n6.ext X4a) (n9.ext X4a) (n4b.ext X4a) q5f (.error r1c) h0e) fun w6 E2a=>?_
  have X7l:=xtr X4a E2a
  have q8l:=((q7b.ext E0b).ext E3a).ext E2a
  refine Gj Gn (Bk b5b b9b (.bool false:Value) (.slice none 0 0:Value) (.int .i64 0:Value) (.bool false:Value) (.slice none 0 0:Value) (.int .i64 0:Value) (.int .i64 0:Value) r1c q8l ((q3b.ext E3a).ext E2a)) rfl ?_
  rintro w9 ⟨u9,q9,q9'⟩
  obtain rfl:=sj hr0
  exact ⟨_,(Res.cellN rfl Bn q9 rfl rfl (Res.cell1 rfl CV (Bx.cell q9' rfl) Res.nil)),An (u9.toExt X7l g8b g0c) ⟨none,0,none,0,rfl,RU.nil _,RU.nil _⟩⟩
theorem c_dyad_Plus (x0:Aq) (x1:Aq) (x2:Int) (A1:Option Addr) (c2:Nat) (A4:Option Addr) (c5:Nat) (A7:Option Addr) (c8:Nat) (A2a:Option Addr) (c3a:Nat) (w:World) (hT:TB w) (n3:RLu w A1 c2 x0.Lo.Man.Abs) (n6:RLu w A4 c5 x0.Hi.Man.Abs) (n9:RLu w A7 c8 x1.Lo.Man.Abs) (n2b:RLu w A2a c3a x1.Hi.Man.Abs) (r:Ar × Int) (hr:FB x0 x1 x2=some r) :
  Calls Tryd.prog 19 #[.agg #[.bool x0.Lo.Man.Neg,.slice A1 x0.Lo.Man.Abs.length c2,.int .i64 x0.Lo.Exp,.bool x0.Hi.Man.Neg,.slice A4 x0.Hi.Man.Abs.length c5,.int .i64 x0.Hi.Exp],.agg #[.bool x1.Lo.Man.Neg,.slice A7 x1.Lo.Man.Abs.length c8,.int .i64 x1.Lo.Exp,.bool x1.Hi.Man.Neg,.slice A2a x1.Hi.Man.Abs.length c3a,.int .i64 x1.Hi.Exp],.int .i64 x2] w (Ret Fz w r):=by
 unfold FB at hr
 go_enter Tryd.func19,Tryd.ntmps19
 refine wp_seq_k fun K7a h7a=>Ai<|Bp rfl rfl fun b2d w1 E8a g3d q3b=>?_
 refine nrm ?_
 refine Bp rfl rfl fun b4d w2 E9a g4b q5b=>?_
 refine nrm ?_
 have g5d:=nlt E8a.size g4b
 have X0b:=xtr E8a E9a
 refine AA EE fun b6d w3 E4a g6b q5a=>?_
 refine nrm ?_
 have g7b:=nlt X0b.size g6b
 have X0a:=xtr X0b E4a
 refine sV (Ac rfl) ?_
 refine Ad<|h7a _ _<|wp_seq_k fun K1b h1b=>Ai<|sV (Al Bn rfl ((q3b.ext E9a).ext E4a) rfl) ?_
 refine sV (Al Bn rfl (q5b.ext E4a) rfl) ?_
 refine sV (Aa rfl) ?_
 obtain ⟨r8b,h9b,f0c⟩:=Ab hr
 refine sc (Ae KC (by rfl)) (c_dyad_made_Span__dyad_Plus_1 x0 x1 x2 A1 c2 A4 c5 A7 c8 A2a c3a w3 (tbx X0a hT) (n3.ext X0a) (n6.ext X0a) (n9.ext X0a) (n2b.ext X0a) r8b h9b) ?_
 rintro _ w4 E1a ⟨A1c,c2c,A3c,c4c,rfl,n5c,n6c⟩
 refine nrm ?_
 have X7c:=xtr X0a E1a
 refine sV (Ax rfl rfl) ?_
 refine sV (Ax rfl rfl) ?_
 refine AB Ei rfl rfl (q5a.ext E1a) rfl rfl rfl rfl (by simp only [SP0,SP1,S0,S1,Nat.reduceAdd];rfl) fun w5 U6a q8c=>?_
 have X9c:=AO X7c U6a g7b
 refine sV (Ac rfl) ?_
 refine Ad<|h1b _ _<|wp_ret ?_
 have n0d:=n5c.upd U6a (q5a.ext E1a) (by decide)
 have n1d:=n6c.upd U6a (q5a.ext E1a) (by decide)
 obtain rfl:=sj f0c
 exact fin rfl (Res.cellN rfl Bn q8c rfl rfl (Res.tmp rfl Res.nil)) (An X9c ⟨A1c,c2c,A3c,c4c,rfl,n0d,n1d⟩)
theorem Eg (x0_0:Ao) (x0_1:Ao) (bp0:Nat) (A1:Option Addr) (c2:Nat) (A4:Option Addr) (c5:Nat) (w:World) (hT:TB w) (n3:RLu w A1 c2 x0_0.Man.Abs) (n6:RLu w A4 c5 x0_1.Man.Abs) (q7:Bx w bp0 27 [.bool x0_0.Man.Neg,.slice A1 x0_0.Man.Abs.length c2,.int .i64 x0_0.Exp,.bool x0_1.Man.Neg,.slice A4 x0_1.Man.Abs.length c5,.int .i64 x0_1.Exp]) (r:Except Int (Unit)) (hr:DL x0_0 x0_1=some r) :
  Calls Tryd.prog 39 #[.slice (some ⟨bp0,0,none⟩) 2 2] w (RetE 107 Jv w r):=by
 unfold DL at hr
 go_enter Tryd.func39,Tryd.ntmps39
 refine wp_seq_k fun K8 h8=>Ai<|sV (Aa rfl) ?_
 refine sV (AN EV rfl) ?_
 refine sV (Aa rfl) ?_
 refine Ad<|h8 _ _ ?_
 apply wp_block
 refine FV<|BL<|wp_seq_k fun K9 h9=>Ai<|sV (Gs (v:=.bool true) (Cr rfl rfl) (by rfl)) ?_
 refine Ad<|h9 _ _<|wp_seq_k fun K2b h2b=>wp_cond_true (Am (evb rfl rfl))<|wp_skip<|h2b _ _<|wp_seq_k fun K3b h3b=>?_
 apply wp_block
 refine wp_seq_k fun K4b h4b=>Ai<|sV (DG (o':=0) EV BX rfl rfl (by decide) (by decide) (by decide)) ?_
 refine sV (As AG rfl q7 (by simp only [List.drop_zero,List.take_succ_cons,List.take_zero];rfl) rfl) ?_
 refine AA Dx fun b4e w1 E3c g4c q5c=>?_
 refine nrm ?_
 refine AB BX rfl rfl q5c rfl rfl rfl rfl (by simp only [SP0,SP1,S0,S1,Nat.reduceAdd];rfl) fun w2 U6c q7c=>?_
 have F0a:=AO E3c U6c g4c
 refine Ad<|h4b _ _<|Ai<|sV (Al AG rfl q7c rfl) ?_
 obtain ⟨r4a,h8c,f9c⟩:=Ab hr
 refine sc (Ae JN (by rfl)) (FM x0_0 A1 c2 w2 (tbx F0a hT) (n3.ext F0a) r4a h8c) ?_
 rintro _ w3 E5b rfl
 refine nrm ?_
 have X1a:=xtr F0a E5b
 rcases Bj f9c with ⟨r5a,h6a,f0d⟩ | ⟨r5a,h6a,rfl⟩
 ·refine scO (Ae ED (by rfl)) (AP r4a 1 w3 (tbx X1a hT)  (.ok r5a) h6a) ?_
  rintro _ w4 E2a rfl
  refine nrm ?_
  have X6b:=xtr X1a E2a
  refine Ad<|h3b _ _<|Ai<|sV (BC (c:=1) rfl rfl (by decide)) ?_
  refine sV (Aa rfl) ?_
  refine Ad<|BL<|wp_seq_k fun K7b h7b=>Ai<|sV (Gs (v:=.bool true) (Cr rfl rfl) (by rfl)) ?_
  refine Ad<|h7b _ _<|wp_seq_k fun K8b h8b=>wp_cond_true (Am (evb rfl rfl))<|wp_skip<|h8b _ _<|wp_seq_k fun K9b h9b=>?_
  apply wp_block
  refine wp_seq_k fun K0c h0c=>Ai<|sV (DG (o':=3) EV BX rfl rfl (by decide) (by decide) (by decide)) ?_
  refine sV (As AG rfl (((q7.ext F0a).ext E5b).ext E2a) (by simp only [List.drop_succ_cons,List.drop_zero,List.take_succ_cons,List.take_zero];rfl) rfl) ?_
  refine AA Dx fun b5e w5 E1d g1c q2d=>?_
  refine nrm ?_
  have g6e:=nlt X6b.size g1c
  refine AB BX rfl rfl q2d rfl rfl rfl rfl (by simp only [SP0,SP1,S0,S1,Nat.reduceAdd];rfl) fun w6 U3d q4d=>?_
  have F5d:=AO E1d U3d g1c
  have X7a:=xtr X6b F5d
  refine Ad<|h0c _ _<|Ai<|sV (Al AG rfl q4d rfl) ?_
  obtain ⟨r8a,h6d,f7d⟩:=Ab f0d
  refine sc (Ae JN (by rfl)) (FM x0_1 A4 c5 w6 (tbx X7a hT) (n6.ext X7a) r8a h6d) ?_
  rintro _ w7 E8d rfl
  refine nrm ?_
  have X3a:=xtr X7a E8d
  rcases Bj f7d with ⟨r9a,h0b,f9d⟩ | ⟨r9a,h0b,rfl⟩
  ·refine scO (Ae ED (by rfl)) (AP r8a 1 w7 (tbx X3a hT)  (.ok r9a) h0b) ?_
   rintro _ w8 E1b rfl
   refine nrm ?_
   have X0e:=xtr X3a E1b
   refine Ad<|h9b _ _<|Ai<|sV (BC (c:=2) rfl rfl (by decide)) ?_
   refine sV (Aa rfl) ?_
   refine Ad<|BL<|wp_seq_k fun K2c h2c=>Ai<|sV (Gs (v:=.bool false) (Cr rfl rfl) (by rfl)) ?_
   refine Ad<|h2c _ _<|wp_seq_k fun K1e h1e=>wp_cond_false (Am (evb rfl rfl))<|wp_exit ?_
   simp only [Exit.then,Exit.inBlock,↓reduceIte,Nat.reduceEqDiff]
   obtain rfl:=sj f9d
   exact KN rfl Res.nil (Fu X0e rfl)
  ·refine scP (Ae ED (by rfl)) (AP r8a 1 w7 (tbx X3a hT)  (.error r9a) h0b) fun w8 E1b=>?_
   have X2e:=xtr X3a E1b
   exact ⟨rfl,DA X2e⟩
 ·refine scP (Ae ED (by rfl)) (AP r4a 1 w3 (tbx X1a hT)  (.error r5a) h6a) fun w4 E2a=>?_
  have X3e:=xtr X1a E2a
  exact ⟨rfl,DA X3e⟩
theorem c_dyad_exact__dyad_num_plus__dyad_near (x0:Ao) (x1:Ao) (A1:Option Addr) (c2:Nat) (A4:Option Addr) (c5:Nat) (w:World) (hT:TB w) (n3:RLu w A1 c2 x0.Man.Abs) (n6:RLu w A4 c5 x1.Man.Abs) (r:Af × Int) (hr:Bi x0 x1=some r) :
  Calls Tryd.prog 32 #[.agg #[.bool x0.Man.Neg,.slice A1 x0.Man.Abs.length c2,.int .i64 x0.Exp],.agg #[.bool x1.Man.Neg,.slice A4 x1.Man.Abs.length c5,.int .i64 x1.Exp],.agg #[.func (.func 33) #[] #[],.func (.func 34) #[] #[]]] w (Ret Gw w r):=by
 unfold Bi at hr
 obtain ⟨q0,hq0,hr0⟩:=Ab hr
 unfold BI at hq0
 go_enter_defers Tryd.func32,Tryd.ntmps32
 refine wp_seq_k fun K7 h7=>Ai<|Bp rfl rfl fun b8 w1 E9 g5q q8i=>?_
 refine nrm ?_
 refine Bp rfl rfl fun b3g w2 E6e g4g q9i=>?_
 refine nrm ?_
 have g6q:=nlt E9.size g4g
 have X0j:=xtr E9 E6e
 refine Bp rfl rfl fun b7q w3 E1j g8q q2j=>?_
 refine nrm ?_
 have g1a2:=nlt X0j.size g8q
 have X8k:=xtr X0j E1j
 refine AA Dx fun b7e w4 E5d g9q q3c=>?_
 refine nrm ?_
 have g5g:=nlt X8k.size g9q
 have X9k:=xtr X8k E5d
 refine AA HS fun b8e w5 E9a g0r q0c=>?_
 refine nrm ?_
 have g6g:=nlt X9k.size g0r
 have X0l:=xtr X9k E9a
 refine Ad<|h7 _ _<|wp_seq_k fun K1l h1l=>Ai<|GQ (vs:=[.pointer (some ⟨b7e,0,none⟩),.pointer (some ⟨b8e,0,none⟩)]) (by rfl) (by rfl)<|Ad<|h1l _ _<|wp_seq_k fun K2l h2l=>Ai<|have q3l:=(((q8i.ext E6e).ext E1j).ext E5d).ext E9a;sV (Al AG rfl q3l rfl) ?_
 have q4l:=((q9i.ext E1j).ext E5d).ext E9a
 refine sV (Al AG rfl q4l rfl) ?_
 refine DP (vals:=[(0,.agg #[.bool x0.Man.Neg,.slice A1 x0.Man.Abs.length c2,.int .i64 x0.Exp]),(1,.agg #[.bool x1.Man.Neg,.slice A4 x1.Man.Abs.length c5,.int .i64 x1.Exp])]) (cs:=[.bool x0.Man.Neg,.slice A1 x0.Man.Abs.length c2,.int .i64 x0.Exp,.bool x1.Man.Neg,.slice A4 x1.Man.Abs.length c5,.int .i64 x1.Exp]) EV BX Dx (by rfl) (by decide) (by kernel_rfl) fun b3j w6 E3a g1r q5l=>?_
 refine nrm ?_
 have g2a2:=nlt X0l.size g1r
 have X8c:=xtr X0l E3a
 rcases Bj hq0 with ⟨r7g,h4j,f2r⟩ | ⟨r7g,h4j,rfl⟩
 ·refine scO (Ae Ik (by rfl)) (Eg x0 x1 b3j A1 c2 A4 c5 w6 (tbx X8c hT) (n3.ext X8c) (n6.ext X8c) q5l (.ok r7g) h4j) ?_
  rintro _ w7 E0a rfl
  refine nrm ?_
  have X3r:=xtr X8c E0a
  refine Ad<|h2l _ _<|wp_seq_k fun K6l h6l=>Dz [6,7] 8 mo rfl fun w8 E4a S5j=>?_
  have X7a:=xtr X3r E4a
  refine dV 0 rfl (fun _ hw=>Al AG rfl ((((q3l.ext E3a).ext E0a).ext E4a).ext hw) rfl) S5j ?_ (hQ:=fun _ _ _ h=>dq (rs:=[.cell 6 27,.cell 7 31]) rfl (by decide) h)
  refine dV 2 rfl (fun _ hw=>Al AG rfl ((((q4l.ext E3a).ext E0a).ext E4a).ext hw) rfl) S5j ?_ (hQ:=fun _ _ _ h=>dq (rs:=[.cell 6 27,.cell 7 31]) rfl (by decide) h)
  obtain ⟨m6d,h4r,f5r⟩:=Ab f2r
  have hx7d:=BH h4r
  have n9e:RU w8 A1 c2 m6d:=by unfold RU;rw [hx7d];exact (n3.ext X7a)
  obtain ⟨r8a,h0f,f64⟩:=Ab f5r
  obtain ⟨m5b,h6r,f7r⟩:=Ab f64
  have hx6b:=BH h6r
  have n1c:RU w8 A4 c5 m5b:=by unfold RU;rw [hx6b];exact (n6.ext X7a)
  obtain ⟨r6a,h2c,f8r⟩:=Ab f7r
  refine JV #[true,true,true,true,true,true,false,false] 2 (fun l' w'=>∃(A1d:Option Addr) (c2d:Nat) (A3d:Option Addr) (c4d:Nat) (b1f:Nat) (b2f:Nat),Ext w8 w'∧RU w' A1d c2d r8a.m.Abs∧RU w' A3d c4d r6a.m.Abs∧w8.heap.size≤b1f∧Bx w' b1f 63 [.bool false,.slice none 0 0,.int .i64 0]∧w8.heap.size≤b2f∧Bx w' b2f 63 [.bool false,.slice none 0 0,.int .i64 0]∧b1f≠b2f∧l'=[.agg #[.bool x0.Man.Neg,.slice A1 x0.Man.Abs.length c2,.int .i64 x0.Exp],.agg #[.bool x1.Man.Neg,.slice A4 x1.Man.Abs.length c5,.int .i64 x1.Exp],.agg #[.func (.func 33) #[] #[],.func (.func 34) #[] #[]],.pointer (some ⟨b8,0,none⟩),.pointer (some ⟨b3g,0,none⟩),.pointer (some ⟨b7q,0,none⟩),.pointer (some ⟨b7e,0,none⟩),.pointer (some ⟨b8e,0,none⟩),.pointer (some ⟨b1f,0,none⟩),.pointer (some ⟨b2f,0,none⟩),.agg #[.bool x0.Man.Neg,.slice A1 x0.Man.Abs.length c2,.int .i64 x0.Exp],.agg #[.bool x1.Man.Neg,.slice A4 x1.Man.Abs.length c5,.int .i64 x1.Exp],.slice (some ⟨b3j,0,none⟩) 2 2,.tuple #[],.agg #[.bool x0.Man.Neg,.slice A1 x0.Man.Abs.length c2,.int .i64 x0.Exp],.agg #[.bool r8a.m.Neg,.slice A1d (sz r8a.m.Abs) c2d,.int .i64 r8a.e],.agg #[.bool x1.Man.Neg,.slice A4 x1.Man.Abs.length c5,.int .i64 x1.Exp],.agg #[.bool r6a.m.Neg,.slice A3d (sz r6a.m.Abs) c4d,.int .i64 r6a.e],uu,uu,uu,uu,uu,uu,uu,uu,uu,uu,uu,uu]) ?_ ?_
  ·rintro _ w9 ⟨A1d,c2d,A3d,c4d,b1f,b2f,E5a,n9r,n0s,g1s,q4c,g2s,q5c,ne7b,rfl⟩
   have g3s:=nlt X7a.size g1s
   have g4s:=nlt X7a.size g2s
   have X5s:=xtr X7a E5a
   have S3a2:=S5j.trans E5a
   refine dk 6 rfl (by kernel_rfl) (by decide) (by rfl) Co rfl rfl q4c rfl rfl rfl rfl (by simp only [SP0,SP1,S0,S1,Nat.reduceAdd];rfl) fun w5q U1a q7l=>?_
   have X6s:=AO X5s U1a g3s
   refine dk 7 rfl (by kernel_rfl) (by decide) (by rfl) Co rfl rfl (q5c.upd U1a (Ne.symm ne7b)) rfl rfl rfl rfl (by simp only [SP0,SP1,S0,S1,Nat.reduceAdd];rfl) fun w8i U3b q8l=>?_
   have X9l:=AO X6s U3b g4s
   refine CB (by kernel_rfl) ?_
   refine h6l _ _<|wp_seq_k fun K0m h0m=>Ai<|sV (Ah (o':=1) Ku rfl rfl) ?_
   have ne1m:=(Bx.neT ((((((q2j.ext E5d).ext E9a).ext E3a).ext E0a).ext E4a).ext E5a) q4c (by decide))
   have ne7s:=(Bx.neT (((((((q2j.ext E5d).ext E9a).ext E3a).ext E0a).ext E4a).ext E5a).upd U1a ne1m) (q5c.upd U1a (Ne.symm ne7b)) (by decide))
   have q2m:=(((((((q2j.ext E5d).ext E9a).ext E3a).ext E0a).ext E4a).ext E5a).upd U1a ne1m).upd U3b ne7s
   refine sV (Ak LN rfl (Bx.cell q2m rfl)) ?_
   refine sV (Al AF rfl (q7l.upd U3b ne7b) rfl) ?_
   refine sV (Al AF rfl q8l rfl) ?_
   have n3m:=(n9r.upd U1a q4c (by decide)).upd U3b (q5c.upd U1a (Ne.symm ne7b)) (by decide)
   have n4m:=(n0s.upd U1a q4c (by decide)).upd U3b (q5c.upd U1a (Ne.symm ne7b)) (by decide)
   obtain ⟨r6j,h8s,f9s⟩:=Ab f8r
   refine sc (Fg (first:=[]) (cap:=[]) (args:=[.agg #[.bool r8a.m.Neg,.slice A1d (sz r8a.m.Abs) c2d,.int .i64 r8a.e],.agg #[.bool r6a.m.Neg,.slice A3d (sz r6a.m.Abs) c4d,.int .i64 r6a.e]]) LZ (by rfl) (by rfl)) (It r8a r6a A1d c2d A3d c4d w8i (tbx X9l hT) n3m n4m r6j h8s) ?_
   rintro _ w3g E4b rfl
   refine nrm ?_
   have X8g:=xtr X9l E4b
   rcases Bj f9s with ⟨r9g,h7j,f0t⟩ | ⟨r9g,h7j,rfl⟩
   ·refine scO (Ae ED (by rfl)) (AP r6j 2 w3g (tbx X8g hT)  (.ok r9g) h7j) ?_
    rintro _ w6e E2b rfl
    refine nrm ?_
    have X5m:=xtr X8g E2b
    refine Ad<|h0m _ _<|wp_seq_k fun K6m h6m=>Ai<|sV (Ah (o':=0) KA rfl rfl) ?_
    refine sV (Ak Mo rfl (Bx.cell ((q2m.ext E4b).ext E2b) rfl)) ?_
    have q1t:=((q7l.upd U3b ne7b).ext E4b).ext E2b
    refine sV (Al AF rfl q1t rfl) ?_
    refine sV (Al AF rfl ((q8l.ext E4b).ext E2b) rfl) ?_
    obtain ⟨r8j,h2t,f3t⟩:=Ab f0t
    refine sc (Fg (first:=[]) (cap:=[]) (args:=[.agg #[.bool r8a.m.Neg,.slice A1d (sz r8a.m.Abs) c2d,.int .i64 r8a.e],.agg #[.bool r6a.m.Neg,.slice A3d (sz r6a.m.Abs) c4d,.int .i64 r6a.e]]) KK (by rfl) (by rfl)) (Fv r8a r6a A1d c2d A3d c4d w6e (tbx X5m hT) ((n3m.ext E4b).ext E2b) ((n4m.ext E4b).ext E2b) r8j h2t) ?_
    rintro _ w4g E8d ⟨A7m,c8m,rfl,n9m⟩
    refine nrm ?_
    have X0h:=xtr X5m E8d
    rcases Bj f3t with ⟨r1h,h9j,f4t⟩ | ⟨r1h,h9j,rfl⟩
    ·refine scO (Ae GW (by rfl)) (Cf r8j A7m c8m w4g (tbx X0h hT) n9m (.ok r1h) h9j) ?_
     rintro _ w9i E9c ⟨A5t,c6t,rfl,n7t⟩
     refine nrm ?_
     have X8t:=xtr X0h E9c
     have ne0n:=(Bx.neT (((((q3c.ext E9a).ext E3a).ext E0a).ext E4a).ext E5a) q4c (by decide))
     have ne9t:=(Bx.neT ((((((q3c.ext E9a).ext E3a).ext E0a).ext E4a).ext E5a).upd U1a ne0n) (q5c.upd U1a (Ne.symm ne7b)) (by decide))
     have q0k:=((((((((((q3c.ext E9a).ext E3a).ext E0a).ext E4a).ext E5a).upd U1a ne0n).upd U3b ne9t).ext E4b).ext E2b).ext E8d).ext E9c
     refine AB BX rfl rfl q0k rfl rfl rfl rfl (by simp only [SP0,SP1,S0,S1,Nat.reduceAdd];rfl) fun w6q U1k q0u=>?_
     have X1u:=AO X8t U1k g5g
     have ne2k:=(Bx.neT ((((q0c.ext E3a).ext E0a).ext E4a).ext E5a) q4c (by decide))
     have ne1n:=(Bx.neT (((((q0c.ext E3a).ext E0a).ext E4a).ext E5a).upd U1a ne2k) (q5c.upd U1a (Ne.symm ne7b)) (by decide))
     have ne2n:=(Bx.neT ((((((((((q0c.ext E3a).ext E0a).ext E4a).ext E5a).upd U1a ne2k).upd U3b ne1n).ext E4b).ext E2b).ext E8d).ext E9c) q0k (by decide))
     have q3n:=((((((((((q0c.ext E3a).ext E0a).ext E4a).ext E5a).upd U1a ne2k).upd U3b ne1n).ext E4b).ext E2b).ext E8d).ext E9c).upd U1k ne2n
     refine AB GN rfl rfl q3n rfl rfl rfl rfl (by simp only [SP0,SP1,S0,S1,Nat.reduceAdd];rfl) fun w0j U3k q2u=>?_
     have X3u:=AO X1u U3k g6g
     refine Ad<|h6m _ _<|wp_ret ?_
     have n4u:=(n7t.upd U1k q0k (by decide)).upd U3k q3n (by decide)
     obtain rfl:=sj f4t
     obtain rfl:=sj hr0
     exact Jj Dp Ge rfl (Res.cellN rfl AG (q0u.upd U3k (Ne.symm ne2n)) rfl rfl (Res.cell1 rfl CV (Bx.cell q2u rfl) Res.nil)) (An X3u ⟨A5t,c6t,rfl,n4u⟩)
    ·refine scP (Ae GW (by rfl)) (Cf r8j A7m c8m w4g (tbx X0h hT) n9m (.error r1h) h9j) fun w9i E9c=>?_
     have X5u:=xtr X0h E9c
     have ne4n:=(Bx.neT (((((q3c.ext E9a).ext E3a).ext E0a).ext E4a).ext E5a) q4c (by decide))
     have ne6u:=(Bx.neT ((((((q3c.ext E9a).ext E3a).ext E0a).ext E4a).ext E5a).upd U1a ne4n) (q5c.upd U1a (Ne.symm ne7b)) (by decide))
     have q7u:=((((((((((q3c.ext E9a).ext E3a).ext E0a).ext E4a).ext E5a).upd U1a ne4n).upd U3b ne6u).ext E4b).ext E2b).ext E8d).ext E9c
     have ne5n:=(Bx.neT ((((q0c.ext E3a).ext E0a).ext E4a).ext E5a) q4c (by decide))
     have ne8u:=(Bx.neT (((((q0c.ext E3a).ext E0a).ext E4a).ext E5a).upd U1a ne5n) (q5c.upd U1a (Ne.symm ne7b)) (by decide))
     have q9u:=(((((((((q0c.ext E3a).ext E0a).ext E4a).ext E5a).upd U1a ne5n).upd U3b ne8u).ext E4b).ext E2b).ext E8d).ext E9c
     refine Gj Ge (Bl b7e b8e (.bool false:Value) (.slice none 0 0:Value) (.int .i64 0:Value) (.int .i64 0:Value) r1h q7u q9u) rfl ?_
     rintro w9 ⟨u9,q9,q9'⟩
     obtain rfl:=sj hr0
     exact ⟨_,(Res.cellN rfl AG q9 rfl rfl (Res.cell1 rfl CV (Bx.cell q9' rfl) Res.nil)),An (u9.toExt X5u g5g g6g) ⟨none,0,rfl,RU.nil _⟩⟩
   ·refine scP (Ae ED (by rfl)) (AP r6j 2 w3g (tbx X8g hT)  (.error r9g) h7j) fun w6e E2b=>?_
    have X0v:=xtr X8g E2b
    have ne6n:=(Bx.neT (((((q3c.ext E9a).ext E3a).ext E0a).ext E4a).ext E5a) q4c (by decide))
    have ne1v:=(Bx.neT ((((((q3c.ext E9a).ext E3a).ext E0a).ext E4a).ext E5a).upd U1a ne6n) (q5c.upd U1a (Ne.symm ne7b)) (by decide))
    have q2v:=((((((((q3c.ext E9a).ext E3a).ext E0a).ext E4a).ext E5a).upd U1a ne6n).upd U3b ne1v).ext E4b).ext E2b
    have ne7n:=(Bx.neT ((((q0c.ext E3a).ext E0a).ext E4a).ext E5a) q4c (by decide))
    have ne3v:=(Bx.neT (((((q0c.ext E3a).ext E0a).ext E4a).ext E5a).upd U1a ne7n) (q5c.upd U1a (Ne.symm ne7b)) (by decide))
    have q4v:=(((((((q0c.ext E3a).ext E0a).ext E4a).ext E5a).upd U1a ne7n).upd U3b ne3v).ext E4b).ext E2b
    refine Gj Ge (Bl b7e b8e (.bool false:Value) (.slice none 0 0:Value) (.int .i64 0:Value) (.int .i64 0:Value) r9g q2v q4v) rfl ?_
    rintro w9 ⟨u9,q9,q9'⟩
    obtain rfl:=sj hr0
    exact ⟨_,(Res.cellN rfl AG q9 rfl rfl (Res.cell1 rfl CV (Bx.cell q9' rfl) Res.nil)),An (u9.toExt X0v g5g g6g) ⟨none,0,rfl,RU.nil _⟩⟩
  ·intro HJ87
   refine HQ 1 4 5 (by kernel_rfl) ?_ ?_ ?_
   ·refine opC 1 rfl (by rfl) (Ae Dj (by simp only [sz,hx7d];rfl)) (AJ (⟨(⟨x0.Man.Neg,m6d⟩:Ag),x0.Exp⟩:Af) A1 c2 _ (tbx (Ext.refl _) (tbx X7a hT)) (n9e.ext (Ext.refl _)) r8a h0f) ?_
    rintro _ _ E2a ⟨A9d,c0e,rfl,n1e⟩
    refine dnrm ?_
    refine HQ 3 4 5 (by kernel_rfl) ?_ ?_ ?_
    ·refine opC 3 rfl (by rfl) (Ae Dj (by simp only [sz,hx6b];rfl)) (AJ (⟨(⟨x1.Man.Neg,m5b⟩:Ag),x1.Exp⟩:Af) A4 c5 _ (tbx E2a (tbx X7a hT)) (n1c.ext E2a) r6a h2c) ?_
     rintro _ _ E0d ⟨A8n,c9n,rfl,n0o⟩
     refine dnrm ?_
     refine Dn 4 5 (by kernel_rfl) ?_ ?_
     ·refine opA 4 rfl (by rfl) (Au AI) fun b5v _ E2h g6v q1o=>dnrm ?_
      refine AQ 5 (by kernel_rfl) ?_
      ·refine opA 5 rfl (by rfl) (Au AI) fun b7v _ E3h g2o q8v=>dnrm ?_
       exact Cl (by kernel_rfl) (HJ87 _ _ ⟨A9d,c0e,A8n,c9n,b5v,b7v,(((E2a.trans E0d).trans E2h).trans E3h),(((n1e.ext E0d).ext E2h).ext E3h),((n0o.ext E2h).ext E3h),(nlt (E2a.trans E0d).size g6v),(q1o.ext E3h),(nlt ((E2a.trans E0d).trans E2h).size g2o),q8v,(Bx.ne q1o g2o),rfl⟩)
     ·refine opA 5 rfl (by rfl) (Au AI) fun b9v _ E4h g0w q3o=>dnrm ?_
      refine AQ 4 (by kernel_rfl) ?_
      ·refine opA 4 rfl (by rfl) (Au AI) fun b1w _ E5h g4o q2w=>dnrm ?_
       exact Cl (by kernel_rfl) (HJ87 _ _ ⟨A9d,c0e,A8n,c9n,b1w,b9v,(((E2a.trans E0d).trans E4h).trans E5h),(((n1e.ext E0d).ext E4h).ext E5h),((n0o.ext E4h).ext E5h),(nlt ((E2a.trans E0d).trans E4h).size g4o),q2w,(nlt (E2a.trans E0d).size g0w),(q3o.ext E5h),(Ne.symm (Bx.ne q3o g4o)),rfl⟩)
    ·refine opA 4 rfl (by rfl) (Au AI) fun b5o _ E6c g6o q6h=>dnrm ?_
     refine Dn 3 5 (by kernel_rfl) ?_ ?_
     ·refine opC 3 rfl (by rfl) (Ae Dj (by simp only [sz,hx6b];rfl)) (AJ (⟨(⟨x1.Man.Neg,m5b⟩:Ag),x1.Exp⟩:Af) A4 c5 _ (tbx (E2a.trans E6c) (tbx X7a hT)) (n1c.ext (E2a.trans E6c)) r6a h2c) ?_
      rintro _ _ E3f ⟨A3w,c4w,rfl,n5w⟩
      refine dnrm ?_
      refine AQ 5 (by kernel_rfl) ?_
      ·refine opA 5 rfl (by rfl) (Au AI) fun b6w _ E7h g7o q7w=>dnrm ?_
       exact Cl (by kernel_rfl) (HJ87 _ _ ⟨A9d,c0e,A3w,c4w,b5o,b6w,(((E2a.trans E6c).trans E3f).trans E7h),(((n1e.ext E6c).ext E3f).ext E7h),(n5w.ext E7h),(nlt E2a.size g6o),((q6h.ext E3f).ext E7h),(nlt ((E2a.trans E6c).trans E3f).size g7o),q7w,(Bx.ne (q6h.ext E3f) g7o),rfl⟩)
     ·refine opA 5 rfl (by rfl) (Au AI) fun b8w _ E4f g8o q9w=>dnrm ?_
      refine AQ 3 (by kernel_rfl) ?_
      ·refine opC 3 rfl (by rfl) (Ae Dj (by simp only [sz,hx6b];rfl)) (AJ (⟨(⟨x1.Man.Neg,m5b⟩:Ag),x1.Exp⟩:Af) A4 c5 _ (tbx ((E2a.trans E6c).trans E4f) (tbx X7a hT)) (n1c.ext ((E2a.trans E6c).trans E4f)) r6a h2c) ?_
       rintro _ _ E8h ⟨A0x,c1x,rfl,n2x⟩
       refine dnrm ?_
       exact Cl (by kernel_rfl) (HJ87 _ _ ⟨A9d,c0e,A0x,c1x,b5o,b8w,(((E2a.trans E6c).trans E4f).trans E8h),(((n1e.ext E6c).ext E4f).ext E8h),n2x,(nlt E2a.size g6o),((q6h.ext E4f).ext E8h),(nlt (E2a.trans E6c).size g8o),(q9w.ext E8h),(Bx.ne q6h g8o),rfl⟩)
    ·refine opA 5 rfl (by rfl) (Au AI) fun b9o _ E7c g0p q9h=>dnrm ?_
     refine Dn 3 4 (by kernel_rfl) ?_ ?_
     ·refine opC 3 rfl (by rfl) (Ae Dj (by simp only [sz,hx6b];rfl)) (AJ (⟨(⟨x1.Man.Neg,m5b⟩:Ag),x1.Exp⟩:Af) A4 c5 _ (tbx (E2a.trans E7c) (tbx X7a hT)) (n1c.ext (E2a.trans E7c)) r6a h2c) ?_
      rintro _ _ E5f ⟨A3x,c4x,rfl,n5x⟩
      refine dnrm ?_
      refine AQ 4 (by kernel_rfl) ?_
      ·refine opA 4 rfl (by rfl) (Au AI) fun b6x _ E0i g1p q7x=>dnrm ?_
       exact Cl (by kernel_rfl) (HJ87 _ _ ⟨A9d,c0e,A3x,c4x,b6x,b9o,(((E2a.trans E7c).trans E5f).trans E0i),(((n1e.ext E7c).ext E5f).ext E0i),(n5x.ext E0i),(nlt ((E2a.trans E7c).trans E5f).size g1p),q7x,(nlt E2a.size g0p),((q9h.ext E5f).ext E0i),(Ne.symm (Bx.ne (q9h.ext E5f) g1p)),rfl⟩)
     ·refine opA 4 rfl (by rfl) (Au AI) fun b8x _ E6f g2p q9x=>dnrm ?_
      refine AQ 3 (by kernel_rfl) ?_
      ·refine opC 3 rfl (by rfl) (Ae Dj (by simp only [sz,hx6b];rfl)) (AJ (⟨(⟨x1.Man.Neg,m5b⟩:Ag),x1.Exp⟩:Af) A4 c5 _ (tbx ((E2a.trans E7c).trans E6f) (tbx X7a hT)) (n1c.ext ((E2a.trans E7c).trans E6f)) r6a h2c) ?_
       rintro _ _ E1i ⟨A0y,c1y,rfl,n2y⟩
       refine dnrm ?_
       exact Cl (by kernel_rfl) (HJ87 _ _ ⟨A9d,c0e,A0y,c1y,b8x,b9o,(((E2a.trans E7c).trans E6f).trans E1i),(((n1e.ext E7c).ext E6f).ext E1i),n2y,(nlt (E2a.trans E7c).size g2p),(q9x.ext E1i),(nlt E2a.size g0p),((q9h.ext E6f).ext E1i),(Ne.symm (Bx.ne q9h g2p)),rfl⟩)
   ·refine opA 4 rfl (by rfl) (Au AI) fun b4k _ E0b g5k q2e=>dnrm ?_
    refine Dn 1 5 (by kernel_rfl) ?_ ?_
    ·refine opC 1 rfl (by rfl) (Ae Dj (by simp only [sz,hx7d];rfl)) (AJ (⟨(⟨x0.Man.Neg,m6d⟩:Ag),x0.Exp⟩:Af) A1 c2 _ (tbx E0b (tbx X7a hT)) (n9e.ext E0b) r8a h0f) ?_
     rintro _ _ E8b ⟨A3p,c4p,rfl,n5p⟩
     refine dnrm ?_
     refine Dn 3 5 (by kernel_rfl) ?_ ?_
     ·refine opC 3 rfl (by rfl) (Ae Dj (by simp only [sz,hx6b];rfl)) (AJ (⟨(⟨x1.Man.Neg,m5b⟩:Ag),x1.Exp⟩:Af) A4 c5 _ (tbx (E0b.trans E8b) (tbx X7a hT)) (n1c.ext (E0b.trans E8b)) r6a h2c) ?_
      rintro _ _ E7f ⟨A3y,c4y,rfl,n5y⟩
      refine dnrm ?_
      refine AQ 5 (by kernel_rfl) ?_
      ·refine opA 5 rfl (by rfl) (Au AI) fun b6y _ E2i g6p q7y=>dnrm ?_
       exact Cl (by kernel_rfl) (HJ87 _ _ ⟨A3p,c4p,A3y,c4y,b4k,b6y,(((E0b.trans E8b).trans E7f).trans E2i),((n5p.ext E7f).ext E2i),(n5y.ext E2i),g5k,(((q2e.ext E8b).ext E7f).ext E2i),(nlt ((E0b.trans E8b).trans E7f).size g6p),q7y,(Bx.ne ((q2e.ext E8b).ext E7f) g6p),rfl⟩)
     ·refine opA 5 rfl (by rfl) (Au AI) fun b8y _ E8f g7p q9y=>dnrm ?_
      refine AQ 3 (by kernel_rfl) ?_
      ·refine opC 3 rfl (by rfl) (Ae Dj (by simp only [sz,hx6b];rfl)) (AJ (⟨(⟨x1.Man.Neg,m5b⟩:Ag),x1.Exp⟩:Af) A4 c5 _ (tbx ((E0b.trans E8b).trans E8f) (tbx X7a hT)) (n1c.ext ((E0b.trans E8b).trans E8f)) r6a h2c) ?_
       rintro _ _ E3i ⟨A0z,c1z,rfl,n2z⟩
       refine dnrm ?_
       exact Cl (by kernel_rfl) (HJ87 _ _ ⟨A3p,c4p,A0z,c1z,b4k,b8y,(((E0b.trans E8b).trans E8f).trans E3i),((n5p.ext E8f).ext E3i),n2z,g5k,(((q2e.ext E8b).ext E8f).ext E3i),(nlt (E0b.trans E8b).size g7p),(q9y.ext E3i),(Bx.ne (q2e.ext E8b) g7p),rfl⟩)
    ·refine opA 5 rfl (by rfl) (Au AI) fun b3z _ E3e g8p q4z=>dnrm ?_
     refine AQ 1 (by kernel_rfl) ?_
     ·refine opC 1 rfl (by rfl) (Ae Dj (by simp only [sz,hx7d];rfl)) (AJ (⟨(⟨x0.Man.Neg,m6d⟩:Ag),x0.Exp⟩:Af) A1 c2 _ (tbx (E0b.trans E3e) (tbx X7a hT)) (n9e.ext (E0b.trans E3e)) r8a h0f) ?_
      rintro _ _ E9f ⟨A5z,c6z,rfl,n7z⟩
      refine dnrm ?_
      refine AQ 3 (by kernel_rfl) ?_
      ·refine opC 3 rfl (by rfl) (Ae Dj (by simp only [sz,hx6b];rfl)) (AJ (⟨(⟨x1.Man.Neg,m5b⟩:Ag),x1.Exp⟩:Af) A4 c5 _ (tbx ((E0b.trans E3e).trans E9f) (tbx X7a hT)) (n1c.ext ((E0b.trans E3e).trans E9f)) r6a h2c) ?_
       rintro _ _ E4i ⟨A8z,c9z,rfl,n0a0⟩
       refine dnrm ?_
       exact Cl (by kernel_rfl) (HJ87 _ _ ⟨A5z,c6z,A8z,c9z,b4k,b3z,(((E0b.trans E3e).trans E9f).trans E4i),(n7z.ext E4i),n0a0,g5k,(((q2e.ext E3e).ext E9f).ext E4i),(nlt E0b.size g8p),((q4z.ext E9f).ext E4i),(Bx.ne q2e g8p),rfl⟩)
   ·refine opA 5 rfl (by rfl) (Au AI) fun b6k _ E1b g7k q4e=>dnrm ?_
    refine Dn 1 4 (by kernel_rfl) ?_ ?_
    ·refine opC 1 rfl (by rfl) (Ae Dj (by simp only [sz,hx7d];rfl)) (AJ (⟨(⟨x0.Man.Neg,m6d⟩:Ag),x0.Exp⟩:Af) A1 c2 _ (tbx E1b (tbx X7a hT)) (n9e.ext E1b) r8a h0f) ?_
     rintro _ _ E9b ⟨A9p,c0q,rfl,n1q⟩
     refine dnrm ?_
     refine Dn 3 4 (by kernel_rfl) ?_ ?_
     ·refine opC 3 rfl (by rfl) (Ae Dj (by simp only [sz,hx6b];rfl)) (AJ (⟨(⟨x1.Man.Neg,m5b⟩:Ag),x1.Exp⟩:Af) A4 c5 _ (tbx (E1b.trans E9b) (tbx X7a hT)) (n1c.ext (E1b.trans E9b)) r6a h2c) ?_
      rintro _ _ E0g ⟨A1a0,c2a0,rfl,n3a0⟩
      refine dnrm ?_
      refine AQ 4 (by kernel_rfl) ?_
      ·refine opA 4 rfl (by rfl) (Au AI) fun b4a0 _ E5i g2q q5a0=>dnrm ?_
       exact Cl (by kernel_rfl) (HJ87 _ _ ⟨A9p,c0q,A1a0,c2a0,b4a0,b6k,(((E1b.trans E9b).trans E0g).trans E5i),((n1q.ext E0g).ext E5i),(n3a0.ext E5i),(nlt ((E1b.trans E9b).trans E0g).size g2q),q5a0,g7k,(((q4e.ext E9b).ext E0g).ext E5i),(Ne.symm (Bx.ne ((q4e.ext E9b).ext E0g) g2q)),rfl⟩)
     ·refine opA 4 rfl (by rfl) (Au AI) fun b6a0 _ E1g g3q q7a0=>dnrm ?_
      refine AQ 3 (by kernel_rfl) ?_
      ·refine opC 3 rfl (by rfl) (Ae Dj (by simp only [sz,hx6b];rfl)) (AJ (⟨(⟨x1.Man.Neg,m5b⟩:Ag),x1.Exp⟩:Af) A4 c5 _ (tbx ((E1b.trans E9b).trans E1g) (tbx X7a hT)) (n1c.ext ((E1b.trans E9b).trans E1g)) r6a h2c) ?_
       rintro _ _ E6i ⟨A8a0,c9a0,rfl,n0a1⟩
       refine dnrm ?_
       exact Cl (by kernel_rfl) (HJ87 _ _ ⟨A9p,c0q,A8a0,c9a0,b6a0,b6k,(((E1b.trans E9b).trans E1g).trans E6i),((n1q.ext E1g).ext E6i),n0a1,(nlt (E1b.trans E9b).size g3q),(q7a0.ext E6i),g7k,(((q4e.ext E9b).ext E1g).ext E6i),(Ne.symm (Bx.ne (q4e.ext E9b) g3q)),rfl⟩)
    ·refine opA 4 rfl (by rfl) (Au AI) fun b1a1 _ E5e g4q q2a1=>dnrm ?_
     refine AQ 1 (by kernel_rfl) ?_
     ·refine opC 1 rfl (by rfl) (Ae Dj (by simp only [sz,hx7d];rfl)) (AJ (⟨(⟨x0.Man.Neg,m6d⟩:Ag),x0.Exp⟩:Af) A1 c2 _ (tbx (E1b.trans E5e) (tbx X7a hT)) (n9e.ext (E1b.trans E5e)) r8a h0f) ?_
      rintro _ _ E2g ⟨A3a1,c4a1,rfl,n5a1⟩
      refine dnrm ?_
      refine AQ 3 (by kernel_rfl) ?_
      ·refine opC 3 rfl (by rfl) (Ae Dj (by simp only [sz,hx6b];rfl)) (AJ (⟨(⟨x1.Man.Neg,m5b⟩:Ag),x1.Exp⟩:Af) A4 c5 _ (tbx ((E1b.trans E5e).trans E2g) (tbx X7a hT)) (n1c.ext ((E1b.trans E5e).trans E2g)) r6a h2c) ?_
       rintro _ _ E7i ⟨A6a1,c7a1,rfl,n8a1⟩
       refine dnrm ?_
       exact Cl (by kernel_rfl) (HJ87 _ _ ⟨A3a1,c4a1,A6a1,c7a1,b1a1,b6k,(((E1b.trans E5e).trans E2g).trans E7i),(n5a1.ext E7i),n8a1,(nlt E1b.size g4q),((q2a1.ext E2g).ext E7i),g7k,(((q4e.ext E5e).ext E2g).ext E7i),(Ne.symm (Bx.ne q4e g4q)),rfl⟩)
 ·refine scP (Ae Ik (by rfl)) (Eg x0 x1 b3j A1 c2 A4 c5 w6 (tbx X8c hT) (n3.ext X8c) (n6.ext X8c) q5l (.error r7g) h4j) fun w7 E0a=>?_
  have X9a1:=xtr X8c E0a
  have q0a2:=((q3c.ext E9a).ext E3a).ext E0a
  refine Gj Ge (Bl b7e b8e (.bool false:Value) (.slice none 0 0:Value) (.int .i64 0:Value) (.int .i64 0:Value) r7g q0a2 ((q0c.ext E3a).ext E0a)) rfl ?_
  rintro w9 ⟨u9,q9,q9'⟩
  obtain rfl:=sj hr0
  exact ⟨_,(Res.cellN rfl AG q9 rfl rfl (Res.cell1 rfl CV (Bx.cell q9' rfl) Res.nil)),An (u9.toExt X9a1 g5g g6g) ⟨none,0,rfl,RU.nil _⟩⟩
theorem c_dyad_Add (x0:Ao) (x1:Ao) (A1:Option Addr) (c2:Nat) (A4:Option Addr) (c5:Nat) (w:World) (hT:TB w) (n3:RLu w A1 c2 x0.Man.Abs) (n6:RLu w A4 c5 x1.Man.Abs) (r:Af × Int) (hr:Fw x0 x1=some r) :
  Calls Tryd.prog 8 #[.agg #[.bool x0.Man.Neg,.slice A1 x0.Man.Abs.length c2,.int .i64 x0.Exp],.agg #[.bool x1.Man.Neg,.slice A4 x1.Man.Abs.length c5,.int .i64 x1.Exp]] w (Ret Gw w r):=by
 unfold Fw at hr
 go_enter Tryd.func8,Tryd.ntmps8
 refine wp_seq_k fun K7 h7=>Ai<|Bp rfl rfl fun b8 w1 E9 g3c q8a=>?_
 refine nrm ?_
 refine Bp rfl rfl fun b4c w2 E3a g9a q0b=>?_
 refine nrm ?_
 have g5c:=nlt E9.size g9a
 have X4a:=xtr E9 E3a
 refine AA Dx fun b6c w3 E1a g1b q5a=>?_
 refine nrm ?_
 have g2b:=nlt X4a.size g1b
 have X0a:=xtr X4a E1a
 refine sV (Ac rfl) ?_
 refine Ad<|h7 _ _<|wp_seq_k fun K6a h6a=>Ai<|sV (Al AG rfl ((q8a.ext E3a).ext E1a) rfl) ?_
 refine sV (Al AG rfl (q0b.ext E1a) rfl) ?_
 refine sV (AU (vals:=[(0,.func (.func 33) #[] #[]),(1,.func (.func 34) #[] #[])]) (cells:=[.func (.func 33) #[] #[],.func (.func 34) #[] #[]]) (by rfl) (by kernel_rfl)) ?_
 obtain ⟨r3b,h4b,f5b⟩:=Ab hr
 refine sc (Ae Mm (by rfl)) (c_dyad_exact__dyad_num_plus__dyad_near x0 x1 A1 c2 A4 c5 w3 (tbx X0a hT) (n3.ext X0a) (n6.ext X0a) r3b h4b) ?_
 rintro _ w4 E2a ⟨A6b,c7b,rfl,n8b⟩
 refine nrm ?_
 have X9b:=xtr X0a E2a
 refine sV (Ax rfl rfl) ?_
 refine sV (Ax rfl rfl) ?_
 refine AB BX rfl rfl (q5a.ext E2a) rfl rfl rfl rfl (by simp only [SP0,SP1,S0,S1,Nat.reduceAdd];rfl) fun w5 U7a q0c=>?_
 have X1c:=AO X9b U7a g2b
 refine sV (Ac rfl) ?_
 refine Ad<|h6a _ _<|wp_ret ?_
 have n2c:=n8b.upd U7a (q5a.ext E2a) (by decide)
 obtain rfl:=sj f5b
 exact fin rfl (Res.cellN rfl AG q0c rfl rfl (Res.tmp rfl Res.nil)) (An X1c ⟨A6b,c7b,rfl,n2c⟩)
theorem c_dyad_Mul_1 (x0:Aj) (x1:Aj) (A1:Option Addr) (c2:Nat) (A4:Option Addr) (c5:Nat) (w:World) (hT:TB w) (n3:RU w A1 c2 x0.m.Abs) (n6:RU w A4 c5 x1.m.Abs) (r:Bool) (hr:FG x0 x1=some r) :
  Calls Tryd.prog 37 #[.agg #[.bool x0.m.Neg,.slice A1 (sz x0.m.Abs) c2,.int .i64 x0.e],.agg #[.bool x1.m.Neg,.slice A4 (sz x1.m.Abs) c5,.int .i64 x1.e]] w (Ret EZ w r):=by
 unfold FG at hr
 go_enter Tryd.func37,Tryd.ntmps37
 refine wp_seq_k fun K7 h7=>Ai<|Bp rfl rfl fun b8 w1 E9 g4a q5a=>?_
 refine nrm ?_
 refine Bp rfl rfl fun b6a w2 E1a g2a q7a=>?_
 refine nrm ?_
 have g8a:=nlt E9.size g2a
 have X3a:=xtr E9 E1a
 refine sV (Ac rfl) ?_
 refine Ad<|h7 _ _<|wp_seq_k fun K0a h0a=>Ai<|sV (Ac rfl) ?_
 refine Ad<|h0a _ _<|wp_ret ?_
 obtain rfl:=sj hr
 exact fin rfl (Res.tmp rfl Res.nil) (An X3a rfl)
theorem c_dyad_exact__dyad_num_times__dyad_Mul_1 (x0:Ao) (x1:Ao) (A1:Option Addr) (c2:Nat) (A4:Option Addr) (c5:Nat) (w:World) (hT:TB w) (n3:RLu w A1 c2 x0.Man.Abs) (n6:RLu w A4 c5 x1.Man.Abs) (r:Af × Int) (hr:Bc x0 x1=some r) :
  Calls Tryd.prog 32 #[.agg #[.bool x0.Man.Neg,.slice A1 x0.Man.Abs.length c2,.int .i64 x0.Exp],.agg #[.bool x1.Man.Neg,.slice A4 x1.Man.Abs.length c5,.int .i64 x1.Exp],.agg #[.func (.func 36) #[] #[],.func (.func 37) #[] #[]]] w (Ret Gw w r):=by
 unfold Bc at hr
 obtain ⟨q0,hq0,hr0⟩:=Ab hr
 unfold Bu at hq0
 go_enter_defers Tryd.func32,Tryd.ntmps32
 refine wp_seq_k fun K7 h7=>Ai<|Bp rfl rfl fun b8 w1 E9 g5q q8i=>?_
 refine nrm ?_
 refine Bp rfl rfl fun b3g w2 E6e g4g q9i=>?_
 refine nrm ?_
 have g6q:=nlt E9.size g4g
 have X0j:=xtr E9 E6e
 refine Bp rfl rfl fun b7q w3 E1j g8q q2j=>?_
 refine nrm ?_
 have g1a2:=nlt X0j.size g8q
 have X8k:=xtr X0j E1j
 refine AA Dx fun b7e w4 E5d g9q q3c=>?_
 refine nrm ?_
 have g5g:=nlt X8k.size g9q
 have X9k:=xtr X8k E5d
 refine AA HS fun b8e w5 E9a g0r q0c=>?_
 refine nrm ?_
 have g6g:=nlt X9k.size g0r
 have X0l:=xtr X9k E9a
 refine Ad<|h7 _ _<|wp_seq_k fun K1l h1l=>Ai<|GQ (vs:=[.pointer (some ⟨b7e,0,none⟩),.pointer (some ⟨b8e,0,none⟩)]) (by rfl) (by rfl)<|Ad<|h1l _ _<|wp_seq_k fun K2l h2l=>Ai<|have q3l:=(((q8i.ext E6e).ext E1j).ext E5d).ext E9a;sV (Al AG rfl q3l rfl) ?_
 have q4l:=((q9i.ext E1j).ext E5d).ext E9a
 refine sV (Al AG rfl q4l rfl) ?_
 refine DP (vals:=[(0,.agg #[.bool x0.Man.Neg,.slice A1 x0.Man.Abs.length c2,.int .i64 x0.Exp]),(1,.agg #[.bool x1.Man.Neg,.slice A4 x1.Man.Abs.length c5,.int .i64 x1.Exp])]) (cs:=[.bool x0.Man.Neg,.slice A1 x0.Man.Abs.length c2,.int .i64 x0.Exp,.bool x1.Man.Neg,.slice A4 x1.Man.Abs.length c5,.int .i64 x1.Exp]) EV BX Dx (by rfl) (by decide) (by kernel_rfl) fun b3j w6 E3a g1r q5l=>?_
 refine nrm ?_
 have g2a2:=nlt X0l.size g1r
 have X8c:=xtr X0l E3a
 rcases Bj hq0 with ⟨r7g,h4j,f2r⟩ | ⟨r7g,h4j,rfl⟩
 ·refine scO (Ae Ik (by rfl)) (Eg x0 x1 b3j A1 c2 A4 c5 w6 (tbx X8c hT) (n3.ext X8c) (n6.ext X8c) q5l (.ok r7g) h4j) ?_
  rintro _ w7 E0a rfl
  refine nrm ?_
  have X3r:=xtr X8c E0a
  refine Ad<|h2l _ _<|wp_seq_k fun K6l h6l=>Dz [6,7] 8 mo rfl fun w8 E4a S5j=>?_
  have X7a:=xtr X3r E4a
  refine dV 0 rfl (fun _ hw=>Al AG rfl ((((q3l.ext E3a).ext E0a).ext E4a).ext hw) rfl) S5j ?_ (hQ:=fun _ _ _ h=>dq (rs:=[.cell 6 27,.cell 7 31]) rfl (by decide) h)
  refine dV 2 rfl (fun _ hw=>Al AG rfl ((((q4l.ext E3a).ext E0a).ext E4a).ext hw) rfl) S5j ?_ (hQ:=fun _ _ _ h=>dq (rs:=[.cell 6 27,.cell 7 31]) rfl (by decide) h)
  obtain ⟨m6d,h4r,f5r⟩:=Ab f2r
  have hx7d:=BH h4r
  have n9e:RU w8 A1 c2 m6d:=by unfold RU;rw [hx7d];exact (n3.ext X7a)
  obtain ⟨r8a,h0f,f64⟩:=Ab f5r
  obtain ⟨m5b,h6r,f7r⟩:=Ab f64
  have hx6b:=BH h6r
  have n1c:RU w8 A4 c5 m5b:=by unfold RU;rw [hx6b];exact (n6.ext X7a)
  obtain ⟨r6a,h2c,f8r⟩:=Ab f7r
  refine JV #[true,true,true,true,true,true,false,false] 2 (fun l' w'=>∃(A1d:Option Addr) (c2d:Nat) (A3d:Option Addr) (c4d:Nat) (b1f:Nat) (b2f:Nat),Ext w8 w'∧RU w' A1d c2d r8a.m.Abs∧RU w' A3d c4d r6a.m.Abs∧w8.heap.size≤b1f∧Bx w' b1f 63 [.bool false,.slice none 0 0,.int .i64 0]∧w8.heap.size≤b2f∧Bx w' b2f 63 [.bool false,.slice none 0 0,.int .i64 0]∧b1f≠b2f∧l'=[.agg #[.bool x0.Man.Neg,.slice A1 x0.Man.Abs.length c2,.int .i64 x0.Exp],.agg #[.bool x1.Man.Neg,.slice A4 x1.Man.Abs.length c5,.int .i64 x1.Exp],.agg #[.func (.func 36) #[] #[],.func (.func 37) #[] #[]],.pointer (some ⟨b8,0,none⟩),.pointer (some ⟨b3g,0,none⟩),.pointer (some ⟨b7q,0,none⟩),.pointer (some ⟨b7e,0,none⟩),.pointer (some ⟨b8e,0,none⟩),.pointer (some ⟨b1f,0,none⟩),.pointer (some ⟨b2f,0,none⟩),.agg #[.bool x0.Man.Neg,.slice A1 x0.Man.Abs.length c2,.int .i64 x0.Exp],.agg #[.bool x1.Man.Neg,.slice A4 x1.Man.Abs.length c5,.int .i64 x1.Exp],.slice (some ⟨b3j,0,none⟩) 2 2,.tuple #[],.agg #[.bool x0.Man.Neg,.slice A1 x0.Man.Abs.length c2,.int .i64 x0.Exp],.agg #[.bool r8a.m.Neg,.slice A1d (sz r8a.m.Abs) c2d,.int .i64 r8a.e],.agg #[.bool x1.Man.Neg,.slice A4 x1.Man.Abs.length c5,.int .i64 x1.Exp],.agg #[.bool r6a.m.Neg,.slice A3d (sz r6a.m.Abs) c4d,.int .i64 r6a.e],uu,uu,uu,uu,uu,uu,uu,uu,uu,uu,uu,uu]) ?_ ?_
  ·rintro _ w9 ⟨A1d,c2d,A3d,c4d,b1f,b2f,E5a,n9r,n0s,g1s,q4c,g2s,q5c,ne7b,rfl⟩
   have g3s:=nlt X7a.size g1s
   have g4s:=nlt X7a.size g2s
   have X5s:=xtr X7a E5a
   have S3a2:=S5j.trans E5a
   refine dk 6 rfl (by kernel_rfl) (by decide) (by rfl) Co rfl rfl q4c rfl rfl rfl rfl (by simp only [SP0,SP1,S0,S1,Nat.reduceAdd];rfl) fun w5q U1a q7l=>?_
   have X6s:=AO X5s U1a g3s
   refine dk 7 rfl (by kernel_rfl) (by decide) (by rfl) Co rfl rfl (q5c.upd U1a (Ne.symm ne7b)) rfl rfl rfl rfl (by simp only [SP0,SP1,S0,S1,Nat.reduceAdd];rfl) fun w8i U3b q8l=>?_
   have X9l:=AO X6s U3b g4s
   refine CB (by kernel_rfl) ?_
   refine h6l _ _<|wp_seq_k fun K0m h0m=>Ai<|sV (Ah (o':=1) Ku rfl rfl) ?_
   have ne1m:=(Bx.neT ((((((q2j.ext E5d).ext E9a).ext E3a).ext E0a).ext E4a).ext E5a) q4c (by decide))
   have ne7s:=(Bx.neT (((((((q2j.ext E5d).ext E9a).ext E3a).ext E0a).ext E4a).ext E5a).upd U1a ne1m) (q5c.upd U1a (Ne.symm ne7b)) (by decide))
   have q2m:=(((((((q2j.ext E5d).ext E9a).ext E3a).ext E0a).ext E4a).ext E5a).upd U1a ne1m).upd U3b ne7s
   refine sV (Ak LN rfl (Bx.cell q2m rfl)) ?_
   refine sV (Al AF rfl (q7l.upd U3b ne7b) rfl) ?_
   refine sV (Al AF rfl q8l rfl) ?_
   have n3m:=(n9r.upd U1a q4c (by decide)).upd U3b (q5c.upd U1a (Ne.symm ne7b)) (by decide)
   have n4m:=(n0s.upd U1a q4c (by decide)).upd U3b (q5c.upd U1a (Ne.symm ne7b)) (by decide)
   obtain ⟨r6j,h8s,f9s⟩:=Ab f8r
   refine sc (Fg (first:=[]) (cap:=[]) (args:=[.agg #[.bool r8a.m.Neg,.slice A1d (sz r8a.m.Abs) c2d,.int .i64 r8a.e],.agg #[.bool r6a.m.Neg,.slice A3d (sz r6a.m.Abs) c4d,.int .i64 r6a.e]]) en_37 (by rfl) (by rfl)) (c_dyad_Mul_1 r8a r6a A1d c2d A3d c4d w8i (tbx X9l hT) n3m n4m r6j h8s) ?_
   rintro _ w3g E4b rfl
   refine nrm ?_
   have X8g:=xtr X9l E4b
   rcases Bj f9s with ⟨r9g,h7j,f0t⟩ | ⟨r9g,h7j,rfl⟩
   ·refine scO (Ae ED (by rfl)) (AP r6j 2 w3g (tbx X8g hT)  (.ok r9g) h7j) ?_
    rintro _ w6e E2b rfl
    refine nrm ?_
    have X5m:=xtr X8g E2b
    refine Ad<|h0m _ _<|wp_seq_k fun K6m h6m=>Ai<|sV (Ah (o':=0) KA rfl rfl) ?_
    refine sV (Ak Mo rfl (Bx.cell ((q2m.ext E4b).ext E2b) rfl)) ?_
    have q1t:=((q7l.upd U3b ne7b).ext E4b).ext E2b
    refine sV (Al AF rfl q1t rfl) ?_
    refine sV (Al AF rfl ((q8l.ext E4b).ext E2b) rfl) ?_
    obtain ⟨r8j,h2t,f3t⟩:=Ab f0t
    refine sc (Fg (first:=[]) (cap:=[]) (args:=[.agg #[.bool r8a.m.Neg,.slice A1d (sz r8a.m.Abs) c2d,.int .i64 r8a.e],.agg #[.bool r6a.m.Neg,.slice A3d (sz r6a.m.Abs) c4d,.int .i64 r6a.e]]) KZ (by rfl) (by rfl)) (FT r8a r6a A1d c2d A3d c4d w6e (tbx X5m hT) ((n3m.ext E4b).ext E2b) ((n4m.ext E4b).ext E2b) r8j h2t) ?_
    rintro _ w4g E8d ⟨A7m,c8m,rfl,n9m⟩
    refine nrm ?_
    have X0h:=xtr X5m E8d
    rcases Bj f3t with ⟨r1h,h9j,f4t⟩ | ⟨r1h,h9j,rfl⟩
    ·refine scO (Ae GW (by rfl)) (Cf r8j A7m c8m w4g (tbx X0h hT) n9m (.ok r1h) h9j) ?_
     rintro _ w9i E9c ⟨A5t,c6t,rfl,n7t⟩
     refine nrm ?_
     have X8t:=xtr X0h E9c
     have ne0n:=(Bx.neT (((((q3c.ext E9a).ext E3a).ext E0a).ext E4a).ext E5a) q4c (by decide))
     have ne9t:=(Bx.neT ((((((q3c.ext E9a).ext E3a).ext E0a).ext E4a).ext E5a).upd U1a ne0n) (q5c.upd U1a (Ne.symm ne7b)) (by decide))
     have q0k:=((((((((((q3c.ext E9a).ext E3a).ext E0a).ext E4a).ext E5a).upd U1a ne0n).upd U3b ne9t).ext E4b).ext E2b).ext E8d).ext E9c
     refine AB BX rfl rfl q0k rfl rfl rfl rfl (by simp only [SP0,SP1,S0,S1,Nat.reduceAdd];rfl) fun w6q U1k q0u=>?_
     have X1u:=AO X8t U1k g5g
     have ne2k:=(Bx.neT ((((q0c.ext E3a).ext E0a).ext E4a).ext E5a) q4c (by decide))
     have ne1n:=(Bx.neT (((((q0c.ext E3a).ext E0a).ext E4a).ext E5a).upd U1a ne2k) (q5c.upd U1a (Ne.symm ne7b)) (by decide))
     have ne2n:=(Bx.neT ((((((((((q0c.ext E3a).ext E0a).ext E4a).ext E5a).upd U1a ne2k).upd U3b ne1n).ext E4b).ext E2b).ext E8d).ext E9c) q0k (by decide))
     have q3n:=((((((((((q0c.ext E3a).ext E0a).ext E4a).ext E5a).upd U1a ne2k).upd U3b ne1n).ext E4b).ext E2b).ext E8d).ext E9c).upd U1k ne2n
     refine AB GN rfl rfl q3n rfl rfl rfl rfl (by simp only [SP0,SP1,S0,S1,Nat.reduceAdd];rfl) fun w0j U3k q2u=>?_
     have X3u:=AO X1u U3k g6g
     refine Ad<|h6m _ _<|wp_ret ?_
     have n4u:=(n7t.upd U1k q0k (by decide)).upd U3k q3n (by decide)
     obtain rfl:=sj f4t
     obtain rfl:=sj hr0
     exact Jj Dp Ge rfl (Res.cellN rfl AG (q0u.upd U3k (Ne.symm ne2n)) rfl rfl (Res.cell1 rfl CV (Bx.cell q2u rfl) Res.nil)) (An X3u ⟨A5t,c6t,rfl,n4u⟩)
    ·refine scP (Ae GW (by rfl)) (Cf r8j A7m c8m w4g (tbx X0h hT) n9m (.error r1h) h9j) fun w9i E9c=>?_
     have X5u:=xtr X0h E9c
     have ne4n:=(Bx.neT (((((q3c.ext E9a).ext E3a).ext E0a).ext E4a).ext E5a) q4c (by decide))
     have ne6u:=(Bx.neT ((((((q3c.ext E9a).ext E3a).ext E0a).ext E4a).ext E5a).upd U1a ne4n) (q5c.upd U1a (Ne.symm ne7b)) (by decide))
     have q7u:=((((((((((q3c.ext E9a).ext E3a).ext E0a).ext E4a).ext E5a).upd U1a ne4n).upd U3b ne6u).ext E4b).ext E2b).ext E8d).ext E9c
     have ne5n:=(Bx.neT ((((q0c.ext E3a).ext E0a).ext E4a).ext E5a) q4c (by decide))
     have ne8u:=(Bx.neT (((((q0c.ext E3a).ext E0a).ext E4a).ext E5a).upd U1a ne5n) (q5c.upd U1a (Ne.symm ne7b)) (by decide))
     have q9u:=(((((((((q0c.ext E3a).ext E0a).ext E4a).ext E5a).upd U1a ne5n).upd U3b ne8u).ext E4b).ext E2b).ext E8d).ext E9c
     refine Gj Ge (Bl b7e b8e (.bool false:Value) (.slice none 0 0:Value) (.int .i64 0:Value) (.int .i64 0:Value) r1h q7u q9u) rfl ?_
     rintro w9 ⟨u9,q9,q9'⟩
     obtain rfl:=sj hr0
     exact ⟨_,(Res.cellN rfl AG q9 rfl rfl (Res.cell1 rfl CV (Bx.cell q9' rfl) Res.nil)),An (u9.toExt X5u g5g g6g) ⟨none,0,rfl,RU.nil _⟩⟩
   ·refine scP (Ae ED (by rfl)) (AP r6j 2 w3g (tbx X8g hT)  (.error r9g) h7j) fun w6e E2b=>?_
    have X0v:=xtr X8g E2b
    have ne6n:=(Bx.neT (((((q3c.ext E9a).ext E3a).ext E0a).ext E4a).ext E5a) q4c (by decide))
    have ne1v:=(Bx.neT ((((((q3c.ext E9a).ext E3a).ext E0a).ext E4a).ext E5a).upd U1a ne6n) (q5c.upd U1a (Ne.symm ne7b)) (by decide))
    have q2v:=((((((((q3c.ext E9a).ext E3a).ext E0a).ext E4a).ext E5a).upd U1a ne6n).upd U3b ne1v).ext E4b).ext E2b
    have ne7n:=(Bx.neT ((((q0c.ext E3a).ext E0a).ext E4a).ext E5a) q4c (by decide))
    have ne3v:=(Bx.neT (((((q0c.ext E3a).ext E0a).ext E4a).ext E5a).upd U1a ne7n) (q5c.upd U1a (Ne.symm ne7b)) (by decide))
    have q4v:=(((((((q0c.ext E3a).ext E0a).ext E4a).ext E5a).upd U1a ne7n).upd U3b ne3v).ext E4b).ext E2b
    refine Gj Ge (Bl b7e b8e (.bool false:Value) (.slice none 0 0:Value) (.int .i64 0:Value) (.int .i64 0:Value) r9g q2v q4v) rfl ?_
    rintro w9 ⟨u9,q9,q9'⟩
    obtain rfl:=sj hr0
    exact ⟨_,(Res.cellN rfl AG q9 rfl rfl (Res.cell1 rfl CV (Bx.cell q9' rfl) Res.nil)),An (u9.toExt X0v g5g g6g) ⟨none,0,rfl,RU.nil _⟩⟩
  ·intro HJ87
   refine HQ 1 4 5 (by kernel_rfl) ?_ ?_ ?_
   ·refine opC 1 rfl (by rfl) (Ae Dj (by simp only [sz,hx7d];rfl)) (AJ (⟨(⟨x0.Man.Neg,m6d⟩:Ag),x0.Exp⟩:Af) A1 c2 _ (tbx (Ext.refl _) (tbx X7a hT)) (n9e.ext (Ext.refl _)) r8a h0f) ?_
    rintro _ _ E2a ⟨A9d,c0e,rfl,n1e⟩
    refine dnrm ?_
    refine HQ 3 4 5 (by kernel_rfl) ?_ ?_ ?_
    ·refine opC 3 rfl (by rfl) (Ae Dj (by simp only [sz,hx6b];rfl)) (AJ (⟨(⟨x1.Man.Neg,m5b⟩:Ag),x1.Exp⟩:Af) A4 c5 _ (tbx E2a (tbx X7a hT)) (n1c.ext E2a) r6a h2c) ?_
     rintro _ _ E0d ⟨A8n,c9n,rfl,n0o⟩
     refine dnrm ?_
     refine Dn 4 5 (by kernel_rfl) ?_ ?_
     ·refine opA 4 rfl (by rfl) (Au AI) fun b5v _ E2h g6v q1o=>dnrm ?_
      refine AQ 5 (by kernel_rfl) ?_
      ·refine opA 5 rfl (by rfl) (Au AI) fun b7v _ E3h g2o q8v=>dnrm ?_
       exact Cl (by kernel_rfl) (HJ87 _ _ ⟨A9d,c0e,A8n,c9n,b5v,b7v,(((E2a.trans E0d).trans E2h).trans E3h),(((n1e.ext E0d).ext E2h).ext E3h),((n0o.ext E2h).ext E3h),(nlt (E2a.trans E0d).size g6v),(q1o.ext E3h),(nlt ((E2a.trans E0d).trans E2h).size g2o),q8v,(Bx.ne q1o g2o),rfl⟩)
     ·refine opA 5 rfl (by rfl) (Au AI) fun b9v _ E4h g0w q3o=>dnrm ?_
      refine AQ 4 (by kernel_rfl) ?_
      ·refine opA 4 rfl (by rfl) (Au AI) fun b1w _ E5h g4o q2w=>dnrm ?_
       exact Cl (by kernel_rfl) (HJ87 _ _ ⟨A9d,c0e,A8n,c9n,b1w,b9v,(((E2a.trans E0d).trans E4h).trans E5h),(((n1e.ext E0d).ext E4h).ext E5h),((n0o.ext E4h).ext E5h),(nlt ((E2a.trans E0d).trans E4h).size g4o),q2w,(nlt (E2a.trans E0d).size g0w),(q3o.ext E5h),(Ne.symm (Bx.ne q3o g4o)),rfl⟩)
    ·refine opA 4 rfl (by rfl) (Au AI) fun b5o _ E6c g6o q6h=>dnrm ?_
     refine Dn 3 5 (by kernel_rfl) ?_ ?_
     ·refine opC 3 rfl (by rfl) (Ae Dj (by simp only [sz,hx6b];rfl)) (AJ (⟨(⟨x1.Man.Neg,m5b⟩:Ag),x1.Exp⟩:Af) A4 c5 _ (tbx (E2a.trans E6c) (tbx X7a hT)) (n1c.ext (E2a.trans E6c)) r6a h2c) ?_
      rintro _ _ E3f ⟨A3w,c4w,rfl,n5w⟩
      refine dnrm ?_
      refine AQ 5 (by kernel_rfl) ?_
      ·refine opA 5 rfl (by rfl) (Au AI) fun b6w _ E7h g7o q7w=>dnrm ?_
       exact Cl (by kernel_rfl) (HJ87 _ _ ⟨A9d,c0e,A3w,c4w,b5o,b6w,(((E2a.trans E6c).trans E3f).trans E7h),(((n1e.ext E6c).ext E3f).ext E7h),(n5w.ext E7h),(nlt E2a.size g6o),((q6h.ext E3f).ext E7h),(nlt ((E2a.trans E6c).trans E3f).size g7o),q7w,(Bx.ne (q6h.ext E3f) g7o),rfl⟩)
     ·refine opA 5 rfl (by rfl) (Au AI) fun b8w _ E4f g8o q9w=>dnrm ?_
      refine AQ 3 (by kernel_rfl) ?_
      ·refine opC 3 rfl (by rfl) (Ae Dj (by simp only [sz,hx6b];rfl)) (AJ (⟨(⟨x1.Man.Neg,m5b⟩:Ag),x1.Exp⟩:Af) A4 c5 _ (tbx ((E2a.trans E6c).trans E4f) (tbx X7a hT)) (n1c.ext ((E2a.trans E6c).trans E4f)) r6a h2c) ?_
       rintro _ _ E8h ⟨A0x,c1x,rfl,n2x⟩
       refine dnrm ?_
       exact Cl (by kernel_rfl) (HJ87 _ _ ⟨A9d,c0e,A0x,c1x,b5o,b8w,(((E2a.trans E6c).trans E4f).trans E8h),(((n1e.ext E6c).ext E4f).ext E8h),n2x,(nlt E2a.size g6o),((q6h.ext E4f).ext E8h),(nlt (E2a.trans E6c).size g8o),(q9w.ext E8h),(Bx.ne q6h g8o),rfl⟩)
    ·refine opA 5 rfl (by rfl) (Au AI) fun b9o _ E7c g0p q9h=>dnrm ?_
     refine Dn 3 4 (by kernel_rfl) ?_ ?_
     ·refine opC 3 rfl (by rfl) (Ae Dj (by simp only [sz,hx6b];rfl)) (AJ (⟨(⟨x1.Man.Neg,m5b⟩:Ag),x1.Exp⟩:Af) A4 c5 _ (tbx (E2a.trans E7c) (tbx X7a hT)) (n1c.ext (E2a.trans E7c)) r6a h2c) ?_
      rintro _ _ E5f ⟨A3x,c4x,rfl,n5x⟩
      refine dnrm ?_
      refine AQ 4 (by kernel_rfl) ?_
      ·refine opA 4 rfl (by rfl) (Au AI) fun b6x _ E0i g1p q7x=>dnrm ?_
       exact Cl (by kernel_rfl) (HJ87 _ _ ⟨A9d,c0e,A3x,c4x,b6x,b9o,(((E2a.trans E7c).trans E5f).trans E0i),(((n1e.ext E7c).ext E5f).ext E0i),(n5x.ext E0i),(nlt ((E2a.trans E7c).trans E5f).size g1p),q7x,(nlt E2a.size g0p),((q9h.ext E5f).ext E0i),(Ne.symm (Bx.ne (q9h.ext E5f) g1p)),rfl⟩)
     ·refine opA 4 rfl (by rfl) (Au AI) fun b8x _ E6f g2p q9x=>dnrm ?_
      refine AQ 3 (by kernel_rfl) ?_
      ·refine opC 3 rfl (by rfl) (Ae Dj (by simp only [sz,hx6b];rfl)) (AJ (⟨(⟨x1.Man.Neg,m5b⟩:Ag),x1.Exp⟩:Af) A4 c5 _ (tbx ((E2a.trans E7c).trans E6f) (tbx X7a hT)) (n1c.ext ((E2a.trans E7c).trans E6f)) r6a h2c) ?_
       rintro _ _ E1i ⟨A0y,c1y,rfl,n2y⟩
       refine dnrm ?_
       exact Cl (by kernel_rfl) (HJ87 _ _ ⟨A9d,c0e,A0y,c1y,b8x,b9o,(((E2a.trans E7c).trans E6f).trans E1i),(((n1e.ext E7c).ext E6f).ext E1i),n2y,(nlt (E2a.trans E7c).size g2p),(q9x.ext E1i),(nlt E2a.size g0p),((q9h.ext E6f).ext E1i),(Ne.symm (Bx.ne q9h g2p)),rfl⟩)
   ·refine opA 4 rfl (by rfl) (Au AI) fun b4k _ E0b g5k q2e=>dnrm ?_
    refine Dn 1 5 (by kernel_rfl) ?_ ?_
    ·refine opC 1 rfl (by rfl) (Ae Dj (by simp only [sz,hx7d];rfl)) (AJ (⟨(⟨x0.Man.Neg,m6d⟩:Ag),x0.Exp⟩:Af) A1 c2 _ (tbx E0b (tbx X7a hT)) (n9e.ext E0b) r8a h0f) ?_
     rintro _ _ E8b ⟨A3p,c4p,rfl,n5p⟩
     refine dnrm ?_
     refine Dn 3 5 (by kernel_rfl) ?_ ?_
     ·refine opC 3 rfl (by rfl) (Ae Dj (by simp only [sz,hx6b];rfl)) (AJ (⟨(⟨x1.Man.Neg,m5b⟩:Ag),x1.Exp⟩:Af) A4 c5 _ (tbx (E0b.trans E8b) (tbx X7a hT)) (n1c.ext (E0b.trans E8b)) r6a h2c) ?_
      rintro _ _ E7f ⟨A3y,c4y,rfl,n5y⟩
      refine dnrm ?_
      refine AQ 5 (by kernel_rfl) ?_
      ·refine opA 5 rfl (by rfl) (Au AI) fun b6y _ E2i g6p q7y=>dnrm ?_
       exact Cl (by kernel_rfl) (HJ87 _ _ ⟨A3p,c4p,A3y,c4y,b4k,b6y,(((E0b.trans E8b).trans E7f).trans E2i),((n5p.ext E7f).ext E2i),(n5y.ext E2i),g5k,(((q2e.ext E8b).ext E7f).ext E2i),(nlt ((E0b.trans E8b).trans E7f).size g6p),q7y,(Bx.ne ((q2e.ext E8b).ext E7f) g6p),rfl⟩)
     ·refine opA 5 rfl (by rfl) (Au AI) fun b8y _ E8f g7p q9y=>dnrm ?_
      refine AQ 3 (by kernel_rfl) ?_
      ·refine opC 3 rfl (by rfl) (Ae Dj (by simp only [sz,hx6b];rfl)) (AJ (⟨(⟨x1.Man.Neg,m5b⟩:Ag),x1.Exp⟩:Af) A4 c5 _ (tbx ((E0b.trans E8b).trans E8f) (tbx X7a hT)) (n1c.ext ((E0b.trans E8b).trans E8f)) r6a h2c) ?_
       rintro _ _ E3i ⟨A0z,c1z,rfl,n2z⟩
       refine dnrm ?_
       exact Cl (by kernel_rfl) (HJ87 _ _ ⟨A3p,c4p,A0z,c1z,b4k,b8y,(((E0b.trans E8b).trans E8f).trans E3i),((n5p.ext E8f).ext E3i),n2z,g5k,(((q2e.ext E8b).ext E8f).ext E3i),(nlt (E0b.trans E8b).size g7p),(q9y.ext E3i),(Bx.ne (q2e.ext E8b) g7p),rfl⟩)
    ·refine opA 5 rfl (by rfl) (Au AI) fun b3z _ E3e g8p q4z=>dnrm ?_
     refine AQ 1 (by kernel_rfl) ?_
     ·refine opC 1 rfl (by rfl) (Ae Dj (by simp only [sz,hx7d];rfl)) (AJ (⟨(⟨x0.Man.Neg,m6d⟩:Ag),x0.Exp⟩:Af) A1 c2 _ (tbx (E0b.trans E3e) (tbx X7a hT)) (n9e.ext (E0b.trans E3e)) r8a h0f) ?_
      rintro _ _ E9f ⟨A5z,c6z,rfl,n7z⟩
      refine dnrm ?_
      refine AQ 3 (by kernel_rfl) ?_
      ·refine opC 3 rfl (by rfl) (Ae Dj (by simp only [sz,hx6b];rfl)) (AJ (⟨(⟨x1.Man.Neg,m5b⟩:Ag),x1.Exp⟩:Af) A4 c5 _ (tbx ((E0b.trans E3e).trans E9f) (tbx X7a hT)) (n1c.ext ((E0b.trans E3e).trans E9f)) r6a h2c) ?_
       rintro _ _ E4i ⟨A8z,c9z,rfl,n0a0⟩
       refine dnrm ?_
       exact Cl (by kernel_rfl) (HJ87 _ _ ⟨A5z,c6z,A8z,c9z,b4k,b3z,(((E0b.trans E3e).trans E9f).trans E4i),(n7z.ext E4i),n0a0,g5k,(((q2e.ext E3e).ext E9f).ext E4i),(nlt E0b.size g8p),((q4z.ext E9f).ext E4i),(Bx.ne q2e g8p),rfl⟩)
   ·refine opA 5 rfl (by rfl) (Au AI) fun b6k _ E1b g7k q4e=>dnrm ?_
    refine Dn 1 4 (by kernel_rfl) ?_ ?_
    ·refine opC 1 rfl (by rfl) (Ae Dj (by simp only [sz,hx7d];rfl)) (AJ (⟨(⟨x0.Man.Neg,m6d⟩:Ag),x0.Exp⟩:Af) A1 c2 _ (tbx E1b (tbx X7a hT)) (n9e.ext E1b) r8a h0f) ?_
     rintro _ _ E9b ⟨A9p,c0q,rfl,n1q⟩
     refine dnrm ?_
     refine Dn 3 4 (by kernel_rfl) ?_ ?_
     ·refine opC 3 rfl (by rfl) (Ae Dj (by simp only [sz,hx6b];rfl)) (AJ (⟨(⟨x1.Man.Neg,m5b⟩:Ag),x1.Exp⟩:Af) A4 c5 _ (tbx (E1b.trans E9b) (tbx X7a hT)) (n1c.ext (E1b.trans E9b)) r6a h2c) ?_
      rintro _ _ E0g ⟨A1a0,c2a0,rfl,n3a0⟩
      refine dnrm ?_
      refine AQ 4 (by kernel_rfl) ?_
      ·refine opA 4 rfl (by rfl) (Au AI) fun b4a0 _ E5i g2q q5a0=>dnrm ?_
       exact Cl (by kernel_rfl) (HJ87 _ _ ⟨A9p,c0q,A1a0,c2a0,b4a0,b6k,(((E1b.trans E9b).trans E0g).trans E5i),((n1q.ext E0g).ext E5i),(n3a0.ext E5i),(nlt ((E1b.trans E9b).trans E0g).size g2q),q5a0,g7k,(((q4e.ext E9b).ext E0g).ext E5i),(Ne.symm (Bx.ne ((q4e.ext E9b).ext E0g) g2q)),rfl⟩)
     ·refine opA 4 rfl (by rfl) (Au AI) fun b6a0 _ E1g g3q q7a0=>dnrm ?_
      refine AQ 3 (by kernel_rfl) ?_
      ·refine opC 3 rfl (by rfl) (Ae Dj (by simp only [sz,hx6b];rfl)) (AJ (⟨(⟨x1.Man.Neg,m5b⟩:Ag),x1.Exp⟩:Af) A4 c5 _ (tbx ((E1b.trans E9b).trans E1g) (tbx X7a hT)) (n1c.ext ((E1b.trans E9b).trans E1g)) r6a h2c) ?_
       rintro _ _ E6i ⟨A8a0,c9a0,rfl,n0a1⟩
       refine dnrm ?_
       exact Cl (by kernel_rfl) (HJ87 _ _ ⟨A9p,c0q,A8a0,c9a0,b6a0,b6k,(((E1b.trans E9b).trans E1g).trans E6i),((n1q.ext E1g).ext E6i),n0a1,(nlt (E1b.trans E9b).size g3q),(q7a0.ext E6i),g7k,(((q4e.ext E9b).ext E1g).ext E6i),(Ne.symm (Bx.ne (q4e.ext E9b) g3q)),rfl⟩)
    ·refine opA 4 rfl (by rfl) (Au AI) fun b1a1 _ E5e g4q q2a1=>dnrm ?_
     refine AQ 1 (by kernel_rfl) ?_
     ·refine opC 1 rfl (by rfl) (Ae Dj (by simp only [sz,hx7d];rfl)) (AJ (⟨(⟨x0.Man.Neg,m6d⟩:Ag),x0.Exp⟩:Af) A1 c2 _ (tbx (E1b.trans E5e) (tbx X7a hT)) (n9e.ext (E1b.trans E5e)) r8a h0f) ?_
      rintro _ _ E2g ⟨A3a1,c4a1,rfl,n5a1⟩
      refine dnrm ?_
      refine AQ 3 (by kernel_rfl) ?_
      ·refine opC 3 rfl (by rfl) (Ae Dj (by simp only [sz,hx6b];rfl)) (AJ (⟨(⟨x1.Man.Neg,m5b⟩:Ag),x1.Exp⟩:Af) A4 c5 _ (tbx ((E1b.trans E5e).trans E2g) (tbx X7a hT)) (n1c.ext ((E1b.trans E5e).trans E2g)) r6a h2c) ?_
       rintro _ _ E7i ⟨A6a1,c7a1,rfl,n8a1⟩
       refine dnrm ?_
       exact Cl (by kernel_rfl) (HJ87 _ _ ⟨A3a1,c4a1,A6a1,c7a1,b1a1,b6k,(((E1b.trans E5e).trans E2g).trans E7i),(n5a1.ext E7i),n8a1,(nlt E1b.size g4q),((q2a1.ext E2g).ext E7i),g7k,(((q4e.ext E5e).ext E2g).ext E7i),(Ne.symm (Bx.ne q4e g4q)),rfl⟩)
 ·refine scP (Ae Ik (by rfl)) (Eg x0 x1 b3j A1 c2 A4 c5 w6 (tbx X8c hT) (n3.ext X8c) (n6.ext X8c) q5l (.error r7g) h4j) fun w7 E0a=>?_
  have X9a1:=xtr X8c E0a
  have q0a2:=((q3c.ext E9a).ext E3a).ext E0a
  refine Gj Ge (Bl b7e b8e (.bool false:Value) (.slice none 0 0:Value) (.int .i64 0:Value) (.int .i64 0:Value) r7g q0a2 ((q0c.ext E3a).ext E0a)) rfl ?_
  rintro w9 ⟨u9,q9,q9'⟩
  obtain rfl:=sj hr0
  exact ⟨_,(Res.cellN rfl AG q9 rfl rfl (Res.cell1 rfl CV (Bx.cell q9' rfl) Res.nil)),An (u9.toExt X9a1 g5g g6g) ⟨none,0,rfl,RU.nil _⟩⟩
theorem c_dyad_Mul (x0:Ao) (x1:Ao) (A1:Option Addr) (c2:Nat) (A4:Option Addr) (c5:Nat) (w:World) (hT:TB w) (n3:RLu w A1 c2 x0.Man.Abs) (n6:RLu w A4 c5 x1.Man.Abs) (r:Af × Int) (hr:Di x0 x1=some r) :
  Calls Tryd.prog 10 #[.agg #[.bool x0.Man.Neg,.slice A1 x0.Man.Abs.length c2,.int .i64 x0.Exp],.agg #[.bool x1.Man.Neg,.slice A4 x1.Man.Abs.length c5,.int .i64 x1.Exp]] w (Ret Gw w r):=by
 unfold Di at hr
 go_enter Tryd.func10,Tryd.ntmps10
 refine wp_seq_k fun K7 h7=>Ai<|Bp rfl rfl fun b8 w1 E9 g3c q8a=>?_
 refine nrm ?_
 refine Bp rfl rfl fun b4c w2 E3a g9a q0b=>?_
 refine nrm ?_
 have g5c:=nlt E9.size g9a
 have X4a:=xtr E9 E3a
 refine AA Dx fun b6c w3 E1a g1b q5a=>?_
 refine nrm ?_
 have g2b:=nlt X4a.size g1b
 have X0a:=xtr X4a E1a
 refine sV (Ac rfl) ?_
 refine Ad<|h7 _ _<|wp_seq_k fun K6a h6a=>Ai<|sV (Al AG rfl ((q8a.ext E3a).ext E1a) rfl) ?_
 refine sV (Al AG rfl (q0b.ext E1a) rfl) ?_
 refine sV (AU (vals:=[(0,.func (.func 36) #[] #[]),(1,.func (.func 37) #[] #[])]) (cells:=[.func (.func 36) #[] #[],.func (.func 37) #[] #[]]) (by rfl) (by kernel_rfl)) ?_
 obtain ⟨r3b,h4b,f5b⟩:=Ab hr
 refine sc (Ae Mm (by rfl)) (c_dyad_exact__dyad_num_times__dyad_Mul_1 x0 x1 A1 c2 A4 c5 w3 (tbx X0a hT) (n3.ext X0a) (n6.ext X0a) r3b h4b) ?_
 rintro _ w4 E2a ⟨A6b,c7b,rfl,n8b⟩
 refine nrm ?_
 have X9b:=xtr X0a E2a
 refine sV (Ax rfl rfl) ?_
 refine sV (Ax rfl rfl) ?_
 refine AB BX rfl rfl (q5a.ext E2a) rfl rfl rfl rfl (by simp only [SP0,SP1,S0,S1,Nat.reduceAdd];rfl) fun w5 U7a q0c=>?_
 have X1c:=AO X9b U7a g2b
 refine sV (Ac rfl) ?_
 refine Ad<|h6a _ _<|wp_ret ?_
 have n2c:=n8b.upd U7a (q5a.ext E2a) (by decide)
 obtain rfl:=sj f5b
 exact fin rfl (Res.cellN rfl AG q0c rfl rfl (Res.tmp rfl Res.nil)) (An X1c ⟨A6b,c7b,rfl,n2c⟩)
theorem EJ (x0:Af) (x1:Af) (A1:Option Addr) (c2:Nat) (A4:Option Addr) (c5:Nat) (w:World) (hT:TB w) (n3:RU w A1 c2 x0.Man.Abs) (n6:RU w A4 c5 x1.Man.Abs) (r:Af) (hr:Cv x0 x1=some r) :
  Calls Tryd.prog 11 #[.agg #[.bool x0.Man.Neg,.slice A1 (sz x0.Man.Abs) c2,.int .i64 x0.Exp],.agg #[.bool x1.Man.Neg,.slice A4 (sz x1.Man.Abs) c5,.int .i64 x1.Exp]] w (Ret JF w r):=by
 unfold Cv at hr
 go_enter Tryd.func11,Tryd.ntmps11
 refine wp_seq_k fun K7 h7=>Ai<|Bp rfl rfl fun b8 w1 E9 g1d q2b=>?_
 refine nrm ?_
 refine Bp rfl rfl fun b2d w2 E4a g3b q4b=>?_
 refine nrm ?_
 have g3d:=nlt E9.size g3b
 have X5a:=xtr E9 E4a
 refine AA Dx fun b4d w3 E2a g5b q6a=>?_
 refine nrm ?_
 have g6b:=nlt X5a.size g5b
 have X0a:=xtr X5a E2a
 refine Ad<|h7 _ _<|wp_seq_k fun K7a h7a=>Ai<|sV (Al AG rfl ((q2b.ext E4a).ext E2a) rfl) ?_
 refine sV (Al AG rfl (q4b.ext E2a) rfl) ?_
 obtain ⟨r7b,h8b,f9b⟩:=Ab hr
 refine sc (Ae en_10 (by rfl)) (c_dyad_Mul (⟨(⟨x0.Man.Neg,(limbs x0.Man.Abs)⟩:AC),x0.Exp⟩:Ao) (⟨(⟨x1.Man.Neg,(limbs x1.Man.Abs)⟩:AC),x1.Exp⟩:Ao) A1 c2 A4 c5 w3 (tbx X0a hT) (n3.ext X0a) (n6.ext X0a) r7b h8b) ?_
 rintro _ w4 E3a ⟨A0c,c1c,rfl,n2c⟩
 refine nrm ?_
 have X8a:=xtr X0a E3a
 refine sV (Aa rfl) ?_
 refine sV (Ax rfl rfl) ?_
 refine sV (Ax rfl rfl) ?_
 refine AA Dx fun b5d w5 E3c g9a q4c=>?_
 refine nrm ?_
 have g6d:=nlt X8a.size g9a
 refine AB BX rfl rfl q4c rfl rfl rfl rfl (by simp only [SP0,SP1,S0,S1,Nat.reduceAdd];rfl) fun w6 U5c q6c=>?_
 have F1a:=AO E3c U5c g9a
 have X7c:=xtr X8a F1a
 refine sV (Ac rfl) ?_
 refine Ad<|h7a _ _<|wp_seq_k fun K0b h0b=>Ai<|sV (Al AG rfl q6c rfl) ?_
 refine AB BX rfl rfl ((q6a.ext E3a).ext F1a) rfl rfl rfl rfl (by simp only [SP0,SP1,S0,S1,Nat.reduceAdd];rfl) fun w7 U1b q8c=>?_
 have X9c:=AO X7c U1b g6b
 refine Ad<|h0b _ _<|wp_ret ?_
 have n0d:=(n2c.ext F1a).upd U1b ((q6a.ext E3a).ext F1a) (by decide)
 obtain rfl:=sj f9b
 exact fin rfl (Res.cellN rfl AG q8c rfl rfl Res.nil) (An X9c ⟨A0c,c1c,rfl,n0d⟩)
theorem k_dyad_caught_int (b b':Nat) (v0:Value) (u:Value) (n:Int) {w:World} (qa:Bx w b 3 [v0]) (qb:Bx w b' 31 [u]) :
  CallsD Tryd.prog 99 #[.pointer (some ⟨b,0,none⟩),.pointer (some ⟨b',0,none⟩)] (.panicking [entry 107 n]) w fun e u' w'=>e = .returned (.tuple #[])∧u' = .panicking [{ entry 107 n with recovered:=true }]∧(Upd2 b b' w w'∧Bx w' b 3 [.int .i64 0]∧Bx w' b' 31 [.int .i64 n]):=by
 refine Ij Tryd.func99 rfl [.pointer (some ⟨b,0,none⟩),.pointer (some ⟨b',0,none⟩),uu,uu,uu,uu,uu,uu,uu,uu,uu,uu,uu,uu,uu,uu,uu,uu,uu,uu,uu,uu,uu,uu,uu,uu] (by simp [Tryd.ntmps99]) fun c₀ cs hu=>?_
 apply wpS_seq
 refine Mw hu rfl ?_
 simp only [S0,S1]
 refine wpS_of_wp<|wp_seq_k fun K1 h1=>Ai<|sV (Aa rfl) ?_
 refine sV (IU Jy rfl) ?_
 refine Ad<|h1 _ _<|wp_cond_true (Am (evb rfl rfl))<|wp_seq_k fun K2 h2=>Ai<|sV (Aa rfl) ?_
 refine sV (Ie JJ rfl) ?_
 refine sV (Aa rfl) ?_
 refine sV (Ax rfl rfl) ?_
 refine sV (Ax rfl rfl) ?_
 refine AA Kn fun b3 w1 E4 g5 q6=>?_
 refine nrm ?_
 have X7:=(Upd2.refl b b' w).ext E4
 refine AB Ke rfl rfl q6 rfl rfl rfl rfl (by simp only [SP0,SP1,S0,S1,Nat.reduceAdd];rfl) fun w2 U8 q9=>?_
 have X0b:=X7.upd U8 (.inl g5)
 refine sV (Ac rfl) ?_
 refine Ad<|h2 _ _<|wp_seq_k fun K2a h2a=>wp_seq_k fun K3a h3a=>Ai<|sV (Aa rfl) ?_
 refine sV (Km rfl rfl rfl) ?_
 refine Ad<|h3a _ _<|wp_cond_false (Am (evb rfl rfl))<|wp_skip<|h2a _ _<|wp_seq_k fun K4a h4a=>Ai<|sV (Ac rfl) ?_
 refine Ad<|h4a _ _<|Dz [6,8] 9 mo rfl fun w3 E0a S2c=>have X1b:=X0b.ext E0a;dA 0 rfl (fun _=>Aa rfl) ?_
 refine dA 1 rfl (fun _=>Aa rfl) ?_
 refine dA 2 rfl (fun _=>Aa rfl) ?_
 refine dA 3 rfl (fun _=>Ah (o':=0) IJ rfl rfl) ?_
 refine dA 5 rfl (fun _=>Bq rfl) ?_
 refine GS #[true,true,true,true,true,true,true,false,false] 2 (fun l l' w'=>UpdS [b] w3 w'∧Bx w' b 3 [.int .i64 0]∧l'=(l.set 23 (.int .i64 n))) ?_ ?_
 ·intro HJ31
  refine Dn 4 6 (by kernel_rfl) ?_ ?_
  ·refine opV 4 rfl (by rfl) (Ak CV rfl (Bx.cell (q9.ext E0a) rfl)) (dnrm ?_)
   refine AQ 6 (by kernel_rfl) ?_
   ·have F2b:=AO E4 U8 g5
    refine opK 6 rfl (by decide) (by rfl) Mu rfl rfl ((qa.ext F2b).ext E0a) rfl rfl rfl rfl (by simp only [SP0,SP1,S0,S1,Nat.reduceAdd];rfl) fun w4 U3b q4b=>?_
    exact Cl (by kernel_rfl) (HJ31 _ _ ⟨((UpdS.refl _ _).upd U3b (.inl im0)),q4b,(by simp only [S0,S1]<;>rfl)⟩)
  ·have F5a:=AO E4 U8 g5
   refine opK 6 rfl (by decide) (by rfl) Mu rfl rfl ((qa.ext F5a).ext E0a) rfl rfl rfl rfl (by simp only [SP0,SP1,S0,S1,Nat.reduceAdd];rfl) fun w4 U6a q5b=>?_
   refine AQ 4 (by kernel_rfl) ?_
   ·have ne6b:=(Bx.neT (q9.ext E0a) ((qa.ext F5a).ext E0a) (by decide))
    refine opV 4 rfl (by rfl) (Ak CV rfl (Bx.cell ((q9.ext E0a).upd U6a ne6b) rfl)) (dnrm ?_)
    exact Cl (by kernel_rfl) (HJ31 _ _ ⟨((UpdS.refl _ _).upd U6a (.inl im0)),q5b,(by simp only [S0,S1]<;>rfl)⟩)
 ·rintro l' w4 ⟨U7a,q7b,hq'⟩ l'' hl
  rw [hq'] at hl
  clear hq'
  simp only [S0,S1] at hl
  subst hl
  have X8b:=X1b.updS U7a (alc (.inr (.inl rfl)) al0)
  refine dA 7 rfl (fun _=>Bq rfl) ?_
  have F1a:=AO E4 U8 g5
  have ne8a:=(Bx.neT ((qb.ext F1a).ext E0a) ((qa.ext F1a).ext E0a) (by decide))
  have q9b:=((qb.ext F1a).ext E0a).updS U7a (nmc ne8a nm0)
  refine dk 8 rfl (by kernel_rfl) (by decide) (by rfl) GN rfl rfl q9b rfl rfl rfl rfl (by simp only [SP0,SP1,S0,S1,Nat.reduceAdd];rfl) fun w5 U9a q0c=>?_
  have X1c:=X8b.upd U9a (.inr (.inr rfl))
  refine CB (by kernel_rfl) ?_
  exact Mt (by kernel_rfl) ⟨rfl,rfl,X1c,(q7b.upd U9a (Ne.symm ne8a)),q0c⟩
theorem idle_dyad_caught_int:LC Tryd.prog 99:=by
 intro ar b b' w ha
 subst ha
 refine Ij Tryd.func99 rfl [.pointer (some ⟨b,0,none⟩),.pointer (some ⟨b',0,none⟩),uu,uu,uu,uu,uu,uu,uu,uu,uu,uu,uu,uu,uu,uu,uu,uu,uu,uu,uu,uu,uu,uu,uu,uu] (by simp [Tryd.ntmps99]) fun c₀ cs hu=>?_
 apply wpS_seq
 refine Mv hu rfl ?_
 simp only [S0,S1]
 refine wpS_of_wp<|wp_seq_k fun K1 h1=>Ai<|sV (Aa rfl) ?_
 refine sV (Ii Jy rfl) ?_
 refine Ad<|h1 _ _<|wp_cond_false (Am (evb rfl rfl))<|wp_skip ?_
 exact Ms hu (by kernel_rfl) ⟨rfl,rfl,rfl⟩
theorem c_dyad_Cmp (x0:Ao) (x1:Ao) (A1:Option Addr) (c2:Nat) (A4:Option Addr) (c5:Nat) (w:World) (hT:TB w) (n3:RLu w A1 c2 x0.Man.Abs) (n6:RLu w A4 c5 x1.Man.Abs) (r:Int × Int) (hr:FR x0 x1=some r) :
  Calls Tryd.prog 65 #[.agg #[.bool x0.Man.Neg,.slice A1 x0.Man.Abs.length c2,.int .i64 x0.Exp],.agg #[.bool x1.Man.Neg,.slice A4 x1.Man.Abs.length c5,.int .i64 x1.Exp]] w (Ret rep_3_31 w r):=by
 unfold FR at hr
 obtain ⟨q0,hq0,hr0⟩:=Ab hr
 unfold Hs at hq0
 go_enter_defers Tryd.func65,Tryd.ntmps65
 refine wp_seq_k fun K7 h7=>Ai<|Bp rfl rfl fun b8 w1 E9 g3e q5b=>?_
 refine nrm ?_
 refine Bp rfl rfl fun b4e w2 E6b g5e q7b=>?_
 refine nrm ?_
 have g0i:=nlt E9.size g5e
 have X8b:=xtr E9 E6b
 refine AA zt_3 fun b9b w3 E8a g6e q0c=>?_
 refine nrm ?_
 have g1c:=nlt X8b.size g6e
 have X2c:=xtr X8b E8a
 refine AA HS fun b3c w4 E3a g7e q0b=>?_
 refine nrm ?_
 have g4c:=nlt X2c.size g7e
 have X5c:=xtr X2c E3a
 refine Ad<|h7 _ _<|wp_seq_k fun K6c h6c=>Ai<|GQ (vs:=[.pointer (some ⟨b9b,0,none⟩),.pointer (some ⟨b3c,0,none⟩)]) (by rfl) (by rfl)<|Ad<|h6c _ _<|wp_seq_k fun K7c h7c=>Ai<|have q8c:=((q5b.ext E6b).ext E8a).ext E3a;sV (Al AG rfl q8c rfl) ?_
 refine sV (Al AG rfl ((q7b.ext E8a).ext E3a) rfl) ?_
 refine DP (vals:=[(0,.agg #[.bool x0.Man.Neg,.slice A1 x0.Man.Abs.length c2,.int .i64 x0.Exp]),(1,.agg #[.bool x1.Man.Neg,.slice A4 x1.Man.Abs.length c5,.int .i64 x1.Exp])]) (cs:=[.bool x0.Man.Neg,.slice A1 x0.Man.Abs.length c2,.int .i64 x0.Exp,.bool x1.Man.Neg,.slice A4 x1.Man.Abs.length c5,.int .i64 x1.Exp]) EV BX Dx (by rfl) (by decide) (by kernel_rfl) fun b9c w5 E1a g8e q0d=>?_
 refine nrm ?_
 have g1i:=nlt X5c.size g8e
 have X2a:=xtr X5c E1a
 rcases Bj hq0 with ⟨r9a,h1b,f9e⟩ | ⟨r9a,h1b,rfl⟩
 ·refine scO (Ae Ik (by rfl)) (Eg x0 x1 b9c A1 c2 A4 c5 w5 (tbx X2a hT) (n3.ext X2a) (n6.ext X2a) q0d (.ok r9a) h1b) ?_
  rintro _ w6 E0a rfl
  refine nrm ?_
  have X0f:=xtr X2a E0a
  refine Ad<|h7c _ _<|wp_seq_k fun K1d h1d=>Dz [5,6] 7 mo rfl fun w7 E4a S2b=>?_
  have X3b:=xtr X0f E4a
  refine dV 0 rfl (fun _ hw=>Al AG rfl ((((q8c.ext E1a).ext E0a).ext E4a).ext hw) rfl) S2b ?_ (hQ:=fun _ _ _ h=>dq (rs:=[.cell 4 3,.cell 5 31]) rfl (by decide) h)
  refine dV 2 rfl (fun _ hw=>Al AG rfl ((((((q7b.ext E8a).ext E3a).ext E1a).ext E0a).ext E4a).ext hw) rfl) S2b ?_ (hQ:=fun _ _ _ h=>dq (rs:=[.cell 4 3,.cell 5 31]) rfl (by decide) h)
  obtain ⟨m2d,h1f,f2f⟩:=Ab f9e
  have hx3d:=BH h1f
  have n3f:RU w7 A1 c2 m2d:=by unfold RU;rw [hx3d];exact (n3.ext X3b)
  obtain ⟨r4d,h4f,f5f⟩:=Ab f2f
  refine dc 1 rfl (by kernel_rfl) (by rfl) (Ae Dj (by simp only [sz,hx3d];rfl)) (AJ (⟨(⟨x0.Man.Neg,m2d⟩:Ag),x0.Exp⟩:Af) A1 c2 w7 (tbx X3b hT) n3f r4d h4f) ?_
  rintro _ w8 E6a ⟨A6f,c7f,rfl,n8f⟩
  refine dnrm ?_
  have X4b:=xtr X3b E6a
  have S9f:=S2b.trans E6a
  obtain ⟨m5d,h0g,f1g⟩:=Ab f5f
  have hx6d:=BH h0g
  have n2g:RU w8 A4 c5 m5d:=by unfold RU;rw [hx6d];exact (n6.ext X4b)
  obtain ⟨r7d,h3g,f4g⟩:=Ab f1g
  refine dc 3 rfl (by kernel_rfl) (by rfl) (Ae Dj (by simp only [sz,hx6d];rfl)) (AJ (⟨(⟨x1.Man.Neg,m5d⟩:Ag),x1.Exp⟩:Af) A4 c5 w8 (tbx X4b hT) n2g r7d h3g) ?_
  rintro _ w9 E5a ⟨A5g,c6g,rfl,n7g⟩
  refine dnrm ?_
  have X8d:=xtr X4b E5a
  have S8g:=S9f.trans E5a
  obtain ⟨r9g,h0h,f1h⟩:=Ab f4g
  refine dc 4 rfl (by kernel_rfl) (by rfl) (Ae HH (by rfl)) (CM r4d r7d A6f c7f A5g c6g w9 (tbx X8d hT) (n8f.ext E5a) n7g r9g h0h) ?_
  rintro _ w3e E7a rfl
  refine dnrm ?_
  have X2h:=xtr X8d E7a
  have S2i:=S8g.trans E7a
  have q9d:=((((((q0c.ext E3a).ext E1a).ext E0a).ext E4a).ext E6a).ext E5a).ext E7a
  refine dk 5 rfl (by kernel_rfl) (by decide) (by rfl) Mu rfl rfl q9d rfl rfl rfl rfl (by simp only [SP0,SP1,S0,S1,Nat.reduceAdd];rfl) fun w5b U0e q3h=>?_
  have X4h:=AO X2h U0e g1c
  have ne1e:=(Bx.neT ((((((q0b.ext E1a).ext E0a).ext E4a).ext E6a).ext E5a).ext E7a) q9d (by decide))
  have q5h:=((((((q0b.ext E1a).ext E0a).ext E4a).ext E6a).ext E5a).ext E7a).upd U0e ne1e
  refine dk 6 rfl (by kernel_rfl) (by decide) (by rfl) GN rfl rfl q5h rfl rfl rfl rfl (by simp only [SP0,SP1,S0,S1,Nat.reduceAdd];rfl) fun w4e U2e q6h=>?_
  have X7h:=AO X4h U2e g4c
  refine CB (by kernel_rfl) ?_
  refine h1d _ _<|wp_ret ?_
  obtain rfl:=sj f1h
  obtain rfl:=sj hr0
  exact Jj idle_dyad_caught_int Mp rfl (Res.cell1 rfl Em (Bx.cell (q3h.upd U2e (Ne.symm ne1e)) rfl) (Res.cell1 rfl CV (Bx.cell q6h rfl) Res.nil)) (An X7h rfl)
 ·refine scP (Ae Ik (by rfl)) (Eg x0 x1 b9c A1 c2 A4 c5 w5 (tbx X2a hT) (n3.ext X2a) (n6.ext X2a) q0d (.error r9a) h1b) fun w6 E0a=>?_
  have X8h:=xtr X2a E0a
  have q9h:=((q0c.ext E3a).ext E1a).ext E0a
  refine Gj Mp (k_dyad_caught_int b9b b3c (.int .i64 0:Value) (.int .i64 0:Value) r9a q9h ((q0b.ext E1a).ext E0a)) rfl ?_
  rintro w9 ⟨u9,q9,q9'⟩
  obtain rfl:=sj hr0
  exact ⟨_,(Res.cell1 rfl Em (Bx.cell q9 rfl) (Res.cell1 rfl CV (Bx.cell q9' rfl) Res.nil)),An (u9.toExt X8h g1c g4c) rfl⟩
theorem En (x0:Af) (x1:Af) (A1:Option Addr) (c2:Nat) (A4:Option Addr) (c5:Nat) (w:World) (hT:TB w) (n3:RU w A1 c2 x0.Man.Abs) (n6:RU w A4 c5 x1.Man.Abs) (r:Bool) (hr:BK x0 x1=some r) :
  Calls Tryd.prog 25 #[.agg #[.bool x0.Man.Neg,.slice A1 (sz x0.Man.Abs) c2,.int .i64 x0.Exp],.agg #[.bool x1.Man.Neg,.slice A4 (sz x1.Man.Abs) c5,.int .i64 x1.Exp]] w (Ret EZ w r):=by
 unfold BK at hr
 go_enter Tryd.func25,Tryd.ntmps25
 refine wp_seq_k fun K7 h7=>Ai<|Bp rfl rfl fun b8 w1 E9 g4c q1b=>?_
 refine nrm ?_
 refine Bp rfl rfl fun b5c w2 E5a g2b q3b=>?_
 refine nrm ?_
 have g6c:=nlt E9.size g2b
 have X1a:=xtr E9 E5a
 refine sV (Ac rfl) ?_
 refine Ad<|h7 _ _<|wp_seq_k fun K6a h6a=>Ai<|sV (Al AG rfl (q1b.ext E5a) rfl) ?_
 refine sV (Al AG rfl q3b rfl) ?_
 obtain ⟨r2a,h4b,f5b⟩:=Ab hr
 refine sc (Ae en_65 (by rfl)) (c_dyad_Cmp (⟨(⟨x0.Man.Neg,(limbs x0.Man.Abs)⟩:AC),x0.Exp⟩:Ao) (⟨(⟨x1.Man.Neg,(limbs x1.Man.Abs)⟩:AC),x1.Exp⟩:Ao) A1 c2 A4 c5 w2 (tbx X1a hT) (n3.ext X1a) (n6.ext X1a) r2a h4b) ?_
 rintro _ w3 E6b rfl
 refine nrm ?_
 have X7b:=xtr X1a E6b
 refine sV (Aa rfl) ?_
 refine sV (Ax rfl rfl) ?_
 refine sV (Ax rfl rfl) ?_
 refine sV (Ac rfl) ?_
 refine sV (Ac rfl) ?_
 refine Ad<|h6a _ _<|wp_seq_k fun K7a h7a=>Ai<|sV (Aa rfl) ?_
 refine sb (CT rfl rfl) fun z3a hz3a=>?_
 refine nrm ?_
 refine sV (Aa rfl) ?_
 obtain ⟨m8b,h8a,f9b⟩:=Ab f5b
 refine BJ 6 (fun l l' w'=>∃(t9a:Value) (t0b:Value),w3=w'∧l'=(((l.set 16 t9a).set 17 t0b).set 18 (.bool m8b))) ?_ ?_
 ·intro HJ38
  rcases bft z3a with e0a | e0a
  ·have p0c:=zP hz3a e0a
   have f1c:=ifP p0c h8a
   refine sV (Aa rfl) ?_ (hw:=wgT rfl e0a)
   refine sb (GZ rfl rfl) ?_ (hw:=wgT rfl e0a)
   intro z4a hz4a
   refine nrm ?_
   refine sV (Az (evb rfl e0a) rfl) ?_
   obtain rfl:z4a=decide (r2a.1≤0):=bz hz4a
   obtain rfl:=sj f1c
   exact HJ38 _ _ ⟨(.int .i64 r2a.1),(.bool (decide (r2a.1≤0))),rfl,(by simp only [S0,S1]<;>rfl)⟩
  ·have p2c:=zN hz3a e0a
   have f3c:=ifN p2c h8a
   refine sP ?_ (hw:=wgF rfl e0a)
   refine sP ?_ (hw:=wgF rfl e0a)
   refine sV (AD (evb rfl e0a) rfl) ?_
   obtain rfl:=sj f3c
   exact HJ38 _ _ ⟨uu,uu,rfl,(by simp only [S0,S1]<;>rfl)⟩
 ·rintro l' _ ⟨t9a,t0b,rfl,hq'⟩ l'' hl
  rw [hq'] at hl
  clear hq'
  simp only [S0,S1] at hl
  subst hl
  refine sV (Ac rfl) ?_
  refine Ad<|h7a _ _<|wp_ret ?_
  obtain rfl:=sj f9b
  exact fin rfl (Res.tmp rfl Res.nil) (An X7b rfl)
set_option maxRecDepth 20000 in
theorem c_sorobanlaw04_DyadTight (x0:Aq) (x1:Aq) (x2:Int) (A1:Option Addr) (c2:Nat) (A4:Option Addr) (c5:Nat) (A7:Option Addr) (c8:Nat) (A2b:Option Addr) (c3b:Nat) (w:World) (hT:TB w) (n3:RLu w A1 c2 x0.Lo.Man.Abs) (n6:RLu w A4 c5 x0.Hi.Man.Abs) (n9:RLu w A7 c8 x1.Lo.Man.Abs) (n5e:RLu w A2b c3b x1.Hi.Man.Abs) (r:Bool) (hr:Dy x0 x1 x2=some r) :
  Calls Tryd.prog 5 #[.agg #[.bool x0.Lo.Man.Neg,.slice A1 x0.Lo.Man.Abs.length c2,.int .i64 x0.Lo.Exp,.bool x0.Hi.Man.Neg,.slice A4 x0.Hi.Man.Abs.length c5,.int .i64 x0.Hi.Exp],.agg #[.bool x1.Lo.Man.Neg,.slice A7 x1.Lo.Man.Abs.length c8,.int .i64 x1.Lo.Exp,.bool x1.Hi.Man.Neg,.slice A2b x1.Hi.Man.Abs.length c3b,.int .i64 x1.Hi.Exp],.int .i64 x2] w (Ret EZ w r):=by
 unfold Dy at hr
 refine Jz Tryd.func5 rfl [.agg #[.bool x0.Lo.Man.Neg,.slice A1 x0.Lo.Man.Abs.length c2,.int .i64 x0.Lo.Exp,.bool x0.Hi.Man.Neg,.slice A4 x0.Hi.Man.Abs.length c5,.int .i64 x0.Hi.Exp],.agg #[.bool x1.Lo.Man.Neg,.slice A7 x1.Lo.Man.Abs.length c8,.int .i64 x1.Lo.Exp,.bool x1.Hi.Man.Neg,.slice A2b x1.Hi.Man.Abs.length c3b,.int .i64 x1.Hi.Exp],.int .i64 x2,uu,uu,uu,uu,uu,uu,uu,uu,uu,uu,uu,uu,uu,uu,uu,uu,uu,uu,uu,uu,uu,uu,uu,uu,uu,uu,uu,uu,uu,uu,uu,uu,uu,uu,uu,uu,uu,uu,uu,uu,uu,uu,uu,uu,uu,uu,uu,uu,uu,uu,uu,uu,uu,uu,uu,uu,uu,uu,uu,uu,uu,uu,uu,uu,uu,uu,uu,uu,uu,uu,uu,uu,uu,uu,uu,uu,uu,uu,uu,uu,uu,uu,uu,uu,uu,uu,uu,uu,uu,uu,uu,uu,uu,uu,uu,uu,uu,uu,uu,uu,uu,uu,uu,uu,uu,uu,uu,uu,uu,uu,uu,uu,uu,uu,uu,uu,uu,uu,uu,uu,uu,uu,uu,uu,uu,uu,uu,uu,uu,uu,uu,uu,uu,uu,uu,uu,uu,uu,uu,uu,uu,uu,uu,uu] (by kernel_rfl) ?_
 refine wp_seq_k fun K2n h2n=>Ai<|Bp rfl rfl fun b7a9 w1 E0f g3n q0j=>?_
 refine nrm ?_
 refine Bp rfl rfl fun b8a9 w2 E9g g0h q1f=>?_
 refine nrm ?_
 have g1j:=nlt E0f.size g0h
 have X6e:=xtr E0f E9g
 refine sV (Ac rfl) ?_
 refine Ad<|h2n _ _<|wp_seq_k fun K4n h4n=>wp_seq_k fun K2j h2j=>Ai<|sV (Al Bn rfl (q0j.ext E9g) rfl) ?_
 obtain ⟨r9q,h0r,f3j⟩:=Ab hr
 refine sc (Ae LI (by rfl)) (GD x0 A1 c2 A4 c5 w2 (tbx X6e hT) (n3.ext X6e) (n6.ext X6e) r9q h0r) ?_
 rintro _ w3 E2d rfl
 refine nrm ?_
 have X2f:=xtr X6e E2d
 refine sb (Fj rfl) fun z1h hz1h=>?_
 refine nrm ?_
 refine sV (Aa rfl) ?_
 obtain ⟨m2h,h3g,f4j⟩:=Ab f3j
 refine BJ 8 (fun l l' w'=>∃(t1r:Value) (t2r:Value) (t3r:Value),UpdS [] w3 w'∧l'=((((l.set 23 t1r).set 24 t2r).set 25 t3r).set 26 (.bool m2h))) ?_ ?_
 ·intro HJ50
  rcases bft z1h with e0c | e0c
  ·have p9a9:=zP hz1h e0c
   have f0aa:=ifP p9a9 h3g
   refine sP ?_ (hw:=wgF rfl e0c)
   refine sP ?_ (hw:=wgF rfl e0c)
   refine sP ?_ (hw:=wgF rfl e0c)
   refine sV (Az (evb rfl e0c) rfl) ?_
   obtain rfl:=sj f0aa
   exact HJ50 _ _ ⟨uu,uu,uu,(UpdS.refl _ _),(by simp only [S0,S1]<;>rfl)⟩
  ·have p1aa:=zN hz1h e0c
   have f2aa:=ifN p1aa h3g
   refine sV (Al Bn rfl (q1f.ext E2d) rfl) ?_ (hw:=wgT rfl e0c)
   obtain ⟨r5j,h3aa,f4aa⟩:=Ab f2aa
   refine sc (Ae LI (by rfl)) (GD x1 A7 c8 A2b c3b w3 (tbx X2f hT) (n9.ext X2f) (n5e.ext X2f) r5j h3aa) ?_ (hw:=wgT rfl e0c)
   rintro _ w4 E5aa rfl
   refine nrm ?_
   refine sb (Fj rfl) ?_ (hw:=wgT rfl e0c)
   intro z5n hz5n
   refine nrm ?_
   refine sV (AD (evb rfl e0c) rfl) ?_
   obtain rfl:z5n=decide (¬(r5j=true)):=bz hz5n
   obtain rfl:=sj f4aa
   exact HJ50 _ _ ⟨(.agg #[.bool x1.Lo.Man.Neg,.slice A7 x1.Lo.Man.Abs.length c8,.int .i64 x1.Lo.Exp,.bool x1.Hi.Man.Neg,.slice A2b x1.Hi.Man.Abs.length c3b,.int .i64 x1.Hi.Exp]),(.bool r5j),(.bool (decide (¬(r5j=true)))),((UpdS.refl _ _).ext E5aa),(by simp only [S0,S1]<;>rfl)⟩
 ·rintro l' w4 ⟨t1r,t2r,t3r,U3f,hq'⟩ l'' hl
  rw [hq'] at hl
  clear hq'
  simp only [S0,S1] at hl
  subst hl
  have X3h:=Gu X2f U3f (X2f).size al0
  refine sV (Aa rfl) ?_
  obtain ⟨m4r,h5r,f6aa⟩:=Ab f4j
  refine BJ 12 (fun l l' w'=>∃(t6r:Value) (t7r:Value),w4=w'∧l'=(((l.set 28 t6r).set 29 t7r).set 30 (.bool m4r))) ?_ ?_
  ·intro HJ75
   rcases bft m2h with e3d | e3d
   ·have p7aa:=e3d
    have f8aa:=ifP p7aa h5r
    refine sP ?_ (hw:=wgF rfl e3d)
    refine sP ?_ (hw:=wgF rfl e3d)
    refine sV (Az (evb rfl e3d) rfl) ?_
    obtain rfl:=sj f8aa
    exact HJ75 _ _ ⟨uu,uu,rfl,(by simp only [S0,S1]<;>rfl)⟩
   ·have p9aa:=bF e3d
    have f0ab:=ifN p9aa h5r
    refine sV (Aa rfl) ?_ (hw:=wgT rfl e3d)
    refine sb (Cr rfl rfl) ?_ (hw:=wgT rfl e3d)
    intro z6n hz6n
    refine nrm ?_
    refine sV (AD (evb rfl e3d) rfl) ?_
    obtain rfl:z6n=decide (x2<1):=bz hz6n
    obtain rfl:=sj f0ab
    exact HJ75 _ _ ⟨(.int .i64 x2),(.bool (decide (x2<1))),rfl,(by simp only [S0,S1]<;>rfl)⟩
  ·rintro l' _ ⟨t6r,t7r,rfl,hq'⟩ l'' hl
   rw [hq'] at hl
   clear hq'
   simp only [S0,S1] at hl
   subst hl
   refine sV (Aa rfl) ?_
   obtain ⟨m8r,h9r,f1ab⟩:=Ab f6aa
   refine BJ 16 (fun l l' w'=>∃(t0s:Value) (t1s:Value),w4=w'∧l'=(((l.set 32 t0s).set 33 t1s).set 34 (.bool m8r))) ?_ ?_
   ·intro HJ94
    rcases bft m4r with e4d | e4d
    ·have p2ab:=e4d
     have f3ab:=ifP p2ab h9r
     refine sP ?_ (hw:=wgF rfl e4d)
     refine sP ?_ (hw:=wgF rfl e4d)
     refine sV (Az (evb rfl e4d) rfl) ?_
     obtain rfl:=sj f3ab
     exact HJ94 _ _ ⟨uu,uu,rfl,(by simp only [S0,S1]<;>rfl)⟩
    ·have p4ab:=bF e4d
     have f5ab:=ifN p4ab h9r
     refine sV (Aa rfl) ?_ (hw:=wgT rfl e4d)
     refine sb (EA rfl rfl) ?_ (hw:=wgT rfl e4d)
     intro z7n hz7n
     refine nrm ?_
     refine sV (AD (evb rfl e4d) rfl) ?_
     obtain rfl:z7n=decide (500<x2):=bz hz7n
     obtain rfl:=sj f5ab
     exact HJ94 _ _ ⟨(.int .i64 x2),(.bool (decide (500<x2))),rfl,(by simp only [S0,S1]<;>rfl)⟩
   ·rintro l' _ ⟨t0s,t1s,rfl,hq'⟩ l'' hl
    rw [hq'] at hl
    clear hq'
    simp only [S0,S1] at hl
    subst hl
    refine sV (Aa rfl) ?_
    obtain ⟨m2s,h3s,f6ab⟩:=Ab f1ab
    refine BJ 21 (fun l l' w'=>∃(t4s:Value) (t5s:Value) (t6s:Value),UpdS [] w4 w'∧l'=((((l.set 36 t4s).set 37 t5s).set 38 t6s).set 39 (.bool m2s))) ?_ ?_
    ·intro HJ120
     rcases bft m8r with e1c | e1c
     ·have p7ab:=e1c
      have f8ab:=ifP p7ab h3s
      refine sP ?_ (hw:=wgF rfl e1c)
      refine sP ?_ (hw:=wgF rfl e1c)
      refine sP ?_ (hw:=wgF rfl e1c)
      refine sV (Az (evb rfl e1c) rfl) ?_
      obtain rfl:=sj f8ab
      exact HJ120 _ _ ⟨uu,uu,uu,(UpdS.refl _ _),(by simp only [S0,S1]<;>rfl)⟩
     ·have p9ab:=bF e1c
      have f0ac:=ifN p9ab h3s
      have q1ac:=((q0j.ext E9g).ext E2d).updS U3f nm0
      refine sV (Al Bn rfl q1ac rfl) ?_ (hw:=wgT rfl e1c)
      obtain ⟨r6j,h2ac,f3ac⟩:=Ab f0ac
      refine sc (Ae Kp (by rfl)) (FZ x0 A1 c2 A4 c5 w4 (tbx X3h hT) (n3.ext X3h) (n6.ext X3h) r6j h2ac) ?_ (hw:=wgT rfl e1c)
      rintro _ w5 E4ac rfl
      refine nrm ?_
      refine sb (Fj rfl) ?_ (hw:=wgT rfl e1c)
      intro z8n hz8n
      refine nrm ?_
      refine sV (AD (evb rfl e1c) rfl) ?_
      obtain rfl:z8n=decide (¬(r6j=true)):=bz hz8n
      obtain rfl:=sj f3ac
      exact HJ120 _ _ ⟨(.agg #[.bool x0.Lo.Man.Neg,.slice A1 x0.Lo.Man.Abs.length c2,.int .i64 x0.Lo.Exp,.bool x0.Hi.Man.Neg,.slice A4 x0.Hi.Man.Abs.length c5,.int .i64 x0.Hi.Exp]),(.bool r6j),(.bool (decide (¬(r6j=true)))),((UpdS.refl _ _).ext E4ac),(by simp only [S0,S1]<;>rfl)⟩
    ·rintro l' w5 ⟨t4s,t5s,t6s,U7j,hq'⟩ l'' hl
     rw [hq'] at hl
     clear hq'
     simp only [S0,S1] at hl
     subst hl
     have X4h:=Gu X3h U7j (X3h).size al0
     refine sV (Aa rfl) ?_
     obtain ⟨m7s,h8s,f9s⟩:=Ab f6ab
     refine BJ 26 (fun l l' w'=>∃(t0t:Value) (t1t:Value) (t2t:Value),UpdS [] w5 w'∧l'=((((l.set 41 t0t).set 42 t1t).set 43 t2t).set 44 (.bool m7s))) ?_ ?_
     ·intro HJ153
      rcases bft m2s with e2c | e2c
      ·have p5ac:=e2c
       have f6ac:=ifP p5ac h8s
       refine sP ?_ (hw:=wgF rfl e2c)
       refine sP ?_ (hw:=wgF rfl e2c)
       refine sP ?_ (hw:=wgF rfl e2c)
       refine sV (Az (evb rfl e2c) rfl) ?_
       obtain rfl:=sj f6ac
       exact HJ153 _ _ ⟨uu,uu,uu,(UpdS.refl _ _),(by simp only [S0,S1]<;>rfl)⟩
      ·have p7ac:=bF e2c
       have f8ac:=ifN p7ac h8s
       have q9ac:=((q1f.ext E2d).updS U3f nm0).updS U7j nm0
       refine sV (Al Bn rfl q9ac rfl) ?_ (hw:=wgT rfl e2c)
       obtain ⟨r8j,h0ad,f1ad⟩:=Ab f8ac
       refine sc (Ae Kp (by rfl)) (FZ x1 A7 c8 A2b c3b w5 (tbx X4h hT) (n9.ext X4h) (n5e.ext X4h) r8j h0ad) ?_ (hw:=wgT rfl e2c)
       rintro _ w6 E2ad rfl
       refine nrm ?_
       refine sb (Fj rfl) ?_ (hw:=wgT rfl e2c)
       intro z9n hz9n
       refine nrm ?_
       refine sV (AD (evb rfl e2c) rfl) ?_
       obtain rfl:z9n=decide (¬(r8j=true)):=bz hz9n
       obtain rfl:=sj f1ad
       exact HJ153 _ _ ⟨(.agg #[.bool x1.Lo.Man.Neg,.slice A7 x1.Lo.Man.Abs.length c8,.int .i64 x1.Lo.Exp,.bool x1.Hi.Man.Neg,.slice A2b x1.Hi.Man.Abs.length c3b,.int .i64 x1.Hi.Exp]),(.bool r8j),(.bool (decide (¬(r8j=true)))),((UpdS.refl _ _).ext E2ad),(by simp only [S0,S1]<;>rfl)⟩
     ·rintro l' w6 ⟨t0t,t1t,t2t,U0o,hq'⟩ l'' hl
      rw [hq'] at hl
      clear hq'
      simp only [S0,S1] at hl
      subst hl
      have X7e:=Gu X4h U0o (X4h).size al0
      refine Ad<|h2j _ _ ?_
      rcases bft m7s with e5h | e5h
      ·have p3ad:=e5h
       have f4ad:=ifP p3ad f9s
       refine wp_cond_true (Am (evb rfl e5h))<|wp_seq_k fun K3t h3t=>Ai ?_
       obtain ⟨r5ad,h6ad,f7ad⟩:=Ab f4ad
       refine sc (Ae en_7 (by rfl)) (FN w6 (tbx X7e hT)  r5ad h6ad) ?_
       rintro _ w7 E8ad rfl
       refine nrm ?_
       have X9ad:=xtr X7e E8ad
       refine sV (Ac rfl) ?_
       refine Ad<|h3t _ _<|wp_ret ?_
       obtain rfl:=sj f7ad
       exact fin rfl (Res.tmp rfl Res.nil) (An X9ad rfl)
      ·have p0ae:=bF e5h
       have f1ae:=ifN p0ae f9s
       refine wp_cond_false (Am (evb rfl e5h))<|wp_skip<|h4n _ _<|wp_seq_k fun K4t h4t=>Ai<|have q1o:=((((q0j.ext E9g).ext E2d).updS U3f nm0).updS U7j nm0).updS U0o nm0;sV (Al Bn rfl q1o rfl) ?_
       have q2o:=(((q1f.ext E2d).updS U3f nm0).updS U7j nm0).updS U0o nm0
       refine sV (Al Bn rfl q2o rfl) ?_
       refine sV (Aa rfl) ?_
       obtain ⟨r6h,h2ae,f3ae⟩:=Ab f1ae
       refine sc (Ae en_19 (by rfl)) (c_dyad_Plus x0 x1 x2 A1 c2 A4 c5 A7 c8 A2b c3b w6 (tbx X7e hT) (n3.ext X7e) (n6.ext X7e) (n9.ext X7e) (n5e.ext X7e) r6h h2ae) ?_
       rintro _ w7 E7h ⟨A5t,c6t,A1az,c2az,rfl,n4ae,n3az⟩
       refine nrm ?_
       have X7t:=xtr X7e E7h
       refine sV (Aa rfl) ?_
       refine sV (Ax rfl rfl) ?_
       refine sV (Ax rfl rfl) ?_
       refine AA EE fun b5ae w8 E6ae g8t q7ae=>?_
       refine nrm ?_
       have g4az:=nlt X7t.size g8t
       refine AB Ei rfl rfl q7ae rfl rfl rfl rfl (by simp only [SP0,SP1,S0,S1,Nat.reduceAdd];rfl) fun w9 U8ae q9ae=>?_
       have F4g:=AO E6ae U8ae g8t
       have X9j:=xtr X7t F4g
       refine sV (Ac rfl) ?_
       refine Ad<|h4t _ _<|wp_seq_k fun K9t h9t=>Ai<|sV (Ah (o':=0) Fc rfl rfl) ?_
       refine sV (As AG rfl ((q1o.ext E7h).ext F4g) (by simp only [List.drop_zero,List.take_succ_cons,List.take_zero];rfl) rfl) ?_
       refine sV (Ah (o':=0) Fc rfl rfl) ?_
       refine sV (As AG rfl ((q2o.ext E7h).ext F4g) (by simp only [List.drop_zero,List.take_succ_cons,List.take_zero];rfl) rfl) ?_
       obtain ⟨r4f,h0af,f1af⟩:=Ab f3ae
       refine sc (Ae en_8 (by rfl)) (c_dyad_Add x0.Lo x1.Lo A1 c2 A7 c8 w9 (tbx X9j hT) (n3.ext X9j) (n9.ext X9j) r4f h0af) ?_
       rintro _ w2b E8h ⟨A2af,c3af,rfl,n4af⟩
       refine nrm ?_
       have X0u:=xtr X9j E8h
       refine sV (Aa rfl) ?_
       refine sV (Ax rfl rfl) ?_
       refine sV (Ax rfl rfl) ?_
       refine AA Dx fun b5az w3b E5af g1u q6af=>?_
       refine nrm ?_
       have g6az:=nlt X0u.size g1u
       refine AB BX rfl rfl q6af rfl rfl rfl rfl (by simp only [SP0,SP1,S0,S1,Nat.reduceAdd];rfl) fun w5e U7af q8af=>?_
       have F5g:=AO E5af U7af g1u
       have X2u:=xtr X0u F5g
       refine sV (Ac rfl) ?_
       refine Ad<|h9t _ _<|wp_seq_k fun K3u h3u=>Ai<|sV (Al AG rfl q8af rfl) ?_
       refine sV (Aa rfl) ?_
       obtain ⟨r8e,h9af,f0ag⟩:=Ab f1af
       refine sc (Ae Jh (by rfl)) (EF (⟨(⟨r4f.1.Man.Neg,(limbs r4f.1.Man.Abs)⟩:AC),r4f.1.Exp⟩:Ao) x2 5 A2af c3af w5e (tbx X2u hT) (n4af.ext F5g) r8e h9af) ?_
       rintro _ w2n E9h ⟨A4u,c5u,rfl,n1ag⟩
       refine nrm ?_
       have X6u:=xtr X2u E9h
       refine sV (Aa rfl) ?_
       refine sV (Ax rfl rfl) ?_
       refine sV (Ax rfl rfl) ?_
       refine AA Dx fun b7az w7a9 E2ag g7u q3ag=>?_
       refine nrm ?_
       have g8az:=nlt X6u.size g7u
       refine AB BX rfl rfl q3ag rfl rfl rfl rfl (by simp only [SP0,SP1,S0,S1,Nat.reduceAdd];rfl) fun w0f U4ag q5ag=>?_
       have F6g:=AO E2ag U4ag g7u
       have X3o:=xtr X6u F6g
       refine sV (Ac rfl) ?_
       refine Ad<|h3u _ _<|wp_seq_k fun K8u h8u=>wp_seq_k fun K9u h9u=>Ai<|sV (Aa rfl) ?_
       refine sb (Fp rfl rfl) fun z0k hz0k=>?_
       refine nrm ?_
       refine sV (Aa rfl) ?_
       obtain ⟨m0v,h1v,f6ag⟩:=Ab f0ag
       refine BJ 6 (fun l l' w'=>∃(t2v:Value) (t3v:Value),w0f=w'∧l'=(((l.set 70 t2v).set 71 t3v).set 72 (.bool m0v))) ?_ ?_
       ·intro HJ260
        rcases bft z0k with e5d | e5d
        ·have p7ag:=zP hz0k e5d
         have f8ag:=ifP p7ag h1v
         refine sP ?_ (hw:=wgF rfl e5d)
         refine sP ?_ (hw:=wgF rfl e5d)
         refine sV (Az (evb rfl e5d) rfl) ?_
         obtain rfl:=sj f8ag
         exact HJ260 _ _ ⟨uu,uu,rfl,(by simp only [S0,S1]<;>rfl)⟩
        ·have p9ag:=zN hz0k e5d
         have f0ah:=ifN p9ag h1v
         refine sV (Aa rfl) ?_ (hw:=wgT rfl e5d)
         refine sb (Fp rfl rfl) ?_ (hw:=wgT rfl e5d)
         intro z4o hz4o
         refine nrm ?_
         refine sV (AD (evb rfl e5d) rfl) ?_
         obtain rfl:z4o=decide (¬r4f.2=0):=bz hz4o
         obtain rfl:=sj f0ah
         exact HJ260 _ _ ⟨(.int .i64 r4f.2),(.bool (decide (¬r4f.2=0))),rfl,(by simp only [S0,S1]<;>rfl)⟩
       ·rintro l' _ ⟨t2v,t3v,rfl,hq'⟩ l'' hl
        rw [hq'] at hl
        clear hq'
        simp only [S0,S1] at hl
        subst hl
        refine sV (Aa rfl) ?_
        obtain ⟨m4v,h5v,f1ah⟩:=Ab f6ag
        refine BJ 10 (fun l l' w'=>∃(t6v:Value) (t7v:Value),w0f=w'∧l'=(((l.set 74 t6v).set 75 t7v).set 76 (.bool m4v))) ?_ ?_
        ·intro HJ279
         rcases bft m0v with e6d | e6d
         ·have p2ah:=e6d
          have f3ah:=ifP p2ah h5v
          refine sP ?_ (hw:=wgF rfl e6d)
          refine sP ?_ (hw:=wgF rfl e6d)
          refine sV (Az (evb rfl e6d) rfl) ?_
          obtain rfl:=sj f3ah
          exact HJ279 _ _ ⟨uu,uu,rfl,(by simp only [S0,S1]<;>rfl)⟩
         ·have p4ah:=bF e6d
          have f5ah:=ifN p4ah h5v
          refine sV (Aa rfl) ?_ (hw:=wgT rfl e6d)
          refine sb (Fp rfl rfl) ?_ (hw:=wgT rfl e6d)
          intro z5o hz5o
          refine nrm ?_
          refine sV (AD (evb rfl e6d) rfl) ?_
          obtain rfl:z5o=decide (¬r8e.2=0):=bz hz5o
          obtain rfl:=sj f5ah
          exact HJ279 _ _ ⟨(.int .i64 r8e.2),(.bool (decide (¬r8e.2=0))),rfl,(by simp only [S0,S1]<;>rfl)⟩
        ·rintro l' _ ⟨t6v,t7v,rfl,hq'⟩ l'' hl
         rw [hq'] at hl
         clear hq'
         simp only [S0,S1] at hl
         subst hl
         refine sV (Aa rfl) ?_
         obtain ⟨m8v,h9v,f0w⟩:=Ab f1ah
         refine BJ 17 (fun l l' w'=>∃(t1w:Value) (t2w:Value) (t3w:Value) (t4w:Value) (t5w:Value),UpdS [] w0f w'∧l'=((((((l.set 78 t1w).set 79 t2w).set 80 t3w).set 81 t4w).set 82 t5w).set 83 (.bool m8v))) ?_ ?_
         ·intro HJ308
          rcases bft m4v with e5a | e5a
          ·have p6ah:=e5a
           have f7ah:=ifP p6ah h9v
           refine sP ?_ (hw:=wgF rfl e5a)
           refine sP ?_ (hw:=wgF rfl e5a)
           refine sP ?_ (hw:=wgF rfl e5a)
           refine sP ?_ (hw:=wgF rfl e5a)
           refine sP ?_ (hw:=wgF rfl e5a)
           refine sV (Az (evb rfl e5a) rfl) ?_
           obtain rfl:=sj f7ah
           exact HJ308 _ _ ⟨uu,uu,uu,uu,uu,(UpdS.refl _ _),(by simp only [S0,S1]<;>rfl)⟩
          ·have p8ah:=bF e5a
           have f9ah:=ifN p8ah h9v
           refine sV (Ah (o':=0) Fc rfl rfl) ?_ (hw:=wgT rfl e5a)
           have q0ai:=(((q9ae.ext E8h).ext F5g).ext E9h).ext F6g
           refine sV (As AG rfl q0ai (by simp only [List.drop_zero,List.take_succ_cons,List.take_zero];rfl) rfl) ?_ (hw:=wgT rfl e5a)
           refine sV (Al AG rfl q5ag rfl) ?_ (hw:=wgT rfl e5a)
           have n1ai:=((((n4ae.ext F4g).ext E8h).ext F5g).ext E9h).ext F6g
           obtain ⟨r1k,h2ai,f3ai⟩:=Ab f9ah
           refine sc (Ae Jk (by rfl)) (BE r6h.1.Lo r8e.1 A5t c6t A4u c5u w0f (tbx X3o hT) n1ai (n1ag.ext F6g) r1k h2ai) ?_ (hw:=wgT rfl e5a)
           rintro _ w3n E4ai rfl
           refine nrm ?_
           refine sb (Fj rfl) ?_ (hw:=wgT rfl e5a)
           intro z6o hz6o
           refine nrm ?_
           refine sV (AD (evb rfl e5a) rfl) ?_
           obtain rfl:z6o=decide (¬(r1k=true)):=bz hz6o
           obtain rfl:=sj f3ai
           exact HJ308 _ _ ⟨(.pointer (some ⟨b5ae,0,none⟩)),(.agg #[.bool r6h.1.Lo.Man.Neg,.slice A5t (sz r6h.1.Lo.Man.Abs) c6t,.int .i64 r6h.1.Lo.Exp]),(.agg #[.bool r8e.1.Man.Neg,.slice A4u (sz r8e.1.Man.Abs) c5u,.int .i64 r8e.1.Exp]),(.bool r1k),(.bool (decide (¬(r1k=true)))),((UpdS.refl _ _).ext E4ai),(by simp only [S0,S1]<;>rfl)⟩
         ·rintro l' w3n ⟨t1w,t2w,t3w,t4w,t5w,U7o,hq'⟩ l'' hl
          rw [hq'] at hl
          clear hq'
          simp only [S0,S1] at hl
          subst hl
          have X5f:=Gu X3o U7o (X3o).size al0
          refine Ad<|h9u _ _ ?_
          rcases bft m8v with e0i | e0i
          ·have p5ai:=e0i
           have f6ai:=ifP p5ai f0w
           refine wp_cond_true (Am (evb rfl e0i))<|wp_seq_k fun K6w h6w=>Ai<|sV (Ac rfl) ?_
           refine Ad<|h6w _ _<|wp_ret ?_
           obtain rfl:=sj f6ai
           exact fin rfl (Res.tmp rfl Res.nil) (An X5f rfl)
          ·have p7ai:=bF e0i
           have f8ai:=ifN p7ai f0w
           refine wp_cond_false (Am (evb rfl e0i))<|wp_skip<|h8u _ _<|wp_seq_k fun K7w h7w=>Ai<|have q1i:=((((((q1o.ext E7h).ext F4g).ext E8h).ext F5g).ext E9h).ext F6g).updS U7o nm0;sV (Al Bn rfl q1i rfl) ?_
           have q2i:=((((((q2o.ext E7h).ext F4g).ext E8h).ext F5g).ext E9h).ext F6g).updS U7o nm0
           refine sV (Al Bn rfl q2i rfl) ?_
           refine sV (Aa rfl) ?_
           obtain ⟨r0a,h9ai,f8w⟩:=Ab f8ai
           refine sc (Ae Mq (by rfl)) (HO x0 x1 x2 A1 c2 A4 c5 A7 c8 A2b c3b w3n (tbx X5f hT) (n3.ext X5f) (n6.ext X5f) (n9.ext X5f) (n5e.ext X5f) r0a h9ai) ?_
           rintro _ w0j E7d ⟨A9az,c0b0,A6a,c7a,rfl,n1b0,n9w⟩
           refine nrm ?_
           have X0x:=xtr X5f E7d
           refine sV (Aa rfl) ?_
           refine sV (Ax rfl rfl) ?_
           refine sV (Ax rfl rfl) ?_
           refine AA EE fun b6f w8a9 E0aj g1x q1aj=>?_
           refine nrm ?_
           have g2b0:=nlt X0x.size g1x
           refine AB Ei rfl rfl q1aj rfl rfl rfl rfl (by simp only [SP0,SP1,S0,S1,Nat.reduceAdd];rfl) fun w9g U2aj q2x=>?_
           have F3c:=AO E0aj U2aj g1x
           have X3x:=xtr X0x F3c
           refine sV (Ac rfl) ?_
           refine Ad<|h7w _ _<|wp_seq_k fun K4x h4x=>wp_seq_k fun K5x h5x=>Ai<|sV (Aa rfl) ?_
           refine sb (Fp rfl rfl) fun z2k hz2k=>?_
           refine nrm ?_
           refine Ad<|h5x _ _ ?_
           rcases bft z2k with e3i | e3i
           ·have p3aj:=zP hz2k e3i
            have f4aj:=ifP p3aj f8w
            refine wp_cond_true (Am (evb rfl e3i))<|wp_seq_k fun K6x h6x=>Ai<|sV (Ac rfl) ?_
            refine Ad<|h6x _ _<|wp_ret ?_
            obtain rfl:=sj f4aj
            exact fin rfl (Res.tmp rfl Res.nil) (An X3x rfl)
           ·have p5aj:=zN hz2k e3i
            have f6aj:=ifN p5aj f8w
            refine wp_cond_false (Am (evb rfl e3i))<|wp_skip<|h4x _ _<|wp_seq_k fun K7x h7x=>Dz [] 22 mo rfl fun w0h E4b S8d=>have X3k:=xtr X3x E4b;dA 0 rfl (fun _=>Ah (o':=0) Fc rfl rfl) ?_
            refine dV 1 rfl (fun _ hw=>As AG rfl ((((q1i.ext E7d).ext F3c).ext E4b).ext hw) (by simp only [List.drop_zero,List.take_succ_cons,List.take_zero];rfl) rfl) S8d ?_
            refine dA 2 rfl (fun _=>Ah (o':=0) Fc rfl rfl) ?_
            refine dV 3 rfl (fun _ hw=>As AG rfl ((((q2i.ext E7d).ext F3c).ext E4b).ext hw) (by simp only [List.drop_zero,List.take_succ_cons,List.take_zero];rfl) rfl) S8d ?_
            refine dA 5 rfl (fun _=>Ah (o':=0) Fc rfl rfl) ?_
            refine dV 6 rfl (fun _ hw=>As AG rfl ((((q1i.ext E7d).ext F3c).ext E4b).ext hw) (by simp only [List.drop_zero,List.take_succ_cons,List.take_zero];rfl) rfl) S8d ?_
            refine dA 7 rfl (fun _=>Ah (o':=3) Ec rfl rfl) ?_
            refine dV 8 rfl (fun _ hw=>As AG rfl ((((q2i.ext E7d).ext F3c).ext E4b).ext hw) (by simp only [List.drop_succ_cons,List.drop_zero,List.take_succ_cons,List.take_zero];rfl) rfl) S8d ?_
            refine dA 10 rfl (fun _=>Ah (o':=3) Ec rfl rfl) ?_
            refine dV 11 rfl (fun _ hw=>As AG rfl ((((q1i.ext E7d).ext F3c).ext E4b).ext hw) (by simp only [List.drop_succ_cons,List.drop_zero,List.take_succ_cons,List.take_zero];rfl) rfl) S8d ?_
            refine dA 12 rfl (fun _=>Ah (o':=0) Fc rfl rfl) ?_
            refine dV 13 rfl (fun _ hw=>As AG rfl ((((q2i.ext E7d).ext F3c).ext E4b).ext hw) (by simp only [List.drop_zero,List.take_succ_cons,List.take_zero];rfl) rfl) S8d ?_
            refine dA 15 rfl (fun _=>Ah (o':=3) Ec rfl rfl) ?_
            refine dV 16 rfl (fun _ hw=>As AG rfl ((((q1i.ext E7d).ext F3c).ext E4b).ext hw) (by simp only [List.drop_succ_cons,List.drop_zero,List.take_succ_cons,List.take_zero];rfl) rfl) S8d ?_
            refine dA 17 rfl (fun _=>Ah (o':=3) Ec rfl rfl) ?_
            refine dV 18 rfl (fun _ hw=>As AG rfl ((((q2i.ext E7d).ext F3c).ext E4b).ext hw) (by simp only [List.drop_succ_cons,List.drop_zero,List.take_succ_cons,List.take_zero];rfl) rfl) S8d ?_
            obtain ⟨m4k,h7aj,f8aj⟩:=Ab f6aj
            have hx5k:=BH h7aj
            have n9aj:RU w0h A1 c2 m4k:=by unfold RU;rw [hx5k];exact (n3.ext X3k)
            obtain ⟨m6k,h0ak,f1ak⟩:=Ab f8aj
            have hx7k:=BH h0ak
            have n2ak:RU w0h A7 c8 m6k:=by unfold RU;rw [hx7k];exact (n9.ext X3k)
            obtain ⟨r7c,h3ak,f4ak⟩:=Ab f1ak
            refine dc 4 rfl (by kernel_rfl) (by rfl) (Ae Kr (by simp only [sz,hx5k,hx7k];rfl)) (EJ (⟨(⟨x0.Lo.Man.Neg,m4k⟩:Ag),x0.Lo.Exp⟩:Af) (⟨(⟨x1.Lo.Man.Neg,m6k⟩:Ag),x1.Lo.Exp⟩:Af) A1 c2 A7 c8 w0h (tbx X3k hT) n9aj n2ak r7c h3ak) ?_
            rintro _ w1f E7g ⟨A8o,c9o,rfl,n5ak⟩
            refine dnrm ?_
            have X8k:=xtr X3k E7g
            have S6ak:=S8d.trans E7g
            have n7ak:RU w1f A1 c2 m4k:=by unfold RU;rw [hx5k];exact (n3.ext X8k)
            obtain ⟨m9k,h8ak,f9ak⟩:=Ab f4ak
            have hx0l:=BH h8ak
            have n0al:RU w1f A2b c3b m9k:=by unfold RU;rw [hx0l];exact (n5e.ext X8k)
            obtain ⟨r8c,h1al,f2al⟩:=Ab f9ak
            refine dc 9 rfl (by kernel_rfl) (by rfl) (Ae Kr (by simp only [sz,hx5k,hx0l];rfl)) (EJ (⟨(⟨x0.Lo.Man.Neg,m4k⟩:Ag),x0.Lo.Exp⟩:Af) (⟨(⟨x1.Hi.Man.Neg,m9k⟩:Ag),x1.Hi.Exp⟩:Af) A1 c2 A2b c3b w1f (tbx X8k hT) n7ak n0al r8c h1al) ?_
            rintro _ w1j E7f ⟨A0p,c1p,rfl,n3al⟩
            refine dnrm ?_
            have X1l:=xtr X8k E7f
            have S4al:=S6ak.trans E7f
            obtain ⟨m2l,h5al,f6al⟩:=Ab f2al
            have hx3l:=BH h5al
            have n7al:RU w1j A4 c5 m2l:=by unfold RU;rw [hx3l];exact (n6.ext X1l)
            have n8al:RU w1j A7 c8 m6k:=by unfold RU;rw [hx7k];exact (n9.ext X1l)
            obtain ⟨r9c,h9al,f0am⟩:=Ab f6al
            refine dc 14 rfl (by kernel_rfl) (by rfl) (Ae Kr (by simp only [sz,hx3l,hx7k];rfl)) (EJ (⟨(⟨x0.Hi.Man.Neg,m2l⟩:Ag),x0.Hi.Exp⟩:Af) (⟨(⟨x1.Lo.Man.Neg,m6k⟩:Ag),x1.Lo.Exp⟩:Af) A4 c5 A7 c8 w1j (tbx X1l hT) n7al n8al r9c h9al) ?_
            rintro _ w6e E9e ⟨A2p,c3p,rfl,n1am⟩
            refine dnrm ?_
            have X4l:=xtr X1l E9e
            have S2am:=S4al.trans E9e
            have n3am:RU w6e A4 c5 m2l:=by unfold RU;rw [hx3l];exact (n6.ext X4l)
            have n4am:RU w6e A2b c3b m9k:=by unfold RU;rw [hx0l];exact (n5e.ext X4l)
            obtain ⟨r0d,h5am,f6am⟩:=Ab f0am
            refine dc 19 rfl (by kernel_rfl) (by rfl) (Ae Kr (by simp only [sz,hx3l,hx0l];rfl)) (EJ (⟨(⟨x0.Hi.Man.Neg,m2l⟩:Ag),x0.Hi.Exp⟩:Af) (⟨(⟨x1.Hi.Man.Neg,m9k⟩:Ag),x1.Hi.Exp⟩:Af) A4 c5 A2b c3b w6e (tbx X4l hT) n3am n4am r0d h5am) ?_
            rintro _ w4n E9d ⟨A4p,c5p,rfl,n7am⟩
            refine dnrm ?_
            have X8x:=xtr X4l E9d
            have S8am:=S2am.trans E9d
            refine AQ 20 (by kernel_rfl) (opB (cs:=[.bool r7c.Man.Neg,.slice A8o (sz r7c.Man.Abs) c9o,.int .i64 r7c.Exp,.bool r8c.Man.Neg,.slice A0p (sz r8c.Man.Abs) c1p,.int .i64 r8c.Exp,.bool r9c.Man.Neg,.slice A2p (sz r9c.Man.Abs) c3p,.int .i64 r9c.Exp,.bool r0d.Man.Neg,.slice A4p (sz r0d.Man.Abs) c5p,.int .i64 r0d.Exp]) 20 rfl (by rfl) (Je (vals:=[(0,.agg #[.bool r7c.Man.Neg,.slice A8o (sz r7c.Man.Abs) c9o,.int .i64 r7c.Exp]),(1,.agg #[.bool r8c.Man.Neg,.slice A0p (sz r8c.Man.Abs) c1p,.int .i64 r8c.Exp]),(2,.agg #[.bool r9c.Man.Neg,.slice A2p (sz r9c.Man.Abs) c3p,.int .i64 r9c.Exp]),(3,.agg #[.bool r0d.Man.Neg,.slice A4p (sz r0d.Man.Abs) c5p,.int .i64 r0d.Exp])]) EV BX Dx (by rfl) (by decide) (by kernel_rfl)) ?_)
            intro b3b0 w2j E1d g9am q9x
            refine dnrm ?_
            have g4b0:=nlt X8x.size g9am
            have X0y:=xtr X8x E1d
            have S5b0:=S8am.trans E1d
            refine dA 21 rfl (fun _=>Ac rfl) ?_
            refine CB (by kernel_rfl) ?_
            refine h7x _ _<|wp_seq_k fun K1y h1y=>Ai<|sV (Ac rfl) ?_
            refine Ad<|h1y _ _<|wp_seq_k fun K2y h2y=>wp_seq_k fun K3y h3y=>Ai<|sV (Ac rfl) ?_
            refine Ad<|h3y _ _ ?_
            apply wp_block
            refine FV<|BL<|wp_seq_k fun K4y h4y=>wp_seq_k fun K5y h5y=>Ai<|sV (Aa rfl) ?_
            refine sV (Gs (v:=.bool true) (Cr rfl rfl) (by rfl)) ?_
            refine Ad<|h5y _ _<|wp_cond_true (Am (evb rfl rfl))<|wp_skip<|h4y _ _<|wp_seq_k fun K6y h6y=>?_
            apply wp_block
            refine wp_seq_k fun K7y h7y=>Ai<|sV (Aa rfl) ?_
            refine sV (Aa rfl) ?_
            refine sV (DG (o':=0) EV BX rfl rfl (by decide) (by decide) (by decide)) ?_
            refine sV (As AG rfl q9x (by simp only [List.drop_zero,List.take_succ_cons,List.take_zero];rfl) rfl) ?_
            refine sV (Aa rfl) ?_
            have n0an:=(((n5ak.ext E7f).ext E9e).ext E9d).ext E1d
            obtain ⟨r8g,h1an,f2an⟩:=Ab f6am
            refine sc (Ae Jh (by rfl)) (EF (⟨(⟨r7c.Man.Neg,(limbs r7c.Man.Abs)⟩:AC),r7c.Exp⟩:Ao) x2 4 A8o c9o w2j (tbx X0y hT) n0an r8g h1an) ?_
            rintro _ w9q E0e ⟨A6p,c7p,rfl,n8y⟩
            refine nrm ?_
            have X9y:=xtr X0y E0e
            refine sV (Aa rfl) ?_
            refine sV (Ax rfl rfl) ?_
            refine sV (Ax rfl rfl) ?_
            refine AA Dx fun b6b0 w0r E3an g0z q4an=>?_
            refine nrm ?_
            have g7b0:=nlt X9y.size g0z
            refine AB BX rfl rfl q4an rfl rfl rfl rfl (by simp only [SP0,SP1,S0,S1,Nat.reduceAdd];rfl) fun w3j U5an q1z=>?_
            have F4c:=AO E3an U5an g0z
            have X8p:=xtr X9y F4c
            refine sV (Ac rfl) ?_
            refine Ad<|h7y _ _<|wp_seq_k fun K2z h2z=>wp_seq_k fun K3z h3z=>Ai<|sV (Aa rfl) ?_
            refine sb (Fp rfl rfl) fun z5l hz5l=>?_
            refine nrm ?_
            refine sV (Aa rfl) ?_
            obtain ⟨m4z,h5z,f6z⟩:=Ab f2an
            refine BJ 9 (fun l l' w'=>∃(t7z:Value) (t8z:Value) (t9z:Value) (t0a0:Value) (t1a0:Value),UpdS [] w3j w'∧l'=((((((l.set 130 t7z).set 131 t8z).set 132 t9z).set 133 t0a0).set 134 t1a0).set 135 (.bool m4z))) ?_ ?_
            ·intro HJ494
             rcases bft z5l with e8a | e8a
             ·have p6an:=zP hz5l e8a
              have f7an:=ifP p6an h5z
              refine sP ?_ (hw:=wgF rfl e8a)
              refine sP ?_ (hw:=wgF rfl e8a)
              refine sP ?_ (hw:=wgF rfl e8a)
              refine sP ?_ (hw:=wgF rfl e8a)
              refine sP ?_ (hw:=wgF rfl e8a)
              refine sV (Az (evb rfl e8a) rfl) ?_
              obtain rfl:=sj f7an
              exact HJ494 _ _ ⟨uu,uu,uu,uu,uu,(UpdS.refl _ _),(by simp only [S0,S1]<;>rfl)⟩
             ·have p8an:=zN hz5l e8a
              have f9an:=ifN p8an h5z
              refine sV (Al AG rfl q1z rfl) ?_ (hw:=wgT rfl e8a)
              refine sV (Ah (o':=3) Ec rfl rfl) ?_ (hw:=wgT rfl e8a)
              have q0ao:=(((((((q2x.ext E4b).ext E7g).ext E7f).ext E9e).ext E9d).ext E1d).ext E0e).ext F4c
              refine sV (As AG rfl q0ao (by simp only [List.drop_succ_cons,List.drop_zero,List.take_succ_cons,List.take_zero];rfl) rfl) ?_ (hw:=wgT rfl e8a)
              have n1ao:=((((((((n9w.ext F3c).ext E4b).ext E7g).ext E7f).ext E9e).ext E9d).ext E1d).ext E0e).ext F4c
              obtain ⟨r6l,h2ao,f3ao⟩:=Ab f9an
              refine sc (Ae KE (by rfl)) (En r8g.1 r0a.1.Hi A6p c7p A6a c7a w3j (tbx X8p hT) (n8y.ext F4c) n1ao r6l h2ao) ?_ (hw:=wgT rfl e8a)
              rintro _ w2d E4ao rfl
              refine nrm ?_
              refine sb (Fj rfl) ?_ (hw:=wgT rfl e8a)
              intro z9p hz9p
              refine nrm ?_
              refine sV (AD (evb rfl e8a) rfl) ?_
              obtain rfl:z9p=decide (¬(r6l=true)):=bz hz9p
              obtain rfl:=sj f3ao
              exact HJ494 _ _ ⟨(.agg #[.bool r8g.1.Man.Neg,.slice A6p (sz r8g.1.Man.Abs) c7p,.int .i64 r8g.1.Exp]),(.pointer (some ⟨b6f,3,none⟩)),(.agg #[.bool r0a.1.Hi.Man.Neg,.slice A6a (sz r0a.1.Hi.Man.Abs) c7a,.int .i64 r0a.1.Hi.Exp]),(.bool r6l),(.bool (decide (¬(r6l=true)))),((UpdS.refl _ _).ext E4ao),(by simp only [S0,S1]<;>rfl)⟩
            ·rintro l' w2d ⟨t7z,t8z,t9z,t0a0,t1a0,U1e,hq'⟩ l'' hl
             rw [hq'] at hl
             clear hq'
             simp only [S0,S1] at hl
             subst hl
             have X0q:=Gu X8p U1e (X8p).size al0
             refine Ad<|h3z _ _ ?_
             rcases bft m4z with e4i | e4i
             ·have p5ao:=e4i
              have f6ao:=ifP p5ao f6z
              refine wp_cond_true (Am (evb rfl e4i))<|wp_seq_k fun K2a0 h2a0=>Ai<|sV (Ac rfl) ?_
              refine Ad<|h2a0 _ _<|wp_ret ?_
              obtain rfl:=sj f6ao
              exact fin rfl (Res.tmp rfl Res.nil) (An X0q rfl)
             ·have p7ao:=bF e4i
              have f8ao:=ifN p7ao f6z
              refine wp_cond_false (Am (evb rfl e4i))<|wp_skip<|h2z _ _<|Ai<|sV (Aa rfl) ?_
              refine sV (Aa rfl) ?_
              refine sV (Al AG rfl (q1z.updS U1e nm0) rfl) ?_ (hw:=wgT rfl rfl)
              refine sV (Ah (o':=3) Ec rfl rfl) ?_ (hw:=wgT rfl rfl)
              have q8f:=((((((((q2x.ext E4b).ext E7g).ext E7f).ext E9e).ext E9d).ext E1d).ext E0e).ext F4c).updS U1e nm0
              refine sV (As AG rfl q8f (by simp only [List.drop_succ_cons,List.drop_zero,List.take_succ_cons,List.take_zero];rfl) rfl) ?_ (hw:=wgT rfl rfl)
              have n9f:=(((((((((n9w.ext F3c).ext E4b).ext E7g).ext E7f).ext E9e).ext E9d).ext E1d).ext E0e).ext F4c).updS U1e al0
              obtain ⟨r3a0,h9ao,f0ap⟩:=Ab f8ao
              refine sc (Ae Jk (by rfl)) (BE r8g.1 r0a.1.Hi A6p c7p A6a c7a w2d (tbx X0q hT) ((n8y.ext F4c).updS U1e al0) n9f r3a0 h9ao) ?_ (hw:=wgT rfl rfl)
              rintro _ w2f E2a rfl
              refine nrm ?_
              have X4a0:=xtr X0q E2a
              refine sV (AD (evb rfl rfl) rfl) ?_
              refine sV (Ac rfl) ?_
              refine Ad<|h6y _ _<|Ai<|sV (Aa rfl) ?_
              refine sV (BC (c:=1) rfl rfl (by decide)) ?_
              refine sV (Ac rfl) ?_
              refine Ad<|BL<|wp_seq_k fun K5a0 h5a0=>wp_seq_k fun K6a0 h6a0=>Ai<|sV (Aa rfl) ?_
              refine sV (Gs (v:=.bool true) (Cr rfl rfl) (by rfl)) ?_
              refine Ad<|h6a0 _ _<|wp_cond_true (Am (evb rfl rfl))<|wp_skip<|h5a0 _ _<|wp_seq_k fun K7a0 h7a0=>?_
              apply wp_block
              refine wp_seq_k fun K8a0 h8a0=>Ai<|sV (Aa rfl) ?_
              refine sV (Aa rfl) ?_
              refine sV (DG (o':=3) EV BX rfl rfl (by decide) (by decide) (by decide)) ?_
              have q9a0:=(((q9x.ext E0e).ext F4c).updS U1e nm0).ext E2a
              refine sV (As AG rfl q9a0 (by simp only [List.drop_succ_cons,List.drop_zero,List.take_succ_cons,List.take_zero];rfl) rfl) ?_
              refine sV (Aa rfl) ?_
              have n1ap:=((((((n3al.ext E9e).ext E9d).ext E1d).ext E0e).ext F4c).updS U1e al0).ext E2a
              obtain ⟨r2e,h2ap,f3ap⟩:=Ab f0ap
              refine sc (Ae Jh (by rfl)) (EF (⟨(⟨r8c.Man.Neg,(limbs r8c.Man.Abs)⟩:AC),r8c.Exp⟩:Ao) x2 4 A0p c1p w2f (tbx X4a0 hT) n1ap r2e h2ap) ?_
              rintro _ w1h E3a ⟨A7l,c8l,rfl,n0a1⟩
              refine nrm ?_
              have X1a1:=xtr X4a0 E3a
              refine sV (Aa rfl) ?_
              refine sV (Ax rfl rfl) ?_
              refine sV (Ax rfl rfl) ?_
              refine AA Dx fun b8b0 w9b0 E4ap g2a1 q5ap=>?_
              refine nrm ?_
              have g0b1:=nlt X1a1.size g2a1
              refine AB BX rfl rfl q5ap rfl rfl rfl rfl (by simp only [SP0,SP1,S0,S1,Nat.reduceAdd];rfl) fun w3a1 U6ap q4a1=>?_
              have F1a:=AO E4ap U6ap g2a1
              have X1q:=xtr X1a1 F1a
              refine sV (Ac rfl) ?_
              refine Ad<|h8a0 _ _<|wp_seq_k fun K5a1 h5a1=>wp_seq_k fun K6a1 h6a1=>Ai<|sV (Aa rfl) ?_
              refine sb (Fp rfl rfl) fun z9l hz9l=>?_
              refine nrm ?_
              refine sV (Aa rfl) ?_
              obtain ⟨m7a1,h8a1,f9a1⟩:=Ab f3ap
              refine BJ 9 (fun l l' w'=>∃(t0a2:Value) (t1a2:Value) (t2a2:Value) (t3a2:Value) (t4a2:Value),UpdS [] w3a1 w'∧l'=((((((l.set 130 t0a2).set 131 t1a2).set 132 t2a2).set 133 t3a2).set 134 t4a2).set 135 (.bool m7a1))) ?_ ?_
              ·intro HJ576
               rcases bft z9l with e9a | e9a
               ·have p7ap:=zP hz9l e9a
                have f8ap:=ifP p7ap h8a1
                refine sP ?_ (hw:=wgF rfl e9a)
                refine sP ?_ (hw:=wgF rfl e9a)
                refine sP ?_ (hw:=wgF rfl e9a)
                refine sP ?_ (hw:=wgF rfl e9a)
                refine sP ?_ (hw:=wgF rfl e9a)
                refine sV (Az (evb rfl e9a) rfl) ?_
                obtain rfl:=sj f8ap
                exact HJ576 _ _ ⟨uu,uu,uu,uu,uu,(UpdS.refl _ _),(by simp only [S0,S1]<;>rfl)⟩
               ·have p9ap:=zN hz9l e9a
                have f0aq:=ifN p9ap h8a1
                refine sV (Al AG rfl q4a1 rfl) ?_ (hw:=wgT rfl e9a)
                refine sV (Ah (o':=3) Ec rfl rfl) ?_ (hw:=wgT rfl e9a)
                have q1aq:=((q8f.ext E2a).ext E3a).ext F1a
                refine sV (As AG rfl q1aq (by simp only [List.drop_succ_cons,List.drop_zero,List.take_succ_cons,List.take_zero];rfl) rfl) ?_ (hw:=wgT rfl e9a)
                have n2aq:=((n9f.ext E2a).ext E3a).ext F1a
                obtain ⟨r0m,h3aq,f4aq⟩:=Ab f0aq
                refine sc (Ae KE (by rfl)) (En r2e.1 r0a.1.Hi A7l c8l A6a c7a w3a1 (tbx X1q hT) (n0a1.ext F1a) n2aq r0m h3aq) ?_ (hw:=wgT rfl e9a)
                rintro _ w2q E5aq rfl
                refine nrm ?_
                refine sb (Fj rfl) ?_ (hw:=wgT rfl e9a)
                intro z3q hz3q
                refine nrm ?_
                refine sV (AD (evb rfl e9a) rfl) ?_
                obtain rfl:z3q=decide (¬(r0m=true)):=bz hz3q
                obtain rfl:=sj f4aq
                exact HJ576 _ _ ⟨(.agg #[.bool r2e.1.Man.Neg,.slice A7l (sz r2e.1.Man.Abs) c8l,.int .i64 r2e.1.Exp]),(.pointer (some ⟨b6f,3,none⟩)),(.agg #[.bool r0a.1.Hi.Man.Neg,.slice A6a (sz r0a.1.Hi.Man.Abs) c7a,.int .i64 r0a.1.Hi.Exp]),(.bool r0m),(.bool (decide (¬(r0m=true)))),((UpdS.refl _ _).ext E5aq),(by simp only [S0,S1]<;>rfl)⟩
              ·rintro l' w2q ⟨t0a2,t1a2,t2a2,t3a2,t4a2,U4a,hq'⟩ l'' hl
               rw [hq'] at hl
               clear hq'
               simp only [S0,S1] at hl
               subst hl
               have X1m:=Gu X1q U4a (X1q).size al0
               refine Ad<|h6a1 _ _ ?_
               rcases bft m7a1 with e5i | e5i
               ·have p6aq:=e5i
                have f7aq:=ifP p6aq f9a1
                refine wp_cond_true (Am (evb rfl e5i))<|wp_seq_k fun K5a2 h5a2=>Ai<|sV (Ac rfl) ?_
                refine Ad<|h5a2 _ _<|wp_ret ?_
                obtain rfl:=sj f7aq
                exact fin rfl (Res.tmp rfl Res.nil) (An X1m rfl)
               ·have p8aq:=bF e5i
                have f9aq:=ifN p8aq f9a1
                refine wp_cond_false (Am (evb rfl e5i))<|wp_skip<|h5a1 _ _<|Ai<|sV (Aa rfl) ?_
                refine sV (Aa rfl) ?_
                obtain ⟨m6a2,h7a2,f0ar⟩:=Ab f9aq
                refine BJ 7 (fun l l' w'=>∃(t8a2:Value) (t9a2:Value) (t0a3:Value) (t1a3:Value),UpdS [] w2q w'∧l'=(((((l.set 138 t8a2).set 139 t9a2).set 140 t0a3).set 141 t1a3).set 142 (.bool m6a2))) ?_ ?_
                ·intro HJ622
                 rcases bft r3a0 with e5b | e5b
                 ·have p1ar:=e5b
                  have f2ar:=ifP p1ar h7a2
                  refine sP ?_ (hw:=wgF rfl e5b)
                  refine sP ?_ (hw:=wgF rfl e5b)
                  refine sP ?_ (hw:=wgF rfl e5b)
                  refine sP ?_ (hw:=wgF rfl e5b)
                  refine sV (Az (evb rfl e5b) rfl) ?_
                  obtain rfl:=sj f2ar
                  exact HJ622 _ _ ⟨uu,uu,uu,uu,(UpdS.refl _ _),(by simp only [S0,S1]<;>rfl)⟩
                 ·have p3ar:=bF e5b
                  have f4ar:=ifN p3ar h7a2
                  refine sV (Al AG rfl (q4a1.updS U4a nm0) rfl) ?_ (hw:=wgT rfl e5b)
                  refine sV (Ah (o':=3) Ec rfl rfl) ?_ (hw:=wgT rfl e5b)
                  have q5ar:=(((q8f.ext E2a).ext E3a).ext F1a).updS U4a nm0
                  refine sV (As AG rfl q5ar (by simp only [List.drop_succ_cons,List.drop_zero,List.take_succ_cons,List.take_zero];rfl) rfl) ?_ (hw:=wgT rfl e5b)
                  have n6ar:=(((n9f.ext E2a).ext E3a).ext F1a).updS U4a al0
                  obtain ⟨r2a3,h7ar,f8ar⟩:=Ab f4ar
                  refine sc (Ae Jk (by rfl)) (BE r2e.1 r0a.1.Hi A7l c8l A6a c7a w2q (tbx X1m hT) ((n0a1.ext F1a).updS U4a al0) n6ar r2a3 h7ar) ?_ (hw:=wgT rfl e5b)
                  rintro _ w3a3 E9ar rfl
                  refine nrm ?_
                  refine sV (AD (evb rfl e5b) rfl) ?_
                  obtain rfl:=sj f8ar
                  exact HJ622 _ _ ⟨(.agg #[.bool r2e.1.Man.Neg,.slice A7l (sz r2e.1.Man.Abs) c8l,.int .i64 r2e.1.Exp]),(.pointer (some ⟨b6f,3,none⟩)),(.agg #[.bool r0a.1.Hi.Man.Neg,.slice A6a (sz r0a.1.Hi.Man.Abs) c7a,.int .i64 r0a.1.Hi.Exp]),(.bool r2a3),((UpdS.refl _ _).ext E9ar),(by simp only [S0,S1]<;>rfl)⟩
                ·rintro l' w3a3 ⟨t8a2,t9a2,t0a3,t1a3,U9b,hq'⟩ l'' hl
                 rw [hq'] at hl
                 clear hq'
                 simp only [S0,S1] at hl
                 subst hl
                 have X4a3:=Gu X1m U9b (X1m).size al0
                 refine sV (Ac rfl) ?_
                 refine Ad<|h7a0 _ _<|Ai<|sV (Aa rfl) ?_
                 refine sV (BC (c:=2) rfl rfl (by decide)) ?_
                 refine sV (Ac rfl) ?_
                 refine Ad<|BL<|wp_seq_k fun K5a3 h5a3=>wp_seq_k fun K6a3 h6a3=>Ai<|sV (Aa rfl) ?_
                 refine sV (Gs (v:=.bool true) (Cr rfl rfl) (by rfl)) ?_
                 refine Ad<|h6a3 _ _<|wp_cond_true (Am (evb rfl rfl))<|wp_skip<|h5a3 _ _<|wp_seq_k fun K7a3 h7a3=>?_
                 apply wp_block
                 refine wp_seq_k fun K8a3 h8a3=>Ai<|sV (Aa rfl) ?_
                 refine sV (Aa rfl) ?_
                 refine sV (DG (o':=6) EV BX rfl rfl (by decide) (by decide) (by decide)) ?_
                 have q9a3:=(((q9a0.ext E3a).ext F1a).updS U4a nm0).updS U9b nm0
                 refine sV (As AG rfl q9a3 (by simp only [List.drop_succ_cons,List.drop_zero,List.take_succ_cons,List.take_zero];rfl) rfl) ?_
                 refine sV (Aa rfl) ?_
                 have n0as:=(((((((((n1am.ext E9d).ext E1d).ext E0e).ext F4c).updS U1e al0).ext E2a).ext E3a).ext F1a).updS U4a al0).updS U9b al0
                 obtain ⟨r3e,h1as,f2as⟩:=Ab f0ar
                 refine sc (Ae Jh (by rfl)) (EF (⟨(⟨r9c.Man.Neg,(limbs r9c.Man.Abs)⟩:AC),r9c.Exp⟩:Ao) x2 4 A2p c3p w3a3 (tbx X4a3 hT) n0as r3e h1as) ?_
                 rintro _ w1b1 E5c ⟨A2m,c3m,rfl,n0a4⟩
                 refine nrm ?_
                 have X1a4:=xtr X4a3 E5c
                 refine sV (Aa rfl) ?_
                 refine sV (Ax rfl rfl) ?_
                 refine sV (Ax rfl rfl) ?_
                 refine AA Dx fun b2b1 w3b1 E3as g2a4 q4as=>?_
                 refine nrm ?_
                 have g4b1:=nlt X1a4.size g2a4
                 refine AB BX rfl rfl q4as rfl rfl rfl rfl (by simp only [SP0,SP1,S0,S1,Nat.reduceAdd];rfl) fun w3a4 U5as q4a4=>?_
                 have F6b:=AO E3as U5as g2a4
                 have X4q:=xtr X1a4 F6b
                 refine sV (Ac rfl) ?_
                 refine Ad<|h8a3 _ _<|wp_seq_k fun K5a4 h5a4=>wp_seq_k fun K6a4 h6a4=>Ai<|sV (Aa rfl) ?_
                 refine sb (Fp rfl rfl) fun z4m hz4m=>?_
                 refine nrm ?_
                 refine sV (Aa rfl) ?_
                 obtain ⟨m7a4,h8a4,f9a4⟩:=Ab f2as
                 refine BJ 9 (fun l l' w'=>∃(t0a5:Value) (t1a5:Value) (t2a5:Value) (t3a5:Value) (t4a5:Value),UpdS [] w3a4 w'∧l'=((((((l.set 130 t0a5).set 131 t1a5).set 132 t2a5).set 133 t3a5).set 134 t4a5).set 135 (.bool m7a4))) ?_ ?_
                 ·intro HJ685
                  rcases bft z4m with e0b | e0b
                  ·have p6as:=zP hz4m e0b
                   have f7as:=ifP p6as h8a4
                   refine sP ?_ (hw:=wgF rfl e0b)
                   refine sP ?_ (hw:=wgF rfl e0b)
                   refine sP ?_ (hw:=wgF rfl e0b)
                   refine sP ?_ (hw:=wgF rfl e0b)
                   refine sP ?_ (hw:=wgF rfl e0b)
                   refine sV (Az (evb rfl e0b) rfl) ?_
                   obtain rfl:=sj f7as
                   exact HJ685 _ _ ⟨uu,uu,uu,uu,uu,(UpdS.refl _ _),(by simp only [S0,S1]<;>rfl)⟩
                  ·have p8as:=zN hz4m e0b
                   have f9as:=ifN p8as h8a4
                   refine sV (Al AG rfl q4a4 rfl) ?_ (hw:=wgT rfl e0b)
                   refine sV (Ah (o':=3) Ec rfl rfl) ?_ (hw:=wgT rfl e0b)
                   have q0at:=((((((q8f.ext E2a).ext E3a).ext F1a).updS U4a nm0).updS U9b nm0).ext E5c).ext F6b
                   refine sV (As AG rfl q0at (by simp only [List.drop_succ_cons,List.drop_zero,List.take_succ_cons,List.take_zero];rfl) rfl) ?_ (hw:=wgT rfl e0b)
                   have n1at:=((((((n9f.ext E2a).ext E3a).ext F1a).updS U4a al0).updS U9b al0).ext E5c).ext F6b
                   obtain ⟨r5m,h2at,f3at⟩:=Ab f9as
                   refine sc (Ae KE (by rfl)) (En r3e.1 r0a.1.Hi A2m c3m A6a c7a w3a4 (tbx X4q hT) (n0a4.ext F6b) n1at r5m h2at) ?_ (hw:=wgT rfl e0b)
                   rintro _ w5q E4at rfl
                   refine nrm ?_
                   refine sb (Fj rfl) ?_ (hw:=wgT rfl e0b)
                   intro z6q hz6q
                   refine nrm ?_
                   refine sV (AD (evb rfl e0b) rfl) ?_
                   obtain rfl:z6q=decide (¬(r5m=true)):=bz hz6q
                   obtain rfl:=sj f3at
                   exact HJ685 _ _ ⟨(.agg #[.bool r3e.1.Man.Neg,.slice A2m (sz r3e.1.Man.Abs) c3m,.int .i64 r3e.1.Exp]),(.pointer (some ⟨b6f,3,none⟩)),(.agg #[.bool r0a.1.Hi.Man.Neg,.slice A6a (sz r0a.1.Hi.Man.Abs) c7a,.int .i64 r0a.1.Hi.Exp]),(.bool r5m),(.bool (decide (¬(r5m=true)))),((UpdS.refl _ _).ext E4at),(by simp only [S0,S1]<;>rfl)⟩
                 ·rintro l' w5q ⟨t0a5,t1a5,t2a5,t3a5,t4a5,U6c,hq'⟩ l'' hl
                  rw [hq'] at hl
                  clear hq'
                  simp only [S0,S1] at hl
                  subst hl
                  have X6m:=Gu X4q U6c (X4q).size al0
                  refine Ad<|h6a4 _ _ ?_
                  rcases bft m7a4 with e6i | e6i
                  ·have p5at:=e6i
                   have f6at:=ifP p5at f9a4
                   refine wp_cond_true (Am (evb rfl e6i))<|wp_seq_k fun K5a5 h5a5=>Ai<|sV (Ac rfl) ?_
                   refine Ad<|h5a5 _ _<|wp_ret ?_
                   obtain rfl:=sj f6at
                   exact fin rfl (Res.tmp rfl Res.nil) (An X6m rfl)
                  ·have p7at:=bF e6i
                   have f8at:=ifN p7at f9a4
                   refine wp_cond_false (Am (evb rfl e6i))<|wp_skip<|h5a4 _ _<|Ai<|sV (Aa rfl) ?_
                   refine sV (Aa rfl) ?_
                   obtain ⟨m6a5,h7a5,f9at⟩:=Ab f8at
                   refine BJ 7 (fun l l' w'=>∃(t8a5:Value) (t9a5:Value) (t0a6:Value) (t1a6:Value),UpdS [] w5q w'∧l'=(((((l.set 138 t8a5).set 139 t9a5).set 140 t0a6).set 141 t1a6).set 142 (.bool m6a5))) ?_ ?_
                   ·intro HJ731
                    rcases bft m6a2 with e7b | e7b
                    ·have p0au:=e7b
                     have f1au:=ifP p0au h7a5
                     refine sP ?_ (hw:=wgF rfl e7b)
                     refine sP ?_ (hw:=wgF rfl e7b)
                     refine sP ?_ (hw:=wgF rfl e7b)
                     refine sP ?_ (hw:=wgF rfl e7b)
                     refine sV (Az (evb rfl e7b) rfl) ?_
                     obtain rfl:=sj f1au
                     exact HJ731 _ _ ⟨uu,uu,uu,uu,(UpdS.refl _ _),(by simp only [S0,S1]<;>rfl)⟩
                    ·have p2au:=bF e7b
                     have f3au:=ifN p2au h7a5
                     refine sV (Al AG rfl (q4a4.updS U6c nm0) rfl) ?_ (hw:=wgT rfl e7b)
                     refine sV (Ah (o':=3) Ec rfl rfl) ?_ (hw:=wgT rfl e7b)
                     have q4au:=(((((((q8f.ext E2a).ext E3a).ext F1a).updS U4a nm0).updS U9b nm0).ext E5c).ext F6b).updS U6c nm0
                     refine sV (As AG rfl q4au (by simp only [List.drop_succ_cons,List.drop_zero,List.take_succ_cons,List.take_zero];rfl) rfl) ?_ (hw:=wgT rfl e7b)
                     have n5au:=(((((((n9f.ext E2a).ext E3a).ext F1a).updS U4a al0).updS U9b al0).ext E5c).ext F6b).updS U6c al0
                     obtain ⟨r2a6,h6au,f7au⟩:=Ab f3au
                     refine sc (Ae Jk (by rfl)) (BE r3e.1 r0a.1.Hi A2m c3m A6a c7a w5q (tbx X6m hT) ((n0a4.ext F6b).updS U6c al0) n5au r2a6 h6au) ?_ (hw:=wgT rfl e7b)
                     rintro _ w3a6 E8au rfl
                     refine nrm ?_
                     refine sV (AD (evb rfl e7b) rfl) ?_
                     obtain rfl:=sj f7au
                     exact HJ731 _ _ ⟨(.agg #[.bool r3e.1.Man.Neg,.slice A2m (sz r3e.1.Man.Abs) c3m,.int .i64 r3e.1.Exp]),(.pointer (some ⟨b6f,3,none⟩)),(.agg #[.bool r0a.1.Hi.Man.Neg,.slice A6a (sz r0a.1.Hi.Man.Abs) c7a,.int .i64 r0a.1.Hi.Exp]),(.bool r2a6),((UpdS.refl _ _).ext E8au),(by simp only [S0,S1]<;>rfl)⟩
                   ·rintro l' w3a6 ⟨t8a5,t9a5,t0a6,t1a6,U0g,hq'⟩ l'' hl
                    rw [hq'] at hl
                    clear hq'
                    simp only [S0,S1] at hl
                    subst hl
                    have X4a6:=Gu X6m U0g (X6m).size al0
                    refine sV (Ac rfl) ?_
                    refine Ad<|h7a3 _ _<|Ai<|sV (Aa rfl) ?_
                    refine sV (BC (c:=3) rfl rfl (by decide)) ?_
                    refine sV (Ac rfl) ?_
                    refine Ad<|BL<|wp_seq_k fun K5a6 h5a6=>wp_seq_k fun K6a6 h6a6=>Ai<|sV (Aa rfl) ?_
                    refine sV (Gs (v:=.bool true) (Cr rfl rfl) (by rfl)) ?_
                    refine Ad<|h6a6 _ _<|wp_cond_true (Am (evb rfl rfl))<|wp_skip<|h5a6 _ _<|wp_seq_k fun K7a6 h7a6=>?_
                    apply wp_block
                    refine wp_seq_k fun K8a6 h8a6=>Ai<|sV (Aa rfl) ?_
                    refine sV (Aa rfl) ?_
                    refine sV (DG (o':=9) EV BX rfl rfl (by decide) (by decide) (by decide)) ?_
                    have q9au:=(((q9a3.ext E5c).ext F6b).updS U6c nm0).updS U0g nm0
                    refine sV (As AG rfl q9au (by simp only [List.drop_succ_cons,List.drop_zero,List.take_succ_cons,List.take_zero];rfl) rfl) ?_
                    refine sV (Aa rfl) ?_
                    have n0av:=((((((((((((n7am.ext E1d).ext E0e).ext F4c).updS U1e al0).ext E2a).ext E3a).ext F1a).updS U4a al0).updS U9b al0).ext E5c).ext F6b).updS U6c al0).updS U0g al0
                    obtain ⟨r4e,h1av,f2av⟩:=Ab f9at
                    refine sc (Ae Jh (by rfl)) (EF (⟨(⟨r0d.Man.Neg,(limbs r0d.Man.Abs)⟩:AC),r0d.Exp⟩:Ao) x2 4 A4p c5p w3a6 (tbx X4a6 hT) n0av r4e h1av) ?_
                    rintro _ w5b1 E7i ⟨A7m,c8m,rfl,n9a6⟩
                    refine nrm ?_
                    have X0a7:=xtr X4a6 E7i
                    refine sV (Aa rfl) ?_
                    refine sV (Ax rfl rfl) ?_
                    refine sV (Ax rfl rfl) ?_
                    refine AA Dx fun b6b1 w7b1 E3av g1a7 q4av=>?_
                    refine nrm ?_
                    have g8b1:=nlt X0a7.size g1a7
                    refine AB BX rfl rfl q4av rfl rfl rfl rfl (by simp only [SP0,SP1,S0,S1,Nat.reduceAdd];rfl) fun w2h U5av q2a7=>?_
                    have F1g:=AO E3av U5av g1a7
                    have X7q:=xtr X0a7 F1g
                    refine sV (Ac rfl) ?_
                    refine Ad<|h8a6 _ _<|wp_seq_k fun K3a7 h3a7=>wp_seq_k fun K4a7 h4a7=>Ai<|sV (Aa rfl) ?_
                    refine sb (Fp rfl rfl) fun z9m hz9m=>?_
                    refine nrm ?_
                    refine sV (Aa rfl) ?_
                    obtain ⟨m5a7,h6a7,f7a7⟩:=Ab f2av
                    refine BJ 9 (fun l l' w'=>∃(t8a7:Value) (t9a7:Value) (t0a8:Value) (t1a8:Value) (t2a8:Value),UpdS [] w2h w'∧l'=((((((l.set 130 t8a7).set 131 t9a7).set 132 t0a8).set 133 t1a8).set 134 t2a8).set 135 (.bool m5a7))) ?_ ?_
                    ·intro HJ794
                     rcases bft z9m with e1b | e1b
                     ·have p6av:=zP hz9m e1b
                      have f7av:=ifP p6av h6a7
                      refine sP ?_ (hw:=wgF rfl e1b)
                      refine sP ?_ (hw:=wgF rfl e1b)
                      refine sP ?_ (hw:=wgF rfl e1b)
                      refine sP ?_ (hw:=wgF rfl e1b)
                      refine sP ?_ (hw:=wgF rfl e1b)
                      refine sV (Az (evb rfl e1b) rfl) ?_
                      obtain rfl:=sj f7av
                      exact HJ794 _ _ ⟨uu,uu,uu,uu,uu,(UpdS.refl _ _),(by simp only [S0,S1]<;>rfl)⟩
                     ·have p8av:=zN hz9m e1b
                      have f9av:=ifN p8av h6a7
                      refine sV (Al AG rfl q2a7 rfl) ?_ (hw:=wgT rfl e1b)
                      refine sV (Ah (o':=3) Ec rfl rfl) ?_ (hw:=wgT rfl e1b)
                      have q0aw:=((((((((((q8f.ext E2a).ext E3a).ext F1a).updS U4a nm0).updS U9b nm0).ext E5c).ext F6b).updS U6c nm0).updS U0g nm0).ext E7i).ext F1g
                      refine sV (As AG rfl q0aw (by simp only [List.drop_succ_cons,List.drop_zero,List.take_succ_cons,List.take_zero];rfl) rfl) ?_ (hw:=wgT rfl e1b)
                      have n1aw:=((((((((((n9f.ext E2a).ext E3a).ext F1a).updS U4a al0).updS U9b al0).ext E5c).ext F6b).updS U6c al0).updS U0g al0).ext E7i).ext F1g
                      obtain ⟨r0n,h2aw,f3aw⟩:=Ab f9av
                      refine sc (Ae KE (by rfl)) (En r4e.1 r0a.1.Hi A7m c8m A6a c7a w2h (tbx X7q hT) (n9a6.ext F1g) n1aw r0n h2aw) ?_ (hw:=wgT rfl e1b)
                      rintro _ w3g E4aw rfl
                      refine nrm ?_
                      refine sb (Fj rfl) ?_ (hw:=wgT rfl e1b)
                      intro z8q hz8q
                      refine nrm ?_
                      refine sV (AD (evb rfl e1b) rfl) ?_
                      obtain rfl:z8q=decide (¬(r0n=true)):=bz hz8q
                      obtain rfl:=sj f3aw
                      exact HJ794 _ _ ⟨(.agg #[.bool r4e.1.Man.Neg,.slice A7m (sz r4e.1.Man.Abs) c8m,.int .i64 r4e.1.Exp]),(.pointer (some ⟨b6f,3,none⟩)),(.agg #[.bool r0a.1.Hi.Man.Neg,.slice A6a (sz r0a.1.Hi.Man.Abs) c7a,.int .i64 r0a.1.Hi.Exp]),(.bool r0n),(.bool (decide (¬(r0n=true)))),((UpdS.refl _ _).ext E4aw),(by simp only [S0,S1]<;>rfl)⟩
                    ·rintro l' w3g ⟨t8a7,t9a7,t0a8,t1a8,t2a8,U8i,hq'⟩ l'' hl
                     rw [hq'] at hl
                     clear hq'
                     simp only [S0,S1] at hl
                     subst hl
                     have X1n:=Gu X7q U8i (X7q).size al0
                     refine Ad<|h4a7 _ _ ?_
                     rcases bft m5a7 with e9i | e9i
                     ·have p5aw:=e9i
                      have f6aw:=ifP p5aw f7a7
                      refine wp_cond_true (Am (evb rfl e9i))<|wp_seq_k fun K3a8 h3a8=>Ai<|sV (Ac rfl) ?_
                      refine Ad<|h3a8 _ _<|wp_ret ?_
                      obtain rfl:=sj f6aw
                      exact fin rfl (Res.tmp rfl Res.nil) (An X1n rfl)
                     ·have p7aw:=bF e9i
                      have f8aw:=ifN p7aw f7a7
                      refine wp_cond_false (Am (evb rfl e9i))<|wp_skip<|h3a7 _ _<|Ai<|sV (Aa rfl) ?_
                      refine sV (Aa rfl) ?_
                      obtain ⟨m4a8,h5a8,f9aw⟩:=Ab f8aw
                      refine BJ 7 (fun l l' w'=>∃(t6a8:Value) (t7a8:Value) (t8a8:Value) (t9a8:Value),UpdS [] w3g w'∧l'=(((((l.set 138 t6a8).set 139 t7a8).set 140 t8a8).set 141 t9a8).set 142 (.bool m4a8))) ?_ ?_
                      ·intro HJ840
                       rcases bft m6a5 with e8b | e8b
                       ·have p0ax:=e8b
                        have f1ax:=ifP p0ax h5a8
                        refine sP ?_ (hw:=wgF rfl e8b)
                        refine sP ?_ (hw:=wgF rfl e8b)
                        refine sP ?_ (hw:=wgF rfl e8b)
                        refine sP ?_ (hw:=wgF rfl e8b)
                        refine sV (Az (evb rfl e8b) rfl) ?_
                        obtain rfl:=sj f1ax
                        exact HJ840 _ _ ⟨uu,uu,uu,uu,(UpdS.refl _ _),(by simp only [S0,S1]<;>rfl)⟩
                       ·have p2ax:=bF e8b
                        have f3ax:=ifN p2ax h5a8
                        refine sV (Al AG rfl (q2a7.updS U8i nm0) rfl) ?_ (hw:=wgT rfl e8b)
                        refine sV (Ah (o':=3) Ec rfl rfl) ?_ (hw:=wgT rfl e8b)
                        have q4ax:=(((((((((((q8f.ext E2a).ext E3a).ext F1a).updS U4a nm0).updS U9b nm0).ext E5c).ext F6b).updS U6c nm0).updS U0g nm0).ext E7i).ext F1g).updS U8i nm0
                        refine sV (As AG rfl q4ax (by simp only [List.drop_succ_cons,List.drop_zero,List.take_succ_cons,List.take_zero];rfl) rfl) ?_ (hw:=wgT rfl e8b)
                        have n5ax:=(((((((((((n9f.ext E2a).ext E3a).ext F1a).updS U4a al0).updS U9b al0).ext E5c).ext F6b).updS U6c al0).updS U0g al0).ext E7i).ext F1g).updS U8i al0
                        obtain ⟨r0a9,h6ax,f7ax⟩:=Ab f3ax
                        refine sc (Ae Jk (by rfl)) (BE r4e.1 r0a.1.Hi A7m c8m A6a c7a w3g (tbx X1n hT) ((n9a6.ext F1g).updS U8i al0) n5ax r0a9 h6ax) ?_ (hw:=wgT rfl e8b)
                        rintro _ w4j E8ax rfl
                        refine nrm ?_
                        refine sV (AD (evb rfl e8b) rfl) ?_
                        obtain rfl:=sj f7ax
                        exact HJ840 _ _ ⟨(.agg #[.bool r4e.1.Man.Neg,.slice A7m (sz r4e.1.Man.Abs) c8m,.int .i64 r4e.1.Exp]),(.pointer (some ⟨b6f,3,none⟩)),(.agg #[.bool r0a.1.Hi.Man.Neg,.slice A6a (sz r0a.1.Hi.Man.Abs) c7a,.int .i64 r0a.1.Hi.Exp]),(.bool r0a9),((UpdS.refl _ _).ext E8ax),(by simp only [S0,S1]<;>rfl)⟩
                      ·rintro l' w4j ⟨t6a8,t7a8,t8a8,t9a8,U9ax,hq'⟩ l'' hl
                       rw [hq'] at hl
                       clear hq'
                       simp only [S0,S1] at hl
                       subst hl
                       have X1a9:=Gu X1n U9ax (X1n).size al0
                       refine sV (Ac rfl) ?_
                       refine Ad<|h7a6 _ _<|Ai<|sV (Aa rfl) ?_
                       refine sV (BC (c:=4) rfl rfl (by decide)) ?_
                       refine sV (Ac rfl) ?_
                       refine Ad<|BL<|wp_seq_k fun K0ay h0ay=>wp_seq_k fun K2a9 h2a9=>Ai<|sV (Aa rfl) ?_
                       refine sV (Gs (v:=.bool false) (Cr rfl rfl) (by rfl)) ?_
                       refine Ad<|h2a9 _ _<|wp_cond_false (Am (evb rfl rfl))<|wp_exit ?_
                       simp only [Exit.then,Exit.inBlock,↓reduceIte,Nat.reduceEqDiff]
                       refine h2y _ _<|wp_seq_k fun K3a9 h3a9=>Ai ?_
                       obtain ⟨r4a9,h1ay,f2ay⟩:=Ab f9aw
                       refine sc (Ae en_7 (by rfl)) (FN w4j (tbx X1a9 hT)  r4a9 h1ay) ?_
                       rintro _ w3f E3ay rfl
                       refine nrm ?_
                       have X4ay:=xtr X1a9 E3ay
                       refine sV (Aa rfl) ?_
                       obtain ⟨m5ay,h5a9,f6ay⟩:=Ab f2ay
                       refine BJ 4 (fun l l' w'=>∃(t6a9:Value),w3f=w'∧l'=((l.set 145 t6a9).set 146 (.bool m5ay))) ?_ ?_
                       ·intro HJ872
                        rcases bft r4a9 with e2g | e2g
                        ·have p7ay:=e2g
                         have f8ay:=ifP p7ay h5a9
                         refine sV (Aa rfl) ?_ (hw:=wgT rfl e2g)
                         refine sV (Az (evb rfl e2g) rfl) ?_
                         obtain rfl:=sj f8ay
                         exact HJ872 _ _ ⟨(.bool m4a8),rfl,(by simp only [S0,S1]<;>rfl)⟩
                        ·have p9ay:=bF e2g
                         have f0az:=ifN p9ay h5a9
                         refine sP ?_ (hw:=wgF rfl e2g)
                         refine sV (AD (evb rfl e2g) rfl) ?_
                         obtain rfl:=sj f0az
                         exact HJ872 _ _ ⟨uu,rfl,(by simp only [S0,S1]<;>rfl)⟩
                       ·rintro l' _ ⟨t6a9,rfl,hq'⟩ l'' hl
                        rw [hq'] at hl
                        clear hq'
                        simp only [S0,S1] at hl
                        subst hl
                        refine sV (Ac rfl) ?_
                        refine Ad<|h3a9 _ _<|wp_ret ?_
                        obtain rfl:=sj f6ay
                        exact fin rfl (Res.tmp rfl Res.nil) (An X4ay rfl)
end Go.Proofs

