import Derived.Test.YtabiobmfelafoaaDoorGen1
namespace Go.Proofs
set_option linter.unusedVariables false
set_option linter.unusedSimpArgs false
set_option maxHeartbeats 4000000
open Go.RowKit Go.Sb Go.Proofs.Sbn
theorem Js (x0:Ah) (x1:Ah) (x2:Int) (x3:Int) (A1:Option Addr) (c2:Nat) (A4:Option Addr) (c5:Nat) (w:World) (hT:TB w) (n3:RU w A1 c2 x0.m.Abs) (n6:RU w A4 c5 x1.m.Abs) (r:Ah) (hr:FY x0 x1 x2 x3=some r) :
  Calls Tryd.prog 53 #[.agg #[.bool x0.m.Neg,.slice A1 (sz x0.m.Abs) c2,.int .i64 x0.e],.agg #[.bool x1.m.Neg,.slice A4 (sz x1.m.Abs) c5,.int .i64 x1.e],.int .i64 x2,.int .i64 x3] w (Ret GF w r):=by
 unfold FY at hr
 go_enter Tryd.func53,Tryd.ntmps53
 refine wp_seq_k fun K7 h7=>Ai<|Bu rfl rfl fun b8 w1 E9 g6c q5b=>?_
 refine nrm ?_
 refine Bu rfl rfl fun b9e w2 E7b g4d q6b=>?_
 refine nrm ?_
 have g7c:=nlt E9.size g4d
 have X8c:=xtr E9 E7b
 refine AB BD fun b0f w3 E1b g1c q4c=>?_
 refine nrm ?_
 have g1f:=nlt X8c.size g1c
 have X2f:=xtr X8c E1b
 refine Ad<|h7 _ _<|wp_seq_k fun K5i h5i=>wp_seq_k fun K6i h6i=>Ai<|sV (Al AD rfl ((q5b.ext E7b).ext E1b) rfl) ?_
 refine sV (Al AD rfl (q6b.ext E1b) rfl) ?_
 obtain ⟨r1g,h1o,f7i⟩:=Ab hr
 refine sc (Ae en_34 (by rfl)) (c_dyad_near x0 x1 A1 c2 A4 c5 w3 (tbx X2f hT) (n3.ext X2f) (n6.ext X2f) r1g h1o) ?_
 rintro _ w4 E6a rfl
 refine nrm ?_
 have X5d:=xtr X2f E6a
 refine Ad<|h6i _ _ ?_
 rcases bft r1g with e6d | e6d
 ·have p2o:=e6d
  have f3o:=ifP p2o f7i
  refine wp_cond_true (Am (evb rfl e6d))<|wp_seq_k fun K8i h8i=>Ai<|have q4o:=((q5b.ext E7b).ext E1b).ext E6a;sV (Al AD rfl q4o rfl) ?_
  refine sV (Al AD rfl ((q6b.ext E1b).ext E6a) rfl) ?_
  obtain ⟨r9i,h5o,f6o⟩:=Ab f3o
  refine sc (Ae Mk (by rfl)) (Gk x0 x1 A1 c2 A4 c5 w4 (tbx X5d hT) (n3.ext X5d) (n6.ext X5d) r9i h5o) ?_
  rintro _ w5 E0j ⟨A7o,c8o,rfl,n9o⟩
  refine nrm ?_
  have X1j:=xtr X5d E0j
  refine sV (Aa rfl) ?_
  refine sV (Aa rfl) ?_
  obtain ⟨r0p,h1p,f2p⟩:=Ab f6o
  refine sc (Ae Iv (by rfl)) (CA r9i x2 x3 false A7o c8o w5 (tbx X1j hT) n9o r0p h1p) ?_
  rintro _ w6 E2j ⟨A3p,c4p,rfl,n5p⟩
  refine nrm ?_
  have X6p:=xtr X1j E2j
  have q3j:=((q4c.ext E6a).ext E0j).ext E2j
  refine AA Cx rfl rfl q3j rfl rfl rfl rfl (by simp only [SP0,SP1,S0,S1,Nat.reduceAdd];rfl) fun w7 U4j q7p=>?_
  have X8p:=AR X6p U4j g1f
  refine Ad<|h8i _ _<|wp_ret ?_
  obtain rfl:=sj f2p
  exact fin rfl (Res.cellN rfl AD q7p rfl rfl Res.nil) (Ap X8p ⟨A3p,c4p,rfl,(n5p.upd U4j q3j (by decide))⟩)
 ·have p9p:=bF e6d
  have f0q:=ifN p9p f7i
  refine wp_cond_false (Am (evb rfl e6d))<|wp_skip<|h5i _ _<|wp_seq_k fun K5j h5j=>wp_seq_k fun K6j h6j=>DS [] 5 mo rfl fun w5 E9a S2g=>have X3g:=xtr X5d E9a;dV 0 rfl (fun _ hw=>Al AD rfl (((((q5b.ext E7b).ext E1b).ext E6a).ext E9a).ext hw) rfl) S2g ?_
  refine dV 2 rfl (fun _ hw=>Al AD rfl ((((q6b.ext E1b).ext E6a).ext E9a).ext hw) rfl) S2g ?_
  obtain ⟨r7j,h1q,f2q⟩:=Ab f0q
  refine dc 1 rfl (by kernel_rfl) (by rfl) (Ae Jn (by rfl)) (Eh x0 A1 c2 w5 (tbx X3g hT) (n3.ext X3g) r7j h1q) ?_
  rintro _ w6 E2b rfl
  refine dnrm ?_
  have X4g:=xtr X3g E2b
  have S3q:=S2g.trans E2b
  obtain ⟨r8j,h4q,f5q⟩:=Ab f2q
  refine dc 3 rfl (by kernel_rfl) (by rfl) (Ae Jn (by rfl)) (Eh x1 A4 c5 w6 (tbx X4g hT) (n6.ext X4g) r8j h4q) ?_
  rintro _ w7 E3b rfl
  refine dnrm ?_
  have X7d:=xtr X4g E3b
  have S4z:=S3q.trans E3b
  refine dab 4 rfl (by kernel_rfl) (fun _ _ _ h=>h) (by rfl) (fun _=>CL rfl rfl) fun z8d hz8d=>?_
  refine dnrm ?_
  refine CF (by kernel_rfl) ?_
  refine h6j _ _ ?_
  obtain ⟨m0a,h9j,f6q⟩:=Ab f5q
  refine DR (fun l l' w'=>∃(t5g:Value) (t6g:Value) (A2c:Option Addr) (c3c:Nat) (A9d:Option Addr) (c0e:Nat),UpdS [b8,b9e] w7 w'∧Bx w' b8 63 [.bool m0a.1,.slice A2c (sz m0a.2.1) c3c,.int .i64 m0a.2.2.1]∧Bx w' b9e 63 [.bool m0a.2.2.2.1,.slice A9d (sz m0a.2.2.2.2.1) c0e,.int .i64 m0a.2.2.2.2.2]∧RU w' A2c c3c m0a.2.1∧RU w' A9d c0e m0a.2.2.2.2.1∧l'=((l.set 25 t5g).set 26 t6g)) ?_ ?_
  ·rcases bft z8d with e1e | e1e
   ·have p7q:=zP hz8d e1e
    have f8q:=ifP p7q h9j
    refine wp_cond_true (Am (evb rfl e1e))<|Ai<|have q0k:=((((q6b.ext E1b).ext E6a).ext E9a).ext E2b).ext E3b;sV (Al AD rfl q0k rfl) ?_
    have q1k:=(((((q5b.ext E7b).ext E1b).ext E6a).ext E9a).ext E2b).ext E3b
    refine sV (Al AD rfl q1k rfl) ?_
    refine AA Cx rfl rfl q1k rfl rfl rfl rfl (by simp only [SP0,SP1,S0,S1,Nat.reduceAdd];rfl) fun w8 U7g q9q=>?_
    have X0r:=AR X7d U7g g6c
    have ne2k:=(Bx.ne q5b g4d).symm
    refine AA Cx rfl rfl (q0k.upd U7g ne2k) rfl rfl rfl rfl (by simp only [SP0,SP1,S0,S1,Nat.reduceAdd];rfl) fun w9 U8g q1r=>?_
    have X3k:=AR X0r U8g g7c
    refine Ad ?_
    obtain rfl:=sj f8q
    exact ⟨_,rfl,(.agg #[.bool x1.m.Neg,.slice A4 (sz x1.m.Abs) c5,.int .i64 x1.e]),(.agg #[.bool x0.m.Neg,.slice A1 (sz x0.m.Abs) c2,.int .i64 x0.e]),A4,c5,A1,c2,(((UpdS.refl _ _).upd U7g (.inl im0)).upd U8g (.inl (imc im0))),(q9q.upd U8g (Ne.symm ne2k)),q1r,(n6.ext X3k),(n3.ext X3k),(by simp only [S0,S1]<;>rfl)⟩
   ·have p2r:=zN hz8d e1e
    have f3r:=ifN p2r h9j
    refine wp_cond_false (Am (evb rfl e1e))<|wp_skip ?_
    have q4r:=(((((q5b.ext E7b).ext E1b).ext E6a).ext E9a).ext E2b).ext E3b
    have q5r:=((((q6b.ext E1b).ext E6a).ext E9a).ext E2b).ext E3b
    obtain rfl:=sj f3r
    exact ⟨_,rfl,uu,uu,A1,c2,A4,c5,(UpdS.refl _ _),q4r,q5r,(n3.ext X7d),(n6.ext X7d),(by simp only [S0,S1]<;>rfl)⟩
  ·rintro l' w8 ⟨t5g,t6g,A2c,c3c,A9d,c0e,U5c,q2e,q3f,n9g,n6r,hq'⟩ l'' hl
   rw [hq'] at hl
   clear hq'
   simp only [S0,S1] at hl
   subst hl
   have X4k:=GS X7d U5c (X7d).size (alc g6c (alc g7c al0))
   refine h5j _ _<|wp_seq_k fun K5k h5k=>Ai<|sV (Aa rfl) ?_
   refine sV (Bv (c:=wi64 (x2+4)) rfl rfl rfl) ?_
   refine sV (Ag (o':=0) BF rfl rfl) ?_
   refine sV (Ag (o':=1) Bq rfl rfl) ?_
   refine sV (Ak DB rfl (Bx.cell q2e rfl)) ?_
   obtain ⟨r1a,h7r,f8r⟩:=Ab f6q
   refine sc (Ae JB (by rfl)) (CS m0a.2.1 A2c c3c w8 (tbx X4k hT) n9g r1a h7r) ?_
   rintro _ w9 E2a rfl
   refine nrm ?_
   have X9r:=xtr X4k E2a
   refine sV (Cq (c:=wi64 ((wi64 (x2+4)) - r1a)) rfl rfl rfl) ?_
   refine sV (KB rfl rfl) ?_
   refine sV (Ac rfl) ?_
   refine Ad<|h5k _ _<|wp_seq_k fun K6k h6k=>DS [10] 11 mo rfl fun w6c E3a S0h=>have X4f:=xtr X9r E3a;dA 0 rfl (fun _=>Ag (o':=0) BF rfl rfl) ?_
   refine dA 1 rfl (fun _=>Ag (o':=0) DT rfl rfl) ?_
   refine dV 2 rfl (fun _ hw=>Ak Gc rfl (Bx.cell (((q2e.ext E2a).ext E3a).ext hw) rfl)) S0h ?_
   refine dA 3 rfl (fun _=>Ag (o':=0) BF rfl rfl) ?_
   refine dA 4 rfl (fun _=>Ag (o':=1) Bq rfl rfl) ?_
   refine dV 5 rfl (fun _ hw=>Ak DB rfl (Bx.cell (((q2e.ext E2a).ext E3a).ext hw) rfl)) S0h ?_
   refine dA 6 rfl (fun _=>Aa rfl) ?_
   obtain ⟨r7a,h7k,f0s⟩:=Ab f8r
   refine LZ #[true,true,true,true,true,true,true,true,true,true,false] 1 (fun l' w'=>∃(A9b:Option Addr) (c0c:Nat) (b5f:Nat),Ext w6c w'∧RU w' A9b c0c r7a∧w6c.heap.size≤b5f∧Bx w' b5f 61 [.bool false,.slice none 0 0]∧l'=[.agg #[.bool x0.m.Neg,.slice A1 (sz x0.m.Abs) c2,.int .i64 x0.e],.agg #[.bool x1.m.Neg,.slice A4 (sz x1.m.Abs) c5,.int .i64 x1.e],.int .i64 x2,.int .i64 x3,.pointer (some ⟨b8,0,none⟩),.pointer (some ⟨b9e,0,none⟩),uu,uu,.pointer (some ⟨b0f,0,none⟩),.int .i64 (max 0 (wi64 ((wi64 (x2+4)) - r1a))),.pointer (some ⟨b5f,0,none⟩),.agg #[.bool x0.m.Neg,.slice A1 (sz x0.m.Abs) c2,.int .i64 x0.e],.agg #[.bool x1.m.Neg,.slice A4 (sz x1.m.Abs) c5,.int .i64 x1.e],.bool r1g,uu,uu,uu,uu,uu,uu,.agg #[.bool x0.m.Neg,.slice A1 (sz x0.m.Abs) c2,.int .i64 x0.e],.int .i64 r7j,.agg #[.bool x1.m.Neg,.slice A4 (sz x1.m.Abs) c5,.int .i64 x1.e],.int .i64 r8j,.bool z8d,t5g,t6g,.int .i64 x2,.int .i64 (wi64 (x2+4)),.pointer (some ⟨b8,0,none⟩),.pointer (some ⟨b8,1,none⟩),.slice A2c (sz m0a.2.1) c3c,.int .i64 r1a,.int .i64 (wi64 ((wi64 (x2+4)) - r1a)),.int .i64 (max 0 (wi64 ((wi64 (x2+4)) - r1a))),.pointer (some ⟨b8,0,none⟩),.pointer (some ⟨b8,0,none⟩),.bool m0a.1,.pointer (some ⟨b8,0,none⟩),.pointer (some ⟨b8,1,none⟩),.slice A2c (sz m0a.2.1) c3c,.int .i64 (max 0 (wi64 ((wi64 (x2+4)) - r1a))),.slice A9b (sz r7a) c0c,.agg #[.bool m0a.1,.slice A9b (sz r7a) c0c],uu,uu,uu,uu,uu,uu,uu,uu,uu,uu,uu,uu,uu,uu,uu,uu,uu,uu,uu,uu,uu,uu,uu,uu,uu,uu,uu,uu,uu,uu,uu,uu,uu,uu,uu,uu,uu,uu,uu,uu,uu,uu]) ?_ ?_
   ·rintro _ w5b ⟨A9b,c0c,b5f,E8a,n1h,g1s,q8b,rfl⟩
    have g2s:=nlt X4f.size g1s
    have X3s:=xtr X4f E8a
    have S5z:=S0h.trans E8a
    refine dk 10 rfl (by kernel_rfl) (by decide) (by rfl) FH rfl rfl q8b rfl rfl rfl rfl (by simp only [SP0,SP1,S0,S1,Nat.reduceAdd];rfl) fun w9e U4b q2h=>?_
    have X4s:=AR X3s U4b g2s
    refine CF (by kernel_rfl) ?_
    refine h6k _ _<|wp_seq_k fun K8k h8k=>Ai<|sV (Al Eu rfl q2h rfl) ?_
    refine sV (Ag (o':=2) CQ rfl rfl) ?_
    have ne3h:=(Bx.neT (((q2e.ext E2a).ext E3a).ext E8a) q8b (by decide))
    have q9c:=(((q2e.ext E2a).ext E3a).ext E8a).upd U4b ne3h
    refine sV (Ak Et rfl (Bx.cell q9c rfl)) ?_
    refine sV (Aa rfl) ?_
    refine sV (Cq (c:=wi64 (m0a.2.2.1 - (max 0 (wi64 ((wi64 (x2+4)) - r1a))))) rfl rfl rfl) ?_
    refine sV (AZ (vals:=[(0,.agg #[.bool m0a.1,.slice A9b (sz r7a) c0c]),(1,.int .i64 (wi64 (m0a.2.2.1 - (max 0 (wi64 ((wi64 (x2+4)) - r1a))))))]) (cells:=[.bool m0a.1,.slice A9b (sz r7a) c0c,.int .i64 (wi64 (m0a.2.2.1 - (max 0 (wi64 ((wi64 (x2+4)) - r1a)))))]) (by rfl) (by kernel_rfl)) ?_
    refine AA Cx rfl rfl q9c rfl rfl rfl rfl (by simp only [SP0,SP1,S0,S1,Nat.reduceAdd];rfl) fun w7b U0b q3e=>?_
    have X5s:=AR X4s U0b g6c
    refine Ad<|h8k _ _<|wp_seq_k fun K9k h9k=>wp_seq_k fun K0l h0l=>DS [] 6 mo rfl fun w4d E4a S4h=>have X1l:=xtr X5s E4a;have ne5h:=(Bx.neT (((q3f.ext E2a).ext E3a).ext E8a) q8b (by decide));have ne6h:=(Bx.ne q5b g4d).symm;dV 0 rfl (fun _ hw=>Al AD rfl (((((((q3f.ext E2a).ext E3a).ext E8a).upd U4b ne5h).upd U0b ne6h).ext E4a).ext hw) rfl) S4h ?_
    refine dA 2 rfl (fun _=>Ag (o':=2) CQ rfl rfl) ?_
    refine dV 3 rfl (fun _ hw=>Ak Et rfl (Bx.cell ((q3e.ext E4a).ext hw) rfl)) S4h ?_
    refine dA 4 rfl (fun _=>Cq (c:=wi64 ((wi64 (m0a.2.2.1 - (max 0 (wi64 ((wi64 (x2+4)) - r1a))))) - 1)) rfl rfl rfl) ?_
    have n2l:=(((((n6r.ext E2a).ext E3a).ext E8a).upd U4b q8b (by decide)).upd U0b q9c (by decide)).ext E4a
    obtain ⟨r6s,h7s,f3l⟩:=Ab f0s
    refine dc 1 rfl (by kernel_rfl) (by rfl) (Ae Jn (by rfl)) (Eh (⟨(⟨m0a.2.2.2.1,m0a.2.2.2.2.1⟩:Aj),m0a.2.2.2.2.2⟩:Ah) A9d c0e w4d (tbx X1l hT) n2l r6s h7s) ?_
    rintro _ w6b E5a rfl
    refine dnrm ?_
    have X4e:=xtr X1l E5a
    have S6z:=S4h.trans E5a
    refine dab 5 rfl (by kernel_rfl) (fun _ _ _ h=>h) (by rfl) (fun _=>FT rfl rfl) fun z6f hz6f=>?_
    refine dnrm ?_
    refine CF (by kernel_rfl) ?_
    refine h0l _ _ ?_
    rcases bft z6f with e5e | e5e
    ·have p8s:=zP hz6f e5e
     have f9s:=ifP p8s f3l
     refine wp_cond_true (Am (evb rfl e5e))<|wp_seq_k fun K4l h4l=>Ai<|sV (Al AD rfl ((q3e.ext E4a).ext E5a) rfl) ?_
     have q0t:=((((((q3f.ext E2a).ext E3a).ext E8a).upd U4b ne5h).upd U0b ne6h).ext E4a).ext E5a
     refine sV (Al AD rfl q0t rfl) ?_
     have n1t:=(((n1h.upd U4b q8b (by decide)).upd U0b q9c (by decide)).ext E4a).ext E5a
     obtain ⟨r5l,h2t,f3t⟩:=Ab f9s
     refine sc (Ae Mk (by rfl)) (Gk (⟨(⟨m0a.1,r7a⟩:Aj),(wi64 (m0a.2.2.1 - (max 0 (wi64 ((wi64 (x2+4)) - r1a)))))⟩:Ah) (⟨(⟨m0a.2.2.2.1,m0a.2.2.2.2.1⟩:Aj),m0a.2.2.2.2.2⟩:Ah) A9b c0c A9d c0e w6b (tbx X4e hT) n1t (n2l.ext E5a) r5l h2t) ?_
     rintro _ w7c E6l ⟨A4t,c5t,rfl,n6t⟩
     refine nrm ?_
     have X7l:=xtr X4e E6l
     refine sV (Aa rfl) ?_
     refine sV (Aa rfl) ?_
     obtain ⟨r7t,h8t,f9t⟩:=Ab f3t
     refine sc (Ae Iv (by rfl)) (CA r5l x2 x3 false A4t c5t w7c (tbx X7l hT) n6t r7t h8t) ?_
     rintro _ w8c E8l ⟨A0u,c1u,rfl,n2u⟩
     refine nrm ?_
     have X3u:=xtr X7l E8l
     have ne9l:=(Bx.ne q6b g1c).symm
     have ne7h:=(Bx.ne (q5b.ext E7b) g1c).symm
     have ne4u:=(Bx.neT ((((((((q4c.ext E6a).ext E9a).ext E2b).ext E3b).updS U5c (nmc ne7h (nmc ne9l nm0))).ext E2a).ext E3a).ext E8a) q8b (by decide))
     have q0m:=(((((((((((((q4c.ext E6a).ext E9a).ext E2b).ext E3b).updS U5c (nmc ne7h (nmc ne9l nm0))).ext E2a).ext E3a).ext E8a).upd U4b ne4u).upd U0b ne7h).ext E4a).ext E5a).ext E6l).ext E8l
     refine AA Cx rfl rfl q0m rfl rfl rfl rfl (by simp only [SP0,SP1,S0,S1,Nat.reduceAdd];rfl) fun w0f U1m q5u=>?_
     have X6u:=AR X3u U1m g1f
     refine Ad<|h4l _ _<|wp_ret ?_
     obtain rfl:=sj f9t
     exact fin rfl (Res.cellN rfl AD q5u rfl rfl Res.nil) (Ap X6u ⟨A0u,c1u,rfl,(n2u.upd U1m q0m (by decide))⟩)
    ·have p7u:=zN hz6f e5e
     have f2m:=ifN p7u f3l
     refine wp_cond_false (Am (evb rfl e5e))<|wp_skip<|h9k _ _<|wp_seq_k fun K3m h3m=>wp_seq_k fun K4m h4m=>Ai<|sV (Ag (o':=0) BF rfl rfl) ?_
     refine sV (Ag (o':=0) DT rfl rfl) ?_
     refine sV (Ak Gc rfl (Bx.cell ((q3e.ext E4a).ext E5a) rfl)) ?_
     refine sV (Ag (o':=0) BF rfl rfl) ?_
     refine sV (Ag (o':=0) DT rfl rfl) ?_
     have q8u:=((((((q3f.ext E2a).ext E3a).ext E8a).upd U4b ne5h).upd U0b ne6h).ext E4a).ext E5a
     refine sV (Ak Gc rfl (Bx.cell q8u rfl)) ?_
     refine sb (KQ LI rfl rfl) fun z7f hz7f=>?_
     refine nrm ?_
     refine Ad<|h4m _ _ ?_
     rcases bft z7f with e6e | e6e
     ·have p9u:=zP hz7f e6e
      have f0v:=ifP p9u f2m
      refine wp_cond_true (Am (evb rfl e6e))<|wp_seq_k fun K5m h5m=>Ai<|sV (Al AD rfl ((q3e.ext E4a).ext E5a) rfl) ?_
      refine sV (Aa rfl) ?_
      refine sV (Aa rfl) ?_
      have n1v:=(((n1h.upd U4b q8b (by decide)).upd U0b q9c (by decide)).ext E4a).ext E5a
      obtain ⟨r2v,h3v,f4v⟩:=Ab f0v
      refine sc (Ae Iv (by rfl)) (CA (⟨(⟨m0a.1,r7a⟩:Aj),(wi64 (m0a.2.2.1 - (max 0 (wi64 ((wi64 (x2+4)) - r1a)))))⟩:Ah) x2 x3 true A9b c0c w6b (tbx X4e hT) n1v r2v h3v) ?_
      rintro _ w7c E6m ⟨A5v,c6v,rfl,n7v⟩
      refine nrm ?_
      have X8v:=xtr X4e E6m
      have ne7m:=(Bx.ne q6b g1c).symm
      have ne8h:=(Bx.ne (q5b.ext E7b) g1c).symm
      have ne9v:=(Bx.neT ((((((((q4c.ext E6a).ext E9a).ext E2b).ext E3b).updS U5c (nmc ne8h (nmc ne7m nm0))).ext E2a).ext E3a).ext E8a) q8b (by decide))
      have q8m:=((((((((((((q4c.ext E6a).ext E9a).ext E2b).ext E3b).updS U5c (nmc ne8h (nmc ne7m nm0))).ext E2a).ext E3a).ext E8a).upd U4b ne9v).upd U0b ne8h).ext E4a).ext E5a).ext E6m
      refine AA Cx rfl rfl q8m rfl rfl rfl rfl (by simp only [SP0,SP1,S0,S1,Nat.reduceAdd];rfl) fun w8c U9m q0w=>?_
      have X1w:=AR X8v U9m g1f
      refine Ad<|h5m _ _<|wp_ret ?_
      obtain rfl:=sj f4v
      exact fin rfl (Res.cellN rfl AD q0w rfl rfl Res.nil) (Ap X1w ⟨A5v,c6v,rfl,(n7v.upd U9m q8m (by decide))⟩)
     ·have p2w:=zN hz7f e6e
      have f3w:=ifN p2w f2m
      refine wp_cond_false (Am (evb rfl e6e))<|wp_skip<|h3m _ _<|wp_seq_k fun K0n h0n=>DS [13] 14 mo rfl fun w7c E0d S8f=>have X1n:=xtr X4e E0d;dA 0 rfl (fun _=>Ag (o':=0) DT rfl rfl) ?_
      refine dV 1 rfl (fun _ hw=>Ak Gc rfl (Bx.cell (((((q2h.upd U0b (Ne.symm ne3h)).ext E4a).ext E5a).ext E0d).ext hw) rfl)) S8f ?_
      refine dA 2 rfl (fun _=>Ag (o':=1) Bq rfl rfl) ?_
      refine dV 3 rfl (fun _ hw=>Ak DB rfl (Bx.cell (((((q2h.upd U0b (Ne.symm ne3h)).ext E4a).ext E5a).ext E0d).ext hw) rfl)) S8f ?_
      refine dA 7 rfl (fun _=>Ag (o':=2) CQ rfl rfl) ?_
      refine dV 8 rfl (fun _ hw=>Ak Et rfl (Bx.cell ((((q3e.ext E4a).ext E5a).ext E0d).ext hw) rfl)) S8f ?_
      refine dA 10 rfl (fun _=>Aa rfl) ?_
      refine dA 11 rfl (fun _=>Aa rfl) ?_
      refine BQ 4 (by kernel_rfl) (opB (cs:=[.int .u32 1]) 4 rfl (by rfl) (Kx (vals:=[(0,.int .u32 1)]) Aw AK Hf (by rfl) (by decide) (by kernel_rfl)) ?_)
      intro b4w w8c E9f g5w q6w
      refine dnrm ?_
      have g7z:=nlt X1n.size g5w
      have X2n:=xtr X1n E9f
      have S7w:=S8f.trans E9f
      have n8w:=RL.lit1 q6w (by decide)
      have n9w:=(((((n1h.upd U4b q8b (by decide)).upd U0b q9c (by decide)).ext E4a).ext E5a).ext E0d).ext E9f
      obtain ⟨r1d,h0x,f1x⟩:=Ab f3w
      refine dc 5 rfl (by kernel_rfl) (by rfl) (Ae Kr (by rfl)) (Ei r7a 1 A9b c0c (some ⟨b4w,0,none⟩) 1 w8c (tbx X2n hT) n9w n8w r1d h0x) ?_
      rintro _ w0f E9h ⟨A7e,c8e,rfl,n2x⟩
      refine dnrm ?_
      have X3n:=xtr X2n E9h
      have S3x:=S7w.trans E9h
      refine dA 6 rfl (fun _=>AZ (vals:=[(0,.bool m0a.1),(1,.slice A7e (sz r1d) c8e)]) (cells:=[.bool m0a.1,.slice A7e (sz r1d) c8e]) (by rfl) (by kernel_rfl)) ?_
      refine dA 9 rfl (fun _=>AZ (vals:=[(0,.agg #[.bool m0a.1,.slice A7e (sz r1d) c8e]),(1,.int .i64 (wi64 (m0a.2.2.1 - (max 0 (wi64 ((wi64 (x2+4)) - r1a))))))]) (cells:=[.bool m0a.1,.slice A7e (sz r1d) c8e,.int .i64 (wi64 (m0a.2.2.1 - (max 0 (wi64 ((wi64 (x2+4)) - r1a)))))]) (by rfl) (by kernel_rfl)) ?_
      obtain ⟨r4x,h5x,f6x⟩:=Ab f1x
      refine dc 12 rfl (by kernel_rfl) (by rfl) (Ae Iv (by rfl)) (CA (⟨(⟨m0a.1,r1d⟩:Aj),(wi64 (m0a.2.2.1 - (max 0 (wi64 ((wi64 (x2+4)) - r1a)))))⟩:Ah) x2 x3 true A7e c8e w0f (tbx X3n hT) n2x r4x h5x) ?_
      rintro _ w1b E0i ⟨A7x,c8x,rfl,n9x⟩
      refine dnrm ?_
      have X0y:=xtr X3n E0i
      have S8z:=S3x.trans E0i
      have ne4n:=(Bx.ne q6b g1c).symm
      have ne1i:=(Bx.ne (q5b.ext E7b) g1c).symm
      have ne1y:=(Bx.neT ((((((((q4c.ext E6a).ext E9a).ext E2b).ext E3b).updS U5c (nmc ne1i (nmc ne4n nm0))).ext E2a).ext E3a).ext E8a) q8b (by decide))
      have q5n:=(((((((((((((((q4c.ext E6a).ext E9a).ext E2b).ext E3b).updS U5c (nmc ne1i (nmc ne4n nm0))).ext E2a).ext E3a).ext E8a).upd U4b ne1y).upd U0b ne1i).ext E4a).ext E5a).ext E0d).ext E9f).ext E9h).ext E0i
      refine dk 13 rfl (by kernel_rfl) (by decide) (by rfl) Cx rfl rfl q5n rfl rfl rfl rfl (by simp only [SP0,SP1,S0,S1,Nat.reduceAdd];rfl) fun w1c U6n q2y=>?_
      have X3y:=AR X0y U6n g1f
      refine CF (by kernel_rfl) ?_
      refine h0n _ _<|wp_ret ?_
      obtain rfl:=sj f6x
      exact fin rfl (Res.cellN rfl AD q2y rfl rfl Res.nil) (Ap X3y ⟨A7x,c8x,rfl,(n9x.upd U6n q5n (by decide))⟩)
   ·intro HJ147
    refine EZ 7 9 (by kernel_rfl) ?_ ?_
    ·refine opC 7 rfl (by rfl) (Ae Hs (by rfl)) (BT m0a.2.1 (max 0 (wi64 ((wi64 (x2+4)) - r1a))) A2c c3c _ (tbx (Ext.refl _) (tbx X4f hT)) (((n9g.ext E2a).ext E3a).ext (Ext.refl _)) r7a h7k) ?_
     rintro _ _ E0g ⟨A2d,c3d,rfl,n7n⟩
     refine dnrm ?_
     refine EZ 8 9 (by kernel_rfl) ?_ ?_
     ·refine opV 8 rfl (by rfl) (AZ (vals:=[(0,.bool m0a.1),(1,.slice A2d (sz r7a) c3d)]) (cells:=[.bool m0a.1,.slice A2d (sz r7a) c3d]) (by rfl) (by kernel_rfl)) (dnrm ?_)
      refine BQ 9 (by kernel_rfl) ?_
      ·refine opA 9 rfl (by rfl) (AM FR) fun b4y _ E8n g5y q6y=>dnrm ?_
       exact DY (by kernel_rfl) (HJ147 _ _ ⟨A2d,c3d,b4y,(E0g.trans E8n),(n7n.ext E8n),(nlt E0g.size g5y),q6y,rfl⟩)
     ·refine opA 9 rfl (by rfl) (AM FR) fun b7y _ E9n g8y q9y=>dnrm ?_
      refine BQ 8 (by kernel_rfl) ?_
      ·refine opV 8 rfl (by rfl) (AZ (vals:=[(0,.bool m0a.1),(1,.slice A2d (sz r7a) c3d)]) (cells:=[.bool m0a.1,.slice A2d (sz r7a) c3d]) (by rfl) (by kernel_rfl)) (dnrm ?_)
       exact DY (by kernel_rfl) (HJ147 _ _ ⟨A2d,c3d,b7y,(E0g.trans E9n),(n7n.ext E9n),(nlt E0g.size g8y),q9y,rfl⟩)
    ·refine opA 9 rfl (by rfl) (AM FR) fun b0z _ E2i g1z q2z=>dnrm ?_
     refine BQ 7 (by kernel_rfl) ?_
     ·refine opC 7 rfl (by rfl) (Ae Hs (by rfl)) (BT m0a.2.1 (max 0 (wi64 ((wi64 (x2+4)) - r1a))) A2c c3c _ (tbx E2i (tbx X4f hT)) (((n9g.ext E2a).ext E3a).ext E2i) r7a h7k) ?_
      rintro _ _ E0o ⟨A3i,c4i,rfl,n3z⟩
      refine dnrm ?_
      refine BQ 8 (by kernel_rfl) ?_
      ·refine opV 8 rfl (by rfl) (AZ (vals:=[(0,.bool m0a.1),(1,.slice A3i (sz r7a) c4i)]) (cells:=[.bool m0a.1,.slice A3i (sz r7a) c4i]) (by rfl) (by kernel_rfl)) (dnrm ?_)
       exact DY (by kernel_rfl) (HJ147 _ _ ⟨A3i,c4i,b0z,(E2i.trans E0o),n3z,g1z,(q2z.ext E0o),rfl⟩)
theorem Ia (x0:Aq) (x1:Aq) (x2:Int) (A1:Option Addr) (c2:Nat) (A4:Option Addr) (c5:Nat) (A7:Option Addr) (c8:Nat) (A4b:Option Addr) (c5b:Nat) (w:World) (hT:TB w) (n3:RU w A1 c2 x0.lo.m.Abs) (n6:RU w A4 c5 x0.hi.m.Abs) (n9:RU w A7 c8 x1.lo.m.Abs) (n0d:RU w A4b c5b x1.hi.m.Abs) (r:Except Int (Ao)) (hr:DI x0 x1 x2=some r) :
  Calls Tryd.prog 52 #[.agg #[.bool x0.lo.m.Neg,.slice A1 (sz x0.lo.m.Abs) c2,.int .i64 x0.lo.e,.bool x0.hi.m.Neg,.slice A4 (sz x0.hi.m.Abs) c5,.int .i64 x0.hi.e],.agg #[.bool x1.lo.m.Neg,.slice A7 (sz x1.lo.m.Abs) c8,.int .i64 x1.lo.e,.bool x1.hi.m.Neg,.slice A4b (sz x1.hi.m.Abs) c5b,.int .i64 x1.hi.e],.int .i64 x2] w (RetE 107 Ip w r):=by
 unfold DI at hr
 go_enter Tryd.func52,Tryd.ntmps52
 refine wp_seq_k fun K2c h2c=>Ai<|Bu rfl rfl fun b3f w1 E3c g4f q4c=>?_
 refine nrm ?_
 refine Bu rfl rfl fun b5f w2 E6b g1d q5c=>?_
 refine nrm ?_
 have g6f:=nlt E3c.size g1d
 have X6c:=xtr E3c E6b
 refine AB Eg fun b7f w3 E3a g2d q3d=>?_
 refine nrm ?_
 have g4d:=nlt X6c.size g2d
 have X5d:=xtr X6c E3a
 refine Ad<|h2c _ _<|wp_seq_k fun K7c h7c=>DS [14] 15 mo rfl fun w4 E2a S4a=>have X7a:=xtr X5d E2a;dA 0 rfl (fun _=>Ag (o':=0) Dr rfl rfl) ?_
 refine dV 1 rfl (fun _ hw=>Ax AD rfl ((((q4c.ext E6b).ext E3a).ext E2a).ext hw) (by simp only [List.drop_zero,List.take_succ_cons,List.take_zero];rfl) rfl) S4a ?_
 refine dA 2 rfl (fun _=>Ag (o':=0) Dr rfl rfl) ?_
 refine dV 3 rfl (fun _ hw=>Ax AD rfl (((q5c.ext E3a).ext E2a).ext hw) (by simp only [List.drop_zero,List.take_succ_cons,List.take_zero];rfl) rfl) S4a ?_
 refine dA 4 rfl (fun _=>Aa rfl) ?_
 refine dA 6 rfl (fun _=>Ag (o':=3) Dx rfl rfl) ?_
 refine dV 7 rfl (fun _ hw=>Ax AD rfl ((((q4c.ext E6b).ext E3a).ext E2a).ext hw) (by simp only [List.drop_succ_cons,List.drop_zero,List.take_succ_cons,List.take_zero];rfl) rfl) S4a ?_
 refine dA 8 rfl (fun _=>Ag (o':=3) Dx rfl rfl) ?_
 refine dV 9 rfl (fun _ hw=>Ax AD rfl (((q5c.ext E3a).ext E2a).ext hw) (by simp only [List.drop_succ_cons,List.drop_zero,List.take_succ_cons,List.take_zero];rfl) rfl) S4a ?_
 refine dA 10 rfl (fun _=>Aa rfl) ?_
 obtain ⟨r0a,h6d,f7d⟩:=Ab hr
 refine dc 5 rfl (by kernel_rfl) (by rfl) (Ae MK (by rfl)) (Js x0.lo x1.lo x2 5 A1 c2 A7 c8 w4 (tbx X7a hT) (n3.ext X7a) (n9.ext X7a) r0a h6d) ?_
 rintro _ w5 E7b ⟨A8a,c9a,rfl,n8c⟩
 refine dnrm ?_
 have X0b:=xtr X7a E7b
 have S8d:=S4a.trans E7b
 obtain ⟨r1a,h9d,f0e⟩:=Ab f7d
 refine dc 11 rfl (by kernel_rfl) (by rfl) (Ae MK (by rfl)) (Js x0.hi x1.hi x2 4 A4 c5 A4b c5b w5 (tbx X0b hT) (n6.ext X0b) (n0d.ext X0b) r1a h9d) ?_
 rintro _ w6 E5a ⟨A1b,c2b,rfl,n9c⟩
 refine dnrm ?_
 have X3b:=xtr X0b E5a
 have S1e:=S8d.trans E5a
 refine dA 12 rfl (fun _=>AZ (vals:=[(0,.agg #[.bool r0a.m.Neg,.slice A8a (sz r0a.m.Abs) c9a,.int .i64 r0a.e]),(1,.agg #[.bool r1a.m.Neg,.slice A1b (sz r1a.m.Abs) c2b,.int .i64 r1a.e])]) (cells:=[.bool r0a.m.Neg,.slice A8a (sz r0a.m.Abs) c9a,.int .i64 r0a.e,.bool r1a.m.Neg,.slice A1b (sz r1a.m.Abs) c2b,.int .i64 r1a.e]) (by rfl) (by kernel_rfl)) ?_
 rcases Bi f0e with ⟨r8b,h9b,f2e⟩ | ⟨r8b,h9b,rfl⟩
 ·refine dcO 13 rfl (by kernel_rfl) (by rfl) (Ae Ic (by rfl)) (Cv (⟨r0a,r1a⟩:Aq) A8a c9a A1b c2b w6 (tbx X3b hT) (n8c.ext E5a) n9c (.ok r8b) h9b) ?_
  rintro _ w7 E6a ⟨A3e,c4e,A5e,c6e,rfl,n7e,n8e⟩
  refine dnrm ?_
  have X9e:=xtr X3b E6a
  have S8f:=S1e.trans E6a
  have q0c:=(((q3d.ext E2a).ext E7b).ext E5a).ext E6a
  refine dk 14 rfl (by kernel_rfl) (by decide) (by rfl) Dh rfl rfl q0c rfl rfl rfl rfl (by simp only [SP0,SP1,S0,S1,Nat.reduceAdd];rfl) fun w8 U1c q0f=>?_
  have X1f:=AR X9e U1c g4d
  refine CF (by kernel_rfl) ?_
  refine h7c _ _<|wp_ret ?_
  obtain rfl:=sj f2e
  exact fin rfl (Res.cellN rfl AG q0f rfl rfl Res.nil) (Fp X1f ⟨A3e,c4e,A5e,c6e,rfl,(n7e.upd U1c q0c (by decide)),(n8e.upd U1c q0c (by decide))⟩)
 ·refine dcP 13 rfl (by kernel_rfl) (by rfl) (Ae Ic (by rfl)) (Cv (⟨r0a,r1a⟩:Aq) A8a c9a A1b c2b w6 (tbx X3b hT) (n8c.ext E5a) n9c (.error r8b) h9b) fun w7 E6a=>?_
  have X2f:=xtr X3b E6a
  exact ⟨rfl,DA X2f⟩
theorem c_dyad_made_Span__dyad_Plus_1 (x0:An) (x1:An) (x2:Int) (A1:Option Addr) (c2:Nat) (A4:Option Addr) (c5:Nat) (A7:Option Addr) (c8:Nat) (A6a:Option Addr) (c8a:Nat) (w:World) (hT:TB w) (n3:RLu w A1 c2 x0.Lo.Man.Abs) (n6:RLu w A4 c5 x0.Hi.Man.Abs) (n9:RLu w A7 c8 x1.Lo.Man.Abs) (n4b:RLu w A6a c8a x1.Hi.Man.Abs) (r:Ao × Int) (hr:BL x0 x1 x2=some r) :
  Calls Tryd.prog 48 #[.agg #[.bool x0.Lo.Man.Neg,.slice A1 x0.Lo.Man.Abs.length c2,.int .i64 x0.Lo.Exp,.bool x0.Hi.Man.Neg,.slice A4 x0.Hi.Man.Abs.length c5,.int .i64 x0.Hi.Exp],.agg #[.bool x1.Lo.Man.Neg,.slice A7 x1.Lo.Man.Abs.length c8,.int .i64 x1.Lo.Exp,.bool x1.Hi.Man.Neg,.slice A6a x1.Hi.Man.Abs.length c8a,.int .i64 x1.Hi.Exp],.int .i64 x2,.func (.func 52) #[] #[]] w (Ret ET w r):=by
 unfold BL at hr
 obtain ⟨q0,hq0,hr0⟩:=Ab hr
 unfold Cz at hq0
 go_enter_defers Tryd.func48,Tryd.ntmps48
 refine wp_seq_k fun K9d h9d=>Ai<|Bu rfl rfl fun b9l w1 E5e g0m q1h=>?_
 refine nrm ?_
 refine Bu rfl rfl fun b1m w2 E6e g2h q7e=>?_
 refine nrm ?_
 have g2m:=nlt E5e.size g2h
 have X8e:=xtr E5e E6e
 refine AB Eg fun b5b w3 E6b g3h q7b=>?_
 refine nrm ?_
 have g8b:=nlt X8e.size g3h
 have X9e:=xtr X8e E6b
 refine AB IR fun b9b w4 E0b g4h q3b=>?_
 refine nrm ?_
 have g0c:=nlt X9e.size g4h
 have X0f:=xtr X9e E0b
 refine Ad<|h9d _ _<|wp_seq_k fun K1f h1f=>Ai<|HF (vs:=[.pointer (some ⟨b5b,0,none⟩),.pointer (some ⟨b9b,0,none⟩)]) (by rfl) (by rfl)<|Ad<|h1f _ _<|wp_seq_k fun K2f h2f=>Ai<|have q3f:=((q1h.ext E6e).ext E6b).ext E0b;sV (Al AG rfl q3f rfl) ?_
 refine sV (Al AG rfl ((q7e.ext E6b).ext E0b) rfl) ?_
 refine Er (vals:=[(0,.agg #[.bool x0.Lo.Man.Neg,.slice A1 x0.Lo.Man.Abs.length c2,.int .i64 x0.Lo.Exp,.bool x0.Hi.Man.Neg,.slice A4 x0.Hi.Man.Abs.length c5,.int .i64 x0.Hi.Exp]),(1,.agg #[.bool x1.Lo.Man.Neg,.slice A7 x1.Lo.Man.Abs.length c8,.int .i64 x1.Lo.Exp,.bool x1.Hi.Man.Neg,.slice A6a x1.Hi.Man.Abs.length c8a,.int .i64 x1.Hi.Exp])]) (cs:=[.bool x0.Lo.Man.Neg,.slice A1 x0.Lo.Man.Abs.length c2,.int .i64 x0.Lo.Exp,.bool x0.Hi.Man.Neg,.slice A4 x0.Hi.Man.Abs.length c5,.int .i64 x0.Hi.Exp,.bool x1.Lo.Man.Neg,.slice A7 x1.Lo.Man.Abs.length c8,.int .i64 x1.Lo.Exp,.bool x1.Hi.Man.Neg,.slice A6a x1.Hi.Man.Abs.length c8a,.int .i64 x1.Hi.Exp]) Ht Dh Eg (by rfl) (by decide) (by kernel_rfl) fun b4f w5 E3a g5h q5f=>?_
 refine nrm ?_
 have g3m:=nlt X0f.size g5h
 have X4a:=xtr X0f E3a
 rcases Bi hq0 with ⟨r1c,h0e,f6h⟩ | ⟨r1c,h0e,rfl⟩
 ·refine scO (Ae HU (by rfl)) (Ca x0 x1 b4f A1 c2 A4 c5 A7 c8 A6a c8a w5 (tbx X4a hT) (n3.ext X4a) (n6.ext X4a) (n9.ext X4a) (n4b.ext X4a) q5f (.ok r1c) h0e) ?_
  rintro _ w6 E2a rfl
  refine nrm ?_
  have X2c:=xtr X4a E2a
  refine Ad<|h2f _ _<|wp_seq_k fun K6f h6f=>Ai<|sV (Aa rfl) ?_
  rcases Bi f6h with ⟨r3c,h1e,f7h⟩ | ⟨r3c,h1e,rfl⟩
  ·refine scO (Ae Hl (by rfl)) (Du x2 w6 (tbx X2c hT)  (.ok r3c) h1e) ?_
   rintro _ w7 E5a rfl
   refine nrm ?_
   have X8h:=xtr X2c E5a
   refine Ad<|h6f _ _<|wp_seq_k fun K7f h7f=>DS [7,8] 9 mo rfl fun w8 E1b S2e=>?_
   have X4c:=xtr X8h E1b
   refine dA 0 rfl (fun _=>Aa rfl) ?_ (hQ:=fun _ _ _ h=>dq (rs:=[.cell 8 41,.cell 9 31]) rfl (by decide) h)
   refine dV 1 rfl (fun _ hw=>Al AG rfl (((((q3f.ext E3a).ext E2a).ext E5a).ext E1b).ext hw) rfl) S2e ?_ (hQ:=fun _ _ _ h=>dq (rs:=[.cell 8 41,.cell 9 31]) rfl (by decide) h)
   refine dV 3 rfl (fun _ hw=>Al AG rfl (((((((q7e.ext E6b).ext E0b).ext E3a).ext E2a).ext E5a).ext E1b).ext hw) rfl) S2e ?_ (hQ:=fun _ _ _ h=>dq (rs:=[.cell 8 41,.cell 9 31]) rfl (by decide) h)
   refine dA 5 rfl (fun _=>Aa rfl) ?_ (hQ:=fun _ _ _ h=>dq (rs:=[.cell 8 41,.cell 9 31]) rfl (by decide) h)
   obtain ⟨m8f,h9h,f0i⟩:=Ab f7h
   have hx9f:=BM h9h
   have n1i:RU w8 A1 c2 m8f:=by unfold RU;rw [hx9f];exact (n3.ext X4c)
   obtain ⟨m0g,h2i,f3i⟩:=Ab f0i
   have hx1g:=BM h2i
   have n4i:RU w8 A4 c5 m0g:=by unfold RU;rw [hx1g];exact (n6.ext X4c)
   obtain ⟨r0a,h5i,f6i⟩:=Ab f3i
   refine dc 2 rfl (by kernel_rfl) (by rfl) (Ae HZ (by simp only [sz,hx9f,hx1g];rfl)) (Di (⟨(⟨(⟨x0.Lo.Man.Neg,m8f⟩:Aj),x0.Lo.Exp⟩:Af),(⟨(⟨x0.Hi.Man.Neg,m0g⟩:Aj),x0.Hi.Exp⟩:Af)⟩:Ao) A1 c2 A4 c5 w8 (tbx X4c hT) n1i n4i r0a h5i) ?_
   rintro _ w9 E2b ⟨A5c,c6c,A7c,c8c,rfl,n2g,n3g⟩
   refine dnrm ?_
   have X9c:=xtr X4c E2b
   have S7i:=S2e.trans E2b
   obtain ⟨m4g,h8i,f9i⟩:=Ab f6i
   have hx5g:=BM h8i
   have n0j:RU w9 A7 c8 m4g:=by unfold RU;rw [hx5g];exact (n9.ext X9c)
   obtain ⟨m6g,h1j,f2j⟩:=Ab f9i
   have hx7g:=BM h1j
   have n3j:RU w9 A6a c8a m6g:=by unfold RU;rw [hx7g];exact (n4b.ext X9c)
   obtain ⟨r1a,h4j,f5j⟩:=Ab f2j
   refine dc 4 rfl (by kernel_rfl) (by rfl) (Ae HZ (by simp only [sz,hx5g,hx7g];rfl)) (Di (⟨(⟨(⟨x1.Lo.Man.Neg,m4g⟩:Aj),x1.Lo.Exp⟩:Af),(⟨(⟨x1.Hi.Man.Neg,m6g⟩:Aj),x1.Hi.Exp⟩:Af)⟩:Ao) A7 c8 A6a c8a w9 (tbx X9c hT) n0j n3j r1a h4j) ?_
   rintro _ w6a E7a ⟨A0d,c1d,A2d,c3d,rfl,n8g,n9g⟩
   refine dnrm ?_
   have X4d:=xtr X9c E7a
   have S6j:=S7i.trans E7a
   rcases Bi f5j with ⟨r5d,h3e,f7j⟩ | ⟨r5d,h3e,rfl⟩
   ·refine dcO 6 rfl (by kernel_rfl) (by rfl) (FM (first:=[]) (cap:=[]) (args:=[.agg #[.bool r0a.lo.m.Neg,.slice A5c (sz r0a.lo.m.Abs) c6c,.int .i64 r0a.lo.e,.bool r0a.hi.m.Neg,.slice A7c (sz r0a.hi.m.Abs) c8c,.int .i64 r0a.hi.e],.agg #[.bool r1a.lo.m.Neg,.slice A0d (sz r1a.lo.m.Abs) c1d,.int .i64 r1a.lo.e,.bool r1a.hi.m.Neg,.slice A2d (sz r1a.hi.m.Abs) c3d,.int .i64 r1a.hi.e],.int .i64 x2]) MI (by rfl) (by rfl)) (Ia r0a r1a x2 A5c c6c A7c c8c A0d c1d A2d c3d w6a (tbx X4d hT) (n2g.ext E7a) (n3g.ext E7a) n8g n9g (.ok r5d) h3e) ?_
    rintro _ w8a E9a ⟨A8j,c9j,A0k,c1k,rfl,n2k,n3k⟩
    refine dnrm ?_
    have X4k:=xtr X4d E9a
    have S4m:=S6j.trans E9a
    have q6d:=(((((((q7b.ext E0b).ext E3a).ext E2a).ext E5a).ext E1b).ext E2b).ext E7a).ext E9a
    refine dk 7 rfl (by kernel_rfl) (by decide) (by rfl) Dh rfl rfl q6d rfl rfl rfl rfl (by simp only [SP0,SP1,S0,S1,Nat.reduceAdd];rfl) fun w4b U7d q5k=>?_
    have X6k:=AR X4k U7d g8b
    have ne0h:=(Bx.neT (((((((q3b.ext E3a).ext E2a).ext E5a).ext E1b).ext E2b).ext E7a).ext E9a) q6d (by decide))
    have q4e:=(((((((q3b.ext E3a).ext E2a).ext E5a).ext E1b).ext E2b).ext E7a).ext E9a).upd U7d ne0h
    refine dk 8 rfl (by kernel_rfl) (by decide) (by rfl) Hk rfl rfl q4e rfl rfl rfl rfl (by simp only [SP0,SP1,S0,S1,Nat.reduceAdd];rfl) fun w9d U8d q7k=>?_
    have X8k:=AR X6k U8d g0c
    refine CF (by kernel_rfl) ?_
    refine h7f _ _<|wp_ret ?_
    have n9k:=(n2k.upd U7d q6d (by decide)).upd U8d q4e (by decide)
    have n0l:=(n3k.upd U7d q6d (by decide)).upd U8d q4e (by decide)
    obtain rfl:=sj f7j
    obtain rfl:=sj hr0
    exact Kg Dy FB rfl (Res.cellN rfl AG (q5k.upd U8d (Ne.symm ne0h)) rfl rfl (Res.cell1 rfl Dz (Bx.cell q7k rfl) Res.nil)) (Ap X8k ⟨A8j,c9j,A0k,c1k,rfl,n9k,n0l⟩)
   ·refine dcP 6 rfl (by kernel_rfl) (by rfl) (FM (first:=[]) (cap:=[]) (args:=[.agg #[.bool r0a.lo.m.Neg,.slice A5c (sz r0a.lo.m.Abs) c6c,.int .i64 r0a.lo.e,.bool r0a.hi.m.Neg,.slice A7c (sz r0a.hi.m.Abs) c8c,.int .i64 r0a.hi.e],.agg #[.bool r1a.lo.m.Neg,.slice A0d (sz r1a.lo.m.Abs) c1d,.int .i64 r1a.lo.e,.bool r1a.hi.m.Neg,.slice A2d (sz r1a.hi.m.Abs) c3d,.int .i64 r1a.hi.e],.int .i64 x2]) MI (by rfl) (by rfl)) (Ia r0a r1a x2 A5c c6c A7c c8c A0d c1d A2d c3d w6a (tbx X4d hT) (n2g.ext E7a) (n3g.ext E7a) n8g n9g (.error r5d) h3e) fun w8a E9a=>?_
    have X1l:=xtr X4d E9a
    have q2l:=(((((((q7b.ext E0b).ext E3a).ext E2a).ext E5a).ext E1b).ext E2b).ext E7a).ext E9a
    have q3l:=((((((q3b.ext E3a).ext E2a).ext E5a).ext E1b).ext E2b).ext E7a).ext E9a
    refine GH FB (AL b5b b9b (.bool false:Value) (.slice none 0 0:Value) (.int .i64 0:Value) (.bool false:Value) (.slice none 0 0:Value) (.int .i64 0:Value) (.int .i64 0:Value) r5d q2l q3l) rfl ?_
    rintro w9 ⟨u9,q9,q9'⟩
    obtain rfl:=sj hr0
    exact ⟨_,(Res.cellN rfl AG q9 rfl rfl (Res.cell1 rfl Dz (Bx.cell q9' rfl) Res.nil)),Ap (u9.toExt X1l g8b g0c) ⟨none,0,none,0,rfl,RU.nil _,RU.nil _⟩⟩
  ·refine scP (Ae Hl (by rfl)) (Du x2 w6 (tbx X2c hT)  (.error r3c) h1e) fun w7 E5a=>?_
   have X4l:=xtr X2c E5a
   have q5l:=(((q7b.ext E0b).ext E3a).ext E2a).ext E5a
   have q6l:=((q3b.ext E3a).ext E2a).ext E5a
   refine GH FB (AL b5b b9b (.bool false:Value) (.slice none 0 0:Value) (.int .i64 0:Value) (.bool false:Value) (.slice none 0 0:Value) (.int .i64 0:Value) (.int .i64 0:Value) r3c q5l q6l) rfl ?_
   rintro w9 ⟨u9,q9,q9'⟩
   obtain rfl:=sj hr0
   exact ⟨_,(Res.cellN rfl AG q9 rfl rfl (Res.cell1 rfl Dz (Bx.cell q9' rfl) Res.nil)),Ap (u9.toExt X4l g8b g0c) ⟨none,0,none,0,rfl,RU.nil _,RU.nil _⟩⟩
 ·refine scP (Ae HU (by rfl)) (Ca x0 x1 b4f A1 c2 A4 c5 A7 c8 A6a c8a w5 (tbx X4a hT) (n3.ext X4a) (n6.ext X4a) (n9.ext X4a) (n4b.ext X4a) q5f (.error r1c) h0e) fun w6 E2a=>?_
  have X7l:=xtr X4a E2a
  have q8l:=((q7b.ext E0b).ext E3a).ext E2a
  refine GH FB (AL b5b b9b (.bool false:Value) (.slice none 0 0:Value) (.int .i64 0:Value) (.bool false:Value) (.slice none 0 0:Value) (.int .i64 0:Value) (.int .i64 0:Value) r1c q8l ((q3b.ext E3a).ext E2a)) rfl ?_
  rintro w9 ⟨u9,q9,q9'⟩
  obtain rfl:=sj hr0
  exact ⟨_,(Res.cellN rfl AG q9 rfl rfl (Res.cell1 rfl Dz (Bx.cell q9' rfl) Res.nil)),Ap (u9.toExt X7l g8b g0c) ⟨none,0,none,0,rfl,RU.nil _,RU.nil _⟩⟩
theorem IL (x0:An) (x1:An) (x2:Int) (A1:Option Addr) (c2:Nat) (A4:Option Addr) (c5:Nat) (A7:Option Addr) (c8:Nat) (A2a:Option Addr) (c3a:Nat) (w:World) (hT:TB w) (n3:RLu w A1 c2 x0.Lo.Man.Abs) (n6:RLu w A4 c5 x0.Hi.Man.Abs) (n9:RLu w A7 c8 x1.Lo.Man.Abs) (n2b:RLu w A2a c3a x1.Hi.Man.Abs) (r:Ao × Int) (hr:Fb x0 x1 x2=some r) :
  Calls Tryd.prog 19 #[.agg #[.bool x0.Lo.Man.Neg,.slice A1 x0.Lo.Man.Abs.length c2,.int .i64 x0.Lo.Exp,.bool x0.Hi.Man.Neg,.slice A4 x0.Hi.Man.Abs.length c5,.int .i64 x0.Hi.Exp],.agg #[.bool x1.Lo.Man.Neg,.slice A7 x1.Lo.Man.Abs.length c8,.int .i64 x1.Lo.Exp,.bool x1.Hi.Man.Neg,.slice A2a x1.Hi.Man.Abs.length c3a,.int .i64 x1.Hi.Exp],.int .i64 x2] w (Ret ET w r):=by
 unfold Fb at hr
 go_enter Tryd.func19,Tryd.ntmps19
 refine wp_seq_k fun K7a h7a=>Ai<|Bu rfl rfl fun b2d w1 E8a g3d q3b=>?_
 refine nrm ?_
 refine Bu rfl rfl fun b4d w2 E9a g4b q5b=>?_
 refine nrm ?_
 have g5d:=nlt E8a.size g4b
 have X0b:=xtr E8a E9a
 refine AB Eg fun b6d w3 E4a g6b q5a=>?_
 refine nrm ?_
 have g7b:=nlt X0b.size g6b
 have X0a:=xtr X0b E4a
 refine sV (Ac rfl) ?_
 refine Ad<|h7a _ _<|wp_seq_k fun K1b h1b=>Ai<|sV (Al AG rfl ((q3b.ext E9a).ext E4a) rfl) ?_
 refine sV (Al AG rfl (q5b.ext E4a) rfl) ?_
 refine sV (Aa rfl) ?_
 obtain ⟨r8b,h9b,f0c⟩:=Ab hr
 refine sc (Ae KG (by rfl)) (c_dyad_made_Span__dyad_Plus_1 x0 x1 x2 A1 c2 A4 c5 A7 c8 A2a c3a w3 (tbx X0a hT) (n3.ext X0a) (n6.ext X0a) (n9.ext X0a) (n2b.ext X0a) r8b h9b) ?_
 rintro _ w4 E1a ⟨A1c,c2c,A3c,c4c,rfl,n5c,n6c⟩
 refine nrm ?_
 have X7c:=xtr X0a E1a
 refine sV (Av rfl rfl) ?_
 refine sV (Av rfl rfl) ?_
 refine AA Dh rfl rfl (q5a.ext E1a) rfl rfl rfl rfl (by simp only [SP0,SP1,S0,S1,Nat.reduceAdd];rfl) fun w5 U6a q8c=>?_
 have X9c:=AR X7c U6a g7b
 refine sV (Ac rfl) ?_
 refine Ad<|h1b _ _<|wp_ret ?_
 have n0d:=n5c.upd U6a (q5a.ext E1a) (by decide)
 have n1d:=n6c.upd U6a (q5a.ext E1a) (by decide)
 obtain rfl:=sj f0c
 exact fin rfl (Res.cellN rfl AG q8c rfl rfl (Res.tmp rfl Res.nil)) (Ap X9c ⟨A1c,c2c,A3c,c4c,rfl,n0d,n1d⟩)
theorem Hh (x0_0:Ar) (x0_1:Ar) (bp0:Nat) (A1:Option Addr) (c2:Nat) (A4:Option Addr) (c5:Nat) (w:World) (hT:TB w) (n3:RLu w A1 c2 x0_0.Man.Abs) (n6:RLu w A4 c5 x0_1.Man.Abs) (q7:Bx w bp0 27 [.bool x0_0.Man.Neg,.slice A1 x0_0.Man.Abs.length c2,.int .i64 x0_0.Exp,.bool x0_1.Man.Neg,.slice A4 x0_1.Man.Abs.length c5,.int .i64 x0_1.Exp]) (r:Except Int (Unit)) (hr:DX x0_0 x0_1=some r) :
  Calls Tryd.prog 39 #[.slice (some ⟨bp0,0,none⟩) 2 2] w (RetE 107 JJ w r):=by
 unfold DX at hr
 go_enter Tryd.func39,Tryd.ntmps39
 refine wp_seq_k fun K8 h8=>Ai<|sV (Aa rfl) ?_
 refine sV (AQ Gt rfl) ?_
 refine sV (Aa rfl) ?_
 refine Ad<|h8 _ _ ?_
 apply wp_block
 refine GD<|BY<|wp_seq_k fun K9 h9=>Ai<|sV (Hx (v:=.bool true) (CL rfl rfl) (by rfl)) ?_
 refine Ad<|h9 _ _<|wp_seq_k fun K2b h2b=>wp_cond_true (Am (evb rfl rfl))<|wp_skip<|h2b _ _<|wp_seq_k fun K3b h3b=>?_
 apply wp_block
 refine wp_seq_k fun K4b h4b=>Ai<|sV (EG (o':=0) Gt DQ rfl rfl (by decide) (by decide) (by decide)) ?_
 refine sV (Ax BJ rfl q7 (by simp only [List.drop_zero,List.take_succ_cons,List.take_zero];rfl) rfl) ?_
 refine AB Fv fun b4e w1 E3c g4c q5c=>?_
 refine nrm ?_
 refine AA DQ rfl rfl q5c rfl rfl rfl rfl (by simp only [SP0,SP1,S0,S1,Nat.reduceAdd];rfl) fun w2 U6c q7c=>?_
 have F0a:=AR E3c U6c g4c
 refine Ad<|h4b _ _<|Ai<|sV (Al BJ rfl q7c rfl) ?_
 obtain ⟨r4a,h8c,f9c⟩:=Ab hr
 refine sc (Ae KI (by rfl)) (FP x0_0 A1 c2 w2 (tbx F0a hT) (n3.ext F0a) r4a h8c) ?_
 rintro _ w3 E5b rfl
 refine nrm ?_
 have X1a:=xtr F0a E5b
 rcases Bi f9c with ⟨r5a,h6a,f0d⟩ | ⟨r5a,h6a,rfl⟩
 ·refine scO (Ae Fq (by rfl)) (Bh r4a 1 w3 (tbx X1a hT)  (.ok r5a) h6a) ?_
  rintro _ w4 E2a rfl
  refine nrm ?_
  have X6b:=xtr X1a E2a
  refine Ad<|h3b _ _<|Ai<|sV (Bv (c:=1) rfl rfl (by decide)) ?_
  refine sV (Aa rfl) ?_
  refine Ad<|BY<|wp_seq_k fun K7b h7b=>Ai<|sV (Hx (v:=.bool true) (CL rfl rfl) (by rfl)) ?_
  refine Ad<|h7b _ _<|wp_seq_k fun K8b h8b=>wp_cond_true (Am (evb rfl rfl))<|wp_skip<|h8b _ _<|wp_seq_k fun K9b h9b=>?_
  apply wp_block
  refine wp_seq_k fun K0c h0c=>Ai<|sV (EG (o':=3) Gt DQ rfl rfl (by decide) (by decide) (by decide)) ?_
  refine sV (Ax BJ rfl (((q7.ext F0a).ext E5b).ext E2a) (by simp only [List.drop_succ_cons,List.drop_zero,List.take_succ_cons,List.take_zero];rfl) rfl) ?_
  refine AB Fv fun b5e w5 E1d g1c q2d=>?_
  refine nrm ?_
  have g6e:=nlt X6b.size g1c
  refine AA DQ rfl rfl q2d rfl rfl rfl rfl (by simp only [SP0,SP1,S0,S1,Nat.reduceAdd];rfl) fun w6 U3d q4d=>?_
  have F5d:=AR E1d U3d g1c
  have X7a:=xtr X6b F5d
  refine Ad<|h0c _ _<|Ai<|sV (Al BJ rfl q4d rfl) ?_
  obtain ⟨r8a,h6d,f7d⟩:=Ab f0d
  refine sc (Ae KI (by rfl)) (FP x0_1 A4 c5 w6 (tbx X7a hT) (n6.ext X7a) r8a h6d) ?_
  rintro _ w7 E8d rfl
  refine nrm ?_
  have X3a:=xtr X7a E8d
  rcases Bi f7d with ⟨r9a,h0b,f9d⟩ | ⟨r9a,h0b,rfl⟩
  ·refine scO (Ae Fq (by rfl)) (Bh r8a 1 w7 (tbx X3a hT)  (.ok r9a) h0b) ?_
   rintro _ w8 E1b rfl
   refine nrm ?_
   have X0e:=xtr X3a E1b
   refine Ad<|h9b _ _<|Ai<|sV (Bv (c:=2) rfl rfl (by decide)) ?_
   refine sV (Aa rfl) ?_
   refine Ad<|BY<|wp_seq_k fun K2c h2c=>Ai<|sV (Hx (v:=.bool false) (CL rfl rfl) (by rfl)) ?_
   refine Ad<|h2c _ _<|wp_seq_k fun K1e h1e=>wp_cond_false (Am (evb rfl rfl))<|wp_exit ?_
   simp only [Exit.then,Exit.inBlock,↓reduceIte,Nat.reduceEqDiff]
   obtain rfl:=sj f9d
   exact LG rfl Res.nil (Fp X0e rfl)
  ·refine scP (Ae Fq (by rfl)) (Bh r8a 1 w7 (tbx X3a hT)  (.error r9a) h0b) fun w8 E1b=>?_
   have X2e:=xtr X3a E1b
   exact ⟨rfl,DA X2e⟩
 ·refine scP (Ae Fq (by rfl)) (Bh r4a 1 w3 (tbx X1a hT)  (.error r5a) h6a) fun w4 E2a=>?_
  have X3e:=xtr X1a E2a
  exact ⟨rfl,DA X3e⟩
theorem k_dyad_caught_int (b b':Nat) (v0:Value) (u:Value) (n:Int) {w:World} (qa:Bx w b 3 [v0]) (qb:Bx w b' 31 [u]) :
  CallsD Tryd.prog 99 #[.pointer (some ⟨b,0,none⟩),.pointer (some ⟨b',0,none⟩)] (.panicking [entry 107 n]) w fun e u' w'=>e = .returned (.tuple #[])∧u' = .panicking [{ entry 107 n with recovered:=true }]∧(Upd2 b b' w w'∧Bx w' b 3 [.int .i64 0]∧Bx w' b' 31 [.int .i64 n]):=by
 refine IE Tryd.func99 rfl [.pointer (some ⟨b,0,none⟩),.pointer (some ⟨b',0,none⟩),uu,uu,uu,uu,uu,uu,uu,uu,uu,uu,uu,uu,uu,uu,uu,uu,uu,uu,uu,uu,uu,uu,uu,uu] (by simp [Tryd.ntmps99]) fun c₀ cs hu=>?_
 apply wpS_seq
 refine Ny hu rfl ?_
 simp only [S0,S1]
 refine wpS_of_wp<|wp_seq_k fun K1 h1=>Ai<|sV (Aa rfl) ?_
 refine sV (Ji JK rfl) ?_
 refine Ad<|h1 _ _<|wp_cond_true (Am (evb rfl rfl))<|wp_seq_k fun K2 h2=>Ai<|sV (Aa rfl) ?_
 refine sV (IF Ki rfl) ?_
 refine sV (Aa rfl) ?_
 refine sV (Av rfl rfl) ?_
 refine sV (Av rfl rfl) ?_
 refine AB KN fun b3 w1 E4 g5 q6=>?_
 refine nrm ?_
 have X7:=(Upd2.refl b b' w).ext E4
 refine AA KW rfl rfl q6 rfl rfl rfl rfl (by simp only [SP0,SP1,S0,S1,Nat.reduceAdd];rfl) fun w2 U8 q9=>?_
 have X0b:=X7.upd U8 (.inl g5)
 refine sV (Ac rfl) ?_
 refine Ad<|h2 _ _<|wp_seq_k fun K2a h2a=>wp_seq_k fun K3a h3a=>Ai<|sV (Aa rfl) ?_
 refine sV (KV rfl rfl rfl) ?_
 refine Ad<|h3a _ _<|wp_cond_false (Am (evb rfl rfl))<|wp_skip<|h2a _ _<|wp_seq_k fun K4a h4a=>Ai<|sV (Ac rfl) ?_
 refine Ad<|h4a _ _<|DS [6,8] 9 mo rfl fun w3 E0a S2c=>have X1b:=X0b.ext E0a;dA 0 rfl (fun _=>Aa rfl) ?_
 refine dA 1 rfl (fun _=>Aa rfl) ?_
 refine dA 2 rfl (fun _=>Aa rfl) ?_
 refine dA 3 rfl (fun _=>Ag (o':=0) Jz rfl rfl) ?_
 refine dA 5 rfl (fun _=>Bk rfl) ?_
 refine Hd #[true,true,true,true,true,true,true,false,false] 2 (fun l l' w'=>UpdS [b] w3 w'∧Bx w' b 3 [.int .i64 0]∧l'=(l.set 23 (.int .i64 n))) ?_ ?_
 ·intro HJ31
  refine EZ 4 6 (by kernel_rfl) ?_ ?_
  ·refine opV 4 rfl (by rfl) (Ak Dz rfl (Bx.cell (q9.ext E0a) rfl)) (dnrm ?_)
   refine BQ 6 (by kernel_rfl) ?_
   ·have F2b:=AR E4 U8 g5
    refine opK 6 rfl (by decide) (by rfl) NA rfl rfl ((qa.ext F2b).ext E0a) rfl rfl rfl rfl (by simp only [SP0,SP1,S0,S1,Nat.reduceAdd];rfl) fun w4 U3b q4b=>?_
    exact DY (by kernel_rfl) (HJ31 _ _ ⟨((UpdS.refl _ _).upd U3b (.inl im0)),q4b,(by simp only [S0,S1]<;>rfl)⟩)
  ·have F5a:=AR E4 U8 g5
   refine opK 6 rfl (by decide) (by rfl) NA rfl rfl ((qa.ext F5a).ext E0a) rfl rfl rfl rfl (by simp only [SP0,SP1,S0,S1,Nat.reduceAdd];rfl) fun w4 U6a q5b=>?_
   refine BQ 4 (by kernel_rfl) ?_
   ·have ne6b:=(Bx.neT (q9.ext E0a) ((qa.ext F5a).ext E0a) (by decide))
    refine opV 4 rfl (by rfl) (Ak Dz rfl (Bx.cell ((q9.ext E0a).upd U6a ne6b) rfl)) (dnrm ?_)
    exact DY (by kernel_rfl) (HJ31 _ _ ⟨((UpdS.refl _ _).upd U6a (.inl im0)),q5b,(by simp only [S0,S1]<;>rfl)⟩)
 ·rintro l' w4 ⟨U7a,q7b,hq'⟩ l'' hl
  rw [hq'] at hl
  clear hq'
  simp only [S0,S1] at hl
  subst hl
  have X8b:=X1b.updS U7a (alc (.inr (.inl rfl)) al0)
  refine dA 7 rfl (fun _=>Bk rfl) ?_
  have F1a:=AR E4 U8 g5
  have ne8a:=(Bx.neT ((qb.ext F1a).ext E0a) ((qa.ext F1a).ext E0a) (by decide))
  have q9b:=((qb.ext F1a).ext E0a).updS U7a (nmc ne8a nm0)
  refine dk 8 rfl (by kernel_rfl) (by decide) (by rfl) Hk rfl rfl q9b rfl rfl rfl rfl (by simp only [SP0,SP1,S0,S1,Nat.reduceAdd];rfl) fun w5 U9a q0c=>?_
  have X1c:=X8b.upd U9a (.inr (.inr rfl))
  refine CF (by kernel_rfl) ?_
  exact Nw (by kernel_rfl) ⟨rfl,rfl,X1c,(q7b.upd U9a (Ne.symm ne8a)),q0c⟩
theorem idle_dyad_caught_int:MA Tryd.prog 99:=by
 intro ar b b' w ha
 subst ha
 refine IE Tryd.func99 rfl [.pointer (some ⟨b,0,none⟩),.pointer (some ⟨b',0,none⟩),uu,uu,uu,uu,uu,uu,uu,uu,uu,uu,uu,uu,uu,uu,uu,uu,uu,uu,uu,uu,uu,uu,uu,uu] (by simp [Tryd.ntmps99]) fun c₀ cs hu=>?_
 apply wpS_seq
 refine Nz hu rfl ?_
 simp only [S0,S1]
 refine wpS_of_wp<|wp_seq_k fun K1 h1=>Ai<|sV (Aa rfl) ?_
 refine sV (IK JK rfl) ?_
 refine Ad<|h1 _ _<|wp_cond_false (Am (evb rfl rfl))<|wp_skip ?_
 exact Nv hu (by kernel_rfl) ⟨rfl,rfl,rfl⟩
theorem c_dyad_Cmp (x0:Ar) (x1:Ar) (A1:Option Addr) (c2:Nat) (A4:Option Addr) (c5:Nat) (w:World) (hT:TB w) (n3:RLu w A1 c2 x0.Man.Abs) (n6:RLu w A4 c5 x1.Man.Abs) (r:Int × Int) (hr:FX x0 x1=some r) :
  Calls Tryd.prog 65 #[.agg #[.bool x0.Man.Neg,.slice A1 x0.Man.Abs.length c2,.int .i64 x0.Exp],.agg #[.bool x1.Man.Neg,.slice A4 x1.Man.Abs.length c5,.int .i64 x1.Exp]] w (Ret rep_3_31 w r):=by
 unfold FX at hr
 obtain ⟨q0,hq0,hr0⟩:=Ab hr
 unfold HC at hq0
 go_enter_defers Tryd.func65,Tryd.ntmps65
 refine wp_seq_k fun K7 h7=>Ai<|Bu rfl rfl fun b8 w1 E9 g3e q5b=>?_
 refine nrm ?_
 refine Bu rfl rfl fun b4e w2 E6b g5e q7b=>?_
 refine nrm ?_
 have g0i:=nlt E9.size g5e
 have X8b:=xtr E9 E6b
 refine AB zt_3 fun b9b w3 E8a g6e q0c=>?_
 refine nrm ?_
 have g1c:=nlt X8b.size g6e
 have X2c:=xtr X8b E8a
 refine AB IR fun b3c w4 E3a g7e q0b=>?_
 refine nrm ?_
 have g4c:=nlt X2c.size g7e
 have X5c:=xtr X2c E3a
 refine Ad<|h7 _ _<|wp_seq_k fun K6c h6c=>Ai<|HF (vs:=[.pointer (some ⟨b9b,0,none⟩),.pointer (some ⟨b3c,0,none⟩)]) (by rfl) (by rfl)<|Ad<|h6c _ _<|wp_seq_k fun K7c h7c=>Ai<|have q8c:=((q5b.ext E6b).ext E8a).ext E3a;sV (Al BJ rfl q8c rfl) ?_
 refine sV (Al BJ rfl ((q7b.ext E8a).ext E3a) rfl) ?_
 refine Er (vals:=[(0,.agg #[.bool x0.Man.Neg,.slice A1 x0.Man.Abs.length c2,.int .i64 x0.Exp]),(1,.agg #[.bool x1.Man.Neg,.slice A4 x1.Man.Abs.length c5,.int .i64 x1.Exp])]) (cs:=[.bool x0.Man.Neg,.slice A1 x0.Man.Abs.length c2,.int .i64 x0.Exp,.bool x1.Man.Neg,.slice A4 x1.Man.Abs.length c5,.int .i64 x1.Exp]) Gt DQ Fv (by rfl) (by decide) (by kernel_rfl) fun b9c w5 E1a g8e q0d=>?_
 refine nrm ?_
 have g1i:=nlt X5c.size g8e
 have X2a:=xtr X5c E1a
 rcases Bi hq0 with ⟨r9a,h1b,f9e⟩ | ⟨r9a,h1b,rfl⟩
 ·refine scO (Ae LD (by rfl)) (Hh x0 x1 b9c A1 c2 A4 c5 w5 (tbx X2a hT) (n3.ext X2a) (n6.ext X2a) q0d (.ok r9a) h1b) ?_
  rintro _ w6 E0a rfl
  refine nrm ?_
  have X0f:=xtr X2a E0a
  refine Ad<|h7c _ _<|wp_seq_k fun K1d h1d=>DS [5,6] 7 mo rfl fun w7 E4a S2b=>?_
  have X3b:=xtr X0f E4a
  refine dV 0 rfl (fun _ hw=>Al BJ rfl ((((q8c.ext E1a).ext E0a).ext E4a).ext hw) rfl) S2b ?_ (hQ:=fun _ _ _ h=>dq (rs:=[.cell 4 3,.cell 5 31]) rfl (by decide) h)
  refine dV 2 rfl (fun _ hw=>Al BJ rfl ((((((q7b.ext E8a).ext E3a).ext E1a).ext E0a).ext E4a).ext hw) rfl) S2b ?_ (hQ:=fun _ _ _ h=>dq (rs:=[.cell 4 3,.cell 5 31]) rfl (by decide) h)
  obtain ⟨m2d,h1f,f2f⟩:=Ab f9e
  have hx3d:=BM h1f
  have n3f:RU w7 A1 c2 m2d:=by unfold RU;rw [hx3d];exact (n3.ext X3b)
  obtain ⟨r4d,h4f,f5f⟩:=Ab f2f
  refine dc 1 rfl (by kernel_rfl) (by rfl) (Ae JE (by simp only [sz,hx3d];rfl)) (FV (⟨(⟨x0.Man.Neg,m2d⟩:Aj),x0.Exp⟩:Af) A1 c2 w7 (tbx X3b hT) n3f r4d h4f) ?_
  rintro _ w8 E6a ⟨A6f,c7f,rfl,n8f⟩
  refine dnrm ?_
  have X4b:=xtr X3b E6a
  have S9f:=S2b.trans E6a
  obtain ⟨m5d,h0g,f1g⟩:=Ab f5f
  have hx6d:=BM h0g
  have n2g:RU w8 A4 c5 m5d:=by unfold RU;rw [hx6d];exact (n6.ext X4b)
  obtain ⟨r7d,h3g,f4g⟩:=Ab f1g
  refine dc 3 rfl (by kernel_rfl) (by rfl) (Ae JE (by simp only [sz,hx6d];rfl)) (FV (⟨(⟨x1.Man.Neg,m5d⟩:Aj),x1.Exp⟩:Af) A4 c5 w8 (tbx X4b hT) n2g r7d h3g) ?_
  rintro _ w9 E5a ⟨A5g,c6g,rfl,n7g⟩
  refine dnrm ?_
  have X8d:=xtr X4b E5a
  have S8g:=S9f.trans E5a
  obtain ⟨r9g,h0h,f1h⟩:=Ab f4g
  refine dc 4 rfl (by kernel_rfl) (by rfl) (Ae He (by rfl)) (BV r4d r7d A6f c7f A5g c6g w9 (tbx X8d hT) (n8f.ext E5a) n7g r9g h0h) ?_
  rintro _ w3e E7a rfl
  refine dnrm ?_
  have X2h:=xtr X8d E7a
  have S2i:=S8g.trans E7a
  have q9d:=((((((q0c.ext E3a).ext E1a).ext E0a).ext E4a).ext E6a).ext E5a).ext E7a
  refine dk 5 rfl (by kernel_rfl) (by decide) (by rfl) NA rfl rfl q9d rfl rfl rfl rfl (by simp only [SP0,SP1,S0,S1,Nat.reduceAdd];rfl) fun w5b U0e q3h=>?_
  have X4h:=AR X2h U0e g1c
  have ne1e:=(Bx.neT ((((((q0b.ext E1a).ext E0a).ext E4a).ext E6a).ext E5a).ext E7a) q9d (by decide))
  have q5h:=((((((q0b.ext E1a).ext E0a).ext E4a).ext E6a).ext E5a).ext E7a).upd U0e ne1e
  refine dk 6 rfl (by kernel_rfl) (by decide) (by rfl) Hk rfl rfl q5h rfl rfl rfl rfl (by simp only [SP0,SP1,S0,S1,Nat.reduceAdd];rfl) fun w4e U2e q6h=>?_
  have X7h:=AR X4h U2e g4c
  refine CF (by kernel_rfl) ?_
  refine h1d _ _<|wp_ret ?_
  obtain rfl:=sj f1h
  obtain rfl:=sj hr0
  exact Kg idle_dyad_caught_int MQ rfl (Res.cell1 rfl Et (Bx.cell (q3h.upd U2e (Ne.symm ne1e)) rfl) (Res.cell1 rfl Dz (Bx.cell q6h rfl) Res.nil)) (Ap X7h rfl)
 ·refine scP (Ae LD (by rfl)) (Hh x0 x1 b9c A1 c2 A4 c5 w5 (tbx X2a hT) (n3.ext X2a) (n6.ext X2a) q0d (.error r9a) h1b) fun w6 E0a=>?_
  have X8h:=xtr X2a E0a
  have q9h:=((q0c.ext E3a).ext E1a).ext E0a
  refine GH MQ (k_dyad_caught_int b9b b3c (.int .i64 0:Value) (.int .i64 0:Value) r9a q9h ((q0b.ext E1a).ext E0a)) rfl ?_
  rintro w9 ⟨u9,q9,q9'⟩
  obtain rfl:=sj hr0
  exact ⟨_,(Res.cell1 rfl Et (Bx.cell q9 rfl) (Res.cell1 rfl Dz (Bx.cell q9' rfl) Res.nil)),Ap (u9.toExt X8h g1c g4c) rfl⟩
theorem Gh (x0:Af) (x1:Af) (A1:Option Addr) (c2:Nat) (A4:Option Addr) (c5:Nat) (w:World) (hT:TB w) (n3:RU w A1 c2 x0.Man.Abs) (n6:RU w A4 c5 x1.Man.Abs) (r:Bool) (hr:CY x0 x1=some r) :
  Calls Tryd.prog 25 #[.agg #[.bool x0.Man.Neg,.slice A1 (sz x0.Man.Abs) c2,.int .i64 x0.Exp],.agg #[.bool x1.Man.Neg,.slice A4 (sz x1.Man.Abs) c5,.int .i64 x1.Exp]] w (Ret Fi w r):=by
 unfold CY at hr
 go_enter Tryd.func25,Tryd.ntmps25
 refine wp_seq_k fun K7 h7=>Ai<|Bu rfl rfl fun b8 w1 E9 g4c q1b=>?_
 refine nrm ?_
 refine Bu rfl rfl fun b5c w2 E5a g2b q3b=>?_
 refine nrm ?_
 have g6c:=nlt E9.size g2b
 have X1a:=xtr E9 E5a
 refine sV (Ac rfl) ?_
 refine Ad<|h7 _ _<|wp_seq_k fun K6a h6a=>Ai<|sV (Al BJ rfl (q1b.ext E5a) rfl) ?_
 refine sV (Al BJ rfl q3b rfl) ?_
 obtain ⟨r2a,h4b,f5b⟩:=Ab hr
 refine sc (Ae en_65 (by rfl)) (c_dyad_Cmp (⟨(⟨x0.Man.Neg,(limbs x0.Man.Abs)⟩:Az),x0.Exp⟩:Ar) (⟨(⟨x1.Man.Neg,(limbs x1.Man.Abs)⟩:Az),x1.Exp⟩:Ar) A1 c2 A4 c5 w2 (tbx X1a hT) (n3.ext X1a) (n6.ext X1a) r2a h4b) ?_
 rintro _ w3 E6b rfl
 refine nrm ?_
 have X7b:=xtr X1a E6b
 refine sV (Aa rfl) ?_
 refine sV (Av rfl rfl) ?_
 refine sV (Av rfl rfl) ?_
 refine sV (Ac rfl) ?_
 refine sV (Ac rfl) ?_
 refine Ad<|h6a _ _<|wp_seq_k fun K7a h7a=>Ai<|sV (Aa rfl) ?_
 refine sb (CO rfl rfl) fun z3a hz3a=>?_
 refine nrm ?_
 refine sV (Aa rfl) ?_
 obtain ⟨m8b,h8a,f9b⟩:=Ab f5b
 refine BE 6 (fun l l' w'=>∃(t9a:Value) (t0b:Value),w3=w'∧l'=(((l.set 16 t9a).set 17 t0b).set 18 (.bool m8b))) ?_ ?_
 ·intro HJ38
  rcases bft z3a with e0a | e0a
  ·have p0c:=zP hz3a e0a
   have f1c:=ifP p0c h8a
   refine sV (Aa rfl) ?_ (hw:=wgT rfl e0a)
   refine sb (Hg rfl rfl) ?_ (hw:=wgT rfl e0a)
   intro z4a hz4a
   refine nrm ?_
   refine sV (Ay (evb rfl e0a) rfl) ?_
   obtain rfl:z4a=decide (r2a.1≤0):=bz hz4a
   obtain rfl:=sj f1c
   exact HJ38 _ _ ⟨(.int .i64 r2a.1),(.bool (decide (r2a.1≤0))),rfl,(by simp only [S0,S1]<;>rfl)⟩
  ·have p2c:=zN hz3a e0a
   have f3c:=ifN p2c h8a
   refine sP ?_ (hw:=wgF rfl e0a)
   refine sP ?_ (hw:=wgF rfl e0a)
   refine sV (AC (evb rfl e0a) rfl) ?_
   obtain rfl:=sj f3c
   exact HJ38 _ _ ⟨uu,uu,rfl,(by simp only [S0,S1]<;>rfl)⟩
 ·rintro l' _ ⟨t9a,t0b,rfl,hq'⟩ l'' hl
  rw [hq'] at hl
  clear hq'
  simp only [S0,S1] at hl
  subst hl
  refine sV (Ac rfl) ?_
  refine Ad<|h7a _ _<|wp_ret ?_
  obtain rfl:=sj f9b
  exact fin rfl (Res.tmp rfl Res.nil) (Ap X7b rfl)
theorem HX (x0:Aq) (x1:Aq) (x2:Int) (A1:Option Addr) (c2:Nat) (A4:Option Addr) (c5:Nat) (A7:Option Addr) (c8:Nat) (A8a:Option Addr) (c9a:Nat) (w:World) (hT:TB w) (n3:RU w A1 c2 x0.lo.m.Abs) (n6:RU w A4 c5 x0.hi.m.Abs) (n9:RU w A7 c8 x1.lo.m.Abs) (n3d:RU w A8a c9a x1.hi.m.Abs) (r:Except Int (Ao)) (hr:ER x0 x1 x2=some r) :
  Calls Tryd.prog 49 #[.agg #[.bool x0.lo.m.Neg,.slice A1 (sz x0.lo.m.Abs) c2,.int .i64 x0.lo.e,.bool x0.hi.m.Neg,.slice A4 (sz x0.hi.m.Abs) c5,.int .i64 x0.hi.e],.agg #[.bool x1.lo.m.Neg,.slice A7 (sz x1.lo.m.Abs) c8,.int .i64 x1.lo.e,.bool x1.hi.m.Neg,.slice A8a (sz x1.hi.m.Abs) c9a,.int .i64 x1.hi.e],.int .i64 x2] w (RetE 107 Ip w r):=by
 unfold ER at hr
 go_enter Tryd.func49,Tryd.ntmps49
 refine wp_seq_k fun K4d h4d=>Ai<|Bu rfl rfl fun b7a w1 E5d g6b q0b=>?_
 refine nrm ?_
 refine Bu rfl rfl fun b6d w2 E1b g7d q6c=>?_
 refine nrm ?_
 have g7j:=nlt E5d.size g7d
 have X8d:=xtr E5d E1b
 refine AB Eg fun b8j w3 E2a g9f q9d=>?_
 refine nrm ?_
 have g0g:=nlt X8d.size g9f
 have X7b:=xtr X8d E2a
 refine Ad<|h4d _ _<|wp_seq_k fun K0e h0e=>wp_seq_k fun K1e h1e=>Ai<|sV (Ag (o':=0) Dr rfl rfl) ?_
 refine sV (Ax AD rfl (q6c.ext E2a) (by simp only [List.drop_zero,List.take_succ_cons,List.take_zero];rfl) rfl) ?_
 refine sV (Ag (o':=0) Dr rfl rfl) ?_
 refine sV (Ax AD rfl ((q0b.ext E1b).ext E2a) (by simp only [List.drop_zero,List.take_succ_cons,List.take_zero];rfl) rfl) ?_
 obtain ⟨r1g,h2g,f3g⟩:=Ab hr
 refine sc (Ae He (by rfl)) (BV x1.lo x0.lo A7 c8 A1 c2 w3 (tbx X7b hT) (n9.ext X7b) (n3.ext X7b) r1g h2g) ?_
 rintro _ w4 E3a rfl
 refine nrm ?_
 have X8b:=xtr X7b E3a
 refine sb (CL rfl rfl) fun z9b hz9b=>?_
 refine nrm ?_
 refine Ad<|h1e _ _ ?_
 obtain ⟨m0a,h2e,f4g⟩:=Ab f3g
 refine DR (fun l l' w'=>∃(t3e:Value) (t4e:Value) (t5e:Value) (A4a:Option Addr) (c5a:Nat),UpdS [b7a] w4 w'∧Bx w' b7a 80 [.bool m0a.1,.slice A4a (sz m0a.2.1) c5a,.int .i64 m0a.2.2,.bool x0.hi.m.Neg,.slice A4 (sz x0.hi.m.Abs) c5,.int .i64 x0.hi.e]∧RU w' A4a c5a m0a.2.1∧l'=(((l.set 13 t3e).set 14 t4e).set 15 t5e)) ?_ ?_
 ·rcases bft z9b with e2b | e2b
  ·have p5g:=zP hz9b e2b
   have f6g:=ifP p5g h2e
   refine wp_cond_true (Am (evb rfl e2b))<|Ai<|sV (Ag (o':=0) Dr rfl rfl) ?_
   refine sV (Ax AD rfl ((q6c.ext E2a).ext E3a) (by simp only [List.drop_zero,List.take_succ_cons,List.take_zero];rfl) rfl) ?_
   refine sV (Ag (o':=0) Dr rfl rfl) ?_
   have q7g:=((q0b.ext E1b).ext E2a).ext E3a
   refine AA Cx rfl rfl q7g rfl rfl rfl rfl (by simp only [SP0,SP1,S0,S1,Nat.reduceAdd];rfl) fun w5 U6e q8g=>?_
   have X9g:=AR X8b U6e g6b
   refine Ad ?_
   obtain rfl:=sj f6g
   exact ⟨_,rfl,(.pointer (some ⟨b6d,0,none⟩)),(.agg #[.bool x1.lo.m.Neg,.slice A7 (sz x1.lo.m.Abs) c8,.int .i64 x1.lo.e]),(.pointer (some ⟨b7a,0,none⟩)),A7,c8,((UpdS.refl _ _).upd U6e (.inl im0)),q8g,(n9.ext X9g),(by simp only [S0,S1]<;>rfl)⟩
  ·have p0h:=zN hz9b e2b
   have f1h:=ifN p0h h2e
   refine wp_cond_false (Am (evb rfl e2b))<|wp_skip ?_
   have q2h:=((q0b.ext E1b).ext E2a).ext E3a
   obtain rfl:=sj f1h
   exact ⟨_,rfl,uu,uu,uu,A1,c2,(UpdS.refl _ _),q2h,(n3.ext X8b),(by simp only [S0,S1]<;>rfl)⟩
 ·rintro l' w5 ⟨t3e,t4e,t5e,A4a,c5a,U7c,q0c,n3h,hq'⟩ l'' hl
  rw [hq'] at hl
  clear hq'
  simp only [S0,S1] at hl
  subst hl
  have X1c:=GS X8b U7c (X8b).size (alc g6b al0)
  refine h0e _ _<|wp_seq_k fun K7e h7e=>wp_seq_k fun K8e h8e=>Ai<|sV (Ag (o':=3) Dx rfl rfl) ?_
  have ne4h:=(Bx.ne q0b g7d).symm
  have q9e:=((q6c.ext E2a).ext E3a).updS U7c (nmc ne4h nm0)
  refine sV (Ax AD rfl q9e (by simp only [List.drop_succ_cons,List.drop_zero,List.take_succ_cons,List.take_zero];rfl) rfl) ?_
  refine sV (Ag (o':=3) Dx rfl rfl) ?_
  refine sV (Ax AD rfl q0c (by simp only [List.drop_succ_cons,List.drop_zero,List.take_succ_cons,List.take_zero];rfl) rfl) ?_
  obtain ⟨r5h,h6h,f7h⟩:=Ab f4g
  refine sc (Ae He (by rfl)) (BV x1.hi x0.hi A8a c9a A4 c5 w5 (tbx X1c hT) (n3d.ext X1c) (n6.ext X1c) r5h h6h) ?_
  rintro _ w6 E6a rfl
  refine nrm ?_
  have X2c:=xtr X1c E6a
  refine sb (EA rfl rfl) fun z3c hz3c=>?_
  refine nrm ?_
  refine Ad<|h8e _ _ ?_
  obtain ⟨m1a,h0f,f8h⟩:=Ab f7h
  refine DR (fun l l' w'=>∃(t1f:Value) (t2f:Value) (t3f:Value) (A3b:Option Addr) (c4b:Nat),UpdS [b7a] w6 w'∧Bx w' b7a 80 [.bool m0a.1,.slice A4a (sz m0a.2.1) c5a,.int .i64 m0a.2.2,.bool m1a.1,.slice A3b (sz m1a.2.1) c4b,.int .i64 m1a.2.2]∧RU w' A3b c4b m1a.2.1∧l'=(((l.set 22 t1f).set 23 t2f).set 24 t3f)) ?_ ?_
  ·rcases bft z3c with e5b | e5b
   ·have p9h:=zP hz3c e5b
    have f0i:=ifP p9h h0f
    refine wp_cond_true (Am (evb rfl e5b))<|Ai<|sV (Ag (o':=3) Dx rfl rfl) ?_
    refine sV (Ax AD rfl (q9e.ext E6a) (by simp only [List.drop_succ_cons,List.drop_zero,List.take_succ_cons,List.take_zero];rfl) rfl) ?_
    refine sV (Ag (o':=3) Dx rfl rfl) ?_
    refine AA Cx rfl rfl (q0c.ext E6a) rfl rfl rfl rfl (by simp only [SP0,SP1,S0,S1,Nat.reduceAdd];rfl) fun w7 U4f q1i=>?_
    have X2i:=AR X2c U4f g6b
    refine Ad ?_
    obtain rfl:=sj f0i
    exact ⟨_,rfl,(.pointer (some ⟨b6d,3,none⟩)),(.agg #[.bool x1.hi.m.Neg,.slice A8a (sz x1.hi.m.Abs) c9a,.int .i64 x1.hi.e]),(.pointer (some ⟨b7a,3,none⟩)),A8a,c9a,((UpdS.refl _ _).upd U4f (.inl im0)),q1i,(n3d.ext X2i),(by simp only [S0,S1]<;>rfl)⟩
   ·have p3i:=zN hz3c e5b
    have f4i:=ifN p3i h0f
    refine wp_cond_false (Am (evb rfl e5b))<|wp_skip ?_
    obtain rfl:=sj f4i
    exact ⟨_,rfl,uu,uu,uu,A4,c5,(UpdS.refl _ _),(q0c.ext E6a),(n6.ext X2c),(by simp only [S0,S1]<;>rfl)⟩
  ·rintro l' w7 ⟨t1f,t2f,t3f,A3b,c4b,U8c,q5i,n5f,hq'⟩ l'' hl
   rw [hq'] at hl
   clear hq'
   simp only [S0,S1] at hl
   subst hl
   have X4c:=GS X2c U8c (X2c).size (alc g6b al0)
   refine h7e _ _<|wp_seq_k fun K6f h6f=>Ai<|sV (Al Ir rfl q5i rfl) ?_
   have n7f:RU w7 A4a c5a m0a.2.1:=(n3h.ext E6a).updS U8c (alc ⟨_,_,by decide,q0c.ext E6a⟩ al0)
   rcases Bi f8h with ⟨r9c,h0d,f6i⟩ | ⟨r9c,h0d,rfl⟩
   ·refine scO (Ae Ic (by rfl)) (Cv (⟨(⟨(⟨m0a.1,m0a.2.1⟩:Aj),m0a.2.2⟩:Ah),(⟨(⟨m1a.1,m1a.2.1⟩:Aj),m1a.2.2⟩:Ah)⟩:Aq) A4a c5a A3b c4b w7 (tbx X4c hT) n7f n5f (.ok r9c) h0d) ?_
    rintro _ w8 E5c ⟨A7i,c8i,A9i,c0j,rfl,n1j,n2j⟩
    refine nrm ?_
    have X3j:=xtr X4c E5c
    have ne8f:=(Bx.neT (q9d.ext E3a) (((q0b.ext E1b).ext E2a).ext E3a) (by decide))
    have q1d:=((((q9d.ext E3a).updS U7c (nmc ne8f nm0)).ext E6a).updS U8c (nmc ne8f nm0)).ext E5c
    refine AA Dh rfl rfl q1d rfl rfl rfl rfl (by simp only [SP0,SP1,S0,S1,Nat.reduceAdd];rfl) fun w9 U2d q4j=>?_
    have X5j:=AR X3j U2d g0g
    refine Ad<|h6f _ _<|wp_ret ?_
    obtain rfl:=sj f6i
    exact fin rfl (Res.cellN rfl AG q4j rfl rfl Res.nil) (Fp X5j ⟨A7i,c8i,A9i,c0j,rfl,(n1j.upd U2d q1d (by decide)),(n2j.upd U2d q1d (by decide))⟩)
   ·refine scP (Ae Ic (by rfl)) (Cv (⟨(⟨(⟨m0a.1,m0a.2.1⟩:Aj),m0a.2.2⟩:Ah),(⟨(⟨m1a.1,m1a.2.1⟩:Aj),m1a.2.2⟩:Ah)⟩:Aq) A4a c5a A3b c4b w7 (tbx X4c hT) n7f n5f (.error r9c) h0d) fun w8 E5c=>?_
    have X6j:=xtr X4c E5c
    exact ⟨rfl,DA X6j⟩
theorem c_dyad_made_Span__dyad_Hull_1 (x0:An) (x1:An) (x2:Int) (A1:Option Addr) (c2:Nat) (A4:Option Addr) (c5:Nat) (A7:Option Addr) (c8:Nat) (A6a:Option Addr) (c8a:Nat) (w:World) (hT:TB w) (n3:RLu w A1 c2 x0.Lo.Man.Abs) (n6:RLu w A4 c5 x0.Hi.Man.Abs) (n9:RLu w A7 c8 x1.Lo.Man.Abs) (n4b:RLu w A6a c8a x1.Hi.Man.Abs) (r:Ao × Int) (hr:BK x0 x1 x2=some r) :
  Calls Tryd.prog 48 #[.agg #[.bool x0.Lo.Man.Neg,.slice A1 x0.Lo.Man.Abs.length c2,.int .i64 x0.Lo.Exp,.bool x0.Hi.Man.Neg,.slice A4 x0.Hi.Man.Abs.length c5,.int .i64 x0.Hi.Exp],.agg #[.bool x1.Lo.Man.Neg,.slice A7 x1.Lo.Man.Abs.length c8,.int .i64 x1.Lo.Exp,.bool x1.Hi.Man.Neg,.slice A6a x1.Hi.Man.Abs.length c8a,.int .i64 x1.Hi.Exp],.int .i64 x2,.func (.func 49) #[] #[]] w (Ret ET w r):=by
 unfold BK at hr
 obtain ⟨q0,hq0,hr0⟩:=Ab hr
 unfold CE at hq0
 go_enter_defers Tryd.func48,Tryd.ntmps48
 refine wp_seq_k fun K9d h9d=>Ai<|Bu rfl rfl fun b9l w1 E5e g0m q1h=>?_
 refine nrm ?_
 refine Bu rfl rfl fun b1m w2 E6e g2h q7e=>?_
 refine nrm ?_
 have g2m:=nlt E5e.size g2h
 have X8e:=xtr E5e E6e
 refine AB Eg fun b5b w3 E6b g3h q7b=>?_
 refine nrm ?_
 have g8b:=nlt X8e.size g3h
 have X9e:=xtr X8e E6b
 refine AB IR fun b9b w4 E0b g4h q3b=>?_
 refine nrm ?_
 have g0c:=nlt X9e.size g4h
 have X0f:=xtr X9e E0b
 refine Ad<|h9d _ _<|wp_seq_k fun K1f h1f=>Ai<|HF (vs:=[.pointer (some ⟨b5b,0,none⟩),.pointer (some ⟨b9b,0,none⟩)]) (by rfl) (by rfl)<|Ad<|h1f _ _<|wp_seq_k fun K2f h2f=>Ai<|have q3f:=((q1h.ext E6e).ext E6b).ext E0b;sV (Al AG rfl q3f rfl) ?_
 refine sV (Al AG rfl ((q7e.ext E6b).ext E0b) rfl) ?_
 refine Er (vals:=[(0,.agg #[.bool x0.Lo.Man.Neg,.slice A1 x0.Lo.Man.Abs.length c2,.int .i64 x0.Lo.Exp,.bool x0.Hi.Man.Neg,.slice A4 x0.Hi.Man.Abs.length c5,.int .i64 x0.Hi.Exp]),(1,.agg #[.bool x1.Lo.Man.Neg,.slice A7 x1.Lo.Man.Abs.length c8,.int .i64 x1.Lo.Exp,.bool x1.Hi.Man.Neg,.slice A6a x1.Hi.Man.Abs.length c8a,.int .i64 x1.Hi.Exp])]) (cs:=[.bool x0.Lo.Man.Neg,.slice A1 x0.Lo.Man.Abs.length c2,.int .i64 x0.Lo.Exp,.bool x0.Hi.Man.Neg,.slice A4 x0.Hi.Man.Abs.length c5,.int .i64 x0.Hi.Exp,.bool x1.Lo.Man.Neg,.slice A7 x1.Lo.Man.Abs.length c8,.int .i64 x1.Lo.Exp,.bool x1.Hi.Man.Neg,.slice A6a x1.Hi.Man.Abs.length c8a,.int .i64 x1.Hi.Exp]) Ht Dh Eg (by rfl) (by decide) (by kernel_rfl) fun b4f w5 E3a g5h q5f=>?_
 refine nrm ?_
 have g3m:=nlt X0f.size g5h
 have X4a:=xtr X0f E3a
 rcases Bi hq0 with ⟨r1c,h0e,f6h⟩ | ⟨r1c,h0e,rfl⟩
 ·refine scO (Ae HU (by rfl)) (Ca x0 x1 b4f A1 c2 A4 c5 A7 c8 A6a c8a w5 (tbx X4a hT) (n3.ext X4a) (n6.ext X4a) (n9.ext X4a) (n4b.ext X4a) q5f (.ok r1c) h0e) ?_
  rintro _ w6 E2a rfl
  refine nrm ?_
  have X2c:=xtr X4a E2a
  refine Ad<|h2f _ _<|wp_seq_k fun K6f h6f=>Ai<|sV (Aa rfl) ?_
  rcases Bi f6h with ⟨r3c,h1e,f7h⟩ | ⟨r3c,h1e,rfl⟩
  ·refine scO (Ae Hl (by rfl)) (Du x2 w6 (tbx X2c hT)  (.ok r3c) h1e) ?_
   rintro _ w7 E5a rfl
   refine nrm ?_
   have X8h:=xtr X2c E5a
   refine Ad<|h6f _ _<|wp_seq_k fun K7f h7f=>DS [7,8] 9 mo rfl fun w8 E1b S2e=>?_
   have X4c:=xtr X8h E1b
   refine dA 0 rfl (fun _=>Aa rfl) ?_ (hQ:=fun _ _ _ h=>dq (rs:=[.cell 8 41,.cell 9 31]) rfl (by decide) h)
   refine dV 1 rfl (fun _ hw=>Al AG rfl (((((q3f.ext E3a).ext E2a).ext E5a).ext E1b).ext hw) rfl) S2e ?_ (hQ:=fun _ _ _ h=>dq (rs:=[.cell 8 41,.cell 9 31]) rfl (by decide) h)
   refine dV 3 rfl (fun _ hw=>Al AG rfl (((((((q7e.ext E6b).ext E0b).ext E3a).ext E2a).ext E5a).ext E1b).ext hw) rfl) S2e ?_ (hQ:=fun _ _ _ h=>dq (rs:=[.cell 8 41,.cell 9 31]) rfl (by decide) h)
   refine dA 5 rfl (fun _=>Aa rfl) ?_ (hQ:=fun _ _ _ h=>dq (rs:=[.cell 8 41,.cell 9 31]) rfl (by decide) h)
   obtain ⟨m8f,h9h,f0i⟩:=Ab f7h
   have hx9f:=BM h9h
   have n1i:RU w8 A1 c2 m8f:=by unfold RU;rw [hx9f];exact (n3.ext X4c)
   obtain ⟨m0g,h2i,f3i⟩:=Ab f0i
   have hx1g:=BM h2i
   have n4i:RU w8 A4 c5 m0g:=by unfold RU;rw [hx1g];exact (n6.ext X4c)
   obtain ⟨r0a,h5i,f6i⟩:=Ab f3i
   refine dc 2 rfl (by kernel_rfl) (by rfl) (Ae HZ (by simp only [sz,hx9f,hx1g];rfl)) (Di (⟨(⟨(⟨x0.Lo.Man.Neg,m8f⟩:Aj),x0.Lo.Exp⟩:Af),(⟨(⟨x0.Hi.Man.Neg,m0g⟩:Aj),x0.Hi.Exp⟩:Af)⟩:Ao) A1 c2 A4 c5 w8 (tbx X4c hT) n1i n4i r0a h5i) ?_
   rintro _ w9 E2b ⟨A5c,c6c,A7c,c8c,rfl,n2g,n3g⟩
   refine dnrm ?_
   have X9c:=xtr X4c E2b
   have S7i:=S2e.trans E2b
   obtain ⟨m4g,h8i,f9i⟩:=Ab f6i
   have hx5g:=BM h8i
   have n0j:RU w9 A7 c8 m4g:=by unfold RU;rw [hx5g];exact (n9.ext X9c)
   obtain ⟨m6g,h1j,f2j⟩:=Ab f9i
   have hx7g:=BM h1j
   have n3j:RU w9 A6a c8a m6g:=by unfold RU;rw [hx7g];exact (n4b.ext X9c)
   obtain ⟨r1a,h4j,f5j⟩:=Ab f2j
   refine dc 4 rfl (by kernel_rfl) (by rfl) (Ae HZ (by simp only [sz,hx5g,hx7g];rfl)) (Di (⟨(⟨(⟨x1.Lo.Man.Neg,m4g⟩:Aj),x1.Lo.Exp⟩:Af),(⟨(⟨x1.Hi.Man.Neg,m6g⟩:Aj),x1.Hi.Exp⟩:Af)⟩:Ao) A7 c8 A6a c8a w9 (tbx X9c hT) n0j n3j r1a h4j) ?_
   rintro _ w6a E7a ⟨A0d,c1d,A2d,c3d,rfl,n8g,n9g⟩
   refine dnrm ?_
   have X4d:=xtr X9c E7a
   have S6j:=S7i.trans E7a
   rcases Bi f5j with ⟨r5d,h3e,f7j⟩ | ⟨r5d,h3e,rfl⟩
   ·refine dcO 6 rfl (by kernel_rfl) (by rfl) (FM (first:=[]) (cap:=[]) (args:=[.agg #[.bool r0a.lo.m.Neg,.slice A5c (sz r0a.lo.m.Abs) c6c,.int .i64 r0a.lo.e,.bool r0a.hi.m.Neg,.slice A7c (sz r0a.hi.m.Abs) c8c,.int .i64 r0a.hi.e],.agg #[.bool r1a.lo.m.Neg,.slice A0d (sz r1a.lo.m.Abs) c1d,.int .i64 r1a.lo.e,.bool r1a.hi.m.Neg,.slice A2d (sz r1a.hi.m.Abs) c3d,.int .i64 r1a.hi.e],.int .i64 x2]) MV (by rfl) (by rfl)) (HX r0a r1a x2 A5c c6c A7c c8c A0d c1d A2d c3d w6a (tbx X4d hT) (n2g.ext E7a) (n3g.ext E7a) n8g n9g (.ok r5d) h3e) ?_
    rintro _ w8a E9a ⟨A8j,c9j,A0k,c1k,rfl,n2k,n3k⟩
    refine dnrm ?_
    have X4k:=xtr X4d E9a
    have S4m:=S6j.trans E9a
    have q6d:=(((((((q7b.ext E0b).ext E3a).ext E2a).ext E5a).ext E1b).ext E2b).ext E7a).ext E9a
    refine dk 7 rfl (by kernel_rfl) (by decide) (by rfl) Dh rfl rfl q6d rfl rfl rfl rfl (by simp only [SP0,SP1,S0,S1,Nat.reduceAdd];rfl) fun w4b U7d q5k=>?_
    have X6k:=AR X4k U7d g8b
    have ne0h:=(Bx.neT (((((((q3b.ext E3a).ext E2a).ext E5a).ext E1b).ext E2b).ext E7a).ext E9a) q6d (by decide))
    have q4e:=(((((((q3b.ext E3a).ext E2a).ext E5a).ext E1b).ext E2b).ext E7a).ext E9a).upd U7d ne0h
    refine dk 8 rfl (by kernel_rfl) (by decide) (by rfl) Hk rfl rfl q4e rfl rfl rfl rfl (by simp only [SP0,SP1,S0,S1,Nat.reduceAdd];rfl) fun w9d U8d q7k=>?_
    have X8k:=AR X6k U8d g0c
    refine CF (by kernel_rfl) ?_
    refine h7f _ _<|wp_ret ?_
    have n9k:=(n2k.upd U7d q6d (by decide)).upd U8d q4e (by decide)
    have n0l:=(n3k.upd U7d q6d (by decide)).upd U8d q4e (by decide)
    obtain rfl:=sj f7j
    obtain rfl:=sj hr0
    exact Kg Dy FB rfl (Res.cellN rfl AG (q5k.upd U8d (Ne.symm ne0h)) rfl rfl (Res.cell1 rfl Dz (Bx.cell q7k rfl) Res.nil)) (Ap X8k ⟨A8j,c9j,A0k,c1k,rfl,n9k,n0l⟩)
   ·refine dcP 6 rfl (by kernel_rfl) (by rfl) (FM (first:=[]) (cap:=[]) (args:=[.agg #[.bool r0a.lo.m.Neg,.slice A5c (sz r0a.lo.m.Abs) c6c,.int .i64 r0a.lo.e,.bool r0a.hi.m.Neg,.slice A7c (sz r0a.hi.m.Abs) c8c,.int .i64 r0a.hi.e],.agg #[.bool r1a.lo.m.Neg,.slice A0d (sz r1a.lo.m.Abs) c1d,.int .i64 r1a.lo.e,.bool r1a.hi.m.Neg,.slice A2d (sz r1a.hi.m.Abs) c3d,.int .i64 r1a.hi.e],.int .i64 x2]) MV (by rfl) (by rfl)) (HX r0a r1a x2 A5c c6c A7c c8c A0d c1d A2d c3d w6a (tbx X4d hT) (n2g.ext E7a) (n3g.ext E7a) n8g n9g (.error r5d) h3e) fun w8a E9a=>?_
    have X1l:=xtr X4d E9a
    have q2l:=(((((((q7b.ext E0b).ext E3a).ext E2a).ext E5a).ext E1b).ext E2b).ext E7a).ext E9a
    have q3l:=((((((q3b.ext E3a).ext E2a).ext E5a).ext E1b).ext E2b).ext E7a).ext E9a
    refine GH FB (AL b5b b9b (.bool false:Value) (.slice none 0 0:Value) (.int .i64 0:Value) (.bool false:Value) (.slice none 0 0:Value) (.int .i64 0:Value) (.int .i64 0:Value) r5d q2l q3l) rfl ?_
    rintro w9 ⟨u9,q9,q9'⟩
    obtain rfl:=sj hr0
    exact ⟨_,(Res.cellN rfl AG q9 rfl rfl (Res.cell1 rfl Dz (Bx.cell q9' rfl) Res.nil)),Ap (u9.toExt X1l g8b g0c) ⟨none,0,none,0,rfl,RU.nil _,RU.nil _⟩⟩
  ·refine scP (Ae Hl (by rfl)) (Du x2 w6 (tbx X2c hT)  (.error r3c) h1e) fun w7 E5a=>?_
   have X4l:=xtr X2c E5a
   have q5l:=(((q7b.ext E0b).ext E3a).ext E2a).ext E5a
   have q6l:=((q3b.ext E3a).ext E2a).ext E5a
   refine GH FB (AL b5b b9b (.bool false:Value) (.slice none 0 0:Value) (.int .i64 0:Value) (.bool false:Value) (.slice none 0 0:Value) (.int .i64 0:Value) (.int .i64 0:Value) r3c q5l q6l) rfl ?_
   rintro w9 ⟨u9,q9,q9'⟩
   obtain rfl:=sj hr0
   exact ⟨_,(Res.cellN rfl AG q9 rfl rfl (Res.cell1 rfl Dz (Bx.cell q9' rfl) Res.nil)),Ap (u9.toExt X4l g8b g0c) ⟨none,0,none,0,rfl,RU.nil _,RU.nil _⟩⟩
 ·refine scP (Ae HU (by rfl)) (Ca x0 x1 b4f A1 c2 A4 c5 A7 c8 A6a c8a w5 (tbx X4a hT) (n3.ext X4a) (n6.ext X4a) (n9.ext X4a) (n4b.ext X4a) q5f (.error r1c) h0e) fun w6 E2a=>?_
  have X7l:=xtr X4a E2a
  have q8l:=((q7b.ext E0b).ext E3a).ext E2a
  refine GH FB (AL b5b b9b (.bool false:Value) (.slice none 0 0:Value) (.int .i64 0:Value) (.bool false:Value) (.slice none 0 0:Value) (.int .i64 0:Value) (.int .i64 0:Value) r1c q8l ((q3b.ext E3a).ext E2a)) rfl ?_
  rintro w9 ⟨u9,q9,q9'⟩
  obtain rfl:=sj hr0
  exact ⟨_,(Res.cellN rfl AG q9 rfl rfl (Res.cell1 rfl Dz (Bx.cell q9' rfl) Res.nil)),Ap (u9.toExt X7l g8b g0c) ⟨none,0,none,0,rfl,RU.nil _,RU.nil _⟩⟩
theorem c_dyad_Hull (x0:An) (x1:An) (A1:Option Addr) (c2:Nat) (A4:Option Addr) (c5:Nat) (A7:Option Addr) (c8:Nat) (A2a:Option Addr) (c3a:Nat) (w:World) (hT:TB w) (n3:RLu w A1 c2 x0.Lo.Man.Abs) (n6:RLu w A4 c5 x0.Hi.Man.Abs) (n9:RLu w A7 c8 x1.Lo.Man.Abs) (n2b:RLu w A2a c3a x1.Hi.Man.Abs) (r:Ao × Int) (hr:Fa x0 x1=some r) :
  Calls Tryd.prog 17 #[.agg #[.bool x0.Lo.Man.Neg,.slice A1 x0.Lo.Man.Abs.length c2,.int .i64 x0.Lo.Exp,.bool x0.Hi.Man.Neg,.slice A4 x0.Hi.Man.Abs.length c5,.int .i64 x0.Hi.Exp],.agg #[.bool x1.Lo.Man.Neg,.slice A7 x1.Lo.Man.Abs.length c8,.int .i64 x1.Lo.Exp,.bool x1.Hi.Man.Neg,.slice A2a x1.Hi.Man.Abs.length c3a,.int .i64 x1.Hi.Exp]] w (Ret ET w r):=by
 unfold Fa at hr
 go_enter Tryd.func17,Tryd.ntmps17
 refine wp_seq_k fun K7a h7a=>Ai<|Bu rfl rfl fun b2d w1 E8a g3d q3b=>?_
 refine nrm ?_
 refine Bu rfl rfl fun b4d w2 E9a g4b q5b=>?_
 refine nrm ?_
 have g5d:=nlt E8a.size g4b
 have X0b:=xtr E8a E9a
 refine AB Eg fun b6d w3 E4a g6b q5a=>?_
 refine nrm ?_
 have g7b:=nlt X0b.size g6b
 have X0a:=xtr X0b E4a
 refine sV (Ac rfl) ?_
 refine Ad<|h7a _ _<|wp_seq_k fun K1b h1b=>Ai<|sV (Al AG rfl ((q3b.ext E9a).ext E4a) rfl) ?_
 refine sV (Al AG rfl (q5b.ext E4a) rfl) ?_
 obtain ⟨r8b,h9b,f0c⟩:=Ab hr
 refine sc (Ae KG (by rfl)) (c_dyad_made_Span__dyad_Hull_1 x0 x1 1 A1 c2 A4 c5 A7 c8 A2a c3a w3 (tbx X0a hT) (n3.ext X0a) (n6.ext X0a) (n9.ext X0a) (n2b.ext X0a) r8b h9b) ?_
 rintro _ w4 E1a ⟨A1c,c2c,A3c,c4c,rfl,n5c,n6c⟩
 refine nrm ?_
 have X7c:=xtr X0a E1a
 refine sV (Av rfl rfl) ?_
 refine sV (Av rfl rfl) ?_
 refine AA Dh rfl rfl (q5a.ext E1a) rfl rfl rfl rfl (by simp only [SP0,SP1,S0,S1,Nat.reduceAdd];rfl) fun w5 U6a q8c=>?_
 have X9c:=AR X7c U6a g7b
 refine sV (Ac rfl) ?_
 refine Ad<|h1b _ _<|wp_ret ?_
 have n0d:=n5c.upd U6a (q5a.ext E1a) (by decide)
 have n1d:=n6c.upd U6a (q5a.ext E1a) (by decide)
 obtain rfl:=sj f0c
 exact fin rfl (Res.cellN rfl AG q8c rfl rfl (Res.tmp rfl Res.nil)) (Ap X9c ⟨A1c,c2c,A3c,c4c,rfl,n0d,n1d⟩)
theorem En (x0:Ao) (x1:Int) (x2:Ao) (x3:Int) (A1:Option Addr) (c2:Nat) (A4:Option Addr) (c5:Nat) (A7:Option Addr) (c8:Nat) (A5a:Option Addr) (c6a:Nat) (w:World) (hT:TB w) (n3:RU w A1 c2 x0.Lo.Man.Abs) (n6:RU w A4 c5 x0.Hi.Man.Abs) (n9:RU w A7 c8 x2.Lo.Man.Abs) (n2d:RU w A5a c6a x2.Hi.Man.Abs) (r:Bool) (hr:AH x0 x1 x2 x3=some r) :
  Calls Tryd.prog 20 #[.agg #[.bool x0.Lo.Man.Neg,.slice A1 (sz x0.Lo.Man.Abs) c2,.int .i64 x0.Lo.Exp,.bool x0.Hi.Man.Neg,.slice A4 (sz x0.Hi.Man.Abs) c5,.int .i64 x0.Hi.Exp],.int .i64 x1,.agg #[.bool x2.Lo.Man.Neg,.slice A7 (sz x2.Lo.Man.Abs) c8,.int .i64 x2.Lo.Exp,.bool x2.Hi.Man.Neg,.slice A5a (sz x2.Hi.Man.Abs) c6a,.int .i64 x2.Hi.Exp],.int .i64 x3] w (Ret Fi w r):=by
 unfold AH at hr
 go_enter Tryd.func20,Tryd.ntmps20
 refine wp_seq_k fun K1b h1b=>Ai<|Bu rfl rfl fun b3d w1 E2b g7f q3b=>?_
 refine nrm ?_
 refine Bu rfl rfl fun b4d w2 E8a g5d q4b=>?_
 refine nrm ?_
 have g8f:=nlt E2b.size g5d
 have X2a:=xtr E2b E8a
 refine sV (Ac rfl) ?_
 refine Ad<|h1b _ _<|wp_seq_k fun K5b h5b=>wp_seq_k fun K6b h6b=>Ai<|sV (Aa rfl) ?_
 refine sb (Gq rfl rfl) fun z7a hz7a=>?_
 refine nrm ?_
 refine sV (Aa rfl) ?_
 obtain ⟨m7b,h8b,f9b⟩:=Ab hr
 refine BE 6 (fun l l' w'=>∃(t0c:Value) (t1c:Value),w2=w'∧l'=(((l.set 12 t0c).set 13 t1c).set 14 (.bool m7b))) ?_ ?_
 ·intro HJ39
  rcases bft z7a with e1a | e1a
  ·have p6d:=zP hz7a e1a
   have f7d:=ifP p6d h8b
   refine sP ?_ (hw:=wgF rfl e1a)
   refine sP ?_ (hw:=wgF rfl e1a)
   refine sV (Ay (evb rfl e1a) rfl) ?_
   obtain rfl:=sj f7d
   exact HJ39 _ _ ⟨uu,uu,rfl,(by simp only [S0,S1]<;>rfl)⟩
  ·have p8d:=zN hz7a e1a
   have f9d:=ifN p8d h8b
   refine sV (Aa rfl) ?_ (hw:=wgT rfl e1a)
   refine sb (Gq rfl rfl) ?_ (hw:=wgT rfl e1a)
   intro z9a hz9a
   refine nrm ?_
   refine sV (AC (evb rfl e1a) rfl) ?_
   obtain rfl:z9a=decide (¬x3=0):=bz hz9a
   obtain rfl:=sj f9d
   exact HJ39 _ _ ⟨(.int .i64 x3),(.bool (decide (¬x3=0))),rfl,(by simp only [S0,S1]<;>rfl)⟩
 ·rintro l' _ ⟨t0c,t1c,rfl,hq'⟩ l'' hl
  rw [hq'] at hl
  clear hq'
  simp only [S0,S1] at hl
  subst hl
  refine Ad<|h6b _ _ ?_
  rcases bft m7b with e3a | e3a
  ·have p0e:=e3a
   have f1e:=ifP p0e f9b
   refine wp_cond_true (Am (evb rfl e3a))<|wp_seq_k fun K2c h2c=>Ai<|sV (Ac rfl) ?_
   refine Ad<|h2c _ _<|wp_ret ?_
   obtain rfl:=sj f1e
   exact fin rfl (Res.tmp rfl Res.nil) (Ap X2a rfl)
  ·have p2e:=bF e3a
   have f3e:=ifN p2e f9b
   refine wp_cond_false (Am (evb rfl e3a))<|wp_skip<|h5b _ _<|wp_seq_k fun K3c h3c=>Ai<|sV (Ag (o':=0) GJ rfl rfl) ?_
   refine sV (Ax BJ rfl q4b (by simp only [List.drop_zero,List.take_succ_cons,List.take_zero];rfl) rfl) ?_
   refine sV (Ag (o':=0) GJ rfl rfl) ?_
   refine sV (Ax BJ rfl (q3b.ext E8a) (by simp only [List.drop_zero,List.take_succ_cons,List.take_zero];rfl) rfl) ?_
   obtain ⟨r4c,h4e,f5e⟩:=Ab f3e
   refine sc (Ae Nh (by rfl)) (Gh x2.Lo x0.Lo A7 c8 A1 c2 w2 (tbx X2a hT) (n9.ext X2a) (n3.ext X2a) r4c h4e) ?_
   rintro _ w3 E0b rfl
   refine nrm ?_
   have X4a:=xtr X2a E0b
   refine sV (Aa rfl) ?_
   obtain ⟨m6e,h5c,f7e⟩:=Ab f5e
   refine BE 12 (fun l l' w'=>∃(t6c:Value) (t7c:Value) (t8c:Value) (t9c:Value) (t0d:Value),UpdS [] w3 w'∧l'=((((((l.set 21 t6c).set 22 t7c).set 23 t8c).set 24 t9c).set 25 t0d).set 26 (.bool m6e))) ?_ ?_
   ·intro HJ82
    rcases bft r4c with e0a | e0a
    ·have p8e:=e0a
     have f9e:=ifP p8e h5c
     refine sV (Ag (o':=3) GI rfl rfl) ?_ (hw:=wgT rfl e0a)
     refine sV (Ax BJ rfl ((q3b.ext E8a).ext E0b) (by simp only [List.drop_succ_cons,List.drop_zero,List.take_succ_cons,List.take_zero];rfl) rfl) ?_ (hw:=wgT rfl e0a)
     refine sV (Ag (o':=3) GI rfl rfl) ?_ (hw:=wgT rfl e0a)
     refine sV (Ax BJ rfl (q4b.ext E0b) (by simp only [List.drop_succ_cons,List.drop_zero,List.take_succ_cons,List.take_zero];rfl) rfl) ?_ (hw:=wgT rfl e0a)
     obtain ⟨r1d,h0f,f1f⟩:=Ab f9e
     refine sc (Ae Nh (by rfl)) (Gh x0.Hi x2.Hi A4 c5 A5a c6a w3 (tbx X4a hT) (n6.ext X4a) (n2d.ext X4a) r1d h0f) ?_ (hw:=wgT rfl e0a)
     rintro _ w4 E2f rfl
     refine nrm ?_
     refine sV (Ay (evb rfl e0a) rfl) ?_
     obtain rfl:=sj f1f
     exact HJ82 _ _ ⟨(.pointer (some ⟨b3d,3,none⟩)),(.agg #[.bool x0.Hi.Man.Neg,.slice A4 (sz x0.Hi.Man.Abs) c5,.int .i64 x0.Hi.Exp]),(.pointer (some ⟨b4d,3,none⟩)),(.agg #[.bool x2.Hi.Man.Neg,.slice A5a (sz x2.Hi.Man.Abs) c6a,.int .i64 x2.Hi.Exp]),(.bool r1d),((UpdS.refl _ _).ext E2f),(by simp only [S0,S1]<;>rfl)⟩
    ·have p3f:=bF e0a
     have f4f:=ifN p3f h5c
     refine sP ?_ (hw:=wgF rfl e0a)
     refine sP ?_ (hw:=wgF rfl e0a)
     refine sP ?_ (hw:=wgF rfl e0a)
     refine sP ?_ (hw:=wgF rfl e0a)
     refine sP ?_ (hw:=wgF rfl e0a)
     refine sV (AC (evb rfl e0a) rfl) ?_
     obtain rfl:=sj f4f
     exact HJ82 _ _ ⟨uu,uu,uu,uu,uu,(UpdS.refl _ _),(by simp only [S0,S1]<;>rfl)⟩
   ·rintro l' w4 ⟨t6c,t7c,t8c,t9c,t0d,U5f,hq'⟩ l'' hl
    rw [hq'] at hl
    clear hq'
    simp only [S0,S1] at hl
    subst hl
    have X6f:=GS X4a U5f (X4a).size al0
    refine sV (Ac rfl) ?_
    refine Ad<|h3c _ _<|wp_ret ?_
    obtain rfl:=sj f7e
    exact fin rfl (Res.tmp rfl Res.nil) (Ap X6f rfl)
end Go.Proofs

