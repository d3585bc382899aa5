import Derived.Test.YtabiobmfelafoaaGreatDoorLeaf1
namespace Go.Proofs.Lf
set_option linter.unusedVariables false
set_option linter.unusedSimpArgs false
set_option maxHeartbeats 4000000
open Go.RowKit Go.Sb Go.Proofs Go.Proofs.Sbn
set_option maxRecDepth 20000 in
theorem DY (x0:List Int) (x1:List Int) (A1:Option Addr) (c2:Nat) (A4:Option Addr) (c5:Nat) (w:World) (hT:TB w) (n3:RLu w A1 c2 x0) (n6:RLu w A4 c5 x1) (r:Cf) (hr:Bc x0 x1=some r) :
  Calls Tryz.prog 149 #[.slice A1 x0.length c2,.slice A4 x1.length c5] w (Ret LU w r):=by
 unfold Bc at hr
 refine KU Tryz.func149 rfl [.slice A1 x0.length c2,.slice A4 x1.length c5,uu,uu,uu,uu,uu,uu,uu,uu,uu,uu,uu,uu,uu,uu,uu,uu,uu,uu,uu,uu,uu,uu,uu,uu,uu,uu,uu,uu,uu,uu,uu,uu,uu,uu,uu,uu,uu,uu,uu,uu,uu,uu,uu,uu,uu,uu,uu,uu,uu,uu,uu,uu,uu,uu,uu,uu,uu,uu,uu,uu,uu,uu,uu,uu,uu,uu,uu,uu,uu,uu,uu,uu,uu,uu,uu,uu,uu,uu,uu,uu,uu,uu,uu,uu,uu,uu,uu,uu,uu,uu,uu,uu,uu,uu,uu,uu,uu,uu,uu,uu,uu,uu,uu,uu,uu,uu,uu,uu,uu,uu,uu,uu,uu,uu,uu,uu,uu,uu,uu,uu,uu,uu,uu,uu,uu,uu,uu,uu,uu,uu,uu,uu,uu,uu,uu,uu,uu,uu,uu,uu,uu,uu,uu,uu,uu,uu,uu,uu,uu,uu,uu,uu,uu,uu,uu,uu,uu,uu,uu,uu,uu,uu,uu,uu,uu,uu,uu,uu,uu,uu,uu,uu,uu,uu] (by kernel_rfl) ?_
 refine wp_seq_k fun K7 h7=>Ae<|AE JH fun b8 w1 E9 g6e q2e=>?_
 refine nrm ?_
 refine Ad<|h7 _ _<|wp_seq_k fun K7e h7e=>wp_seq_k fun K6h h6h=>Ae<|sV (Aa rfl) ?_
 refine sV (Ax AP rfl) ?_
 refine sb (BE rfl rfl) fun z2d hz2d=>?_
 refine nrm ?_
 refine Ad<|h6h _ _ ?_
 rcases bft z2d with e0g | e0g
 ·have p5v:=zP hz2d e0g
  have f6v:=ifP p5v hr
  refine wp_cond_true (Ai (evb rfl e0g))<|wp_seq_k fun K6l h6l=>Ae<|sV (Aa rfl) ?_
  refine sV (Aa rfl) ?_
  obtain ⟨u7v,h8v,f9v⟩:=Ab f6v
  obtain ⟨bb66442,oo66443,hA0w,ia1w,ib2w,hc66445⟩:=RL.nth (n6.ext E9) h8v
  refine sV (Ar AP An rfl rfl hA0w ia1w ib2w) ?_
  refine sV (Ag AN rfl hc66445) ?_
  obtain ⟨r3w,h4w,f5w⟩:=Ab f9v
  refine sc (Af en_211 (by rfl)) (c_sorobanref01_short x0 u7v A1 c2 w1 (tbx E9 hT) (n3.ext E9) r3w h4w) ?_
  rintro _ w2 E7h ⟨A6w,c7w,A8w,c9w,rfl,n0x,n1x⟩
  refine nrm ?_
  have X2x:=xtr E9 E7h
  refine AA IN rfl rfl (q2e.ext E7h) rfl rfl rfl rfl (by simp only [SP0,SP1,S0,S1,Nat.reduceAdd];rfl) fun w3 U4i q3x=>?_
  have X4x:=belU X2x U4i g6e
  refine Ad<|h6l _ _<|wp_ret ?_
  have n5x:=n0x.upd U4i (q2e.ext E7h) (by decide)
  have n6x:=n1x.upd U4i (q2e.ext E7h) (by decide)
  obtain rfl:=sj f5w
  exact fin rfl (Res.cellN rfl KP q3x rfl rfl Res.nil) (Ak X4x ⟨A6w,c7w,A8w,c9w,rfl,n5x,n6x⟩)
 ·have p7x:=zN hz2d e0g
  have f8x:=ifN p7x hr
  refine wp_cond_false (Ai (evb rfl e0g))<|wp_skip<|h7e _ _<|wp_seq_k fun K7l h7l=>wp_seq_k fun K8l h8l=>Ae<|sV (Aa rfl) ?_
  refine sV (Aa rfl) ?_
  obtain ⟨r9d,h9x,f9l⟩:=Ab f8x
  refine sc (Af MG (by rfl)) (FL x0 x1 A1 c2 A4 c5 w1 (tbx E9 hT) (n3.ext E9) (n6.ext E9) r9d h9x) ?_
  rintro _ w2 E8h rfl
  refine nrm ?_
  have X3f:=xtr E9 E8h
  refine sb (CK rfl rfl) fun z5d hz5d=>?_
  refine nrm ?_
  refine Ad<|h8l _ _ ?_
  rcases bft z5d with e1g | e1g
  ·have p0y:=zP hz5d e1g
   have f1y:=ifP p0y f9l
   refine wp_cond_true (Ai (evb rfl e1g))<|wp_seq_k fun K0m h0m=>Ae<|sV (Aa rfl) ?_
   obtain ⟨r5i,h2y,f3y⟩:=Ab f1y
   refine sc (Af IM (by rfl)) (CC x0 A1 c2 w2 (tbx X3f hT) (n3.ext X3f) r5i h2y) ?_
   rintro _ w3 E6i ⟨A7i,c8i,rfl,n4y⟩
   refine nrm ?_
   have X5y:=xtr X3f E6i
   refine sV (Bi (vals:=[(1,.slice A7i r5i.length c8i)]) (cells:=[.slice none 0 0,.slice A7i r5i.length c8i]) (by rfl) (by kernel_rfl)) ?_
   refine AA IN rfl rfl ((q2e.ext E8h).ext E6i) rfl rfl rfl rfl (by simp only [SP0,SP1,S0,S1,Nat.reduceAdd];rfl) fun w4 U1m q6y=>?_
   have X7y:=belU X5y U1m g6e
   refine Ad<|h0m _ _<|wp_ret ?_
   have n8y:=n4y.upd U1m ((q2e.ext E8h).ext E6i) (by decide)
   obtain rfl:=sj f3y
   exact fin rfl (Res.cellN rfl KP q6y rfl rfl Res.nil) (Ak X7y ⟨none,0,A7i,c8i,rfl,(RL.nil _ _ _),n8y⟩)
  ·have p9y:=zN hz5d e1g
   have f0z:=ifN p9y f9l
   refine wp_cond_false (Ai (evb rfl e1g))<|wp_skip<|h7l _ _<|wp_seq_k fun K2m h2m=>Ae<|sV (Aa rfl) ?_
   refine sV (Ax AP rfl) ?_
   refine sV (Ac rfl) ?_
   refine Ad<|h2m _ _<|wp_seq_k fun K3m h3m=>Ae<|sV (Aa rfl) ?_
   refine sV (HZ (c:=wi64 (32*(x1.length:Int))) rfl rfl rfl) ?_
   refine sV (Aa rfl) ?_
   obtain ⟨r5b,h1z,f2z⟩:=Ab f0z
   refine sc (Af JJ (by rfl)) (CD x1 A4 c5 w2 (tbx X3f hT) (n6.ext X3f) r5b h1z) ?_
   rintro _ w3 E4m rfl
   refine nrm ?_
   have X9i:=xtr X3f E4m
   refine sV (AV (c:=wi64 ((wi64 (32*(x1.length:Int))) - r5b)) rfl rfl rfl) ?_
   refine sV (Ac rfl) ?_
   refine Ad<|h3m _ _<|wp_seq_k fun K5m h5m=>Ae<|sV (Aa rfl) ?_
   refine sV (Aa rfl) ?_
   obtain ⟨r2b,h3z,f4z⟩:=Ab f2z
   refine sc (Af Jr (by rfl)) (Hw x1 (wi64 ((wi64 (32*(x1.length:Int))) - r5b)) A4 c5 w3 (tbx X9i hT) (n6.ext X9i) r2b h3z) ?_
   rintro _ w4 E2g ⟨A0c,c1c,rfl,n6m⟩
   refine nrm ?_
   have X4f:=xtr X9i E2g
   refine sV (Ac rfl) ?_
   refine Ad<|h5m _ _<|wp_seq_k fun K7m h7m=>Ae<|sV (Aa rfl) ?_
   refine sV (Aa rfl) ?_
   obtain ⟨r0j,h5z,f6z⟩:=Ab f4z
   have hl105:=OW.lt n6m
   refine sc (Af Jr (by rfl)) (Hw x0 (wi64 ((wi64 (32*(x1.length:Int))) - r5b)) A1 c2 w4 (tbx X4f hT) (n3.ext X4f) r0j h5z) ?_
   rintro _ w5 E9h ⟨A8m,c9m,rfl,n7z⟩
   refine nrm ?_
   have X8z:=xtr X4f E9h
   have X9z:=xtr E2g E9h
   refine sV (Ac rfl) ?_
   refine Ad<|h7m _ _<|wp_seq_k fun K0n h0n=>?_
   obtain ⟨m7b,h0a0,f1a0⟩:=Ab f6z
   refine BZ (fun l l' w'=>∃(A8b:Option Addr) (c9b:Nat) (t7a:Nat→Value),Ext w w'∧Ext w3 w'∧Ext w4 w'∧OW 179 w4.heap.size w' A8b m7b.length c9b m7b∧OW 179 w3.heap.size w' A0c r2b.length c1c r2b∧l'=((((((((((l.set 8 (.slice A8b m7b.length c9b)).set 46 (t7a 0)).set 47 (t7a 1)).set 48 (t7a 2)).set 49 (.slice A1 x0.length c2)).set 50 (.int .i64 (x0.length:Int))).set 51 (t7a 3)).set 52 (t7a 4)).set 53 (t7a 5)).set 54 (t7a 6))) ?_ ?_
   ·apply wp_block
    refine AR (fun l n1n l' w'=>∃(v7d:List Int) (A8e:Option Addr) (c9e:Nat) (t8d:Nat→Value),Ext w w'∧Ext w3 w'∧Ext w4 w'∧OW 179 w4.heap.size w' A8e v7d.length c9e v7d∧OW 179 w3.heap.size w' A0c r2b.length c1c r2b∧CP x0 x1 n1n v7d=some m7b∧l'=(((((((((l.set 8 (.slice A8e v7d.length c9e)).set 47 (t8d 0)).set 48 (t8d 1)).set 49 (t8d 2)).set 50 (t8d 3)).set 51 (t8d 4)).set 52 (t8d 5)).set 53 (t8d 6)).set 54 (t8d 7))) 18446744073709551616 ?_ ?_ ?_
    ·exact ⟨r0j,A8m,c9m,(tk [uu,uu,uu,uu,uu,uu,uu,uu]),X8z,X9z,E9h,(OW.nn n7z),(n6m.ext E9h),h0a0,(by simp only [S0,S1]<;>rfl)⟩
    ·rintro l' w' ⟨v7d,A8e,c9e,t8d,_,_,_,_,_,hz,_⟩
     exact nomatch hz
    ·rintro n1n ih2a0 l' w6 ⟨v7d,A8e,c9e,t8d,X2n,X3n,X4n,ow5n,ow6n,hr1j,hq'⟩ l'' hl
     rw [hq'] at hl
     clear hq'
     simp only [S0,S1] at hl
     subst hl
     unfold CP at hr1j
     refine Ba<|wp_seq_k fun K7n h7n=>wp_seq_k fun K8n h8n=>Ae<|sV (Aa rfl) ?_
     refine sV (Ax AP rfl) ?_
     refine sV (Aa rfl) ?_
     refine sV (Ax AP rfl) ?_
     refine sb (FZ rfl rfl) fun z5f hz5f=>?_
     refine nrm ?_
     refine Ad<|h8n _ _ ?_
     rcases bft z5f with e3g | e3g
     ·have p3a0:=zP hz5f e3g
      have f4a0:=ifP p3a0 hr1j
      refine wp_cond_true (Ai (evb rfl e3g))<|wp_skip<|h7n _ _ ?_
      apply wp_block
      refine Ae<|sV (Aa rfl) ?_
      refine DI (vals:=[(0,.int .u32 0)]) (cs:=[.int .u32 0]) AP An FK (by rfl) (by decide) (by kernel_rfl) fun b9n w7 E4g g7ah q5a0=>?_
      refine nrm ?_
      have X6a0:=xtr X2n E4g
      have X7a0:=xtr X3n E4g
      have X0o:=xtr X4n E4g
      have n8a0:RLu w7 (some ⟨b9n,0,none⟩) 1 [0]:=(OW.lit (n0:=0) (n:=1) (xs:=[0]) q5a0 (Nat.zero_le _) rfl (by decide)).rl
      obtain ⟨_,h9a0,f0a1⟩:=Ab f4a0
      have gd349:=Ay h9a0
      refine HN AP CO rfl rfl rfl (ow5n.ext E4g) n8a0 gd349 X0o.size fun A1o c2o w8 B352 ow1a1=>?_
      refine nrm ?_
      have X2a1:=xO X6a0 B352 X4f.size
      have X3a1:=xO X7a0 B352 E2g.size
      have X4a1:=xO X0o B352 (Nat.le_refl _)
      have ow5a1:=OW.bel2 (ow6n.ext E4g) B352 hl105
      refine sV (Ac rfl) ?_
      refine Ad ?_
      exact ih2a0 _ _ ⟨(v7d++([0]:List Int)),A1o,c2o,(tk [.slice A8e v7d.length c9e,.int .i64 ((List.length v7d:Nat):Int),.slice A1 x0.length c2,.int .i64 (x0.length:Int),.bool z5f,.slice A8e v7d.length c9e,.slice (some ⟨b9n,0,none⟩) 1 1,.slice A1o (List.length (v7d++([0]:List Int))) c2o]),X2a1,X3a1,X4a1,(OW.nn ow1a1),ow5a1,f0a1,(by simp only [S0,S1]<;>rfl)⟩
     ·have p6a1:=zN hz5f e3g
      have f7a1:=ifN p6a1 hr1j
      refine wp_cond_false (Ai (evb rfl e3g))<|wp_exit ?_
      simp only [Exit.then,Exit.inBlock,↓reduceIte,Nat.reduceEqDiff]
      obtain rfl:=sj f7a1
      exact ⟨_,rfl,A8e,c9e,(tk [.slice A8m r0j.length c9m,.slice A8e v7d.length c9e,.int .i64 ((List.length v7d:Nat):Int),.bool z5f,t8d 5,t8d 6,t8d 7]),X2n,X3n,X4n,(OW.nn ow5n),ow6n,(by simp only [S0,S1]<;>rfl)⟩
   ·rintro l' w6 ⟨A8b,c9b,t7a,X3o,X4o,X5o,ow6o,ow7o,hq'⟩ l'' hl
    rw [hq'] at hl
    clear hq'
    simp only [S0,S1] at hl
    subst hl
    refine h0n _ _<|wp_seq_k fun K8o h8o=>Ae<|sV (Aa rfl) ?_
    refine sV (Ax AP rfl) ?_
    refine sV (Aa rfl) ?_
    refine sV (AV (c:=wi64 ((x0.length:Int) - (x1.length:Int))) rfl rfl rfl) ?_
    refine sV (AO (c:=wi64 ((wi64 ((x0.length:Int) - (x1.length:Int)))+1)) rfl rfl rfl) ?_
    obtain ⟨_,h8a1,f9a1⟩:=Ab f1a0
    have gd361:=Ay h8a1
    have hl362:=OW.lt ow7o
    have hl363:=OW.lt ow6o
    refine Gx AP CO rfl rfl gd361 fun A2c w7 E5g ow0a2=>?_
    refine nrm ?_
    have X1a2:=xtr X3o E5g
    have X2a2:=xtr X4o E5g
    have X3a2:=xtr X5o E5g
    refine sV (Ac rfl) ?_
    refine Ad<|h8o _ _<|wp_seq_k fun K9o h9o=>wp_seq_k fun K0p h0p=>Ae<|sV (Aa rfl) ?_
    refine sV (Ax AP rfl) ?_
    refine sV (Aa rfl) ?_
    refine sV (AV (c:=wi64 ((x0.length:Int) - (x1.length:Int))) rfl rfl rfl) ?_
    refine sV (Ac rfl) ?_
    refine Ad<|h0p _ _ ?_
    obtain ⟨m6g,h4a2,f5a2⟩:=Ab f9a1
    refine BZ (fun l l' w'=>∃(t4a:Nat→Value),Ext w w'∧Ext w3 w'∧Ext w4 w'∧OW 179 w4.heap.size w' A8b m7b.length c9b m6g.1∧OW 179 w6.heap.size w' A2c (((wi64 ((wi64 ((x0.length:Int) - (x1.length:Int)))+1)):Int).toNat) (((wi64 ((wi64 ((x0.length:Int) - (x1.length:Int)))+1)):Int).toNat) m6g.2∧OW 179 w3.heap.size w' A0c r2b.length c1c r2b∧l'=[.slice A1 x0.length c2,.slice A4 x1.length c5,uu,uu,.pointer (some ⟨b8,0,none⟩),.int .i64 (x1.length:Int),.int .i64 (wi64 ((wi64 (32*(x1.length:Int))) - r5b)),.slice A0c r2b.length c1c,.slice A8b m7b.length c9b,.slice A2c (((wi64 ((wi64 ((x0.length:Int) - (x1.length:Int)))+1)):Int).toNat) (((wi64 ((wi64 ((x0.length:Int) - (x1.length:Int)))+1)):Int).toNat),t4a 0,t4a 1,t4a 2,t4a 3,t4a 4,t4a 5,t4a 6,t4a 7,t4a 8,.slice A4 x1.length c5,.int .i64 (x1.length:Int),.bool z2d,uu,uu,uu,uu,uu,.slice A1 x0.length c2,.slice A4 x1.length c5,.int .i64 r9d,.bool z5d,uu,uu,uu,.slice A4 x1.length c5,.int .i64 (x1.length:Int),.int .i64 (x1.length:Int),.int .i64 (wi64 (32*(x1.length:Int))),.slice A4 x1.length c5,.int .i64 r5b,.int .i64 (wi64 ((wi64 (32*(x1.length:Int))) - r5b)),.slice A4 x1.length c5,.int .i64 (wi64 ((wi64 (32*(x1.length:Int))) - r5b)),.slice A0c r2b.length c1c,.slice A1 x0.length c2,.int .i64 (wi64 ((wi64 (32*(x1.length:Int))) - r5b)),t7a 0,t7a 1,t7a 2,.slice A1 x0.length c2,.int .i64 (x0.length:Int),t7a 3,t7a 4,t7a 5,t7a 6,.slice A1 x0.length c2,.int .i64 (x0.length:Int),.int .i64 (x1.length:Int),.int .i64 (wi64 ((x0.length:Int) - (x1.length:Int))),.int .i64 (wi64 ((wi64 ((x0.length:Int) - (x1.length:Int)))+1)),.slice A2c (((wi64 ((wi64 ((x0.length:Int) - (x1.length:Int)))+1)):Int).toNat) (((wi64 ((wi64 ((x0.length:Int) - (x1.length:Int)))+1)):Int).toNat),.slice A1 x0.length c2,.int .i64 (x0.length:Int),.int .i64 (x1.length:Int),.int .i64 (wi64 ((x0.length:Int) - (x1.length:Int))),t4a 9,t4a 10,t4a 11,t4a 12,t4a 13,t4a 14,t4a 15,t4a 16,t4a 17,t4a 18,t4a 19,t4a 20,t4a 21,t4a 22,t4a 23,t4a 24,t4a 25,t4a 26,t4a 27,t4a 28,t4a 29,t4a 30,t4a 31,t4a 32,t4a 33,t4a 34,t4a 35,t4a 36,t4a 37,t4a 38,t4a 39,t4a 40,t4a 41,t4a 42,t4a 43,t4a 44,t4a 45,t4a 46,t4a 47,t4a 48,t4a 49,t4a 50,t4a 51,t4a 52,t4a 53,t4a 54,t4a 55,t4a 56,t4a 57,t4a 58,t4a 59,t4a 60,t4a 61,t4a 62,t4a 63,t4a 64,t4a 65,t4a 66,t4a 67,t4a 68,t4a 69,t4a 70,t4a 71,t4a 72,t4a 73,t4a 74,t4a 75,t4a 76,t4a 77,t4a 78,t4a 79,t4a 80,t4a 81,t4a 82,t4a 83,t4a 84,t4a 85,t4a 86,t4a 87,t4a 88,t4a 89,t4a 90,t4a 91,t4a 92,t4a 93,t4a 94,t4a 95,t4a 96,t4a 97,t4a 98,t4a 99,t4a 100,t4a 101,t4a 102,t4a 103,t4a 104,t4a 105,t4a 106,t4a 107,t4a 108,t4a 109,t4a 110,t4a 111,t4a 112,uu,uu,uu,uu,uu,uu,uu]) ?_ ?_
    ·apply wp_block
     refine AR (fun l n1p l' w'=>∃(v3a:Int) (v7g:List Int) (v0e:List Int) (t0a:Nat→Value),Ext w w'∧Ext w3 w'∧Ext w4 w'∧OW 179 w4.heap.size w' A8b m7b.length c9b v7g∧OW 179 w6.heap.size w' A2c (((wi64 ((wi64 ((x0.length:Int) - (x1.length:Int)))+1)):Int).toNat) (((wi64 ((wi64 ((x0.length:Int) - (x1.length:Int)))+1)):Int).toNat) v0e∧OW 179 w3.heap.size w' A0c r2b.length c1c r2b∧CX x0 x1 r2b n1p v3a v7g v0e=some m6g∧l'=[.slice A1 x0.length c2,.slice A4 x1.length c5,uu,uu,.pointer (some ⟨b8,0,none⟩),.int .i64 (x1.length:Int),.int .i64 (wi64 ((wi64 (32*(x1.length:Int))) - r5b)),.slice A0c r2b.length c1c,.slice A8b m7b.length c9b,.slice A2c (((wi64 ((wi64 ((x0.length:Int) - (x1.length:Int)))+1)):Int).toNat) (((wi64 ((wi64 ((x0.length:Int) - (x1.length:Int)))+1)):Int).toNat),.int .i64 v3a,t0a 0,t0a 1,t0a 2,t0a 3,t0a 4,t0a 5,t0a 6,t0a 7,.slice A4 x1.length c5,.int .i64 (x1.length:Int),.bool z2d,uu,uu,uu,uu,uu,.slice A1 x0.length c2,.slice A4 x1.length c5,.int .i64 r9d,.bool z5d,uu,uu,uu,.slice A4 x1.length c5,.int .i64 (x1.length:Int),.int .i64 (x1.length:Int),.int .i64 (wi64 (32*(x1.length:Int))),.slice A4 x1.length c5,.int .i64 r5b,.int .i64 (wi64 ((wi64 (32*(x1.length:Int))) - r5b)),.slice A4 x1.length c5,.int .i64 (wi64 ((wi64 (32*(x1.length:Int))) - r5b)),.slice A0c r2b.length c1c,.slice A1 x0.length c2,.int .i64 (wi64 ((wi64 (32*(x1.length:Int))) - r5b)),t7a 0,t7a 1,t7a 2,.slice A1 x0.length c2,.int .i64 (x0.length:Int),t7a 3,t7a 4,t7a 5,t7a 6,.slice A1 x0.length c2,.int .i64 (x0.length:Int),.int .i64 (x1.length:Int),.int .i64 (wi64 ((x0.length:Int) - (x1.length:Int))),.int .i64 (wi64 ((wi64 ((x0.length:Int) - (x1.length:Int)))+1)),.slice A2c (((wi64 ((wi64 ((x0.length:Int) - (x1.length:Int)))+1)):Int).toNat) (((wi64 ((wi64 ((x0.length:Int) - (x1.length:Int)))+1)):Int).toNat),.slice A1 x0.length c2,.int .i64 (x0.length:Int),.int .i64 (x1.length:Int),.int .i64 (wi64 ((x0.length:Int) - (x1.length:Int))),t0a 8,t0a 9,t0a 10,t0a 11,t0a 12,t0a 13,t0a 14,t0a 15,t0a 16,t0a 17,t0a 18,t0a 19,t0a 20,t0a 21,t0a 22,t0a 23,t0a 24,t0a 25,t0a 26,t0a 27,t0a 28,t0a 29,t0a 30,t0a 31,t0a 32,t0a 33,t0a 34,t0a 35,t0a 36,t0a 37,t0a 38,t0a 39,t0a 40,t0a 41,t0a 42,t0a 43,t0a 44,t0a 45,t0a 46,t0a 47,t0a 48,t0a 49,t0a 50,t0a 51,t0a 52,t0a 53,t0a 54,t0a 55,t0a 56,t0a 57,t0a 58,t0a 59,t0a 60,t0a 61,t0a 62,t0a 63,t0a 64,t0a 65,t0a 66,t0a 67,t0a 68,t0a 69,t0a 70,t0a 71,t0a 72,t0a 73,t0a 74,t0a 75,t0a 76,t0a 77,t0a 78,t0a 79,t0a 80,t0a 81,t0a 82,t0a 83,t0a 84,t0a 85,t0a 86,t0a 87,t0a 88,t0a 89,t0a 90,t0a 91,t0a 92,t0a 93,t0a 94,t0a 95,t0a 96,t0a 97,t0a 98,t0a 99,t0a 100,t0a 101,t0a 102,t0a 103,t0a 104,t0a 105,t0a 106,t0a 107,t0a 108,t0a 109,t0a 110,t0a 111,uu,uu,uu,uu,uu,uu,uu]) 18446744073709551616 ?_ ?_ ?_
     ·exact ⟨(wi64 ((x0.length:Int) - (x1.length:Int))),m7b,(List.replicate ((wi64 ((wi64 ((x0.length:Int) - (x1.length:Int)))+1)):Int).toNat (0:Int)),(tk [uu,uu,uu,uu,uu,uu,uu,uu,uu,uu,uu,uu,uu,uu,uu,uu,uu,uu,uu,uu,uu,uu,uu,uu,uu,uu,uu,uu,uu,uu,uu,uu,uu,uu,uu,uu,uu,uu,uu,uu,uu,uu,uu,uu,uu,uu,uu,uu,uu,uu,uu,uu,uu,uu,uu,uu,uu,uu,uu,uu,uu,uu,uu,uu,uu,uu,uu,uu,uu,uu,uu,uu,uu,uu,uu,uu,uu,uu,uu,uu,uu,uu,uu,uu,uu,uu,uu,uu,uu,uu,uu,uu,uu,uu,uu,uu,uu,uu,uu,uu,uu,uu,uu,uu,uu,uu,uu,uu,uu,uu,uu,uu]),X1a2,X2a2,X3a2,(ow6o.ext E5g),ow0a2,(ow7o.ext E5g),h4a2,rfl⟩
     ·rintro l' w' ⟨v3a,v7g,v0e,t0a,_,_,_,_,_,_,hz,_⟩
      exact nomatch hz
     ·rintro n1p ih6a2 _ w8 ⟨v3a,v7g,v0e,t0a,X2p,X3p,X4p,ow0i,ow5p,ow2j,hr3j,rfl⟩ _ rfl
      unfold CX at hr3j
      refine Ba<|wp_seq_k fun K6p h6p=>wp_seq_k fun K7p h7p=>Ae<|sV (Aa rfl) ?_
      refine sb (Fl rfl rfl) fun z6d hz6d=>?_
      refine nrm ?_
      refine Ad<|h7p _ _ ?_
      rcases bft z6d with e8g | e8g
      ·have p7a2:=zP hz6d e8g
       have f8a2:=ifP p7a2 hr3j
       refine wp_cond_true (Ai (evb rfl e8g))<|wp_skip<|h6p _ _<|wp_seq_k fun K8p h8p=>?_
       obtain ⟨m1i,h9a2,f0a3⟩:=Ab f8a2
       refine BZ (fun l l' w'=>∃(t2a:Nat→Value),Ext w w'∧Ext w3 w'∧Ext w4 w'∧OW 179 w4.heap.size w' A8b m7b.length c9b m1i.1∧OW 179 w6.heap.size w' A2c (((wi64 ((wi64 ((x0.length:Int) - (x1.length:Int)))+1)):Int).toNat) (((wi64 ((wi64 ((x0.length:Int) - (x1.length:Int)))+1)):Int).toNat) m1i.2∧OW 179 w3.heap.size w' A0c r2b.length c1c r2b∧l'=[.slice A1 x0.length c2,.slice A4 x1.length c5,uu,uu,.pointer (some ⟨b8,0,none⟩),.int .i64 (x1.length:Int),.int .i64 (wi64 ((wi64 (32*(x1.length:Int))) - r5b)),.slice A0c r2b.length c1c,.slice A8b m7b.length c9b,.slice A2c (((wi64 ((wi64 ((x0.length:Int) - (x1.length:Int)))+1)):Int).toNat) (((wi64 ((wi64 ((x0.length:Int) - (x1.length:Int)))+1)):Int).toNat),.int .i64 v3a,t2a 0,t2a 1,t2a 2,t2a 3,t2a 4,t2a 5,t2a 6,t2a 7,.slice A4 x1.length c5,.int .i64 (x1.length:Int),.bool z2d,uu,uu,uu,uu,uu,.slice A1 x0.length c2,.slice A4 x1.length c5,.int .i64 r9d,.bool z5d,uu,uu,uu,.slice A4 x1.length c5,.int .i64 (x1.length:Int),.int .i64 (x1.length:Int),.int .i64 (wi64 (32*(x1.length:Int))),.slice A4 x1.length c5,.int .i64 r5b,.int .i64 (wi64 ((wi64 (32*(x1.length:Int))) - r5b)),.slice A4 x1.length c5,.int .i64 (wi64 ((wi64 (32*(x1.length:Int))) - r5b)),.slice A0c r2b.length c1c,.slice A1 x0.length c2,.int .i64 (wi64 ((wi64 (32*(x1.length:Int))) - r5b)),t7a 0,t7a 1,t7a 2,.slice A1 x0.length c2,.int .i64 (x0.length:Int),t7a 3,t7a 4,t7a 5,t7a 6,.slice A1 x0.length c2,.int .i64 (x0.length:Int),.int .i64 (x1.length:Int),.int .i64 (wi64 ((x0.length:Int) - (x1.length:Int))),.int .i64 (wi64 ((wi64 ((x0.length:Int) - (x1.length:Int)))+1)),.slice A2c (((wi64 ((wi64 ((x0.length:Int) - (x1.length:Int)))+1)):Int).toNat) (((wi64 ((wi64 ((x0.length:Int) - (x1.length:Int)))+1)):Int).toNat),.slice A1 x0.length c2,.int .i64 (x0.length:Int),.int .i64 (x1.length:Int),.int .i64 (wi64 ((x0.length:Int) - (x1.length:Int))),.int .i64 v3a,.bool z6d,t0a 10,t0a 11,.slice A8b m7b.length c9b,.int .i64 v3a,.int .i64 (x1.length:Int),.int .i64 (wi64 (v3a+(x1.length:Int))),t2a 8,t2a 9,t2a 10,t2a 11,.slice A8b m7b.length c9b,.int .i64 v3a,.int .i64 (x1.length:Int),.int .i64 (wi64 (v3a+(x1.length:Int))),.int .i64 (wi64 ((wi64 (v3a+(x1.length:Int))) - 1)),t2a 12,t2a 13,t2a 14,t2a 15,.slice A0c r2b.length c1c,.int .i64 (x1.length:Int),.int .i64 (wi64 ((x1.length:Int) - 1)),t2a 16,t2a 17,t2a 18,t2a 19,t2a 20,t2a 21,.int .i64 (x1.length:Int),t2a 22,t2a 23,t2a 24,t2a 25,t2a 26,t2a 27,t2a 28,t2a 29,t2a 30,t2a 31,t2a 32,t2a 33,t2a 34,t2a 35,t2a 36,t2a 37,t2a 38,t2a 39,t2a 40,t2a 41,t2a 42,t2a 43,t2a 44,t2a 45,t2a 46,t2a 47,t2a 48,t2a 49,t2a 50,t2a 51,t2a 52,t2a 53,t2a 54,t2a 55,t2a 56,t2a 57,t2a 58,t2a 59,t2a 60,t2a 61,t2a 62,t2a 63,t2a 64,t2a 65,t2a 66,t2a 67,t2a 68,t2a 69,t2a 70,t2a 71,t2a 72,t2a 73,t2a 74,t2a 75,t2a 76,t2a 77,t2a 78,t2a 79,t2a 80,t2a 81,t2a 82,t2a 83,t2a 84,t2a 85,t2a 86,t2a 87,t2a 88,t2a 89,.slice A2c (((wi64 ((wi64 ((x0.length:Int) - (x1.length:Int)))+1)):Int).toNat) (((wi64 ((wi64 ((x0.length:Int) - (x1.length:Int)))+1)):Int).toNat),.int .i64 v3a,t2a 90,t2a 91,t2a 92,uu,uu,uu,uu,uu,uu,uu]) ?_ ?_
       ·apply wp_block
        refine wp_seq_k fun K9p h9p=>EE [] 26 mo rfl fun w9 E3e S4j=>have X1a3:=xtr X2p E3e;have X2a3:=xtr X3p E3e;have X3a3:=xtr X4p E3e;dA 0 rfl (fun _=>Aa rfl) ?_
        refine dA 1 rfl (fun _=>Aa rfl) ?_
        refine dA 2 rfl (fun _=>Aa rfl) ?_
        refine dA 3 rfl (fun _=>AO (c:=wi64 (v3a+(x1.length:Int))) rfl rfl rfl) ?_
        obtain ⟨u6a,h4a3,f5a3⟩:=Ab h9a2
        obtain ⟨bb60913,hA6a3,hz8ah,ia7a3,ib8a3,hc60918⟩:=OW.nthc (ow0i.ext E3e) h4a3
        refine dA 4 rfl (fun _=>Ar AP An rfl rfl hA6a3 ia7a3 ib8a3) ?_
        refine dV 5 rfl (fun _ hw=>Ag AN rfl (Cv hc60918 hw)) S4j ?_
        refine dA 6 rfl (fun _=>AG (c:=wu64 u6a) AH AF rfl rfl) ?_
        refine dA 7 rfl (fun _=>HM (c:=wu64 ((wu64 u6a)*2^min (32:Int).toNat IntKind.u64.bits)) (by decide) rfl rfl rfl) ?_
        refine dA 8 rfl (fun _=>Aa rfl) ?_
        refine dA 9 rfl (fun _=>Aa rfl) ?_
        refine dA 10 rfl (fun _=>Aa rfl) ?_
        refine dA 11 rfl (fun _=>AO (c:=wi64 (v3a+(x1.length:Int))) rfl rfl rfl) ?_
        refine dA 12 rfl (fun _=>AV (c:=wi64 ((wi64 (v3a+(x1.length:Int))) - 1)) rfl rfl rfl) ?_
        obtain ⟨u8a,h9a3,f0a4⟩:=Ab f5a3
        obtain ⟨bb60922,hA1a4,hz9ah,ia2a4,ib3a4,hc60927⟩:=OW.nthc (ow0i.ext E3e) h9a3
        refine dA 13 rfl (fun _=>Ar AP An rfl rfl hA1a4 ia2a4 ib3a4) ?_
        refine dV 14 rfl (fun _ hw=>Ag AN rfl (Cv hc60927 hw)) S4j ?_
        refine dA 15 rfl (fun _=>AG (c:=wu64 u8a) AH AF rfl rfl) ?_
        refine dA 16 rfl (fun _=>AO (c:=wu64 ((wu64 ((wu64 u6a)*2^min (32:Int).toNat IntKind.u64.bits))+(wu64 u8a))) rfl rfl rfl) ?_
        refine dA 17 rfl (fun _=>Aa rfl) ?_
        refine dA 18 rfl (fun _=>Aa rfl) ?_
        refine dA 19 rfl (fun _=>AV (c:=wi64 ((x1.length:Int) - 1)) rfl rfl rfl) ?_
        obtain ⟨u1b,h4a4,f5a4⟩:=Ab f0a4
        obtain ⟨bb60931,hA6a4,hz0ai,ia7a4,ib8a4,hc60936⟩:=OW.nthc (ow2j.ext E3e) h4a4
        refine dA 20 rfl (fun _=>Ar AP An rfl rfl hA6a4 ia7a4 ib8a4) ?_
        refine dV 21 rfl (fun _ hw=>Ag AN rfl (Cv hc60936 hw)) S4j ?_
        refine dA 22 rfl (fun _=>AG (c:=wu64 u1b) AH AF rfl rfl) ?_
        obtain ⟨_,h9a4,f0a5⟩:=Ab f5a4
        have gd60939:=Ay h9a4
        refine dA 23 rfl (fun _=>FP (c:=wu64 ((wu64 ((wu64 ((wu64 u6a)*2^min (32:Int).toNat IntKind.u64.bits))+(wu64 u8a))).tdiv (wu64 u1b))) (decide_eq_true gd60939) rfl rfl rfl) ?_
        refine dA 24 rfl (fun _=>MS rfl rfl) ?_
        refine dA 25 rfl (fun _=>Ac rfl) ?_
        refine Dm (by kernel_rfl) ?_
        refine h9p _ _<|wp_seq_k fun K0q h0q=>Ae<|sV (Ac rfl) ?_
        refine Ad<|h0q _ _<|wp_seq_k fun K1q h1q=>Ae<|sV (Ac rfl) ?_
        refine Ad<|h1q _ _<|wp_seq_k fun K2q h2q=>wp_seq_k fun K3q h3q=>Ae<|sV (Ac rfl) ?_
        refine Ad<|h3q _ _ ?_
        obtain ⟨m1f,h1a5,f2a5⟩:=Ab f0a5
        refine BZ (fun l l' w'=>∃(t1a:Nat→Value),Ext w w'∧Ext w3 w'∧Ext w4 w'∧OW 179 w4.heap.size w' A8b m7b.length c9b m1f.2.2∧OW 179 w6.heap.size w' A2c (((wi64 ((wi64 ((x0.length:Int) - (x1.length:Int)))+1)):Int).toNat) (((wi64 ((wi64 ((x0.length:Int) - (x1.length:Int)))+1)):Int).toNat) v0e∧OW 179 w3.heap.size w' A0c r2b.length c1c r2b∧l'=[.slice A1 x0.length c2,.slice A4 x1.length c5,uu,uu,.pointer (some ⟨b8,0,none⟩),.int .i64 (x1.length:Int),.int .i64 (wi64 ((wi64 (32*(x1.length:Int))) - r5b)),.slice A0c r2b.length c1c,.slice A8b m7b.length c9b,.slice A2c (((wi64 ((wi64 ((x0.length:Int) - (x1.length:Int)))+1)):Int).toNat) (((wi64 ((wi64 ((x0.length:Int) - (x1.length:Int)))+1)):Int).toNat),.int .i64 v3a,.int .u64 (min (wu64 ((wu64 ((wu64 ((wu64 u6a)*2^min (32:Int).toNat IntKind.u64.bits))+(wu64 u8a))).tdiv (wu64 u1b))) 4294967295),.int .u64 m1f.1,.int .u64 m1f.2.1,t1a 0,t1a 1,t1a 2,t0a 6,t0a 7,.slice A4 x1.length c5,.int .i64 (x1.length:Int),.bool z2d,uu,uu,uu,uu,uu,.slice A1 x0.length c2,.slice A4 x1.length c5,.int .i64 r9d,.bool z5d,uu,uu,uu,.slice A4 x1.length c5,.int .i64 (x1.length:Int),.int .i64 (x1.length:Int),.int .i64 (wi64 (32*(x1.length:Int))),.slice A4 x1.length c5,.int .i64 r5b,.int .i64 (wi64 ((wi64 (32*(x1.length:Int))) - r5b)),.slice A4 x1.length c5,.int .i64 (wi64 ((wi64 (32*(x1.length:Int))) - r5b)),.slice A0c r2b.length c1c,.slice A1 x0.length c2,.int .i64 (wi64 ((wi64 (32*(x1.length:Int))) - r5b)),t7a 0,t7a 1,t7a 2,.slice A1 x0.length c2,.int .i64 (x0.length:Int),t7a 3,t7a 4,t7a 5,t7a 6,.slice A1 x0.length c2,.int .i64 (x0.length:Int),.int .i64 (x1.length:Int),.int .i64 (wi64 ((x0.length:Int) - (x1.length:Int))),.int .i64 (wi64 ((wi64 ((x0.length:Int) - (x1.length:Int)))+1)),.slice A2c (((wi64 ((wi64 ((x0.length:Int) - (x1.length:Int)))+1)):Int).toNat) (((wi64 ((wi64 ((x0.length:Int) - (x1.length:Int)))+1)):Int).toNat),.slice A1 x0.length c2,.int .i64 (x0.length:Int),.int .i64 (x1.length:Int),.int .i64 (wi64 ((x0.length:Int) - (x1.length:Int))),.int .i64 v3a,.bool z6d,t0a 10,t0a 11,.slice A8b m7b.length c9b,.int .i64 v3a,.int .i64 (x1.length:Int),.int .i64 (wi64 (v3a+(x1.length:Int))),.pointer (some ⟨bb60913,0+((wi64 (v3a+(x1.length:Int))):Int).toNat,none⟩),.int .u32 u6a,.int .u64 (wu64 u6a),.int .u64 (wu64 ((wu64 u6a)*2^min (32:Int).toNat IntKind.u64.bits)),.slice A8b m7b.length c9b,.int .i64 v3a,.int .i64 (x1.length:Int),.int .i64 (wi64 (v3a+(x1.length:Int))),.int .i64 (wi64 ((wi64 (v3a+(x1.length:Int))) - 1)),.pointer (some ⟨bb60922,0+((wi64 ((wi64 (v3a+(x1.length:Int))) - 1)):Int).toNat,none⟩),.int .u32 u8a,.int .u64 (wu64 u8a),.int .u64 (wu64 ((wu64 ((wu64 u6a)*2^min (32:Int).toNat IntKind.u64.bits))+(wu64 u8a))),.slice A0c r2b.length c1c,.int .i64 (x1.length:Int),.int .i64 (wi64 ((x1.length:Int) - 1)),.pointer (some ⟨bb60931,0+((wi64 ((x1.length:Int) - 1)):Int).toNat,none⟩),.int .u32 u1b,.int .u64 (wu64 u1b),.int .u64 (wu64 ((wu64 ((wu64 ((wu64 u6a)*2^min (32:Int).toNat IntKind.u64.bits))+(wu64 u8a))).tdiv (wu64 u1b))),.int .u64 (min (wu64 ((wu64 ((wu64 ((wu64 u6a)*2^min (32:Int).toNat IntKind.u64.bits))+(wu64 u8a))).tdiv (wu64 u1b))) 4294967295),t1a 3,.int .i64 (x1.length:Int),t1a 4,t1a 5,t1a 6,t1a 7,t1a 8,t1a 9,t1a 10,t1a 11,t1a 12,t1a 13,t1a 14,t1a 15,t1a 16,t1a 17,t1a 18,t1a 19,t1a 20,t1a 21,t1a 22,t1a 23,t1a 24,t1a 25,t1a 26,t1a 27,t1a 28,t1a 29,t1a 30,t1a 31,t1a 32,t1a 33,t1a 34,t1a 35,t1a 36,t1a 37,t0a 73,t0a 74,t0a 75,t0a 76,t0a 77,t0a 78,t0a 79,t0a 80,t0a 81,t0a 82,t0a 83,t0a 84,t0a 85,t0a 86,t0a 87,t0a 88,t0a 89,t0a 90,t0a 91,t0a 92,t0a 93,t0a 94,t0a 95,t0a 96,t0a 97,t0a 98,t0a 99,t0a 100,t0a 101,t0a 102,t0a 103,t0a 104,t0a 105,t0a 106,t0a 107,t0a 108,t0a 109,t0a 110,t0a 111,uu,uu,uu,uu,uu,uu,uu]) ?_ ?_
        ·apply wp_block
         refine AR (fun l n4q l' w'=>∃(v3c:Int) (v8c:Int) (v5c:Int) (v9g:List Int) (t9a:Nat→Value),Ext w w'∧Ext w3 w'∧Ext w4 w'∧OW 179 w4.heap.size w' A8b m7b.length c9b v9g∧OW 179 w6.heap.size w' A2c (((wi64 ((wi64 ((x0.length:Int) - (x1.length:Int)))+1)):Int).toNat) (((wi64 ((wi64 ((x0.length:Int) - (x1.length:Int)))+1)):Int).toNat) v0e∧OW 179 w3.heap.size w' A0c r2b.length c1c r2b∧Cq x0 x1 r2b v3a u6a u8a u1b n4q v3c v8c v5c v9g=some m1f∧l'=[.slice A1 x0.length c2,.slice A4 x1.length c5,uu,uu,.pointer (some ⟨b8,0,none⟩),.int .i64 (x1.length:Int),.int .i64 (wi64 ((wi64 (32*(x1.length:Int))) - r5b)),.slice A0c r2b.length c1c,.slice A8b m7b.length c9b,.slice A2c (((wi64 ((wi64 ((x0.length:Int) - (x1.length:Int)))+1)):Int).toNat) (((wi64 ((wi64 ((x0.length:Int) - (x1.length:Int)))+1)):Int).toNat),.int .i64 v3a,.int .u64 (min (wu64 ((wu64 ((wu64 ((wu64 u6a)*2^min (32:Int).toNat IntKind.u64.bits))+(wu64 u8a))).tdiv (wu64 u1b))) 4294967295),.int .u64 v3c,.int .u64 v8c,.int .i64 v5c,t9a 0,t9a 1,t0a 6,t0a 7,.slice A4 x1.length c5,.int .i64 (x1.length:Int),.bool z2d,uu,uu,uu,uu,uu,.slice A1 x0.length c2,.slice A4 x1.length c5,.int .i64 r9d,.bool z5d,uu,uu,uu,.slice A4 x1.length c5,.int .i64 (x1.length:Int),.int .i64 (x1.length:Int),.int .i64 (wi64 (32*(x1.length:Int))),.slice A4 x1.length c5,.int .i64 r5b,.int .i64 (wi64 ((wi64 (32*(x1.length:Int))) - r5b)),.slice A4 x1.length c5,.int .i64 (wi64 ((wi64 (32*(x1.length:Int))) - r5b)),.slice A0c r2b.length c1c,.slice A1 x0.length c2,.int .i64 (wi64 ((wi64 (32*(x1.length:Int))) - r5b)),t7a 0,t7a 1,t7a 2,.slice A1 x0.length c2,.int .i64 (x0.length:Int),t7a 3,t7a 4,t7a 5,t7a 6,.slice A1 x0.length c2,.int .i64 (x0.length:Int),.int .i64 (x1.length:Int),.int .i64 (wi64 ((x0.length:Int) - (x1.length:Int))),.int .i64 (wi64 ((wi64 ((x0.length:Int) - (x1.length:Int)))+1)),.slice A2c (((wi64 ((wi64 ((x0.length:Int) - (x1.length:Int)))+1)):Int).toNat) (((wi64 ((wi64 ((x0.length:Int) - (x1.length:Int)))+1)):Int).toNat),.slice A1 x0.length c2,.int .i64 (x0.length:Int),.int .i64 (x1.length:Int),.int .i64 (wi64 ((x0.length:Int) - (x1.length:Int))),.int .i64 v3a,.bool z6d,t0a 10,t0a 11,.slice A8b m7b.length c9b,.int .i64 v3a,.int .i64 (x1.length:Int),.int .i64 (wi64 (v3a+(x1.length:Int))),.pointer (some ⟨bb60913,0+((wi64 (v3a+(x1.length:Int))):Int).toNat,none⟩),.int .u32 u6a,.int .u64 (wu64 u6a),.int .u64 (wu64 ((wu64 u6a)*2^min (32:Int).toNat IntKind.u64.bits)),.slice A8b m7b.length c9b,.int .i64 v3a,.int .i64 (x1.length:Int),.int .i64 (wi64 (v3a+(x1.length:Int))),.int .i64 (wi64 ((wi64 (v3a+(x1.length:Int))) - 1)),.pointer (some ⟨bb60922,0+((wi64 ((wi64 (v3a+(x1.length:Int))) - 1)):Int).toNat,none⟩),.int .u32 u8a,.int .u64 (wu64 u8a),.int .u64 (wu64 ((wu64 ((wu64 u6a)*2^min (32:Int).toNat IntKind.u64.bits))+(wu64 u8a))),.slice A0c r2b.length c1c,.int .i64 (x1.length:Int),.int .i64 (wi64 ((x1.length:Int) - 1)),.pointer (some ⟨bb60931,0+((wi64 ((x1.length:Int) - 1)):Int).toNat,none⟩),.int .u32 u1b,.int .u64 (wu64 u1b),.int .u64 (wu64 ((wu64 ((wu64 ((wu64 u6a)*2^min (32:Int).toNat IntKind.u64.bits))+(wu64 u8a))).tdiv (wu64 u1b))),.int .u64 (min (wu64 ((wu64 ((wu64 ((wu64 u6a)*2^min (32:Int).toNat IntKind.u64.bits))+(wu64 u8a))).tdiv (wu64 u1b))) 4294967295),t9a 2,t9a 3,t9a 4,t9a 5,t9a 6,t9a 7,t9a 8,t9a 9,t9a 10,t9a 11,t9a 12,t9a 13,t9a 14,t9a 15,t9a 16,t9a 17,t9a 18,t9a 19,t9a 20,t9a 21,t9a 22,t9a 23,t9a 24,t9a 25,t9a 26,t9a 27,t9a 28,t9a 29,t9a 30,t9a 31,t9a 32,t9a 33,t9a 34,t9a 35,t9a 36,t9a 37,t0a 73,t0a 74,t0a 75,t0a 76,t0a 77,t0a 78,t0a 79,t0a 80,t0a 81,t0a 82,t0a 83,t0a 84,t0a 85,t0a 86,t0a 87,t0a 88,t0a 89,t0a 90,t0a 91,t0a 92,t0a 93,t0a 94,t0a 95,t0a 96,t0a 97,t0a 98,t0a 99,t0a 100,t0a 101,t0a 102,t0a 103,t0a 104,t0a 105,t0a 106,t0a 107,t0a 108,t0a 109,t0a 110,t0a 111,uu,uu,uu,uu,uu,uu,uu]) 18446744073709551616 ?_ ?_ ?_
         ·exact ⟨0,0,0,v7g,(tk [t0a 4,t0a 5,t0a 37,t0a 38,t0a 39,t0a 40,t0a 41,t0a 42,t0a 43,t0a 44,t0a 45,t0a 46,t0a 47,t0a 48,t0a 49,t0a 50,t0a 51,t0a 52,t0a 53,t0a 54,t0a 55,t0a 56,t0a 57,t0a 58,t0a 59,t0a 60,t0a 61,t0a 62,t0a 63,t0a 64,t0a 65,t0a 66,t0a 67,t0a 68,t0a 69,t0a 70,t0a 71,t0a 72]),X1a3,X2a3,X3a3,(ow0i.ext E3e),(ow5p.ext E3e),(ow2j.ext E3e),h1a5,rfl⟩
         ·rintro l' w' ⟨v3c,v8c,v5c,v9g,t9a,_,_,_,_,_,_,hz,_⟩
          exact nomatch hz
         ·rintro n4q ih3a5 _ w6e ⟨v3c,v8c,v5c,v9g,t9a,X5j,X5q,X6q,ow0h,ow7q,ow6j,hr7j,rfl⟩ _ rfl
          unfold Cq at hr7j
          refine Ba<|wp_seq_k fun K8q h8q=>wp_seq_k fun K9q h9q=>Ae<|sV (Aa rfl) ?_
          refine sV (Aa rfl) ?_
          refine sb (FZ rfl rfl) fun z6f hz6f=>?_
          refine nrm ?_
          refine Ad<|h9q _ _ ?_
          rcases bft z6f with e1h | e1h
          ·have p4a5:=zP hz6f e1h
           have f5a5:=ifP p4a5 hr7j
           refine wp_cond_true (Ai (evb rfl e1h))<|wp_skip<|h8q _ _<|wp_seq_k fun K0r h0r=>?_
           apply wp_block
           refine wp_seq_k fun K1r h1r=>Ae<|sV (Aa rfl) ?_
           refine sV (Aa rfl) ?_
           obtain ⟨r4c,h6a5,f7a5⟩:=Ab f5a5
           refine sc (Af Ib (by rfl)) (BY r2b v5c A0c c1c w6e (tbx X5j hT) (OW.rl ow6j) r4c h6a5) ?_
           rintro _ w2e E4e rfl
           refine nrm ?_
           have X8a5:=xtr X5j E4e
           have X9a5:=xtr X5q E4e
           have X0a6:=xtr X6q E4e
           refine sV (Aa rfl) ?_
           refine sV (HZ (c:=wu64 (r4c*(min (wu64 ((wu64 ((wu64 ((wu64 u6a)*2^min (32:Int).toNat IntKind.u64.bits))+(wu64 u8a))).tdiv (wu64 u1b))) 4294967295))) rfl rfl rfl) ?_
           refine sV (Aa rfl) ?_
           refine sV (AO (c:=wu64 ((wu64 (r4c*(min (wu64 ((wu64 ((wu64 ((wu64 u6a)*2^min (32:Int).toNat IntKind.u64.bits))+(wu64 u8a))).tdiv (wu64 u1b))) 4294967295)))+v3c)) rfl rfl rfl) ?_
           refine sV (Ac rfl) ?_
           refine Ad<|h1r _ _<|wp_seq_k fun K2r h2r=>Ae<|sV (Aa rfl) ?_
           refine sV (Gu (c:=(wu64 ((wu64 (r4c*(min (wu64 ((wu64 ((wu64 ((wu64 u6a)*2^min (32:Int).toNat IntKind.u64.bits))+(wu64 u8a))).tdiv (wu64 u1b))) 4294967295)))+v3c)).fdiv (2^min (32:Int).toNat IntKind.u64.bits)) (by decide) rfl rfl rfl) ?_
           refine sV (Ac rfl) ?_
           refine Ad<|h2r _ _<|wp_seq_k fun K3r h3r=>Ae<|sV (Aa rfl) ?_
           refine sV (Aa rfl) ?_
           refine sV (Aa rfl) ?_
           refine sV (AO (c:=wi64 (v3a+v5c)) rfl rfl rfl) ?_
           obtain ⟨u9c,h1a6,f2a6⟩:=Ab f7a5
           obtain ⟨bb61287,hA3a6,hz1ai,ia4a6,ib5a6,hc61292⟩:=OW.nthc (ow0h.ext E4e) h1a6
           refine sV (Ar AP An rfl rfl hA3a6 ia4a6 ib5a6) ?_
           refine sV (Ag AN rfl hc61292) ?_
           refine sV (AG (c:=wu64 u9c) AH AF rfl rfl) ?_
           refine sV (Aa rfl) ?_
           refine sV (AG (c:=wu32 (wu64 ((wu64 (r4c*(min (wu64 ((wu64 ((wu64 ((wu64 u6a)*2^min (32:Int).toNat IntKind.u64.bits))+(wu64 u8a))).tdiv (wu64 u1b))) 4294967295)))+v3c))) AF AH rfl rfl) ?_
           refine sV (AG (c:=wu64 (wu32 (wu64 ((wu64 (r4c*(min (wu64 ((wu64 ((wu64 ((wu64 u6a)*2^min (32:Int).toNat IntKind.u64.bits))+(wu64 u8a))).tdiv (wu64 u1b))) 4294967295)))+v3c)))) AH AF rfl rfl) ?_
           refine sV (AV (c:=wu64 ((wu64 u9c) - (wu64 (wu32 (wu64 ((wu64 (r4c*(min (wu64 ((wu64 ((wu64 ((wu64 u6a)*2^min (32:Int).toNat IntKind.u64.bits))+(wu64 u8a))).tdiv (wu64 u1b))) 4294967295)))+v3c)))))) rfl rfl rfl) ?_
           refine sV (Aa rfl) ?_
           refine sV (AV (c:=wu64 ((wu64 ((wu64 u9c) - (wu64 (wu32 (wu64 ((wu64 (r4c*(min (wu64 ((wu64 ((wu64 ((wu64 u6a)*2^min (32:Int).toNat IntKind.u64.bits))+(wu64 u8a))).tdiv (wu64 u1b))) 4294967295)))+v3c)))))) - v8c)) rfl rfl rfl) ?_
           refine sV (Ac rfl) ?_
           refine Ad<|h3r _ _<|wp_seq_k fun K4r h4r=>Ae<|sV (Aa rfl) ?_
           refine sV (Aa rfl) ?_
           refine sV (Aa rfl) ?_
           refine sV (AO (c:=wi64 (v3a+v5c)) rfl rfl rfl) ?_
           refine sV (Aa rfl) ?_
           refine sV (AG (c:=wu32 (wu64 ((wu64 ((wu64 u9c) - (wu64 (wu32 (wu64 ((wu64 (r4c*(min (wu64 ((wu64 ((wu64 ((wu64 u6a)*2^min (32:Int).toNat IntKind.u64.bits))+(wu64 u8a))).tdiv (wu64 u1b))) 4294967295)))+v3c)))))) - v8c))) AF AH rfl rfl) ?_
           obtain ⟨u2ai,h6a6,f7a6⟩:=Ab f2a6
           obtain ⟨bb61297,hA8j,hz8a6,ia5r,ib6r,hc61302⟩:=OW.nthc (ow0h.ext E4e) h6a6
           refine sV (Ar AP An rfl rfl hA8j ia5r ib6r) ?_
           refine JQ An rfl rfl (ow0h.ext E4e) hA8j ia5r (by rw [OW.len (ow0h.ext E4e)];exact ib6r) fun w7e B61303 U9a6 ow0a7=>?_
           have X1a7:=xO X8a5 B61303 X4f.size
           have X2a7:=xO X9a5 B61303 E2g.size
           have X3a7:=xO X0a6 B61303 (Nat.le_refl _)
           have ow4a7:=OW.bel2 (ow6j.ext E4e) B61303 hl105
           have ow5a7:=OW.updO (ow7q.ext E4e) U9a6 (hl363 _ hA8j hz8a6)
           refine Ad<|h4r _ _<|Ae<|sV (Aa rfl) ?_
           refine sV (Gu (c:=(wu64 ((wu64 ((wu64 u9c) - (wu64 (wu32 (wu64 ((wu64 (r4c*(min (wu64 ((wu64 ((wu64 ((wu64 u6a)*2^min (32:Int).toNat IntKind.u64.bits))+(wu64 u8a))).tdiv (wu64 u1b))) 4294967295)))+v3c)))))) - v8c)).fdiv (2^min (63:Int).toNat IntKind.u64.bits)) (by decide) rfl rfl rfl) ?_
           refine sV (Ac rfl) ?_
           refine Ad<|h0r _ _<|Ae<|sV (Aa rfl) ?_
           refine sV (AO (c:=wi64 (v5c+1)) rfl rfl rfl) ?_
           refine sV (Ac rfl) ?_
           refine Ad ?_
           exact ih3a5 _ _ ⟨((wu64 ((wu64 (r4c*(min (wu64 ((wu64 ((wu64 ((wu64 u6a)*2^min (32:Int).toNat IntKind.u64.bits))+(wu64 u8a))).tdiv (wu64 u1b))) 4294967295)))+v3c)).fdiv (2^min (32:Int).toNat IntKind.u64.bits)),((wu64 ((wu64 ((wu64 u9c) - (wu64 (wu32 (wu64 ((wu64 (r4c*(min (wu64 ((wu64 ((wu64 ((wu64 u6a)*2^min (32:Int).toNat IntKind.u64.bits))+(wu64 u8a))).tdiv (wu64 u1b))) 4294967295)))+v3c)))))) - v8c)).fdiv (2^min (63:Int).toNat IntKind.u64.bits)),(wi64 (v5c+1)),(List.set v9g ((wi64 (v3a+v5c)):Int).toNat (wu32 (wu64 ((wu64 ((wu64 u9c) - (wu64 (wu32 (wu64 ((wu64 (r4c*(min (wu64 ((wu64 ((wu64 ((wu64 u6a)*2^min (32:Int).toNat IntKind.u64.bits))+(wu64 u8a))).tdiv (wu64 u1b))) 4294967295)))+v3c)))))) - v8c)))),(tk [.int .u64 (wu64 ((wu64 (r4c*(min (wu64 ((wu64 ((wu64 ((wu64 u6a)*2^min (32:Int).toNat IntKind.u64.bits))+(wu64 u8a))).tdiv (wu64 u1b))) 4294967295)))+v3c)),.int .u64 (wu64 ((wu64 ((wu64 u9c) - (wu64 (wu32 (wu64 ((wu64 (r4c*(min (wu64 ((wu64 ((wu64 ((wu64 u6a)*2^min (32:Int).toNat IntKind.u64.bits))+(wu64 u8a))).tdiv (wu64 u1b))) 4294967295)))+v3c)))))) - v8c)),.int .i64 v5c,.int .i64 (x1.length:Int),.bool z6f,.int .i64 v5c,.int .i64 (wi64 (v5c+1)),.slice A0c r2b.length c1c,.int .i64 v5c,.int .u64 r4c,.int .u64 (min (wu64 ((wu64 ((wu64 ((wu64 u6a)*2^min (32:Int).toNat IntKind.u64.bits))+(wu64 u8a))).tdiv (wu64 u1b))) 4294967295),.int .u64 (wu64 (r4c*(min (wu64 ((wu64 ((wu64 ((wu64 u6a)*2^min (32:Int).toNat IntKind.u64.bits))+(wu64 u8a))).tdiv (wu64 u1b))) 4294967295))),.int .u64 v3c,.int .u64 (wu64 ((wu64 (r4c*(min (wu64 ((wu64 ((wu64 ((wu64 u6a)*2^min (32:Int).toNat IntKind.u64.bits))+(wu64 u8a))).tdiv (wu64 u1b))) 4294967295)))+v3c)),.int .u64 (wu64 ((wu64 (r4c*(min (wu64 ((wu64 ((wu64 ((wu64 u6a)*2^min (32:Int).toNat IntKind.u64.bits))+(wu64 u8a))).tdiv (wu64 u1b))) 4294967295)))+v3c)),.int .u64 ((wu64 ((wu64 (r4c*(min (wu64 ((wu64 ((wu64 ((wu64 u6a)*2^min (32:Int).toNat IntKind.u64.bits))+(wu64 u8a))).tdiv (wu64 u1b))) 4294967295)))+v3c)).fdiv (2^min (32:Int).toNat IntKind.u64.bits)),.slice A8b m7b.length c9b,.int .i64 v3a,.int .i64 v5c,.int .i64 (wi64 (v3a+v5c)),.pointer (some ⟨bb61287,0+((wi64 (v3a+v5c)):Int).toNat,none⟩),.int .u32 u9c,.int .u64 (wu64 u9c),.int .u64 (wu64 ((wu64 (r4c*(min (wu64 ((wu64 ((wu64 ((wu64 u6a)*2^min (32:Int).toNat IntKind.u64.bits))+(wu64 u8a))).tdiv (wu64 u1b))) 4294967295)))+v3c)),.int .u32 (wu32 (wu64 ((wu64 (r4c*(min (wu64 ((wu64 ((wu64 ((wu64 u6a)*2^min (32:Int).toNat IntKind.u64.bits))+(wu64 u8a))).tdiv (wu64 u1b))) 4294967295)))+v3c))),.int .u64 (wu64 (wu32 (wu64 ((wu64 (r4c*(min (wu64 ((wu64 ((wu64 ((wu64 u6a)*2^min (32:Int).toNat IntKind.u64.bits))+(wu64 u8a))).tdiv (wu64 u1b))) 4294967295)))+v3c)))),.int .u64 (wu64 ((wu64 u9c) - (wu64 (wu32 (wu64 ((wu64 (r4c*(min (wu64 ((wu64 ((wu64 ((wu64 u6a)*2^min (32:Int).toNat IntKind.u64.bits))+(wu64 u8a))).tdiv (wu64 u1b))) 4294967295)))+v3c)))))),.int .u64 v8c,.int .u64 (wu64 ((wu64 ((wu64 u9c) - (wu64 (wu32 (wu64 ((wu64 (r4c*(min (wu64 ((wu64 ((wu64 ((wu64 u6a)*2^min (32:Int).toNat IntKind.u64.bits))+(wu64 u8a))).tdiv (wu64 u1b))) 4294967295)))+v3c)))))) - v8c)),.slice A8b m7b.length c9b,.int .i64 v3a,.int .i64 v5c,.int .i64 (wi64 (v3a+v5c)),.int .u64 (wu64 ((wu64 ((wu64 u9c) - (wu64 (wu32 (wu64 ((wu64 (r4c*(min (wu64 ((wu64 ((wu64 ((wu64 u6a)*2^min (32:Int).toNat IntKind.u64.bits))+(wu64 u8a))).tdiv (wu64 u1b))) 4294967295)))+v3c)))))) - v8c)),.int .u32 (wu32 (wu64 ((wu64 ((wu64 u9c) - (wu64 (wu32 (wu64 ((wu64 (r4c*(min (wu64 ((wu64 ((wu64 ((wu64 u6a)*2^min (32:Int).toNat IntKind.u64.bits))+(wu64 u8a))).tdiv (wu64 u1b))) 4294967295)))+v3c)))))) - v8c))),.pointer (some ⟨bb61297,0+((wi64 (v3a+v5c)):Int).toNat,none⟩),.int .u64 (wu64 ((wu64 ((wu64 u9c) - (wu64 (wu32 (wu64 ((wu64 (r4c*(min (wu64 ((wu64 ((wu64 ((wu64 u6a)*2^min (32:Int).toNat IntKind.u64.bits))+(wu64 u8a))).tdiv (wu64 u1b))) 4294967295)))+v3c)))))) - v8c)),.int .u64 ((wu64 ((wu64 ((wu64 u9c) - (wu64 (wu32 (wu64 ((wu64 (r4c*(min (wu64 ((wu64 ((wu64 ((wu64 u6a)*2^min (32:Int).toNat IntKind.u64.bits))+(wu64 u8a))).tdiv (wu64 u1b))) 4294967295)))+v3c)))))) - v8c)).fdiv (2^min (63:Int).toNat IntKind.u64.bits))]),X1a7,X2a7,X3a7,ow0a7,ow5a7,ow4a7,f7a6,rfl⟩
          ·have p6a7:=zN hz6f e1h
           have f7a7:=ifN p6a7 hr7j
           refine wp_cond_false (Ai (evb rfl e1h))<|wp_exit ?_
           simp only [Exit.then,Exit.inBlock,↓reduceIte,Nat.reduceEqDiff]
           obtain rfl:=sj f7a7
           exact ⟨_,rfl,(tk [.int .i64 v5c,t9a 0,t9a 1,.int .i64 v5c,.bool z6f,t9a 5,t9a 6,t9a 7,t9a 8,t9a 9,t9a 10,t9a 11,t9a 12,t9a 13,t9a 14,t9a 15,t9a 16,t9a 17,t9a 18,t9a 19,t9a 20,t9a 21,t9a 22,t9a 23,t9a 24,t9a 25,t9a 26,t9a 27,t9a 28,t9a 29,t9a 30,t9a 31,t9a 32,t9a 33,t9a 34,t9a 35,t9a 36,t9a 37]),X5j,X5q,X6q,ow0h,ow7q,ow6j,rfl⟩
        ·rintro _ w6e ⟨t1a,X8a7,X9a7,X0a8,ow1a8,ow2a8,ow3a8,rfl⟩ _ rfl
         refine h2q _ _<|wp_seq_k fun K7r h7r=>?_
         obtain ⟨m1e,h4a8,f5a8⟩:=Ab f2a5
         refine BZ (fun l l' w'=>∃(t0b:Nat→Value),Ext w w'∧Ext w3 w'∧Ext w4 w'∧OW 179 w4.heap.size w' A8b m7b.length c9b m1e.2.2.2∧OW 179 w6.heap.size w' A2c (((wi64 ((wi64 ((x0.length:Int) - (x1.length:Int)))+1)):Int).toNat) (((wi64 ((wi64 ((x0.length:Int) - (x1.length:Int)))+1)):Int).toNat) v0e∧OW 179 w3.heap.size w' A0c r2b.length c1c r2b∧l'=[.slice A1 x0.length c2,.slice A4 x1.length c5,uu,uu,.pointer (some ⟨b8,0,none⟩),.int .i64 (x1.length:Int),.int .i64 (wi64 ((wi64 (32*(x1.length:Int))) - r5b)),.slice A0c r2b.length c1c,.slice A8b m7b.length c9b,.slice A2c (((wi64 ((wi64 ((x0.length:Int) - (x1.length:Int)))+1)):Int).toNat) (((wi64 ((wi64 ((x0.length:Int) - (x1.length:Int)))+1)):Int).toNat),.int .i64 v3a,.int .u64 m1e.1,.int .u64 m1e.2.1,.int .u64 m1e.2.2.1,t1a 0,t1a 1,t1a 2,t0b 0,t0b 1,.slice A4 x1.length c5,.int .i64 (x1.length:Int),.bool z2d,uu,uu,uu,uu,uu,.slice A1 x0.length c2,.slice A4 x1.length c5,.int .i64 r9d,.bool z5d,uu,uu,uu,.slice A4 x1.length c5,.int .i64 (x1.length:Int),.int .i64 (x1.length:Int),.int .i64 (wi64 (32*(x1.length:Int))),.slice A4 x1.length c5,.int .i64 r5b,.int .i64 (wi64 ((wi64 (32*(x1.length:Int))) - r5b)),.slice A4 x1.length c5,.int .i64 (wi64 ((wi64 (32*(x1.length:Int))) - r5b)),.slice A0c r2b.length c1c,.slice A1 x0.length c2,.int .i64 (wi64 ((wi64 (32*(x1.length:Int))) - r5b)),t7a 0,t7a 1,t7a 2,.slice A1 x0.length c2,.int .i64 (x0.length:Int),t7a 3,t7a 4,t7a 5,t7a 6,.slice A1 x0.length c2,.int .i64 (x0.length:Int),.int .i64 (x1.length:Int),.int .i64 (wi64 ((x0.length:Int) - (x1.length:Int))),.int .i64 (wi64 ((wi64 ((x0.length:Int) - (x1.length:Int)))+1)),.slice A2c (((wi64 ((wi64 ((x0.length:Int) - (x1.length:Int)))+1)):Int).toNat) (((wi64 ((wi64 ((x0.length:Int) - (x1.length:Int)))+1)):Int).toNat),.slice A1 x0.length c2,.int .i64 (x0.length:Int),.int .i64 (x1.length:Int),.int .i64 (wi64 ((x0.length:Int) - (x1.length:Int))),.int .i64 v3a,.bool z6d,t0a 10,t0a 11,.slice A8b m7b.length c9b,.int .i64 v3a,.int .i64 (x1.length:Int),.int .i64 (wi64 (v3a+(x1.length:Int))),.pointer (some ⟨bb60913,0+((wi64 (v3a+(x1.length:Int))):Int).toNat,none⟩),.int .u32 u6a,.int .u64 (wu64 u6a),.int .u64 (wu64 ((wu64 u6a)*2^min (32:Int).toNat IntKind.u64.bits)),.slice A8b m7b.length c9b,.int .i64 v3a,.int .i64 (x1.length:Int),.int .i64 (wi64 (v3a+(x1.length:Int))),.int .i64 (wi64 ((wi64 (v3a+(x1.length:Int))) - 1)),.pointer (some ⟨bb60922,0+((wi64 ((wi64 (v3a+(x1.length:Int))) - 1)):Int).toNat,none⟩),.int .u32 u8a,.int .u64 (wu64 u8a),.int .u64 (wu64 ((wu64 ((wu64 u6a)*2^min (32:Int).toNat IntKind.u64.bits))+(wu64 u8a))),.slice A0c r2b.length c1c,.int .i64 (x1.length:Int),.int .i64 (wi64 ((x1.length:Int) - 1)),.pointer (some ⟨bb60931,0+((wi64 ((x1.length:Int) - 1)):Int).toNat,none⟩),.int .u32 u1b,.int .u64 (wu64 u1b),.int .u64 (wu64 ((wu64 ((wu64 ((wu64 u6a)*2^min (32:Int).toNat IntKind.u64.bits))+(wu64 u8a))).tdiv (wu64 u1b))),.int .u64 (min (wu64 ((wu64 ((wu64 ((wu64 u6a)*2^min (32:Int).toNat IntKind.u64.bits))+(wu64 u8a))).tdiv (wu64 u1b))) 4294967295),t1a 3,.int .i64 (x1.length:Int),t1a 4,t1a 5,t1a 6,t1a 7,t1a 8,t1a 9,t1a 10,t1a 11,t1a 12,t1a 13,t1a 14,t1a 15,t1a 16,t1a 17,t1a 18,t1a 19,t1a 20,t1a 21,t1a 22,t1a 23,t1a 24,t1a 25,t1a 26,t1a 27,t1a 28,t1a 29,t1a 30,t1a 31,t1a 32,t1a 33,t1a 34,t1a 35,t1a 36,t1a 37,t0b 2,t0b 3,t0b 4,t0b 5,t0b 6,t0b 7,t0b 8,t0b 9,t0b 10,t0b 11,t0b 12,t0b 13,t0b 14,t0b 15,t0b 16,t0b 17,t0b 18,t0b 19,t0b 20,t0b 21,t0b 22,t0b 23,t0b 24,t0b 25,t0b 26,t0b 27,t0b 28,t0b 29,t0b 30,t0b 31,t0b 32,t0b 33,t0b 34,t0b 35,t0a 107,t0a 108,t0a 109,t0a 110,t0a 111,uu,uu,uu,uu,uu,uu,uu]) ?_ ?_
         ·apply wp_block
          refine AR (fun l n8r l' w'=>∃(v7c:Int) (v2i:Int) (v3d:Int) (v2h:List Int) (t5a:Nat→Value),Ext w w'∧Ext w3 w'∧Ext w4 w'∧OW 179 w4.heap.size w' A8b m7b.length c9b v2h∧OW 179 w6.heap.size w' A2c (((wi64 ((wi64 ((x0.length:Int) - (x1.length:Int)))+1)):Int).toNat) (((wi64 ((wi64 ((x0.length:Int) - (x1.length:Int)))+1)):Int).toNat) v0e∧OW 179 w3.heap.size w' A0c r2b.length c1c r2b∧CR x0 x1 r2b v3a n8r v7c v2i v3d v2h=some m1e∧l'=[.slice A1 x0.length c2,.slice A4 x1.length c5,uu,uu,.pointer (some ⟨b8,0,none⟩),.int .i64 (x1.length:Int),.int .i64 (wi64 ((wi64 (32*(x1.length:Int))) - r5b)),.slice A0c r2b.length c1c,.slice A8b m7b.length c9b,.slice A2c (((wi64 ((wi64 ((x0.length:Int) - (x1.length:Int)))+1)):Int).toNat) (((wi64 ((wi64 ((x0.length:Int) - (x1.length:Int)))+1)):Int).toNat),.int .i64 v3a,.int .u64 v7c,.int .u64 v2i,.int .u64 v3d,t1a 0,t1a 1,t1a 2,t5a 0,t5a 1,.slice A4 x1.length c5,.int .i64 (x1.length:Int),.bool z2d,uu,uu,uu,uu,uu,.slice A1 x0.length c2,.slice A4 x1.length c5,.int .i64 r9d,.bool z5d,uu,uu,uu,.slice A4 x1.length c5,.int .i64 (x1.length:Int),.int .i64 (x1.length:Int),.int .i64 (wi64 (32*(x1.length:Int))),.slice A4 x1.length c5,.int .i64 r5b,.int .i64 (wi64 ((wi64 (32*(x1.length:Int))) - r5b)),.slice A4 x1.length c5,.int .i64 (wi64 ((wi64 (32*(x1.length:Int))) - r5b)),.slice A0c r2b.length c1c,.slice A1 x0.length c2,.int .i64 (wi64 ((wi64 (32*(x1.length:Int))) - r5b)),t7a 0,t7a 1,t7a 2,.slice A1 x0.length c2,.int .i64 (x0.length:Int),t7a 3,t7a 4,t7a 5,t7a 6,.slice A1 x0.length c2,.int .i64 (x0.length:Int),.int .i64 (x1.length:Int),.int .i64 (wi64 ((x0.length:Int) - (x1.length:Int))),.int .i64 (wi64 ((wi64 ((x0.length:Int) - (x1.length:Int)))+1)),.slice A2c (((wi64 ((wi64 ((x0.length:Int) - (x1.length:Int)))+1)):Int).toNat) (((wi64 ((wi64 ((x0.length:Int) - (x1.length:Int)))+1)):Int).toNat),.slice A1 x0.length c2,.int .i64 (x0.length:Int),.int .i64 (x1.length:Int),.int .i64 (wi64 ((x0.length:Int) - (x1.length:Int))),.int .i64 v3a,.bool z6d,t0a 10,t0a 11,.slice A8b m7b.length c9b,.int .i64 v3a,.int .i64 (x1.length:Int),.int .i64 (wi64 (v3a+(x1.length:Int))),.pointer (some ⟨bb60913,0+((wi64 (v3a+(x1.length:Int))):Int).toNat,none⟩),.int .u32 u6a,.int .u64 (wu64 u6a),.int .u64 (wu64 ((wu64 u6a)*2^min (32:Int).toNat IntKind.u64.bits)),.slice A8b m7b.length c9b,.int .i64 v3a,.int .i64 (x1.length:Int),.int .i64 (wi64 (v3a+(x1.length:Int))),.int .i64 (wi64 ((wi64 (v3a+(x1.length:Int))) - 1)),.pointer (some ⟨bb60922,0+((wi64 ((wi64 (v3a+(x1.length:Int))) - 1)):Int).toNat,none⟩),.int .u32 u8a,.int .u64 (wu64 u8a),.int .u64 (wu64 ((wu64 ((wu64 u6a)*2^min (32:Int).toNat IntKind.u64.bits))+(wu64 u8a))),.slice A0c r2b.length c1c,.int .i64 (x1.length:Int),.int .i64 (wi64 ((x1.length:Int) - 1)),.pointer (some ⟨bb60931,0+((wi64 ((x1.length:Int) - 1)):Int).toNat,none⟩),.int .u32 u1b,.int .u64 (wu64 u1b),.int .u64 (wu64 ((wu64 ((wu64 ((wu64 u6a)*2^min (32:Int).toNat IntKind.u64.bits))+(wu64 u8a))).tdiv (wu64 u1b))),.int .u64 (min (wu64 ((wu64 ((wu64 ((wu64 u6a)*2^min (32:Int).toNat IntKind.u64.bits))+(wu64 u8a))).tdiv (wu64 u1b))) 4294967295),t1a 3,.int .i64 (x1.length:Int),t1a 4,t1a 5,t1a 6,t1a 7,t1a 8,t1a 9,t1a 10,t1a 11,t1a 12,t1a 13,t1a 14,t1a 15,t1a 16,t1a 17,t1a 18,t1a 19,t1a 20,t1a 21,t1a 22,t1a 23,t1a 24,t1a 25,t1a 26,t1a 27,t1a 28,t1a 29,t1a 30,t1a 31,t1a 32,t1a 33,t1a 34,t1a 35,t1a 36,t1a 37,t5a 2,t5a 3,t5a 4,t5a 5,t5a 6,t5a 7,t5a 8,t5a 9,t5a 10,t5a 11,t5a 12,t5a 13,t5a 14,t5a 15,t5a 16,t5a 17,t5a 18,t5a 19,t5a 20,t5a 21,t5a 22,t5a 23,t5a 24,t5a 25,t5a 26,t5a 27,t5a 28,t5a 29,t5a 30,t5a 31,t5a 32,t5a 33,t5a 34,t5a 35,t0a 107,t0a 108,t0a 109,t0a 110,t0a 111,uu,uu,uu,uu,uu,uu,uu]) 18446744073709551616 ?_ ?_ ?_
          ·exact ⟨(min (wu64 ((wu64 ((wu64 ((wu64 u6a)*2^min (32:Int).toNat IntKind.u64.bits))+(wu64 u8a))).tdiv (wu64 u1b))) 4294967295),m1f.1,m1f.2.1,m1f.2.2,(tk [t0a 6,t0a 7,t0a 73,t0a 74,t0a 75,t0a 76,t0a 77,t0a 78,t0a 79,t0a 80,t0a 81,t0a 82,t0a 83,t0a 84,t0a 85,t0a 86,t0a 87,t0a 88,t0a 89,t0a 90,t0a 91,t0a 92,t0a 93,t0a 94,t0a 95,t0a 96,t0a 97,t0a 98,t0a 99,t0a 100,t0a 101,t0a 102,t0a 103,t0a 104,t0a 105,t0a 106]),X8a7,X9a7,X0a8,ow1a8,ow2a8,ow3a8,h4a8,rfl⟩
          ·rintro l' w' ⟨v7c,v2i,v3d,v2h,t5a,_,_,_,_,_,_,hz,_⟩
           exact nomatch hz
          ·rintro n8r ih6a8 _ w2e ⟨v7c,v2i,v3d,v2h,t5a,X9r,X0s,X1s,ow2s,ow3s,ow4s,hr9j,rfl⟩ _ rfl
           unfold CR at hr9j
           refine Ba<|wp_seq_k fun K5s h5s=>wp_seq_k fun K6s h6s=>Ae<|sV (Aa rfl) ?_
           refine sb (Eu rfl rfl) fun z5e hz5e=>?_
           refine nrm ?_
           refine Ad<|h6s _ _ ?_
           rcases bft z5e with e3h | e3h
           ·have p7a8:=zP hz5e e3h
            have f8a8:=ifP p7a8 hr9j
            refine wp_cond_true (Ai (evb rfl e3h))<|wp_skip<|h5s _ _ ?_
            obtain ⟨m7f,h9a8,f0a9⟩:=Ab f8a8
            refine BZ (fun l l' w'=>∃(t3b:Nat→Value),Ext w w'∧Ext w3 w'∧Ext w4 w'∧OW 179 w4.heap.size w' A8b m7b.length c9b m7f.2.2∧OW 179 w6.heap.size w' A2c (((wi64 ((wi64 ((x0.length:Int) - (x1.length:Int)))+1)):Int).toNat) (((wi64 ((wi64 ((x0.length:Int) - (x1.length:Int)))+1)):Int).toNat) v0e∧OW 179 w3.heap.size w' A0c r2b.length c1c r2b∧l'=[.slice A1 x0.length c2,.slice A4 x1.length c5,uu,uu,.pointer (some ⟨b8,0,none⟩),.int .i64 (x1.length:Int),.int .i64 (wi64 ((wi64 (32*(x1.length:Int))) - r5b)),.slice A0c r2b.length c1c,.slice A8b m7b.length c9b,.slice A2c (((wi64 ((wi64 ((x0.length:Int) - (x1.length:Int)))+1)):Int).toNat) (((wi64 ((wi64 ((x0.length:Int) - (x1.length:Int)))+1)):Int).toNat),.int .i64 v3a,.int .u64 (wu64 (v7c - 1)),.int .u64 m7f.1,.int .u64 m7f.2.1,t1a 0,t1a 1,t1a 2,t3b 0,t3b 1,.slice A4 x1.length c5,.int .i64 (x1.length:Int),.bool z2d,uu,uu,uu,uu,uu,.slice A1 x0.length c2,.slice A4 x1.length c5,.int .i64 r9d,.bool z5d,uu,uu,uu,.slice A4 x1.length c5,.int .i64 (x1.length:Int),.int .i64 (x1.length:Int),.int .i64 (wi64 (32*(x1.length:Int))),.slice A4 x1.length c5,.int .i64 r5b,.int .i64 (wi64 ((wi64 (32*(x1.length:Int))) - r5b)),.slice A4 x1.length c5,.int .i64 (wi64 ((wi64 (32*(x1.length:Int))) - r5b)),.slice A0c r2b.length c1c,.slice A1 x0.length c2,.int .i64 (wi64 ((wi64 (32*(x1.length:Int))) - r5b)),t7a 0,t7a 1,t7a 2,.slice A1 x0.length c2,.int .i64 (x0.length:Int),t7a 3,t7a 4,t7a 5,t7a 6,.slice A1 x0.length c2,.int .i64 (x0.length:Int),.int .i64 (x1.length:Int),.int .i64 (wi64 ((x0.length:Int) - (x1.length:Int))),.int .i64 (wi64 ((wi64 ((x0.length:Int) - (x1.length:Int)))+1)),.slice A2c (((wi64 ((wi64 ((x0.length:Int) - (x1.length:Int)))+1)):Int).toNat) (((wi64 ((wi64 ((x0.length:Int) - (x1.length:Int)))+1)):Int).toNat),.slice A1 x0.length c2,.int .i64 (x0.length:Int),.int .i64 (x1.length:Int),.int .i64 (wi64 ((x0.length:Int) - (x1.length:Int))),.int .i64 v3a,.bool z6d,t0a 10,t0a 11,.slice A8b m7b.length c9b,.int .i64 v3a,.int .i64 (x1.length:Int),.int .i64 (wi64 (v3a+(x1.length:Int))),.pointer (some ⟨bb60913,0+((wi64 (v3a+(x1.length:Int))):Int).toNat,none⟩),.int .u32 u6a,.int .u64 (wu64 u6a),.int .u64 (wu64 ((wu64 u6a)*2^min (32:Int).toNat IntKind.u64.bits)),.slice A8b m7b.length c9b,.int .i64 v3a,.int .i64 (x1.length:Int),.int .i64 (wi64 (v3a+(x1.length:Int))),.int .i64 (wi64 ((wi64 (v3a+(x1.length:Int))) - 1)),.pointer (some ⟨bb60922,0+((wi64 ((wi64 (v3a+(x1.length:Int))) - 1)):Int).toNat,none⟩),.int .u32 u8a,.int .u64 (wu64 u8a),.int .u64 (wu64 ((wu64 ((wu64 u6a)*2^min (32:Int).toNat IntKind.u64.bits))+(wu64 u8a))),.slice A0c r2b.length c1c,.int .i64 (x1.length:Int),.int .i64 (wi64 ((x1.length:Int) - 1)),.pointer (some ⟨bb60931,0+((wi64 ((x1.length:Int) - 1)):Int).toNat,none⟩),.int .u32 u1b,.int .u64 (wu64 u1b),.int .u64 (wu64 ((wu64 ((wu64 ((wu64 u6a)*2^min (32:Int).toNat IntKind.u64.bits))+(wu64 u8a))).tdiv (wu64 u1b))),.int .u64 (min (wu64 ((wu64 ((wu64 ((wu64 u6a)*2^min (32:Int).toNat IntKind.u64.bits))+(wu64 u8a))).tdiv (wu64 u1b))) 4294967295),t1a 3,.int .i64 (x1.length:Int),t1a 4,t1a 5,t1a 6,t1a 7,t1a 8,t1a 9,t1a 10,t1a 11,t1a 12,t1a 13,t1a 14,t1a 15,t1a 16,t1a 17,t1a 18,t1a 19,t1a 20,t1a 21,t1a 22,t1a 23,t1a 24,t1a 25,t1a 26,t1a 27,t1a 28,t1a 29,t1a 30,t1a 31,t1a 32,t1a 33,t1a 34,t1a 35,t1a 36,t1a 37,.int .u64 v3d,.bool z5e,.int .u64 v7c,.int .u64 (wu64 (v7c - 1)),t3b 2,.int .i64 (x1.length:Int),t3b 3,t3b 4,t3b 5,t3b 6,t3b 7,t3b 8,t3b 9,t3b 10,t3b 11,t3b 12,t3b 13,t3b 14,t3b 15,t3b 16,t3b 17,t3b 18,t3b 19,t3b 20,t3b 21,t3b 22,t3b 23,t3b 24,t3b 25,t3b 26,t3b 27,.int .u64 v3d,t3b 28,t3b 29,t0a 107,t0a 108,t0a 109,t0a 110,t0a 111,uu,uu,uu,uu,uu,uu,uu]) ?_ ?_
            ·apply wp_block
             refine wp_seq_k fun K7s h7s=>Ae<|sV (Aa rfl) ?_
             refine sV (AV (c:=wu64 (v7c - 1)) rfl rfl rfl) ?_
             refine sV (Ac rfl) ?_
             refine Ad<|h7s _ _<|wp_seq_k fun K8s h8s=>Ae<|sV (Ac rfl) ?_
             refine Ad<|h8s _ _<|wp_seq_k fun K9s h9s=>wp_seq_k fun K0t h0t=>Ae<|sV (Ac rfl) ?_
             refine Ad<|h0t _ _ ?_
             obtain ⟨m8f,h1a9,f2a9⟩:=Ab h9a8
             refine BZ (fun l l' w'=>∃(t4b:Nat→Value),Ext w w'∧Ext w3 w'∧Ext w4 w'∧OW 179 w4.heap.size w' A8b m7b.length c9b m8f.2∧OW 179 w6.heap.size w' A2c (((wi64 ((wi64 ((x0.length:Int) - (x1.length:Int)))+1)):Int).toNat) (((wi64 ((wi64 ((x0.length:Int) - (x1.length:Int)))+1)):Int).toNat) v0e∧OW 179 w3.heap.size w' A0c r2b.length c1c r2b∧l'=[.slice A1 x0.length c2,.slice A4 x1.length c5,uu,uu,.pointer (some ⟨b8,0,none⟩),.int .i64 (x1.length:Int),.int .i64 (wi64 ((wi64 (32*(x1.length:Int))) - r5b)),.slice A0c r2b.length c1c,.slice A8b m7b.length c9b,.slice A2c (((wi64 ((wi64 ((x0.length:Int) - (x1.length:Int)))+1)):Int).toNat) (((wi64 ((wi64 ((x0.length:Int) - (x1.length:Int)))+1)):Int).toNat),.int .i64 v3a,.int .u64 (wu64 (v7c - 1)),.int .u64 m8f.1,.int .u64 v3d,t1a 0,t1a 1,t1a 2,t4b 0,t4b 1,.slice A4 x1.length c5,.int .i64 (x1.length:Int),.bool z2d,uu,uu,uu,uu,uu,.slice A1 x0.length c2,.slice A4 x1.length c5,.int .i64 r9d,.bool z5d,uu,uu,uu,.slice A4 x1.length c5,.int .i64 (x1.length:Int),.int .i64 (x1.length:Int),.int .i64 (wi64 (32*(x1.length:Int))),.slice A4 x1.length c5,.int .i64 r5b,.int .i64 (wi64 ((wi64 (32*(x1.length:Int))) - r5b)),.slice A4 x1.length c5,.int .i64 (wi64 ((wi64 (32*(x1.length:Int))) - r5b)),.slice A0c r2b.length c1c,.slice A1 x0.length c2,.int .i64 (wi64 ((wi64 (32*(x1.length:Int))) - r5b)),t7a 0,t7a 1,t7a 2,.slice A1 x0.length c2,.int .i64 (x0.length:Int),t7a 3,t7a 4,t7a 5,t7a 6,.slice A1 x0.length c2,.int .i64 (x0.length:Int),.int .i64 (x1.length:Int),.int .i64 (wi64 ((x0.length:Int) - (x1.length:Int))),.int .i64 (wi64 ((wi64 ((x0.length:Int) - (x1.length:Int)))+1)),.slice A2c (((wi64 ((wi64 ((x0.length:Int) - (x1.length:Int)))+1)):Int).toNat) (((wi64 ((wi64 ((x0.length:Int) - (x1.length:Int)))+1)):Int).toNat),.slice A1 x0.length c2,.int .i64 (x0.length:Int),.int .i64 (x1.length:Int),.int .i64 (wi64 ((x0.length:Int) - (x1.length:Int))),.int .i64 v3a,.bool z6d,t0a 10,t0a 11,.slice A8b m7b.length c9b,.int .i64 v3a,.int .i64 (x1.length:Int),.int .i64 (wi64 (v3a+(x1.length:Int))),.pointer (some ⟨bb60913,0+((wi64 (v3a+(x1.length:Int))):Int).toNat,none⟩),.int .u32 u6a,.int .u64 (wu64 u6a),.int .u64 (wu64 ((wu64 u6a)*2^min (32:Int).toNat IntKind.u64.bits)),.slice A8b m7b.length c9b,.int .i64 v3a,.int .i64 (x1.length:Int),.int .i64 (wi64 (v3a+(x1.length:Int))),.int .i64 (wi64 ((wi64 (v3a+(x1.length:Int))) - 1)),.pointer (some ⟨bb60922,0+((wi64 ((wi64 (v3a+(x1.length:Int))) - 1)):Int).toNat,none⟩),.int .u32 u8a,.int .u64 (wu64 u8a),.int .u64 (wu64 ((wu64 ((wu64 u6a)*2^min (32:Int).toNat IntKind.u64.bits))+(wu64 u8a))),.slice A0c r2b.length c1c,.int .i64 (x1.length:Int),.int .i64 (wi64 ((x1.length:Int) - 1)),.pointer (some ⟨bb60931,0+((wi64 ((x1.length:Int) - 1)):Int).toNat,none⟩),.int .u32 u1b,.int .u64 (wu64 u1b),.int .u64 (wu64 ((wu64 ((wu64 ((wu64 u6a)*2^min (32:Int).toNat IntKind.u64.bits))+(wu64 u8a))).tdiv (wu64 u1b))),.int .u64 (min (wu64 ((wu64 ((wu64 ((wu64 u6a)*2^min (32:Int).toNat IntKind.u64.bits))+(wu64 u8a))).tdiv (wu64 u1b))) 4294967295),t1a 3,.int .i64 (x1.length:Int),t1a 4,t1a 5,t1a 6,t1a 7,t1a 8,t1a 9,t1a 10,t1a 11,t1a 12,t1a 13,t1a 14,t1a 15,t1a 16,t1a 17,t1a 18,t1a 19,t1a 20,t1a 21,t1a 22,t1a 23,t1a 24,t1a 25,t1a 26,t1a 27,t1a 28,t1a 29,t1a 30,t1a 31,t1a 32,t1a 33,t1a 34,t1a 35,t1a 36,t1a 37,.int .u64 v3d,.bool z5e,.int .u64 v7c,.int .u64 (wu64 (v7c - 1)),t4b 2,.int .i64 (x1.length:Int),t4b 3,t4b 4,t4b 5,t4b 6,t4b 7,t4b 8,t4b 9,t4b 10,t4b 11,t4b 12,t4b 13,t4b 14,t4b 15,t4b 16,t4b 17,t4b 18,t4b 19,t4b 20,t4b 21,t4b 22,t4b 23,t4b 24,t4b 25,t4b 26,t4b 27,t5a 33,t5a 34,t5a 35,t0a 107,t0a 108,t0a 109,t0a 110,t0a 111,uu,uu,uu,uu,uu,uu,uu]) ?_ ?_
             ·apply wp_block
              refine AR (fun l n1t l' w'=>∃(v0d:Int) (v6c:Int) (v4h:List Int) (t6b:Nat→Value),Ext w w'∧Ext w3 w'∧Ext w4 w'∧OW 179 w4.heap.size w' A8b m7b.length c9b v4h∧OW 179 w6.heap.size w' A2c (((wi64 ((wi64 ((x0.length:Int) - (x1.length:Int)))+1)):Int).toNat) (((wi64 ((wi64 ((x0.length:Int) - (x1.length:Int)))+1)):Int).toNat) v0e∧OW 179 w3.heap.size w' A0c r2b.length c1c r2b∧Cp x0 x1 r2b v3a n1t v0d v6c v4h=some m8f∧l'=[.slice A1 x0.length c2,.slice A4 x1.length c5,uu,uu,.pointer (some ⟨b8,0,none⟩),.int .i64 (x1.length:Int),.int .i64 (wi64 ((wi64 (32*(x1.length:Int))) - r5b)),.slice A0c r2b.length c1c,.slice A8b m7b.length c9b,.slice A2c (((wi64 ((wi64 ((x0.length:Int) - (x1.length:Int)))+1)):Int).toNat) (((wi64 ((wi64 ((x0.length:Int) - (x1.length:Int)))+1)):Int).toNat),.int .i64 v3a,.int .u64 (wu64 (v7c - 1)),.int .u64 v0d,.int .u64 v3d,t1a 0,t1a 1,t1a 2,.int .i64 v6c,t6b 0,.slice A4 x1.length c5,.int .i64 (x1.length:Int),.bool z2d,uu,uu,uu,uu,uu,.slice A1 x0.length c2,.slice A4 x1.length c5,.int .i64 r9d,.bool z5d,uu,uu,uu,.slice A4 x1.length c5,.int .i64 (x1.length:Int),.int .i64 (x1.length:Int),.int .i64 (wi64 (32*(x1.length:Int))),.slice A4 x1.length c5,.int .i64 r5b,.int .i64 (wi64 ((wi64 (32*(x1.length:Int))) - r5b)),.slice A4 x1.length c5,.int .i64 (wi64 ((wi64 (32*(x1.length:Int))) - r5b)),.slice A0c r2b.length c1c,.slice A1 x0.length c2,.int .i64 (wi64 ((wi64 (32*(x1.length:Int))) - r5b)),t7a 0,t7a 1,t7a 2,.slice A1 x0.length c2,.int .i64 (x0.length:Int),t7a 3,t7a 4,t7a 5,t7a 6,.slice A1 x0.length c2,.int .i64 (x0.length:Int),.int .i64 (x1.length:Int),.int .i64 (wi64 ((x0.length:Int) - (x1.length:Int))),.int .i64 (wi64 ((wi64 ((x0.length:Int) - (x1.length:Int)))+1)),.slice A2c (((wi64 ((wi64 ((x0.length:Int) - (x1.length:Int)))+1)):Int).toNat) (((wi64 ((wi64 ((x0.length:Int) - (x1.length:Int)))+1)):Int).toNat),.slice A1 x0.length c2,.int .i64 (x0.length:Int),.int .i64 (x1.length:Int),.int .i64 (wi64 ((x0.length:Int) - (x1.length:Int))),.int .i64 v3a,.bool z6d,t0a 10,t0a 11,.slice A8b m7b.length c9b,.int .i64 v3a,.int .i64 (x1.length:Int),.int .i64 (wi64 (v3a+(x1.length:Int))),.pointer (some ⟨bb60913,0+((wi64 (v3a+(x1.length:Int))):Int).toNat,none⟩),.int .u32 u6a,.int .u64 (wu64 u6a),.int .u64 (wu64 ((wu64 u6a)*2^min (32:Int).toNat IntKind.u64.bits)),.slice A8b m7b.length c9b,.int .i64 v3a,.int .i64 (x1.length:Int),.int .i64 (wi64 (v3a+(x1.length:Int))),.int .i64 (wi64 ((wi64 (v3a+(x1.length:Int))) - 1)),.pointer (some ⟨bb60922,0+((wi64 ((wi64 (v3a+(x1.length:Int))) - 1)):Int).toNat,none⟩),.int .u32 u8a,.int .u64 (wu64 u8a),.int .u64 (wu64 ((wu64 ((wu64 u6a)*2^min (32:Int).toNat IntKind.u64.bits))+(wu64 u8a))),.slice A0c r2b.length c1c,.int .i64 (x1.length:Int),.int .i64 (wi64 ((x1.length:Int) - 1)),.pointer (some ⟨bb60931,0+((wi64 ((x1.length:Int) - 1)):Int).toNat,none⟩),.int .u32 u1b,.int .u64 (wu64 u1b),.int .u64 (wu64 ((wu64 ((wu64 ((wu64 u6a)*2^min (32:Int).toNat IntKind.u64.bits))+(wu64 u8a))).tdiv (wu64 u1b))),.int .u64 (min (wu64 ((wu64 ((wu64 ((wu64 u6a)*2^min (32:Int).toNat IntKind.u64.bits))+(wu64 u8a))).tdiv (wu64 u1b))) 4294967295),t1a 3,.int .i64 (x1.length:Int),t1a 4,t1a 5,t1a 6,t1a 7,t1a 8,t1a 9,t1a 10,t1a 11,t1a 12,t1a 13,t1a 14,t1a 15,t1a 16,t1a 17,t1a 18,t1a 19,t1a 20,t1a 21,t1a 22,t1a 23,t1a 24,t1a 25,t1a 26,t1a 27,t1a 28,t1a 29,t1a 30,t1a 31,t1a 32,t1a 33,t1a 34,t1a 35,t1a 36,t1a 37,.int .u64 v3d,.bool z5e,.int .u64 v7c,.int .u64 (wu64 (v7c - 1)),t6b 1,t6b 2,t6b 3,t6b 4,t6b 5,t6b 6,t6b 7,t6b 8,t6b 9,t6b 10,t6b 11,t6b 12,t6b 13,t6b 14,t6b 15,t6b 16,t6b 17,t6b 18,t6b 19,t6b 20,t6b 21,t6b 22,t6b 23,t6b 24,t6b 25,t6b 26,t6b 27,t5a 33,t5a 34,t5a 35,t0a 107,t0a 108,t0a 109,t0a 110,t0a 111,uu,uu,uu,uu,uu,uu,uu]) 18446744073709551616 ?_ ?_ ?_
              ·exact ⟨0,0,v2h,(tk [t5a 1,t5a 6,t5a 7,t5a 8,t5a 9,t5a 10,t5a 11,t5a 12,t5a 13,t5a 14,t5a 15,t5a 16,t5a 17,t5a 18,t5a 19,t5a 20,t5a 21,t5a 22,t5a 23,t5a 24,t5a 25,t5a 26,t5a 27,t5a 28,t5a 29,t5a 30,t5a 31,t5a 32]),X9r,X0s,X1s,ow2s,ow3s,ow4s,h1a9,rfl⟩
              ·rintro l' w' ⟨v0d,v6c,v4h,t6b,_,_,_,_,_,_,hz,_⟩
               exact nomatch hz
              ·rintro n1t ih3a9 _ w7e ⟨v0d,v6c,v4h,t6b,X2t,X3t,X4t,ow0k,ow5t,ow1k,hr2k,rfl⟩ _ rfl
               unfold Cp at hr2k
               refine Ba<|wp_seq_k fun K6t h6t=>wp_seq_k fun K7t h7t=>Ae<|sV (Aa rfl) ?_
               refine sV (Aa rfl) ?_
               refine sb (FZ rfl rfl) fun z9f hz9f=>?_
               refine nrm ?_
               refine Ad<|h7t _ _ ?_
               rcases bft z9f with e5h | e5h
               ·have p4a9:=zP hz9f e5h
                have f5a9:=ifP p4a9 hr2k
                refine wp_cond_true (Ai (evb rfl e5h))<|wp_skip<|h6t _ _<|wp_seq_k fun K8t h8t=>?_
                apply wp_block
                refine wp_seq_k fun K9t h9t=>EE [] 14 mo rfl fun w6h E0f S0u=>have X1u:=xtr X2t E0f;have X6a9:=xtr X3t E0f;have X7a9:=xtr X4t E0f;dA 0 rfl (fun _=>Aa rfl) ?_
                refine dA 1 rfl (fun _=>Aa rfl) ?_
                refine dA 2 rfl (fun _=>Aa rfl) ?_
                refine dA 3 rfl (fun _=>AO (c:=wi64 (v3a+v6c)) rfl rfl rfl) ?_
                obtain ⟨u1d,h8a9,f9a9⟩:=Ab f5a9
                obtain ⟨bb66336,hA0aa,hz3ai,ia1aa,ib2aa,hc66341⟩:=OW.nthc (ow0k.ext E0f) h8a9
                refine dA 4 rfl (fun _=>Ar AP An rfl rfl hA0aa ia1aa ib2aa) ?_
                refine dV 5 rfl (fun _ hw=>Ag AN rfl (Cv hc66341 hw)) S0u ?_
                refine dA 6 rfl (fun _=>AG (c:=wu64 u1d) AH AF rfl rfl) ?_
                refine dA 7 rfl (fun _=>Aa rfl) ?_
                refine dA 8 rfl (fun _=>Aa rfl) ?_
                refine dA 11 rfl (fun _=>Aa rfl) ?_
                obtain ⟨r4d,h3aa,f4aa⟩:=Ab f9a9
                refine dc 9 rfl (by kernel_rfl) (by rfl) (Af Ib (by rfl)) (BY r2b v6c A0c c1c w6h (tbx X1u hT) (OW.rl (ow1k.ext E0f)) r4d h3aa) ?_
                rintro _ w2d E2f rfl
                refine dnrm ?_
                have X5aa:=xtr X1u E2f
                have X6aa:=xtr X6a9 E2f
                have X7aa:=xtr X7a9 E2f
                have S4ai:=S0u.trans E2f
                refine dA 10 rfl (fun _=>AO (c:=wu64 ((wu64 u1d)+r4d)) rfl rfl rfl) ?_
                refine dA 12 rfl (fun _=>AO (c:=wu64 ((wu64 ((wu64 u1d)+r4d))+v0d)) rfl rfl rfl) ?_
                refine dA 13 rfl (fun _=>Ac rfl) ?_
                refine Dm (by kernel_rfl) ?_
                refine h9t _ _<|wp_seq_k fun K2u h2u=>Ae<|sV (Aa rfl) ?_
                refine sV (Aa rfl) ?_
                refine sV (Aa rfl) ?_
                refine sV (AO (c:=wi64 (v3a+v6c)) rfl rfl rfl) ?_
                refine sV (Aa rfl) ?_
                refine sV (AG (c:=wu32 (wu64 ((wu64 ((wu64 u1d)+r4d))+v0d))) AF AH rfl rfl) ?_
                have ow3k:=(ow0k.ext E0f).ext E2f
                obtain ⟨u5ai,h8aa,f9aa⟩:=Ab f4aa
                obtain ⟨bb66355,hA4k,hz0ab,ia3u,ib4u,hc66360⟩:=OW.nthc ow3k h8aa
                refine sV (Ar AP An rfl rfl hA4k ia3u ib4u) ?_
                refine JQ An rfl rfl ow3k hA4k ia3u (by rw [OW.len ow3k];exact ib4u) fun w6ai B66361 U1ab ow2ab=>?_
                have ow3ab:=(ow1k.ext E0f).ext E2f
                have ow4ab:=(ow5t.ext E0f).ext E2f
                have X5ab:=xO X5aa B66361 X4f.size
                have X6ab:=xO X6aa B66361 E2g.size
                have X7ab:=xO X7aa B66361 (Nat.le_refl _)
                have ow8ab:=OW.bel2 ow3ab B66361 hl105
                have ow9ab:=OW.updO ow4ab U1ab (hl363 _ hA4k hz0ab)
                refine Ad<|h2u _ _<|Ae<|sV (Aa rfl) ?_
                refine sV (Gu (c:=(wu64 ((wu64 ((wu64 u1d)+r4d))+v0d)).fdiv (2^min (32:Int).toNat IntKind.u64.bits)) (by decide) rfl rfl rfl) ?_
                refine sV (Ac rfl) ?_
                refine Ad<|h8t _ _<|Ae<|sV (Aa rfl) ?_
                refine sV (AO (c:=wi64 (v6c+1)) rfl rfl rfl) ?_
                refine sV (Ac rfl) ?_
                refine Ad ?_
                exact ih3a9 _ _ ⟨((wu64 ((wu64 ((wu64 u1d)+r4d))+v0d)).fdiv (2^min (32:Int).toNat IntKind.u64.bits)),(wi64 (v6c+1)),(List.set v4h ((wi64 (v3a+v6c)):Int).toNat (wu32 (wu64 ((wu64 ((wu64 u1d)+r4d))+v0d)))),(tk [.int .u64 (wu64 ((wu64 ((wu64 u1d)+r4d))+v0d)),.int .i64 v6c,.int .i64 (x1.length:Int),.bool z9f,.int .i64 v6c,.int .i64 (wi64 (v6c+1)),.slice A8b m7b.length c9b,.int .i64 v3a,.int .i64 v6c,.int .i64 (wi64 (v3a+v6c)),.pointer (some ⟨bb66336,0+((wi64 (v3a+v6c)):Int).toNat,none⟩),.int .u32 u1d,.int .u64 (wu64 u1d),.slice A0c r2b.length c1c,.int .i64 v6c,.int .u64 r4d,.int .u64 (wu64 ((wu64 u1d)+r4d)),.int .u64 v0d,.int .u64 (wu64 ((wu64 ((wu64 u1d)+r4d))+v0d)),.slice A8b m7b.length c9b,.int .i64 v3a,.int .i64 v6c,.int .i64 (wi64 (v3a+v6c)),.int .u64 (wu64 ((wu64 ((wu64 u1d)+r4d))+v0d)),.int .u32 (wu32 (wu64 ((wu64 ((wu64 u1d)+r4d))+v0d))),.pointer (some ⟨bb66355,0+((wi64 (v3a+v6c)):Int).toNat,none⟩),.int .u64 (wu64 ((wu64 ((wu64 u1d)+r4d))+v0d)),.int .u64 ((wu64 ((wu64 ((wu64 u1d)+r4d))+v0d)).fdiv (2^min (32:Int).toNat IntKind.u64.bits))]),X5ab,X6ab,X7ab,ow2ab,ow9ab,ow8ab,f9aa,rfl⟩
               ·have p0ac:=zN hz9f e5h
                have f1ac:=ifN p0ac hr2k
                refine wp_cond_false (Ai (evb rfl e5h))<|wp_exit ?_
                simp only [Exit.then,Exit.inBlock,↓reduceIte,Nat.reduceEqDiff]
                obtain rfl:=sj f1ac
                exact ⟨_,rfl,(tk [.int .i64 v6c,t6b 0,.int .i64 v6c,.bool z9f,t6b 4,t6b 5,t6b 6,t6b 7,t6b 8,t6b 9,t6b 10,t6b 11,t6b 12,t6b 13,t6b 14,t6b 15,t6b 16,t6b 17,t6b 18,t6b 19,t6b 20,t6b 21,t6b 22,t6b 23,t6b 24,t6b 25,t6b 26,t6b 27]),X2t,X3t,X4t,ow0k,ow5t,ow1k,rfl⟩
             ·rintro _ w7e ⟨t4b,X2ac,X3ac,X4ac,ow5ac,ow6ac,ow7ac,rfl⟩ _ rfl
              refine h9s _ _<|Ae<|sV (Aa rfl) ?_
              refine sV (Aa rfl) ?_
              refine sV (AV (c:=wu64 (v3d - m8f.1)) rfl rfl rfl) ?_
              refine sV (Ac rfl) ?_
              refine Ad ?_
              obtain rfl:=sj f2a9
              exact ⟨_,rfl,(tk [t4b 0,t4b 1,t4b 2,t4b 3,t4b 4,t4b 5,t4b 6,t4b 7,t4b 8,t4b 9,t4b 10,t4b 11,t4b 12,t4b 13,t4b 14,t4b 15,t4b 16,t4b 17,t4b 18,t4b 19,t4b 20,t4b 21,t4b 22,t4b 23,t4b 24,t4b 25,t4b 26,t4b 27,.int .u64 m8f.1,.int .u64 (wu64 (v3d - m8f.1))]),X2ac,X3ac,X4ac,ow5ac,ow6ac,ow7ac,rfl⟩
            ·rintro _ w7e ⟨t3b,X8ac,X9ac,X0ad,ow1ad,ow2ad,ow3ad,rfl⟩ _ rfl
             exact ih6a8 _ _ ⟨(wu64 (v7c - 1)),m7f.1,m7f.2.1,m7f.2.2,(tk [t3b 0,t3b 1,.int .u64 v3d,.bool z5e,.int .u64 v7c,.int .u64 (wu64 (v7c - 1)),t3b 2,.int .i64 (x1.length:Int),t3b 3,t3b 4,t3b 5,t3b 6,t3b 7,t3b 8,t3b 9,t3b 10,t3b 11,t3b 12,t3b 13,t3b 14,t3b 15,t3b 16,t3b 17,t3b 18,t3b 19,t3b 20,t3b 21,t3b 22,t3b 23,t3b 24,t3b 25,t3b 26,t3b 27,.int .u64 v3d,t3b 28,t3b 29]),X8ac,X9ac,X0ad,ow1ad,ow2ad,ow3ad,f0a9,rfl⟩
           ·have p4ad:=zN hz5e e3h
            have f5ad:=ifN p4ad hr9j
            refine wp_cond_false (Ai (evb rfl e3h))<|wp_exit ?_
            simp only [Exit.then,Exit.inBlock,↓reduceIte,Nat.reduceEqDiff]
            obtain rfl:=sj f5ad
            exact ⟨_,rfl,(tk [t5a 0,t5a 1,.int .u64 v3d,.bool z5e,t5a 4,t5a 5,t5a 6,t5a 7,t5a 8,t5a 9,t5a 10,t5a 11,t5a 12,t5a 13,t5a 14,t5a 15,t5a 16,t5a 17,t5a 18,t5a 19,t5a 20,t5a 21,t5a 22,t5a 23,t5a 24,t5a 25,t5a 26,t5a 27,t5a 28,t5a 29,t5a 30,t5a 31,t5a 32,t5a 33,t5a 34,t5a 35]),X9r,X0s,X1s,ow2s,ow3s,ow4s,rfl⟩
         ·rintro _ w2e ⟨t0b,X6ad,X7ad,X8ad,ow9ad,ow5k,ow0ae,rfl⟩ _ rfl
          refine h7r _ _<|Ae<|sV (Aa rfl) ?_
          refine sV (Aa rfl) ?_
          refine sV (Aa rfl) ?_
          refine sV (AG (c:=wu32 m1e.1) AF AH rfl rfl) ?_
          obtain ⟨u7ai,h1ae,f2ae⟩:=Ab f5a8
          obtain ⟨bb66374,hA5u,hz8ai,ia6u,ib7u,hc66379⟩:=OW.nthc ow5k h1ae
          refine sV (Ar AP An rfl rfl hA5u ia6u ib7u) ?_
          refine JQ An rfl rfl ow5k hA5u ia6u (by rw [OW.len ow5k];exact ib7u) fun w7e B66380 U9ai ow3ae=>?_
          have X4ae:=xO X6ad B66380 X3o.size
          have X5ae:=xO X7ad B66380 X4o.size
          have X6ae:=xO X8ad B66380 X5o.size
          have ow7ae:=OW.bel2 ow0ae B66380 hl362
          have ow8ae:=OW.bel2 ow9ad B66380 hl363
          refine Ad ?_
          obtain rfl:=sj f2ae
          exact ⟨_,rfl,(tk [.int .u64 m1e.1,.int .u64 m1e.2.1,.int .u64 m1e.2.2.1,t1a 0,t1a 1,t1a 2,t0b 0,t0b 1,.pointer (some ⟨bb60913,0+((wi64 (v3a+(x1.length:Int))):Int).toNat,none⟩),.int .u32 u6a,.int .u64 (wu64 u6a),.int .u64 (wu64 ((wu64 u6a)*2^min (32:Int).toNat IntKind.u64.bits)),.pointer (some ⟨bb60922,0+((wi64 ((wi64 (v3a+(x1.length:Int))) - 1)):Int).toNat,none⟩),.int .u32 u8a,.int .u64 (wu64 u8a),.int .u64 (wu64 ((wu64 ((wu64 u6a)*2^min (32:Int).toNat IntKind.u64.bits))+(wu64 u8a))),.pointer (some ⟨bb60931,0+((wi64 ((x1.length:Int) - 1)):Int).toNat,none⟩),.int .u32 u1b,.int .u64 (wu64 u1b),.int .u64 (wu64 ((wu64 ((wu64 ((wu64 u6a)*2^min (32:Int).toNat IntKind.u64.bits))+(wu64 u8a))).tdiv (wu64 u1b))),.int .u64 (min (wu64 ((wu64 ((wu64 ((wu64 u6a)*2^min (32:Int).toNat IntKind.u64.bits))+(wu64 u8a))).tdiv (wu64 u1b))) 4294967295),t1a 3,t1a 4,t1a 5,t1a 6,t1a 7,t1a 8,t1a 9,t1a 10,t1a 11,t1a 12,t1a 13,t1a 14,t1a 15,t1a 16,t1a 17,t1a 18,t1a 19,t1a 20,t1a 21,t1a 22,t1a 23,t1a 24,t1a 25,t1a 26,t1a 27,t1a 28,t1a 29,t1a 30,t1a 31,t1a 32,t1a 33,t1a 34,t1a 35,t1a 36,t1a 37,t0b 2,t0b 3,t0b 4,t0b 5,t0b 6,t0b 7,t0b 8,t0b 9,t0b 10,t0b 11,t0b 12,t0b 13,t0b 14,t0b 15,t0b 16,t0b 17,t0b 18,t0b 19,t0b 20,t0b 21,t0b 22,t0b 23,t0b 24,t0b 25,t0b 26,t0b 27,t0b 28,t0b 29,t0b 30,t0b 31,t0b 32,t0b 33,t0b 34,t0b 35,.int .u64 m1e.1,.int .u32 (wu32 m1e.1),.pointer (some ⟨bb66374,0+(v3a:Int).toNat,none⟩)]),X4ae,X5ae,X6ae,ow8ae,ow3ae,ow7ae,rfl⟩
       ·rintro _ w9 ⟨t2a,X9ae,X0af,X1af,ow2af,ow3af,ow4af,rfl⟩ _ rfl
        refine h8p _ _<|Ae<|sV (Aa rfl) ?_
        refine sV (AV (c:=wi64 (v3a - 1)) rfl rfl rfl) ?_
        refine sV (Ac rfl) ?_
        refine Ad ?_
        exact ih6a2 _ _ ⟨(wi64 (v3a - 1)),m1i.1,m1i.2,(tk [t2a 0,t2a 1,t2a 2,t2a 3,t2a 4,t2a 5,t2a 6,t2a 7,.int .i64 v3a,.bool z6d,.int .i64 v3a,.int .i64 (wi64 (v3a - 1)),.slice A8b m7b.length c9b,.int .i64 v3a,.int .i64 (x1.length:Int),.int .i64 (wi64 (v3a+(x1.length:Int))),t2a 8,t2a 9,t2a 10,t2a 11,.slice A8b m7b.length c9b,.int .i64 v3a,.int .i64 (x1.length:Int),.int .i64 (wi64 (v3a+(x1.length:Int))),.int .i64 (wi64 ((wi64 (v3a+(x1.length:Int))) - 1)),t2a 12,t2a 13,t2a 14,t2a 15,.slice A0c r2b.length c1c,.int .i64 (x1.length:Int),.int .i64 (wi64 ((x1.length:Int) - 1)),t2a 16,t2a 17,t2a 18,t2a 19,t2a 20,t2a 21,.int .i64 (x1.length:Int),t2a 22,t2a 23,t2a 24,t2a 25,t2a 26,t2a 27,t2a 28,t2a 29,t2a 30,t2a 31,t2a 32,t2a 33,t2a 34,t2a 35,t2a 36,t2a 37,t2a 38,t2a 39,t2a 40,t2a 41,t2a 42,t2a 43,t2a 44,t2a 45,t2a 46,t2a 47,t2a 48,t2a 49,t2a 50,t2a 51,t2a 52,t2a 53,t2a 54,t2a 55,t2a 56,t2a 57,t2a 58,t2a 59,t2a 60,t2a 61,t2a 62,t2a 63,t2a 64,t2a 65,t2a 66,t2a 67,t2a 68,t2a 69,t2a 70,t2a 71,t2a 72,t2a 73,t2a 74,t2a 75,t2a 76,t2a 77,t2a 78,t2a 79,t2a 80,t2a 81,t2a 82,t2a 83,t2a 84,t2a 85,t2a 86,t2a 87,t2a 88,t2a 89,.slice A2c (((wi64 ((wi64 ((x0.length:Int) - (x1.length:Int)))+1)):Int).toNat) (((wi64 ((wi64 ((x0.length:Int) - (x1.length:Int)))+1)):Int).toNat),.int .i64 v3a,t2a 90,t2a 91,t2a 92]),X9ae,X0af,X1af,ow2af,ow3af,ow4af,f0a3,rfl⟩
      ·have p5af:=zN hz6d e8g
       have f6af:=ifN p5af hr3j
       refine wp_cond_false (Ai (evb rfl e8g))<|wp_exit ?_
       simp only [Exit.then,Exit.inBlock,↓reduceIte,Nat.reduceEqDiff]
       obtain rfl:=sj f6af
       exact ⟨_,rfl,(tk [.int .i64 v3a,t0a 0,t0a 1,t0a 2,t0a 3,t0a 4,t0a 5,t0a 6,t0a 7,.int .i64 v3a,.bool z6d,t0a 10,t0a 11,t0a 12,t0a 13,t0a 14,t0a 15,t0a 16,t0a 17,t0a 18,t0a 19,t0a 20,t0a 21,t0a 22,t0a 23,t0a 24,t0a 25,t0a 26,t0a 27,t0a 28,t0a 29,t0a 30,t0a 31,t0a 32,t0a 33,t0a 34,t0a 35,t0a 36,t0a 37,t0a 38,t0a 39,t0a 40,t0a 41,t0a 42,t0a 43,t0a 44,t0a 45,t0a 46,t0a 47,t0a 48,t0a 49,t0a 50,t0a 51,t0a 52,t0a 53,t0a 54,t0a 55,t0a 56,t0a 57,t0a 58,t0a 59,t0a 60,t0a 61,t0a 62,t0a 63,t0a 64,t0a 65,t0a 66,t0a 67,t0a 68,t0a 69,t0a 70,t0a 71,t0a 72,t0a 73,t0a 74,t0a 75,t0a 76,t0a 77,t0a 78,t0a 79,t0a 80,t0a 81,t0a 82,t0a 83,t0a 84,t0a 85,t0a 86,t0a 87,t0a 88,t0a 89,t0a 90,t0a 91,t0a 92,t0a 93,t0a 94,t0a 95,t0a 96,t0a 97,t0a 98,t0a 99,t0a 100,t0a 101,t0a 102,t0a 103,t0a 104,t0a 105,t0a 106,t0a 107,t0a 108,t0a 109,t0a 110,t0a 111]),X2p,X3p,X4p,ow0i,ow5p,ow2j,rfl⟩
    ·rintro _ w8 ⟨t4a,X8u,X7af,X0aj,ow9u,ow0v,ow1aj,rfl⟩ _ rfl
     refine h9o _ _<|wp_seq_k fun K1v h1v=>Ae<|sV (Aa rfl) ?_
     obtain ⟨r6k,h8af,f9af⟩:=Ab f5a2
     refine sc (Af IM (by simp only [OW.len ow0v];rfl)) (CC m6g.2 A2c (((wi64 ((wi64 ((x0.length:Int) - (x1.length:Int)))+1)):Int).toNat) w8 (tbx X8u hT) (OW.rl ow0v) r6k h8af) ?_
     rintro _ w9 E3i ⟨A7k,c8k,rfl,n0ag⟩
     refine nrm ?_
     have X2v:=xtr X8u E3i
     have X1ag:=xtr X7af E3i
     refine sV (Aa rfl) ?_
     obtain ⟨r3v,h2ag,f3ag⟩:=Ab f9af
     refine sc (Af IM (by simp only [OW.len (ow9u.ext E3i)];rfl)) (CC m6g.1 A8b c9b w9 (tbx X2v hT) (OW.rl (ow9u.ext E3i)) r3v h2ag) ?_
     rintro _ w6e E9k ⟨A4ag,c5ag,rfl,n6ag⟩
     refine nrm ?_
     have X4v:=xtr X2v E9k
     have X7ag:=xtr X1ag E9k
     refine sV (Aa rfl) ?_
     obtain ⟨r0l,h8ag,f9ag⟩:=Ab f3ag
     refine sc (Af Mz (by rfl)) (FE r3v (wi64 ((wi64 (32*(x1.length:Int))) - r5b)) A4ag c5ag w6e (tbx X4v hT) n6ag r0l h8ag) ?_
     rintro _ w2e E1l ⟨A2l,c3l,rfl,n0ah⟩
     refine nrm ?_
     have X1ah:=xtr X4v E1l
     have X2ah:=xtr X7ag E1l
     refine sV (Bi (vals:=[(0,.slice A7k r6k.length c8k),(1,.slice A2l r0l.length c3l)]) (cells:=[.slice A7k r6k.length c8k,.slice A2l r0l.length c3l]) (by rfl) (by kernel_rfl)) ?_
     have n4l:=((q2e.ext E8h).ext E4m).ext X2ah
     refine AA IN rfl rfl n4l rfl rfl rfl rfl (by simp only [SP0,SP1,S0,S1,Nat.reduceAdd];rfl) fun w7e U5l q3ah=>?_
     have X4ah:=belU X1ah U5l g6e
     refine Ad<|h1v _ _<|wp_ret ?_
     have n5ah:=((n0ag.ext E9k).ext E1l).upd U5l n4l (by decide)
     have n6ah:=n0ah.upd U5l n4l (by decide)
     obtain rfl:=sj f9ag
     exact fin rfl (Res.cellN rfl KP q3ah rfl rfl Res.nil) (Ak X4ah ⟨A7k,c8k,A2l,c3l,rfl,n5ah,n6ah⟩)
end Go.Proofs.Lf

