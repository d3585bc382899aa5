import Derived.Test.YtabiobmfelafoaaGreatDoorGen2
namespace Go.Proofs
set_option linter.unusedVariables false
set_option linter.unusedSimpArgs false
set_option maxHeartbeats 4000000
open Go.RowKit Go.Sb Go.Proofs.Sbn
theorem KO (x0_0:Ap) (x0_1:Ap) (bp0:Nat) (A1:Option Addr) (c2:Nat) (A4:Option Addr) (c5:Nat) (w:World) (hT:TB w) (n3:RLu w A1 c2 x0_0.Man.Abs) (n6:RLu w A4 c5 x0_1.Man.Abs) (q7:Bx w bp0 27 [.bool x0_0.Man.Neg,.slice A1 x0_0.Man.Abs.length c2,.int .i64 x0_0.Exp,.bool x0_1.Man.Neg,.slice A4 x0_1.Man.Abs.length c5,.int .i64 x0_1.Exp]) (r:Except Int (Unit)) (hr:Gh x0_0 x0_1=some r) :
  Calls Tryz.prog 120 #[.slice (some ⟨bp0,0,none⟩) 2 2] w (RetE 201 Ld w r):=by
 unfold Gh at hr
 go_enter Tryz.func120,Tryz.ntmps120
 refine wp_seq_k fun _ h8=>Ae<|sV3 (Aa rfl) (Ax LK rfl) (Aa rfl) ?_
 refine wh h8 ?_
 apply wp_block
 refine Ia<|AV<|wp_seq_k fun _ h9=>Ae<|sV (JH (v:=.bool true) (Cj rfl rfl) (by rfl)) ?_
 refine wh h9<|wp_seq_k fun _ h5b=>wp_cond_true (Ai (evb rfl rfl))<|wp_skip<|h5b _ _<|wp_seq_k fun _ h6b=>?_
 apply wp_block
 refine wp_seq_k fun _ h7b=>Ae<|sV (Iu (o':=0) LK FA rfl rfl (by decide) (by decide) (by decide)) ?_
 refine sV (AL Bt rfl q7 (by simp only [List.drop_zero,List.take_succ_cons,List.take_zero];rfl) rfl) ?_
 refine AA Hm fun b3e w1 E8b g9b q0c=>?_
 refine nrm ?_
 refine ss FA q0c fun w2 U1c q2c=>?_
 have F0a:=belU E8b U1c g9b
 refine wh h7b<|Ae<|sV (Al Bt rfl q2c rfl) ?_
 obtain ⟨r4a,h3c,f4c⟩:=Ab hr
 refine sc (Ad Ou (by rfl)) (IF x0_0 A1 c2 w2 (tbx F0a hT) (n3.ext F0a) r4a h3c) ?_
 rintro _ w3 E2b rfl
 refine nrm ?_
 have X1a:=xtr F0a E2b
 rcases AR f4c with ⟨r5a,h6a,f5c⟩ | ⟨r5a,h6a,rfl⟩
 ·refine scO (Ad EI (by rfl)) (Bh r4a 1 w3 (tbx X1a hT)  (.ok r5a) h6a) ?_
  rintro _ w4 E2a rfl
  refine nrm ?_
  have X3b:=xtr X1a E2a
  refine wh h6b<|Ae<|sV (AM (c:=1) rfl rfl (by decide)) ?_
  refine sV (Aa rfl) ?_
  refine AG<|AV<|wp_seq_k fun _ h6c=>Ae<|sV (JH (v:=.bool true) (Cj rfl rfl) (by rfl)) ?_
  refine wh h6c<|wp_seq_k fun _ h7c=>wp_cond_true (Ai (evb rfl rfl))<|wp_skip<|h7c _ _<|wp_seq_k fun _ h8c=>?_
  apply wp_block
  refine wp_seq_k fun _ h9c=>Ae<|sV (Iu (o':=3) LK FA rfl rfl (by decide) (by decide) (by decide)) ?_
  refine sV (AL Bt rfl (((q7.ext F0a).ext E2b).ext E2a) (by simp only [List.drop_succ_cons,List.drop_zero,List.take_succ_cons,List.take_zero];rfl) rfl) ?_
  refine AA Hm fun b4e w5 E0d g4b q1d=>?_
  refine nrm ?_
  have g5e:=nlt X3b.size g4b
  refine ss FA q1d fun w6 U2d q3d=>?_
  have F4d:=belU E0d U2d g4b
  have X7a:=xtr X3b F4d
  refine wh h9c<|Ae<|sV (Al Bt rfl q3d rfl) ?_
  obtain ⟨r8a,h5d,f6d⟩:=Ab f5c
  refine sc (Ad Ou (by rfl)) (IF x0_1 A4 c5 w6 (tbx X7a hT) (n6.ext X7a) r8a h5d) ?_
  rintro _ w7 E7d rfl
  refine nrm ?_
  have X3a:=xtr X7a E7d
  rcases AR f6d with ⟨r9a,h0b,f8d⟩ | ⟨r9a,h0b,rfl⟩
  ·refine scO (Ad EI (by rfl)) (Bh r8a 1 w7 (tbx X3a hT)  (.ok r9a) h0b) ?_
   rintro _ w8 E1b rfl
   refine nrm ?_
   have X9d:=xtr X3a E1b
   refine wh h8c<|Ae<|sV (AM (c:=2) rfl rfl (by decide)) ?_
   refine sV (Aa rfl) ?_
   refine AG<|AV<|wp_seq_k fun _ h0e=>Ae<|sV (JH (v:=.bool false) (Cj rfl rfl) (by rfl)) ?_
   refine wh h0e<|wp_seq_k fun _ h6e=>wp_cond_false (Ai (evb rfl rfl))<|wp_exit ?_
   simp only [Exit.then,Exit.inBlock,↓reduceIte,Nat.reduceEqDiff]
   obtain rfl:=sj f8d
   exact Nb rfl Res.nil (EK X9d rfl)
  ·refine scP (Ad EI (by rfl)) (Bh r8a 1 w7 (tbx X3a hT)  (.error r9a) h0b) fun w8 E1b=>?_
   have X1e:=xtr X3a E1b
   exact ⟨rfl,Cw X1e⟩
 ·refine scP (Ad EI (by rfl)) (Bh r4a 1 w3 (tbx X1a hT)  (.error r5a) h6a) fun w4 E2a=>?_
  have X2e:=xtr X1a E2a
  exact ⟨rfl,Cw X2e⟩
end Go.Proofs

