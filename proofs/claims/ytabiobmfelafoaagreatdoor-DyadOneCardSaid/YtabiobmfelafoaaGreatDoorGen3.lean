import Derived.Test.YtabiobmfelafoaaGreatDoorGen2
namespace Go.Proofs
set_option linter.unusedVariables false
set_option linter.unusedSimpArgs false
set_option maxHeartbeats 4000000
open Go.RowKit Go.Sb Go.Proofs.Sbn
theorem JE (x0_0:Aq) (x0_1:Aq) (bp0:Nat) (A1:Option Addr) (c2:Nat) (A4:Option Addr) (c5:Nat) (w:World) (hT:TB w) (n3:RLu w A1 c2 x0_0.Man.Abs) (n6:RLu w A4 c5 x0_1.Man.Abs) (q7:Bx w bp0 27 [.bool x0_0.Man.Neg,.slice A1 x0_0.Man.Abs.length c2,.int .i64 x0_0.Exp,.bool x0_1.Man.Neg,.slice A4 x0_1.Man.Abs.length c5,.int .i64 x0_1.Exp]) (r:Except Int (Unit)) (hr:Gl x0_0 x0_1=some r) :
  Calls Tryz.prog 120 #[.slice (some ⟨bp0,0,none⟩) 2 2] w (RetE 201 Ki w r):=by
 unfold Gl at hr
 go_enter Tryz.func120,Tryz.ntmps120
 refine wp_seq_k fun K8 h8=>Af<|sV (Aa rfl) ?_
 refine sV (AD HN rfl) ?_
 refine sV (Aa rfl) ?_
 refine Ad<|h8 _ _ ?_
 apply wp_block
 refine GO<|Bg<|wp_seq_k fun K9 h9=>Af<|sV (HO (v:=.bool true) (Cm rfl rfl) (by rfl)) ?_
 refine Ad<|h9 _ _<|wp_seq_k fun K2b h2b=>wp_cond_true (Aj (evb rfl rfl))<|wp_skip<|h2b _ _<|wp_seq_k fun K3b h3b=>?_
 apply wp_block
 refine wp_seq_k fun K4b h4b=>Af<|sV (FO (o':=0) HN DU rfl rfl (by decide) (by decide) (by decide)) ?_
 refine sV (AH Bk rfl q7 (by simp only [List.drop_zero,List.take_succ_cons,List.take_zero];rfl) rfl) ?_
 refine Aw FM fun b4e w1 E3c g4c q5c=>?_
 refine nrm ?_
 refine Ax DU rfl rfl q5c rfl rfl rfl rfl (by simp only [SP0,SP1,S0,S1,Nat.reduceAdd];rfl) fun w2 U6c q7c=>?_
 have F0a:=belU E3c U6c g4c
 refine Ad<|h4b _ _<|Af<|sV (Am Bk rfl q7c rfl) ?_
 obtain ⟨r4a,h8c,f9c⟩:=Ab hr
 refine sc (Ae Mg (by rfl)) (Gb x0_0 A1 c2 w2 (tbx F0a hT) (n3.ext F0a) r4a h8c) ?_
 rintro _ w3 E5b rfl
 refine nrm ?_
 have X1a:=xtr F0a E5b
 rcases AG f9c with ⟨r5a,h6a,f0d⟩ | ⟨r5a,h6a,rfl⟩
 ·refine scO (Ae Dh (by rfl)) (AN r4a 1 w3 (tbx X1a hT)  (.ok r5a) h6a) ?_
  rintro _ w4 E2a rfl
  refine nrm ?_
  have X6b:=xtr X1a E2a
  refine Ad<|h3b _ _<|Af<|sV (Bd (c:=1) rfl rfl (by decide)) ?_
  refine sV (Aa rfl) ?_
  refine Ad<|Bg<|wp_seq_k fun K7b h7b=>Af<|sV (HO (v:=.bool true) (Cm rfl rfl) (by rfl)) ?_
  refine Ad<|h7b _ _<|wp_seq_k fun K8b h8b=>wp_cond_true (Aj (evb rfl rfl))<|wp_skip<|h8b _ _<|wp_seq_k fun K9b h9b=>?_
  apply wp_block
  refine wp_seq_k fun K0c h0c=>Af<|sV (FO (o':=3) HN DU rfl rfl (by decide) (by decide) (by decide)) ?_
  refine sV (AH Bk rfl (((q7.ext F0a).ext E5b).ext E2a) (by simp only [List.drop_succ_cons,List.drop_zero,List.take_succ_cons,List.take_zero];rfl) rfl) ?_
  refine Aw FM fun b5e w5 E1d g1c q2d=>?_
  refine nrm ?_
  have g6e:=nlt X6b.size g1c
  refine Ax DU rfl rfl q2d rfl rfl rfl rfl (by simp only [SP0,SP1,S0,S1,Nat.reduceAdd];rfl) fun w6 U3d q4d=>?_
  have F5d:=belU E1d U3d g1c
  have X7a:=xtr X6b F5d
  refine Ad<|h0c _ _<|Af<|sV (Am Bk rfl q4d rfl) ?_
  obtain ⟨r8a,h6d,f7d⟩:=Ab f0d
  refine sc (Ae Mg (by rfl)) (Gb x0_1 A4 c5 w6 (tbx X7a hT) (n6.ext X7a) r8a h6d) ?_
  rintro _ w7 E8d rfl
  refine nrm ?_
  have X3a:=xtr X7a E8d
  rcases AG f7d with ⟨r9a,h0b,f9d⟩ | ⟨r9a,h0b,rfl⟩
  ·refine scO (Ae Dh (by rfl)) (AN r8a 1 w7 (tbx X3a hT)  (.ok r9a) h0b) ?_
   rintro _ w8 E1b rfl
   refine nrm ?_
   have X0e:=xtr X3a E1b
   refine Ad<|h9b _ _<|Af<|sV (Bd (c:=2) rfl rfl (by decide)) ?_
   refine sV (Aa rfl) ?_
   refine Ad<|Bg<|wp_seq_k fun K2c h2c=>Af<|sV (HO (v:=.bool false) (Cm rfl rfl) (by rfl)) ?_
   refine Ad<|h2c _ _<|wp_seq_k fun K1e h1e=>wp_cond_false (Aj (evb rfl rfl))<|wp_exit ?_
   simp only [Exit.then,Exit.inBlock,↓reduceIte,Nat.reduceEqDiff]
   obtain rfl:=sj f9d
   exact Mb rfl Res.nil (DT X0e rfl)
  ·refine scP (Ae Dh (by rfl)) (AN r8a 1 w7 (tbx X3a hT)  (.error r9a) h0b) fun w8 E1b=>?_
   have X2e:=xtr X3a E1b
   exact ⟨rfl,BP X2e⟩
 ·refine scP (Ae Dh (by rfl)) (AN r4a 1 w3 (tbx X1a hT)  (.error r5a) h6a) fun w4 E2a=>?_
  have X3e:=xtr X1a E2a
  exact ⟨rfl,BP X3e⟩
end Go.Proofs

