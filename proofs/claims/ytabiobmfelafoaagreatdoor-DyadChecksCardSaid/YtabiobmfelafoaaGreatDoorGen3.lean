import Derived.Test.YtabiobmfelafoaaGreatDoorGen2
namespace Go.Proofs
set_option linter.unusedVariables false
set_option linter.unusedSimpArgs false
set_option maxHeartbeats 4000000
open Go.RowKit Go.Sb Go.Proofs.Sbn
theorem c_sorobanlaw04_lightSpan (x0:Av) (A1:Option Addr) (c2:Nat) (A4:Option Addr) (c5:Nat) (w:World) (hT:TB w) (n3:RLu w A1 c2 x0.Lo.Man.Abs) (n6:RLu w A4 c5 x0.Hi.Man.Abs) (r:Bool) (hr:Dq x0=some r) :
  Calls Tryz.prog 26 #[.agg #[.bool x0.Lo.Man.Neg,.slice A1 x0.Lo.Man.Abs.length c2,.int .i64 x0.Lo.Exp,.bool x0.Hi.Man.Neg,.slice A4 x0.Hi.Man.Abs.length c5,.int .i64 x0.Hi.Exp]] w (Ret Ff w r):=by
 unfold Dq at hr
 go_enter Tryz.func26,Tryz.ntmps26
 refine wp_seq_k fun K7 h7=>Af<|BH rfl rfl fun b8 w1 E9 g4c q2a=>?_
 refine nrm ?_
 refine sV (Ac rfl) ?_
 refine Ad<|h7 _ _<|wp_seq_k fun K3a h3a=>Af<|sV (Ag (o':=0) Il rfl rfl) ?_
 refine sV (AE BC rfl q2a (by simp only [List.drop_zero,List.take_succ_cons,List.take_zero];rfl) rfl) ?_
 obtain ⟨r4a,h1b,f2b⟩:=Ab hr
 refine sc (Ae Oa (by rfl)) (Gh x0.Lo A1 c2 w1 (tbx E9 hT) (n3.ext E9) r4a h1b) ?_
 rintro _ w2 E5a rfl
 refine nrm ?_
 have X1a:=xtr E9 E5a
 refine sV (Aa rfl) ?_
 obtain ⟨m3b,h6a,f4b⟩:=Ab f2b
 refine Cm 8 (fun l l' w'=>∃(t7a:Value) (t8a:Value) (t9a:Value),UpdS [] w2 w'∧l'=((((l.set 7 t7a).set 8 t8a).set 9 t9a).set 10 (.bool m3b))) ?_ ?_
 ·intro HJ35
  rcases bft r4a with e0a | e0a
  ·have p5b:=e0a
   have f6b:=ifP p5b h6a
   refine sV (Ag (o':=3) Ig rfl rfl) ?_ (hw:=wgT rfl e0a)
   refine sV (AE BC rfl (q2a.ext E5a) (by simp only [List.drop_succ_cons,List.drop_zero,List.take_succ_cons,List.take_zero];rfl) rfl) ?_ (hw:=wgT rfl e0a)
   obtain ⟨r0b,h7b,f8b⟩:=Ab f6b
   refine sc (Ae Oa (by rfl)) (Gh x0.Hi A4 c5 w2 (tbx X1a hT) (n6.ext X1a) r0b h7b) ?_ (hw:=wgT rfl e0a)
   rintro _ w3 E9b rfl
   refine nrm ?_
   refine sV (Ax (evb rfl e0a) rfl) ?_
   obtain rfl:=sj f8b
   exact HJ35 _ _ ⟨(.pointer (some ⟨b8,3,none⟩)),(.agg #[.bool x0.Hi.Man.Neg,.slice A4 x0.Hi.Man.Abs.length c5,.int .i64 x0.Hi.Exp]),(.bool r0b),((UpdS.refl _ _).ext E9b),(by simp only [S0,S1]<;>rfl)⟩
  ·have p0c:=bF e0a
   have f1c:=ifN p0c h6a
   refine sP ?_ (hw:=wgF rfl e0a)
   refine sP ?_ (hw:=wgF rfl e0a)
   refine sP ?_ (hw:=wgF rfl e0a)
   refine sV (AG (evb rfl e0a) rfl) ?_
   obtain rfl:=sj f1c
   exact HJ35 _ _ ⟨uu,uu,uu,(UpdS.refl _ _),(by simp only [S0,S1]<;>rfl)⟩
 ·rintro l' w3 ⟨t7a,t8a,t9a,U2c,hq'⟩ l'' hl
  rw [hq'] at hl
  clear hq'
  simp only [S0,S1] at hl
  subst hl
  have X3c:=IM X1a U2c (X1a).size al0
  refine sV (Ac rfl) ?_
  refine Ad<|h3a _ _<|wp_ret ?_
  obtain rfl:=sj f4b
  exact fin rfl (Res.tmp rfl Res.nil) (Al X3c rfl)
end Go.Proofs

