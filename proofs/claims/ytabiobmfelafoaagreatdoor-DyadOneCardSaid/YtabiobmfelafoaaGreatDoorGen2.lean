import Derived.Test.YtabiobmfelafoaaGreatDoorGen1
namespace Go.Proofs
set_option linter.unusedVariables false
set_option linter.unusedSimpArgs false
set_option maxHeartbeats 4000000
open Go.RowKit Go.Sb Go.Proofs.Sbn
theorem Ie (x0:Aq) (A1:Option Addr) (c2:Nat) (w:World) (hT:TB w) (n3:RLu w A1 c2 x0.Man.Abs) (r:Bool) (hr:Cn x0=some r) :
  Calls Tryz.prog 44 #[.agg #[.bool x0.Man.Neg,.slice A1 x0.Man.Abs.length c2,.int .i64 x0.Exp]] w (Ret Fy w r):=by
 unfold Cn at hr
 go_enter Tryz.func44,Tryz.ntmps44
 refine wp_seq_k fun K4 h4=>Af<|BT rfl rfl fun b5 w1 E6 g7 q8=>?_
 refine nrm ?_
 refine sV (Ac rfl) ?_
 refine Ad<|h4 _ _<|wp_seq_k fun K9 h9=>Af<|sV (Ai (o':=0) Gd rfl rfl) ?_
 refine sV (Ai (o':=1) Dl rfl rfl) ?_
 refine sV (Ag EQ rfl (Bx.cell q8 rfl)) ?_
 refine sV (AD CA rfl) ?_
 refine sb (IL rfl rfl) fun z4a hz4a=>?_
 refine nrm ?_
 refine sV (Aa rfl) ?_
 obtain ⟨m2d,h5b,f3d⟩:=Ab hr
 refine Ca 20 (fun l l' w'=>∃(t6b:Value) (t7b:Value) (t8b:Value) (t9b:Value) (t0c:Value) (t1c:Value) (t2c:Value) (t3c:Value) (t4c:Value) (t5c:Value) (t6c:Value) (t7c:Value) (t8c:Value),UpdS [] w1 w'∧l'=((((((((((((((l.set 9 t6b).set 10 t7b).set 11 t8b).set 12 t9b).set 13 t0c).set 14 t1c).set 15 t2c).set 16 t3c).set 17 t4c).set 18 t5c).set 19 t6c).set 20 t7c).set 21 t8c).set 22 (.bool m2d))) ?_ ?_
 ·intro HJ85
  rcases bft z4a with e0a | e0a
  ·have p4d:=zP hz4a e0a
   have f5d:=ifP p4d h5b
   refine sV (Ai (o':=2) FH rfl rfl) ?_ (hw:=wgT rfl e0a)
   refine sV (Ag Ey rfl (Bx.cell q8 rfl)) ?_ (hw:=wgT rfl e0a)
   refine sb (EP rfl rfl) ?_ (hw:=wgT rfl e0a)
   intro z3a hz3a
   refine nrm ?_
   refine sV (Aa rfl) ?_ (hw:=wgT rfl e0a)
   obtain ⟨m5a,h9c,f6d⟩:=Ab f5d
   refine Ca 14 (fun l l' w'=>∃(t7a:Value) (t8a:Value) (t9a:Value),w1=w'∧l'=((((l.set 13 t7a).set 14 t8a).set 15 t9a).set 16 (.bool m5a))) ?_ ?_
   ·intro HJ105
    rcases bft z3a with e1a | e1a
    ·have p7d:=zP hz3a e1a
     have f8d:=ifP p7d h9c
     refine sV (Ai (o':=2) FH rfl rfl) ?_ (hw:=wgT rfl e1a)
     refine sV (Ag Ey rfl (Bx.cell q8 rfl)) ?_ (hw:=wgT rfl e1a)
     refine sb (IL rfl rfl) ?_ (hw:=wgT rfl e1a)
     intro z0b hz0b
     refine nrm ?_
     refine sV (AB (evb rfl e1a) rfl) ?_ (hw:=wgT rfl e0a)
     obtain rfl:z0b=decide (x0.Exp≤3000):=bz hz0b
     obtain rfl:=sj f8d
     exact HJ105 _ _ ⟨(.pointer (some ⟨b5,2,none⟩)),(.int .i64 x0.Exp),(.bool (decide (x0.Exp≤3000))),rfl,(by simp only [S0,S1]<;>rfl)⟩
    ·have p9d:=zN hz3a e1a
     have f0e:=ifN p9d h9c
     refine sP ?_ (hw:=wgF rfl e1a)
     refine sP ?_ (hw:=wgF rfl e1a)
     refine sP ?_ (hw:=wgF rfl e1a)
     refine sV (AF (evb rfl e1a) rfl) ?_ (hw:=wgT rfl e0a)
     obtain rfl:=sj f0e
     exact HJ105 _ _ ⟨uu,uu,uu,rfl,(by simp only [S0,S1]<;>rfl)⟩
   ·rintro l' _ ⟨t7a,t8a,t9a,rfl,hq'⟩ l'' hl
    rw [hq'] at hl
    clear hq'
    simp only [S0,S1] at hl
    subst hl
    refine sV (Aa rfl) ?_ (hw:=wgT rfl e0a)
    obtain ⟨m0d,h1d,f1e⟩:=Ab f6d
    refine Ca 19 (fun l l' w'=>∃(t1b:Value) (t2b:Value) (t3b:Value),UpdS [] w1 w'∧l'=((((l.set 18 t1b).set 19 t2b).set 20 t3b).set 21 (.bool m0d))) ?_ ?_
    ·intro HJ130
     rcases bft m5a with e2a | e2a
     ·have p2e:=e2a
      have f3e:=ifP p2e h1d
      refine sP ?_ (hw:=wgF rfl e2a)
      refine sP ?_ (hw:=wgF rfl e2a)
      refine sP ?_ (hw:=wgF rfl e2a)
      refine sV (AB (evb rfl e2a) rfl) ?_ (hw:=wgT rfl e0a)
      obtain rfl:=sj f3e
      exact HJ130 _ _ ⟨uu,uu,uu,(UpdS.refl _ _),(by simp only [S0,S1]<;>rfl)⟩
     ·have p4e:=bF e2a
      have f5e:=ifN p4e h1d
      refine sV (Am Bk rfl q8 rfl) ?_ (hw:=wgT rfl e2a)
      obtain ⟨r6a,h6e,f7e⟩:=Ab f5e
      refine sc (Ae en_45 (by rfl)) (c_sorobanref04_Valid x0 A1 c2 w1 (tbx E6 hT) (n3.ext E6) r6a h6e) ?_ (hw:=wgT rfl e2a)
      rintro _ w2 E8e rfl
      refine nrm ?_
      refine sb (ER rfl) ?_ (hw:=wgT rfl e2a)
      intro z4b hz4b
      refine nrm ?_
      refine sV (AF (evb rfl e2a) rfl) ?_ (hw:=wgT rfl e0a)
      obtain rfl:z4b=decide (¬(r6a=true)):=bz hz4b
      obtain rfl:=sj f7e
      exact HJ130 _ _ ⟨(.agg #[.bool x0.Man.Neg,.slice A1 x0.Man.Abs.length c2,.int .i64 x0.Exp]),(.bool r6a),(.bool (decide (¬(r6a=true)))),((UpdS.refl _ _).ext E8e),(by simp only [S0,S1]<;>rfl)⟩
    ·rintro l' w2 ⟨t1b,t2b,t3b,U9e,hq'⟩ l'' hl
     rw [hq'] at hl
     clear hq'
     simp only [S0,S1] at hl
     subst hl
     refine sV (AB (evb rfl e0a) rfl) ?_
     obtain rfl:=sj f1e
     exact HJ85 _ _ ⟨(.pointer (some ⟨b5,2,none⟩)),(.int .i64 x0.Exp),(.bool z3a),(.bool z3a),t7a,t8a,t9a,(.bool m5a),(.bool m5a),t1b,t2b,t3b,(.bool m0d),((UpdS.refl _ _).updS U9e al0),(by simp only [S0,S1]<;>rfl)⟩
  ·have p0f:=zN hz4a e0a
   have f1f:=ifN p0f h5b
   refine sP ?_ (hw:=wgF rfl e0a)
   refine sP ?_ (hw:=wgF rfl e0a)
   refine sP ?_ (hw:=wgF rfl e0a)
   refine sP ?_ (hw:=wgF rfl e0a)
   refine sP ?_
   refine sP ?_
   refine sP ?_
   refine sP ?_ (hw:=wgF rfl e0a)
   refine sP ?_ (hw:=wgF rfl e0a)
   refine sP ?_
   refine sP ?_
   refine sP ?_
   refine sP ?_ (hw:=wgF rfl e0a)
   refine sV (AF (evb rfl e0a) rfl) ?_
   obtain rfl:=sj f1f
   exact HJ85 _ _ ⟨uu,uu,uu,uu,uu,uu,uu,uu,uu,uu,uu,uu,uu,(UpdS.refl _ _),(by simp only [S0,S1]<;>rfl)⟩
 ·rintro l' w2 ⟨t6b,t7b,t8b,t9b,t0c,t1c,t2c,t3c,t4c,t5c,t6c,t7c,t8c,U2f,hq'⟩ l'' hl
  rw [hq'] at hl
  clear hq'
  simp only [S0,S1] at hl
  subst hl
  have X3f:=JN E6 U2f (E6).size al0
  refine sV (Ac rfl) ?_
  refine Ad<|h9 _ _<|wp_ret ?_
  obtain rfl:=sj f3d
  exact fin rfl (Res.tmp rfl Res.nil) (Ak X3f rfl)
end Go.Proofs

