import Derived.Test.YtabiobmfelafoaaGreatDoorGen3
namespace Go.Proofs
set_option linter.unusedVariables false
set_option linter.unusedSimpArgs false
set_option maxHeartbeats 4000000
open Go.RowKit Go.Sb Go.Proofs.Sbn
theorem GK (x0:Al) (A1:Option Addr) (c2:Nat) (w:World) (hT:TB w) (n3:RLu w A1 c2 x0.Man.Abs) (r:Ae × Int) (hr:DM x0=some r) :
  Calls Tryz.prog 51 #[.agg #[.bool x0.Man.Neg,.slice A1 (List.length x0.Man.Abs) c2,.int .i64 x0.Exp]] w (Ret GJ w r):=by
 unfold DM at hr
 obtain ⟨q0,hq0,hr0⟩:=Ab hr
 unfold Ip at hq0
 go_enter_defers Tryz.func51,Tryz.ntmps51
 refine wp_seq_k fun K4 h4=>Aj<|BP rfl rfl fun b5 w1 E6 g7 q8=>?_
 refine nrm ?_
 refine AB AV fun b9 w2 E10 g11 q12=>?_
 refine nrm ?_
 have g13:=Nat.le_trans E6.size g11
 have X14:=Ext.trans E6 E10
 refine AB IU fun b15 w3 E16 g17 q18=>?_
 refine nrm ?_
 have g19:=Nat.le_trans X14.size g17
 have X20:=Ext.trans X14 E16
 refine Ad<|h4 _ _<|wp_seq_k fun K21 h21=>Aj<|HQ (vs:=[.pointer (some ⟨b9,0,none⟩),.pointer (some ⟨b15,0,none⟩)]) (by rfl) (by rfl)<|Ad<|h21 _ _<|wp_seq_k fun K22 h22=>Aj<|sV (Ai Ay rfl ((q8.ext E10).ext E16) rfl) ?_
 refine Ei (vals:=[(0,.agg #[.bool x0.Man.Neg,.slice A1 (List.length x0.Man.Abs) c2,.int .i64 x0.Exp])]) (cs:=[.bool x0.Man.Neg,.slice A1 (List.length x0.Man.Abs) c2,.int .i64 x0.Exp]) Gt AC AV (by rfl) (by decide) (by kernel_rfl) fun b23 w4 E24 g25 q26=>?_
 refine nrm ?_
 have g27:=Nat.le_trans X20.size g25
 have X28:=Ext.trans X20 E24
 rcases BA hq0 with ⟨r29,h30,f31⟩ | ⟨r29,h30,rfl⟩
 ·refine scO (Af Hf (by rfl)) (EF x0 b23 A1 c2 w4 (TB.ext X28 hT) (n3.ext X28) q26 (.ok r29) h30) ?_
  rintro _ w5 E32 rfl
  refine nrm ?_
  have X35:=Ext.trans X28 E32
  refine Ad<|h22 _ _<|wp_seq_k fun K36 h36=>Aj<|have q37:=(((q8.ext E10).ext E16).ext E24).ext E32;sV (Ai Ay rfl q37 rfl) ?_
  obtain ⟨m38,h39,f40⟩:=Ab f31
  have hx41:=Cc h39
  have n42:RU w5 A1 c2 m38:=by unfold RU;rw [hx41];exact (n3.ext X35)
  obtain ⟨r43,h44,f45⟩:=Ab f40
  refine sc (Af Ci (by simp only [sz,hx41];rfl)) (Ba (⟨(⟨x0.Man.Neg,m38⟩:Ah),x0.Exp⟩:Ae) A1 c2 w5 (TB.ext X35 hT) n42 r43 h44) ?_
  rintro _ w6 E46 ⟨A47,c48,rfl,n49⟩
  refine nrm ?_
  have X50:=Ext.trans X35 E46
  obtain ⟨r51,h52,f53⟩:=Ab f45
  refine sc (Af Lu (by rfl)) (GM r43 A47 c48 w6 (TB.ext X50 hT) n49 r51 h52) ?_
  rintro _ w7 E54 ⟨A55,c56,rfl,n57⟩
  refine nrm ?_
  have X58:=Ext.trans X50 E54
  rcases BA f53 with ⟨r59,h60,f61⟩ | ⟨r59,h60,rfl⟩
  ·refine scO (Af Gv (by rfl)) (BW r51 A55 c56 w7 (TB.ext X58 hT) n57 (.ok r59) h60) ?_
   rintro _ w8 E62 ⟨A66,c67,rfl,n68⟩
   refine nrm ?_
   have X69:=Ext.trans X58 E62
   have q70:=(((((q12.ext E16).ext E24).ext E32).ext E46).ext E54).ext E62
   refine AE AC rfl rfl q70 rfl rfl rfl rfl (by simp only [SP0,SP1,S0,S1,Nat.reduceAdd];rfl) fun w9 U71 q72=>?_
   have X73:=belU X69 U71 g13
   have ne74:=(Bx.neT (((((q18.ext E24).ext E32).ext E46).ext E54).ext E62) q70 (by decide))
   have q75:=(((((q18.ext E24).ext E32).ext E46).ext E54).ext E62).upd U71 ne74
   refine AE HI rfl rfl q75 rfl rfl rfl rfl (by simp only [SP0,SP1,S0,S1,Nat.reduceAdd];rfl) fun w10 U76 q77=>?_
   have X78:=belU X73 U76 g19
   refine Ad<|h36 _ _<|wp_ret ?_
   have n79:=(n68.upd U71 q70 (by decide)).upd U76 q75 (by decide)
   obtain rfl:=Option.some.inj f61
   obtain rfl:=Option.some.inj hr0
   exact Kg CY EV rfl (Res.cellN rfl Ay (q72.upd U76 (Ne.symm ne74)) rfl rfl (Res.cell1 rfl Dg (Bx.cell q77 rfl) Res.nil)) (Ap X78 ⟨A66,c67,rfl,n79⟩)
  ·refine scP (Af Gv (by rfl)) (BW r51 A55 c56 w7 (TB.ext X58 hT) n57 (.error r59) h60) fun w8 E62=>?_
   have X63:=Ext.trans X58 E62
   have q64:=(((((q12.ext E16).ext E24).ext E32).ext E46).ext E54).ext E62
   have q65:=((((q18.ext E24).ext E32).ext E46).ext E54).ext E62
   refine Hc EV (Bk b9 b15 (.bool false:Value) (.slice none 0 0:Value) (.int .i64 0:Value) (.int .i64 0:Value) r59 q64 q65) rfl ?_
   rintro w9 ⟨u9,q9,q9'⟩
   obtain rfl:=Option.some.inj hr0
   exact ⟨_,(Res.cellN rfl Ay q9 rfl rfl (Res.cell1 rfl Dg (Bx.cell q9' rfl) Res.nil)),Ap (u9.toExt X63 g13 g19) ⟨none,0,rfl,RU.nil _⟩⟩
 ·refine scP (Af Hf (by rfl)) (EF x0 b23 A1 c2 w4 (TB.ext X28 hT) (n3.ext X28) q26 (.error r29) h30) fun w5 E32=>?_
  have X33:=Ext.trans X28 E32
  have q34:=((q12.ext E16).ext E24).ext E32
  refine Hc EV (Bk b9 b15 (.bool false:Value) (.slice none 0 0:Value) (.int .i64 0:Value) (.int .i64 0:Value) r29 q34 ((q18.ext E24).ext E32)) rfl ?_
  rintro w9 ⟨u9,q9,q9'⟩
  obtain rfl:=Option.some.inj hr0
  exact ⟨_,(Res.cellN rfl Ay q9 rfl rfl (Res.cell1 rfl Dg (Bx.cell q9' rfl) Res.nil)),Ap (u9.toExt X33 g13 g19) ⟨none,0,rfl,RU.nil _⟩⟩
theorem c_sorobanlaw04_valid__2 (x0_0:Al) (x0_1:Al) (bp0:Nat) (A1:Option Addr) (c2:Nat) (A4:Option Addr) (c5:Nat) (w:World) (hT:TB w) (n3:RLu w A1 c2 x0_0.Man.Abs) (n6:RLu w A4 c5 x0_1.Man.Abs) (q7:Bx w bp0 27 [.bool x0_0.Man.Neg,.slice A1 (List.length x0_0.Man.Abs) c2,.int .i64 x0_0.Exp,.bool x0_1.Man.Neg,.slice A4 (List.length x0_1.Man.Abs) c5,.int .i64 x0_1.Exp]) (r:Bool) (hr:Dq x0_0 x0_1=some r) :
  Calls Tryz.prog 33 #[.slice (some ⟨bp0,0,none⟩) 2 2] w (Ret Fe w r):=by
 unfold Dq at hr
 go_enter Tryz.func33,Tryz.ntmps33
 refine wp_seq_k fun K8 h8=>Aj<|sV (Ac rfl) ?_
 refine Ad<|h8 _ _<|wp_seq_k fun K9 h9=>wp_seq_k fun K10 h10=>Aj<|sV (Ac rfl) ?_
 refine Ad<|h10 _ _ ?_
 apply wp_block
 refine Gk<|Bv<|wp_seq_k fun K11 h11=>wp_seq_k fun K12 h12=>Aj<|sV (Aa rfl) ?_
 refine sV (Aa rfl) ?_
 refine sV (Bh Gt rfl) ?_
 refine sV (FW (v:=.bool true) (DB rfl rfl) (by rfl)) ?_
 refine Ad<|h12 _ _<|wp_cond_true (An (evb rfl rfl))<|wp_skip<|h11 _ _<|wp_seq_k fun K13 h13=>?_
 apply wp_block
 refine wp_seq_k fun K14 h14=>Aj<|sV (Aa rfl) ?_
 refine sV (Aa rfl) ?_
 refine sV (GC (o':=0) Gt AC rfl rfl (by decide) (by decide) (by decide)) ?_
 refine sV (AO Ay rfl q7 (by simp only [List.drop_zero,List.take_succ_cons,List.take_zero];rfl) rfl) ?_
 obtain ⟨r15,h16,f17⟩:=Ab hr
 refine sc (Af Ns (by rfl)) (GU x0_0 A1 c2 w hT n3 r15 h16) ?_
 rintro _ w1 E18 rfl
 refine nrm ?_
 refine sb (BE rfl) fun z19 hz19=>?_
 refine nrm ?_
 refine sV (Aa rfl) ?_
 obtain ⟨m31,h32,f33⟩:=Ab f17
 refine AR 14 (fun l l' w'=>∃(t35:Value) (t36:Value) (t37:Value) (t38:Value) (t39:Value) (t40:Value),UpdS [] w1 w'∧l'=(((((((l.set 17 t35).set 18 t36).set 19 t37).set 20 t38).set 21 t39).set 22 t40).set 23 (.bool m31))) ?_ ?_
 ·intro HJ41
  rcases Bool.eq_false_or_eq_true z19 with e42 | e42
  ·have p45:=zP hz19 e42
   have f46:=ifP p45 h32
   refine sP ?_ (hw:=wgF rfl e42)
   refine sP ?_ (hw:=wgF rfl e42)
   refine sP ?_ (hw:=wgF rfl e42)
   refine sP ?_ (hw:=wgF rfl e42)
   refine sP ?_ (hw:=wgF rfl e42)
   refine sP ?_ (hw:=wgF rfl e42)
   refine sV (Av (evb rfl e42) rfl) ?_
   obtain rfl:=Option.some.inj f46
   exact HJ41 _ _ ⟨undef,undef,undef,undef,undef,undef,(UpdS.refl _ _),(by simp only [S0,S1]<;>rfl)⟩
  ·have p43:=zN hz19 e42
   have f44:=ifN p43 h32
   refine sV (Aa rfl) ?_ (hw:=wgT rfl e42)
   refine sV (Aa rfl) ?_ (hw:=wgT rfl e42)
   refine sV (GC (o':=0) Gt AC rfl rfl (by decide) (by decide) (by decide)) ?_ (hw:=wgT rfl e42)
   refine sV (AO Ay rfl (q7.ext E18) (by simp only [List.drop_zero,List.take_succ_cons,List.take_zero];rfl) rfl) ?_ (hw:=wgT rfl e42)
   obtain ⟨r47,h48,f49⟩:=Ab f44
   refine sc (Af Kn (by rfl)) (Fm x0_0 A1 c2 w1 (TB.ext E18 hT) (n3.ext E18) r47 h48) ?_ (hw:=wgT rfl e42)
   rintro _ w2 E50 rfl
   refine nrm ?_
   refine sb (BE rfl) ?_ (hw:=wgT rfl e42)
   intro z52 hz52
   refine nrm ?_
   refine sV (Ax (evb rfl e42) rfl) ?_
   obtain rfl:z52=decide (¬(r47=true)):=bz hz52
   obtain rfl:=Option.some.inj f49
   exact HJ41 _ _ ⟨(.slice (some ⟨bp0,0,none⟩) 2 2),(.int .i64 0),(.pointer (some ⟨bp0,0,none⟩)),(.agg #[.bool x0_0.Man.Neg,.slice A1 (List.length x0_0.Man.Abs) c2,.int .i64 x0_0.Exp]),(.bool r47),(.bool (decide (¬(r47=true)))),((UpdS.refl _ _).ext E50),(by simp only [S0,S1]<;>rfl)⟩
 ·rintro l' w2 ⟨t35,t36,t37,t38,t39,t40,U34,hq'⟩ l'' hl
  rw [hq'] at hl
  clear hq'
  simp only [S0,S1] at hl
  subst hl
  have X53:=Ez E18 U34 (E18).size al0
  refine Ad<|h14 _ _ ?_
  rcases Bool.eq_false_or_eq_true m31 with e60 | e60
  ·have p63:=e60
   have f64:=ifP p63 f33
   refine wp_cond_true (An (evb rfl e60))<|wp_seq_k fun K126 h126=>Aj<|sV (Ac rfl) ?_
   refine Ad<|h126 _ _<|wp_ret ?_
   obtain rfl:=Option.some.inj f64
   exact fin rfl (Res.tmp rfl Res.nil) (Ap X53 rfl)
  ·have p61:=bF e60
   have f62:=ifN p61 f33
   refine wp_cond_false (An (evb rfl e60))<|wp_skip<|h13 _ _<|Aj<|sV (Aa rfl) ?_
   refine sV (BB (c:=1) rfl rfl (by decide)) ?_
   refine sV (Ac rfl) ?_
   refine Ad<|Bv<|wp_seq_k fun K65 h65=>wp_seq_k fun K66 h66=>Aj<|sV (Aa rfl) ?_
   refine sV (Aa rfl) ?_
   refine sV (Bh Gt rfl) ?_
   refine sV (FW (v:=.bool true) (DB rfl rfl) (by rfl)) ?_
   refine Ad<|h66 _ _<|wp_cond_true (An (evb rfl rfl))<|wp_skip<|h65 _ _<|wp_seq_k fun K67 h67=>?_
   apply wp_block
   refine wp_seq_k fun K68 h68=>Aj<|sV (Aa rfl) ?_
   refine sV (Aa rfl) ?_
   refine sV (GC (o':=3) Gt AC rfl rfl (by decide) (by decide) (by decide)) ?_
   refine sV (AO Ay rfl ((q7.ext E18).updS U34 nm0) (by simp only [List.drop_succ_cons,List.drop_zero,List.take_succ_cons,List.take_zero];rfl) rfl) ?_
   obtain ⟨r69,h70,f71⟩:=Ab f62
   refine sc (Af Ns (by rfl)) (GU x0_1 A4 c5 w2 (TB.ext X53 hT) (n6.ext X53) r69 h70) ?_
   rintro _ w3 E72 rfl
   refine nrm ?_
   have X73:=Ext.trans X53 E72
   refine sb (BE rfl) fun z74 hz74=>?_
   refine nrm ?_
   refine sV (Aa rfl) ?_
   obtain ⟨m87,h88,f89⟩:=Ab f71
   refine AR 14 (fun l l' w'=>∃(t91:Value) (t92:Value) (t93:Value) (t94:Value) (t95:Value) (t96:Value),UpdS [] w3 w'∧l'=(((((((l.set 17 t91).set 18 t92).set 19 t93).set 20 t94).set 21 t95).set 22 t96).set 23 (.bool m87))) ?_ ?_
   ·intro HJ97
    rcases Bool.eq_false_or_eq_true z74 with e98 | e98
    ·have p101:=zP hz74 e98
     have f102:=ifP p101 h88
     refine sP ?_ (hw:=wgF rfl e98)
     refine sP ?_ (hw:=wgF rfl e98)
     refine sP ?_ (hw:=wgF rfl e98)
     refine sP ?_ (hw:=wgF rfl e98)
     refine sP ?_ (hw:=wgF rfl e98)
     refine sP ?_ (hw:=wgF rfl e98)
     refine sV (Av (evb rfl e98) rfl) ?_
     obtain rfl:=Option.some.inj f102
     exact HJ97 _ _ ⟨undef,undef,undef,undef,undef,undef,(UpdS.refl _ _),(by simp only [S0,S1]<;>rfl)⟩
    ·have p99:=zN hz74 e98
     have f100:=ifN p99 h88
     refine sV (Aa rfl) ?_ (hw:=wgT rfl e98)
     refine sV (Aa rfl) ?_ (hw:=wgT rfl e98)
     refine sV (GC (o':=3) Gt AC rfl rfl (by decide) (by decide) (by decide)) ?_ (hw:=wgT rfl e98)
     have q103:=((q7.ext E18).updS U34 nm0).ext E72
     refine sV (AO Ay rfl q103 (by simp only [List.drop_succ_cons,List.drop_zero,List.take_succ_cons,List.take_zero];rfl) rfl) ?_ (hw:=wgT rfl e98)
     obtain ⟨r104,h105,f106⟩:=Ab f100
     refine sc (Af Kn (by rfl)) (Fm x0_1 A4 c5 w3 (TB.ext X73 hT) (n6.ext X73) r104 h105) ?_ (hw:=wgT rfl e98)
     rintro _ w4 E107 rfl
     refine nrm ?_
     refine sb (BE rfl) ?_ (hw:=wgT rfl e98)
     intro z109 hz109
     refine nrm ?_
     refine sV (Ax (evb rfl e98) rfl) ?_
     obtain rfl:z109=decide (¬(r104=true)):=bz hz109
     obtain rfl:=Option.some.inj f106
     exact HJ97 _ _ ⟨(.slice (some ⟨bp0,0,none⟩) 2 2),(.int .i64 1),(.pointer (some ⟨bp0,3,none⟩)),(.agg #[.bool x0_1.Man.Neg,.slice A4 (List.length x0_1.Man.Abs) c5,.int .i64 x0_1.Exp]),(.bool r104),(.bool (decide (¬(r104=true)))),((UpdS.refl _ _).ext E107),(by simp only [S0,S1]<;>rfl)⟩
   ·rintro l' w4 ⟨t91,t92,t93,t94,t95,t96,U90,hq'⟩ l'' hl
    rw [hq'] at hl
    clear hq'
    simp only [S0,S1] at hl
    subst hl
    have X110:=Ez X73 U90 (X73).size al0
    refine Ad<|h68 _ _ ?_
    rcases Bool.eq_false_or_eq_true m87 with e117 | e117
    ·have p120:=e117
     have f121:=ifP p120 f89
     refine wp_cond_true (An (evb rfl e117))<|wp_seq_k fun K125 h125=>Aj<|sV (Ac rfl) ?_
     refine Ad<|h125 _ _<|wp_ret ?_
     obtain rfl:=Option.some.inj f121
     exact fin rfl (Res.tmp rfl Res.nil) (Ap X110 rfl)
    ·have p118:=bF e117
     have f119:=ifN p118 f89
     refine wp_cond_false (An (evb rfl e117))<|wp_skip<|h67 _ _<|Aj<|sV (Aa rfl) ?_
     refine sV (BB (c:=2) rfl rfl (by decide)) ?_
     refine sV (Ac rfl) ?_
     refine Ad<|Bv<|wp_seq_k fun K122 h122=>wp_seq_k fun K123 h123=>Aj<|sV (Aa rfl) ?_
     refine sV (Aa rfl) ?_
     refine sV (Bh Gt rfl) ?_
     refine sV (FW (v:=.bool false) (DB rfl rfl) (by rfl)) ?_
     refine Ad<|h123 _ _<|wp_cond_false (An (evb rfl rfl))<|wp_exit ?_
     simp only [Exit.then,Exit.inBlock,↓reduceIte,Nat.reduceEqDiff]
     refine h9 _ _<|wp_seq_k fun K124 h124=>Aj<|sV (Ac rfl) ?_
     refine Ad<|h124 _ _<|wp_ret ?_
     obtain rfl:=Option.some.inj f119
     exact fin rfl (Res.tmp rfl Res.nil) (Ap X110 rfl)
theorem Ar (x0:Ae) (x1:Int) (x2:Int) (A1:Option Addr) (c2:Nat) (w:World) (hT:TB w) (n3:RU w A1 c2 x0.Man.Abs) (r:Ae × Bool) (hr:As x0 x1 x2=some r) :
  Calls Tryz.prog 34 #[.agg #[.bool x0.Man.Neg,.slice A1 (sz x0.Man.Abs) c2,.int .i64 x0.Exp],.int .i64 x1,.int .i64 x2] w (Ret rep_27_4 w r):=by
 unfold As at hr
 go_enter Tryz.func34,Tryz.ntmps34
 refine wp_seq_k fun K4 h4=>Aj<|BP rfl rfl fun b5 w1 E6 g7 q8=>?_
 refine nrm ?_
 refine AB AV fun b9 w2 E10 g11 q12=>?_
 refine nrm ?_
 have g13:=Nat.le_trans E6.size g11
 have X14:=Ext.trans E6 E10
 refine sV (Ac rfl) ?_
 refine Ad<|h4 _ _<|wp_seq_k fun K15 h15=>Aj<|sV (Ai Ay rfl (q8.ext E10) rfl) ?_
 refine sV (Aa rfl) ?_
 refine sV (Aa rfl) ?_
 obtain ⟨r16,h17,f18⟩:=Ab hr
 refine sc (Af Ml (by rfl)) (HZ (⟨(⟨x0.Man.Neg,(limbs x0.Man.Abs)⟩:AD),x0.Exp⟩:Al) x1 x2 A1 c2 w2 (TB.ext X14 hT) (n3.ext X14) r16 h17) ?_
 rintro _ w3 E19 ⟨A20,c21,rfl,n22⟩
 refine nrm ?_
 have X23:=Ext.trans X14 E19
 refine sV (Aa rfl) ?_
 refine sV (Ag rfl rfl) ?_
 refine sV (Ag rfl rfl) ?_
 refine AB AV fun b24 w4 E25 g26 q27=>?_
 refine nrm ?_
 have g28:=Nat.le_trans X23.size g26
 refine AE AC rfl rfl q27 rfl rfl rfl rfl (by simp only [SP0,SP1,S0,S1,Nat.reduceAdd];rfl) fun w5 U30 q31=>?_
 have F33:=belU E25 U30 g26
 have X32:=Ext.trans X23 F33
 refine sV (Ac rfl) ?_
 refine Ad<|h15 _ _<|wp_seq_k fun K34 h34=>Aj<|sV (Ai Ay rfl q31 rfl) ?_
 refine sV (Aa rfl) ?_
 refine sb (CS rfl rfl) fun z35 hz35=>?_
 refine nrm ?_
 refine AE AC rfl rfl ((q12.ext E19).ext F33) rfl rfl rfl rfl (by simp only [SP0,SP1,S0,S1,Nat.reduceAdd];rfl) fun w6 U36 q37=>?_
 have X38:=belU X32 U36 g13
 refine sV (Ac rfl) ?_
 refine Ad<|h34 _ _<|wp_ret ?_
 obtain rfl:z35=decide (r16.2=0):=bz hz35
 have n39:=(n22.ext F33).upd U36 ((q12.ext E19).ext F33) (by decide)
 obtain rfl:=Option.some.inj f18
 exact fin rfl (Res.cellN rfl Ay q37 rfl rfl (Res.tmp rfl Res.nil)) (Ap X38 ⟨A20,c21,rfl,n39⟩)
theorem GF (b b':Nat) (v0:Value) (u:Value) (n:Int) {w:World} (qa:Bx w b 3 [v0]) (qb:Bx w b' 33 [u]) :
  CallsD Tryz.prog 119 #[.pointer (some ⟨b,0,none⟩),.pointer (some ⟨b',0,none⟩)] (.panicking [entry 201 n]) w fun e u' w'=>e = .returned (.tuple #[])∧u' = .panicking [{ entry 201 n with recovered:=true }]∧(Upd2 b b' w w'∧Bx w' b 3 [.int .i64 0]∧Bx w' b' 33 [.int .i64 n]):=by
 refine JC Tryz.func119 rfl [.pointer (some ⟨b,0,none⟩),.pointer (some ⟨b',0,none⟩),undef,undef,undef,undef,undef,undef,undef,undef,undef,undef,undef,undef,undef,undef,undef,undef,undef,undef,undef,undef,undef,undef,undef,undef] (by simp [Tryz.ntmps119]) fun c₀ cs hu=>?_
 apply wpS_seq
 refine NH hu rfl ?_
 simp only [S0,S1]
 refine wpS_of_wp<|wp_seq_k fun K1 h1=>Aj<|sV (Aa rfl) ?_
 refine sV (Kk KC rfl) ?_
 refine Ad<|h1 _ _<|wp_cond_true (An (evb rfl rfl))<|wp_seq_k fun K2 h2=>Aj<|sV (Aa rfl) ?_
 refine sV (JA KW rfl) ?_
 refine sV (Aa rfl) ?_
 refine sV (Ag rfl rfl) ?_
 refine sV (Ag rfl rfl) ?_
 refine AB Lw fun b3 w1 E4 g5 q6=>?_
 refine nrm ?_
 have X7:=(Upd2.refl b b' w).ext E4
 refine AE Lk rfl rfl q6 rfl rfl rfl rfl (by simp only [SP0,SP1,S0,S1,Nat.reduceAdd];rfl) fun w2 U8 q9=>?_
 have X10:=X7.upd U8 (.inl g5)
 refine sV (Ac rfl) ?_
 refine Ad<|h2 _ _<|wp_seq_k fun K11 h11=>wp_seq_k fun K12 h12=>Aj<|sV (Aa rfl) ?_
 refine sV (Lv rfl rfl rfl) ?_
 refine Ad<|h12 _ _<|wp_cond_false (An (evb rfl rfl))<|wp_skip<|h11 _ _<|wp_seq_k fun K13 h13=>Aj<|sV (Ac rfl) ?_
 refine Ad<|h13 _ _<|DR [6,8] 9 mo rfl fun w3 E14 S15=>have X16:=X10.ext E14;dA 0 rfl (fun _=>Aa rfl) ?_
 refine dA 1 rfl (fun _=>Aa rfl) ?_
 refine dA 2 rfl (fun _=>Aa rfl) ?_
 refine dA 3 rfl (fun _=>Ak (o':=0) Kf rfl rfl) ?_
 refine dA 5 rfl (fun _=>BG rfl) ?_
 refine Ie #[true,true,true,true,true,true,true,false,false] 2 (fun l l' w'=>UpdS [b] w3 w'∧Bx w' b 3 [.int .i64 0]∧l'=(l.set 23 (.int .i64 n))) ?_ ?_
 ·intro HJ31
  refine AQ 4 6 (by kernel_rfl) ?_ ?_
  ·refine opV 4 rfl (by rfl) (Am Dg rfl (Bx.cell (q9.ext E14) rfl)) (dnrm ?_)
   refine Au 6 (by kernel_rfl) ?_
   ·have F32:=belU E4 U8 g5
    refine opK 6 rfl (by decide) (by rfl) Nr rfl rfl ((qa.ext F32).ext E14) rfl rfl rfl rfl (by simp only [SP0,SP1,S0,S1,Nat.reduceAdd];rfl) fun w4 U33 q34=>?_
    exact AU (by kernel_rfl) (HJ31 _ _ ⟨((UpdS.refl _ _).upd U33 (.inl im0)),q34,(by simp only [S0,S1]<;>rfl)⟩)
  ·have F36:=belU E4 U8 g5
   refine opK 6 rfl (by decide) (by rfl) Nr rfl rfl ((qa.ext F36).ext E14) rfl rfl rfl rfl (by simp only [SP0,SP1,S0,S1,Nat.reduceAdd];rfl) fun w4 U37 q38=>?_
   refine Au 4 (by kernel_rfl) ?_
   ·have ne40:=(Bx.neT (q9.ext E14) ((qa.ext F36).ext E14) (by decide))
    refine opV 4 rfl (by rfl) (Am Dg rfl (Bx.cell ((q9.ext E14).upd U37 ne40) rfl)) (dnrm ?_)
    exact AU (by kernel_rfl) (HJ31 _ _ ⟨((UpdS.refl _ _).upd U37 (.inl im0)),q38,(by simp only [S0,S1]<;>rfl)⟩)
 ·rintro l' w4 ⟨U29,q30,hq'⟩ l'' hl
  rw [hq'] at hl
  clear hq'
  simp only [S0,S1] at hl
  subst hl
  have X41:=X16.updS U29 (alc (.inr (.inl rfl)) al0)
  refine dA 7 rfl (fun _=>BG rfl) ?_
  have F42:=belU E4 U8 g5
  have ne43:=(Bx.neT ((qb.ext F42).ext E14) ((qa.ext F42).ext E14) (by decide))
  have q44:=((qb.ext F42).ext E14).updS U29 (nmc ne43 nm0)
  refine dk 8 rfl (by kernel_rfl) (by decide) (by rfl) HI rfl rfl q44 rfl rfl rfl rfl (by simp only [SP0,SP1,S0,S1,Nat.reduceAdd];rfl) fun w5 U45 q46=>?_
  have X47:=X41.upd U45 (.inr (.inr rfl))
  refine Cx (by kernel_rfl) ?_
  exact NI (by kernel_rfl) ⟨rfl,rfl,X47,(q30.upd U45 (Ne.symm ne43)),q46⟩
theorem Ha:Nn Tryz.prog 119:=by
 intro ar b b' w ha
 subst ha
 refine JC Tryz.func119 rfl [.pointer (some ⟨b,0,none⟩),.pointer (some ⟨b',0,none⟩),undef,undef,undef,undef,undef,undef,undef,undef,undef,undef,undef,undef,undef,undef,undef,undef,undef,undef,undef,undef,undef,undef,undef,undef] (by simp [Tryz.ntmps119]) fun c₀ cs hu=>?_
 apply wpS_seq
 refine NG hu rfl ?_
 simp only [S0,S1]
 refine wpS_of_wp<|wp_seq_k fun K1 h1=>Aj<|sV (Aa rfl) ?_
 refine sV (Jz KC rfl) ?_
 refine Ad<|h1 _ _<|wp_cond_false (An (evb rfl rfl))<|wp_skip ?_
 exact NJ hu (by kernel_rfl) ⟨rfl,rfl,rfl⟩
theorem Kd (x0:Al) (x1:Al) (A1:Option Addr) (c2:Nat) (A4:Option Addr) (c5:Nat) (w:World) (hT:TB w) (n3:RLu w A1 c2 x0.Man.Abs) (n6:RLu w A4 c5 x1.Man.Abs) (r:Int × Int) (hr:FV x0 x1=some r) :
  Calls Tryz.prog 41 #[.agg #[.bool x0.Man.Neg,.slice A1 (List.length x0.Man.Abs) c2,.int .i64 x0.Exp],.agg #[.bool x1.Man.Neg,.slice A4 (List.length x1.Man.Abs) c5,.int .i64 x1.Exp]] w (Ret Li w r):=by
 unfold FV at hr
 obtain ⟨q0,hq0,hr0⟩:=Ab hr
 unfold Iw at hq0
 go_enter_defers Tryz.func41,Tryz.ntmps41
 refine wp_seq_k fun K7 h7=>Aj<|BP rfl rfl fun b8 w1 E9 g10 q11=>?_
 refine nrm ?_
 refine BP rfl rfl fun b12 w2 E13 g14 q15=>?_
 refine nrm ?_
 have g16:=Nat.le_trans E9.size g14
 have X17:=Ext.trans E9 E13
 refine AB zt_3 fun b18 w3 E19 g20 q21=>?_
 refine nrm ?_
 have g22:=Nat.le_trans X17.size g20
 have X23:=Ext.trans X17 E19
 refine AB IU fun b24 w4 E25 g26 q27=>?_
 refine nrm ?_
 have g28:=Nat.le_trans X23.size g26
 have X29:=Ext.trans X23 E25
 refine Ad<|h7 _ _<|wp_seq_k fun K30 h30=>Aj<|HQ (vs:=[.pointer (some ⟨b18,0,none⟩),.pointer (some ⟨b24,0,none⟩)]) (by rfl) (by rfl)<|Ad<|h30 _ _<|wp_seq_k fun K31 h31=>Aj<|have q32:=((q11.ext E13).ext E19).ext E25;sV (Ai Ay rfl q32 rfl) ?_
 refine sV (Ai Ay rfl ((q15.ext E19).ext E25) rfl) ?_
 refine Ei (vals:=[(0,.agg #[.bool x0.Man.Neg,.slice A1 (List.length x0.Man.Abs) c2,.int .i64 x0.Exp]),(1,.agg #[.bool x1.Man.Neg,.slice A4 (List.length x1.Man.Abs) c5,.int .i64 x1.Exp])]) (cs:=[.bool x0.Man.Neg,.slice A1 (List.length x0.Man.Abs) c2,.int .i64 x0.Exp,.bool x1.Man.Neg,.slice A4 (List.length x1.Man.Abs) c5,.int .i64 x1.Exp]) Gt AC AV (by rfl) (by decide) (by kernel_rfl) fun b33 w5 E34 g35 q36=>?_
 refine nrm ?_
 have g37:=Nat.le_trans X29.size g35
 have X38:=Ext.trans X29 E34
 rcases BA hq0 with ⟨r39,h40,f41⟩ | ⟨r39,h40,rfl⟩
 ·refine scO (Af Hf (by rfl)) (EB x0 x1 b33 A1 c2 A4 c5 w5 (TB.ext X38 hT) (n3.ext X38) (n6.ext X38) q36 (.ok r39) h40) ?_
  rintro _ w6 E42 rfl
  refine nrm ?_
  have X45:=Ext.trans X38 E42
  refine Ad<|h31 _ _<|wp_seq_k fun K46 h46=>DR [5,6] 7 mo rfl fun w7 E47 S48=>?_
  have X49:=Ext.trans X45 E47
  refine dV 0 rfl (fun _ hw=>Ai Ay rfl ((((q32.ext E34).ext E42).ext E47).ext hw) rfl) S48 ?_ (hQ:=fun _ _ _ h=>dq (rs:=[.cell 4 3,.cell 5 33]) rfl (by decide) h)
  refine dV 2 rfl (fun _ hw=>Ai Ay rfl ((((((q15.ext E19).ext E25).ext E34).ext E42).ext E47).ext hw) rfl) S48 ?_ (hQ:=fun _ _ _ h=>dq (rs:=[.cell 4 3,.cell 5 33]) rfl (by decide) h)
  obtain ⟨m50,h51,f52⟩:=Ab f41
  have hx53:=Cc h51
  have n54:RU w7 A1 c2 m50:=by unfold RU;rw [hx53];exact (n3.ext X49)
  obtain ⟨r55,h56,f57⟩:=Ab f52
  refine dc 1 rfl (by kernel_rfl) (by rfl) (Af Ci (by simp only [sz,hx53];rfl)) (Ba (⟨(⟨x0.Man.Neg,m50⟩:Ah),x0.Exp⟩:Ae) A1 c2 w7 (TB.ext X49 hT) n54 r55 h56) ?_
  rintro _ w8 E58 ⟨A59,c60,rfl,n61⟩
  refine dnrm ?_
  have X62:=Ext.trans X49 E58
  have S63:=S48.trans E58
  obtain ⟨m64,h65,f66⟩:=Ab f57
  have hx67:=Cc h65
  have n68:RU w8 A4 c5 m64:=by unfold RU;rw [hx67];exact (n6.ext X62)
  obtain ⟨r69,h70,f71⟩:=Ab f66
  refine dc 3 rfl (by kernel_rfl) (by rfl) (Af Ci (by simp only [sz,hx67];rfl)) (Ba (⟨(⟨x1.Man.Neg,m64⟩:Ah),x1.Exp⟩:Ae) A4 c5 w8 (TB.ext X62 hT) n68 r69 h70) ?_
  rintro _ w9 E72 ⟨A73,c74,rfl,n75⟩
  refine dnrm ?_
  have X76:=Ext.trans X62 E72
  have S77:=S63.trans E72
  obtain ⟨r78,h79,f80⟩:=Ab f71
  refine dc 4 rfl (by kernel_rfl) (by rfl) (Af HS (by rfl)) (De r55 r69 A59 c60 A73 c74 w9 (TB.ext X76 hT) (n61.ext E72) n75 r78 h79) ?_
  rintro _ w10 E81 rfl
  refine dnrm ?_
  have X82:=Ext.trans X76 E81
  have S83:=S77.trans E81
  have q84:=((((((q21.ext E25).ext E34).ext E42).ext E47).ext E58).ext E72).ext E81
  refine dk 5 rfl (by kernel_rfl) (by decide) (by rfl) Nr rfl rfl q84 rfl rfl rfl rfl (by simp only [SP0,SP1,S0,S1,Nat.reduceAdd];rfl) fun w11 U85 q86=>?_
  have X87:=belU X82 U85 g22
  have ne88:=(Bx.neT ((((((q27.ext E34).ext E42).ext E47).ext E58).ext E72).ext E81) q84 (by decide))
  have q89:=((((((q27.ext E34).ext E42).ext E47).ext E58).ext E72).ext E81).upd U85 ne88
  refine dk 6 rfl (by kernel_rfl) (by decide) (by rfl) HI rfl rfl q89 rfl rfl rfl rfl (by simp only [SP0,SP1,S0,S1,Nat.reduceAdd];rfl) fun w12 U90 q91=>?_
  have X92:=belU X87 U90 g28
  refine Cx (by kernel_rfl) ?_
  refine h46 _ _<|wp_ret ?_
  obtain rfl:=Option.some.inj f80
  obtain rfl:=Option.some.inj hr0
  exact Kg Ha JU rfl (Res.cell1 rfl EK (Bx.cell (q86.upd U90 (Ne.symm ne88)) rfl) (Res.cell1 rfl Dg (Bx.cell q91 rfl) Res.nil)) (Ap X92 rfl)
 ·refine scP (Af Hf (by rfl)) (EB x0 x1 b33 A1 c2 A4 c5 w5 (TB.ext X38 hT) (n3.ext X38) (n6.ext X38) q36 (.error r39) h40) fun w6 E42=>?_
  have X43:=Ext.trans X38 E42
  have q44:=((q21.ext E25).ext E34).ext E42
  refine Hc JU (GF b18 b24 (.int .i64 0:Value) (.int .i64 0:Value) r39 q44 ((q27.ext E34).ext E42)) rfl ?_
  rintro w9 ⟨u9,q9,q9'⟩
  obtain rfl:=Option.some.inj hr0
  exact ⟨_,(Res.cell1 rfl EK (Bx.cell q9 rfl) (Res.cell1 rfl Dg (Bx.cell q9' rfl) Res.nil)),Ap (u9.toExt X43 g22 g28) rfl⟩
theorem Cp (x0:Ae) (x1:Ae) (A1:Option Addr) (c2:Nat) (A4:Option Addr) (c5:Nat) (w:World) (hT:TB w) (n3:RU w A1 c2 x0.Man.Abs) (n6:RU w A4 c5 x1.Man.Abs) (r:Bool) (hr:Bj x0 x1=some r) :
  Calls Tryz.prog 35 #[.agg #[.bool x0.Man.Neg,.slice A1 (sz x0.Man.Abs) c2,.int .i64 x0.Exp],.agg #[.bool x1.Man.Neg,.slice A4 (sz x1.Man.Abs) c5,.int .i64 x1.Exp]] w (Ret Fe w r):=by
 unfold Bj at hr
 go_enter Tryz.func35,Tryz.ntmps35
 refine wp_seq_k fun K7 h7=>Aj<|BP rfl rfl fun b8 w1 E9 g10 q11=>?_
 refine nrm ?_
 refine BP rfl rfl fun b12 w2 E13 g14 q15=>?_
 refine nrm ?_
 have g16:=Nat.le_trans E9.size g14
 have X17:=Ext.trans E9 E13
 refine sV (Ac rfl) ?_
 refine Ad<|h7 _ _<|wp_seq_k fun K18 h18=>Aj<|sV (Ai Ay rfl (q11.ext E13) rfl) ?_
 refine sV (Ai Ay rfl q15 rfl) ?_
 obtain ⟨r19,h20,f21⟩:=Ab hr
 refine sc (Af NB (by rfl)) (Kd (⟨(⟨x0.Man.Neg,(limbs x0.Man.Abs)⟩:AD),x0.Exp⟩:Al) (⟨(⟨x1.Man.Neg,(limbs x1.Man.Abs)⟩:AD),x1.Exp⟩:Al) A1 c2 A4 c5 w2 (TB.ext X17 hT) (n3.ext X17) (n6.ext X17) r19 h20) ?_
 rintro _ w3 E22 rfl
 refine nrm ?_
 have X23:=Ext.trans X17 E22
 refine sV (Aa rfl) ?_
 refine sV (Ag rfl rfl) ?_
 refine sV (Ag rfl rfl) ?_
 refine sV (Ac rfl) ?_
 refine sV (Ac rfl) ?_
 refine Ad<|h18 _ _<|wp_seq_k fun K24 h24=>Aj<|sV (Aa rfl) ?_
 refine sb (CS rfl rfl) fun z25 hz25=>?_
 refine nrm ?_
 refine sV (Aa rfl) ?_
 obtain ⟨m32,h33,f34⟩:=Ab f21
 refine AR 6 (fun l l' w'=>∃(t36:Value) (t37:Value),w3=w'∧l'=(((l.set 16 t36).set 17 t37).set 18 (.bool m32))) ?_ ?_
 ·intro HJ38
  rcases Bool.eq_false_or_eq_true z25 with e39 | e39
  ·have p42:=zP hz25 e39
   have f43:=ifP p42 h33
   refine sV (Aa rfl) ?_ (hw:=wgT rfl e39)
   refine sb (EL rfl rfl) ?_ (hw:=wgT rfl e39)
   intro z44 hz44
   refine nrm ?_
   refine sV (Av (evb rfl e39) rfl) ?_
   obtain rfl:z44=decide (r19.1≤0):=bz hz44
   obtain rfl:=Option.some.inj f43
   exact HJ38 _ _ ⟨(.int .i64 r19.1),(.bool (decide (r19.1≤0))),rfl,(by simp only [S0,S1]<;>rfl)⟩
  ·have p40:=zN hz25 e39
   have f41:=ifN p40 h33
   refine sP ?_ (hw:=wgF rfl e39)
   refine sP ?_ (hw:=wgF rfl e39)
   refine sV (Ax (evb rfl e39) rfl) ?_
   obtain rfl:=Option.some.inj f41
   exact HJ38 _ _ ⟨undef,undef,rfl,(by simp only [S0,S1]<;>rfl)⟩
 ·rintro l' _ ⟨t36,t37,rfl,hq'⟩ l'' hl
  rw [hq'] at hl
  clear hq'
  simp only [S0,S1] at hl
  subst hl
  refine sV (Ac rfl) ?_
  refine Ad<|h24 _ _<|wp_ret ?_
  obtain rfl:=Option.some.inj f34
  exact fin rfl (Res.tmp rfl Res.nil) (Ap X23 rfl)
theorem c_dyad_Top (x0:Al) (A1:Option Addr) (c2:Nat) (w:World) (hT:TB w) (n3:RLu w A1 c2 x0.Man.Abs) (r:Int × Int) (hr:Hz x0=some r) :
  Calls Tryz.prog 36 #[.agg #[.bool x0.Man.Neg,.slice A1 (List.length x0.Man.Abs) c2,.int .i64 x0.Exp]] w (Ret Li w r):=by
 unfold Hz at hr
 obtain ⟨q0,hq0,hr0⟩:=Ab hr
 unfold IH at hq0
 go_enter_defers Tryz.func36,Tryz.ntmps36
 refine wp_seq_k fun K4 h4=>Aj<|BP rfl rfl fun b5 w1 E6 g7 q8=>?_
 refine nrm ?_
 refine AB zt_3 fun b9 w2 E10 g11 q12=>?_
 refine nrm ?_
 have g13:=Nat.le_trans E6.size g11
 have X14:=Ext.trans E6 E10
 refine AB IU fun b15 w3 E16 g17 q18=>?_
 refine nrm ?_
 have g19:=Nat.le_trans X14.size g17
 have X20:=Ext.trans X14 E16
 refine Ad<|h4 _ _<|wp_seq_k fun K21 h21=>Aj<|HQ (vs:=[.pointer (some ⟨b9,0,none⟩),.pointer (some ⟨b15,0,none⟩)]) (by rfl) (by rfl)<|Ad<|h21 _ _<|wp_seq_k fun K22 h22=>Aj<|sV (Ai Ay rfl ((q8.ext E10).ext E16) rfl) ?_
 refine Ei (vals:=[(0,.agg #[.bool x0.Man.Neg,.slice A1 (List.length x0.Man.Abs) c2,.int .i64 x0.Exp])]) (cs:=[.bool x0.Man.Neg,.slice A1 (List.length x0.Man.Abs) c2,.int .i64 x0.Exp]) Gt AC AV (by rfl) (by decide) (by kernel_rfl) fun b23 w4 E24 g25 q26=>?_
 refine nrm ?_
 have g27:=Nat.le_trans X20.size g25
 have X28:=Ext.trans X20 E24
 rcases BA hq0 with ⟨r29,h30,f31⟩ | ⟨r29,h30,rfl⟩
 ·refine scO (Af Hf (by rfl)) (EF x0 b23 A1 c2 w4 (TB.ext X28 hT) (n3.ext X28) q26 (.ok r29) h30) ?_
  rintro _ w5 E32 rfl
  refine nrm ?_
  have X35:=Ext.trans X28 E32
  refine Ad<|h22 _ _<|wp_seq_k fun K36 h36=>Aj<|sV (Ak (o':=0) FF rfl rfl) ?_
  refine sV (Ak (o':=1) EJ rfl rfl) ?_
  have q37:=(((q8.ext E10).ext E16).ext E24).ext E32
  refine sV (Am Hd rfl (Bx.cell q37 rfl)) ?_
  refine sV (Bh DJ rfl) ?_
  refine sb (FQ rfl rfl) fun z38 hz38=>?_
  refine nrm ?_
  obtain rfl:z38=decide (0<(List.length x0.Man.Abs:Int)):=bz hz38
  rcases BA f31 with ⟨r39,h40,f41⟩ | ⟨r39,h40,rfl⟩
  ·refine scO (Af DI (by rfl)) (Bf (decide (0<(List.length x0.Man.Abs:Int))) 5 w5 (TB.ext X35 hT)  (.ok r39) h40) ?_
   rintro _ w6 E42 rfl
   refine nrm ?_
   have X46:=Ext.trans X35 E42
   refine Ad<|h36 _ _<|wp_seq_k fun K47 h47=>Aj<|sV (Ai Ay rfl (q37.ext E42) rfl) ?_
   obtain ⟨m48,h49,f50⟩:=Ab f41
   have hx51:=Cc h49
   have n52:RU w6 A1 c2 m48:=by unfold RU;rw [hx51];exact (n3.ext X46)
   obtain ⟨r53,h54,f55⟩:=Ab f50
   refine sc (Af Ci (by simp only [sz,hx51];rfl)) (Ba (⟨(⟨x0.Man.Neg,m48⟩:Ah),x0.Exp⟩:Ae) A1 c2 w6 (TB.ext X46 hT) n52 r53 h54) ?_
   rintro _ w7 E56 ⟨A57,c58,rfl,n59⟩
   refine nrm ?_
   have X60:=Ext.trans X46 E56
   obtain ⟨r61,h62,f63⟩:=Ab f55
   refine sc (Af Kq (by rfl)) (FM r53 A57 c58 w7 (TB.ext X60 hT) n59 r61 h62) ?_
   rintro _ w8 E64 rfl
   refine nrm ?_
   have X65:=Ext.trans X60 E64
   have q66:=(((((q12.ext E16).ext E24).ext E32).ext E42).ext E56).ext E64
   refine AE Nr rfl rfl q66 rfl rfl rfl rfl (by simp only [SP0,SP1,S0,S1,Nat.reduceAdd];rfl) fun w9 U67 q68=>?_
   have X69:=belU X65 U67 g13
   have ne70:=(Bx.neT (((((q18.ext E24).ext E32).ext E42).ext E56).ext E64) q66 (by decide))
   have q71:=(((((q18.ext E24).ext E32).ext E42).ext E56).ext E64).upd U67 ne70
   refine AE HI rfl rfl q71 rfl rfl rfl rfl (by simp only [SP0,SP1,S0,S1,Nat.reduceAdd];rfl) fun w10 U72 q73=>?_
   have X74:=belU X69 U72 g19
   refine Ad<|h47 _ _<|wp_ret ?_
   obtain rfl:=Option.some.inj f63
   obtain rfl:=Option.some.inj hr0
   exact Kg Ha JU rfl (Res.cell1 rfl EK (Bx.cell (q68.upd U72 (Ne.symm ne70)) rfl) (Res.cell1 rfl Dg (Bx.cell q73 rfl) Res.nil)) (Ap X74 rfl)
  ·refine scP (Af DI (by rfl)) (Bf (decide (0<(List.length x0.Man.Abs:Int))) 5 w5 (TB.ext X35 hT)  (.error r39) h40) fun w6 E42=>?_
   have X43:=Ext.trans X35 E42
   have q44:=(((q12.ext E16).ext E24).ext E32).ext E42
   have q45:=((q18.ext E24).ext E32).ext E42
   refine Hc JU (GF b9 b15 (.int .i64 0:Value) (.int .i64 0:Value) r39 q44 q45) rfl ?_
   rintro w9 ⟨u9,q9,q9'⟩
   obtain rfl:=Option.some.inj hr0
   exact ⟨_,(Res.cell1 rfl EK (Bx.cell q9 rfl) (Res.cell1 rfl Dg (Bx.cell q9' rfl) Res.nil)),Ap (u9.toExt X43 g13 g19) rfl⟩
 ·refine scP (Af Hf (by rfl)) (EF x0 b23 A1 c2 w4 (TB.ext X28 hT) (n3.ext X28) q26 (.error r29) h30) fun w5 E32=>?_
  have X33:=Ext.trans X28 E32
  have q34:=((q12.ext E16).ext E24).ext E32
  refine Hc JU (GF b9 b15 (.int .i64 0:Value) (.int .i64 0:Value) r29 q34 ((q18.ext E24).ext E32)) rfl ?_
  rintro w9 ⟨u9,q9,q9'⟩
  obtain rfl:=Option.some.inj hr0
  exact ⟨_,(Res.cell1 rfl EK (Bx.cell q9 rfl) (Res.cell1 rfl Dg (Bx.cell q9' rfl) Res.nil)),Ap (u9.toExt X33 g13 g19) rfl⟩
theorem Gb (x0:Ae) (x1:Ae) (x2:Int) (A1:Option Addr) (c2:Nat) (A4:Option Addr) (c5:Nat) (w:World) (hT:TB w) (n3:RU w A1 c2 x0.Man.Abs) (n6:RU w A4 c5 x1.Man.Abs) (r:Bool) (hr:Ch x0 x1 x2=some r) :
  Calls Tryz.prog 42 #[.agg #[.bool x0.Man.Neg,.slice A1 (sz x0.Man.Abs) c2,.int .i64 x0.Exp],.agg #[.bool x1.Man.Neg,.slice A4 (sz x1.Man.Abs) c5,.int .i64 x1.Exp],.int .i64 x2] w (Ret Fe w r):=by
 unfold Ch at hr
 go_enter Tryz.func42,Tryz.ntmps42
 refine wp_seq_k fun K7 h7=>Aj<|BP rfl rfl fun b8 w1 E9 g10 q11=>?_
 refine nrm ?_
 refine BP rfl rfl fun b12 w2 E13 g14 q15=>?_
 refine nrm ?_
 have g16:=Nat.le_trans E9.size g14
 have X17:=Ext.trans E9 E13
 refine sV (Ac rfl) ?_
 refine Ad<|h7 _ _<|wp_seq_k fun K18 h18=>wp_seq_k fun K19 h19=>Aj<|sV (Ai Ay rfl (q11.ext E13) rfl) ?_
 refine sV (Ai Ay rfl q15 rfl) ?_
 obtain ⟨r20,h21,f22⟩:=Ab hr
 refine sc (Af JE (by rfl)) (Cp x0 x1 A1 c2 A4 c5 w2 (TB.ext X17 hT) (n3.ext X17) (n6.ext X17) r20 h21) ?_
 rintro _ w3 E23 rfl
 refine nrm ?_
 have X24:=Ext.trans X17 E23
 refine sb (BE rfl) fun z25 hz25=>?_
 refine nrm ?_
 refine Ad<|h19 _ _ ?_
 obtain ⟨m38,h39,f40⟩:=Ab f22
 refine Em (fun l l' w'=>∃(t42:Value) (t43:Value) (A44:Option Addr) (c45:Nat) (A48:Option Addr) (c49:Nat),UpdS [b8,b12] w3 w'∧Bx w' b8 27 [.bool m38.1,.slice A44 (sz m38.2.1) c45,.int .i64 m38.2.2.1]∧Bx w' b12 27 [.bool m38.2.2.2.1,.slice A48 (sz m38.2.2.2.2.1) c49,.int .i64 m38.2.2.2.2.2]∧RU w' A44 c45 m38.2.1∧RU w' A48 c49 m38.2.2.2.2.1∧l'=((l.set 16 t42).set 17 t43)) ?_ ?_
 ·rcases Bool.eq_false_or_eq_true z25 with e53 | e53
  ·have p56:=zP hz25 e53
   have f57:=ifP p56 h39
   refine wp_cond_true (An (evb rfl e53))<|Aj<|sV (Ai Ay rfl (q15.ext E23) rfl) ?_
   refine sV (Ai Ay rfl ((q11.ext E13).ext E23) rfl) ?_
   refine AE AC rfl rfl ((q11.ext E13).ext E23) rfl rfl rfl rfl (by simp only [SP0,SP1,S0,S1,Nat.reduceAdd];rfl) fun w4 U58 q59=>?_
   have X60:=belU X24 U58 g10
   have ne61:=(Bx.ne q11 g14).symm
   refine AE AC rfl rfl ((q15.ext E23).upd U58 ne61) rfl rfl rfl rfl (by simp only [SP0,SP1,S0,S1,Nat.reduceAdd];rfl) fun w5 U62 q63=>?_
   have X64:=belU X60 U62 g16
   refine Ad ?_
   obtain rfl:=Option.some.inj f57
   exact ⟨_,rfl,(.agg #[.bool x1.Man.Neg,.slice A4 (sz x1.Man.Abs) c5,.int .i64 x1.Exp]),(.agg #[.bool x0.Man.Neg,.slice A1 (sz x0.Man.Abs) c2,.int .i64 x0.Exp]),A4,c5,A1,c2,(((UpdS.refl _ _).upd U58 (.inl im0)).upd U62 (.inl (imc im0))),(q59.upd U62 (Ne.symm ne61)),q63,(n6.ext X64),(n3.ext X64),(by simp only [S0,S1]<;>rfl)⟩
  ·have p54:=zN hz25 e53
   have f55:=ifN p54 h39
   refine wp_cond_false (An (evb rfl e53))<|wp_skip ?_
   obtain rfl:=Option.some.inj f55
   exact ⟨_,rfl,undef,undef,A1,c2,A4,c5,(UpdS.refl _ _),((q11.ext E13).ext E23),(q15.ext E23),(n3.ext X24),(n6.ext X24),(by simp only [S0,S1]<;>rfl)⟩
 ·rintro l' w4 ⟨t42,t43,A44,c45,A48,c49,U41,q47,q51,n46,n50,hq'⟩ l'' hl
  rw [hq'] at hl
  clear hq'
  simp only [S0,S1] at hl
  subst hl
  have X65:=Ez X24 U41 (X24).size (alc g10 (alc g16 al0))
  refine h18 _ _<|wp_seq_k fun K66 h66=>wp_seq_k fun K67 h67=>Aj<|sV (Ac rfl) ?_
  refine Ad<|h67 _ _ ?_
  apply wp_block
  refine Gk<|Bv<|wp_seq_k fun K68 h68=>wp_seq_k fun K69 h69=>Aj<|sV (Aa rfl) ?_
  refine sV (FW (v:=.bool true) (EL rfl rfl) (by rfl)) ?_
  refine Ad<|h69 _ _<|wp_cond_true (An (evb rfl rfl))<|wp_skip<|h68 _ _<|wp_seq_k fun K70 h70=>?_
  apply wp_block
  refine wp_seq_k fun K71 h71=>Aj<|sV (Ai Ay rfl q47 rfl) ?_
  refine sV (Aa rfl) ?_
  refine sV (Aa rfl) ?_
  obtain ⟨r72,h73,f74⟩:=Ab f40
  refine sc (Af DX (by rfl)) (Ar (⟨(⟨m38.1,m38.2.1⟩:Ah),m38.2.2.1⟩:Ae) x2 1 A44 c45 w4 (TB.ext X65 hT) n46 r72 h73) ?_
  rintro _ w5 E75 ⟨A76,c77,rfl,n78⟩
  refine nrm ?_
  have X79:=Ext.trans X65 E75
  refine sV (Aa rfl) ?_
  refine sV (Ag rfl rfl) ?_
  refine sV (Ag rfl rfl) ?_
  refine AB AV fun b80 w6 E81 g82 q83=>?_
  refine nrm ?_
  have g84:=Nat.le_trans X79.size g82
  refine AE AC rfl rfl q83 rfl rfl rfl rfl (by simp only [SP0,SP1,S0,S1,Nat.reduceAdd];rfl) fun w7 U86 q87=>?_
  have F89:=belU E81 U86 g82
  have X88:=Ext.trans X79 F89
  refine sV (Ac rfl) ?_
  refine Ad<|h71 _ _<|wp_seq_k fun K90 h90=>Aj<|sV (Ai Ay rfl ((q51.ext E75).ext F89) rfl) ?_
  refine sV (Aa rfl) ?_
  refine sV (Aa rfl) ?_
  obtain ⟨r91,h92,f93⟩:=Ab f74
  refine sc (Af DX (by rfl)) (Ar (⟨(⟨m38.2.2.2.1,m38.2.2.2.2.1⟩:Ah),m38.2.2.2.2.2⟩:Ae) x2 1 A48 c49 w7 (TB.ext X88 hT) ((n50.ext E75).ext F89) r91 h92) ?_
  rintro _ w8 E94 ⟨A95,c96,rfl,n97⟩
  refine nrm ?_
  have X98:=Ext.trans X88 E94
  refine sV (Aa rfl) ?_
  refine sV (Ag rfl rfl) ?_
  refine sV (Ag rfl rfl) ?_
  refine AB AV fun b99 w9 E100 g101 q102=>?_
  refine nrm ?_
  have g103:=Nat.le_trans X98.size g101
  refine AE AC rfl rfl q102 rfl rfl rfl rfl (by simp only [SP0,SP1,S0,S1,Nat.reduceAdd];rfl) fun w10 U105 q106=>?_
  have F108:=belU E100 U105 g101
  have X107:=Ext.trans X98 F108
  refine sV (Ac rfl) ?_
  refine Ad<|h90 _ _<|wp_seq_k fun K109 h109=>Aj<|sV (Aa rfl) ?_
  refine sb (BE rfl) fun z110 hz110=>?_
  refine nrm ?_
  refine sV (Aa rfl) ?_
  obtain ⟨m117,h118,f119⟩:=Ab f93
  refine AR 6 (fun l l' w'=>∃(t121:Value) (t122:Value),w10=w'∧l'=(((l.set 39 t121).set 40 t122).set 41 (.bool m117))) ?_ ?_
  ·intro HJ123
   rcases Bool.eq_false_or_eq_true z110 with e124 | e124
   ·have p127:=zP hz110 e124
    have f128:=ifP p127 h118
    refine sP ?_ (hw:=wgF rfl e124)
    refine sP ?_ (hw:=wgF rfl e124)
    refine sV (Av (evb rfl e124) rfl) ?_
    obtain rfl:=Option.some.inj f128
    exact HJ123 _ _ ⟨undef,undef,rfl,(by simp only [S0,S1]<;>rfl)⟩
   ·have p125:=zN hz110 e124
    have f126:=ifN p125 h118
    refine sV (Aa rfl) ?_ (hw:=wgT rfl e124)
    refine sb (BE rfl) ?_ (hw:=wgT rfl e124)
    intro z129 hz129
    refine nrm ?_
    refine sV (Ax (evb rfl e124) rfl) ?_
    obtain rfl:z129=decide (¬(r91.2=true)):=bz hz129
    obtain rfl:=Option.some.inj f126
    exact HJ123 _ _ ⟨(.bool r91.2),(.bool (decide (¬(r91.2=true)))),rfl,(by simp only [S0,S1]<;>rfl)⟩
  ·rintro l' _ ⟨t121,t122,rfl,hq'⟩ l'' hl
   rw [hq'] at hl
   clear hq'
   simp only [S0,S1] at hl
   subst hl
   refine sV (Aa rfl) ?_
   obtain ⟨m142,h143,f144⟩:=Ab f119
   refine AR 12 (fun l l' w'=>∃(t146:Value) (t147:Value) (t148:Value) (t149:Value),UpdS [] w10 w'∧l'=(((((l.set 43 t146).set 44 t147).set 45 t148).set 46 t149).set 47 (.bool m142))) ?_ ?_
   ·intro HJ150
    rcases Bool.eq_false_or_eq_true m117 with e151 | e151
    ·have p154:=e151
     have f155:=ifP p154 h143
     refine sP ?_ (hw:=wgF rfl e151)
     refine sP ?_ (hw:=wgF rfl e151)
     refine sP ?_ (hw:=wgF rfl e151)
     refine sP ?_ (hw:=wgF rfl e151)
     refine sV (Av (evb rfl e151) rfl) ?_
     obtain rfl:=Option.some.inj f155
     exact HJ150 _ _ ⟨undef,undef,undef,undef,(UpdS.refl _ _),(by simp only [S0,S1]<;>rfl)⟩
    ·have p152:=bF e151
     have f153:=ifN p152 h143
     refine sV (Ai Ay rfl ((q87.ext E94).ext F108) rfl) ?_ (hw:=wgT rfl e151)
     refine sV (Ai Ay rfl q106 rfl) ?_ (hw:=wgT rfl e151)
     have n156:=((n78.ext F89).ext E94).ext F108
     obtain ⟨r157,h158,f159⟩:=Ab f153
     refine sc (Af JE (by rfl)) (Cp r72.1 r91.1 A76 c77 A95 c96 w10 (TB.ext X107 hT) n156 (n97.ext F108) r157 h158) ?_ (hw:=wgT rfl e151)
     rintro _ w11 E160 rfl
     refine nrm ?_
     refine sb (BE rfl) ?_ (hw:=wgT rfl e151)
     intro z162 hz162
     refine nrm ?_
     refine sV (Ax (evb rfl e151) rfl) ?_
     obtain rfl:z162=decide (¬(r157=true)):=bz hz162
     obtain rfl:=Option.some.inj f159
     exact HJ150 _ _ ⟨(.agg #[.bool r72.1.Man.Neg,.slice A76 (sz r72.1.Man.Abs) c77,.int .i64 r72.1.Exp]),(.agg #[.bool r91.1.Man.Neg,.slice A95 (sz r91.1.Man.Abs) c96,.int .i64 r91.1.Exp]),(.bool r157),(.bool (decide (¬(r157=true)))),((UpdS.refl _ _).ext E160),(by simp only [S0,S1]<;>rfl)⟩
   ·rintro l' w11 ⟨t146,t147,t148,t149,U145,hq'⟩ l'' hl
    rw [hq'] at hl
    clear hq'
    simp only [S0,S1] at hl
    subst hl
    have X163:=Ez X107 U145 (X107).size al0
    refine Ad<|h109 _ _ ?_
    rcases Bool.eq_false_or_eq_true m142 with e170 | e170
    ·have p173:=e170
     have f174:=ifP p173 f144
     refine wp_cond_true (An (evb rfl e170))<|wp_seq_k fun K626 h626=>Aj<|sV (Ac rfl) ?_
     refine Ad<|h626 _ _<|wp_ret ?_
     obtain rfl:=Option.some.inj f174
     exact fin rfl (Res.tmp rfl Res.nil) (Ap X163 rfl)
    ·have p171:=bF e170
     have f172:=ifN p171 f144
     refine wp_cond_false (An (evb rfl e170))<|wp_skip<|h70 _ _<|Aj<|sV (Aa rfl) ?_
     refine sV (BB (c:=2) rfl rfl (by decide)) ?_
     refine sV (Ac rfl) ?_
     refine Ad<|Bv<|wp_seq_k fun K175 h175=>wp_seq_k fun K176 h176=>Aj<|sV (Aa rfl) ?_
     refine sV (FW (v:=.bool true) (EL rfl rfl) (by rfl)) ?_
     refine Ad<|h176 _ _<|wp_cond_true (An (evb rfl rfl))<|wp_skip<|h175 _ _<|wp_seq_k fun K177 h177=>?_
     apply wp_block
     refine wp_seq_k fun K178 h178=>Aj<|have q179:=((((q47.ext E75).ext F89).ext E94).ext F108).updS U145 nm0;sV (Ai Ay rfl q179 rfl) ?_
     refine sV (Aa rfl) ?_
     refine sV (Aa rfl) ?_
     have n180:=((((n46.ext E75).ext F89).ext E94).ext F108).updS U145 al0
     obtain ⟨r181,h182,f183⟩:=Ab f172
     refine sc (Af DX (by rfl)) (Ar (⟨(⟨m38.1,m38.2.1⟩:Ah),m38.2.2.1⟩:Ae) x2 2 A44 c45 w11 (TB.ext X163 hT) n180 r181 h182) ?_
     rintro _ w12 E184 ⟨A185,c186,rfl,n187⟩
     refine nrm ?_
     have X188:=Ext.trans X163 E184
     refine sV (Aa rfl) ?_
     refine sV (Ag rfl rfl) ?_
     refine sV (Ag rfl rfl) ?_
     refine AB AV fun b189 w13 E190 g191 q192=>?_
     refine nrm ?_
     have g193:=Nat.le_trans X188.size g191
     refine AE AC rfl rfl q192 rfl rfl rfl rfl (by simp only [SP0,SP1,S0,S1,Nat.reduceAdd];rfl) fun w14 U195 q196=>?_
     have F198:=belU E190 U195 g191
     have X197:=Ext.trans X188 F198
     refine sV (Ac rfl) ?_
     refine Ad<|h178 _ _<|wp_seq_k fun K199 h199=>Aj<|have q200:=((((((q51.ext E75).ext F89).ext E94).ext F108).updS U145 nm0).ext E184).ext F198;sV (Ai Ay rfl q200 rfl) ?_
     refine sV (Aa rfl) ?_
     refine sV (Aa rfl) ?_
     have n201:=((((((n50.ext E75).ext F89).ext E94).ext F108).updS U145 al0).ext E184).ext F198
     obtain ⟨r202,h203,f204⟩:=Ab f183
     refine sc (Af DX (by rfl)) (Ar (⟨(⟨m38.2.2.2.1,m38.2.2.2.2.1⟩:Ah),m38.2.2.2.2.2⟩:Ae) x2 2 A48 c49 w14 (TB.ext X197 hT) n201 r202 h203) ?_
     rintro _ w15 E205 ⟨A206,c207,rfl,n208⟩
     refine nrm ?_
     have X209:=Ext.trans X197 E205
     refine sV (Aa rfl) ?_
     refine sV (Ag rfl rfl) ?_
     refine sV (Ag rfl rfl) ?_
     refine AB AV fun b210 w16 E211 g212 q213=>?_
     refine nrm ?_
     have g214:=Nat.le_trans X209.size g212
     refine AE AC rfl rfl q213 rfl rfl rfl rfl (by simp only [SP0,SP1,S0,S1,Nat.reduceAdd];rfl) fun w17 U216 q217=>?_
     have F219:=belU E211 U216 g212
     have X218:=Ext.trans X209 F219
     refine sV (Ac rfl) ?_
     refine Ad<|h199 _ _<|wp_seq_k fun K220 h220=>Aj<|sV (Aa rfl) ?_
     refine sb (BE rfl) fun z221 hz221=>?_
     refine nrm ?_
     refine sV (Aa rfl) ?_
     obtain ⟨m228,h229,f230⟩:=Ab f204
     refine AR 6 (fun l l' w'=>∃(t232:Value) (t233:Value),w17=w'∧l'=(((l.set 39 t232).set 40 t233).set 41 (.bool m228))) ?_ ?_
     ·intro HJ234
      rcases Bool.eq_false_or_eq_true z221 with e235 | e235
      ·have p238:=zP hz221 e235
       have f239:=ifP p238 h229
       refine sP ?_ (hw:=wgF rfl e235)
       refine sP ?_ (hw:=wgF rfl e235)
       refine sV (Av (evb rfl e235) rfl) ?_
       obtain rfl:=Option.some.inj f239
       exact HJ234 _ _ ⟨undef,undef,rfl,(by simp only [S0,S1]<;>rfl)⟩
      ·have p236:=zN hz221 e235
       have f237:=ifN p236 h229
       refine sV (Aa rfl) ?_ (hw:=wgT rfl e235)
       refine sb (BE rfl) ?_ (hw:=wgT rfl e235)
       intro z240 hz240
       refine nrm ?_
       refine sV (Ax (evb rfl e235) rfl) ?_
       obtain rfl:z240=decide (¬(r202.2=true)):=bz hz240
       obtain rfl:=Option.some.inj f237
       exact HJ234 _ _ ⟨(.bool r202.2),(.bool (decide (¬(r202.2=true)))),rfl,(by simp only [S0,S1]<;>rfl)⟩
     ·rintro l' _ ⟨t232,t233,rfl,hq'⟩ l'' hl
      rw [hq'] at hl
      clear hq'
      simp only [S0,S1] at hl
      subst hl
      refine sV (Aa rfl) ?_
      obtain ⟨m253,h254,f255⟩:=Ab f230
      refine AR 12 (fun l l' w'=>∃(t257:Value) (t258:Value) (t259:Value) (t260:Value),UpdS [] w17 w'∧l'=(((((l.set 43 t257).set 44 t258).set 45 t259).set 46 t260).set 47 (.bool m253))) ?_ ?_
      ·intro HJ261
       rcases Bool.eq_false_or_eq_true m228 with e262 | e262
       ·have p265:=e262
        have f266:=ifP p265 h254
        refine sP ?_ (hw:=wgF rfl e262)
        refine sP ?_ (hw:=wgF rfl e262)
        refine sP ?_ (hw:=wgF rfl e262)
        refine sP ?_ (hw:=wgF rfl e262)
        refine sV (Av (evb rfl e262) rfl) ?_
        obtain rfl:=Option.some.inj f266
        exact HJ261 _ _ ⟨undef,undef,undef,undef,(UpdS.refl _ _),(by simp only [S0,S1]<;>rfl)⟩
       ·have p263:=bF e262
        have f264:=ifN p263 h254
        refine sV (Ai Ay rfl ((q196.ext E205).ext F219) rfl) ?_ (hw:=wgT rfl e262)
        refine sV (Ai Ay rfl q217 rfl) ?_ (hw:=wgT rfl e262)
        have n267:=((n187.ext F198).ext E205).ext F219
        obtain ⟨r268,h269,f270⟩:=Ab f264
        refine sc (Af JE (by rfl)) (Cp r181.1 r202.1 A185 c186 A206 c207 w17 (TB.ext X218 hT) n267 (n208.ext F219) r268 h269) ?_ (hw:=wgT rfl e262)
        rintro _ w18 E271 rfl
        refine nrm ?_
        refine sb (BE rfl) ?_ (hw:=wgT rfl e262)
        intro z273 hz273
        refine nrm ?_
        refine sV (Ax (evb rfl e262) rfl) ?_
        obtain rfl:z273=decide (¬(r268=true)):=bz hz273
        obtain rfl:=Option.some.inj f270
        exact HJ261 _ _ ⟨(.agg #[.bool r181.1.Man.Neg,.slice A185 (sz r181.1.Man.Abs) c186,.int .i64 r181.1.Exp]),(.agg #[.bool r202.1.Man.Neg,.slice A206 (sz r202.1.Man.Abs) c207,.int .i64 r202.1.Exp]),(.bool r268),(.bool (decide (¬(r268=true)))),((UpdS.refl _ _).ext E271),(by simp only [S0,S1]<;>rfl)⟩
      ·rintro l' w18 ⟨t257,t258,t259,t260,U256,hq'⟩ l'' hl
       rw [hq'] at hl
       clear hq'
       simp only [S0,S1] at hl
       subst hl
       have X274:=Ez X218 U256 (X218).size al0
       refine Ad<|h220 _ _ ?_
       rcases Bool.eq_false_or_eq_true m253 with e281 | e281
       ·have p284:=e281
        have f285:=ifP p284 f255
        refine wp_cond_true (An (evb rfl e281))<|wp_seq_k fun K625 h625=>Aj<|sV (Ac rfl) ?_
        refine Ad<|h625 _ _<|wp_ret ?_
        obtain rfl:=Option.some.inj f285
        exact fin rfl (Res.tmp rfl Res.nil) (Ap X274 rfl)
       ·have p282:=bF e281
        have f283:=ifN p282 f255
        refine wp_cond_false (An (evb rfl e281))<|wp_skip<|h177 _ _<|Aj<|sV (Aa rfl) ?_
        refine sV (BB (c:=3) rfl rfl (by decide)) ?_
        refine sV (Ac rfl) ?_
        refine Ad<|Bv<|wp_seq_k fun K286 h286=>wp_seq_k fun K287 h287=>Aj<|sV (Aa rfl) ?_
        refine sV (FW (v:=.bool true) (EL rfl rfl) (by rfl)) ?_
        refine Ad<|h287 _ _<|wp_cond_true (An (evb rfl rfl))<|wp_skip<|h286 _ _<|wp_seq_k fun K288 h288=>?_
        apply wp_block
        refine wp_seq_k fun K289 h289=>Aj<|have q290:=((((q179.ext E184).ext F198).ext E205).ext F219).updS U256 nm0;sV (Ai Ay rfl q290 rfl) ?_
        refine sV (Aa rfl) ?_
        refine sV (Aa rfl) ?_
        have n291:=((((n180.ext E184).ext F198).ext E205).ext F219).updS U256 al0
        obtain ⟨r292,h293,f294⟩:=Ab f283
        refine sc (Af DX (by rfl)) (Ar (⟨(⟨m38.1,m38.2.1⟩:Ah),m38.2.2.1⟩:Ae) x2 3 A44 c45 w18 (TB.ext X274 hT) n291 r292 h293) ?_
        rintro _ w19 E295 ⟨A296,c297,rfl,n298⟩
        refine nrm ?_
        have X299:=Ext.trans X274 E295
        refine sV (Aa rfl) ?_
        refine sV (Ag rfl rfl) ?_
        refine sV (Ag rfl rfl) ?_
        refine AB AV fun b300 w20 E301 g302 q303=>?_
        refine nrm ?_
        have g304:=Nat.le_trans X299.size g302
        refine AE AC rfl rfl q303 rfl rfl rfl rfl (by simp only [SP0,SP1,S0,S1,Nat.reduceAdd];rfl) fun w21 U306 q307=>?_
        have F309:=belU E301 U306 g302
        have X308:=Ext.trans X299 F309
        refine sV (Ac rfl) ?_
        refine Ad<|h289 _ _<|wp_seq_k fun K310 h310=>Aj<|have q311:=((((q200.ext E205).ext F219).updS U256 nm0).ext E295).ext F309;sV (Ai Ay rfl q311 rfl) ?_
        refine sV (Aa rfl) ?_
        refine sV (Aa rfl) ?_
        have n312:=((((n201.ext E205).ext F219).updS U256 al0).ext E295).ext F309
        obtain ⟨r313,h314,f315⟩:=Ab f294
        refine sc (Af DX (by rfl)) (Ar (⟨(⟨m38.2.2.2.1,m38.2.2.2.2.1⟩:Ah),m38.2.2.2.2.2⟩:Ae) x2 3 A48 c49 w21 (TB.ext X308 hT) n312 r313 h314) ?_
        rintro _ w22 E316 ⟨A317,c318,rfl,n319⟩
        refine nrm ?_
        have X320:=Ext.trans X308 E316
        refine sV (Aa rfl) ?_
        refine sV (Ag rfl rfl) ?_
        refine sV (Ag rfl rfl) ?_
        refine AB AV fun b321 w23 E322 g323 q324=>?_
        refine nrm ?_
        have g325:=Nat.le_trans X320.size g323
        refine AE AC rfl rfl q324 rfl rfl rfl rfl (by simp only [SP0,SP1,S0,S1,Nat.reduceAdd];rfl) fun w24 U327 q328=>?_
        have F330:=belU E322 U327 g323
        have X329:=Ext.trans X320 F330
        refine sV (Ac rfl) ?_
        refine Ad<|h310 _ _<|wp_seq_k fun K331 h331=>Aj<|sV (Aa rfl) ?_
        refine sb (BE rfl) fun z332 hz332=>?_
        refine nrm ?_
        refine sV (Aa rfl) ?_
        obtain ⟨m339,h340,f341⟩:=Ab f315
        refine AR 6 (fun l l' w'=>∃(t343:Value) (t344:Value),w24=w'∧l'=(((l.set 39 t343).set 40 t344).set 41 (.bool m339))) ?_ ?_
        ·intro HJ345
         rcases Bool.eq_false_or_eq_true z332 with e346 | e346
         ·have p349:=zP hz332 e346
          have f350:=ifP p349 h340
          refine sP ?_ (hw:=wgF rfl e346)
          refine sP ?_ (hw:=wgF rfl e346)
          refine sV (Av (evb rfl e346) rfl) ?_
          obtain rfl:=Option.some.inj f350
          exact HJ345 _ _ ⟨undef,undef,rfl,(by simp only [S0,S1]<;>rfl)⟩
         ·have p347:=zN hz332 e346
          have f348:=ifN p347 h340
          refine sV (Aa rfl) ?_ (hw:=wgT rfl e346)
          refine sb (BE rfl) ?_ (hw:=wgT rfl e346)
          intro z351 hz351
          refine nrm ?_
          refine sV (Ax (evb rfl e346) rfl) ?_
          obtain rfl:z351=decide (¬(r313.2=true)):=bz hz351
          obtain rfl:=Option.some.inj f348
          exact HJ345 _ _ ⟨(.bool r313.2),(.bool (decide (¬(r313.2=true)))),rfl,(by simp only [S0,S1]<;>rfl)⟩
        ·rintro l' _ ⟨t343,t344,rfl,hq'⟩ l'' hl
         rw [hq'] at hl
         clear hq'
         simp only [S0,S1] at hl
         subst hl
         refine sV (Aa rfl) ?_
         obtain ⟨m364,h365,f366⟩:=Ab f341
         refine AR 12 (fun l l' w'=>∃(t368:Value) (t369:Value) (t370:Value) (t371:Value),UpdS [] w24 w'∧l'=(((((l.set 43 t368).set 44 t369).set 45 t370).set 46 t371).set 47 (.bool m364))) ?_ ?_
         ·intro HJ372
          rcases Bool.eq_false_or_eq_true m339 with e373 | e373
          ·have p376:=e373
           have f377:=ifP p376 h365
           refine sP ?_ (hw:=wgF rfl e373)
           refine sP ?_ (hw:=wgF rfl e373)
           refine sP ?_ (hw:=wgF rfl e373)
           refine sP ?_ (hw:=wgF rfl e373)
           refine sV (Av (evb rfl e373) rfl) ?_
           obtain rfl:=Option.some.inj f377
           exact HJ372 _ _ ⟨undef,undef,undef,undef,(UpdS.refl _ _),(by simp only [S0,S1]<;>rfl)⟩
          ·have p374:=bF e373
           have f375:=ifN p374 h365
           refine sV (Ai Ay rfl ((q307.ext E316).ext F330) rfl) ?_ (hw:=wgT rfl e373)
           refine sV (Ai Ay rfl q328 rfl) ?_ (hw:=wgT rfl e373)
           have n378:=((n298.ext F309).ext E316).ext F330
           obtain ⟨r379,h380,f381⟩:=Ab f375
           refine sc (Af JE (by rfl)) (Cp r292.1 r313.1 A296 c297 A317 c318 w24 (TB.ext X329 hT) n378 (n319.ext F330) r379 h380) ?_ (hw:=wgT rfl e373)
           rintro _ w25 E382 rfl
           refine nrm ?_
           refine sb (BE rfl) ?_ (hw:=wgT rfl e373)
           intro z384 hz384
           refine nrm ?_
           refine sV (Ax (evb rfl e373) rfl) ?_
           obtain rfl:z384=decide (¬(r379=true)):=bz hz384
           obtain rfl:=Option.some.inj f381
           exact HJ372 _ _ ⟨(.agg #[.bool r292.1.Man.Neg,.slice A296 (sz r292.1.Man.Abs) c297,.int .i64 r292.1.Exp]),(.agg #[.bool r313.1.Man.Neg,.slice A317 (sz r313.1.Man.Abs) c318,.int .i64 r313.1.Exp]),(.bool r379),(.bool (decide (¬(r379=true)))),((UpdS.refl _ _).ext E382),(by simp only [S0,S1]<;>rfl)⟩
         ·rintro l' w25 ⟨t368,t369,t370,t371,U367,hq'⟩ l'' hl
          rw [hq'] at hl
          clear hq'
          simp only [S0,S1] at hl
          subst hl
          have X385:=Ez X329 U367 (X329).size al0
          refine Ad<|h331 _ _ ?_
          rcases Bool.eq_false_or_eq_true m364 with e392 | e392
          ·have p395:=e392
           have f396:=ifP p395 f366
           refine wp_cond_true (An (evb rfl e392))<|wp_seq_k fun K624 h624=>Aj<|sV (Ac rfl) ?_
           refine Ad<|h624 _ _<|wp_ret ?_
           obtain rfl:=Option.some.inj f396
           exact fin rfl (Res.tmp rfl Res.nil) (Ap X385 rfl)
          ·have p393:=bF e392
           have f394:=ifN p393 f366
           refine wp_cond_false (An (evb rfl e392))<|wp_skip<|h288 _ _<|Aj<|sV (Aa rfl) ?_
           refine sV (BB (c:=4) rfl rfl (by decide)) ?_
           refine sV (Ac rfl) ?_
           refine Ad<|Bv<|wp_seq_k fun K397 h397=>wp_seq_k fun K398 h398=>Aj<|sV (Aa rfl) ?_
           refine sV (FW (v:=.bool true) (EL rfl rfl) (by rfl)) ?_
           refine Ad<|h398 _ _<|wp_cond_true (An (evb rfl rfl))<|wp_skip<|h397 _ _<|wp_seq_k fun K399 h399=>?_
           apply wp_block
           refine wp_seq_k fun K400 h400=>Aj<|have q401:=((((q290.ext E295).ext F309).ext E316).ext F330).updS U367 nm0;sV (Ai Ay rfl q401 rfl) ?_
           refine sV (Aa rfl) ?_
           refine sV (Aa rfl) ?_
           have n402:=((((n291.ext E295).ext F309).ext E316).ext F330).updS U367 al0
           obtain ⟨r403,h404,f405⟩:=Ab f394
           refine sc (Af DX (by rfl)) (Ar (⟨(⟨m38.1,m38.2.1⟩:Ah),m38.2.2.1⟩:Ae) x2 4 A44 c45 w25 (TB.ext X385 hT) n402 r403 h404) ?_
           rintro _ w26 E406 ⟨A407,c408,rfl,n409⟩
           refine nrm ?_
           have X410:=Ext.trans X385 E406
           refine sV (Aa rfl) ?_
           refine sV (Ag rfl rfl) ?_
           refine sV (Ag rfl rfl) ?_
           refine AB AV fun b411 w27 E412 g413 q414=>?_
           refine nrm ?_
           have g415:=Nat.le_trans X410.size g413
           refine AE AC rfl rfl q414 rfl rfl rfl rfl (by simp only [SP0,SP1,S0,S1,Nat.reduceAdd];rfl) fun w28 U417 q418=>?_
           have F420:=belU E412 U417 g413
           have X419:=Ext.trans X410 F420
           refine sV (Ac rfl) ?_
           refine Ad<|h400 _ _<|wp_seq_k fun K421 h421=>Aj<|have q422:=((((q311.ext E316).ext F330).updS U367 nm0).ext E406).ext F420;sV (Ai Ay rfl q422 rfl) ?_
           refine sV (Aa rfl) ?_
           refine sV (Aa rfl) ?_
           have n423:=((((n312.ext E316).ext F330).updS U367 al0).ext E406).ext F420
           obtain ⟨r424,h425,f426⟩:=Ab f405
           refine sc (Af DX (by rfl)) (Ar (⟨(⟨m38.2.2.2.1,m38.2.2.2.2.1⟩:Ah),m38.2.2.2.2.2⟩:Ae) x2 4 A48 c49 w28 (TB.ext X419 hT) n423 r424 h425) ?_
           rintro _ w29 E427 ⟨A428,c429,rfl,n430⟩
           refine nrm ?_
           have X431:=Ext.trans X419 E427
           refine sV (Aa rfl) ?_
           refine sV (Ag rfl rfl) ?_
           refine sV (Ag rfl rfl) ?_
           refine AB AV fun b432 w30 E433 g434 q435=>?_
           refine nrm ?_
           have g436:=Nat.le_trans X431.size g434
           refine AE AC rfl rfl q435 rfl rfl rfl rfl (by simp only [SP0,SP1,S0,S1,Nat.reduceAdd];rfl) fun w31 U438 q439=>?_
           have F441:=belU E433 U438 g434
           have X440:=Ext.trans X431 F441
           refine sV (Ac rfl) ?_
           refine Ad<|h421 _ _<|wp_seq_k fun K442 h442=>Aj<|sV (Aa rfl) ?_
           refine sb (BE rfl) fun z443 hz443=>?_
           refine nrm ?_
           refine sV (Aa rfl) ?_
           obtain ⟨m450,h451,f452⟩:=Ab f426
           refine AR 6 (fun l l' w'=>∃(t454:Value) (t455:Value),w31=w'∧l'=(((l.set 39 t454).set 40 t455).set 41 (.bool m450))) ?_ ?_
           ·intro HJ456
            rcases Bool.eq_false_or_eq_true z443 with e457 | e457
            ·have p460:=zP hz443 e457
             have f461:=ifP p460 h451
             refine sP ?_ (hw:=wgF rfl e457)
             refine sP ?_ (hw:=wgF rfl e457)
             refine sV (Av (evb rfl e457) rfl) ?_
             obtain rfl:=Option.some.inj f461
             exact HJ456 _ _ ⟨undef,undef,rfl,(by simp only [S0,S1]<;>rfl)⟩
            ·have p458:=zN hz443 e457
             have f459:=ifN p458 h451
             refine sV (Aa rfl) ?_ (hw:=wgT rfl e457)
             refine sb (BE rfl) ?_ (hw:=wgT rfl e457)
             intro z462 hz462
             refine nrm ?_
             refine sV (Ax (evb rfl e457) rfl) ?_
             obtain rfl:z462=decide (¬(r424.2=true)):=bz hz462
             obtain rfl:=Option.some.inj f459
             exact HJ456 _ _ ⟨(.bool r424.2),(.bool (decide (¬(r424.2=true)))),rfl,(by simp only [S0,S1]<;>rfl)⟩
           ·rintro l' _ ⟨t454,t455,rfl,hq'⟩ l'' hl
            rw [hq'] at hl
            clear hq'
            simp only [S0,S1] at hl
            subst hl
            refine sV (Aa rfl) ?_
            obtain ⟨m475,h476,f477⟩:=Ab f452
            refine AR 12 (fun l l' w'=>∃(t479:Value) (t480:Value) (t481:Value) (t482:Value),UpdS [] w31 w'∧l'=(((((l.set 43 t479).set 44 t480).set 45 t481).set 46 t482).set 47 (.bool m475))) ?_ ?_
            ·intro HJ483
             rcases Bool.eq_false_or_eq_true m450 with e484 | e484
             ·have p487:=e484
              have f488:=ifP p487 h476
              refine sP ?_ (hw:=wgF rfl e484)
              refine sP ?_ (hw:=wgF rfl e484)
              refine sP ?_ (hw:=wgF rfl e484)
              refine sP ?_ (hw:=wgF rfl e484)
              refine sV (Av (evb rfl e484) rfl) ?_
              obtain rfl:=Option.some.inj f488
              exact HJ483 _ _ ⟨undef,undef,undef,undef,(UpdS.refl _ _),(by simp only [S0,S1]<;>rfl)⟩
             ·have p485:=bF e484
              have f486:=ifN p485 h476
              refine sV (Ai Ay rfl ((q418.ext E427).ext F441) rfl) ?_ (hw:=wgT rfl e484)
              refine sV (Ai Ay rfl q439 rfl) ?_ (hw:=wgT rfl e484)
              have n489:=((n409.ext F420).ext E427).ext F441
              obtain ⟨r490,h491,f492⟩:=Ab f486
              refine sc (Af JE (by rfl)) (Cp r403.1 r424.1 A407 c408 A428 c429 w31 (TB.ext X440 hT) n489 (n430.ext F441) r490 h491) ?_ (hw:=wgT rfl e484)
              rintro _ w32 E493 rfl
              refine nrm ?_
              refine sb (BE rfl) ?_ (hw:=wgT rfl e484)
              intro z495 hz495
              refine nrm ?_
              refine sV (Ax (evb rfl e484) rfl) ?_
              obtain rfl:z495=decide (¬(r490=true)):=bz hz495
              obtain rfl:=Option.some.inj f492
              exact HJ483 _ _ ⟨(.agg #[.bool r403.1.Man.Neg,.slice A407 (sz r403.1.Man.Abs) c408,.int .i64 r403.1.Exp]),(.agg #[.bool r424.1.Man.Neg,.slice A428 (sz r424.1.Man.Abs) c429,.int .i64 r424.1.Exp]),(.bool r490),(.bool (decide (¬(r490=true)))),((UpdS.refl _ _).ext E493),(by simp only [S0,S1]<;>rfl)⟩
            ·rintro l' w32 ⟨t479,t480,t481,t482,U478,hq'⟩ l'' hl
             rw [hq'] at hl
             clear hq'
             simp only [S0,S1] at hl
             subst hl
             have X496:=Ez X440 U478 (X440).size al0
             refine Ad<|h442 _ _ ?_
             rcases Bool.eq_false_or_eq_true m475 with e503 | e503
             ·have p506:=e503
              have f507:=ifP p506 f477
              refine wp_cond_true (An (evb rfl e503))<|wp_seq_k fun K623 h623=>Aj<|sV (Ac rfl) ?_
              refine Ad<|h623 _ _<|wp_ret ?_
              obtain rfl:=Option.some.inj f507
              exact fin rfl (Res.tmp rfl Res.nil) (Ap X496 rfl)
             ·have p504:=bF e503
              have f505:=ifN p504 f477
              refine wp_cond_false (An (evb rfl e503))<|wp_skip<|h399 _ _<|Aj<|sV (Aa rfl) ?_
              refine sV (BB (c:=5) rfl rfl (by decide)) ?_
              refine sV (Ac rfl) ?_
              refine Ad<|Bv<|wp_seq_k fun K508 h508=>wp_seq_k fun K509 h509=>Aj<|sV (Aa rfl) ?_
              refine sV (FW (v:=.bool true) (EL rfl rfl) (by rfl)) ?_
              refine Ad<|h509 _ _<|wp_cond_true (An (evb rfl rfl))<|wp_skip<|h508 _ _<|wp_seq_k fun K510 h510=>?_
              apply wp_block
              refine wp_seq_k fun K511 h511=>Aj<|have q512:=((((q401.ext E406).ext F420).ext E427).ext F441).updS U478 nm0;sV (Ai Ay rfl q512 rfl) ?_
              refine sV (Aa rfl) ?_
              refine sV (Aa rfl) ?_
              have n513:=((((n402.ext E406).ext F420).ext E427).ext F441).updS U478 al0
              obtain ⟨r514,h515,f516⟩:=Ab f505
              refine sc (Af DX (by rfl)) (Ar (⟨(⟨m38.1,m38.2.1⟩:Ah),m38.2.2.1⟩:Ae) x2 5 A44 c45 w32 (TB.ext X496 hT) n513 r514 h515) ?_
              rintro _ w33 E517 ⟨A518,c519,rfl,n520⟩
              refine nrm ?_
              have X521:=Ext.trans X496 E517
              refine sV (Aa rfl) ?_
              refine sV (Ag rfl rfl) ?_
              refine sV (Ag rfl rfl) ?_
              refine AB AV fun b522 w34 E523 g524 q525=>?_
              refine nrm ?_
              have g526:=Nat.le_trans X521.size g524
              refine AE AC rfl rfl q525 rfl rfl rfl rfl (by simp only [SP0,SP1,S0,S1,Nat.reduceAdd];rfl) fun w35 U528 q529=>?_
              have F531:=belU E523 U528 g524
              have X530:=Ext.trans X521 F531
              refine sV (Ac rfl) ?_
              refine Ad<|h511 _ _<|wp_seq_k fun K532 h532=>Aj<|have q533:=((((q422.ext E427).ext F441).updS U478 nm0).ext E517).ext F531;sV (Ai Ay rfl q533 rfl) ?_
              refine sV (Aa rfl) ?_
              refine sV (Aa rfl) ?_
              have n534:=((((n423.ext E427).ext F441).updS U478 al0).ext E517).ext F531
              obtain ⟨r535,h536,f537⟩:=Ab f516
              refine sc (Af DX (by rfl)) (Ar (⟨(⟨m38.2.2.2.1,m38.2.2.2.2.1⟩:Ah),m38.2.2.2.2.2⟩:Ae) x2 5 A48 c49 w35 (TB.ext X530 hT) n534 r535 h536) ?_
              rintro _ w36 E538 ⟨A539,c540,rfl,n541⟩
              refine nrm ?_
              have X542:=Ext.trans X530 E538
              refine sV (Aa rfl) ?_
              refine sV (Ag rfl rfl) ?_
              refine sV (Ag rfl rfl) ?_
              refine AB AV fun b543 w37 E544 g545 q546=>?_
              refine nrm ?_
              have g547:=Nat.le_trans X542.size g545
              refine AE AC rfl rfl q546 rfl rfl rfl rfl (by simp only [SP0,SP1,S0,S1,Nat.reduceAdd];rfl) fun w38 U549 q550=>?_
              have F552:=belU E544 U549 g545
              have X551:=Ext.trans X542 F552
              refine sV (Ac rfl) ?_
              refine Ad<|h532 _ _<|wp_seq_k fun K553 h553=>Aj<|sV (Aa rfl) ?_
              refine sb (BE rfl) fun z554 hz554=>?_
              refine nrm ?_
              refine sV (Aa rfl) ?_
              obtain ⟨m561,h562,f563⟩:=Ab f537
              refine AR 6 (fun l l' w'=>∃(t565:Value) (t566:Value),w38=w'∧l'=(((l.set 39 t565).set 40 t566).set 41 (.bool m561))) ?_ ?_
              ·intro HJ567
               rcases Bool.eq_false_or_eq_true z554 with e568 | e568
               ·have p571:=zP hz554 e568
                have f572:=ifP p571 h562
                refine sP ?_ (hw:=wgF rfl e568)
                refine sP ?_ (hw:=wgF rfl e568)
                refine sV (Av (evb rfl e568) rfl) ?_
                obtain rfl:=Option.some.inj f572
                exact HJ567 _ _ ⟨undef,undef,rfl,(by simp only [S0,S1]<;>rfl)⟩
               ·have p569:=zN hz554 e568
                have f570:=ifN p569 h562
                refine sV (Aa rfl) ?_ (hw:=wgT rfl e568)
                refine sb (BE rfl) ?_ (hw:=wgT rfl e568)
                intro z573 hz573
                refine nrm ?_
                refine sV (Ax (evb rfl e568) rfl) ?_
                obtain rfl:z573=decide (¬(r535.2=true)):=bz hz573
                obtain rfl:=Option.some.inj f570
                exact HJ567 _ _ ⟨(.bool r535.2),(.bool (decide (¬(r535.2=true)))),rfl,(by simp only [S0,S1]<;>rfl)⟩
              ·rintro l' _ ⟨t565,t566,rfl,hq'⟩ l'' hl
               rw [hq'] at hl
               clear hq'
               simp only [S0,S1] at hl
               subst hl
               refine sV (Aa rfl) ?_
               obtain ⟨m586,h587,f588⟩:=Ab f563
               refine AR 12 (fun l l' w'=>∃(t590:Value) (t591:Value) (t592:Value) (t593:Value),UpdS [] w38 w'∧l'=(((((l.set 43 t590).set 44 t591).set 45 t592).set 46 t593).set 47 (.bool m586))) ?_ ?_
               ·intro HJ594
                rcases Bool.eq_false_or_eq_true m561 with e595 | e595
                ·have p598:=e595
                 have f599:=ifP p598 h587
                 refine sP ?_ (hw:=wgF rfl e595)
                 refine sP ?_ (hw:=wgF rfl e595)
                 refine sP ?_ (hw:=wgF rfl e595)
                 refine sP ?_ (hw:=wgF rfl e595)
                 refine sV (Av (evb rfl e595) rfl) ?_
                 obtain rfl:=Option.some.inj f599
                 exact HJ594 _ _ ⟨undef,undef,undef,undef,(UpdS.refl _ _),(by simp only [S0,S1]<;>rfl)⟩
                ·have p596:=bF e595
                 have f597:=ifN p596 h587
                 refine sV (Ai Ay rfl ((q529.ext E538).ext F552) rfl) ?_ (hw:=wgT rfl e595)
                 refine sV (Ai Ay rfl q550 rfl) ?_ (hw:=wgT rfl e595)
                 have n600:=((n520.ext F531).ext E538).ext F552
                 obtain ⟨r601,h602,f603⟩:=Ab f597
                 refine sc (Af JE (by rfl)) (Cp r514.1 r535.1 A518 c519 A539 c540 w38 (TB.ext X551 hT) n600 (n541.ext F552) r601 h602) ?_ (hw:=wgT rfl e595)
                 rintro _ w39 E604 rfl
                 refine nrm ?_
                 refine sb (BE rfl) ?_ (hw:=wgT rfl e595)
                 intro z606 hz606
                 refine nrm ?_
                 refine sV (Ax (evb rfl e595) rfl) ?_
                 obtain rfl:z606=decide (¬(r601=true)):=bz hz606
                 obtain rfl:=Option.some.inj f603
                 exact HJ594 _ _ ⟨(.agg #[.bool r514.1.Man.Neg,.slice A518 (sz r514.1.Man.Abs) c519,.int .i64 r514.1.Exp]),(.agg #[.bool r535.1.Man.Neg,.slice A539 (sz r535.1.Man.Abs) c540,.int .i64 r535.1.Exp]),(.bool r601),(.bool (decide (¬(r601=true)))),((UpdS.refl _ _).ext E604),(by simp only [S0,S1]<;>rfl)⟩
               ·rintro l' w39 ⟨t590,t591,t592,t593,U589,hq'⟩ l'' hl
                rw [hq'] at hl
                clear hq'
                simp only [S0,S1] at hl
                subst hl
                have X607:=Ez X551 U589 (X551).size al0
                refine Ad<|h553 _ _ ?_
                rcases Bool.eq_false_or_eq_true m586 with e614 | e614
                ·have p617:=e614
                 have f618:=ifP p617 f588
                 refine wp_cond_true (An (evb rfl e614))<|wp_seq_k fun K622 h622=>Aj<|sV (Ac rfl) ?_
                 refine Ad<|h622 _ _<|wp_ret ?_
                 obtain rfl:=Option.some.inj f618
                 exact fin rfl (Res.tmp rfl Res.nil) (Ap X607 rfl)
                ·have p615:=bF e614
                 have f616:=ifN p615 f588
                 refine wp_cond_false (An (evb rfl e614))<|wp_skip<|h510 _ _<|Aj<|sV (Aa rfl) ?_
                 refine sV (BB (c:=6) rfl rfl (by decide)) ?_
                 refine sV (Ac rfl) ?_
                 refine Ad<|Bv<|wp_seq_k fun K619 h619=>wp_seq_k fun K620 h620=>Aj<|sV (Aa rfl) ?_
                 refine sV (FW (v:=.bool false) (EL rfl rfl) (by rfl)) ?_
                 refine Ad<|h620 _ _<|wp_cond_false (An (evb rfl rfl))<|wp_exit ?_
                 simp only [Exit.then,Exit.inBlock,↓reduceIte,Nat.reduceEqDiff]
                 refine h66 _ _<|wp_seq_k fun K621 h621=>Aj<|sV (Ac rfl) ?_
                 refine Ad<|h621 _ _<|wp_ret ?_
                 obtain rfl:=Option.some.inj f616
                 exact fin rfl (Res.tmp rfl Res.nil) (Ap X607 rfl)
theorem Bp (x0:Int) (w:World) (hT:TB w) (r:Int) (hr:Bz x0=some r) :
  Calls Tryz.prog 127 #[.int .i64 x0] w (Ret GV w r):=by
 unfold Bz at hr
 go_enter Tryz.func127,Tryz.ntmps127
 refine wp_seq_k fun K1 h1=>Aj<|sV (Ac rfl) ?_
 refine Ad<|h1 _ _<|wp_seq_k fun K2 h2=>wp_seq_k fun K3 h3=>Aj<|sV (Aa rfl) ?_
 refine sb (CS rfl rfl) fun z4 hz4=>?_
 refine nrm ?_
 refine Ad<|h3 _ _ ?_
 rcases Bool.eq_false_or_eq_true z4 with e11 | e11
 ·have p14:=zP hz4 e11
  have f15:=ifP p14 hr
  refine wp_cond_true (An (evb rfl e11))<|wp_seq_k fun K32 h32=>Aj<|sV (Ac rfl) ?_
  refine Ad<|h32 _ _<|wp_ret ?_
  obtain rfl:=Option.some.inj f15
  exact fin rfl (Res.tmp rfl Res.nil) (Ap (Ext.refl _) rfl)
 ·have p12:=zN hz4 e11
  have f13:=ifN p12 hr
  refine wp_cond_false (An (evb rfl e11))<|wp_skip<|h2 _ _<|wp_seq_k fun K16 h16=>wp_seq_k fun K17 h17=>Aj<|sV (Aa rfl) ?_
  refine sb (CS rfl rfl) fun z18 hz18=>?_
  refine nrm ?_
  refine Ad<|h17 _ _ ?_
  rcases Bool.eq_false_or_eq_true z18 with e25 | e25
  ·have p28:=zP hz18 e25
   have f29:=ifP p28 f13
   refine wp_cond_true (An (evb rfl e25))<|wp_seq_k fun K31 h31=>Aj<|sV (Ac rfl) ?_
   refine Ad<|h31 _ _<|wp_ret ?_
   obtain rfl:=Option.some.inj f29
   exact fin rfl (Res.tmp rfl Res.nil) (Ap (Ext.refl _) rfl)
  ·have p26:=zN hz18 e25
   have f27:=ifN p26 f13
   refine wp_cond_false (An (evb rfl e25))<|wp_skip<|h16 _ _<|wp_seq_k fun K30 h30=>Aj<|sV (Aa rfl) ?_
   refine sV (Ac rfl) ?_
   refine Ad<|h30 _ _<|wp_ret ?_
   obtain rfl:=Option.some.inj f27
   exact fin rfl (Res.tmp rfl Res.nil) (Ap (Ext.refl _) rfl)
end Go.Proofs
