import Derived.Test.YtabiobmfelafoaaGreatDoorGen2
namespace Go.Proofs
set_option linter.unusedVariables false
set_option linter.unusedSimpArgs false
set_option maxHeartbeats 4000000
open Go.RowKit Go.Sb Go.Proofs.Sbn
theorem GD (x0:Ap) (A1:Option Addr) (c2:Nat) (A4:Option Addr) (c5:Nat) (w:World) (hT:TB w) (n3:RLu w A1 c2 x0.Lo.Man.Abs) (n6:RLu w A4 c5 x0.Hi.Man.Abs) (r:Bool) (hr:CO x0=some r) :
  Calls Tryz.prog 26 #[.agg #[.bool x0.Lo.Man.Neg,.slice A1 (List.length x0.Lo.Man.Abs) c2,.int .i64 x0.Lo.Exp,.bool x0.Hi.Man.Neg,.slice A4 (List.length x0.Hi.Man.Abs) c5,.int .i64 x0.Hi.Exp]] w (Ret FW w r):=by
 unfold CO at hr
 go_enter Tryz.func26,Tryz.ntmps26
 refine wp_seq_k fun K7 h7=>Ai<|Bp rfl rfl fun b8 w1 E9 g10 q11=>?_
 refine nrm ?_
 refine sV (Ac rfl) ?_
 refine Ad<|h7 _ _<|wp_seq_k fun K12 h12=>Ai<|sV (Af (o':=0) Fw rfl rfl) ?_
 refine sV (Ar AJ rfl q11 (by simp only [List.drop_zero,List.take_succ_cons,List.take_zero];rfl) rfl) ?_
 obtain ⟨r13,h14,f15⟩:=Ab hr
 refine sc (Ae NP (by rfl)) (Hx x0.Lo A1 c2 w1 (TB.ext E9 hT) (n3.ext E9) r13 h14) ?_
 rintro _ w2 E16 rfl
 refine nrm ?_
 have X17:=Ext.trans E9 E16
 refine sV (Aa rfl) ?_
 obtain ⟨m28,h29,f30⟩:=Ab f15
 refine BT 8 (fun l l' w'=>∃(t32:Value) (t33:Value) (t34:Value),UpdS [] w2 w'∧l'=((((l.set 7 t32).set 8 t33).set 9 t34).set 10 (.bool m28))) ?_ ?_
 ·intro HJ35
  rcases Bool.eq_false_or_eq_true r13 with e36 | e36
  ·have p39:=e36
   have f40:=ifP p39 h29
   refine sV (Af (o':=3) Fx rfl rfl) ?_ (hw:=wgT rfl e36)
   refine sV (Ar AJ rfl (q11.ext E16) (by simp only [List.drop_succ_cons,List.drop_zero,List.take_succ_cons,List.take_zero];rfl) rfl) ?_ (hw:=wgT rfl e36)
   obtain ⟨r41,h42,f43⟩:=Ab f40
   refine sc (Ae NP (by rfl)) (Hx x0.Hi A4 c5 w2 (TB.ext X17 hT) (n6.ext X17) r41 h42) ?_ (hw:=wgT rfl e36)
   rintro _ w3 E44 rfl
   refine nrm ?_
   refine sV (AA (evb rfl e36) rfl) ?_
   obtain rfl:=Option.some.inj f43
   exact HJ35 _ _ ⟨(.pointer (some ⟨b8,3,none⟩)),(.agg #[.bool x0.Hi.Man.Neg,.slice A4 (List.length x0.Hi.Man.Abs) c5,.int .i64 x0.Hi.Exp]),(.bool r41),((UpdS.refl _ _).ext E44),(by simp only [S0,S1]<;>rfl)⟩
  ·have p37:=bF e36
   have f38:=ifN p37 h29
   refine sP ?_ (hw:=wgF rfl e36)
   refine sP ?_ (hw:=wgF rfl e36)
   refine sP ?_ (hw:=wgF rfl e36)
   refine sV (AE (evb rfl e36) rfl) ?_
   obtain rfl:=Option.some.inj f38
   exact HJ35 _ _ ⟨undef,undef,undef,(UpdS.refl _ _),(by simp only [S0,S1]<;>rfl)⟩
 ·rintro l' w3 ⟨t32,t33,t34,U31,hq'⟩ l'' hl
  rw [hq'] at hl
  clear hq'
  simp only [S0,S1] at hl
  subst hl
  have X46:=GB X17 U31 (X17).size al0
  refine sV (Ac rfl) ?_
  refine Ad<|h12 _ _<|wp_ret ?_
  obtain rfl:=Option.some.inj f30
  exact fin rfl (Res.tmp rfl Res.nil) (An X46 rfl)
theorem Ha (x0:Ak) (x1:Int) (A1:Option Addr) (c2:Nat) (A4:Option Addr) (c5:Nat) (w:World) (hT:TB w) (n3:RU w A1 c2 x0.Lo.Man.Abs) (n6:RU w A4 c5 x0.Hi.Man.Abs) (r:Ak) (hr:CI x0 x1=some r) :
  Calls Tryz.prog 69 #[.agg #[.bool x0.Lo.Man.Neg,.slice A1 (sz x0.Lo.Man.Abs) c2,.int .i64 x0.Lo.Exp,.bool x0.Hi.Man.Neg,.slice A4 (sz x0.Hi.Man.Abs) c5,.int .i64 x0.Hi.Exp],.int .i64 x1] w (Ret HX w r):=by
 unfold CI at hr
 go_enter Tryz.func69,Tryz.ntmps69
 refine wp_seq_k fun K7 h7=>Ai<|Bp rfl rfl fun b8 w1 E9 g10 q11=>?_
 refine nrm ?_
 refine Aw Ej fun b12 w2 E13 g14 q15=>?_
 refine nrm ?_
 have g16:=Nat.le_trans E9.size g14
 have X17:=Ext.trans E9 E13
 refine Ad<|h7 _ _<|wp_seq_k fun K18 h18=>Ai<|sV (Af (o':=0) Fw rfl rfl) ?_
 refine sV (Ar AJ rfl (q11.ext E13) (by simp only [List.drop_zero,List.take_succ_cons,List.take_zero];rfl) rfl) ?_
 refine sV (Aa rfl) ?_
 obtain ⟨r19,h20,f21⟩:=Ab hr
 refine sc (Ae Od (by rfl)) (Ht x0.Lo x1 5 A1 c2 w2 (TB.ext X17 hT) (n3.ext X17) r19 h20) ?_
 rintro _ w3 E22 ⟨A23,c24,rfl,n25⟩
 refine nrm ?_
 have X26:=Ext.trans X17 E22
 refine Aw Fh fun b27 w4 E28 g29 q30=>?_
 refine nrm ?_
 have g31:=Nat.le_trans X26.size g29
 refine Av Cg rfl rfl q30 rfl rfl rfl rfl (by simp only [SP0,SP1,S0,S1,Nat.reduceAdd];rfl) fun w5 U33 q34=>?_
 have F36:=AW E28 U33 g29
 have X35:=Ext.trans X26 F36
 refine Ad<|h18 _ _<|wp_seq_k fun K37 h37=>Ai<|sV (Af (o':=3) Fx rfl rfl) ?_
 have q38:=((q11.ext E13).ext E22).ext F36
 refine sV (Ar AJ rfl q38 (by simp only [List.drop_succ_cons,List.drop_zero,List.take_succ_cons,List.take_zero];rfl) rfl) ?_
 refine sV (Aa rfl) ?_
 obtain ⟨r39,h40,f41⟩:=Ab f21
 refine sc (Ae Od (by rfl)) (Ht x0.Hi x1 4 A4 c5 w5 (TB.ext X35 hT) (n6.ext X35) r39 h40) ?_
 rintro _ w6 E42 ⟨A43,c44,rfl,n45⟩
 refine nrm ?_
 have X46:=Ext.trans X35 E42
 refine Aw Fh fun b47 w7 E48 g49 q50=>?_
 refine nrm ?_
 have g51:=Nat.le_trans X46.size g49
 refine Av Cg rfl rfl q50 rfl rfl rfl rfl (by simp only [SP0,SP1,S0,S1,Nat.reduceAdd];rfl) fun w8 U53 q54=>?_
 have F56:=AW E48 U53 g49
 have X55:=Ext.trans X46 F56
 refine Ad<|h37 _ _<|wp_seq_k fun K57 h57=>Ai<|sV (Am AJ rfl ((q34.ext E42).ext F56) rfl) ?_
 refine sV (Am AJ rfl q54 rfl) ?_
 refine sV (AP (vals:=[(0,.agg #[.bool r19.Man.Neg,.slice A23 (sz r19.Man.Abs) c24,.int .i64 r19.Exp]),(1,.agg #[.bool r39.Man.Neg,.slice A43 (sz r39.Man.Abs) c44,.int .i64 r39.Exp])]) (cells:=[.bool r19.Man.Neg,.slice A23 (sz r19.Man.Abs) c24,.int .i64 r19.Exp,.bool r39.Man.Neg,.slice A43 (sz r39.Man.Abs) c44,.int .i64 r39.Exp]) (by rfl) (by kernel_rfl)) ?_
 have q58:=(((q15.ext E22).ext F36).ext E42).ext F56
 refine Av DG rfl rfl q58 rfl rfl rfl rfl (by simp only [SP0,SP1,S0,S1,Nat.reduceAdd];rfl) fun w9 U59 q60=>?_
 have X61:=AW X55 U59 g16
 refine Ad<|h57 _ _<|wp_ret ?_
 have n62:=(((n25.ext F36).ext E42).ext F56).upd U59 q58 (by decide)
 have n63:=(n45.ext F56).upd U59 q58 (by decide)
 obtain rfl:=Option.some.inj f41
 exact fin rfl (Res.cellN rfl AL q60 rfl rfl Res.nil) (An X61 ⟨A23,c24,A43,c44,rfl,n62,n63⟩)
theorem HI (x0:Ak) (x1:Ak) (x2:Int) (A1:Option Addr) (c2:Nat) (A4:Option Addr) (c5:Nat) (A7:Option Addr) (c8:Nat) (A10:Option Addr) (c11:Nat) (w:World) (hT:TB w) (n3:RU w A1 c2 x0.Lo.Man.Abs) (n6:RU w A4 c5 x0.Hi.Man.Abs) (n9:RU w A7 c8 x1.Lo.Man.Abs) (n12:RU w A10 c11 x1.Hi.Man.Abs) (r:Ak) (hr:CS x0 x1 x2=some r) :
  Calls Tryz.prog 27 #[.agg #[.bool x0.Lo.Man.Neg,.slice A1 (sz x0.Lo.Man.Abs) c2,.int .i64 x0.Lo.Exp,.bool x0.Hi.Man.Neg,.slice A4 (sz x0.Hi.Man.Abs) c5,.int .i64 x0.Hi.Exp],.agg #[.bool x1.Lo.Man.Neg,.slice A7 (sz x1.Lo.Man.Abs) c8,.int .i64 x1.Lo.Exp,.bool x1.Hi.Man.Neg,.slice A10 (sz x1.Hi.Man.Abs) c11,.int .i64 x1.Hi.Exp],.int .i64 x2] w (Ret HX w r):=by
 unfold CS at hr
 go_enter Tryz.func27,Tryz.ntmps27
 refine wp_seq_k fun K13 h13=>Ai<|Bp rfl rfl fun b14 w1 E15 g16 q17=>?_
 refine nrm ?_
 refine Bp rfl rfl fun b18 w2 E19 g20 q21=>?_
 refine nrm ?_
 have g22:=Nat.le_trans E15.size g20
 have X23:=Ext.trans E15 E19
 refine Aw Ej fun b24 w3 E25 g26 q27=>?_
 refine nrm ?_
 have g28:=Nat.le_trans X23.size g26
 have X29:=Ext.trans X23 E25
 refine Ad<|h13 _ _<|wp_seq_k fun K30 h30=>Ai<|sV (Af (o':=0) Fw rfl rfl) ?_
 refine sV (Ar AJ rfl ((q17.ext E19).ext E25) (by simp only [List.drop_zero,List.take_succ_cons,List.take_zero];rfl) rfl) ?_
 refine sV (Af (o':=0) Fw rfl rfl) ?_
 refine sV (Ar AJ rfl (q21.ext E25) (by simp only [List.drop_zero,List.take_succ_cons,List.take_zero];rfl) rfl) ?_
 obtain ⟨r31,h32,f33⟩:=Ab hr
 refine sc (Ae MT (by rfl)) (GK x0.Lo x1.Lo A1 c2 A7 c8 w3 (TB.ext X29 hT) (n3.ext X29) (n9.ext X29) r31 h32) ?_
 rintro _ w4 E34 ⟨A35,c36,rfl,n37⟩
 refine nrm ?_
 have X38:=Ext.trans X29 E34
 refine Aw Fh fun b39 w5 E40 g41 q42=>?_
 refine nrm ?_
 have g43:=Nat.le_trans X38.size g41
 refine Av Cg rfl rfl q42 rfl rfl rfl rfl (by simp only [SP0,SP1,S0,S1,Nat.reduceAdd];rfl) fun w6 U45 q46=>?_
 have F48:=AW E40 U45 g41
 have X47:=Ext.trans X38 F48
 refine Ad<|h30 _ _<|wp_seq_k fun K49 h49=>Ai<|sV (Af (o':=3) Fx rfl rfl) ?_
 have q50:=(((q17.ext E19).ext E25).ext E34).ext F48
 refine sV (Ar AJ rfl q50 (by simp only [List.drop_succ_cons,List.drop_zero,List.take_succ_cons,List.take_zero];rfl) rfl) ?_
 refine sV (Af (o':=3) Fx rfl rfl) ?_
 have q51:=((q21.ext E25).ext E34).ext F48
 refine sV (Ar AJ rfl q51 (by simp only [List.drop_succ_cons,List.drop_zero,List.take_succ_cons,List.take_zero];rfl) rfl) ?_
 obtain ⟨r52,h53,f54⟩:=Ab f33
 refine sc (Ae MT (by rfl)) (GK x0.Hi x1.Hi A4 c5 A10 c11 w6 (TB.ext X47 hT) (n6.ext X47) (n12.ext X47) r52 h53) ?_
 rintro _ w7 E55 ⟨A56,c57,rfl,n58⟩
 refine nrm ?_
 have X59:=Ext.trans X47 E55
 refine Aw Fh fun b60 w8 E61 g62 q63=>?_
 refine nrm ?_
 have g64:=Nat.le_trans X59.size g62
 refine Av Cg rfl rfl q63 rfl rfl rfl rfl (by simp only [SP0,SP1,S0,S1,Nat.reduceAdd];rfl) fun w9 U66 q67=>?_
 have F69:=AW E61 U66 g62
 have X68:=Ext.trans X59 F69
 refine Ad<|h49 _ _<|wp_seq_k fun K70 h70=>Ai<|sV (Am AJ rfl ((q46.ext E55).ext F69) rfl) ?_
 refine sV (Am AJ rfl q67 rfl) ?_
 refine sV (AP (vals:=[(0,.agg #[.bool r31.Man.Neg,.slice A35 (sz r31.Man.Abs) c36,.int .i64 r31.Exp]),(1,.agg #[.bool r52.Man.Neg,.slice A56 (sz r52.Man.Abs) c57,.int .i64 r52.Exp])]) (cells:=[.bool r31.Man.Neg,.slice A35 (sz r31.Man.Abs) c36,.int .i64 r31.Exp,.bool r52.Man.Neg,.slice A56 (sz r52.Man.Abs) c57,.int .i64 r52.Exp]) (by rfl) (by kernel_rfl)) ?_
 refine sV (Aa rfl) ?_
 have n71:=((n37.ext F48).ext E55).ext F69
 obtain ⟨r72,h73,f74⟩:=Ab f54
 refine sc (Ae NR (by rfl)) (Ha (⟨r31,r52⟩:Ak) x2 A35 c36 A56 c57 w9 (TB.ext X68 hT) n71 (n58.ext F69) r72 h73) ?_
 rintro _ w10 E75 ⟨A76,c77,A79,c80,rfl,n78,n81⟩
 refine nrm ?_
 have X82:=Ext.trans X68 E75
 have q83:=((((q27.ext E34).ext F48).ext E55).ext F69).ext E75
 refine Av DG rfl rfl q83 rfl rfl rfl rfl (by simp only [SP0,SP1,S0,S1,Nat.reduceAdd];rfl) fun w11 U84 q85=>?_
 have X86:=AW X82 U84 g28
 refine Ad<|h70 _ _<|wp_ret ?_
 obtain rfl:=Option.some.inj f74
 exact fin rfl (Res.cellN rfl AL q85 rfl rfl Res.nil) (An X86 ⟨A76,c77,A79,c80,rfl,(n78.upd U84 q83 (by decide)),(n81.upd U84 q83 (by decide))⟩)
theorem c_sorobanref04_Turned (x0:Ak) (A1:Option Addr) (c2:Nat) (A4:Option Addr) (c5:Nat) (w:World) (hT:TB w) (n3:RU w A1 c2 x0.Lo.Man.Abs) (n6:RU w A4 c5 x0.Hi.Man.Abs) (r:Ak) (hr:Es x0=some r) :
  Calls Tryz.prog 28 #[.agg #[.bool x0.Lo.Man.Neg,.slice A1 (sz x0.Lo.Man.Abs) c2,.int .i64 x0.Lo.Exp,.bool x0.Hi.Man.Neg,.slice A4 (sz x0.Hi.Man.Abs) c5,.int .i64 x0.Hi.Exp]] w (Ret HX w r):=by
 unfold Es at hr
 go_enter Tryz.func28,Tryz.ntmps28
 refine wp_seq_k fun K7 h7=>Ai<|Bp rfl rfl fun b8 w1 E9 g10 q11=>?_
 refine nrm ?_
 refine Aw Ej fun b12 w2 E13 g14 q15=>?_
 refine nrm ?_
 have g16:=Nat.le_trans E9.size g14
 have X17:=Ext.trans E9 E13
 refine Ad<|h7 _ _<|wp_seq_k fun K18 h18=>Ai<|sV (Af (o':=3) Fx rfl rfl) ?_
 refine sV (Ar AJ rfl (q11.ext E13) (by simp only [List.drop_succ_cons,List.drop_zero,List.take_succ_cons,List.take_zero];rfl) rfl) ?_
 obtain ⟨r19,h20,f21⟩:=Ab hr
 refine sc (Ae MM (by rfl)) (Gu x0.Hi A4 c5 w2 (TB.ext X17 hT) (n6.ext X17) r19 h20) ?_
 rintro _ w3 E22 ⟨A23,c24,rfl,n25⟩
 refine nrm ?_
 have X26:=Ext.trans X17 E22
 refine Aw Fh fun b27 w4 E28 g29 q30=>?_
 refine nrm ?_
 have g31:=Nat.le_trans X26.size g29
 refine Av Cg rfl rfl q30 rfl rfl rfl rfl (by simp only [SP0,SP1,S0,S1,Nat.reduceAdd];rfl) fun w5 U33 q34=>?_
 have F36:=AW E28 U33 g29
 have X35:=Ext.trans X26 F36
 refine Ad<|h18 _ _<|wp_seq_k fun K37 h37=>Ai<|sV (Af (o':=0) Fw rfl rfl) ?_
 have q38:=((q11.ext E13).ext E22).ext F36
 refine sV (Ar AJ rfl q38 (by simp only [List.drop_zero,List.take_succ_cons,List.take_zero];rfl) rfl) ?_
 obtain ⟨r39,h40,f41⟩:=Ab f21
 refine sc (Ae MM (by rfl)) (Gu x0.Lo A1 c2 w5 (TB.ext X35 hT) (n3.ext X35) r39 h40) ?_
 rintro _ w6 E42 ⟨A43,c44,rfl,n45⟩
 refine nrm ?_
 have X46:=Ext.trans X35 E42
 refine Aw Fh fun b47 w7 E48 g49 q50=>?_
 refine nrm ?_
 have g51:=Nat.le_trans X46.size g49
 refine Av Cg rfl rfl q50 rfl rfl rfl rfl (by simp only [SP0,SP1,S0,S1,Nat.reduceAdd];rfl) fun w8 U53 q54=>?_
 have F56:=AW E48 U53 g49
 have X55:=Ext.trans X46 F56
 refine Ad<|h37 _ _<|wp_seq_k fun K57 h57=>Ai<|sV (Am AJ rfl ((q34.ext E42).ext F56) rfl) ?_
 refine sV (Am AJ rfl q54 rfl) ?_
 refine sV (AP (vals:=[(0,.agg #[.bool r19.Man.Neg,.slice A23 (sz r19.Man.Abs) c24,.int .i64 r19.Exp]),(1,.agg #[.bool r39.Man.Neg,.slice A43 (sz r39.Man.Abs) c44,.int .i64 r39.Exp])]) (cells:=[.bool r19.Man.Neg,.slice A23 (sz r19.Man.Abs) c24,.int .i64 r19.Exp,.bool r39.Man.Neg,.slice A43 (sz r39.Man.Abs) c44,.int .i64 r39.Exp]) (by rfl) (by kernel_rfl)) ?_
 have q58:=(((q15.ext E22).ext F36).ext E42).ext F56
 refine Av DG rfl rfl q58 rfl rfl rfl rfl (by simp only [SP0,SP1,S0,S1,Nat.reduceAdd];rfl) fun w9 U59 q60=>?_
 have X61:=AW X55 U59 g16
 refine Ad<|h57 _ _<|wp_ret ?_
 have n62:=(((n25.ext F36).ext E42).ext F56).upd U59 q58 (by decide)
 have n63:=(n45.ext F56).upd U59 q58 (by decide)
 obtain rfl:=Option.some.inj f41
 exact fin rfl (Res.cellN rfl AL q60 rfl rfl Res.nil) (An X61 ⟨A23,c24,A43,c44,rfl,n62,n63⟩)
theorem ET (x0:Ag) (x1:Ag) (A1:Option Addr) (c2:Nat) (A4:Option Addr) (c5:Nat) (w:World) (hT:TB w) (n3:RU w A1 c2 x0.Man.Abs) (n6:RU w A4 c5 x1.Man.Abs) (r:Ag) (hr:Ce x0 x1=some r) :
  Calls Tryz.prog 48 #[.agg #[.bool x0.Man.Neg,.slice A1 (sz x0.Man.Abs) c2,.int .i64 x0.Exp],.agg #[.bool x1.Man.Neg,.slice A4 (sz x1.Man.Abs) c5,.int .i64 x1.Exp]] w (Ret IK w r):=by
 unfold Ce at hr
 go_enter Tryz.func48,Tryz.ntmps48
 refine wp_seq_k fun K7 h7=>Ai<|Bp rfl rfl fun b8 w1 E9 g10 q11=>?_
 refine nrm ?_
 refine Bp rfl rfl fun b12 w2 E13 g14 q15=>?_
 refine nrm ?_
 have g16:=Nat.le_trans E9.size g14
 have X17:=Ext.trans E9 E13
 refine Aw Fh fun b18 w3 E19 g20 q21=>?_
 refine nrm ?_
 have g22:=Nat.le_trans X17.size g20
 have X23:=Ext.trans X17 E19
 refine Ad<|h7 _ _<|wp_seq_k fun K24 h24=>Di [11] 12 mo rfl fun w4 E25 S26=>have X27:=Ext.trans X23 E25;dA 0 rfl (fun _=>Af (o':=0) Em rfl rfl) ?_
 refine dV 1 rfl (fun _ hw=>Ar Gz rfl ((((q11.ext E13).ext E19).ext E25).ext hw) (by simp only [List.drop_zero,List.take_succ_cons,List.take_zero];rfl) rfl) S26 ?_
 refine dA 2 rfl (fun _=>Af (o':=0) Em rfl rfl) ?_
 refine dV 3 rfl (fun _ hw=>Ar Gz rfl (((q15.ext E19).ext E25).ext hw) (by simp only [List.drop_zero,List.take_succ_cons,List.take_zero];rfl) rfl) S26 ?_
 refine dA 5 rfl (fun _=>Af (o':=2) ES rfl rfl) ?_
 refine dV 6 rfl (fun _ hw=>Aj EY rfl (Bx.cell ((((q11.ext E13).ext E19).ext E25).ext hw) rfl)) S26 ?_
 refine dA 7 rfl (fun _=>Af (o':=2) ES rfl rfl) ?_
 refine dV 8 rfl (fun _ hw=>Aj EY rfl (Bx.cell (((q15.ext E19).ext E25).ext hw) rfl)) S26 ?_
 refine dA 9 rfl (fun _=>AV (c:=wi64 (x0.Exp+x1.Exp)) rfl rfl rfl) ?_
 obtain ⟨r28,h29,f30⟩:=Ab hr
 refine dc 4 rfl (by kernel_rfl) (by rfl) (Ae en_132 (by rfl)) (c_sorobanref03_MulInt x0.Man x1.Man A1 c2 A4 c5 w4 (TB.ext X27 hT) (n3.ext X27) (n6.ext X27) r28 h29) ?_
 rintro _ w5 E31 ⟨A32,c33,rfl,n34⟩
 refine dnrm ?_
 have X35:=Ext.trans X27 E31
 have S36:=S26.trans E31
 obtain ⟨r37,h38,f39⟩:=Ab f30
 refine dc 10 rfl (by kernel_rfl) (by rfl) (Ae Mu (by rfl)) (Gg r28 (wi64 (x0.Exp+x1.Exp)) A32 c33 w5 (TB.ext X35 hT) n34 r37 h38) ?_
 rintro _ w6 E40 ⟨A41,c42,rfl,n43⟩
 refine dnrm ?_
 have X44:=Ext.trans X35 E40
 have S45:=S36.trans E40
 have q46:=((q21.ext E25).ext E31).ext E40
 refine dk 11 rfl (by kernel_rfl) (by decide) (by rfl) Cg rfl rfl q46 rfl rfl rfl rfl (by simp only [SP0,SP1,S0,S1,Nat.reduceAdd];rfl) fun w7 U47 q48=>?_
 have X49:=AW X44 U47 g22
 refine Ci (by kernel_rfl) ?_
 refine h24 _ _<|wp_ret ?_
 obtain rfl:=Option.some.inj f39
 exact fin rfl (Res.cellN rfl AJ q48 rfl rfl Res.nil) (An X49 ⟨A41,c42,rfl,(n43.upd U47 q46 (by decide))⟩)
theorem c_sorobanref04_Times (x0:Ak) (x1:Ak) (x2:Int) (A1:Option Addr) (c2:Nat) (A4:Option Addr) (c5:Nat) (A7:Option Addr) (c8:Nat) (A10:Option Addr) (c11:Nat) (w:World) (hT:TB w) (n3:RU w A1 c2 x0.Lo.Man.Abs) (n6:RU w A4 c5 x0.Hi.Man.Abs) (n9:RU w A7 c8 x1.Lo.Man.Abs) (n12:RU w A10 c11 x1.Hi.Man.Abs) (r:Ak) (hr:EG x0 x1 x2=some r) :
  Calls Tryz.prog 29 #[.agg #[.bool x0.Lo.Man.Neg,.slice A1 (sz x0.Lo.Man.Abs) c2,.int .i64 x0.Lo.Exp,.bool x0.Hi.Man.Neg,.slice A4 (sz x0.Hi.Man.Abs) c5,.int .i64 x0.Hi.Exp],.agg #[.bool x1.Lo.Man.Neg,.slice A7 (sz x1.Lo.Man.Abs) c8,.int .i64 x1.Lo.Exp,.bool x1.Hi.Man.Neg,.slice A10 (sz x1.Hi.Man.Abs) c11,.int .i64 x1.Hi.Exp],.int .i64 x2] w (Ret HX w r):=by
 unfold EG at hr
 go_enter Tryz.func29,Tryz.ntmps29
 refine wp_seq_k fun K13 h13=>Ai<|Bp rfl rfl fun b14 w1 E15 g16 q17=>?_
 refine nrm ?_
 refine Bp rfl rfl fun b18 w2 E19 g20 q21=>?_
 refine nrm ?_
 have g22:=Nat.le_trans E15.size g20
 have X23:=Ext.trans E15 E19
 refine Aw Ej fun b24 w3 E25 g26 q27=>?_
 refine nrm ?_
 have g28:=Nat.le_trans X23.size g26
 have X29:=Ext.trans X23 E25
 refine Ad<|h13 _ _<|wp_seq_k fun K30 h30=>Di [] 22 mo rfl fun w4 E31 S32=>have X33:=Ext.trans X29 E31;dA 0 rfl (fun _=>Af (o':=0) Fw rfl rfl) ?_
 refine dV 1 rfl (fun _ hw=>Ar AJ rfl ((((q17.ext E19).ext E25).ext E31).ext hw) (by simp only [List.drop_zero,List.take_succ_cons,List.take_zero];rfl) rfl) S32 ?_
 refine dA 2 rfl (fun _=>Af (o':=0) Fw rfl rfl) ?_
 refine dV 3 rfl (fun _ hw=>Ar AJ rfl (((q21.ext E25).ext E31).ext hw) (by simp only [List.drop_zero,List.take_succ_cons,List.take_zero];rfl) rfl) S32 ?_
 refine dA 5 rfl (fun _=>Af (o':=0) Fw rfl rfl) ?_
 refine dV 6 rfl (fun _ hw=>Ar AJ rfl ((((q17.ext E19).ext E25).ext E31).ext hw) (by simp only [List.drop_zero,List.take_succ_cons,List.take_zero];rfl) rfl) S32 ?_
 refine dA 7 rfl (fun _=>Af (o':=3) Fx rfl rfl) ?_
 refine dV 8 rfl (fun _ hw=>Ar AJ rfl (((q21.ext E25).ext E31).ext hw) (by simp only [List.drop_succ_cons,List.drop_zero,List.take_succ_cons,List.take_zero];rfl) rfl) S32 ?_
 refine dA 10 rfl (fun _=>Af (o':=3) Fx rfl rfl) ?_
 refine dV 11 rfl (fun _ hw=>Ar AJ rfl ((((q17.ext E19).ext E25).ext E31).ext hw) (by simp only [List.drop_succ_cons,List.drop_zero,List.take_succ_cons,List.take_zero];rfl) rfl) S32 ?_
 refine dA 12 rfl (fun _=>Af (o':=0) Fw rfl rfl) ?_
 refine dV 13 rfl (fun _ hw=>Ar AJ rfl (((q21.ext E25).ext E31).ext hw) (by simp only [List.drop_zero,List.take_succ_cons,List.take_zero];rfl) rfl) S32 ?_
 refine dA 15 rfl (fun _=>Af (o':=3) Fx rfl rfl) ?_
 refine dV 16 rfl (fun _ hw=>Ar AJ rfl ((((q17.ext E19).ext E25).ext E31).ext hw) (by simp only [List.drop_succ_cons,List.drop_zero,List.take_succ_cons,List.take_zero];rfl) rfl) S32 ?_
 refine dA 17 rfl (fun _=>Af (o':=3) Fx rfl rfl) ?_
 refine dV 18 rfl (fun _ hw=>Ar AJ rfl (((q21.ext E25).ext E31).ext hw) (by simp only [List.drop_succ_cons,List.drop_zero,List.take_succ_cons,List.take_zero];rfl) rfl) S32 ?_
 obtain ⟨r34,h35,f36⟩:=Ab hr
 refine dc 4 rfl (by kernel_rfl) (by rfl) (Ae Mx (by rfl)) (ET x0.Lo x1.Lo A1 c2 A7 c8 w4 (TB.ext X33 hT) (n3.ext X33) (n9.ext X33) r34 h35) ?_
 rintro _ w5 E37 ⟨A38,c39,rfl,n40⟩
 refine dnrm ?_
 have X41:=Ext.trans X33 E37
 have S42:=S32.trans E37
 obtain ⟨r43,h44,f45⟩:=Ab f36
 refine dc 9 rfl (by kernel_rfl) (by rfl) (Ae Mx (by rfl)) (ET x0.Lo x1.Hi A1 c2 A10 c11 w5 (TB.ext X41 hT) (n3.ext X41) (n12.ext X41) r43 h44) ?_
 rintro _ w6 E46 ⟨A47,c48,rfl,n49⟩
 refine dnrm ?_
 have X50:=Ext.trans X41 E46
 have S51:=S42.trans E46
 obtain ⟨r52,h53,f54⟩:=Ab f45
 refine dc 14 rfl (by kernel_rfl) (by rfl) (Ae Mx (by rfl)) (ET x0.Hi x1.Lo A4 c5 A7 c8 w6 (TB.ext X50 hT) (n6.ext X50) (n9.ext X50) r52 h53) ?_
 rintro _ w7 E55 ⟨A56,c57,rfl,n58⟩
 refine dnrm ?_
 have X59:=Ext.trans X50 E55
 have S60:=S51.trans E55
 obtain ⟨r61,h62,f63⟩:=Ab f54
 refine dc 19 rfl (by kernel_rfl) (by rfl) (Ae Mx (by rfl)) (ET x0.Hi x1.Hi A4 c5 A10 c11 w7 (TB.ext X59 hT) (n6.ext X59) (n12.ext X59) r61 h62) ?_
 rintro _ w8 E64 ⟨A65,c66,rfl,n67⟩
 refine dnrm ?_
 have X68:=Ext.trans X59 E64
 have S69:=S60.trans E64
 refine CR 20 (by kernel_rfl) (opB (cs:=[.bool r34.Man.Neg,.slice A38 (sz r34.Man.Abs) c39,.int .i64 r34.Exp,.bool r43.Man.Neg,.slice A47 (sz r43.Man.Abs) c48,.int .i64 r43.Exp,.bool r52.Man.Neg,.slice A56 (sz r52.Man.Abs) c57,.int .i64 r52.Exp,.bool r61.Man.Neg,.slice A65 (sz r61.Man.Abs) c66,.int .i64 r61.Exp]) 20 rfl (by rfl) (Ks (vals:=[(0,.agg #[.bool r34.Man.Neg,.slice A38 (sz r34.Man.Abs) c39,.int .i64 r34.Exp]),(1,.agg #[.bool r43.Man.Neg,.slice A47 (sz r43.Man.Abs) c48,.int .i64 r43.Exp]),(2,.agg #[.bool r52.Man.Neg,.slice A56 (sz r52.Man.Abs) c57,.int .i64 r52.Exp]),(3,.agg #[.bool r61.Man.Neg,.slice A65 (sz r61.Man.Abs) c66,.int .i64 r61.Exp])]) Hd Cg Fh (by rfl) (by decide) (by kernel_rfl)) ?_)
 intro b70 w9 E71 g72 q73
 refine dnrm ?_
 have g74:=Nat.le_trans X68.size g72
 have X75:=Ext.trans X68 E71
 have S76:=S69.trans E71
 refine dA 21 rfl (fun _=>Ac rfl) ?_
 refine Ci (by kernel_rfl) ?_
 refine h30 _ _<|wp_seq_k fun K77 h77=>Ai<|sV (Aa rfl) ?_
 refine sV (ED (o':=0) Hd Cg rfl rfl (by decide) (by decide) (by decide)) ?_
 refine sV (Ar AJ rfl q73 (by simp only [List.drop_zero,List.take_succ_cons,List.take_zero];rfl) rfl) ?_
 refine Aw Fh fun b78 w10 E79 g80 q81=>?_
 refine nrm ?_
 have g82:=Nat.le_trans X75.size g80
 refine Av Cg rfl rfl q81 rfl rfl rfl rfl (by simp only [SP0,SP1,S0,S1,Nat.reduceAdd];rfl) fun w11 U84 q85=>?_
 have F87:=AW E79 U84 g80
 have X86:=Ext.trans X75 F87
 refine Ad<|h77 _ _<|wp_seq_k fun K88 h88=>Ai<|sV (Aa rfl) ?_
 refine sV (ED (o':=0) Hd Cg rfl rfl (by decide) (by decide) (by decide)) ?_
 refine sV (Ar AJ rfl (q73.ext F87) (by simp only [List.drop_zero,List.take_succ_cons,List.take_zero];rfl) rfl) ?_
 refine Aw Fh fun b89 w12 E90 g91 q92=>?_
 refine nrm ?_
 have g93:=Nat.le_trans X86.size g91
 refine Av Cg rfl rfl q92 rfl rfl rfl rfl (by simp only [SP0,SP1,S0,S1,Nat.reduceAdd];rfl) fun w13 U95 q96=>?_
 have F98:=AW E90 U95 g91
 have X97:=Ext.trans X86 F98
 refine Ad<|h88 _ _<|wp_seq_k fun K99 h99=>wp_seq_k fun K100 h100=>Ai<|sV (Ac rfl) ?_
 refine Ad<|h100 _ _ ?_
 apply wp_block
 refine IC<|Bu<|wp_seq_k fun K101 h101=>wp_seq_k fun K102 h102=>Ai<|sV (Aa rfl) ?_
 refine sV (JJ (v:=.bool true) (CZ rfl rfl) (by rfl)) ?_
 refine Ad<|h102 _ _<|wp_cond_true (Al (evb rfl rfl))<|wp_skip<|h101 _ _<|wp_seq_k fun K103 h103=>?_
 apply wp_block
 refine wp_seq_k fun K104 h104=>wp_seq_k fun K105 h105=>Di [] 7 mo rfl fun w14 E106 S107=>have X108:=Ext.trans X97 E106;dA 0 rfl (fun _=>Aa rfl) ?_
 refine dA 1 rfl (fun _=>Aa rfl) ?_
 refine dA 2 rfl (fun _=>ED (o':=3) Hd Cg rfl rfl (by decide) (by decide) (by decide)) ?_
 refine dV 3 rfl (fun _ hw=>Ar AJ rfl ((((q73.ext F87).ext F98).ext E106).ext hw) (by simp only [List.drop_succ_cons,List.drop_zero,List.take_succ_cons,List.take_zero];rfl) rfl) S107 ?_
 refine dV 4 rfl (fun _ hw=>Am AJ rfl (((q85.ext F98).ext E106).ext hw) rfl) S107 ?_
 have n109:=(((((n49.ext E55).ext E64).ext E71).ext F87).ext F98).ext E106
 have n110:=((((((n40.ext E46).ext E55).ext E64).ext E71).ext F87).ext F98).ext E106
 obtain ⟨r111,h112,f113⟩:=Ab f63
 refine dc 5 rfl (by kernel_rfl) (by rfl) (Ae Kt (by rfl)) (CH r43 r34 A47 c48 A38 c39 w14 (TB.ext X108 hT) n109 n110 r111 h112) ?_
 rintro _ w15 E114 rfl
 refine dnrm ?_
 have X115:=Ext.trans X108 E114
 have S116:=S107.trans E114
 refine dab 6 rfl (by kernel_rfl) (fun _ _ _ h=>h) (by rfl) (fun _=>CZ rfl rfl) fun z117 hz117=>?_
 refine dnrm ?_
 refine Ci (by kernel_rfl) ?_
 refine h105 _ _ ?_
 obtain ⟨m128,h129,f130⟩:=Ab f113
 refine Ch (fun l l' w'=>∃(t132:Value) (t133:Value) (t134:Value) (t135:Value) (A136:Option Addr) (c137:Nat),UpdS [b78] w15 w'∧Bx w' b78 27 [.bool m128.1,.slice A136 (sz m128.2.1) c137,.int .i64 m128.2.2]∧RU w' A136 c137 m128.2.1∧l'=((((l.set 49 t132).set 50 t133).set 51 t134).set 52 t135)) ?_ ?_
 ·rcases Bool.eq_false_or_eq_true z117 with e141 | e141
  ·have p144:=zP hz117 e141
   have f145:=ifP p144 h129
   refine wp_cond_true (Al (evb rfl e141))<|Ai<|sV (Aa rfl) ?_
   refine sV (Aa rfl) ?_
   refine sV (ED (o':=3) Hd Cg rfl rfl (by decide) (by decide) (by decide)) ?_
   have q147:=(((q73.ext F87).ext F98).ext E106).ext E114
   refine sV (Ar AJ rfl q147 (by simp only [List.drop_succ_cons,List.drop_zero,List.take_succ_cons,List.take_zero];rfl) rfl) ?_
   have q148:=((q85.ext F98).ext E106).ext E114
   refine Av Cg rfl rfl q148 rfl rfl rfl rfl (by simp only [SP0,SP1,S0,S1,Nat.reduceAdd];rfl) fun w16 U149 q150=>?_
   refine Ad ?_
   have n152:=(n109.ext E114).upd U149 q148 (by decide)
   obtain rfl:=Option.some.inj f145
   exact ⟨_,rfl,(.slice (some ⟨b70,0,none⟩) 4 4),(.int .i64 1),(.pointer (some ⟨b70,3,none⟩)),(.agg #[.bool r43.Man.Neg,.slice A47 (sz r43.Man.Abs) c48,.int .i64 r43.Exp]),A47,c48,((UpdS.refl _ _).upd U149 (.inl im0)),q150,n152,(by simp only [S0,S1]<;>rfl)⟩
  ·have p142:=zN hz117 e141
   have f143:=ifN p142 h129
   refine wp_cond_false (Al (evb rfl e141))<|wp_skip ?_
   have q146:=((q85.ext F98).ext E106).ext E114
   obtain rfl:=Option.some.inj f143
   exact ⟨_,rfl,undef,undef,undef,undef,A38,c39,(UpdS.refl _ _),q146,(n110.ext E114),(by simp only [S0,S1]<;>rfl)⟩
 ·rintro l' w16 ⟨t132,t133,t134,t135,A136,c137,U131,q139,n138,hq'⟩ l'' hl
  rw [hq'] at hl
  clear hq'
  simp only [S0,S1] at hl
  subst hl
  have X153:=GB X115 U131 (X115).size (alc g82 al0)
  refine h104 _ _<|wp_seq_k fun K154 h154=>Di [] 7 mo rfl fun w17 E155 S156=>have X157:=Ext.trans X153 E155;dA 0 rfl (fun _=>Aa rfl) ?_
  refine dA 1 rfl (fun _=>Aa rfl) ?_
  refine dA 2 rfl (fun _=>ED (o':=3) Hd Cg rfl rfl (by decide) (by decide) (by decide)) ?_
  have ne158:=(Bx.ne q73 g80)
  refine dV 3 rfl (fun _ hw=>Ar AJ rfl (((((((q73.ext F87).ext F98).ext E106).ext E114).updS U131 (nmc ne158 nm0)).ext E155).ext hw) (by simp only [List.drop_succ_cons,List.drop_zero,List.take_succ_cons,List.take_zero];rfl) rfl) S156 ?_
  have ne159:=(Bx.ne q85 g91).symm
  refine dV 4 rfl (fun _ hw=>Am AJ rfl (((((q96.ext E106).ext E114).updS U131 (nmc ne159 nm0)).ext E155).ext hw) rfl) S156 ?_
  have n160:RU w17 A47 c48 r43.Man.Abs:=((n109.ext E114).updS U131 (alc ⟨_,_,by decide,((q85.ext F98).ext E106).ext E114⟩ al0)).ext E155
  have n161:RU w17 A38 c39 r34.Man.Abs:=((n110.ext E114).updS U131 (alc ⟨_,_,by decide,((q85.ext F98).ext E106).ext E114⟩ al0)).ext E155
  obtain ⟨r162,h163,f164⟩:=Ab f130
  refine dc 5 rfl (by kernel_rfl) (by rfl) (Ae Kt (by rfl)) (CH r43 r34 A47 c48 A38 c39 w17 (TB.ext X157 hT) n160 n161 r162 h163) ?_
  rintro _ w18 E165 rfl
  refine dnrm ?_
  have X166:=Ext.trans X157 E165
  have S167:=S156.trans E165
  refine dab 6 rfl (by kernel_rfl) (fun _ _ _ h=>h) (by rfl) (fun _=>Fm rfl rfl) fun z168 hz168=>?_
  refine dnrm ?_
  refine Ci (by kernel_rfl) ?_
  refine h154 _ _ ?_
  obtain ⟨m179,h180,f181⟩:=Ab f164
  refine Ch (fun l l' w'=>∃(t183:Value) (t184:Value) (t185:Value) (t186:Value) (A187:Option Addr) (c188:Nat),UpdS [b89] w18 w'∧Bx w' b89 27 [.bool m179.1,.slice A187 (sz m179.2.1) c188,.int .i64 m179.2.2]∧RU w' A187 c188 m179.2.1∧l'=((((l.set 60 t183).set 61 t184).set 62 t185).set 63 t186)) ?_ ?_
  ·rcases Bool.eq_false_or_eq_true z168 with e192 | e192
   ·have p195:=zP hz168 e192
    have f196:=ifP p195 h180
    refine wp_cond_true (Al (evb rfl e192))<|Ai<|sV (Aa rfl) ?_
    refine sV (Aa rfl) ?_
    refine sV (ED (o':=3) Hd Cg rfl rfl (by decide) (by decide) (by decide)) ?_
    have q198:=((((((q73.ext F87).ext F98).ext E106).ext E114).updS U131 (nmc ne158 nm0)).ext E155).ext E165
    refine sV (Ar AJ rfl q198 (by simp only [List.drop_succ_cons,List.drop_zero,List.take_succ_cons,List.take_zero];rfl) rfl) ?_
    have q199:=((((q96.ext E106).ext E114).updS U131 (nmc ne159 nm0)).ext E155).ext E165
    refine Av Cg rfl rfl q199 rfl rfl rfl rfl (by simp only [SP0,SP1,S0,S1,Nat.reduceAdd];rfl) fun w19 U200 q201=>?_
    refine Ad ?_
    have n203:=(n160.ext E165).upd U200 q199 (by decide)
    obtain rfl:=Option.some.inj f196
    exact ⟨_,rfl,(.slice (some ⟨b70,0,none⟩) 4 4),(.int .i64 1),(.pointer (some ⟨b70,3,none⟩)),(.agg #[.bool r43.Man.Neg,.slice A47 (sz r43.Man.Abs) c48,.int .i64 r43.Exp]),A47,c48,((UpdS.refl _ _).upd U200 (.inl im0)),q201,n203,(by simp only [S0,S1]<;>rfl)⟩
   ·have p193:=zN hz168 e192
    have f194:=ifN p193 h180
    refine wp_cond_false (Al (evb rfl e192))<|wp_skip ?_
    have q197:=((((q96.ext E106).ext E114).updS U131 (nmc ne159 nm0)).ext E155).ext E165
    obtain rfl:=Option.some.inj f194
    exact ⟨_,rfl,undef,undef,undef,undef,A38,c39,(UpdS.refl _ _),q197,(n161.ext E165),(by simp only [S0,S1]<;>rfl)⟩
  ·rintro l' w19 ⟨t183,t184,t185,t186,A187,c188,U182,q190,n189,hq'⟩ l'' hl
   rw [hq'] at hl
   clear hq'
   simp only [S0,S1] at hl
   subst hl
   have X204:=GB X166 U182 (X166).size (alc g93 al0)
   refine h103 _ _<|Ai<|sV (Aa rfl) ?_
   refine sV (AV (c:=2) rfl rfl (by decide)) ?_
   refine sV (Ac rfl) ?_
   refine Ad<|Bu<|wp_seq_k fun K205 h205=>wp_seq_k fun K206 h206=>Ai<|sV (Aa rfl) ?_
   refine sV (JJ (v:=.bool true) (CZ rfl rfl) (by rfl)) ?_
   refine Ad<|h206 _ _<|wp_cond_true (Al (evb rfl rfl))<|wp_skip<|h205 _ _<|wp_seq_k fun K207 h207=>?_
   apply wp_block
   refine wp_seq_k fun K208 h208=>wp_seq_k fun K209 h209=>Di [] 7 mo rfl fun w20 E210 S211=>have X212:=Ext.trans X204 E210;dA 0 rfl (fun _=>Aa rfl) ?_
   refine dA 1 rfl (fun _=>Aa rfl) ?_
   refine dA 2 rfl (fun _=>ED (o':=6) Hd Cg rfl rfl (by decide) (by decide) (by decide)) ?_
   have ne213:=(Bx.ne (q73.ext F87) g91)
   refine dV 3 rfl (fun _ hw=>Ar AJ rfl ((((((((((q73.ext F87).ext F98).ext E106).ext E114).updS U131 (nmc ne158 nm0)).ext E155).ext E165).updS U182 (nmc ne213 nm0)).ext E210).ext hw) (by simp only [List.drop_succ_cons,List.drop_zero,List.take_succ_cons,List.take_zero];rfl) rfl) S211 ?_
   refine dV 4 rfl (fun _ hw=>Am AJ rfl (((((q139.ext E155).ext E165).updS U182 (nmc (Ne.symm ne159) nm0)).ext E210).ext hw) rfl) S211 ?_
   have n214:RU w20 A56 c57 r52.Man.Abs:=((((((((((n58.ext E64).ext E71).ext F87).ext F98).ext E106).ext E114).updS U131 (alc ⟨_,_,by decide,((q85.ext F98).ext E106).ext E114⟩ al0)).ext E155).ext E165).updS U182 (alc ⟨_,_,by decide,((((q96.ext E106).ext E114).updS U131 (nmc ne159 nm0)).ext E155).ext E165⟩ al0)).ext E210
   have n215:RU w20 A136 c137 m128.2.1:=(((n138.ext E155).ext E165).updS U182 (alc ⟨_,_,by decide,((((q96.ext E106).ext E114).updS U131 (nmc ne159 nm0)).ext E155).ext E165⟩ al0)).ext E210
   obtain ⟨r216,h217,f218⟩:=Ab f181
   refine dc 5 rfl (by kernel_rfl) (by rfl) (Ae Kt (by rfl)) (CH r52 (⟨(⟨m128.1,m128.2.1⟩:Ah),m128.2.2⟩:Ag) A56 c57 A136 c137 w20 (TB.ext X212 hT) n214 n215 r216 h217) ?_
   rintro _ w21 E219 rfl
   refine dnrm ?_
   have X220:=Ext.trans X212 E219
   have S221:=S211.trans E219
   refine dab 6 rfl (by kernel_rfl) (fun _ _ _ h=>h) (by rfl) (fun _=>CZ rfl rfl) fun z222 hz222=>?_
   refine dnrm ?_
   refine Ci (by kernel_rfl) ?_
   refine h209 _ _ ?_
   obtain ⟨m233,h234,f235⟩:=Ab f218
   refine Ch (fun l l' w'=>∃(t237:Value) (t238:Value) (t239:Value) (t240:Value) (A241:Option Addr) (c242:Nat),UpdS [b78] w21 w'∧Bx w' b78 27 [.bool m233.1,.slice A241 (sz m233.2.1) c242,.int .i64 m233.2.2]∧RU w' A241 c242 m233.2.1∧l'=((((l.set 49 t237).set 50 t238).set 51 t239).set 52 t240)) ?_ ?_
   ·rcases Bool.eq_false_or_eq_true z222 with e246 | e246
    ·have p249:=zP hz222 e246
     have f250:=ifP p249 h234
     refine wp_cond_true (Al (evb rfl e246))<|Ai<|sV (Aa rfl) ?_
     refine sV (Aa rfl) ?_
     refine sV (ED (o':=6) Hd Cg rfl rfl (by decide) (by decide) (by decide)) ?_
     have q252:=(((((((((q73.ext F87).ext F98).ext E106).ext E114).updS U131 (nmc ne158 nm0)).ext E155).ext E165).updS U182 (nmc ne213 nm0)).ext E210).ext E219
     refine sV (Ar AJ rfl q252 (by simp only [List.drop_succ_cons,List.drop_zero,List.take_succ_cons,List.take_zero];rfl) rfl) ?_
     have q253:=((((q139.ext E155).ext E165).updS U182 (nmc (Ne.symm ne159) nm0)).ext E210).ext E219
     refine Av Cg rfl rfl q253 rfl rfl rfl rfl (by simp only [SP0,SP1,S0,S1,Nat.reduceAdd];rfl) fun w22 U254 q255=>?_
     refine Ad ?_
     have n257:=(n214.ext E219).upd U254 q253 (by decide)
     obtain rfl:=Option.some.inj f250
     exact ⟨_,rfl,(.slice (some ⟨b70,0,none⟩) 4 4),(.int .i64 2),(.pointer (some ⟨b70,6,none⟩)),(.agg #[.bool r52.Man.Neg,.slice A56 (sz r52.Man.Abs) c57,.int .i64 r52.Exp]),A56,c57,((UpdS.refl _ _).upd U254 (.inl im0)),q255,n257,(by simp only [S0,S1]<;>rfl)⟩
    ·have p247:=zN hz222 e246
     have f248:=ifN p247 h234
     refine wp_cond_false (Al (evb rfl e246))<|wp_skip ?_
     have q251:=((((q139.ext E155).ext E165).updS U182 (nmc (Ne.symm ne159) nm0)).ext E210).ext E219
     obtain rfl:=Option.some.inj f248
     exact ⟨_,rfl,t132,t133,t134,t135,A136,c137,(UpdS.refl _ _),q251,(n215.ext E219),(by simp only [S0,S1]<;>rfl)⟩
   ·rintro l' w22 ⟨t237,t238,t239,t240,A241,c242,U236,q244,n243,hq'⟩ l'' hl
    rw [hq'] at hl
    clear hq'
    simp only [S0,S1] at hl
    subst hl
    have X258:=GB X220 U236 (X220).size (alc g82 al0)
    refine h208 _ _<|wp_seq_k fun K259 h259=>Di [] 7 mo rfl fun w23 E260 S261=>have X262:=Ext.trans X258 E260;dA 0 rfl (fun _=>Aa rfl) ?_
    refine dA 1 rfl (fun _=>Aa rfl) ?_
    refine dA 2 rfl (fun _=>ED (o':=6) Hd Cg rfl rfl (by decide) (by decide) (by decide)) ?_
    refine dV 3 rfl (fun _ hw=>Ar AJ rfl (((((((((((((q73.ext F87).ext F98).ext E106).ext E114).updS U131 (nmc ne158 nm0)).ext E155).ext E165).updS U182 (nmc ne213 nm0)).ext E210).ext E219).updS U236 (nmc ne158 nm0)).ext E260).ext hw) (by simp only [List.drop_succ_cons,List.drop_zero,List.take_succ_cons,List.take_zero];rfl) rfl) S261 ?_
    refine dV 4 rfl (fun _ hw=>Am AJ rfl (((((q190.ext E210).ext E219).updS U236 (nmc ne159 nm0)).ext E260).ext hw) rfl) S261 ?_
    have n263:RU w23 A56 c57 r52.Man.Abs:=((n214.ext E219).updS U236 (alc ⟨_,_,by decide,((((q139.ext E155).ext E165).updS U182 (nmc (Ne.symm ne159) nm0)).ext E210).ext E219⟩ al0)).ext E260
    have n264:RU w23 A187 c188 m179.2.1:=(((n189.ext E210).ext E219).updS U236 (alc ⟨_,_,by decide,((((q139.ext E155).ext E165).updS U182 (nmc (Ne.symm ne159) nm0)).ext E210).ext E219⟩ al0)).ext E260
    obtain ⟨r265,h266,f267⟩:=Ab f235
    refine dc 5 rfl (by kernel_rfl) (by rfl) (Ae Kt (by rfl)) (CH r52 (⟨(⟨m179.1,m179.2.1⟩:Ah),m179.2.2⟩:Ag) A56 c57 A187 c188 w23 (TB.ext X262 hT) n263 n264 r265 h266) ?_
    rintro _ w24 E268 rfl
    refine dnrm ?_
    have X269:=Ext.trans X262 E268
    have S270:=S261.trans E268
    refine dab 6 rfl (by kernel_rfl) (fun _ _ _ h=>h) (by rfl) (fun _=>Fm rfl rfl) fun z271 hz271=>?_
    refine dnrm ?_
    refine Ci (by kernel_rfl) ?_
    refine h259 _ _ ?_
    obtain ⟨m282,h283,f284⟩:=Ab f267
    refine Ch (fun l l' w'=>∃(t286:Value) (t287:Value) (t288:Value) (t289:Value) (A290:Option Addr) (c291:Nat),UpdS [b89] w24 w'∧Bx w' b89 27 [.bool m282.1,.slice A290 (sz m282.2.1) c291,.int .i64 m282.2.2]∧RU w' A290 c291 m282.2.1∧l'=((((l.set 60 t286).set 61 t287).set 62 t288).set 63 t289)) ?_ ?_
    ·rcases Bool.eq_false_or_eq_true z271 with e295 | e295
     ·have p298:=zP hz271 e295
      have f299:=ifP p298 h283
      refine wp_cond_true (Al (evb rfl e295))<|Ai<|sV (Aa rfl) ?_
      refine sV (Aa rfl) ?_
      refine sV (ED (o':=6) Hd Cg rfl rfl (by decide) (by decide) (by decide)) ?_
      have q301:=((((((((((((q73.ext F87).ext F98).ext E106).ext E114).updS U131 (nmc ne158 nm0)).ext E155).ext E165).updS U182 (nmc ne213 nm0)).ext E210).ext E219).updS U236 (nmc ne158 nm0)).ext E260).ext E268
      refine sV (Ar AJ rfl q301 (by simp only [List.drop_succ_cons,List.drop_zero,List.take_succ_cons,List.take_zero];rfl) rfl) ?_
      have q302:=((((q190.ext E210).ext E219).updS U236 (nmc ne159 nm0)).ext E260).ext E268
      refine Av Cg rfl rfl q302 rfl rfl rfl rfl (by simp only [SP0,SP1,S0,S1,Nat.reduceAdd];rfl) fun w25 U303 q304=>?_
      refine Ad ?_
      have n306:=(n263.ext E268).upd U303 q302 (by decide)
      obtain rfl:=Option.some.inj f299
      exact ⟨_,rfl,(.slice (some ⟨b70,0,none⟩) 4 4),(.int .i64 2),(.pointer (some ⟨b70,6,none⟩)),(.agg #[.bool r52.Man.Neg,.slice A56 (sz r52.Man.Abs) c57,.int .i64 r52.Exp]),A56,c57,((UpdS.refl _ _).upd U303 (.inl im0)),q304,n306,(by simp only [S0,S1]<;>rfl)⟩
     ·have p296:=zN hz271 e295
      have f297:=ifN p296 h283
      refine wp_cond_false (Al (evb rfl e295))<|wp_skip ?_
      have q300:=((((q190.ext E210).ext E219).updS U236 (nmc ne159 nm0)).ext E260).ext E268
      obtain rfl:=Option.some.inj f297
      exact ⟨_,rfl,t183,t184,t185,t186,A187,c188,(UpdS.refl _ _),q300,(n264.ext E268),(by simp only [S0,S1]<;>rfl)⟩
    ·rintro l' w25 ⟨t286,t287,t288,t289,A290,c291,U285,q293,n292,hq'⟩ l'' hl
     rw [hq'] at hl
     clear hq'
     simp only [S0,S1] at hl
     subst hl
     have X307:=GB X269 U285 (X269).size (alc g93 al0)
     refine h207 _ _<|Ai<|sV (Aa rfl) ?_
     refine sV (AV (c:=3) rfl rfl (by decide)) ?_
     refine sV (Ac rfl) ?_
     refine Ad<|Bu<|wp_seq_k fun K308 h308=>wp_seq_k fun K309 h309=>Ai<|sV (Aa rfl) ?_
     refine sV (JJ (v:=.bool true) (CZ rfl rfl) (by rfl)) ?_
     refine Ad<|h309 _ _<|wp_cond_true (Al (evb rfl rfl))<|wp_skip<|h308 _ _<|wp_seq_k fun K310 h310=>?_
     apply wp_block
     refine wp_seq_k fun K311 h311=>wp_seq_k fun K312 h312=>Di [] 7 mo rfl fun w26 E313 S314=>have X315:=Ext.trans X307 E313;dA 0 rfl (fun _=>Aa rfl) ?_
     refine dA 1 rfl (fun _=>Aa rfl) ?_
     refine dA 2 rfl (fun _=>ED (o':=9) Hd Cg rfl rfl (by decide) (by decide) (by decide)) ?_
     refine dV 3 rfl (fun _ hw=>Ar AJ rfl ((((((((((((((((q73.ext F87).ext F98).ext E106).ext E114).updS U131 (nmc ne158 nm0)).ext E155).ext E165).updS U182 (nmc ne213 nm0)).ext E210).ext E219).updS U236 (nmc ne158 nm0)).ext E260).ext E268).updS U285 (nmc ne213 nm0)).ext E313).ext hw) (by simp only [List.drop_succ_cons,List.drop_zero,List.take_succ_cons,List.take_zero];rfl) rfl) S314 ?_
     refine dV 4 rfl (fun _ hw=>Am AJ rfl (((((q244.ext E260).ext E268).updS U285 (nmc (Ne.symm ne159) nm0)).ext E313).ext hw) rfl) S314 ?_
     have n316:RU w26 A65 c66 r61.Man.Abs:=(((((((((((((((n67.ext E71).ext F87).ext F98).ext E106).ext E114).updS U131 (alc ⟨_,_,by decide,((q85.ext F98).ext E106).ext E114⟩ al0)).ext E155).ext E165).updS U182 (alc ⟨_,_,by decide,((((q96.ext E106).ext E114).updS U131 (nmc ne159 nm0)).ext E155).ext E165⟩ al0)).ext E210).ext E219).updS U236 (alc ⟨_,_,by decide,((((q139.ext E155).ext E165).updS U182 (nmc (Ne.symm ne159) nm0)).ext E210).ext E219⟩ al0)).ext E260).ext E268).updS U285 (alc ⟨_,_,by decide,((((q190.ext E210).ext E219).updS U236 (nmc ne159 nm0)).ext E260).ext E268⟩ al0)).ext E313
     have n317:RU w26 A241 c242 m233.2.1:=(((n243.ext E260).ext E268).updS U285 (alc ⟨_,_,by decide,((((q190.ext E210).ext E219).updS U236 (nmc ne159 nm0)).ext E260).ext E268⟩ al0)).ext E313
     obtain ⟨r318,h319,f320⟩:=Ab f284
     refine dc 5 rfl (by kernel_rfl) (by rfl) (Ae Kt (by rfl)) (CH r61 (⟨(⟨m233.1,m233.2.1⟩:Ah),m233.2.2⟩:Ag) A65 c66 A241 c242 w26 (TB.ext X315 hT) n316 n317 r318 h319) ?_
     rintro _ w27 E321 rfl
     refine dnrm ?_
     have X322:=Ext.trans X315 E321
     have S323:=S314.trans E321
     refine dab 6 rfl (by kernel_rfl) (fun _ _ _ h=>h) (by rfl) (fun _=>CZ rfl rfl) fun z324 hz324=>?_
     refine dnrm ?_
     refine Ci (by kernel_rfl) ?_
     refine h312 _ _ ?_
     obtain ⟨m335,h336,f337⟩:=Ab f320
     refine Ch (fun l l' w'=>∃(t339:Value) (t340:Value) (t341:Value) (t342:Value) (A343:Option Addr) (c344:Nat),UpdS [b78] w27 w'∧Bx w' b78 27 [.bool m335.1,.slice A343 (sz m335.2.1) c344,.int .i64 m335.2.2]∧RU w' A343 c344 m335.2.1∧l'=((((l.set 49 t339).set 50 t340).set 51 t341).set 52 t342)) ?_ ?_
     ·rcases Bool.eq_false_or_eq_true z324 with e348 | e348
      ·have p351:=zP hz324 e348
       have f352:=ifP p351 h336
       refine wp_cond_true (Al (evb rfl e348))<|Ai<|sV (Aa rfl) ?_
       refine sV (Aa rfl) ?_
       refine sV (ED (o':=9) Hd Cg rfl rfl (by decide) (by decide) (by decide)) ?_
       have q354:=(((((((((((((((q73.ext F87).ext F98).ext E106).ext E114).updS U131 (nmc ne158 nm0)).ext E155).ext E165).updS U182 (nmc ne213 nm0)).ext E210).ext E219).updS U236 (nmc ne158 nm0)).ext E260).ext E268).updS U285 (nmc ne213 nm0)).ext E313).ext E321
       refine sV (Ar AJ rfl q354 (by simp only [List.drop_succ_cons,List.drop_zero,List.take_succ_cons,List.take_zero];rfl) rfl) ?_
       have q355:=((((q244.ext E260).ext E268).updS U285 (nmc (Ne.symm ne159) nm0)).ext E313).ext E321
       refine Av Cg rfl rfl q355 rfl rfl rfl rfl (by simp only [SP0,SP1,S0,S1,Nat.reduceAdd];rfl) fun w28 U356 q357=>?_
       refine Ad ?_
       have n359:=(n316.ext E321).upd U356 q355 (by decide)
       obtain rfl:=Option.some.inj f352
       exact ⟨_,rfl,(.slice (some ⟨b70,0,none⟩) 4 4),(.int .i64 3),(.pointer (some ⟨b70,9,none⟩)),(.agg #[.bool r61.Man.Neg,.slice A65 (sz r61.Man.Abs) c66,.int .i64 r61.Exp]),A65,c66,((UpdS.refl _ _).upd U356 (.inl im0)),q357,n359,(by simp only [S0,S1]<;>rfl)⟩
      ·have p349:=zN hz324 e348
       have f350:=ifN p349 h336
       refine wp_cond_false (Al (evb rfl e348))<|wp_skip ?_
       have q353:=((((q244.ext E260).ext E268).updS U285 (nmc (Ne.symm ne159) nm0)).ext E313).ext E321
       obtain rfl:=Option.some.inj f350
       exact ⟨_,rfl,t237,t238,t239,t240,A241,c242,(UpdS.refl _ _),q353,(n317.ext E321),(by simp only [S0,S1]<;>rfl)⟩
     ·rintro l' w28 ⟨t339,t340,t341,t342,A343,c344,U338,q346,n345,hq'⟩ l'' hl
      rw [hq'] at hl
      clear hq'
      simp only [S0,S1] at hl
      subst hl
      have X360:=GB X322 U338 (X322).size (alc g82 al0)
      refine h311 _ _<|wp_seq_k fun K361 h361=>Di [] 7 mo rfl fun w29 E362 S363=>have X364:=Ext.trans X360 E362;dA 0 rfl (fun _=>Aa rfl) ?_
      refine dA 1 rfl (fun _=>Aa rfl) ?_
      refine dA 2 rfl (fun _=>ED (o':=9) Hd Cg rfl rfl (by decide) (by decide) (by decide)) ?_
      refine dV 3 rfl (fun _ hw=>Ar AJ rfl (((((((((((((((((((q73.ext F87).ext F98).ext E106).ext E114).updS U131 (nmc ne158 nm0)).ext E155).ext E165).updS U182 (nmc ne213 nm0)).ext E210).ext E219).updS U236 (nmc ne158 nm0)).ext E260).ext E268).updS U285 (nmc ne213 nm0)).ext E313).ext E321).updS U338 (nmc ne158 nm0)).ext E362).ext hw) (by simp only [List.drop_succ_cons,List.drop_zero,List.take_succ_cons,List.take_zero];rfl) rfl) S363 ?_
      refine dV 4 rfl (fun _ hw=>Am AJ rfl (((((q293.ext E313).ext E321).updS U338 (nmc ne159 nm0)).ext E362).ext hw) rfl) S363 ?_
      have n365:RU w29 A65 c66 r61.Man.Abs:=((n316.ext E321).updS U338 (alc ⟨_,_,by decide,((((q244.ext E260).ext E268).updS U285 (nmc (Ne.symm ne159) nm0)).ext E313).ext E321⟩ al0)).ext E362
      have n366:RU w29 A290 c291 m282.2.1:=(((n292.ext E313).ext E321).updS U338 (alc ⟨_,_,by decide,((((q244.ext E260).ext E268).updS U285 (nmc (Ne.symm ne159) nm0)).ext E313).ext E321⟩ al0)).ext E362
      obtain ⟨r367,h368,f369⟩:=Ab f337
      refine dc 5 rfl (by kernel_rfl) (by rfl) (Ae Kt (by rfl)) (CH r61 (⟨(⟨m282.1,m282.2.1⟩:Ah),m282.2.2⟩:Ag) A65 c66 A290 c291 w29 (TB.ext X364 hT) n365 n366 r367 h368) ?_
      rintro _ w30 E370 rfl
      refine dnrm ?_
      have X371:=Ext.trans X364 E370
      have S372:=S363.trans E370
      refine dab 6 rfl (by kernel_rfl) (fun _ _ _ h=>h) (by rfl) (fun _=>Fm rfl rfl) fun z373 hz373=>?_
      refine dnrm ?_
      refine Ci (by kernel_rfl) ?_
      refine h361 _ _ ?_
      obtain ⟨m384,h385,f386⟩:=Ab f369
      refine Ch (fun l l' w'=>∃(t388:Value) (t389:Value) (t390:Value) (t391:Value) (A392:Option Addr) (c393:Nat),UpdS [b89] w30 w'∧Bx w' b89 27 [.bool m384.1,.slice A392 (sz m384.2.1) c393,.int .i64 m384.2.2]∧RU w' A392 c393 m384.2.1∧l'=((((l.set 60 t388).set 61 t389).set 62 t390).set 63 t391)) ?_ ?_
      ·rcases Bool.eq_false_or_eq_true z373 with e397 | e397
       ·have p400:=zP hz373 e397
        have f401:=ifP p400 h385
        refine wp_cond_true (Al (evb rfl e397))<|Ai<|sV (Aa rfl) ?_
        refine sV (Aa rfl) ?_
        refine sV (ED (o':=9) Hd Cg rfl rfl (by decide) (by decide) (by decide)) ?_
        have q403:=((((((((((((((((((q73.ext F87).ext F98).ext E106).ext E114).updS U131 (nmc ne158 nm0)).ext E155).ext E165).updS U182 (nmc ne213 nm0)).ext E210).ext E219).updS U236 (nmc ne158 nm0)).ext E260).ext E268).updS U285 (nmc ne213 nm0)).ext E313).ext E321).updS U338 (nmc ne158 nm0)).ext E362).ext E370
        refine sV (Ar AJ rfl q403 (by simp only [List.drop_succ_cons,List.drop_zero,List.take_succ_cons,List.take_zero];rfl) rfl) ?_
        have q404:=((((q293.ext E313).ext E321).updS U338 (nmc ne159 nm0)).ext E362).ext E370
        refine Av Cg rfl rfl q404 rfl rfl rfl rfl (by simp only [SP0,SP1,S0,S1,Nat.reduceAdd];rfl) fun w31 U405 q406=>?_
        refine Ad ?_
        have n408:=(n365.ext E370).upd U405 q404 (by decide)
        obtain rfl:=Option.some.inj f401
        exact ⟨_,rfl,(.slice (some ⟨b70,0,none⟩) 4 4),(.int .i64 3),(.pointer (some ⟨b70,9,none⟩)),(.agg #[.bool r61.Man.Neg,.slice A65 (sz r61.Man.Abs) c66,.int .i64 r61.Exp]),A65,c66,((UpdS.refl _ _).upd U405 (.inl im0)),q406,n408,(by simp only [S0,S1]<;>rfl)⟩
       ·have p398:=zN hz373 e397
        have f399:=ifN p398 h385
        refine wp_cond_false (Al (evb rfl e397))<|wp_skip ?_
        have q402:=((((q293.ext E313).ext E321).updS U338 (nmc ne159 nm0)).ext E362).ext E370
        obtain rfl:=Option.some.inj f399
        exact ⟨_,rfl,t286,t287,t288,t289,A290,c291,(UpdS.refl _ _),q402,(n366.ext E370),(by simp only [S0,S1]<;>rfl)⟩
      ·rintro l' w31 ⟨t388,t389,t390,t391,A392,c393,U387,q395,n394,hq'⟩ l'' hl
       rw [hq'] at hl
       clear hq'
       simp only [S0,S1] at hl
       subst hl
       have X409:=GB X371 U387 (X371).size (alc g93 al0)
       refine h310 _ _<|Ai<|sV (Aa rfl) ?_
       refine sV (AV (c:=4) rfl rfl (by decide)) ?_
       refine sV (Ac rfl) ?_
       refine Ad<|Bu<|wp_seq_k fun K410 h410=>wp_seq_k fun K411 h411=>Ai<|sV (Aa rfl) ?_
       refine sV (JJ (v:=.bool false) (CZ rfl rfl) (by rfl)) ?_
       refine Ad<|h411 _ _<|wp_cond_false (Al (evb rfl rfl))<|wp_exit ?_
       simp only [Exit.then,Exit.inBlock,↓reduceIte,Nat.reduceEqDiff]
       refine h99 _ _<|wp_seq_k fun K412 h412=>Ai<|have q413:=((q346.ext E362).ext E370).updS U387 (nmc (Ne.symm ne159) nm0);sV (Am AJ rfl q413 rfl) ?_
       refine sV (Am AJ rfl q395 rfl) ?_
       refine sV (AP (vals:=[(0,.agg #[.bool m335.1,.slice A343 (sz m335.2.1) c344,.int .i64 m335.2.2]),(1,.agg #[.bool m384.1,.slice A392 (sz m384.2.1) c393,.int .i64 m384.2.2])]) (cells:=[.bool m335.1,.slice A343 (sz m335.2.1) c344,.int .i64 m335.2.2,.bool m384.1,.slice A392 (sz m384.2.1) c393,.int .i64 m384.2.2]) (by rfl) (by kernel_rfl)) ?_
       refine sV (Aa rfl) ?_
       have n414:RU w31 A343 c344 m335.2.1:=((n345.ext E362).ext E370).updS U387 (alc ⟨_,_,by decide,((((q293.ext E313).ext E321).updS U338 (nmc ne159 nm0)).ext E362).ext E370⟩ al0)
       obtain ⟨r415,h416,f417⟩:=Ab f386
       refine sc (Ae NR (by rfl)) (Ha (⟨(⟨(⟨m335.1,m335.2.1⟩:Ah),m335.2.2⟩:Ag),(⟨(⟨m384.1,m384.2.1⟩:Ah),m384.2.2⟩:Ag)⟩:Ak) x2 A343 c344 A392 c393 w31 (TB.ext X409 hT) n414 n394 r415 h416) ?_
       rintro _ w32 E418 ⟨A419,c420,A422,c423,rfl,n421,n424⟩
       refine nrm ?_
       have X425:=Ext.trans X409 E418
       have ne426:=(Bx.neT ((((((((((q27.ext E31).ext E37).ext E46).ext E55).ext E64).ext E71).ext F87).ext F98).ext E106).ext E114) (((q85.ext F98).ext E106).ext E114) (by decide))
       have ne427:=(Bx.neT (((((((((((((q27.ext E31).ext E37).ext E46).ext E55).ext E64).ext E71).ext F87).ext F98).ext E106).ext E114).updS U131 (nmc ne426 nm0)).ext E155).ext E165) (((((q96.ext E106).ext E114).updS U131 (nmc ne159 nm0)).ext E155).ext E165) (by decide))
       have q428:=((((((((((((((((((((((((((q27.ext E31).ext E37).ext E46).ext E55).ext E64).ext E71).ext F87).ext F98).ext E106).ext E114).updS U131 (nmc ne426 nm0)).ext E155).ext E165).updS U182 (nmc ne427 nm0)).ext E210).ext E219).updS U236 (nmc ne426 nm0)).ext E260).ext E268).updS U285 (nmc ne427 nm0)).ext E313).ext E321).updS U338 (nmc ne426 nm0)).ext E362).ext E370).updS U387 (nmc ne427 nm0)).ext E418
       refine Av DG rfl rfl q428 rfl rfl rfl rfl (by simp only [SP0,SP1,S0,S1,Nat.reduceAdd];rfl) fun w33 U429 q430=>?_
       have X431:=AW X425 U429 g28
       refine Ad<|h412 _ _<|wp_ret ?_
       obtain rfl:=Option.some.inj f417
       exact fin rfl (Res.cellN rfl AL q430 rfl rfl Res.nil) (An X431 ⟨A419,c420,A422,c423,rfl,(n421.upd U429 q428 (by decide)),(n424.upd U429 q428 (by decide))⟩)
theorem c_dyad_near (x0:Ao) (x1:Ao) (A1:Option Addr) (c2:Nat) (A4:Option Addr) (c5:Nat) (w:World) (hT:TB w) (n3:RU w A1 c2 x0.m.Abs) (n6:RU w A4 c5 x1.m.Abs) (r:Bool) (hr:Hu x0 x1=some r) :
  Calls Tryz.prog 125 #[.agg #[.bool x0.m.Neg,.slice A1 (sz x0.m.Abs) c2,.int .i64 x0.e],.agg #[.bool x1.m.Neg,.slice A4 (sz x1.m.Abs) c5,.int .i64 x1.e]] w (Ret FW w r):=by
 unfold Hu at hr
 go_enter Tryz.func125,Tryz.ntmps125
 refine wp_seq_k fun K7 h7=>Ai<|Bp rfl rfl fun b8 w1 E9 g10 q11=>?_
 refine nrm ?_
 refine Bp rfl rfl fun b12 w2 E13 g14 q15=>?_
 refine nrm ?_
 have g16:=Nat.le_trans E9.size g14
 have X17:=Ext.trans E9 E13
 refine sV (Ac rfl) ?_
 refine Ad<|h7 _ _<|wp_seq_k fun K18 h18=>wp_seq_k fun K19 h19=>Ai<|sV (Am Ax rfl (q11.ext E13) rfl) ?_
 obtain ⟨r20,h21,f22⟩:=Ab hr
 refine sc (Ae HT (by rfl)) (CM x0 A1 c2 w2 (TB.ext X17 hT) (n3.ext X17) r20 h21) ?_
 rintro _ w3 E23 rfl
 refine nrm ?_
 have X24:=Ext.trans X17 E23
 refine sb (Cd rfl rfl) fun z25 hz25=>?_
 refine nrm ?_
 refine sV (Aa rfl) ?_
 obtain ⟨m37,h38,f39⟩:=Ab f22
 refine BT 8 (fun l l' w'=>∃(t41:Value) (t42:Value) (t43:Value),UpdS [] w3 w'∧l'=((((l.set 9 t41).set 10 t42).set 11 t43).set 12 (.bool m37))) ?_ ?_
 ·intro HJ44
  rcases Bool.eq_false_or_eq_true z25 with e45 | e45
  ·have p48:=zP hz25 e45
   have f49:=ifP p48 h38
   refine sP ?_ (hw:=wgF rfl e45)
   refine sP ?_ (hw:=wgF rfl e45)
   refine sP ?_ (hw:=wgF rfl e45)
   refine sV (AA (evb rfl e45) rfl) ?_
   obtain rfl:=Option.some.inj f49
   exact HJ44 _ _ ⟨undef,undef,undef,(UpdS.refl _ _),(by simp only [S0,S1]<;>rfl)⟩
  ·have p46:=zN hz25 e45
   have f47:=ifN p46 h38
   refine sV (Am Ax rfl (q15.ext E23) rfl) ?_ (hw:=wgT rfl e45)
   obtain ⟨r50,h51,f52⟩:=Ab f47
   refine sc (Ae HT (by rfl)) (CM x1 A4 c5 w3 (TB.ext X24 hT) (n6.ext X24) r50 h51) ?_ (hw:=wgT rfl e45)
   rintro _ w4 E53 rfl
   refine nrm ?_
   refine sb (Cd rfl rfl) ?_ (hw:=wgT rfl e45)
   intro z55 hz55
   refine nrm ?_
   refine sV (AE (evb rfl e45) rfl) ?_
   obtain rfl:z55=decide (r50=0):=bz hz55
   obtain rfl:=Option.some.inj f52
   exact HJ44 _ _ ⟨(.agg #[.bool x1.m.Neg,.slice A4 (sz x1.m.Abs) c5,.int .i64 x1.e]),(.int .i64 r50),(.bool (decide (r50=0))),((UpdS.refl _ _).ext E53),(by simp only [S0,S1]<;>rfl)⟩
 ·rintro l' w4 ⟨t41,t42,t43,U40,hq'⟩ l'' hl
  rw [hq'] at hl
  clear hq'
  simp only [S0,S1] at hl
  subst hl
  have X56:=GB X24 U40 (X24).size al0
  refine Ad<|h19 _ _ ?_
  rcases Bool.eq_false_or_eq_true m37 with e63 | e63
  ·have p66:=e63
   have f67:=ifP p66 f39
   refine wp_cond_true (Al (evb rfl e63))<|wp_seq_k fun K85 h85=>Ai<|sV (Ac rfl) ?_
   refine Ad<|h85 _ _<|wp_ret ?_
   obtain rfl:=Option.some.inj f67
   exact fin rfl (Res.tmp rfl Res.nil) (An X56 rfl)
  ·have p64:=bF e63
   have f65:=ifN p64 f39
   refine wp_cond_false (Al (evb rfl e63))<|wp_skip<|h18 _ _<|wp_seq_k fun K68 h68=>Di [] 13 mo rfl fun w5 E69 S70=>have X71:=Ext.trans X56 E69;dV 0 rfl (fun _ hw=>Am Ax rfl (((((q11.ext E13).ext E23).updS U40 nm0).ext E69).ext hw) rfl) S70 ?_
   refine dV 2 rfl (fun _ hw=>Am Ax rfl ((((q15.ext E23).updS U40 nm0).ext E69).ext hw) rfl) S70 ?_
   refine dA 5 rfl (fun _=>Af (o':=2) CN rfl rfl) ?_
   refine dV 6 rfl (fun _ hw=>Aj EY rfl (Bx.cell (((((q11.ext E13).ext E23).updS U40 nm0).ext E69).ext hw) rfl)) S70 ?_
   refine dA 7 rfl (fun _=>Af (o':=2) CN rfl rfl) ?_
   refine dV 8 rfl (fun _ hw=>Aj EY rfl (Bx.cell ((((q15.ext E23).updS U40 nm0).ext E69).ext hw) rfl)) S70 ?_
   refine dA 9 rfl (fun _=>Lx rfl rfl) ?_
   obtain ⟨r72,h73,f74⟩:=Ab f65
   refine dc 1 rfl (by kernel_rfl) (by rfl) (Ae Jv (by rfl)) (Ff x0 A1 c2 w5 (TB.ext X71 hT) (n3.ext X71) r72 h73) ?_
   rintro _ w6 E75 rfl
   refine dnrm ?_
   have X76:=Ext.trans X71 E75
   have S77:=S70.trans E75
   obtain ⟨r78,h79,f80⟩:=Ab f74
   refine dc 3 rfl (by kernel_rfl) (by rfl) (Ae Jv (by rfl)) (Ff x1 A4 c5 w6 (TB.ext X76 hT) (n6.ext X76) r78 h79) ?_
   rintro _ w7 E81 rfl
   refine dnrm ?_
   have X82:=Ext.trans X76 E81
   have S83:=S77.trans E81
   refine dA 4 rfl (fun _=>KF rfl rfl) ?_
   refine dA 10 rfl (fun _=>Bz (c:=wi64 ((max r72 r78) - (min x0.e x1.e))) rfl rfl rfl) ?_
   refine dab 11 rfl (by kernel_rfl) (fun _ _ _ h=>h) (by rfl) (fun _=>GP rfl rfl) fun z84 hz84=>?_
   refine dnrm ?_
   refine dA 12 rfl (fun _=>Ac rfl) ?_
   refine Ci (by kernel_rfl) ?_
   refine h68 _ _<|wp_ret ?_
   obtain rfl:z84=decide ((wi64 ((max r72 r78) - (min x0.e x1.e)))≤32770):=bz hz84
   obtain rfl:=Option.some.inj f80
   exact fin rfl (Res.tmp rfl Res.nil) (An X82 rfl)
theorem Iy (x0:Ao) (x1:Ao) (x2:Int) (x3:Int) (A1:Option Addr) (c2:Nat) (A4:Option Addr) (c5:Nat) (w:World) (hT:TB w) (n3:RU w A1 c2 x0.m.Abs) (n6:RU w A4 c5 x1.m.Abs) (r:Ao) (hr:Gm x0 x1 x2 x3=some r) :
  Calls Tryz.prog 113 #[.agg #[.bool x0.m.Neg,.slice A1 (sz x0.m.Abs) c2,.int .i64 x0.e],.agg #[.bool x1.m.Neg,.slice A4 (sz x1.m.Abs) c5,.int .i64 x1.e],.int .i64 x2,.int .i64 x3] w (Ret GY w r):=by
 unfold Gm at hr
 go_enter Tryz.func113,Tryz.ntmps113
 refine wp_seq_k fun K7 h7=>Ai<|Bp rfl rfl fun b8 w1 E9 g10 q11=>?_
 refine nrm ?_
 refine Bp rfl rfl fun b12 w2 E13 g14 q15=>?_
 refine nrm ?_
 have g16:=Nat.le_trans E9.size g14
 have X17:=Ext.trans E9 E13
 refine Aw Bm fun b18 w3 E19 g20 q21=>?_
 refine nrm ?_
 have g22:=Nat.le_trans X17.size g20
 have X23:=Ext.trans X17 E19
 refine Ad<|h7 _ _<|wp_seq_k fun K24 h24=>wp_seq_k fun K25 h25=>Ai<|sV (Am Ax rfl ((q11.ext E13).ext E19) rfl) ?_
 refine sV (Am Ax rfl (q15.ext E19) rfl) ?_
 obtain ⟨r26,h27,f28⟩:=Ab hr
 refine sc (Ae en_125 (by rfl)) (c_dyad_near x0 x1 A1 c2 A4 c5 w3 (TB.ext X23 hT) (n3.ext X23) (n6.ext X23) r26 h27) ?_
 rintro _ w4 E29 rfl
 refine nrm ?_
 have X30:=Ext.trans X23 E29
 refine Ad<|h25 _ _ ?_
 rcases Bool.eq_false_or_eq_true r26 with e58 | e58
 ·have p61:=e58
  have f62:=ifP p61 f28
  refine wp_cond_true (Al (evb rfl e58))<|wp_seq_k fun K346 h346=>Ai<|have q347:=((q11.ext E13).ext E19).ext E29;sV (Am Ax rfl q347 rfl) ?_
  refine sV (Am Ax rfl ((q15.ext E19).ext E29) rfl) ?_
  obtain ⟨r348,h349,f350⟩:=Ab f62
  refine sc (Ae LP (by rfl)) (HF x0 x1 A1 c2 A4 c5 w4 (TB.ext X30 hT) (n3.ext X30) (n6.ext X30) r348 h349) ?_
  rintro _ w5 E351 ⟨A352,c353,rfl,n354⟩
  refine nrm ?_
  have X355:=Ext.trans X30 E351
  refine sV (Aa rfl) ?_
  refine sV (Aa rfl) ?_
  obtain ⟨r356,h357,f358⟩:=Ab f350
  refine sc (Ae IA (by rfl)) (Dr r348 x2 x3 false A352 c353 w5 (TB.ext X355 hT) n354 r356 h357) ?_
  rintro _ w6 E359 ⟨A360,c361,rfl,n362⟩
  refine nrm ?_
  have X363:=Ext.trans X355 E359
  have q364:=((q21.ext E29).ext E351).ext E359
  refine Av Cf rfl rfl q364 rfl rfl rfl rfl (by simp only [SP0,SP1,S0,S1,Nat.reduceAdd];rfl) fun w7 U365 q366=>?_
  have X367:=AW X363 U365 g22
  refine Ad<|h346 _ _<|wp_ret ?_
  obtain rfl:=Option.some.inj f358
  exact fin rfl (Res.cellN rfl Ax q366 rfl rfl Res.nil) (An X367 ⟨A360,c361,rfl,(n362.upd U365 q364 (by decide))⟩)
 ·have p59:=bF e58
  have f60:=ifN p59 f28
  refine wp_cond_false (Al (evb rfl e58))<|wp_skip<|h24 _ _<|wp_seq_k fun K63 h63=>wp_seq_k fun K64 h64=>Di [] 5 mo rfl fun w5 E65 S66=>have X67:=Ext.trans X30 E65;dV 0 rfl (fun _ hw=>Am Ax rfl (((((q11.ext E13).ext E19).ext E29).ext E65).ext hw) rfl) S66 ?_
  refine dV 2 rfl (fun _ hw=>Am Ax rfl ((((q15.ext E19).ext E29).ext E65).ext hw) rfl) S66 ?_
  obtain ⟨r68,h69,f70⟩:=Ab f60
  refine dc 1 rfl (by kernel_rfl) (by rfl) (Ae Jv (by rfl)) (Ff x0 A1 c2 w5 (TB.ext X67 hT) (n3.ext X67) r68 h69) ?_
  rintro _ w6 E71 rfl
  refine dnrm ?_
  have X72:=Ext.trans X67 E71
  have S73:=S66.trans E71
  obtain ⟨r74,h75,f76⟩:=Ab f70
  refine dc 3 rfl (by kernel_rfl) (by rfl) (Ae Jv (by rfl)) (Ff x1 A4 c5 w6 (TB.ext X72 hT) (n6.ext X72) r74 h75) ?_
  rintro _ w7 E77 rfl
  refine dnrm ?_
  have X78:=Ext.trans X72 E77
  have S79:=S73.trans E77
  refine dab 4 rfl (by kernel_rfl) (fun _ _ _ h=>h) (by rfl) (fun _=>CZ rfl rfl) fun z80 hz80=>?_
  refine dnrm ?_
  refine Ci (by kernel_rfl) ?_
  refine h64 _ _ ?_
  obtain ⟨m95,h96,f97⟩:=Ab f76
  refine Ch (fun l l' w'=>∃(t99:Value) (t100:Value) (A101:Option Addr) (c102:Nat) (A105:Option Addr) (c106:Nat),UpdS [b8,b12] w7 w'∧Bx w' b8 119 [.bool m95.1,.slice A101 (sz m95.2.1) c102,.int .i64 m95.2.2.1]∧Bx w' b12 119 [.bool m95.2.2.2.1,.slice A105 (sz m95.2.2.2.2.1) c106,.int .i64 m95.2.2.2.2.2]∧RU w' A101 c102 m95.2.1∧RU w' A105 c106 m95.2.2.2.2.1∧l'=((l.set 25 t99).set 26 t100)) ?_ ?_
  ·rcases Bool.eq_false_or_eq_true z80 with e110 | e110
   ·have p113:=zP hz80 e110
    have f114:=ifP p113 h96
    refine wp_cond_true (Al (evb rfl e110))<|Ai<|have q117:=((((q15.ext E19).ext E29).ext E65).ext E71).ext E77;sV (Am Ax rfl q117 rfl) ?_
    have q118:=(((((q11.ext E13).ext E19).ext E29).ext E65).ext E71).ext E77
    refine sV (Am Ax rfl q118 rfl) ?_
    refine Av Cf rfl rfl q118 rfl rfl rfl rfl (by simp only [SP0,SP1,S0,S1,Nat.reduceAdd];rfl) fun w8 U119 q120=>?_
    have X121:=AW X78 U119 g10
    have ne122:=(Bx.ne q11 g14).symm
    refine Av Cf rfl rfl (q117.upd U119 ne122) rfl rfl rfl rfl (by simp only [SP0,SP1,S0,S1,Nat.reduceAdd];rfl) fun w9 U123 q124=>?_
    have X125:=AW X121 U123 g16
    refine Ad ?_
    obtain rfl:=Option.some.inj f114
    exact ⟨_,rfl,(.agg #[.bool x1.m.Neg,.slice A4 (sz x1.m.Abs) c5,.int .i64 x1.e]),(.agg #[.bool x0.m.Neg,.slice A1 (sz x0.m.Abs) c2,.int .i64 x0.e]),A4,c5,A1,c2,(((UpdS.refl _ _).upd U119 (.inl im0)).upd U123 (.inl (imc im0))),(q120.upd U123 (Ne.symm ne122)),q124,(n6.ext X125),(n3.ext X125),(by simp only [S0,S1]<;>rfl)⟩
   ·have p111:=zN hz80 e110
    have f112:=ifN p111 h96
    refine wp_cond_false (Al (evb rfl e110))<|wp_skip ?_
    have q115:=(((((q11.ext E13).ext E19).ext E29).ext E65).ext E71).ext E77
    have q116:=((((q15.ext E19).ext E29).ext E65).ext E71).ext E77
    obtain rfl:=Option.some.inj f112
    exact ⟨_,rfl,undef,undef,A1,c2,A4,c5,(UpdS.refl _ _),q115,q116,(n3.ext X78),(n6.ext X78),(by simp only [S0,S1]<;>rfl)⟩
  ·rintro l' w8 ⟨t99,t100,A101,c102,A105,c106,U98,q104,q108,n103,n107,hq'⟩ l'' hl
   rw [hq'] at hl
   clear hq'
   simp only [S0,S1] at hl
   subst hl
   have X126:=GB X78 U98 (X78).size (alc g10 (alc g16 al0))
   refine h63 _ _<|wp_seq_k fun K127 h127=>Ai<|sV (Aa rfl) ?_
   refine sV (AV (c:=wi64 (x2+4)) rfl rfl rfl) ?_
   refine sV (Af (o':=0) BD rfl rfl) ?_
   refine sV (Af (o':=1) Bj rfl rfl) ?_
   refine sV (Aj CU rfl (Bx.cell q104 rfl)) ?_
   obtain ⟨r128,h129,f130⟩:=Ab f97
   refine sc (Ae JA (by rfl)) (DE m95.2.1 A101 c102 w8 (TB.ext X126 hT) n103 r128 h129) ?_
   rintro _ w9 E131 rfl
   refine nrm ?_
   have X132:=Ext.trans X126 E131
   refine sV (Bz (c:=wi64 ((wi64 (x2+4)) - r128)) rfl rfl rfl) ?_
   refine sV (KF rfl rfl) ?_
   refine sV (Ac rfl) ?_
   refine Ad<|h127 _ _<|wp_seq_k fun K133 h133=>Di [10] 11 mo rfl fun w10 E134 S135=>have X136:=Ext.trans X132 E134;dA 0 rfl (fun _=>Af (o':=0) BD rfl rfl) ?_
   refine dA 1 rfl (fun _=>Af (o':=0) DR rfl rfl) ?_
   refine dV 2 rfl (fun _ hw=>Aj Gd rfl (Bx.cell (((q104.ext E131).ext E134).ext hw) rfl)) S135 ?_
   refine dA 3 rfl (fun _=>Af (o':=0) BD rfl rfl) ?_
   refine dA 4 rfl (fun _=>Af (o':=1) Bj rfl rfl) ?_
   refine dV 5 rfl (fun _ hw=>Aj CU rfl (Bx.cell (((q104.ext E131).ext E134).ext hw) rfl)) S135 ?_
   refine dA 6 rfl (fun _=>Aa rfl) ?_
   obtain ⟨r137,h138,f139⟩:=Ab f130
   refine NC #[true,true,true,true,true,true,true,true,true,true,false] 1 (fun l' w'=>∃(A140:Option Addr) (c141:Nat) (b143:Nat),Ext w10 w'∧RU w' A140 c141 r137∧w10.heap.size≤b143∧Bx w' b143 117 [.bool false,.slice none 0 0]∧l'=[.agg #[.bool x0.m.Neg,.slice A1 (sz x0.m.Abs) c2,.int .i64 x0.e],.agg #[.bool x1.m.Neg,.slice A4 (sz x1.m.Abs) c5,.int .i64 x1.e],.int .i64 x2,.int .i64 x3,.pointer (some ⟨b8,0,none⟩),.pointer (some ⟨b12,0,none⟩),undef,undef,.pointer (some ⟨b18,0,none⟩),.int .i64 (max 0 (wi64 ((wi64 (x2+4)) - r128))),.pointer (some ⟨b143,0,none⟩),.agg #[.bool x0.m.Neg,.slice A1 (sz x0.m.Abs) c2,.int .i64 x0.e],.agg #[.bool x1.m.Neg,.slice A4 (sz x1.m.Abs) c5,.int .i64 x1.e],.bool r26,undef,undef,undef,undef,undef,undef,.agg #[.bool x0.m.Neg,.slice A1 (sz x0.m.Abs) c2,.int .i64 x0.e],.int .i64 r68,.agg #[.bool x1.m.Neg,.slice A4 (sz x1.m.Abs) c5,.int .i64 x1.e],.int .i64 r74,.bool z80,t99,t100,.int .i64 x2,.int .i64 (wi64 (x2+4)),.pointer (some ⟨b8,0,none⟩),.pointer (some ⟨b8,1,none⟩),.slice A101 (sz m95.2.1) c102,.int .i64 r128,.int .i64 (wi64 ((wi64 (x2+4)) - r128)),.int .i64 (max 0 (wi64 ((wi64 (x2+4)) - r128))),.pointer (some ⟨b8,0,none⟩),.pointer (some ⟨b8,0,none⟩),.bool m95.1,.pointer (some ⟨b8,0,none⟩),.pointer (some ⟨b8,1,none⟩),.slice A101 (sz m95.2.1) c102,.int .i64 (max 0 (wi64 ((wi64 (x2+4)) - r128))),.slice A140 (sz r137) c141,.agg #[.bool m95.1,.slice A140 (sz r137) c141],undef,undef,undef,undef,undef,undef,undef,undef,undef,undef,undef,undef,undef,undef,undef,undef,undef,undef,undef,undef,undef,undef,undef,undef,undef,undef,undef,undef,undef,undef,undef,undef,undef,undef,undef,undef,undef,undef,undef,undef,undef,undef]) ?_ ?_
   ·rintro _ w11 ⟨A140,c141,b143,E146,n142,g144,q145,rfl⟩
    have g171:=Nat.le_trans X136.size g144
    have X172:=Ext.trans X136 E146
    have S173:=S135.trans E146
    refine dk 10 rfl (by kernel_rfl) (by decide) (by rfl) FU rfl rfl q145 rfl rfl rfl rfl (by simp only [SP0,SP1,S0,S1,Nat.reduceAdd];rfl) fun w12 U174 q175=>?_
    have X176:=AW X172 U174 g171
    refine Ci (by kernel_rfl) ?_
    refine h133 _ _<|wp_seq_k fun K177 h177=>Ai<|sV (Am Ea rfl q175 rfl) ?_
    refine sV (Af (o':=2) CN rfl rfl) ?_
    have ne178:=(Bx.neT (((q104.ext E131).ext E134).ext E146) q145 (by decide))
    have q179:=(((q104.ext E131).ext E134).ext E146).upd U174 ne178
    refine sV (Aj EY rfl (Bx.cell q179 rfl)) ?_
    refine sV (Aa rfl) ?_
    refine sV (Bz (c:=wi64 (m95.2.2.1 - (max 0 (wi64 ((wi64 (x2+4)) - r128))))) rfl rfl rfl) ?_
    refine sV (AP (vals:=[(0,.agg #[.bool m95.1,.slice A140 (sz r137) c141]),(1,.int .i64 (wi64 (m95.2.2.1 - (max 0 (wi64 ((wi64 (x2+4)) - r128))))))]) (cells:=[.bool m95.1,.slice A140 (sz r137) c141,.int .i64 (wi64 (m95.2.2.1 - (max 0 (wi64 ((wi64 (x2+4)) - r128)))))]) (by rfl) (by kernel_rfl)) ?_
    refine Av Cf rfl rfl q179 rfl rfl rfl rfl (by simp only [SP0,SP1,S0,S1,Nat.reduceAdd];rfl) fun w13 U180 q181=>?_
    have X182:=AW X176 U180 g10
    refine Ad<|h177 _ _<|wp_seq_k fun K183 h183=>wp_seq_k fun K184 h184=>Di [] 6 mo rfl fun w14 E185 S186=>have X187:=Ext.trans X182 E185;have ne188:=(Bx.neT (((q108.ext E131).ext E134).ext E146) q145 (by decide));have ne189:=(Bx.ne q11 g14).symm;dV 0 rfl (fun _ hw=>Am Ax rfl (((((((q108.ext E131).ext E134).ext E146).upd U174 ne188).upd U180 ne189).ext E185).ext hw) rfl) S186 ?_
    refine dA 2 rfl (fun _=>Af (o':=2) CN rfl rfl) ?_
    refine dV 3 rfl (fun _ hw=>Aj EY rfl (Bx.cell ((q181.ext E185).ext hw) rfl)) S186 ?_
    refine dA 4 rfl (fun _=>Bz (c:=wi64 ((wi64 (m95.2.2.1 - (max 0 (wi64 ((wi64 (x2+4)) - r128))))) - 1)) rfl rfl rfl) ?_
    have n190:=(((((n107.ext E131).ext E134).ext E146).upd U174 q145 (by decide)).upd U180 q179 (by decide)).ext E185
    obtain ⟨r191,h192,f193⟩:=Ab f139
    refine dc 1 rfl (by kernel_rfl) (by rfl) (Ae Jv (by rfl)) (Ff (⟨(⟨m95.2.2.2.1,m95.2.2.2.2.1⟩:Ah),m95.2.2.2.2.2⟩:Ao) A105 c106 w14 (TB.ext X187 hT) n190 r191 h192) ?_
    rintro _ w15 E194 rfl
    refine dnrm ?_
    have X195:=Ext.trans X187 E194
    have S196:=S186.trans E194
    refine dab 5 rfl (by kernel_rfl) (fun _ _ _ h=>h) (by rfl) (fun _=>Gf rfl rfl) fun z197 hz197=>?_
    refine dnrm ?_
    refine Ci (by kernel_rfl) ?_
    refine h184 _ _ ?_
    rcases Bool.eq_false_or_eq_true z197 with e229 | e229
    ·have p232:=zP hz197 e229
     have f233:=ifP p232 f193
     refine wp_cond_true (Al (evb rfl e229))<|wp_seq_k fun K320 h320=>Ai<|sV (Am Ax rfl ((q181.ext E185).ext E194) rfl) ?_
     have q321:=((((((q108.ext E131).ext E134).ext E146).upd U174 ne188).upd U180 ne189).ext E185).ext E194
     refine sV (Am Ax rfl q321 rfl) ?_
     have n322:=(((n142.upd U174 q145 (by decide)).upd U180 q179 (by decide)).ext E185).ext E194
     obtain ⟨r323,h324,f325⟩:=Ab f233
     refine sc (Ae LP (by rfl)) (HF (⟨(⟨m95.1,r137⟩:Ah),(wi64 (m95.2.2.1 - (max 0 (wi64 ((wi64 (x2+4)) - r128)))))⟩:Ao) (⟨(⟨m95.2.2.2.1,m95.2.2.2.2.1⟩:Ah),m95.2.2.2.2.2⟩:Ao) A140 c141 A105 c106 w15 (TB.ext X195 hT) n322 (n190.ext E194) r323 h324) ?_
     rintro _ w16 E326 ⟨A327,c328,rfl,n329⟩
     refine nrm ?_
     have X330:=Ext.trans X195 E326
     refine sV (Aa rfl) ?_
     refine sV (Aa rfl) ?_
     obtain ⟨r331,h332,f333⟩:=Ab f325
     refine sc (Ae IA (by rfl)) (Dr r323 x2 x3 false A327 c328 w16 (TB.ext X330 hT) n329 r331 h332) ?_
     rintro _ w17 E334 ⟨A335,c336,rfl,n337⟩
     refine nrm ?_
     have X338:=Ext.trans X330 E334
     have ne339:=(Bx.ne q15 g20).symm
     have ne340:=(Bx.ne (q11.ext E13) g20).symm
     have ne341:=(Bx.neT ((((((((q21.ext E29).ext E65).ext E71).ext E77).updS U98 (nmc ne340 (nmc ne339 nm0))).ext E131).ext E134).ext E146) q145 (by decide))
     have q342:=(((((((((((((q21.ext E29).ext E65).ext E71).ext E77).updS U98 (nmc ne340 (nmc ne339 nm0))).ext E131).ext E134).ext E146).upd U174 ne341).upd U180 ne340).ext E185).ext E194).ext E326).ext E334
     refine Av Cf rfl rfl q342 rfl rfl rfl rfl (by simp only [SP0,SP1,S0,S1,Nat.reduceAdd];rfl) fun w18 U343 q344=>?_
     have X345:=AW X338 U343 g22
     refine Ad<|h320 _ _<|wp_ret ?_
     obtain rfl:=Option.some.inj f333
     exact fin rfl (Res.cellN rfl Ax q344 rfl rfl Res.nil) (An X345 ⟨A335,c336,rfl,(n337.upd U343 q342 (by decide))⟩)
    ·have p230:=zN hz197 e229
     have f231:=ifN p230 f193
     refine wp_cond_false (Al (evb rfl e229))<|wp_skip<|h183 _ _<|wp_seq_k fun K234 h234=>wp_seq_k fun K235 h235=>Ai<|sV (Af (o':=0) BD rfl rfl) ?_
     refine sV (Af (o':=0) DR rfl rfl) ?_
     refine sV (Aj Gd rfl (Bx.cell ((q181.ext E185).ext E194) rfl)) ?_
     refine sV (Af (o':=0) BD rfl rfl) ?_
     refine sV (Af (o':=0) DR rfl rfl) ?_
     have q236:=((((((q108.ext E131).ext E134).ext E146).upd U174 ne188).upd U180 ne189).ext E185).ext E194
     refine sV (Aj Gd rfl (Bx.cell q236 rfl)) ?_
     refine sb (Lr LU rfl rfl) fun z237 hz237=>?_
     refine nrm ?_
     refine Ad<|h235 _ _ ?_
     rcases Bool.eq_false_or_eq_true z237 with e260 | e260
     ·have p263:=zP hz237 e260
      have f264:=ifP p263 f231
      refine wp_cond_true (Al (evb rfl e260))<|wp_seq_k fun K303 h303=>Ai<|sV (Am Ax rfl ((q181.ext E185).ext E194) rfl) ?_
      refine sV (Aa rfl) ?_
      refine sV (Aa rfl) ?_
      have n304:=(((n142.upd U174 q145 (by decide)).upd U180 q179 (by decide)).ext E185).ext E194
      obtain ⟨r305,h306,f307⟩:=Ab f264
      refine sc (Ae IA (by rfl)) (Dr (⟨(⟨m95.1,r137⟩:Ah),(wi64 (m95.2.2.1 - (max 0 (wi64 ((wi64 (x2+4)) - r128)))))⟩:Ao) x2 x3 true A140 c141 w15 (TB.ext X195 hT) n304 r305 h306) ?_
      rintro _ w16 E308 ⟨A309,c310,rfl,n311⟩
      refine nrm ?_
      have X312:=Ext.trans X195 E308
      have ne313:=(Bx.ne q15 g20).symm
      have ne314:=(Bx.ne (q11.ext E13) g20).symm
      have ne315:=(Bx.neT ((((((((q21.ext E29).ext E65).ext E71).ext E77).updS U98 (nmc ne314 (nmc ne313 nm0))).ext E131).ext E134).ext E146) q145 (by decide))
      have q316:=((((((((((((q21.ext E29).ext E65).ext E71).ext E77).updS U98 (nmc ne314 (nmc ne313 nm0))).ext E131).ext E134).ext E146).upd U174 ne315).upd U180 ne314).ext E185).ext E194).ext E308
      refine Av Cf rfl rfl q316 rfl rfl rfl rfl (by simp only [SP0,SP1,S0,S1,Nat.reduceAdd];rfl) fun w17 U317 q318=>?_
      have X319:=AW X312 U317 g22
      refine Ad<|h303 _ _<|wp_ret ?_
      obtain rfl:=Option.some.inj f307
      exact fin rfl (Res.cellN rfl Ax q318 rfl rfl Res.nil) (An X319 ⟨A309,c310,rfl,(n311.upd U317 q316 (by decide))⟩)
     ·have p261:=zN hz237 e260
      have f262:=ifN p261 f231
      refine wp_cond_false (Al (evb rfl e260))<|wp_skip<|h234 _ _<|wp_seq_k fun K265 h265=>Di [13] 14 mo rfl fun w16 E266 S267=>have X268:=Ext.trans X195 E266;dA 0 rfl (fun _=>Af (o':=0) DR rfl rfl) ?_
      refine dV 1 rfl (fun _ hw=>Aj Gd rfl (Bx.cell (((((q175.upd U180 (Ne.symm ne178)).ext E185).ext E194).ext E266).ext hw) rfl)) S267 ?_
      refine dA 2 rfl (fun _=>Af (o':=1) Bj rfl rfl) ?_
      refine dV 3 rfl (fun _ hw=>Aj CU rfl (Bx.cell (((((q175.upd U180 (Ne.symm ne178)).ext E185).ext E194).ext E266).ext hw) rfl)) S267 ?_
      refine dA 7 rfl (fun _=>Af (o':=2) CN rfl rfl) ?_
      refine dV 8 rfl (fun _ hw=>Aj EY rfl (Bx.cell ((((q181.ext E185).ext E194).ext E266).ext hw) rfl)) S267 ?_
      refine dA 10 rfl (fun _=>Aa rfl) ?_
      refine dA 11 rfl (fun _=>Aa rfl) ?_
      refine CR 4 (by kernel_rfl) (opB (cs:=[.int .u32 1]) 4 rfl (by rfl) (Ks (vals:=[(0,.int .u32 1)]) As Au FK (by rfl) (by decide) (by kernel_rfl)) ?_)
      intro b269 w17 E270 g271 q272
      refine dnrm ?_
      have g273:=Nat.le_trans X268.size g271
      have X274:=Ext.trans X268 E270
      have S275:=S267.trans E270
      have n276:=RL.lit1 q272 (by decide)
      have n277:=(((((n142.upd U174 q145 (by decide)).upd U180 q179 (by decide)).ext E185).ext E194).ext E266).ext E270
      obtain ⟨r278,h279,f280⟩:=Ab f262
      refine dc 5 rfl (by kernel_rfl) (by rfl) (Ae Km (by rfl)) (Fg r137 1 A140 c141 (some ⟨b269,0,none⟩) 1 w17 (TB.ext X274 hT) n277 n276 r278 h279) ?_
      rintro _ w18 E281 ⟨A282,c283,rfl,n284⟩
      refine dnrm ?_
      have X285:=Ext.trans X274 E281
      have S286:=S275.trans E281
      refine dA 6 rfl (fun _=>AP (vals:=[(0,.bool m95.1),(1,.slice A282 (sz r278) c283)]) (cells:=[.bool m95.1,.slice A282 (sz r278) c283]) (by rfl) (by kernel_rfl)) ?_
      refine dA 9 rfl (fun _=>AP (vals:=[(0,.agg #[.bool m95.1,.slice A282 (sz r278) c283]),(1,.int .i64 (wi64 (m95.2.2.1 - (max 0 (wi64 ((wi64 (x2+4)) - r128))))))]) (cells:=[.bool m95.1,.slice A282 (sz r278) c283,.int .i64 (wi64 (m95.2.2.1 - (max 0 (wi64 ((wi64 (x2+4)) - r128)))))]) (by rfl) (by kernel_rfl)) ?_
      obtain ⟨r287,h288,f289⟩:=Ab f280
      refine dc 12 rfl (by kernel_rfl) (by rfl) (Ae IA (by rfl)) (Dr (⟨(⟨m95.1,r278⟩:Ah),(wi64 (m95.2.2.1 - (max 0 (wi64 ((wi64 (x2+4)) - r128)))))⟩:Ao) x2 x3 true A282 c283 w18 (TB.ext X285 hT) n284 r287 h288) ?_
      rintro _ w19 E290 ⟨A291,c292,rfl,n293⟩
      refine dnrm ?_
      have X294:=Ext.trans X285 E290
      have S295:=S286.trans E290
      have ne296:=(Bx.ne q15 g20).symm
      have ne297:=(Bx.ne (q11.ext E13) g20).symm
      have ne298:=(Bx.neT ((((((((q21.ext E29).ext E65).ext E71).ext E77).updS U98 (nmc ne297 (nmc ne296 nm0))).ext E131).ext E134).ext E146) q145 (by decide))
      have q299:=(((((((((((((((q21.ext E29).ext E65).ext E71).ext E77).updS U98 (nmc ne297 (nmc ne296 nm0))).ext E131).ext E134).ext E146).upd U174 ne298).upd U180 ne297).ext E185).ext E194).ext E266).ext E270).ext E281).ext E290
      refine dk 13 rfl (by kernel_rfl) (by decide) (by rfl) Cf rfl rfl q299 rfl rfl rfl rfl (by simp only [SP0,SP1,S0,S1,Nat.reduceAdd];rfl) fun w20 U300 q301=>?_
      have X302:=AW X294 U300 g22
      refine Ci (by kernel_rfl) ?_
      refine h265 _ _<|wp_ret ?_
      obtain rfl:=Option.some.inj f289
      exact fin rfl (Res.cellN rfl Ax q301 rfl rfl Res.nil) (An X302 ⟨A291,c292,rfl,(n293.upd U300 q299 (by decide))⟩)
   ·intro HJ147
    refine Gp 7 9 (by kernel_rfl) ?_ ?_
    ·refine opC 7 rfl (by rfl) (Ae HN (by rfl)) (CJ m95.2.1 (max 0 (wi64 ((wi64 (x2+4)) - r128))) A101 c102 _ (TB.ext (Ext.refl _) (TB.ext X136 hT)) (((n103.ext E131).ext E134).ext (Ext.refl _)) r137 h138) ?_
     rintro _ _ E148 ⟨A149,c150,rfl,n151⟩
     refine dnrm ?_
     refine Gp 8 9 (by kernel_rfl) ?_ ?_
     ·refine opV 8 rfl (by rfl) (AP (vals:=[(0,.bool m95.1),(1,.slice A149 (sz r137) c150)]) (cells:=[.bool m95.1,.slice A149 (sz r137) c150]) (by rfl) (by kernel_rfl)) (dnrm ?_)
      refine CR 9 (by kernel_rfl) ?_
      ·refine opA 9 rfl (by rfl) (Be Gb) fun b154 _ E153 g155 q156=>dnrm ?_
       exact EV (by kernel_rfl) (HJ147 _ _ ⟨A149,c150,b154,(E148.trans E153),(n151.ext E153),(Nat.le_trans E148.size g155),q156,rfl⟩)
     ·refine opA 9 rfl (by rfl) (Be Gb) fun b158 _ E157 g159 q160=>dnrm ?_
      refine CR 8 (by kernel_rfl) ?_
      ·refine opV 8 rfl (by rfl) (AP (vals:=[(0,.bool m95.1),(1,.slice A149 (sz r137) c150)]) (cells:=[.bool m95.1,.slice A149 (sz r137) c150]) (by rfl) (by kernel_rfl)) (dnrm ?_)
       exact EV (by kernel_rfl) (HJ147 _ _ ⟨A149,c150,b158,(E148.trans E157),(n151.ext E157),(Nat.le_trans E148.size g159),q160,rfl⟩)
    ·refine opA 9 rfl (by rfl) (Be Gb) fun b163 _ E162 g164 q165=>dnrm ?_
     refine CR 7 (by kernel_rfl) ?_
     ·refine opC 7 rfl (by rfl) (Ae HN (by rfl)) (CJ m95.2.1 (max 0 (wi64 ((wi64 (x2+4)) - r128))) A101 c102 _ (TB.ext E162 (TB.ext X136 hT)) (((n103.ext E131).ext E134).ext E162) r137 h138) ?_
      rintro _ _ E166 ⟨A167,c168,rfl,n169⟩
      refine dnrm ?_
      refine CR 8 (by kernel_rfl) ?_
      ·refine opV 8 rfl (by rfl) (AP (vals:=[(0,.bool m95.1),(1,.slice A167 (sz r137) c168)]) (cells:=[.bool m95.1,.slice A167 (sz r137) c168]) (by rfl) (by kernel_rfl)) (dnrm ?_)
       exact EV (by kernel_rfl) (HJ147 _ _ ⟨A167,c168,b163,(E162.trans E166),n169,g164,(q165.ext E166),rfl⟩)
theorem Jr (x0:Aq) (x1:Aq) (x2:Int) (A1:Option Addr) (c2:Nat) (A4:Option Addr) (c5:Nat) (A7:Option Addr) (c8:Nat) (A10:Option Addr) (c11:Nat) (w:World) (hT:TB w) (n3:RU w A1 c2 x0.lo.m.Abs) (n6:RU w A4 c5 x0.hi.m.Abs) (n9:RU w A7 c8 x1.lo.m.Abs) (n12:RU w A10 c11 x1.hi.m.Abs) (r:Except Int (Ak)) (hr:FB x0 x1 x2=some r) :
  Calls Tryz.prog 112 #[.agg #[.bool x0.lo.m.Neg,.slice A1 (sz x0.lo.m.Abs) c2,.int .i64 x0.lo.e,.bool x0.hi.m.Neg,.slice A4 (sz x0.hi.m.Abs) c5,.int .i64 x0.hi.e],.agg #[.bool x1.lo.m.Neg,.slice A7 (sz x1.lo.m.Abs) c8,.int .i64 x1.lo.e,.bool x1.hi.m.Neg,.slice A10 (sz x1.hi.m.Abs) c11,.int .i64 x1.hi.e],.int .i64 x2] w (RetE 201 HX w r):=by
 unfold FB at hr
 go_enter Tryz.func112,Tryz.ntmps112
 refine wp_seq_k fun K13 h13=>Ai<|Bp rfl rfl fun b14 w1 E15 g16 q17=>?_
 refine nrm ?_
 refine Bp rfl rfl fun b18 w2 E19 g20 q21=>?_
 refine nrm ?_
 have g22:=Nat.le_trans E15.size g20
 have X23:=Ext.trans E15 E19
 refine Aw Ej fun b24 w3 E25 g26 q27=>?_
 refine nrm ?_
 have g28:=Nat.le_trans X23.size g26
 have X29:=Ext.trans X23 E25
 refine Ad<|h13 _ _<|wp_seq_k fun K30 h30=>Di [14] 15 mo rfl fun w4 E31 S32=>have X33:=Ext.trans X29 E31;dA 0 rfl (fun _=>Af (o':=0) DA rfl rfl) ?_
 refine dV 1 rfl (fun _ hw=>Ar Ax rfl ((((q17.ext E19).ext E25).ext E31).ext hw) (by simp only [List.drop_zero,List.take_succ_cons,List.take_zero];rfl) rfl) S32 ?_
 refine dA 2 rfl (fun _=>Af (o':=0) DA rfl rfl) ?_
 refine dV 3 rfl (fun _ hw=>Ar Ax rfl (((q21.ext E25).ext E31).ext hw) (by simp only [List.drop_zero,List.take_succ_cons,List.take_zero];rfl) rfl) S32 ?_
 refine dA 4 rfl (fun _=>Aa rfl) ?_
 refine dA 6 rfl (fun _=>Af (o':=3) DS rfl rfl) ?_
 refine dV 7 rfl (fun _ hw=>Ar Ax rfl ((((q17.ext E19).ext E25).ext E31).ext hw) (by simp only [List.drop_succ_cons,List.drop_zero,List.take_succ_cons,List.take_zero];rfl) rfl) S32 ?_
 refine dA 8 rfl (fun _=>Af (o':=3) DS rfl rfl) ?_
 refine dV 9 rfl (fun _ hw=>Ar Ax rfl (((q21.ext E25).ext E31).ext hw) (by simp only [List.drop_succ_cons,List.drop_zero,List.take_succ_cons,List.take_zero];rfl) rfl) S32 ?_
 refine dA 10 rfl (fun _=>Aa rfl) ?_
 obtain ⟨r34,h35,f36⟩:=Ab hr
 refine dc 5 rfl (by kernel_rfl) (by rfl) (Ae Ls (by rfl)) (Iy x0.lo x1.lo x2 5 A1 c2 A7 c8 w4 (TB.ext X33 hT) (n3.ext X33) (n9.ext X33) r34 h35) ?_
 rintro _ w5 E37 ⟨A38,c39,rfl,n40⟩
 refine dnrm ?_
 have X41:=Ext.trans X33 E37
 have S42:=S32.trans E37
 obtain ⟨r43,h44,f45⟩:=Ab f36
 refine dc 11 rfl (by kernel_rfl) (by rfl) (Ae Ls (by rfl)) (Iy x0.hi x1.hi x2 4 A4 c5 A10 c11 w5 (TB.ext X41 hT) (n6.ext X41) (n12.ext X41) r43 h44) ?_
 rintro _ w6 E46 ⟨A47,c48,rfl,n49⟩
 refine dnrm ?_
 have X50:=Ext.trans X41 E46
 have S51:=S42.trans E46
 refine dA 12 rfl (fun _=>AP (vals:=[(0,.agg #[.bool r34.m.Neg,.slice A38 (sz r34.m.Abs) c39,.int .i64 r34.e]),(1,.agg #[.bool r43.m.Neg,.slice A47 (sz r43.m.Abs) c48,.int .i64 r43.e])]) (cells:=[.bool r34.m.Neg,.slice A38 (sz r34.m.Abs) c39,.int .i64 r34.e,.bool r43.m.Neg,.slice A47 (sz r43.m.Abs) c48,.int .i64 r43.e]) (by rfl) (by kernel_rfl)) ?_
 rcases BY f45 with ⟨r52,h53,f54⟩ | ⟨r52,h53,rfl⟩
 ·refine dcO 13 rfl (by kernel_rfl) (by rfl) (Ae Ik (by rfl)) (Dn (⟨r34,r43⟩:Aq) A38 c39 A47 c48 w6 (TB.ext X50 hT) (n40.ext E46) n49 (.ok r52) h53) ?_
  rintro _ w7 E55 ⟨A57,c58,A60,c61,rfl,n59,n62⟩
  refine dnrm ?_
  have X63:=Ext.trans X50 E55
  have S64:=S51.trans E55
  have q65:=(((q27.ext E31).ext E37).ext E46).ext E55
  refine dk 14 rfl (by kernel_rfl) (by decide) (by rfl) DG rfl rfl q65 rfl rfl rfl rfl (by simp only [SP0,SP1,S0,S1,Nat.reduceAdd];rfl) fun w8 U66 q67=>?_
  have X68:=AW X63 U66 g28
  refine Ci (by kernel_rfl) ?_
  refine h30 _ _<|wp_ret ?_
  obtain rfl:=Option.some.inj f54
  exact fin rfl (Res.cellN rfl AL q67 rfl rfl Res.nil) (GF X68 ⟨A57,c58,A60,c61,rfl,(n59.upd U66 q65 (by decide)),(n62.upd U66 q65 (by decide))⟩)
 ·refine dcP 13 rfl (by kernel_rfl) (by rfl) (Ae Ik (by rfl)) (Dn (⟨r34,r43⟩:Aq) A38 c39 A47 c48 w6 (TB.ext X50 hT) (n40.ext E46) n49 (.error r52) h53) fun w7 E55=>?_
  have X56:=Ext.trans X50 E55
  exact ⟨rfl,EP X56⟩
theorem c_dyad_made_Span__dyad_Plus_1 (x0:Ap) (x1:Ap) (x2:Int) (A1:Option Addr) (c2:Nat) (A4:Option Addr) (c5:Nat) (A7:Option Addr) (c8:Nat) (A10:Option Addr) (c11:Nat) (w:World) (hT:TB w) (n3:RLu w A1 c2 x0.Lo.Man.Abs) (n6:RLu w A4 c5 x0.Hi.Man.Abs) (n9:RLu w A7 c8 x1.Lo.Man.Abs) (n12:RLu w A10 c11 x1.Hi.Man.Abs) (r:Ak × Int) (hr:CG x0 x1 x2=some r) :
  Calls Tryz.prog 100 #[.agg #[.bool x0.Lo.Man.Neg,.slice A1 (List.length x0.Lo.Man.Abs) c2,.int .i64 x0.Lo.Exp,.bool x0.Hi.Man.Neg,.slice A4 (List.length x0.Hi.Man.Abs) c5,.int .i64 x0.Hi.Exp],.agg #[.bool x1.Lo.Man.Neg,.slice A7 (List.length x1.Lo.Man.Abs) c8,.int .i64 x1.Lo.Exp,.bool x1.Hi.Man.Neg,.slice A10 (List.length x1.Hi.Man.Abs) c11,.int .i64 x1.Hi.Exp],.int .i64 x2,.func (.func 112) #[] #[]] w (Ret FX w r):=by
 unfold CG at hr
 obtain ⟨q0,hq0,hr0⟩:=Ab hr
 unfold Ds at hq0
 go_enter_defers Tryz.func100,Tryz.ntmps100
 refine wp_seq_k fun K13 h13=>Ai<|Bp rfl rfl fun b14 w1 E15 g16 q17=>?_
 refine nrm ?_
 refine Bp rfl rfl fun b18 w2 E19 g20 q21=>?_
 refine nrm ?_
 have g22:=Nat.le_trans E15.size g20
 have X23:=Ext.trans E15 E19
 refine Aw Ej fun b24 w3 E25 g26 q27=>?_
 refine nrm ?_
 have g28:=Nat.le_trans X23.size g26
 have X29:=Ext.trans X23 E25
 refine Aw Ku fun b30 w4 E31 g32 q33=>?_
 refine nrm ?_
 have g34:=Nat.le_trans X29.size g32
 have X35:=Ext.trans X29 E31
 refine Ad<|h13 _ _<|wp_seq_k fun K36 h36=>Ai<|Jx (vs:=[.pointer (some ⟨b24,0,none⟩),.pointer (some ⟨b30,0,none⟩)]) (by rfl) (by rfl)<|Ad<|h36 _ _<|wp_seq_k fun K37 h37=>Ai<|have q38:=((q17.ext E19).ext E25).ext E31;sV (Am AL rfl q38 rfl) ?_
 refine sV (Am AL rfl ((q21.ext E25).ext E31) rfl) ?_
 refine DT (vals:=[(0,.agg #[.bool x0.Lo.Man.Neg,.slice A1 (List.length x0.Lo.Man.Abs) c2,.int .i64 x0.Lo.Exp,.bool x0.Hi.Man.Neg,.slice A4 (List.length x0.Hi.Man.Abs) c5,.int .i64 x0.Hi.Exp]),(1,.agg #[.bool x1.Lo.Man.Neg,.slice A7 (List.length x1.Lo.Man.Abs) c8,.int .i64 x1.Lo.Exp,.bool x1.Hi.Man.Neg,.slice A10 (List.length x1.Hi.Man.Abs) c11,.int .i64 x1.Hi.Exp])]) (cs:=[.bool x0.Lo.Man.Neg,.slice A1 (List.length x0.Lo.Man.Abs) c2,.int .i64 x0.Lo.Exp,.bool x0.Hi.Man.Neg,.slice A4 (List.length x0.Hi.Man.Abs) c5,.int .i64 x0.Hi.Exp,.bool x1.Lo.Man.Neg,.slice A7 (List.length x1.Lo.Man.Abs) c8,.int .i64 x1.Lo.Exp,.bool x1.Hi.Man.Neg,.slice A10 (List.length x1.Hi.Man.Abs) c11,.int .i64 x1.Hi.Exp]) IR DG Ej (by rfl) (by decide) (by kernel_rfl) fun b39 w5 E40 g41 q42=>?_
 refine nrm ?_
 have g43:=Nat.le_trans X35.size g41
 have X44:=Ext.trans X35 E40
 rcases BY hq0 with ⟨r45,h46,f47⟩ | ⟨r45,h46,rfl⟩
 ·refine scO (Ae Iq (by rfl)) (CP x0 x1 b39 A1 c2 A4 c5 A7 c8 A10 c11 w5 (TB.ext X44 hT) (n3.ext X44) (n6.ext X44) (n9.ext X44) (n12.ext X44) q42 (.ok r45) h46) ?_
  rintro _ w6 E48 rfl
  refine nrm ?_
  have X51:=Ext.trans X44 E48
  refine Ad<|h37 _ _<|wp_seq_k fun K52 h52=>Ai<|sV (Aa rfl) ?_
  rcases BY f47 with ⟨r53,h54,f55⟩ | ⟨r53,h54,rfl⟩
  ·refine scO (Ae HC (by rfl)) (Ei x2 w6 (TB.ext X51 hT)  (.ok r53) h54) ?_
   rintro _ w7 E56 rfl
   refine nrm ?_
   have X60:=Ext.trans X51 E56
   refine Ad<|h52 _ _<|wp_seq_k fun K61 h61=>Di [7,8] 9 mo rfl fun w8 E62 S63=>?_
   have X64:=Ext.trans X60 E62
   refine dA 0 rfl (fun _=>Aa rfl) ?_ (hQ:=fun _ _ _ h=>dq (rs:=[.cell 8 29,.cell 9 33]) rfl (by decide) h)
   refine dV 1 rfl (fun _ hw=>Am AL rfl (((((q38.ext E40).ext E48).ext E56).ext E62).ext hw) rfl) S63 ?_ (hQ:=fun _ _ _ h=>dq (rs:=[.cell 8 29,.cell 9 33]) rfl (by decide) h)
   refine dV 3 rfl (fun _ hw=>Am AL rfl (((((((q21.ext E25).ext E31).ext E40).ext E48).ext E56).ext E62).ext hw) rfl) S63 ?_ (hQ:=fun _ _ _ h=>dq (rs:=[.cell 8 29,.cell 9 33]) rfl (by decide) h)
   refine dA 5 rfl (fun _=>Aa rfl) ?_ (hQ:=fun _ _ _ h=>dq (rs:=[.cell 8 29,.cell 9 33]) rfl (by decide) h)
   obtain ⟨m65,h66,f67⟩:=Ab f55
   have hx68:=BX h66
   have n69:RU w8 A1 c2 m65:=by unfold RU;rw [hx68];exact (n3.ext X64)
   obtain ⟨m70,h71,f72⟩:=Ab f67
   have hx73:=BX h71
   have n74:RU w8 A4 c5 m70:=by unfold RU;rw [hx73];exact (n6.ext X64)
   obtain ⟨r75,h76,f77⟩:=Ab f72
   refine dc 2 rfl (by kernel_rfl) (by rfl) (Ae Ip (by simp only [sz,hx68,hx73];rfl)) (DW (⟨(⟨(⟨x0.Lo.Man.Neg,m65⟩:Ah),x0.Lo.Exp⟩:Ag),(⟨(⟨x0.Hi.Man.Neg,m70⟩:Ah),x0.Hi.Exp⟩:Ag)⟩:Ak) A1 c2 A4 c5 w8 (TB.ext X64 hT) n69 n74 r75 h76) ?_
   rintro _ w9 E78 ⟨A79,c80,A82,c83,rfl,n81,n84⟩
   refine dnrm ?_
   have X85:=Ext.trans X64 E78
   have S86:=S63.trans E78
   obtain ⟨m87,h88,f89⟩:=Ab f77
   have hx90:=BX h88
   have n91:RU w9 A7 c8 m87:=by unfold RU;rw [hx90];exact (n9.ext X85)
   obtain ⟨m92,h93,f94⟩:=Ab f89
   have hx95:=BX h93
   have n96:RU w9 A10 c11 m92:=by unfold RU;rw [hx95];exact (n12.ext X85)
   obtain ⟨r97,h98,f99⟩:=Ab f94
   refine dc 4 rfl (by kernel_rfl) (by rfl) (Ae Ip (by simp only [sz,hx90,hx95];rfl)) (DW (⟨(⟨(⟨x1.Lo.Man.Neg,m87⟩:Ah),x1.Lo.Exp⟩:Ag),(⟨(⟨x1.Hi.Man.Neg,m92⟩:Ah),x1.Hi.Exp⟩:Ag)⟩:Ak) A7 c8 A10 c11 w9 (TB.ext X85 hT) n91 n96 r97 h98) ?_
   rintro _ w10 E100 ⟨A101,c102,A104,c105,rfl,n103,n106⟩
   refine dnrm ?_
   have X107:=Ext.trans X85 E100
   have S108:=S86.trans E100
   rcases BY f99 with ⟨r109,h110,f111⟩ | ⟨r109,h110,rfl⟩
   ·refine dcO 6 rfl (by kernel_rfl) (by rfl) (GT (first:=[]) (cap:=[]) (args:=[.agg #[.bool r75.lo.m.Neg,.slice A79 (sz r75.lo.m.Abs) c80,.int .i64 r75.lo.e,.bool r75.hi.m.Neg,.slice A82 (sz r75.hi.m.Abs) c83,.int .i64 r75.hi.e],.agg #[.bool r97.lo.m.Neg,.slice A101 (sz r97.lo.m.Abs) c102,.int .i64 r97.lo.e,.bool r97.hi.m.Neg,.slice A104 (sz r97.hi.m.Abs) c105,.int .i64 r97.hi.e],.int .i64 x2]) Nr (by rfl) (by rfl)) (Jr r75 r97 x2 A79 c80 A82 c83 A101 c102 A104 c105 w10 (TB.ext X107 hT) (n81.ext E100) (n84.ext E100) n103 n106 (.ok r109) h110) ?_
    rintro _ w11 E112 ⟨A116,c117,A119,c120,rfl,n118,n121⟩
    refine dnrm ?_
    have X122:=Ext.trans X107 E112
    have S123:=S108.trans E112
    have q124:=(((((((q27.ext E31).ext E40).ext E48).ext E56).ext E62).ext E78).ext E100).ext E112
    refine dk 7 rfl (by kernel_rfl) (by decide) (by rfl) DG rfl rfl q124 rfl rfl rfl rfl (by simp only [SP0,SP1,S0,S1,Nat.reduceAdd];rfl) fun w12 U125 q126=>?_
    have X127:=AW X122 U125 g28
    have ne128:=(Bx.neT (((((((q33.ext E40).ext E48).ext E56).ext E62).ext E78).ext E100).ext E112) q124 (by decide))
    have q129:=(((((((q33.ext E40).ext E48).ext E56).ext E62).ext E78).ext E100).ext E112).upd U125 ne128
    refine dk 8 rfl (by kernel_rfl) (by decide) (by rfl) Jq rfl rfl q129 rfl rfl rfl rfl (by simp only [SP0,SP1,S0,S1,Nat.reduceAdd];rfl) fun w13 U130 q131=>?_
    have X132:=AW X127 U130 g34
    refine Ci (by kernel_rfl) ?_
    refine h61 _ _<|wp_ret ?_
    have n133:=(n118.upd U125 q124 (by decide)).upd U130 q129 (by decide)
    have n134:=(n121.upd U125 q124 (by decide)).upd U130 q129 (by decide)
    obtain rfl:=Option.some.inj f111
    obtain rfl:=Option.some.inj hr0
    exact Ly Er FL rfl (Res.cellN rfl AL (q126.upd U130 (Ne.symm ne128)) rfl rfl (Res.cell1 rfl EM (Bx.cell q131 rfl) Res.nil)) (An X132 ⟨A116,c117,A119,c120,rfl,n133,n134⟩)
   ·refine dcP 6 rfl (by kernel_rfl) (by rfl) (GT (first:=[]) (cap:=[]) (args:=[.agg #[.bool r75.lo.m.Neg,.slice A79 (sz r75.lo.m.Abs) c80,.int .i64 r75.lo.e,.bool r75.hi.m.Neg,.slice A82 (sz r75.hi.m.Abs) c83,.int .i64 r75.hi.e],.agg #[.bool r97.lo.m.Neg,.slice A101 (sz r97.lo.m.Abs) c102,.int .i64 r97.lo.e,.bool r97.hi.m.Neg,.slice A104 (sz r97.hi.m.Abs) c105,.int .i64 r97.hi.e],.int .i64 x2]) Nr (by rfl) (by rfl)) (Jr r75 r97 x2 A79 c80 A82 c83 A101 c102 A104 c105 w10 (TB.ext X107 hT) (n81.ext E100) (n84.ext E100) n103 n106 (.error r109) h110) fun w11 E112=>?_
    have X113:=Ext.trans X107 E112
    have q114:=(((((((q27.ext E31).ext E40).ext E48).ext E56).ext E62).ext E78).ext E100).ext E112
    have q115:=((((((q33.ext E40).ext E48).ext E56).ext E62).ext E78).ext E100).ext E112
    refine Ij FL (Bd b24 b30 (.bool false:Value) (.slice none 0 0:Value) (.int .i64 0:Value) (.bool false:Value) (.slice none 0 0:Value) (.int .i64 0:Value) (.int .i64 0:Value) r109 q114 q115) rfl ?_
    rintro w9 ⟨u9,q9,q9'⟩
    obtain rfl:=Option.some.inj hr0
    exact ⟨_,(Res.cellN rfl AL q9 rfl rfl (Res.cell1 rfl EM (Bx.cell q9' rfl) Res.nil)),An (u9.toExt X113 g28 g34) ⟨none,0,none,0,rfl,RU.nil _,RU.nil _⟩⟩
  ·refine scP (Ae HC (by rfl)) (Ei x2 w6 (TB.ext X51 hT)  (.error r53) h54) fun w7 E56=>?_
   have X57:=Ext.trans X51 E56
   have q58:=(((q27.ext E31).ext E40).ext E48).ext E56
   have q59:=((q33.ext E40).ext E48).ext E56
   refine Ij FL (Bd b24 b30 (.bool false:Value) (.slice none 0 0:Value) (.int .i64 0:Value) (.bool false:Value) (.slice none 0 0:Value) (.int .i64 0:Value) (.int .i64 0:Value) r53 q58 q59) rfl ?_
   rintro w9 ⟨u9,q9,q9'⟩
   obtain rfl:=Option.some.inj hr0
   exact ⟨_,(Res.cellN rfl AL q9 rfl rfl (Res.cell1 rfl EM (Bx.cell q9' rfl) Res.nil)),An (u9.toExt X57 g28 g34) ⟨none,0,none,0,rfl,RU.nil _,RU.nil _⟩⟩
 ·refine scP (Ae Iq (by rfl)) (CP x0 x1 b39 A1 c2 A4 c5 A7 c8 A10 c11 w5 (TB.ext X44 hT) (n3.ext X44) (n6.ext X44) (n9.ext X44) (n12.ext X44) q42 (.error r45) h46) fun w6 E48=>?_
  have X49:=Ext.trans X44 E48
  have q50:=((q27.ext E31).ext E40).ext E48
  refine Ij FL (Bd b24 b30 (.bool false:Value) (.slice none 0 0:Value) (.int .i64 0:Value) (.bool false:Value) (.slice none 0 0:Value) (.int .i64 0:Value) (.int .i64 0:Value) r45 q50 ((q33.ext E40).ext E48)) rfl ?_
  rintro w9 ⟨u9,q9,q9'⟩
  obtain rfl:=Option.some.inj hr0
  exact ⟨_,(Res.cellN rfl AL q9 rfl rfl (Res.cell1 rfl EM (Bx.cell q9' rfl) Res.nil)),An (u9.toExt X49 g28 g34) ⟨none,0,none,0,rfl,RU.nil _,RU.nil _⟩⟩
theorem c_dyad_Plus (x0:Ap) (x1:Ap) (x2:Int) (A1:Option Addr) (c2:Nat) (A4:Option Addr) (c5:Nat) (A7:Option Addr) (c8:Nat) (A10:Option Addr) (c11:Nat) (w:World) (hT:TB w) (n3:RLu w A1 c2 x0.Lo.Man.Abs) (n6:RLu w A4 c5 x0.Hi.Man.Abs) (n9:RLu w A7 c8 x1.Lo.Man.Abs) (n12:RLu w A10 c11 x1.Hi.Man.Abs) (r:Ak × Int) (hr:GO x0 x1 x2=some r) :
  Calls Tryz.prog 30 #[.agg #[.bool x0.Lo.Man.Neg,.slice A1 (List.length x0.Lo.Man.Abs) c2,.int .i64 x0.Lo.Exp,.bool x0.Hi.Man.Neg,.slice A4 (List.length x0.Hi.Man.Abs) c5,.int .i64 x0.Hi.Exp],.agg #[.bool x1.Lo.Man.Neg,.slice A7 (List.length x1.Lo.Man.Abs) c8,.int .i64 x1.Lo.Exp,.bool x1.Hi.Man.Neg,.slice A10 (List.length x1.Hi.Man.Abs) c11,.int .i64 x1.Hi.Exp],.int .i64 x2] w (Ret FX w r):=by
 unfold GO at hr
 go_enter Tryz.func30,Tryz.ntmps30
 refine wp_seq_k fun K13 h13=>Ai<|Bp rfl rfl fun b14 w1 E15 g16 q17=>?_
 refine nrm ?_
 refine Bp rfl rfl fun b18 w2 E19 g20 q21=>?_
 refine nrm ?_
 have g22:=Nat.le_trans E15.size g20
 have X23:=Ext.trans E15 E19
 refine Aw Ej fun b24 w3 E25 g26 q27=>?_
 refine nrm ?_
 have g28:=Nat.le_trans X23.size g26
 have X29:=Ext.trans X23 E25
 refine sV (Ac rfl) ?_
 refine Ad<|h13 _ _<|wp_seq_k fun K30 h30=>Ai<|sV (Am AL rfl ((q17.ext E19).ext E25) rfl) ?_
 refine sV (Am AL rfl (q21.ext E25) rfl) ?_
 refine sV (Aa rfl) ?_
 obtain ⟨r31,h32,f33⟩:=Ab hr
 refine sc (Ae Kp (by rfl)) (c_dyad_made_Span__dyad_Plus_1 x0 x1 x2 A1 c2 A4 c5 A7 c8 A10 c11 w3 (TB.ext X29 hT) (n3.ext X29) (n6.ext X29) (n9.ext X29) (n12.ext X29) r31 h32) ?_
 rintro _ w4 E34 ⟨A35,c36,A38,c39,rfl,n37,n40⟩
 refine nrm ?_
 have X41:=Ext.trans X29 E34
 refine sV (AM rfl rfl) ?_
 refine sV (AM rfl rfl) ?_
 refine Av DG rfl rfl (q27.ext E34) rfl rfl rfl rfl (by simp only [SP0,SP1,S0,S1,Nat.reduceAdd];rfl) fun w5 U42 q43=>?_
 have X44:=AW X41 U42 g28
 refine sV (Ac rfl) ?_
 refine Ad<|h30 _ _<|wp_ret ?_
 have n45:=n37.upd U42 (q27.ext E34) (by decide)
 have n46:=n40.upd U42 (q27.ext E34) (by decide)
 obtain rfl:=Option.some.inj f33
 exact fin rfl (Res.cellN rfl AL q43 rfl rfl (Res.tmp rfl Res.nil)) (An X44 ⟨A35,c36,A38,c39,rfl,n45,n46⟩)
theorem IZ (x0:Aq) (x1:Aq) (x2:Int) (A1:Option Addr) (c2:Nat) (A4:Option Addr) (c5:Nat) (A7:Option Addr) (c8:Nat) (A10:Option Addr) (c11:Nat) (w:World) (hT:TB w) (n3:RU w A1 c2 x0.lo.m.Abs) (n6:RU w A4 c5 x0.hi.m.Abs) (n9:RU w A7 c8 x1.lo.m.Abs) (n12:RU w A10 c11 x1.hi.m.Abs) (r:Except Int (Ak)) (hr:EZ x0 x1 x2=some r) :
  Calls Tryz.prog 114 #[.agg #[.bool x0.lo.m.Neg,.slice A1 (sz x0.lo.m.Abs) c2,.int .i64 x0.lo.e,.bool x0.hi.m.Neg,.slice A4 (sz x0.hi.m.Abs) c5,.int .i64 x0.hi.e],.agg #[.bool x1.lo.m.Neg,.slice A7 (sz x1.lo.m.Abs) c8,.int .i64 x1.lo.e,.bool x1.hi.m.Neg,.slice A10 (sz x1.hi.m.Abs) c11,.int .i64 x1.hi.e],.int .i64 x2] w (RetE 201 HX w r):=by
 unfold EZ at hr
 go_enter Tryz.func114,Tryz.ntmps114
 refine wp_seq_k fun K13 h13=>Ai<|Bp rfl rfl fun b14 w1 E15 g16 q17=>?_
 refine nrm ?_
 refine Bp rfl rfl fun b18 w2 E19 g20 q21=>?_
 refine nrm ?_
 have g22:=Nat.le_trans E15.size g20
 have X23:=Ext.trans E15 E19
 refine Aw Ej fun b24 w3 E25 g26 q27=>?_
 refine nrm ?_
 have g28:=Nat.le_trans X23.size g26
 have X29:=Ext.trans X23 E25
 refine Ad<|h13 _ _<|wp_seq_k fun K30 h30=>Di [16] 17 mo rfl fun w4 E31 S32=>have X33:=Ext.trans X29 E31;dA 0 rfl (fun _=>Af (o':=0) DA rfl rfl) ?_
 refine dV 1 rfl (fun _ hw=>Ar Ax rfl ((((q17.ext E19).ext E25).ext E31).ext hw) (by simp only [List.drop_zero,List.take_succ_cons,List.take_zero];rfl) rfl) S32 ?_
 refine dA 2 rfl (fun _=>Af (o':=3) DS rfl rfl) ?_
 refine dV 3 rfl (fun _ hw=>Ar Ax rfl (((q21.ext E25).ext E31).ext hw) (by simp only [List.drop_succ_cons,List.drop_zero,List.take_succ_cons,List.take_zero];rfl) rfl) S32 ?_
 refine dA 5 rfl (fun _=>Aa rfl) ?_
 refine dA 7 rfl (fun _=>Af (o':=3) DS rfl rfl) ?_
 refine dV 8 rfl (fun _ hw=>Ar Ax rfl ((((q17.ext E19).ext E25).ext E31).ext hw) (by simp only [List.drop_succ_cons,List.drop_zero,List.take_succ_cons,List.take_zero];rfl) rfl) S32 ?_
 refine dA 9 rfl (fun _=>Af (o':=0) DA rfl rfl) ?_
 refine dV 10 rfl (fun _ hw=>Ar Ax rfl (((q21.ext E25).ext E31).ext hw) (by simp only [List.drop_zero,List.take_succ_cons,List.take_zero];rfl) rfl) S32 ?_
 refine dA 12 rfl (fun _=>Aa rfl) ?_
 obtain ⟨r34,h35,f36⟩:=Ab hr
 refine dc 4 rfl (by kernel_rfl) (by rfl) (Ae LN (by rfl)) (Hh x1.hi A10 c11 w4 (TB.ext X33 hT) (n12.ext X33) r34 h35) ?_
 rintro _ w5 E37 ⟨A38,c39,rfl,n40⟩
 refine dnrm ?_
 have X41:=Ext.trans X33 E37
 have S42:=S32.trans E37
 obtain ⟨r43,h44,f45⟩:=Ab f36
 refine dc 6 rfl (by kernel_rfl) (by rfl) (Ae Ls (by rfl)) (Iy x0.lo r34 x2 5 A1 c2 A38 c39 w5 (TB.ext X41 hT) (n3.ext X41) n40 r43 h44) ?_
 rintro _ w6 E46 ⟨A47,c48,rfl,n49⟩
 refine dnrm ?_
 have X50:=Ext.trans X41 E46
 have S51:=S42.trans E46
 obtain ⟨r52,h53,f54⟩:=Ab f45
 refine dc 11 rfl (by kernel_rfl) (by rfl) (Ae LN (by rfl)) (Hh x1.lo A7 c8 w6 (TB.ext X50 hT) (n9.ext X50) r52 h53) ?_
 rintro _ w7 E55 ⟨A56,c57,rfl,n58⟩
 refine dnrm ?_
 have X59:=Ext.trans X50 E55
 have S60:=S51.trans E55
 obtain ⟨r61,h62,f63⟩:=Ab f54
 refine dc 13 rfl (by kernel_rfl) (by rfl) (Ae Ls (by rfl)) (Iy x0.hi r52 x2 4 A4 c5 A56 c57 w7 (TB.ext X59 hT) (n6.ext X59) n58 r61 h62) ?_
 rintro _ w8 E64 ⟨A65,c66,rfl,n67⟩
 refine dnrm ?_
 have X68:=Ext.trans X59 E64
 have S69:=S60.trans E64
 refine dA 14 rfl (fun _=>AP (vals:=[(0,.agg #[.bool r43.m.Neg,.slice A47 (sz r43.m.Abs) c48,.int .i64 r43.e]),(1,.agg #[.bool r61.m.Neg,.slice A65 (sz r61.m.Abs) c66,.int .i64 r61.e])]) (cells:=[.bool r43.m.Neg,.slice A47 (sz r43.m.Abs) c48,.int .i64 r43.e,.bool r61.m.Neg,.slice A65 (sz r61.m.Abs) c66,.int .i64 r61.e]) (by rfl) (by kernel_rfl)) ?_
 rcases BY f63 with ⟨r70,h71,f72⟩ | ⟨r70,h71,rfl⟩
 ·refine dcO 15 rfl (by kernel_rfl) (by rfl) (Ae Ik (by rfl)) (Dn (⟨r43,r61⟩:Aq) A47 c48 A65 c66 w8 (TB.ext X68 hT) ((n49.ext E55).ext E64) n67 (.ok r70) h71) ?_
  rintro _ w9 E73 ⟨A75,c76,A78,c79,rfl,n77,n80⟩
  refine dnrm ?_
  have X81:=Ext.trans X68 E73
  have S82:=S69.trans E73
  have q83:=(((((q27.ext E31).ext E37).ext E46).ext E55).ext E64).ext E73
  refine dk 16 rfl (by kernel_rfl) (by decide) (by rfl) DG rfl rfl q83 rfl rfl rfl rfl (by simp only [SP0,SP1,S0,S1,Nat.reduceAdd];rfl) fun w10 U84 q85=>?_
  have X86:=AW X81 U84 g28
  refine Ci (by kernel_rfl) ?_
  refine h30 _ _<|wp_ret ?_
  obtain rfl:=Option.some.inj f72
  exact fin rfl (Res.cellN rfl AL q85 rfl rfl Res.nil) (GF X86 ⟨A75,c76,A78,c79,rfl,(n77.upd U84 q83 (by decide)),(n80.upd U84 q83 (by decide))⟩)
 ·refine dcP 15 rfl (by kernel_rfl) (by rfl) (Ae Ik (by rfl)) (Dn (⟨r43,r61⟩:Aq) A47 c48 A65 c66 w8 (TB.ext X68 hT) ((n49.ext E55).ext E64) n67 (.error r70) h71) fun w9 E73=>?_
  have X74:=Ext.trans X68 E73
  exact ⟨rfl,EP X74⟩
theorem c_dyad_made_Span__dyad_Minus_1 (x0:Ap) (x1:Ap) (x2:Int) (A1:Option Addr) (c2:Nat) (A4:Option Addr) (c5:Nat) (A7:Option Addr) (c8:Nat) (A10:Option Addr) (c11:Nat) (w:World) (hT:TB w) (n3:RLu w A1 c2 x0.Lo.Man.Abs) (n6:RLu w A4 c5 x0.Hi.Man.Abs) (n9:RLu w A7 c8 x1.Lo.Man.Abs) (n12:RLu w A10 c11 x1.Hi.Man.Abs) (r:Ak × Int) (hr:Cw x0 x1 x2=some r) :
  Calls Tryz.prog 100 #[.agg #[.bool x0.Lo.Man.Neg,.slice A1 (List.length x0.Lo.Man.Abs) c2,.int .i64 x0.Lo.Exp,.bool x0.Hi.Man.Neg,.slice A4 (List.length x0.Hi.Man.Abs) c5,.int .i64 x0.Hi.Exp],.agg #[.bool x1.Lo.Man.Neg,.slice A7 (List.length x1.Lo.Man.Abs) c8,.int .i64 x1.Lo.Exp,.bool x1.Hi.Man.Neg,.slice A10 (List.length x1.Hi.Man.Abs) c11,.int .i64 x1.Hi.Exp],.int .i64 x2,.func (.func 114) #[] #[]] w (Ret FX w r):=by
 unfold Cw at hr
 obtain ⟨q0,hq0,hr0⟩:=Ab hr
 unfold CX at hq0
 go_enter_defers Tryz.func100,Tryz.ntmps100
 refine wp_seq_k fun K13 h13=>Ai<|Bp rfl rfl fun b14 w1 E15 g16 q17=>?_
 refine nrm ?_
 refine Bp rfl rfl fun b18 w2 E19 g20 q21=>?_
 refine nrm ?_
 have g22:=Nat.le_trans E15.size g20
 have X23:=Ext.trans E15 E19
 refine Aw Ej fun b24 w3 E25 g26 q27=>?_
 refine nrm ?_
 have g28:=Nat.le_trans X23.size g26
 have X29:=Ext.trans X23 E25
 refine Aw Ku fun b30 w4 E31 g32 q33=>?_
 refine nrm ?_
 have g34:=Nat.le_trans X29.size g32
 have X35:=Ext.trans X29 E31
 refine Ad<|h13 _ _<|wp_seq_k fun K36 h36=>Ai<|Jx (vs:=[.pointer (some ⟨b24,0,none⟩),.pointer (some ⟨b30,0,none⟩)]) (by rfl) (by rfl)<|Ad<|h36 _ _<|wp_seq_k fun K37 h37=>Ai<|have q38:=((q17.ext E19).ext E25).ext E31;sV (Am AL rfl q38 rfl) ?_
 refine sV (Am AL rfl ((q21.ext E25).ext E31) rfl) ?_
 refine DT (vals:=[(0,.agg #[.bool x0.Lo.Man.Neg,.slice A1 (List.length x0.Lo.Man.Abs) c2,.int .i64 x0.Lo.Exp,.bool x0.Hi.Man.Neg,.slice A4 (List.length x0.Hi.Man.Abs) c5,.int .i64 x0.Hi.Exp]),(1,.agg #[.bool x1.Lo.Man.Neg,.slice A7 (List.length x1.Lo.Man.Abs) c8,.int .i64 x1.Lo.Exp,.bool x1.Hi.Man.Neg,.slice A10 (List.length x1.Hi.Man.Abs) c11,.int .i64 x1.Hi.Exp])]) (cs:=[.bool x0.Lo.Man.Neg,.slice A1 (List.length x0.Lo.Man.Abs) c2,.int .i64 x0.Lo.Exp,.bool x0.Hi.Man.Neg,.slice A4 (List.length x0.Hi.Man.Abs) c5,.int .i64 x0.Hi.Exp,.bool x1.Lo.Man.Neg,.slice A7 (List.length x1.Lo.Man.Abs) c8,.int .i64 x1.Lo.Exp,.bool x1.Hi.Man.Neg,.slice A10 (List.length x1.Hi.Man.Abs) c11,.int .i64 x1.Hi.Exp]) IR DG Ej (by rfl) (by decide) (by kernel_rfl) fun b39 w5 E40 g41 q42=>?_
 refine nrm ?_
 have g43:=Nat.le_trans X35.size g41
 have X44:=Ext.trans X35 E40
 rcases BY hq0 with ⟨r45,h46,f47⟩ | ⟨r45,h46,rfl⟩
 ·refine scO (Ae Iq (by rfl)) (CP x0 x1 b39 A1 c2 A4 c5 A7 c8 A10 c11 w5 (TB.ext X44 hT) (n3.ext X44) (n6.ext X44) (n9.ext X44) (n12.ext X44) q42 (.ok r45) h46) ?_
  rintro _ w6 E48 rfl
  refine nrm ?_
  have X51:=Ext.trans X44 E48
  refine Ad<|h37 _ _<|wp_seq_k fun K52 h52=>Ai<|sV (Aa rfl) ?_
  rcases BY f47 with ⟨r53,h54,f55⟩ | ⟨r53,h54,rfl⟩
  ·refine scO (Ae HC (by rfl)) (Ei x2 w6 (TB.ext X51 hT)  (.ok r53) h54) ?_
   rintro _ w7 E56 rfl
   refine nrm ?_
   have X60:=Ext.trans X51 E56
   refine Ad<|h52 _ _<|wp_seq_k fun K61 h61=>Di [7,8] 9 mo rfl fun w8 E62 S63=>?_
   have X64:=Ext.trans X60 E62
   refine dA 0 rfl (fun _=>Aa rfl) ?_ (hQ:=fun _ _ _ h=>dq (rs:=[.cell 8 29,.cell 9 33]) rfl (by decide) h)
   refine dV 1 rfl (fun _ hw=>Am AL rfl (((((q38.ext E40).ext E48).ext E56).ext E62).ext hw) rfl) S63 ?_ (hQ:=fun _ _ _ h=>dq (rs:=[.cell 8 29,.cell 9 33]) rfl (by decide) h)
   refine dV 3 rfl (fun _ hw=>Am AL rfl (((((((q21.ext E25).ext E31).ext E40).ext E48).ext E56).ext E62).ext hw) rfl) S63 ?_ (hQ:=fun _ _ _ h=>dq (rs:=[.cell 8 29,.cell 9 33]) rfl (by decide) h)
   refine dA 5 rfl (fun _=>Aa rfl) ?_ (hQ:=fun _ _ _ h=>dq (rs:=[.cell 8 29,.cell 9 33]) rfl (by decide) h)
   obtain ⟨m65,h66,f67⟩:=Ab f55
   have hx68:=BX h66
   have n69:RU w8 A1 c2 m65:=by unfold RU;rw [hx68];exact (n3.ext X64)
   obtain ⟨m70,h71,f72⟩:=Ab f67
   have hx73:=BX h71
   have n74:RU w8 A4 c5 m70:=by unfold RU;rw [hx73];exact (n6.ext X64)
   obtain ⟨r75,h76,f77⟩:=Ab f72
   refine dc 2 rfl (by kernel_rfl) (by rfl) (Ae Ip (by simp only [sz,hx68,hx73];rfl)) (DW (⟨(⟨(⟨x0.Lo.Man.Neg,m65⟩:Ah),x0.Lo.Exp⟩:Ag),(⟨(⟨x0.Hi.Man.Neg,m70⟩:Ah),x0.Hi.Exp⟩:Ag)⟩:Ak) A1 c2 A4 c5 w8 (TB.ext X64 hT) n69 n74 r75 h76) ?_
   rintro _ w9 E78 ⟨A79,c80,A82,c83,rfl,n81,n84⟩
   refine dnrm ?_
   have X85:=Ext.trans X64 E78
   have S86:=S63.trans E78
   obtain ⟨m87,h88,f89⟩:=Ab f77
   have hx90:=BX h88
   have n91:RU w9 A7 c8 m87:=by unfold RU;rw [hx90];exact (n9.ext X85)
   obtain ⟨m92,h93,f94⟩:=Ab f89
   have hx95:=BX h93
   have n96:RU w9 A10 c11 m92:=by unfold RU;rw [hx95];exact (n12.ext X85)
   obtain ⟨r97,h98,f99⟩:=Ab f94
   refine dc 4 rfl (by kernel_rfl) (by rfl) (Ae Ip (by simp only [sz,hx90,hx95];rfl)) (DW (⟨(⟨(⟨x1.Lo.Man.Neg,m87⟩:Ah),x1.Lo.Exp⟩:Ag),(⟨(⟨x1.Hi.Man.Neg,m92⟩:Ah),x1.Hi.Exp⟩:Ag)⟩:Ak) A7 c8 A10 c11 w9 (TB.ext X85 hT) n91 n96 r97 h98) ?_
   rintro _ w10 E100 ⟨A101,c102,A104,c105,rfl,n103,n106⟩
   refine dnrm ?_
   have X107:=Ext.trans X85 E100
   have S108:=S86.trans E100
   rcases BY f99 with ⟨r109,h110,f111⟩ | ⟨r109,h110,rfl⟩
   ·refine dcO 6 rfl (by kernel_rfl) (by rfl) (GT (first:=[]) (cap:=[]) (args:=[.agg #[.bool r75.lo.m.Neg,.slice A79 (sz r75.lo.m.Abs) c80,.int .i64 r75.lo.e,.bool r75.hi.m.Neg,.slice A82 (sz r75.hi.m.Abs) c83,.int .i64 r75.hi.e],.agg #[.bool r97.lo.m.Neg,.slice A101 (sz r97.lo.m.Abs) c102,.int .i64 r97.lo.e,.bool r97.hi.m.Neg,.slice A104 (sz r97.hi.m.Abs) c105,.int .i64 r97.hi.e],.int .i64 x2]) NE (by rfl) (by rfl)) (IZ r75 r97 x2 A79 c80 A82 c83 A101 c102 A104 c105 w10 (TB.ext X107 hT) (n81.ext E100) (n84.ext E100) n103 n106 (.ok r109) h110) ?_
    rintro _ w11 E112 ⟨A116,c117,A119,c120,rfl,n118,n121⟩
    refine dnrm ?_
    have X122:=Ext.trans X107 E112
    have S123:=S108.trans E112
    have q124:=(((((((q27.ext E31).ext E40).ext E48).ext E56).ext E62).ext E78).ext E100).ext E112
    refine dk 7 rfl (by kernel_rfl) (by decide) (by rfl) DG rfl rfl q124 rfl rfl rfl rfl (by simp only [SP0,SP1,S0,S1,Nat.reduceAdd];rfl) fun w12 U125 q126=>?_
    have X127:=AW X122 U125 g28
    have ne128:=(Bx.neT (((((((q33.ext E40).ext E48).ext E56).ext E62).ext E78).ext E100).ext E112) q124 (by decide))
    have q129:=(((((((q33.ext E40).ext E48).ext E56).ext E62).ext E78).ext E100).ext E112).upd U125 ne128
    refine dk 8 rfl (by kernel_rfl) (by decide) (by rfl) Jq rfl rfl q129 rfl rfl rfl rfl (by simp only [SP0,SP1,S0,S1,Nat.reduceAdd];rfl) fun w13 U130 q131=>?_
    have X132:=AW X127 U130 g34
    refine Ci (by kernel_rfl) ?_
    refine h61 _ _<|wp_ret ?_
    have n133:=(n118.upd U125 q124 (by decide)).upd U130 q129 (by decide)
    have n134:=(n121.upd U125 q124 (by decide)).upd U130 q129 (by decide)
    obtain rfl:=Option.some.inj f111
    obtain rfl:=Option.some.inj hr0
    exact Ly Er FL rfl (Res.cellN rfl AL (q126.upd U130 (Ne.symm ne128)) rfl rfl (Res.cell1 rfl EM (Bx.cell q131 rfl) Res.nil)) (An X132 ⟨A116,c117,A119,c120,rfl,n133,n134⟩)
   ·refine dcP 6 rfl (by kernel_rfl) (by rfl) (GT (first:=[]) (cap:=[]) (args:=[.agg #[.bool r75.lo.m.Neg,.slice A79 (sz r75.lo.m.Abs) c80,.int .i64 r75.lo.e,.bool r75.hi.m.Neg,.slice A82 (sz r75.hi.m.Abs) c83,.int .i64 r75.hi.e],.agg #[.bool r97.lo.m.Neg,.slice A101 (sz r97.lo.m.Abs) c102,.int .i64 r97.lo.e,.bool r97.hi.m.Neg,.slice A104 (sz r97.hi.m.Abs) c105,.int .i64 r97.hi.e],.int .i64 x2]) NE (by rfl) (by rfl)) (IZ r75 r97 x2 A79 c80 A82 c83 A101 c102 A104 c105 w10 (TB.ext X107 hT) (n81.ext E100) (n84.ext E100) n103 n106 (.error r109) h110) fun w11 E112=>?_
    have X113:=Ext.trans X107 E112
    have q114:=(((((((q27.ext E31).ext E40).ext E48).ext E56).ext E62).ext E78).ext E100).ext E112
    have q115:=((((((q33.ext E40).ext E48).ext E56).ext E62).ext E78).ext E100).ext E112
    refine Ij FL (Bd b24 b30 (.bool false:Value) (.slice none 0 0:Value) (.int .i64 0:Value) (.bool false:Value) (.slice none 0 0:Value) (.int .i64 0:Value) (.int .i64 0:Value) r109 q114 q115) rfl ?_
    rintro w9 ⟨u9,q9,q9'⟩
    obtain rfl:=Option.some.inj hr0
    exact ⟨_,(Res.cellN rfl AL q9 rfl rfl (Res.cell1 rfl EM (Bx.cell q9' rfl) Res.nil)),An (u9.toExt X113 g28 g34) ⟨none,0,none,0,rfl,RU.nil _,RU.nil _⟩⟩
  ·refine scP (Ae HC (by rfl)) (Ei x2 w6 (TB.ext X51 hT)  (.error r53) h54) fun w7 E56=>?_
   have X57:=Ext.trans X51 E56
   have q58:=(((q27.ext E31).ext E40).ext E48).ext E56
   have q59:=((q33.ext E40).ext E48).ext E56
   refine Ij FL (Bd b24 b30 (.bool false:Value) (.slice none 0 0:Value) (.int .i64 0:Value) (.bool false:Value) (.slice none 0 0:Value) (.int .i64 0:Value) (.int .i64 0:Value) r53 q58 q59) rfl ?_
   rintro w9 ⟨u9,q9,q9'⟩
   obtain rfl:=Option.some.inj hr0
   exact ⟨_,(Res.cellN rfl AL q9 rfl rfl (Res.cell1 rfl EM (Bx.cell q9' rfl) Res.nil)),An (u9.toExt X57 g28 g34) ⟨none,0,none,0,rfl,RU.nil _,RU.nil _⟩⟩
 ·refine scP (Ae Iq (by rfl)) (CP x0 x1 b39 A1 c2 A4 c5 A7 c8 A10 c11 w5 (TB.ext X44 hT) (n3.ext X44) (n6.ext X44) (n9.ext X44) (n12.ext X44) q42 (.error r45) h46) fun w6 E48=>?_
  have X49:=Ext.trans X44 E48
  have q50:=((q27.ext E31).ext E40).ext E48
  refine Ij FL (Bd b24 b30 (.bool false:Value) (.slice none 0 0:Value) (.int .i64 0:Value) (.bool false:Value) (.slice none 0 0:Value) (.int .i64 0:Value) (.int .i64 0:Value) r45 q50 ((q33.ext E40).ext E48)) rfl ?_
  rintro w9 ⟨u9,q9,q9'⟩
  obtain rfl:=Option.some.inj hr0
  exact ⟨_,(Res.cellN rfl AL q9 rfl rfl (Res.cell1 rfl EM (Bx.cell q9' rfl) Res.nil)),An (u9.toExt X49 g28 g34) ⟨none,0,none,0,rfl,RU.nil _,RU.nil _⟩⟩
theorem c_dyad_Minus (x0:Ap) (x1:Ap) (x2:Int) (A1:Option Addr) (c2:Nat) (A4:Option Addr) (c5:Nat) (A7:Option Addr) (c8:Nat) (A10:Option Addr) (c11:Nat) (w:World) (hT:TB w) (n3:RLu w A1 c2 x0.Lo.Man.Abs) (n6:RLu w A4 c5 x0.Hi.Man.Abs) (n9:RLu w A7 c8 x1.Lo.Man.Abs) (n12:RLu w A10 c11 x1.Hi.Man.Abs) (r:Ak × Int) (hr:Gw x0 x1 x2=some r) :
  Calls Tryz.prog 31 #[.agg #[.bool x0.Lo.Man.Neg,.slice A1 (List.length x0.Lo.Man.Abs) c2,.int .i64 x0.Lo.Exp,.bool x0.Hi.Man.Neg,.slice A4 (List.length x0.Hi.Man.Abs) c5,.int .i64 x0.Hi.Exp],.agg #[.bool x1.Lo.Man.Neg,.slice A7 (List.length x1.Lo.Man.Abs) c8,.int .i64 x1.Lo.Exp,.bool x1.Hi.Man.Neg,.slice A10 (List.length x1.Hi.Man.Abs) c11,.int .i64 x1.Hi.Exp],.int .i64 x2] w (Ret FX w r):=by
 unfold Gw at hr
 go_enter Tryz.func31,Tryz.ntmps31
 refine wp_seq_k fun K13 h13=>Ai<|Bp rfl rfl fun b14 w1 E15 g16 q17=>?_
 refine nrm ?_
 refine Bp rfl rfl fun b18 w2 E19 g20 q21=>?_
 refine nrm ?_
 have g22:=Nat.le_trans E15.size g20
 have X23:=Ext.trans E15 E19
 refine Aw Ej fun b24 w3 E25 g26 q27=>?_
 refine nrm ?_
 have g28:=Nat.le_trans X23.size g26
 have X29:=Ext.trans X23 E25
 refine sV (Ac rfl) ?_
 refine Ad<|h13 _ _<|wp_seq_k fun K30 h30=>Ai<|sV (Am AL rfl ((q17.ext E19).ext E25) rfl) ?_
 refine sV (Am AL rfl (q21.ext E25) rfl) ?_
 refine sV (Aa rfl) ?_
 obtain ⟨r31,h32,f33⟩:=Ab hr
 refine sc (Ae Kp (by rfl)) (c_dyad_made_Span__dyad_Minus_1 x0 x1 x2 A1 c2 A4 c5 A7 c8 A10 c11 w3 (TB.ext X29 hT) (n3.ext X29) (n6.ext X29) (n9.ext X29) (n12.ext X29) r31 h32) ?_
 rintro _ w4 E34 ⟨A35,c36,A38,c39,rfl,n37,n40⟩
 refine nrm ?_
 have X41:=Ext.trans X29 E34
 refine sV (AM rfl rfl) ?_
 refine sV (AM rfl rfl) ?_
 refine Av DG rfl rfl (q27.ext E34) rfl rfl rfl rfl (by simp only [SP0,SP1,S0,S1,Nat.reduceAdd];rfl) fun w5 U42 q43=>?_
 have X44:=AW X41 U42 g28
 refine sV (Ac rfl) ?_
 refine Ad<|h30 _ _<|wp_ret ?_
 have n45:=n37.upd U42 (q27.ext E34) (by decide)
 have n46:=n40.upd U42 (q27.ext E34) (by decide)
 obtain rfl:=Option.some.inj f33
 exact fin rfl (Res.cellN rfl AL q43 rfl rfl (Res.tmp rfl Res.nil)) (An X44 ⟨A35,c36,A38,c39,rfl,n45,n46⟩)
theorem c_sorobanlaw04_DyadSpans (x0:Ap) (x1:Ap) (x2:Int) (A1:Option Addr) (c2:Nat) (A4:Option Addr) (c5:Nat) (A7:Option Addr) (c8:Nat) (A10:Option Addr) (c11:Nat) (w:World) (hT:TB w) (n3:RLu w A1 c2 x0.Lo.Man.Abs) (n6:RLu w A4 c5 x0.Hi.Man.Abs) (n9:RLu w A7 c8 x1.Lo.Man.Abs) (n12:RLu w A10 c11 x1.Hi.Man.Abs) (r:Bool) (hr:Ez x0 x1 x2=some r) :
  Calls Tryz.prog 4 #[.agg #[.bool x0.Lo.Man.Neg,.slice A1 (List.length x0.Lo.Man.Abs) c2,.int .i64 x0.Lo.Exp,.bool x0.Hi.Man.Neg,.slice A4 (List.length x0.Hi.Man.Abs) c5,.int .i64 x0.Hi.Exp],.agg #[.bool x1.Lo.Man.Neg,.slice A7 (List.length x1.Lo.Man.Abs) c8,.int .i64 x1.Lo.Exp,.bool x1.Hi.Man.Neg,.slice A10 (List.length x1.Hi.Man.Abs) c11,.int .i64 x1.Hi.Exp],.int .i64 x2] w (Ret FW w r):=by
 unfold Ez at hr
 go_enter Tryz.func4,Tryz.ntmps4
 refine wp_seq_k fun K13 h13=>Ai<|Bp rfl rfl fun b14 w1 E15 g16 q17=>?_
 refine nrm ?_
 refine Bp rfl rfl fun b18 w2 E19 g20 q21=>?_
 refine nrm ?_
 have g22:=Nat.le_trans E15.size g20
 have X23:=Ext.trans E15 E19
 refine sV (Ac rfl) ?_
 refine Ad<|h13 _ _<|wp_seq_k fun K24 h24=>wp_seq_k fun K25 h25=>Ai<|sV (Am AL rfl (q17.ext E19) rfl) ?_
 obtain ⟨r26,h27,f28⟩:=Ab hr
 refine sc (Ae Ob (by rfl)) (GD x0 A1 c2 A4 c5 w2 (TB.ext X23 hT) (n3.ext X23) (n6.ext X23) r26 h27) ?_
 rintro _ w3 E29 rfl
 refine nrm ?_
 have X30:=Ext.trans X23 E29
 refine sb (GE rfl) fun z31 hz31=>?_
 refine nrm ?_
 refine sV (Aa rfl) ?_
 obtain ⟨m43,h44,f45⟩:=Ab f28
 refine BT 8 (fun l l' w'=>∃(t47:Value) (t48:Value) (t49:Value),UpdS [] w3 w'∧l'=((((l.set 21 t47).set 22 t48).set 23 t49).set 24 (.bool m43))) ?_ ?_
 ·intro HJ50
  rcases Bool.eq_false_or_eq_true z31 with e51 | e51
  ·have p54:=zP hz31 e51
   have f55:=ifP p54 h44
   refine sP ?_ (hw:=wgF rfl e51)
   refine sP ?_ (hw:=wgF rfl e51)
   refine sP ?_ (hw:=wgF rfl e51)
   refine sV (AA (evb rfl e51) rfl) ?_
   obtain rfl:=Option.some.inj f55
   exact HJ50 _ _ ⟨undef,undef,undef,(UpdS.refl _ _),(by simp only [S0,S1]<;>rfl)⟩
  ·have p52:=zN hz31 e51
   have f53:=ifN p52 h44
   refine sV (Am AL rfl (q21.ext E29) rfl) ?_ (hw:=wgT rfl e51)
   obtain ⟨r56,h57,f58⟩:=Ab f53
   refine sc (Ae Ob (by rfl)) (GD x1 A7 c8 A10 c11 w3 (TB.ext X30 hT) (n9.ext X30) (n12.ext X30) r56 h57) ?_ (hw:=wgT rfl e51)
   rintro _ w4 E59 rfl
   refine nrm ?_
   refine sb (GE rfl) ?_ (hw:=wgT rfl e51)
   intro z61 hz61
   refine nrm ?_
   refine sV (AE (evb rfl e51) rfl) ?_
   obtain rfl:z61=decide (¬(r56=true)):=bz hz61
   obtain rfl:=Option.some.inj f58
   exact HJ50 _ _ ⟨(.agg #[.bool x1.Lo.Man.Neg,.slice A7 (List.length x1.Lo.Man.Abs) c8,.int .i64 x1.Lo.Exp,.bool x1.Hi.Man.Neg,.slice A10 (List.length x1.Hi.Man.Abs) c11,.int .i64 x1.Hi.Exp]),(.bool r56),(.bool (decide (¬(r56=true)))),((UpdS.refl _ _).ext E59),(by simp only [S0,S1]<;>rfl)⟩
 ·rintro l' w4 ⟨t47,t48,t49,U46,hq'⟩ l'' hl
  rw [hq'] at hl
  clear hq'
  simp only [S0,S1] at hl
  subst hl
  have X62:=GB X30 U46 (X30).size al0
  refine Ad<|h25 _ _ ?_
  rcases Bool.eq_false_or_eq_true m43 with e74 | e74
  ·have p77:=e74
   have f78:=ifP p77 f45
   refine wp_cond_true (Al (evb rfl e74))<|wp_seq_k fun K643 h643=>Ai ?_
   obtain ⟨r644,h645,f646⟩:=Ab f78
   refine sc (Ae Oc (by rfl)) (Hf w4 (TB.ext X62 hT)  r644 h645) ?_
   rintro _ w5 E647 rfl
   refine nrm ?_
   have X648:=Ext.trans X62 E647
   refine sV (Ac rfl) ?_
   refine Ad<|h643 _ _<|wp_ret ?_
   obtain rfl:=Option.some.inj f646
   exact fin rfl (Res.tmp rfl Res.nil) (An X648 rfl)
  ·have p75:=bF e74
   have f76:=ifN p75 f45
   refine wp_cond_false (Al (evb rfl e74))<|wp_skip<|h24 _ _<|wp_seq_k fun K79 h79=>Ai<|sV (Aa rfl) ?_
   obtain ⟨r80,h81,f82⟩:=Ab f76
   refine sc (Ae en_16 (by rfl)) (c_sorobanlaw04_fine x2 w4 (TB.ext X62 hT)  r80 h81) ?_
   rintro _ w5 E83 rfl
   refine nrm ?_
   have X84:=Ext.trans X62 E83
   refine sV (Aa rfl) ?_
   obtain ⟨m96,h97,f98⟩:=Ab f82
   refine BT 6 (fun l l' w'=>∃(t100:Value) (t101:Value),UpdS [] w5 w'∧l'=(((l.set 29 t100).set 30 t101).set 31 (.bool m96))) ?_ ?_
   ·intro HJ102
    rcases Bool.eq_false_or_eq_true r80 with e103 | e103
    ·have p106:=e103
     have f107:=ifP p106 h97
     have q108:=(((q17.ext E19).ext E29).updS U46 nm0).ext E83
     refine sV (Am AL rfl q108 rfl) ?_ (hw:=wgT rfl e103)
     obtain ⟨r109,h110,f111⟩:=Ab f107
     refine sc (Ae NW (by rfl)) (He x0 A1 c2 A4 c5 w5 (TB.ext X84 hT) (n3.ext X84) (n6.ext X84) r109 h110) ?_ (hw:=wgT rfl e103)
     rintro _ w6 E112 rfl
     refine nrm ?_
     refine sV (AA (evb rfl e103) rfl) ?_
     obtain rfl:=Option.some.inj f111
     exact HJ102 _ _ ⟨(.agg #[.bool x0.Lo.Man.Neg,.slice A1 (List.length x0.Lo.Man.Abs) c2,.int .i64 x0.Lo.Exp,.bool x0.Hi.Man.Neg,.slice A4 (List.length x0.Hi.Man.Abs) c5,.int .i64 x0.Hi.Exp]),(.bool r109),((UpdS.refl _ _).ext E112),(by simp only [S0,S1]<;>rfl)⟩
    ·have p104:=bF e103
     have f105:=ifN p104 h97
     refine sP ?_ (hw:=wgF rfl e103)
     refine sP ?_ (hw:=wgF rfl e103)
     refine sV (AE (evb rfl e103) rfl) ?_
     obtain rfl:=Option.some.inj f105
     exact HJ102 _ _ ⟨undef,undef,(UpdS.refl _ _),(by simp only [S0,S1]<;>rfl)⟩
   ·rintro l' w6 ⟨t100,t101,U99,hq'⟩ l'' hl
    rw [hq'] at hl
    clear hq'
    simp only [S0,S1] at hl
    subst hl
    have X114:=GB X84 U99 (X84).size al0
    refine sV (Aa rfl) ?_
    obtain ⟨m126,h127,f128⟩:=Ab f98
    refine BT 10 (fun l l' w'=>∃(t130:Value) (t131:Value),UpdS [] w6 w'∧l'=(((l.set 33 t130).set 34 t131).set 35 (.bool m126))) ?_ ?_
    ·intro HJ132
     rcases Bool.eq_false_or_eq_true m96 with e133 | e133
     ·have p136:=e133
      have f137:=ifP p136 h127
      have q138:=(((q21.ext E29).updS U46 nm0).ext E83).updS U99 nm0
      refine sV (Am AL rfl q138 rfl) ?_ (hw:=wgT rfl e133)
      obtain ⟨r139,h140,f141⟩:=Ab f137
      refine sc (Ae NW (by rfl)) (He x1 A7 c8 A10 c11 w6 (TB.ext X114 hT) (n9.ext X114) (n12.ext X114) r139 h140) ?_ (hw:=wgT rfl e133)
      rintro _ w7 E142 rfl
      refine nrm ?_
      refine sV (AA (evb rfl e133) rfl) ?_
      obtain rfl:=Option.some.inj f141
      exact HJ132 _ _ ⟨(.agg #[.bool x1.Lo.Man.Neg,.slice A7 (List.length x1.Lo.Man.Abs) c8,.int .i64 x1.Lo.Exp,.bool x1.Hi.Man.Neg,.slice A10 (List.length x1.Hi.Man.Abs) c11,.int .i64 x1.Hi.Exp]),(.bool r139),((UpdS.refl _ _).ext E142),(by simp only [S0,S1]<;>rfl)⟩
     ·have p134:=bF e133
      have f135:=ifN p134 h127
      refine sP ?_ (hw:=wgF rfl e133)
      refine sP ?_ (hw:=wgF rfl e133)
      refine sV (AE (evb rfl e133) rfl) ?_
      obtain rfl:=Option.some.inj f135
      exact HJ132 _ _ ⟨undef,undef,(UpdS.refl _ _),(by simp only [S0,S1]<;>rfl)⟩
    ·rintro l' w7 ⟨t130,t131,U129,hq'⟩ l'' hl
     rw [hq'] at hl
     clear hq'
     simp only [S0,S1] at hl
     subst hl
     have X144:=GB X114 U129 (X114).size al0
     obtain ⟨r145,h146,f147⟩:=Ab f128
     refine sc (Ae en_18 (by rfl)) (c_sorobanlaw04_arg m126 w7 (TB.ext X144 hT)  r145 h146) ?_
     rintro _ w8 E148 rfl
     refine nrm ?_
     have X149:=Ext.trans X144 E148
     refine sV (Ac rfl) ?_
     refine Ad<|h79 _ _<|wp_seq_k fun K150 h150=>Ai<|Aw Ej fun b151 w9 E152 g153 q154=>?_
     refine nrm ?_
     have g155:=Nat.le_trans X149.size g153
     have X156:=Ext.trans X149 E152
     refine Aw Ej fun b157 w10 E158 g159 q160=>?_
     refine nrm ?_
     have g161:=Nat.le_trans X156.size g159
     have X162:=Ext.trans X156 E158
     refine Aw Ej fun b163 w11 E164 g165 q166=>?_
     refine nrm ?_
     have g167:=Nat.le_trans X162.size g165
     have X168:=Ext.trans X162 E164
     refine Ad<|h150 _ _<|wp_seq_k fun K169 h169=>wp_seq_k fun K170 h170=>Ai<|sV (Aa rfl) ?_
     refine sb (Cd rfl rfl) fun z171 hz171=>?_
     refine nrm ?_
     refine Ad<|h170 _ _ ?_
     obtain ⟨m279,h280,f281⟩:=Ab f147
     refine Ch (fun l l' w'=>∃(t283:Value) (t284:Value) (t285:Value) (t286:Value) (t287:Value) (t288:Value) (t289:Value) (t290:Value) (t291:Value) (t292:Value) (t293:Value) (t294:Value) (t295:Value) (A296:Option Addr) (c297:Nat) (A299:Option Addr) (c300:Nat) (A303:Option Addr) (c304:Nat) (A306:Option Addr) (c307:Nat) (A310:Option Addr) (c311:Nat) (A313:Option Addr) (c314:Nat),UpdS [b151,b157,b163] w11 w'∧Bx w' b151 29 [.bool m279.1,.slice A296 (sz m279.2.1) c297,.int .i64 m279.2.2.1,.bool m279.2.2.2.1,.slice A299 (sz m279.2.2.2.2.1) c300,.int .i64 m279.2.2.2.2.2.1]∧Bx w' b157 29 [.bool m279.2.2.2.2.2.2.1,.slice A303 (sz m279.2.2.2.2.2.2.2.1) c304,.int .i64 m279.2.2.2.2.2.2.2.2.1,.bool m279.2.2.2.2.2.2.2.2.2.1,.slice A306 (sz m279.2.2.2.2.2.2.2.2.2.2.1) c307,.int .i64 m279.2.2.2.2.2.2.2.2.2.2.2.1]∧Bx w' b163 29 [.bool m279.2.2.2.2.2.2.2.2.2.2.2.2.1,.slice A310 (sz m279.2.2.2.2.2.2.2.2.2.2.2.2.2.1) c311,.int .i64 m279.2.2.2.2.2.2.2.2.2.2.2.2.2.2.1,.bool m279.2.2.2.2.2.2.2.2.2.2.2.2.2.2.2.1,.slice A313 (sz m279.2.2.2.2.2.2.2.2.2.2.2.2.2.2.2.2.1) c314,.int .i64 m279.2.2.2.2.2.2.2.2.2.2.2.2.2.2.2.2.2]∧RU w' A296 c297 m279.2.1∧RU w' A299 c300 m279.2.2.2.2.1∧RU w' A303 c304 m279.2.2.2.2.2.2.2.1∧RU w' A306 c307 m279.2.2.2.2.2.2.2.2.2.2.1∧RU w' A310 c311 m279.2.2.2.2.2.2.2.2.2.2.2.2.2.1∧RU w' A313 c314 m279.2.2.2.2.2.2.2.2.2.2.2.2.2.2.2.2.1∧l'=(((((((((((((l.set 39 t283).set 40 t284).set 41 t285).set 42 t286).set 43 t287).set 44 t288).set 45 t289).set 46 t290).set 47 t291).set 48 t292).set 49 t293).set 50 t294).set 51 t295)) ?_ ?_
     ·rcases Bool.eq_false_or_eq_true z171 with e318 | e318
      ·have p321:=zP hz171 e318
       have f322:=ifP p321 h280
       refine wp_cond_true (Al (evb rfl e318))<|wp_seq_k fun K323 h323=>Ai<|have q324:=(((((((((q17.ext E19).ext E29).updS U46 nm0).ext E83).updS U99 nm0).updS U129 nm0).ext E148).ext E152).ext E158).ext E164;sV (Am AL rfl q324 rfl) ?_
       have q325:=((((((((q21.ext E29).updS U46 nm0).ext E83).updS U99 nm0).updS U129 nm0).ext E148).ext E152).ext E158).ext E164
       refine sV (Am AL rfl q325 rfl) ?_
       refine sV (Aa rfl) ?_
       obtain ⟨m326,h327,f328⟩:=Ab f322
       have hx329:=BX h327
       have n330:RU w11 A1 c2 m326:=by unfold RU;rw [hx329];exact (n3.ext X168)
       obtain ⟨m331,h332,f333⟩:=Ab f328
       have hx334:=BX h332
       have n335:RU w11 A4 c5 m331:=by unfold RU;rw [hx334];exact (n6.ext X168)
       obtain ⟨m336,h337,f338⟩:=Ab f333
       have hx339:=BX h337
       have n340:RU w11 A7 c8 m336:=by unfold RU;rw [hx339];exact (n9.ext X168)
       obtain ⟨m341,h342,f343⟩:=Ab f338
       have hx344:=BX h342
       have n345:RU w11 A10 c11 m341:=by unfold RU;rw [hx344];exact (n12.ext X168)
       obtain ⟨r346,h347,f348⟩:=Ab f343
       refine sc (Ae NL (by simp only [sz,hx329,hx334,hx339,hx344];rfl)) (HI (⟨(⟨(⟨x0.Lo.Man.Neg,m326⟩:Ah),x0.Lo.Exp⟩:Ag),(⟨(⟨x0.Hi.Man.Neg,m331⟩:Ah),x0.Hi.Exp⟩:Ag)⟩:Ak) (⟨(⟨(⟨x1.Lo.Man.Neg,m336⟩:Ah),x1.Lo.Exp⟩:Ag),(⟨(⟨x1.Hi.Man.Neg,m341⟩:Ah),x1.Hi.Exp⟩:Ag)⟩:Ak) x2 A1 c2 A4 c5 A7 c8 A10 c11 w11 (TB.ext X168 hT) n330 n335 n340 n345 r346 h347) ?_
       rintro _ w12 E349 ⟨A350,c351,A353,c354,rfl,n352,n355⟩
       refine nrm ?_
       have X356:=Ext.trans X168 E349
       have q357:=((q154.ext E158).ext E164).ext E349
       refine Av DG rfl rfl q357 rfl rfl rfl rfl (by simp only [SP0,SP1,S0,S1,Nat.reduceAdd];rfl) fun w13 U358 q359=>?_
       have X360:=AW X356 U358 g155
       refine Ad<|h323 _ _<|wp_seq_k fun K361 h361=>Di [5] 6 mo rfl fun w14 E362 S363=>have X364:=Ext.trans X360 E362;have ne365:=(Bx.ne (((((((q17.ext E19).ext E29).updS U46 nm0).ext E83).updS U99 nm0).updS U129 nm0).ext E148) g153);dV 0 rfl (fun _ hw=>Am AL rfl ((((q324.ext E349).upd U358 ne365).ext E362).ext hw) rfl) S363 ?_
       have ne366:=(Bx.ne ((((((q21.ext E29).updS U46 nm0).ext E83).updS U99 nm0).updS U129 nm0).ext E148) g153)
       refine dV 1 rfl (fun _ hw=>Am AL rfl ((((q325.ext E349).upd U358 ne366).ext E362).ext hw) rfl) S363 ?_
       refine dA 3 rfl (fun _=>Aa rfl) ?_
       have n367:RU w14 A7 c8 m336:=by unfold RU;rw [hx339];exact (n9.ext X364)
       have n368:RU w14 A10 c11 m341:=by unfold RU;rw [hx344];exact (n12.ext X364)
       obtain ⟨r369,h370,f371⟩:=Ab f348
       refine dc 2 rfl (by kernel_rfl) (by rfl) (Ae en_28 (by simp only [sz,hx339,hx344];rfl)) (c_sorobanref04_Turned (⟨(⟨(⟨x1.Lo.Man.Neg,m336⟩:Ah),x1.Lo.Exp⟩:Ag),(⟨(⟨x1.Hi.Man.Neg,m341⟩:Ah),x1.Hi.Exp⟩:Ag)⟩:Ak) A7 c8 A10 c11 w14 (TB.ext X364 hT) n367 n368 r369 h370) ?_
       rintro _ w15 E372 ⟨A373,c374,A376,c377,rfl,n375,n378⟩
       refine dnrm ?_
       have X379:=Ext.trans X364 E372
       have S380:=S363.trans E372
       have n381:RU w15 A1 c2 m326:=by unfold RU;rw [hx329];exact (n3.ext X379)
       have n382:RU w15 A4 c5 m331:=by unfold RU;rw [hx334];exact (n6.ext X379)
       obtain ⟨r383,h384,f385⟩:=Ab f371
       refine dc 4 rfl (by kernel_rfl) (by rfl) (Ae NL (by simp only [sz,hx329,hx334];rfl)) (HI (⟨(⟨(⟨x0.Lo.Man.Neg,m326⟩:Ah),x0.Lo.Exp⟩:Ag),(⟨(⟨x0.Hi.Man.Neg,m331⟩:Ah),x0.Hi.Exp⟩:Ag)⟩:Ak) r369 x2 A1 c2 A4 c5 A373 c374 A376 c377 w15 (TB.ext X379 hT) n381 n382 n375 n378 r383 h384) ?_
       rintro _ w16 E386 ⟨A387,c388,A390,c391,rfl,n389,n392⟩
       refine dnrm ?_
       have X393:=Ext.trans X379 E386
       have S394:=S380.trans E386
       have ne395:=(Bx.ne q154 g159).symm
       have q396:=(((((q160.ext E164).ext E349).upd U358 ne395).ext E362).ext E372).ext E386
       refine dk 5 rfl (by kernel_rfl) (by decide) (by rfl) DG rfl rfl q396 rfl rfl rfl rfl (by simp only [SP0,SP1,S0,S1,Nat.reduceAdd];rfl) fun w17 U397 q398=>?_
       have X399:=AW X393 U397 g161
       refine Ci (by kernel_rfl) ?_
       refine h361 _ _<|Ai<|have ne400:=(Bx.ne ((((((((q17.ext E19).ext E29).updS U46 nm0).ext E83).updS U99 nm0).updS U129 nm0).ext E148).ext E152) g159);have q401:=(((((q324.ext E349).upd U358 ne365).ext E362).ext E372).ext E386).upd U397 ne400;sV (Am AL rfl q401 rfl) ?_
       have ne402:=(Bx.ne (((((((q21.ext E29).updS U46 nm0).ext E83).updS U99 nm0).updS U129 nm0).ext E148).ext E152) g159)
       have q403:=(((((q325.ext E349).upd U358 ne366).ext E362).ext E372).ext E386).upd U397 ne402
       refine sV (Am AL rfl q403 rfl) ?_
       refine sV (Aa rfl) ?_
       have n404:RU w17 A1 c2 m326:=by unfold RU;rw [hx329];exact (n3.ext X399)
       have n405:RU w17 A4 c5 m331:=by unfold RU;rw [hx334];exact (n6.ext X399)
       have n406:RU w17 A7 c8 m336:=by unfold RU;rw [hx339];exact (n9.ext X399)
       have n407:RU w17 A10 c11 m341:=by unfold RU;rw [hx344];exact (n12.ext X399)
       obtain ⟨r408,h409,f410⟩:=Ab f385
       refine sc (Ae en_29 (by simp only [sz,hx329,hx334,hx339,hx344];rfl)) (c_sorobanref04_Times (⟨(⟨(⟨x0.Lo.Man.Neg,m326⟩:Ah),x0.Lo.Exp⟩:Ag),(⟨(⟨x0.Hi.Man.Neg,m331⟩:Ah),x0.Hi.Exp⟩:Ag)⟩:Ak) (⟨(⟨(⟨x1.Lo.Man.Neg,m336⟩:Ah),x1.Lo.Exp⟩:Ag),(⟨(⟨x1.Hi.Man.Neg,m341⟩:Ah),x1.Hi.Exp⟩:Ag)⟩:Ak) x2 A1 c2 A4 c5 A7 c8 A10 c11 w17 (TB.ext X399 hT) n404 n405 n406 n407 r408 h409) ?_
       rintro _ w18 E411 ⟨A412,c413,A415,c416,rfl,n414,n417⟩
       refine nrm ?_
       have ne419:=(Bx.ne (q154.ext E158) g165).symm
       have ne420:=(Bx.ne q160 g165).symm
       have q421:=((((((q166.ext E349).upd U358 ne419).ext E362).ext E372).ext E386).upd U397 ne420).ext E411
       refine Av DG rfl rfl q421 rfl rfl rfl rfl (by simp only [SP0,SP1,S0,S1,Nat.reduceAdd];rfl) fun w19 U422 q423=>?_
       refine Ad ?_
       have n425:=((((((n352.upd U358 q357 (by decide)).ext E362).ext E372).ext E386).upd U397 q396 (by decide)).ext E411).upd U422 q421 (by decide)
       have n426:=((((((n355.upd U358 q357 (by decide)).ext E362).ext E372).ext E386).upd U397 q396 (by decide)).ext E411).upd U422 q421 (by decide)
       have n427:=((n389.upd U397 q396 (by decide)).ext E411).upd U422 q421 (by decide)
       have n428:=((n392.upd U397 q396 (by decide)).ext E411).upd U422 q421 (by decide)
       have q429:=(((((q359.ext E362).ext E372).ext E386).upd U397 (Ne.symm ne395)).ext E411).upd U422 (Ne.symm ne419)
       have q430:=(q398.ext E411).upd U422 (Ne.symm ne420)
       obtain rfl:=Option.some.inj f410
       exact ⟨_,rfl,(.agg #[.bool x0.Lo.Man.Neg,.slice A1 (List.length x0.Lo.Man.Abs) c2,.int .i64 x0.Lo.Exp,.bool x0.Hi.Man.Neg,.slice A4 (List.length x0.Hi.Man.Abs) c5,.int .i64 x0.Hi.Exp]),(.agg #[.bool x1.Lo.Man.Neg,.slice A7 (List.length x1.Lo.Man.Abs) c8,.int .i64 x1.Lo.Exp,.bool x1.Hi.Man.Neg,.slice A10 (List.length x1.Hi.Man.Abs) c11,.int .i64 x1.Hi.Exp]),(.int .i64 x2),(.agg #[.bool r346.Lo.Man.Neg,.slice A350 (sz r346.Lo.Man.Abs) c351,.int .i64 r346.Lo.Exp,.bool r346.Hi.Man.Neg,.slice A353 (sz r346.Hi.Man.Abs) c354,.int .i64 r346.Hi.Exp]),(.agg #[.bool x0.Lo.Man.Neg,.slice A1 (List.length x0.Lo.Man.Abs) c2,.int .i64 x0.Lo.Exp,.bool x0.Hi.Man.Neg,.slice A4 (List.length x0.Hi.Man.Abs) c5,.int .i64 x0.Hi.Exp]),(.agg #[.bool x1.Lo.Man.Neg,.slice A7 (List.length x1.Lo.Man.Abs) c8,.int .i64 x1.Lo.Exp,.bool x1.Hi.Man.Neg,.slice A10 (List.length x1.Hi.Man.Abs) c11,.int .i64 x1.Hi.Exp]),(.agg #[.bool r369.Lo.Man.Neg,.slice A373 (sz r369.Lo.Man.Abs) c374,.int .i64 r369.Lo.Exp,.bool r369.Hi.Man.Neg,.slice A376 (sz r369.Hi.Man.Abs) c377,.int .i64 r369.Hi.Exp]),(.int .i64 x2),(.agg #[.bool r383.Lo.Man.Neg,.slice A387 (sz r383.Lo.Man.Abs) c388,.int .i64 r383.Lo.Exp,.bool r383.Hi.Man.Neg,.slice A390 (sz r383.Hi.Man.Abs) c391,.int .i64 r383.Hi.Exp]),(.agg #[.bool x0.Lo.Man.Neg,.slice A1 (List.length x0.Lo.Man.Abs) c2,.int .i64 x0.Lo.Exp,.bool x0.Hi.Man.Neg,.slice A4 (List.length x0.Hi.Man.Abs) c5,.int .i64 x0.Hi.Exp]),(.agg #[.bool x1.Lo.Man.Neg,.slice A7 (List.length x1.Lo.Man.Abs) c8,.int .i64 x1.Lo.Exp,.bool x1.Hi.Man.Neg,.slice A10 (List.length x1.Hi.Man.Abs) c11,.int .i64 x1.Hi.Exp]),(.int .i64 x2),(.agg #[.bool r408.Lo.Man.Neg,.slice A412 (sz r408.Lo.Man.Abs) c413,.int .i64 r408.Lo.Exp,.bool r408.Hi.Man.Neg,.slice A415 (sz r408.Hi.Man.Abs) c416,.int .i64 r408.Hi.Exp]),A350,c351,A353,c354,A387,c388,A390,c391,A412,c413,A415,c416,(((((((((UpdS.refl _ _).ext E349).upd U358 (.inl im0)).ext E362).ext E372).ext E386).upd U397 (.inl (imc im0))).ext E411).upd U422 (.inl (imc (imc im0)))),q429,q430,q423,n425,n426,n427,n428,(n414.upd U422 q421 (by decide)),(n417.upd U422 q421 (by decide)),(by simp only [S0,S1]<;>rfl)⟩
      ·have p319:=zN hz171 e318
       have f320:=ifN p319 h280
       refine wp_cond_false (Al (evb rfl e318))<|wp_skip ?_
       obtain rfl:=Option.some.inj f320
       exact ⟨_,rfl,undef,undef,undef,undef,undef,undef,undef,undef,undef,undef,undef,undef,undef,none,0,none,0,none,0,none,0,none,0,none,0,(UpdS.refl _ _),((q154.ext E158).ext E164),(q160.ext E164),q166,(RU.nil _),(RU.nil _),(RU.nil _),(RU.nil _),(RU.nil _),(RU.nil _),(by simp only [S0,S1]<;>rfl)⟩
     ·rintro l' w12 ⟨t283,t284,t285,t286,t287,t288,t289,t290,t291,t292,t293,t294,t295,A296,c297,A299,c300,A303,c304,A306,c307,A310,c311,A313,c314,U282,q302,q309,q316,n298,n301,n305,n308,n312,n315,hq'⟩ l'' hl
      rw [hq'] at hl
      clear hq'
      simp only [S0,S1] at hl
      subst hl
      have X431:=GB X168 U282 (X168).size (alc g155 (alc g161 (alc g167 al0)))
      refine h169 _ _<|wp_seq_k fun K432 h432=>Ai<|have ne433:=(Bx.ne (((((((((q17.ext E19).ext E29).updS U46 nm0).ext E83).updS U99 nm0).updS U129 nm0).ext E148).ext E152).ext E158) g165);have ne434:=(Bx.ne ((((((((q17.ext E19).ext E29).updS U46 nm0).ext E83).updS U99 nm0).updS U129 nm0).ext E148).ext E152) g159);have ne435:=(Bx.ne (((((((q17.ext E19).ext E29).updS U46 nm0).ext E83).updS U99 nm0).updS U129 nm0).ext E148) g153);have q436:=((((((((((q17.ext E19).ext E29).updS U46 nm0).ext E83).updS U99 nm0).updS U129 nm0).ext E148).ext E152).ext E158).ext E164).updS U282 (nmc ne435 (nmc ne434 (nmc ne433 nm0)));sV (Am AL rfl q436 rfl) ?_
      have ne437:=(Bx.ne ((((((((q21.ext E29).updS U46 nm0).ext E83).updS U99 nm0).updS U129 nm0).ext E148).ext E152).ext E158) g165)
      have ne438:=(Bx.ne (((((((q21.ext E29).updS U46 nm0).ext E83).updS U99 nm0).updS U129 nm0).ext E148).ext E152) g159)
      have ne439:=(Bx.ne ((((((q21.ext E29).updS U46 nm0).ext E83).updS U99 nm0).updS U129 nm0).ext E148) g153)
      have q440:=(((((((((q21.ext E29).updS U46 nm0).ext E83).updS U99 nm0).updS U129 nm0).ext E148).ext E152).ext E158).ext E164).updS U282 (nmc ne439 (nmc ne438 (nmc ne437 nm0)))
      refine sV (Am AL rfl q440 rfl) ?_
      refine sV (Aa rfl) ?_
      obtain ⟨r441,h442,f443⟩:=Ab f281
      refine sc (Ae en_30 (by rfl)) (c_dyad_Plus x0 x1 x2 A1 c2 A4 c5 A7 c8 A10 c11 w12 (TB.ext X431 hT) (n3.ext X431) (n6.ext X431) (n9.ext X431) (n12.ext X431) r441 h442) ?_
      rintro _ w13 E444 ⟨A445,c446,A448,c449,rfl,n447,n450⟩
      refine nrm ?_
      have X451:=Ext.trans X431 E444
      refine sV (Aa rfl) ?_
      refine sV (AM rfl rfl) ?_
      refine sV (AM rfl rfl) ?_
      refine Aw Ej fun b452 w14 E453 g454 q455=>?_
      refine nrm ?_
      have g456:=Nat.le_trans X451.size g454
      refine Av DG rfl rfl q455 rfl rfl rfl rfl (by simp only [SP0,SP1,S0,S1,Nat.reduceAdd];rfl) fun w15 U458 q459=>?_
      have F461:=AW E453 U458 g454
      have X460:=Ext.trans X451 F461
      refine sV (Ac rfl) ?_
      refine Ad<|h432 _ _<|wp_seq_k fun K462 h462=>Ai<|sV (Am AL rfl ((q436.ext E444).ext F461) rfl) ?_
      refine sV (Am AL rfl ((q440.ext E444).ext F461) rfl) ?_
      refine sV (Aa rfl) ?_
      obtain ⟨r463,h464,f465⟩:=Ab f443
      refine sc (Ae en_31 (by rfl)) (c_dyad_Minus x0 x1 x2 A1 c2 A4 c5 A7 c8 A10 c11 w15 (TB.ext X460 hT) (n3.ext X460) (n6.ext X460) (n9.ext X460) (n12.ext X460) r463 h464) ?_
      rintro _ w16 E466 ⟨A467,c468,A470,c471,rfl,n469,n472⟩
      refine nrm ?_
      have X473:=Ext.trans X460 E466
      refine sV (Aa rfl) ?_
      refine sV (AM rfl rfl) ?_
      refine sV (AM rfl rfl) ?_
      refine Aw Ej fun b474 w17 E475 g476 q477=>?_
      refine nrm ?_
      have g478:=Nat.le_trans X473.size g476
      refine Av DG rfl rfl q477 rfl rfl rfl rfl (by simp only [SP0,SP1,S0,S1,Nat.reduceAdd];rfl) fun w18 U480 q481=>?_
      have F483:=AW E475 U480 g476
      have X482:=Ext.trans X473 F483
      refine sV (Ac rfl) ?_
      refine Ad<|h462 _ _<|wp_seq_k fun K484 h484=>Ai<|have q485:=(((q436.ext E444).ext F461).ext E466).ext F483;sV (Am AL rfl q485 rfl) ?_
      have q486:=(((q440.ext E444).ext F461).ext E466).ext F483
      refine sV (Am AL rfl q486 rfl) ?_
      refine sV (Aa rfl) ?_
      obtain ⟨r487,h488,f489⟩:=Ab f465
      refine sc (Ae NZ (by rfl)) (JK x0 x1 x2 A1 c2 A4 c5 A7 c8 A10 c11 w18 (TB.ext X482 hT) (n3.ext X482) (n6.ext X482) (n9.ext X482) (n12.ext X482) r487 h488) ?_
      rintro _ w19 E490 ⟨A491,c492,A494,c495,rfl,n493,n496⟩
      refine nrm ?_
      have X497:=Ext.trans X482 E490
      refine sV (Aa rfl) ?_
      refine sV (AM rfl rfl) ?_
      refine sV (AM rfl rfl) ?_
      refine Aw Ej fun b498 w20 E499 g500 q501=>?_
      refine nrm ?_
      have g502:=Nat.le_trans X497.size g500
      refine Av DG rfl rfl q501 rfl rfl rfl rfl (by simp only [SP0,SP1,S0,S1,Nat.reduceAdd];rfl) fun w21 U504 q505=>?_
      have F507:=AW E499 U504 g500
      have X506:=Ext.trans X497 F507
      refine sV (Ac rfl) ?_
      refine Ad<|h484 _ _<|wp_seq_k fun K508 h508=>Ai ?_
      obtain ⟨r509,h510,f511⟩:=Ab f489
      refine sc (Ae Oc (by rfl)) (Hf w21 (TB.ext X506 hT)  r509 h510) ?_
      rintro _ w22 E512 rfl
      refine nrm ?_
      have X513:=Ext.trans X506 E512
      refine sV (Aa rfl) ?_
      obtain ⟨m530,h531,f532⟩:=Ab f511
      refine BT 8 (fun l l' w'=>∃(t534:Value) (t535:Value) (t536:Value) (t537:Value) (t538:Value),UpdS [] w22 w'∧l'=((((((l.set 75 t534).set 76 t535).set 77 t536).set 78 t537).set 79 t538).set 80 (.bool m530))) ?_ ?_
      ·intro HJ539
       rcases Bool.eq_false_or_eq_true r509 with e540 | e540
       ·have p543:=e540
        have f544:=ifP p543 h531
        have q545:=((((q459.ext E466).ext F483).ext E490).ext F507).ext E512
        refine sV (Am AL rfl q545 rfl) ?_ (hw:=wgT rfl e540)
        refine sV (Aa rfl) ?_ (hw:=wgT rfl e540)
        refine sV (Aa rfl) ?_ (hw:=wgT rfl e540)
        have q546:=((((((q302.ext E444).ext F461).ext E466).ext F483).ext E490).ext F507).ext E512
        refine sV (Am AL rfl q546 rfl) ?_ (hw:=wgT rfl e540)
        have n547:=(((((n447.ext F461).ext E466).ext F483).ext E490).ext F507).ext E512
        have n548:=(((((n450.ext F461).ext E466).ext F483).ext E490).ext F507).ext E512
        have n549:=((((((n298.ext E444).ext F461).ext E466).ext F483).ext E490).ext F507).ext E512
        have n550:=((((((n301.ext E444).ext F461).ext E466).ext F483).ext E490).ext F507).ext E512
        obtain ⟨r551,h552,f553⟩:=Ab f544
        refine sc (Ae Nt (by rfl)) (Fo r441.1 r441.2 r145 (⟨(⟨(⟨m279.1,m279.2.1⟩:Ah),m279.2.2.1⟩:Ag),(⟨(⟨m279.2.2.2.1,m279.2.2.2.2.1⟩:Ah),m279.2.2.2.2.2.1⟩:Ag)⟩:Ak) A445 c446 A448 c449 A296 c297 A299 c300 w22 (TB.ext X513 hT) n547 n548 n549 n550 r551 h552) ?_ (hw:=wgT rfl e540)
        rintro _ w23 E554 rfl
        refine nrm ?_
        refine sV (AA (evb rfl e540) rfl) ?_
        obtain rfl:=Option.some.inj f553
        exact HJ539 _ _ ⟨(.agg #[.bool r441.1.Lo.Man.Neg,.slice A445 (sz r441.1.Lo.Man.Abs) c446,.int .i64 r441.1.Lo.Exp,.bool r441.1.Hi.Man.Neg,.slice A448 (sz r441.1.Hi.Man.Abs) c449,.int .i64 r441.1.Hi.Exp]),(.int .i64 r441.2),(.int .i64 r145),(.agg #[.bool m279.1,.slice A296 (sz m279.2.1) c297,.int .i64 m279.2.2.1,.bool m279.2.2.2.1,.slice A299 (sz m279.2.2.2.2.1) c300,.int .i64 m279.2.2.2.2.2.1]),(.bool r551),((UpdS.refl _ _).ext E554),(by simp only [S0,S1]<;>rfl)⟩
       ·have p541:=bF e540
        have f542:=ifN p541 h531
        refine sP ?_ (hw:=wgF rfl e540)
        refine sP ?_ (hw:=wgF rfl e540)
        refine sP ?_ (hw:=wgF rfl e540)
        refine sP ?_ (hw:=wgF rfl e540)
        refine sP ?_ (hw:=wgF rfl e540)
        refine sV (AE (evb rfl e540) rfl) ?_
        obtain rfl:=Option.some.inj f542
        exact HJ539 _ _ ⟨undef,undef,undef,undef,undef,(UpdS.refl _ _),(by simp only [S0,S1]<;>rfl)⟩
      ·rintro l' w23 ⟨t534,t535,t536,t537,t538,U533,hq'⟩ l'' hl
       rw [hq'] at hl
       clear hq'
       simp only [S0,S1] at hl
       subst hl
       have X556:=GB X513 U533 (X513).size al0
       refine sV (Aa rfl) ?_
       obtain ⟨m573,h574,f575⟩:=Ab f532
       refine BT 15 (fun l l' w'=>∃(t577:Value) (t578:Value) (t579:Value) (t580:Value) (t581:Value),UpdS [] w23 w'∧l'=((((((l.set 82 t577).set 83 t578).set 84 t579).set 85 t580).set 86 t581).set 87 (.bool m573))) ?_ ?_
       ·intro HJ582
        rcases Bool.eq_false_or_eq_true m530 with e583 | e583
        ·have p586:=e583
         have f587:=ifP p586 h574
         have q588:=(((q481.ext E490).ext F507).ext E512).updS U533 nm0
         refine sV (Am AL rfl q588 rfl) ?_ (hw:=wgT rfl e583)
         refine sV (Aa rfl) ?_ (hw:=wgT rfl e583)
         refine sV (Aa rfl) ?_ (hw:=wgT rfl e583)
         have q589:=(((((((q309.ext E444).ext F461).ext E466).ext F483).ext E490).ext F507).ext E512).updS U533 nm0
         refine sV (Am AL rfl q589 rfl) ?_ (hw:=wgT rfl e583)
         have n590:=((((n469.ext F483).ext E490).ext F507).ext E512).updS U533 al0
         have n591:=((((n472.ext F483).ext E490).ext F507).ext E512).updS U533 al0
         have n592:=(((((((n305.ext E444).ext F461).ext E466).ext F483).ext E490).ext F507).ext E512).updS U533 al0
         have n593:=(((((((n308.ext E444).ext F461).ext E466).ext F483).ext E490).ext F507).ext E512).updS U533 al0
         obtain ⟨r594,h595,f596⟩:=Ab f587
         refine sc (Ae Nt (by rfl)) (Fo r463.1 r463.2 r145 (⟨(⟨(⟨m279.2.2.2.2.2.2.1,m279.2.2.2.2.2.2.2.1⟩:Ah),m279.2.2.2.2.2.2.2.2.1⟩:Ag),(⟨(⟨m279.2.2.2.2.2.2.2.2.2.1,m279.2.2.2.2.2.2.2.2.2.2.1⟩:Ah),m279.2.2.2.2.2.2.2.2.2.2.2.1⟩:Ag)⟩:Ak) A467 c468 A470 c471 A303 c304 A306 c307 w23 (TB.ext X556 hT) n590 n591 n592 n593 r594 h595) ?_ (hw:=wgT rfl e583)
         rintro _ w24 E597 rfl
         refine nrm ?_
         refine sV (AA (evb rfl e583) rfl) ?_
         obtain rfl:=Option.some.inj f596
         exact HJ582 _ _ ⟨(.agg #[.bool r463.1.Lo.Man.Neg,.slice A467 (sz r463.1.Lo.Man.Abs) c468,.int .i64 r463.1.Lo.Exp,.bool r463.1.Hi.Man.Neg,.slice A470 (sz r463.1.Hi.Man.Abs) c471,.int .i64 r463.1.Hi.Exp]),(.int .i64 r463.2),(.int .i64 r145),(.agg #[.bool m279.2.2.2.2.2.2.1,.slice A303 (sz m279.2.2.2.2.2.2.2.1) c304,.int .i64 m279.2.2.2.2.2.2.2.2.1,.bool m279.2.2.2.2.2.2.2.2.2.1,.slice A306 (sz m279.2.2.2.2.2.2.2.2.2.2.1) c307,.int .i64 m279.2.2.2.2.2.2.2.2.2.2.2.1]),(.bool r594),((UpdS.refl _ _).ext E597),(by simp only [S0,S1]<;>rfl)⟩
        ·have p584:=bF e583
         have f585:=ifN p584 h574
         refine sP ?_ (hw:=wgF rfl e583)
         refine sP ?_ (hw:=wgF rfl e583)
         refine sP ?_ (hw:=wgF rfl e583)
         refine sP ?_ (hw:=wgF rfl e583)
         refine sP ?_ (hw:=wgF rfl e583)
         refine sV (AE (evb rfl e583) rfl) ?_
         obtain rfl:=Option.some.inj f585
         exact HJ582 _ _ ⟨undef,undef,undef,undef,undef,(UpdS.refl _ _),(by simp only [S0,S1]<;>rfl)⟩
       ·rintro l' w24 ⟨t577,t578,t579,t580,t581,U576,hq'⟩ l'' hl
        rw [hq'] at hl
        clear hq'
        simp only [S0,S1] at hl
        subst hl
        have X599:=GB X556 U576 (X556).size al0
        refine sV (Aa rfl) ?_
        obtain ⟨m616,h617,f618⟩:=Ab f575
        refine BT 22 (fun l l' w'=>∃(t620:Value) (t621:Value) (t622:Value) (t623:Value) (t624:Value),UpdS [] w24 w'∧l'=((((((l.set 89 t620).set 90 t621).set 91 t622).set 92 t623).set 93 t624).set 94 (.bool m616))) ?_ ?_
        ·intro HJ625
         rcases Bool.eq_false_or_eq_true m573 with e626 | e626
         ·have p629:=e626
          have f630:=ifP p629 h617
          have q631:=((q505.ext E512).updS U533 nm0).updS U576 nm0
          refine sV (Am AL rfl q631 rfl) ?_ (hw:=wgT rfl e626)
          refine sV (Aa rfl) ?_ (hw:=wgT rfl e626)
          refine sV (Aa rfl) ?_ (hw:=wgT rfl e626)
          have q632:=((((((((q316.ext E444).ext F461).ext E466).ext F483).ext E490).ext F507).ext E512).updS U533 nm0).updS U576 nm0
          refine sV (Am AL rfl q632 rfl) ?_ (hw:=wgT rfl e626)
          have n633:=(((n493.ext F507).ext E512).updS U533 al0).updS U576 al0
          have n634:=(((n496.ext F507).ext E512).updS U533 al0).updS U576 al0
          have n635:=((((((((n312.ext E444).ext F461).ext E466).ext F483).ext E490).ext F507).ext E512).updS U533 al0).updS U576 al0
          have n636:=((((((((n315.ext E444).ext F461).ext E466).ext F483).ext E490).ext F507).ext E512).updS U533 al0).updS U576 al0
          obtain ⟨r637,h638,f639⟩:=Ab f630
          refine sc (Ae Nt (by rfl)) (Fo r487.1 r487.2 r145 (⟨(⟨(⟨m279.2.2.2.2.2.2.2.2.2.2.2.2.1,m279.2.2.2.2.2.2.2.2.2.2.2.2.2.1⟩:Ah),m279.2.2.2.2.2.2.2.2.2.2.2.2.2.2.1⟩:Ag),(⟨(⟨m279.2.2.2.2.2.2.2.2.2.2.2.2.2.2.2.1,m279.2.2.2.2.2.2.2.2.2.2.2.2.2.2.2.2.1⟩:Ah),m279.2.2.2.2.2.2.2.2.2.2.2.2.2.2.2.2.2⟩:Ag)⟩:Ak) A491 c492 A494 c495 A310 c311 A313 c314 w24 (TB.ext X599 hT) n633 n634 n635 n636 r637 h638) ?_ (hw:=wgT rfl e626)
          rintro _ w25 E640 rfl
          refine nrm ?_
          refine sV (AA (evb rfl e626) rfl) ?_
          obtain rfl:=Option.some.inj f639
          exact HJ625 _ _ ⟨(.agg #[.bool r487.1.Lo.Man.Neg,.slice A491 (sz r487.1.Lo.Man.Abs) c492,.int .i64 r487.1.Lo.Exp,.bool r487.1.Hi.Man.Neg,.slice A494 (sz r487.1.Hi.Man.Abs) c495,.int .i64 r487.1.Hi.Exp]),(.int .i64 r487.2),(.int .i64 r145),(.agg #[.bool m279.2.2.2.2.2.2.2.2.2.2.2.2.1,.slice A310 (sz m279.2.2.2.2.2.2.2.2.2.2.2.2.2.1) c311,.int .i64 m279.2.2.2.2.2.2.2.2.2.2.2.2.2.2.1,.bool m279.2.2.2.2.2.2.2.2.2.2.2.2.2.2.2.1,.slice A313 (sz m279.2.2.2.2.2.2.2.2.2.2.2.2.2.2.2.2.1) c314,.int .i64 m279.2.2.2.2.2.2.2.2.2.2.2.2.2.2.2.2.2]),(.bool r637),((UpdS.refl _ _).ext E640),(by simp only [S0,S1]<;>rfl)⟩
         ·have p627:=bF e626
          have f628:=ifN p627 h617
          refine sP ?_ (hw:=wgF rfl e626)
          refine sP ?_ (hw:=wgF rfl e626)
          refine sP ?_ (hw:=wgF rfl e626)
          refine sP ?_ (hw:=wgF rfl e626)
          refine sP ?_ (hw:=wgF rfl e626)
          refine sV (AE (evb rfl e626) rfl) ?_
          obtain rfl:=Option.some.inj f628
          exact HJ625 _ _ ⟨undef,undef,undef,undef,undef,(UpdS.refl _ _),(by simp only [S0,S1]<;>rfl)⟩
        ·rintro l' w25 ⟨t620,t621,t622,t623,t624,U619,hq'⟩ l'' hl
         rw [hq'] at hl
         clear hq'
         simp only [S0,S1] at hl
         subst hl
         have X642:=GB X599 U619 (X599).size al0
         refine sV (Ac rfl) ?_
         refine Ad<|h508 _ _<|wp_ret ?_
         obtain rfl:=Option.some.inj f618
         exact fin rfl (Res.tmp rfl Res.nil) (An X642 rfl)
end Go.Proofs
