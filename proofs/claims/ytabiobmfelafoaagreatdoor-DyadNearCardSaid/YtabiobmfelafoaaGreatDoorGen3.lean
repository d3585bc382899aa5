import Derived.Test.YtabiobmfelafoaaGreatDoorGen2
namespace Go.Proofs
set_option linter.unusedVariables false
set_option linter.unusedSimpArgs false
set_option maxHeartbeats 4000000
open Go.RowKit Go.Sb Go.Proofs.Sbn
theorem JH (x0:Ao) (x1:Ao) (A1:Option Addr) (c2:Nat) (A4:Option Addr) (c5:Nat) (w:World) (hT:TB w) (n3:RU w A1 c2 x0.m.Abs) (n6:RU w A4 c5 x1.m.Abs) (r:Bool) (hr:Gq x0 x1=some r) :
  Calls Tryz.prog 125 #[.agg #[.bool x0.m.Neg,.slice A1 (sz x0.m.Abs) c2,.int .i64 x0.e],.agg #[.bool x1.m.Neg,.slice A4 (sz x1.m.Abs) c5,.int .i64 x1.e]] w (Ret Fe w r):=by
 unfold Gq at hr
 go_enter Tryz.func125,Tryz.ntmps125
 refine wp_seq_k fun K7 h7=>Aj<|BP rfl rfl fun b8 w1 E9 g10 q11=>?_
 refine nrm ?_
 refine BP rfl rfl fun b12 w2 E13 g14 q15=>?_
 refine nrm ?_
 have g16:=Nat.le_trans E9.size g14
 have X17:=Ext.trans E9 E13
 refine sV (Ac rfl) ?_
 refine Ad<|h7 _ _<|wp_seq_k fun K18 h18=>wp_seq_k fun K19 h19=>Aj<|sV (Ai AH rfl (q11.ext E13) rfl) ?_
 obtain ⟨r20,h21,f22⟩:=Ab hr
 refine sc (Af HD (by rfl)) (Cu x0 A1 c2 w2 (TB.ext X17 hT) (n3.ext X17) r20 h21) ?_
 rintro _ w3 E23 rfl
 refine nrm ?_
 have X24:=Ext.trans X17 E23
 refine sb (CS rfl rfl) fun z25 hz25=>?_
 refine nrm ?_
 refine sV (Aa rfl) ?_
 obtain ⟨m37,h38,f39⟩:=Ab f22
 refine AR 8 (fun l l' w'=>∃(t41:Value) (t42:Value) (t43:Value),UpdS [] w3 w'∧l'=((((l.set 9 t41).set 10 t42).set 11 t43).set 12 (.bool m37))) ?_ ?_
 ·intro HJ44
  rcases Bool.eq_false_or_eq_true z25 with e45 | e45
  ·have p48:=zP hz25 e45
   have f49:=ifP p48 h38
   refine sP ?_ (hw:=wgF rfl e45)
   refine sP ?_ (hw:=wgF rfl e45)
   refine sP ?_ (hw:=wgF rfl e45)
   refine sV (Av (evb rfl e45) rfl) ?_
   obtain rfl:=Option.some.inj f49
   exact HJ44 _ _ ⟨undef,undef,undef,(UpdS.refl _ _),(by simp only [S0,S1]<;>rfl)⟩
  ·have p46:=zN hz25 e45
   have f47:=ifN p46 h38
   refine sV (Ai AH rfl (q15.ext E23) rfl) ?_ (hw:=wgT rfl e45)
   obtain ⟨r50,h51,f52⟩:=Ab f47
   refine sc (Af HD (by rfl)) (Cu x1 A4 c5 w3 (TB.ext X24 hT) (n6.ext X24) r50 h51) ?_ (hw:=wgT rfl e45)
   rintro _ w4 E53 rfl
   refine nrm ?_
   refine sb (CS rfl rfl) ?_ (hw:=wgT rfl e45)
   intro z55 hz55
   refine nrm ?_
   refine sV (Ax (evb rfl e45) rfl) ?_
   obtain rfl:z55=decide (r50=0):=bz hz55
   obtain rfl:=Option.some.inj f52
   exact HJ44 _ _ ⟨(.agg #[.bool x1.m.Neg,.slice A4 (sz x1.m.Abs) c5,.int .i64 x1.e]),(.int .i64 r50),(.bool (decide (r50=0))),((UpdS.refl _ _).ext E53),(by simp only [S0,S1]<;>rfl)⟩
 ·rintro l' w4 ⟨t41,t42,t43,U40,hq'⟩ l'' hl
  rw [hq'] at hl
  clear hq'
  simp only [S0,S1] at hl
  subst hl
  have X56:=Ez X24 U40 (X24).size al0
  refine Ad<|h19 _ _ ?_
  rcases Bool.eq_false_or_eq_true m37 with e63 | e63
  ·have p66:=e63
   have f67:=ifP p66 f39
   refine wp_cond_true (An (evb rfl e63))<|wp_seq_k fun K85 h85=>Aj<|sV (Ac rfl) ?_
   refine Ad<|h85 _ _<|wp_ret ?_
   obtain rfl:=Option.some.inj f67
   exact fin rfl (Res.tmp rfl Res.nil) (Ap X56 rfl)
  ·have p64:=bF e63
   have f65:=ifN p64 f39
   refine wp_cond_false (An (evb rfl e63))<|wp_skip<|h18 _ _<|wp_seq_k fun K68 h68=>DR [] 13 mo rfl fun w5 E69 S70=>have X71:=Ext.trans X56 E69;dV 0 rfl (fun _ hw=>Ai AH rfl (((((q11.ext E13).ext E23).updS U40 nm0).ext E69).ext hw) rfl) S70 ?_
   refine dV 2 rfl (fun _ hw=>Ai AH rfl ((((q15.ext E23).updS U40 nm0).ext E69).ext hw) rfl) S70 ?_
   refine dA 5 rfl (fun _=>Ak (o':=2) CT rfl rfl) ?_
   refine dV 6 rfl (fun _ hw=>Am EK rfl (Bx.cell (((((q11.ext E13).ext E23).updS U40 nm0).ext E69).ext hw) rfl)) S70 ?_
   refine dA 7 rfl (fun _=>Ak (o':=2) CT rfl rfl) ?_
   refine dV 8 rfl (fun _ hw=>Am EK rfl (Bx.cell ((((q15.ext E23).updS U40 nm0).ext E69).ext hw) rfl)) S70 ?_
   refine dA 9 rfl (fun _=>MX rfl rfl) ?_
   obtain ⟨r72,h73,f74⟩:=Ab f65
   refine dc 1 rfl (by kernel_rfl) (by rfl) (Af Kq (by rfl)) (FM x0 A1 c2 w5 (TB.ext X71 hT) (n3.ext X71) r72 h73) ?_
   rintro _ w6 E75 rfl
   refine dnrm ?_
   have X76:=Ext.trans X71 E75
   have S77:=S70.trans E75
   obtain ⟨r78,h79,f80⟩:=Ab f74
   refine dc 3 rfl (by kernel_rfl) (by rfl) (Af Kq (by rfl)) (FM x1 A4 c5 w6 (TB.ext X76 hT) (n6.ext X76) r78 h79) ?_
   rintro _ w7 E81 rfl
   refine dnrm ?_
   have X82:=Ext.trans X76 E81
   have S83:=S77.trans E81
   refine dA 4 rfl (fun _=>Mc rfl rfl) ?_
   refine dA 10 rfl (fun _=>CK (c:=wi64 ((max r72 r78) - (min x0.e x1.e))) rfl rfl rfl) ?_
   refine dab 11 rfl (by kernel_rfl) (fun _ _ _ h=>h) (by rfl) (fun _=>EL rfl rfl) fun z84 hz84=>?_
   refine dnrm ?_
   refine dA 12 rfl (fun _=>Ac rfl) ?_
   refine Cx (by kernel_rfl) ?_
   refine h68 _ _<|wp_ret ?_
   obtain rfl:z84=decide ((wi64 ((max r72 r78) - (min x0.e x1.e)))≤32770):=bz hz84
   obtain rfl:=Option.some.inj f80
   exact fin rfl (Res.tmp rfl Res.nil) (Ap X82 rfl)
theorem EB (x0_0:Al) (x0_1:Al) (bp0:Nat) (A1:Option Addr) (c2:Nat) (A4:Option Addr) (c5:Nat) (w:World) (hT:TB w) (n3:RLu w A1 c2 x0_0.Man.Abs) (n6:RLu w A4 c5 x0_1.Man.Abs) (q7:Bx w bp0 27 [.bool x0_0.Man.Neg,.slice A1 (List.length x0_0.Man.Abs) c2,.int .i64 x0_0.Exp,.bool x0_1.Man.Neg,.slice A4 (List.length x0_1.Man.Abs) c5,.int .i64 x0_1.Exp]) (r:Except Int (Unit)) (hr:Ek x0_0 x0_1=some r) :
  Calls Tryz.prog 120 #[.slice (some ⟨bp0,0,none⟩) 2 2] w (RetE 201 Kz w r):=by
 unfold Ek at hr
 go_enter Tryz.func120,Tryz.ntmps120
 refine wp_seq_k fun K8 h8=>Aj<|sV (Aa rfl) ?_
 refine sV (Bh Gt rfl) ?_
 refine sV (Aa rfl) ?_
 refine Ad<|h8 _ _ ?_
 apply wp_block
 refine Gk<|Bv<|wp_seq_k fun K9 h9=>Aj<|sV (FW (v:=.bool true) (DB rfl rfl) (by rfl)) ?_
 refine Ad<|h9 _ _<|wp_seq_k fun K10 h10=>wp_cond_true (An (evb rfl rfl))<|wp_skip<|h10 _ _<|wp_seq_k fun K11 h11=>?_
 apply wp_block
 refine wp_seq_k fun K12 h12=>Aj<|sV (GC (o':=0) Gt AC rfl rfl (by decide) (by decide) (by decide)) ?_
 refine sV (AO Ay rfl q7 (by simp only [List.drop_zero,List.take_succ_cons,List.take_zero];rfl) rfl) ?_
 refine AB AV fun b13 w1 E14 g15 q16=>?_
 refine nrm ?_
 refine AE AC rfl rfl q16 rfl rfl rfl rfl (by simp only [SP0,SP1,S0,S1,Nat.reduceAdd];rfl) fun w2 U17 q18=>?_
 have F20:=belU E14 U17 g15
 refine Ad<|h12 _ _<|Aj<|sV (Ai Ay rfl q18 rfl) ?_
 obtain ⟨r21,h22,f23⟩:=Ab hr
 refine sc (Af Kn (by rfl)) (Fm x0_0 A1 c2 w2 (TB.ext F20 hT) (n3.ext F20) r21 h22) ?_
 rintro _ w3 E24 rfl
 refine nrm ?_
 have X25:=Ext.trans F20 E24
 rcases BA f23 with ⟨r26,h27,f28⟩ | ⟨r26,h27,rfl⟩
 ·refine scO (Af DI (by rfl)) (Bf r21 1 w3 (TB.ext X25 hT)  (.ok r26) h27) ?_
  rintro _ w4 E29 rfl
  refine nrm ?_
  have X31:=Ext.trans X25 E29
  refine Ad<|h11 _ _<|Aj<|sV (BB (c:=1) rfl rfl (by decide)) ?_
  refine sV (Aa rfl) ?_
  refine Ad<|Bv<|wp_seq_k fun K32 h32=>Aj<|sV (FW (v:=.bool true) (DB rfl rfl) (by rfl)) ?_
  refine Ad<|h32 _ _<|wp_seq_k fun K33 h33=>wp_cond_true (An (evb rfl rfl))<|wp_skip<|h33 _ _<|wp_seq_k fun K34 h34=>?_
  apply wp_block
  refine wp_seq_k fun K35 h35=>Aj<|sV (GC (o':=3) Gt AC rfl rfl (by decide) (by decide) (by decide)) ?_
  refine sV (AO Ay rfl (((q7.ext F20).ext E24).ext E29) (by simp only [List.drop_succ_cons,List.drop_zero,List.take_succ_cons,List.take_zero];rfl) rfl) ?_
  refine AB AV fun b36 w5 E37 g38 q39=>?_
  refine nrm ?_
  have g40:=Nat.le_trans X31.size g38
  refine AE AC rfl rfl q39 rfl rfl rfl rfl (by simp only [SP0,SP1,S0,S1,Nat.reduceAdd];rfl) fun w6 U42 q43=>?_
  have F45:=belU E37 U42 g38
  have X44:=Ext.trans X31 F45
  refine Ad<|h35 _ _<|Aj<|sV (Ai Ay rfl q43 rfl) ?_
  obtain ⟨r46,h47,f48⟩:=Ab f28
  refine sc (Af Kn (by rfl)) (Fm x0_1 A4 c5 w6 (TB.ext X44 hT) (n6.ext X44) r46 h47) ?_
  rintro _ w7 E49 rfl
  refine nrm ?_
  have X50:=Ext.trans X44 E49
  rcases BA f48 with ⟨r51,h52,f53⟩ | ⟨r51,h52,rfl⟩
  ·refine scO (Af DI (by rfl)) (Bf r46 1 w7 (TB.ext X50 hT)  (.ok r51) h52) ?_
   rintro _ w8 E54 rfl
   refine nrm ?_
   have X56:=Ext.trans X50 E54
   refine Ad<|h34 _ _<|Aj<|sV (BB (c:=2) rfl rfl (by decide)) ?_
   refine sV (Aa rfl) ?_
   refine Ad<|Bv<|wp_seq_k fun K57 h57=>Aj<|sV (FW (v:=.bool false) (DB rfl rfl) (by rfl)) ?_
   refine Ad<|h57 _ _<|wp_seq_k fun K58 h58=>wp_cond_false (An (evb rfl rfl))<|wp_exit ?_
   simp only [Exit.then,Exit.inBlock,↓reduceIte,Nat.reduceEqDiff]
   obtain rfl:=Option.some.inj f53
   exact Me rfl Res.nil (GD X56 rfl)
  ·refine scP (Af DI (by rfl)) (Bf r46 1 w7 (TB.ext X50 hT)  (.error r51) h52) fun w8 E54=>?_
   have X55:=Ext.trans X50 E54
   exact ⟨rfl,Ep X55⟩
 ·refine scP (Af DI (by rfl)) (Bf r21 1 w3 (TB.ext X25 hT)  (.error r26) h27) fun w4 E29=>?_
  have X30:=Ext.trans X25 E29
  exact ⟨rfl,Ep X30⟩
theorem c_dyad_exact__dyad_num_plus__dyad_near (x0:Al) (x1:Al) (A1:Option Addr) (c2:Nat) (A4:Option Addr) (c5:Nat) (w:World) (hT:TB w) (n3:RLu w A1 c2 x0.Man.Abs) (n6:RLu w A4 c5 x1.Man.Abs) (r:Ae × Int) (hr:BX x0 x1=some r) :
  Calls Tryz.prog 123 #[.agg #[.bool x0.Man.Neg,.slice A1 (List.length x0.Man.Abs) c2,.int .i64 x0.Exp],.agg #[.bool x1.Man.Neg,.slice A4 (List.length x1.Man.Abs) c5,.int .i64 x1.Exp],.agg #[.func (.func 124) #[] #[],.func (.func 125) #[] #[]]] w (Ret GJ w r):=by
 unfold BX at hr
 obtain ⟨q0,hq0,hr0⟩:=Ab hr
 unfold Cy at hq0
 go_enter_defers Tryz.func123,Tryz.ntmps123
 refine wp_seq_k fun K7 h7=>Aj<|BP rfl rfl fun b8 w1 E9 g10 q11=>?_
 refine nrm ?_
 refine BP rfl rfl fun b12 w2 E13 g14 q15=>?_
 refine nrm ?_
 have g16:=Nat.le_trans E9.size g14
 have X17:=Ext.trans E9 E13
 refine BP rfl rfl fun b18 w3 E19 g20 q21=>?_
 refine nrm ?_
 have g22:=Nat.le_trans X17.size g20
 have X23:=Ext.trans X17 E19
 refine AB AV fun b24 w4 E25 g26 q27=>?_
 refine nrm ?_
 have g28:=Nat.le_trans X23.size g26
 have X29:=Ext.trans X23 E25
 refine AB IU fun b30 w5 E31 g32 q33=>?_
 refine nrm ?_
 have g34:=Nat.le_trans X29.size g32
 have X35:=Ext.trans X29 E31
 refine Ad<|h7 _ _<|wp_seq_k fun K36 h36=>Aj<|HQ (vs:=[.pointer (some ⟨b24,0,none⟩),.pointer (some ⟨b30,0,none⟩)]) (by rfl) (by rfl)<|Ad<|h36 _ _<|wp_seq_k fun K37 h37=>Aj<|have q38:=(((q11.ext E13).ext E19).ext E25).ext E31;sV (Ai Ay rfl q38 rfl) ?_
 have q39:=((q15.ext E19).ext E25).ext E31
 refine sV (Ai Ay rfl q39 rfl) ?_
 refine Ei (vals:=[(0,.agg #[.bool x0.Man.Neg,.slice A1 (List.length x0.Man.Abs) c2,.int .i64 x0.Exp]),(1,.agg #[.bool x1.Man.Neg,.slice A4 (List.length x1.Man.Abs) c5,.int .i64 x1.Exp])]) (cs:=[.bool x0.Man.Neg,.slice A1 (List.length x0.Man.Abs) c2,.int .i64 x0.Exp,.bool x1.Man.Neg,.slice A4 (List.length x1.Man.Abs) c5,.int .i64 x1.Exp]) Gt AC AV (by rfl) (by decide) (by kernel_rfl) fun b40 w6 E41 g42 q43=>?_
 refine nrm ?_
 have g44:=Nat.le_trans X35.size g42
 have X45:=Ext.trans X35 E41
 rcases BA hq0 with ⟨r46,h47,f48⟩ | ⟨r46,h47,rfl⟩
 ·refine scO (Af Hf (by rfl)) (EB x0 x1 b40 A1 c2 A4 c5 w6 (TB.ext X45 hT) (n3.ext X45) (n6.ext X45) q43 (.ok r46) h47) ?_
  rintro _ w7 E49 rfl
  refine nrm ?_
  have X52:=Ext.trans X45 E49
  refine Ad<|h37 _ _<|wp_seq_k fun K53 h53=>DR [6,7] 8 mo rfl fun w8 E54 S55=>?_
  have X56:=Ext.trans X52 E54
  refine dV 0 rfl (fun _ hw=>Ai Ay rfl ((((q38.ext E41).ext E49).ext E54).ext hw) rfl) S55 ?_ (hQ:=fun _ _ _ h=>dq (rs:=[.cell 6 27,.cell 7 33]) rfl (by decide) h)
  refine dV 2 rfl (fun _ hw=>Ai Ay rfl ((((q39.ext E41).ext E49).ext E54).ext hw) rfl) S55 ?_ (hQ:=fun _ _ _ h=>dq (rs:=[.cell 6 27,.cell 7 33]) rfl (by decide) h)
  obtain ⟨m57,h58,f59⟩:=Ab f48
  have hx60:=Cc h58
  have n61:RU w8 A1 c2 m57:=by unfold RU;rw [hx60];exact (n3.ext X56)
  obtain ⟨r62,h63,f64⟩:=Ab f59
  obtain ⟨m65,h66,f67⟩:=Ab f64
  have hx68:=Cc h66
  have n69:RU w8 A4 c5 m65:=by unfold RU;rw [hx68];exact (n6.ext X56)
  obtain ⟨r70,h71,f72⟩:=Ab f67
  refine Jl #[true,true,true,true,true,true,false,false] 2 (fun l' w'=>∃(A73:Option Addr) (c74:Nat) (A76:Option Addr) (c77:Nat) (b79:Nat) (b82:Nat),Ext w8 w'∧RU w' A73 c74 r62.m.Abs∧RU w' A76 c77 r70.m.Abs∧w8.heap.size≤b79∧Bx w' b79 119 [.bool false,.slice none 0 0,.int .i64 0]∧w8.heap.size≤b82∧Bx w' b82 119 [.bool false,.slice none 0 0,.int .i64 0]∧b79≠b82∧l'=[.agg #[.bool x0.Man.Neg,.slice A1 (List.length x0.Man.Abs) c2,.int .i64 x0.Exp],.agg #[.bool x1.Man.Neg,.slice A4 (List.length x1.Man.Abs) c5,.int .i64 x1.Exp],.agg #[.func (.func 124) #[] #[],.func (.func 125) #[] #[]],.pointer (some ⟨b8,0,none⟩),.pointer (some ⟨b12,0,none⟩),.pointer (some ⟨b18,0,none⟩),.pointer (some ⟨b24,0,none⟩),.pointer (some ⟨b30,0,none⟩),.pointer (some ⟨b79,0,none⟩),.pointer (some ⟨b82,0,none⟩),.agg #[.bool x0.Man.Neg,.slice A1 (List.length x0.Man.Abs) c2,.int .i64 x0.Exp],.agg #[.bool x1.Man.Neg,.slice A4 (List.length x1.Man.Abs) c5,.int .i64 x1.Exp],.slice (some ⟨b40,0,none⟩) 2 2,.tuple #[],.agg #[.bool x0.Man.Neg,.slice A1 (List.length x0.Man.Abs) c2,.int .i64 x0.Exp],.agg #[.bool r62.m.Neg,.slice A73 (sz r62.m.Abs) c74,.int .i64 r62.e],.agg #[.bool x1.Man.Neg,.slice A4 (List.length x1.Man.Abs) c5,.int .i64 x1.Exp],.agg #[.bool r70.m.Neg,.slice A76 (sz r70.m.Abs) c77,.int .i64 r70.e],undef,undef,undef,undef,undef,undef,undef,undef,undef,undef,undef,undef]) ?_ ?_
  ·rintro _ w9 ⟨A73,c74,A76,c77,b79,b82,E86,n75,n78,g80,q81,g83,q84,ne85,rfl⟩
   have g224:=Nat.le_trans X56.size g80
   have g225:=Nat.le_trans X56.size g83
   have X226:=Ext.trans X56 E86
   have S227:=S55.trans E86
   refine dk 6 rfl (by kernel_rfl) (by decide) (by rfl) Ce rfl rfl q81 rfl rfl rfl rfl (by simp only [SP0,SP1,S0,S1,Nat.reduceAdd];rfl) fun w10 U228 q229=>?_
   have X230:=belU X226 U228 g224
   refine dk 7 rfl (by kernel_rfl) (by decide) (by rfl) Ce rfl rfl (q84.upd U228 (Ne.symm ne85)) rfl rfl rfl rfl (by simp only [SP0,SP1,S0,S1,Nat.reduceAdd];rfl) fun w11 U231 q232=>?_
   have X233:=belU X230 U231 g225
   refine Cx (by kernel_rfl) ?_
   refine h53 _ _<|wp_seq_k fun K234 h234=>Aj<|sV (Ak (o':=1) Ld rfl rfl) ?_
   have ne235:=(Bx.neT ((((((q21.ext E25).ext E31).ext E41).ext E49).ext E54).ext E86) q81 (by decide))
   have ne236:=(Bx.neT (((((((q21.ext E25).ext E31).ext E41).ext E49).ext E54).ext E86).upd U228 ne235) (q84.upd U228 (Ne.symm ne85)) (by decide))
   have q237:=(((((((q21.ext E25).ext E31).ext E41).ext E49).ext E54).ext E86).upd U228 ne235).upd U231 ne236
   refine sV (Am Nk rfl (Bx.cell q237 rfl)) ?_
   refine sV (Ai AH rfl (q229.upd U231 ne85) rfl) ?_
   refine sV (Ai AH rfl q232 rfl) ?_
   have n238:=(n75.upd U228 q81 (by decide)).upd U231 (q84.upd U228 (Ne.symm ne85)) (by decide)
   have n239:=(n78.upd U228 q81 (by decide)).upd U231 (q84.upd U228 (Ne.symm ne85)) (by decide)
   obtain ⟨r240,h241,f242⟩:=Ab f72
   refine sc (Gw (first:=[]) (cap:=[]) (args:=[.agg #[.bool r62.m.Neg,.slice A73 (sz r62.m.Abs) c74,.int .i64 r62.e],.agg #[.bool r70.m.Neg,.slice A76 (sz r70.m.Abs) c77,.int .i64 r70.e]]) MN (by rfl) (by rfl)) (JH r62 r70 A73 c74 A76 c77 w11 (TB.ext X233 hT) n238 n239 r240 h241) ?_
   rintro _ w12 E243 rfl
   refine nrm ?_
   have X244:=Ext.trans X233 E243
   rcases BA f242 with ⟨r245,h246,f247⟩ | ⟨r245,h246,rfl⟩
   ·refine scO (Af DI (by rfl)) (Bf r240 2 w12 (TB.ext X244 hT)  (.ok r245) h246) ?_
    rintro _ w13 E248 rfl
    refine nrm ?_
    have X256:=Ext.trans X244 E248
    refine Ad<|h234 _ _<|wp_seq_k fun K257 h257=>Aj<|sV (Ak (o':=0) Lg rfl rfl) ?_
    refine sV (Am MM rfl (Bx.cell ((q237.ext E243).ext E248) rfl)) ?_
    have q258:=((q229.upd U231 ne85).ext E243).ext E248
    refine sV (Ai AH rfl q258 rfl) ?_
    refine sV (Ai AH rfl ((q232.ext E243).ext E248) rfl) ?_
    obtain ⟨r259,h260,f261⟩:=Ab f247
    refine sc (Gw (first:=[]) (cap:=[]) (args:=[.agg #[.bool r62.m.Neg,.slice A73 (sz r62.m.Abs) c74,.int .i64 r62.e],.agg #[.bool r70.m.Neg,.slice A76 (sz r70.m.Abs) c77,.int .i64 r70.e]]) LN (by rfl) (by rfl)) (Hj r62 r70 A73 c74 A76 c77 w13 (TB.ext X256 hT) ((n238.ext E243).ext E248) ((n239.ext E243).ext E248) r259 h260) ?_
    rintro _ w14 E262 ⟨A263,c264,rfl,n265⟩
    refine nrm ?_
    have X266:=Ext.trans X256 E262
    rcases BA f261 with ⟨r267,h268,f269⟩ | ⟨r267,h268,rfl⟩
    ·refine scO (Af Gv (by rfl)) (BW r259 A263 c264 w14 (TB.ext X266 hT) n265 (.ok r267) h268) ?_
     rintro _ w15 E270 ⟨A278,c279,rfl,n280⟩
     refine nrm ?_
     have X281:=Ext.trans X266 E270
     have ne282:=(Bx.neT (((((q27.ext E31).ext E41).ext E49).ext E54).ext E86) q81 (by decide))
     have ne283:=(Bx.neT ((((((q27.ext E31).ext E41).ext E49).ext E54).ext E86).upd U228 ne282) (q84.upd U228 (Ne.symm ne85)) (by decide))
     have q284:=((((((((((q27.ext E31).ext E41).ext E49).ext E54).ext E86).upd U228 ne282).upd U231 ne283).ext E243).ext E248).ext E262).ext E270
     refine AE AC rfl rfl q284 rfl rfl rfl rfl (by simp only [SP0,SP1,S0,S1,Nat.reduceAdd];rfl) fun w16 U285 q286=>?_
     have X287:=belU X281 U285 g28
     have ne288:=(Bx.neT ((((q33.ext E41).ext E49).ext E54).ext E86) q81 (by decide))
     have ne289:=(Bx.neT (((((q33.ext E41).ext E49).ext E54).ext E86).upd U228 ne288) (q84.upd U228 (Ne.symm ne85)) (by decide))
     have ne290:=(Bx.neT ((((((((((q33.ext E41).ext E49).ext E54).ext E86).upd U228 ne288).upd U231 ne289).ext E243).ext E248).ext E262).ext E270) q284 (by decide))
     have q291:=((((((((((q33.ext E41).ext E49).ext E54).ext E86).upd U228 ne288).upd U231 ne289).ext E243).ext E248).ext E262).ext E270).upd U285 ne290
     refine AE HI rfl rfl q291 rfl rfl rfl rfl (by simp only [SP0,SP1,S0,S1,Nat.reduceAdd];rfl) fun w17 U292 q293=>?_
     have X294:=belU X287 U292 g34
     refine Ad<|h257 _ _<|wp_ret ?_
     have n295:=(n280.upd U285 q284 (by decide)).upd U292 q291 (by decide)
     obtain rfl:=Option.some.inj f269
     obtain rfl:=Option.some.inj hr0
     exact Kg CY EV rfl (Res.cellN rfl Ay (q286.upd U292 (Ne.symm ne290)) rfl rfl (Res.cell1 rfl Dg (Bx.cell q293 rfl) Res.nil)) (Ap X294 ⟨A278,c279,rfl,n295⟩)
    ·refine scP (Af Gv (by rfl)) (BW r259 A263 c264 w14 (TB.ext X266 hT) n265 (.error r267) h268) fun w15 E270=>?_
     have X271:=Ext.trans X266 E270
     have ne272:=(Bx.neT (((((q27.ext E31).ext E41).ext E49).ext E54).ext E86) q81 (by decide))
     have ne273:=(Bx.neT ((((((q27.ext E31).ext E41).ext E49).ext E54).ext E86).upd U228 ne272) (q84.upd U228 (Ne.symm ne85)) (by decide))
     have q274:=((((((((((q27.ext E31).ext E41).ext E49).ext E54).ext E86).upd U228 ne272).upd U231 ne273).ext E243).ext E248).ext E262).ext E270
     have ne275:=(Bx.neT ((((q33.ext E41).ext E49).ext E54).ext E86) q81 (by decide))
     have ne276:=(Bx.neT (((((q33.ext E41).ext E49).ext E54).ext E86).upd U228 ne275) (q84.upd U228 (Ne.symm ne85)) (by decide))
     have q277:=(((((((((q33.ext E41).ext E49).ext E54).ext E86).upd U228 ne275).upd U231 ne276).ext E243).ext E248).ext E262).ext E270
     refine Hc EV (Bk b24 b30 (.bool false:Value) (.slice none 0 0:Value) (.int .i64 0:Value) (.int .i64 0:Value) r267 q274 q277) rfl ?_
     rintro w9 ⟨u9,q9,q9'⟩
     obtain rfl:=Option.some.inj hr0
     exact ⟨_,(Res.cellN rfl Ay q9 rfl rfl (Res.cell1 rfl Dg (Bx.cell q9' rfl) Res.nil)),Ap (u9.toExt X271 g28 g34) ⟨none,0,rfl,RU.nil _⟩⟩
   ·refine scP (Af DI (by rfl)) (Bf r240 2 w12 (TB.ext X244 hT)  (.error r245) h246) fun w13 E248=>?_
    have X249:=Ext.trans X244 E248
    have ne250:=(Bx.neT (((((q27.ext E31).ext E41).ext E49).ext E54).ext E86) q81 (by decide))
    have ne251:=(Bx.neT ((((((q27.ext E31).ext E41).ext E49).ext E54).ext E86).upd U228 ne250) (q84.upd U228 (Ne.symm ne85)) (by decide))
    have q252:=((((((((q27.ext E31).ext E41).ext E49).ext E54).ext E86).upd U228 ne250).upd U231 ne251).ext E243).ext E248
    have ne253:=(Bx.neT ((((q33.ext E41).ext E49).ext E54).ext E86) q81 (by decide))
    have ne254:=(Bx.neT (((((q33.ext E41).ext E49).ext E54).ext E86).upd U228 ne253) (q84.upd U228 (Ne.symm ne85)) (by decide))
    have q255:=(((((((q33.ext E41).ext E49).ext E54).ext E86).upd U228 ne253).upd U231 ne254).ext E243).ext E248
    refine Hc EV (Bk b24 b30 (.bool false:Value) (.slice none 0 0:Value) (.int .i64 0:Value) (.int .i64 0:Value) r245 q252 q255) rfl ?_
    rintro w9 ⟨u9,q9,q9'⟩
    obtain rfl:=Option.some.inj hr0
    exact ⟨_,(Res.cellN rfl Ay q9 rfl rfl (Res.cell1 rfl Dg (Bx.cell q9' rfl) Res.nil)),Ap (u9.toExt X249 g28 g34) ⟨none,0,rfl,RU.nil _⟩⟩
  ·intro HJ87
   refine HG 1 4 5 (by kernel_rfl) ?_ ?_ ?_
   ·refine opC 1 rfl (by rfl) (Af Ci (by simp only [sz,hx60];rfl)) (Ba (⟨(⟨x0.Man.Neg,m57⟩:Ah),x0.Exp⟩:Ae) A1 c2 _ (TB.ext (Ext.refl _) (TB.ext X56 hT)) (n61.ext (Ext.refl _)) r62 h63) ?_
    rintro _ _ E88 ⟨A89,c90,rfl,n91⟩
    refine dnrm ?_
    refine HG 3 4 5 (by kernel_rfl) ?_ ?_ ?_
    ·refine opC 3 rfl (by rfl) (Af Ci (by simp only [sz,hx68];rfl)) (Ba (⟨(⟨x1.Man.Neg,m65⟩:Ah),x1.Exp⟩:Ae) A4 c5 _ (TB.ext E88 (TB.ext X56 hT)) (n69.ext E88) r70 h71) ?_
     rintro _ _ E92 ⟨A93,c94,rfl,n95⟩
     refine dnrm ?_
     refine AQ 4 5 (by kernel_rfl) ?_ ?_
     ·refine opA 4 rfl (by rfl) (Aw AK) fun b97 _ E96 g98 q99=>dnrm ?_
      refine Au 5 (by kernel_rfl) ?_
      ·refine opA 5 rfl (by rfl) (Aw AK) fun b101 _ E100 g102 q103=>dnrm ?_
       exact AU (by kernel_rfl) (HJ87 _ _ ⟨A89,c90,A93,c94,b97,b101,(((E88.trans E92).trans E96).trans E100),(((n91.ext E92).ext E96).ext E100),((n95.ext E96).ext E100),(Nat.le_trans (E88.trans E92).size g98),(q99.ext E100),(Nat.le_trans ((E88.trans E92).trans E96).size g102),q103,(Bx.ne q99 g102),rfl⟩)
     ·refine opA 5 rfl (by rfl) (Aw AK) fun b105 _ E104 g106 q107=>dnrm ?_
      refine Au 4 (by kernel_rfl) ?_
      ·refine opA 4 rfl (by rfl) (Aw AK) fun b109 _ E108 g110 q111=>dnrm ?_
       exact AU (by kernel_rfl) (HJ87 _ _ ⟨A89,c90,A93,c94,b109,b105,(((E88.trans E92).trans E104).trans E108),(((n91.ext E92).ext E104).ext E108),((n95.ext E104).ext E108),(Nat.le_trans ((E88.trans E92).trans E104).size g110),q111,(Nat.le_trans (E88.trans E92).size g106),(q107.ext E108),(Ne.symm (Bx.ne q107 g110)),rfl⟩)
    ·refine opA 4 rfl (by rfl) (Aw AK) fun b113 _ E112 g114 q115=>dnrm ?_
     refine AQ 3 5 (by kernel_rfl) ?_ ?_
     ·refine opC 3 rfl (by rfl) (Af Ci (by simp only [sz,hx68];rfl)) (Ba (⟨(⟨x1.Man.Neg,m65⟩:Ah),x1.Exp⟩:Ae) A4 c5 _ (TB.ext (E88.trans E112) (TB.ext X56 hT)) (n69.ext (E88.trans E112)) r70 h71) ?_
      rintro _ _ E116 ⟨A117,c118,rfl,n119⟩
      refine dnrm ?_
      refine Au 5 (by kernel_rfl) ?_
      ·refine opA 5 rfl (by rfl) (Aw AK) fun b121 _ E120 g122 q123=>dnrm ?_
       exact AU (by kernel_rfl) (HJ87 _ _ ⟨A89,c90,A117,c118,b113,b121,(((E88.trans E112).trans E116).trans E120),(((n91.ext E112).ext E116).ext E120),(n119.ext E120),(Nat.le_trans E88.size g114),((q115.ext E116).ext E120),(Nat.le_trans ((E88.trans E112).trans E116).size g122),q123,(Bx.ne (q115.ext E116) g122),rfl⟩)
     ·refine opA 5 rfl (by rfl) (Aw AK) fun b125 _ E124 g126 q127=>dnrm ?_
      refine Au 3 (by kernel_rfl) ?_
      ·refine opC 3 rfl (by rfl) (Af Ci (by simp only [sz,hx68];rfl)) (Ba (⟨(⟨x1.Man.Neg,m65⟩:Ah),x1.Exp⟩:Ae) A4 c5 _ (TB.ext ((E88.trans E112).trans E124) (TB.ext X56 hT)) (n69.ext ((E88.trans E112).trans E124)) r70 h71) ?_
       rintro _ _ E128 ⟨A129,c130,rfl,n131⟩
       refine dnrm ?_
       exact AU (by kernel_rfl) (HJ87 _ _ ⟨A89,c90,A129,c130,b113,b125,(((E88.trans E112).trans E124).trans E128),(((n91.ext E112).ext E124).ext E128),n131,(Nat.le_trans E88.size g114),((q115.ext E124).ext E128),(Nat.le_trans (E88.trans E112).size g126),(q127.ext E128),(Bx.ne q115 g126),rfl⟩)
    ·refine opA 5 rfl (by rfl) (Aw AK) fun b133 _ E132 g134 q135=>dnrm ?_
     refine AQ 3 4 (by kernel_rfl) ?_ ?_
     ·refine opC 3 rfl (by rfl) (Af Ci (by simp only [sz,hx68];rfl)) (Ba (⟨(⟨x1.Man.Neg,m65⟩:Ah),x1.Exp⟩:Ae) A4 c5 _ (TB.ext (E88.trans E132) (TB.ext X56 hT)) (n69.ext (E88.trans E132)) r70 h71) ?_
      rintro _ _ E136 ⟨A137,c138,rfl,n139⟩
      refine dnrm ?_
      refine Au 4 (by kernel_rfl) ?_
      ·refine opA 4 rfl (by rfl) (Aw AK) fun b141 _ E140 g142 q143=>dnrm ?_
       exact AU (by kernel_rfl) (HJ87 _ _ ⟨A89,c90,A137,c138,b141,b133,(((E88.trans E132).trans E136).trans E140),(((n91.ext E132).ext E136).ext E140),(n139.ext E140),(Nat.le_trans ((E88.trans E132).trans E136).size g142),q143,(Nat.le_trans E88.size g134),((q135.ext E136).ext E140),(Ne.symm (Bx.ne (q135.ext E136) g142)),rfl⟩)
     ·refine opA 4 rfl (by rfl) (Aw AK) fun b145 _ E144 g146 q147=>dnrm ?_
      refine Au 3 (by kernel_rfl) ?_
      ·refine opC 3 rfl (by rfl) (Af Ci (by simp only [sz,hx68];rfl)) (Ba (⟨(⟨x1.Man.Neg,m65⟩:Ah),x1.Exp⟩:Ae) A4 c5 _ (TB.ext ((E88.trans E132).trans E144) (TB.ext X56 hT)) (n69.ext ((E88.trans E132).trans E144)) r70 h71) ?_
       rintro _ _ E148 ⟨A149,c150,rfl,n151⟩
       refine dnrm ?_
       exact AU (by kernel_rfl) (HJ87 _ _ ⟨A89,c90,A149,c150,b145,b133,(((E88.trans E132).trans E144).trans E148),(((n91.ext E132).ext E144).ext E148),n151,(Nat.le_trans (E88.trans E132).size g146),(q147.ext E148),(Nat.le_trans E88.size g134),((q135.ext E144).ext E148),(Ne.symm (Bx.ne q135 g146)),rfl⟩)
   ·refine opA 4 rfl (by rfl) (Aw AK) fun b153 _ E152 g154 q155=>dnrm ?_
    refine AQ 1 5 (by kernel_rfl) ?_ ?_
    ·refine opC 1 rfl (by rfl) (Af Ci (by simp only [sz,hx60];rfl)) (Ba (⟨(⟨x0.Man.Neg,m57⟩:Ah),x0.Exp⟩:Ae) A1 c2 _ (TB.ext E152 (TB.ext X56 hT)) (n61.ext E152) r62 h63) ?_
     rintro _ _ E156 ⟨A157,c158,rfl,n159⟩
     refine dnrm ?_
     refine AQ 3 5 (by kernel_rfl) ?_ ?_
     ·refine opC 3 rfl (by rfl) (Af Ci (by simp only [sz,hx68];rfl)) (Ba (⟨(⟨x1.Man.Neg,m65⟩:Ah),x1.Exp⟩:Ae) A4 c5 _ (TB.ext (E152.trans E156) (TB.ext X56 hT)) (n69.ext (E152.trans E156)) r70 h71) ?_
      rintro _ _ E160 ⟨A161,c162,rfl,n163⟩
      refine dnrm ?_
      refine Au 5 (by kernel_rfl) ?_
      ·refine opA 5 rfl (by rfl) (Aw AK) fun b165 _ E164 g166 q167=>dnrm ?_
       exact AU (by kernel_rfl) (HJ87 _ _ ⟨A157,c158,A161,c162,b153,b165,(((E152.trans E156).trans E160).trans E164),((n159.ext E160).ext E164),(n163.ext E164),g154,(((q155.ext E156).ext E160).ext E164),(Nat.le_trans ((E152.trans E156).trans E160).size g166),q167,(Bx.ne ((q155.ext E156).ext E160) g166),rfl⟩)
     ·refine opA 5 rfl (by rfl) (Aw AK) fun b169 _ E168 g170 q171=>dnrm ?_
      refine Au 3 (by kernel_rfl) ?_
      ·refine opC 3 rfl (by rfl) (Af Ci (by simp only [sz,hx68];rfl)) (Ba (⟨(⟨x1.Man.Neg,m65⟩:Ah),x1.Exp⟩:Ae) A4 c5 _ (TB.ext ((E152.trans E156).trans E168) (TB.ext X56 hT)) (n69.ext ((E152.trans E156).trans E168)) r70 h71) ?_
       rintro _ _ E172 ⟨A173,c174,rfl,n175⟩
       refine dnrm ?_
       exact AU (by kernel_rfl) (HJ87 _ _ ⟨A157,c158,A173,c174,b153,b169,(((E152.trans E156).trans E168).trans E172),((n159.ext E168).ext E172),n175,g154,(((q155.ext E156).ext E168).ext E172),(Nat.le_trans (E152.trans E156).size g170),(q171.ext E172),(Bx.ne (q155.ext E156) g170),rfl⟩)
    ·refine opA 5 rfl (by rfl) (Aw AK) fun b177 _ E176 g178 q179=>dnrm ?_
     refine Au 1 (by kernel_rfl) ?_
     ·refine opC 1 rfl (by rfl) (Af Ci (by simp only [sz,hx60];rfl)) (Ba (⟨(⟨x0.Man.Neg,m57⟩:Ah),x0.Exp⟩:Ae) A1 c2 _ (TB.ext (E152.trans E176) (TB.ext X56 hT)) (n61.ext (E152.trans E176)) r62 h63) ?_
      rintro _ _ E180 ⟨A181,c182,rfl,n183⟩
      refine dnrm ?_
      refine Au 3 (by kernel_rfl) ?_
      ·refine opC 3 rfl (by rfl) (Af Ci (by simp only [sz,hx68];rfl)) (Ba (⟨(⟨x1.Man.Neg,m65⟩:Ah),x1.Exp⟩:Ae) A4 c5 _ (TB.ext ((E152.trans E176).trans E180) (TB.ext X56 hT)) (n69.ext ((E152.trans E176).trans E180)) r70 h71) ?_
       rintro _ _ E184 ⟨A185,c186,rfl,n187⟩
       refine dnrm ?_
       exact AU (by kernel_rfl) (HJ87 _ _ ⟨A181,c182,A185,c186,b153,b177,(((E152.trans E176).trans E180).trans E184),(n183.ext E184),n187,g154,(((q155.ext E176).ext E180).ext E184),(Nat.le_trans E152.size g178),((q179.ext E180).ext E184),(Bx.ne q155 g178),rfl⟩)
   ·refine opA 5 rfl (by rfl) (Aw AK) fun b189 _ E188 g190 q191=>dnrm ?_
    refine AQ 1 4 (by kernel_rfl) ?_ ?_
    ·refine opC 1 rfl (by rfl) (Af Ci (by simp only [sz,hx60];rfl)) (Ba (⟨(⟨x0.Man.Neg,m57⟩:Ah),x0.Exp⟩:Ae) A1 c2 _ (TB.ext E188 (TB.ext X56 hT)) (n61.ext E188) r62 h63) ?_
     rintro _ _ E192 ⟨A193,c194,rfl,n195⟩
     refine dnrm ?_
     refine AQ 3 4 (by kernel_rfl) ?_ ?_
     ·refine opC 3 rfl (by rfl) (Af Ci (by simp only [sz,hx68];rfl)) (Ba (⟨(⟨x1.Man.Neg,m65⟩:Ah),x1.Exp⟩:Ae) A4 c5 _ (TB.ext (E188.trans E192) (TB.ext X56 hT)) (n69.ext (E188.trans E192)) r70 h71) ?_
      rintro _ _ E196 ⟨A197,c198,rfl,n199⟩
      refine dnrm ?_
      refine Au 4 (by kernel_rfl) ?_
      ·refine opA 4 rfl (by rfl) (Aw AK) fun b201 _ E200 g202 q203=>dnrm ?_
       exact AU (by kernel_rfl) (HJ87 _ _ ⟨A193,c194,A197,c198,b201,b189,(((E188.trans E192).trans E196).trans E200),((n195.ext E196).ext E200),(n199.ext E200),(Nat.le_trans ((E188.trans E192).trans E196).size g202),q203,g190,(((q191.ext E192).ext E196).ext E200),(Ne.symm (Bx.ne ((q191.ext E192).ext E196) g202)),rfl⟩)
     ·refine opA 4 rfl (by rfl) (Aw AK) fun b205 _ E204 g206 q207=>dnrm ?_
      refine Au 3 (by kernel_rfl) ?_
      ·refine opC 3 rfl (by rfl) (Af Ci (by simp only [sz,hx68];rfl)) (Ba (⟨(⟨x1.Man.Neg,m65⟩:Ah),x1.Exp⟩:Ae) A4 c5 _ (TB.ext ((E188.trans E192).trans E204) (TB.ext X56 hT)) (n69.ext ((E188.trans E192).trans E204)) r70 h71) ?_
       rintro _ _ E208 ⟨A209,c210,rfl,n211⟩
       refine dnrm ?_
       exact AU (by kernel_rfl) (HJ87 _ _ ⟨A193,c194,A209,c210,b205,b189,(((E188.trans E192).trans E204).trans E208),((n195.ext E204).ext E208),n211,(Nat.le_trans (E188.trans E192).size g206),(q207.ext E208),g190,(((q191.ext E192).ext E204).ext E208),(Ne.symm (Bx.ne (q191.ext E192) g206)),rfl⟩)
    ·refine opA 4 rfl (by rfl) (Aw AK) fun b213 _ E212 g214 q215=>dnrm ?_
     refine Au 1 (by kernel_rfl) ?_
     ·refine opC 1 rfl (by rfl) (Af Ci (by simp only [sz,hx60];rfl)) (Ba (⟨(⟨x0.Man.Neg,m57⟩:Ah),x0.Exp⟩:Ae) A1 c2 _ (TB.ext (E188.trans E212) (TB.ext X56 hT)) (n61.ext (E188.trans E212)) r62 h63) ?_
      rintro _ _ E216 ⟨A217,c218,rfl,n219⟩
      refine dnrm ?_
      refine Au 3 (by kernel_rfl) ?_
      ·refine opC 3 rfl (by rfl) (Af Ci (by simp only [sz,hx68];rfl)) (Ba (⟨(⟨x1.Man.Neg,m65⟩:Ah),x1.Exp⟩:Ae) A4 c5 _ (TB.ext ((E188.trans E212).trans E216) (TB.ext X56 hT)) (n69.ext ((E188.trans E212).trans E216)) r70 h71) ?_
       rintro _ _ E220 ⟨A221,c222,rfl,n223⟩
       refine dnrm ?_
       exact AU (by kernel_rfl) (HJ87 _ _ ⟨A217,c218,A221,c222,b213,b189,(((E188.trans E212).trans E216).trans E220),(n219.ext E220),n223,(Nat.le_trans E188.size g214),((q215.ext E216).ext E220),g190,(((q191.ext E212).ext E216).ext E220),(Ne.symm (Bx.ne q191 g214)),rfl⟩)
 ·refine scP (Af Hf (by rfl)) (EB x0 x1 b40 A1 c2 A4 c5 w6 (TB.ext X45 hT) (n3.ext X45) (n6.ext X45) q43 (.error r46) h47) fun w7 E49=>?_
  have X50:=Ext.trans X45 E49
  have q51:=((q27.ext E31).ext E41).ext E49
  refine Hc EV (Bk b24 b30 (.bool false:Value) (.slice none 0 0:Value) (.int .i64 0:Value) (.int .i64 0:Value) r46 q51 ((q33.ext E41).ext E49)) rfl ?_
  rintro w9 ⟨u9,q9,q9'⟩
  obtain rfl:=Option.some.inj hr0
  exact ⟨_,(Res.cellN rfl Ay q9 rfl rfl (Res.cell1 rfl Dg (Bx.cell q9' rfl) Res.nil)),Ap (u9.toExt X50 g28 g34) ⟨none,0,rfl,RU.nil _⟩⟩
theorem c_dyad_Add (x0:Al) (x1:Al) (A1:Option Addr) (c2:Nat) (A4:Option Addr) (c5:Nat) (w:World) (hT:TB w) (n3:RLu w A1 c2 x0.Man.Abs) (n6:RLu w A4 c5 x1.Man.Abs) (r:Ae × Int) (hr:GN x0 x1=some r) :
  Calls Tryz.prog 39 #[.agg #[.bool x0.Man.Neg,.slice A1 (List.length x0.Man.Abs) c2,.int .i64 x0.Exp],.agg #[.bool x1.Man.Neg,.slice A4 (List.length x1.Man.Abs) c5,.int .i64 x1.Exp]] w (Ret GJ w r):=by
 unfold GN at hr
 go_enter Tryz.func39,Tryz.ntmps39
 refine wp_seq_k fun K7 h7=>Aj<|BP rfl rfl fun b8 w1 E9 g10 q11=>?_
 refine nrm ?_
 refine BP rfl rfl fun b12 w2 E13 g14 q15=>?_
 refine nrm ?_
 have g16:=Nat.le_trans E9.size g14
 have X17:=Ext.trans E9 E13
 refine AB AV fun b18 w3 E19 g20 q21=>?_
 refine nrm ?_
 have g22:=Nat.le_trans X17.size g20
 have X23:=Ext.trans X17 E19
 refine sV (Ac rfl) ?_
 refine Ad<|h7 _ _<|wp_seq_k fun K24 h24=>Aj<|sV (Ai Ay rfl ((q11.ext E13).ext E19) rfl) ?_
 refine sV (Ai Ay rfl (q15.ext E19) rfl) ?_
 refine sV (BH (vals:=[(0,.func (.func 124) #[] #[]),(1,.func (.func 125) #[] #[])]) (cells:=[.func (.func 124) #[] #[],.func (.func 125) #[] #[]]) (by rfl) (by kernel_rfl)) ?_
 obtain ⟨r25,h26,f27⟩:=Ab hr
 refine sc (Af Mk (by rfl)) (c_dyad_exact__dyad_num_plus__dyad_near x0 x1 A1 c2 A4 c5 w3 (TB.ext X23 hT) (n3.ext X23) (n6.ext X23) r25 h26) ?_
 rintro _ w4 E28 ⟨A29,c30,rfl,n31⟩
 refine nrm ?_
 have X32:=Ext.trans X23 E28
 refine sV (Ag rfl rfl) ?_
 refine sV (Ag rfl rfl) ?_
 refine AE AC rfl rfl (q21.ext E28) rfl rfl rfl rfl (by simp only [SP0,SP1,S0,S1,Nat.reduceAdd];rfl) fun w5 U33 q34=>?_
 have X35:=belU X32 U33 g22
 refine sV (Ac rfl) ?_
 refine Ad<|h24 _ _<|wp_ret ?_
 have n36:=n31.upd U33 (q21.ext E28) (by decide)
 obtain rfl:=Option.some.inj f27
 exact fin rfl (Res.cellN rfl Ay q34 rfl rfl (Res.tmp rfl Res.nil)) (Ap X35 ⟨A29,c30,rfl,n36⟩)
theorem c_dyad_Sub_1 (x0:Ao) (x1:Ao) (A1:Option Addr) (c2:Nat) (A4:Option Addr) (c5:Nat) (w:World) (hT:TB w) (n3:RU w A1 c2 x0.m.Abs) (n6:RU w A4 c5 x1.m.Abs) (r:Ao) (hr:Hq x0 x1=some r) :
  Calls Tryz.prog 126 #[.agg #[.bool x0.m.Neg,.slice A1 (sz x0.m.Abs) c2,.int .i64 x0.e],.agg #[.bool x1.m.Neg,.slice A4 (sz x1.m.Abs) c5,.int .i64 x1.e]] w (Ret Gu w r):=by
 unfold Hq at hr
 go_enter Tryz.func126,Tryz.ntmps126
 refine wp_seq_k fun K7 h7=>Aj<|BP rfl rfl fun b8 w1 E9 g10 q11=>?_
 refine nrm ?_
 refine BP rfl rfl fun b12 w2 E13 g14 q15=>?_
 refine nrm ?_
 have g16:=Nat.le_trans E9.size g14
 have X17:=Ext.trans E9 E13
 refine AB AK fun b18 w3 E19 g20 q21=>?_
 refine nrm ?_
 have g22:=Nat.le_trans X17.size g20
 have X23:=Ext.trans X17 E19
 refine Ad<|h7 _ _<|wp_seq_k fun K24 h24=>DR [4] 5 mo rfl fun w4 E25 S26=>have X27:=Ext.trans X23 E25;dV 0 rfl (fun _ hw=>Ai AH rfl ((((q11.ext E13).ext E19).ext E25).ext hw) rfl) S26 ?_
 refine dV 1 rfl (fun _ hw=>Ai AH rfl (((q15.ext E19).ext E25).ext hw) rfl) S26 ?_
 obtain ⟨r28,h29,f30⟩:=Ab hr
 refine dc 2 rfl (by kernel_rfl) (by rfl) (Af Lu (by rfl)) (GM x1 A4 c5 w4 (TB.ext X27 hT) (n6.ext X27) r28 h29) ?_
 rintro _ w5 E31 ⟨A32,c33,rfl,n34⟩
 refine dnrm ?_
 have X35:=Ext.trans X27 E31
 have S36:=S26.trans E31
 obtain ⟨r37,h38,f39⟩:=Ab f30
 refine dc 3 rfl (by kernel_rfl) (by rfl) (Af LN (by rfl)) (Hj x0 r28 A1 c2 A32 c33 w5 (TB.ext X35 hT) (n3.ext X35) n34 r37 h38) ?_
 rintro _ w6 E40 ⟨A41,c42,rfl,n43⟩
 refine dnrm ?_
 have X44:=Ext.trans X35 E40
 have S45:=S36.trans E40
 have q46:=((q21.ext E25).ext E31).ext E40
 refine dk 4 rfl (by kernel_rfl) (by decide) (by rfl) Ce rfl rfl q46 rfl rfl rfl rfl (by simp only [SP0,SP1,S0,S1,Nat.reduceAdd];rfl) fun w7 U47 q48=>?_
 have X49:=belU X44 U47 g22
 refine Cx (by kernel_rfl) ?_
 refine h24 _ _<|wp_ret ?_
 obtain rfl:=Option.some.inj f39
 exact fin rfl (Res.cellN rfl AH q48 rfl rfl Res.nil) (Ap X49 ⟨A41,c42,rfl,(n43.upd U47 q46 (by decide))⟩)
theorem c_dyad_exact__dyad_Sub_1__dyad_near (x0:Al) (x1:Al) (A1:Option Addr) (c2:Nat) (A4:Option Addr) (c5:Nat) (w:World) (hT:TB w) (n3:RLu w A1 c2 x0.Man.Abs) (n6:RLu w A4 c5 x1.Man.Abs) (r:Ae × Int) (hr:Cn x0 x1=some r) :
  Calls Tryz.prog 123 #[.agg #[.bool x0.Man.Neg,.slice A1 (List.length x0.Man.Abs) c2,.int .i64 x0.Exp],.agg #[.bool x1.Man.Neg,.slice A4 (List.length x1.Man.Abs) c5,.int .i64 x1.Exp],.agg #[.func (.func 126) #[] #[],.func (.func 125) #[] #[]]] w (Ret GJ w r):=by
 unfold Cn at hr
 obtain ⟨q0,hq0,hr0⟩:=Ab hr
 unfold CW at hq0
 go_enter_defers Tryz.func123,Tryz.ntmps123
 refine wp_seq_k fun K7 h7=>Aj<|BP rfl rfl fun b8 w1 E9 g10 q11=>?_
 refine nrm ?_
 refine BP rfl rfl fun b12 w2 E13 g14 q15=>?_
 refine nrm ?_
 have g16:=Nat.le_trans E9.size g14
 have X17:=Ext.trans E9 E13
 refine BP rfl rfl fun b18 w3 E19 g20 q21=>?_
 refine nrm ?_
 have g22:=Nat.le_trans X17.size g20
 have X23:=Ext.trans X17 E19
 refine AB AV fun b24 w4 E25 g26 q27=>?_
 refine nrm ?_
 have g28:=Nat.le_trans X23.size g26
 have X29:=Ext.trans X23 E25
 refine AB IU fun b30 w5 E31 g32 q33=>?_
 refine nrm ?_
 have g34:=Nat.le_trans X29.size g32
 have X35:=Ext.trans X29 E31
 refine Ad<|h7 _ _<|wp_seq_k fun K36 h36=>Aj<|HQ (vs:=[.pointer (some ⟨b24,0,none⟩),.pointer (some ⟨b30,0,none⟩)]) (by rfl) (by rfl)<|Ad<|h36 _ _<|wp_seq_k fun K37 h37=>Aj<|have q38:=(((q11.ext E13).ext E19).ext E25).ext E31;sV (Ai Ay rfl q38 rfl) ?_
 have q39:=((q15.ext E19).ext E25).ext E31
 refine sV (Ai Ay rfl q39 rfl) ?_
 refine Ei (vals:=[(0,.agg #[.bool x0.Man.Neg,.slice A1 (List.length x0.Man.Abs) c2,.int .i64 x0.Exp]),(1,.agg #[.bool x1.Man.Neg,.slice A4 (List.length x1.Man.Abs) c5,.int .i64 x1.Exp])]) (cs:=[.bool x0.Man.Neg,.slice A1 (List.length x0.Man.Abs) c2,.int .i64 x0.Exp,.bool x1.Man.Neg,.slice A4 (List.length x1.Man.Abs) c5,.int .i64 x1.Exp]) Gt AC AV (by rfl) (by decide) (by kernel_rfl) fun b40 w6 E41 g42 q43=>?_
 refine nrm ?_
 have g44:=Nat.le_trans X35.size g42
 have X45:=Ext.trans X35 E41
 rcases BA hq0 with ⟨r46,h47,f48⟩ | ⟨r46,h47,rfl⟩
 ·refine scO (Af Hf (by rfl)) (EB x0 x1 b40 A1 c2 A4 c5 w6 (TB.ext X45 hT) (n3.ext X45) (n6.ext X45) q43 (.ok r46) h47) ?_
  rintro _ w7 E49 rfl
  refine nrm ?_
  have X52:=Ext.trans X45 E49
  refine Ad<|h37 _ _<|wp_seq_k fun K53 h53=>DR [6,7] 8 mo rfl fun w8 E54 S55=>?_
  have X56:=Ext.trans X52 E54
  refine dV 0 rfl (fun _ hw=>Ai Ay rfl ((((q38.ext E41).ext E49).ext E54).ext hw) rfl) S55 ?_ (hQ:=fun _ _ _ h=>dq (rs:=[.cell 6 27,.cell 7 33]) rfl (by decide) h)
  refine dV 2 rfl (fun _ hw=>Ai Ay rfl ((((q39.ext E41).ext E49).ext E54).ext hw) rfl) S55 ?_ (hQ:=fun _ _ _ h=>dq (rs:=[.cell 6 27,.cell 7 33]) rfl (by decide) h)
  obtain ⟨m57,h58,f59⟩:=Ab f48
  have hx60:=Cc h58
  have n61:RU w8 A1 c2 m57:=by unfold RU;rw [hx60];exact (n3.ext X56)
  obtain ⟨r62,h63,f64⟩:=Ab f59
  obtain ⟨m65,h66,f67⟩:=Ab f64
  have hx68:=Cc h66
  have n69:RU w8 A4 c5 m65:=by unfold RU;rw [hx68];exact (n6.ext X56)
  obtain ⟨r70,h71,f72⟩:=Ab f67
  refine Jl #[true,true,true,true,true,true,false,false] 2 (fun l' w'=>∃(A73:Option Addr) (c74:Nat) (A76:Option Addr) (c77:Nat) (b79:Nat) (b82:Nat),Ext w8 w'∧RU w' A73 c74 r62.m.Abs∧RU w' A76 c77 r70.m.Abs∧w8.heap.size≤b79∧Bx w' b79 119 [.bool false,.slice none 0 0,.int .i64 0]∧w8.heap.size≤b82∧Bx w' b82 119 [.bool false,.slice none 0 0,.int .i64 0]∧b79≠b82∧l'=[.agg #[.bool x0.Man.Neg,.slice A1 (List.length x0.Man.Abs) c2,.int .i64 x0.Exp],.agg #[.bool x1.Man.Neg,.slice A4 (List.length x1.Man.Abs) c5,.int .i64 x1.Exp],.agg #[.func (.func 126) #[] #[],.func (.func 125) #[] #[]],.pointer (some ⟨b8,0,none⟩),.pointer (some ⟨b12,0,none⟩),.pointer (some ⟨b18,0,none⟩),.pointer (some ⟨b24,0,none⟩),.pointer (some ⟨b30,0,none⟩),.pointer (some ⟨b79,0,none⟩),.pointer (some ⟨b82,0,none⟩),.agg #[.bool x0.Man.Neg,.slice A1 (List.length x0.Man.Abs) c2,.int .i64 x0.Exp],.agg #[.bool x1.Man.Neg,.slice A4 (List.length x1.Man.Abs) c5,.int .i64 x1.Exp],.slice (some ⟨b40,0,none⟩) 2 2,.tuple #[],.agg #[.bool x0.Man.Neg,.slice A1 (List.length x0.Man.Abs) c2,.int .i64 x0.Exp],.agg #[.bool r62.m.Neg,.slice A73 (sz r62.m.Abs) c74,.int .i64 r62.e],.agg #[.bool x1.Man.Neg,.slice A4 (List.length x1.Man.Abs) c5,.int .i64 x1.Exp],.agg #[.bool r70.m.Neg,.slice A76 (sz r70.m.Abs) c77,.int .i64 r70.e],undef,undef,undef,undef,undef,undef,undef,undef,undef,undef,undef,undef]) ?_ ?_
  ·rintro _ w9 ⟨A73,c74,A76,c77,b79,b82,E86,n75,n78,g80,q81,g83,q84,ne85,rfl⟩
   have g224:=Nat.le_trans X56.size g80
   have g225:=Nat.le_trans X56.size g83
   have X226:=Ext.trans X56 E86
   have S227:=S55.trans E86
   refine dk 6 rfl (by kernel_rfl) (by decide) (by rfl) Ce rfl rfl q81 rfl rfl rfl rfl (by simp only [SP0,SP1,S0,S1,Nat.reduceAdd];rfl) fun w10 U228 q229=>?_
   have X230:=belU X226 U228 g224
   refine dk 7 rfl (by kernel_rfl) (by decide) (by rfl) Ce rfl rfl (q84.upd U228 (Ne.symm ne85)) rfl rfl rfl rfl (by simp only [SP0,SP1,S0,S1,Nat.reduceAdd];rfl) fun w11 U231 q232=>?_
   have X233:=belU X230 U231 g225
   refine Cx (by kernel_rfl) ?_
   refine h53 _ _<|wp_seq_k fun K234 h234=>Aj<|sV (Ak (o':=1) Ld rfl rfl) ?_
   have ne235:=(Bx.neT ((((((q21.ext E25).ext E31).ext E41).ext E49).ext E54).ext E86) q81 (by decide))
   have ne236:=(Bx.neT (((((((q21.ext E25).ext E31).ext E41).ext E49).ext E54).ext E86).upd U228 ne235) (q84.upd U228 (Ne.symm ne85)) (by decide))
   have q237:=(((((((q21.ext E25).ext E31).ext E41).ext E49).ext E54).ext E86).upd U228 ne235).upd U231 ne236
   refine sV (Am Nk rfl (Bx.cell q237 rfl)) ?_
   refine sV (Ai AH rfl (q229.upd U231 ne85) rfl) ?_
   refine sV (Ai AH rfl q232 rfl) ?_
   have n238:=(n75.upd U228 q81 (by decide)).upd U231 (q84.upd U228 (Ne.symm ne85)) (by decide)
   have n239:=(n78.upd U228 q81 (by decide)).upd U231 (q84.upd U228 (Ne.symm ne85)) (by decide)
   obtain ⟨r240,h241,f242⟩:=Ab f72
   refine sc (Gw (first:=[]) (cap:=[]) (args:=[.agg #[.bool r62.m.Neg,.slice A73 (sz r62.m.Abs) c74,.int .i64 r62.e],.agg #[.bool r70.m.Neg,.slice A76 (sz r70.m.Abs) c77,.int .i64 r70.e]]) MN (by rfl) (by rfl)) (JH r62 r70 A73 c74 A76 c77 w11 (TB.ext X233 hT) n238 n239 r240 h241) ?_
   rintro _ w12 E243 rfl
   refine nrm ?_
   have X244:=Ext.trans X233 E243
   rcases BA f242 with ⟨r245,h246,f247⟩ | ⟨r245,h246,rfl⟩
   ·refine scO (Af DI (by rfl)) (Bf r240 2 w12 (TB.ext X244 hT)  (.ok r245) h246) ?_
    rintro _ w13 E248 rfl
    refine nrm ?_
    have X256:=Ext.trans X244 E248
    refine Ad<|h234 _ _<|wp_seq_k fun K257 h257=>Aj<|sV (Ak (o':=0) Lg rfl rfl) ?_
    refine sV (Am MM rfl (Bx.cell ((q237.ext E243).ext E248) rfl)) ?_
    have q258:=((q229.upd U231 ne85).ext E243).ext E248
    refine sV (Ai AH rfl q258 rfl) ?_
    refine sV (Ai AH rfl ((q232.ext E243).ext E248) rfl) ?_
    obtain ⟨r259,h260,f261⟩:=Ab f247
    refine sc (Gw (first:=[]) (cap:=[]) (args:=[.agg #[.bool r62.m.Neg,.slice A73 (sz r62.m.Abs) c74,.int .i64 r62.e],.agg #[.bool r70.m.Neg,.slice A76 (sz r70.m.Abs) c77,.int .i64 r70.e]]) en_126 (by rfl) (by rfl)) (c_dyad_Sub_1 r62 r70 A73 c74 A76 c77 w13 (TB.ext X256 hT) ((n238.ext E243).ext E248) ((n239.ext E243).ext E248) r259 h260) ?_
    rintro _ w14 E262 ⟨A263,c264,rfl,n265⟩
    refine nrm ?_
    have X266:=Ext.trans X256 E262
    rcases BA f261 with ⟨r267,h268,f269⟩ | ⟨r267,h268,rfl⟩
    ·refine scO (Af Gv (by rfl)) (BW r259 A263 c264 w14 (TB.ext X266 hT) n265 (.ok r267) h268) ?_
     rintro _ w15 E270 ⟨A278,c279,rfl,n280⟩
     refine nrm ?_
     have X281:=Ext.trans X266 E270
     have ne282:=(Bx.neT (((((q27.ext E31).ext E41).ext E49).ext E54).ext E86) q81 (by decide))
     have ne283:=(Bx.neT ((((((q27.ext E31).ext E41).ext E49).ext E54).ext E86).upd U228 ne282) (q84.upd U228 (Ne.symm ne85)) (by decide))
     have q284:=((((((((((q27.ext E31).ext E41).ext E49).ext E54).ext E86).upd U228 ne282).upd U231 ne283).ext E243).ext E248).ext E262).ext E270
     refine AE AC rfl rfl q284 rfl rfl rfl rfl (by simp only [SP0,SP1,S0,S1,Nat.reduceAdd];rfl) fun w16 U285 q286=>?_
     have X287:=belU X281 U285 g28
     have ne288:=(Bx.neT ((((q33.ext E41).ext E49).ext E54).ext E86) q81 (by decide))
     have ne289:=(Bx.neT (((((q33.ext E41).ext E49).ext E54).ext E86).upd U228 ne288) (q84.upd U228 (Ne.symm ne85)) (by decide))
     have ne290:=(Bx.neT ((((((((((q33.ext E41).ext E49).ext E54).ext E86).upd U228 ne288).upd U231 ne289).ext E243).ext E248).ext E262).ext E270) q284 (by decide))
     have q291:=((((((((((q33.ext E41).ext E49).ext E54).ext E86).upd U228 ne288).upd U231 ne289).ext E243).ext E248).ext E262).ext E270).upd U285 ne290
     refine AE HI rfl rfl q291 rfl rfl rfl rfl (by simp only [SP0,SP1,S0,S1,Nat.reduceAdd];rfl) fun w17 U292 q293=>?_
     have X294:=belU X287 U292 g34
     refine Ad<|h257 _ _<|wp_ret ?_
     have n295:=(n280.upd U285 q284 (by decide)).upd U292 q291 (by decide)
     obtain rfl:=Option.some.inj f269
     obtain rfl:=Option.some.inj hr0
     exact Kg CY EV rfl (Res.cellN rfl Ay (q286.upd U292 (Ne.symm ne290)) rfl rfl (Res.cell1 rfl Dg (Bx.cell q293 rfl) Res.nil)) (Ap X294 ⟨A278,c279,rfl,n295⟩)
    ·refine scP (Af Gv (by rfl)) (BW r259 A263 c264 w14 (TB.ext X266 hT) n265 (.error r267) h268) fun w15 E270=>?_
     have X271:=Ext.trans X266 E270
     have ne272:=(Bx.neT (((((q27.ext E31).ext E41).ext E49).ext E54).ext E86) q81 (by decide))
     have ne273:=(Bx.neT ((((((q27.ext E31).ext E41).ext E49).ext E54).ext E86).upd U228 ne272) (q84.upd U228 (Ne.symm ne85)) (by decide))
     have q274:=((((((((((q27.ext E31).ext E41).ext E49).ext E54).ext E86).upd U228 ne272).upd U231 ne273).ext E243).ext E248).ext E262).ext E270
     have ne275:=(Bx.neT ((((q33.ext E41).ext E49).ext E54).ext E86) q81 (by decide))
     have ne276:=(Bx.neT (((((q33.ext E41).ext E49).ext E54).ext E86).upd U228 ne275) (q84.upd U228 (Ne.symm ne85)) (by decide))
     have q277:=(((((((((q33.ext E41).ext E49).ext E54).ext E86).upd U228 ne275).upd U231 ne276).ext E243).ext E248).ext E262).ext E270
     refine Hc EV (Bk b24 b30 (.bool false:Value) (.slice none 0 0:Value) (.int .i64 0:Value) (.int .i64 0:Value) r267 q274 q277) rfl ?_
     rintro w9 ⟨u9,q9,q9'⟩
     obtain rfl:=Option.some.inj hr0
     exact ⟨_,(Res.cellN rfl Ay q9 rfl rfl (Res.cell1 rfl Dg (Bx.cell q9' rfl) Res.nil)),Ap (u9.toExt X271 g28 g34) ⟨none,0,rfl,RU.nil _⟩⟩
   ·refine scP (Af DI (by rfl)) (Bf r240 2 w12 (TB.ext X244 hT)  (.error r245) h246) fun w13 E248=>?_
    have X249:=Ext.trans X244 E248
    have ne250:=(Bx.neT (((((q27.ext E31).ext E41).ext E49).ext E54).ext E86) q81 (by decide))
    have ne251:=(Bx.neT ((((((q27.ext E31).ext E41).ext E49).ext E54).ext E86).upd U228 ne250) (q84.upd U228 (Ne.symm ne85)) (by decide))
    have q252:=((((((((q27.ext E31).ext E41).ext E49).ext E54).ext E86).upd U228 ne250).upd U231 ne251).ext E243).ext E248
    have ne253:=(Bx.neT ((((q33.ext E41).ext E49).ext E54).ext E86) q81 (by decide))
    have ne254:=(Bx.neT (((((q33.ext E41).ext E49).ext E54).ext E86).upd U228 ne253) (q84.upd U228 (Ne.symm ne85)) (by decide))
    have q255:=(((((((q33.ext E41).ext E49).ext E54).ext E86).upd U228 ne253).upd U231 ne254).ext E243).ext E248
    refine Hc EV (Bk b24 b30 (.bool false:Value) (.slice none 0 0:Value) (.int .i64 0:Value) (.int .i64 0:Value) r245 q252 q255) rfl ?_
    rintro w9 ⟨u9,q9,q9'⟩
    obtain rfl:=Option.some.inj hr0
    exact ⟨_,(Res.cellN rfl Ay q9 rfl rfl (Res.cell1 rfl Dg (Bx.cell q9' rfl) Res.nil)),Ap (u9.toExt X249 g28 g34) ⟨none,0,rfl,RU.nil _⟩⟩
  ·intro HJ87
   refine HG 1 4 5 (by kernel_rfl) ?_ ?_ ?_
   ·refine opC 1 rfl (by rfl) (Af Ci (by simp only [sz,hx60];rfl)) (Ba (⟨(⟨x0.Man.Neg,m57⟩:Ah),x0.Exp⟩:Ae) A1 c2 _ (TB.ext (Ext.refl _) (TB.ext X56 hT)) (n61.ext (Ext.refl _)) r62 h63) ?_
    rintro _ _ E88 ⟨A89,c90,rfl,n91⟩
    refine dnrm ?_
    refine HG 3 4 5 (by kernel_rfl) ?_ ?_ ?_
    ·refine opC 3 rfl (by rfl) (Af Ci (by simp only [sz,hx68];rfl)) (Ba (⟨(⟨x1.Man.Neg,m65⟩:Ah),x1.Exp⟩:Ae) A4 c5 _ (TB.ext E88 (TB.ext X56 hT)) (n69.ext E88) r70 h71) ?_
     rintro _ _ E92 ⟨A93,c94,rfl,n95⟩
     refine dnrm ?_
     refine AQ 4 5 (by kernel_rfl) ?_ ?_
     ·refine opA 4 rfl (by rfl) (Aw AK) fun b97 _ E96 g98 q99=>dnrm ?_
      refine Au 5 (by kernel_rfl) ?_
      ·refine opA 5 rfl (by rfl) (Aw AK) fun b101 _ E100 g102 q103=>dnrm ?_
       exact AU (by kernel_rfl) (HJ87 _ _ ⟨A89,c90,A93,c94,b97,b101,(((E88.trans E92).trans E96).trans E100),(((n91.ext E92).ext E96).ext E100),((n95.ext E96).ext E100),(Nat.le_trans (E88.trans E92).size g98),(q99.ext E100),(Nat.le_trans ((E88.trans E92).trans E96).size g102),q103,(Bx.ne q99 g102),rfl⟩)
     ·refine opA 5 rfl (by rfl) (Aw AK) fun b105 _ E104 g106 q107=>dnrm ?_
      refine Au 4 (by kernel_rfl) ?_
      ·refine opA 4 rfl (by rfl) (Aw AK) fun b109 _ E108 g110 q111=>dnrm ?_
       exact AU (by kernel_rfl) (HJ87 _ _ ⟨A89,c90,A93,c94,b109,b105,(((E88.trans E92).trans E104).trans E108),(((n91.ext E92).ext E104).ext E108),((n95.ext E104).ext E108),(Nat.le_trans ((E88.trans E92).trans E104).size g110),q111,(Nat.le_trans (E88.trans E92).size g106),(q107.ext E108),(Ne.symm (Bx.ne q107 g110)),rfl⟩)
    ·refine opA 4 rfl (by rfl) (Aw AK) fun b113 _ E112 g114 q115=>dnrm ?_
     refine AQ 3 5 (by kernel_rfl) ?_ ?_
     ·refine opC 3 rfl (by rfl) (Af Ci (by simp only [sz,hx68];rfl)) (Ba (⟨(⟨x1.Man.Neg,m65⟩:Ah),x1.Exp⟩:Ae) A4 c5 _ (TB.ext (E88.trans E112) (TB.ext X56 hT)) (n69.ext (E88.trans E112)) r70 h71) ?_
      rintro _ _ E116 ⟨A117,c118,rfl,n119⟩
      refine dnrm ?_
      refine Au 5 (by kernel_rfl) ?_
      ·refine opA 5 rfl (by rfl) (Aw AK) fun b121 _ E120 g122 q123=>dnrm ?_
       exact AU (by kernel_rfl) (HJ87 _ _ ⟨A89,c90,A117,c118,b113,b121,(((E88.trans E112).trans E116).trans E120),(((n91.ext E112).ext E116).ext E120),(n119.ext E120),(Nat.le_trans E88.size g114),((q115.ext E116).ext E120),(Nat.le_trans ((E88.trans E112).trans E116).size g122),q123,(Bx.ne (q115.ext E116) g122),rfl⟩)
     ·refine opA 5 rfl (by rfl) (Aw AK) fun b125 _ E124 g126 q127=>dnrm ?_
      refine Au 3 (by kernel_rfl) ?_
      ·refine opC 3 rfl (by rfl) (Af Ci (by simp only [sz,hx68];rfl)) (Ba (⟨(⟨x1.Man.Neg,m65⟩:Ah),x1.Exp⟩:Ae) A4 c5 _ (TB.ext ((E88.trans E112).trans E124) (TB.ext X56 hT)) (n69.ext ((E88.trans E112).trans E124)) r70 h71) ?_
       rintro _ _ E128 ⟨A129,c130,rfl,n131⟩
       refine dnrm ?_
       exact AU (by kernel_rfl) (HJ87 _ _ ⟨A89,c90,A129,c130,b113,b125,(((E88.trans E112).trans E124).trans E128),(((n91.ext E112).ext E124).ext E128),n131,(Nat.le_trans E88.size g114),((q115.ext E124).ext E128),(Nat.le_trans (E88.trans E112).size g126),(q127.ext E128),(Bx.ne q115 g126),rfl⟩)
    ·refine opA 5 rfl (by rfl) (Aw AK) fun b133 _ E132 g134 q135=>dnrm ?_
     refine AQ 3 4 (by kernel_rfl) ?_ ?_
     ·refine opC 3 rfl (by rfl) (Af Ci (by simp only [sz,hx68];rfl)) (Ba (⟨(⟨x1.Man.Neg,m65⟩:Ah),x1.Exp⟩:Ae) A4 c5 _ (TB.ext (E88.trans E132) (TB.ext X56 hT)) (n69.ext (E88.trans E132)) r70 h71) ?_
      rintro _ _ E136 ⟨A137,c138,rfl,n139⟩
      refine dnrm ?_
      refine Au 4 (by kernel_rfl) ?_
      ·refine opA 4 rfl (by rfl) (Aw AK) fun b141 _ E140 g142 q143=>dnrm ?_
       exact AU (by kernel_rfl) (HJ87 _ _ ⟨A89,c90,A137,c138,b141,b133,(((E88.trans E132).trans E136).trans E140),(((n91.ext E132).ext E136).ext E140),(n139.ext E140),(Nat.le_trans ((E88.trans E132).trans E136).size g142),q143,(Nat.le_trans E88.size g134),((q135.ext E136).ext E140),(Ne.symm (Bx.ne (q135.ext E136) g142)),rfl⟩)
     ·refine opA 4 rfl (by rfl) (Aw AK) fun b145 _ E144 g146 q147=>dnrm ?_
      refine Au 3 (by kernel_rfl) ?_
      ·refine opC 3 rfl (by rfl) (Af Ci (by simp only [sz,hx68];rfl)) (Ba (⟨(⟨x1.Man.Neg,m65⟩:Ah),x1.Exp⟩:Ae) A4 c5 _ (TB.ext ((E88.trans E132).trans E144) (TB.ext X56 hT)) (n69.ext ((E88.trans E132).trans E144)) r70 h71) ?_
       rintro _ _ E148 ⟨A149,c150,rfl,n151⟩
       refine dnrm ?_
       exact AU (by kernel_rfl) (HJ87 _ _ ⟨A89,c90,A149,c150,b145,b133,(((E88.trans E132).trans E144).trans E148),(((n91.ext E132).ext E144).ext E148),n151,(Nat.le_trans (E88.trans E132).size g146),(q147.ext E148),(Nat.le_trans E88.size g134),((q135.ext E144).ext E148),(Ne.symm (Bx.ne q135 g146)),rfl⟩)
   ·refine opA 4 rfl (by rfl) (Aw AK) fun b153 _ E152 g154 q155=>dnrm ?_
    refine AQ 1 5 (by kernel_rfl) ?_ ?_
    ·refine opC 1 rfl (by rfl) (Af Ci (by simp only [sz,hx60];rfl)) (Ba (⟨(⟨x0.Man.Neg,m57⟩:Ah),x0.Exp⟩:Ae) A1 c2 _ (TB.ext E152 (TB.ext X56 hT)) (n61.ext E152) r62 h63) ?_
     rintro _ _ E156 ⟨A157,c158,rfl,n159⟩
     refine dnrm ?_
     refine AQ 3 5 (by kernel_rfl) ?_ ?_
     ·refine opC 3 rfl (by rfl) (Af Ci (by simp only [sz,hx68];rfl)) (Ba (⟨(⟨x1.Man.Neg,m65⟩:Ah),x1.Exp⟩:Ae) A4 c5 _ (TB.ext (E152.trans E156) (TB.ext X56 hT)) (n69.ext (E152.trans E156)) r70 h71) ?_
      rintro _ _ E160 ⟨A161,c162,rfl,n163⟩
      refine dnrm ?_
      refine Au 5 (by kernel_rfl) ?_
      ·refine opA 5 rfl (by rfl) (Aw AK) fun b165 _ E164 g166 q167=>dnrm ?_
       exact AU (by kernel_rfl) (HJ87 _ _ ⟨A157,c158,A161,c162,b153,b165,(((E152.trans E156).trans E160).trans E164),((n159.ext E160).ext E164),(n163.ext E164),g154,(((q155.ext E156).ext E160).ext E164),(Nat.le_trans ((E152.trans E156).trans E160).size g166),q167,(Bx.ne ((q155.ext E156).ext E160) g166),rfl⟩)
     ·refine opA 5 rfl (by rfl) (Aw AK) fun b169 _ E168 g170 q171=>dnrm ?_
      refine Au 3 (by kernel_rfl) ?_
      ·refine opC 3 rfl (by rfl) (Af Ci (by simp only [sz,hx68];rfl)) (Ba (⟨(⟨x1.Man.Neg,m65⟩:Ah),x1.Exp⟩:Ae) A4 c5 _ (TB.ext ((E152.trans E156).trans E168) (TB.ext X56 hT)) (n69.ext ((E152.trans E156).trans E168)) r70 h71) ?_
       rintro _ _ E172 ⟨A173,c174,rfl,n175⟩
       refine dnrm ?_
       exact AU (by kernel_rfl) (HJ87 _ _ ⟨A157,c158,A173,c174,b153,b169,(((E152.trans E156).trans E168).trans E172),((n159.ext E168).ext E172),n175,g154,(((q155.ext E156).ext E168).ext E172),(Nat.le_trans (E152.trans E156).size g170),(q171.ext E172),(Bx.ne (q155.ext E156) g170),rfl⟩)
    ·refine opA 5 rfl (by rfl) (Aw AK) fun b177 _ E176 g178 q179=>dnrm ?_
     refine Au 1 (by kernel_rfl) ?_
     ·refine opC 1 rfl (by rfl) (Af Ci (by simp only [sz,hx60];rfl)) (Ba (⟨(⟨x0.Man.Neg,m57⟩:Ah),x0.Exp⟩:Ae) A1 c2 _ (TB.ext (E152.trans E176) (TB.ext X56 hT)) (n61.ext (E152.trans E176)) r62 h63) ?_
      rintro _ _ E180 ⟨A181,c182,rfl,n183⟩
      refine dnrm ?_
      refine Au 3 (by kernel_rfl) ?_
      ·refine opC 3 rfl (by rfl) (Af Ci (by simp only [sz,hx68];rfl)) (Ba (⟨(⟨x1.Man.Neg,m65⟩:Ah),x1.Exp⟩:Ae) A4 c5 _ (TB.ext ((E152.trans E176).trans E180) (TB.ext X56 hT)) (n69.ext ((E152.trans E176).trans E180)) r70 h71) ?_
       rintro _ _ E184 ⟨A185,c186,rfl,n187⟩
       refine dnrm ?_
       exact AU (by kernel_rfl) (HJ87 _ _ ⟨A181,c182,A185,c186,b153,b177,(((E152.trans E176).trans E180).trans E184),(n183.ext E184),n187,g154,(((q155.ext E176).ext E180).ext E184),(Nat.le_trans E152.size g178),((q179.ext E180).ext E184),(Bx.ne q155 g178),rfl⟩)
   ·refine opA 5 rfl (by rfl) (Aw AK) fun b189 _ E188 g190 q191=>dnrm ?_
    refine AQ 1 4 (by kernel_rfl) ?_ ?_
    ·refine opC 1 rfl (by rfl) (Af Ci (by simp only [sz,hx60];rfl)) (Ba (⟨(⟨x0.Man.Neg,m57⟩:Ah),x0.Exp⟩:Ae) A1 c2 _ (TB.ext E188 (TB.ext X56 hT)) (n61.ext E188) r62 h63) ?_
     rintro _ _ E192 ⟨A193,c194,rfl,n195⟩
     refine dnrm ?_
     refine AQ 3 4 (by kernel_rfl) ?_ ?_
     ·refine opC 3 rfl (by rfl) (Af Ci (by simp only [sz,hx68];rfl)) (Ba (⟨(⟨x1.Man.Neg,m65⟩:Ah),x1.Exp⟩:Ae) A4 c5 _ (TB.ext (E188.trans E192) (TB.ext X56 hT)) (n69.ext (E188.trans E192)) r70 h71) ?_
      rintro _ _ E196 ⟨A197,c198,rfl,n199⟩
      refine dnrm ?_
      refine Au 4 (by kernel_rfl) ?_
      ·refine opA 4 rfl (by rfl) (Aw AK) fun b201 _ E200 g202 q203=>dnrm ?_
       exact AU (by kernel_rfl) (HJ87 _ _ ⟨A193,c194,A197,c198,b201,b189,(((E188.trans E192).trans E196).trans E200),((n195.ext E196).ext E200),(n199.ext E200),(Nat.le_trans ((E188.trans E192).trans E196).size g202),q203,g190,(((q191.ext E192).ext E196).ext E200),(Ne.symm (Bx.ne ((q191.ext E192).ext E196) g202)),rfl⟩)
     ·refine opA 4 rfl (by rfl) (Aw AK) fun b205 _ E204 g206 q207=>dnrm ?_
      refine Au 3 (by kernel_rfl) ?_
      ·refine opC 3 rfl (by rfl) (Af Ci (by simp only [sz,hx68];rfl)) (Ba (⟨(⟨x1.Man.Neg,m65⟩:Ah),x1.Exp⟩:Ae) A4 c5 _ (TB.ext ((E188.trans E192).trans E204) (TB.ext X56 hT)) (n69.ext ((E188.trans E192).trans E204)) r70 h71) ?_
       rintro _ _ E208 ⟨A209,c210,rfl,n211⟩
       refine dnrm ?_
       exact AU (by kernel_rfl) (HJ87 _ _ ⟨A193,c194,A209,c210,b205,b189,(((E188.trans E192).trans E204).trans E208),((n195.ext E204).ext E208),n211,(Nat.le_trans (E188.trans E192).size g206),(q207.ext E208),g190,(((q191.ext E192).ext E204).ext E208),(Ne.symm (Bx.ne (q191.ext E192) g206)),rfl⟩)
    ·refine opA 4 rfl (by rfl) (Aw AK) fun b213 _ E212 g214 q215=>dnrm ?_
     refine Au 1 (by kernel_rfl) ?_
     ·refine opC 1 rfl (by rfl) (Af Ci (by simp only [sz,hx60];rfl)) (Ba (⟨(⟨x0.Man.Neg,m57⟩:Ah),x0.Exp⟩:Ae) A1 c2 _ (TB.ext (E188.trans E212) (TB.ext X56 hT)) (n61.ext (E188.trans E212)) r62 h63) ?_
      rintro _ _ E216 ⟨A217,c218,rfl,n219⟩
      refine dnrm ?_
      refine Au 3 (by kernel_rfl) ?_
      ·refine opC 3 rfl (by rfl) (Af Ci (by simp only [sz,hx68];rfl)) (Ba (⟨(⟨x1.Man.Neg,m65⟩:Ah),x1.Exp⟩:Ae) A4 c5 _ (TB.ext ((E188.trans E212).trans E216) (TB.ext X56 hT)) (n69.ext ((E188.trans E212).trans E216)) r70 h71) ?_
       rintro _ _ E220 ⟨A221,c222,rfl,n223⟩
       refine dnrm ?_
       exact AU (by kernel_rfl) (HJ87 _ _ ⟨A217,c218,A221,c222,b213,b189,(((E188.trans E212).trans E216).trans E220),(n219.ext E220),n223,(Nat.le_trans E188.size g214),((q215.ext E216).ext E220),g190,(((q191.ext E212).ext E216).ext E220),(Ne.symm (Bx.ne q191 g214)),rfl⟩)
 ·refine scP (Af Hf (by rfl)) (EB x0 x1 b40 A1 c2 A4 c5 w6 (TB.ext X45 hT) (n3.ext X45) (n6.ext X45) q43 (.error r46) h47) fun w7 E49=>?_
  have X50:=Ext.trans X45 E49
  have q51:=((q27.ext E31).ext E41).ext E49
  refine Hc EV (Bk b24 b30 (.bool false:Value) (.slice none 0 0:Value) (.int .i64 0:Value) (.int .i64 0:Value) r46 q51 ((q33.ext E41).ext E49)) rfl ?_
  rintro w9 ⟨u9,q9,q9'⟩
  obtain rfl:=Option.some.inj hr0
  exact ⟨_,(Res.cellN rfl Ay q9 rfl rfl (Res.cell1 rfl Dg (Bx.cell q9' rfl) Res.nil)),Ap (u9.toExt X50 g28 g34) ⟨none,0,rfl,RU.nil _⟩⟩
theorem Ks (x0:Al) (x1:Al) (A1:Option Addr) (c2:Nat) (A4:Option Addr) (c5:Nat) (w:World) (hT:TB w) (n3:RLu w A1 c2 x0.Man.Abs) (n6:RLu w A4 c5 x1.Man.Abs) (r:Ae × Int) (hr:FN x0 x1=some r) :
  Calls Tryz.prog 40 #[.agg #[.bool x0.Man.Neg,.slice A1 (List.length x0.Man.Abs) c2,.int .i64 x0.Exp],.agg #[.bool x1.Man.Neg,.slice A4 (List.length x1.Man.Abs) c5,.int .i64 x1.Exp]] w (Ret GJ w r):=by
 unfold FN at hr
 go_enter Tryz.func40,Tryz.ntmps40
 refine wp_seq_k fun K7 h7=>Aj<|BP rfl rfl fun b8 w1 E9 g10 q11=>?_
 refine nrm ?_
 refine BP rfl rfl fun b12 w2 E13 g14 q15=>?_
 refine nrm ?_
 have g16:=Nat.le_trans E9.size g14
 have X17:=Ext.trans E9 E13
 refine AB AV fun b18 w3 E19 g20 q21=>?_
 refine nrm ?_
 have g22:=Nat.le_trans X17.size g20
 have X23:=Ext.trans X17 E19
 refine sV (Ac rfl) ?_
 refine Ad<|h7 _ _<|wp_seq_k fun K24 h24=>Aj<|sV (Ai Ay rfl ((q11.ext E13).ext E19) rfl) ?_
 refine sV (Ai Ay rfl (q15.ext E19) rfl) ?_
 refine sV (BH (vals:=[(0,.func (.func 126) #[] #[]),(1,.func (.func 125) #[] #[])]) (cells:=[.func (.func 126) #[] #[],.func (.func 125) #[] #[]]) (by rfl) (by kernel_rfl)) ?_
 obtain ⟨r25,h26,f27⟩:=Ab hr
 refine sc (Af Mk (by rfl)) (c_dyad_exact__dyad_Sub_1__dyad_near x0 x1 A1 c2 A4 c5 w3 (TB.ext X23 hT) (n3.ext X23) (n6.ext X23) r25 h26) ?_
 rintro _ w4 E28 ⟨A29,c30,rfl,n31⟩
 refine nrm ?_
 have X32:=Ext.trans X23 E28
 refine sV (Ag rfl rfl) ?_
 refine sV (Ag rfl rfl) ?_
 refine AE AC rfl rfl (q21.ext E28) rfl rfl rfl rfl (by simp only [SP0,SP1,S0,S1,Nat.reduceAdd];rfl) fun w5 U33 q34=>?_
 have X35:=belU X32 U33 g22
 refine sV (Ac rfl) ?_
 refine Ad<|h24 _ _<|wp_ret ?_
 have n36:=n31.upd U33 (q21.ext E28) (by decide)
 obtain rfl:=Option.some.inj f27
 exact fin rfl (Res.cellN rfl Ay q34 rfl rfl (Res.tmp rfl Res.nil)) (Ap X35 ⟨A29,c30,rfl,n36⟩)
end Go.Proofs
