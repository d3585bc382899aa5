import Derived.Test.YtabiobmfelafoaaGreatDoorGen3
namespace Go.Proofs
set_option linter.unusedVariables false
set_option linter.unusedSimpArgs false
set_option maxHeartbeats 4000000
open Go.RowKit Go.Sb Go.Proofs.Sbn
theorem c_dyad_exact__dyad_num_times__dyad_Mul_1 (x0:Ak) (x1:Ak) (A1:Option Addr) (c2:Nat) (A4:Option Addr) (c5:Nat) (w:World) (hT:TB w) (n3:RLu w A1 c2 x0.Man.Abs) (n6:RLu w A4 c5 x1.Man.Abs) (r:Af × Int) (hr:Bg x0 x1=some r) :
  Calls Tryz.prog 123 #[.agg #[.bool x0.Man.Neg,.slice A1 (List.length x0.Man.Abs) c2,.int .i64 x0.Exp],.agg #[.bool x1.Man.Neg,.slice A4 (List.length x1.Man.Abs) c5,.int .i64 x1.Exp],.agg #[.func (.func 117) #[] #[],.func (.func 133) #[] #[]]] w (Ret Fb w r):=by
 unfold Bg at hr
 obtain ⟨q0,hq0,hr0⟩:=Aa hr
 unfold BG at hq0
 go_enter_defers Tryz.func123,Tryz.ntmps123
 refine wp_seq_k fun K7 h7=>Ai<|Bl rfl rfl fun b8 w1 E9 g10 q11=>?_
 refine nrm ?_
 refine Bl rfl rfl fun b12 w2 E13 g14 q15=>?_
 refine nrm ?_
 have g16:=Nat.le_trans E9.size g14
 have X17:=Ext.trans E9 E13
 refine Bl rfl rfl fun b18 w3 E19 g20 q21=>?_
 refine nrm ?_
 have g22:=Nat.le_trans X17.size g20
 have X23:=Ext.trans X17 E19
 refine Ax Dj fun b24 w4 E25 g26 q27=>?_
 refine nrm ?_
 have g28:=Nat.le_trans X23.size g26
 have X29:=Ext.trans X23 E25
 refine Ax IB fun b30 w5 E31 g32 q33=>?_
 refine nrm ?_
 have g34:=Nat.le_trans X29.size g32
 have X35:=Ext.trans X29 E31
 refine Ad<|h7 _ _<|wp_seq_k fun K36 h36=>Ai<|Hv (vs:=[.pointer (some ⟨b24,0,none⟩),.pointer (some ⟨b30,0,none⟩)]) (by rfl) (by rfl)<|Ad<|h36 _ _<|wp_seq_k fun K37 h37=>Ai<|have q38:=(((q11.ext E13).ext E19).ext E25).ext E31;sV (Al AA rfl q38 rfl) ?_
 have q39:=((q15.ext E19).ext E25).ext E31
 refine sV (Al AA rfl q39 rfl) ?_
 refine DC (vals:=[(0,.agg #[.bool x0.Man.Neg,.slice A1 (List.length x0.Man.Abs) c2,.int .i64 x0.Exp]),(1,.agg #[.bool x1.Man.Neg,.slice A4 (List.length x1.Man.Abs) c5,.int .i64 x1.Exp])]) (cs:=[.bool x0.Man.Neg,.slice A1 (List.length x0.Man.Abs) c2,.int .i64 x0.Exp,.bool x1.Man.Neg,.slice A4 (List.length x1.Man.Abs) c5,.int .i64 x1.Exp]) HZ Ct Dj (by rfl) (by decide) (by kernel_rfl) fun b40 w6 E41 g42 q43=>?_
 refine nrm ?_
 have g44:=Nat.le_trans X35.size g42
 have X45:=Ext.trans X35 E41
 rcases Bj hq0 with ⟨r46,h47,f48⟩ | ⟨r46,h47,rfl⟩
 ·refine scO (Ae GO (by rfl)) (Ey x0 x1 b40 A1 c2 A4 c5 w6 (TB.ext X45 hT) (n3.ext X45) (n6.ext X45) q43 (.ok r46) h47) ?_
  rintro _ w7 E49 rfl
  refine nrm ?_
  have X52:=Ext.trans X45 E49
  refine Ad<|h37 _ _<|wp_seq_k fun K53 h53=>DG [6,7] 8 mo rfl fun w8 E54 S55=>?_
  have X56:=Ext.trans X52 E54
  refine dV 0 rfl (fun _ hw=>Al AA rfl ((((q38.ext E41).ext E49).ext E54).ext hw) rfl) S55 ?_ (hQ:=fun _ _ _ h=>dq (rs:=[.cell 6 27,.cell 7 33]) rfl (by decide) h)
  refine dV 2 rfl (fun _ hw=>Al AA rfl ((((q39.ext E41).ext E49).ext E54).ext hw) rfl) S55 ?_ (hQ:=fun _ _ _ h=>dq (rs:=[.cell 6 27,.cell 7 33]) rfl (by decide) h)
  obtain ⟨m57,h58,f59⟩:=Aa f48
  have hx60:=BH h58
  have n61:RU w8 A1 c2 m57:=by unfold RU;rw [hx60];exact (n3.ext X56)
  obtain ⟨r62,h63,f64⟩:=Aa f59
  obtain ⟨m65,h66,f67⟩:=Aa f64
  have hx68:=BH h66
  have n69:RU w8 A4 c5 m65:=by unfold RU;rw [hx68];exact (n6.ext X56)
  obtain ⟨r70,h71,f72⟩:=Aa f67
  refine Kq #[true,true,true,true,true,true,false,false] 2 (fun l' w'=>∃(A73:Option Addr) (c74:Nat) (A76:Option Addr) (c77:Nat) (b79:Nat) (b82:Nat),Ext w8 w'∧RU w' A73 c74 r62.m.Abs∧RU w' A76 c77 r70.m.Abs∧w8.heap.size≤b79∧Bx w' b79 119 [.bool false,.slice none 0 0,.int .i64 0]∧w8.heap.size≤b82∧Bx w' b82 119 [.bool false,.slice none 0 0,.int .i64 0]∧b79≠b82∧l'=[.agg #[.bool x0.Man.Neg,.slice A1 (List.length x0.Man.Abs) c2,.int .i64 x0.Exp],.agg #[.bool x1.Man.Neg,.slice A4 (List.length x1.Man.Abs) c5,.int .i64 x1.Exp],.agg #[.func (.func 117) #[] #[],.func (.func 133) #[] #[]],.pointer (some ⟨b8,0,none⟩),.pointer (some ⟨b12,0,none⟩),.pointer (some ⟨b18,0,none⟩),.pointer (some ⟨b24,0,none⟩),.pointer (some ⟨b30,0,none⟩),.pointer (some ⟨b79,0,none⟩),.pointer (some ⟨b82,0,none⟩),.agg #[.bool x0.Man.Neg,.slice A1 (List.length x0.Man.Abs) c2,.int .i64 x0.Exp],.agg #[.bool x1.Man.Neg,.slice A4 (List.length x1.Man.Abs) c5,.int .i64 x1.Exp],.slice (some ⟨b40,0,none⟩) 2 2,.tuple #[],.agg #[.bool x0.Man.Neg,.slice A1 (List.length x0.Man.Abs) c2,.int .i64 x0.Exp],.agg #[.bool r62.m.Neg,.slice A73 (sz r62.m.Abs) c74,.int .i64 r62.e],.agg #[.bool x1.Man.Neg,.slice A4 (List.length x1.Man.Abs) c5,.int .i64 x1.Exp],.agg #[.bool r70.m.Neg,.slice A76 (sz r70.m.Abs) c77,.int .i64 r70.e],undef,undef,undef,undef,undef,undef,undef,undef,undef,undef,undef,undef]) ?_ ?_
  ·rintro _ w9 ⟨A73,c74,A76,c77,b79,b82,E86,n75,n78,g80,q81,g83,q84,ne85,rfl⟩
   have g224:=Nat.le_trans X56.size g80
   have g225:=Nat.le_trans X56.size g83
   have X226:=Ext.trans X56 E86
   have S227:=S55.trans E86
   refine dk 6 rfl (by kernel_rfl) (by decide) (by rfl) BY rfl rfl q81 rfl rfl rfl rfl (by simp only [SP0,SP1,S0,S1,Nat.reduceAdd];rfl) fun w10 U228 q229=>?_
   have X230:=AV X226 U228 g224
   refine dk 7 rfl (by kernel_rfl) (by decide) (by rfl) BY rfl rfl (q84.upd U228 (Ne.symm ne85)) rfl rfl rfl rfl (by simp only [SP0,SP1,S0,S1,Nat.reduceAdd];rfl) fun w11 U231 q232=>?_
   have X233:=AV X230 U231 g225
   refine CH (by kernel_rfl) ?_
   refine h53 _ _<|wp_seq_k fun K234 h234=>Ai<|sV (Ah (o':=1) JN rfl rfl) ?_
   have ne235:=(Bx.neT ((((((q21.ext E25).ext E31).ext E41).ext E49).ext E54).ext E86) q81 (by decide))
   have ne236:=(Bx.neT (((((((q21.ext E25).ext E31).ext E41).ext E49).ext E54).ext E86).upd U228 ne235) (q84.upd U228 (Ne.symm ne85)) (by decide))
   have q237:=(((((((q21.ext E25).ext E31).ext E41).ext E49).ext E54).ext E86).upd U228 ne235).upd U231 ne236
   refine sV (Aj KV rfl (Bx.cell q237 rfl)) ?_
   refine sV (Al Az rfl (q229.upd U231 ne85) rfl) ?_
   refine sV (Al Az rfl q232 rfl) ?_
   have n238:=(n75.upd U228 q81 (by decide)).upd U231 (q84.upd U228 (Ne.symm ne85)) (by decide)
   have n239:=(n78.upd U228 q81 (by decide)).upd U231 (q84.upd U228 (Ne.symm ne85)) (by decide)
   obtain ⟨r240,h241,f242⟩:=Aa f72
   refine sc (FE (first:=[]) (cap:=[]) (args:=[.agg #[.bool r62.m.Neg,.slice A73 (sz r62.m.Abs) c74,.int .i64 r62.e],.agg #[.bool r70.m.Neg,.slice A76 (sz r70.m.Abs) c77,.int .i64 r70.e]]) en_133 (by rfl) (by rfl)) (c_dyad_Mul_1 r62 r70 A73 c74 A76 c77 w11 (TB.ext X233 hT) n238 n239 r240 h241) ?_
   rintro _ w12 E243 rfl
   refine nrm ?_
   have X244:=Ext.trans X233 E243
   rcases Bj f242 with ⟨r245,h246,f247⟩ | ⟨r245,h246,rfl⟩
   ·refine scO (Ae Dz (by rfl)) (AU r240 2 w12 (TB.ext X244 hT)  (.ok r245) h246) ?_
    rintro _ w13 E248 rfl
    refine nrm ?_
    have X256:=Ext.trans X244 E248
    refine Ad<|h234 _ _<|wp_seq_k fun K257 h257=>Ai<|sV (Ah (o':=0) JF rfl rfl) ?_
    refine sV (Aj KO rfl (Bx.cell ((q237.ext E243).ext E248) rfl)) ?_
    have q258:=((q229.upd U231 ne85).ext E243).ext E248
    refine sV (Al Az rfl q258 rfl) ?_
    refine sV (Al Az rfl ((q232.ext E243).ext E248) rfl) ?_
    obtain ⟨r259,h260,f261⟩:=Aa f247
    refine sc (FE (first:=[]) (cap:=[]) (args:=[.agg #[.bool r62.m.Neg,.slice A73 (sz r62.m.Abs) c74,.int .i64 r62.e],.agg #[.bool r70.m.Neg,.slice A76 (sz r70.m.Abs) c77,.int .i64 r70.e]]) KH (by rfl) (by rfl)) (Gy r62 r70 A73 c74 A76 c77 w13 (TB.ext X256 hT) ((n238.ext E243).ext E248) ((n239.ext E243).ext E248) r259 h260) ?_
    rintro _ w14 E262 ⟨A263,c264,rfl,n265⟩
    refine nrm ?_
    have X266:=Ext.trans X256 E262
    rcases Bj f261 with ⟨r267,h268,f269⟩ | ⟨r267,h268,rfl⟩
    ·refine scO (Ae Fi (by rfl)) (Bh r259 A263 c264 w14 (TB.ext X266 hT) n265 (.ok r267) h268) ?_
     rintro _ w15 E270 ⟨A278,c279,rfl,n280⟩
     refine nrm ?_
     have X281:=Ext.trans X266 E270
     have ne282:=(Bx.neT (((((q27.ext E31).ext E41).ext E49).ext E54).ext E86) q81 (by decide))
     have ne283:=(Bx.neT ((((((q27.ext E31).ext E41).ext E49).ext E54).ext E86).upd U228 ne282) (q84.upd U228 (Ne.symm ne85)) (by decide))
     have q284:=((((((((((q27.ext E31).ext E41).ext E49).ext E54).ext E86).upd U228 ne282).upd U231 ne283).ext E243).ext E248).ext E262).ext E270
     refine Ay Ct rfl rfl q284 rfl rfl rfl rfl (by simp only [SP0,SP1,S0,S1,Nat.reduceAdd];rfl) fun w16 U285 q286=>?_
     have X287:=AV X281 U285 g28
     have ne288:=(Bx.neT ((((q33.ext E41).ext E49).ext E54).ext E86) q81 (by decide))
     have ne289:=(Bx.neT (((((q33.ext E41).ext E49).ext E54).ext E86).upd U228 ne288) (q84.upd U228 (Ne.symm ne85)) (by decide))
     have ne290:=(Bx.neT ((((((((((q33.ext E41).ext E49).ext E54).ext E86).upd U228 ne288).upd U231 ne289).ext E243).ext E248).ext E262).ext E270) q284 (by decide))
     have q291:=((((((((((q33.ext E41).ext E49).ext E54).ext E86).upd U228 ne288).upd U231 ne289).ext E243).ext E248).ext E262).ext E270).upd U285 ne290
     refine Ay Ho rfl rfl q291 rfl rfl rfl rfl (by simp only [SP0,SP1,S0,S1,Nat.reduceAdd];rfl) fun w17 U292 q293=>?_
     have X294:=AV X287 U292 g34
     refine Ad<|h257 _ _<|wp_ret ?_
     have n295:=(n280.upd U285 q284 (by decide)).upd U292 q291 (by decide)
     obtain rfl:=Option.some.inj f269
     obtain rfl:=Option.some.inj hr0
     exact Jr BO DH rfl (Res.cellN rfl AA (q286.upd U292 (Ne.symm ne290)) rfl rfl (Res.cell1 rfl CU (Bx.cell q293 rfl) Res.nil)) (An X294 ⟨A278,c279,rfl,n295⟩)
    ·refine scP (Ae Fi (by rfl)) (Bh r259 A263 c264 w14 (TB.ext X266 hT) n265 (.error r267) h268) fun w15 E270=>?_
     have X271:=Ext.trans X266 E270
     have ne272:=(Bx.neT (((((q27.ext E31).ext E41).ext E49).ext E54).ext E86) q81 (by decide))
     have ne273:=(Bx.neT ((((((q27.ext E31).ext E41).ext E49).ext E54).ext E86).upd U228 ne272) (q84.upd U228 (Ne.symm ne85)) (by decide))
     have q274:=((((((((((q27.ext E31).ext E41).ext E49).ext E54).ext E86).upd U228 ne272).upd U231 ne273).ext E243).ext E248).ext E262).ext E270
     have ne275:=(Bx.neT ((((q33.ext E41).ext E49).ext E54).ext E86) q81 (by decide))
     have ne276:=(Bx.neT (((((q33.ext E41).ext E49).ext E54).ext E86).upd U228 ne275) (q84.upd U228 (Ne.symm ne85)) (by decide))
     have q277:=(((((((((q33.ext E41).ext E49).ext E54).ext E86).upd U228 ne275).upd U231 ne276).ext E243).ext E248).ext E262).ext E270
     refine Gn DH (AK b24 b30 (.bool false:Value) (.slice none 0 0:Value) (.int .i64 0:Value) (.int .i64 0:Value) r267 q274 q277) rfl ?_
     rintro w9 ⟨u9,q9,q9'⟩
     obtain rfl:=Option.some.inj hr0
     exact ⟨_,(Res.cellN rfl AA q9 rfl rfl (Res.cell1 rfl CU (Bx.cell q9' rfl) Res.nil)),An (u9.toExt X271 g28 g34) ⟨none,0,rfl,RU.nil _⟩⟩
   ·refine scP (Ae Dz (by rfl)) (AU r240 2 w12 (TB.ext X244 hT)  (.error r245) h246) fun w13 E248=>?_
    have X249:=Ext.trans X244 E248
    have ne250:=(Bx.neT (((((q27.ext E31).ext E41).ext E49).ext E54).ext E86) q81 (by decide))
    have ne251:=(Bx.neT ((((((q27.ext E31).ext E41).ext E49).ext E54).ext E86).upd U228 ne250) (q84.upd U228 (Ne.symm ne85)) (by decide))
    have q252:=((((((((q27.ext E31).ext E41).ext E49).ext E54).ext E86).upd U228 ne250).upd U231 ne251).ext E243).ext E248
    have ne253:=(Bx.neT ((((q33.ext E41).ext E49).ext E54).ext E86) q81 (by decide))
    have ne254:=(Bx.neT (((((q33.ext E41).ext E49).ext E54).ext E86).upd U228 ne253) (q84.upd U228 (Ne.symm ne85)) (by decide))
    have q255:=(((((((q33.ext E41).ext E49).ext E54).ext E86).upd U228 ne253).upd U231 ne254).ext E243).ext E248
    refine Gn DH (AK b24 b30 (.bool false:Value) (.slice none 0 0:Value) (.int .i64 0:Value) (.int .i64 0:Value) r245 q252 q255) rfl ?_
    rintro w9 ⟨u9,q9,q9'⟩
    obtain rfl:=Option.some.inj hr0
    exact ⟨_,(Res.cellN rfl AA q9 rfl rfl (Res.cell1 rfl CU (Bx.cell q9' rfl) Res.nil)),An (u9.toExt X249 g28 g34) ⟨none,0,rfl,RU.nil _⟩⟩
  ·intro HJ87
   refine Ik 1 4 5 (by kernel_rfl) ?_ ?_ ?_
   ·refine opC 1 rfl (by rfl) (Ae Bm (by simp only [sz,hx60];rfl)) (AE (⟨(⟨x0.Man.Neg,m57⟩:Ag),x0.Exp⟩:Af) A1 c2 _ (TB.ext (Ext.refl _) (TB.ext X56 hT)) (n61.ext (Ext.refl _)) r62 h63) ?_
    rintro _ _ E88 ⟨A89,c90,rfl,n91⟩
    refine dnrm ?_
    refine Ik 3 4 5 (by kernel_rfl) ?_ ?_ ?_
    ·refine opC 3 rfl (by rfl) (Ae Bm (by simp only [sz,hx68];rfl)) (AE (⟨(⟨x1.Man.Neg,m65⟩:Ag),x1.Exp⟩:Af) A4 c5 _ (TB.ext E88 (TB.ext X56 hT)) (n69.ext E88) r70 h71) ?_
     rintro _ _ E92 ⟨A93,c94,rfl,n95⟩
     refine dnrm ?_
     refine Dk 4 5 (by kernel_rfl) ?_ ?_
     ·refine opA 4 rfl (by rfl) (Ar As) fun b97 _ E96 g98 q99=>dnrm ?_
      refine AW 5 (by kernel_rfl) ?_
      ·refine opA 5 rfl (by rfl) (Ar As) fun b101 _ E100 g102 q103=>dnrm ?_
       exact Cp (by kernel_rfl) (HJ87 _ _ ⟨A89,c90,A93,c94,b97,b101,(((E88.trans E92).trans E96).trans E100),(((n91.ext E92).ext E96).ext E100),((n95.ext E96).ext E100),(Nat.le_trans (E88.trans E92).size g98),(q99.ext E100),(Nat.le_trans ((E88.trans E92).trans E96).size g102),q103,(Bx.ne q99 g102),rfl⟩)
     ·refine opA 5 rfl (by rfl) (Ar As) fun b105 _ E104 g106 q107=>dnrm ?_
      refine AW 4 (by kernel_rfl) ?_
      ·refine opA 4 rfl (by rfl) (Ar As) fun b109 _ E108 g110 q111=>dnrm ?_
       exact Cp (by kernel_rfl) (HJ87 _ _ ⟨A89,c90,A93,c94,b109,b105,(((E88.trans E92).trans E104).trans E108),(((n91.ext E92).ext E104).ext E108),((n95.ext E104).ext E108),(Nat.le_trans ((E88.trans E92).trans E104).size g110),q111,(Nat.le_trans (E88.trans E92).size g106),(q107.ext E108),(Ne.symm (Bx.ne q107 g110)),rfl⟩)
    ·refine opA 4 rfl (by rfl) (Ar As) fun b113 _ E112 g114 q115=>dnrm ?_
     refine Dk 3 5 (by kernel_rfl) ?_ ?_
     ·refine opC 3 rfl (by rfl) (Ae Bm (by simp only [sz,hx68];rfl)) (AE (⟨(⟨x1.Man.Neg,m65⟩:Ag),x1.Exp⟩:Af) A4 c5 _ (TB.ext (E88.trans E112) (TB.ext X56 hT)) (n69.ext (E88.trans E112)) r70 h71) ?_
      rintro _ _ E116 ⟨A117,c118,rfl,n119⟩
      refine dnrm ?_
      refine AW 5 (by kernel_rfl) ?_
      ·refine opA 5 rfl (by rfl) (Ar As) fun b121 _ E120 g122 q123=>dnrm ?_
       exact Cp (by kernel_rfl) (HJ87 _ _ ⟨A89,c90,A117,c118,b113,b121,(((E88.trans E112).trans E116).trans E120),(((n91.ext E112).ext E116).ext E120),(n119.ext E120),(Nat.le_trans E88.size g114),((q115.ext E116).ext E120),(Nat.le_trans ((E88.trans E112).trans E116).size g122),q123,(Bx.ne (q115.ext E116) g122),rfl⟩)
     ·refine opA 5 rfl (by rfl) (Ar As) fun b125 _ E124 g126 q127=>dnrm ?_
      refine AW 3 (by kernel_rfl) ?_
      ·refine opC 3 rfl (by rfl) (Ae Bm (by simp only [sz,hx68];rfl)) (AE (⟨(⟨x1.Man.Neg,m65⟩:Ag),x1.Exp⟩:Af) A4 c5 _ (TB.ext ((E88.trans E112).trans E124) (TB.ext X56 hT)) (n69.ext ((E88.trans E112).trans E124)) r70 h71) ?_
       rintro _ _ E128 ⟨A129,c130,rfl,n131⟩
       refine dnrm ?_
       exact Cp (by kernel_rfl) (HJ87 _ _ ⟨A89,c90,A129,c130,b113,b125,(((E88.trans E112).trans E124).trans E128),(((n91.ext E112).ext E124).ext E128),n131,(Nat.le_trans E88.size g114),((q115.ext E124).ext E128),(Nat.le_trans (E88.trans E112).size g126),(q127.ext E128),(Bx.ne q115 g126),rfl⟩)
    ·refine opA 5 rfl (by rfl) (Ar As) fun b133 _ E132 g134 q135=>dnrm ?_
     refine Dk 3 4 (by kernel_rfl) ?_ ?_
     ·refine opC 3 rfl (by rfl) (Ae Bm (by simp only [sz,hx68];rfl)) (AE (⟨(⟨x1.Man.Neg,m65⟩:Ag),x1.Exp⟩:Af) A4 c5 _ (TB.ext (E88.trans E132) (TB.ext X56 hT)) (n69.ext (E88.trans E132)) r70 h71) ?_
      rintro _ _ E136 ⟨A137,c138,rfl,n139⟩
      refine dnrm ?_
      refine AW 4 (by kernel_rfl) ?_
      ·refine opA 4 rfl (by rfl) (Ar As) fun b141 _ E140 g142 q143=>dnrm ?_
       exact Cp (by kernel_rfl) (HJ87 _ _ ⟨A89,c90,A137,c138,b141,b133,(((E88.trans E132).trans E136).trans E140),(((n91.ext E132).ext E136).ext E140),(n139.ext E140),(Nat.le_trans ((E88.trans E132).trans E136).size g142),q143,(Nat.le_trans E88.size g134),((q135.ext E136).ext E140),(Ne.symm (Bx.ne (q135.ext E136) g142)),rfl⟩)
     ·refine opA 4 rfl (by rfl) (Ar As) fun b145 _ E144 g146 q147=>dnrm ?_
      refine AW 3 (by kernel_rfl) ?_
      ·refine opC 3 rfl (by rfl) (Ae Bm (by simp only [sz,hx68];rfl)) (AE (⟨(⟨x1.Man.Neg,m65⟩:Ag),x1.Exp⟩:Af) A4 c5 _ (TB.ext ((E88.trans E132).trans E144) (TB.ext X56 hT)) (n69.ext ((E88.trans E132).trans E144)) r70 h71) ?_
       rintro _ _ E148 ⟨A149,c150,rfl,n151⟩
       refine dnrm ?_
       exact Cp (by kernel_rfl) (HJ87 _ _ ⟨A89,c90,A149,c150,b145,b133,(((E88.trans E132).trans E144).trans E148),(((n91.ext E132).ext E144).ext E148),n151,(Nat.le_trans (E88.trans E132).size g146),(q147.ext E148),(Nat.le_trans E88.size g134),((q135.ext E144).ext E148),(Ne.symm (Bx.ne q135 g146)),rfl⟩)
   ·refine opA 4 rfl (by rfl) (Ar As) fun b153 _ E152 g154 q155=>dnrm ?_
    refine Dk 1 5 (by kernel_rfl) ?_ ?_
    ·refine opC 1 rfl (by rfl) (Ae Bm (by simp only [sz,hx60];rfl)) (AE (⟨(⟨x0.Man.Neg,m57⟩:Ag),x0.Exp⟩:Af) A1 c2 _ (TB.ext E152 (TB.ext X56 hT)) (n61.ext E152) r62 h63) ?_
     rintro _ _ E156 ⟨A157,c158,rfl,n159⟩
     refine dnrm ?_
     refine Dk 3 5 (by kernel_rfl) ?_ ?_
     ·refine opC 3 rfl (by rfl) (Ae Bm (by simp only [sz,hx68];rfl)) (AE (⟨(⟨x1.Man.Neg,m65⟩:Ag),x1.Exp⟩:Af) A4 c5 _ (TB.ext (E152.trans E156) (TB.ext X56 hT)) (n69.ext (E152.trans E156)) r70 h71) ?_
      rintro _ _ E160 ⟨A161,c162,rfl,n163⟩
      refine dnrm ?_
      refine AW 5 (by kernel_rfl) ?_
      ·refine opA 5 rfl (by rfl) (Ar As) fun b165 _ E164 g166 q167=>dnrm ?_
       exact Cp (by kernel_rfl) (HJ87 _ _ ⟨A157,c158,A161,c162,b153,b165,(((E152.trans E156).trans E160).trans E164),((n159.ext E160).ext E164),(n163.ext E164),g154,(((q155.ext E156).ext E160).ext E164),(Nat.le_trans ((E152.trans E156).trans E160).size g166),q167,(Bx.ne ((q155.ext E156).ext E160) g166),rfl⟩)
     ·refine opA 5 rfl (by rfl) (Ar As) fun b169 _ E168 g170 q171=>dnrm ?_
      refine AW 3 (by kernel_rfl) ?_
      ·refine opC 3 rfl (by rfl) (Ae Bm (by simp only [sz,hx68];rfl)) (AE (⟨(⟨x1.Man.Neg,m65⟩:Ag),x1.Exp⟩:Af) A4 c5 _ (TB.ext ((E152.trans E156).trans E168) (TB.ext X56 hT)) (n69.ext ((E152.trans E156).trans E168)) r70 h71) ?_
       rintro _ _ E172 ⟨A173,c174,rfl,n175⟩
       refine dnrm ?_
       exact Cp (by kernel_rfl) (HJ87 _ _ ⟨A157,c158,A173,c174,b153,b169,(((E152.trans E156).trans E168).trans E172),((n159.ext E168).ext E172),n175,g154,(((q155.ext E156).ext E168).ext E172),(Nat.le_trans (E152.trans E156).size g170),(q171.ext E172),(Bx.ne (q155.ext E156) g170),rfl⟩)
    ·refine opA 5 rfl (by rfl) (Ar As) fun b177 _ E176 g178 q179=>dnrm ?_
     refine AW 1 (by kernel_rfl) ?_
     ·refine opC 1 rfl (by rfl) (Ae Bm (by simp only [sz,hx60];rfl)) (AE (⟨(⟨x0.Man.Neg,m57⟩:Ag),x0.Exp⟩:Af) A1 c2 _ (TB.ext (E152.trans E176) (TB.ext X56 hT)) (n61.ext (E152.trans E176)) r62 h63) ?_
      rintro _ _ E180 ⟨A181,c182,rfl,n183⟩
      refine dnrm ?_
      refine AW 3 (by kernel_rfl) ?_
      ·refine opC 3 rfl (by rfl) (Ae Bm (by simp only [sz,hx68];rfl)) (AE (⟨(⟨x1.Man.Neg,m65⟩:Ag),x1.Exp⟩:Af) A4 c5 _ (TB.ext ((E152.trans E176).trans E180) (TB.ext X56 hT)) (n69.ext ((E152.trans E176).trans E180)) r70 h71) ?_
       rintro _ _ E184 ⟨A185,c186,rfl,n187⟩
       refine dnrm ?_
       exact Cp (by kernel_rfl) (HJ87 _ _ ⟨A181,c182,A185,c186,b153,b177,(((E152.trans E176).trans E180).trans E184),(n183.ext E184),n187,g154,(((q155.ext E176).ext E180).ext E184),(Nat.le_trans E152.size g178),((q179.ext E180).ext E184),(Bx.ne q155 g178),rfl⟩)
   ·refine opA 5 rfl (by rfl) (Ar As) fun b189 _ E188 g190 q191=>dnrm ?_
    refine Dk 1 4 (by kernel_rfl) ?_ ?_
    ·refine opC 1 rfl (by rfl) (Ae Bm (by simp only [sz,hx60];rfl)) (AE (⟨(⟨x0.Man.Neg,m57⟩:Ag),x0.Exp⟩:Af) A1 c2 _ (TB.ext E188 (TB.ext X56 hT)) (n61.ext E188) r62 h63) ?_
     rintro _ _ E192 ⟨A193,c194,rfl,n195⟩
     refine dnrm ?_
     refine Dk 3 4 (by kernel_rfl) ?_ ?_
     ·refine opC 3 rfl (by rfl) (Ae Bm (by simp only [sz,hx68];rfl)) (AE (⟨(⟨x1.Man.Neg,m65⟩:Ag),x1.Exp⟩:Af) A4 c5 _ (TB.ext (E188.trans E192) (TB.ext X56 hT)) (n69.ext (E188.trans E192)) r70 h71) ?_
      rintro _ _ E196 ⟨A197,c198,rfl,n199⟩
      refine dnrm ?_
      refine AW 4 (by kernel_rfl) ?_
      ·refine opA 4 rfl (by rfl) (Ar As) fun b201 _ E200 g202 q203=>dnrm ?_
       exact Cp (by kernel_rfl) (HJ87 _ _ ⟨A193,c194,A197,c198,b201,b189,(((E188.trans E192).trans E196).trans E200),((n195.ext E196).ext E200),(n199.ext E200),(Nat.le_trans ((E188.trans E192).trans E196).size g202),q203,g190,(((q191.ext E192).ext E196).ext E200),(Ne.symm (Bx.ne ((q191.ext E192).ext E196) g202)),rfl⟩)
     ·refine opA 4 rfl (by rfl) (Ar As) fun b205 _ E204 g206 q207=>dnrm ?_
      refine AW 3 (by kernel_rfl) ?_
      ·refine opC 3 rfl (by rfl) (Ae Bm (by simp only [sz,hx68];rfl)) (AE (⟨(⟨x1.Man.Neg,m65⟩:Ag),x1.Exp⟩:Af) A4 c5 _ (TB.ext ((E188.trans E192).trans E204) (TB.ext X56 hT)) (n69.ext ((E188.trans E192).trans E204)) r70 h71) ?_
       rintro _ _ E208 ⟨A209,c210,rfl,n211⟩
       refine dnrm ?_
       exact Cp (by kernel_rfl) (HJ87 _ _ ⟨A193,c194,A209,c210,b205,b189,(((E188.trans E192).trans E204).trans E208),((n195.ext E204).ext E208),n211,(Nat.le_trans (E188.trans E192).size g206),(q207.ext E208),g190,(((q191.ext E192).ext E204).ext E208),(Ne.symm (Bx.ne (q191.ext E192) g206)),rfl⟩)
    ·refine opA 4 rfl (by rfl) (Ar As) fun b213 _ E212 g214 q215=>dnrm ?_
     refine AW 1 (by kernel_rfl) ?_
     ·refine opC 1 rfl (by rfl) (Ae Bm (by simp only [sz,hx60];rfl)) (AE (⟨(⟨x0.Man.Neg,m57⟩:Ag),x0.Exp⟩:Af) A1 c2 _ (TB.ext (E188.trans E212) (TB.ext X56 hT)) (n61.ext (E188.trans E212)) r62 h63) ?_
      rintro _ _ E216 ⟨A217,c218,rfl,n219⟩
      refine dnrm ?_
      refine AW 3 (by kernel_rfl) ?_
      ·refine opC 3 rfl (by rfl) (Ae Bm (by simp only [sz,hx68];rfl)) (AE (⟨(⟨x1.Man.Neg,m65⟩:Ag),x1.Exp⟩:Af) A4 c5 _ (TB.ext ((E188.trans E212).trans E216) (TB.ext X56 hT)) (n69.ext ((E188.trans E212).trans E216)) r70 h71) ?_
       rintro _ _ E220 ⟨A221,c222,rfl,n223⟩
       refine dnrm ?_
       exact Cp (by kernel_rfl) (HJ87 _ _ ⟨A217,c218,A221,c222,b213,b189,(((E188.trans E212).trans E216).trans E220),(n219.ext E220),n223,(Nat.le_trans E188.size g214),((q215.ext E216).ext E220),g190,(((q191.ext E212).ext E216).ext E220),(Ne.symm (Bx.ne q191 g214)),rfl⟩)
 ·refine scP (Ae GO (by rfl)) (Ey x0 x1 b40 A1 c2 A4 c5 w6 (TB.ext X45 hT) (n3.ext X45) (n6.ext X45) q43 (.error r46) h47) fun w7 E49=>?_
  have X50:=Ext.trans X45 E49
  have q51:=((q27.ext E31).ext E41).ext E49
  refine Gn DH (AK b24 b30 (.bool false:Value) (.slice none 0 0:Value) (.int .i64 0:Value) (.int .i64 0:Value) r46 q51 ((q33.ext E41).ext E49)) rfl ?_
  rintro w9 ⟨u9,q9,q9'⟩
  obtain rfl:=Option.some.inj hr0
  exact ⟨_,(Res.cellN rfl AA q9 rfl rfl (Res.cell1 rfl CU (Bx.cell q9' rfl) Res.nil)),An (u9.toExt X50 g28 g34) ⟨none,0,rfl,RU.nil _⟩⟩
theorem c_dyad_Mul (x0:Ak) (x1:Ak) (A1:Option Addr) (c2:Nat) (A4:Option Addr) (c5:Nat) (w:World) (hT:TB w) (n3:RLu w A1 c2 x0.Man.Abs) (n6:RLu w A4 c5 x1.Man.Abs) (r:Af × Int) (hr:FX x0 x1=some r) :
  Calls Tryz.prog 49 #[.agg #[.bool x0.Man.Neg,.slice A1 (List.length x0.Man.Abs) c2,.int .i64 x0.Exp],.agg #[.bool x1.Man.Neg,.slice A4 (List.length x1.Man.Abs) c5,.int .i64 x1.Exp]] w (Ret Fb w r):=by
 unfold FX at hr
 go_enter Tryz.func49,Tryz.ntmps49
 refine wp_seq_k fun K7 h7=>Ai<|Bl rfl rfl fun b8 w1 E9 g10 q11=>?_
 refine nrm ?_
 refine Bl rfl rfl fun b12 w2 E13 g14 q15=>?_
 refine nrm ?_
 have g16:=Nat.le_trans E9.size g14
 have X17:=Ext.trans E9 E13
 refine Ax Dj fun b18 w3 E19 g20 q21=>?_
 refine nrm ?_
 have g22:=Nat.le_trans X17.size g20
 have X23:=Ext.trans X17 E19
 refine sV (Ac rfl) ?_
 refine Ad<|h7 _ _<|wp_seq_k fun K24 h24=>Ai<|sV (Al AA rfl ((q11.ext E13).ext E19) rfl) ?_
 refine sV (Al AA rfl (q15.ext E19) rfl) ?_
 refine sV (Bb (vals:=[(0,.func (.func 117) #[] #[]),(1,.func (.func 133) #[] #[])]) (cells:=[.func (.func 117) #[] #[],.func (.func 133) #[] #[]]) (by rfl) (by kernel_rfl)) ?_
 obtain ⟨r25,h26,f27⟩:=Aa hr
 refine sc (Ae La (by rfl)) (c_dyad_exact__dyad_num_times__dyad_Mul_1 x0 x1 A1 c2 A4 c5 w3 (TB.ext X23 hT) (n3.ext X23) (n6.ext X23) r25 h26) ?_
 rintro _ w4 E28 ⟨A29,c30,rfl,n31⟩
 refine nrm ?_
 have X32:=Ext.trans X23 E28
 refine sV (AI rfl rfl) ?_
 refine sV (AI rfl rfl) ?_
 refine Ay Ct rfl rfl (q21.ext E28) rfl rfl rfl rfl (by simp only [SP0,SP1,S0,S1,Nat.reduceAdd];rfl) fun w5 U33 q34=>?_
 have X35:=AV X32 U33 g22
 refine sV (Ac rfl) ?_
 refine Ad<|h24 _ _<|wp_ret ?_
 have n36:=n31.upd U33 (q21.ext E28) (by decide)
 obtain rfl:=Option.some.inj f27
 exact fin rfl (Res.cellN rfl AA q34 rfl rfl (Res.tmp rfl Res.nil)) (An X35 ⟨A29,c30,rfl,n36⟩)
theorem c_sorobanref04_Fits (x0:Af) (A1:Option Addr) (c2:Nat) (w:World) (hT:TB w) (n3:RU w A1 c2 x0.Man.Abs) (r:ED) (hr:Ei x0=some r) :
  Calls Tryz.prog 134 #[.agg #[.bool x0.Man.Neg,.slice A1 (sz x0.Man.Abs) c2,.int .i64 x0.Exp]] w (Ret rep_154 w r):=by
 unfold Ei at hr
 go_enter Tryz.func134,Tryz.ntmps134
 refine wp_seq_k fun K4 h4=>Ai<|Bl rfl rfl fun b5 w1 E6 g7 q8=>?_
 refine nrm ?_
 refine Ax Mg fun b9 w2 E10 g11 q12=>?_
 refine nrm ?_
 have g13:=Nat.le_trans E6.size g11
 have X14:=Ext.trans E6 E10
 refine Ad<|h4 _ _<|wp_seq_k fun K15 h15=>wp_seq_k fun K16 h16=>Ai<|sV (Al AA rfl (q8.ext E10) rfl) ?_
 obtain ⟨r17,h18,f19⟩:=Aa hr
 refine sc (Ae Ky (by rfl)) (Ea (⟨(⟨x0.Man.Neg,(limbs x0.Man.Abs)⟩:Av),x0.Exp⟩:Ak) A1 c2 w2 (TB.ext X14 hT) (n3.ext X14) r17 h18) ?_
 rintro _ w3 E20 rfl
 refine nrm ?_
 have X21:=Ext.trans X14 E20
 refine sb (Fy rfl) fun z22 hz22=>?_
 refine nrm ?_
 refine Ad<|h16 _ _ ?_
 rcases Bool.eq_false_or_eq_true z22 with e32 | e32
 ·have p35:=zP hz22 e32
  have f36:=ifP p35 f19
  refine wp_cond_true (Am (evb rfl e32))<|wp_seq_k fun K41 h41=>Ai<|sV (Bb (vals:=[(1,.int .i64 2)]) (cells:=[.bool false,.slice none 0 0,.int .i64 0,.int .i64 2]) (by rfl) (by kernel_rfl)) ?_
  refine Ay KY rfl rfl (q12.ext E20) rfl rfl rfl rfl (by simp only [SP0,SP1,S0,S1,Nat.reduceAdd];rfl) fun w4 U42 q43=>?_
  have X44:=AV X21 U42 g13
  refine Ad<|h41 _ _<|wp_ret ?_
  obtain rfl:=Option.some.inj f36
  exact fin rfl (Res.cellN rfl LC q43 rfl rfl Res.nil) (An X44 ⟨none,0,rfl,(RU.nil _)⟩)
 ·have p33:=zN hz22 e32
  have f34:=ifN p33 f19
  refine wp_cond_false (Am (evb rfl e32))<|wp_skip<|h15 _ _<|wp_seq_k fun K37 h37=>Ai<|sV (Al AA rfl ((q8.ext E10).ext E20) rfl) ?_
  refine sV (Bb (vals:=[(0,.agg #[.bool x0.Man.Neg,.slice A1 (sz x0.Man.Abs) c2,.int .i64 x0.Exp])]) (cells:=[.bool x0.Man.Neg,.slice A1 (sz x0.Man.Abs) c2,.int .i64 x0.Exp,.int .i64 0]) (by rfl) (by kernel_rfl)) ?_
  refine Ay KY rfl rfl (q12.ext E20) rfl rfl rfl rfl (by simp only [SP0,SP1,S0,S1,Nat.reduceAdd];rfl) fun w4 U38 q39=>?_
  have X40:=AV X21 U38 g13
  refine Ad<|h37 _ _<|wp_ret ?_
  obtain rfl:=Option.some.inj f34
  exact fin rfl (Res.cellN rfl LC q39 rfl rfl Res.nil) (An X40 ⟨A1,c2,rfl,(n3.ext X40)⟩)
theorem Du (x0:Ak) (x1:Int) (x2:Int) (x3:Ak) (A1:Option Addr) (c2:Nat) (A4:Option Addr) (c5:Nat) (w:World) (hT:TB w) (n3:RLu w A1 c2 x0.Man.Abs) (n6:RLu w A4 c5 x3.Man.Abs) (r:Bool) (hr:Ap x0 x1 x2 x3=some r) :
  Calls Tryz.prog 50 #[.agg #[.bool x0.Man.Neg,.slice A1 (List.length x0.Man.Abs) c2,.int .i64 x0.Exp],.int .i64 x1,.int .i64 x2,.agg #[.bool x3.Man.Neg,.slice A4 (List.length x3.Man.Abs) c5,.int .i64 x3.Exp]] w (Ret Fw w r):=by
 unfold Ap at hr
 go_enter Tryz.func50,Tryz.ntmps50
 refine wp_seq_k fun K7 h7=>Ai<|Bl rfl rfl fun b8 w1 E9 g10 q11=>?_
 refine nrm ?_
 refine Bl rfl rfl fun b12 w2 E13 g14 q15=>?_
 refine nrm ?_
 have g16:=Nat.le_trans E9.size g14
 have X17:=Ext.trans E9 E13
 refine sV (Ac rfl) ?_
 refine Ad<|h7 _ _<|wp_seq_k fun K18 h18=>wp_seq_k fun K19 h19=>Ai<|sV (Ab rfl) ?_
 refine sb (GF rfl rfl) fun z20 hz20=>?_
 refine nrm ?_
 refine Ad<|h19 _ _ ?_
 rcases Bool.eq_false_or_eq_true z20 with e67 | e67
 ·have p70:=zP hz20 e67
  have f71:=ifP p70 hr
  refine wp_cond_true (Am (evb rfl e67))<|wp_seq_k fun K140 h140=>Ai<|sV (Ab rfl) ?_
  refine sV (Ab rfl) ?_
  refine sb (Cr rfl rfl) fun z141 hz141=>?_
  refine nrm ?_
  refine sV (Ab rfl) ?_
  obtain ⟨m157,h158,f159⟩:=Aa f71
  refine BW 8 (fun l l' w'=>∃(t161:Value) (t162:Value) (t163:Value),UpdS [] w2 w'∧l'=((((l.set 16 t161).set 17 t162).set 18 t163).set 19 (.bool m157))) ?_ ?_
  ·intro HJ164
   rcases Bool.eq_false_or_eq_true z141 with e165 | e165
   ·have p168:=zP hz141 e165
    have f169:=ifP p168 h158
    refine sV (Al AA rfl (q11.ext E13) rfl) ?_ (hw:=wgT rfl e165)
    refine sV (Bb (vals:=[]) (cells:=[.bool false,.slice none 0 0,.int .i64 0]) (by rfl) (by kernel_rfl)) ?_ (hw:=wgT rfl e165)
    obtain ⟨m170,h171,f172⟩:=Aa f169
    have hx173:=BH h171
    have n174:RU w2 A1 c2 m170:=by unfold RU;rw [hx173];exact (n3.ext X17)
    obtain ⟨r175,h176,f177⟩:=Aa f172
    refine sc (Ae Ji (by simp only [sz,hx173];rfl)) (CG (⟨(⟨x0.Man.Neg,m170⟩:Ag),x0.Exp⟩:Af) (⟨(⟨false,0⟩:Ag),0⟩:Af) A1 c2 none 0 w2 (TB.ext X17 hT) n174 (RU.nil _) r175 h176) ?_ (hw:=wgT rfl e165)
    rintro _ w3 E178 rfl
    refine nrm ?_
    refine sV (AB (evb rfl e165) rfl) ?_
    obtain rfl:=Option.some.inj f177
    exact HJ164 _ _ ⟨(.agg #[.bool x0.Man.Neg,.slice A1 (List.length x0.Man.Abs) c2,.int .i64 x0.Exp]),(.agg #[.bool false,.slice none 0 0,.int .i64 0]),(.bool r175),((UpdS.refl _ _).ext E178),(by simp only [S0,S1]<;>rfl)⟩
   ·have p166:=zN hz141 e165
    have f167:=ifN p166 h158
    refine sP ?_ (hw:=wgF rfl e165)
    refine sP ?_ (hw:=wgF rfl e165)
    refine sP ?_ (hw:=wgF rfl e165)
    refine sV (AF (evb rfl e165) rfl) ?_
    obtain rfl:=Option.some.inj f167
    exact HJ164 _ _ ⟨undef,undef,undef,(UpdS.refl _ _),(by simp only [S0,S1]<;>rfl)⟩
  ·rintro l' w3 ⟨t161,t162,t163,U160,hq'⟩ l'' hl
   rw [hq'] at hl
   clear hq'
   simp only [S0,S1] at hl
   subst hl
   have X180:=Hk X17 U160 (X17).size al0
   refine sV (Ac rfl) ?_
   refine Ad<|h140 _ _<|wp_ret ?_
   obtain rfl:=Option.some.inj f159
   exact fin rfl (Res.tmp rfl Res.nil) (An X180 rfl)
 ·have p68:=zN hz20 e67
  have f69:=ifN p68 hr
  refine wp_cond_false (Am (evb rfl e67))<|wp_skip<|h18 _ _<|wp_seq_k fun K72 h72=>Ai<|sV (Al AA rfl q15 rfl) ?_
  obtain ⟨m73,h74,f75⟩:=Aa f69
  have hx76:=BH h74
  have n77:RU w2 A4 c5 m73:=by unfold RU;rw [hx76];exact (n6.ext X17)
  obtain ⟨r78,h79,f80⟩:=Aa f75
  refine sc (Ae en_134 (by simp only [sz,hx76];rfl)) (c_sorobanref04_Fits (⟨(⟨x3.Man.Neg,m73⟩:Ag),x3.Exp⟩:Af) A4 c5 w2 (TB.ext X17 hT) n77 r78 h79) ?_
  rintro _ w3 E81 ⟨A82,c83,rfl,n84⟩
  refine nrm ?_
  have X85:=Ext.trans X17 E81
  refine Ax Mg fun b86 w4 E87 g88 q89=>?_
  refine nrm ?_
  have g90:=Nat.le_trans X85.size g88
  refine Ay KY rfl rfl q89 rfl rfl rfl rfl (by simp only [SP0,SP1,S0,S1,Nat.reduceAdd];rfl) fun w5 U92 q93=>?_
  have F95:=AV E87 U92 g88
  have X94:=Ext.trans X85 F95
  refine Ad<|h72 _ _<|wp_seq_k fun K96 h96=>Ai<|sV (Ab rfl) ?_
  refine sV (Ah (o':=3) fa_154_1 rfl rfl) ?_
  refine sV (Aj CU rfl (Bx.cell q93 rfl)) ?_
  refine sb (Cr rfl rfl) fun z97 hz97=>?_
  refine nrm ?_
  refine sV (Ab rfl) ?_
  obtain ⟨m114,h115,f116⟩:=Aa f80
  refine BW 10 (fun l l' w'=>∃(t118:Value) (t119:Value) (t120:Value) (t121:Value),UpdS [] w5 w'∧l'=(((((l.set 27 t118).set 28 t119).set 29 t120).set 30 t121).set 31 (.bool m114))) ?_ ?_
  ·intro HJ122
   rcases Bool.eq_false_or_eq_true z97 with e123 | e123
   ·have p126:=zP hz97 e123
    have f127:=ifP p126 h115
    have q128:=((q11.ext E13).ext E81).ext F95
    refine sV (Al AA rfl q128 rfl) ?_ (hw:=wgT rfl e123)
    refine sV (Ah (o':=0) fa_154_0 rfl rfl) ?_ (hw:=wgT rfl e123)
    refine sV (AH AA rfl q93 (by simp only [List.drop_zero,List.take_succ_cons,List.take_zero];rfl) rfl) ?_ (hw:=wgT rfl e123)
    obtain ⟨m129,h130,f131⟩:=Aa f127
    have hx132:=BH h130
    have n133:RU w5 A1 c2 m129:=by unfold RU;rw [hx132];exact (n3.ext X94)
    obtain ⟨r134,h135,f136⟩:=Aa f131
    refine sc (Ae Ji (by simp only [sz,hx132];rfl)) (CG (⟨(⟨x0.Man.Neg,m129⟩:Ag),x0.Exp⟩:Af) r78.D A1 c2 A82 c83 w5 (TB.ext X94 hT) n133 (n84.ext F95) r134 h135) ?_ (hw:=wgT rfl e123)
    rintro _ w6 E137 rfl
    refine nrm ?_
    refine sV (AB (evb rfl e123) rfl) ?_
    obtain rfl:=Option.some.inj f136
    exact HJ122 _ _ ⟨(.agg #[.bool x0.Man.Neg,.slice A1 (List.length x0.Man.Abs) c2,.int .i64 x0.Exp]),(.pointer (some ⟨b86,0,none⟩)),(.agg #[.bool r78.D.Man.Neg,.slice A82 (sz r78.D.Man.Abs) c83,.int .i64 r78.D.Exp]),(.bool r134),((UpdS.refl _ _).ext E137),(by simp only [S0,S1]<;>rfl)⟩
   ·have p124:=zN hz97 e123
    have f125:=ifN p124 h115
    refine sP ?_ (hw:=wgF rfl e123)
    refine sP ?_ (hw:=wgF rfl e123)
    refine sP ?_ (hw:=wgF rfl e123)
    refine sP ?_ (hw:=wgF rfl e123)
    refine sV (AF (evb rfl e123) rfl) ?_
    obtain rfl:=Option.some.inj f125
    exact HJ122 _ _ ⟨undef,undef,undef,undef,(UpdS.refl _ _),(by simp only [S0,S1]<;>rfl)⟩
  ·rintro l' w6 ⟨t118,t119,t120,t121,U117,hq'⟩ l'' hl
   rw [hq'] at hl
   clear hq'
   simp only [S0,S1] at hl
   subst hl
   have X139:=Hk X94 U117 (X94).size al0
   refine sV (Ac rfl) ?_
   refine Ad<|h96 _ _<|wp_ret ?_
   obtain rfl:=Option.some.inj f116
   exact fin rfl (Res.tmp rfl Res.nil) (An X139 rfl)
theorem c_dyad_Neg (x0:Ak) (A1:Option Addr) (c2:Nat) (w:World) (hT:TB w) (n3:RLu w A1 c2 x0.Man.Abs) (r:Af × Int) (hr:Fv x0=some r) :
  Calls Tryz.prog 51 #[.agg #[.bool x0.Man.Neg,.slice A1 (List.length x0.Man.Abs) c2,.int .i64 x0.Exp]] w (Ret Fb w r):=by
 unfold Fv at hr
 obtain ⟨q0,hq0,hr0⟩:=Aa hr
 unfold Hp at hq0
 go_enter_defers Tryz.func51,Tryz.ntmps51
 refine wp_seq_k fun K4 h4=>Ai<|Bl rfl rfl fun b5 w1 E6 g7 q8=>?_
 refine nrm ?_
 refine Ax Dj fun b9 w2 E10 g11 q12=>?_
 refine nrm ?_
 have g13:=Nat.le_trans E6.size g11
 have X14:=Ext.trans E6 E10
 refine Ax IB fun b15 w3 E16 g17 q18=>?_
 refine nrm ?_
 have g19:=Nat.le_trans X14.size g17
 have X20:=Ext.trans X14 E16
 refine Ad<|h4 _ _<|wp_seq_k fun K21 h21=>Ai<|Hv (vs:=[.pointer (some ⟨b9,0,none⟩),.pointer (some ⟨b15,0,none⟩)]) (by rfl) (by rfl)<|Ad<|h21 _ _<|wp_seq_k fun K22 h22=>Ai<|sV (Al AA rfl ((q8.ext E10).ext E16) rfl) ?_
 refine DC (vals:=[(0,.agg #[.bool x0.Man.Neg,.slice A1 (List.length x0.Man.Abs) c2,.int .i64 x0.Exp])]) (cs:=[.bool x0.Man.Neg,.slice A1 (List.length x0.Man.Abs) c2,.int .i64 x0.Exp]) HZ Ct Dj (by rfl) (by decide) (by kernel_rfl) fun b23 w4 E24 g25 q26=>?_
 refine nrm ?_
 have g27:=Nat.le_trans X20.size g25
 have X28:=Ext.trans X20 E24
 rcases Bj hq0 with ⟨r29,h30,f31⟩ | ⟨r29,h30,rfl⟩
 ·refine scO (Ae GO (by rfl)) (Ez x0 b23 A1 c2 w4 (TB.ext X28 hT) (n3.ext X28) q26 (.ok r29) h30) ?_
  rintro _ w5 E32 rfl
  refine nrm ?_
  have X35:=Ext.trans X28 E32
  refine Ad<|h22 _ _<|wp_seq_k fun K36 h36=>Ai<|have q37:=(((q8.ext E10).ext E16).ext E24).ext E32;sV (Al AA rfl q37 rfl) ?_
  obtain ⟨m38,h39,f40⟩:=Aa f31
  have hx41:=BH h39
  have n42:RU w5 A1 c2 m38:=by unfold RU;rw [hx41];exact (n3.ext X35)
  obtain ⟨r43,h44,f45⟩:=Aa f40
  refine sc (Ae Bm (by simp only [sz,hx41];rfl)) (AE (⟨(⟨x0.Man.Neg,m38⟩:Ag),x0.Exp⟩:Af) A1 c2 w5 (TB.ext X35 hT) n42 r43 h44) ?_
  rintro _ w6 E46 ⟨A47,c48,rfl,n49⟩
  refine nrm ?_
  have X50:=Ext.trans X35 E46
  obtain ⟨r51,h52,f53⟩:=Aa f45
  refine sc (Ae KG (by rfl)) (GB r43 A47 c48 w6 (TB.ext X50 hT) n49 r51 h52) ?_
  rintro _ w7 E54 ⟨A55,c56,rfl,n57⟩
  refine nrm ?_
  have X58:=Ext.trans X50 E54
  rcases Bj f53 with ⟨r59,h60,f61⟩ | ⟨r59,h60,rfl⟩
  ·refine scO (Ae Fi (by rfl)) (Bh r51 A55 c56 w7 (TB.ext X58 hT) n57 (.ok r59) h60) ?_
   rintro _ w8 E62 ⟨A66,c67,rfl,n68⟩
   refine nrm ?_
   have X69:=Ext.trans X58 E62
   have q70:=(((((q12.ext E16).ext E24).ext E32).ext E46).ext E54).ext E62
   refine Ay Ct rfl rfl q70 rfl rfl rfl rfl (by simp only [SP0,SP1,S0,S1,Nat.reduceAdd];rfl) fun w9 U71 q72=>?_
   have X73:=AV X69 U71 g13
   have ne74:=(Bx.neT (((((q18.ext E24).ext E32).ext E46).ext E54).ext E62) q70 (by decide))
   have q75:=(((((q18.ext E24).ext E32).ext E46).ext E54).ext E62).upd U71 ne74
   refine Ay Ho rfl rfl q75 rfl rfl rfl rfl (by simp only [SP0,SP1,S0,S1,Nat.reduceAdd];rfl) fun w10 U76 q77=>?_
   have X78:=AV X73 U76 g19
   refine Ad<|h36 _ _<|wp_ret ?_
   have n79:=(n68.upd U71 q70 (by decide)).upd U76 q75 (by decide)
   obtain rfl:=Option.some.inj f61
   obtain rfl:=Option.some.inj hr0
   exact Jr BO DH rfl (Res.cellN rfl AA (q72.upd U76 (Ne.symm ne74)) rfl rfl (Res.cell1 rfl CU (Bx.cell q77 rfl) Res.nil)) (An X78 ⟨A66,c67,rfl,n79⟩)
  ·refine scP (Ae Fi (by rfl)) (Bh r51 A55 c56 w7 (TB.ext X58 hT) n57 (.error r59) h60) fun w8 E62=>?_
   have X63:=Ext.trans X58 E62
   have q64:=(((((q12.ext E16).ext E24).ext E32).ext E46).ext E54).ext E62
   have q65:=((((q18.ext E24).ext E32).ext E46).ext E54).ext E62
   refine Gn DH (AK b9 b15 (.bool false:Value) (.slice none 0 0:Value) (.int .i64 0:Value) (.int .i64 0:Value) r59 q64 q65) rfl ?_
   rintro w9 ⟨u9,q9,q9'⟩
   obtain rfl:=Option.some.inj hr0
   exact ⟨_,(Res.cellN rfl AA q9 rfl rfl (Res.cell1 rfl CU (Bx.cell q9' rfl) Res.nil)),An (u9.toExt X63 g13 g19) ⟨none,0,rfl,RU.nil _⟩⟩
 ·refine scP (Ae GO (by rfl)) (Ez x0 b23 A1 c2 w4 (TB.ext X28 hT) (n3.ext X28) q26 (.error r29) h30) fun w5 E32=>?_
  have X33:=Ext.trans X28 E32
  have q34:=((q12.ext E16).ext E24).ext E32
  refine Gn DH (AK b9 b15 (.bool false:Value) (.slice none 0 0:Value) (.int .i64 0:Value) (.int .i64 0:Value) r29 q34 ((q18.ext E24).ext E32)) rfl ?_
  rintro w9 ⟨u9,q9,q9'⟩
  obtain rfl:=Option.some.inj hr0
  exact ⟨_,(Res.cellN rfl AA q9 rfl rfl (Res.cell1 rfl CU (Bx.cell q9' rfl) Res.nil)),An (u9.toExt X33 g13 g19) ⟨none,0,rfl,RU.nil _⟩⟩
theorem c_dyad_Shift (x0:Ak) (x1:Int) (A1:Option Addr) (c2:Nat) (w:World) (hT:TB w) (n3:RLu w A1 c2 x0.Man.Abs) (r:Af × Int) (hr:CJ x0 x1=some r) :
  Calls Tryz.prog 52 #[.agg #[.bool x0.Man.Neg,.slice A1 (List.length x0.Man.Abs) c2,.int .i64 x0.Exp],.int .i64 x1] w (Ret Fb w r):=by
 unfold CJ at hr
 obtain ⟨q0,hq0,hr0⟩:=Aa hr
 unfold Fd at hq0
 go_enter_defers Tryz.func52,Tryz.ntmps52
 refine wp_seq_k fun K4 h4=>Ai<|Bl rfl rfl fun b5 w1 E6 g7 q8=>?_
 refine nrm ?_
 refine Ax Dj fun b9 w2 E10 g11 q12=>?_
 refine nrm ?_
 have g13:=Nat.le_trans E6.size g11
 have X14:=Ext.trans E6 E10
 refine Ax IB fun b15 w3 E16 g17 q18=>?_
 refine nrm ?_
 have g19:=Nat.le_trans X14.size g17
 have X20:=Ext.trans X14 E16
 refine Ad<|h4 _ _<|wp_seq_k fun K21 h21=>Ai<|Hv (vs:=[.pointer (some ⟨b9,0,none⟩),.pointer (some ⟨b15,0,none⟩)]) (by rfl) (by rfl)<|Ad<|h21 _ _<|wp_seq_k fun K22 h22=>Ai<|sV (Al AA rfl ((q8.ext E10).ext E16) rfl) ?_
 refine DC (vals:=[(0,.agg #[.bool x0.Man.Neg,.slice A1 (List.length x0.Man.Abs) c2,.int .i64 x0.Exp])]) (cs:=[.bool x0.Man.Neg,.slice A1 (List.length x0.Man.Abs) c2,.int .i64 x0.Exp]) HZ Ct Dj (by rfl) (by decide) (by kernel_rfl) fun b23 w4 E24 g25 q26=>?_
 refine nrm ?_
 have g27:=Nat.le_trans X20.size g25
 have X28:=Ext.trans X20 E24
 rcases Bj hq0 with ⟨r29,h30,f31⟩ | ⟨r29,h30,rfl⟩
 ·refine scO (Ae GO (by rfl)) (Ez x0 b23 A1 c2 w4 (TB.ext X28 hT) (n3.ext X28) q26 (.ok r29) h30) ?_
  rintro _ w5 E32 rfl
  refine nrm ?_
  have X35:=Ext.trans X28 E32
  refine Ad<|h22 _ _<|wp_seq_k fun K36 h36=>wp_seq_k fun K37 h37=>Ai<|sV (Ah (o':=0) DY rfl rfl) ?_
  refine sV (Ah (o':=1) Cq rfl rfl) ?_
  have q38:=(((q8.ext E10).ext E16).ext E24).ext E32
  refine sV (Aj El rfl (Bx.cell q38 rfl)) ?_
  refine sV (AP Bs rfl) ?_
  refine sb (Cr rfl rfl) fun z39 hz39=>?_
  refine nrm ?_
  refine Ad<|h37 _ _ ?_
  rcases Bool.eq_false_or_eq_true z39 with e55 | e55
  ·have p58:=zP hz39 e55
   have f59:=ifP p58 f31
   refine wp_cond_true (Am (evb rfl e55))<|wp_seq_k fun K129 h129=>Ai<|sV (Al AA rfl q38 rfl) ?_
   have q130:=((q12.ext E16).ext E24).ext E32
   refine Ay Ct rfl rfl q130 rfl rfl rfl rfl (by simp only [SP0,SP1,S0,S1,Nat.reduceAdd];rfl) fun w6 U131 q132=>?_
   have X133:=AV X35 U131 g13
   have ne134:=(Bx.neT ((q18.ext E24).ext E32) q130 (by decide))
   have q135:=((q18.ext E24).ext E32).upd U131 ne134
   refine Ay Ho rfl rfl q135 rfl rfl rfl rfl (by simp only [SP0,SP1,S0,S1,Nat.reduceAdd];rfl) fun w7 U136 q137=>?_
   have X138:=AV X133 U136 g19
   refine Ad<|h129 _ _<|wp_ret ?_
   obtain ⟨m139,h140,f141⟩:=Aa f59
   have hx142:=BH h140
   have n143:RU w7 A1 c2 m139:=by unfold RU;rw [hx142];exact (n3.ext X138)
   obtain rfl:=Option.some.inj f141
   obtain rfl:=Option.some.inj hr0
   exact Jr BO DH rfl (Res.cellN rfl AA (q132.upd U136 (Ne.symm ne134)) rfl rfl (Res.cell1 rfl CU (Bx.cell q137 rfl) Res.nil)) (An X138 ⟨A1,c2,(by simp only [sz,hx142]<;>rfl),n143⟩)
  ·have p56:=zN hz39 e55
   have f57:=ifN p56 f31
   refine wp_cond_false (Am (evb rfl e55))<|wp_skip<|h36 _ _<|wp_seq_k fun K60 h60=>Ai<|sV (Ab rfl) ?_
   refine sb (GX rfl rfl) fun z61 hz61=>?_
   refine nrm ?_
   refine sV (Ab rfl) ?_
   obtain ⟨m68,h69,f70⟩:=Aa f57
   refine BW 6 (fun l l' w'=>∃(t72:Value) (t73:Value),w5=w'∧l'=(((l.set 18 t72).set 19 t73).set 20 (.bool m68))) ?_ ?_
   ·intro HJ74
    rcases Bool.eq_false_or_eq_true z61 with e75 | e75
    ·have p78:=zP hz61 e75
     have f79:=ifP p78 h69
     refine sV (Ab rfl) ?_ (hw:=wgT rfl e75)
     refine sb (FK rfl rfl) ?_ (hw:=wgT rfl e75)
     intro z80 hz80
     refine nrm ?_
     refine sV (AB (evb rfl e75) rfl) ?_
     obtain rfl:z80=decide ((-4194304)≤x1):=bz hz80
     obtain rfl:=Option.some.inj f79
     exact HJ74 _ _ ⟨(.int .i64 x1),(.bool (decide ((-4194304)≤x1))),rfl,(by simp only [S0,S1]<;>rfl)⟩
    ·have p76:=zN hz61 e75
     have f77:=ifN p76 h69
     refine sP ?_ (hw:=wgF rfl e75)
     refine sP ?_ (hw:=wgF rfl e75)
     refine sV (AF (evb rfl e75) rfl) ?_
     obtain rfl:=Option.some.inj f77
     exact HJ74 _ _ ⟨undef,undef,rfl,(by simp only [S0,S1]<;>rfl)⟩
   ·rintro l' _ ⟨t72,t73,rfl,hq'⟩ l'' hl
    rw [hq'] at hl
    clear hq'
    simp only [S0,S1] at hl
    subst hl
    rcases Bj f70 with ⟨r81,h82,f83⟩ | ⟨r81,h82,rfl⟩
    ·refine scO (Ae Dz (by rfl)) (AU m68 2 w5 (TB.ext X35 hT)  (.ok r81) h82) ?_
     rintro _ w6 E84 rfl
     refine nrm ?_
     have X88:=Ext.trans X35 E84
     refine Ad<|h60 _ _<|wp_seq_k fun K89 h89=>DG [9,10] 11 mo rfl fun w7 E90 S91=>?_
     have X92:=Ext.trans X88 E90
     refine dA 0 rfl (fun _=>Ah (o':=0) DY rfl rfl) ?_ (hQ:=fun _ _ _ h=>dq (rs:=[.cell 4 27,.cell 5 33]) rfl (by decide) h)
     refine dV 1 rfl (fun _ hw=>AH Fo rfl (((q38.ext E84).ext E90).ext hw) (by simp only [List.drop_zero,List.take_succ_cons,List.take_zero];rfl) rfl) S91 ?_ (hQ:=fun _ _ _ h=>dq (rs:=[.cell 4 27,.cell 5 33]) rfl (by decide) h)
     refine dA 3 rfl (fun _=>Ah (o':=2) DX rfl rfl) ?_ (hQ:=fun _ _ _ h=>dq (rs:=[.cell 4 27,.cell 5 33]) rfl (by decide) h)
     refine dV 4 rfl (fun _ hw=>Aj Ev rfl (Bx.cell (((q38.ext E84).ext E90).ext hw) rfl)) S91 ?_ (hQ:=fun _ _ _ h=>dq (rs:=[.cell 4 27,.cell 5 33]) rfl (by decide) h)
     refine dA 5 rfl (fun _=>Ab rfl) ?_ (hQ:=fun _ _ _ h=>dq (rs:=[.cell 4 27,.cell 5 33]) rfl (by decide) h)
     refine dA 6 rfl (fun _=>Bk (c:=wi64 (x0.Exp+x1)) rfl rfl rfl) ?_ (hQ:=fun _ _ _ h=>dq (rs:=[.cell 4 27,.cell 5 33]) rfl (by decide) h)
     obtain ⟨m93,h94,f95⟩:=Aa f83
     have hx96:=BH h94
     have n97:RU w7 A1 c2 m93:=by unfold RU;rw [hx96];exact (n3.ext X92)
     obtain ⟨r98,h99,f100⟩:=Aa f95
     refine dc 2 rfl (by kernel_rfl) (by rfl) (Ae KQ (by simp only [sz,hx96];rfl)) (HY (⟨x0.Man.Neg,m93⟩:Ag) A1 c2 w7 (TB.ext X92 hT) n97 r98 h99) ?_
     rintro _ w8 E101 ⟨A102,c103,rfl,n104⟩
     refine dnrm ?_
     have X105:=Ext.trans X92 E101
     have S106:=S91.trans E101
     refine dA 7 rfl (fun _=>Bb (vals:=[(0,.agg #[.bool r98.Neg,.slice A102 (sz r98.Abs) c103]),(1,.int .i64 (wi64 (x0.Exp+x1)))]) (cells:=[.bool r98.Neg,.slice A102 (sz r98.Abs) c103,.int .i64 (wi64 (x0.Exp+x1))]) (by rfl) (by kernel_rfl)) ?_ (hQ:=fun _ _ _ h=>dq (rs:=[.cell 4 27,.cell 5 33]) rfl (by decide) h)
     rcases Bj f100 with ⟨r107,h108,f109⟩ | ⟨r107,h108,rfl⟩
     ·refine dcO 8 rfl (by kernel_rfl) (by rfl) (Ae Fi (by rfl)) (Bh (⟨r98,(wi64 (x0.Exp+x1))⟩:Ao) A102 c103 w8 (TB.ext X105 hT) n104 (.ok r107) h108) ?_
      rintro _ w9 E110 ⟨A114,c115,rfl,n116⟩
      refine dnrm ?_
      have X117:=Ext.trans X105 E110
      have S118:=S106.trans E110
      have q119:=((((((q12.ext E16).ext E24).ext E32).ext E84).ext E90).ext E101).ext E110
      refine dk 9 rfl (by kernel_rfl) (by decide) (by rfl) Ct rfl rfl q119 rfl rfl rfl rfl (by simp only [SP0,SP1,S0,S1,Nat.reduceAdd];rfl) fun w10 U120 q121=>?_
      have X122:=AV X117 U120 g13
      have ne123:=(Bx.neT ((((((q18.ext E24).ext E32).ext E84).ext E90).ext E101).ext E110) q119 (by decide))
      have q124:=((((((q18.ext E24).ext E32).ext E84).ext E90).ext E101).ext E110).upd U120 ne123
      refine dk 10 rfl (by kernel_rfl) (by decide) (by rfl) Ho rfl rfl q124 rfl rfl rfl rfl (by simp only [SP0,SP1,S0,S1,Nat.reduceAdd];rfl) fun w11 U125 q126=>?_
      have X127:=AV X122 U125 g19
      refine CH (by kernel_rfl) ?_
      refine h89 _ _<|wp_ret ?_
      have n128:=(n116.upd U120 q119 (by decide)).upd U125 q124 (by decide)
      obtain rfl:=Option.some.inj f109
      obtain rfl:=Option.some.inj hr0
      exact Jr BO DH rfl (Res.cellN rfl AA (q121.upd U125 (Ne.symm ne123)) rfl rfl (Res.cell1 rfl CU (Bx.cell q126 rfl) Res.nil)) (An X127 ⟨A114,c115,rfl,n128⟩)
     ·refine dcP 8 rfl (by kernel_rfl) (by rfl) (Ae Fi (by rfl)) (Bh (⟨r98,(wi64 (x0.Exp+x1))⟩:Ao) A102 c103 w8 (TB.ext X105 hT) n104 (.error r107) h108) fun w9 E110=>?_
      have X111:=Ext.trans X105 E110
      have q112:=((((((q12.ext E16).ext E24).ext E32).ext E84).ext E90).ext E101).ext E110
      have q113:=(((((q18.ext E24).ext E32).ext E84).ext E90).ext E101).ext E110
      refine Gn DH (AK b9 b15 (.bool false:Value) (.slice none 0 0:Value) (.int .i64 0:Value) (.int .i64 0:Value) r107 q112 q113) rfl ?_
      rintro w9 ⟨u9,q9,q9'⟩
      obtain rfl:=Option.some.inj hr0
      exact ⟨_,(Res.cellN rfl AA q9 rfl rfl (Res.cell1 rfl CU (Bx.cell q9' rfl) Res.nil)),An (u9.toExt X111 g13 g19) ⟨none,0,rfl,RU.nil _⟩⟩
    ·refine scP (Ae Dz (by rfl)) (AU m68 2 w5 (TB.ext X35 hT)  (.error r81) h82) fun w6 E84=>?_
     have X85:=Ext.trans X35 E84
     have q86:=(((q12.ext E16).ext E24).ext E32).ext E84
     have q87:=((q18.ext E24).ext E32).ext E84
     refine Gn DH (AK b9 b15 (.bool false:Value) (.slice none 0 0:Value) (.int .i64 0:Value) (.int .i64 0:Value) r81 q86 q87) rfl ?_
     rintro w9 ⟨u9,q9,q9'⟩
     obtain rfl:=Option.some.inj hr0
     exact ⟨_,(Res.cellN rfl AA q9 rfl rfl (Res.cell1 rfl CU (Bx.cell q9' rfl) Res.nil)),An (u9.toExt X85 g13 g19) ⟨none,0,rfl,RU.nil _⟩⟩
 ·refine scP (Ae GO (by rfl)) (Ez x0 b23 A1 c2 w4 (TB.ext X28 hT) (n3.ext X28) q26 (.error r29) h30) fun w5 E32=>?_
  have X33:=Ext.trans X28 E32
  have q34:=((q12.ext E16).ext E24).ext E32
  refine Gn DH (AK b9 b15 (.bool false:Value) (.slice none 0 0:Value) (.int .i64 0:Value) (.int .i64 0:Value) r29 q34 ((q18.ext E24).ext E32)) rfl ?_
  rintro w9 ⟨u9,q9,q9'⟩
  obtain rfl:=Option.some.inj hr0
  exact ⟨_,(Res.cellN rfl AA q9 rfl rfl (Res.cell1 rfl CU (Bx.cell q9' rfl) Res.nil)),An (u9.toExt X33 g13 g19) ⟨none,0,rfl,RU.nil _⟩⟩
theorem Fh (x0:Ak) (A1:Option Addr) (c2:Nat) (w:World) (hT:TB w) (n3:RLu w A1 c2 x0.Man.Abs) (r:Int) (hr:Ba x0=some r) :
  Calls Tryz.prog 23 #[.agg #[.bool x0.Man.Neg,.slice A1 (List.length x0.Man.Abs) c2,.int .i64 x0.Exp]] w (Ret Gk w r):=by
 unfold Ba at hr
 go_enter Tryz.func23,Tryz.ntmps23
 refine wp_seq_k fun K4 h4=>Ai<|Bl rfl rfl fun b5 w1 E6 g7 q8=>?_
 refine nrm ?_
 refine sV (Ac rfl) ?_
 refine Ad<|h4 _ _<|wp_seq_k fun K9 h9=>wp_seq_k fun K10 h10=>Ai<|sV (Ah (o':=0) DY rfl rfl) ?_
 refine sV (Ah (o':=1) Cq rfl rfl) ?_
 refine sV (Aj El rfl (Bx.cell q8 rfl)) ?_
 refine sV (AP Bs rfl) ?_
 refine sb (Cr rfl rfl) fun z11 hz11=>?_
 refine nrm ?_
 refine Ad<|h10 _ _ ?_
 rcases Bool.eq_false_or_eq_true z11 with e18 | e18
 ·have p21:=zP hz11 e18
  have f22:=ifP p21 hr
  refine wp_cond_true (Am (evb rfl e18))<|wp_seq_k fun K38 h38=>Ai<|sV (Ac rfl) ?_
  refine Ad<|h38 _ _<|wp_ret ?_
  obtain rfl:=Option.some.inj f22
  exact fin rfl (Res.tmp rfl Res.nil) (An E6 rfl)
 ·have p19:=zN hz11 e18
  have f20:=ifN p19 hr
  refine wp_cond_false (Am (evb rfl e18))<|wp_skip<|h9 _ _<|wp_seq_k fun K23 h23=>wp_seq_k fun K24 h24=>Ai<|sV (Ah (o':=0) DY rfl rfl) ?_
  refine sV (Ah (o':=0) EH rfl rfl) ?_
  refine sV (Aj FL rfl (Bx.cell q8 rfl)) ?_
  refine Ad<|h24 _ _ ?_
  rcases Bool.eq_false_or_eq_true x0.Man.Neg with e31 | e31
  ·have p34:=e31
   have f35:=ifP p34 f20
   refine wp_cond_true (Am (evb rfl e31))<|wp_seq_k fun K37 h37=>Ai<|sV (Ac rfl) ?_
   refine Ad<|h37 _ _<|wp_ret ?_
   obtain rfl:=Option.some.inj f35
   exact fin rfl (Res.tmp rfl Res.nil) (An E6 rfl)
  ·have p32:=bF e31
   have f33:=ifN p32 f20
   refine wp_cond_false (Am (evb rfl e31))<|wp_skip<|h23 _ _<|wp_seq_k fun K36 h36=>Ai<|sV (Ac rfl) ?_
   refine Ad<|h36 _ _<|wp_ret ?_
   obtain rfl:=Option.some.inj f33
   exact fin rfl (Res.tmp rfl Res.nil) (An E6 rfl)
set_option maxRecDepth 20000 in
theorem c_sorobanlaw04_DyadSums (x0:Ak) (x1:Ak) (x2:Int) (A1:Option Addr) (c2:Nat) (A4:Option Addr) (c5:Nat) (w:World) (hT:TB w) (n3:RLu w A1 c2 x0.Man.Abs) (n6:RLu w A4 c5 x1.Man.Abs) (r:Bool) (hr:Eg x0 x1 x2=some r) :
  Calls Tryz.prog 6 #[.agg #[.bool x0.Man.Neg,.slice A1 (List.length x0.Man.Abs) c2,.int .i64 x0.Exp],.agg #[.bool x1.Man.Neg,.slice A4 (List.length x1.Man.Abs) c5,.int .i64 x1.Exp],.int .i64 x2] w (Ret Fw w r):=by
 unfold Eg at hr
 refine Kl Tryz.func6 rfl [.agg #[.bool x0.Man.Neg,.slice A1 (List.length x0.Man.Abs) c2,.int .i64 x0.Exp],.agg #[.bool x1.Man.Neg,.slice A4 (List.length x1.Man.Abs) c5,.int .i64 x1.Exp],.int .i64 x2,undef,undef,undef,undef,undef,undef,undef,undef,undef,undef,undef,undef,undef,undef,undef,undef,undef,undef,undef,undef,undef,undef,undef,undef,undef,undef,undef,undef,undef,undef,undef,undef,undef,undef,undef,undef,undef,undef,undef,undef,undef,undef,undef,undef,undef,undef,undef,undef,undef,undef,undef,undef,undef,undef,undef,undef,undef,undef,undef,undef,undef,undef,undef,undef,undef,undef,undef,undef,undef,undef,undef,undef,undef,undef,undef,undef,undef,undef,undef,undef,undef,undef,undef,undef,undef,undef,undef,undef,undef,undef,undef,undef,undef,undef,undef,undef,undef,undef,undef,undef,undef,undef,undef,undef,undef,undef,undef,undef,undef,undef,undef,undef,undef,undef,undef,undef,undef,undef,undef,undef,undef,undef,undef,undef,undef,undef,undef,undef,undef,undef,undef,undef,undef,undef,undef,undef,undef,undef,undef,undef,undef,undef,undef,undef,undef,undef,undef,undef,undef,undef,undef,undef,undef,undef,undef,undef,undef,undef,undef,undef,undef,undef,undef,undef,undef,undef,undef,undef,undef,undef] (by kernel_rfl) ?_
 refine wp_seq_k fun K7 h7=>Ai<|Bl rfl rfl fun b8 w1 E9 g10 q11=>?_
 refine nrm ?_
 refine Bl rfl rfl fun b12 w2 E13 g14 q15=>?_
 refine nrm ?_
 have g16:=Nat.le_trans E9.size g14
 have X17:=Ext.trans E9 E13
 refine sV (Ac rfl) ?_
 refine Ad<|h7 _ _<|wp_seq_k fun K18 h18=>wp_seq_k fun K19 h19=>Ai<|sV (Al AA rfl (q11.ext E13) rfl) ?_
 obtain ⟨r20,h21,f22⟩:=Aa hr
 refine sc (Ae MD (by rfl)) (GG x0 A1 c2 w2 (TB.ext X17 hT) (n3.ext X17) r20 h21) ?_
 rintro _ w3 E23 rfl
 refine nrm ?_
 have X24:=Ext.trans X17 E23
 refine sb (Fy rfl) fun z25 hz25=>?_
 refine nrm ?_
 refine sV (Ab rfl) ?_
 obtain ⟨m37,h38,f39⟩:=Aa f22
 refine BW 8 (fun l l' w'=>∃(t41:Value) (t42:Value) (t43:Value),UpdS [] w3 w'∧l'=((((l.set 23 t41).set 24 t42).set 25 t43).set 26 (.bool m37))) ?_ ?_
 ·intro HJ44
  rcases Bool.eq_false_or_eq_true z25 with e45 | e45
  ·have p48:=zP hz25 e45
   have f49:=ifP p48 h38
   refine sP ?_ (hw:=wgF rfl e45)
   refine sP ?_ (hw:=wgF rfl e45)
   refine sP ?_ (hw:=wgF rfl e45)
   refine sV (AB (evb rfl e45) rfl) ?_
   obtain rfl:=Option.some.inj f49
   exact HJ44 _ _ ⟨undef,undef,undef,(UpdS.refl _ _),(by simp only [S0,S1]<;>rfl)⟩
  ·have p46:=zN hz25 e45
   have f47:=ifN p46 h38
   refine sV (Al AA rfl (q15.ext E23) rfl) ?_ (hw:=wgT rfl e45)
   obtain ⟨r50,h51,f52⟩:=Aa f47
   refine sc (Ae MD (by rfl)) (GG x1 A4 c5 w3 (TB.ext X24 hT) (n6.ext X24) r50 h51) ?_ (hw:=wgT rfl e45)
   rintro _ w4 E53 rfl
   refine nrm ?_
   refine sb (Fy rfl) ?_ (hw:=wgT rfl e45)
   intro z55 hz55
   refine nrm ?_
   refine sV (AF (evb rfl e45) rfl) ?_
   obtain rfl:z55=decide (¬(r50=true)):=bz hz55
   obtain rfl:=Option.some.inj f52
   exact HJ44 _ _ ⟨(.agg #[.bool x1.Man.Neg,.slice A4 (List.length x1.Man.Abs) c5,.int .i64 x1.Exp]),(.bool r50),(.bool (decide (¬(r50=true)))),((UpdS.refl _ _).ext E53),(by simp only [S0,S1]<;>rfl)⟩
 ·rintro l' w4 ⟨t41,t42,t43,U40,hq'⟩ l'' hl
  rw [hq'] at hl
  clear hq'
  simp only [S0,S1] at hl
  subst hl
  have X56:=Hk X24 U40 (X24).size al0
  refine Ad<|h19 _ _ ?_
  rcases Bool.eq_false_or_eq_true m37 with e68 | e68
  ·have p71:=e68
   have f72:=ifP p71 f39
   refine wp_cond_true (Am (evb rfl e68))<|wp_seq_k fun K1397 h1397=>Ai ?_
   obtain ⟨r1398,h1399,f1400⟩:=Aa f72
   refine sc (Ae Lx (by rfl)) (Fj w4 (TB.ext X56 hT)  r1398 h1399) ?_
   rintro _ w5 E1401 rfl
   refine nrm ?_
   have X1402:=Ext.trans X56 E1401
   refine sV (Ac rfl) ?_
   refine Ad<|h1397 _ _<|wp_ret ?_
   obtain rfl:=Option.some.inj f1400
   exact fin rfl (Res.tmp rfl Res.nil) (An X1402 rfl)
  ·have p69:=bF e68
   have f70:=ifN p69 f39
   refine wp_cond_false (Am (evb rfl e68))<|wp_skip<|h18 _ _<|wp_seq_k fun K73 h73=>Ai<|have q74:=((q11.ext E13).ext E23).updS U40 nm0;sV (Al AA rfl q74 rfl) ?_
   obtain ⟨r75,h76,f77⟩:=Aa f70
   refine sc (Ae Ky (by rfl)) (Ea x0 A1 c2 w4 (TB.ext X56 hT) (n3.ext X56) r75 h76) ?_
   rintro _ w5 E78 rfl
   refine nrm ?_
   have X79:=Ext.trans X56 E78
   refine sV (Ab rfl) ?_
   obtain ⟨m91,h92,f93⟩:=Aa f77
   refine BW 6 (fun l l' w'=>∃(t95:Value) (t96:Value),UpdS [] w5 w'∧l'=(((l.set 31 t95).set 32 t96).set 33 (.bool m91))) ?_ ?_
   ·intro HJ97
    rcases Bool.eq_false_or_eq_true r75 with e98 | e98
    ·have p101:=e98
     have f102:=ifP p101 h92
     have q103:=((q15.ext E23).updS U40 nm0).ext E78
     refine sV (Al AA rfl q103 rfl) ?_ (hw:=wgT rfl e98)
     obtain ⟨r104,h105,f106⟩:=Aa f102
     refine sc (Ae Ky (by rfl)) (Ea x1 A4 c5 w5 (TB.ext X79 hT) (n6.ext X79) r104 h105) ?_ (hw:=wgT rfl e98)
     rintro _ w6 E107 rfl
     refine nrm ?_
     refine sV (AB (evb rfl e98) rfl) ?_
     obtain rfl:=Option.some.inj f106
     exact HJ97 _ _ ⟨(.agg #[.bool x1.Man.Neg,.slice A4 (List.length x1.Man.Abs) c5,.int .i64 x1.Exp]),(.bool r104),((UpdS.refl _ _).ext E107),(by simp only [S0,S1]<;>rfl)⟩
    ·have p99:=bF e98
     have f100:=ifN p99 h92
     refine sP ?_ (hw:=wgF rfl e98)
     refine sP ?_ (hw:=wgF rfl e98)
     refine sV (AF (evb rfl e98) rfl) ?_
     obtain rfl:=Option.some.inj f100
     exact HJ97 _ _ ⟨undef,undef,(UpdS.refl _ _),(by simp only [S0,S1]<;>rfl)⟩
   ·rintro l' w6 ⟨t95,t96,U94,hq'⟩ l'' hl
    rw [hq'] at hl
    clear hq'
    simp only [S0,S1] at hl
    subst hl
    have X109:=Hk X79 U94 (X79).size al0
    obtain ⟨r110,h111,f112⟩:=Aa f93
    refine sc (Ae MH (by rfl)) (He m91 w6 (TB.ext X109 hT)  r110 h111) ?_
    rintro _ w7 E113 rfl
    refine nrm ?_
    have X114:=Ext.trans X109 E113
    refine sV (Ac rfl) ?_
    refine Ad<|h73 _ _<|wp_seq_k fun K115 h115=>Ai<|Ax Dj fun b116 w8 E117 g118 q119=>?_
    refine nrm ?_
    have g120:=Nat.le_trans X114.size g118
    have X121:=Ext.trans X114 E117
    refine Ax Dj fun b122 w9 E123 g124 q125=>?_
    refine nrm ?_
    have g126:=Nat.le_trans X121.size g124
    have X127:=Ext.trans X121 E123
    refine Ax Dj fun b128 w10 E129 g130 q131=>?_
    refine nrm ?_
    have g132:=Nat.le_trans X127.size g130
    have X133:=Ext.trans X127 E129
    refine Ad<|h115 _ _<|wp_seq_k fun K134 h134=>wp_seq_k fun K135 h135=>Ai<|sV (Ab rfl) ?_
    refine sb (Cr rfl rfl) fun z136 hz136=>?_
    refine nrm ?_
    refine Ad<|h135 _ _ ?_
    obtain ⟨m222,h223,f224⟩:=Aa f112
    refine DA (fun l l' w'=>∃(t226:Value) (t227:Value) (t228:Value) (t229:Value) (t230:Value) (t231:Value) (t232:Value) (t233:Value) (t234:Value) (t235:Value) (A236:Option Addr) (c237:Nat) (A240:Option Addr) (c241:Nat) (A244:Option Addr) (c245:Nat),UpdS [b116,b122,b128] w10 w'∧Bx w' b116 27 [.bool m222.1,.slice A236 (sz m222.2.1) c237,.int .i64 m222.2.2.1]∧Bx w' b122 27 [.bool m222.2.2.2.1,.slice A240 (sz m222.2.2.2.2.1) c241,.int .i64 m222.2.2.2.2.2.1]∧Bx w' b128 27 [.bool m222.2.2.2.2.2.2.1,.slice A244 (sz m222.2.2.2.2.2.2.2.1) c245,.int .i64 m222.2.2.2.2.2.2.2.2]∧RU w' A236 c237 m222.2.1∧RU w' A240 c241 m222.2.2.2.2.1∧RU w' A244 c245 m222.2.2.2.2.2.2.2.1∧l'=((((((((((l.set 37 t226).set 38 t227).set 39 t228).set 40 t229).set 41 t230).set 42 t231).set 43 t232).set 44 t233).set 45 t234).set 46 t235)) ?_ ?_
    ·rcases Bool.eq_false_or_eq_true z136 with e249 | e249
     ·have p252:=zP hz136 e249
      have f253:=ifP p252 h223
      refine wp_cond_true (Am (evb rfl e249))<|wp_seq_k fun K254 h254=>Ai<|have q255:=(((((q74.ext E78).updS U94 nm0).ext E113).ext E117).ext E123).ext E129;sV (Al AA rfl q255 rfl) ?_
      have q256:=(((((((q15.ext E23).updS U40 nm0).ext E78).updS U94 nm0).ext E113).ext E117).ext E123).ext E129
      refine sV (Al AA rfl q256 rfl) ?_
      obtain ⟨m257,h258,f259⟩:=Aa f253
      have hx260:=BH h258
      have n261:RU w10 A1 c2 m257:=by unfold RU;rw [hx260];exact (n3.ext X133)
      obtain ⟨m262,h263,f264⟩:=Aa f259
      have hx265:=BH h263
      have n266:RU w10 A4 c5 m262:=by unfold RU;rw [hx265];exact (n6.ext X133)
      obtain ⟨r267,h268,f269⟩:=Aa f264
      refine sc (Ae MB (by simp only [sz,hx260,hx265];rfl)) (Hc (⟨(⟨x0.Man.Neg,m257⟩:Ag),x0.Exp⟩:Af) (⟨(⟨x1.Man.Neg,m262⟩:Ag),x1.Exp⟩:Af) A1 c2 A4 c5 w10 (TB.ext X133 hT) n261 n266 r267 h268) ?_
      rintro _ w11 E270 ⟨A271,c272,rfl,n273⟩
      refine nrm ?_
      have X274:=Ext.trans X133 E270
      have q275:=((q119.ext E123).ext E129).ext E270
      refine Ay Ct rfl rfl q275 rfl rfl rfl rfl (by simp only [SP0,SP1,S0,S1,Nat.reduceAdd];rfl) fun w12 U276 q277=>?_
      have X278:=AV X274 U276 g120
      refine Ad<|h254 _ _<|wp_seq_k fun K279 h279=>DG [4] 5 mo rfl fun w13 E280 S281=>have X282:=Ext.trans X278 E280;have ne283:=(Bx.ne (((q74.ext E78).updS U94 nm0).ext E113) g118);dV 0 rfl (fun _ hw=>Al AA rfl ((((q255.ext E270).upd U276 ne283).ext E280).ext hw) rfl) S281 ?_
      have ne284:=(Bx.ne (((((q15.ext E23).updS U40 nm0).ext E78).updS U94 nm0).ext E113) g118)
      refine dV 1 rfl (fun _ hw=>Al AA rfl ((((q256.ext E270).upd U276 ne284).ext E280).ext hw) rfl) S281 ?_
      obtain ⟨r285,h286,f287⟩:=Aa f269
      refine dc 2 rfl (by kernel_rfl) (by rfl) (Ae Mw (by rfl)) (Gl x1 A4 c5 w13 (TB.ext X282 hT) (n6.ext X282) r285 h286) ?_
      rintro _ w14 E288 ⟨A289,c290,rfl,n291⟩
      refine dnrm ?_
      have X292:=Ext.trans X282 E288
      have S293:=S281.trans E288
      have n294:RU w14 A1 c2 m257:=by unfold RU;rw [hx260];exact (n3.ext X292)
      obtain ⟨m295,h296,f297⟩:=Aa f287
      have hx298:=BH h296
      have n299:RU w14 A289 c290 m295:=by unfold RU;rw [hx298];exact n291
      obtain ⟨r300,h301,f302⟩:=Aa f297
      refine dc 3 rfl (by kernel_rfl) (by rfl) (Ae MB (by simp only [sz,hx260,hx298];rfl)) (Hc (⟨(⟨x0.Man.Neg,m257⟩:Ag),x0.Exp⟩:Af) (⟨(⟨r285.Man.Neg,m295⟩:Ag),r285.Exp⟩:Af) A1 c2 A289 c290 w14 (TB.ext X292 hT) n294 n299 r300 h301) ?_
      rintro _ w15 E303 ⟨A304,c305,rfl,n306⟩
      refine dnrm ?_
      have X307:=Ext.trans X292 E303
      have S308:=S293.trans E303
      have ne309:=(Bx.ne q119 g124).symm
      have q310:=(((((q125.ext E129).ext E270).upd U276 ne309).ext E280).ext E288).ext E303
      refine dk 4 rfl (by kernel_rfl) (by decide) (by rfl) Ct rfl rfl q310 rfl rfl rfl rfl (by simp only [SP0,SP1,S0,S1,Nat.reduceAdd];rfl) fun w16 U311 q312=>?_
      have X313:=AV X307 U311 g126
      refine CH (by kernel_rfl) ?_
      refine h279 _ _<|Ai<|have ne314:=(Bx.ne ((((q74.ext E78).updS U94 nm0).ext E113).ext E117) g124);have q315:=(((((q255.ext E270).upd U276 ne283).ext E280).ext E288).ext E303).upd U311 ne314;sV (Al AA rfl q315 rfl) ?_
      have ne316:=(Bx.ne ((((((q15.ext E23).updS U40 nm0).ext E78).updS U94 nm0).ext E113).ext E117) g124)
      have q317:=(((((q256.ext E270).upd U276 ne284).ext E280).ext E288).ext E303).upd U311 ne316
      refine sV (Al AA rfl q317 rfl) ?_
      have n318:RU w16 A1 c2 m257:=by unfold RU;rw [hx260];exact (n3.ext X313)
      have n319:RU w16 A4 c5 m262:=by unfold RU;rw [hx265];exact (n6.ext X313)
      obtain ⟨r320,h321,f322⟩:=Aa f302
      refine sc (Ae en_48 (by simp only [sz,hx260,hx265];rfl)) (c_sorobanref04_Product (⟨(⟨x0.Man.Neg,m257⟩:Ag),x0.Exp⟩:Af) (⟨(⟨x1.Man.Neg,m262⟩:Ag),x1.Exp⟩:Af) A1 c2 A4 c5 w16 (TB.ext X313 hT) n318 n319 r320 h321) ?_
      rintro _ w17 E323 ⟨A324,c325,rfl,n326⟩
      refine nrm ?_
      have ne328:=(Bx.ne (q119.ext E123) g130).symm
      have ne329:=(Bx.ne q125 g130).symm
      have q330:=((((((q131.ext E270).upd U276 ne328).ext E280).ext E288).ext E303).upd U311 ne329).ext E323
      refine Ay Ct rfl rfl q330 rfl rfl rfl rfl (by simp only [SP0,SP1,S0,S1,Nat.reduceAdd];rfl) fun w18 U331 q332=>?_
      refine Ad ?_
      have n334:=((((((n273.upd U276 q275 (by decide)).ext E280).ext E288).ext E303).upd U311 q310 (by decide)).ext E323).upd U331 q330 (by decide)
      have n335:=((n306.upd U311 q310 (by decide)).ext E323).upd U331 q330 (by decide)
      have q336:=(((((q277.ext E280).ext E288).ext E303).upd U311 (Ne.symm ne309)).ext E323).upd U331 (Ne.symm ne328)
      have q337:=(q312.ext E323).upd U331 (Ne.symm ne329)
      obtain rfl:=Option.some.inj f322
      exact ⟨_,rfl,(.agg #[.bool x0.Man.Neg,.slice A1 (List.length x0.Man.Abs) c2,.int .i64 x0.Exp]),(.agg #[.bool x1.Man.Neg,.slice A4 (List.length x1.Man.Abs) c5,.int .i64 x1.Exp]),(.agg #[.bool r267.Man.Neg,.slice A271 (sz r267.Man.Abs) c272,.int .i64 r267.Exp]),(.agg #[.bool x0.Man.Neg,.slice A1 (List.length x0.Man.Abs) c2,.int .i64 x0.Exp]),(.agg #[.bool x1.Man.Neg,.slice A4 (List.length x1.Man.Abs) c5,.int .i64 x1.Exp]),(.agg #[.bool r285.Man.Neg,.slice A289 (List.length r285.Man.Abs) c290,.int .i64 r285.Exp]),(.agg #[.bool r300.Man.Neg,.slice A304 (sz r300.Man.Abs) c305,.int .i64 r300.Exp]),(.agg #[.bool x0.Man.Neg,.slice A1 (List.length x0.Man.Abs) c2,.int .i64 x0.Exp]),(.agg #[.bool x1.Man.Neg,.slice A4 (List.length x1.Man.Abs) c5,.int .i64 x1.Exp]),(.agg #[.bool r320.Man.Neg,.slice A324 (sz r320.Man.Abs) c325,.int .i64 r320.Exp]),A271,c272,A304,c305,A324,c325,(((((((((UpdS.refl _ _).ext E270).upd U276 (.inl im0)).ext E280).ext E288).ext E303).upd U311 (.inl (imc im0))).ext E323).upd U331 (.inl (imc (imc im0)))),q336,q337,q332,n334,n335,(n326.upd U331 q330 (by decide)),(by simp only [S0,S1]<;>rfl)⟩
     ·have p250:=zN hz136 e249
      have f251:=ifN p250 h223
      refine wp_cond_false (Am (evb rfl e249))<|wp_skip ?_
      obtain rfl:=Option.some.inj f251
      exact ⟨_,rfl,undef,undef,undef,undef,undef,undef,undef,undef,undef,undef,none,0,none,0,none,0,(UpdS.refl _ _),((q119.ext E123).ext E129),(q125.ext E129),q131,(RU.nil _),(RU.nil _),(RU.nil _),(by simp only [S0,S1]<;>rfl)⟩
    ·rintro l' w11 ⟨t226,t227,t228,t229,t230,t231,t232,t233,t234,t235,A236,c237,A240,c241,A244,c245,U225,q239,q243,q247,n238,n242,n246,hq'⟩ l'' hl
     rw [hq'] at hl
     clear hq'
     simp only [S0,S1] at hl
     subst hl
     have X338:=Hk X133 U225 (X133).size (alc g120 (alc g126 (alc g132 al0)))
     refine h134 _ _<|wp_seq_k fun K339 h339=>Ai<|have ne340:=(Bx.ne (((((q74.ext E78).updS U94 nm0).ext E113).ext E117).ext E123) g130);have ne341:=(Bx.ne ((((q74.ext E78).updS U94 nm0).ext E113).ext E117) g124);have ne342:=(Bx.ne (((q74.ext E78).updS U94 nm0).ext E113) g118);have q343:=((((((q74.ext E78).updS U94 nm0).ext E113).ext E117).ext E123).ext E129).updS U225 (nmc ne342 (nmc ne341 (nmc ne340 nm0)));sV (Al AA rfl q343 rfl) ?_
     have ne344:=(Bx.ne (((((((q15.ext E23).updS U40 nm0).ext E78).updS U94 nm0).ext E113).ext E117).ext E123) g130)
     have ne345:=(Bx.ne ((((((q15.ext E23).updS U40 nm0).ext E78).updS U94 nm0).ext E113).ext E117) g124)
     have ne346:=(Bx.ne (((((q15.ext E23).updS U40 nm0).ext E78).updS U94 nm0).ext E113) g118)
     have q347:=((((((((q15.ext E23).updS U40 nm0).ext E78).updS U94 nm0).ext E113).ext E117).ext E123).ext E129).updS U225 (nmc ne346 (nmc ne345 (nmc ne344 nm0)))
     refine sV (Al AA rfl q347 rfl) ?_
     obtain ⟨r348,h349,f350⟩:=Aa f224
     refine sc (Ae en_39 (by rfl)) (c_dyad_Add x0 x1 A1 c2 A4 c5 w11 (TB.ext X338 hT) (n3.ext X338) (n6.ext X338) r348 h349) ?_
     rintro _ w12 E351 ⟨A352,c353,rfl,n354⟩
     refine nrm ?_
     have X355:=Ext.trans X338 E351
     refine sV (Ab rfl) ?_
     refine sV (AI rfl rfl) ?_
     refine sV (AI rfl rfl) ?_
     refine Ax Dj fun b356 w13 E357 g358 q359=>?_
     refine nrm ?_
     have g360:=Nat.le_trans X355.size g358
     refine Ay Ct rfl rfl q359 rfl rfl rfl rfl (by simp only [SP0,SP1,S0,S1,Nat.reduceAdd];rfl) fun w14 U362 q363=>?_
     have F365:=AV E357 U362 g358
     have X364:=Ext.trans X355 F365
     refine sV (Ac rfl) ?_
     refine Ad<|h339 _ _<|wp_seq_k fun K366 h366=>Ai<|sV (Al AA rfl ((q343.ext E351).ext F365) rfl) ?_
     refine sV (Al AA rfl ((q347.ext E351).ext F365) rfl) ?_
     obtain ⟨r367,h368,f369⟩:=Aa f350
     refine sc (Ae en_40 (by rfl)) (c_dyad_Sub x0 x1 A1 c2 A4 c5 w14 (TB.ext X364 hT) (n3.ext X364) (n6.ext X364) r367 h368) ?_
     rintro _ w15 E370 ⟨A371,c372,rfl,n373⟩
     refine nrm ?_
     have X374:=Ext.trans X364 E370
     refine sV (Ab rfl) ?_
     refine sV (AI rfl rfl) ?_
     refine sV (AI rfl rfl) ?_
     refine Ax Dj fun b375 w16 E376 g377 q378=>?_
     refine nrm ?_
     have g379:=Nat.le_trans X374.size g377
     refine Ay Ct rfl rfl q378 rfl rfl rfl rfl (by simp only [SP0,SP1,S0,S1,Nat.reduceAdd];rfl) fun w17 U381 q382=>?_
     have F384:=AV E376 U381 g377
     have X383:=Ext.trans X374 F384
     refine sV (Ac rfl) ?_
     refine Ad<|h366 _ _<|wp_seq_k fun K385 h385=>Ai<|have q386:=(((q343.ext E351).ext F365).ext E370).ext F384;sV (Al AA rfl q386 rfl) ?_
     have q387:=(((q347.ext E351).ext F365).ext E370).ext F384
     refine sV (Al AA rfl q387 rfl) ?_
     obtain ⟨r388,h389,f390⟩:=Aa f369
     refine sc (Ae en_49 (by rfl)) (c_dyad_Mul x0 x1 A1 c2 A4 c5 w17 (TB.ext X383 hT) (n3.ext X383) (n6.ext X383) r388 h389) ?_
     rintro _ w18 E391 ⟨A392,c393,rfl,n394⟩
     refine nrm ?_
     have X395:=Ext.trans X383 E391
     refine sV (Ab rfl) ?_
     refine sV (AI rfl rfl) ?_
     refine sV (AI rfl rfl) ?_
     refine Ax Dj fun b396 w19 E397 g398 q399=>?_
     refine nrm ?_
     have g400:=Nat.le_trans X395.size g398
     refine Ay Ct rfl rfl q399 rfl rfl rfl rfl (by simp only [SP0,SP1,S0,S1,Nat.reduceAdd];rfl) fun w20 U402 q403=>?_
     have F405:=AV E397 U402 g398
     have X404:=Ext.trans X395 F405
     refine sV (Ac rfl) ?_
     refine Ad<|h385 _ _<|wp_seq_k fun K406 h406=>wp_seq_k fun K407 h407=>Ai<|have q408:=(((q363.ext E370).ext F384).ext E391).ext F405;sV (Al AA rfl q408 rfl) ?_
     refine sV (Ab rfl) ?_
     refine sV (Ab rfl) ?_
     have q409:=(((((q239.ext E351).ext F365).ext E370).ext F384).ext E391).ext F405
     refine sV (Al AA rfl q409 rfl) ?_
     have n410:=((((n354.ext F365).ext E370).ext F384).ext E391).ext F405
     have n411:=(((((n238.ext E351).ext F365).ext E370).ext F384).ext E391).ext F405
     obtain ⟨r412,h413,f414⟩:=Aa f390
     refine sc (Ae Kw (by rfl)) (Du (⟨(⟨r348.1.Man.Neg,(limbs r348.1.Man.Abs)⟩:Av),r348.1.Exp⟩:Ak) r348.2 r110 (⟨(⟨m222.1,(limbs m222.2.1)⟩:Av),m222.2.2.1⟩:Ak) A352 c353 A236 c237 w20 (TB.ext X404 hT) n410 n411 r412 h413) ?_
     rintro _ w21 E415 rfl
     refine nrm ?_
     have X416:=Ext.trans X404 E415
     refine sb (Fy rfl) fun z417 hz417=>?_
     refine nrm ?_
     refine sV (Ab rfl) ?_
     obtain ⟨m433,h434,f435⟩:=Aa f414
     refine BW 14 (fun l l' w'=>∃(t437:Value) (t438:Value) (t439:Value) (t440:Value) (t441:Value) (t442:Value),UpdS [] w21 w'∧l'=(((((((l.set 72 t437).set 73 t438).set 74 t439).set 75 t440).set 76 t441).set 77 t442).set 78 (.bool m433))) ?_ ?_
     ·intro HJ443
      rcases Bool.eq_false_or_eq_true z417 with e444 | e444
      ·have p447:=zP hz417 e444
       have f448:=ifP p447 h434
       refine sP ?_ (hw:=wgF rfl e444)
       refine sP ?_ (hw:=wgF rfl e444)
       refine sP ?_ (hw:=wgF rfl e444)
       refine sP ?_ (hw:=wgF rfl e444)
       refine sP ?_ (hw:=wgF rfl e444)
       refine sP ?_ (hw:=wgF rfl e444)
       refine sV (AB (evb rfl e444) rfl) ?_
       obtain rfl:=Option.some.inj f448
       exact HJ443 _ _ ⟨undef,undef,undef,undef,undef,undef,(UpdS.refl _ _),(by simp only [S0,S1]<;>rfl)⟩
      ·have p445:=zN hz417 e444
       have f446:=ifN p445 h434
       have q449:=((q382.ext E391).ext F405).ext E415
       refine sV (Al AA rfl q449 rfl) ?_ (hw:=wgT rfl e444)
       refine sV (Ab rfl) ?_ (hw:=wgT rfl e444)
       refine sV (Ab rfl) ?_ (hw:=wgT rfl e444)
       have q450:=((((((q243.ext E351).ext F365).ext E370).ext F384).ext E391).ext F405).ext E415
       refine sV (Al AA rfl q450 rfl) ?_ (hw:=wgT rfl e444)
       have n451:=(((n373.ext F384).ext E391).ext F405).ext E415
       have n452:=((((((n242.ext E351).ext F365).ext E370).ext F384).ext E391).ext F405).ext E415
       obtain ⟨r453,h454,f455⟩:=Aa f446
       refine sc (Ae Kw (by rfl)) (Du (⟨(⟨r367.1.Man.Neg,(limbs r367.1.Man.Abs)⟩:Av),r367.1.Exp⟩:Ak) r367.2 r110 (⟨(⟨m222.2.2.2.1,(limbs m222.2.2.2.2.1)⟩:Av),m222.2.2.2.2.2.1⟩:Ak) A371 c372 A240 c241 w21 (TB.ext X416 hT) n451 n452 r453 h454) ?_ (hw:=wgT rfl e444)
       rintro _ w22 E456 rfl
       refine nrm ?_
       refine sb (Fy rfl) ?_ (hw:=wgT rfl e444)
       intro z458 hz458
       refine nrm ?_
       refine sV (AF (evb rfl e444) rfl) ?_
       obtain rfl:z458=decide (¬(r453=true)):=bz hz458
       obtain rfl:=Option.some.inj f455
       exact HJ443 _ _ ⟨(.agg #[.bool r367.1.Man.Neg,.slice A371 (sz r367.1.Man.Abs) c372,.int .i64 r367.1.Exp]),(.int .i64 r367.2),(.int .i64 r110),(.agg #[.bool m222.2.2.2.1,.slice A240 (sz m222.2.2.2.2.1) c241,.int .i64 m222.2.2.2.2.2.1]),(.bool r453),(.bool (decide (¬(r453=true)))),((UpdS.refl _ _).ext E456),(by simp only [S0,S1]<;>rfl)⟩
     ·rintro l' w22 ⟨t437,t438,t439,t440,t441,t442,U436,hq'⟩ l'' hl
      rw [hq'] at hl
      clear hq'
      simp only [S0,S1] at hl
      subst hl
      have X459:=Hk X416 U436 (X416).size al0
      refine sV (Ab rfl) ?_
      obtain ⟨m474,h475,f476⟩:=Aa f435
      refine BW 22 (fun l l' w'=>∃(t478:Value) (t479:Value) (t480:Value) (t481:Value) (t482:Value) (t483:Value),UpdS [] w22 w'∧l'=(((((((l.set 80 t478).set 81 t479).set 82 t480).set 83 t481).set 84 t482).set 85 t483).set 86 (.bool m474))) ?_ ?_
      ·intro HJ484
       rcases Bool.eq_false_or_eq_true m433 with e485 | e485
       ·have p488:=e485
        have f489:=ifP p488 h475
        refine sP ?_ (hw:=wgF rfl e485)
        refine sP ?_ (hw:=wgF rfl e485)
        refine sP ?_ (hw:=wgF rfl e485)
        refine sP ?_ (hw:=wgF rfl e485)
        refine sP ?_ (hw:=wgF rfl e485)
        refine sP ?_ (hw:=wgF rfl e485)
        refine sV (AB (evb rfl e485) rfl) ?_
        obtain rfl:=Option.some.inj f489
        exact HJ484 _ _ ⟨undef,undef,undef,undef,undef,undef,(UpdS.refl _ _),(by simp only [S0,S1]<;>rfl)⟩
       ·have p486:=bF e485
        have f487:=ifN p486 h475
        refine sV (Al AA rfl ((q403.ext E415).updS U436 nm0) rfl) ?_ (hw:=wgT rfl e485)
        refine sV (Ab rfl) ?_ (hw:=wgT rfl e485)
        refine sV (Ab rfl) ?_ (hw:=wgT rfl e485)
        have q490:=(((((((q247.ext E351).ext F365).ext E370).ext F384).ext E391).ext F405).ext E415).updS U436 nm0
        refine sV (Al AA rfl q490 rfl) ?_ (hw:=wgT rfl e485)
        have n491:=((n394.ext F405).ext E415).updS U436 al0
        have n492:=(((((((n246.ext E351).ext F365).ext E370).ext F384).ext E391).ext F405).ext E415).updS U436 al0
        obtain ⟨r493,h494,f495⟩:=Aa f487
        refine sc (Ae Kw (by rfl)) (Du (⟨(⟨r388.1.Man.Neg,(limbs r388.1.Man.Abs)⟩:Av),r388.1.Exp⟩:Ak) r388.2 r110 (⟨(⟨m222.2.2.2.2.2.2.1,(limbs m222.2.2.2.2.2.2.2.1)⟩:Av),m222.2.2.2.2.2.2.2.2⟩:Ak) A392 c393 A244 c245 w22 (TB.ext X459 hT) n491 n492 r493 h494) ?_ (hw:=wgT rfl e485)
        rintro _ w23 E496 rfl
        refine nrm ?_
        refine sb (Fy rfl) ?_ (hw:=wgT rfl e485)
        intro z498 hz498
        refine nrm ?_
        refine sV (AF (evb rfl e485) rfl) ?_
        obtain rfl:z498=decide (¬(r493=true)):=bz hz498
        obtain rfl:=Option.some.inj f495
        exact HJ484 _ _ ⟨(.agg #[.bool r388.1.Man.Neg,.slice A392 (sz r388.1.Man.Abs) c393,.int .i64 r388.1.Exp]),(.int .i64 r388.2),(.int .i64 r110),(.agg #[.bool m222.2.2.2.2.2.2.1,.slice A244 (sz m222.2.2.2.2.2.2.2.1) c245,.int .i64 m222.2.2.2.2.2.2.2.2]),(.bool r493),(.bool (decide (¬(r493=true)))),((UpdS.refl _ _).ext E496),(by simp only [S0,S1]<;>rfl)⟩
      ·rintro l' w23 ⟨t478,t479,t480,t481,t482,t483,U477,hq'⟩ l'' hl
       rw [hq'] at hl
       clear hq'
       simp only [S0,S1] at hl
       subst hl
       have X499:=Hk X459 U477 (X459).size al0
       refine Ad<|h407 _ _ ?_
       rcases Bool.eq_false_or_eq_true m474 with e506 | e506
       ·have p509:=e506
        have f510:=ifP p509 f476
        refine wp_cond_true (Am (evb rfl e506))<|wp_seq_k fun K1396 h1396=>Ai<|sV (Ac rfl) ?_
        refine Ad<|h1396 _ _<|wp_ret ?_
        obtain rfl:=Option.some.inj f510
        exact fin rfl (Res.tmp rfl Res.nil) (An X499 rfl)
       ·have p507:=bF e506
        have f508:=ifN p507 f476
        refine wp_cond_false (Am (evb rfl e506))<|wp_skip<|h406 _ _<|wp_seq_k fun K511 h511=>Ai<|have q512:=((((q386.ext E391).ext F405).ext E415).updS U436 nm0).updS U477 nm0;sV (Al AA rfl q512 rfl) ?_
        obtain ⟨r513,h514,f515⟩:=Aa f508
        refine sc (Ae Ky (by rfl)) (Ea x0 A1 c2 w23 (TB.ext X499 hT) (n3.ext X499) r513 h514) ?_
        rintro _ w24 E516 rfl
        refine nrm ?_
        have X517:=Ext.trans X499 E516
        obtain ⟨r518,h519,f520⟩:=Aa f515
        refine sc (Ae MH (by rfl)) (He r513 w24 (TB.ext X517 hT)  r518 h519) ?_
        rintro _ w25 E521 rfl
        refine nrm ?_
        have X522:=Ext.trans X517 E521
        refine sV (Ac rfl) ?_
        refine Ad<|h511 _ _<|wp_seq_k fun K523 h523=>Ai<|sV (Al AA rfl ((q512.ext E516).ext E521) rfl) ?_
        obtain ⟨r524,h525,f526⟩:=Aa f520
        refine sc (Ae en_51 (by rfl)) (c_dyad_Neg x0 A1 c2 w25 (TB.ext X522 hT) (n3.ext X522) r524 h525) ?_
        rintro _ w26 E527 ⟨A528,c529,rfl,n530⟩
        refine nrm ?_
        have X531:=Ext.trans X522 E527
        refine sV (Ab rfl) ?_
        refine sV (AI rfl rfl) ?_
        refine sV (AI rfl rfl) ?_
        have q532:=(((((q408.ext E415).updS U436 nm0).updS U477 nm0).ext E516).ext E521).ext E527
        refine Ay Ct rfl rfl q532 rfl rfl rfl rfl (by simp only [SP0,SP1,S0,S1,Nat.reduceAdd];rfl) fun w27 U533 q534=>?_
        have X535:=AV X531 U533 g360
        refine sV (Ac rfl) ?_
        refine Ad<|h523 _ _<|wp_seq_k fun K536 h536=>wp_seq_k fun K537 h537=>DG [] 7 mo rfl fun w28 E538 S539=>have X540:=Ext.trans X535 E538;dV 0 rfl (fun _ hw=>Al AA rfl ((q534.ext E538).ext hw) rfl) S539 ?_
        refine dA 1 rfl (fun _=>Ab rfl) ?_
        refine dA 2 rfl (fun _=>Ab rfl) ?_
        have ne541:=(Bx.ne (q343.ext E351) g358)
        refine dV 3 rfl (fun _ hw=>Al AA rfl ((((((q512.ext E516).ext E521).ext E527).upd U533 ne541).ext E538).ext hw) rfl) S539 ?_
        obtain ⟨r542,h543,f544⟩:=Aa f526
        refine dc 4 rfl (by kernel_rfl) (by rfl) (Ae Mw (by rfl)) (Gl x0 A1 c2 w28 (TB.ext X540 hT) (n3.ext X540) r542 h543) ?_
        rintro _ w29 E545 ⟨A546,c547,rfl,n548⟩
        refine dnrm ?_
        have X549:=Ext.trans X540 E545
        have S550:=S539.trans E545
        have n551:=((n530.upd U533 q532 (by decide)).ext E538).ext E545
        obtain ⟨r552,h553,f554⟩:=Aa f544
        refine dc 5 rfl (by kernel_rfl) (by rfl) (Ae Kw (by rfl)) (Du (⟨(⟨r524.1.Man.Neg,(limbs r524.1.Man.Abs)⟩:Av),r524.1.Exp⟩:Ak) r524.2 r518 r542 A528 c529 A546 c547 w29 (TB.ext X549 hT) n551 n548 r552 h553) ?_
        rintro _ w30 E555 rfl
        refine dnrm ?_
        have X556:=Ext.trans X549 E555
        have S557:=S550.trans E555
        refine dab 6 rfl (by kernel_rfl) (fun _ _ _ h=>h) (by rfl) (fun _=>Fy rfl) fun z558 hz558=>?_
        refine dnrm ?_
        refine CH (by kernel_rfl) ?_
        refine h537 _ _ ?_
        rcases Bool.eq_false_or_eq_true z558 with e565 | e565
        ·have p568:=zP hz558 e565
         have f569:=ifP p568 f554
         refine wp_cond_true (Am (evb rfl e565))<|wp_seq_k fun K1395 h1395=>Ai<|sV (Ac rfl) ?_
         refine Ad<|h1395 _ _<|wp_ret ?_
         obtain rfl:=Option.some.inj f569
         exact fin rfl (Res.tmp rfl Res.nil) (An X556 rfl)
        ·have p566:=zN hz558 e565
         have f567:=ifN p566 f554
         refine wp_cond_false (Am (evb rfl e565))<|wp_skip<|h536 _ _<|wp_seq_k fun K570 h570=>Ai<|have q571:=((((((q512.ext E516).ext E521).ext E527).upd U533 ne541).ext E538).ext E545).ext E555;sV (Al AA rfl q571 rfl) ?_
         refine sV (Ab rfl) ?_
         obtain ⟨r572,h573,f574⟩:=Aa f567
         refine sc (Ae en_52 (by rfl)) (c_dyad_Shift x0 x2 A1 c2 w30 (TB.ext X556 hT) (n3.ext X556) r572 h573) ?_
         rintro _ w31 E575 ⟨A576,c577,rfl,n578⟩
         refine nrm ?_
         have X579:=Ext.trans X556 E575
         refine sV (Ab rfl) ?_
         refine sV (AI rfl rfl) ?_
         refine sV (AI rfl rfl) ?_
         have ne580:=(Bx.ne (q363.ext E370) g377).symm
         have q581:=((((((((((((q382.ext E391).ext F405).ext E415).updS U436 nm0).updS U477 nm0).ext E516).ext E521).ext E527).upd U533 ne580).ext E538).ext E545).ext E555).ext E575
         refine Ay Ct rfl rfl q581 rfl rfl rfl rfl (by simp only [SP0,SP1,S0,S1,Nat.reduceAdd];rfl) fun w32 U582 q583=>?_
         have X584:=AV X579 U582 g379
         refine sV (Ac rfl) ?_
         refine Ad<|h570 _ _<|wp_seq_k fun K585 h585=>Ai<|sV (Ab rfl) ?_
         refine sb (Fm rfl rfl) fun z586 hz586=>?_
         refine nrm ?_
         refine sV (Ab rfl) ?_
         obtain ⟨m593,h594,f595⟩:=Aa f574
         refine BW 6 (fun l l' w'=>∃(t597:Value) (t598:Value),w32=w'∧l'=(((l.set 111 t597).set 112 t598).set 113 (.bool m593))) ?_ ?_
         ·intro HJ599
          rcases Bool.eq_false_or_eq_true z586 with e600 | e600
          ·have p603:=zP hz586 e600
           have f604:=ifP p603 h594
           refine sP ?_ (hw:=wgF rfl e600)
           refine sP ?_ (hw:=wgF rfl e600)
           refine sV (AB (evb rfl e600) rfl) ?_
           obtain rfl:=Option.some.inj f604
           exact HJ599 _ _ ⟨undef,undef,rfl,(by simp only [S0,S1]<;>rfl)⟩
          ·have p601:=zN hz586 e600
           have f602:=ifN p601 h594
           refine sV (Ab rfl) ?_ (hw:=wgT rfl e600)
           refine sb (Dl rfl rfl) ?_ (hw:=wgT rfl e600)
           intro z605 hz605
           refine nrm ?_
           refine sV (AF (evb rfl e600) rfl) ?_
           obtain rfl:z605=decide (x2<(-1073741824)):=bz hz605
           obtain rfl:=Option.some.inj f602
           exact HJ599 _ _ ⟨(.int .i64 x2),(.bool (decide (x2<(-1073741824)))),rfl,(by simp only [S0,S1]<;>rfl)⟩
         ·rintro l' _ ⟨t597,t598,rfl,hq'⟩ l'' hl
          rw [hq'] at hl
          clear hq'
          simp only [S0,S1] at hl
          subst hl
          refine sV (Ac rfl) ?_
          refine Ad<|h585 _ _<|wp_seq_k fun K606 h606=>wp_seq_k fun K607 h607=>Ai<|sV (Ab rfl) ?_
          refine sb (Cr rfl rfl) fun z608 hz608=>?_
          refine nrm ?_
          refine sV (Ab rfl) ?_
          obtain ⟨m614,h615,f616⟩:=Aa f595
          refine BW 5 (fun l l' w'=>∃(t618:Value),w32=w'∧l'=((l.set 117 t618).set 118 (.bool m614))) ?_ ?_
          ·intro HJ619
           rcases Bool.eq_false_or_eq_true z608 with e620 | e620
           ·have p623:=zP hz608 e620
            have f624:=ifP p623 h615
            refine sV (Ab rfl) ?_ (hw:=wgT rfl e620)
            refine sV (AB (evb rfl e620) rfl) ?_
            obtain rfl:=Option.some.inj f624
            exact HJ619 _ _ ⟨(.bool m593),rfl,(by simp only [S0,S1]<;>rfl)⟩
           ·have p621:=zN hz608 e620
            have f622:=ifN p621 h615
            refine sP ?_ (hw:=wgF rfl e620)
            refine sV (AF (evb rfl e620) rfl) ?_
            obtain rfl:=Option.some.inj f622
            exact HJ619 _ _ ⟨undef,rfl,(by simp only [S0,S1]<;>rfl)⟩
          ·rintro l' _ ⟨t618,rfl,hq'⟩ l'' hl
           rw [hq'] at hl
           clear hq'
           simp only [S0,S1] at hl
           subst hl
           refine Ad<|h607 _ _ ?_
           rcases Bool.eq_false_or_eq_true m614 with e899 | e899
           ·have p902:=e899
            have f903:=ifP p902 f616
            refine wp_cond_true (Am (evb rfl e899))<|wp_seq_k fun K1124 h1124=>Ai ?_
            obtain ⟨r1125,h1126,f1127⟩:=Aa f903
            refine sc (Ae Lx (by rfl)) (Fj w32 (TB.ext X584 hT)  r1125 h1126) ?_
            rintro _ w33 E1128 rfl
            refine nrm ?_
            have X1129:=Ext.trans X584 E1128
            refine sV (Ab rfl) ?_
            obtain ⟨m1235,h1236,f1237⟩:=Aa f1127
            refine BW 19 (fun l l' w'=>∃(t1239:Value) (t1240:Value) (t1241:Value) (t1242:Value) (t1243:Value) (t1244:Value) (t1245:Value) (t1246:Value) (t1247:Value) (t1248:Value) (t1249:Value) (t1250:Value) (t1251:Value) (t1252:Value) (t1253:Value) (t1254:Value),UpdS [] w33 w'∧l'=(((((((((((((((((l.set 121 t1239).set 122 t1240).set 123 t1241).set 124 t1242).set 125 t1243).set 126 t1244).set 127 t1245).set 128 t1246).set 129 t1247).set 130 t1248).set 131 t1249).set 132 t1250).set 133 t1251).set 134 t1252).set 135 t1253).set 136 t1254).set 137 (.bool m1235))) ?_ ?_
            ·intro HJ1255
             rcases Bool.eq_false_or_eq_true r1125 with e1256 | e1256
             ·have p1259:=e1256
              have f1260:=ifP p1259 h1236
              have ne1261:=(Bx.ne (((q343.ext E351).ext F365).ext E370) g377)
              have q1262:=((q571.ext E575).upd U582 ne1261).ext E1128
              refine sV (Al AA rfl q1262 rfl) ?_ (hw:=wgT rfl e1256)
              obtain ⟨r1263,h1264,f1265⟩:=Aa f1260
              refine sc (Ae LK (by rfl)) (Fh x0 A1 c2 w33 (TB.ext X1129 hT) (n3.ext X1129) r1263 h1264) ?_ (hw:=wgT rfl e1256)
              rintro _ w34 E1266 rfl
              refine nrm ?_
              have X1267:=Ext.trans X1129 E1266
              refine sb (Cr rfl rfl) ?_ (hw:=wgT rfl e1256)
              intro z1268 hz1268
              refine nrm ?_
              refine sV (Ab rfl) ?_ (hw:=wgT rfl e1256)
              obtain ⟨m1275,h1276,f1277⟩:=Aa f1265
              refine BW 9 (fun l l' w'=>∃(t1279:Value) (t1280:Value),w34=w'∧l'=(((l.set 125 t1279).set 126 t1280).set 127 (.bool m1275))) ?_ ?_
              ·intro HJ1281
               rcases Bool.eq_false_or_eq_true z1268 with e1282 | e1282
               ·have p1285:=zP hz1268 e1282
                have f1286:=ifP p1285 h1276
                refine sV (Ab rfl) ?_ (hw:=wgT rfl e1282)
                refine sb (Cr rfl rfl) ?_ (hw:=wgT rfl e1282)
                intro z1287 hz1287
                refine nrm ?_
                refine sV (AB (evb rfl e1282) rfl) ?_ (hw:=wgT rfl e1256)
                obtain rfl:z1287=decide (r572.2=0):=bz hz1287
                obtain rfl:=Option.some.inj f1286
                exact HJ1281 _ _ ⟨(.int .i64 r572.2),(.bool (decide (r572.2=0))),rfl,(by simp only [S0,S1]<;>rfl)⟩
               ·have p1283:=zN hz1268 e1282
                have f1284:=ifN p1283 h1276
                refine sP ?_ (hw:=wgF rfl e1282)
                refine sP ?_ (hw:=wgF rfl e1282)
                refine sV (AF (evb rfl e1282) rfl) ?_ (hw:=wgT rfl e1256)
                obtain rfl:=Option.some.inj f1284
                exact HJ1281 _ _ ⟨undef,undef,rfl,(by simp only [S0,S1]<;>rfl)⟩
              ·rintro l' _ ⟨t1279,t1280,rfl,hq'⟩ l'' hl
               rw [hq'] at hl
               clear hq'
               simp only [S0,S1] at hl
               subst hl
               refine sV (Ab rfl) ?_ (hw:=wgT rfl e1256)
               obtain ⟨m1318,h1319,f1320⟩:=Aa f1277
               refine BW 18 (fun l l' w'=>∃(t1322:Value) (t1323:Value) (t1324:Value) (t1325:Value) (t1326:Value) (t1327:Value) (t1328:Value),UpdS [] w34 w'∧l'=((((((((l.set 129 t1322).set 130 t1323).set 131 t1324).set 132 t1325).set 133 t1326).set 134 t1327).set 135 t1328).set 136 (.bool m1318))) ?_ ?_
               ·intro HJ1329
                rcases Bool.eq_false_or_eq_true m1275 with e1330 | e1330
                ·have p1333:=e1330
                 have f1334:=ifP p1333 h1319
                 refine sP ?_ (hw:=wgF rfl e1330)
                 refine sP ?_ (hw:=wgF rfl e1330)
                 refine sP ?_ (hw:=wgF rfl e1330)
                 refine sP ?_ (hw:=wgF rfl e1330)
                 refine sP ?_
                 refine sP ?_
                 refine sP ?_ (hw:=wgF rfl e1330)
                 refine sV (AB (evb rfl e1330) rfl) ?_ (hw:=wgT rfl e1256)
                 obtain rfl:=Option.some.inj f1334
                 exact HJ1329 _ _ ⟨undef,undef,undef,undef,undef,undef,undef,(UpdS.refl _ _),(by simp only [S0,S1]<;>rfl)⟩
                ·have p1331:=bF e1330
                 have f1332:=ifN p1331 h1319
                 refine sV (Al AA rfl (q1262.ext E1266) rfl) ?_ (hw:=wgT rfl e1330)
                 obtain ⟨r1335,h1336,f1337⟩:=Aa f1332
                 refine sc (Ae LK (by rfl)) (Fh x0 A1 c2 w34 (TB.ext X1267 hT) (n3.ext X1267) r1335 h1336) ?_ (hw:=wgT rfl e1330)
                 rintro _ w35 E1338 rfl
                 refine nrm ?_
                 refine sb (GF rfl rfl) ?_ (hw:=wgT rfl e1330)
                 intro z1340 hz1340
                 refine nrm ?_
                 refine sV (Ab rfl) ?_ (hw:=wgT rfl e1330)
                 obtain ⟨m1347,h1348,f1349⟩:=Aa f1337
                 refine BW 17 (fun l l' w'=>∃(t1351:Value) (t1352:Value),w35=w'∧l'=(((l.set 133 t1351).set 134 t1352).set 135 (.bool m1347))) ?_ ?_
                 ·intro HJ1353
                  rcases Bool.eq_false_or_eq_true z1340 with e1354 | e1354
                  ·have p1357:=zP hz1340 e1354
                   have f1358:=ifP p1357 h1348
                   refine sV (Ab rfl) ?_ (hw:=wgT rfl e1354)
                   refine sb (Cr rfl rfl) ?_ (hw:=wgT rfl e1354)
                   intro z1359 hz1359
                   refine nrm ?_
                   refine sV (AB (evb rfl e1354) rfl) ?_ (hw:=wgT rfl e1330)
                   obtain rfl:z1359=decide (r572.2=2):=bz hz1359
                   obtain rfl:=Option.some.inj f1358
                   exact HJ1353 _ _ ⟨(.int .i64 r572.2),(.bool (decide (r572.2=2))),rfl,(by simp only [S0,S1]<;>rfl)⟩
                  ·have p1355:=zN hz1340 e1354
                   have f1356:=ifN p1355 h1348
                   refine sP ?_ (hw:=wgF rfl e1354)
                   refine sP ?_ (hw:=wgF rfl e1354)
                   refine sV (AF (evb rfl e1354) rfl) ?_ (hw:=wgT rfl e1330)
                   obtain rfl:=Option.some.inj f1356
                   exact HJ1353 _ _ ⟨undef,undef,rfl,(by simp only [S0,S1]<;>rfl)⟩
                 ·rintro l' _ ⟨t1351,t1352,rfl,hq'⟩ l'' hl
                  rw [hq'] at hl
                  clear hq'
                  simp only [S0,S1] at hl
                  subst hl
                  refine sV (AF (evb rfl e1330) rfl) ?_ (hw:=wgT rfl e1256)
                  obtain rfl:=Option.some.inj f1349
                  exact HJ1329 _ _ ⟨(.agg #[.bool x0.Man.Neg,.slice A1 (List.length x0.Man.Abs) c2,.int .i64 x0.Exp]),(.int .i64 r1335),(.bool z1340),(.bool z1340),t1351,t1352,(.bool m1347),((UpdS.refl _ _).ext E1338),(by simp only [S0,S1]<;>rfl)⟩
               ·rintro l' w35 ⟨t1322,t1323,t1324,t1325,t1326,t1327,t1328,U1321,hq'⟩ l'' hl
                rw [hq'] at hl
                clear hq'
                simp only [S0,S1] at hl
                subst hl
                refine sV (AB (evb rfl e1256) rfl) ?_
                obtain rfl:=Option.some.inj f1320
                exact HJ1255 _ _ ⟨(.agg #[.bool x0.Man.Neg,.slice A1 (List.length x0.Man.Abs) c2,.int .i64 x0.Exp]),(.int .i64 r1263),(.bool z1268),(.bool z1268),t1279,t1280,(.bool m1275),(.bool m1275),t1322,t1323,t1324,t1325,t1326,t1327,t1328,(.bool m1318),(((UpdS.refl _ _).ext E1266).updS U1321 al0),(by simp only [S0,S1]<;>rfl)⟩
             ·have p1257:=bF e1256
              have f1258:=ifN p1257 h1236
              refine sP ?_ (hw:=wgF rfl e1256)
              refine sP ?_ (hw:=wgF rfl e1256)
              refine sP ?_ (hw:=wgF rfl e1256)
              refine sP ?_ (hw:=wgF rfl e1256)
              refine sP ?_
              refine sP ?_
              refine sP ?_ (hw:=wgF rfl e1256)
              refine sP ?_ (hw:=wgF rfl e1256)
              refine sP ?_
              refine sP ?_
              refine sP ?_
              refine sP ?_
              refine sP ?_
              refine sP ?_
              refine sP ?_
              refine sP ?_ (hw:=wgF rfl e1256)
              refine sV (AF (evb rfl e1256) rfl) ?_
              obtain rfl:=Option.some.inj f1258
              exact HJ1255 _ _ ⟨undef,undef,undef,undef,undef,undef,undef,undef,undef,undef,undef,undef,undef,undef,undef,undef,(UpdS.refl _ _),(by simp only [S0,S1]<;>rfl)⟩
            ·rintro l' w34 ⟨t1239,t1240,t1241,t1242,t1243,t1244,t1245,t1246,t1247,t1248,t1249,t1250,t1251,t1252,t1253,t1254,U1238,hq'⟩ l'' hl
             rw [hq'] at hl
             clear hq'
             simp only [S0,S1] at hl
             subst hl
             have X1361:=Hk X1129 U1238 (X1129).size al0
             refine sV (Ab rfl) ?_
             obtain ⟨m1374,h1375,f1376⟩:=Aa f1237
             refine BW 24 (fun l l' w'=>∃(t1378:Value) (t1379:Value) (t1380:Value),UpdS [] w34 w'∧l'=((((l.set 139 t1378).set 140 t1379).set 141 t1380).set 142 (.bool m1374))) ?_ ?_
             ·intro HJ1381
              rcases Bool.eq_false_or_eq_true m1235 with e1382 | e1382
              ·have p1385:=e1382
               have f1386:=ifP p1385 h1375
               have q1387:=(q583.ext E1128).updS U1238 nm0
               refine sV (Al AA rfl q1387 rfl) ?_ (hw:=wgT rfl e1382)
               refine sV (Bb (vals:=[]) (cells:=[.bool false,.slice none 0 0,.int .i64 0]) (by rfl) (by kernel_rfl)) ?_ (hw:=wgT rfl e1382)
               have n1388:=((n578.upd U582 q581 (by decide)).ext E1128).updS U1238 al0
               obtain ⟨r1389,h1390,f1391⟩:=Aa f1386
               refine sc (Ae Ji (by rfl)) (CG r572.1 (⟨(⟨false,0⟩:Ag),0⟩:Af) A576 c577 none 0 w34 (TB.ext X1361 hT) n1388 (RU.nil _) r1389 h1390) ?_ (hw:=wgT rfl e1382)
               rintro _ w35 E1392 rfl
               refine nrm ?_
               refine sV (AB (evb rfl e1382) rfl) ?_
               obtain rfl:=Option.some.inj f1391
               exact HJ1381 _ _ ⟨(.agg #[.bool r572.1.Man.Neg,.slice A576 (sz r572.1.Man.Abs) c577,.int .i64 r572.1.Exp]),(.agg #[.bool false,.slice none 0 0,.int .i64 0]),(.bool r1389),((UpdS.refl _ _).ext E1392),(by simp only [S0,S1]<;>rfl)⟩
              ·have p1383:=bF e1382
               have f1384:=ifN p1383 h1375
               refine sP ?_ (hw:=wgF rfl e1382)
               refine sP ?_ (hw:=wgF rfl e1382)
               refine sP ?_ (hw:=wgF rfl e1382)
               refine sV (AF (evb rfl e1382) rfl) ?_
               obtain rfl:=Option.some.inj f1384
               exact HJ1381 _ _ ⟨undef,undef,undef,(UpdS.refl _ _),(by simp only [S0,S1]<;>rfl)⟩
             ·rintro l' w35 ⟨t1378,t1379,t1380,U1377,hq'⟩ l'' hl
              rw [hq'] at hl
              clear hq'
              simp only [S0,S1] at hl
              subst hl
              have X1394:=Hk X1361 U1377 (X1361).size al0
              refine sV (Ac rfl) ?_
              refine Ad<|h1124 _ _<|wp_ret ?_
              obtain rfl:=Option.some.inj f1376
              exact fin rfl (Res.tmp rfl Res.nil) (An X1394 rfl)
           ·have p900:=bF e899
            have f901:=ifN p900 f616
            refine wp_cond_false (Am (evb rfl e899))<|wp_skip<|h606 _ _<|wp_seq_k fun K904 h904=>Ai<|have ne905:=(Bx.ne (((q343.ext E351).ext F365).ext E370) g377);sV (Al AA rfl ((q571.ext E575).upd U582 ne905) rfl) ?_
            refine Ax Dj fun b906 w33 E907 g908 q909=>?_
            refine nrm ?_
            have g910:=Nat.le_trans X584.size g908
            refine Ay Ct rfl rfl q909 rfl rfl rfl rfl (by simp only [SP0,SP1,S0,S1,Nat.reduceAdd];rfl) fun w34 U912 q913=>?_
            have F915:=AV E907 U912 g908
            have X914:=Ext.trans X584 F915
            refine Ad<|h904 _ _<|wp_seq_k fun K916 h916=>wp_seq_k fun K917 h917=>Ai<|have q918:=((q571.ext E575).upd U582 ne905).ext F915;sV (Al AA rfl q918 rfl) ?_
            obtain ⟨r919,h920,f921⟩:=Aa f901
            refine sc (Ae LK (by rfl)) (Fh x0 A1 c2 w34 (TB.ext X914 hT) (n3.ext X914) r919 h920) ?_
            rintro _ w35 E922 rfl
            refine nrm ?_
            have X923:=Ext.trans X914 E922
            refine sb (GF rfl rfl) fun z924 hz924=>?_
            refine nrm ?_
            refine Ad<|h917 _ _ ?_
            obtain ⟨m933,h934,f935⟩:=Aa f921
            refine DA (fun l l' w'=>∃(t937:Value) (t938:Value) (t939:Value) (t940:Value) (t941:Value),UpdS [b906] w35 w'∧Bx w' b906 27 [.bool x0.Man.Neg,.slice A1 (List.length x0.Man.Abs) c2,.int .i64 m933]∧l'=(((((l.set 147 t937).set 148 t938).set 149 t939).set 150 t940).set 151 t941)) ?_ ?_
            ·rcases Bool.eq_false_or_eq_true z924 with e944 | e944
             ·have p947:=zP hz924 e944
              have f948:=ifP p947 h934
              refine wp_cond_true (Am (evb rfl e944))<|Ai<|sV (Ah (o':=2) DX rfl rfl) ?_
              refine sV (Aj Ev rfl (Bx.cell (q918.ext E922) rfl)) ?_
              refine sV (Ab rfl) ?_
              refine sV (Bk (c:=wi64 (x0.Exp+x2)) rfl rfl rfl) ?_
              refine sV (Ah (o':=2) DX rfl rfl) ?_
              refine Ay sz_3 rfl rfl (q913.ext E922) rfl rfl rfl rfl (by simp only [SP0,SP1,S0,S1,Nat.reduceAdd];rfl) fun w36 U949 q950=>?_
              refine Ad ?_
              obtain rfl:=Option.some.inj f948
              exact ⟨_,rfl,(.pointer (some ⟨b8,2,none⟩)),(.int .i64 x0.Exp),(.int .i64 x2),(.int .i64 (wi64 (x0.Exp+x2))),(.pointer (some ⟨b906,2,none⟩)),((UpdS.refl _ _).upd U949 (.inl im0)),q950,(by simp only [S0,S1]<;>rfl)⟩
             ·have p945:=zN hz924 e944
              have f946:=ifN p945 h934
              refine wp_cond_false (Am (evb rfl e944))<|wp_skip ?_
              obtain rfl:=Option.some.inj f946
              exact ⟨_,rfl,undef,undef,undef,undef,undef,(UpdS.refl _ _),(q913.ext E922),(by simp only [S0,S1]<;>rfl)⟩
            ·rintro l' w36 ⟨t937,t938,t939,t940,t941,U936,q942,hq'⟩ l'' hl
             rw [hq'] at hl
             clear hq'
             simp only [S0,S1] at hl
             subst hl
             have X952:=Hk X923 U936 (X923).size (alc g910 al0)
             refine h916 _ _<|wp_seq_k fun K953 h953=>Ai ?_
             obtain ⟨r954,h955,f956⟩:=Aa f935
             refine sc (Ae Lx (by rfl)) (Fj w36 (TB.ext X952 hT)  r954 h955) ?_
             rintro _ w37 E957 rfl
             refine nrm ?_
             have X958:=Ext.trans X952 E957
             refine sV (Ab rfl) ?_
             obtain ⟨m985,h986,f987⟩:=Aa f956
             refine BW 10 (fun l l' w'=>∃(t989:Value) (t990:Value) (t991:Value) (t992:Value) (t993:Value) (t994:Value) (t995:Value),w37=w'∧l'=((((((((l.set 154 t989).set 155 t990).set 156 t991).set 157 t992).set 158 t993).set 159 t994).set 160 t995).set 161 (.bool m985))) ?_ ?_
             ·intro HJ996
              rcases Bool.eq_false_or_eq_true r954 with e997 | e997
              ·have p1000:=e997
               have f1001:=ifP p1000 h986
               refine sV (Ab rfl) ?_ (hw:=wgT rfl e997)
               refine sb (Cr rfl rfl) ?_ (hw:=wgT rfl e997)
               intro z1002 hz1002
               refine nrm ?_
               refine sV (Ab rfl) ?_ (hw:=wgT rfl e997)
               obtain ⟨m1009,h1010,f1011⟩:=Aa f1001
               refine BW 9 (fun l l' w'=>∃(t1013:Value) (t1014:Value) (t1015:Value),w37=w'∧l'=((((l.set 157 t1013).set 158 t1014).set 159 t1015).set 160 (.bool m1009))) ?_ ?_
               ·intro HJ1016
                rcases Bool.eq_false_or_eq_true z1002 with e1017 | e1017
                ·have p1020:=zP hz1002 e1017
                 have f1021:=ifP p1020 h1010
                 refine sP ?_ (hw:=wgF rfl e1017)
                 refine sP ?_ (hw:=wgF rfl e1017)
                 refine sP ?_ (hw:=wgF rfl e1017)
                 refine sV (AB (evb rfl e1017) rfl) ?_ (hw:=wgT rfl e997)
                 obtain rfl:=Option.some.inj f1021
                 exact HJ1016 _ _ ⟨undef,undef,undef,rfl,(by simp only [S0,S1]<;>rfl)⟩
                ·have p1018:=zN hz1002 e1017
                 have f1019:=ifN p1018 h1010
                 refine sV (Ab rfl) ?_ (hw:=wgT rfl e1017)
                 refine sV (Ab rfl) ?_ (hw:=wgT rfl e1017)
                 refine sb (Cr rfl rfl) ?_ (hw:=wgT rfl e1017)
                 intro z1022 hz1022
                 refine nrm ?_
                 refine sV (AF (evb rfl e1017) rfl) ?_ (hw:=wgT rfl e997)
                 obtain rfl:z1022=decide (r572.2=r518):=bz hz1022
                 obtain rfl:=Option.some.inj f1019
                 exact HJ1016 _ _ ⟨(.int .i64 r572.2),(.int .i64 r518),(.bool (decide (r572.2=r518))),rfl,(by simp only [S0,S1]<;>rfl)⟩
               ·rintro l' _ ⟨t1013,t1014,t1015,rfl,hq'⟩ l'' hl
                rw [hq'] at hl
                clear hq'
                simp only [S0,S1] at hl
                subst hl
                refine sV (AB (evb rfl e997) rfl) ?_
                obtain rfl:=Option.some.inj f1011
                exact HJ996 _ _ ⟨(.int .i64 r518),(.bool z1002),(.bool z1002),t1013,t1014,t1015,(.bool m1009),rfl,(by simp only [S0,S1]<;>rfl)⟩
              ·have p998:=bF e997
               have f999:=ifN p998 h986
               refine sP ?_ (hw:=wgF rfl e997)
               refine sP ?_ (hw:=wgF rfl e997)
               refine sP ?_ (hw:=wgF rfl e997)
               refine sP ?_
               refine sP ?_
               refine sP ?_
               refine sP ?_ (hw:=wgF rfl e997)
               refine sV (AF (evb rfl e997) rfl) ?_
               obtain rfl:=Option.some.inj f999
               exact HJ996 _ _ ⟨undef,undef,undef,undef,undef,undef,undef,rfl,(by simp only [S0,S1]<;>rfl)⟩
             ·rintro l' _ ⟨t989,t990,t991,t992,t993,t994,t995,rfl,hq'⟩ l'' hl
              rw [hq'] at hl
              clear hq'
              simp only [S0,S1] at hl
              subst hl
              refine sV (Ab rfl) ?_
              obtain ⟨m1066,h1067,f1068⟩:=Aa f987
              refine BW 21 (fun l l' w'=>∃(t1070:Value) (t1071:Value) (t1072:Value) (t1073:Value) (t1074:Value) (t1075:Value) (t1076:Value) (t1077:Value) (t1078:Value),UpdS [] w37 w'∧l'=((((((((((l.set 163 t1070).set 164 t1071).set 165 t1072).set 166 t1073).set 167 t1074).set 168 t1075).set 169 t1076).set 170 t1077).set 171 t1078).set 172 (.bool m1066))) ?_ ?_
              ·intro HJ1079
               rcases Bool.eq_false_or_eq_true m985 with e1080 | e1080
               ·have p1083:=e1080
                have f1084:=ifP p1083 h1067
                refine sV (Ab rfl) ?_ (hw:=wgT rfl e1080)
                refine sb (GF rfl rfl) ?_ (hw:=wgT rfl e1080)
                intro z1085 hz1085
                refine nrm ?_
                refine sV (Ab rfl) ?_ (hw:=wgT rfl e1080)
                obtain ⟨m1099,h1100,f1101⟩:=Aa f1084
                refine BW 20 (fun l l' w'=>∃(t1103:Value) (t1104:Value) (t1105:Value) (t1106:Value) (t1107:Value),UpdS [] w37 w'∧l'=((((((l.set 166 t1103).set 167 t1104).set 168 t1105).set 169 t1106).set 170 t1107).set 171 (.bool m1099))) ?_ ?_
                ·intro HJ1108
                 rcases Bool.eq_false_or_eq_true z1085 with e1109 | e1109
                 ·have p1112:=zP hz1085 e1109
                  have f1113:=ifP p1112 h1100
                  refine sP ?_ (hw:=wgF rfl e1109)
                  refine sP ?_ (hw:=wgF rfl e1109)
                  refine sP ?_ (hw:=wgF rfl e1109)
                  refine sP ?_ (hw:=wgF rfl e1109)
                  refine sP ?_ (hw:=wgF rfl e1109)
                  refine sV (AB (evb rfl e1109) rfl) ?_ (hw:=wgT rfl e1080)
                  obtain rfl:=Option.some.inj f1113
                  exact HJ1108 _ _ ⟨undef,undef,undef,undef,undef,(UpdS.refl _ _),(by simp only [S0,S1]<;>rfl)⟩
                 ·have p1110:=zN hz1085 e1109
                  have f1111:=ifN p1110 h1100
                  have ne1114:=(Bx.ne q583 g908)
                  have q1115:=(((q583.ext F915).ext E922).updS U936 (nmc ne1114 nm0)).ext E957
                  refine sV (Al AA rfl q1115 rfl) ?_ (hw:=wgT rfl e1109)
                  refine sV (Ab rfl) ?_ (hw:=wgT rfl e1109)
                  refine sV (Ab rfl) ?_ (hw:=wgT rfl e1109)
                  refine sV (Al AA rfl (q942.ext E957) rfl) ?_ (hw:=wgT rfl e1109)
                  have n1116:RU w37 A576 c577 r572.1.Man.Abs:=((((n578.upd U582 q581 (by decide)).ext F915).ext E922).updS U936 (alc ⟨_,_,by decide,q913.ext E922⟩ al0)).ext E957
                  obtain ⟨r1117,h1118,f1119⟩:=Aa f1111
                  refine sc (Ae Kw (by rfl)) (Du (⟨(⟨r572.1.Man.Neg,(limbs r572.1.Man.Abs)⟩:Av),r572.1.Exp⟩:Ak) r572.2 r518 (⟨x0.Man,m933⟩:Ak) A576 c577 A1 c2 w37 (TB.ext X958 hT) n1116 (n3.ext X958) r1117 h1118) ?_ (hw:=wgT rfl e1109)
                  rintro _ w38 E1120 rfl
                  refine nrm ?_
                  refine sV (AF (evb rfl e1109) rfl) ?_ (hw:=wgT rfl e1080)
                  obtain rfl:=Option.some.inj f1119
                  exact HJ1108 _ _ ⟨(.agg #[.bool r572.1.Man.Neg,.slice A576 (sz r572.1.Man.Abs) c577,.int .i64 r572.1.Exp]),(.int .i64 r572.2),(.int .i64 r518),(.agg #[.bool x0.Man.Neg,.slice A1 (List.length x0.Man.Abs) c2,.int .i64 m933]),(.bool r1117),((UpdS.refl _ _).ext E1120),(by simp only [S0,S1]<;>rfl)⟩
                ·rintro l' w38 ⟨t1103,t1104,t1105,t1106,t1107,U1102,hq'⟩ l'' hl
                 rw [hq'] at hl
                 clear hq'
                 simp only [S0,S1] at hl
                 subst hl
                 refine sV (AB (evb rfl e1080) rfl) ?_
                 obtain rfl:=Option.some.inj f1101
                 exact HJ1079 _ _ ⟨(.int .i64 r518),(.bool z1085),(.bool z1085),t1103,t1104,t1105,t1106,t1107,(.bool m1099),((UpdS.refl _ _).updS U1102 al0),(by simp only [S0,S1]<;>rfl)⟩
               ·have p1081:=bF e1080
                have f1082:=ifN p1081 h1067
                refine sP ?_ (hw:=wgF rfl e1080)
                refine sP ?_ (hw:=wgF rfl e1080)
                refine sP ?_ (hw:=wgF rfl e1080)
                refine sP ?_
                refine sP ?_
                refine sP ?_
                refine sP ?_
                refine sP ?_
                refine sP ?_ (hw:=wgF rfl e1080)
                refine sV (AF (evb rfl e1080) rfl) ?_
                obtain rfl:=Option.some.inj f1082
                exact HJ1079 _ _ ⟨undef,undef,undef,undef,undef,undef,undef,undef,undef,(UpdS.refl _ _),(by simp only [S0,S1]<;>rfl)⟩
              ·rintro l' w38 ⟨t1070,t1071,t1072,t1073,t1074,t1075,t1076,t1077,t1078,U1069,hq'⟩ l'' hl
               rw [hq'] at hl
               clear hq'
               simp only [S0,S1] at hl
               subst hl
               have X1123:=Hk X958 U1069 (X958).size al0
               refine sV (Ac rfl) ?_
               refine Ad<|h953 _ _<|wp_ret ?_
               obtain rfl:=Option.some.inj f1068
               exact fin rfl (Res.tmp rfl Res.nil) (An X1123 rfl)
end Go.Proofs
