import Derived.Test.YtabiobmfelafoaaGreatDoorGen5
namespace Go.Proofs
set_option linter.unusedVariables false
set_option linter.unusedSimpArgs false
set_option maxHeartbeats 4000000
open Go.RowKit Go.Sb Go.Proofs.Sbn
set_option maxRecDepth 20000 in
theorem c_sorobanlaw04_DyadNear (x0:Al) (x1:Al) (x2:Int) (A1:Option Addr) (c2:Nat) (A4:Option Addr) (c5:Nat) (w:World) (hT:TB w) (n3:RLu w A1 c2 x0.Man.Abs) (n6:RLu w A4 c5 x1.Man.Abs) (r:Bool) (hr:Eh x0 x1 x2=some r) :
  Calls Tryz.prog 5 #[.agg #[.bool x0.Man.Neg,.slice A1 (List.length x0.Man.Abs) c2,.int .i64 x0.Exp],.agg #[.bool x1.Man.Neg,.slice A4 (List.length x1.Man.Abs) c5,.int .i64 x1.Exp],.int .i64 x2] w (Ret Fe w r):=by
 unfold Eh at hr
 refine KU Tryz.func5 rfl [.agg #[.bool x0.Man.Neg,.slice A1 (List.length x0.Man.Abs) c2,.int .i64 x0.Exp],.agg #[.bool x1.Man.Neg,.slice A4 (List.length x1.Man.Abs) c5,.int .i64 x1.Exp],.int .i64 x2,undef,undef,undef,undef,undef,undef,undef,undef,undef,undef,undef,undef,undef,undef,undef,undef,undef,undef,undef,undef,undef,undef,undef,undef,undef,undef,undef,undef,undef,undef,undef,undef,undef,undef,undef,undef,undef,undef,undef,undef,undef,undef,undef,undef,undef,undef,undef,undef,undef,undef,undef,undef,undef,undef,undef,undef,undef,undef,undef,undef,undef,undef,undef,undef,undef,undef,undef,undef,undef,undef,undef,undef,undef,undef,undef,undef,undef,undef,undef,undef,undef,undef,undef,undef,undef,undef,undef,undef,undef,undef,undef,undef,undef,undef,undef,undef,undef,undef,undef,undef,undef,undef,undef,undef,undef,undef,undef,undef,undef,undef,undef,undef,undef,undef,undef,undef,undef,undef,undef,undef,undef,undef,undef,undef,undef,undef,undef,undef,undef,undef,undef,undef,undef,undef,undef,undef,undef,undef,undef,undef,undef,undef,undef,undef,undef,undef,undef,undef,undef,undef,undef,undef,undef,undef,undef,undef,undef,undef,undef,undef,undef,undef,undef,undef,undef,undef,undef,undef,undef,undef,undef,undef,undef,undef,undef,undef,undef,undef,undef,undef,undef,undef,undef,undef,undef,undef,undef,undef,undef,undef,undef,undef,undef,undef,undef,undef,undef,undef,undef,undef,undef,undef,undef,undef,undef,undef,undef,undef,undef,undef,undef,undef,undef,undef,undef,undef,undef,undef,undef,undef,undef,undef,undef,undef,undef,undef,undef,undef,undef,undef,undef,undef,undef,undef,undef,undef,undef,undef,undef,undef,undef,undef,undef,undef,undef,undef,undef,undef,undef,undef,undef,undef,undef,undef,undef,undef,undef,undef,undef,undef,undef,undef,undef,undef,undef,undef,undef,undef,undef,undef,undef,undef,undef,undef,undef,undef,undef,undef,undef,undef,undef,undef,undef] (by kernel_rfl) ?_
 refine wp_seq_k fun K7 h7=>Aj<|BP rfl rfl fun b8 w1 E9 g10 q11=>?_
 refine nrm ?_
 refine BP rfl rfl fun b12 w2 E13 g14 q15=>?_
 refine nrm ?_
 have g16:=Nat.le_trans E9.size g14
 have X17:=Ext.trans E9 E13
 refine sV (Ac rfl) ?_
 refine Ad<|h7 _ _<|wp_seq_k fun K18 h18=>wp_seq_k fun K19 h19=>Aj<|sV (Ai Ay rfl (q11.ext E13) rfl) ?_
 refine sV (Ai Ay rfl q15 rfl) ?_
 refine Ei (vals:=[(0,.agg #[.bool x0.Man.Neg,.slice A1 (List.length x0.Man.Abs) c2,.int .i64 x0.Exp]),(1,.agg #[.bool x1.Man.Neg,.slice A4 (List.length x1.Man.Abs) c5,.int .i64 x1.Exp])]) (cs:=[.bool x0.Man.Neg,.slice A1 (List.length x0.Man.Abs) c2,.int .i64 x0.Exp,.bool x1.Man.Neg,.slice A4 (List.length x1.Man.Abs) c5,.int .i64 x1.Exp]) Gt AC AV (by rfl) (by decide) (by kernel_rfl) fun b20 w3 E21 g22 q23=>?_
 refine nrm ?_
 have g24:=Nat.le_trans X17.size g22
 have X25:=Ext.trans X17 E21
 obtain ⟨r26,h27,f28⟩:=Ab hr
 refine sc (Af en_33 (by rfl)) (c_sorobanlaw04_valid__2 x0 x1 b20 A1 c2 A4 c5 w3 (TB.ext X25 hT) (n3.ext X25) (n6.ext X25) q23 r26 h27) ?_
 rintro _ w4 E29 rfl
 refine nrm ?_
 have X30:=Ext.trans X25 E29
 refine sb (BE rfl) fun z31 hz31=>?_
 refine nrm ?_
 refine sV (Aa rfl) ?_
 obtain ⟨m43,h44,f45⟩:=Ab f28
 refine AR 10 (fun l l' w'=>∃(t47:Value) (t48:Value) (t49:Value),UpdS [] w4 w'∧l'=((((l.set 32 t47).set 33 t48).set 34 t49).set 35 (.bool m43))) ?_ ?_
 ·intro HJ50
  rcases Bool.eq_false_or_eq_true z31 with e51 | e51
  ·have p54:=zP hz31 e51
   have f55:=ifP p54 h44
   refine sP ?_ (hw:=wgF rfl e51)
   refine sP ?_ (hw:=wgF rfl e51)
   refine sP ?_ (hw:=wgF rfl e51)
   refine sV (Av (evb rfl e51) rfl) ?_
   obtain rfl:=Option.some.inj f55
   exact HJ50 _ _ ⟨undef,undef,undef,(UpdS.refl _ _),(by simp only [S0,S1]<;>rfl)⟩
  ·have p52:=zN hz31 e51
   have f53:=ifN p52 h44
   refine sV (Aa rfl) ?_ (hw:=wgT rfl e51)
   obtain ⟨r56,h57,f58⟩:=Ab f53
   refine sc (Af en_16 (by rfl)) (c_sorobanlaw04_fine x2 w4 (TB.ext X30 hT)  r56 h57) ?_ (hw:=wgT rfl e51)
   rintro _ w5 E59 rfl
   refine nrm ?_
   refine sb (BE rfl) ?_ (hw:=wgT rfl e51)
   intro z61 hz61
   refine nrm ?_
   refine sV (Ax (evb rfl e51) rfl) ?_
   obtain rfl:z61=decide (¬(r56=true)):=bz hz61
   obtain rfl:=Option.some.inj f58
   exact HJ50 _ _ ⟨(.int .i64 x2),(.bool r56),(.bool (decide (¬(r56=true)))),((UpdS.refl _ _).ext E59),(by simp only [S0,S1]<;>rfl)⟩
 ·rintro l' w5 ⟨t47,t48,t49,U46,hq'⟩ l'' hl
  rw [hq'] at hl
  clear hq'
  simp only [S0,S1] at hl
  subst hl
  have X62:=Ez X30 U46 (X30).size al0
  refine Ad<|h19 _ _ ?_
  rcases Bool.eq_false_or_eq_true m43 with e74 | e74
  ·have p77:=e74
   have f78:=ifP p77 f45
   refine wp_cond_true (An (evb rfl e74))<|wp_seq_k fun K2068 h2068=>Aj ?_
   obtain ⟨r2069,h2070,f2071⟩:=Ab f78
   refine sc (Af KA (by rfl)) (CZ w5 (TB.ext X62 hT)  r2069 h2070) ?_
   rintro _ w6 E2072 rfl
   refine nrm ?_
   have X2073:=Ext.trans X62 E2072
   refine sV (Ac rfl) ?_
   refine Ad<|h2068 _ _<|wp_ret ?_
   obtain rfl:=Option.some.inj f2071
   exact fin rfl (Res.tmp rfl Res.nil) (Ap X2073 rfl)
  ·have p75:=bF e74
   have f76:=ifN p75 f45
   refine wp_cond_false (An (evb rfl e74))<|wp_skip<|h18 _ _<|wp_seq_k fun K79 h79=>Aj<|have q80:=(((q11.ext E13).ext E21).ext E29).updS U46 nm0;sV (Ai Ay rfl q80 rfl) ?_
   refine sV (Aa rfl) ?_
   obtain ⟨m81,h82,f83⟩:=Ab f76
   have hx84:=Cc h82
   have n85:RU w5 A1 c2 m81:=by unfold RU;rw [hx84];exact (n3.ext X62)
   obtain ⟨r86,h87,f88⟩:=Ab f83
   refine sc (Af DX (by simp only [sz,hx84];rfl)) (Ar (⟨(⟨x0.Man.Neg,m81⟩:Ah),x0.Exp⟩:Ae) x2 5 A1 c2 w5 (TB.ext X62 hT) n85 r86 h87) ?_
   rintro _ w6 E89 ⟨A90,c91,rfl,n92⟩
   refine nrm ?_
   have X93:=Ext.trans X62 E89
   refine sV (Aa rfl) ?_
   refine sV (Ag rfl rfl) ?_
   refine sV (Ag rfl rfl) ?_
   refine AB AV fun b94 w7 E95 g96 q97=>?_
   refine nrm ?_
   have g98:=Nat.le_trans X93.size g96
   refine AE AC rfl rfl q97 rfl rfl rfl rfl (by simp only [SP0,SP1,S0,S1,Nat.reduceAdd];rfl) fun w8 U100 q101=>?_
   have F103:=belU E95 U100 g96
   have X102:=Ext.trans X93 F103
   refine sV (Ac rfl) ?_
   refine Ad<|h79 _ _<|wp_seq_k fun K104 h104=>Aj<|sV (Ai Ay rfl ((q80.ext E89).ext F103) rfl) ?_
   refine sV (Aa rfl) ?_
   have n105:RU w8 A1 c2 m81:=by unfold RU;rw [hx84];exact (n3.ext X102)
   obtain ⟨r106,h107,f108⟩:=Ab f88
   refine sc (Af DX (by simp only [sz,hx84];rfl)) (Ar (⟨(⟨x0.Man.Neg,m81⟩:Ah),x0.Exp⟩:Ae) x2 4 A1 c2 w8 (TB.ext X102 hT) n105 r106 h107) ?_
   rintro _ w9 E109 ⟨A110,c111,rfl,n112⟩
   refine nrm ?_
   have X113:=Ext.trans X102 E109
   refine sV (Aa rfl) ?_
   refine sV (Ag rfl rfl) ?_
   refine sV (Ag rfl rfl) ?_
   refine AB AV fun b114 w10 E115 g116 q117=>?_
   refine nrm ?_
   have g118:=Nat.le_trans X113.size g116
   refine AE AC rfl rfl q117 rfl rfl rfl rfl (by simp only [SP0,SP1,S0,S1,Nat.reduceAdd];rfl) fun w11 U120 q121=>?_
   have F123:=belU E115 U120 g116
   have X122:=Ext.trans X113 F123
   refine sV (Ac rfl) ?_
   refine Ad<|h104 _ _<|wp_seq_k fun K124 h124=>Aj<|have q125:=(((q80.ext E89).ext F103).ext E109).ext F123;sV (Ai Ay rfl q125 rfl) ?_
   refine sV (Aa rfl) ?_
   have n126:RU w11 A1 c2 m81:=by unfold RU;rw [hx84];exact (n3.ext X122)
   obtain ⟨r127,h128,f129⟩:=Ab f108
   refine sc (Af DX (by simp only [sz,hx84];rfl)) (Ar (⟨(⟨x0.Man.Neg,m81⟩:Ah),x0.Exp⟩:Ae) x2 3 A1 c2 w11 (TB.ext X122 hT) n126 r127 h128) ?_
   rintro _ w12 E130 ⟨A131,c132,rfl,n133⟩
   refine nrm ?_
   have X134:=Ext.trans X122 E130
   refine sV (Aa rfl) ?_
   refine sV (Ag rfl rfl) ?_
   refine sV (Ag rfl rfl) ?_
   refine AB AV fun b135 w13 E136 g137 q138=>?_
   refine nrm ?_
   have g139:=Nat.le_trans X134.size g137
   refine AE AC rfl rfl q138 rfl rfl rfl rfl (by simp only [SP0,SP1,S0,S1,Nat.reduceAdd];rfl) fun w14 U141 q142=>?_
   have F144:=belU E136 U141 g137
   have X143:=Ext.trans X134 F144
   refine sV (Ac rfl) ?_
   refine Ad<|h124 _ _<|wp_seq_k fun K145 h145=>Aj<|sV (Ai Ay rfl ((q125.ext E130).ext F144) rfl) ?_
   refine sV (Aa rfl) ?_
   have n146:RU w14 A1 c2 m81:=by unfold RU;rw [hx84];exact (n3.ext X143)
   obtain ⟨r147,h148,f149⟩:=Ab f129
   refine sc (Af DX (by simp only [sz,hx84];rfl)) (Ar (⟨(⟨x0.Man.Neg,m81⟩:Ah),x0.Exp⟩:Ae) x2 1 A1 c2 w14 (TB.ext X143 hT) n146 r147 h148) ?_
   rintro _ w15 E150 ⟨A151,c152,rfl,n153⟩
   refine nrm ?_
   have X154:=Ext.trans X143 E150
   refine sV (Aa rfl) ?_
   refine sV (Ag rfl rfl) ?_
   refine sV (Ag rfl rfl) ?_
   refine AB AV fun b155 w16 E156 g157 q158=>?_
   refine nrm ?_
   have g159:=Nat.le_trans X154.size g157
   refine AE AC rfl rfl q158 rfl rfl rfl rfl (by simp only [SP0,SP1,S0,S1,Nat.reduceAdd];rfl) fun w17 U161 q162=>?_
   have F164:=belU E156 U161 g157
   have X163:=Ext.trans X154 F164
   refine sV (Ac rfl) ?_
   refine Ad<|h145 _ _<|wp_seq_k fun K165 h165=>Aj<|have q166:=(((q125.ext E130).ext F144).ext E150).ext F164;sV (Ai Ay rfl q166 rfl) ?_
   refine sV (Aa rfl) ?_
   have n167:RU w17 A1 c2 m81:=by unfold RU;rw [hx84];exact (n3.ext X163)
   obtain ⟨r168,h169,f170⟩:=Ab f149
   refine sc (Af DX (by simp only [sz,hx84];rfl)) (Ar (⟨(⟨x0.Man.Neg,m81⟩:Ah),x0.Exp⟩:Ae) x2 2 A1 c2 w17 (TB.ext X163 hT) n167 r168 h169) ?_
   rintro _ w18 E171 ⟨A172,c173,rfl,n174⟩
   refine nrm ?_
   have X175:=Ext.trans X163 E171
   refine sV (Aa rfl) ?_
   refine sV (Ag rfl rfl) ?_
   refine sV (Ag rfl rfl) ?_
   refine AB AV fun b176 w19 E177 g178 q179=>?_
   refine nrm ?_
   have g180:=Nat.le_trans X175.size g178
   refine AE AC rfl rfl q179 rfl rfl rfl rfl (by simp only [SP0,SP1,S0,S1,Nat.reduceAdd];rfl) fun w20 U182 q183=>?_
   have F185:=belU E177 U182 g178
   have X184:=Ext.trans X175 F185
   refine sV (Ac rfl) ?_
   refine Ad<|h165 _ _<|wp_seq_k fun K186 h186=>wp_seq_k fun K187 h187=>Aj<|sV (Aa rfl) ?_
   refine sb (BE rfl) fun z188 hz188=>?_
   refine nrm ?_
   refine sV (Aa rfl) ?_
   obtain ⟨m195,h196,f197⟩:=Ab f170
   refine AR 6 (fun l l' w'=>∃(t199:Value) (t200:Value),w20=w'∧l'=(((l.set 70 t199).set 71 t200).set 72 (.bool m195))) ?_ ?_
   ·intro HJ201
    rcases Bool.eq_false_or_eq_true z188 with e202 | e202
    ·have p205:=zP hz188 e202
     have f206:=ifP p205 h196
     refine sP ?_ (hw:=wgF rfl e202)
     refine sP ?_ (hw:=wgF rfl e202)
     refine sV (Av (evb rfl e202) rfl) ?_
     obtain rfl:=Option.some.inj f206
     exact HJ201 _ _ ⟨undef,undef,rfl,(by simp only [S0,S1]<;>rfl)⟩
    ·have p203:=zN hz188 e202
     have f204:=ifN p203 h196
     refine sV (Aa rfl) ?_ (hw:=wgT rfl e202)
     refine sb (BE rfl) ?_ (hw:=wgT rfl e202)
     intro z207 hz207
     refine nrm ?_
     refine sV (Ax (evb rfl e202) rfl) ?_
     obtain rfl:z207=decide (¬(r106.2=true)):=bz hz207
     obtain rfl:=Option.some.inj f204
     exact HJ201 _ _ ⟨(.bool r106.2),(.bool (decide (¬(r106.2=true)))),rfl,(by simp only [S0,S1]<;>rfl)⟩
   ·rintro l' _ ⟨t199,t200,rfl,hq'⟩ l'' hl
    rw [hq'] at hl
    clear hq'
    simp only [S0,S1] at hl
    subst hl
    refine sV (Aa rfl) ?_
    obtain ⟨m214,h215,f216⟩:=Ab f197
    refine AR 10 (fun l l' w'=>∃(t218:Value) (t219:Value),w20=w'∧l'=(((l.set 74 t218).set 75 t219).set 76 (.bool m214))) ?_ ?_
    ·intro HJ220
     rcases Bool.eq_false_or_eq_true m195 with e221 | e221
     ·have p224:=e221
      have f225:=ifP p224 h215
      refine sP ?_ (hw:=wgF rfl e221)
      refine sP ?_ (hw:=wgF rfl e221)
      refine sV (Av (evb rfl e221) rfl) ?_
      obtain rfl:=Option.some.inj f225
      exact HJ220 _ _ ⟨undef,undef,rfl,(by simp only [S0,S1]<;>rfl)⟩
     ·have p222:=bF e221
      have f223:=ifN p222 h215
      refine sV (Aa rfl) ?_ (hw:=wgT rfl e221)
      refine sb (BE rfl) ?_ (hw:=wgT rfl e221)
      intro z226 hz226
      refine nrm ?_
      refine sV (Ax (evb rfl e221) rfl) ?_
      obtain rfl:z226=decide (¬(r127.2=true)):=bz hz226
      obtain rfl:=Option.some.inj f223
      exact HJ220 _ _ ⟨(.bool r127.2),(.bool (decide (¬(r127.2=true)))),rfl,(by simp only [S0,S1]<;>rfl)⟩
    ·rintro l' _ ⟨t218,t219,rfl,hq'⟩ l'' hl
     rw [hq'] at hl
     clear hq'
     simp only [S0,S1] at hl
     subst hl
     refine sV (Aa rfl) ?_
     obtain ⟨m233,h234,f235⟩:=Ab f216
     refine AR 14 (fun l l' w'=>∃(t237:Value) (t238:Value),w20=w'∧l'=(((l.set 78 t237).set 79 t238).set 80 (.bool m233))) ?_ ?_
     ·intro HJ239
      rcases Bool.eq_false_or_eq_true m214 with e240 | e240
      ·have p243:=e240
       have f244:=ifP p243 h234
       refine sP ?_ (hw:=wgF rfl e240)
       refine sP ?_ (hw:=wgF rfl e240)
       refine sV (Av (evb rfl e240) rfl) ?_
       obtain rfl:=Option.some.inj f244
       exact HJ239 _ _ ⟨undef,undef,rfl,(by simp only [S0,S1]<;>rfl)⟩
      ·have p241:=bF e240
       have f242:=ifN p241 h234
       refine sV (Aa rfl) ?_ (hw:=wgT rfl e240)
       refine sb (BE rfl) ?_ (hw:=wgT rfl e240)
       intro z245 hz245
       refine nrm ?_
       refine sV (Ax (evb rfl e240) rfl) ?_
       obtain rfl:z245=decide (¬(r147.2=true)):=bz hz245
       obtain rfl:=Option.some.inj f242
       exact HJ239 _ _ ⟨(.bool r147.2),(.bool (decide (¬(r147.2=true)))),rfl,(by simp only [S0,S1]<;>rfl)⟩
     ·rintro l' _ ⟨t237,t238,rfl,hq'⟩ l'' hl
      rw [hq'] at hl
      clear hq'
      simp only [S0,S1] at hl
      subst hl
      refine sV (Aa rfl) ?_
      obtain ⟨m252,h253,f254⟩:=Ab f235
      refine AR 18 (fun l l' w'=>∃(t256:Value) (t257:Value),w20=w'∧l'=(((l.set 82 t256).set 83 t257).set 84 (.bool m252))) ?_ ?_
      ·intro HJ258
       rcases Bool.eq_false_or_eq_true m233 with e259 | e259
       ·have p262:=e259
        have f263:=ifP p262 h253
        refine sP ?_ (hw:=wgF rfl e259)
        refine sP ?_ (hw:=wgF rfl e259)
        refine sV (Av (evb rfl e259) rfl) ?_
        obtain rfl:=Option.some.inj f263
        exact HJ258 _ _ ⟨undef,undef,rfl,(by simp only [S0,S1]<;>rfl)⟩
       ·have p260:=bF e259
        have f261:=ifN p260 h253
        refine sV (Aa rfl) ?_ (hw:=wgT rfl e259)
        refine sb (BE rfl) ?_ (hw:=wgT rfl e259)
        intro z264 hz264
        refine nrm ?_
        refine sV (Ax (evb rfl e259) rfl) ?_
        obtain rfl:z264=decide (¬(r168.2=true)):=bz hz264
        obtain rfl:=Option.some.inj f261
        exact HJ258 _ _ ⟨(.bool r168.2),(.bool (decide (¬(r168.2=true)))),rfl,(by simp only [S0,S1]<;>rfl)⟩
      ·rintro l' _ ⟨t256,t257,rfl,hq'⟩ l'' hl
       rw [hq'] at hl
       clear hq'
       simp only [S0,S1] at hl
       subst hl
       refine sV (Aa rfl) ?_
       obtain ⟨m279,h280,f281⟩:=Ab f254
       refine AR 24 (fun l l' w'=>∃(t283:Value) (t284:Value) (t285:Value) (t286:Value),UpdS [] w20 w'∧l'=(((((l.set 86 t283).set 87 t284).set 88 t285).set 89 t286).set 90 (.bool m279))) ?_ ?_
       ·intro HJ287
        rcases Bool.eq_false_or_eq_true m252 with e288 | e288
        ·have p291:=e288
         have f292:=ifP p291 h280
         refine sP ?_ (hw:=wgF rfl e288)
         refine sP ?_ (hw:=wgF rfl e288)
         refine sP ?_ (hw:=wgF rfl e288)
         refine sP ?_ (hw:=wgF rfl e288)
         refine sV (Av (evb rfl e288) rfl) ?_
         obtain rfl:=Option.some.inj f292
         exact HJ287 _ _ ⟨undef,undef,undef,undef,(UpdS.refl _ _),(by simp only [S0,S1]<;>rfl)⟩
        ·have p289:=bF e288
         have f290:=ifN p289 h280
         have q293:=(((((((q101.ext E109).ext F123).ext E130).ext F144).ext E150).ext F164).ext E171).ext F185
         refine sV (Ai Ay rfl q293 rfl) ?_ (hw:=wgT rfl e288)
         refine sV (Ai Ay rfl ((q166.ext E171).ext F185) rfl) ?_ (hw:=wgT rfl e288)
         have n294:=((((((((n92.ext F103).ext E109).ext F123).ext E130).ext F144).ext E150).ext F164).ext E171).ext F185
         have n295:RU w20 A1 c2 m81:=by unfold RU;rw [hx84];exact (n3.ext X184)
         obtain ⟨r296,h297,f298⟩:=Ab f290
         refine sc (Af JE (by simp only [sz,hx84];rfl)) (Cp r86.1 (⟨(⟨x0.Man.Neg,m81⟩:Ah),x0.Exp⟩:Ae) A90 c91 A1 c2 w20 (TB.ext X184 hT) n294 n295 r296 h297) ?_ (hw:=wgT rfl e288)
         rintro _ w21 E299 rfl
         refine nrm ?_
         refine sb (BE rfl) ?_ (hw:=wgT rfl e288)
         intro z301 hz301
         refine nrm ?_
         refine sV (Ax (evb rfl e288) rfl) ?_
         obtain rfl:z301=decide (¬(r296=true)):=bz hz301
         obtain rfl:=Option.some.inj f298
         exact HJ287 _ _ ⟨(.agg #[.bool r86.1.Man.Neg,.slice A90 (sz r86.1.Man.Abs) c91,.int .i64 r86.1.Exp]),(.agg #[.bool x0.Man.Neg,.slice A1 (List.length x0.Man.Abs) c2,.int .i64 x0.Exp]),(.bool r296),(.bool (decide (¬(r296=true)))),((UpdS.refl _ _).ext E299),(by simp only [S0,S1]<;>rfl)⟩
       ·rintro l' w21 ⟨t283,t284,t285,t286,U282,hq'⟩ l'' hl
        rw [hq'] at hl
        clear hq'
        simp only [S0,S1] at hl
        subst hl
        have X302:=Ez X184 U282 (X184).size al0
        refine sV (Aa rfl) ?_
        obtain ⟨m318,h319,f320⟩:=Ab f281
        refine AR 30 (fun l l' w'=>∃(t322:Value) (t323:Value) (t324:Value) (t325:Value),UpdS [] w21 w'∧l'=(((((l.set 92 t322).set 93 t323).set 94 t324).set 95 t325).set 96 (.bool m318))) ?_ ?_
        ·intro HJ326
         rcases Bool.eq_false_or_eq_true m279 with e327 | e327
         ·have p330:=e327
          have f331:=ifP p330 h319
          refine sP ?_ (hw:=wgF rfl e327)
          refine sP ?_ (hw:=wgF rfl e327)
          refine sP ?_ (hw:=wgF rfl e327)
          refine sP ?_ (hw:=wgF rfl e327)
          refine sV (Av (evb rfl e327) rfl) ?_
          obtain rfl:=Option.some.inj f331
          exact HJ326 _ _ ⟨undef,undef,undef,undef,(UpdS.refl _ _),(by simp only [S0,S1]<;>rfl)⟩
         ·have p328:=bF e327
          have f329:=ifN p328 h319
          have q332:=((q166.ext E171).ext F185).updS U282 nm0
          refine sV (Ai Ay rfl q332 rfl) ?_ (hw:=wgT rfl e327)
          have q333:=((((((q121.ext E130).ext F144).ext E150).ext F164).ext E171).ext F185).updS U282 nm0
          refine sV (Ai Ay rfl q333 rfl) ?_ (hw:=wgT rfl e327)
          have n334:RU w21 A1 c2 m81:=by unfold RU;rw [hx84];exact (n3.ext X302)
          have n335:=(((((((n112.ext F123).ext E130).ext F144).ext E150).ext F164).ext E171).ext F185).updS U282 al0
          obtain ⟨r336,h337,f338⟩:=Ab f329
          refine sc (Af JE (by simp only [sz,hx84];rfl)) (Cp (⟨(⟨x0.Man.Neg,m81⟩:Ah),x0.Exp⟩:Ae) r106.1 A1 c2 A110 c111 w21 (TB.ext X302 hT) n334 n335 r336 h337) ?_ (hw:=wgT rfl e327)
          rintro _ w22 E339 rfl
          refine nrm ?_
          refine sb (BE rfl) ?_ (hw:=wgT rfl e327)
          intro z341 hz341
          refine nrm ?_
          refine sV (Ax (evb rfl e327) rfl) ?_
          obtain rfl:z341=decide (¬(r336=true)):=bz hz341
          obtain rfl:=Option.some.inj f338
          exact HJ326 _ _ ⟨(.agg #[.bool x0.Man.Neg,.slice A1 (List.length x0.Man.Abs) c2,.int .i64 x0.Exp]),(.agg #[.bool r106.1.Man.Neg,.slice A110 (sz r106.1.Man.Abs) c111,.int .i64 r106.1.Exp]),(.bool r336),(.bool (decide (¬(r336=true)))),((UpdS.refl _ _).ext E339),(by simp only [S0,S1]<;>rfl)⟩
        ·rintro l' w22 ⟨t322,t323,t324,t325,U321,hq'⟩ l'' hl
         rw [hq'] at hl
         clear hq'
         simp only [S0,S1] at hl
         subst hl
         have X342:=Ez X302 U321 (X302).size al0
         refine Ad<|h187 _ _ ?_
         rcases Bool.eq_false_or_eq_true m318 with e349 | e349
         ·have p352:=e349
          have f353:=ifP p352 f320
          refine wp_cond_true (An (evb rfl e349))<|wp_seq_k fun K2067 h2067=>Aj<|sV (Ac rfl) ?_
          refine Ad<|h2067 _ _<|wp_ret ?_
          obtain rfl:=Option.some.inj f353
          exact fin rfl (Res.tmp rfl Res.nil) (Ap X342 rfl)
         ·have p350:=bF e349
          have f351:=ifN p350 f320
          refine wp_cond_false (An (evb rfl e349))<|wp_skip<|h186 _ _<|wp_seq_k fun K354 h354=>Aj<|have q355:=(((q166.ext E171).ext F185).updS U282 nm0).updS U321 nm0;sV (Ai Ay rfl q355 rfl) ?_
          obtain ⟨r356,h357,f358⟩:=Ab f351
          refine sc (Af en_36 (by rfl)) (c_dyad_Top x0 A1 c2 w22 (TB.ext X342 hT) (n3.ext X342) r356 h357) ?_
          rintro _ w23 E359 rfl
          refine nrm ?_
          have X360:=Ext.trans X342 E359
          refine sV (Aa rfl) ?_
          refine sV (Ag rfl rfl) ?_
          refine sV (Ag rfl rfl) ?_
          refine sV (Ac rfl) ?_
          refine sV (Ac rfl) ?_
          refine Ad<|h354 _ _<|wp_seq_k fun K361 h361=>wp_seq_k fun K362 h362=>Aj<|sV (Aa rfl) ?_
          refine sb (EO rfl rfl) fun z363 hz363=>?_
          refine nrm ?_
          refine Ad<|h362 _ _ ?_
          rcases Bool.eq_false_or_eq_true z363 with e484 | e484
          ·have p487:=zP hz363 e484
           have f488:=ifP p487 f358
           refine wp_cond_true (An (evb rfl e484))<|wp_seq_k fun K1952 h1952=>Aj ?_
           obtain ⟨r1953,h1954,f1955⟩:=Ab f488
           refine sc (Af KA (by rfl)) (CZ w23 (TB.ext X360 hT)  r1953 h1954) ?_
           rintro _ w24 E1956 rfl
           refine nrm ?_
           have X1957:=Ext.trans X360 E1956
           refine sV (Aa rfl) ?_
           obtain ⟨m1971,h1972,f1973⟩:=Ab f1955
           refine AR 6 (fun l l' w'=>∃(t1975:Value) (t1976:Value) (t1977:Value),UpdS [] w24 w'∧l'=((((l.set 106 t1975).set 107 t1976).set 108 t1977).set 109 (.bool m1971))) ?_ ?_
           ·intro HJ1978
            rcases Bool.eq_false_or_eq_true r1953 with e1979 | e1979
            ·have p1982:=e1979
             have f1983:=ifP p1982 h1972
             have q1984:=(((((((((((q101.ext E109).ext F123).ext E130).ext F144).ext E150).ext F164).ext E171).ext F185).updS U282 nm0).updS U321 nm0).ext E359).ext E1956
             refine sV (Ai Ay rfl q1984 rfl) ?_ (hw:=wgT rfl e1979)
             refine sV (Ai Ay rfl ((q355.ext E359).ext E1956) rfl) ?_ (hw:=wgT rfl e1979)
             have n1985:=((((((((((((n92.ext F103).ext E109).ext F123).ext E130).ext F144).ext E150).ext F164).ext E171).ext F185).updS U282 al0).updS U321 al0).ext E359).ext E1956
             have n1986:RU w24 A1 c2 m81:=by unfold RU;rw [hx84];exact (n3.ext X1957)
             obtain ⟨r1987,h1988,f1989⟩:=Ab f1983
             refine sc (Af EM (by simp only [sz,hx84];rfl)) (AA r86.1 (⟨(⟨x0.Man.Neg,m81⟩:Ah),x0.Exp⟩:Ae) A90 c91 A1 c2 w24 (TB.ext X1957 hT) n1985 n1986 r1987 h1988) ?_ (hw:=wgT rfl e1979)
             rintro _ w25 E1990 rfl
             refine nrm ?_
             refine sV (Av (evb rfl e1979) rfl) ?_
             obtain rfl:=Option.some.inj f1989
             exact HJ1978 _ _ ⟨(.agg #[.bool r86.1.Man.Neg,.slice A90 (sz r86.1.Man.Abs) c91,.int .i64 r86.1.Exp]),(.agg #[.bool x0.Man.Neg,.slice A1 (List.length x0.Man.Abs) c2,.int .i64 x0.Exp]),(.bool r1987),((UpdS.refl _ _).ext E1990),(by simp only [S0,S1]<;>rfl)⟩
            ·have p1980:=bF e1979
             have f1981:=ifN p1980 h1972
             refine sP ?_ (hw:=wgF rfl e1979)
             refine sP ?_ (hw:=wgF rfl e1979)
             refine sP ?_ (hw:=wgF rfl e1979)
             refine sV (Ax (evb rfl e1979) rfl) ?_
             obtain rfl:=Option.some.inj f1981
             exact HJ1978 _ _ ⟨undef,undef,undef,(UpdS.refl _ _),(by simp only [S0,S1]<;>rfl)⟩
           ·rintro l' w25 ⟨t1975,t1976,t1977,U1974,hq'⟩ l'' hl
            rw [hq'] at hl
            clear hq'
            simp only [S0,S1] at hl
            subst hl
            have X1992:=Ez X1957 U1974 (X1957).size al0
            refine sV (Aa rfl) ?_
            obtain ⟨m2007,h2008,f2009⟩:=Ab f1973
            refine AR 11 (fun l l' w'=>∃(t2011:Value) (t2012:Value) (t2013:Value),UpdS [] w25 w'∧l'=((((l.set 111 t2011).set 112 t2012).set 113 t2013).set 114 (.bool m2007))) ?_ ?_
            ·intro HJ2014
             rcases Bool.eq_false_or_eq_true m1971 with e2015 | e2015
             ·have p2018:=e2015
              have f2019:=ifP p2018 h2008
              have q2020:=((((((((((q121.ext E130).ext F144).ext E150).ext F164).ext E171).ext F185).updS U282 nm0).updS U321 nm0).ext E359).ext E1956).updS U1974 nm0
              refine sV (Ai Ay rfl q2020 rfl) ?_ (hw:=wgT rfl e2015)
              have q2021:=((q355.ext E359).ext E1956).updS U1974 nm0
              refine sV (Ai Ay rfl q2021 rfl) ?_ (hw:=wgT rfl e2015)
              have n2022:=(((((((((((n112.ext F123).ext E130).ext F144).ext E150).ext F164).ext E171).ext F185).updS U282 al0).updS U321 al0).ext E359).ext E1956).updS U1974 al0
              have n2023:RU w25 A1 c2 m81:=by unfold RU;rw [hx84];exact (n3.ext X1992)
              obtain ⟨r2024,h2025,f2026⟩:=Ab f2019
              refine sc (Af EM (by simp only [sz,hx84];rfl)) (AA r106.1 (⟨(⟨x0.Man.Neg,m81⟩:Ah),x0.Exp⟩:Ae) A110 c111 A1 c2 w25 (TB.ext X1992 hT) n2022 n2023 r2024 h2025) ?_ (hw:=wgT rfl e2015)
              rintro _ w26 E2027 rfl
              refine nrm ?_
              refine sV (Av (evb rfl e2015) rfl) ?_
              obtain rfl:=Option.some.inj f2026
              exact HJ2014 _ _ ⟨(.agg #[.bool r106.1.Man.Neg,.slice A110 (sz r106.1.Man.Abs) c111,.int .i64 r106.1.Exp]),(.agg #[.bool x0.Man.Neg,.slice A1 (List.length x0.Man.Abs) c2,.int .i64 x0.Exp]),(.bool r2024),((UpdS.refl _ _).ext E2027),(by simp only [S0,S1]<;>rfl)⟩
             ·have p2016:=bF e2015
              have f2017:=ifN p2016 h2008
              refine sP ?_ (hw:=wgF rfl e2015)
              refine sP ?_ (hw:=wgF rfl e2015)
              refine sP ?_ (hw:=wgF rfl e2015)
              refine sV (Ax (evb rfl e2015) rfl) ?_
              obtain rfl:=Option.some.inj f2017
              exact HJ2014 _ _ ⟨undef,undef,undef,(UpdS.refl _ _),(by simp only [S0,S1]<;>rfl)⟩
            ·rintro l' w26 ⟨t2011,t2012,t2013,U2010,hq'⟩ l'' hl
             rw [hq'] at hl
             clear hq'
             simp only [S0,S1] at hl
             subst hl
             have X2029:=Ez X1992 U2010 (X1992).size al0
             refine sV (Aa rfl) ?_
             obtain ⟨m2044,h2045,f2046⟩:=Ab f2009
             refine AR 16 (fun l l' w'=>∃(t2048:Value) (t2049:Value) (t2050:Value),UpdS [] w26 w'∧l'=((((l.set 116 t2048).set 117 t2049).set 118 t2050).set 119 (.bool m2044))) ?_ ?_
             ·intro HJ2051
              rcases Bool.eq_false_or_eq_true m2007 with e2052 | e2052
              ·have p2055:=e2052
               have f2056:=ifP p2055 h2045
               have q2057:=(((((((q162.ext E171).ext F185).updS U282 nm0).updS U321 nm0).ext E359).ext E1956).updS U1974 nm0).updS U2010 nm0
               refine sV (Ai Ay rfl q2057 rfl) ?_ (hw:=wgT rfl e2052)
               have q2058:=(((q355.ext E359).ext E1956).updS U1974 nm0).updS U2010 nm0
               refine sV (Ai Ay rfl q2058 rfl) ?_ (hw:=wgT rfl e2052)
               have n2059:=((((((((n153.ext F164).ext E171).ext F185).updS U282 al0).updS U321 al0).ext E359).ext E1956).updS U1974 al0).updS U2010 al0
               have n2060:RU w26 A1 c2 m81:=by unfold RU;rw [hx84];exact (n3.ext X2029)
               obtain ⟨r2061,h2062,f2063⟩:=Ab f2056
               refine sc (Af EM (by simp only [sz,hx84];rfl)) (AA r147.1 (⟨(⟨x0.Man.Neg,m81⟩:Ah),x0.Exp⟩:Ae) A151 c152 A1 c2 w26 (TB.ext X2029 hT) n2059 n2060 r2061 h2062) ?_ (hw:=wgT rfl e2052)
               rintro _ w27 E2064 rfl
               refine nrm ?_
               refine sV (Av (evb rfl e2052) rfl) ?_
               obtain rfl:=Option.some.inj f2063
               exact HJ2051 _ _ ⟨(.agg #[.bool r147.1.Man.Neg,.slice A151 (sz r147.1.Man.Abs) c152,.int .i64 r147.1.Exp]),(.agg #[.bool x0.Man.Neg,.slice A1 (List.length x0.Man.Abs) c2,.int .i64 x0.Exp]),(.bool r2061),((UpdS.refl _ _).ext E2064),(by simp only [S0,S1]<;>rfl)⟩
              ·have p2053:=bF e2052
               have f2054:=ifN p2053 h2045
               refine sP ?_ (hw:=wgF rfl e2052)
               refine sP ?_ (hw:=wgF rfl e2052)
               refine sP ?_ (hw:=wgF rfl e2052)
               refine sV (Ax (evb rfl e2052) rfl) ?_
               obtain rfl:=Option.some.inj f2054
               exact HJ2051 _ _ ⟨undef,undef,undef,(UpdS.refl _ _),(by simp only [S0,S1]<;>rfl)⟩
             ·rintro l' w27 ⟨t2048,t2049,t2050,U2047,hq'⟩ l'' hl
              rw [hq'] at hl
              clear hq'
              simp only [S0,S1] at hl
              subst hl
              have X2066:=Ez X2029 U2047 (X2029).size al0
              refine sV (Ac rfl) ?_
              refine Ad<|h1952 _ _<|wp_ret ?_
              obtain rfl:=Option.some.inj f2046
              exact fin rfl (Res.tmp rfl Res.nil) (Ap X2066 rfl)
          ·have p485:=zN hz363 e484
           have f486:=ifN p485 f358
           refine wp_cond_false (An (evb rfl e484))<|wp_skip<|h361 _ _<|wp_seq_k fun K489 h489=>wp_seq_k fun K490 h490=>Aj<|sV (Aa rfl) ?_
           refine sV (Ak (o':=2) Gg rfl rfl) ?_
           refine sV (Am EK rfl (Bx.cell (q355.ext E359) rfl)) ?_
           refine sV (CK (c:=wi64 (r356.1 - x0.Exp)) rfl rfl rfl) ?_
           refine sV (BB (c:=wi64 ((wi64 (r356.1 - x0.Exp))+1)) rfl rfl rfl) ?_
           refine sV (Aa rfl) ?_
           refine sb (EL rfl rfl) fun z491 hz491=>?_
           refine nrm ?_
           refine Ad<|h490 _ _ ?_
           rcases Bool.eq_false_or_eq_true z491 with e686 | e686
           ·have p689:=zP hz491 e686
            have f690:=ifP p689 f486
            refine wp_cond_true (An (evb rfl e686))<|wp_seq_k fun K1763 h1763=>Aj ?_
            obtain ⟨r1764,h1765,f1766⟩:=Ab f690
            refine sc (Af KA (by rfl)) (CZ w23 (TB.ext X360 hT)  r1764 h1765) ?_
            rintro _ w24 E1767 rfl
            refine nrm ?_
            have X1768:=Ext.trans X360 E1767
            refine sV (Aa rfl) ?_
            obtain ⟨m1782,h1783,f1784⟩:=Ab f1766
            refine AR 6 (fun l l' w'=>∃(t1786:Value) (t1787:Value) (t1788:Value),UpdS [] w24 w'∧l'=((((l.set 129 t1786).set 130 t1787).set 131 t1788).set 132 (.bool m1782))) ?_ ?_
            ·intro HJ1789
             rcases Bool.eq_false_or_eq_true r1764 with e1790 | e1790
             ·have p1793:=e1790
              have f1794:=ifP p1793 h1783
              have q1795:=(((((((((((q101.ext E109).ext F123).ext E130).ext F144).ext E150).ext F164).ext E171).ext F185).updS U282 nm0).updS U321 nm0).ext E359).ext E1767
              refine sV (Ai Ay rfl q1795 rfl) ?_ (hw:=wgT rfl e1790)
              refine sV (Ai Ay rfl ((q355.ext E359).ext E1767) rfl) ?_ (hw:=wgT rfl e1790)
              have n1796:=((((((((((((n92.ext F103).ext E109).ext F123).ext E130).ext F144).ext E150).ext F164).ext E171).ext F185).updS U282 al0).updS U321 al0).ext E359).ext E1767
              have n1797:RU w24 A1 c2 m81:=by unfold RU;rw [hx84];exact (n3.ext X1768)
              obtain ⟨r1798,h1799,f1800⟩:=Ab f1794
              refine sc (Af EM (by simp only [sz,hx84];rfl)) (AA r86.1 (⟨(⟨x0.Man.Neg,m81⟩:Ah),x0.Exp⟩:Ae) A90 c91 A1 c2 w24 (TB.ext X1768 hT) n1796 n1797 r1798 h1799) ?_ (hw:=wgT rfl e1790)
              rintro _ w25 E1801 rfl
              refine nrm ?_
              refine sV (Av (evb rfl e1790) rfl) ?_
              obtain rfl:=Option.some.inj f1800
              exact HJ1789 _ _ ⟨(.agg #[.bool r86.1.Man.Neg,.slice A90 (sz r86.1.Man.Abs) c91,.int .i64 r86.1.Exp]),(.agg #[.bool x0.Man.Neg,.slice A1 (List.length x0.Man.Abs) c2,.int .i64 x0.Exp]),(.bool r1798),((UpdS.refl _ _).ext E1801),(by simp only [S0,S1]<;>rfl)⟩
             ·have p1791:=bF e1790
              have f1792:=ifN p1791 h1783
              refine sP ?_ (hw:=wgF rfl e1790)
              refine sP ?_ (hw:=wgF rfl e1790)
              refine sP ?_ (hw:=wgF rfl e1790)
              refine sV (Ax (evb rfl e1790) rfl) ?_
              obtain rfl:=Option.some.inj f1792
              exact HJ1789 _ _ ⟨undef,undef,undef,(UpdS.refl _ _),(by simp only [S0,S1]<;>rfl)⟩
            ·rintro l' w25 ⟨t1786,t1787,t1788,U1785,hq'⟩ l'' hl
             rw [hq'] at hl
             clear hq'
             simp only [S0,S1] at hl
             subst hl
             have X1803:=Ez X1768 U1785 (X1768).size al0
             refine sV (Aa rfl) ?_
             obtain ⟨m1818,h1819,f1820⟩:=Ab f1784
             refine AR 11 (fun l l' w'=>∃(t1822:Value) (t1823:Value) (t1824:Value),UpdS [] w25 w'∧l'=((((l.set 134 t1822).set 135 t1823).set 136 t1824).set 137 (.bool m1818))) ?_ ?_
             ·intro HJ1825
              rcases Bool.eq_false_or_eq_true m1782 with e1826 | e1826
              ·have p1829:=e1826
               have f1830:=ifP p1829 h1819
               have q1831:=((((((((((q121.ext E130).ext F144).ext E150).ext F164).ext E171).ext F185).updS U282 nm0).updS U321 nm0).ext E359).ext E1767).updS U1785 nm0
               refine sV (Ai Ay rfl q1831 rfl) ?_ (hw:=wgT rfl e1826)
               have q1832:=((q355.ext E359).ext E1767).updS U1785 nm0
               refine sV (Ai Ay rfl q1832 rfl) ?_ (hw:=wgT rfl e1826)
               have n1833:=(((((((((((n112.ext F123).ext E130).ext F144).ext E150).ext F164).ext E171).ext F185).updS U282 al0).updS U321 al0).ext E359).ext E1767).updS U1785 al0
               have n1834:RU w25 A1 c2 m81:=by unfold RU;rw [hx84];exact (n3.ext X1803)
               obtain ⟨r1835,h1836,f1837⟩:=Ab f1830
               refine sc (Af EM (by simp only [sz,hx84];rfl)) (AA r106.1 (⟨(⟨x0.Man.Neg,m81⟩:Ah),x0.Exp⟩:Ae) A110 c111 A1 c2 w25 (TB.ext X1803 hT) n1833 n1834 r1835 h1836) ?_ (hw:=wgT rfl e1826)
               rintro _ w26 E1838 rfl
               refine nrm ?_
               refine sV (Av (evb rfl e1826) rfl) ?_
               obtain rfl:=Option.some.inj f1837
               exact HJ1825 _ _ ⟨(.agg #[.bool r106.1.Man.Neg,.slice A110 (sz r106.1.Man.Abs) c111,.int .i64 r106.1.Exp]),(.agg #[.bool x0.Man.Neg,.slice A1 (List.length x0.Man.Abs) c2,.int .i64 x0.Exp]),(.bool r1835),((UpdS.refl _ _).ext E1838),(by simp only [S0,S1]<;>rfl)⟩
              ·have p1827:=bF e1826
               have f1828:=ifN p1827 h1819
               refine sP ?_ (hw:=wgF rfl e1826)
               refine sP ?_ (hw:=wgF rfl e1826)
               refine sP ?_ (hw:=wgF rfl e1826)
               refine sV (Ax (evb rfl e1826) rfl) ?_
               obtain rfl:=Option.some.inj f1828
               exact HJ1825 _ _ ⟨undef,undef,undef,(UpdS.refl _ _),(by simp only [S0,S1]<;>rfl)⟩
             ·rintro l' w26 ⟨t1822,t1823,t1824,U1821,hq'⟩ l'' hl
              rw [hq'] at hl
              clear hq'
              simp only [S0,S1] at hl
              subst hl
              have X1840:=Ez X1803 U1821 (X1803).size al0
              refine sV (Aa rfl) ?_
              obtain ⟨m1855,h1856,f1857⟩:=Ab f1820
              refine AR 16 (fun l l' w'=>∃(t1859:Value) (t1860:Value) (t1861:Value),UpdS [] w26 w'∧l'=((((l.set 139 t1859).set 140 t1860).set 141 t1861).set 142 (.bool m1855))) ?_ ?_
              ·intro HJ1862
               rcases Bool.eq_false_or_eq_true m1818 with e1863 | e1863
               ·have p1866:=e1863
                have f1867:=ifP p1866 h1856
                have q1868:=(((((((((q142.ext E150).ext F164).ext E171).ext F185).updS U282 nm0).updS U321 nm0).ext E359).ext E1767).updS U1785 nm0).updS U1821 nm0
                refine sV (Ai Ay rfl q1868 rfl) ?_ (hw:=wgT rfl e1863)
                have q1869:=(((q355.ext E359).ext E1767).updS U1785 nm0).updS U1821 nm0
                refine sV (Ai Ay rfl q1869 rfl) ?_ (hw:=wgT rfl e1863)
                have n1870:=((((((((((n133.ext F144).ext E150).ext F164).ext E171).ext F185).updS U282 al0).updS U321 al0).ext E359).ext E1767).updS U1785 al0).updS U1821 al0
                have n1871:RU w26 A1 c2 m81:=by unfold RU;rw [hx84];exact (n3.ext X1840)
                obtain ⟨r1872,h1873,f1874⟩:=Ab f1867
                refine sc (Af EM (by simp only [sz,hx84];rfl)) (AA r127.1 (⟨(⟨x0.Man.Neg,m81⟩:Ah),x0.Exp⟩:Ae) A131 c132 A1 c2 w26 (TB.ext X1840 hT) n1870 n1871 r1872 h1873) ?_ (hw:=wgT rfl e1863)
                rintro _ w27 E1875 rfl
                refine nrm ?_
                refine sV (Av (evb rfl e1863) rfl) ?_
                obtain rfl:=Option.some.inj f1874
                exact HJ1862 _ _ ⟨(.agg #[.bool r127.1.Man.Neg,.slice A131 (sz r127.1.Man.Abs) c132,.int .i64 r127.1.Exp]),(.agg #[.bool x0.Man.Neg,.slice A1 (List.length x0.Man.Abs) c2,.int .i64 x0.Exp]),(.bool r1872),((UpdS.refl _ _).ext E1875),(by simp only [S0,S1]<;>rfl)⟩
               ·have p1864:=bF e1863
                have f1865:=ifN p1864 h1856
                refine sP ?_ (hw:=wgF rfl e1863)
                refine sP ?_ (hw:=wgF rfl e1863)
                refine sP ?_ (hw:=wgF rfl e1863)
                refine sV (Ax (evb rfl e1863) rfl) ?_
                obtain rfl:=Option.some.inj f1865
                exact HJ1862 _ _ ⟨undef,undef,undef,(UpdS.refl _ _),(by simp only [S0,S1]<;>rfl)⟩
              ·rintro l' w27 ⟨t1859,t1860,t1861,U1858,hq'⟩ l'' hl
               rw [hq'] at hl
               clear hq'
               simp only [S0,S1] at hl
               subst hl
               have X1877:=Ez X1840 U1858 (X1840).size al0
               refine sV (Aa rfl) ?_
               obtain ⟨m1892,h1893,f1894⟩:=Ab f1857
               refine AR 21 (fun l l' w'=>∃(t1896:Value) (t1897:Value) (t1898:Value),UpdS [] w27 w'∧l'=((((l.set 144 t1896).set 145 t1897).set 146 t1898).set 147 (.bool m1892))) ?_ ?_
               ·intro HJ1899
                rcases Bool.eq_false_or_eq_true m1855 with e1900 | e1900
                ·have p1903:=e1900
                 have f1904:=ifP p1903 h1893
                 have q1905:=((((((((q162.ext E171).ext F185).updS U282 nm0).updS U321 nm0).ext E359).ext E1767).updS U1785 nm0).updS U1821 nm0).updS U1858 nm0
                 refine sV (Ai Ay rfl q1905 rfl) ?_ (hw:=wgT rfl e1900)
                 have q1906:=((((q355.ext E359).ext E1767).updS U1785 nm0).updS U1821 nm0).updS U1858 nm0
                 refine sV (Ai Ay rfl q1906 rfl) ?_ (hw:=wgT rfl e1900)
                 have n1907:=(((((((((n153.ext F164).ext E171).ext F185).updS U282 al0).updS U321 al0).ext E359).ext E1767).updS U1785 al0).updS U1821 al0).updS U1858 al0
                 have n1908:RU w27 A1 c2 m81:=by unfold RU;rw [hx84];exact (n3.ext X1877)
                 obtain ⟨r1909,h1910,f1911⟩:=Ab f1904
                 refine sc (Af EM (by simp only [sz,hx84];rfl)) (AA r147.1 (⟨(⟨x0.Man.Neg,m81⟩:Ah),x0.Exp⟩:Ae) A151 c152 A1 c2 w27 (TB.ext X1877 hT) n1907 n1908 r1909 h1910) ?_ (hw:=wgT rfl e1900)
                 rintro _ w28 E1912 rfl
                 refine nrm ?_
                 refine sV (Av (evb rfl e1900) rfl) ?_
                 obtain rfl:=Option.some.inj f1911
                 exact HJ1899 _ _ ⟨(.agg #[.bool r147.1.Man.Neg,.slice A151 (sz r147.1.Man.Abs) c152,.int .i64 r147.1.Exp]),(.agg #[.bool x0.Man.Neg,.slice A1 (List.length x0.Man.Abs) c2,.int .i64 x0.Exp]),(.bool r1909),((UpdS.refl _ _).ext E1912),(by simp only [S0,S1]<;>rfl)⟩
                ·have p1901:=bF e1900
                 have f1902:=ifN p1901 h1893
                 refine sP ?_ (hw:=wgF rfl e1900)
                 refine sP ?_ (hw:=wgF rfl e1900)
                 refine sP ?_ (hw:=wgF rfl e1900)
                 refine sV (Ax (evb rfl e1900) rfl) ?_
                 obtain rfl:=Option.some.inj f1902
                 exact HJ1899 _ _ ⟨undef,undef,undef,(UpdS.refl _ _),(by simp only [S0,S1]<;>rfl)⟩
               ·rintro l' w28 ⟨t1896,t1897,t1898,U1895,hq'⟩ l'' hl
                rw [hq'] at hl
                clear hq'
                simp only [S0,S1] at hl
                subst hl
                have X1914:=Ez X1877 U1895 (X1877).size al0
                refine sV (Aa rfl) ?_
                obtain ⟨m1929,h1930,f1931⟩:=Ab f1894
                refine AR 26 (fun l l' w'=>∃(t1933:Value) (t1934:Value) (t1935:Value),UpdS [] w28 w'∧l'=((((l.set 149 t1933).set 150 t1934).set 151 t1935).set 152 (.bool m1929))) ?_ ?_
                ·intro HJ1936
                 rcases Bool.eq_false_or_eq_true m1892 with e1937 | e1937
                 ·have p1940:=e1937
                  have f1941:=ifP p1940 h1930
                  have q1942:=(((((((q183.updS U282 nm0).updS U321 nm0).ext E359).ext E1767).updS U1785 nm0).updS U1821 nm0).updS U1858 nm0).updS U1895 nm0
                  refine sV (Ai Ay rfl q1942 rfl) ?_ (hw:=wgT rfl e1937)
                  have q1943:=(((((q355.ext E359).ext E1767).updS U1785 nm0).updS U1821 nm0).updS U1858 nm0).updS U1895 nm0
                  refine sV (Ai Ay rfl q1943 rfl) ?_ (hw:=wgT rfl e1937)
                  have n1944:=((((((((n174.ext F185).updS U282 al0).updS U321 al0).ext E359).ext E1767).updS U1785 al0).updS U1821 al0).updS U1858 al0).updS U1895 al0
                  have n1945:RU w28 A1 c2 m81:=by unfold RU;rw [hx84];exact (n3.ext X1914)
                  obtain ⟨r1946,h1947,f1948⟩:=Ab f1941
                  refine sc (Af EM (by simp only [sz,hx84];rfl)) (AA r168.1 (⟨(⟨x0.Man.Neg,m81⟩:Ah),x0.Exp⟩:Ae) A172 c173 A1 c2 w28 (TB.ext X1914 hT) n1944 n1945 r1946 h1947) ?_ (hw:=wgT rfl e1937)
                  rintro _ w29 E1949 rfl
                  refine nrm ?_
                  refine sV (Av (evb rfl e1937) rfl) ?_
                  obtain rfl:=Option.some.inj f1948
                  exact HJ1936 _ _ ⟨(.agg #[.bool r168.1.Man.Neg,.slice A172 (sz r168.1.Man.Abs) c173,.int .i64 r168.1.Exp]),(.agg #[.bool x0.Man.Neg,.slice A1 (List.length x0.Man.Abs) c2,.int .i64 x0.Exp]),(.bool r1946),((UpdS.refl _ _).ext E1949),(by simp only [S0,S1]<;>rfl)⟩
                 ·have p1938:=bF e1937
                  have f1939:=ifN p1938 h1930
                  refine sP ?_ (hw:=wgF rfl e1937)
                  refine sP ?_ (hw:=wgF rfl e1937)
                  refine sP ?_ (hw:=wgF rfl e1937)
                  refine sV (Ax (evb rfl e1937) rfl) ?_
                  obtain rfl:=Option.some.inj f1939
                  exact HJ1936 _ _ ⟨undef,undef,undef,(UpdS.refl _ _),(by simp only [S0,S1]<;>rfl)⟩
                ·rintro l' w29 ⟨t1933,t1934,t1935,U1932,hq'⟩ l'' hl
                 rw [hq'] at hl
                 clear hq'
                 simp only [S0,S1] at hl
                 subst hl
                 have X1951:=Ez X1914 U1932 (X1914).size al0
                 refine sV (Ac rfl) ?_
                 refine Ad<|h1763 _ _<|wp_ret ?_
                 obtain rfl:=Option.some.inj f1931
                 exact fin rfl (Res.tmp rfl Res.nil) (Ap X1951 rfl)
           ·have p687:=zN hz491 e686
            have f688:=ifN p687 f486
            refine wp_cond_false (An (evb rfl e686))<|wp_skip<|h489 _ _<|wp_seq_k fun K691 h691=>Aj<|sV (Aa rfl) ?_
            refine sV (Aa rfl) ?_
            refine sV (CK (c:=wi64 (r356.1 - x2)) rfl rfl rfl) ?_
            refine sV (BB (c:=wi64 ((wi64 (r356.1 - x2))+1)) rfl rfl rfl) ?_
            obtain ⟨r692,h693,f694⟩:=Ab f688
            refine sc (Af Im (by rfl)) (Bn 1 (wi64 ((wi64 (r356.1 - x2))+1)) w23 (TB.ext X360 hT)  r692 h693) ?_
            rintro _ w24 E695 ⟨A696,c697,rfl,n698⟩
            refine nrm ?_
            have X699:=Ext.trans X360 E695
            refine AB AV fun b700 w25 E701 g702 q703=>?_
            refine nrm ?_
            have g704:=Nat.le_trans X699.size g702
            refine AE AC rfl rfl q703 rfl rfl rfl rfl (by simp only [SP0,SP1,S0,S1,Nat.reduceAdd];rfl) fun w26 U706 q707=>?_
            have F709:=belU E701 U706 g702
            have X708:=Ext.trans X699 F709
            refine Ad<|h691 _ _<|wp_seq_k fun K710 h710=>Aj<|have q711:=((((((((((((q101.ext E109).ext F123).ext E130).ext F144).ext E150).ext F164).ext E171).ext F185).updS U282 nm0).updS U321 nm0).ext E359).ext E695).ext F709;sV (Ai Ay rfl q711 rfl) ?_
            refine sV (Ai Ay rfl q707 rfl) ?_
            have n712:=(((((((((((((n92.ext F103).ext E109).ext F123).ext E130).ext F144).ext E150).ext F164).ext E171).ext F185).updS U282 al0).updS U321 al0).ext E359).ext E695).ext F709
            obtain ⟨r713,h714,f715⟩:=Ab f694
            refine sc (Af en_39 (by rfl)) (c_dyad_Add (⟨(⟨r86.1.Man.Neg,(limbs r86.1.Man.Abs)⟩:AD),r86.1.Exp⟩:Al) (⟨(⟨r692.Man.Neg,(limbs r692.Man.Abs)⟩:AD),r692.Exp⟩:Al) A90 c91 A696 c697 w26 (TB.ext X708 hT) n712 (n698.ext F709) r713 h714) ?_
            rintro _ w27 E716 ⟨A717,c718,rfl,n719⟩
            refine nrm ?_
            have X720:=Ext.trans X708 E716
            refine sV (Aa rfl) ?_
            refine sV (Ag rfl rfl) ?_
            refine sV (Ag rfl rfl) ?_
            refine AB AV fun b721 w28 E722 g723 q724=>?_
            refine nrm ?_
            have g725:=Nat.le_trans X720.size g723
            refine AE AC rfl rfl q724 rfl rfl rfl rfl (by simp only [SP0,SP1,S0,S1,Nat.reduceAdd];rfl) fun w29 U727 q728=>?_
            have F730:=belU E722 U727 g723
            have X729:=Ext.trans X720 F730
            refine sV (Ac rfl) ?_
            refine Ad<|h710 _ _<|wp_seq_k fun K731 h731=>wp_seq_k fun K732 h732=>Aj<|sV (Aa rfl) ?_
            refine sb (EO rfl rfl) fun z733 hz733=>?_
            refine nrm ?_
            refine sV (Aa rfl) ?_
            obtain ⟨m747,h748,f749⟩:=Ab f715
            refine AR 8 (fun l l' w'=>∃(t751:Value) (t752:Value) (t753:Value) (t754:Value),UpdS [] w29 w'∧l'=(((((l.set 167 t751).set 168 t752).set 169 t753).set 170 t754).set 171 (.bool m747))) ?_ ?_
            ·intro HJ755
             rcases Bool.eq_false_or_eq_true z733 with e756 | e756
             ·have p759:=zP hz733 e756
              have f760:=ifP p759 h748
              refine sP ?_ (hw:=wgF rfl e756)
              refine sP ?_ (hw:=wgF rfl e756)
              refine sP ?_ (hw:=wgF rfl e756)
              refine sP ?_ (hw:=wgF rfl e756)
              refine sV (Av (evb rfl e756) rfl) ?_
              obtain rfl:=Option.some.inj f760
              exact HJ755 _ _ ⟨undef,undef,undef,undef,(UpdS.refl _ _),(by simp only [S0,S1]<;>rfl)⟩
             ·have p757:=zN hz733 e756
              have f758:=ifN p757 h748
              refine sV (Ai Ay rfl q728 rfl) ?_ (hw:=wgT rfl e756)
              have q761:=((((((((((((q121.ext E130).ext F144).ext E150).ext F164).ext E171).ext F185).updS U282 nm0).updS U321 nm0).ext E359).ext E695).ext F709).ext E716).ext F730
              refine sV (Ai Ay rfl q761 rfl) ?_ (hw:=wgT rfl e756)
              have n762:=(((((((((((((n112.ext F123).ext E130).ext F144).ext E150).ext F164).ext E171).ext F185).updS U282 al0).updS U321 al0).ext E359).ext E695).ext F709).ext E716).ext F730
              obtain ⟨r763,h764,f765⟩:=Ab f758
              refine sc (Af EM (by rfl)) (AA r713.1 r106.1 A717 c718 A110 c111 w29 (TB.ext X729 hT) (n719.ext F730) n762 r763 h764) ?_ (hw:=wgT rfl e756)
              rintro _ w30 E766 rfl
              refine nrm ?_
              refine sb (BE rfl) ?_ (hw:=wgT rfl e756)
              intro z768 hz768
              refine nrm ?_
              refine sV (Ax (evb rfl e756) rfl) ?_
              obtain rfl:z768=decide (¬(r763=true)):=bz hz768
              obtain rfl:=Option.some.inj f765
              exact HJ755 _ _ ⟨(.agg #[.bool r713.1.Man.Neg,.slice A717 (sz r713.1.Man.Abs) c718,.int .i64 r713.1.Exp]),(.agg #[.bool r106.1.Man.Neg,.slice A110 (sz r106.1.Man.Abs) c111,.int .i64 r106.1.Exp]),(.bool r763),(.bool (decide (¬(r763=true)))),((UpdS.refl _ _).ext E766),(by simp only [S0,S1]<;>rfl)⟩
            ·rintro l' w30 ⟨t751,t752,t753,t754,U750,hq'⟩ l'' hl
             rw [hq'] at hl
             clear hq'
             simp only [S0,S1] at hl
             subst hl
             have X769:=Ez X729 U750 (X729).size al0
             refine Ad<|h732 _ _ ?_
             rcases Bool.eq_false_or_eq_true m747 with e776 | e776
             ·have p779:=e776
              have f780:=ifP p779 f749
              refine wp_cond_true (An (evb rfl e776))<|wp_seq_k fun K1762 h1762=>Aj<|sV (Ac rfl) ?_
              refine Ad<|h1762 _ _<|wp_ret ?_
              obtain rfl:=Option.some.inj f780
              exact fin rfl (Res.tmp rfl Res.nil) (Ap X769 rfl)
             ·have p777:=bF e776
              have f778:=ifN p777 f749
              refine wp_cond_false (An (evb rfl e776))<|wp_skip<|h731 _ _<|wp_seq_k fun K781 h781=>wp_seq_k fun K782 h782=>Aj<|sV (Ak (o':=0) FF rfl rfl) ?_
              refine sV (Ak (o':=0) Hp rfl rfl) ?_
              have q783:=(((((q355.ext E359).ext E695).ext F709).ext E716).ext F730).updS U750 nm0
              refine sV (Am Hg rfl (Bx.cell q783 rfl)) ?_
              refine sV (Aa rfl) ?_
              obtain ⟨m799,h800,f801⟩:=Ab f778
              refine AR 9 (fun l l' w'=>∃(t803:Value) (t804:Value) (t805:Value) (t806:Value),UpdS [] w30 w'∧l'=(((((l.set 176 t803).set 177 t804).set 178 t805).set 179 t806).set 180 (.bool m799))) ?_ ?_
              ·intro HJ807
               rcases Bool.eq_false_or_eq_true x0.Man.Neg with e808 | e808
               ·have p811:=e808
                have f812:=ifP p811 h800
                have q813:=(((((((((((q142.ext E150).ext F164).ext E171).ext F185).updS U282 nm0).updS U321 nm0).ext E359).ext E695).ext F709).ext E716).ext F730).updS U750 nm0
                refine sV (Ai Ay rfl q813 rfl) ?_ (hw:=wgT rfl e808)
                have q814:=(((((((((((((q121.ext E130).ext F144).ext E150).ext F164).ext E171).ext F185).updS U282 nm0).updS U321 nm0).ext E359).ext E695).ext F709).ext E716).ext F730).updS U750 nm0
                refine sV (Ai Ay rfl q814 rfl) ?_ (hw:=wgT rfl e808)
                have n815:=((((((((((((n133.ext F144).ext E150).ext F164).ext E171).ext F185).updS U282 al0).updS U321 al0).ext E359).ext E695).ext F709).ext E716).ext F730).updS U750 al0
                have n816:=((((((((((((((n112.ext F123).ext E130).ext F144).ext E150).ext F164).ext E171).ext F185).updS U282 al0).updS U321 al0).ext E359).ext E695).ext F709).ext E716).ext F730).updS U750 al0
                obtain ⟨r817,h818,f819⟩:=Ab f812
                refine sc (Af EM (by rfl)) (AA r127.1 r106.1 A131 c132 A110 c111 w30 (TB.ext X769 hT) n815 n816 r817 h818) ?_ (hw:=wgT rfl e808)
                rintro _ w31 E820 rfl
                refine nrm ?_
                refine sb (BE rfl) ?_ (hw:=wgT rfl e808)
                intro z822 hz822
                refine nrm ?_
                refine sV (Av (evb rfl e808) rfl) ?_
                obtain rfl:z822=decide (¬(r817=true)):=bz hz822
                obtain rfl:=Option.some.inj f819
                exact HJ807 _ _ ⟨(.agg #[.bool r127.1.Man.Neg,.slice A131 (sz r127.1.Man.Abs) c132,.int .i64 r127.1.Exp]),(.agg #[.bool r106.1.Man.Neg,.slice A110 (sz r106.1.Man.Abs) c111,.int .i64 r106.1.Exp]),(.bool r817),(.bool (decide (¬(r817=true)))),((UpdS.refl _ _).ext E820),(by simp only [S0,S1]<;>rfl)⟩
               ·have p809:=bF e808
                have f810:=ifN p809 h800
                refine sP ?_ (hw:=wgF rfl e808)
                refine sP ?_ (hw:=wgF rfl e808)
                refine sP ?_ (hw:=wgF rfl e808)
                refine sP ?_ (hw:=wgF rfl e808)
                refine sV (Ax (evb rfl e808) rfl) ?_
                obtain rfl:=Option.some.inj f810
                exact HJ807 _ _ ⟨undef,undef,undef,undef,(UpdS.refl _ _),(by simp only [S0,S1]<;>rfl)⟩
              ·rintro l' w31 ⟨t803,t804,t805,t806,U802,hq'⟩ l'' hl
               rw [hq'] at hl
               clear hq'
               simp only [S0,S1] at hl
               subst hl
               have X823:=Ez X769 U802 (X769).size al0
               refine sV (Aa rfl) ?_
               obtain ⟨m870,h871,f872⟩:=Ab f801
               refine AR 21 (fun l l' w'=>∃(t874:Value) (t875:Value) (t876:Value) (t877:Value) (t878:Value) (t879:Value) (t880:Value) (t881:Value) (t882:Value) (t883:Value),UpdS [] w31 w'∧l'=(((((((((((l.set 182 t874).set 183 t875).set 184 t876).set 185 t877).set 186 t878).set 187 t879).set 188 t880).set 189 t881).set 190 t882).set 191 t883).set 192 (.bool m870))) ?_ ?_
               ·intro HJ884
                rcases Bool.eq_false_or_eq_true m799 with e885 | e885
                ·have p888:=e885
                 have f889:=ifP p888 h871
                 refine sP ?_ (hw:=wgF rfl e885)
                 refine sP ?_ (hw:=wgF rfl e885)
                 refine sP ?_ (hw:=wgF rfl e885)
                 refine sP ?_ (hw:=wgF rfl e885)
                 refine sP ?_ (hw:=wgF rfl e885)
                 refine sP ?_
                 refine sP ?_
                 refine sP ?_
                 refine sP ?_
                 refine sP ?_ (hw:=wgF rfl e885)
                 refine sV (Av (evb rfl e885) rfl) ?_
                 obtain rfl:=Option.some.inj f889
                 exact HJ884 _ _ ⟨undef,undef,undef,undef,undef,undef,undef,undef,undef,undef,(UpdS.refl _ _),(by simp only [S0,S1]<;>rfl)⟩
                ·have p886:=bF e885
                 have f887:=ifN p886 h871
                 refine sV (Ak (o':=0) FF rfl rfl) ?_ (hw:=wgT rfl e885)
                 refine sV (Ak (o':=0) Hp rfl rfl) ?_ (hw:=wgT rfl e885)
                 refine sV (Am Hg rfl (Bx.cell (q783.updS U802 nm0) rfl)) ?_ (hw:=wgT rfl e885)
                 refine sb (BE rfl) ?_ (hw:=wgT rfl e885)
                 intro z890 hz890
                 refine nrm ?_
                 refine sV (Aa rfl) ?_ (hw:=wgT rfl e885)
                 obtain ⟨m906,h907,f908⟩:=Ab f887
                 refine AR 20 (fun l l' w'=>∃(t910:Value) (t911:Value) (t912:Value) (t913:Value),UpdS [] w31 w'∧l'=(((((l.set 187 t910).set 188 t911).set 189 t912).set 190 t913).set 191 (.bool m906))) ?_ ?_
                 ·intro HJ914
                  rcases Bool.eq_false_or_eq_true z890 with e915 | e915
                  ·have p918:=zP hz890 e915
                   have f919:=ifP p918 h907
                   have q920:=((((((((((((q142.ext E150).ext F164).ext E171).ext F185).updS U282 nm0).updS U321 nm0).ext E359).ext E695).ext F709).ext E716).ext F730).updS U750 nm0).updS U802 nm0
                   refine sV (Ai Ay rfl q920 rfl) ?_ (hw:=wgT rfl e915)
                   have q921:=(((q711.ext E716).ext F730).updS U750 nm0).updS U802 nm0
                   refine sV (Ai Ay rfl q921 rfl) ?_ (hw:=wgT rfl e915)
                   have n922:=(((((((((((((n133.ext F144).ext E150).ext F164).ext E171).ext F185).updS U282 al0).updS U321 al0).ext E359).ext E695).ext F709).ext E716).ext F730).updS U750 al0).updS U802 al0
                   have n923:=(((n712.ext E716).ext F730).updS U750 al0).updS U802 al0
                   obtain ⟨r924,h925,f926⟩:=Ab f919
                   refine sc (Af EM (by rfl)) (AA r127.1 r86.1 A131 c132 A90 c91 w31 (TB.ext X823 hT) n922 n923 r924 h925) ?_ (hw:=wgT rfl e915)
                   rintro _ w32 E927 rfl
                   refine nrm ?_
                   refine sb (BE rfl) ?_ (hw:=wgT rfl e915)
                   intro z929 hz929
                   refine nrm ?_
                   refine sV (Av (evb rfl e915) rfl) ?_ (hw:=wgT rfl e885)
                   obtain rfl:z929=decide (¬(r924=true)):=bz hz929
                   obtain rfl:=Option.some.inj f926
                   exact HJ914 _ _ ⟨(.agg #[.bool r127.1.Man.Neg,.slice A131 (sz r127.1.Man.Abs) c132,.int .i64 r127.1.Exp]),(.agg #[.bool r86.1.Man.Neg,.slice A90 (sz r86.1.Man.Abs) c91,.int .i64 r86.1.Exp]),(.bool r924),(.bool (decide (¬(r924=true)))),((UpdS.refl _ _).ext E927),(by simp only [S0,S1]<;>rfl)⟩
                  ·have p916:=zN hz890 e915
                   have f917:=ifN p916 h907
                   refine sP ?_ (hw:=wgF rfl e915)
                   refine sP ?_ (hw:=wgF rfl e915)
                   refine sP ?_ (hw:=wgF rfl e915)
                   refine sP ?_ (hw:=wgF rfl e915)
                   refine sV (Ax (evb rfl e915) rfl) ?_ (hw:=wgT rfl e885)
                   obtain rfl:=Option.some.inj f917
                   exact HJ914 _ _ ⟨undef,undef,undef,undef,(UpdS.refl _ _),(by simp only [S0,S1]<;>rfl)⟩
                 ·rintro l' w32 ⟨t910,t911,t912,t913,U909,hq'⟩ l'' hl
                  rw [hq'] at hl
                  clear hq'
                  simp only [S0,S1] at hl
                  subst hl
                  refine sV (Ax (evb rfl e885) rfl) ?_
                  obtain rfl:=Option.some.inj f908
                  exact HJ884 _ _ ⟨(.pointer (some ⟨b8,0,none⟩)),(.pointer (some ⟨b8,0,none⟩)),(.bool x0.Man.Neg),(.bool z890),(.bool z890),t910,t911,t912,t913,(.bool m906),((UpdS.refl _ _).updS U909 al0),(by simp only [S0,S1]<;>rfl)⟩
               ·rintro l' w32 ⟨t874,t875,t876,t877,t878,t879,t880,t881,t882,t883,U873,hq'⟩ l'' hl
                rw [hq'] at hl
                clear hq'
                simp only [S0,S1] at hl
                subst hl
                have X931:=Ez X823 U873 (X823).size al0
                refine Ad<|h782 _ _ ?_
                rcases Bool.eq_false_or_eq_true m870 with e938 | e938
                ·have p941:=e938
                 have f942:=ifP p941 f872
                 refine wp_cond_true (An (evb rfl e938))<|wp_seq_k fun K1761 h1761=>Aj<|sV (Ac rfl) ?_
                 refine Ad<|h1761 _ _<|wp_ret ?_
                 obtain rfl:=Option.some.inj f942
                 exact fin rfl (Res.tmp rfl Res.nil) (Ap X931 rfl)
                ·have p939:=bF e938
                 have f940:=ifN p939 f872
                 refine wp_cond_false (An (evb rfl e938))<|wp_skip<|h781 _ _<|wp_seq_k fun K943 h943=>Aj<|have q944:=(q783.updS U802 nm0).updS U873 nm0;sV (Ai Ay rfl q944 rfl) ?_
                 have q945:=((((q711.ext E716).ext F730).updS U750 nm0).updS U802 nm0).updS U873 nm0
                 refine sV (Ai Ay rfl q945 rfl) ?_
                 have n946:=((((n712.ext E716).ext F730).updS U750 al0).updS U802 al0).updS U873 al0
                 obtain ⟨r947,h948,f949⟩:=Ab f940
                 refine sc (Af Nv (by rfl)) (Ks x0 (⟨(⟨r86.1.Man.Neg,(limbs r86.1.Man.Abs)⟩:AD),r86.1.Exp⟩:Al) A1 c2 A90 c91 w32 (TB.ext X931 hT) (n3.ext X931) n946 r947 h948) ?_
                 rintro _ w33 E950 ⟨A951,c952,rfl,n953⟩
                 refine nrm ?_
                 have X954:=Ext.trans X931 E950
                 refine sV (Aa rfl) ?_
                 refine sV (Ag rfl rfl) ?_
                 refine sV (Ag rfl rfl) ?_
                 refine AB AV fun b955 w34 E956 g957 q958=>?_
                 refine nrm ?_
                 have g959:=Nat.le_trans X954.size g957
                 refine AE AC rfl rfl q958 rfl rfl rfl rfl (by simp only [SP0,SP1,S0,S1,Nat.reduceAdd];rfl) fun w35 U961 q962=>?_
                 have F964:=belU E956 U961 g957
                 have X963:=Ext.trans X954 F964
                 refine sV (Ac rfl) ?_
                 refine Ad<|h943 _ _<|wp_seq_k fun K965 h965=>Aj<|have q966:=(((((((((((((((((q121.ext E130).ext F144).ext E150).ext F164).ext E171).ext F185).updS U282 nm0).updS U321 nm0).ext E359).ext E695).ext F709).ext E716).ext F730).updS U750 nm0).updS U802 nm0).updS U873 nm0).ext E950).ext F964;sV (Ai Ay rfl q966 rfl) ?_
                 refine sV (Ai Ay rfl ((q944.ext E950).ext F964) rfl) ?_
                 have n967:=((((((((((((((((((n112.ext F123).ext E130).ext F144).ext E150).ext F164).ext E171).ext F185).updS U282 al0).updS U321 al0).ext E359).ext E695).ext F709).ext E716).ext F730).updS U750 al0).updS U802 al0).updS U873 al0).ext E950).ext F964
                 obtain ⟨r968,h969,f970⟩:=Ab f949
                 refine sc (Af Nv (by rfl)) (Ks (⟨(⟨r106.1.Man.Neg,(limbs r106.1.Man.Abs)⟩:AD),r106.1.Exp⟩:Al) x0 A110 c111 A1 c2 w35 (TB.ext X963 hT) n967 (n3.ext X963) r968 h969) ?_
                 rintro _ w36 E971 ⟨A972,c973,rfl,n974⟩
                 refine nrm ?_
                 have X975:=Ext.trans X963 E971
                 refine sV (Aa rfl) ?_
                 refine sV (Ag rfl rfl) ?_
                 refine sV (Ag rfl rfl) ?_
                 refine AB AV fun b976 w37 E977 g978 q979=>?_
                 refine nrm ?_
                 have g980:=Nat.le_trans X975.size g978
                 refine AE AC rfl rfl q979 rfl rfl rfl rfl (by simp only [SP0,SP1,S0,S1,Nat.reduceAdd];rfl) fun w38 U982 q983=>?_
                 have F985:=belU E977 U982 g978
                 have X984:=Ext.trans X975 F985
                 refine sV (Ac rfl) ?_
                 refine Ad<|h965 _ _<|wp_seq_k fun K986 h986=>Aj<|sV (Ai Ay rfl ((q962.ext E971).ext F985) rfl) ?_
                 refine sV (Ai Ay rfl q983 rfl) ?_
                 have n987:=((n953.ext F964).ext E971).ext F985
                 obtain ⟨r988,h989,f990⟩:=Ab f970
                 refine sc (Af NB (by rfl)) (Kd (⟨(⟨r947.1.Man.Neg,(limbs r947.1.Man.Abs)⟩:AD),r947.1.Exp⟩:Al) (⟨(⟨r968.1.Man.Neg,(limbs r968.1.Man.Abs)⟩:AD),r968.1.Exp⟩:Al) A951 c952 A972 c973 w38 (TB.ext X984 hT) n987 (n974.ext F985) r988 h989) ?_
                 rintro _ w39 E991 rfl
                 refine nrm ?_
                 have X992:=Ext.trans X984 E991
                 refine sV (Aa rfl) ?_
                 refine sV (Ag rfl rfl) ?_
                 refine sV (Ag rfl rfl) ?_
                 refine sV (Ac rfl) ?_
                 refine sV (Ac rfl) ?_
                 refine Ad<|h986 _ _<|wp_seq_k fun K993 h993=>wp_seq_k fun K994 h994=>Aj<|sV (Aa rfl) ?_
                 refine sb (EO rfl rfl) fun z995 hz995=>?_
                 refine nrm ?_
                 refine sV (Aa rfl) ?_
                 obtain ⟨m1002,h1003,f1004⟩:=Ab f990
                 refine AR 6 (fun l l' w'=>∃(t1006:Value) (t1007:Value),w39=w'∧l'=(((l.set 214 t1006).set 215 t1007).set 216 (.bool m1002))) ?_ ?_
                 ·intro HJ1008
                  rcases Bool.eq_false_or_eq_true z995 with e1009 | e1009
                  ·have p1012:=zP hz995 e1009
                   have f1013:=ifP p1012 h1003
                   refine sP ?_ (hw:=wgF rfl e1009)
                   refine sP ?_ (hw:=wgF rfl e1009)
                   refine sV (Av (evb rfl e1009) rfl) ?_
                   obtain rfl:=Option.some.inj f1013
                   exact HJ1008 _ _ ⟨undef,undef,rfl,(by simp only [S0,S1]<;>rfl)⟩
                  ·have p1010:=zN hz995 e1009
                   have f1011:=ifN p1010 h1003
                   refine sV (Aa rfl) ?_ (hw:=wgT rfl e1009)
                   refine sb (EO rfl rfl) ?_ (hw:=wgT rfl e1009)
                   intro z1014 hz1014
                   refine nrm ?_
                   refine sV (Ax (evb rfl e1009) rfl) ?_
                   obtain rfl:z1014=decide (¬r968.2=0):=bz hz1014
                   obtain rfl:=Option.some.inj f1011
                   exact HJ1008 _ _ ⟨(.int .i64 r968.2),(.bool (decide (¬r968.2=0))),rfl,(by simp only [S0,S1]<;>rfl)⟩
                 ·rintro l' _ ⟨t1006,t1007,rfl,hq'⟩ l'' hl
                  rw [hq'] at hl
                  clear hq'
                  simp only [S0,S1] at hl
                  subst hl
                  refine sV (Aa rfl) ?_
                  obtain ⟨m1021,h1022,f1023⟩:=Ab f1004
                  refine AR 10 (fun l l' w'=>∃(t1025:Value) (t1026:Value),w39=w'∧l'=(((l.set 218 t1025).set 219 t1026).set 220 (.bool m1021))) ?_ ?_
                  ·intro HJ1027
                   rcases Bool.eq_false_or_eq_true m1002 with e1028 | e1028
                   ·have p1031:=e1028
                    have f1032:=ifP p1031 h1022
                    refine sP ?_ (hw:=wgF rfl e1028)
                    refine sP ?_ (hw:=wgF rfl e1028)
                    refine sV (Av (evb rfl e1028) rfl) ?_
                    obtain rfl:=Option.some.inj f1032
                    exact HJ1027 _ _ ⟨undef,undef,rfl,(by simp only [S0,S1]<;>rfl)⟩
                   ·have p1029:=bF e1028
                    have f1030:=ifN p1029 h1022
                    refine sV (Aa rfl) ?_ (hw:=wgT rfl e1028)
                    refine sb (EO rfl rfl) ?_ (hw:=wgT rfl e1028)
                    intro z1033 hz1033
                    refine nrm ?_
                    refine sV (Ax (evb rfl e1028) rfl) ?_
                    obtain rfl:z1033=decide (¬r988.2=0):=bz hz1033
                    obtain rfl:=Option.some.inj f1030
                    exact HJ1027 _ _ ⟨(.int .i64 r988.2),(.bool (decide (¬r988.2=0))),rfl,(by simp only [S0,S1]<;>rfl)⟩
                  ·rintro l' _ ⟨t1025,t1026,rfl,hq'⟩ l'' hl
                   rw [hq'] at hl
                   clear hq'
                   simp only [S0,S1] at hl
                   subst hl
                   refine Ad<|h994 _ _ ?_
                   rcases Bool.eq_false_or_eq_true m1021 with e1040 | e1040
                   ·have p1043:=e1040
                    have f1044:=ifP p1043 f1023
                    refine wp_cond_true (An (evb rfl e1040))<|wp_seq_k fun K1760 h1760=>Aj<|sV (Ac rfl) ?_
                    refine Ad<|h1760 _ _<|wp_ret ?_
                    obtain rfl:=Option.some.inj f1044
                    exact fin rfl (Res.tmp rfl Res.nil) (Ap X992 rfl)
                   ·have p1041:=bF e1040
                    have f1042:=ifN p1041 f1023
                    refine wp_cond_false (An (evb rfl e1040))<|wp_skip<|h993 _ _<|wp_seq_k fun K1045 h1045=>wp_seq_k fun K1046 h1046=>Aj<|sV (Aa rfl) ?_
                    refine sb (DB rfl rfl) fun z1047 hz1047=>?_
                    refine nrm ?_
                    refine sV (Aa rfl) ?_
                    obtain ⟨m1099,h1100,f1101⟩:=Ab f1042
                    refine AR 14 (fun l l' w'=>∃(t1103:Value) (t1104:Value) (t1105:Value) (t1106:Value) (t1107:Value) (t1108:Value) (t1109:Value) (t1110:Value) (t1111:Value) (t1112:Value),UpdS [] w39 w'∧l'=(((((((((((l.set 224 t1103).set 225 t1104).set 226 t1105).set 227 t1106).set 228 t1107).set 229 t1108).set 230 t1109).set 231 t1110).set 232 t1111).set 233 t1112).set 234 (.bool m1099))) ?_ ?_
                    ·intro HJ1113
                     rcases Bool.eq_false_or_eq_true z1047 with e1114 | e1114
                     ·have p1117:=zP hz1047 e1114
                      have f1118:=ifP p1117 h1100
                      have q1119:=((((((((((((((((q162.ext E171).ext F185).updS U282 nm0).updS U321 nm0).ext E359).ext E695).ext F709).ext E716).ext F730).updS U750 nm0).updS U802 nm0).updS U873 nm0).ext E950).ext F964).ext E971).ext F985).ext E991
                      refine sV (Ai Ay rfl q1119 rfl) ?_ (hw:=wgT rfl e1114)
                      have q1120:=((((q945.ext E950).ext F964).ext E971).ext F985).ext E991
                      refine sV (Ai Ay rfl q1120 rfl) ?_ (hw:=wgT rfl e1114)
                      have n1121:=(((((((((((((((((n153.ext F164).ext E171).ext F185).updS U282 al0).updS U321 al0).ext E359).ext E695).ext F709).ext E716).ext F730).updS U750 al0).updS U802 al0).updS U873 al0).ext E950).ext F964).ext E971).ext F985).ext E991
                      have n1122:=((((n946.ext E950).ext F964).ext E971).ext F985).ext E991
                      obtain ⟨r1123,h1124,f1125⟩:=Ab f1118
                      refine sc (Af EM (by rfl)) (AA r147.1 r86.1 A151 c152 A90 c91 w39 (TB.ext X992 hT) n1121 n1122 r1123 h1124) ?_ (hw:=wgT rfl e1114)
                      rintro _ w40 E1126 rfl
                      refine nrm ?_
                      have X1127:=Ext.trans X992 E1126
                      refine sb (BE rfl) ?_ (hw:=wgT rfl e1114)
                      intro z1128 hz1128
                      refine nrm ?_
                      refine sV (Aa rfl) ?_ (hw:=wgT rfl e1114)
                      obtain ⟨m1142,h1143,f1144⟩:=Ab f1125
                      refine AR 13 (fun l l' w'=>∃(t1146:Value) (t1147:Value) (t1148:Value) (t1149:Value),UpdS [] w40 w'∧l'=(((((l.set 229 t1146).set 230 t1147).set 231 t1148).set 232 t1149).set 233 (.bool m1142))) ?_ ?_
                      ·intro HJ1150
                       rcases Bool.eq_false_or_eq_true z1128 with e1151 | e1151
                       ·have p1154:=zP hz1128 e1151
                        have f1155:=ifP p1154 h1143
                        refine sP ?_ (hw:=wgF rfl e1151)
                        refine sP ?_ (hw:=wgF rfl e1151)
                        refine sP ?_ (hw:=wgF rfl e1151)
                        refine sP ?_ (hw:=wgF rfl e1151)
                        refine sV (Av (evb rfl e1151) rfl) ?_ (hw:=wgT rfl e1114)
                        obtain rfl:=Option.some.inj f1155
                        exact HJ1150 _ _ ⟨undef,undef,undef,undef,(UpdS.refl _ _),(by simp only [S0,S1]<;>rfl)⟩
                       ·have p1152:=zN hz1128 e1151
                        have f1153:=ifN p1152 h1143
                        have q1156:=(((((((((((((((q183.updS U282 nm0).updS U321 nm0).ext E359).ext E695).ext F709).ext E716).ext F730).updS U750 nm0).updS U802 nm0).updS U873 nm0).ext E950).ext F964).ext E971).ext F985).ext E991).ext E1126
                        refine sV (Ai Ay rfl q1156 rfl) ?_ (hw:=wgT rfl e1151)
                        refine sV (Ai Ay rfl (q1120.ext E1126) rfl) ?_ (hw:=wgT rfl e1151)
                        have n1157:=((((((((((((((((n174.ext F185).updS U282 al0).updS U321 al0).ext E359).ext E695).ext F709).ext E716).ext F730).updS U750 al0).updS U802 al0).updS U873 al0).ext E950).ext F964).ext E971).ext F985).ext E991).ext E1126
                        obtain ⟨r1158,h1159,f1160⟩:=Ab f1153
                        refine sc (Af EM (by rfl)) (AA r168.1 r86.1 A172 c173 A90 c91 w40 (TB.ext X1127 hT) n1157 (n1122.ext E1126) r1158 h1159) ?_ (hw:=wgT rfl e1151)
                        rintro _ w41 E1161 rfl
                        refine nrm ?_
                        refine sb (BE rfl) ?_ (hw:=wgT rfl e1151)
                        intro z1163 hz1163
                        refine nrm ?_
                        refine sV (Ax (evb rfl e1151) rfl) ?_ (hw:=wgT rfl e1114)
                        obtain rfl:z1163=decide (¬(r1158=true)):=bz hz1163
                        obtain rfl:=Option.some.inj f1160
                        exact HJ1150 _ _ ⟨(.agg #[.bool r168.1.Man.Neg,.slice A172 (sz r168.1.Man.Abs) c173,.int .i64 r168.1.Exp]),(.agg #[.bool r86.1.Man.Neg,.slice A90 (sz r86.1.Man.Abs) c91,.int .i64 r86.1.Exp]),(.bool r1158),(.bool (decide (¬(r1158=true)))),((UpdS.refl _ _).ext E1161),(by simp only [S0,S1]<;>rfl)⟩
                      ·rintro l' w41 ⟨t1146,t1147,t1148,t1149,U1145,hq'⟩ l'' hl
                       rw [hq'] at hl
                       clear hq'
                       simp only [S0,S1] at hl
                       subst hl
                       refine sV (Av (evb rfl e1114) rfl) ?_
                       obtain rfl:=Option.some.inj f1144
                       exact HJ1113 _ _ ⟨(.agg #[.bool r147.1.Man.Neg,.slice A151 (sz r147.1.Man.Abs) c152,.int .i64 r147.1.Exp]),(.agg #[.bool r86.1.Man.Neg,.slice A90 (sz r86.1.Man.Abs) c91,.int .i64 r86.1.Exp]),(.bool r1123),(.bool z1128),(.bool z1128),t1146,t1147,t1148,t1149,(.bool m1142),(((UpdS.refl _ _).ext E1126).updS U1145 al0),(by simp only [S0,S1]<;>rfl)⟩
                     ·have p1115:=zN hz1047 e1114
                      have f1116:=ifN p1115 h1100
                      refine sP ?_ (hw:=wgF rfl e1114)
                      refine sP ?_ (hw:=wgF rfl e1114)
                      refine sP ?_ (hw:=wgF rfl e1114)
                      refine sP ?_ (hw:=wgF rfl e1114)
                      refine sP ?_ (hw:=wgF rfl e1114)
                      refine sP ?_
                      refine sP ?_
                      refine sP ?_
                      refine sP ?_
                      refine sP ?_ (hw:=wgF rfl e1114)
                      refine sV (Ax (evb rfl e1114) rfl) ?_
                      obtain rfl:=Option.some.inj f1116
                      exact HJ1113 _ _ ⟨undef,undef,undef,undef,undef,undef,undef,undef,undef,undef,(UpdS.refl _ _),(by simp only [S0,S1]<;>rfl)⟩
                    ·rintro l' w40 ⟨t1103,t1104,t1105,t1106,t1107,t1108,t1109,t1110,t1111,t1112,U1102,hq'⟩ l'' hl
                     rw [hq'] at hl
                     clear hq'
                     simp only [S0,S1] at hl
                     subst hl
                     have X1165:=Ez X992 U1102 (X992).size al0
                     refine sV (Aa rfl) ?_
                     obtain ⟨m1290,h1291,f1292⟩:=Ab f1101
                     refine AR 30 (fun l l' w'=>∃(t1294:Value) (t1295:Value) (t1296:Value) (t1297:Value) (t1298:Value) (t1299:Value) (t1300:Value) (t1301:Value) (t1302:Value) (t1303:Value) (t1304:Value) (t1305:Value) (t1306:Value) (t1307:Value),UpdS [] w40 w'∧l'=(((((((((((((((l.set 236 t1294).set 237 t1295).set 238 t1296).set 239 t1297).set 240 t1298).set 241 t1299).set 242 t1300).set 243 t1301).set 244 t1302).set 245 t1303).set 246 t1304).set 247 t1305).set 248 t1306).set 249 t1307).set 250 (.bool m1290))) ?_ ?_
                     ·intro HJ1308
                      rcases Bool.eq_false_or_eq_true m1099 with e1309 | e1309
                      ·have p1312:=e1309
                       have f1313:=ifP p1312 h1291
                       refine sP ?_ (hw:=wgF rfl e1309)
                       refine sP ?_ (hw:=wgF rfl e1309)
                       refine sP ?_ (hw:=wgF rfl e1309)
                       refine sP ?_
                       refine sP ?_
                       refine sP ?_
                       refine sP ?_
                       refine sP ?_
                       refine sP ?_
                       refine sP ?_
                       refine sP ?_
                       refine sP ?_
                       refine sP ?_
                       refine sP ?_ (hw:=wgF rfl e1309)
                       refine sV (Av (evb rfl e1309) rfl) ?_
                       obtain rfl:=Option.some.inj f1313
                       exact HJ1308 _ _ ⟨undef,undef,undef,undef,undef,undef,undef,undef,undef,undef,undef,undef,undef,undef,(UpdS.refl _ _),(by simp only [S0,S1]<;>rfl)⟩
                      ·have p1310:=bF e1309
                       have f1311:=ifN p1310 h1291
                       refine sV (Aa rfl) ?_ (hw:=wgT rfl e1309)
                       refine sb (FQ rfl rfl) ?_ (hw:=wgT rfl e1309)
                       intro z1314 hz1314
                       refine nrm ?_
                       refine sV (Aa rfl) ?_ (hw:=wgT rfl e1309)
                       obtain ⟨m1366,h1367,f1368⟩:=Ab f1311
                       refine AR 29 (fun l l' w'=>∃(t1370:Value) (t1371:Value) (t1372:Value) (t1373:Value) (t1374:Value) (t1375:Value) (t1376:Value) (t1377:Value) (t1378:Value) (t1379:Value),UpdS [] w40 w'∧l'=(((((((((((l.set 239 t1370).set 240 t1371).set 241 t1372).set 242 t1373).set 243 t1374).set 244 t1375).set 245 t1376).set 246 t1377).set 247 t1378).set 248 t1379).set 249 (.bool m1366))) ?_ ?_
                       ·intro HJ1380
                        rcases Bool.eq_false_or_eq_true z1314 with e1381 | e1381
                        ·have p1384:=zP hz1314 e1381
                         have f1385:=ifP p1384 h1367
                         have q1386:=(((((((((((((((((q162.ext E171).ext F185).updS U282 nm0).updS U321 nm0).ext E359).ext E695).ext F709).ext E716).ext F730).updS U750 nm0).updS U802 nm0).updS U873 nm0).ext E950).ext F964).ext E971).ext F985).ext E991).updS U1102 nm0
                         refine sV (Ai Ay rfl q1386 rfl) ?_ (hw:=wgT rfl e1381)
                         have q1387:=(((q966.ext E971).ext F985).ext E991).updS U1102 nm0
                         refine sV (Ai Ay rfl q1387 rfl) ?_ (hw:=wgT rfl e1381)
                         have n1388:=((((((((((((((((((n153.ext F164).ext E171).ext F185).updS U282 al0).updS U321 al0).ext E359).ext E695).ext F709).ext E716).ext F730).updS U750 al0).updS U802 al0).updS U873 al0).ext E950).ext F964).ext E971).ext F985).ext E991).updS U1102 al0
                         have n1389:=(((n967.ext E971).ext F985).ext E991).updS U1102 al0
                         obtain ⟨r1390,h1391,f1392⟩:=Ab f1385
                         refine sc (Af EM (by rfl)) (AA r147.1 r106.1 A151 c152 A110 c111 w40 (TB.ext X1165 hT) n1388 n1389 r1390 h1391) ?_ (hw:=wgT rfl e1381)
                         rintro _ w41 E1393 rfl
                         refine nrm ?_
                         have X1394:=Ext.trans X1165 E1393
                         refine sb (BE rfl) ?_ (hw:=wgT rfl e1381)
                         intro z1395 hz1395
                         refine nrm ?_
                         refine sV (Aa rfl) ?_ (hw:=wgT rfl e1381)
                         obtain ⟨m1409,h1410,f1411⟩:=Ab f1392
                         refine AR 28 (fun l l' w'=>∃(t1413:Value) (t1414:Value) (t1415:Value) (t1416:Value),UpdS [] w41 w'∧l'=(((((l.set 244 t1413).set 245 t1414).set 246 t1415).set 247 t1416).set 248 (.bool m1409))) ?_ ?_
                         ·intro HJ1417
                          rcases Bool.eq_false_or_eq_true z1395 with e1418 | e1418
                          ·have p1421:=zP hz1395 e1418
                           have f1422:=ifP p1421 h1410
                           refine sP ?_ (hw:=wgF rfl e1418)
                           refine sP ?_ (hw:=wgF rfl e1418)
                           refine sP ?_ (hw:=wgF rfl e1418)
                           refine sP ?_ (hw:=wgF rfl e1418)
                           refine sV (Av (evb rfl e1418) rfl) ?_ (hw:=wgT rfl e1381)
                           obtain rfl:=Option.some.inj f1422
                           exact HJ1417 _ _ ⟨undef,undef,undef,undef,(UpdS.refl _ _),(by simp only [S0,S1]<;>rfl)⟩
                          ·have p1419:=zN hz1395 e1418
                           have f1420:=ifN p1419 h1410
                           have q1423:=((((((((((((((((q183.updS U282 nm0).updS U321 nm0).ext E359).ext E695).ext F709).ext E716).ext F730).updS U750 nm0).updS U802 nm0).updS U873 nm0).ext E950).ext F964).ext E971).ext F985).ext E991).updS U1102 nm0).ext E1393
                           refine sV (Ai Ay rfl q1423 rfl) ?_ (hw:=wgT rfl e1418)
                           refine sV (Ai Ay rfl (q1387.ext E1393) rfl) ?_ (hw:=wgT rfl e1418)
                           have n1424:=(((((((((((((((((n174.ext F185).updS U282 al0).updS U321 al0).ext E359).ext E695).ext F709).ext E716).ext F730).updS U750 al0).updS U802 al0).updS U873 al0).ext E950).ext F964).ext E971).ext F985).ext E991).updS U1102 al0).ext E1393
                           obtain ⟨r1425,h1426,f1427⟩:=Ab f1420
                           refine sc (Af EM (by rfl)) (AA r168.1 r106.1 A172 c173 A110 c111 w41 (TB.ext X1394 hT) n1424 (n1389.ext E1393) r1425 h1426) ?_ (hw:=wgT rfl e1418)
                           rintro _ w42 E1428 rfl
                           refine nrm ?_
                           refine sb (BE rfl) ?_ (hw:=wgT rfl e1418)
                           intro z1430 hz1430
                           refine nrm ?_
                           refine sV (Ax (evb rfl e1418) rfl) ?_ (hw:=wgT rfl e1381)
                           obtain rfl:z1430=decide (¬(r1425=true)):=bz hz1430
                           obtain rfl:=Option.some.inj f1427
                           exact HJ1417 _ _ ⟨(.agg #[.bool r168.1.Man.Neg,.slice A172 (sz r168.1.Man.Abs) c173,.int .i64 r168.1.Exp]),(.agg #[.bool r106.1.Man.Neg,.slice A110 (sz r106.1.Man.Abs) c111,.int .i64 r106.1.Exp]),(.bool r1425),(.bool (decide (¬(r1425=true)))),((UpdS.refl _ _).ext E1428),(by simp only [S0,S1]<;>rfl)⟩
                         ·rintro l' w42 ⟨t1413,t1414,t1415,t1416,U1412,hq'⟩ l'' hl
                          rw [hq'] at hl
                          clear hq'
                          simp only [S0,S1] at hl
                          subst hl
                          refine sV (Av (evb rfl e1381) rfl) ?_ (hw:=wgT rfl e1309)
                          obtain rfl:=Option.some.inj f1411
                          exact HJ1380 _ _ ⟨(.agg #[.bool r147.1.Man.Neg,.slice A151 (sz r147.1.Man.Abs) c152,.int .i64 r147.1.Exp]),(.agg #[.bool r106.1.Man.Neg,.slice A110 (sz r106.1.Man.Abs) c111,.int .i64 r106.1.Exp]),(.bool r1390),(.bool z1395),(.bool z1395),t1413,t1414,t1415,t1416,(.bool m1409),(((UpdS.refl _ _).ext E1393).updS U1412 al0),(by simp only [S0,S1]<;>rfl)⟩
                        ·have p1382:=zN hz1314 e1381
                         have f1383:=ifN p1382 h1367
                         refine sP ?_ (hw:=wgF rfl e1381)
                         refine sP ?_ (hw:=wgF rfl e1381)
                         refine sP ?_ (hw:=wgF rfl e1381)
                         refine sP ?_ (hw:=wgF rfl e1381)
                         refine sP ?_ (hw:=wgF rfl e1381)
                         refine sP ?_
                         refine sP ?_
                         refine sP ?_
                         refine sP ?_
                         refine sP ?_ (hw:=wgF rfl e1381)
                         refine sV (Ax (evb rfl e1381) rfl) ?_ (hw:=wgT rfl e1309)
                         obtain rfl:=Option.some.inj f1383
                         exact HJ1380 _ _ ⟨undef,undef,undef,undef,undef,undef,undef,undef,undef,undef,(UpdS.refl _ _),(by simp only [S0,S1]<;>rfl)⟩
                       ·rintro l' w41 ⟨t1370,t1371,t1372,t1373,t1374,t1375,t1376,t1377,t1378,t1379,U1369,hq'⟩ l'' hl
                        rw [hq'] at hl
                        clear hq'
                        simp only [S0,S1] at hl
                        subst hl
                        refine sV (Ax (evb rfl e1309) rfl) ?_
                        obtain rfl:=Option.some.inj f1368
                        exact HJ1308 _ _ ⟨(.int .i64 r988.1),(.bool z1314),(.bool z1314),t1370,t1371,t1372,t1373,t1374,t1375,t1376,t1377,t1378,t1379,(.bool m1366),((UpdS.refl _ _).updS U1369 al0),(by simp only [S0,S1]<;>rfl)⟩
                     ·rintro l' w41 ⟨t1294,t1295,t1296,t1297,t1298,t1299,t1300,t1301,t1302,t1303,t1304,t1305,t1306,t1307,U1293,hq'⟩ l'' hl
                      rw [hq'] at hl
                      clear hq'
                      simp only [S0,S1] at hl
                      subst hl
                      have X1433:=Ez X1165 U1293 (X1165).size al0
                      refine Ad<|h1046 _ _ ?_
                      rcases Bool.eq_false_or_eq_true m1290 with e1440 | e1440
                      ·have p1443:=e1440
                       have f1444:=ifP p1443 f1292
                       refine wp_cond_true (An (evb rfl e1440))<|wp_seq_k fun K1759 h1759=>Aj<|sV (Ac rfl) ?_
                       refine Ad<|h1759 _ _<|wp_ret ?_
                       obtain rfl:=Option.some.inj f1444
                       exact fin rfl (Res.tmp rfl Res.nil) (Ap X1433 rfl)
                      ·have p1441:=bF e1440
                       have f1442:=ifN p1441 f1292
                       refine wp_cond_false (An (evb rfl e1440))<|wp_skip<|h1045 _ _<|wp_seq_k fun K1445 h1445=>wp_seq_k fun K1446 h1446=>DR [] 23 mo rfl fun w42 E1447 S1448=>have X1449:=Ext.trans X1433 E1447;dA 0 rfl (fun _=>Aa rfl) ?_
                       refine dab 1 rfl (by kernel_rfl) (fun _ _ _ h=>h) (by rfl) (fun _=>CS rfl rfl) fun z1450 hz1450=>?_
                       refine dnrm ?_
                       refine dA 2 rfl (fun _=>Aa rfl) ?_
                       rcases Bool.eq_false_or_eq_true z1450 with e1451 | e1451
                       ·have p1454:=zP hz1450 e1451
                        have f1455:=ifP p1454 f1442
                        refine dV 3 rfl (fun _ hw=>Ai Ay rfl (((((((((((((((((((q183.updS U282 nm0).updS U321 nm0).ext E359).ext E695).ext F709).ext E716).ext F730).updS U750 nm0).updS U802 nm0).updS U873 nm0).ext E950).ext F964).ext E971).ext F985).ext E991).updS U1102 nm0).updS U1293 nm0).ext E1447).ext hw) rfl) S1448 ?_ (hw:=wgT rfl e1451)
                        refine dV 4 rfl (fun _ hw=>Ai Ay rfl (((((((q966.ext E971).ext F985).ext E991).updS U1102 nm0).updS U1293 nm0).ext E1447).ext hw) rfl) S1448 ?_ (hw:=wgT rfl e1451)
                        refine dA 6 rfl (fun _=>Ak (o':=0) FF rfl rfl) ?_ (hw:=wgT rfl e1451)
                        refine dA 7 rfl (fun _=>Ak (o':=0) Hp rfl rfl) ?_ (hw:=wgT rfl e1451)
                        refine dV 8 rfl (fun _ hw=>Am Hg rfl (Bx.cell (((((((((q944.ext E950).ext F964).ext E971).ext F985).ext E991).updS U1102 nm0).updS U1293 nm0).ext E1447).ext hw) rfl)) S1448 ?_ (hw:=wgT rfl e1451)
                        have n1541:=((((((((((((((((((n174.ext F185).updS U282 al0).updS U321 al0).ext E359).ext E695).ext F709).ext E716).ext F730).updS U750 al0).updS U802 al0).updS U873 al0).ext E950).ext F964).ext E971).ext F985).ext E991).updS U1102 al0).updS U1293 al0).ext E1447
                        have n1542:=(((((n967.ext E971).ext F985).ext E991).updS U1102 al0).updS U1293 al0).ext E1447
                        obtain ⟨r1543,h1544,f1545⟩:=Ab f1455
                        refine dc 5 rfl (by kernel_rfl) (wgT rfl e1451) (Af EM (by rfl)) (AA r168.1 r106.1 A172 c173 A110 c111 w42 (TB.ext X1449 hT) n1541 n1542 r1543 h1544) ?_
                        rintro _ w43 E1546 rfl
                        refine dnrm ?_
                        have X1547:=Ext.trans X1449 E1546
                        have S1548:=S1448.trans E1546
                        refine dab 9 rfl (by kernel_rfl) (fun _ _ _ h=>h) (wgT rfl e1451) (fun _=>Lr Nj rfl rfl) fun z1549 hz1549=>?_
                        refine dnrm ?_
                        refine dA 10 rfl (fun _=>Aa rfl) ?_ (hw:=wgT rfl e1451)
                        rcases Bool.eq_false_or_eq_true z1549 with e1550 | e1550
                        ·have p1553:=zP hz1549 e1550
                         have f1554:=ifP p1553 f1545
                         refine dP 11 rfl ?_ (hw:=wgF rfl e1550)
                         refine dP 12 rfl ?_ (hw:=wgF rfl e1550)
                         refine dP 13 rfl ?_ (hw:=wgF rfl e1550)
                         refine dP 14 rfl ?_ (hw:=wgF rfl e1550)
                         refine dP 15 rfl ?_ (hw:=wgF rfl e1550)
                         refine dP 16 rfl ?_
                         refine dP 17 rfl ?_
                         refine dP 18 rfl ?_
                         refine dP 19 rfl ?_
                         refine dP 20 rfl ?_ (hw:=wgF rfl e1550)
                         refine dA 21 rfl (fun _=>Av (evb rfl e1550) rfl) ?_ (hw:=wgT rfl e1451)
                         refine dA 22 rfl (fun _=>Av (evb rfl e1451) rfl) ?_
                         refine Cx (by kernel_rfl) ?_
                         refine h1446 _ _<|wp_cond_true (An (evb rfl rfl))<|wp_seq_k fun K1758 h1758=>Aj<|sV (Ac rfl) ?_
                         refine Ad<|h1758 _ _<|wp_ret ?_
                         obtain rfl:=Option.some.inj f1554
                         exact fin rfl (Res.tmp rfl Res.nil) (Ap X1547 rfl)
                        ·have p1551:=zN hz1549 e1550
                         have f1552:=ifN p1551 f1545
                         refine dV 11 rfl (fun _ hw=>Ai Ay rfl (((((((((((((((((((((q162.ext E171).ext F185).updS U282 nm0).updS U321 nm0).ext E359).ext E695).ext F709).ext E716).ext F730).updS U750 nm0).updS U802 nm0).updS U873 nm0).ext E950).ext F964).ext E971).ext F985).ext E991).updS U1102 nm0).updS U1293 nm0).ext E1447).ext hw) rfl) S1548 ?_ (hw:=wgT rfl e1550)
                         refine dV 12 rfl (fun _ hw=>Ai Ay rfl (((((((q966.ext E971).ext F985).ext E991).updS U1102 nm0).updS U1293 nm0).ext E1447).ext hw) rfl) S1548 ?_ (hw:=wgT rfl e1550)
                         have n1555:=(((((((((((((((((((((n153.ext F164).ext E171).ext F185).updS U282 al0).updS U321 al0).ext E359).ext E695).ext F709).ext E716).ext F730).updS U750 al0).updS U802 al0).updS U873 al0).ext E950).ext F964).ext E971).ext F985).ext E991).updS U1102 al0).updS U1293 al0).ext E1447).ext E1546
                         obtain ⟨r1556,h1557,f1558⟩:=Ab f1552
                         refine dc 13 rfl (by kernel_rfl) (wgT rfl e1550) (Af EM (by rfl)) (AA r147.1 r106.1 A151 c152 A110 c111 w43 (TB.ext X1547 hT) n1555 (n1542.ext E1546) r1556 h1557) ?_
                         rintro _ w44 E1559 rfl
                         refine dnrm ?_
                         have X1560:=Ext.trans X1547 E1559
                         have S1561:=S1548.trans E1559
                         refine dab 14 rfl (by kernel_rfl) (fun _ _ _ h=>h) (wgT rfl e1550) (fun _=>BE rfl) fun z1562 hz1562=>?_
                         refine dnrm ?_
                         refine dA 15 rfl (fun _=>Aa rfl) ?_ (hw:=wgT rfl e1550)
                         rcases Bool.eq_false_or_eq_true z1562 with e1563 | e1563
                         ·have p1566:=zP hz1562 e1563
                          have f1567:=ifP p1566 f1558
                          refine dV 16 rfl (fun _ hw=>Ai Ay rfl (((((((((((((((((((((q162.ext E171).ext F185).updS U282 nm0).updS U321 nm0).ext E359).ext E695).ext F709).ext E716).ext F730).updS U750 nm0).updS U802 nm0).updS U873 nm0).ext E950).ext F964).ext E971).ext F985).ext E991).updS U1102 nm0).updS U1293 nm0).ext E1447).ext hw) rfl) S1561 ?_ (hw:=wgT rfl e1563)
                          refine dV 17 rfl (fun _ hw=>Ai Ay rfl (((((((((q945.ext E950).ext F964).ext E971).ext F985).ext E991).updS U1102 nm0).updS U1293 nm0).ext E1447).ext hw) rfl) S1561 ?_ (hw:=wgT rfl e1563)
                          have n1653:=(((((((((n946.ext E950).ext F964).ext E971).ext F985).ext E991).updS U1102 al0).updS U1293 al0).ext E1447).ext E1546).ext E1559
                          obtain ⟨r1654,h1655,f1656⟩:=Ab f1567
                          refine dc 18 rfl (by kernel_rfl) (wgT rfl e1563) (Af EM (by rfl)) (AA r147.1 r86.1 A151 c152 A90 c91 w44 (TB.ext X1560 hT) (n1555.ext E1559) n1653 r1654 h1655) ?_
                          rintro _ w45 E1657 rfl
                          refine dnrm ?_
                          have X1658:=Ext.trans X1560 E1657
                          have S1659:=S1561.trans E1657
                          refine dab 19 rfl (by kernel_rfl) (fun _ _ _ h=>h) (wgT rfl e1563) (fun _=>BE rfl) fun z1660 hz1660=>?_
                          refine dnrm ?_
                          refine dA 20 rfl (fun _=>Av (evb rfl e1563) rfl) ?_ (hw:=wgT rfl e1550)
                          refine dA 21 rfl (fun _=>Ax (evb rfl e1550) rfl) ?_ (hw:=wgT rfl e1451)
                          refine dA 22 rfl (fun _=>Av (evb rfl e1451) rfl) ?_
                          refine Cx (by kernel_rfl) ?_
                          refine h1446 _ _ ?_
                          rcases Bool.eq_false_or_eq_true z1660 with e1667 | e1667
                          ·have p1670:=zP hz1660 e1667
                           have f1671:=ifP p1670 f1656
                           refine wp_cond_true (An (evb rfl e1667))<|wp_seq_k fun K1757 h1757=>Aj<|sV (Ac rfl) ?_
                           refine Ad<|h1757 _ _<|wp_ret ?_
                           obtain rfl:=Option.some.inj f1671
                           exact fin rfl (Res.tmp rfl Res.nil) (Ap X1658 rfl)
                          ·have p1668:=zN hz1660 e1667
                           have f1669:=ifN p1668 f1656
                           refine wp_cond_false (An (evb rfl e1667))<|wp_skip<|h1445 _ _<|wp_seq_k fun K1672 h1672=>Aj ?_
                           obtain ⟨r1673,h1674,f1675⟩:=Ab f1669
                           refine sc (Af KA (by rfl)) (CZ w45 (TB.ext X1658 hT)  r1673 h1674) ?_
                           rintro _ w46 E1676 rfl
                           refine nrm ?_
                           have X1677:=Ext.trans X1658 E1676
                           refine sV (Aa rfl) ?_
                           obtain ⟨m1696,h1697,f1698⟩:=Ab f1675
                           refine AR 7 (fun l l' w'=>∃(t1700:Value) (t1701:Value) (t1702:Value) (t1703:Value),UpdS [] w46 w'∧l'=(((((l.set 276 t1700).set 277 t1701).set 278 t1702).set 279 t1703).set 280 (.bool m1696))) ?_ ?_
                           ·intro HJ1704
                            rcases Bool.eq_false_or_eq_true r1673 with e1705 | e1705
                            ·have p1708:=e1705
                             have f1709:=ifP p1708 h1697
                             have q1710:=(((((((((((q944.ext E950).ext F964).ext E971).ext F985).ext E991).updS U1102 nm0).updS U1293 nm0).ext E1447).ext E1546).ext E1559).ext E1657).ext E1676
                             refine sV (Ai Ay rfl q1710 rfl) ?_ (hw:=wgT rfl e1705)
                             have q1711:=((((((((((((((((((((((((((((((((((q15.ext E21).ext E29).updS U46 nm0).ext E89).ext F103).ext E109).ext F123).ext E130).ext F144).ext E150).ext F164).ext E171).ext F185).updS U282 nm0).updS U321 nm0).ext E359).ext E695).ext F709).ext E716).ext F730).updS U750 nm0).updS U802 nm0).updS U873 nm0).ext E950).ext F964).ext E971).ext F985).ext E991).updS U1102 nm0).updS U1293 nm0).ext E1447).ext E1546).ext E1559).ext E1657).ext E1676
                             refine sV (Ai Ay rfl q1711 rfl) ?_ (hw:=wgT rfl e1705)
                             refine sV (Aa rfl) ?_ (hw:=wgT rfl e1705)
                             have n1712:RU w46 A1 c2 m81:=by unfold RU;rw [hx84];exact (n3.ext X1677)
                             obtain ⟨m1713,h1714,f1715⟩:=Ab f1709
                             have hx1716:=Cc h1714
                             have n1717:RU w46 A4 c5 m1713:=by unfold RU;rw [hx1716];exact (n6.ext X1677)
                             obtain ⟨r1718,h1719,f1720⟩:=Ab f1715
                             refine sc (Af Nc (by simp only [sz,hx84,hx1716];rfl)) (Gb (⟨(⟨x0.Man.Neg,m81⟩:Ah),x0.Exp⟩:Ae) (⟨(⟨x1.Man.Neg,m1713⟩:Ah),x1.Exp⟩:Ae) x2 A1 c2 A4 c5 w46 (TB.ext X1677 hT) n1712 n1717 r1718 h1719) ?_ (hw:=wgT rfl e1705)
                             rintro _ w47 E1721 rfl
                             refine nrm ?_
                             refine sV (Av (evb rfl e1705) rfl) ?_
                             obtain rfl:=Option.some.inj f1720
                             exact HJ1704 _ _ ⟨(.agg #[.bool x0.Man.Neg,.slice A1 (List.length x0.Man.Abs) c2,.int .i64 x0.Exp]),(.agg #[.bool x1.Man.Neg,.slice A4 (List.length x1.Man.Abs) c5,.int .i64 x1.Exp]),(.int .i64 x2),(.bool r1718),((UpdS.refl _ _).ext E1721),(by simp only [S0,S1]<;>rfl)⟩
                            ·have p1706:=bF e1705
                             have f1707:=ifN p1706 h1697
                             refine sP ?_ (hw:=wgF rfl e1705)
                             refine sP ?_ (hw:=wgF rfl e1705)
                             refine sP ?_ (hw:=wgF rfl e1705)
                             refine sP ?_ (hw:=wgF rfl e1705)
                             refine sV (Ax (evb rfl e1705) rfl) ?_
                             obtain rfl:=Option.some.inj f1707
                             exact HJ1704 _ _ ⟨undef,undef,undef,undef,(UpdS.refl _ _),(by simp only [S0,S1]<;>rfl)⟩
                           ·rintro l' w47 ⟨t1700,t1701,t1702,t1703,U1699,hq'⟩ l'' hl
                            rw [hq'] at hl
                            clear hq'
                            simp only [S0,S1] at hl
                            subst hl
                            have X1723:=Ez X1677 U1699 (X1677).size al0
                            refine sV (Aa rfl) ?_
                            obtain ⟨m1736,h1737,f1738⟩:=Ab f1698
                            refine AR 12 (fun l l' w'=>∃(t1740:Value) (t1741:Value) (t1742:Value),UpdS [] w47 w'∧l'=((((l.set 282 t1740).set 283 t1741).set 284 t1742).set 285 (.bool m1736))) ?_ ?_
                            ·intro HJ1743
                             rcases Bool.eq_false_or_eq_true m1696 with e1744 | e1744
                             ·have p1747:=e1744
                              have f1748:=ifP p1747 h1737
                              have q1749:=((((((((((((q944.ext E950).ext F964).ext E971).ext F985).ext E991).updS U1102 nm0).updS U1293 nm0).ext E1447).ext E1546).ext E1559).ext E1657).ext E1676).updS U1699 nm0
                              refine sV (Ai Ay rfl q1749 rfl) ?_ (hw:=wgT rfl e1744)
                              refine sV (Aa rfl) ?_ (hw:=wgT rfl e1744)
                              have n1750:RU w47 A1 c2 m81:=by unfold RU;rw [hx84];exact (n3.ext X1723)
                              obtain ⟨r1751,h1752,f1753⟩:=Ab f1748
                              refine sc (Af MP (by simp only [sz,hx84];rfl)) (Fz (⟨(⟨x0.Man.Neg,m81⟩:Ah),x0.Exp⟩:Ae) x2 A1 c2 w47 (TB.ext X1723 hT) n1750 r1751 h1752) ?_ (hw:=wgT rfl e1744)
                              rintro _ w48 E1754 rfl
                              refine nrm ?_
                              refine sV (Av (evb rfl e1744) rfl) ?_
                              obtain rfl:=Option.some.inj f1753
                              exact HJ1743 _ _ ⟨(.agg #[.bool x0.Man.Neg,.slice A1 (List.length x0.Man.Abs) c2,.int .i64 x0.Exp]),(.int .i64 x2),(.bool r1751),((UpdS.refl _ _).ext E1754),(by simp only [S0,S1]<;>rfl)⟩
                             ·have p1745:=bF e1744
                              have f1746:=ifN p1745 h1737
                              refine sP ?_ (hw:=wgF rfl e1744)
                              refine sP ?_ (hw:=wgF rfl e1744)
                              refine sP ?_ (hw:=wgF rfl e1744)
                              refine sV (Ax (evb rfl e1744) rfl) ?_
                              obtain rfl:=Option.some.inj f1746
                              exact HJ1743 _ _ ⟨undef,undef,undef,(UpdS.refl _ _),(by simp only [S0,S1]<;>rfl)⟩
                            ·rintro l' w48 ⟨t1740,t1741,t1742,U1739,hq'⟩ l'' hl
                             rw [hq'] at hl
                             clear hq'
                             simp only [S0,S1] at hl
                             subst hl
                             have X1756:=Ez X1723 U1739 (X1723).size al0
                             refine sV (Ac rfl) ?_
                             refine Ad<|h1672 _ _<|wp_ret ?_
                             obtain rfl:=Option.some.inj f1738
                             exact fin rfl (Res.tmp rfl Res.nil) (Ap X1756 rfl)
                         ·have p1564:=zN hz1562 e1563
                          have f1565:=ifN p1564 f1558
                          refine dP 16 rfl ?_ (hw:=wgF rfl e1563)
                          refine dP 17 rfl ?_ (hw:=wgF rfl e1563)
                          refine dP 18 rfl ?_ (hw:=wgF rfl e1563)
                          refine dP 19 rfl ?_ (hw:=wgF rfl e1563)
                          refine dA 20 rfl (fun _=>Ax (evb rfl e1563) rfl) ?_ (hw:=wgT rfl e1550)
                          refine dA 21 rfl (fun _=>Ax (evb rfl e1550) rfl) ?_ (hw:=wgT rfl e1451)
                          refine dA 22 rfl (fun _=>Av (evb rfl e1451) rfl) ?_
                          refine Cx (by kernel_rfl) ?_
                          refine h1446 _ _<|wp_cond_false (An (evb rfl rfl))<|wp_skip<|h1445 _ _<|wp_seq_k fun K1568 h1568=>Aj ?_
                          obtain ⟨r1569,h1570,f1571⟩:=Ab f1565
                          refine sc (Af KA (by rfl)) (CZ w44 (TB.ext X1560 hT)  r1569 h1570) ?_
                          rintro _ w45 E1572 rfl
                          refine nrm ?_
                          have X1573:=Ext.trans X1560 E1572
                          refine sV (Aa rfl) ?_
                          obtain ⟨m1592,h1593,f1594⟩:=Ab f1571
                          refine AR 7 (fun l l' w'=>∃(t1596:Value) (t1597:Value) (t1598:Value) (t1599:Value),UpdS [] w45 w'∧l'=(((((l.set 276 t1596).set 277 t1597).set 278 t1598).set 279 t1599).set 280 (.bool m1592))) ?_ ?_
                          ·intro HJ1600
                           rcases Bool.eq_false_or_eq_true r1569 with e1601 | e1601
                           ·have p1604:=e1601
                            have f1605:=ifP p1604 h1593
                            have q1606:=((((((((((q944.ext E950).ext F964).ext E971).ext F985).ext E991).updS U1102 nm0).updS U1293 nm0).ext E1447).ext E1546).ext E1559).ext E1572
                            refine sV (Ai Ay rfl q1606 rfl) ?_ (hw:=wgT rfl e1601)
                            have q1607:=(((((((((((((((((((((((((((((((((q15.ext E21).ext E29).updS U46 nm0).ext E89).ext F103).ext E109).ext F123).ext E130).ext F144).ext E150).ext F164).ext E171).ext F185).updS U282 nm0).updS U321 nm0).ext E359).ext E695).ext F709).ext E716).ext F730).updS U750 nm0).updS U802 nm0).updS U873 nm0).ext E950).ext F964).ext E971).ext F985).ext E991).updS U1102 nm0).updS U1293 nm0).ext E1447).ext E1546).ext E1559).ext E1572
                            refine sV (Ai Ay rfl q1607 rfl) ?_ (hw:=wgT rfl e1601)
                            refine sV (Aa rfl) ?_ (hw:=wgT rfl e1601)
                            have n1608:RU w45 A1 c2 m81:=by unfold RU;rw [hx84];exact (n3.ext X1573)
                            obtain ⟨m1609,h1610,f1611⟩:=Ab f1605
                            have hx1612:=Cc h1610
                            have n1613:RU w45 A4 c5 m1609:=by unfold RU;rw [hx1612];exact (n6.ext X1573)
                            obtain ⟨r1614,h1615,f1616⟩:=Ab f1611
                            refine sc (Af Nc (by simp only [sz,hx84,hx1612];rfl)) (Gb (⟨(⟨x0.Man.Neg,m81⟩:Ah),x0.Exp⟩:Ae) (⟨(⟨x1.Man.Neg,m1609⟩:Ah),x1.Exp⟩:Ae) x2 A1 c2 A4 c5 w45 (TB.ext X1573 hT) n1608 n1613 r1614 h1615) ?_ (hw:=wgT rfl e1601)
                            rintro _ w46 E1617 rfl
                            refine nrm ?_
                            refine sV (Av (evb rfl e1601) rfl) ?_
                            obtain rfl:=Option.some.inj f1616
                            exact HJ1600 _ _ ⟨(.agg #[.bool x0.Man.Neg,.slice A1 (List.length x0.Man.Abs) c2,.int .i64 x0.Exp]),(.agg #[.bool x1.Man.Neg,.slice A4 (List.length x1.Man.Abs) c5,.int .i64 x1.Exp]),(.int .i64 x2),(.bool r1614),((UpdS.refl _ _).ext E1617),(by simp only [S0,S1]<;>rfl)⟩
                           ·have p1602:=bF e1601
                            have f1603:=ifN p1602 h1593
                            refine sP ?_ (hw:=wgF rfl e1601)
                            refine sP ?_ (hw:=wgF rfl e1601)
                            refine sP ?_ (hw:=wgF rfl e1601)
                            refine sP ?_ (hw:=wgF rfl e1601)
                            refine sV (Ax (evb rfl e1601) rfl) ?_
                            obtain rfl:=Option.some.inj f1603
                            exact HJ1600 _ _ ⟨undef,undef,undef,undef,(UpdS.refl _ _),(by simp only [S0,S1]<;>rfl)⟩
                          ·rintro l' w46 ⟨t1596,t1597,t1598,t1599,U1595,hq'⟩ l'' hl
                           rw [hq'] at hl
                           clear hq'
                           simp only [S0,S1] at hl
                           subst hl
                           have X1619:=Ez X1573 U1595 (X1573).size al0
                           refine sV (Aa rfl) ?_
                           obtain ⟨m1632,h1633,f1634⟩:=Ab f1594
                           refine AR 12 (fun l l' w'=>∃(t1636:Value) (t1637:Value) (t1638:Value),UpdS [] w46 w'∧l'=((((l.set 282 t1636).set 283 t1637).set 284 t1638).set 285 (.bool m1632))) ?_ ?_
                           ·intro HJ1639
                            rcases Bool.eq_false_or_eq_true m1592 with e1640 | e1640
                            ·have p1643:=e1640
                             have f1644:=ifP p1643 h1633
                             have q1645:=(((((((((((q944.ext E950).ext F964).ext E971).ext F985).ext E991).updS U1102 nm0).updS U1293 nm0).ext E1447).ext E1546).ext E1559).ext E1572).updS U1595 nm0
                             refine sV (Ai Ay rfl q1645 rfl) ?_ (hw:=wgT rfl e1640)
                             refine sV (Aa rfl) ?_ (hw:=wgT rfl e1640)
                             have n1646:RU w46 A1 c2 m81:=by unfold RU;rw [hx84];exact (n3.ext X1619)
                             obtain ⟨r1647,h1648,f1649⟩:=Ab f1644
                             refine sc (Af MP (by simp only [sz,hx84];rfl)) (Fz (⟨(⟨x0.Man.Neg,m81⟩:Ah),x0.Exp⟩:Ae) x2 A1 c2 w46 (TB.ext X1619 hT) n1646 r1647 h1648) ?_ (hw:=wgT rfl e1640)
                             rintro _ w47 E1650 rfl
                             refine nrm ?_
                             refine sV (Av (evb rfl e1640) rfl) ?_
                             obtain rfl:=Option.some.inj f1649
                             exact HJ1639 _ _ ⟨(.agg #[.bool x0.Man.Neg,.slice A1 (List.length x0.Man.Abs) c2,.int .i64 x0.Exp]),(.int .i64 x2),(.bool r1647),((UpdS.refl _ _).ext E1650),(by simp only [S0,S1]<;>rfl)⟩
                            ·have p1641:=bF e1640
                             have f1642:=ifN p1641 h1633
                             refine sP ?_ (hw:=wgF rfl e1640)
                             refine sP ?_ (hw:=wgF rfl e1640)
                             refine sP ?_ (hw:=wgF rfl e1640)
                             refine sV (Ax (evb rfl e1640) rfl) ?_
                             obtain rfl:=Option.some.inj f1642
                             exact HJ1639 _ _ ⟨undef,undef,undef,(UpdS.refl _ _),(by simp only [S0,S1]<;>rfl)⟩
                           ·rintro l' w47 ⟨t1636,t1637,t1638,U1635,hq'⟩ l'' hl
                            rw [hq'] at hl
                            clear hq'
                            simp only [S0,S1] at hl
                            subst hl
                            have X1652:=Ez X1619 U1635 (X1619).size al0
                            refine sV (Ac rfl) ?_
                            refine Ad<|h1568 _ _<|wp_ret ?_
                            obtain rfl:=Option.some.inj f1634
                            exact fin rfl (Res.tmp rfl Res.nil) (Ap X1652 rfl)
                       ·have p1452:=zN hz1450 e1451
                        have f1453:=ifN p1452 f1442
                        refine dP 3 rfl ?_ (hw:=wgF rfl e1451)
                        refine dP 4 rfl ?_ (hw:=wgF rfl e1451)
                        refine dP 5 rfl ?_ (hw:=wgF rfl e1451)
                        refine dP 6 rfl ?_ (hw:=wgF rfl e1451)
                        refine dP 7 rfl ?_ (hw:=wgF rfl e1451)
                        refine dP 8 rfl ?_ (hw:=wgF rfl e1451)
                        refine dP 9 rfl ?_ (hw:=wgF rfl e1451)
                        refine dP 10 rfl ?_ (hw:=wgF rfl e1451)
                        refine dP 11 rfl ?_
                        refine dP 12 rfl ?_
                        refine dP 13 rfl ?_
                        refine dP 14 rfl ?_
                        refine dP 15 rfl ?_
                        refine dP 16 rfl ?_
                        refine dP 17 rfl ?_
                        refine dP 18 rfl ?_
                        refine dP 19 rfl ?_
                        refine dP 20 rfl ?_
                        refine dP 21 rfl ?_ (hw:=wgF rfl e1451)
                        refine dA 22 rfl (fun _=>Ax (evb rfl e1451) rfl) ?_
                        refine Cx (by kernel_rfl) ?_
                        refine h1446 _ _<|wp_cond_false (An (evb rfl rfl))<|wp_skip<|h1445 _ _<|wp_seq_k fun K1456 h1456=>Aj ?_
                        obtain ⟨r1457,h1458,f1459⟩:=Ab f1453
                        refine sc (Af KA (by rfl)) (CZ w42 (TB.ext X1449 hT)  r1457 h1458) ?_
                        rintro _ w43 E1460 rfl
                        refine nrm ?_
                        have X1461:=Ext.trans X1449 E1460
                        refine sV (Aa rfl) ?_
                        obtain ⟨m1480,h1481,f1482⟩:=Ab f1459
                        refine AR 7 (fun l l' w'=>∃(t1484:Value) (t1485:Value) (t1486:Value) (t1487:Value),UpdS [] w43 w'∧l'=(((((l.set 276 t1484).set 277 t1485).set 278 t1486).set 279 t1487).set 280 (.bool m1480))) ?_ ?_
                        ·intro HJ1488
                         rcases Bool.eq_false_or_eq_true r1457 with e1489 | e1489
                         ·have p1492:=e1489
                          have f1493:=ifP p1492 h1481
                          have q1494:=((((((((q944.ext E950).ext F964).ext E971).ext F985).ext E991).updS U1102 nm0).updS U1293 nm0).ext E1447).ext E1460
                          refine sV (Ai Ay rfl q1494 rfl) ?_ (hw:=wgT rfl e1489)
                          have q1495:=(((((((((((((((((((((((((((((((q15.ext E21).ext E29).updS U46 nm0).ext E89).ext F103).ext E109).ext F123).ext E130).ext F144).ext E150).ext F164).ext E171).ext F185).updS U282 nm0).updS U321 nm0).ext E359).ext E695).ext F709).ext E716).ext F730).updS U750 nm0).updS U802 nm0).updS U873 nm0).ext E950).ext F964).ext E971).ext F985).ext E991).updS U1102 nm0).updS U1293 nm0).ext E1447).ext E1460
                          refine sV (Ai Ay rfl q1495 rfl) ?_ (hw:=wgT rfl e1489)
                          refine sV (Aa rfl) ?_ (hw:=wgT rfl e1489)
                          have n1496:RU w43 A1 c2 m81:=by unfold RU;rw [hx84];exact (n3.ext X1461)
                          obtain ⟨m1497,h1498,f1499⟩:=Ab f1493
                          have hx1500:=Cc h1498
                          have n1501:RU w43 A4 c5 m1497:=by unfold RU;rw [hx1500];exact (n6.ext X1461)
                          obtain ⟨r1502,h1503,f1504⟩:=Ab f1499
                          refine sc (Af Nc (by simp only [sz,hx84,hx1500];rfl)) (Gb (⟨(⟨x0.Man.Neg,m81⟩:Ah),x0.Exp⟩:Ae) (⟨(⟨x1.Man.Neg,m1497⟩:Ah),x1.Exp⟩:Ae) x2 A1 c2 A4 c5 w43 (TB.ext X1461 hT) n1496 n1501 r1502 h1503) ?_ (hw:=wgT rfl e1489)
                          rintro _ w44 E1505 rfl
                          refine nrm ?_
                          refine sV (Av (evb rfl e1489) rfl) ?_
                          obtain rfl:=Option.some.inj f1504
                          exact HJ1488 _ _ ⟨(.agg #[.bool x0.Man.Neg,.slice A1 (List.length x0.Man.Abs) c2,.int .i64 x0.Exp]),(.agg #[.bool x1.Man.Neg,.slice A4 (List.length x1.Man.Abs) c5,.int .i64 x1.Exp]),(.int .i64 x2),(.bool r1502),((UpdS.refl _ _).ext E1505),(by simp only [S0,S1]<;>rfl)⟩
                         ·have p1490:=bF e1489
                          have f1491:=ifN p1490 h1481
                          refine sP ?_ (hw:=wgF rfl e1489)
                          refine sP ?_ (hw:=wgF rfl e1489)
                          refine sP ?_ (hw:=wgF rfl e1489)
                          refine sP ?_ (hw:=wgF rfl e1489)
                          refine sV (Ax (evb rfl e1489) rfl) ?_
                          obtain rfl:=Option.some.inj f1491
                          exact HJ1488 _ _ ⟨undef,undef,undef,undef,(UpdS.refl _ _),(by simp only [S0,S1]<;>rfl)⟩
                        ·rintro l' w44 ⟨t1484,t1485,t1486,t1487,U1483,hq'⟩ l'' hl
                         rw [hq'] at hl
                         clear hq'
                         simp only [S0,S1] at hl
                         subst hl
                         have X1507:=Ez X1461 U1483 (X1461).size al0
                         refine sV (Aa rfl) ?_
                         obtain ⟨m1520,h1521,f1522⟩:=Ab f1482
                         refine AR 12 (fun l l' w'=>∃(t1524:Value) (t1525:Value) (t1526:Value),UpdS [] w44 w'∧l'=((((l.set 282 t1524).set 283 t1525).set 284 t1526).set 285 (.bool m1520))) ?_ ?_
                         ·intro HJ1527
                          rcases Bool.eq_false_or_eq_true m1480 with e1528 | e1528
                          ·have p1531:=e1528
                           have f1532:=ifP p1531 h1521
                           have q1533:=(((((((((q944.ext E950).ext F964).ext E971).ext F985).ext E991).updS U1102 nm0).updS U1293 nm0).ext E1447).ext E1460).updS U1483 nm0
                           refine sV (Ai Ay rfl q1533 rfl) ?_ (hw:=wgT rfl e1528)
                           refine sV (Aa rfl) ?_ (hw:=wgT rfl e1528)
                           have n1534:RU w44 A1 c2 m81:=by unfold RU;rw [hx84];exact (n3.ext X1507)
                           obtain ⟨r1535,h1536,f1537⟩:=Ab f1532
                           refine sc (Af MP (by simp only [sz,hx84];rfl)) (Fz (⟨(⟨x0.Man.Neg,m81⟩:Ah),x0.Exp⟩:Ae) x2 A1 c2 w44 (TB.ext X1507 hT) n1534 r1535 h1536) ?_ (hw:=wgT rfl e1528)
                           rintro _ w45 E1538 rfl
                           refine nrm ?_
                           refine sV (Av (evb rfl e1528) rfl) ?_
                           obtain rfl:=Option.some.inj f1537
                           exact HJ1527 _ _ ⟨(.agg #[.bool x0.Man.Neg,.slice A1 (List.length x0.Man.Abs) c2,.int .i64 x0.Exp]),(.int .i64 x2),(.bool r1535),((UpdS.refl _ _).ext E1538),(by simp only [S0,S1]<;>rfl)⟩
                          ·have p1529:=bF e1528
                           have f1530:=ifN p1529 h1521
                           refine sP ?_ (hw:=wgF rfl e1528)
                           refine sP ?_ (hw:=wgF rfl e1528)
                           refine sP ?_ (hw:=wgF rfl e1528)
                           refine sV (Ax (evb rfl e1528) rfl) ?_
                           obtain rfl:=Option.some.inj f1530
                           exact HJ1527 _ _ ⟨undef,undef,undef,(UpdS.refl _ _),(by simp only [S0,S1]<;>rfl)⟩
                         ·rintro l' w45 ⟨t1524,t1525,t1526,U1523,hq'⟩ l'' hl
                          rw [hq'] at hl
                          clear hq'
                          simp only [S0,S1] at hl
                          subst hl
                          have X1540:=Ez X1507 U1523 (X1507).size al0
                          refine sV (Ac rfl) ?_
                          refine Ad<|h1456 _ _<|wp_ret ?_
                          obtain rfl:=Option.some.inj f1522
                          exact fin rfl (Res.tmp rfl Res.nil) (Ap X1540 rfl)
end Go.Proofs
