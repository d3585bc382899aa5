import Derived.Test.YtabiobmfelafoaaDoorGen2
namespace Go.Proofs
set_option linter.unusedVariables false
set_option linter.unusedSimpArgs false
set_option maxHeartbeats 4000000
open Go.RowKit Go.Sb Go.Proofs.Sbn
set_option maxRecDepth 20000 in
theorem c_sorobanlaw04_DyadNarrows (x0:An) (x1:An) (x2:An) (x3:Int) (x4:Int) (A1:Option Addr) (c2:Nat) (A4:Option Addr) (c5:Nat) (A7:Option Addr) (c8:Nat) (A10:Option Addr) (c11:Nat) (A13:Option Addr) (c14:Nat) (A16:Option Addr) (c17:Nat) (w:World) (hT:TB w) (n3:RLu w A1 c2 x0.Lo.Man.Abs) (n6:RLu w A4 c5 x0.Hi.Man.Abs) (n9:RLu w A7 c8 x1.Lo.Man.Abs) (n12:RLu w A10 c11 x1.Hi.Man.Abs) (n15:RLu w A13 c14 x2.Lo.Man.Abs) (n18:RLu w A16 c17 x2.Hi.Man.Abs) (r:Bool) (hr:Dn x0 x1 x2 x3 x4=some r) :
  Calls Tryd.prog 4 #[.agg #[.bool x0.Lo.Man.Neg,.slice A1 (List.length x0.Lo.Man.Abs) c2,.int .i64 x0.Lo.Exp,.bool x0.Hi.Man.Neg,.slice A4 (List.length x0.Hi.Man.Abs) c5,.int .i64 x0.Hi.Exp],.agg #[.bool x1.Lo.Man.Neg,.slice A7 (List.length x1.Lo.Man.Abs) c8,.int .i64 x1.Lo.Exp,.bool x1.Hi.Man.Neg,.slice A10 (List.length x1.Hi.Man.Abs) c11,.int .i64 x1.Hi.Exp],.agg #[.bool x2.Lo.Man.Neg,.slice A13 (List.length x2.Lo.Man.Abs) c14,.int .i64 x2.Lo.Exp,.bool x2.Hi.Man.Neg,.slice A16 (List.length x2.Hi.Man.Abs) c17,.int .i64 x2.Hi.Exp],.int .i64 x3,.int .i64 x4] w (Ret Fi w r):=by
 unfold Dn at hr
 refine Kk Tryd.func4 rfl [.agg #[.bool x0.Lo.Man.Neg,.slice A1 (List.length x0.Lo.Man.Abs) c2,.int .i64 x0.Lo.Exp,.bool x0.Hi.Man.Neg,.slice A4 (List.length x0.Hi.Man.Abs) c5,.int .i64 x0.Hi.Exp],.agg #[.bool x1.Lo.Man.Neg,.slice A7 (List.length x1.Lo.Man.Abs) c8,.int .i64 x1.Lo.Exp,.bool x1.Hi.Man.Neg,.slice A10 (List.length x1.Hi.Man.Abs) c11,.int .i64 x1.Hi.Exp],.agg #[.bool x2.Lo.Man.Neg,.slice A13 (List.length x2.Lo.Man.Abs) c14,.int .i64 x2.Lo.Exp,.bool x2.Hi.Man.Neg,.slice A16 (List.length x2.Hi.Man.Abs) c17,.int .i64 x2.Hi.Exp],.int .i64 x3,.int .i64 x4,undef,undef,undef,undef,undef,undef,undef,undef,undef,undef,undef,undef,undef,undef,undef,undef,undef,undef,undef,undef,undef,undef,undef,undef,undef,undef,undef,undef,undef,undef,undef,undef,undef,undef,undef,undef,undef,undef,undef,undef,undef,undef,undef,undef,undef,undef,undef,undef,undef,undef,undef,undef,undef,undef,undef,undef,undef,undef,undef,undef,undef,undef,undef,undef,undef,undef,undef,undef,undef,undef,undef,undef,undef,undef,undef,undef,undef,undef,undef,undef,undef,undef,undef,undef,undef,undef,undef,undef,undef,undef,undef,undef,undef,undef,undef,undef,undef,undef,undef,undef,undef,undef,undef,undef,undef,undef,undef,undef,undef,undef,undef,undef,undef,undef,undef,undef,undef,undef,undef,undef,undef,undef,undef,undef,undef,undef,undef,undef,undef,undef,undef,undef,undef,undef,undef,undef,undef,undef,undef,undef,undef,undef,undef,undef,undef,undef,undef,undef,undef,undef,undef] (by kernel_rfl) ?_
 refine wp_seq_k fun K19 h19=>Ai<|Bu rfl rfl fun b20 w1 E21 g22 q23=>?_
 refine nrm ?_
 refine Bu rfl rfl fun b24 w2 E25 g26 q27=>?_
 refine nrm ?_
 have g28:=Nat.le_trans E21.size g26
 have X29:=Ext.trans E21 E25
 refine Bu rfl rfl fun b30 w3 E31 g32 q33=>?_
 refine nrm ?_
 have g34:=Nat.le_trans X29.size g32
 have X35:=Ext.trans X29 E31
 refine sV (Ac rfl) ?_
 refine Ad<|h19 _ _<|wp_seq_k fun K36 h36=>wp_seq_k fun K37 h37=>Ai<|sV (Al AG rfl ((q23.ext E25).ext E31) rfl) ?_
 obtain ⟨r38,h39,f40⟩:=Ab hr
 refine sc (Ae LN (by rfl)) (Fy x0 A1 c2 A4 c5 w3 (TB.ext X35 hT) (n3.ext X35) (n6.ext X35) r38 h39) ?_
 rintro _ w4 E41 rfl
 refine nrm ?_
 have X42:=Ext.trans X35 E41
 refine sb (FC rfl) fun z43 hz43=>?_
 refine nrm ?_
 refine sV (Aa rfl) ?_
 obtain ⟨m55,h56,f57⟩:=Ab f40
 refine BE 8 (fun l l' w'=>∃(t59:Value) (t60:Value) (t61:Value),UpdS [] w4 w'∧l'=((((l.set 20 t59).set 21 t60).set 22 t61).set 23 (.bool m55))) ?_ ?_
 ·intro HJ62
  rcases Bool.eq_false_or_eq_true z43 with e63 | e63
  ·have p66:=zP hz43 e63
   have f67:=ifP p66 h56
   refine sP ?_ (hw:=wgF rfl e63)
   refine sP ?_ (hw:=wgF rfl e63)
   refine sP ?_ (hw:=wgF rfl e63)
   refine sV (Ay (evb rfl e63) rfl) ?_
   obtain rfl:=Option.some.inj f67
   exact HJ62 _ _ ⟨undef,undef,undef,(UpdS.refl _ _),(by simp only [S0,S1]<;>rfl)⟩
  ·have p64:=zN hz43 e63
   have f65:=ifN p64 h56
   refine sV (Al AG rfl ((q27.ext E31).ext E41) rfl) ?_ (hw:=wgT rfl e63)
   obtain ⟨r68,h69,f70⟩:=Ab f65
   refine sc (Ae LN (by rfl)) (Fy x1 A7 c8 A10 c11 w4 (TB.ext X42 hT) (n9.ext X42) (n12.ext X42) r68 h69) ?_ (hw:=wgT rfl e63)
   rintro _ w5 E71 rfl
   refine nrm ?_
   refine sb (FC rfl) ?_ (hw:=wgT rfl e63)
   intro z73 hz73
   refine nrm ?_
   refine sV (AC (evb rfl e63) rfl) ?_
   obtain rfl:z73=decide (¬(r68=true)):=bz hz73
   obtain rfl:=Option.some.inj f70
   exact HJ62 _ _ ⟨(.agg #[.bool x1.Lo.Man.Neg,.slice A7 (List.length x1.Lo.Man.Abs) c8,.int .i64 x1.Lo.Exp,.bool x1.Hi.Man.Neg,.slice A10 (List.length x1.Hi.Man.Abs) c11,.int .i64 x1.Hi.Exp]),(.bool r68),(.bool (decide (¬(r68=true)))),((UpdS.refl _ _).ext E71),(by simp only [S0,S1]<;>rfl)⟩
 ·rintro l' w5 ⟨t59,t60,t61,U58,hq'⟩ l'' hl
  rw [hq'] at hl
  clear hq'
  simp only [S0,S1] at hl
  subst hl
  have X74:=GS X42 U58 (X42).size al0
  refine sV (Aa rfl) ?_
  obtain ⟨m86,h87,f88⟩:=Ab f57
  refine BE 13 (fun l l' w'=>∃(t90:Value) (t91:Value) (t92:Value),UpdS [] w5 w'∧l'=((((l.set 25 t90).set 26 t91).set 27 t92).set 28 (.bool m86))) ?_ ?_
  ·intro HJ93
   rcases Bool.eq_false_or_eq_true m55 with e94 | e94
   ·have p97:=e94
    have f98:=ifP p97 h87
    refine sP ?_ (hw:=wgF rfl e94)
    refine sP ?_ (hw:=wgF rfl e94)
    refine sP ?_ (hw:=wgF rfl e94)
    refine sV (Ay (evb rfl e94) rfl) ?_
    obtain rfl:=Option.some.inj f98
    exact HJ93 _ _ ⟨undef,undef,undef,(UpdS.refl _ _),(by simp only [S0,S1]<;>rfl)⟩
   ·have p95:=bF e94
    have f96:=ifN p95 h87
    refine sV (Al AG rfl ((q33.ext E41).updS U58 nm0) rfl) ?_ (hw:=wgT rfl e94)
    obtain ⟨r99,h100,f101⟩:=Ab f96
    refine sc (Ae LN (by rfl)) (Fy x2 A13 c14 A16 c17 w5 (TB.ext X74 hT) (n15.ext X74) (n18.ext X74) r99 h100) ?_ (hw:=wgT rfl e94)
    rintro _ w6 E102 rfl
    refine nrm ?_
    refine sb (FC rfl) ?_ (hw:=wgT rfl e94)
    intro z104 hz104
    refine nrm ?_
    refine sV (AC (evb rfl e94) rfl) ?_
    obtain rfl:z104=decide (¬(r99=true)):=bz hz104
    obtain rfl:=Option.some.inj f101
    exact HJ93 _ _ ⟨(.agg #[.bool x2.Lo.Man.Neg,.slice A13 (List.length x2.Lo.Man.Abs) c14,.int .i64 x2.Lo.Exp,.bool x2.Hi.Man.Neg,.slice A16 (List.length x2.Hi.Man.Abs) c17,.int .i64 x2.Hi.Exp]),(.bool r99),(.bool (decide (¬(r99=true)))),((UpdS.refl _ _).ext E102),(by simp only [S0,S1]<;>rfl)⟩
  ·rintro l' w6 ⟨t90,t91,t92,U89,hq'⟩ l'' hl
   rw [hq'] at hl
   clear hq'
   simp only [S0,S1] at hl
   subst hl
   have X105:=GS X74 U89 (X74).size al0
   refine sV (Aa rfl) ?_
   obtain ⟨m112,h113,f114⟩:=Ab f88
   refine BE 17 (fun l l' w'=>∃(t116:Value) (t117:Value),w6=w'∧l'=(((l.set 30 t116).set 31 t117).set 32 (.bool m112))) ?_ ?_
   ·intro HJ118
    rcases Bool.eq_false_or_eq_true m86 with e119 | e119
    ·have p122:=e119
     have f123:=ifP p122 h113
     refine sP ?_ (hw:=wgF rfl e119)
     refine sP ?_ (hw:=wgF rfl e119)
     refine sV (Ay (evb rfl e119) rfl) ?_
     obtain rfl:=Option.some.inj f123
     exact HJ118 _ _ ⟨undef,undef,rfl,(by simp only [S0,S1]<;>rfl)⟩
    ·have p120:=bF e119
     have f121:=ifN p120 h113
     refine sV (Aa rfl) ?_ (hw:=wgT rfl e119)
     refine sb (CL rfl rfl) ?_ (hw:=wgT rfl e119)
     intro z124 hz124
     refine nrm ?_
     refine sV (AC (evb rfl e119) rfl) ?_
     obtain rfl:z124=decide (x3<1):=bz hz124
     obtain rfl:=Option.some.inj f121
     exact HJ118 _ _ ⟨(.int .i64 x3),(.bool (decide (x3<1))),rfl,(by simp only [S0,S1]<;>rfl)⟩
   ·rintro l' _ ⟨t116,t117,rfl,hq'⟩ l'' hl
    rw [hq'] at hl
    clear hq'
    simp only [S0,S1] at hl
    subst hl
    refine sV (Aa rfl) ?_
    obtain ⟨m131,h132,f133⟩:=Ab f114
    refine BE 21 (fun l l' w'=>∃(t135:Value) (t136:Value),w6=w'∧l'=(((l.set 34 t135).set 35 t136).set 36 (.bool m131))) ?_ ?_
    ·intro HJ137
     rcases Bool.eq_false_or_eq_true m112 with e138 | e138
     ·have p141:=e138
      have f142:=ifP p141 h132
      refine sP ?_ (hw:=wgF rfl e138)
      refine sP ?_ (hw:=wgF rfl e138)
      refine sV (Ay (evb rfl e138) rfl) ?_
      obtain rfl:=Option.some.inj f142
      exact HJ137 _ _ ⟨undef,undef,rfl,(by simp only [S0,S1]<;>rfl)⟩
     ·have p139:=bF e138
      have f140:=ifN p139 h132
      refine sV (Aa rfl) ?_ (hw:=wgT rfl e138)
      refine sb (CL rfl rfl) ?_ (hw:=wgT rfl e138)
      intro z143 hz143
      refine nrm ?_
      refine sV (AC (evb rfl e138) rfl) ?_
      obtain rfl:z143=decide (x4<0):=bz hz143
      obtain rfl:=Option.some.inj f140
      exact HJ137 _ _ ⟨(.int .i64 x4),(.bool (decide (x4<0))),rfl,(by simp only [S0,S1]<;>rfl)⟩
    ·rintro l' _ ⟨t135,t136,rfl,hq'⟩ l'' hl
     rw [hq'] at hl
     clear hq'
     simp only [S0,S1] at hl
     subst hl
     refine sV (Aa rfl) ?_
     obtain ⟨m150,h151,f152⟩:=Ab f133
     refine BE 25 (fun l l' w'=>∃(t154:Value) (t155:Value),w6=w'∧l'=(((l.set 38 t154).set 39 t155).set 40 (.bool m150))) ?_ ?_
     ·intro HJ156
      rcases Bool.eq_false_or_eq_true m131 with e157 | e157
      ·have p160:=e157
       have f161:=ifP p160 h151
       refine sP ?_ (hw:=wgF rfl e157)
       refine sP ?_ (hw:=wgF rfl e157)
       refine sV (Ay (evb rfl e157) rfl) ?_
       obtain rfl:=Option.some.inj f161
       exact HJ156 _ _ ⟨undef,undef,rfl,(by simp only [S0,S1]<;>rfl)⟩
      ·have p158:=bF e157
       have f159:=ifN p158 h151
       refine sV (Aa rfl) ?_ (hw:=wgT rfl e157)
       refine sb (EA rfl rfl) ?_ (hw:=wgT rfl e157)
       intro z162 hz162
       refine nrm ?_
       refine sV (AC (evb rfl e157) rfl) ?_
       obtain rfl:z162=decide (500<x3):=bz hz162
       obtain rfl:=Option.some.inj f159
       exact HJ156 _ _ ⟨(.int .i64 x3),(.bool (decide (500<x3))),rfl,(by simp only [S0,S1]<;>rfl)⟩
     ·rintro l' _ ⟨t154,t155,rfl,hq'⟩ l'' hl
      rw [hq'] at hl
      clear hq'
      simp only [S0,S1] at hl
      subst hl
      refine sV (Aa rfl) ?_
      obtain ⟨m169,h170,f171⟩:=Ab f152
      refine BE 29 (fun l l' w'=>∃(t173:Value) (t174:Value),w6=w'∧l'=(((l.set 42 t173).set 43 t174).set 44 (.bool m169))) ?_ ?_
      ·intro HJ175
       rcases Bool.eq_false_or_eq_true m150 with e176 | e176
       ·have p179:=e176
        have f180:=ifP p179 h170
        refine sP ?_ (hw:=wgF rfl e176)
        refine sP ?_ (hw:=wgF rfl e176)
        refine sV (Ay (evb rfl e176) rfl) ?_
        obtain rfl:=Option.some.inj f180
        exact HJ175 _ _ ⟨undef,undef,rfl,(by simp only [S0,S1]<;>rfl)⟩
       ·have p177:=bF e176
        have f178:=ifN p177 h170
        refine sV (Aa rfl) ?_ (hw:=wgT rfl e176)
        refine sb (EA rfl rfl) ?_ (hw:=wgT rfl e176)
        intro z181 hz181
        refine nrm ?_
        refine sV (AC (evb rfl e176) rfl) ?_
        obtain rfl:z181=decide (500<x4):=bz hz181
        obtain rfl:=Option.some.inj f178
        exact HJ175 _ _ ⟨(.int .i64 x4),(.bool (decide (500<x4))),rfl,(by simp only [S0,S1]<;>rfl)⟩
      ·rintro l' _ ⟨t173,t174,rfl,hq'⟩ l'' hl
       rw [hq'] at hl
       clear hq'
       simp only [S0,S1] at hl
       subst hl
       refine Ad<|h37 _ _ ?_
       rcases Bool.eq_false_or_eq_true m169 with e193 | e193
       ·have p196:=e193
        have f197:=ifP p196 f171
        refine wp_cond_true (Am (evb rfl e193))<|wp_seq_k fun K681 h681=>Ai ?_
        obtain ⟨r682,h683,f684⟩:=Ab f197
        refine sc (Ae NB (by rfl)) (EU w6 (TB.ext X105 hT)  r682 h683) ?_
        rintro _ w7 E685 rfl
        refine nrm ?_
        have X686:=Ext.trans X105 E685
        refine sV (Ac rfl) ?_
        refine Ad<|h681 _ _<|wp_ret ?_
        obtain rfl:=Option.some.inj f684
        exact fin rfl (Res.tmp rfl Res.nil) (Ap X686 rfl)
       ·have p194:=bF e193
        have f195:=ifN p194 f171
        refine wp_cond_false (Am (evb rfl e193))<|wp_skip<|h36 _ _<|wp_seq_k fun K198 h198=>Ai<|have q199:=((((q23.ext E25).ext E31).ext E41).updS U58 nm0).updS U89 nm0;sV (Al AG rfl q199 rfl) ?_
        have q200:=((q33.ext E41).updS U58 nm0).updS U89 nm0
        refine sV (Al AG rfl q200 rfl) ?_
        obtain ⟨r201,h202,f203⟩:=Ab f195
        refine sc (Ae en_17 (by rfl)) (c_dyad_Hull x0 x2 A1 c2 A4 c5 A13 c14 A16 c17 w6 (TB.ext X105 hT) (n3.ext X105) (n6.ext X105) (n15.ext X105) (n18.ext X105) r201 h202) ?_
        rintro _ w7 E204 ⟨A205,c206,A208,c209,rfl,n207,n210⟩
        refine nrm ?_
        have X211:=Ext.trans X105 E204
        refine sV (Aa rfl) ?_
        refine sV (Av rfl rfl) ?_
        refine sV (Av rfl rfl) ?_
        refine AB Eg fun b212 w8 E213 g214 q215=>?_
        refine nrm ?_
        have g216:=Nat.le_trans X211.size g214
        refine AA Dh rfl rfl q215 rfl rfl rfl rfl (by simp only [SP0,SP1,S0,S1,Nat.reduceAdd];rfl) fun w9 U218 q219=>?_
        have F221:=AR E213 U218 g214
        have X220:=Ext.trans X211 F221
        refine sV (Ac rfl) ?_
        refine Ad<|h198 _ _<|wp_seq_k fun K222 h222=>wp_seq_k fun K223 h223=>Ai<|sV (Aa rfl) ?_
        refine sb (Gq rfl rfl) fun z224 hz224=>?_
        refine nrm ?_
        refine sV (Aa rfl) ?_
        obtain ⟨m237,h238,f239⟩:=Ab f203
        refine BE 7 (fun l l' w'=>∃(t241:Value) (t242:Value) (t243:Value),UpdS [] w9 w'∧l'=((((l.set 55 t241).set 56 t242).set 57 t243).set 58 (.bool m237))) ?_ ?_
        ·intro HJ244
         rcases Bool.eq_false_or_eq_true z224 with e245 | e245
         ·have p248:=zP hz224 e245
          have f249:=ifP p248 h238
          refine sP ?_ (hw:=wgF rfl e245)
          refine sP ?_ (hw:=wgF rfl e245)
          refine sP ?_ (hw:=wgF rfl e245)
          refine sV (Ay (evb rfl e245) rfl) ?_
          obtain rfl:=Option.some.inj f249
          exact HJ244 _ _ ⟨undef,undef,undef,(UpdS.refl _ _),(by simp only [S0,S1]<;>rfl)⟩
         ·have p246:=zN hz224 e245
          have f247:=ifN p246 h238
          have q250:=(((((q27.ext E31).ext E41).updS U58 nm0).updS U89 nm0).ext E204).ext F221
          refine sV (Al AG rfl q250 rfl) ?_ (hw:=wgT rfl e245)
          obtain ⟨r251,h252,f253⟩:=Ab f247
          refine sc (Ae Mf (by rfl)) (GQ x1 A7 c8 A10 c11 w9 (TB.ext X220 hT) (n9.ext X220) (n12.ext X220) r251 h252) ?_ (hw:=wgT rfl e245)
          rintro _ w10 E254 rfl
          refine nrm ?_
          refine sb (FC rfl) ?_ (hw:=wgT rfl e245)
          intro z256 hz256
          refine nrm ?_
          refine sV (AC (evb rfl e245) rfl) ?_
          obtain rfl:z256=decide (¬(r251=true)):=bz hz256
          obtain rfl:=Option.some.inj f253
          exact HJ244 _ _ ⟨(.agg #[.bool x1.Lo.Man.Neg,.slice A7 (List.length x1.Lo.Man.Abs) c8,.int .i64 x1.Lo.Exp,.bool x1.Hi.Man.Neg,.slice A10 (List.length x1.Hi.Man.Abs) c11,.int .i64 x1.Hi.Exp]),(.bool r251),(.bool (decide (¬(r251=true)))),((UpdS.refl _ _).ext E254),(by simp only [S0,S1]<;>rfl)⟩
        ·rintro l' w10 ⟨t241,t242,t243,U240,hq'⟩ l'' hl
         rw [hq'] at hl
         clear hq'
         simp only [S0,S1] at hl
         subst hl
         have X257:=GS X220 U240 (X220).size al0
         refine Ad<|h223 _ _ ?_
         rcases Bool.eq_false_or_eq_true m237 with e330 | e330
         ·have p333:=e330
          have f334:=ifP p333 f239
          refine wp_cond_true (Am (evb rfl e330))<|wp_seq_k fun K614 h614=>Ai ?_
          obtain ⟨r615,h616,f617⟩:=Ab f334
          refine sc (Ae NB (by rfl)) (EU w10 (TB.ext X257 hT)  r615 h616) ?_
          rintro _ w11 E618 rfl
          refine nrm ?_
          have X619:=Ext.trans X257 E618
          refine sV (Aa rfl) ?_
          obtain ⟨m645,h646,f647⟩:=Ab f617
          refine BE 9 (fun l l' w'=>∃(t649:Value) (t650:Value) (t651:Value) (t652:Value) (t653:Value) (t654:Value),w11=w'∧l'=(((((((l.set 61 t649).set 62 t650).set 63 t651).set 64 t652).set 65 t653).set 66 t654).set 67 (.bool m645))) ?_ ?_
          ·intro HJ655
           rcases Bool.eq_false_or_eq_true r615 with e656 | e656
           ·have p659:=e656
            have f660:=ifP p659 h646
            refine sV (Aa rfl) ?_ (hw:=wgT rfl e656)
            refine sb (CO rfl rfl) ?_ (hw:=wgT rfl e656)
            intro z661 hz661
            refine nrm ?_
            refine sV (Aa rfl) ?_ (hw:=wgT rfl e656)
            obtain ⟨m668,h669,f670⟩:=Ab f660
            refine BE 8 (fun l l' w'=>∃(t672:Value) (t673:Value),w11=w'∧l'=(((l.set 64 t672).set 65 t673).set 66 (.bool m668))) ?_ ?_
            ·intro HJ674
             rcases Bool.eq_false_or_eq_true z661 with e675 | e675
             ·have p678:=zP hz661 e675
              have f679:=ifP p678 h669
              refine sP ?_ (hw:=wgF rfl e675)
              refine sP ?_ (hw:=wgF rfl e675)
              refine sV (Ay (evb rfl e675) rfl) ?_ (hw:=wgT rfl e656)
              obtain rfl:=Option.some.inj f679
              exact HJ674 _ _ ⟨undef,undef,rfl,(by simp only [S0,S1]<;>rfl)⟩
             ·have p676:=zN hz661 e675
              have f677:=ifN p676 h669
              refine sV (Aa rfl) ?_ (hw:=wgT rfl e675)
              refine sb (CO rfl rfl) ?_ (hw:=wgT rfl e675)
              intro z680 hz680
              refine nrm ?_
              refine sV (AC (evb rfl e675) rfl) ?_ (hw:=wgT rfl e656)
              obtain rfl:z680=decide (r201.2=1):=bz hz680
              obtain rfl:=Option.some.inj f677
              exact HJ674 _ _ ⟨(.int .i64 r201.2),(.bool (decide (r201.2=1))),rfl,(by simp only [S0,S1]<;>rfl)⟩
            ·rintro l' _ ⟨t672,t673,rfl,hq'⟩ l'' hl
             rw [hq'] at hl
             clear hq'
             simp only [S0,S1] at hl
             subst hl
             refine sV (Ay (evb rfl e656) rfl) ?_
             obtain rfl:=Option.some.inj f670
             exact HJ655 _ _ ⟨(.int .i64 r201.2),(.bool z661),(.bool z661),t672,t673,(.bool m668),rfl,(by simp only [S0,S1]<;>rfl)⟩
           ·have p657:=bF e656
            have f658:=ifN p657 h646
            refine sP ?_ (hw:=wgF rfl e656)
            refine sP ?_ (hw:=wgF rfl e656)
            refine sP ?_ (hw:=wgF rfl e656)
            refine sP ?_
            refine sP ?_
            refine sP ?_ (hw:=wgF rfl e656)
            refine sV (AC (evb rfl e656) rfl) ?_
            obtain rfl:=Option.some.inj f658
            exact HJ655 _ _ ⟨undef,undef,undef,undef,undef,undef,rfl,(by simp only [S0,S1]<;>rfl)⟩
          ·rintro l' _ ⟨t649,t650,t651,t652,t653,t654,rfl,hq'⟩ l'' hl
           rw [hq'] at hl
           clear hq'
           simp only [S0,S1] at hl
           subst hl
           refine sV (Ac rfl) ?_
           refine Ad<|h614 _ _<|wp_ret ?_
           obtain rfl:=Option.some.inj f647
           exact fin rfl (Res.tmp rfl Res.nil) (Ap X619 rfl)
         ·have p331:=bF e330
          have f332:=ifN p331 f239
          refine wp_cond_false (Am (evb rfl e330))<|wp_skip<|h222 _ _<|wp_seq_k fun K335 h335=>Ai<|have q336:=((q199.ext E204).ext F221).updS U240 nm0;sV (Al AG rfl q336 rfl) ?_
          have q337:=((((((q27.ext E31).ext E41).updS U58 nm0).updS U89 nm0).ext E204).ext F221).updS U240 nm0
          refine sV (Al AG rfl q337 rfl) ?_
          refine sV (Aa rfl) ?_
          refine sV (Aa rfl) ?_
          refine sV (Bv (c:=wi64 (x3+x4)) rfl rfl rfl) ?_
          obtain ⟨r338,h339,f340⟩:=Ab f332
          refine sc (Ae MG (by rfl)) (IL x0 x1 (wi64 (x3+x4)) A1 c2 A4 c5 A7 c8 A10 c11 w10 (TB.ext X257 hT) (n3.ext X257) (n6.ext X257) (n9.ext X257) (n12.ext X257) r338 h339) ?_
          rintro _ w11 E341 ⟨A342,c343,A345,c346,rfl,n344,n347⟩
          refine nrm ?_
          have X348:=Ext.trans X257 E341
          refine sV (Aa rfl) ?_
          refine sV (Av rfl rfl) ?_
          refine sV (Av rfl rfl) ?_
          refine AB Eg fun b349 w12 E350 g351 q352=>?_
          refine nrm ?_
          have g353:=Nat.le_trans X348.size g351
          refine AA Dh rfl rfl q352 rfl rfl rfl rfl (by simp only [SP0,SP1,S0,S1,Nat.reduceAdd];rfl) fun w13 U355 q356=>?_
          have F358:=AR E350 U355 g351
          have X357:=Ext.trans X348 F358
          refine sV (Ac rfl) ?_
          refine Ad<|h335 _ _<|wp_seq_k fun K359 h359=>Ai<|have q360:=((q219.updS U240 nm0).ext E341).ext F358;sV (Al AG rfl q360 rfl) ?_
          refine sV (Al AG rfl ((q337.ext E341).ext F358) rfl) ?_
          refine sV (Aa rfl) ?_
          have n361:=(((n207.ext F221).updS U240 al0).ext E341).ext F358
          have n362:=(((n210.ext F221).updS U240 al0).ext E341).ext F358
          obtain ⟨r363,h364,f365⟩:=Ab f340
          refine sc (Ae MG (by rfl)) (IL (⟨(⟨(⟨r201.1.Lo.Man.Neg,(limbs r201.1.Lo.Man.Abs)⟩:Az),r201.1.Lo.Exp⟩:Ar),(⟨(⟨r201.1.Hi.Man.Neg,(limbs r201.1.Hi.Man.Abs)⟩:Az),r201.1.Hi.Exp⟩:Ar)⟩:An) x1 x3 A205 c206 A208 c209 A7 c8 A10 c11 w13 (TB.ext X357 hT) n361 n362 (n9.ext X357) (n12.ext X357) r363 h364) ?_
          rintro _ w14 E366 ⟨A367,c368,A370,c371,rfl,n369,n372⟩
          refine nrm ?_
          have X373:=Ext.trans X357 E366
          refine sV (Aa rfl) ?_
          refine sV (Av rfl rfl) ?_
          refine sV (Av rfl rfl) ?_
          refine AB Eg fun b374 w15 E375 g376 q377=>?_
          refine nrm ?_
          have g378:=Nat.le_trans X373.size g376
          refine AA Dh rfl rfl q377 rfl rfl rfl rfl (by simp only [SP0,SP1,S0,S1,Nat.reduceAdd];rfl) fun w16 U380 q381=>?_
          have F383:=AR E375 U380 g376
          have X382:=Ext.trans X373 F383
          refine sV (Ac rfl) ?_
          refine Ad<|h359 _ _<|wp_seq_k fun K384 h384=>wp_seq_k fun K385 h385=>Ai<|sV (Al AG rfl ((q356.ext E366).ext F383) rfl) ?_
          refine sV (Aa rfl) ?_
          refine sV (Al AG rfl q381 rfl) ?_
          refine sV (Aa rfl) ?_
          have n386:=((n344.ext F358).ext E366).ext F383
          have n387:=((n347.ext F358).ext E366).ext F383
          obtain ⟨r388,h389,f390⟩:=Ab f365
          refine sc (Ae Lz (by rfl)) (En r338.1 r338.2 r363.1 r363.2 A342 c343 A345 c346 A367 c368 A370 c371 w16 (TB.ext X382 hT) n386 n387 (n369.ext F383) (n372.ext F383) r388 h389) ?_
          rintro _ w17 E391 rfl
          refine nrm ?_
          have X392:=Ext.trans X382 E391
          refine sb (FC rfl) fun z393 hz393=>?_
          refine nrm ?_
          refine Ad<|h385 _ _ ?_
          rcases Bool.eq_false_or_eq_true z393 with e400 | e400
          ·have p403:=zP hz393 e400
           have f404:=ifP p403 f390
           refine wp_cond_true (Am (evb rfl e400))<|wp_seq_k fun K613 h613=>Ai<|sV (Ac rfl) ?_
           refine Ad<|h613 _ _<|wp_ret ?_
           obtain rfl:=Option.some.inj f404
           exact fin rfl (Res.tmp rfl Res.nil) (Ap X392 rfl)
          ·have p401:=zN hz393 e400
           have f402:=ifN p401 f390
           refine wp_cond_false (Am (evb rfl e400))<|wp_skip<|h384 _ _<|wp_seq_k fun K405 h405=>Ai<|have q406:=((((q336.ext E341).ext F358).ext E366).ext F383).ext E391;sV (Al AG rfl q406 rfl) ?_
           have q407:=((((q337.ext E341).ext F358).ext E366).ext F383).ext E391
           refine sV (Al AG rfl q407 rfl) ?_
           refine sV (Aa rfl) ?_
           refine sV (Aa rfl) ?_
           refine sV (Bv (c:=wi64 (x3+x4)) rfl rfl rfl) ?_
           obtain ⟨r408,h409,f410⟩:=Ab f402
           refine sc (Ae Md (by rfl)) (GX x0 x1 (wi64 (x3+x4)) A1 c2 A4 c5 A7 c8 A10 c11 w17 (TB.ext X392 hT) (n3.ext X392) (n6.ext X392) (n9.ext X392) (n12.ext X392) r408 h409) ?_
           rintro _ w18 E411 ⟨A412,c413,A415,c416,rfl,n414,n417⟩
           refine nrm ?_
           have X418:=Ext.trans X392 E411
           refine sV (Aa rfl) ?_
           refine sV (Av rfl rfl) ?_
           refine sV (Av rfl rfl) ?_
           have q419:=(((q356.ext E366).ext F383).ext E391).ext E411
           refine AA Dh rfl rfl q419 rfl rfl rfl rfl (by simp only [SP0,SP1,S0,S1,Nat.reduceAdd];rfl) fun w19 U420 q421=>?_
           have X422:=AR X418 U420 g353
           refine sV (Ac rfl) ?_
           refine Ad<|h405 _ _<|wp_seq_k fun K423 h423=>Ai<|have ne424:=(Bx.ne ((q219.updS U240 nm0).ext E341) g351);have q425:=((((q360.ext E366).ext F383).ext E391).ext E411).upd U420 ne424;sV (Al AG rfl q425 rfl) ?_
           have ne426:=(Bx.ne (q337.ext E341) g351)
           refine sV (Al AG rfl ((q407.ext E411).upd U420 ne426) rfl) ?_
           refine sV (Aa rfl) ?_
           have n427:=((((n361.ext E366).ext F383).ext E391).ext E411).upd U420 q419 (by decide)
           have n428:=((((n362.ext E366).ext F383).ext E391).ext E411).upd U420 q419 (by decide)
           obtain ⟨r429,h430,f431⟩:=Ab f410
           refine sc (Ae Md (by rfl)) (GX (⟨(⟨(⟨r201.1.Lo.Man.Neg,(limbs r201.1.Lo.Man.Abs)⟩:Az),r201.1.Lo.Exp⟩:Ar),(⟨(⟨r201.1.Hi.Man.Neg,(limbs r201.1.Hi.Man.Abs)⟩:Az),r201.1.Hi.Exp⟩:Ar)⟩:An) x1 x3 A205 c206 A208 c209 A7 c8 A10 c11 w19 (TB.ext X422 hT) n427 n428 (n9.ext X422) (n12.ext X422) r429 h430) ?_
           rintro _ w20 E432 ⟨A433,c434,A436,c437,rfl,n435,n438⟩
           refine nrm ?_
           have X439:=Ext.trans X422 E432
           refine sV (Aa rfl) ?_
           refine sV (Av rfl rfl) ?_
           refine sV (Av rfl rfl) ?_
           have ne440:=(Bx.ne (q356.ext E366) g376).symm
           have q441:=(((q381.ext E391).ext E411).upd U420 ne440).ext E432
           refine AA Dh rfl rfl q441 rfl rfl rfl rfl (by simp only [SP0,SP1,S0,S1,Nat.reduceAdd];rfl) fun w21 U442 q443=>?_
           have X444:=AR X439 U442 g378
           refine sV (Ac rfl) ?_
           refine Ad<|h423 _ _<|wp_seq_k fun K445 h445=>wp_seq_k fun K446 h446=>Ai<|have q447:=(q421.ext E432).upd U442 (Ne.symm ne440);sV (Al AG rfl q447 rfl) ?_
           refine sV (Aa rfl) ?_
           refine sV (Al AG rfl q443 rfl) ?_
           refine sV (Aa rfl) ?_
           have n448:=((n414.upd U420 q419 (by decide)).ext E432).upd U442 q441 (by decide)
           have n449:=((n417.upd U420 q419 (by decide)).ext E432).upd U442 q441 (by decide)
           obtain ⟨r450,h451,f452⟩:=Ab f431
           refine sc (Ae Lz (by rfl)) (En r408.1 r408.2 r429.1 r429.2 A412 c413 A415 c416 A433 c434 A436 c437 w21 (TB.ext X444 hT) n448 n449 (n435.upd U442 q441 (by decide)) (n438.upd U442 q441 (by decide)) r450 h451) ?_
           rintro _ w22 E453 rfl
           refine nrm ?_
           have X454:=Ext.trans X444 E453
           refine sb (FC rfl) fun z455 hz455=>?_
           refine nrm ?_
           refine Ad<|h446 _ _ ?_
           rcases Bool.eq_false_or_eq_true z455 with e462 | e462
           ·have p465:=zP hz455 e462
            have f466:=ifP p465 f452
            refine wp_cond_true (Am (evb rfl e462))<|wp_seq_k fun K612 h612=>Ai<|sV (Ac rfl) ?_
            refine Ad<|h612 _ _<|wp_ret ?_
            obtain rfl:=Option.some.inj f466
            exact fin rfl (Res.tmp rfl Res.nil) (Ap X454 rfl)
           ·have p463:=zN hz455 e462
            have f464:=ifN p463 f452
            refine wp_cond_false (Am (evb rfl e462))<|wp_skip<|h445 _ _<|wp_seq_k fun K467 h467=>Ai<|have ne468:=(Bx.ne (q336.ext E341) g351);have ne469:=(Bx.ne (((q336.ext E341).ext F358).ext E366) g376);have q470:=((((q406.ext E411).upd U420 ne468).ext E432).upd U442 ne469).ext E453;sV (Al AG rfl q470 rfl) ?_
            have ne471:=(Bx.ne (((q337.ext E341).ext F358).ext E366) g376)
            have q472:=((((q407.ext E411).upd U420 ne426).ext E432).upd U442 ne471).ext E453
            refine sV (Al AG rfl q472 rfl) ?_
            refine sV (Aa rfl) ?_
            refine sV (Aa rfl) ?_
            refine sV (Bv (c:=wi64 (x3+x4)) rfl rfl rfl) ?_
            obtain ⟨r473,h474,f475⟩:=Ab f464
            refine sc (Ae Lk (by rfl)) (GM x0 x1 (wi64 (x3+x4)) A1 c2 A4 c5 A7 c8 A10 c11 w22 (TB.ext X454 hT) (n3.ext X454) (n6.ext X454) (n9.ext X454) (n12.ext X454) r473 h474) ?_
            rintro _ w23 E476 ⟨A477,c478,A480,c481,rfl,n479,n482⟩
            refine nrm ?_
            have X483:=Ext.trans X454 E476
            refine sV (Aa rfl) ?_
            refine sV (Av rfl rfl) ?_
            refine sV (Av rfl rfl) ?_
            refine AA Dh rfl rfl ((q447.ext E453).ext E476) rfl rfl rfl rfl (by simp only [SP0,SP1,S0,S1,Nat.reduceAdd];rfl) fun w24 U484 q485=>?_
            have X486:=AR X483 U484 g353
            refine sV (Ac rfl) ?_
            refine Ad<|h467 _ _<|wp_seq_k fun K487 h487=>Ai<|have ne488:=(Bx.ne (q360.ext E366) g376);have q489:=((((q425.ext E432).upd U442 ne488).ext E453).ext E476).upd U484 ne424;sV (Al AG rfl q489 rfl) ?_
            refine sV (Al AG rfl ((q472.ext E476).upd U484 ne426) rfl) ?_
            refine sV (Aa rfl) ?_
            have n490:=((((n427.ext E432).upd U442 q441 (by decide)).ext E453).ext E476).upd U484 ((q447.ext E453).ext E476) (by decide)
            have n491:=((((n428.ext E432).upd U442 q441 (by decide)).ext E453).ext E476).upd U484 ((q447.ext E453).ext E476) (by decide)
            obtain ⟨r492,h493,f494⟩:=Ab f475
            refine sc (Ae Lk (by rfl)) (GM (⟨(⟨(⟨r201.1.Lo.Man.Neg,(limbs r201.1.Lo.Man.Abs)⟩:Az),r201.1.Lo.Exp⟩:Ar),(⟨(⟨r201.1.Hi.Man.Neg,(limbs r201.1.Hi.Man.Abs)⟩:Az),r201.1.Hi.Exp⟩:Ar)⟩:An) x1 x3 A205 c206 A208 c209 A7 c8 A10 c11 w24 (TB.ext X486 hT) n490 n491 (n9.ext X486) (n12.ext X486) r492 h493) ?_
            rintro _ w25 E495 ⟨A496,c497,A499,c500,rfl,n498,n501⟩
            refine nrm ?_
            have X502:=Ext.trans X486 E495
            refine sV (Aa rfl) ?_
            refine sV (Av rfl rfl) ?_
            refine sV (Av rfl rfl) ?_
            have q503:=(((q443.ext E453).ext E476).upd U484 ne440).ext E495
            refine AA Dh rfl rfl q503 rfl rfl rfl rfl (by simp only [SP0,SP1,S0,S1,Nat.reduceAdd];rfl) fun w26 U504 q505=>?_
            have X506:=AR X502 U504 g378
            refine sV (Ac rfl) ?_
            refine Ad<|h487 _ _<|wp_seq_k fun K507 h507=>wp_seq_k fun K508 h508=>Ai<|have q509:=(q485.ext E495).upd U504 (Ne.symm ne440);sV (Al AG rfl q509 rfl) ?_
            refine sV (Aa rfl) ?_
            refine sV (Al AG rfl q505 rfl) ?_
            refine sV (Aa rfl) ?_
            have n510:=((n479.upd U484 ((q447.ext E453).ext E476) (by decide)).ext E495).upd U504 q503 (by decide)
            have n511:=((n482.upd U484 ((q447.ext E453).ext E476) (by decide)).ext E495).upd U504 q503 (by decide)
            obtain ⟨r512,h513,f514⟩:=Ab f494
            refine sc (Ae Lz (by rfl)) (En r473.1 r473.2 r492.1 r492.2 A477 c478 A480 c481 A496 c497 A499 c500 w26 (TB.ext X506 hT) n510 n511 (n498.upd U504 q503 (by decide)) (n501.upd U504 q503 (by decide)) r512 h513) ?_
            rintro _ w27 E515 rfl
            refine nrm ?_
            have X516:=Ext.trans X506 E515
            refine sb (FC rfl) fun z517 hz517=>?_
            refine nrm ?_
            refine Ad<|h508 _ _ ?_
            rcases Bool.eq_false_or_eq_true z517 with e524 | e524
            ·have p527:=zP hz517 e524
             have f528:=ifP p527 f514
             refine wp_cond_true (Am (evb rfl e524))<|wp_seq_k fun K611 h611=>Ai<|sV (Ac rfl) ?_
             refine Ad<|h611 _ _<|wp_ret ?_
             obtain rfl:=Option.some.inj f528
             exact fin rfl (Res.tmp rfl Res.nil) (Ap X516 rfl)
            ·have p525:=zN hz517 e524
             have f526:=ifN p525 f514
             refine wp_cond_false (Am (evb rfl e524))<|wp_skip<|h507 _ _<|wp_seq_k fun K529 h529=>Ai<|have q530:=((((q470.ext E476).upd U484 ne468).ext E495).upd U504 ne469).ext E515;sV (Al AG rfl q530 rfl) ?_
             refine sV (Aa rfl) ?_
             refine sV (Aa rfl) ?_
             refine sV (Bv (c:=wi64 (x3+x4)) rfl rfl rfl) ?_
             obtain ⟨r531,h532,f533⟩:=Ab f526
             refine sc (Ae LJ (by rfl)) (HI x0 (wi64 (x3+x4)) A1 c2 A4 c5 w27 (TB.ext X516 hT) (n3.ext X516) (n6.ext X516) r531 h532) ?_
             rintro _ w28 E534 ⟨A535,c536,A538,c539,rfl,n537,n540⟩
             refine nrm ?_
             have X541:=Ext.trans X516 E534
             refine sV (Aa rfl) ?_
             refine sV (Av rfl rfl) ?_
             refine sV (Av rfl rfl) ?_
             refine AA Dh rfl rfl ((q509.ext E515).ext E534) rfl rfl rfl rfl (by simp only [SP0,SP1,S0,S1,Nat.reduceAdd];rfl) fun w29 U542 q543=>?_
             have X544:=AR X541 U542 g353
             refine sV (Ac rfl) ?_
             refine Ad<|h529 _ _<|wp_seq_k fun K545 h545=>Ai<|have q546:=((((q489.ext E495).upd U504 ne488).ext E515).ext E534).upd U542 ne424;sV (Al AG rfl q546 rfl) ?_
             refine sV (Aa rfl) ?_
             have n547:=((((n490.ext E495).upd U504 q503 (by decide)).ext E515).ext E534).upd U542 ((q509.ext E515).ext E534) (by decide)
             have n548:=((((n491.ext E495).upd U504 q503 (by decide)).ext E515).ext E534).upd U542 ((q509.ext E515).ext E534) (by decide)
             obtain ⟨r549,h550,f551⟩:=Ab f533
             refine sc (Ae LJ (by rfl)) (HI (⟨(⟨(⟨r201.1.Lo.Man.Neg,(limbs r201.1.Lo.Man.Abs)⟩:Az),r201.1.Lo.Exp⟩:Ar),(⟨(⟨r201.1.Hi.Man.Neg,(limbs r201.1.Hi.Man.Abs)⟩:Az),r201.1.Hi.Exp⟩:Ar)⟩:An) x3 A205 c206 A208 c209 w29 (TB.ext X544 hT) n547 n548 r549 h550) ?_
             rintro _ w30 E552 ⟨A553,c554,A556,c557,rfl,n555,n558⟩
             refine nrm ?_
             have X559:=Ext.trans X544 E552
             refine sV (Aa rfl) ?_
             refine sV (Av rfl rfl) ?_
             refine sV (Av rfl rfl) ?_
             have q560:=(((q505.ext E515).ext E534).upd U542 ne440).ext E552
             refine AA Dh rfl rfl q560 rfl rfl rfl rfl (by simp only [SP0,SP1,S0,S1,Nat.reduceAdd];rfl) fun w31 U561 q562=>?_
             have X563:=AR X559 U561 g378
             refine sV (Ac rfl) ?_
             refine Ad<|h545 _ _<|wp_seq_k fun K564 h564=>Ai ?_
             obtain ⟨r565,h566,f567⟩:=Ab f551
             refine sc (Ae NB (by rfl)) (EU w31 (TB.ext X563 hT)  r565 h566) ?_
             rintro _ w32 E568 rfl
             refine nrm ?_
             have X569:=Ext.trans X563 E568
             refine sV (Aa rfl) ?_
             obtain ⟨m585,h586,f587⟩:=Ab f567
             refine BE 8 (fun l l' w'=>∃(t589:Value) (t590:Value) (t591:Value) (t592:Value) (t593:Value),UpdS [] w32 w'∧l'=((((((l.set 150 t589).set 151 t590).set 152 t591).set 153 t592).set 154 t593).set 155 (.bool m585))) ?_ ?_
             ·intro HJ594
              rcases Bool.eq_false_or_eq_true r565 with e595 | e595
              ·have p598:=e595
               have f599:=ifP p598 h586
               have q600:=((q543.ext E552).upd U561 (Ne.symm ne440)).ext E568
               refine sV (Al AG rfl q600 rfl) ?_ (hw:=wgT rfl e595)
               refine sV (Aa rfl) ?_ (hw:=wgT rfl e595)
               refine sV (Al AG rfl (q562.ext E568) rfl) ?_ (hw:=wgT rfl e595)
               refine sV (Aa rfl) ?_ (hw:=wgT rfl e595)
               have n601:=(((n537.upd U542 ((q509.ext E515).ext E534) (by decide)).ext E552).upd U561 q560 (by decide)).ext E568
               have n602:=(((n540.upd U542 ((q509.ext E515).ext E534) (by decide)).ext E552).upd U561 q560 (by decide)).ext E568
               have n603:=(n555.upd U561 q560 (by decide)).ext E568
               have n604:=(n558.upd U561 q560 (by decide)).ext E568
               obtain ⟨r605,h606,f607⟩:=Ab f599
               refine sc (Ae Lz (by rfl)) (En r531.1 r531.2 r549.1 r549.2 A535 c536 A538 c539 A553 c554 A556 c557 w32 (TB.ext X569 hT) n601 n602 n603 n604 r605 h606) ?_ (hw:=wgT rfl e595)
               rintro _ w33 E608 rfl
               refine nrm ?_
               refine sV (Ay (evb rfl e595) rfl) ?_
               obtain rfl:=Option.some.inj f607
               exact HJ594 _ _ ⟨(.agg #[.bool r531.1.Lo.Man.Neg,.slice A535 (sz r531.1.Lo.Man.Abs) c536,.int .i64 r531.1.Lo.Exp,.bool r531.1.Hi.Man.Neg,.slice A538 (sz r531.1.Hi.Man.Abs) c539,.int .i64 r531.1.Hi.Exp]),(.int .i64 r531.2),(.agg #[.bool r549.1.Lo.Man.Neg,.slice A553 (sz r549.1.Lo.Man.Abs) c554,.int .i64 r549.1.Lo.Exp,.bool r549.1.Hi.Man.Neg,.slice A556 (sz r549.1.Hi.Man.Abs) c557,.int .i64 r549.1.Hi.Exp]),(.int .i64 r549.2),(.bool r605),((UpdS.refl _ _).ext E608),(by simp only [S0,S1]<;>rfl)⟩
              ·have p596:=bF e595
               have f597:=ifN p596 h586
               refine sP ?_ (hw:=wgF rfl e595)
               refine sP ?_ (hw:=wgF rfl e595)
               refine sP ?_ (hw:=wgF rfl e595)
               refine sP ?_ (hw:=wgF rfl e595)
               refine sP ?_ (hw:=wgF rfl e595)
               refine sV (AC (evb rfl e595) rfl) ?_
               obtain rfl:=Option.some.inj f597
               exact HJ594 _ _ ⟨undef,undef,undef,undef,undef,(UpdS.refl _ _),(by simp only [S0,S1]<;>rfl)⟩
             ·rintro l' w33 ⟨t589,t590,t591,t592,t593,U588,hq'⟩ l'' hl
              rw [hq'] at hl
              clear hq'
              simp only [S0,S1] at hl
              subst hl
              have X610:=GS X569 U588 (X569).size al0
              refine sV (Ac rfl) ?_
              refine Ad<|h564 _ _<|wp_ret ?_
              obtain rfl:=Option.some.inj f587
              exact fin rfl (Res.tmp rfl Res.nil) (Ap X610 rfl)
end Go.Proofs
