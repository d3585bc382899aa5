import Derived.Test.YtabiobmfelafoaaGreatDoorGen4
namespace Go.Proofs
set_option linter.unusedVariables false
set_option linter.unusedSimpArgs false
set_option maxHeartbeats 4000000
open Go.RowKit Go.Sb Go.Proofs.Sbn
theorem Fz (x0:Ae) (x1:Int) (A1:Option Addr) (c2:Nat) (w:World) (hT:TB w) (n3:RU w A1 c2 x0.Man.Abs) (r:Bool) (hr:Cf x0 x1=some r) :
  Calls Tryz.prog 43 #[.agg #[.bool x0.Man.Neg,.slice A1 (sz x0.Man.Abs) c2,.int .i64 x0.Exp],.int .i64 x1] w (Ret Fe w r):=by
 unfold Cf at hr
 go_enter Tryz.func43,Tryz.ntmps43
 refine wp_seq_k fun K4 h4=>Aj<|BP rfl rfl fun b5 w1 E6 g7 q8=>?_
 refine nrm ?_
 refine sV (Ac rfl) ?_
 refine Ad<|h4 _ _<|wp_seq_k fun K9 h9=>Aj<|sV (Ai Ay rfl q8 rfl) ?_
 obtain ⟨r10,h11,f12⟩:=Ab hr
 refine sc (Af KF (by rfl)) (GK (⟨(⟨x0.Man.Neg,(limbs x0.Man.Abs)⟩:AD),x0.Exp⟩:Al) A1 c2 w1 (TB.ext E6 hT) (n3.ext E6) r10 h11) ?_
 rintro _ w2 E13 ⟨A14,c15,rfl,n16⟩
 refine nrm ?_
 have X17:=Ext.trans E6 E13
 refine sV (Aa rfl) ?_
 refine sV (Ag rfl rfl) ?_
 refine sV (Ag rfl rfl) ?_
 refine AB AV fun b18 w3 E19 g20 q21=>?_
 refine nrm ?_
 have g22:=Nat.le_trans X17.size g20
 refine AE AC rfl rfl q21 rfl rfl rfl rfl (by simp only [SP0,SP1,S0,S1,Nat.reduceAdd];rfl) fun w4 U24 q25=>?_
 have F27:=belU E19 U24 g20
 have X26:=Ext.trans X17 F27
 refine sV (Ac rfl) ?_
 refine Ad<|h9 _ _<|wp_seq_k fun K28 h28=>wp_seq_k fun K29 h29=>Aj<|sV (Ac rfl) ?_
 refine Ad<|h29 _ _ ?_
 apply wp_block
 refine Gk<|Bv<|wp_seq_k fun K30 h30=>wp_seq_k fun K31 h31=>Aj<|sV (Aa rfl) ?_
 refine sV (FW (v:=.bool true) (EL rfl rfl) (by rfl)) ?_
 refine Ad<|h31 _ _<|wp_cond_true (An (evb rfl rfl))<|wp_skip<|h30 _ _<|wp_seq_k fun K32 h32=>?_
 apply wp_block
 refine wp_seq_k fun K33 h33=>Aj<|sV (Ai Ay rfl ((q8.ext E13).ext F27) rfl) ?_
 refine sV (Aa rfl) ?_
 refine sV (Aa rfl) ?_
 obtain ⟨r34,h35,f36⟩:=Ab f12
 refine sc (Af DX (by rfl)) (Ar x0 x1 1 A1 c2 w4 (TB.ext X26 hT) (n3.ext X26) r34 h35) ?_
 rintro _ w5 E37 ⟨A38,c39,rfl,n40⟩
 refine nrm ?_
 have X41:=Ext.trans X26 E37
 refine sV (Aa rfl) ?_
 refine sV (Ag rfl rfl) ?_
 refine sV (Ag rfl rfl) ?_
 refine AB AV fun b42 w6 E43 g44 q45=>?_
 refine nrm ?_
 have g46:=Nat.le_trans X41.size g44
 refine AE AC rfl rfl q45 rfl rfl rfl rfl (by simp only [SP0,SP1,S0,S1,Nat.reduceAdd];rfl) fun w7 U48 q49=>?_
 have F51:=belU E43 U48 g44
 have X50:=Ext.trans X41 F51
 refine sV (Ac rfl) ?_
 refine Ad<|h33 _ _<|wp_seq_k fun K52 h52=>DR [9] 11 mo rfl fun w8 E53 S54=>have X55:=Ext.trans X50 E53;dV 0 rfl (fun _ hw=>Ai Ay rfl ((((q25.ext E37).ext F51).ext E53).ext hw) rfl) S54 ?_
 refine dA 1 rfl (fun _=>Aa rfl) ?_
 refine dA 2 rfl (fun _=>Aa rfl) ?_
 obtain ⟨r56,h57,f58⟩:=Ab f36
 have n59:=(((n16.ext F27).ext E37).ext F51).ext E53
 obtain ⟨r60,h61,f62⟩:=Ab f58
 refine Jl #[true,true,true,true,true,true,true,true,true,true,false] 1 (fun l' w'=>∃(A63:Option Addr) (c64:Nat) (b66:Nat),Ext w8 w'∧RU w' A63 c64 r60.1.Man.Abs∧w8.heap.size≤b66∧Bx w' b66 27 [.bool r60.1.Man.Neg,.slice A63 (sz r60.1.Man.Abs) c64,.int .i64 r60.1.Exp]∧l'=[.agg #[.bool x0.Man.Neg,.slice A1 (sz x0.Man.Abs) c2,.int .i64 x0.Exp],.int .i64 x1,.pointer (some ⟨b5,0,none⟩),undef,.bool false,.pointer (some ⟨b18,0,none⟩),.int .i64 r10.2,.int .i64 1,.pointer (some ⟨b42,0,none⟩),.bool r34.2,.pointer (some ⟨b66,0,none⟩),undef,undef,undef,.tuple #[.agg #[.bool r10.1.Man.Neg,.slice A14 (sz r10.1.Man.Abs) c15,.int .i64 r10.1.Exp],.int .i64 r10.2],.agg #[.bool x0.Man.Neg,.slice A1 (sz x0.Man.Abs) c2,.int .i64 x0.Exp],.tuple #[.agg #[.bool r10.1.Man.Neg,.slice A14 (sz r10.1.Man.Abs) c15,.int .i64 r10.1.Exp],.int .i64 r10.2],.agg #[.bool r10.1.Man.Neg,.slice A14 (sz r10.1.Man.Abs) c15,.int .i64 r10.1.Exp],.int .i64 r10.2,.int .i64 1,.bool true,undef,undef,.tuple #[.agg #[.bool r34.1.Man.Neg,.slice A38 (sz r34.1.Man.Abs) c39,.int .i64 r34.1.Exp],.bool r34.2],.agg #[.bool x0.Man.Neg,.slice A1 (sz x0.Man.Abs) c2,.int .i64 x0.Exp],.int .i64 x1,.int .i64 1,.tuple #[.agg #[.bool r34.1.Man.Neg,.slice A38 (sz r34.1.Man.Abs) c39,.int .i64 r34.1.Exp],.bool r34.2],.agg #[.bool r34.1.Man.Neg,.slice A38 (sz r34.1.Man.Abs) c39,.int .i64 r34.1.Exp],.bool r34.2,.tuple #[.agg #[.bool r60.1.Man.Neg,.slice A63 (sz r60.1.Man.Abs) c64,.int .i64 r60.1.Exp],.bool r60.2],.agg #[.bool r10.1.Man.Neg,.slice A14 (sz r10.1.Man.Abs) c15,.int .i64 r10.1.Exp],.int .i64 x1,.int .i64 1,.int .i64 r56,.tuple #[.agg #[.bool r60.1.Man.Neg,.slice A63 (sz r60.1.Man.Abs) c64,.int .i64 r60.1.Exp],.bool r60.2],.agg #[.bool r60.1.Man.Neg,.slice A63 (sz r60.1.Man.Abs) c64,.int .i64 r60.1.Exp],.bool r60.2,undef,undef,undef,undef,undef,undef,undef,undef,undef,undef,undef,undef,undef,undef,undef,undef,undef,undef,undef,undef,undef,undef,undef,undef,undef]) ?_ ?_
 ·rintro _ w9 ⟨A63,c64,b66,E69,n65,g67,q68,rfl⟩
  have g199:=Nat.le_trans X55.size g67
  have X200:=Ext.trans X55 E69
  have S201:=S54.trans E69
  refine dA 10 rfl (fun _=>Ac rfl) ?_
  refine Cx (by kernel_rfl) ?_
  refine h52 _ _<|wp_seq_k fun K202 h202=>Aj<|sV (Ai Ay rfl ((q49.ext E53).ext E69) rfl) ?_
  have n203:=((n40.ext F51).ext E53).ext E69
  obtain ⟨r204,h205,f206⟩:=Ab f62
  refine sc (Af KF (by rfl)) (GK (⟨(⟨r34.1.Man.Neg,(limbs r34.1.Man.Abs)⟩:AD),r34.1.Exp⟩:Al) A38 c39 w9 (TB.ext X200 hT) n203 r204 h205) ?_
  rintro _ w10 E207 ⟨A208,c209,rfl,n210⟩
  refine nrm ?_
  have X211:=Ext.trans X200 E207
  refine sV (Aa rfl) ?_
  refine sV (Ag rfl rfl) ?_
  refine sV (Ag rfl rfl) ?_
  refine AB AV fun b212 w11 E213 g214 q215=>?_
  refine nrm ?_
  have g216:=Nat.le_trans X211.size g214
  refine AE AC rfl rfl q215 rfl rfl rfl rfl (by simp only [SP0,SP1,S0,S1,Nat.reduceAdd];rfl) fun w12 U218 q219=>?_
  have F221:=belU E213 U218 g214
  have X220:=Ext.trans X211 F221
  refine sV (Ac rfl) ?_
  refine Ad<|h202 _ _<|wp_seq_k fun K222 h222=>Aj<|sV (Aa rfl) ?_
  refine sb (BE rfl) fun z223 hz223=>?_
  refine nrm ?_
  refine sV (Aa rfl) ?_
  obtain ⟨m230,h231,f232⟩:=Ab f206
  refine AR 6 (fun l l' w'=>∃(t234:Value) (t235:Value),w12=w'∧l'=(((l.set 46 t234).set 47 t235).set 48 (.bool m230))) ?_ ?_
  ·intro HJ236
   rcases Bool.eq_false_or_eq_true z223 with e237 | e237
   ·have p240:=zP hz223 e237
    have f241:=ifP p240 h231
    refine sP ?_ (hw:=wgF rfl e237)
    refine sP ?_ (hw:=wgF rfl e237)
    refine sV (Av (evb rfl e237) rfl) ?_
    obtain rfl:=Option.some.inj f241
    exact HJ236 _ _ ⟨undef,undef,rfl,(by simp only [S0,S1]<;>rfl)⟩
   ·have p238:=zN hz223 e237
    have f239:=ifN p238 h231
    refine sV (Aa rfl) ?_ (hw:=wgT rfl e237)
    refine sb (BE rfl) ?_ (hw:=wgT rfl e237)
    intro z242 hz242
    refine nrm ?_
    refine sV (Ax (evb rfl e237) rfl) ?_
    obtain rfl:z242=decide (¬(r60.2=true)):=bz hz242
    obtain rfl:=Option.some.inj f239
    exact HJ236 _ _ ⟨(.bool r60.2),(.bool (decide (¬(r60.2=true)))),rfl,(by simp only [S0,S1]<;>rfl)⟩
  ·rintro l' _ ⟨t234,t235,rfl,hq'⟩ l'' hl
   rw [hq'] at hl
   clear hq'
   simp only [S0,S1] at hl
   subst hl
   refine sV (Aa rfl) ?_
   obtain ⟨m249,h250,f251⟩:=Ab f232
   refine AR 10 (fun l l' w'=>∃(t253:Value) (t254:Value),w12=w'∧l'=(((l.set 50 t253).set 51 t254).set 52 (.bool m249))) ?_ ?_
   ·intro HJ255
    rcases Bool.eq_false_or_eq_true m230 with e256 | e256
    ·have p259:=e256
     have f260:=ifP p259 h250
     refine sP ?_ (hw:=wgF rfl e256)
     refine sP ?_ (hw:=wgF rfl e256)
     refine sV (Av (evb rfl e256) rfl) ?_
     obtain rfl:=Option.some.inj f260
     exact HJ255 _ _ ⟨undef,undef,rfl,(by simp only [S0,S1]<;>rfl)⟩
    ·have p257:=bF e256
     have f258:=ifN p257 h250
     refine sV (Aa rfl) ?_ (hw:=wgT rfl e256)
     refine sb (EO rfl rfl) ?_ (hw:=wgT rfl e256)
     intro z261 hz261
     refine nrm ?_
     refine sV (Ax (evb rfl e256) rfl) ?_
     obtain rfl:z261=decide (¬r10.2=0):=bz hz261
     obtain rfl:=Option.some.inj f258
     exact HJ255 _ _ ⟨(.int .i64 r10.2),(.bool (decide (¬r10.2=0))),rfl,(by simp only [S0,S1]<;>rfl)⟩
   ·rintro l' _ ⟨t253,t254,rfl,hq'⟩ l'' hl
    rw [hq'] at hl
    clear hq'
    simp only [S0,S1] at hl
    subst hl
    refine sV (Aa rfl) ?_
    obtain ⟨m268,h269,f270⟩:=Ab f251
    refine AR 14 (fun l l' w'=>∃(t272:Value) (t273:Value),w12=w'∧l'=(((l.set 54 t272).set 55 t273).set 56 (.bool m268))) ?_ ?_
    ·intro HJ274
     rcases Bool.eq_false_or_eq_true m249 with e275 | e275
     ·have p278:=e275
      have f279:=ifP p278 h269
      refine sP ?_ (hw:=wgF rfl e275)
      refine sP ?_ (hw:=wgF rfl e275)
      refine sV (Av (evb rfl e275) rfl) ?_
      obtain rfl:=Option.some.inj f279
      exact HJ274 _ _ ⟨undef,undef,rfl,(by simp only [S0,S1]<;>rfl)⟩
     ·have p276:=bF e275
      have f277:=ifN p276 h269
      refine sV (Aa rfl) ?_ (hw:=wgT rfl e275)
      refine sb (EO rfl rfl) ?_ (hw:=wgT rfl e275)
      intro z280 hz280
      refine nrm ?_
      refine sV (Ax (evb rfl e275) rfl) ?_
      obtain rfl:z280=decide (¬r204.2=0):=bz hz280
      obtain rfl:=Option.some.inj f277
      exact HJ274 _ _ ⟨(.int .i64 r204.2),(.bool (decide (¬r204.2=0))),rfl,(by simp only [S0,S1]<;>rfl)⟩
    ·rintro l' _ ⟨t272,t273,rfl,hq'⟩ l'' hl
     rw [hq'] at hl
     clear hq'
     simp only [S0,S1] at hl
     subst hl
     refine sV (Aa rfl) ?_
     obtain ⟨m292,h293,f294⟩:=Ab f270
     refine AR 20 (fun l l' w'=>∃(t296:Value) (t297:Value) (t298:Value) (t299:Value),UpdS [] w12 w'∧l'=(((((l.set 58 t296).set 59 t297).set 60 t298).set 61 t299).set 62 (.bool m292))) ?_ ?_
     ·intro HJ300
      rcases Bool.eq_false_or_eq_true m268 with e301 | e301
      ·have p304:=e301
       have f305:=ifP p304 h293
       refine sP ?_ (hw:=wgF rfl e301)
       refine sP ?_ (hw:=wgF rfl e301)
       refine sP ?_ (hw:=wgF rfl e301)
       refine sP ?_ (hw:=wgF rfl e301)
       refine sV (Av (evb rfl e301) rfl) ?_
       obtain rfl:=Option.some.inj f305
       exact HJ300 _ _ ⟨undef,undef,undef,undef,(UpdS.refl _ _),(by simp only [S0,S1]<;>rfl)⟩
      ·have p302:=bF e301
       have f303:=ifN p302 h293
       refine sV (Ai Ay rfl ((q68.ext E207).ext F221) rfl) ?_ (hw:=wgT rfl e301)
       refine sV (Ai Ay rfl q219 rfl) ?_ (hw:=wgT rfl e301)
       obtain ⟨r306,h307,f308⟩:=Ab f303
       refine sc (Af EM (by rfl)) (AA r60.1 r204.1 A63 c64 A208 c209 w12 (TB.ext X220 hT) ((n65.ext E207).ext F221) (n210.ext F221) r306 h307) ?_ (hw:=wgT rfl e301)
       rintro _ w13 E309 rfl
       refine nrm ?_
       refine sb (BE rfl) ?_ (hw:=wgT rfl e301)
       intro z311 hz311
       refine nrm ?_
       refine sV (Ax (evb rfl e301) rfl) ?_
       obtain rfl:z311=decide (¬(r306=true)):=bz hz311
       obtain rfl:=Option.some.inj f308
       exact HJ300 _ _ ⟨(.agg #[.bool r60.1.Man.Neg,.slice A63 (sz r60.1.Man.Abs) c64,.int .i64 r60.1.Exp]),(.agg #[.bool r204.1.Man.Neg,.slice A208 (sz r204.1.Man.Abs) c209,.int .i64 r204.1.Exp]),(.bool r306),(.bool (decide (¬(r306=true)))),((UpdS.refl _ _).ext E309),(by simp only [S0,S1]<;>rfl)⟩
     ·rintro l' w13 ⟨t296,t297,t298,t299,U295,hq'⟩ l'' hl
      rw [hq'] at hl
      clear hq'
      simp only [S0,S1] at hl
      subst hl
      have X312:=Ez X220 U295 (X220).size al0
      refine Ad<|h222 _ _ ?_
      rcases Bool.eq_false_or_eq_true m292 with e319 | e319
      ·have p322:=e319
       have f323:=ifP p322 f294
       refine wp_cond_true (An (evb rfl e319))<|wp_seq_k fun K1511 h1511=>Aj<|sV (Ac rfl) ?_
       refine Ad<|h1511 _ _<|wp_ret ?_
       obtain rfl:=Option.some.inj f323
       exact fin rfl (Res.tmp rfl Res.nil) (Ap X312 rfl)
      ·have p320:=bF e319
       have f321:=ifN p320 f294
       refine wp_cond_false (An (evb rfl e319))<|wp_skip<|h32 _ _<|Aj<|sV (Aa rfl) ?_
       refine sV (BB (c:=2) rfl rfl (by decide)) ?_
       refine sV (Ac rfl) ?_
       refine Ad<|Bv<|wp_seq_k fun K324 h324=>wp_seq_k fun K325 h325=>Aj<|sV (Aa rfl) ?_
       refine sV (FW (v:=.bool true) (EL rfl rfl) (by rfl)) ?_
       refine Ad<|h325 _ _<|wp_cond_true (An (evb rfl rfl))<|wp_skip<|h324 _ _<|wp_seq_k fun K326 h326=>?_
       apply wp_block
       refine wp_seq_k fun K327 h327=>Aj<|have q328:=((((((((q8.ext E13).ext F27).ext E37).ext F51).ext E53).ext E69).ext E207).ext F221).updS U295 nm0;sV (Ai Ay rfl q328 rfl) ?_
       refine sV (Aa rfl) ?_
       refine sV (Aa rfl) ?_
       obtain ⟨r329,h330,f331⟩:=Ab f321
       refine sc (Af DX (by rfl)) (Ar x0 x1 2 A1 c2 w13 (TB.ext X312 hT) (n3.ext X312) r329 h330) ?_
       rintro _ w14 E332 ⟨A333,c334,rfl,n335⟩
       refine nrm ?_
       have X336:=Ext.trans X312 E332
       refine sV (Aa rfl) ?_
       refine sV (Ag rfl rfl) ?_
       refine sV (Ag rfl rfl) ?_
       refine AB AV fun b337 w15 E338 g339 q340=>?_
       refine nrm ?_
       have g341:=Nat.le_trans X336.size g339
       refine AE AC rfl rfl q340 rfl rfl rfl rfl (by simp only [SP0,SP1,S0,S1,Nat.reduceAdd];rfl) fun w16 U343 q344=>?_
       have F346:=belU E338 U343 g339
       have X345:=Ext.trans X336 F346
       refine sV (Ac rfl) ?_
       refine Ad<|h327 _ _<|wp_seq_k fun K347 h347=>DR [9] 11 mo rfl fun w17 E348 S349=>have X350:=Ext.trans X345 E348;dV 0 rfl (fun _ hw=>Ai Ay rfl (((((((((((q25.ext E37).ext F51).ext E53).ext E69).ext E207).ext F221).updS U295 nm0).ext E332).ext F346).ext E348).ext hw) rfl) S349 ?_
       refine dA 1 rfl (fun _=>Aa rfl) ?_
       refine dA 2 rfl (fun _=>Aa rfl) ?_
       obtain ⟨r351,h352,f353⟩:=Ab f331
       have n354:=((((((n59.ext E69).ext E207).ext F221).updS U295 al0).ext E332).ext F346).ext E348
       obtain ⟨r355,h356,f357⟩:=Ab f353
       refine Jl #[true,true,true,true,true,true,true,true,true,true,false] 1 (fun l' w'=>∃(A358:Option Addr) (c359:Nat) (b361:Nat),Ext w17 w'∧RU w' A358 c359 r355.1.Man.Abs∧w17.heap.size≤b361∧Bx w' b361 27 [.bool r355.1.Man.Neg,.slice A358 (sz r355.1.Man.Abs) c359,.int .i64 r355.1.Exp]∧l'=[.agg #[.bool x0.Man.Neg,.slice A1 (sz x0.Man.Abs) c2,.int .i64 x0.Exp],.int .i64 x1,.pointer (some ⟨b5,0,none⟩),undef,.bool false,.pointer (some ⟨b18,0,none⟩),.int .i64 r10.2,.int .i64 2,.pointer (some ⟨b337,0,none⟩),.bool r329.2,.pointer (some ⟨b361,0,none⟩),.bool r60.2,.pointer (some ⟨b212,0,none⟩),.int .i64 r204.2,.tuple #[.agg #[.bool r10.1.Man.Neg,.slice A14 (sz r10.1.Man.Abs) c15,.int .i64 r10.1.Exp],.int .i64 r10.2],.agg #[.bool x0.Man.Neg,.slice A1 (sz x0.Man.Abs) c2,.int .i64 x0.Exp],.tuple #[.agg #[.bool r10.1.Man.Neg,.slice A14 (sz r10.1.Man.Abs) c15,.int .i64 r10.1.Exp],.int .i64 r10.2],.agg #[.bool r10.1.Man.Neg,.slice A14 (sz r10.1.Man.Abs) c15,.int .i64 r10.1.Exp],.int .i64 r10.2,.int .i64 2,.bool true,.int .i64 1,.int .i64 2,.tuple #[.agg #[.bool r329.1.Man.Neg,.slice A333 (sz r329.1.Man.Abs) c334,.int .i64 r329.1.Exp],.bool r329.2],.agg #[.bool x0.Man.Neg,.slice A1 (sz x0.Man.Abs) c2,.int .i64 x0.Exp],.int .i64 x1,.int .i64 2,.tuple #[.agg #[.bool r329.1.Man.Neg,.slice A333 (sz r329.1.Man.Abs) c334,.int .i64 r329.1.Exp],.bool r329.2],.agg #[.bool r329.1.Man.Neg,.slice A333 (sz r329.1.Man.Abs) c334,.int .i64 r329.1.Exp],.bool r329.2,.tuple #[.agg #[.bool r355.1.Man.Neg,.slice A358 (sz r355.1.Man.Abs) c359,.int .i64 r355.1.Exp],.bool r355.2],.agg #[.bool r10.1.Man.Neg,.slice A14 (sz r10.1.Man.Abs) c15,.int .i64 r10.1.Exp],.int .i64 x1,.int .i64 2,.int .i64 r351,.tuple #[.agg #[.bool r355.1.Man.Neg,.slice A358 (sz r355.1.Man.Abs) c359,.int .i64 r355.1.Exp],.bool r355.2],.agg #[.bool r355.1.Man.Neg,.slice A358 (sz r355.1.Man.Abs) c359,.int .i64 r355.1.Exp],.bool r355.2,.tuple #[.agg #[.bool r204.1.Man.Neg,.slice A208 (sz r204.1.Man.Abs) c209,.int .i64 r204.1.Exp],.int .i64 r204.2],.agg #[.bool r34.1.Man.Neg,.slice A38 (sz r34.1.Man.Abs) c39,.int .i64 r34.1.Exp],.tuple #[.agg #[.bool r204.1.Man.Neg,.slice A208 (sz r204.1.Man.Abs) c209,.int .i64 r204.1.Exp],.int .i64 r204.2],.agg #[.bool r204.1.Man.Neg,.slice A208 (sz r204.1.Man.Abs) c209,.int .i64 r204.1.Exp],.int .i64 r204.2,.bool r34.2,.bool z223,.bool z223,t234,t235,.bool m230,.bool m230,t253,t254,.bool m249,.bool m249,t272,t273,.bool m268,.bool m268,t296,t297,t298,t299,.bool m292]) ?_ ?_
       ·rintro _ w18 ⟨A358,c359,b361,E364,n360,g362,q363,rfl⟩
        have g494:=Nat.le_trans X350.size g362
        have X495:=Ext.trans X350 E364
        have S496:=S349.trans E364
        refine dA 10 rfl (fun _=>Ac rfl) ?_
        refine Cx (by kernel_rfl) ?_
        refine h347 _ _<|wp_seq_k fun K497 h497=>Aj<|sV (Ai Ay rfl ((q344.ext E348).ext E364) rfl) ?_
        have n498:=((n335.ext F346).ext E348).ext E364
        obtain ⟨r499,h500,f501⟩:=Ab f357
        refine sc (Af KF (by rfl)) (GK (⟨(⟨r329.1.Man.Neg,(limbs r329.1.Man.Abs)⟩:AD),r329.1.Exp⟩:Al) A333 c334 w18 (TB.ext X495 hT) n498 r499 h500) ?_
        rintro _ w19 E502 ⟨A503,c504,rfl,n505⟩
        refine nrm ?_
        have X506:=Ext.trans X495 E502
        refine sV (Aa rfl) ?_
        refine sV (Ag rfl rfl) ?_
        refine sV (Ag rfl rfl) ?_
        refine AB AV fun b507 w20 E508 g509 q510=>?_
        refine nrm ?_
        have g511:=Nat.le_trans X506.size g509
        refine AE AC rfl rfl q510 rfl rfl rfl rfl (by simp only [SP0,SP1,S0,S1,Nat.reduceAdd];rfl) fun w21 U513 q514=>?_
        have F516:=belU E508 U513 g509
        have X515:=Ext.trans X506 F516
        refine sV (Ac rfl) ?_
        refine Ad<|h497 _ _<|wp_seq_k fun K517 h517=>Aj<|sV (Aa rfl) ?_
        refine sb (BE rfl) fun z518 hz518=>?_
        refine nrm ?_
        refine sV (Aa rfl) ?_
        obtain ⟨m525,h526,f527⟩:=Ab f501
        refine AR 6 (fun l l' w'=>∃(t529:Value) (t530:Value),w21=w'∧l'=(((l.set 46 t529).set 47 t530).set 48 (.bool m525))) ?_ ?_
        ·intro HJ531
         rcases Bool.eq_false_or_eq_true z518 with e532 | e532
         ·have p535:=zP hz518 e532
          have f536:=ifP p535 h526
          refine sP ?_ (hw:=wgF rfl e532)
          refine sP ?_ (hw:=wgF rfl e532)
          refine sV (Av (evb rfl e532) rfl) ?_
          obtain rfl:=Option.some.inj f536
          exact HJ531 _ _ ⟨undef,undef,rfl,(by simp only [S0,S1]<;>rfl)⟩
         ·have p533:=zN hz518 e532
          have f534:=ifN p533 h526
          refine sV (Aa rfl) ?_ (hw:=wgT rfl e532)
          refine sb (BE rfl) ?_ (hw:=wgT rfl e532)
          intro z537 hz537
          refine nrm ?_
          refine sV (Ax (evb rfl e532) rfl) ?_
          obtain rfl:z537=decide (¬(r355.2=true)):=bz hz537
          obtain rfl:=Option.some.inj f534
          exact HJ531 _ _ ⟨(.bool r355.2),(.bool (decide (¬(r355.2=true)))),rfl,(by simp only [S0,S1]<;>rfl)⟩
        ·rintro l' _ ⟨t529,t530,rfl,hq'⟩ l'' hl
         rw [hq'] at hl
         clear hq'
         simp only [S0,S1] at hl
         subst hl
         refine sV (Aa rfl) ?_
         obtain ⟨m544,h545,f546⟩:=Ab f527
         refine AR 10 (fun l l' w'=>∃(t548:Value) (t549:Value),w21=w'∧l'=(((l.set 50 t548).set 51 t549).set 52 (.bool m544))) ?_ ?_
         ·intro HJ550
          rcases Bool.eq_false_or_eq_true m525 with e551 | e551
          ·have p554:=e551
           have f555:=ifP p554 h545
           refine sP ?_ (hw:=wgF rfl e551)
           refine sP ?_ (hw:=wgF rfl e551)
           refine sV (Av (evb rfl e551) rfl) ?_
           obtain rfl:=Option.some.inj f555
           exact HJ550 _ _ ⟨undef,undef,rfl,(by simp only [S0,S1]<;>rfl)⟩
          ·have p552:=bF e551
           have f553:=ifN p552 h545
           refine sV (Aa rfl) ?_ (hw:=wgT rfl e551)
           refine sb (EO rfl rfl) ?_ (hw:=wgT rfl e551)
           intro z556 hz556
           refine nrm ?_
           refine sV (Ax (evb rfl e551) rfl) ?_
           obtain rfl:z556=decide (¬r10.2=0):=bz hz556
           obtain rfl:=Option.some.inj f553
           exact HJ550 _ _ ⟨(.int .i64 r10.2),(.bool (decide (¬r10.2=0))),rfl,(by simp only [S0,S1]<;>rfl)⟩
         ·rintro l' _ ⟨t548,t549,rfl,hq'⟩ l'' hl
          rw [hq'] at hl
          clear hq'
          simp only [S0,S1] at hl
          subst hl
          refine sV (Aa rfl) ?_
          obtain ⟨m563,h564,f565⟩:=Ab f546
          refine AR 14 (fun l l' w'=>∃(t567:Value) (t568:Value),w21=w'∧l'=(((l.set 54 t567).set 55 t568).set 56 (.bool m563))) ?_ ?_
          ·intro HJ569
           rcases Bool.eq_false_or_eq_true m544 with e570 | e570
           ·have p573:=e570
            have f574:=ifP p573 h564
            refine sP ?_ (hw:=wgF rfl e570)
            refine sP ?_ (hw:=wgF rfl e570)
            refine sV (Av (evb rfl e570) rfl) ?_
            obtain rfl:=Option.some.inj f574
            exact HJ569 _ _ ⟨undef,undef,rfl,(by simp only [S0,S1]<;>rfl)⟩
           ·have p571:=bF e570
            have f572:=ifN p571 h564
            refine sV (Aa rfl) ?_ (hw:=wgT rfl e570)
            refine sb (EO rfl rfl) ?_ (hw:=wgT rfl e570)
            intro z575 hz575
            refine nrm ?_
            refine sV (Ax (evb rfl e570) rfl) ?_
            obtain rfl:z575=decide (¬r499.2=0):=bz hz575
            obtain rfl:=Option.some.inj f572
            exact HJ569 _ _ ⟨(.int .i64 r499.2),(.bool (decide (¬r499.2=0))),rfl,(by simp only [S0,S1]<;>rfl)⟩
          ·rintro l' _ ⟨t567,t568,rfl,hq'⟩ l'' hl
           rw [hq'] at hl
           clear hq'
           simp only [S0,S1] at hl
           subst hl
           refine sV (Aa rfl) ?_
           obtain ⟨m587,h588,f589⟩:=Ab f565
           refine AR 20 (fun l l' w'=>∃(t591:Value) (t592:Value) (t593:Value) (t594:Value),UpdS [] w21 w'∧l'=(((((l.set 58 t591).set 59 t592).set 60 t593).set 61 t594).set 62 (.bool m587))) ?_ ?_
           ·intro HJ595
            rcases Bool.eq_false_or_eq_true m563 with e596 | e596
            ·have p599:=e596
             have f600:=ifP p599 h588
             refine sP ?_ (hw:=wgF rfl e596)
             refine sP ?_ (hw:=wgF rfl e596)
             refine sP ?_ (hw:=wgF rfl e596)
             refine sP ?_ (hw:=wgF rfl e596)
             refine sV (Av (evb rfl e596) rfl) ?_
             obtain rfl:=Option.some.inj f600
             exact HJ595 _ _ ⟨undef,undef,undef,undef,(UpdS.refl _ _),(by simp only [S0,S1]<;>rfl)⟩
            ·have p597:=bF e596
             have f598:=ifN p597 h588
             refine sV (Ai Ay rfl ((q363.ext E502).ext F516) rfl) ?_ (hw:=wgT rfl e596)
             refine sV (Ai Ay rfl q514 rfl) ?_ (hw:=wgT rfl e596)
             obtain ⟨r601,h602,f603⟩:=Ab f598
             refine sc (Af EM (by rfl)) (AA r355.1 r499.1 A358 c359 A503 c504 w21 (TB.ext X515 hT) ((n360.ext E502).ext F516) (n505.ext F516) r601 h602) ?_ (hw:=wgT rfl e596)
             rintro _ w22 E604 rfl
             refine nrm ?_
             refine sb (BE rfl) ?_ (hw:=wgT rfl e596)
             intro z606 hz606
             refine nrm ?_
             refine sV (Ax (evb rfl e596) rfl) ?_
             obtain rfl:z606=decide (¬(r601=true)):=bz hz606
             obtain rfl:=Option.some.inj f603
             exact HJ595 _ _ ⟨(.agg #[.bool r355.1.Man.Neg,.slice A358 (sz r355.1.Man.Abs) c359,.int .i64 r355.1.Exp]),(.agg #[.bool r499.1.Man.Neg,.slice A503 (sz r499.1.Man.Abs) c504,.int .i64 r499.1.Exp]),(.bool r601),(.bool (decide (¬(r601=true)))),((UpdS.refl _ _).ext E604),(by simp only [S0,S1]<;>rfl)⟩
           ·rintro l' w22 ⟨t591,t592,t593,t594,U590,hq'⟩ l'' hl
            rw [hq'] at hl
            clear hq'
            simp only [S0,S1] at hl
            subst hl
            have X607:=Ez X515 U590 (X515).size al0
            refine Ad<|h517 _ _ ?_
            rcases Bool.eq_false_or_eq_true m587 with e614 | e614
            ·have p617:=e614
             have f618:=ifP p617 f589
             refine wp_cond_true (An (evb rfl e614))<|wp_seq_k fun K1510 h1510=>Aj<|sV (Ac rfl) ?_
             refine Ad<|h1510 _ _<|wp_ret ?_
             obtain rfl:=Option.some.inj f618
             exact fin rfl (Res.tmp rfl Res.nil) (Ap X607 rfl)
            ·have p615:=bF e614
             have f616:=ifN p615 f589
             refine wp_cond_false (An (evb rfl e614))<|wp_skip<|h326 _ _<|Aj<|sV (Aa rfl) ?_
             refine sV (BB (c:=3) rfl rfl (by decide)) ?_
             refine sV (Ac rfl) ?_
             refine Ad<|Bv<|wp_seq_k fun K619 h619=>wp_seq_k fun K620 h620=>Aj<|sV (Aa rfl) ?_
             refine sV (FW (v:=.bool true) (EL rfl rfl) (by rfl)) ?_
             refine Ad<|h620 _ _<|wp_cond_true (An (evb rfl rfl))<|wp_skip<|h619 _ _<|wp_seq_k fun K621 h621=>?_
             apply wp_block
             refine wp_seq_k fun K622 h622=>Aj<|have q623:=((((((q328.ext E332).ext F346).ext E348).ext E364).ext E502).ext F516).updS U590 nm0;sV (Ai Ay rfl q623 rfl) ?_
             refine sV (Aa rfl) ?_
             refine sV (Aa rfl) ?_
             obtain ⟨r624,h625,f626⟩:=Ab f616
             refine sc (Af DX (by rfl)) (Ar x0 x1 3 A1 c2 w22 (TB.ext X607 hT) (n3.ext X607) r624 h625) ?_
             rintro _ w23 E627 ⟨A628,c629,rfl,n630⟩
             refine nrm ?_
             have X631:=Ext.trans X607 E627
             refine sV (Aa rfl) ?_
             refine sV (Ag rfl rfl) ?_
             refine sV (Ag rfl rfl) ?_
             refine AB AV fun b632 w24 E633 g634 q635=>?_
             refine nrm ?_
             have g636:=Nat.le_trans X631.size g634
             refine AE AC rfl rfl q635 rfl rfl rfl rfl (by simp only [SP0,SP1,S0,S1,Nat.reduceAdd];rfl) fun w25 U638 q639=>?_
             have F641:=belU E633 U638 g634
             have X640:=Ext.trans X631 F641
             refine sV (Ac rfl) ?_
             refine Ad<|h622 _ _<|wp_seq_k fun K642 h642=>DR [9] 11 mo rfl fun w26 E643 S644=>have X645:=Ext.trans X640 E643;dV 0 rfl (fun _ hw=>Ai Ay rfl ((((((((((((((((((q25.ext E37).ext F51).ext E53).ext E69).ext E207).ext F221).updS U295 nm0).ext E332).ext F346).ext E348).ext E364).ext E502).ext F516).updS U590 nm0).ext E627).ext F641).ext E643).ext hw) rfl) S644 ?_
             refine dA 1 rfl (fun _=>Aa rfl) ?_
             refine dA 2 rfl (fun _=>Aa rfl) ?_
             obtain ⟨r646,h647,f648⟩:=Ab f626
             have n649:=((((((n354.ext E364).ext E502).ext F516).updS U590 al0).ext E627).ext F641).ext E643
             obtain ⟨r650,h651,f652⟩:=Ab f648
             refine Jl #[true,true,true,true,true,true,true,true,true,true,false] 1 (fun l' w'=>∃(A653:Option Addr) (c654:Nat) (b656:Nat),Ext w26 w'∧RU w' A653 c654 r650.1.Man.Abs∧w26.heap.size≤b656∧Bx w' b656 27 [.bool r650.1.Man.Neg,.slice A653 (sz r650.1.Man.Abs) c654,.int .i64 r650.1.Exp]∧l'=[.agg #[.bool x0.Man.Neg,.slice A1 (sz x0.Man.Abs) c2,.int .i64 x0.Exp],.int .i64 x1,.pointer (some ⟨b5,0,none⟩),undef,.bool false,.pointer (some ⟨b18,0,none⟩),.int .i64 r10.2,.int .i64 3,.pointer (some ⟨b632,0,none⟩),.bool r624.2,.pointer (some ⟨b656,0,none⟩),.bool r355.2,.pointer (some ⟨b507,0,none⟩),.int .i64 r499.2,.tuple #[.agg #[.bool r10.1.Man.Neg,.slice A14 (sz r10.1.Man.Abs) c15,.int .i64 r10.1.Exp],.int .i64 r10.2],.agg #[.bool x0.Man.Neg,.slice A1 (sz x0.Man.Abs) c2,.int .i64 x0.Exp],.tuple #[.agg #[.bool r10.1.Man.Neg,.slice A14 (sz r10.1.Man.Abs) c15,.int .i64 r10.1.Exp],.int .i64 r10.2],.agg #[.bool r10.1.Man.Neg,.slice A14 (sz r10.1.Man.Abs) c15,.int .i64 r10.1.Exp],.int .i64 r10.2,.int .i64 3,.bool true,.int .i64 2,.int .i64 3,.tuple #[.agg #[.bool r624.1.Man.Neg,.slice A628 (sz r624.1.Man.Abs) c629,.int .i64 r624.1.Exp],.bool r624.2],.agg #[.bool x0.Man.Neg,.slice A1 (sz x0.Man.Abs) c2,.int .i64 x0.Exp],.int .i64 x1,.int .i64 3,.tuple #[.agg #[.bool r624.1.Man.Neg,.slice A628 (sz r624.1.Man.Abs) c629,.int .i64 r624.1.Exp],.bool r624.2],.agg #[.bool r624.1.Man.Neg,.slice A628 (sz r624.1.Man.Abs) c629,.int .i64 r624.1.Exp],.bool r624.2,.tuple #[.agg #[.bool r650.1.Man.Neg,.slice A653 (sz r650.1.Man.Abs) c654,.int .i64 r650.1.Exp],.bool r650.2],.agg #[.bool r10.1.Man.Neg,.slice A14 (sz r10.1.Man.Abs) c15,.int .i64 r10.1.Exp],.int .i64 x1,.int .i64 3,.int .i64 r646,.tuple #[.agg #[.bool r650.1.Man.Neg,.slice A653 (sz r650.1.Man.Abs) c654,.int .i64 r650.1.Exp],.bool r650.2],.agg #[.bool r650.1.Man.Neg,.slice A653 (sz r650.1.Man.Abs) c654,.int .i64 r650.1.Exp],.bool r650.2,.tuple #[.agg #[.bool r499.1.Man.Neg,.slice A503 (sz r499.1.Man.Abs) c504,.int .i64 r499.1.Exp],.int .i64 r499.2],.agg #[.bool r329.1.Man.Neg,.slice A333 (sz r329.1.Man.Abs) c334,.int .i64 r329.1.Exp],.tuple #[.agg #[.bool r499.1.Man.Neg,.slice A503 (sz r499.1.Man.Abs) c504,.int .i64 r499.1.Exp],.int .i64 r499.2],.agg #[.bool r499.1.Man.Neg,.slice A503 (sz r499.1.Man.Abs) c504,.int .i64 r499.1.Exp],.int .i64 r499.2,.bool r329.2,.bool z518,.bool z518,t529,t530,.bool m525,.bool m525,t548,t549,.bool m544,.bool m544,t567,t568,.bool m563,.bool m563,t591,t592,t593,t594,.bool m587]) ?_ ?_
             ·rintro _ w27 ⟨A653,c654,b656,E659,n655,g657,q658,rfl⟩
              have g789:=Nat.le_trans X645.size g657
              have X790:=Ext.trans X645 E659
              have S791:=S644.trans E659
              refine dA 10 rfl (fun _=>Ac rfl) ?_
              refine Cx (by kernel_rfl) ?_
              refine h642 _ _<|wp_seq_k fun K792 h792=>Aj<|sV (Ai Ay rfl ((q639.ext E643).ext E659) rfl) ?_
              have n793:=((n630.ext F641).ext E643).ext E659
              obtain ⟨r794,h795,f796⟩:=Ab f652
              refine sc (Af KF (by rfl)) (GK (⟨(⟨r624.1.Man.Neg,(limbs r624.1.Man.Abs)⟩:AD),r624.1.Exp⟩:Al) A628 c629 w27 (TB.ext X790 hT) n793 r794 h795) ?_
              rintro _ w28 E797 ⟨A798,c799,rfl,n800⟩
              refine nrm ?_
              have X801:=Ext.trans X790 E797
              refine sV (Aa rfl) ?_
              refine sV (Ag rfl rfl) ?_
              refine sV (Ag rfl rfl) ?_
              refine AB AV fun b802 w29 E803 g804 q805=>?_
              refine nrm ?_
              have g806:=Nat.le_trans X801.size g804
              refine AE AC rfl rfl q805 rfl rfl rfl rfl (by simp only [SP0,SP1,S0,S1,Nat.reduceAdd];rfl) fun w30 U808 q809=>?_
              have F811:=belU E803 U808 g804
              have X810:=Ext.trans X801 F811
              refine sV (Ac rfl) ?_
              refine Ad<|h792 _ _<|wp_seq_k fun K812 h812=>Aj<|sV (Aa rfl) ?_
              refine sb (BE rfl) fun z813 hz813=>?_
              refine nrm ?_
              refine sV (Aa rfl) ?_
              obtain ⟨m820,h821,f822⟩:=Ab f796
              refine AR 6 (fun l l' w'=>∃(t824:Value) (t825:Value),w30=w'∧l'=(((l.set 46 t824).set 47 t825).set 48 (.bool m820))) ?_ ?_
              ·intro HJ826
               rcases Bool.eq_false_or_eq_true z813 with e827 | e827
               ·have p830:=zP hz813 e827
                have f831:=ifP p830 h821
                refine sP ?_ (hw:=wgF rfl e827)
                refine sP ?_ (hw:=wgF rfl e827)
                refine sV (Av (evb rfl e827) rfl) ?_
                obtain rfl:=Option.some.inj f831
                exact HJ826 _ _ ⟨undef,undef,rfl,(by simp only [S0,S1]<;>rfl)⟩
               ·have p828:=zN hz813 e827
                have f829:=ifN p828 h821
                refine sV (Aa rfl) ?_ (hw:=wgT rfl e827)
                refine sb (BE rfl) ?_ (hw:=wgT rfl e827)
                intro z832 hz832
                refine nrm ?_
                refine sV (Ax (evb rfl e827) rfl) ?_
                obtain rfl:z832=decide (¬(r650.2=true)):=bz hz832
                obtain rfl:=Option.some.inj f829
                exact HJ826 _ _ ⟨(.bool r650.2),(.bool (decide (¬(r650.2=true)))),rfl,(by simp only [S0,S1]<;>rfl)⟩
              ·rintro l' _ ⟨t824,t825,rfl,hq'⟩ l'' hl
               rw [hq'] at hl
               clear hq'
               simp only [S0,S1] at hl
               subst hl
               refine sV (Aa rfl) ?_
               obtain ⟨m839,h840,f841⟩:=Ab f822
               refine AR 10 (fun l l' w'=>∃(t843:Value) (t844:Value),w30=w'∧l'=(((l.set 50 t843).set 51 t844).set 52 (.bool m839))) ?_ ?_
               ·intro HJ845
                rcases Bool.eq_false_or_eq_true m820 with e846 | e846
                ·have p849:=e846
                 have f850:=ifP p849 h840
                 refine sP ?_ (hw:=wgF rfl e846)
                 refine sP ?_ (hw:=wgF rfl e846)
                 refine sV (Av (evb rfl e846) rfl) ?_
                 obtain rfl:=Option.some.inj f850
                 exact HJ845 _ _ ⟨undef,undef,rfl,(by simp only [S0,S1]<;>rfl)⟩
                ·have p847:=bF e846
                 have f848:=ifN p847 h840
                 refine sV (Aa rfl) ?_ (hw:=wgT rfl e846)
                 refine sb (EO rfl rfl) ?_ (hw:=wgT rfl e846)
                 intro z851 hz851
                 refine nrm ?_
                 refine sV (Ax (evb rfl e846) rfl) ?_
                 obtain rfl:z851=decide (¬r10.2=0):=bz hz851
                 obtain rfl:=Option.some.inj f848
                 exact HJ845 _ _ ⟨(.int .i64 r10.2),(.bool (decide (¬r10.2=0))),rfl,(by simp only [S0,S1]<;>rfl)⟩
               ·rintro l' _ ⟨t843,t844,rfl,hq'⟩ l'' hl
                rw [hq'] at hl
                clear hq'
                simp only [S0,S1] at hl
                subst hl
                refine sV (Aa rfl) ?_
                obtain ⟨m858,h859,f860⟩:=Ab f841
                refine AR 14 (fun l l' w'=>∃(t862:Value) (t863:Value),w30=w'∧l'=(((l.set 54 t862).set 55 t863).set 56 (.bool m858))) ?_ ?_
                ·intro HJ864
                 rcases Bool.eq_false_or_eq_true m839 with e865 | e865
                 ·have p868:=e865
                  have f869:=ifP p868 h859
                  refine sP ?_ (hw:=wgF rfl e865)
                  refine sP ?_ (hw:=wgF rfl e865)
                  refine sV (Av (evb rfl e865) rfl) ?_
                  obtain rfl:=Option.some.inj f869
                  exact HJ864 _ _ ⟨undef,undef,rfl,(by simp only [S0,S1]<;>rfl)⟩
                 ·have p866:=bF e865
                  have f867:=ifN p866 h859
                  refine sV (Aa rfl) ?_ (hw:=wgT rfl e865)
                  refine sb (EO rfl rfl) ?_ (hw:=wgT rfl e865)
                  intro z870 hz870
                  refine nrm ?_
                  refine sV (Ax (evb rfl e865) rfl) ?_
                  obtain rfl:z870=decide (¬r794.2=0):=bz hz870
                  obtain rfl:=Option.some.inj f867
                  exact HJ864 _ _ ⟨(.int .i64 r794.2),(.bool (decide (¬r794.2=0))),rfl,(by simp only [S0,S1]<;>rfl)⟩
                ·rintro l' _ ⟨t862,t863,rfl,hq'⟩ l'' hl
                 rw [hq'] at hl
                 clear hq'
                 simp only [S0,S1] at hl
                 subst hl
                 refine sV (Aa rfl) ?_
                 obtain ⟨m882,h883,f884⟩:=Ab f860
                 refine AR 20 (fun l l' w'=>∃(t886:Value) (t887:Value) (t888:Value) (t889:Value),UpdS [] w30 w'∧l'=(((((l.set 58 t886).set 59 t887).set 60 t888).set 61 t889).set 62 (.bool m882))) ?_ ?_
                 ·intro HJ890
                  rcases Bool.eq_false_or_eq_true m858 with e891 | e891
                  ·have p894:=e891
                   have f895:=ifP p894 h883
                   refine sP ?_ (hw:=wgF rfl e891)
                   refine sP ?_ (hw:=wgF rfl e891)
                   refine sP ?_ (hw:=wgF rfl e891)
                   refine sP ?_ (hw:=wgF rfl e891)
                   refine sV (Av (evb rfl e891) rfl) ?_
                   obtain rfl:=Option.some.inj f895
                   exact HJ890 _ _ ⟨undef,undef,undef,undef,(UpdS.refl _ _),(by simp only [S0,S1]<;>rfl)⟩
                  ·have p892:=bF e891
                   have f893:=ifN p892 h883
                   refine sV (Ai Ay rfl ((q658.ext E797).ext F811) rfl) ?_ (hw:=wgT rfl e891)
                   refine sV (Ai Ay rfl q809 rfl) ?_ (hw:=wgT rfl e891)
                   obtain ⟨r896,h897,f898⟩:=Ab f893
                   refine sc (Af EM (by rfl)) (AA r650.1 r794.1 A653 c654 A798 c799 w30 (TB.ext X810 hT) ((n655.ext E797).ext F811) (n800.ext F811) r896 h897) ?_ (hw:=wgT rfl e891)
                   rintro _ w31 E899 rfl
                   refine nrm ?_
                   refine sb (BE rfl) ?_ (hw:=wgT rfl e891)
                   intro z901 hz901
                   refine nrm ?_
                   refine sV (Ax (evb rfl e891) rfl) ?_
                   obtain rfl:z901=decide (¬(r896=true)):=bz hz901
                   obtain rfl:=Option.some.inj f898
                   exact HJ890 _ _ ⟨(.agg #[.bool r650.1.Man.Neg,.slice A653 (sz r650.1.Man.Abs) c654,.int .i64 r650.1.Exp]),(.agg #[.bool r794.1.Man.Neg,.slice A798 (sz r794.1.Man.Abs) c799,.int .i64 r794.1.Exp]),(.bool r896),(.bool (decide (¬(r896=true)))),((UpdS.refl _ _).ext E899),(by simp only [S0,S1]<;>rfl)⟩
                 ·rintro l' w31 ⟨t886,t887,t888,t889,U885,hq'⟩ l'' hl
                  rw [hq'] at hl
                  clear hq'
                  simp only [S0,S1] at hl
                  subst hl
                  have X902:=Ez X810 U885 (X810).size al0
                  refine Ad<|h812 _ _ ?_
                  rcases Bool.eq_false_or_eq_true m882 with e909 | e909
                  ·have p912:=e909
                   have f913:=ifP p912 f884
                   refine wp_cond_true (An (evb rfl e909))<|wp_seq_k fun K1509 h1509=>Aj<|sV (Ac rfl) ?_
                   refine Ad<|h1509 _ _<|wp_ret ?_
                   obtain rfl:=Option.some.inj f913
                   exact fin rfl (Res.tmp rfl Res.nil) (Ap X902 rfl)
                  ·have p910:=bF e909
                   have f911:=ifN p910 f884
                   refine wp_cond_false (An (evb rfl e909))<|wp_skip<|h621 _ _<|Aj<|sV (Aa rfl) ?_
                   refine sV (BB (c:=4) rfl rfl (by decide)) ?_
                   refine sV (Ac rfl) ?_
                   refine Ad<|Bv<|wp_seq_k fun K914 h914=>wp_seq_k fun K915 h915=>Aj<|sV (Aa rfl) ?_
                   refine sV (FW (v:=.bool true) (EL rfl rfl) (by rfl)) ?_
                   refine Ad<|h915 _ _<|wp_cond_true (An (evb rfl rfl))<|wp_skip<|h914 _ _<|wp_seq_k fun K916 h916=>?_
                   apply wp_block
                   refine wp_seq_k fun K917 h917=>Aj<|have q918:=((((((q623.ext E627).ext F641).ext E643).ext E659).ext E797).ext F811).updS U885 nm0;sV (Ai Ay rfl q918 rfl) ?_
                   refine sV (Aa rfl) ?_
                   refine sV (Aa rfl) ?_
                   obtain ⟨r919,h920,f921⟩:=Ab f911
                   refine sc (Af DX (by rfl)) (Ar x0 x1 4 A1 c2 w31 (TB.ext X902 hT) (n3.ext X902) r919 h920) ?_
                   rintro _ w32 E922 ⟨A923,c924,rfl,n925⟩
                   refine nrm ?_
                   have X926:=Ext.trans X902 E922
                   refine sV (Aa rfl) ?_
                   refine sV (Ag rfl rfl) ?_
                   refine sV (Ag rfl rfl) ?_
                   refine AB AV fun b927 w33 E928 g929 q930=>?_
                   refine nrm ?_
                   have g931:=Nat.le_trans X926.size g929
                   refine AE AC rfl rfl q930 rfl rfl rfl rfl (by simp only [SP0,SP1,S0,S1,Nat.reduceAdd];rfl) fun w34 U933 q934=>?_
                   have F936:=belU E928 U933 g929
                   have X935:=Ext.trans X926 F936
                   refine sV (Ac rfl) ?_
                   refine Ad<|h917 _ _<|wp_seq_k fun K937 h937=>DR [9] 11 mo rfl fun w35 E938 S939=>have X940:=Ext.trans X935 E938;dV 0 rfl (fun _ hw=>Ai Ay rfl (((((((((((((((((((((((((q25.ext E37).ext F51).ext E53).ext E69).ext E207).ext F221).updS U295 nm0).ext E332).ext F346).ext E348).ext E364).ext E502).ext F516).updS U590 nm0).ext E627).ext F641).ext E643).ext E659).ext E797).ext F811).updS U885 nm0).ext E922).ext F936).ext E938).ext hw) rfl) S939 ?_
                   refine dA 1 rfl (fun _=>Aa rfl) ?_
                   refine dA 2 rfl (fun _=>Aa rfl) ?_
                   obtain ⟨r941,h942,f943⟩:=Ab f921
                   have n944:=((((((n649.ext E659).ext E797).ext F811).updS U885 al0).ext E922).ext F936).ext E938
                   obtain ⟨r945,h946,f947⟩:=Ab f943
                   refine Jl #[true,true,true,true,true,true,true,true,true,true,false] 1 (fun l' w'=>∃(A948:Option Addr) (c949:Nat) (b951:Nat),Ext w35 w'∧RU w' A948 c949 r945.1.Man.Abs∧w35.heap.size≤b951∧Bx w' b951 27 [.bool r945.1.Man.Neg,.slice A948 (sz r945.1.Man.Abs) c949,.int .i64 r945.1.Exp]∧l'=[.agg #[.bool x0.Man.Neg,.slice A1 (sz x0.Man.Abs) c2,.int .i64 x0.Exp],.int .i64 x1,.pointer (some ⟨b5,0,none⟩),undef,.bool false,.pointer (some ⟨b18,0,none⟩),.int .i64 r10.2,.int .i64 4,.pointer (some ⟨b927,0,none⟩),.bool r919.2,.pointer (some ⟨b951,0,none⟩),.bool r650.2,.pointer (some ⟨b802,0,none⟩),.int .i64 r794.2,.tuple #[.agg #[.bool r10.1.Man.Neg,.slice A14 (sz r10.1.Man.Abs) c15,.int .i64 r10.1.Exp],.int .i64 r10.2],.agg #[.bool x0.Man.Neg,.slice A1 (sz x0.Man.Abs) c2,.int .i64 x0.Exp],.tuple #[.agg #[.bool r10.1.Man.Neg,.slice A14 (sz r10.1.Man.Abs) c15,.int .i64 r10.1.Exp],.int .i64 r10.2],.agg #[.bool r10.1.Man.Neg,.slice A14 (sz r10.1.Man.Abs) c15,.int .i64 r10.1.Exp],.int .i64 r10.2,.int .i64 4,.bool true,.int .i64 3,.int .i64 4,.tuple #[.agg #[.bool r919.1.Man.Neg,.slice A923 (sz r919.1.Man.Abs) c924,.int .i64 r919.1.Exp],.bool r919.2],.agg #[.bool x0.Man.Neg,.slice A1 (sz x0.Man.Abs) c2,.int .i64 x0.Exp],.int .i64 x1,.int .i64 4,.tuple #[.agg #[.bool r919.1.Man.Neg,.slice A923 (sz r919.1.Man.Abs) c924,.int .i64 r919.1.Exp],.bool r919.2],.agg #[.bool r919.1.Man.Neg,.slice A923 (sz r919.1.Man.Abs) c924,.int .i64 r919.1.Exp],.bool r919.2,.tuple #[.agg #[.bool r945.1.Man.Neg,.slice A948 (sz r945.1.Man.Abs) c949,.int .i64 r945.1.Exp],.bool r945.2],.agg #[.bool r10.1.Man.Neg,.slice A14 (sz r10.1.Man.Abs) c15,.int .i64 r10.1.Exp],.int .i64 x1,.int .i64 4,.int .i64 r941,.tuple #[.agg #[.bool r945.1.Man.Neg,.slice A948 (sz r945.1.Man.Abs) c949,.int .i64 r945.1.Exp],.bool r945.2],.agg #[.bool r945.1.Man.Neg,.slice A948 (sz r945.1.Man.Abs) c949,.int .i64 r945.1.Exp],.bool r945.2,.tuple #[.agg #[.bool r794.1.Man.Neg,.slice A798 (sz r794.1.Man.Abs) c799,.int .i64 r794.1.Exp],.int .i64 r794.2],.agg #[.bool r624.1.Man.Neg,.slice A628 (sz r624.1.Man.Abs) c629,.int .i64 r624.1.Exp],.tuple #[.agg #[.bool r794.1.Man.Neg,.slice A798 (sz r794.1.Man.Abs) c799,.int .i64 r794.1.Exp],.int .i64 r794.2],.agg #[.bool r794.1.Man.Neg,.slice A798 (sz r794.1.Man.Abs) c799,.int .i64 r794.1.Exp],.int .i64 r794.2,.bool r624.2,.bool z813,.bool z813,t824,t825,.bool m820,.bool m820,t843,t844,.bool m839,.bool m839,t862,t863,.bool m858,.bool m858,t886,t887,t888,t889,.bool m882]) ?_ ?_
                   ·rintro _ w36 ⟨A948,c949,b951,E954,n950,g952,q953,rfl⟩
                    have g1084:=Nat.le_trans X940.size g952
                    have X1085:=Ext.trans X940 E954
                    have S1086:=S939.trans E954
                    refine dA 10 rfl (fun _=>Ac rfl) ?_
                    refine Cx (by kernel_rfl) ?_
                    refine h937 _ _<|wp_seq_k fun K1087 h1087=>Aj<|sV (Ai Ay rfl ((q934.ext E938).ext E954) rfl) ?_
                    have n1088:=((n925.ext F936).ext E938).ext E954
                    obtain ⟨r1089,h1090,f1091⟩:=Ab f947
                    refine sc (Af KF (by rfl)) (GK (⟨(⟨r919.1.Man.Neg,(limbs r919.1.Man.Abs)⟩:AD),r919.1.Exp⟩:Al) A923 c924 w36 (TB.ext X1085 hT) n1088 r1089 h1090) ?_
                    rintro _ w37 E1092 ⟨A1093,c1094,rfl,n1095⟩
                    refine nrm ?_
                    have X1096:=Ext.trans X1085 E1092
                    refine sV (Aa rfl) ?_
                    refine sV (Ag rfl rfl) ?_
                    refine sV (Ag rfl rfl) ?_
                    refine AB AV fun b1097 w38 E1098 g1099 q1100=>?_
                    refine nrm ?_
                    have g1101:=Nat.le_trans X1096.size g1099
                    refine AE AC rfl rfl q1100 rfl rfl rfl rfl (by simp only [SP0,SP1,S0,S1,Nat.reduceAdd];rfl) fun w39 U1103 q1104=>?_
                    have F1106:=belU E1098 U1103 g1099
                    have X1105:=Ext.trans X1096 F1106
                    refine sV (Ac rfl) ?_
                    refine Ad<|h1087 _ _<|wp_seq_k fun K1107 h1107=>Aj<|sV (Aa rfl) ?_
                    refine sb (BE rfl) fun z1108 hz1108=>?_
                    refine nrm ?_
                    refine sV (Aa rfl) ?_
                    obtain ⟨m1115,h1116,f1117⟩:=Ab f1091
                    refine AR 6 (fun l l' w'=>∃(t1119:Value) (t1120:Value),w39=w'∧l'=(((l.set 46 t1119).set 47 t1120).set 48 (.bool m1115))) ?_ ?_
                    ·intro HJ1121
                     rcases Bool.eq_false_or_eq_true z1108 with e1122 | e1122
                     ·have p1125:=zP hz1108 e1122
                      have f1126:=ifP p1125 h1116
                      refine sP ?_ (hw:=wgF rfl e1122)
                      refine sP ?_ (hw:=wgF rfl e1122)
                      refine sV (Av (evb rfl e1122) rfl) ?_
                      obtain rfl:=Option.some.inj f1126
                      exact HJ1121 _ _ ⟨undef,undef,rfl,(by simp only [S0,S1]<;>rfl)⟩
                     ·have p1123:=zN hz1108 e1122
                      have f1124:=ifN p1123 h1116
                      refine sV (Aa rfl) ?_ (hw:=wgT rfl e1122)
                      refine sb (BE rfl) ?_ (hw:=wgT rfl e1122)
                      intro z1127 hz1127
                      refine nrm ?_
                      refine sV (Ax (evb rfl e1122) rfl) ?_
                      obtain rfl:z1127=decide (¬(r945.2=true)):=bz hz1127
                      obtain rfl:=Option.some.inj f1124
                      exact HJ1121 _ _ ⟨(.bool r945.2),(.bool (decide (¬(r945.2=true)))),rfl,(by simp only [S0,S1]<;>rfl)⟩
                    ·rintro l' _ ⟨t1119,t1120,rfl,hq'⟩ l'' hl
                     rw [hq'] at hl
                     clear hq'
                     simp only [S0,S1] at hl
                     subst hl
                     refine sV (Aa rfl) ?_
                     obtain ⟨m1134,h1135,f1136⟩:=Ab f1117
                     refine AR 10 (fun l l' w'=>∃(t1138:Value) (t1139:Value),w39=w'∧l'=(((l.set 50 t1138).set 51 t1139).set 52 (.bool m1134))) ?_ ?_
                     ·intro HJ1140
                      rcases Bool.eq_false_or_eq_true m1115 with e1141 | e1141
                      ·have p1144:=e1141
                       have f1145:=ifP p1144 h1135
                       refine sP ?_ (hw:=wgF rfl e1141)
                       refine sP ?_ (hw:=wgF rfl e1141)
                       refine sV (Av (evb rfl e1141) rfl) ?_
                       obtain rfl:=Option.some.inj f1145
                       exact HJ1140 _ _ ⟨undef,undef,rfl,(by simp only [S0,S1]<;>rfl)⟩
                      ·have p1142:=bF e1141
                       have f1143:=ifN p1142 h1135
                       refine sV (Aa rfl) ?_ (hw:=wgT rfl e1141)
                       refine sb (EO rfl rfl) ?_ (hw:=wgT rfl e1141)
                       intro z1146 hz1146
                       refine nrm ?_
                       refine sV (Ax (evb rfl e1141) rfl) ?_
                       obtain rfl:z1146=decide (¬r10.2=0):=bz hz1146
                       obtain rfl:=Option.some.inj f1143
                       exact HJ1140 _ _ ⟨(.int .i64 r10.2),(.bool (decide (¬r10.2=0))),rfl,(by simp only [S0,S1]<;>rfl)⟩
                     ·rintro l' _ ⟨t1138,t1139,rfl,hq'⟩ l'' hl
                      rw [hq'] at hl
                      clear hq'
                      simp only [S0,S1] at hl
                      subst hl
                      refine sV (Aa rfl) ?_
                      obtain ⟨m1153,h1154,f1155⟩:=Ab f1136
                      refine AR 14 (fun l l' w'=>∃(t1157:Value) (t1158:Value),w39=w'∧l'=(((l.set 54 t1157).set 55 t1158).set 56 (.bool m1153))) ?_ ?_
                      ·intro HJ1159
                       rcases Bool.eq_false_or_eq_true m1134 with e1160 | e1160
                       ·have p1163:=e1160
                        have f1164:=ifP p1163 h1154
                        refine sP ?_ (hw:=wgF rfl e1160)
                        refine sP ?_ (hw:=wgF rfl e1160)
                        refine sV (Av (evb rfl e1160) rfl) ?_
                        obtain rfl:=Option.some.inj f1164
                        exact HJ1159 _ _ ⟨undef,undef,rfl,(by simp only [S0,S1]<;>rfl)⟩
                       ·have p1161:=bF e1160
                        have f1162:=ifN p1161 h1154
                        refine sV (Aa rfl) ?_ (hw:=wgT rfl e1160)
                        refine sb (EO rfl rfl) ?_ (hw:=wgT rfl e1160)
                        intro z1165 hz1165
                        refine nrm ?_
                        refine sV (Ax (evb rfl e1160) rfl) ?_
                        obtain rfl:z1165=decide (¬r1089.2=0):=bz hz1165
                        obtain rfl:=Option.some.inj f1162
                        exact HJ1159 _ _ ⟨(.int .i64 r1089.2),(.bool (decide (¬r1089.2=0))),rfl,(by simp only [S0,S1]<;>rfl)⟩
                      ·rintro l' _ ⟨t1157,t1158,rfl,hq'⟩ l'' hl
                       rw [hq'] at hl
                       clear hq'
                       simp only [S0,S1] at hl
                       subst hl
                       refine sV (Aa rfl) ?_
                       obtain ⟨m1177,h1178,f1179⟩:=Ab f1155
                       refine AR 20 (fun l l' w'=>∃(t1181:Value) (t1182:Value) (t1183:Value) (t1184:Value),UpdS [] w39 w'∧l'=(((((l.set 58 t1181).set 59 t1182).set 60 t1183).set 61 t1184).set 62 (.bool m1177))) ?_ ?_
                       ·intro HJ1185
                        rcases Bool.eq_false_or_eq_true m1153 with e1186 | e1186
                        ·have p1189:=e1186
                         have f1190:=ifP p1189 h1178
                         refine sP ?_ (hw:=wgF rfl e1186)
                         refine sP ?_ (hw:=wgF rfl e1186)
                         refine sP ?_ (hw:=wgF rfl e1186)
                         refine sP ?_ (hw:=wgF rfl e1186)
                         refine sV (Av (evb rfl e1186) rfl) ?_
                         obtain rfl:=Option.some.inj f1190
                         exact HJ1185 _ _ ⟨undef,undef,undef,undef,(UpdS.refl _ _),(by simp only [S0,S1]<;>rfl)⟩
                        ·have p1187:=bF e1186
                         have f1188:=ifN p1187 h1178
                         refine sV (Ai Ay rfl ((q953.ext E1092).ext F1106) rfl) ?_ (hw:=wgT rfl e1186)
                         refine sV (Ai Ay rfl q1104 rfl) ?_ (hw:=wgT rfl e1186)
                         obtain ⟨r1191,h1192,f1193⟩:=Ab f1188
                         refine sc (Af EM (by rfl)) (AA r945.1 r1089.1 A948 c949 A1093 c1094 w39 (TB.ext X1105 hT) ((n950.ext E1092).ext F1106) (n1095.ext F1106) r1191 h1192) ?_ (hw:=wgT rfl e1186)
                         rintro _ w40 E1194 rfl
                         refine nrm ?_
                         refine sb (BE rfl) ?_ (hw:=wgT rfl e1186)
                         intro z1196 hz1196
                         refine nrm ?_
                         refine sV (Ax (evb rfl e1186) rfl) ?_
                         obtain rfl:z1196=decide (¬(r1191=true)):=bz hz1196
                         obtain rfl:=Option.some.inj f1193
                         exact HJ1185 _ _ ⟨(.agg #[.bool r945.1.Man.Neg,.slice A948 (sz r945.1.Man.Abs) c949,.int .i64 r945.1.Exp]),(.agg #[.bool r1089.1.Man.Neg,.slice A1093 (sz r1089.1.Man.Abs) c1094,.int .i64 r1089.1.Exp]),(.bool r1191),(.bool (decide (¬(r1191=true)))),((UpdS.refl _ _).ext E1194),(by simp only [S0,S1]<;>rfl)⟩
                       ·rintro l' w40 ⟨t1181,t1182,t1183,t1184,U1180,hq'⟩ l'' hl
                        rw [hq'] at hl
                        clear hq'
                        simp only [S0,S1] at hl
                        subst hl
                        have X1197:=Ez X1105 U1180 (X1105).size al0
                        refine Ad<|h1107 _ _ ?_
                        rcases Bool.eq_false_or_eq_true m1177 with e1204 | e1204
                        ·have p1207:=e1204
                         have f1208:=ifP p1207 f1179
                         refine wp_cond_true (An (evb rfl e1204))<|wp_seq_k fun K1508 h1508=>Aj<|sV (Ac rfl) ?_
                         refine Ad<|h1508 _ _<|wp_ret ?_
                         obtain rfl:=Option.some.inj f1208
                         exact fin rfl (Res.tmp rfl Res.nil) (Ap X1197 rfl)
                        ·have p1205:=bF e1204
                         have f1206:=ifN p1205 f1179
                         refine wp_cond_false (An (evb rfl e1204))<|wp_skip<|h916 _ _<|Aj<|sV (Aa rfl) ?_
                         refine sV (BB (c:=5) rfl rfl (by decide)) ?_
                         refine sV (Ac rfl) ?_
                         refine Ad<|Bv<|wp_seq_k fun K1209 h1209=>wp_seq_k fun K1210 h1210=>Aj<|sV (Aa rfl) ?_
                         refine sV (FW (v:=.bool true) (EL rfl rfl) (by rfl)) ?_
                         refine Ad<|h1210 _ _<|wp_cond_true (An (evb rfl rfl))<|wp_skip<|h1209 _ _<|wp_seq_k fun K1211 h1211=>?_
                         apply wp_block
                         refine wp_seq_k fun K1212 h1212=>Aj<|have q1213:=((((((q918.ext E922).ext F936).ext E938).ext E954).ext E1092).ext F1106).updS U1180 nm0;sV (Ai Ay rfl q1213 rfl) ?_
                         refine sV (Aa rfl) ?_
                         refine sV (Aa rfl) ?_
                         obtain ⟨r1214,h1215,f1216⟩:=Ab f1206
                         refine sc (Af DX (by rfl)) (Ar x0 x1 5 A1 c2 w40 (TB.ext X1197 hT) (n3.ext X1197) r1214 h1215) ?_
                         rintro _ w41 E1217 ⟨A1218,c1219,rfl,n1220⟩
                         refine nrm ?_
                         have X1221:=Ext.trans X1197 E1217
                         refine sV (Aa rfl) ?_
                         refine sV (Ag rfl rfl) ?_
                         refine sV (Ag rfl rfl) ?_
                         refine AB AV fun b1222 w42 E1223 g1224 q1225=>?_
                         refine nrm ?_
                         have g1226:=Nat.le_trans X1221.size g1224
                         refine AE AC rfl rfl q1225 rfl rfl rfl rfl (by simp only [SP0,SP1,S0,S1,Nat.reduceAdd];rfl) fun w43 U1228 q1229=>?_
                         have F1231:=belU E1223 U1228 g1224
                         have X1230:=Ext.trans X1221 F1231
                         refine sV (Ac rfl) ?_
                         refine Ad<|h1212 _ _<|wp_seq_k fun K1232 h1232=>DR [9] 11 mo rfl fun w44 E1233 S1234=>have X1235:=Ext.trans X1230 E1233;dV 0 rfl (fun _ hw=>Ai Ay rfl ((((((((((((((((((((((((((((((((q25.ext E37).ext F51).ext E53).ext E69).ext E207).ext F221).updS U295 nm0).ext E332).ext F346).ext E348).ext E364).ext E502).ext F516).updS U590 nm0).ext E627).ext F641).ext E643).ext E659).ext E797).ext F811).updS U885 nm0).ext E922).ext F936).ext E938).ext E954).ext E1092).ext F1106).updS U1180 nm0).ext E1217).ext F1231).ext E1233).ext hw) rfl) S1234 ?_
                         refine dA 1 rfl (fun _=>Aa rfl) ?_
                         refine dA 2 rfl (fun _=>Aa rfl) ?_
                         obtain ⟨r1236,h1237,f1238⟩:=Ab f1216
                         have n1239:=((((((n944.ext E954).ext E1092).ext F1106).updS U1180 al0).ext E1217).ext F1231).ext E1233
                         obtain ⟨r1240,h1241,f1242⟩:=Ab f1238
                         refine Jl #[true,true,true,true,true,true,true,true,true,true,false] 1 (fun l' w'=>∃(A1243:Option Addr) (c1244:Nat) (b1246:Nat),Ext w44 w'∧RU w' A1243 c1244 r1240.1.Man.Abs∧w44.heap.size≤b1246∧Bx w' b1246 27 [.bool r1240.1.Man.Neg,.slice A1243 (sz r1240.1.Man.Abs) c1244,.int .i64 r1240.1.Exp]∧l'=[.agg #[.bool x0.Man.Neg,.slice A1 (sz x0.Man.Abs) c2,.int .i64 x0.Exp],.int .i64 x1,.pointer (some ⟨b5,0,none⟩),undef,.bool false,.pointer (some ⟨b18,0,none⟩),.int .i64 r10.2,.int .i64 5,.pointer (some ⟨b1222,0,none⟩),.bool r1214.2,.pointer (some ⟨b1246,0,none⟩),.bool r945.2,.pointer (some ⟨b1097,0,none⟩),.int .i64 r1089.2,.tuple #[.agg #[.bool r10.1.Man.Neg,.slice A14 (sz r10.1.Man.Abs) c15,.int .i64 r10.1.Exp],.int .i64 r10.2],.agg #[.bool x0.Man.Neg,.slice A1 (sz x0.Man.Abs) c2,.int .i64 x0.Exp],.tuple #[.agg #[.bool r10.1.Man.Neg,.slice A14 (sz r10.1.Man.Abs) c15,.int .i64 r10.1.Exp],.int .i64 r10.2],.agg #[.bool r10.1.Man.Neg,.slice A14 (sz r10.1.Man.Abs) c15,.int .i64 r10.1.Exp],.int .i64 r10.2,.int .i64 5,.bool true,.int .i64 4,.int .i64 5,.tuple #[.agg #[.bool r1214.1.Man.Neg,.slice A1218 (sz r1214.1.Man.Abs) c1219,.int .i64 r1214.1.Exp],.bool r1214.2],.agg #[.bool x0.Man.Neg,.slice A1 (sz x0.Man.Abs) c2,.int .i64 x0.Exp],.int .i64 x1,.int .i64 5,.tuple #[.agg #[.bool r1214.1.Man.Neg,.slice A1218 (sz r1214.1.Man.Abs) c1219,.int .i64 r1214.1.Exp],.bool r1214.2],.agg #[.bool r1214.1.Man.Neg,.slice A1218 (sz r1214.1.Man.Abs) c1219,.int .i64 r1214.1.Exp],.bool r1214.2,.tuple #[.agg #[.bool r1240.1.Man.Neg,.slice A1243 (sz r1240.1.Man.Abs) c1244,.int .i64 r1240.1.Exp],.bool r1240.2],.agg #[.bool r10.1.Man.Neg,.slice A14 (sz r10.1.Man.Abs) c15,.int .i64 r10.1.Exp],.int .i64 x1,.int .i64 5,.int .i64 r1236,.tuple #[.agg #[.bool r1240.1.Man.Neg,.slice A1243 (sz r1240.1.Man.Abs) c1244,.int .i64 r1240.1.Exp],.bool r1240.2],.agg #[.bool r1240.1.Man.Neg,.slice A1243 (sz r1240.1.Man.Abs) c1244,.int .i64 r1240.1.Exp],.bool r1240.2,.tuple #[.agg #[.bool r1089.1.Man.Neg,.slice A1093 (sz r1089.1.Man.Abs) c1094,.int .i64 r1089.1.Exp],.int .i64 r1089.2],.agg #[.bool r919.1.Man.Neg,.slice A923 (sz r919.1.Man.Abs) c924,.int .i64 r919.1.Exp],.tuple #[.agg #[.bool r1089.1.Man.Neg,.slice A1093 (sz r1089.1.Man.Abs) c1094,.int .i64 r1089.1.Exp],.int .i64 r1089.2],.agg #[.bool r1089.1.Man.Neg,.slice A1093 (sz r1089.1.Man.Abs) c1094,.int .i64 r1089.1.Exp],.int .i64 r1089.2,.bool r919.2,.bool z1108,.bool z1108,t1119,t1120,.bool m1115,.bool m1115,t1138,t1139,.bool m1134,.bool m1134,t1157,t1158,.bool m1153,.bool m1153,t1181,t1182,t1183,t1184,.bool m1177]) ?_ ?_
                         ·rintro _ w45 ⟨A1243,c1244,b1246,E1249,n1245,g1247,q1248,rfl⟩
                          have g1379:=Nat.le_trans X1235.size g1247
                          have X1380:=Ext.trans X1235 E1249
                          have S1381:=S1234.trans E1249
                          refine dA 10 rfl (fun _=>Ac rfl) ?_
                          refine Cx (by kernel_rfl) ?_
                          refine h1232 _ _<|wp_seq_k fun K1382 h1382=>Aj<|sV (Ai Ay rfl ((q1229.ext E1233).ext E1249) rfl) ?_
                          have n1383:=((n1220.ext F1231).ext E1233).ext E1249
                          obtain ⟨r1384,h1385,f1386⟩:=Ab f1242
                          refine sc (Af KF (by rfl)) (GK (⟨(⟨r1214.1.Man.Neg,(limbs r1214.1.Man.Abs)⟩:AD),r1214.1.Exp⟩:Al) A1218 c1219 w45 (TB.ext X1380 hT) n1383 r1384 h1385) ?_
                          rintro _ w46 E1387 ⟨A1388,c1389,rfl,n1390⟩
                          refine nrm ?_
                          have X1391:=Ext.trans X1380 E1387
                          refine sV (Aa rfl) ?_
                          refine sV (Ag rfl rfl) ?_
                          refine sV (Ag rfl rfl) ?_
                          refine AB AV fun b1392 w47 E1393 g1394 q1395=>?_
                          refine nrm ?_
                          have g1396:=Nat.le_trans X1391.size g1394
                          refine AE AC rfl rfl q1395 rfl rfl rfl rfl (by simp only [SP0,SP1,S0,S1,Nat.reduceAdd];rfl) fun w48 U1398 q1399=>?_
                          have F1401:=belU E1393 U1398 g1394
                          have X1400:=Ext.trans X1391 F1401
                          refine sV (Ac rfl) ?_
                          refine Ad<|h1382 _ _<|wp_seq_k fun K1402 h1402=>Aj<|sV (Aa rfl) ?_
                          refine sb (BE rfl) fun z1403 hz1403=>?_
                          refine nrm ?_
                          refine sV (Aa rfl) ?_
                          obtain ⟨m1410,h1411,f1412⟩:=Ab f1386
                          refine AR 6 (fun l l' w'=>∃(t1414:Value) (t1415:Value),w48=w'∧l'=(((l.set 46 t1414).set 47 t1415).set 48 (.bool m1410))) ?_ ?_
                          ·intro HJ1416
                           rcases Bool.eq_false_or_eq_true z1403 with e1417 | e1417
                           ·have p1420:=zP hz1403 e1417
                            have f1421:=ifP p1420 h1411
                            refine sP ?_ (hw:=wgF rfl e1417)
                            refine sP ?_ (hw:=wgF rfl e1417)
                            refine sV (Av (evb rfl e1417) rfl) ?_
                            obtain rfl:=Option.some.inj f1421
                            exact HJ1416 _ _ ⟨undef,undef,rfl,(by simp only [S0,S1]<;>rfl)⟩
                           ·have p1418:=zN hz1403 e1417
                            have f1419:=ifN p1418 h1411
                            refine sV (Aa rfl) ?_ (hw:=wgT rfl e1417)
                            refine sb (BE rfl) ?_ (hw:=wgT rfl e1417)
                            intro z1422 hz1422
                            refine nrm ?_
                            refine sV (Ax (evb rfl e1417) rfl) ?_
                            obtain rfl:z1422=decide (¬(r1240.2=true)):=bz hz1422
                            obtain rfl:=Option.some.inj f1419
                            exact HJ1416 _ _ ⟨(.bool r1240.2),(.bool (decide (¬(r1240.2=true)))),rfl,(by simp only [S0,S1]<;>rfl)⟩
                          ·rintro l' _ ⟨t1414,t1415,rfl,hq'⟩ l'' hl
                           rw [hq'] at hl
                           clear hq'
                           simp only [S0,S1] at hl
                           subst hl
                           refine sV (Aa rfl) ?_
                           obtain ⟨m1429,h1430,f1431⟩:=Ab f1412
                           refine AR 10 (fun l l' w'=>∃(t1433:Value) (t1434:Value),w48=w'∧l'=(((l.set 50 t1433).set 51 t1434).set 52 (.bool m1429))) ?_ ?_
                           ·intro HJ1435
                            rcases Bool.eq_false_or_eq_true m1410 with e1436 | e1436
                            ·have p1439:=e1436
                             have f1440:=ifP p1439 h1430
                             refine sP ?_ (hw:=wgF rfl e1436)
                             refine sP ?_ (hw:=wgF rfl e1436)
                             refine sV (Av (evb rfl e1436) rfl) ?_
                             obtain rfl:=Option.some.inj f1440
                             exact HJ1435 _ _ ⟨undef,undef,rfl,(by simp only [S0,S1]<;>rfl)⟩
                            ·have p1437:=bF e1436
                             have f1438:=ifN p1437 h1430
                             refine sV (Aa rfl) ?_ (hw:=wgT rfl e1436)
                             refine sb (EO rfl rfl) ?_ (hw:=wgT rfl e1436)
                             intro z1441 hz1441
                             refine nrm ?_
                             refine sV (Ax (evb rfl e1436) rfl) ?_
                             obtain rfl:z1441=decide (¬r10.2=0):=bz hz1441
                             obtain rfl:=Option.some.inj f1438
                             exact HJ1435 _ _ ⟨(.int .i64 r10.2),(.bool (decide (¬r10.2=0))),rfl,(by simp only [S0,S1]<;>rfl)⟩
                           ·rintro l' _ ⟨t1433,t1434,rfl,hq'⟩ l'' hl
                            rw [hq'] at hl
                            clear hq'
                            simp only [S0,S1] at hl
                            subst hl
                            refine sV (Aa rfl) ?_
                            obtain ⟨m1448,h1449,f1450⟩:=Ab f1431
                            refine AR 14 (fun l l' w'=>∃(t1452:Value) (t1453:Value),w48=w'∧l'=(((l.set 54 t1452).set 55 t1453).set 56 (.bool m1448))) ?_ ?_
                            ·intro HJ1454
                             rcases Bool.eq_false_or_eq_true m1429 with e1455 | e1455
                             ·have p1458:=e1455
                              have f1459:=ifP p1458 h1449
                              refine sP ?_ (hw:=wgF rfl e1455)
                              refine sP ?_ (hw:=wgF rfl e1455)
                              refine sV (Av (evb rfl e1455) rfl) ?_
                              obtain rfl:=Option.some.inj f1459
                              exact HJ1454 _ _ ⟨undef,undef,rfl,(by simp only [S0,S1]<;>rfl)⟩
                             ·have p1456:=bF e1455
                              have f1457:=ifN p1456 h1449
                              refine sV (Aa rfl) ?_ (hw:=wgT rfl e1455)
                              refine sb (EO rfl rfl) ?_ (hw:=wgT rfl e1455)
                              intro z1460 hz1460
                              refine nrm ?_
                              refine sV (Ax (evb rfl e1455) rfl) ?_
                              obtain rfl:z1460=decide (¬r1384.2=0):=bz hz1460
                              obtain rfl:=Option.some.inj f1457
                              exact HJ1454 _ _ ⟨(.int .i64 r1384.2),(.bool (decide (¬r1384.2=0))),rfl,(by simp only [S0,S1]<;>rfl)⟩
                            ·rintro l' _ ⟨t1452,t1453,rfl,hq'⟩ l'' hl
                             rw [hq'] at hl
                             clear hq'
                             simp only [S0,S1] at hl
                             subst hl
                             refine sV (Aa rfl) ?_
                             obtain ⟨m1472,h1473,f1474⟩:=Ab f1450
                             refine AR 20 (fun l l' w'=>∃(t1476:Value) (t1477:Value) (t1478:Value) (t1479:Value),UpdS [] w48 w'∧l'=(((((l.set 58 t1476).set 59 t1477).set 60 t1478).set 61 t1479).set 62 (.bool m1472))) ?_ ?_
                             ·intro HJ1480
                              rcases Bool.eq_false_or_eq_true m1448 with e1481 | e1481
                              ·have p1484:=e1481
                               have f1485:=ifP p1484 h1473
                               refine sP ?_ (hw:=wgF rfl e1481)
                               refine sP ?_ (hw:=wgF rfl e1481)
                               refine sP ?_ (hw:=wgF rfl e1481)
                               refine sP ?_ (hw:=wgF rfl e1481)
                               refine sV (Av (evb rfl e1481) rfl) ?_
                               obtain rfl:=Option.some.inj f1485
                               exact HJ1480 _ _ ⟨undef,undef,undef,undef,(UpdS.refl _ _),(by simp only [S0,S1]<;>rfl)⟩
                              ·have p1482:=bF e1481
                               have f1483:=ifN p1482 h1473
                               refine sV (Ai Ay rfl ((q1248.ext E1387).ext F1401) rfl) ?_ (hw:=wgT rfl e1481)
                               refine sV (Ai Ay rfl q1399 rfl) ?_ (hw:=wgT rfl e1481)
                               obtain ⟨r1486,h1487,f1488⟩:=Ab f1483
                               refine sc (Af EM (by rfl)) (AA r1240.1 r1384.1 A1243 c1244 A1388 c1389 w48 (TB.ext X1400 hT) ((n1245.ext E1387).ext F1401) (n1390.ext F1401) r1486 h1487) ?_ (hw:=wgT rfl e1481)
                               rintro _ w49 E1489 rfl
                               refine nrm ?_
                               refine sb (BE rfl) ?_ (hw:=wgT rfl e1481)
                               intro z1491 hz1491
                               refine nrm ?_
                               refine sV (Ax (evb rfl e1481) rfl) ?_
                               obtain rfl:z1491=decide (¬(r1486=true)):=bz hz1491
                               obtain rfl:=Option.some.inj f1488
                               exact HJ1480 _ _ ⟨(.agg #[.bool r1240.1.Man.Neg,.slice A1243 (sz r1240.1.Man.Abs) c1244,.int .i64 r1240.1.Exp]),(.agg #[.bool r1384.1.Man.Neg,.slice A1388 (sz r1384.1.Man.Abs) c1389,.int .i64 r1384.1.Exp]),(.bool r1486),(.bool (decide (¬(r1486=true)))),((UpdS.refl _ _).ext E1489),(by simp only [S0,S1]<;>rfl)⟩
                             ·rintro l' w49 ⟨t1476,t1477,t1478,t1479,U1475,hq'⟩ l'' hl
                              rw [hq'] at hl
                              clear hq'
                              simp only [S0,S1] at hl
                              subst hl
                              have X1492:=Ez X1400 U1475 (X1400).size al0
                              refine Ad<|h1402 _ _ ?_
                              rcases Bool.eq_false_or_eq_true m1472 with e1499 | e1499
                              ·have p1502:=e1499
                               have f1503:=ifP p1502 f1474
                               refine wp_cond_true (An (evb rfl e1499))<|wp_seq_k fun K1507 h1507=>Aj<|sV (Ac rfl) ?_
                               refine Ad<|h1507 _ _<|wp_ret ?_
                               obtain rfl:=Option.some.inj f1503
                               exact fin rfl (Res.tmp rfl Res.nil) (Ap X1492 rfl)
                              ·have p1500:=bF e1499
                               have f1501:=ifN p1500 f1474
                               refine wp_cond_false (An (evb rfl e1499))<|wp_skip<|h1211 _ _<|Aj<|sV (Aa rfl) ?_
                               refine sV (BB (c:=6) rfl rfl (by decide)) ?_
                               refine sV (Ac rfl) ?_
                               refine Ad<|Bv<|wp_seq_k fun K1504 h1504=>wp_seq_k fun K1505 h1505=>Aj<|sV (Aa rfl) ?_
                               refine sV (FW (v:=.bool false) (EL rfl rfl) (by rfl)) ?_
                               refine Ad<|h1505 _ _<|wp_cond_false (An (evb rfl rfl))<|wp_exit ?_
                               simp only [Exit.then,Exit.inBlock,↓reduceIte,Nat.reduceEqDiff]
                               refine h28 _ _<|wp_seq_k fun K1506 h1506=>Aj<|sV (Ac rfl) ?_
                               refine Ad<|h1506 _ _<|wp_ret ?_
                               obtain rfl:=Option.some.inj f1501
                               exact fin rfl (Res.tmp rfl Res.nil) (Ap X1492 rfl)
                         ·intro HJ1250
                          refine AQ 3 8 (by kernel_rfl) ?_ ?_
                          ·refine opC 3 rfl (by rfl) (Af HR (by rfl)) (Bp 5  _ (TB.ext (Ext.refl _) (TB.ext X1235 hT))  r1236 h1237) ?_
                           rintro _ _ E1251 rfl
                           refine dnrm ?_
                           refine AQ 4 8 (by kernel_rfl) ?_ ?_
                           ·refine opC 4 rfl (by rfl) (Af DX (by rfl)) (Ar r10.1 x1 r1236 A14 c15 _ (TB.ext E1251 (TB.ext X1235 hT)) (n1239.ext E1251) r1240 h1241) ?_
                            rintro _ _ E1252 ⟨A1253,c1254,rfl,n1255⟩
                            refine dnrm ?_
                            refine AQ 5 8 (by kernel_rfl) ?_ ?_
                            ·refine opV 5 rfl (by rfl) (Aa rfl) (dnrm ?_)
                             refine HG 6 7 8 (by kernel_rfl) ?_ ?_ ?_
                             ·refine opV 6 rfl (by rfl) (Ag rfl rfl) (dnrm ?_)
                              refine AQ 7 8 (by kernel_rfl) ?_ ?_
                              ·refine opV 7 rfl (by rfl) (Ag rfl rfl) (dnrm ?_)
                               refine Au 8 (by kernel_rfl) ?_
                               ·refine opA 8 rfl (by rfl) (Aw AV) fun b1260 _ E1259 g1261 q1262=>dnrm ?_
                                refine Au 9 (by kernel_rfl) ?_
                                ·refine opK 9 rfl (by decide) (by rfl) AC rfl rfl q1262 rfl rfl rfl rfl (by simp only [SP0,SP1,S0,S1,Nat.reduceAdd];rfl) fun _ U1264 q1265=>?_
                                 exact AU (by kernel_rfl) (HJ1250 _ _ ⟨A1253,c1254,b1260,(belU ((E1251.trans E1252).trans E1259) U1264 (Nat.le_trans (E1251.trans E1252).size g1261)),((n1255.ext E1259).upd U1264 q1262 (by decide)),(Nat.le_trans (E1251.trans E1252).size g1261),q1265,rfl⟩)
                              ·refine opA 8 rfl (by rfl) (Aw AV) fun b1267 _ E1266 g1268 q1269=>dnrm ?_
                               refine AQ 7 9 (by kernel_rfl) ?_ ?_
                               ·refine opV 7 rfl (by rfl) (Ag rfl rfl) (dnrm ?_)
                                refine Au 9 (by kernel_rfl) ?_
                                ·refine opK 9 rfl (by decide) (by rfl) AC rfl rfl q1269 rfl rfl rfl rfl (by simp only [SP0,SP1,S0,S1,Nat.reduceAdd];rfl) fun _ U1272 q1273=>?_
                                 exact AU (by kernel_rfl) (HJ1250 _ _ ⟨A1253,c1254,b1267,(belU ((E1251.trans E1252).trans E1266) U1272 (Nat.le_trans (E1251.trans E1252).size g1268)),((n1255.ext E1266).upd U1272 q1269 (by decide)),(Nat.le_trans (E1251.trans E1252).size g1268),q1273,rfl⟩)
                               ·refine opK 9 rfl (by decide) (by rfl) AC rfl rfl q1269 rfl rfl rfl rfl (by simp only [SP0,SP1,S0,S1,Nat.reduceAdd];rfl) fun _ U1275 q1276=>?_
                                refine Au 7 (by kernel_rfl) ?_
                                ·refine opV 7 rfl (by rfl) (Ag rfl rfl) (dnrm ?_)
                                 exact AU (by kernel_rfl) (HJ1250 _ _ ⟨A1253,c1254,b1267,(belU ((E1251.trans E1252).trans E1266) U1275 (Nat.le_trans (E1251.trans E1252).size g1268)),((n1255.ext E1266).upd U1275 q1269 (by decide)),(Nat.le_trans (E1251.trans E1252).size g1268),q1276,rfl⟩)
                             ·refine opV 7 rfl (by rfl) (Ag rfl rfl) (dnrm ?_)
                              refine AQ 6 8 (by kernel_rfl) ?_ ?_
                              ·refine opV 6 rfl (by rfl) (Ag rfl rfl) (dnrm ?_)
                               refine Au 8 (by kernel_rfl) ?_
                               ·refine opA 8 rfl (by rfl) (Aw AV) fun b1281 _ E1280 g1282 q1283=>dnrm ?_
                                refine Au 9 (by kernel_rfl) ?_
                                ·refine opK 9 rfl (by decide) (by rfl) AC rfl rfl q1283 rfl rfl rfl rfl (by simp only [SP0,SP1,S0,S1,Nat.reduceAdd];rfl) fun _ U1285 q1286=>?_
                                 exact AU (by kernel_rfl) (HJ1250 _ _ ⟨A1253,c1254,b1281,(belU ((E1251.trans E1252).trans E1280) U1285 (Nat.le_trans (E1251.trans E1252).size g1282)),((n1255.ext E1280).upd U1285 q1283 (by decide)),(Nat.le_trans (E1251.trans E1252).size g1282),q1286,rfl⟩)
                              ·refine opA 8 rfl (by rfl) (Aw AV) fun b1288 _ E1287 g1289 q1290=>dnrm ?_
                               refine Au 6 (by kernel_rfl) ?_
                               ·refine opV 6 rfl (by rfl) (Ag rfl rfl) (dnrm ?_)
                                refine Au 9 (by kernel_rfl) ?_
                                ·refine opK 9 rfl (by decide) (by rfl) AC rfl rfl q1290 rfl rfl rfl rfl (by simp only [SP0,SP1,S0,S1,Nat.reduceAdd];rfl) fun _ U1293 q1294=>?_
                                 exact AU (by kernel_rfl) (HJ1250 _ _ ⟨A1253,c1254,b1288,(belU ((E1251.trans E1252).trans E1287) U1293 (Nat.le_trans (E1251.trans E1252).size g1289)),((n1255.ext E1287).upd U1293 q1290 (by decide)),(Nat.le_trans (E1251.trans E1252).size g1289),q1294,rfl⟩)
                             ·refine opA 8 rfl (by rfl) (Aw AV) fun b1296 _ E1295 g1297 q1298=>dnrm ?_
                              refine AQ 6 7 (by kernel_rfl) ?_ ?_
                              ·refine opV 6 rfl (by rfl) (Ag rfl rfl) (dnrm ?_)
                               refine AQ 7 9 (by kernel_rfl) ?_ ?_
                               ·refine opV 7 rfl (by rfl) (Ag rfl rfl) (dnrm ?_)
                                refine Au 9 (by kernel_rfl) ?_
                                ·refine opK 9 rfl (by decide) (by rfl) AC rfl rfl q1298 rfl rfl rfl rfl (by simp only [SP0,SP1,S0,S1,Nat.reduceAdd];rfl) fun _ U1302 q1303=>?_
                                 exact AU (by kernel_rfl) (HJ1250 _ _ ⟨A1253,c1254,b1296,(belU ((E1251.trans E1252).trans E1295) U1302 (Nat.le_trans (E1251.trans E1252).size g1297)),((n1255.ext E1295).upd U1302 q1298 (by decide)),(Nat.le_trans (E1251.trans E1252).size g1297),q1303,rfl⟩)
                               ·refine opK 9 rfl (by decide) (by rfl) AC rfl rfl q1298 rfl rfl rfl rfl (by simp only [SP0,SP1,S0,S1,Nat.reduceAdd];rfl) fun _ U1305 q1306=>?_
                                refine Au 7 (by kernel_rfl) ?_
                                ·refine opV 7 rfl (by rfl) (Ag rfl rfl) (dnrm ?_)
                                 exact AU (by kernel_rfl) (HJ1250 _ _ ⟨A1253,c1254,b1296,(belU ((E1251.trans E1252).trans E1295) U1305 (Nat.le_trans (E1251.trans E1252).size g1297)),((n1255.ext E1295).upd U1305 q1298 (by decide)),(Nat.le_trans (E1251.trans E1252).size g1297),q1306,rfl⟩)
                              ·refine opV 7 rfl (by rfl) (Ag rfl rfl) (dnrm ?_)
                               refine Au 6 (by kernel_rfl) ?_
                               ·refine opV 6 rfl (by rfl) (Ag rfl rfl) (dnrm ?_)
                                refine Au 9 (by kernel_rfl) ?_
                                ·refine opK 9 rfl (by decide) (by rfl) AC rfl rfl q1298 rfl rfl rfl rfl (by simp only [SP0,SP1,S0,S1,Nat.reduceAdd];rfl) fun _ U1311 q1312=>?_
                                 exact AU (by kernel_rfl) (HJ1250 _ _ ⟨A1253,c1254,b1296,(belU ((E1251.trans E1252).trans E1295) U1311 (Nat.le_trans (E1251.trans E1252).size g1297)),((n1255.ext E1295).upd U1311 q1298 (by decide)),(Nat.le_trans (E1251.trans E1252).size g1297),q1312,rfl⟩)
                            ·refine opA 8 rfl (by rfl) (Aw AV) fun b1314 _ E1313 g1315 q1316=>dnrm ?_
                             refine Au 5 (by kernel_rfl) ?_
                             ·refine opV 5 rfl (by rfl) (Aa rfl) (dnrm ?_)
                              refine AQ 6 7 (by kernel_rfl) ?_ ?_
                              ·refine opV 6 rfl (by rfl) (Ag rfl rfl) (dnrm ?_)
                               refine AQ 7 9 (by kernel_rfl) ?_ ?_
                               ·refine opV 7 rfl (by rfl) (Ag rfl rfl) (dnrm ?_)
                                refine Au 9 (by kernel_rfl) ?_
                                ·refine opK 9 rfl (by decide) (by rfl) AC rfl rfl q1316 rfl rfl rfl rfl (by simp only [SP0,SP1,S0,S1,Nat.reduceAdd];rfl) fun _ U1321 q1322=>?_
                                 exact AU (by kernel_rfl) (HJ1250 _ _ ⟨A1253,c1254,b1314,(belU ((E1251.trans E1252).trans E1313) U1321 (Nat.le_trans (E1251.trans E1252).size g1315)),((n1255.ext E1313).upd U1321 q1316 (by decide)),(Nat.le_trans (E1251.trans E1252).size g1315),q1322,rfl⟩)
                               ·refine opK 9 rfl (by decide) (by rfl) AC rfl rfl q1316 rfl rfl rfl rfl (by simp only [SP0,SP1,S0,S1,Nat.reduceAdd];rfl) fun _ U1324 q1325=>?_
                                refine Au 7 (by kernel_rfl) ?_
                                ·refine opV 7 rfl (by rfl) (Ag rfl rfl) (dnrm ?_)
                                 exact AU (by kernel_rfl) (HJ1250 _ _ ⟨A1253,c1254,b1314,(belU ((E1251.trans E1252).trans E1313) U1324 (Nat.le_trans (E1251.trans E1252).size g1315)),((n1255.ext E1313).upd U1324 q1316 (by decide)),(Nat.le_trans (E1251.trans E1252).size g1315),q1325,rfl⟩)
                              ·refine opV 7 rfl (by rfl) (Ag rfl rfl) (dnrm ?_)
                               refine Au 6 (by kernel_rfl) ?_
                               ·refine opV 6 rfl (by rfl) (Ag rfl rfl) (dnrm ?_)
                                refine Au 9 (by kernel_rfl) ?_
                                ·refine opK 9 rfl (by decide) (by rfl) AC rfl rfl q1316 rfl rfl rfl rfl (by simp only [SP0,SP1,S0,S1,Nat.reduceAdd];rfl) fun _ U1330 q1331=>?_
                                 exact AU (by kernel_rfl) (HJ1250 _ _ ⟨A1253,c1254,b1314,(belU ((E1251.trans E1252).trans E1313) U1330 (Nat.le_trans (E1251.trans E1252).size g1315)),((n1255.ext E1313).upd U1330 q1316 (by decide)),(Nat.le_trans (E1251.trans E1252).size g1315),q1331,rfl⟩)
                           ·refine opA 8 rfl (by rfl) (Aw AV) fun b1333 _ E1332 g1334 q1335=>dnrm ?_
                            refine Au 4 (by kernel_rfl) ?_
                            ·refine opC 4 rfl (by rfl) (Af DX (by rfl)) (Ar r10.1 x1 r1236 A14 c15 _ (TB.ext (E1251.trans E1332) (TB.ext X1235 hT)) (n1239.ext (E1251.trans E1332)) r1240 h1241) ?_
                             rintro _ _ E1336 ⟨A1337,c1338,rfl,n1339⟩
                             refine dnrm ?_
                             refine Au 5 (by kernel_rfl) ?_
                             ·refine opV 5 rfl (by rfl) (Aa rfl) (dnrm ?_)
                              refine AQ 6 7 (by kernel_rfl) ?_ ?_
                              ·refine opV 6 rfl (by rfl) (Ag rfl rfl) (dnrm ?_)
                               refine AQ 7 9 (by kernel_rfl) ?_ ?_
                               ·refine opV 7 rfl (by rfl) (Ag rfl rfl) (dnrm ?_)
                                refine Au 9 (by kernel_rfl) ?_
                                ·refine opK 9 rfl (by decide) (by rfl) AC rfl rfl (q1335.ext E1336) rfl rfl rfl rfl (by simp only [SP0,SP1,S0,S1,Nat.reduceAdd];rfl) fun _ U1344 q1345=>?_
                                 exact AU (by kernel_rfl) (HJ1250 _ _ ⟨A1337,c1338,b1333,(belU ((E1251.trans E1332).trans E1336) U1344 (Nat.le_trans E1251.size g1334)),(n1339.upd U1344 (q1335.ext E1336) (by decide)),(Nat.le_trans E1251.size g1334),q1345,rfl⟩)
                               ·refine opK 9 rfl (by decide) (by rfl) AC rfl rfl (q1335.ext E1336) rfl rfl rfl rfl (by simp only [SP0,SP1,S0,S1,Nat.reduceAdd];rfl) fun _ U1347 q1348=>?_
                                refine Au 7 (by kernel_rfl) ?_
                                ·refine opV 7 rfl (by rfl) (Ag rfl rfl) (dnrm ?_)
                                 exact AU (by kernel_rfl) (HJ1250 _ _ ⟨A1337,c1338,b1333,(belU ((E1251.trans E1332).trans E1336) U1347 (Nat.le_trans E1251.size g1334)),(n1339.upd U1347 (q1335.ext E1336) (by decide)),(Nat.le_trans E1251.size g1334),q1348,rfl⟩)
                              ·refine opV 7 rfl (by rfl) (Ag rfl rfl) (dnrm ?_)
                               refine Au 6 (by kernel_rfl) ?_
                               ·refine opV 6 rfl (by rfl) (Ag rfl rfl) (dnrm ?_)
                                refine Au 9 (by kernel_rfl) ?_
                                ·refine opK 9 rfl (by decide) (by rfl) AC rfl rfl (q1335.ext E1336) rfl rfl rfl rfl (by simp only [SP0,SP1,S0,S1,Nat.reduceAdd];rfl) fun _ U1353 q1354=>?_
                                 exact AU (by kernel_rfl) (HJ1250 _ _ ⟨A1337,c1338,b1333,(belU ((E1251.trans E1332).trans E1336) U1353 (Nat.le_trans E1251.size g1334)),(n1339.upd U1353 (q1335.ext E1336) (by decide)),(Nat.le_trans E1251.size g1334),q1354,rfl⟩)
                          ·refine opA 8 rfl (by rfl) (Aw AV) fun b1356 _ E1355 g1357 q1358=>dnrm ?_
                           refine Au 3 (by kernel_rfl) ?_
                           ·refine opC 3 rfl (by rfl) (Af HR (by rfl)) (Bp 5  _ (TB.ext E1355 (TB.ext X1235 hT))  r1236 h1237) ?_
                            rintro _ _ E1359 rfl
                            refine dnrm ?_
                            refine Au 4 (by kernel_rfl) ?_
                            ·refine opC 4 rfl (by rfl) (Af DX (by rfl)) (Ar r10.1 x1 r1236 A14 c15 _ (TB.ext (E1355.trans E1359) (TB.ext X1235 hT)) (n1239.ext (E1355.trans E1359)) r1240 h1241) ?_
                             rintro _ _ E1360 ⟨A1361,c1362,rfl,n1363⟩
                             refine dnrm ?_
                             refine Au 5 (by kernel_rfl) ?_
                             ·refine opV 5 rfl (by rfl) (Aa rfl) (dnrm ?_)
                              refine AQ 6 7 (by kernel_rfl) ?_ ?_
                              ·refine opV 6 rfl (by rfl) (Ag rfl rfl) (dnrm ?_)
                               refine AQ 7 9 (by kernel_rfl) ?_ ?_
                               ·refine opV 7 rfl (by rfl) (Ag rfl rfl) (dnrm ?_)
                                refine Au 9 (by kernel_rfl) ?_
                                ·refine opK 9 rfl (by decide) (by rfl) AC rfl rfl ((q1358.ext E1359).ext E1360) rfl rfl rfl rfl (by simp only [SP0,SP1,S0,S1,Nat.reduceAdd];rfl) fun _ U1368 q1369=>?_
                                 exact AU (by kernel_rfl) (HJ1250 _ _ ⟨A1361,c1362,b1356,(belU ((E1355.trans E1359).trans E1360) U1368 g1357),(n1363.upd U1368 ((q1358.ext E1359).ext E1360) (by decide)),g1357,q1369,rfl⟩)
                               ·refine opK 9 rfl (by decide) (by rfl) AC rfl rfl ((q1358.ext E1359).ext E1360) rfl rfl rfl rfl (by simp only [SP0,SP1,S0,S1,Nat.reduceAdd];rfl) fun _ U1371 q1372=>?_
                                refine Au 7 (by kernel_rfl) ?_
                                ·refine opV 7 rfl (by rfl) (Ag rfl rfl) (dnrm ?_)
                                 exact AU (by kernel_rfl) (HJ1250 _ _ ⟨A1361,c1362,b1356,(belU ((E1355.trans E1359).trans E1360) U1371 g1357),(n1363.upd U1371 ((q1358.ext E1359).ext E1360) (by decide)),g1357,q1372,rfl⟩)
                              ·refine opV 7 rfl (by rfl) (Ag rfl rfl) (dnrm ?_)
                               refine Au 6 (by kernel_rfl) ?_
                               ·refine opV 6 rfl (by rfl) (Ag rfl rfl) (dnrm ?_)
                                refine Au 9 (by kernel_rfl) ?_
                                ·refine opK 9 rfl (by decide) (by rfl) AC rfl rfl ((q1358.ext E1359).ext E1360) rfl rfl rfl rfl (by simp only [SP0,SP1,S0,S1,Nat.reduceAdd];rfl) fun _ U1377 q1378=>?_
                                 exact AU (by kernel_rfl) (HJ1250 _ _ ⟨A1361,c1362,b1356,(belU ((E1355.trans E1359).trans E1360) U1377 g1357),(n1363.upd U1377 ((q1358.ext E1359).ext E1360) (by decide)),g1357,q1378,rfl⟩)
                   ·intro HJ955
                    refine AQ 3 8 (by kernel_rfl) ?_ ?_
                    ·refine opC 3 rfl (by rfl) (Af HR (by rfl)) (Bp 4  _ (TB.ext (Ext.refl _) (TB.ext X940 hT))  r941 h942) ?_
                     rintro _ _ E956 rfl
                     refine dnrm ?_
                     refine AQ 4 8 (by kernel_rfl) ?_ ?_
                     ·refine opC 4 rfl (by rfl) (Af DX (by rfl)) (Ar r10.1 x1 r941 A14 c15 _ (TB.ext E956 (TB.ext X940 hT)) (n944.ext E956) r945 h946) ?_
                      rintro _ _ E957 ⟨A958,c959,rfl,n960⟩
                      refine dnrm ?_
                      refine AQ 5 8 (by kernel_rfl) ?_ ?_
                      ·refine opV 5 rfl (by rfl) (Aa rfl) (dnrm ?_)
                       refine HG 6 7 8 (by kernel_rfl) ?_ ?_ ?_
                       ·refine opV 6 rfl (by rfl) (Ag rfl rfl) (dnrm ?_)
                        refine AQ 7 8 (by kernel_rfl) ?_ ?_
                        ·refine opV 7 rfl (by rfl) (Ag rfl rfl) (dnrm ?_)
                         refine Au 8 (by kernel_rfl) ?_
                         ·refine opA 8 rfl (by rfl) (Aw AV) fun b965 _ E964 g966 q967=>dnrm ?_
                          refine Au 9 (by kernel_rfl) ?_
                          ·refine opK 9 rfl (by decide) (by rfl) AC rfl rfl q967 rfl rfl rfl rfl (by simp only [SP0,SP1,S0,S1,Nat.reduceAdd];rfl) fun _ U969 q970=>?_
                           exact AU (by kernel_rfl) (HJ955 _ _ ⟨A958,c959,b965,(belU ((E956.trans E957).trans E964) U969 (Nat.le_trans (E956.trans E957).size g966)),((n960.ext E964).upd U969 q967 (by decide)),(Nat.le_trans (E956.trans E957).size g966),q970,rfl⟩)
                        ·refine opA 8 rfl (by rfl) (Aw AV) fun b972 _ E971 g973 q974=>dnrm ?_
                         refine AQ 7 9 (by kernel_rfl) ?_ ?_
                         ·refine opV 7 rfl (by rfl) (Ag rfl rfl) (dnrm ?_)
                          refine Au 9 (by kernel_rfl) ?_
                          ·refine opK 9 rfl (by decide) (by rfl) AC rfl rfl q974 rfl rfl rfl rfl (by simp only [SP0,SP1,S0,S1,Nat.reduceAdd];rfl) fun _ U977 q978=>?_
                           exact AU (by kernel_rfl) (HJ955 _ _ ⟨A958,c959,b972,(belU ((E956.trans E957).trans E971) U977 (Nat.le_trans (E956.trans E957).size g973)),((n960.ext E971).upd U977 q974 (by decide)),(Nat.le_trans (E956.trans E957).size g973),q978,rfl⟩)
                         ·refine opK 9 rfl (by decide) (by rfl) AC rfl rfl q974 rfl rfl rfl rfl (by simp only [SP0,SP1,S0,S1,Nat.reduceAdd];rfl) fun _ U980 q981=>?_
                          refine Au 7 (by kernel_rfl) ?_
                          ·refine opV 7 rfl (by rfl) (Ag rfl rfl) (dnrm ?_)
                           exact AU (by kernel_rfl) (HJ955 _ _ ⟨A958,c959,b972,(belU ((E956.trans E957).trans E971) U980 (Nat.le_trans (E956.trans E957).size g973)),((n960.ext E971).upd U980 q974 (by decide)),(Nat.le_trans (E956.trans E957).size g973),q981,rfl⟩)
                       ·refine opV 7 rfl (by rfl) (Ag rfl rfl) (dnrm ?_)
                        refine AQ 6 8 (by kernel_rfl) ?_ ?_
                        ·refine opV 6 rfl (by rfl) (Ag rfl rfl) (dnrm ?_)
                         refine Au 8 (by kernel_rfl) ?_
                         ·refine opA 8 rfl (by rfl) (Aw AV) fun b986 _ E985 g987 q988=>dnrm ?_
                          refine Au 9 (by kernel_rfl) ?_
                          ·refine opK 9 rfl (by decide) (by rfl) AC rfl rfl q988 rfl rfl rfl rfl (by simp only [SP0,SP1,S0,S1,Nat.reduceAdd];rfl) fun _ U990 q991=>?_
                           exact AU (by kernel_rfl) (HJ955 _ _ ⟨A958,c959,b986,(belU ((E956.trans E957).trans E985) U990 (Nat.le_trans (E956.trans E957).size g987)),((n960.ext E985).upd U990 q988 (by decide)),(Nat.le_trans (E956.trans E957).size g987),q991,rfl⟩)
                        ·refine opA 8 rfl (by rfl) (Aw AV) fun b993 _ E992 g994 q995=>dnrm ?_
                         refine Au 6 (by kernel_rfl) ?_
                         ·refine opV 6 rfl (by rfl) (Ag rfl rfl) (dnrm ?_)
                          refine Au 9 (by kernel_rfl) ?_
                          ·refine opK 9 rfl (by decide) (by rfl) AC rfl rfl q995 rfl rfl rfl rfl (by simp only [SP0,SP1,S0,S1,Nat.reduceAdd];rfl) fun _ U998 q999=>?_
                           exact AU (by kernel_rfl) (HJ955 _ _ ⟨A958,c959,b993,(belU ((E956.trans E957).trans E992) U998 (Nat.le_trans (E956.trans E957).size g994)),((n960.ext E992).upd U998 q995 (by decide)),(Nat.le_trans (E956.trans E957).size g994),q999,rfl⟩)
                       ·refine opA 8 rfl (by rfl) (Aw AV) fun b1001 _ E1000 g1002 q1003=>dnrm ?_
                        refine AQ 6 7 (by kernel_rfl) ?_ ?_
                        ·refine opV 6 rfl (by rfl) (Ag rfl rfl) (dnrm ?_)
                         refine AQ 7 9 (by kernel_rfl) ?_ ?_
                         ·refine opV 7 rfl (by rfl) (Ag rfl rfl) (dnrm ?_)
                          refine Au 9 (by kernel_rfl) ?_
                          ·refine opK 9 rfl (by decide) (by rfl) AC rfl rfl q1003 rfl rfl rfl rfl (by simp only [SP0,SP1,S0,S1,Nat.reduceAdd];rfl) fun _ U1007 q1008=>?_
                           exact AU (by kernel_rfl) (HJ955 _ _ ⟨A958,c959,b1001,(belU ((E956.trans E957).trans E1000) U1007 (Nat.le_trans (E956.trans E957).size g1002)),((n960.ext E1000).upd U1007 q1003 (by decide)),(Nat.le_trans (E956.trans E957).size g1002),q1008,rfl⟩)
                         ·refine opK 9 rfl (by decide) (by rfl) AC rfl rfl q1003 rfl rfl rfl rfl (by simp only [SP0,SP1,S0,S1,Nat.reduceAdd];rfl) fun _ U1010 q1011=>?_
                          refine Au 7 (by kernel_rfl) ?_
                          ·refine opV 7 rfl (by rfl) (Ag rfl rfl) (dnrm ?_)
                           exact AU (by kernel_rfl) (HJ955 _ _ ⟨A958,c959,b1001,(belU ((E956.trans E957).trans E1000) U1010 (Nat.le_trans (E956.trans E957).size g1002)),((n960.ext E1000).upd U1010 q1003 (by decide)),(Nat.le_trans (E956.trans E957).size g1002),q1011,rfl⟩)
                        ·refine opV 7 rfl (by rfl) (Ag rfl rfl) (dnrm ?_)
                         refine Au 6 (by kernel_rfl) ?_
                         ·refine opV 6 rfl (by rfl) (Ag rfl rfl) (dnrm ?_)
                          refine Au 9 (by kernel_rfl) ?_
                          ·refine opK 9 rfl (by decide) (by rfl) AC rfl rfl q1003 rfl rfl rfl rfl (by simp only [SP0,SP1,S0,S1,Nat.reduceAdd];rfl) fun _ U1016 q1017=>?_
                           exact AU (by kernel_rfl) (HJ955 _ _ ⟨A958,c959,b1001,(belU ((E956.trans E957).trans E1000) U1016 (Nat.le_trans (E956.trans E957).size g1002)),((n960.ext E1000).upd U1016 q1003 (by decide)),(Nat.le_trans (E956.trans E957).size g1002),q1017,rfl⟩)
                      ·refine opA 8 rfl (by rfl) (Aw AV) fun b1019 _ E1018 g1020 q1021=>dnrm ?_
                       refine Au 5 (by kernel_rfl) ?_
                       ·refine opV 5 rfl (by rfl) (Aa rfl) (dnrm ?_)
                        refine AQ 6 7 (by kernel_rfl) ?_ ?_
                        ·refine opV 6 rfl (by rfl) (Ag rfl rfl) (dnrm ?_)
                         refine AQ 7 9 (by kernel_rfl) ?_ ?_
                         ·refine opV 7 rfl (by rfl) (Ag rfl rfl) (dnrm ?_)
                          refine Au 9 (by kernel_rfl) ?_
                          ·refine opK 9 rfl (by decide) (by rfl) AC rfl rfl q1021 rfl rfl rfl rfl (by simp only [SP0,SP1,S0,S1,Nat.reduceAdd];rfl) fun _ U1026 q1027=>?_
                           exact AU (by kernel_rfl) (HJ955 _ _ ⟨A958,c959,b1019,(belU ((E956.trans E957).trans E1018) U1026 (Nat.le_trans (E956.trans E957).size g1020)),((n960.ext E1018).upd U1026 q1021 (by decide)),(Nat.le_trans (E956.trans E957).size g1020),q1027,rfl⟩)
                         ·refine opK 9 rfl (by decide) (by rfl) AC rfl rfl q1021 rfl rfl rfl rfl (by simp only [SP0,SP1,S0,S1,Nat.reduceAdd];rfl) fun _ U1029 q1030=>?_
                          refine Au 7 (by kernel_rfl) ?_
                          ·refine opV 7 rfl (by rfl) (Ag rfl rfl) (dnrm ?_)
                           exact AU (by kernel_rfl) (HJ955 _ _ ⟨A958,c959,b1019,(belU ((E956.trans E957).trans E1018) U1029 (Nat.le_trans (E956.trans E957).size g1020)),((n960.ext E1018).upd U1029 q1021 (by decide)),(Nat.le_trans (E956.trans E957).size g1020),q1030,rfl⟩)
                        ·refine opV 7 rfl (by rfl) (Ag rfl rfl) (dnrm ?_)
                         refine Au 6 (by kernel_rfl) ?_
                         ·refine opV 6 rfl (by rfl) (Ag rfl rfl) (dnrm ?_)
                          refine Au 9 (by kernel_rfl) ?_
                          ·refine opK 9 rfl (by decide) (by rfl) AC rfl rfl q1021 rfl rfl rfl rfl (by simp only [SP0,SP1,S0,S1,Nat.reduceAdd];rfl) fun _ U1035 q1036=>?_
                           exact AU (by kernel_rfl) (HJ955 _ _ ⟨A958,c959,b1019,(belU ((E956.trans E957).trans E1018) U1035 (Nat.le_trans (E956.trans E957).size g1020)),((n960.ext E1018).upd U1035 q1021 (by decide)),(Nat.le_trans (E956.trans E957).size g1020),q1036,rfl⟩)
                     ·refine opA 8 rfl (by rfl) (Aw AV) fun b1038 _ E1037 g1039 q1040=>dnrm ?_
                      refine Au 4 (by kernel_rfl) ?_
                      ·refine opC 4 rfl (by rfl) (Af DX (by rfl)) (Ar r10.1 x1 r941 A14 c15 _ (TB.ext (E956.trans E1037) (TB.ext X940 hT)) (n944.ext (E956.trans E1037)) r945 h946) ?_
                       rintro _ _ E1041 ⟨A1042,c1043,rfl,n1044⟩
                       refine dnrm ?_
                       refine Au 5 (by kernel_rfl) ?_
                       ·refine opV 5 rfl (by rfl) (Aa rfl) (dnrm ?_)
                        refine AQ 6 7 (by kernel_rfl) ?_ ?_
                        ·refine opV 6 rfl (by rfl) (Ag rfl rfl) (dnrm ?_)
                         refine AQ 7 9 (by kernel_rfl) ?_ ?_
                         ·refine opV 7 rfl (by rfl) (Ag rfl rfl) (dnrm ?_)
                          refine Au 9 (by kernel_rfl) ?_
                          ·refine opK 9 rfl (by decide) (by rfl) AC rfl rfl (q1040.ext E1041) rfl rfl rfl rfl (by simp only [SP0,SP1,S0,S1,Nat.reduceAdd];rfl) fun _ U1049 q1050=>?_
                           exact AU (by kernel_rfl) (HJ955 _ _ ⟨A1042,c1043,b1038,(belU ((E956.trans E1037).trans E1041) U1049 (Nat.le_trans E956.size g1039)),(n1044.upd U1049 (q1040.ext E1041) (by decide)),(Nat.le_trans E956.size g1039),q1050,rfl⟩)
                         ·refine opK 9 rfl (by decide) (by rfl) AC rfl rfl (q1040.ext E1041) rfl rfl rfl rfl (by simp only [SP0,SP1,S0,S1,Nat.reduceAdd];rfl) fun _ U1052 q1053=>?_
                          refine Au 7 (by kernel_rfl) ?_
                          ·refine opV 7 rfl (by rfl) (Ag rfl rfl) (dnrm ?_)
                           exact AU (by kernel_rfl) (HJ955 _ _ ⟨A1042,c1043,b1038,(belU ((E956.trans E1037).trans E1041) U1052 (Nat.le_trans E956.size g1039)),(n1044.upd U1052 (q1040.ext E1041) (by decide)),(Nat.le_trans E956.size g1039),q1053,rfl⟩)
                        ·refine opV 7 rfl (by rfl) (Ag rfl rfl) (dnrm ?_)
                         refine Au 6 (by kernel_rfl) ?_
                         ·refine opV 6 rfl (by rfl) (Ag rfl rfl) (dnrm ?_)
                          refine Au 9 (by kernel_rfl) ?_
                          ·refine opK 9 rfl (by decide) (by rfl) AC rfl rfl (q1040.ext E1041) rfl rfl rfl rfl (by simp only [SP0,SP1,S0,S1,Nat.reduceAdd];rfl) fun _ U1058 q1059=>?_
                           exact AU (by kernel_rfl) (HJ955 _ _ ⟨A1042,c1043,b1038,(belU ((E956.trans E1037).trans E1041) U1058 (Nat.le_trans E956.size g1039)),(n1044.upd U1058 (q1040.ext E1041) (by decide)),(Nat.le_trans E956.size g1039),q1059,rfl⟩)
                    ·refine opA 8 rfl (by rfl) (Aw AV) fun b1061 _ E1060 g1062 q1063=>dnrm ?_
                     refine Au 3 (by kernel_rfl) ?_
                     ·refine opC 3 rfl (by rfl) (Af HR (by rfl)) (Bp 4  _ (TB.ext E1060 (TB.ext X940 hT))  r941 h942) ?_
                      rintro _ _ E1064 rfl
                      refine dnrm ?_
                      refine Au 4 (by kernel_rfl) ?_
                      ·refine opC 4 rfl (by rfl) (Af DX (by rfl)) (Ar r10.1 x1 r941 A14 c15 _ (TB.ext (E1060.trans E1064) (TB.ext X940 hT)) (n944.ext (E1060.trans E1064)) r945 h946) ?_
                       rintro _ _ E1065 ⟨A1066,c1067,rfl,n1068⟩
                       refine dnrm ?_
                       refine Au 5 (by kernel_rfl) ?_
                       ·refine opV 5 rfl (by rfl) (Aa rfl) (dnrm ?_)
                        refine AQ 6 7 (by kernel_rfl) ?_ ?_
                        ·refine opV 6 rfl (by rfl) (Ag rfl rfl) (dnrm ?_)
                         refine AQ 7 9 (by kernel_rfl) ?_ ?_
                         ·refine opV 7 rfl (by rfl) (Ag rfl rfl) (dnrm ?_)
                          refine Au 9 (by kernel_rfl) ?_
                          ·refine opK 9 rfl (by decide) (by rfl) AC rfl rfl ((q1063.ext E1064).ext E1065) rfl rfl rfl rfl (by simp only [SP0,SP1,S0,S1,Nat.reduceAdd];rfl) fun _ U1073 q1074=>?_
                           exact AU (by kernel_rfl) (HJ955 _ _ ⟨A1066,c1067,b1061,(belU ((E1060.trans E1064).trans E1065) U1073 g1062),(n1068.upd U1073 ((q1063.ext E1064).ext E1065) (by decide)),g1062,q1074,rfl⟩)
                         ·refine opK 9 rfl (by decide) (by rfl) AC rfl rfl ((q1063.ext E1064).ext E1065) rfl rfl rfl rfl (by simp only [SP0,SP1,S0,S1,Nat.reduceAdd];rfl) fun _ U1076 q1077=>?_
                          refine Au 7 (by kernel_rfl) ?_
                          ·refine opV 7 rfl (by rfl) (Ag rfl rfl) (dnrm ?_)
                           exact AU (by kernel_rfl) (HJ955 _ _ ⟨A1066,c1067,b1061,(belU ((E1060.trans E1064).trans E1065) U1076 g1062),(n1068.upd U1076 ((q1063.ext E1064).ext E1065) (by decide)),g1062,q1077,rfl⟩)
                        ·refine opV 7 rfl (by rfl) (Ag rfl rfl) (dnrm ?_)
                         refine Au 6 (by kernel_rfl) ?_
                         ·refine opV 6 rfl (by rfl) (Ag rfl rfl) (dnrm ?_)
                          refine Au 9 (by kernel_rfl) ?_
                          ·refine opK 9 rfl (by decide) (by rfl) AC rfl rfl ((q1063.ext E1064).ext E1065) rfl rfl rfl rfl (by simp only [SP0,SP1,S0,S1,Nat.reduceAdd];rfl) fun _ U1082 q1083=>?_
                           exact AU (by kernel_rfl) (HJ955 _ _ ⟨A1066,c1067,b1061,(belU ((E1060.trans E1064).trans E1065) U1082 g1062),(n1068.upd U1082 ((q1063.ext E1064).ext E1065) (by decide)),g1062,q1083,rfl⟩)
             ·intro HJ660
              refine AQ 3 8 (by kernel_rfl) ?_ ?_
              ·refine opC 3 rfl (by rfl) (Af HR (by rfl)) (Bp 3  _ (TB.ext (Ext.refl _) (TB.ext X645 hT))  r646 h647) ?_
               rintro _ _ E661 rfl
               refine dnrm ?_
               refine AQ 4 8 (by kernel_rfl) ?_ ?_
               ·refine opC 4 rfl (by rfl) (Af DX (by rfl)) (Ar r10.1 x1 r646 A14 c15 _ (TB.ext E661 (TB.ext X645 hT)) (n649.ext E661) r650 h651) ?_
                rintro _ _ E662 ⟨A663,c664,rfl,n665⟩
                refine dnrm ?_
                refine AQ 5 8 (by kernel_rfl) ?_ ?_
                ·refine opV 5 rfl (by rfl) (Aa rfl) (dnrm ?_)
                 refine HG 6 7 8 (by kernel_rfl) ?_ ?_ ?_
                 ·refine opV 6 rfl (by rfl) (Ag rfl rfl) (dnrm ?_)
                  refine AQ 7 8 (by kernel_rfl) ?_ ?_
                  ·refine opV 7 rfl (by rfl) (Ag rfl rfl) (dnrm ?_)
                   refine Au 8 (by kernel_rfl) ?_
                   ·refine opA 8 rfl (by rfl) (Aw AV) fun b670 _ E669 g671 q672=>dnrm ?_
                    refine Au 9 (by kernel_rfl) ?_
                    ·refine opK 9 rfl (by decide) (by rfl) AC rfl rfl q672 rfl rfl rfl rfl (by simp only [SP0,SP1,S0,S1,Nat.reduceAdd];rfl) fun _ U674 q675=>?_
                     exact AU (by kernel_rfl) (HJ660 _ _ ⟨A663,c664,b670,(belU ((E661.trans E662).trans E669) U674 (Nat.le_trans (E661.trans E662).size g671)),((n665.ext E669).upd U674 q672 (by decide)),(Nat.le_trans (E661.trans E662).size g671),q675,rfl⟩)
                  ·refine opA 8 rfl (by rfl) (Aw AV) fun b677 _ E676 g678 q679=>dnrm ?_
                   refine AQ 7 9 (by kernel_rfl) ?_ ?_
                   ·refine opV 7 rfl (by rfl) (Ag rfl rfl) (dnrm ?_)
                    refine Au 9 (by kernel_rfl) ?_
                    ·refine opK 9 rfl (by decide) (by rfl) AC rfl rfl q679 rfl rfl rfl rfl (by simp only [SP0,SP1,S0,S1,Nat.reduceAdd];rfl) fun _ U682 q683=>?_
                     exact AU (by kernel_rfl) (HJ660 _ _ ⟨A663,c664,b677,(belU ((E661.trans E662).trans E676) U682 (Nat.le_trans (E661.trans E662).size g678)),((n665.ext E676).upd U682 q679 (by decide)),(Nat.le_trans (E661.trans E662).size g678),q683,rfl⟩)
                   ·refine opK 9 rfl (by decide) (by rfl) AC rfl rfl q679 rfl rfl rfl rfl (by simp only [SP0,SP1,S0,S1,Nat.reduceAdd];rfl) fun _ U685 q686=>?_
                    refine Au 7 (by kernel_rfl) ?_
                    ·refine opV 7 rfl (by rfl) (Ag rfl rfl) (dnrm ?_)
                     exact AU (by kernel_rfl) (HJ660 _ _ ⟨A663,c664,b677,(belU ((E661.trans E662).trans E676) U685 (Nat.le_trans (E661.trans E662).size g678)),((n665.ext E676).upd U685 q679 (by decide)),(Nat.le_trans (E661.trans E662).size g678),q686,rfl⟩)
                 ·refine opV 7 rfl (by rfl) (Ag rfl rfl) (dnrm ?_)
                  refine AQ 6 8 (by kernel_rfl) ?_ ?_
                  ·refine opV 6 rfl (by rfl) (Ag rfl rfl) (dnrm ?_)
                   refine Au 8 (by kernel_rfl) ?_
                   ·refine opA 8 rfl (by rfl) (Aw AV) fun b691 _ E690 g692 q693=>dnrm ?_
                    refine Au 9 (by kernel_rfl) ?_
                    ·refine opK 9 rfl (by decide) (by rfl) AC rfl rfl q693 rfl rfl rfl rfl (by simp only [SP0,SP1,S0,S1,Nat.reduceAdd];rfl) fun _ U695 q696=>?_
                     exact AU (by kernel_rfl) (HJ660 _ _ ⟨A663,c664,b691,(belU ((E661.trans E662).trans E690) U695 (Nat.le_trans (E661.trans E662).size g692)),((n665.ext E690).upd U695 q693 (by decide)),(Nat.le_trans (E661.trans E662).size g692),q696,rfl⟩)
                  ·refine opA 8 rfl (by rfl) (Aw AV) fun b698 _ E697 g699 q700=>dnrm ?_
                   refine Au 6 (by kernel_rfl) ?_
                   ·refine opV 6 rfl (by rfl) (Ag rfl rfl) (dnrm ?_)
                    refine Au 9 (by kernel_rfl) ?_
                    ·refine opK 9 rfl (by decide) (by rfl) AC rfl rfl q700 rfl rfl rfl rfl (by simp only [SP0,SP1,S0,S1,Nat.reduceAdd];rfl) fun _ U703 q704=>?_
                     exact AU (by kernel_rfl) (HJ660 _ _ ⟨A663,c664,b698,(belU ((E661.trans E662).trans E697) U703 (Nat.le_trans (E661.trans E662).size g699)),((n665.ext E697).upd U703 q700 (by decide)),(Nat.le_trans (E661.trans E662).size g699),q704,rfl⟩)
                 ·refine opA 8 rfl (by rfl) (Aw AV) fun b706 _ E705 g707 q708=>dnrm ?_
                  refine AQ 6 7 (by kernel_rfl) ?_ ?_
                  ·refine opV 6 rfl (by rfl) (Ag rfl rfl) (dnrm ?_)
                   refine AQ 7 9 (by kernel_rfl) ?_ ?_
                   ·refine opV 7 rfl (by rfl) (Ag rfl rfl) (dnrm ?_)
                    refine Au 9 (by kernel_rfl) ?_
                    ·refine opK 9 rfl (by decide) (by rfl) AC rfl rfl q708 rfl rfl rfl rfl (by simp only [SP0,SP1,S0,S1,Nat.reduceAdd];rfl) fun _ U712 q713=>?_
                     exact AU (by kernel_rfl) (HJ660 _ _ ⟨A663,c664,b706,(belU ((E661.trans E662).trans E705) U712 (Nat.le_trans (E661.trans E662).size g707)),((n665.ext E705).upd U712 q708 (by decide)),(Nat.le_trans (E661.trans E662).size g707),q713,rfl⟩)
                   ·refine opK 9 rfl (by decide) (by rfl) AC rfl rfl q708 rfl rfl rfl rfl (by simp only [SP0,SP1,S0,S1,Nat.reduceAdd];rfl) fun _ U715 q716=>?_
                    refine Au 7 (by kernel_rfl) ?_
                    ·refine opV 7 rfl (by rfl) (Ag rfl rfl) (dnrm ?_)
                     exact AU (by kernel_rfl) (HJ660 _ _ ⟨A663,c664,b706,(belU ((E661.trans E662).trans E705) U715 (Nat.le_trans (E661.trans E662).size g707)),((n665.ext E705).upd U715 q708 (by decide)),(Nat.le_trans (E661.trans E662).size g707),q716,rfl⟩)
                  ·refine opV 7 rfl (by rfl) (Ag rfl rfl) (dnrm ?_)
                   refine Au 6 (by kernel_rfl) ?_
                   ·refine opV 6 rfl (by rfl) (Ag rfl rfl) (dnrm ?_)
                    refine Au 9 (by kernel_rfl) ?_
                    ·refine opK 9 rfl (by decide) (by rfl) AC rfl rfl q708 rfl rfl rfl rfl (by simp only [SP0,SP1,S0,S1,Nat.reduceAdd];rfl) fun _ U721 q722=>?_
                     exact AU (by kernel_rfl) (HJ660 _ _ ⟨A663,c664,b706,(belU ((E661.trans E662).trans E705) U721 (Nat.le_trans (E661.trans E662).size g707)),((n665.ext E705).upd U721 q708 (by decide)),(Nat.le_trans (E661.trans E662).size g707),q722,rfl⟩)
                ·refine opA 8 rfl (by rfl) (Aw AV) fun b724 _ E723 g725 q726=>dnrm ?_
                 refine Au 5 (by kernel_rfl) ?_
                 ·refine opV 5 rfl (by rfl) (Aa rfl) (dnrm ?_)
                  refine AQ 6 7 (by kernel_rfl) ?_ ?_
                  ·refine opV 6 rfl (by rfl) (Ag rfl rfl) (dnrm ?_)
                   refine AQ 7 9 (by kernel_rfl) ?_ ?_
                   ·refine opV 7 rfl (by rfl) (Ag rfl rfl) (dnrm ?_)
                    refine Au 9 (by kernel_rfl) ?_
                    ·refine opK 9 rfl (by decide) (by rfl) AC rfl rfl q726 rfl rfl rfl rfl (by simp only [SP0,SP1,S0,S1,Nat.reduceAdd];rfl) fun _ U731 q732=>?_
                     exact AU (by kernel_rfl) (HJ660 _ _ ⟨A663,c664,b724,(belU ((E661.trans E662).trans E723) U731 (Nat.le_trans (E661.trans E662).size g725)),((n665.ext E723).upd U731 q726 (by decide)),(Nat.le_trans (E661.trans E662).size g725),q732,rfl⟩)
                   ·refine opK 9 rfl (by decide) (by rfl) AC rfl rfl q726 rfl rfl rfl rfl (by simp only [SP0,SP1,S0,S1,Nat.reduceAdd];rfl) fun _ U734 q735=>?_
                    refine Au 7 (by kernel_rfl) ?_
                    ·refine opV 7 rfl (by rfl) (Ag rfl rfl) (dnrm ?_)
                     exact AU (by kernel_rfl) (HJ660 _ _ ⟨A663,c664,b724,(belU ((E661.trans E662).trans E723) U734 (Nat.le_trans (E661.trans E662).size g725)),((n665.ext E723).upd U734 q726 (by decide)),(Nat.le_trans (E661.trans E662).size g725),q735,rfl⟩)
                  ·refine opV 7 rfl (by rfl) (Ag rfl rfl) (dnrm ?_)
                   refine Au 6 (by kernel_rfl) ?_
                   ·refine opV 6 rfl (by rfl) (Ag rfl rfl) (dnrm ?_)
                    refine Au 9 (by kernel_rfl) ?_
                    ·refine opK 9 rfl (by decide) (by rfl) AC rfl rfl q726 rfl rfl rfl rfl (by simp only [SP0,SP1,S0,S1,Nat.reduceAdd];rfl) fun _ U740 q741=>?_
                     exact AU (by kernel_rfl) (HJ660 _ _ ⟨A663,c664,b724,(belU ((E661.trans E662).trans E723) U740 (Nat.le_trans (E661.trans E662).size g725)),((n665.ext E723).upd U740 q726 (by decide)),(Nat.le_trans (E661.trans E662).size g725),q741,rfl⟩)
               ·refine opA 8 rfl (by rfl) (Aw AV) fun b743 _ E742 g744 q745=>dnrm ?_
                refine Au 4 (by kernel_rfl) ?_
                ·refine opC 4 rfl (by rfl) (Af DX (by rfl)) (Ar r10.1 x1 r646 A14 c15 _ (TB.ext (E661.trans E742) (TB.ext X645 hT)) (n649.ext (E661.trans E742)) r650 h651) ?_
                 rintro _ _ E746 ⟨A747,c748,rfl,n749⟩
                 refine dnrm ?_
                 refine Au 5 (by kernel_rfl) ?_
                 ·refine opV 5 rfl (by rfl) (Aa rfl) (dnrm ?_)
                  refine AQ 6 7 (by kernel_rfl) ?_ ?_
                  ·refine opV 6 rfl (by rfl) (Ag rfl rfl) (dnrm ?_)
                   refine AQ 7 9 (by kernel_rfl) ?_ ?_
                   ·refine opV 7 rfl (by rfl) (Ag rfl rfl) (dnrm ?_)
                    refine Au 9 (by kernel_rfl) ?_
                    ·refine opK 9 rfl (by decide) (by rfl) AC rfl rfl (q745.ext E746) rfl rfl rfl rfl (by simp only [SP0,SP1,S0,S1,Nat.reduceAdd];rfl) fun _ U754 q755=>?_
                     exact AU (by kernel_rfl) (HJ660 _ _ ⟨A747,c748,b743,(belU ((E661.trans E742).trans E746) U754 (Nat.le_trans E661.size g744)),(n749.upd U754 (q745.ext E746) (by decide)),(Nat.le_trans E661.size g744),q755,rfl⟩)
                   ·refine opK 9 rfl (by decide) (by rfl) AC rfl rfl (q745.ext E746) rfl rfl rfl rfl (by simp only [SP0,SP1,S0,S1,Nat.reduceAdd];rfl) fun _ U757 q758=>?_
                    refine Au 7 (by kernel_rfl) ?_
                    ·refine opV 7 rfl (by rfl) (Ag rfl rfl) (dnrm ?_)
                     exact AU (by kernel_rfl) (HJ660 _ _ ⟨A747,c748,b743,(belU ((E661.trans E742).trans E746) U757 (Nat.le_trans E661.size g744)),(n749.upd U757 (q745.ext E746) (by decide)),(Nat.le_trans E661.size g744),q758,rfl⟩)
                  ·refine opV 7 rfl (by rfl) (Ag rfl rfl) (dnrm ?_)
                   refine Au 6 (by kernel_rfl) ?_
                   ·refine opV 6 rfl (by rfl) (Ag rfl rfl) (dnrm ?_)
                    refine Au 9 (by kernel_rfl) ?_
                    ·refine opK 9 rfl (by decide) (by rfl) AC rfl rfl (q745.ext E746) rfl rfl rfl rfl (by simp only [SP0,SP1,S0,S1,Nat.reduceAdd];rfl) fun _ U763 q764=>?_
                     exact AU (by kernel_rfl) (HJ660 _ _ ⟨A747,c748,b743,(belU ((E661.trans E742).trans E746) U763 (Nat.le_trans E661.size g744)),(n749.upd U763 (q745.ext E746) (by decide)),(Nat.le_trans E661.size g744),q764,rfl⟩)
              ·refine opA 8 rfl (by rfl) (Aw AV) fun b766 _ E765 g767 q768=>dnrm ?_
               refine Au 3 (by kernel_rfl) ?_
               ·refine opC 3 rfl (by rfl) (Af HR (by rfl)) (Bp 3  _ (TB.ext E765 (TB.ext X645 hT))  r646 h647) ?_
                rintro _ _ E769 rfl
                refine dnrm ?_
                refine Au 4 (by kernel_rfl) ?_
                ·refine opC 4 rfl (by rfl) (Af DX (by rfl)) (Ar r10.1 x1 r646 A14 c15 _ (TB.ext (E765.trans E769) (TB.ext X645 hT)) (n649.ext (E765.trans E769)) r650 h651) ?_
                 rintro _ _ E770 ⟨A771,c772,rfl,n773⟩
                 refine dnrm ?_
                 refine Au 5 (by kernel_rfl) ?_
                 ·refine opV 5 rfl (by rfl) (Aa rfl) (dnrm ?_)
                  refine AQ 6 7 (by kernel_rfl) ?_ ?_
                  ·refine opV 6 rfl (by rfl) (Ag rfl rfl) (dnrm ?_)
                   refine AQ 7 9 (by kernel_rfl) ?_ ?_
                   ·refine opV 7 rfl (by rfl) (Ag rfl rfl) (dnrm ?_)
                    refine Au 9 (by kernel_rfl) ?_
                    ·refine opK 9 rfl (by decide) (by rfl) AC rfl rfl ((q768.ext E769).ext E770) rfl rfl rfl rfl (by simp only [SP0,SP1,S0,S1,Nat.reduceAdd];rfl) fun _ U778 q779=>?_
                     exact AU (by kernel_rfl) (HJ660 _ _ ⟨A771,c772,b766,(belU ((E765.trans E769).trans E770) U778 g767),(n773.upd U778 ((q768.ext E769).ext E770) (by decide)),g767,q779,rfl⟩)
                   ·refine opK 9 rfl (by decide) (by rfl) AC rfl rfl ((q768.ext E769).ext E770) rfl rfl rfl rfl (by simp only [SP0,SP1,S0,S1,Nat.reduceAdd];rfl) fun _ U781 q782=>?_
                    refine Au 7 (by kernel_rfl) ?_
                    ·refine opV 7 rfl (by rfl) (Ag rfl rfl) (dnrm ?_)
                     exact AU (by kernel_rfl) (HJ660 _ _ ⟨A771,c772,b766,(belU ((E765.trans E769).trans E770) U781 g767),(n773.upd U781 ((q768.ext E769).ext E770) (by decide)),g767,q782,rfl⟩)
                  ·refine opV 7 rfl (by rfl) (Ag rfl rfl) (dnrm ?_)
                   refine Au 6 (by kernel_rfl) ?_
                   ·refine opV 6 rfl (by rfl) (Ag rfl rfl) (dnrm ?_)
                    refine Au 9 (by kernel_rfl) ?_
                    ·refine opK 9 rfl (by decide) (by rfl) AC rfl rfl ((q768.ext E769).ext E770) rfl rfl rfl rfl (by simp only [SP0,SP1,S0,S1,Nat.reduceAdd];rfl) fun _ U787 q788=>?_
                     exact AU (by kernel_rfl) (HJ660 _ _ ⟨A771,c772,b766,(belU ((E765.trans E769).trans E770) U787 g767),(n773.upd U787 ((q768.ext E769).ext E770) (by decide)),g767,q788,rfl⟩)
       ·intro HJ365
        refine AQ 3 8 (by kernel_rfl) ?_ ?_
        ·refine opC 3 rfl (by rfl) (Af HR (by rfl)) (Bp 2  _ (TB.ext (Ext.refl _) (TB.ext X350 hT))  r351 h352) ?_
         rintro _ _ E366 rfl
         refine dnrm ?_
         refine AQ 4 8 (by kernel_rfl) ?_ ?_
         ·refine opC 4 rfl (by rfl) (Af DX (by rfl)) (Ar r10.1 x1 r351 A14 c15 _ (TB.ext E366 (TB.ext X350 hT)) (n354.ext E366) r355 h356) ?_
          rintro _ _ E367 ⟨A368,c369,rfl,n370⟩
          refine dnrm ?_
          refine AQ 5 8 (by kernel_rfl) ?_ ?_
          ·refine opV 5 rfl (by rfl) (Aa rfl) (dnrm ?_)
           refine HG 6 7 8 (by kernel_rfl) ?_ ?_ ?_
           ·refine opV 6 rfl (by rfl) (Ag rfl rfl) (dnrm ?_)
            refine AQ 7 8 (by kernel_rfl) ?_ ?_
            ·refine opV 7 rfl (by rfl) (Ag rfl rfl) (dnrm ?_)
             refine Au 8 (by kernel_rfl) ?_
             ·refine opA 8 rfl (by rfl) (Aw AV) fun b375 _ E374 g376 q377=>dnrm ?_
              refine Au 9 (by kernel_rfl) ?_
              ·refine opK 9 rfl (by decide) (by rfl) AC rfl rfl q377 rfl rfl rfl rfl (by simp only [SP0,SP1,S0,S1,Nat.reduceAdd];rfl) fun _ U379 q380=>?_
               exact AU (by kernel_rfl) (HJ365 _ _ ⟨A368,c369,b375,(belU ((E366.trans E367).trans E374) U379 (Nat.le_trans (E366.trans E367).size g376)),((n370.ext E374).upd U379 q377 (by decide)),(Nat.le_trans (E366.trans E367).size g376),q380,rfl⟩)
            ·refine opA 8 rfl (by rfl) (Aw AV) fun b382 _ E381 g383 q384=>dnrm ?_
             refine AQ 7 9 (by kernel_rfl) ?_ ?_
             ·refine opV 7 rfl (by rfl) (Ag rfl rfl) (dnrm ?_)
              refine Au 9 (by kernel_rfl) ?_
              ·refine opK 9 rfl (by decide) (by rfl) AC rfl rfl q384 rfl rfl rfl rfl (by simp only [SP0,SP1,S0,S1,Nat.reduceAdd];rfl) fun _ U387 q388=>?_
               exact AU (by kernel_rfl) (HJ365 _ _ ⟨A368,c369,b382,(belU ((E366.trans E367).trans E381) U387 (Nat.le_trans (E366.trans E367).size g383)),((n370.ext E381).upd U387 q384 (by decide)),(Nat.le_trans (E366.trans E367).size g383),q388,rfl⟩)
             ·refine opK 9 rfl (by decide) (by rfl) AC rfl rfl q384 rfl rfl rfl rfl (by simp only [SP0,SP1,S0,S1,Nat.reduceAdd];rfl) fun _ U390 q391=>?_
              refine Au 7 (by kernel_rfl) ?_
              ·refine opV 7 rfl (by rfl) (Ag rfl rfl) (dnrm ?_)
               exact AU (by kernel_rfl) (HJ365 _ _ ⟨A368,c369,b382,(belU ((E366.trans E367).trans E381) U390 (Nat.le_trans (E366.trans E367).size g383)),((n370.ext E381).upd U390 q384 (by decide)),(Nat.le_trans (E366.trans E367).size g383),q391,rfl⟩)
           ·refine opV 7 rfl (by rfl) (Ag rfl rfl) (dnrm ?_)
            refine AQ 6 8 (by kernel_rfl) ?_ ?_
            ·refine opV 6 rfl (by rfl) (Ag rfl rfl) (dnrm ?_)
             refine Au 8 (by kernel_rfl) ?_
             ·refine opA 8 rfl (by rfl) (Aw AV) fun b396 _ E395 g397 q398=>dnrm ?_
              refine Au 9 (by kernel_rfl) ?_
              ·refine opK 9 rfl (by decide) (by rfl) AC rfl rfl q398 rfl rfl rfl rfl (by simp only [SP0,SP1,S0,S1,Nat.reduceAdd];rfl) fun _ U400 q401=>?_
               exact AU (by kernel_rfl) (HJ365 _ _ ⟨A368,c369,b396,(belU ((E366.trans E367).trans E395) U400 (Nat.le_trans (E366.trans E367).size g397)),((n370.ext E395).upd U400 q398 (by decide)),(Nat.le_trans (E366.trans E367).size g397),q401,rfl⟩)
            ·refine opA 8 rfl (by rfl) (Aw AV) fun b403 _ E402 g404 q405=>dnrm ?_
             refine Au 6 (by kernel_rfl) ?_
             ·refine opV 6 rfl (by rfl) (Ag rfl rfl) (dnrm ?_)
              refine Au 9 (by kernel_rfl) ?_
              ·refine opK 9 rfl (by decide) (by rfl) AC rfl rfl q405 rfl rfl rfl rfl (by simp only [SP0,SP1,S0,S1,Nat.reduceAdd];rfl) fun _ U408 q409=>?_
               exact AU (by kernel_rfl) (HJ365 _ _ ⟨A368,c369,b403,(belU ((E366.trans E367).trans E402) U408 (Nat.le_trans (E366.trans E367).size g404)),((n370.ext E402).upd U408 q405 (by decide)),(Nat.le_trans (E366.trans E367).size g404),q409,rfl⟩)
           ·refine opA 8 rfl (by rfl) (Aw AV) fun b411 _ E410 g412 q413=>dnrm ?_
            refine AQ 6 7 (by kernel_rfl) ?_ ?_
            ·refine opV 6 rfl (by rfl) (Ag rfl rfl) (dnrm ?_)
             refine AQ 7 9 (by kernel_rfl) ?_ ?_
             ·refine opV 7 rfl (by rfl) (Ag rfl rfl) (dnrm ?_)
              refine Au 9 (by kernel_rfl) ?_
              ·refine opK 9 rfl (by decide) (by rfl) AC rfl rfl q413 rfl rfl rfl rfl (by simp only [SP0,SP1,S0,S1,Nat.reduceAdd];rfl) fun _ U417 q418=>?_
               exact AU (by kernel_rfl) (HJ365 _ _ ⟨A368,c369,b411,(belU ((E366.trans E367).trans E410) U417 (Nat.le_trans (E366.trans E367).size g412)),((n370.ext E410).upd U417 q413 (by decide)),(Nat.le_trans (E366.trans E367).size g412),q418,rfl⟩)
             ·refine opK 9 rfl (by decide) (by rfl) AC rfl rfl q413 rfl rfl rfl rfl (by simp only [SP0,SP1,S0,S1,Nat.reduceAdd];rfl) fun _ U420 q421=>?_
              refine Au 7 (by kernel_rfl) ?_
              ·refine opV 7 rfl (by rfl) (Ag rfl rfl) (dnrm ?_)
               exact AU (by kernel_rfl) (HJ365 _ _ ⟨A368,c369,b411,(belU ((E366.trans E367).trans E410) U420 (Nat.le_trans (E366.trans E367).size g412)),((n370.ext E410).upd U420 q413 (by decide)),(Nat.le_trans (E366.trans E367).size g412),q421,rfl⟩)
            ·refine opV 7 rfl (by rfl) (Ag rfl rfl) (dnrm ?_)
             refine Au 6 (by kernel_rfl) ?_
             ·refine opV 6 rfl (by rfl) (Ag rfl rfl) (dnrm ?_)
              refine Au 9 (by kernel_rfl) ?_
              ·refine opK 9 rfl (by decide) (by rfl) AC rfl rfl q413 rfl rfl rfl rfl (by simp only [SP0,SP1,S0,S1,Nat.reduceAdd];rfl) fun _ U426 q427=>?_
               exact AU (by kernel_rfl) (HJ365 _ _ ⟨A368,c369,b411,(belU ((E366.trans E367).trans E410) U426 (Nat.le_trans (E366.trans E367).size g412)),((n370.ext E410).upd U426 q413 (by decide)),(Nat.le_trans (E366.trans E367).size g412),q427,rfl⟩)
          ·refine opA 8 rfl (by rfl) (Aw AV) fun b429 _ E428 g430 q431=>dnrm ?_
           refine Au 5 (by kernel_rfl) ?_
           ·refine opV 5 rfl (by rfl) (Aa rfl) (dnrm ?_)
            refine AQ 6 7 (by kernel_rfl) ?_ ?_
            ·refine opV 6 rfl (by rfl) (Ag rfl rfl) (dnrm ?_)
             refine AQ 7 9 (by kernel_rfl) ?_ ?_
             ·refine opV 7 rfl (by rfl) (Ag rfl rfl) (dnrm ?_)
              refine Au 9 (by kernel_rfl) ?_
              ·refine opK 9 rfl (by decide) (by rfl) AC rfl rfl q431 rfl rfl rfl rfl (by simp only [SP0,SP1,S0,S1,Nat.reduceAdd];rfl) fun _ U436 q437=>?_
               exact AU (by kernel_rfl) (HJ365 _ _ ⟨A368,c369,b429,(belU ((E366.trans E367).trans E428) U436 (Nat.le_trans (E366.trans E367).size g430)),((n370.ext E428).upd U436 q431 (by decide)),(Nat.le_trans (E366.trans E367).size g430),q437,rfl⟩)
             ·refine opK 9 rfl (by decide) (by rfl) AC rfl rfl q431 rfl rfl rfl rfl (by simp only [SP0,SP1,S0,S1,Nat.reduceAdd];rfl) fun _ U439 q440=>?_
              refine Au 7 (by kernel_rfl) ?_
              ·refine opV 7 rfl (by rfl) (Ag rfl rfl) (dnrm ?_)
               exact AU (by kernel_rfl) (HJ365 _ _ ⟨A368,c369,b429,(belU ((E366.trans E367).trans E428) U439 (Nat.le_trans (E366.trans E367).size g430)),((n370.ext E428).upd U439 q431 (by decide)),(Nat.le_trans (E366.trans E367).size g430),q440,rfl⟩)
            ·refine opV 7 rfl (by rfl) (Ag rfl rfl) (dnrm ?_)
             refine Au 6 (by kernel_rfl) ?_
             ·refine opV 6 rfl (by rfl) (Ag rfl rfl) (dnrm ?_)
              refine Au 9 (by kernel_rfl) ?_
              ·refine opK 9 rfl (by decide) (by rfl) AC rfl rfl q431 rfl rfl rfl rfl (by simp only [SP0,SP1,S0,S1,Nat.reduceAdd];rfl) fun _ U445 q446=>?_
               exact AU (by kernel_rfl) (HJ365 _ _ ⟨A368,c369,b429,(belU ((E366.trans E367).trans E428) U445 (Nat.le_trans (E366.trans E367).size g430)),((n370.ext E428).upd U445 q431 (by decide)),(Nat.le_trans (E366.trans E367).size g430),q446,rfl⟩)
         ·refine opA 8 rfl (by rfl) (Aw AV) fun b448 _ E447 g449 q450=>dnrm ?_
          refine Au 4 (by kernel_rfl) ?_
          ·refine opC 4 rfl (by rfl) (Af DX (by rfl)) (Ar r10.1 x1 r351 A14 c15 _ (TB.ext (E366.trans E447) (TB.ext X350 hT)) (n354.ext (E366.trans E447)) r355 h356) ?_
           rintro _ _ E451 ⟨A452,c453,rfl,n454⟩
           refine dnrm ?_
           refine Au 5 (by kernel_rfl) ?_
           ·refine opV 5 rfl (by rfl) (Aa rfl) (dnrm ?_)
            refine AQ 6 7 (by kernel_rfl) ?_ ?_
            ·refine opV 6 rfl (by rfl) (Ag rfl rfl) (dnrm ?_)
             refine AQ 7 9 (by kernel_rfl) ?_ ?_
             ·refine opV 7 rfl (by rfl) (Ag rfl rfl) (dnrm ?_)
              refine Au 9 (by kernel_rfl) ?_
              ·refine opK 9 rfl (by decide) (by rfl) AC rfl rfl (q450.ext E451) rfl rfl rfl rfl (by simp only [SP0,SP1,S0,S1,Nat.reduceAdd];rfl) fun _ U459 q460=>?_
               exact AU (by kernel_rfl) (HJ365 _ _ ⟨A452,c453,b448,(belU ((E366.trans E447).trans E451) U459 (Nat.le_trans E366.size g449)),(n454.upd U459 (q450.ext E451) (by decide)),(Nat.le_trans E366.size g449),q460,rfl⟩)
             ·refine opK 9 rfl (by decide) (by rfl) AC rfl rfl (q450.ext E451) rfl rfl rfl rfl (by simp only [SP0,SP1,S0,S1,Nat.reduceAdd];rfl) fun _ U462 q463=>?_
              refine Au 7 (by kernel_rfl) ?_
              ·refine opV 7 rfl (by rfl) (Ag rfl rfl) (dnrm ?_)
               exact AU (by kernel_rfl) (HJ365 _ _ ⟨A452,c453,b448,(belU ((E366.trans E447).trans E451) U462 (Nat.le_trans E366.size g449)),(n454.upd U462 (q450.ext E451) (by decide)),(Nat.le_trans E366.size g449),q463,rfl⟩)
            ·refine opV 7 rfl (by rfl) (Ag rfl rfl) (dnrm ?_)
             refine Au 6 (by kernel_rfl) ?_
             ·refine opV 6 rfl (by rfl) (Ag rfl rfl) (dnrm ?_)
              refine Au 9 (by kernel_rfl) ?_
              ·refine opK 9 rfl (by decide) (by rfl) AC rfl rfl (q450.ext E451) rfl rfl rfl rfl (by simp only [SP0,SP1,S0,S1,Nat.reduceAdd];rfl) fun _ U468 q469=>?_
               exact AU (by kernel_rfl) (HJ365 _ _ ⟨A452,c453,b448,(belU ((E366.trans E447).trans E451) U468 (Nat.le_trans E366.size g449)),(n454.upd U468 (q450.ext E451) (by decide)),(Nat.le_trans E366.size g449),q469,rfl⟩)
        ·refine opA 8 rfl (by rfl) (Aw AV) fun b471 _ E470 g472 q473=>dnrm ?_
         refine Au 3 (by kernel_rfl) ?_
         ·refine opC 3 rfl (by rfl) (Af HR (by rfl)) (Bp 2  _ (TB.ext E470 (TB.ext X350 hT))  r351 h352) ?_
          rintro _ _ E474 rfl
          refine dnrm ?_
          refine Au 4 (by kernel_rfl) ?_
          ·refine opC 4 rfl (by rfl) (Af DX (by rfl)) (Ar r10.1 x1 r351 A14 c15 _ (TB.ext (E470.trans E474) (TB.ext X350 hT)) (n354.ext (E470.trans E474)) r355 h356) ?_
           rintro _ _ E475 ⟨A476,c477,rfl,n478⟩
           refine dnrm ?_
           refine Au 5 (by kernel_rfl) ?_
           ·refine opV 5 rfl (by rfl) (Aa rfl) (dnrm ?_)
            refine AQ 6 7 (by kernel_rfl) ?_ ?_
            ·refine opV 6 rfl (by rfl) (Ag rfl rfl) (dnrm ?_)
             refine AQ 7 9 (by kernel_rfl) ?_ ?_
             ·refine opV 7 rfl (by rfl) (Ag rfl rfl) (dnrm ?_)
              refine Au 9 (by kernel_rfl) ?_
              ·refine opK 9 rfl (by decide) (by rfl) AC rfl rfl ((q473.ext E474).ext E475) rfl rfl rfl rfl (by simp only [SP0,SP1,S0,S1,Nat.reduceAdd];rfl) fun _ U483 q484=>?_
               exact AU (by kernel_rfl) (HJ365 _ _ ⟨A476,c477,b471,(belU ((E470.trans E474).trans E475) U483 g472),(n478.upd U483 ((q473.ext E474).ext E475) (by decide)),g472,q484,rfl⟩)
             ·refine opK 9 rfl (by decide) (by rfl) AC rfl rfl ((q473.ext E474).ext E475) rfl rfl rfl rfl (by simp only [SP0,SP1,S0,S1,Nat.reduceAdd];rfl) fun _ U486 q487=>?_
              refine Au 7 (by kernel_rfl) ?_
              ·refine opV 7 rfl (by rfl) (Ag rfl rfl) (dnrm ?_)
               exact AU (by kernel_rfl) (HJ365 _ _ ⟨A476,c477,b471,(belU ((E470.trans E474).trans E475) U486 g472),(n478.upd U486 ((q473.ext E474).ext E475) (by decide)),g472,q487,rfl⟩)
            ·refine opV 7 rfl (by rfl) (Ag rfl rfl) (dnrm ?_)
             refine Au 6 (by kernel_rfl) ?_
             ·refine opV 6 rfl (by rfl) (Ag rfl rfl) (dnrm ?_)
              refine Au 9 (by kernel_rfl) ?_
              ·refine opK 9 rfl (by decide) (by rfl) AC rfl rfl ((q473.ext E474).ext E475) rfl rfl rfl rfl (by simp only [SP0,SP1,S0,S1,Nat.reduceAdd];rfl) fun _ U492 q493=>?_
               exact AU (by kernel_rfl) (HJ365 _ _ ⟨A476,c477,b471,(belU ((E470.trans E474).trans E475) U492 g472),(n478.upd U492 ((q473.ext E474).ext E475) (by decide)),g472,q493,rfl⟩)
 ·intro HJ70
  refine AQ 3 8 (by kernel_rfl) ?_ ?_
  ·refine opC 3 rfl (by rfl) (Af HR (by rfl)) (Bp 1  _ (TB.ext (Ext.refl _) (TB.ext X55 hT))  r56 h57) ?_
   rintro _ _ E71 rfl
   refine dnrm ?_
   refine AQ 4 8 (by kernel_rfl) ?_ ?_
   ·refine opC 4 rfl (by rfl) (Af DX (by rfl)) (Ar r10.1 x1 r56 A14 c15 _ (TB.ext E71 (TB.ext X55 hT)) (n59.ext E71) r60 h61) ?_
    rintro _ _ E72 ⟨A73,c74,rfl,n75⟩
    refine dnrm ?_
    refine AQ 5 8 (by kernel_rfl) ?_ ?_
    ·refine opV 5 rfl (by rfl) (Aa rfl) (dnrm ?_)
     refine HG 6 7 8 (by kernel_rfl) ?_ ?_ ?_
     ·refine opV 6 rfl (by rfl) (Ag rfl rfl) (dnrm ?_)
      refine AQ 7 8 (by kernel_rfl) ?_ ?_
      ·refine opV 7 rfl (by rfl) (Ag rfl rfl) (dnrm ?_)
       refine Au 8 (by kernel_rfl) ?_
       ·refine opA 8 rfl (by rfl) (Aw AV) fun b80 _ E79 g81 q82=>dnrm ?_
        refine Au 9 (by kernel_rfl) ?_
        ·refine opK 9 rfl (by decide) (by rfl) AC rfl rfl q82 rfl rfl rfl rfl (by simp only [SP0,SP1,S0,S1,Nat.reduceAdd];rfl) fun _ U84 q85=>?_
         exact AU (by kernel_rfl) (HJ70 _ _ ⟨A73,c74,b80,(belU ((E71.trans E72).trans E79) U84 (Nat.le_trans (E71.trans E72).size g81)),((n75.ext E79).upd U84 q82 (by decide)),(Nat.le_trans (E71.trans E72).size g81),q85,rfl⟩)
      ·refine opA 8 rfl (by rfl) (Aw AV) fun b87 _ E86 g88 q89=>dnrm ?_
       refine AQ 7 9 (by kernel_rfl) ?_ ?_
       ·refine opV 7 rfl (by rfl) (Ag rfl rfl) (dnrm ?_)
        refine Au 9 (by kernel_rfl) ?_
        ·refine opK 9 rfl (by decide) (by rfl) AC rfl rfl q89 rfl rfl rfl rfl (by simp only [SP0,SP1,S0,S1,Nat.reduceAdd];rfl) fun _ U92 q93=>?_
         exact AU (by kernel_rfl) (HJ70 _ _ ⟨A73,c74,b87,(belU ((E71.trans E72).trans E86) U92 (Nat.le_trans (E71.trans E72).size g88)),((n75.ext E86).upd U92 q89 (by decide)),(Nat.le_trans (E71.trans E72).size g88),q93,rfl⟩)
       ·refine opK 9 rfl (by decide) (by rfl) AC rfl rfl q89 rfl rfl rfl rfl (by simp only [SP0,SP1,S0,S1,Nat.reduceAdd];rfl) fun _ U95 q96=>?_
        refine Au 7 (by kernel_rfl) ?_
        ·refine opV 7 rfl (by rfl) (Ag rfl rfl) (dnrm ?_)
         exact AU (by kernel_rfl) (HJ70 _ _ ⟨A73,c74,b87,(belU ((E71.trans E72).trans E86) U95 (Nat.le_trans (E71.trans E72).size g88)),((n75.ext E86).upd U95 q89 (by decide)),(Nat.le_trans (E71.trans E72).size g88),q96,rfl⟩)
     ·refine opV 7 rfl (by rfl) (Ag rfl rfl) (dnrm ?_)
      refine AQ 6 8 (by kernel_rfl) ?_ ?_
      ·refine opV 6 rfl (by rfl) (Ag rfl rfl) (dnrm ?_)
       refine Au 8 (by kernel_rfl) ?_
       ·refine opA 8 rfl (by rfl) (Aw AV) fun b101 _ E100 g102 q103=>dnrm ?_
        refine Au 9 (by kernel_rfl) ?_
        ·refine opK 9 rfl (by decide) (by rfl) AC rfl rfl q103 rfl rfl rfl rfl (by simp only [SP0,SP1,S0,S1,Nat.reduceAdd];rfl) fun _ U105 q106=>?_
         exact AU (by kernel_rfl) (HJ70 _ _ ⟨A73,c74,b101,(belU ((E71.trans E72).trans E100) U105 (Nat.le_trans (E71.trans E72).size g102)),((n75.ext E100).upd U105 q103 (by decide)),(Nat.le_trans (E71.trans E72).size g102),q106,rfl⟩)
      ·refine opA 8 rfl (by rfl) (Aw AV) fun b108 _ E107 g109 q110=>dnrm ?_
       refine Au 6 (by kernel_rfl) ?_
       ·refine opV 6 rfl (by rfl) (Ag rfl rfl) (dnrm ?_)
        refine Au 9 (by kernel_rfl) ?_
        ·refine opK 9 rfl (by decide) (by rfl) AC rfl rfl q110 rfl rfl rfl rfl (by simp only [SP0,SP1,S0,S1,Nat.reduceAdd];rfl) fun _ U113 q114=>?_
         exact AU (by kernel_rfl) (HJ70 _ _ ⟨A73,c74,b108,(belU ((E71.trans E72).trans E107) U113 (Nat.le_trans (E71.trans E72).size g109)),((n75.ext E107).upd U113 q110 (by decide)),(Nat.le_trans (E71.trans E72).size g109),q114,rfl⟩)
     ·refine opA 8 rfl (by rfl) (Aw AV) fun b116 _ E115 g117 q118=>dnrm ?_
      refine AQ 6 7 (by kernel_rfl) ?_ ?_
      ·refine opV 6 rfl (by rfl) (Ag rfl rfl) (dnrm ?_)
       refine AQ 7 9 (by kernel_rfl) ?_ ?_
       ·refine opV 7 rfl (by rfl) (Ag rfl rfl) (dnrm ?_)
        refine Au 9 (by kernel_rfl) ?_
        ·refine opK 9 rfl (by decide) (by rfl) AC rfl rfl q118 rfl rfl rfl rfl (by simp only [SP0,SP1,S0,S1,Nat.reduceAdd];rfl) fun _ U122 q123=>?_
         exact AU (by kernel_rfl) (HJ70 _ _ ⟨A73,c74,b116,(belU ((E71.trans E72).trans E115) U122 (Nat.le_trans (E71.trans E72).size g117)),((n75.ext E115).upd U122 q118 (by decide)),(Nat.le_trans (E71.trans E72).size g117),q123,rfl⟩)
       ·refine opK 9 rfl (by decide) (by rfl) AC rfl rfl q118 rfl rfl rfl rfl (by simp only [SP0,SP1,S0,S1,Nat.reduceAdd];rfl) fun _ U125 q126=>?_
        refine Au 7 (by kernel_rfl) ?_
        ·refine opV 7 rfl (by rfl) (Ag rfl rfl) (dnrm ?_)
         exact AU (by kernel_rfl) (HJ70 _ _ ⟨A73,c74,b116,(belU ((E71.trans E72).trans E115) U125 (Nat.le_trans (E71.trans E72).size g117)),((n75.ext E115).upd U125 q118 (by decide)),(Nat.le_trans (E71.trans E72).size g117),q126,rfl⟩)
      ·refine opV 7 rfl (by rfl) (Ag rfl rfl) (dnrm ?_)
       refine Au 6 (by kernel_rfl) ?_
       ·refine opV 6 rfl (by rfl) (Ag rfl rfl) (dnrm ?_)
        refine Au 9 (by kernel_rfl) ?_
        ·refine opK 9 rfl (by decide) (by rfl) AC rfl rfl q118 rfl rfl rfl rfl (by simp only [SP0,SP1,S0,S1,Nat.reduceAdd];rfl) fun _ U131 q132=>?_
         exact AU (by kernel_rfl) (HJ70 _ _ ⟨A73,c74,b116,(belU ((E71.trans E72).trans E115) U131 (Nat.le_trans (E71.trans E72).size g117)),((n75.ext E115).upd U131 q118 (by decide)),(Nat.le_trans (E71.trans E72).size g117),q132,rfl⟩)
    ·refine opA 8 rfl (by rfl) (Aw AV) fun b134 _ E133 g135 q136=>dnrm ?_
     refine Au 5 (by kernel_rfl) ?_
     ·refine opV 5 rfl (by rfl) (Aa rfl) (dnrm ?_)
      refine AQ 6 7 (by kernel_rfl) ?_ ?_
      ·refine opV 6 rfl (by rfl) (Ag rfl rfl) (dnrm ?_)
       refine AQ 7 9 (by kernel_rfl) ?_ ?_
       ·refine opV 7 rfl (by rfl) (Ag rfl rfl) (dnrm ?_)
        refine Au 9 (by kernel_rfl) ?_
        ·refine opK 9 rfl (by decide) (by rfl) AC rfl rfl q136 rfl rfl rfl rfl (by simp only [SP0,SP1,S0,S1,Nat.reduceAdd];rfl) fun _ U141 q142=>?_
         exact AU (by kernel_rfl) (HJ70 _ _ ⟨A73,c74,b134,(belU ((E71.trans E72).trans E133) U141 (Nat.le_trans (E71.trans E72).size g135)),((n75.ext E133).upd U141 q136 (by decide)),(Nat.le_trans (E71.trans E72).size g135),q142,rfl⟩)
       ·refine opK 9 rfl (by decide) (by rfl) AC rfl rfl q136 rfl rfl rfl rfl (by simp only [SP0,SP1,S0,S1,Nat.reduceAdd];rfl) fun _ U144 q145=>?_
        refine Au 7 (by kernel_rfl) ?_
        ·refine opV 7 rfl (by rfl) (Ag rfl rfl) (dnrm ?_)
         exact AU (by kernel_rfl) (HJ70 _ _ ⟨A73,c74,b134,(belU ((E71.trans E72).trans E133) U144 (Nat.le_trans (E71.trans E72).size g135)),((n75.ext E133).upd U144 q136 (by decide)),(Nat.le_trans (E71.trans E72).size g135),q145,rfl⟩)
      ·refine opV 7 rfl (by rfl) (Ag rfl rfl) (dnrm ?_)
       refine Au 6 (by kernel_rfl) ?_
       ·refine opV 6 rfl (by rfl) (Ag rfl rfl) (dnrm ?_)
        refine Au 9 (by kernel_rfl) ?_
        ·refine opK 9 rfl (by decide) (by rfl) AC rfl rfl q136 rfl rfl rfl rfl (by simp only [SP0,SP1,S0,S1,Nat.reduceAdd];rfl) fun _ U150 q151=>?_
         exact AU (by kernel_rfl) (HJ70 _ _ ⟨A73,c74,b134,(belU ((E71.trans E72).trans E133) U150 (Nat.le_trans (E71.trans E72).size g135)),((n75.ext E133).upd U150 q136 (by decide)),(Nat.le_trans (E71.trans E72).size g135),q151,rfl⟩)
   ·refine opA 8 rfl (by rfl) (Aw AV) fun b153 _ E152 g154 q155=>dnrm ?_
    refine Au 4 (by kernel_rfl) ?_
    ·refine opC 4 rfl (by rfl) (Af DX (by rfl)) (Ar r10.1 x1 r56 A14 c15 _ (TB.ext (E71.trans E152) (TB.ext X55 hT)) (n59.ext (E71.trans E152)) r60 h61) ?_
     rintro _ _ E156 ⟨A157,c158,rfl,n159⟩
     refine dnrm ?_
     refine Au 5 (by kernel_rfl) ?_
     ·refine opV 5 rfl (by rfl) (Aa rfl) (dnrm ?_)
      refine AQ 6 7 (by kernel_rfl) ?_ ?_
      ·refine opV 6 rfl (by rfl) (Ag rfl rfl) (dnrm ?_)
       refine AQ 7 9 (by kernel_rfl) ?_ ?_
       ·refine opV 7 rfl (by rfl) (Ag rfl rfl) (dnrm ?_)
        refine Au 9 (by kernel_rfl) ?_
        ·refine opK 9 rfl (by decide) (by rfl) AC rfl rfl (q155.ext E156) rfl rfl rfl rfl (by simp only [SP0,SP1,S0,S1,Nat.reduceAdd];rfl) fun _ U164 q165=>?_
         exact AU (by kernel_rfl) (HJ70 _ _ ⟨A157,c158,b153,(belU ((E71.trans E152).trans E156) U164 (Nat.le_trans E71.size g154)),(n159.upd U164 (q155.ext E156) (by decide)),(Nat.le_trans E71.size g154),q165,rfl⟩)
       ·refine opK 9 rfl (by decide) (by rfl) AC rfl rfl (q155.ext E156) rfl rfl rfl rfl (by simp only [SP0,SP1,S0,S1,Nat.reduceAdd];rfl) fun _ U167 q168=>?_
        refine Au 7 (by kernel_rfl) ?_
        ·refine opV 7 rfl (by rfl) (Ag rfl rfl) (dnrm ?_)
         exact AU (by kernel_rfl) (HJ70 _ _ ⟨A157,c158,b153,(belU ((E71.trans E152).trans E156) U167 (Nat.le_trans E71.size g154)),(n159.upd U167 (q155.ext E156) (by decide)),(Nat.le_trans E71.size g154),q168,rfl⟩)
      ·refine opV 7 rfl (by rfl) (Ag rfl rfl) (dnrm ?_)
       refine Au 6 (by kernel_rfl) ?_
       ·refine opV 6 rfl (by rfl) (Ag rfl rfl) (dnrm ?_)
        refine Au 9 (by kernel_rfl) ?_
        ·refine opK 9 rfl (by decide) (by rfl) AC rfl rfl (q155.ext E156) rfl rfl rfl rfl (by simp only [SP0,SP1,S0,S1,Nat.reduceAdd];rfl) fun _ U173 q174=>?_
         exact AU (by kernel_rfl) (HJ70 _ _ ⟨A157,c158,b153,(belU ((E71.trans E152).trans E156) U173 (Nat.le_trans E71.size g154)),(n159.upd U173 (q155.ext E156) (by decide)),(Nat.le_trans E71.size g154),q174,rfl⟩)
  ·refine opA 8 rfl (by rfl) (Aw AV) fun b176 _ E175 g177 q178=>dnrm ?_
   refine Au 3 (by kernel_rfl) ?_
   ·refine opC 3 rfl (by rfl) (Af HR (by rfl)) (Bp 1  _ (TB.ext E175 (TB.ext X55 hT))  r56 h57) ?_
    rintro _ _ E179 rfl
    refine dnrm ?_
    refine Au 4 (by kernel_rfl) ?_
    ·refine opC 4 rfl (by rfl) (Af DX (by rfl)) (Ar r10.1 x1 r56 A14 c15 _ (TB.ext (E175.trans E179) (TB.ext X55 hT)) (n59.ext (E175.trans E179)) r60 h61) ?_
     rintro _ _ E180 ⟨A181,c182,rfl,n183⟩
     refine dnrm ?_
     refine Au 5 (by kernel_rfl) ?_
     ·refine opV 5 rfl (by rfl) (Aa rfl) (dnrm ?_)
      refine AQ 6 7 (by kernel_rfl) ?_ ?_
      ·refine opV 6 rfl (by rfl) (Ag rfl rfl) (dnrm ?_)
       refine AQ 7 9 (by kernel_rfl) ?_ ?_
       ·refine opV 7 rfl (by rfl) (Ag rfl rfl) (dnrm ?_)
        refine Au 9 (by kernel_rfl) ?_
        ·refine opK 9 rfl (by decide) (by rfl) AC rfl rfl ((q178.ext E179).ext E180) rfl rfl rfl rfl (by simp only [SP0,SP1,S0,S1,Nat.reduceAdd];rfl) fun _ U188 q189=>?_
         exact AU (by kernel_rfl) (HJ70 _ _ ⟨A181,c182,b176,(belU ((E175.trans E179).trans E180) U188 g177),(n183.upd U188 ((q178.ext E179).ext E180) (by decide)),g177,q189,rfl⟩)
       ·refine opK 9 rfl (by decide) (by rfl) AC rfl rfl ((q178.ext E179).ext E180) rfl rfl rfl rfl (by simp only [SP0,SP1,S0,S1,Nat.reduceAdd];rfl) fun _ U191 q192=>?_
        refine Au 7 (by kernel_rfl) ?_
        ·refine opV 7 rfl (by rfl) (Ag rfl rfl) (dnrm ?_)
         exact AU (by kernel_rfl) (HJ70 _ _ ⟨A181,c182,b176,(belU ((E175.trans E179).trans E180) U191 g177),(n183.upd U191 ((q178.ext E179).ext E180) (by decide)),g177,q192,rfl⟩)
      ·refine opV 7 rfl (by rfl) (Ag rfl rfl) (dnrm ?_)
       refine Au 6 (by kernel_rfl) ?_
       ·refine opV 6 rfl (by rfl) (Ag rfl rfl) (dnrm ?_)
        refine Au 9 (by kernel_rfl) ?_
        ·refine opK 9 rfl (by decide) (by rfl) AC rfl rfl ((q178.ext E179).ext E180) rfl rfl rfl rfl (by simp only [SP0,SP1,S0,S1,Nat.reduceAdd];rfl) fun _ U197 q198=>?_
         exact AU (by kernel_rfl) (HJ70 _ _ ⟨A181,c182,b176,(belU ((E175.trans E179).trans E180) U197 g177),(n183.upd U197 ((q178.ext E179).ext E180) (by decide)),g177,q198,rfl⟩)
end Go.Proofs
