import Derived.Test.YtabiobmfelafoaaGreatDoorGen3
namespace Go.Proofs
set_option linter.unusedVariables false
set_option linter.unusedSimpArgs false
set_option maxHeartbeats 4000000
open Go.RowKit Go.Sb Go.Proofs.Sbn
theorem Jc (b b':Nat) (v0 v1 v2:Value) (u:Value) (n:Int) {w:World} (qa:Bx w b 65 [v0,v1,v2]) (qb:Bx w b' 33 [u]) :
  CallsD Tryz.prog 155 #[.pointer (some ⟨b,0,none⟩),.pointer (some ⟨b',0,none⟩)] (.panicking [entry 201 n]) w fun e u' w'=>e = .returned (.tuple #[])∧u' = .panicking [{ entry 201 n with recovered:=true }]∧(Upd2 b b' w w'∧Bx w' b 65 [.bool false,.slice none 0 0,.slice none 0 0]∧Bx w' b' 33 [.int .i64 n]):=by
 refine JM Tryz.func155 rfl [.pointer (some ⟨b,0,none⟩),.pointer (some ⟨b',0,none⟩),uu,uu,uu,uu,uu,uu,uu,uu,uu,uu,uu,uu,uu,uu,uu,uu,uu,uu,uu,uu,uu,uu,uu,uu] (by simp [Tryz.ntmps155]) fun c₀ cs hu=>?_
 apply wpS_seq
 refine Rq hu rfl ?_
 simp only [S0,S1]
 refine wpS_of_wp<|wp_seq_k fun _ h1=>Af<|sV2 (Aa rfl) (Lx Ld rfl) ?_
 refine wh h1<|wp_cond_true (Ak (evb rfl rfl))<|wp_seq_k fun _ h2=>Af<|sV3 (Aa rfl) (KH MM rfl) (Aa rfl) ?_
 refine sV2 (Aj rfl rfl) (Aj rfl rfl) ?_
 refine Ax Nq fun b3 w1 E4 g5 q6=>?_
 refine nrm ?_
 have X7:=(Upd2.refl b b' w).ext E4
 refine ss No q6 fun w2 U8 q9=>?_
 have X3a:=X7.upd U8 (.inl g5)
 refine sV (Ab rfl) ?_
 refine wh h2<|wp_seq_k fun _ h9a=>wp_seq_k fun _ h0b=>Af<|sV2 (Aa rfl) (Mr rfl rfl rfl) ?_
 refine wh h0b<|wp_cond_false (Ak (evb rfl rfl))<|wp_skip<|h9a _ _<|wp_seq_k fun _ h1b=>Af<|Ax QG fun b8c w3 E1a g2b q3b=>?_
 refine nrm ?_
 have g9c:=nlt X3a.size g2b
 have X4b:=X3a.ext E1a
 refine wh h1b<|DK [6,8] 9 mo rfl fun w4 E0a S5b=>have X6b:=X4b.ext E0a;dA 0 rfl (fun _=>Aa rfl) ?_
 refine dA 1 rfl (fun _=>Aa rfl) ?_
 refine dV 2 rfl (fun _ hw=>Am Lb rfl ((q3b.ext E0a).ext hw) rfl) S5b ?_
 refine dA 3 rfl (fun _=>Ah (o':=0) LL rfl rfl) ?_
 refine dA 5 rfl (fun _=>Bv rfl) ?_
 refine JQ #[true,true,true,true,true,true,true,false,false] 2 (fun l l' w'=>UpdS [b] w4 w'∧Bx w' b 65 [.bool false,.slice none 0 0,.slice none 0 0]∧l'=(l.set 23 (.int .i64 n))) ?_ ?_
 ·intro HJ38
  refine CP 4 6 (by kernel_rfl) ?_ ?_
  ·refine opV 4 rfl (by rfl) (Ai BW rfl (Bx.cell ((q9.ext E1a).ext E0a) rfl)) (dnrm ?_)
   refine AM 6 (by kernel_rfl) ?_
   ·have F7b:=belU E4 U8 g5
    refine opK 6 rfl (by decide) (by rfl) Pa rfl rfl (((qa.ext F7b).ext E1a).ext E0a) rfl rfl rfl rfl (by simp only [SP0,SP1,S0,S1,Nat.reduceAdd];rfl) fun w5 U8b q9b=>?_
    exact Cm (by kernel_rfl) (HJ38 _ _ ⟨((UpdS.refl _ _).upd U8b (.inl im0)),q9b,(by kernel_rfl)⟩)
  ·have F4a:=belU E4 U8 g5
   refine opK 6 rfl (by decide) (by rfl) Pa rfl rfl (((qa.ext F4a).ext E1a).ext E0a) rfl rfl rfl rfl (by simp only [SP0,SP1,S0,S1,Nat.reduceAdd];rfl) fun w5 U5a q0c=>?_
   refine AM 4 (by kernel_rfl) ?_
   ·have ne1c:=(Bx.neT ((q9.ext E1a).ext E0a) (((qa.ext F4a).ext E1a).ext E0a) (by decide))
    have q2c:=((q9.ext E1a).ext E0a).upd U5a ne1c
    refine opV 4 rfl (by rfl) (Ai BW rfl (Bx.cell q2c rfl)) (dnrm ?_)
    exact Cm (by kernel_rfl) (HJ38 _ _ ⟨((UpdS.refl _ _).upd U5a (.inl im0)),q0c,(by kernel_rfl)⟩)
 ·rintro l' w5 ⟨U6a,q3c,hq'⟩ l'' hl
  rw [hq'] at hl
  clear hq'
  simp only [S0,S1] at hl
  subst hl
  have X4c:=X6b.updS U6a (alc (.inr (.inl rfl)) al0)
  refine dA 7 rfl (fun _=>Bv rfl) ?_
  have F2a:=belU E4 U8 g5
  have ne7a:=(Bx.neT (((qb.ext F2a).ext E1a).ext E0a) (((qa.ext F2a).ext E1a).ext E0a) (by decide))
  have q5c:=(((qb.ext F2a).ext E1a).ext E0a).updS U6a (nmc ne7a nm0)
  refine dkk 8 GW q5c fun w6 U8a q6c=>?_
  have X7c:=X4c.upd U8a (.inr (.inr rfl))
  refine CE (by kernel_rfl) ?_
  exact Rw (by kernel_rfl) ⟨rfl,rfl,X7c,(q3c.upd U8a (Ne.symm ne7a)),q6c⟩
theorem JF:Qt Tryz.prog 155:=by
 intro ar b b' w ha
 subst ha
 refine JM Tryz.func155 rfl [.pointer (some ⟨b,0,none⟩),.pointer (some ⟨b',0,none⟩),uu,uu,uu,uu,uu,uu,uu,uu,uu,uu,uu,uu,uu,uu,uu,uu,uu,uu,uu,uu,uu,uu,uu,uu] (by simp [Tryz.ntmps155]) fun c₀ cs hu=>?_
 apply wpS_seq
 refine Qr hu rfl ?_
 simp only [S0,S1]
 refine wpS_of_wp<|wp_seq_k fun _ h1=>Af<|sV2 (Aa rfl) (JY Ld rfl) ?_
 refine wh h1<|wp_cond_false (Ak (evb rfl rfl))<|wp_skip ?_
 exact PM hu (by kernel_rfl) ⟨rfl,rfl,rfl⟩
theorem idle_whole_caught:Qy Tryz.prog 246:=by
 intro b w
 refine JM Tryz.func246 rfl [.pointer (some ⟨b,0,none⟩),uu,uu,uu,uu,uu,uu,uu,uu,uu,uu,uu,uu,uu,uu] (by simp [Tryz.ntmps246]) fun c₀ cs hu=>?_
 apply wpS_seq
 refine rcvI1 hu rfl ?_
 simp only [S0,S1]
 refine wpS_of_wp ?_
 apply wp_block
 refine wp_seq_k fun _ h1=>Af<|sV (d_eqlNilN Ld rfl) ?_
 refine wh h1<|wp_cond_true (Ak (evb rfl rfl))<|Af<|sV (Ab rfl) ?_
 refine AK ?_
 try simp only [Exit.inBlock]
 exact PM hu (by kernel_rfl) ⟨rfl,rfl,rfl⟩
theorem c_whole_args_1 (x0:Ae) (A1:Option Addr) (c2:Nat) (w:World) (hT:TB w) (n3:RU w A1 c2 x0.Abs) (r:Bool) (hr:Ia x0=some r) :
  Calls Tryz.prog 270 #[.agg #[.bool x0.Neg,.slice A1 (sz x0.Abs) c2]] w (Ret FN w r):=by
 unfold Ia at hr
 go_enter Tryz.func270,Tryz.ntmps270
 refine wp_seq_k fun _ h4=>Af<|Bm rfl rfl fun b5 w1 E6 g7 q8=>?_
 refine nrm ?_
 refine sV (Ab rfl) ?_
 refine wh h4<|wp_seq_k fun _ h9=>Af<|sV (Am GS rfl q8 rfl) ?_
 refine scr hr (Ad Oj (by rfl)) (Ju (⟨x0.Neg,(limbs x0.Abs)⟩:Ay) A1 c2 w1 (tbx E6 hT) (n3.ext E6)) fun r1a f2a w2 E3a=>?_
 have X4a:=xtr E6 E3a
 refine sb (Fq rfl) fun z0a hz0a=>?_
 refine nrm ?_
 refine sV (Ab rfl) ?_
 refine wh h9<|wp_ret ?_
 obtain rfl:z0a=decide (¬(r1a=true)):=bz hz0a
 exact BG f2a X4a rfl
theorem c_slices_IndexFunc_Int__1__whole_args_1 (x0_0:Ae) (bp0:Nat) (A1:Option Addr) (c2:Nat) (w:World) (hT:TB w) (n3:RU w A1 c2 x0_0.Abs) (q4:Bx w bp0 25 [.bool x0_0.Neg,.slice A1 (sz x0_0.Abs) c2]) (r:Int) (hr:BE x0_0=some r) :
  Calls Tryz.prog 284 #[.slice (some ⟨bp0,0,none⟩) 1 1,.func (.func 270) #[] #[]] w (Ret HO w r):=by
 unfold BE at hr
 go_enter Tryz.func284,Tryz.ntmps284
 refine wp_seq_k fun _ h5=>Af<|sV (Ab rfl) ?_
 refine wh h5<|wp_seq_k fun _ h6=>wp_seq_k fun _ h7=>Af<|sV3 (Aa rfl) (AG PI rfl) (Aa rfl) ?_
 refine wh h7 ?_
 apply wp_block
 refine Hh<|Bk<|wp_seq_k fun _ h8=>Af<|sV (IN (v:=.bool true) (Cn rfl rfl) (by rfl)) ?_
 refine wh h8<|wp_seq_k fun _ h9=>wp_cond_true (Ak (evb rfl rfl))<|wp_skip<|h9 _ _<|wp_seq_k fun _ h2a=>?_
 apply wp_block
 refine wp_seq_k fun _ h3a=>Af<|sV2 (Aa rfl) (Ab rfl) ?_
 refine wh h3a<|wp_seq_k fun _ h4a=>Af<|sV3 (Aa rfl) (Aa rfl) (Aa rfl) ?_
 refine sV (Ht (o':=0) PI Kd rfl rfl (by decide) (by decide) (by decide)) ?_
 refine sV (Am GS rfl q4 rfl) ?_
 refine scr hr (Ee (first:=[]) (cap:=[]) (args:=[.agg #[.bool x0_0.Neg,.slice A1 (sz x0_0.Abs) c2]]) en_270 (by rfl) (by rfl)) (c_whole_args_1 x0_0 A1 c2 w hT n3) fun r1b f5a w1 E1a=>?_
 refine wh h4a ?_
 rcases zb f5a with ⟨e0a,f6a⟩ | ⟨e0a,f7a⟩
 ·refine wp_cond_true (Ak (evb rfl e0a))<|wp_seq_k fun _ h8a=>Af<|sV2 (Aa rfl) (Ab rfl) ?_
  refine wh h8a<|wp_ret ?_
  exact BG f6a E1a rfl
 ·refine wp_cond_false (Ak (evb rfl e0a))<|wp_skip<|h2a _ _<|Af<|sV (Bj (c:=1) rfl rfl (by decide)) ?_
  refine sV (Aa rfl) ?_
  refine AK<|Bk<|wp_seq_k fun _ h9a=>Af<|sV (IN (v:=.bool false) (Cn rfl rfl) (by rfl)) ?_
  refine wh h9a<|wp_seq_k fun _ h2b=>wp_cond_false (Ak (evb rfl rfl))<|wp_exit ?_
  simp only [Exit.then,Exit.inBlock,↓reduceIte,Nat.reduceEqDiff]
  refine h6 _ _<|wp_seq_k fun _ h0b=>Af<|sV (Ab rfl) ?_
  refine wh h0b<|wp_ret ?_
  exact BG f7a E1a rfl
theorem c_slices_ContainsFunc_Int__1__whole_args_1 (x0_0:Ae) (bp0:Nat) (A1:Option Addr) (c2:Nat) (w:World) (hT:TB w) (n3:RU w A1 c2 x0_0.Abs) (q4:Bx w bp0 25 [.bool x0_0.Neg,.slice A1 (sz x0_0.Abs) c2]) (r:Bool) (hr:Bs x0_0=some r) :
  Calls Tryz.prog 269 #[.slice (some ⟨bp0,0,none⟩) 1 1,.func (.func 270) #[] #[]] w (Ret FN w r):=by
 unfold Bs at hr
 go_enter Tryz.func269,Tryz.ntmps269
 refine wp_seq_k fun _ h5=>Af<|sV (Ab rfl) ?_
 refine wh h5<|wp_seq_k fun _ h6=>Af<|sV2 (Aa rfl) (Aa rfl) ?_
 refine scr hr (Ad en_284 (by rfl)) (c_slices_IndexFunc_Int__1__whole_args_1 x0_0 bp0 A1 c2 w hT n3 q4) fun r7 f9 w1 E1a=>?_
 refine sb (FP rfl rfl) fun z0a hz0a=>?_
 refine nrm ?_
 refine sV (Ab rfl) ?_
 refine wh h6<|wp_ret ?_
 obtain rfl:z0a=decide (0≤r7):=bz hz0a
 exact BG f9 E1a rfl
theorem JV (x0:Bool) (x1:Int) (w:World) (hT:TB w) (r:Except Int (Unit)) (hr:JU x0 x1=some r) :
  Calls Tryz.prog 248 #[.bool x0,.int .i64 x1] w (RetE 274 Lc w r):=by
 unfold JU at hr
 go_enter Tryz.func248,Tryz.ntmps248
 refine wp_seq_k fun _ h1=>Af<|sV (Aa rfl) ?_
 refine sb (Fq rfl) fun z2 hz2=>?_
 refine nrm ?_
 refine wh h1 ?_
 rcases zi hz2 hr with ⟨e8,_,f0a⟩ | ⟨e8,_,f1a⟩
 ·refine wp_cond_true (Ak (evb rfl e8))<|Af<|sV2 (Aa rfl) (Bb (vals:=[(0,.int .i64 x1)]) (cells:=[.int .i64 x1]) (by rfl) (by kernel_rfl)) ?_
  refine sV (Lm ni_274 rfl) ?_
  refine PE rfl ?_
  obtain rfl:=sj f0a
  exact ⟨rfl,BK (Ext.refl _)⟩
 ·refine wp_cond_false (Ak (evb rfl e8))<|wp_skip ?_
  obtain rfl:=sj f1a
  exact Ng rfl Res.nil (DC (Ext.refl _) rfl)
theorem La (x0_0:Ae) (bp0:Nat) (A1:Option Addr) (c2:Nat) (w:World) (hT:TB w) (n3:RU w A1 c2 x0_0.Abs) (q4:Bx w bp0 25 [.bool x0_0.Neg,.slice A1 (sz x0_0.Abs) c2]) (r:Except Int (Unit)) (hr:Gt x0_0=some r) :
  Calls Tryz.prog 247 #[.slice (some ⟨bp0,0,none⟩) 1 1] w (RetE 274 Lc w r):=by
 unfold Gt at hr
 go_enter Tryz.func247,Tryz.ntmps247
 refine Af<|sV (Aa rfl) ?_
 refine scr hr (Ad en_269 (by rfl)) (c_slices_ContainsFunc_Int__1__whole_args_1 x0_0 bp0 A1 c2 w hT n3 q4) fun r5 f7 w1 E8=>?_
 refine sb (Fq rfl) fun z9 hz9=>?_
 refine nrm ?_
 obtain rfl:z9=decide (¬(r5=true)):=bz hz9
 rcases AF f7 with ⟨r0a,h1a,f3a⟩ | ⟨r0a,h1a,rfl⟩
 ·refine scO (Ad OC (by rfl)) (JV (decide (¬(r5=true))) 1 w1 (tbx E8 hT)  (.ok r0a) h1a) ?_
  rintro _ w2 E2a rfl
  refine nrm ?_
  have X4a:=xtr E8 E2a
  refine AK ?_
  obtain rfl:=sj f3a
  exact Ng rfl Res.nil (DC X4a rfl)
 ·refine scP (Ad OC (by rfl)) (JV (decide (¬(r5=true))) 1 w1 (tbx E8 hT)  (.error r0a) h1a) fun w2 E2a=>?_
  have X5a:=xtr E8 E2a
  exact ⟨rfl,BK X5a⟩
theorem Gr:Qy Tryz.prog 222:=by
 intro b w
 refine JM Tryz.func222 rfl [.pointer (some ⟨b,0,none⟩),uu,uu,uu,uu,uu,uu,uu,uu,uu,uu,uu,uu,uu,uu,uu,uu,uu,uu,uu] (by simp [Tryz.ntmps222]) fun c₀ cs hu=>?_
 apply wpS_seq
 refine Qr hu rfl ?_
 simp only [S0,S1]
 refine wpS_of_wp<|wp_seq_k fun _ h1=>Af<|sV2 (Aa rfl) (JY Ld rfl) ?_
 refine wh h1<|wp_cond_false (Ak (evb rfl rfl))<|wp_skip ?_
 try simp only [Exit.inBlock]
 exact PM hu (by kernel_rfl) ⟨rfl,rfl,rfl⟩
theorem KB (x0:Nat) (A1:Option Addr) (c2:Nat) (w:World) (hT:TB w) (n3:RU w A1 c2 x0) (r:Bool) (hr:GD x0=some r) :
  Calls Tryz.prog 255 #[.slice A1 (sz x0) c2] w (Ret FN w r):=by
 unfold GD at hr
 go_enter Tryz.func255,Tryz.ntmps255
 refine wp_seq_k fun _ h4=>Af<|sV (Ab rfl) ?_
 refine wh h4<|wp_seq_k fun _ h5=>Af<|sV (Aa rfl) ?_
 refine scr hr (Ad PR (by rfl)) (JH (limbs x0) A1 c2 w hT n3) fun r6 f8 w1 E9=>?_
 refine sb (Fq rfl) fun z0a hz0a=>?_
 refine nrm ?_
 refine sV (Ab rfl) ?_
 refine wh h5<|wp_ret ?_
 obtain rfl:z0a=decide (¬(r6=true)):=bz hz0a
 exact BG f8 E9 rfl
theorem c_slices_IndexFunc_Nat__1__nat_taken_1 (x0_0:Nat) (bp0:Nat) (A1:Option Addr) (c2:Nat) (w:World) (hT:TB w) (n3:RU w A1 c2 x0_0) (q4:Bx w bp0 23 [.slice A1 (sz x0_0) c2]) (r:Int) (hr:Cz x0_0=some r) :
  Calls Tryz.prog 274 #[.slice (some ⟨bp0,0,none⟩) 1 1,.func (.func 255) #[] #[]] w (Ret HO w r):=by
 unfold Cz at hr
 go_enter Tryz.func274,Tryz.ntmps274
 refine wp_seq_k fun _ h5=>Af<|sV (Ab rfl) ?_
 refine wh h5<|wp_seq_k fun _ h6=>wp_seq_k fun _ h7=>Af<|sV3 (Aa rfl) (AG Kx rfl) (Aa rfl) ?_
 refine wh h7 ?_
 apply wp_block
 refine Hh<|Bk<|wp_seq_k fun _ h8=>Af<|sV (IN (v:=.bool true) (Cn rfl rfl) (by rfl)) ?_
 refine wh h8<|wp_seq_k fun _ h9=>wp_cond_true (Ak (evb rfl rfl))<|wp_skip<|h9 _ _<|wp_seq_k fun _ h2a=>?_
 apply wp_block
 refine wp_seq_k fun _ h3a=>Af<|sV2 (Aa rfl) (Ab rfl) ?_
 refine wh h3a<|wp_seq_k fun _ h4a=>Af<|sV3 (Aa rfl) (Aa rfl) (Aa rfl) ?_
 refine sV (Ht (o':=0) Kx Mv rfl rfl (by decide) (by decide) (by decide)) ?_
 refine sV (Ai Gf rfl (Bx.cell q4 rfl)) ?_
 refine scr hr (Ee (first:=[]) (cap:=[]) (args:=[.slice A1 (sz x0_0) c2]) PH (by rfl) (by rfl)) (KB x0_0 A1 c2 w hT n3) fun r1b f5a w1 E1a=>?_
 refine wh h4a ?_
 rcases zb f5a with ⟨e0a,f6a⟩ | ⟨e0a,f7a⟩
 ·refine wp_cond_true (Ak (evb rfl e0a))<|wp_seq_k fun _ h8a=>Af<|sV2 (Aa rfl) (Ab rfl) ?_
  refine wh h8a<|wp_ret ?_
  exact BG f6a E1a rfl
 ·refine wp_cond_false (Ak (evb rfl e0a))<|wp_skip<|h2a _ _<|Af<|sV (Bj (c:=1) rfl rfl (by decide)) ?_
  refine sV (Aa rfl) ?_
  refine AK<|Bk<|wp_seq_k fun _ h9a=>Af<|sV (IN (v:=.bool false) (Cn rfl rfl) (by rfl)) ?_
  refine wh h9a<|wp_seq_k fun _ h2b=>wp_cond_false (Ak (evb rfl rfl))<|wp_exit ?_
  simp only [Exit.then,Exit.inBlock,↓reduceIte,Nat.reduceEqDiff]
  refine h6 _ _<|wp_seq_k fun _ h0b=>Af<|sV (Ab rfl) ?_
  refine wh h0b<|wp_ret ?_
  exact BG f7a E1a rfl
theorem c_slices_ContainsFunc_Nat__1__nat_taken_1 (x0_0:Nat) (bp0:Nat) (A1:Option Addr) (c2:Nat) (w:World) (hT:TB w) (n3:RU w A1 c2 x0_0) (q4:Bx w bp0 23 [.slice A1 (sz x0_0) c2]) (r:Bool) (hr:BZ x0_0=some r) :
  Calls Tryz.prog 254 #[.slice (some ⟨bp0,0,none⟩) 1 1,.func (.func 255) #[] #[]] w (Ret FN w r):=by
 unfold BZ at hr
 go_enter Tryz.func254,Tryz.ntmps254
 refine wp_seq_k fun _ h5=>Af<|sV (Ab rfl) ?_
 refine wh h5<|wp_seq_k fun _ h6=>Af<|sV2 (Aa rfl) (Aa rfl) ?_
 refine scr hr (Ad QY (by rfl)) (c_slices_IndexFunc_Nat__1__nat_taken_1 x0_0 bp0 A1 c2 w hT n3 q4) fun r7 f9 w1 E1a=>?_
 refine sb (FP rfl rfl) fun z0a hz0a=>?_
 refine nrm ?_
 refine sV (Ab rfl) ?_
 refine wh h6<|wp_ret ?_
 obtain rfl:z0a=decide (0≤r7):=bz hz0a
 exact BG f9 E1a rfl
theorem EL (x0:Bool) (x1:Int) (w:World) (hT:TB w) (r:Except Int (Unit)) (hr:FH x0 x1=some r) :
  Calls Tryz.prog 224 #[.bool x0,.int .i64 x1] w (RetE 258 Lc w r):=by
 unfold FH at hr
 go_enter Tryz.func224,Tryz.ntmps224
 refine wp_seq_k fun _ h1=>Af<|sV (Aa rfl) ?_
 refine sb (Fq rfl) fun z2 hz2=>?_
 refine nrm ?_
 refine wh h1 ?_
 rcases zi hz2 hr with ⟨e8,_,f0a⟩ | ⟨e8,_,f1a⟩
 ·refine wp_cond_true (Ak (evb rfl e8))<|Af<|sV2 (Aa rfl) (Bb (vals:=[(0,.int .i64 x1)]) (cells:=[.int .i64 x1]) (by rfl) (by kernel_rfl)) ?_
  refine sV (Lm ni_258 rfl) ?_
  refine PE rfl ?_
  obtain rfl:=sj f0a
  exact ⟨rfl,BK (Ext.refl _)⟩
 ·refine wp_cond_false (Ak (evb rfl e8))<|wp_skip ?_
  obtain rfl:=sj f1a
  exact Ng rfl Res.nil (DC (Ext.refl _) rfl)
theorem IM (x0_0:Nat) (bp0:Nat) (A1:Option Addr) (c2:Nat) (w:World) (hT:TB w) (n3:RU w A1 c2 x0_0) (q4:Bx w bp0 23 [.slice A1 (sz x0_0) c2]) (r:Except Int (Unit)) (hr:GT x0_0=some r) :
  Calls Tryz.prog 223 #[.slice (some ⟨bp0,0,none⟩) 1 1] w (RetE 258 Lc w r):=by
 unfold GT at hr
 go_enter Tryz.func223,Tryz.ntmps223
 refine Af<|sV (Aa rfl) ?_
 refine scr hr (Ad Ru (by rfl)) (c_slices_ContainsFunc_Nat__1__nat_taken_1 x0_0 bp0 A1 c2 w hT n3 q4) fun r5 f7 w1 E8=>?_
 refine sb (Fq rfl) fun z9 hz9=>?_
 refine nrm ?_
 obtain rfl:z9=decide (¬(r5=true)):=bz hz9
 rcases AF f7 with ⟨r0a,h1a,f3a⟩ | ⟨r0a,h1a,rfl⟩
 ·refine scO (Ad IT (by rfl)) (EL (decide (¬(r5=true))) 1 w1 (tbx E8 hT)  (.ok r0a) h1a) ?_
  rintro _ w2 E2a rfl
  refine nrm ?_
  have X4a:=xtr E8 E2a
  refine AK ?_
  obtain rfl:=sj f3a
  exact Ng rfl Res.nil (DC X4a rfl)
 ·refine scP (Ad IT (by rfl)) (EL (decide (¬(r5=true))) 1 w1 (tbx E8 hT)  (.error r0a) h1a) fun w2 E2a=>?_
  have X5a:=xtr E8 E2a
  exact ⟨rfl,BK X5a⟩
theorem FQ (x0:Nat) (A1:Option Addr) (c2:Nat) (w:World) (hT:TB w) (n3:RU w A1 c2 x0) (r:Except Int (Nat)) (hr:Gz x0=some r) :
  Calls Tryz.prog 225 #[.slice A1 (sz x0) c2] w (RetE 258 NJ w r):=by
 unfold Gz at hr
 go_enter Tryz.func225,Tryz.ntmps225
 refine wp_seq_k fun _ h4=>Af<|sV (Ab rfl) ?_
 refine wh h4<|wp_seq_k fun _ h5=>Af<|sV2 (Aa rfl) (AG AQ rfl) ?_
 refine sb (Jh rfl rfl) fun z6 hz6=>?_
 refine nrm ?_
 obtain rfl:z6=decide ((sz x0:Int)≤1024):=bz hz6
 rcases AF hr with ⟨r7,h8,f9⟩ | ⟨r7,h8,rfl⟩
 ·refine scO (Ad IT (by rfl)) (EL (decide ((sz x0:Int)≤1024)) 2 w hT  (.ok r7) h8) ?_
  rintro _ w1 E0a rfl
  refine nrm ?_
  refine wh h5<|wp_seq_k fun _ h1a=>Af<|sV (Aa rfl) ?_
  refine scn f9 (Ad en_256 (by rfl)) (c_slices_Clone_nat_limbs x0 A1 c2 w1 (tbx E0a hT) (n3.ext E0a)) fun r8a f2a w2 A3a c4a E5a n6a=>?_
  have X7a:=xtr E0a E5a
  refine sV (Ab rfl) ?_
  refine wh h1a<|wp_ret ?_
  exact CV f2a rfl (Res.tmp rfl Res.nil) (DC X7a ⟨A3a,c4a,rfl,n6a⟩)
 ·refine scP (Ad IT (by rfl)) (EL (decide ((sz x0:Int)≤1024)) 2 w hT  (.error r7) h8) fun w1 E0a=>?_
  exact ⟨rfl,BK E0a⟩
theorem NS (x0:Nat) (x1:Int) (A1:Option Addr) (c2:Nat) (w:World) (hT:TB w) (n3:RU w A1 c2 x0) (r:Nat × Int) (hr:JZ x0 x1=some r) :
  Calls Tryz.prog 158 #[.slice A1 (sz x0) c2,.int .i64 x1] w (Ret IJ w r):=by
 unfold JZ at hr
 obtain ⟨q0,hq0,hr0⟩:=Ac hr
 unfold Mg at hq0
 go_enter_defers Tryz.func158,Tryz.ntmps158
 refine wp_seq_k fun _ h4=>Af<|sV (Ab rfl) ?_
 refine Ax Jk fun b5 w1 E6 g7 q8=>?_
 refine nrm ?_
 refine wh h4<|wp_seq_k fun _ h9=>Af<|Hw (vs:=[.pointer (some ⟨b5,0,none⟩)]) (by rfl) (by rfl)<|wh h9<|wp_seq_k fun _ h1d=>Af<|sV (Aa rfl) ?_
 refine CI (vals:=[(0,.slice A1 (sz x0) c2)]) (cs:=[.slice A1 (sz x0) c2]) Kx Mv OR (by rfl) (by decide) (by kernel_rfl) fun b1c w2 E4a g2d q2c=>?_
 refine nrm ?_
 have g5f:=nlt E6.size g2d
 have X0a:=xtr E6 E4a
 rcases AF hq0 with ⟨r5a,h6a,f3d⟩ | ⟨r5a,h6a,rfl⟩
 ·refine scO (Ad Kv (by rfl)) (IM x0 b1c A1 c2 w2 (tbx X0a hT) (n3.ext X0a) q2c (.ok r5a) h6a) ?_
  rintro _ w3 E1a rfl
  refine nrm ?_
  have X7a:=xtr X0a E1a
  refine wh h1d<|wp_seq_k fun _ h4d=>Af<|sV (Aa rfl) ?_
  refine sb (FP rfl rfl) fun z8a hz8a=>?_
  refine nrm ?_
  obtain rfl:z8a=decide (0≤x1):=bz hz8a
  rcases AF f3d with ⟨r9a,h0b,f5d⟩ | ⟨r9a,h0b,rfl⟩
  ·refine scO (Ad IT (by rfl)) (EL (decide (0≤x1)) 1 w3 (tbx X7a hT)  (.ok r9a) h0b) ?_
   rintro _ w4 E2a rfl
   refine nrm ?_
   have X3a:=xtr X7a E2a
   refine wh h4d<|wp_seq_k fun _ h6d=>wp_seq_k fun _ h7d=>Af<|sV2 (Aa rfl) (AG Dn rfl) ?_
   refine sb (CG rfl rfl) fun z3c hz3c=>?_
   refine nrm ?_
   refine wh h7d ?_
   rcases zi hz3c f5d with ⟨e1b,_,f8d⟩ | ⟨e1b,_,f9d⟩
   ·refine wp_cond_true (Ak (evb rfl e1b))<|wp_seq_k fun _ h0e=>Af<|sV (Ab rfl) ?_
    refine ss GW (((q8.ext E4a).ext E1a).ext E2a) fun w5 U1e q2e=>?_
    have X3e:=belU X3a U1e g7
    refine wh h0e<|wp_ret ?_
    obtain rfl:=sj f8d
    obtain rfl:=sj hr0
    exact Nv Gr MK rfl (Res.tmp rfl (Res.cell1 rfl BW (Bx.cell q2e rfl) Res.nil)) (Av X3e ⟨none,0,rfl,(RU.nil _)⟩)
   ·refine wp_cond_false (Ak (evb rfl e1b))<|wp_skip<|h6d _ _<|wp_seq_k fun _ h4e=>Af<|sV (Aa rfl) ?_
    refine sb (Jh rfl rfl) fun z2b hz2b=>?_
    refine nrm ?_
    obtain rfl:z2b=decide (x1≤32768):=bz hz2b
    rcases AF f9d with ⟨r3b,h4b,f5e⟩ | ⟨r3b,h4b,rfl⟩
    ·refine scO (Ad IT (by rfl)) (EL (decide (x1≤32768)) 2 w4 (tbx X3a hT)  (.ok r3b) h4b) ?_
     rintro _ w5 E5b rfl
     refine nrm ?_
     have X6b:=xtr X3a E5b
     refine wh h4e<|wp_seq_k fun _ h6e=>Af<|sV2 (Aa rfl) (Aa rfl) ?_
     refine scn f5e (Ad OI (by rfl)) (Hm x0 x1 A1 c2 w5 (tbx X6b hT) (n3.ext X6b)) fun r4c f7e w6 A5c c6c E7c n8c=>?_
     have X7b:=xtr X6b E7c
     rcases AF f7e with ⟨r8b,h9b,f8e⟩ | ⟨r8b,h9b,rfl⟩
     ·refine scO (Ad Kt (by rfl)) (FQ r4c A5c c6c w6 (tbx X7b hT) n8c (.ok r8b) h9b) ?_
      rintro _ w7 E0c ⟨A9e,c0f,rfl,n1f⟩
      refine nrm ?_
      have X2f:=xtr X7b E0c
      refine sV (Ab rfl) ?_
      have q9c:=(((((q8.ext E4a).ext E1a).ext E2a).ext E5b).ext E7c).ext E0c
      refine ss GW q9c fun w8 U0d q3f=>?_
      have X4f:=belU X2f U0d g7
      refine wh h6e<|wp_ret ?_
      obtain rfl:=sj f8e
      obtain rfl:=sj hr0
      exact Nv Gr MK rfl (Res.tmp rfl (Res.cell1 rfl BW (Bx.cell q3f rfl) Res.nil)) (Av X4f ⟨A9e,c0f,rfl,(n1f.upd U0d q9c (by decide))⟩)
     ·refine scP (Ad Kt (by rfl)) (FQ r4c A5c c6c w6 (tbx X7b hT) n8c (.error r8b) h9b) fun w7 E0c=>?_
      cases hr0
    ·refine scP (Ad IT (by rfl)) (EL (decide (x1≤32768)) 2 w4 (tbx X3a hT)  (.error r3b) h4b) fun w5 E5b=>?_
     cases hr0
  ·refine scP (Ad IT (by rfl)) (EL (decide (0≤x1)) 1 w3 (tbx X7a hT)  (.error r9a) h0b) fun w4 E2a=>?_
   cases hr0
 ·refine scP (Ad Kv (by rfl)) (IM x0 b1c A1 c2 w2 (tbx X0a hT) (n3.ext X0a) q2c (.error r5a) h6a) fun w3 E1a=>?_
  cases hr0
theorem Fh (x0:Nat) (x1:Int) (A1:Option Addr) (c2:Nat) (w:World) (hT:TB w) (n3:RU w A1 c2 x0) (r:Except Int (Nat)) (hr:Gu x0 x1=some r) :
  Calls Tryz.prog 218 #[.slice A1 (sz x0) c2,.int .i64 x1] w (RetE 274 NJ w r):=by
 unfold Gu at hr
 go_enter Tryz.func218,Tryz.ntmps218
 refine wp_seq_k fun _ h4=>Af<|sV (Ab rfl) ?_
 refine wh h4<|wp_seq_k fun _ h5=>Af<|sV (Aa rfl) ?_
 refine sb (CG rfl rfl) fun z6 hz6=>?_
 refine nrm ?_
 refine sV (Aa rfl) ?_
 obtain rfl:z6=decide (x1=0):=bz hz6
 rcases AF hr with ⟨r7,h8,f9⟩ | ⟨r7,h8,rfl⟩
 ·refine scO (Ad OC (by rfl)) (JV (decide (x1=0)) x1 w hT  (.ok r7) h8) ?_
  rintro _ w1 E0a rfl
  refine nrm ?_
  refine wh h5<|wp_seq_k fun _ h1a=>Af<|sV2 (Aa rfl) (Ab rfl) ?_
  refine wh h1a<|wp_ret ?_
  exact CV f9 rfl (Res.tmp rfl Res.nil) (DC E0a ⟨A1,c2,rfl,(n3.ext E0a)⟩)
 ·refine scP (Ad OC (by rfl)) (JV (decide (x1=0)) x1 w hT  (.error r7) h8) fun w1 E0a=>?_
  exact ⟨rfl,BK E0a⟩
theorem NZ (x0:Nat) (x1:Int) (A1:Option Addr) (c2:Nat) (w:World) (hT:TB w) (n3:RU w A1 c2 x0) (r:Nat × Int) (hr:LS x0 x1=some r) :
  Calls Tryz.prog 219 #[.slice A1 (sz x0) c2,.int .i64 x1] w (Ret IJ w r):=by
 unfold LS at hr
 obtain ⟨q0,hq0,hr0⟩:=Ac hr
 unfold NF at hq0
 go_enter_defers Tryz.func219,Tryz.ntmps219
 refine wp_seq_k fun _ h4=>Af<|sV (Ab rfl) ?_
 refine Ax Jk fun b5 w1 E6 g7 q8=>?_
 refine nrm ?_
 refine wh h4<|wp_seq_k fun _ h9=>Af<|Hw (vs:=[.pointer (some ⟨b5,0,none⟩)]) (by rfl) (by rfl)<|wh h9<|wp_seq_k fun _ h4c=>Af<|sV (Aa rfl) ?_
 refine CI (vals:=[(0,.slice A1 (sz x0) c2)]) (cs:=[.slice A1 (sz x0) c2]) Kx Mv OR (by rfl) (by decide) (by kernel_rfl) fun b4b w2 E5b g5c q6b=>?_
 refine nrm ?_
 have g8d:=nlt E6.size g5c
 have X0a:=xtr E6 E5b
 rcases AF hq0 with ⟨r1a,h2a,f6c⟩ | ⟨r1a,h2a,rfl⟩
 ·refine scO (Ad Kv (by rfl)) (IM x0 b4b A1 c2 w2 (tbx X0a hT) (n3.ext X0a) q6b (.ok r1a) h2a) ?_
  rintro _ w3 E3a rfl
  refine nrm ?_
  have X4a:=xtr X0a E3a
  refine wh h4c<|wp_seq_k fun _ h7c=>Af<|sV (Aa rfl) ?_
  refine sb (FP rfl rfl) fun z5a hz5a=>?_
  refine nrm ?_
  obtain rfl:z5a=decide (0≤x1):=bz hz5a
  rcases AF f6c with ⟨r6a,h7a,f8c⟩ | ⟨r6a,h7a,rfl⟩
  ·refine scO (Ad IT (by rfl)) (EL (decide (0≤x1)) 1 w3 (tbx X4a hT)  (.ok r6a) h7a) ?_
   rintro _ w4 E8a rfl
   refine nrm ?_
   have X9a:=xtr X4a E8a
   refine wh h7c<|wp_seq_k fun _ h9c=>Af<|sV2 (Aa rfl) (Aa rfl) ?_
   refine scn f8c (Ad PO (by rfl)) (ID x0 x1 A1 c2 w4 (tbx X9a hT) (n3.ext X9a)) fun r7b f0d w5 A8b c9b E0c n1c=>?_
   have X0b:=xtr X9a E0c
   rcases AF f0d with ⟨r1b,h2b,f1d⟩ | ⟨r1b,h2b,rfl⟩
   ·refine scO (Ad Kt (by rfl)) (FQ r7b A8b c9b w5 (tbx X0b hT) n1c (.ok r1b) h2b) ?_
    rintro _ w6 E3b ⟨A2d,c3d,rfl,n4d⟩
    refine nrm ?_
    have X5d:=xtr X0b E3b
    refine sV (Ab rfl) ?_
    have q2c:=((((q8.ext E5b).ext E3a).ext E8a).ext E0c).ext E3b
    refine ss GW q2c fun w7 U3c q6d=>?_
    have X7d:=belU X5d U3c g7
    refine wh h9c<|wp_ret ?_
    obtain rfl:=sj f1d
    obtain rfl:=sj hr0
    exact Nv Gr MK rfl (Res.tmp rfl (Res.cell1 rfl BW (Bx.cell q6d rfl) Res.nil)) (Av X7d ⟨A2d,c3d,rfl,(n4d.upd U3c q2c (by decide))⟩)
   ·refine scP (Ad Kt (by rfl)) (FQ r7b A8b c9b w5 (tbx X0b hT) n1c (.error r1b) h2b) fun w6 E3b=>?_
    cases hr0
  ·refine scP (Ad IT (by rfl)) (EL (decide (0≤x1)) 1 w3 (tbx X4a hT)  (.error r6a) h7a) fun w4 E8a=>?_
   cases hr0
 ·refine scP (Ad Kv (by rfl)) (IM x0 b4b A1 c2 w2 (tbx X0a hT) (n3.ext X0a) q6b (.error r1a) h2a) fun w3 E3a=>?_
  cases hr0
theorem c_slices_IndexFunc_Nat__2__nat_taken_1 (x0_0:Nat) (x0_1:Nat) (bp0:Nat) (A1:Option Addr) (c2:Nat) (A4:Option Addr) (c5:Nat) (w:World) (hT:TB w) (n3:RU w A1 c2 x0_0) (n6:RU w A4 c5 x0_1) (q7:Bx w bp0 23 [.slice A1 (sz x0_0) c2,.slice A4 (sz x0_1) c5]) (r:Int) (hr:Cu x0_0 x0_1=some r) :
  Calls Tryz.prog 274 #[.slice (some ⟨bp0,0,none⟩) 2 2,.func (.func 255) #[] #[]] w (Ret HO w r):=by
 unfold Cu at hr
 go_enter Tryz.func274,Tryz.ntmps274
 refine wp_seq_k fun _ h8=>Af<|sV (Ab rfl) ?_
 refine wh h8<|wp_seq_k fun _ h9=>wp_seq_k fun _ h4a=>Af<|sV3 (Aa rfl) (AG Kx rfl) (Aa rfl) ?_
 refine wh h4a ?_
 apply wp_block
 refine Hh<|Bk<|wp_seq_k fun _ h5a=>Af<|sV (IN (v:=.bool true) (Cn rfl rfl) (by rfl)) ?_
 refine wh h5a<|wp_seq_k fun _ h6a=>wp_cond_true (Ak (evb rfl rfl))<|wp_skip<|h6a _ _<|wp_seq_k fun _ h7a=>?_
 apply wp_block
 refine wp_seq_k fun _ h8a=>Af<|sV2 (Aa rfl) (Ab rfl) ?_
 refine wh h8a<|wp_seq_k fun _ h9a=>Af<|sV3 (Aa rfl) (Aa rfl) (Aa rfl) ?_
 refine sV (Ht (o':=0) Kx Mv rfl rfl (by decide) (by decide) (by decide)) ?_
 refine sV (Ai Gf rfl (Bx.cell q7 rfl)) ?_
 refine scr hr (Ee (first:=[]) (cap:=[]) (args:=[.slice A1 (sz x0_0) c2]) PH (by rfl) (by rfl)) (KB x0_0 A1 c2 w hT n3) fun r6c f0b w1 E0a=>?_
 refine wh h9a ?_
 rcases zb f0b with ⟨e1a,f1b⟩ | ⟨e1a,f2b⟩
 ·refine wp_cond_true (Ak (evb rfl e1a))<|wp_seq_k fun _ h3b=>Af<|sV2 (Aa rfl) (Ab rfl) ?_
  refine wh h3b<|wp_ret ?_
  exact BG f1b E0a rfl
 ·refine wp_cond_false (Ak (evb rfl e1a))<|wp_skip<|h7a _ _<|Af<|sV (Bj (c:=1) rfl rfl (by decide)) ?_
  refine sV (Aa rfl) ?_
  refine AK<|Bk<|wp_seq_k fun _ h4b=>Af<|sV (IN (v:=.bool true) (Cn rfl rfl) (by rfl)) ?_
  refine wh h4b<|wp_seq_k fun _ h5b=>wp_cond_true (Ak (evb rfl rfl))<|wp_skip<|h5b _ _<|wp_seq_k fun _ h6b=>?_
  apply wp_block
  refine wp_seq_k fun _ h7b=>Af<|sV2 (Aa rfl) (Ab rfl) ?_
  refine wh h7b<|wp_seq_k fun _ h8b=>Af<|sV3 (Aa rfl) (Aa rfl) (Aa rfl) ?_
  refine sV (Ht (o':=1) Kx Mv rfl rfl (by decide) (by decide) (by decide)) ?_
  refine sV (Ai Gf rfl (Bx.cell (q7.ext E0a) rfl)) ?_
  refine scr f2b (Ee (first:=[]) (cap:=[]) (args:=[.slice A4 (sz x0_1) c5]) PH (by rfl) (by rfl)) (KB x0_1 A4 c5 w1 (tbx E0a hT) (n6.ext E0a)) fun r7c f9b w2 E0c=>?_
  have X3a:=xtr E0a E0c
  refine wh h8b ?_
  rcases zb f9b with ⟨e2a,f1c⟩ | ⟨e2a,f2c⟩
  ·refine wp_cond_true (Ak (evb rfl e2a))<|wp_seq_k fun _ h3c=>Af<|sV2 (Aa rfl) (Ab rfl) ?_
   refine wh h3c<|wp_ret ?_
   exact BG f1c X3a rfl
  ·refine wp_cond_false (Ak (evb rfl e2a))<|wp_skip<|h6b _ _<|Af<|sV (Bj (c:=2) rfl rfl (by decide)) ?_
   refine sV (Aa rfl) ?_
   refine AK<|Bk<|wp_seq_k fun _ h4c=>Af<|sV (IN (v:=.bool false) (Cn rfl rfl) (by rfl)) ?_
   refine wh h4c<|wp_seq_k fun _ h8c=>wp_cond_false (Ak (evb rfl rfl))<|wp_exit ?_
   simp only [Exit.then,Exit.inBlock,↓reduceIte,Nat.reduceEqDiff]
   refine h9 _ _<|wp_seq_k fun _ h5c=>Af<|sV (Ab rfl) ?_
   refine wh h5c<|wp_ret ?_
   exact BG f2c X3a rfl
theorem c_slices_ContainsFunc_Nat__2__nat_taken_1 (x0_0:Nat) (x0_1:Nat) (bp0:Nat) (A1:Option Addr) (c2:Nat) (A4:Option Addr) (c5:Nat) (w:World) (hT:TB w) (n3:RU w A1 c2 x0_0) (n6:RU w A4 c5 x0_1) (q7:Bx w bp0 23 [.slice A1 (sz x0_0) c2,.slice A4 (sz x0_1) c5]) (r:Bool) (hr:BY x0_0 x0_1=some r) :
  Calls Tryz.prog 254 #[.slice (some ⟨bp0,0,none⟩) 2 2,.func (.func 255) #[] #[]] w (Ret FN w r):=by
 unfold BY at hr
 go_enter Tryz.func254,Tryz.ntmps254
 refine wp_seq_k fun _ h8=>Af<|sV (Ab rfl) ?_
 refine wh h8<|wp_seq_k fun _ h9=>Af<|sV2 (Aa rfl) (Aa rfl) ?_
 refine scr hr (Ad QY (by rfl)) (c_slices_IndexFunc_Nat__2__nat_taken_1 x0_0 x0_1 bp0 A1 c2 A4 c5 w hT n3 n6 q7) fun r1a f2a w1 E3a=>?_
 refine sb (FP rfl rfl) fun z0a hz0a=>?_
 refine nrm ?_
 refine sV (Ab rfl) ?_
 refine wh h9<|wp_ret ?_
 obtain rfl:z0a=decide (0≤r1a):=bz hz0a
 exact BG f2a E3a rfl
theorem GY (x0_0:Nat) (x0_1:Nat) (bp0:Nat) (A1:Option Addr) (c2:Nat) (A4:Option Addr) (c5:Nat) (w:World) (hT:TB w) (n3:RU w A1 c2 x0_0) (n6:RU w A4 c5 x0_1) (q7:Bx w bp0 23 [.slice A1 (sz x0_0) c2,.slice A4 (sz x0_1) c5]) (r:Except Int (Unit)) (hr:FZ x0_0 x0_1=some r) :
  Calls Tryz.prog 223 #[.slice (some ⟨bp0,0,none⟩) 2 2] w (RetE 258 Lc w r):=by
 unfold FZ at hr
 go_enter Tryz.func223,Tryz.ntmps223
 refine Af<|sV (Aa rfl) ?_
 refine scr hr (Ad Ru (by rfl)) (c_slices_ContainsFunc_Nat__2__nat_taken_1 x0_0 x0_1 bp0 A1 c2 A4 c5 w hT n3 n6 q7) fun r8 f5a w1 E0a=>?_
 refine sb (Fq rfl) fun z1a hz1a=>?_
 refine nrm ?_
 obtain rfl:z1a=decide (¬(r8=true)):=bz hz1a
 rcases AF f5a with ⟨r2a,h3a,f6a⟩ | ⟨r2a,h3a,rfl⟩
 ·refine scO (Ad IT (by rfl)) (EL (decide (¬(r8=true))) 1 w1 (tbx E0a hT)  (.ok r2a) h3a) ?_
  rintro _ w2 E4a rfl
  refine nrm ?_
  have X7a:=xtr E0a E4a
  refine AK ?_
  obtain rfl:=sj f6a
  exact Ng rfl Res.nil (DC X7a rfl)
 ·refine scP (Ad IT (by rfl)) (EL (decide (¬(r8=true))) 1 w1 (tbx E0a hT)  (.error r2a) h3a) fun w2 E4a=>?_
  have X8a:=xtr E0a E4a
  exact ⟨rfl,BK X8a⟩
theorem Nd (x0:Nat) (x1:Nat) (A1:Option Addr) (c2:Nat) (A4:Option Addr) (c5:Nat) (w:World) (hT:TB w) (n3:RU w A1 c2 x0) (n6:RU w A4 c5 x1) (r:Except Int (Nat)) (hr:Lj x0 x1=some r) :
  Calls Tryz.prog 250 #[.slice A1 (sz x0) c2,.slice A4 (sz x1) c5] w (RetE 258 KO w r):=by
 unfold Lj at hr
 go_enter Tryz.func250,Tryz.ntmps250
 refine wp_seq_k fun _ h7=>Af<|sV (Ab rfl) ?_
 refine wh h7<|wp_seq_k fun _ h8=>Af<|sV2 (Aa rfl) (Aa rfl) ?_
 refine scr hr (Ad Pv (by rfl)) (IA x0 x1 A1 c2 A4 c5 w hT n3 n6) fun r9 f6a w1 E0a=>?_
 refine sb (FP rfl rfl) fun z2a hz2a=>?_
 refine nrm ?_
 obtain rfl:z2a=decide (0≤r9):=bz hz2a
 rcases AF f6a with ⟨r3a,h4a,f7a⟩ | ⟨r3a,h4a,rfl⟩
 ·refine scO (Ad IT (by rfl)) (EL (decide (0≤r9)) 3 w1 (tbx E0a hT)  (.ok r3a) h4a) ?_
  rintro _ w2 E5a rfl
  refine nrm ?_
  have X1a:=xtr E0a E5a
  refine wh h8<|wp_seq_k fun _ h8a=>Af<|sV2 (Aa rfl) (Aa rfl) ?_
  refine scn f7a (Ad en_252 (by rfl)) (JN x0 x1 A1 c2 A4 c5 w2 (tbx X1a hT) (n3.ext X1a) (n6.ext X1a)) fun r6b f9a w3 A0b c1b E2b n3b=>?_
  have X4b:=xtr X1a E2b
  refine sV (Ab rfl) ?_
  refine wh h8a<|wp_ret ?_
  exact CV f9a rfl (Res.tmp rfl Res.nil) (DC X4b ⟨A0b,c1b,rfl,n3b⟩)
 ·refine scP (Ad IT (by rfl)) (EL (decide (0≤r9)) 3 w1 (tbx E0a hT)  (.error r3a) h4a) fun w2 E5a=>?_
  have X5b:=xtr E0a E5a
  exact ⟨rfl,BK X5b⟩
theorem c_nat_multiplied__nat_Sub_1__nil (x0:Nat) (x1:Nat) (A1:Option Addr) (c2:Nat) (A4:Option Addr) (c5:Nat) (w:World) (hT:TB w) (n3:RU w A1 c2 x0) (n6:RU w A4 c5 x1) (r:Nat × Int) (hr:EI x0 x1=some r) :
  Calls Tryz.prog 242 #[.slice A1 (sz x0) c2,.slice A4 (sz x1) c5,.agg #[.func (.func 250) #[] #[],.nilFunc]] w (Ret IJ w r):=by
 unfold EI at hr
 obtain ⟨q0,hq0,hr0⟩:=Ac hr
 unfold Gn at hq0
 go_enter_defers Tryz.func242,Tryz.ntmps242
 refine wp_seq_k fun _ h7=>Af<|Bm rfl rfl fun b8 w1 E9 g1e q2c=>?_
 refine nrm ?_
 refine sV (Ab rfl) ?_
 refine Ax Jk fun b3c w2 E3b g4c q5c=>?_
 refine nrm ?_
 have g6c:=nlt E9.size g4c
 have X4b:=xtr E9 E3b
 refine wh h7<|wp_seq_k fun _ h7c=>Af<|Hw (vs:=[.pointer (some ⟨b3c,0,none⟩)]) (by rfl) (by rfl)<|wh h7c<|wp_seq_k fun _ h8c=>Af<|sV2 (Aa rfl) (Aa rfl) ?_
 refine CI (vals:=[(0,.slice A1 (sz x0) c2),(1,.slice A4 (sz x1) c5)]) (cs:=[.slice A1 (sz x0) c2,.slice A4 (sz x1) c5]) Kx Mv OR (by rfl) (by decide) (by kernel_rfl) fun b5b w3 E4a g9c q6b=>?_
 refine nrm ?_
 have g2e:=nlt X4b.size g9c
 have X0a:=xtr X4b E4a
 rcases AF hq0 with ⟨r5a,h6a,f0d⟩ | ⟨r5a,h6a,rfl⟩
 ·refine scO (Ad Kv (by rfl)) (GY x0 x1 b5b A1 c2 A4 c5 w3 (tbx X0a hT) (n3.ext X0a) (n6.ext X0a) q6b (.ok r5a) h6a) ?_
  rintro _ w4 E3a rfl
  refine nrm ?_
  have X1a:=xtr X0a E3a
  refine wh h8c<|wp_seq_k fun _ h1d=>Af<|sV (Ah (o':=0) Np rfl rfl) ?_
  have q2d:=((q2c.ext E3b).ext E4a).ext E3a
  refine sV3 (Ai Pm rfl (Bx.cell q2d rfl)) (Aa rfl) (Aa rfl) ?_
  rcases AF f0d with ⟨r2a,h7a,f3d⟩ | ⟨r2a,h7a,rfl⟩
  ·refine scO (Ee (first:=[]) (cap:=[]) (args:=[.slice A1 (sz x0) c2,.slice A4 (sz x1) c5]) QL (by rfl) (by rfl)) (Nd x0 x1 A1 c2 A4 c5 w4 (tbx X1a hT) (n3.ext X1a) (n6.ext X1a) (.ok r2a) h7a) ?_
   rintro _ w5 E8a ⟨A7b,c8b,rfl,n9b⟩
   refine nrm ?_
   have X9a:=xtr X1a E8a
   rcases AF f3d with ⟨r0b,h1b,f4d⟩ | ⟨r0b,h1b,rfl⟩
   ·refine scO (Ad Kt (by rfl)) (FQ r2a A7b c8b w5 (tbx X9a hT) n9b (.ok r0b) h1b) ?_
    rintro _ w6 E2b ⟨A5d,c6d,rfl,n7d⟩
    refine nrm ?_
    have X8d:=xtr X9a E2b
    refine sV (Ab rfl) ?_
    have q0c:=(((q5c.ext E4a).ext E3a).ext E8a).ext E2b
    refine ss GW q0c fun w7 U1c q9d=>?_
    have X0e:=belU X8d U1c g6c
    refine wh h1d<|wp_ret ?_
    obtain rfl:=sj f4d
    obtain rfl:=sj hr0
    exact Nv Gr MK rfl (Res.tmp rfl (Res.cell1 rfl BW (Bx.cell q9d rfl) Res.nil)) (Av X0e ⟨A5d,c6d,rfl,(n7d.upd U1c q0c (by decide))⟩)
   ·refine scP (Ad Kt (by rfl)) (FQ r2a A7b c8b w5 (tbx X9a hT) n9b (.error r0b) h1b) fun w6 E2b=>?_
    cases hr0
  ·refine scP (Ee (first:=[]) (cap:=[]) (args:=[.slice A1 (sz x0) c2,.slice A4 (sz x1) c5]) QL (by rfl) (by rfl)) (Nd x0 x1 A1 c2 A4 c5 w4 (tbx X1a hT) (n3.ext X1a) (n6.ext X1a) (.error r2a) h7a) fun w5 E8a=>?_
   cases hr0
 ·refine scP (Ad Kv (by rfl)) (GY x0 x1 b5b A1 c2 A4 c5 w3 (tbx X0a hT) (n3.ext X0a) (n6.ext X0a) q6b (.error r5a) h6a) fun w4 E3a=>?_
  cases hr0
theorem c_nat_Sub (x0:Nat) (x1:Nat) (A1:Option Addr) (c2:Nat) (A4:Option Addr) (c5:Nat) (w:World) (hT:TB w) (n3:RU w A1 c2 x0) (n6:RU w A4 c5 x1) (r:Nat × Int) (hr:MV x0 x1=some r) :
  Calls Tryz.prog 220 #[.slice A1 (sz x0) c2,.slice A4 (sz x1) c5] w (Ret IJ w r):=by
 unfold MV at hr
 go_enter Tryz.func220,Tryz.ntmps220
 refine wp_seq_k fun _ h7=>Af<|sV2 (Ab rfl) (Ab rfl) ?_
 refine wh h7<|wp_seq_k fun _ h8=>Af<|sV3 (Aa rfl) (Aa rfl) (Bb (vals:=[(0,.func (.func 250) #[] #[])]) (cells:=[.func (.func 250) #[] #[],.nilFunc]) (by rfl) (by kernel_rfl)) ?_
 refine scn hr (Ad Pn (by rfl)) (c_nat_multiplied__nat_Sub_1__nil x0 x1 A1 c2 A4 c5 w hT n3 n6) fun r9 f0a w1 A1a c2a E3a n4a=>?_
 refine sV3 (Aj rfl rfl) (Aj rfl rfl) (Ab rfl) ?_
 refine sV (Ab rfl) ?_
 refine wh h8<|wp_ret ?_
 exact CV f0a rfl (Res.tmp rfl (Res.tmp rfl Res.nil)) (Av E3a ⟨A1a,c2a,rfl,n4a⟩)
theorem c_nat_multiplied__nat_limbs_add__nil (x0:Nat) (x1:Nat) (A1:Option Addr) (c2:Nat) (A4:Option Addr) (c5:Nat) (w:World) (hT:TB w) (n3:RU w A1 c2 x0) (n6:RU w A4 c5 x1) (r:Nat × Int) (hr:DL x0 x1=some r) :
  Calls Tryz.prog 242 #[.slice A1 (sz x0) c2,.slice A4 (sz x1) c5,.agg #[.func (.func 253) #[] #[],.nilFunc]] w (Ret IJ w r):=by
 unfold DL at hr
 obtain ⟨q0,hq0,hr0⟩:=Ac hr
 unfold FF at hq0
 go_enter_defers Tryz.func242,Tryz.ntmps242
 refine wp_seq_k fun _ h7=>Af<|Bm rfl rfl fun b8 w1 E9 g0e q1c=>?_
 refine nrm ?_
 refine sV (Ab rfl) ?_
 refine Ax Jk fun b2c w2 E0b g3c q4c=>?_
 refine nrm ?_
 have g5c:=nlt E9.size g3c
 have X1b:=xtr E9 E0b
 refine wh h7<|wp_seq_k fun _ h6c=>Af<|Hw (vs:=[.pointer (some ⟨b2c,0,none⟩)]) (by rfl) (by rfl)<|wh h6c<|wp_seq_k fun _ h7c=>Af<|sV2 (Aa rfl) (Aa rfl) ?_
 refine CI (vals:=[(0,.slice A1 (sz x0) c2),(1,.slice A4 (sz x1) c5)]) (cs:=[.slice A1 (sz x0) c2,.slice A4 (sz x1) c5]) Kx Mv OR (by rfl) (by decide) (by kernel_rfl) fun b2b w3 E3a g8c q3b=>?_
 refine nrm ?_
 have g1e:=nlt X1b.size g8c
 have X0a:=xtr X1b E3a
 rcases AF hq0 with ⟨r4a,h5a,f9c⟩ | ⟨r4a,h5a,rfl⟩
 ·refine scO (Ad Kv (by rfl)) (GY x0 x1 b2b A1 c2 A4 c5 w3 (tbx X0a hT) (n3.ext X0a) (n6.ext X0a) q3b (.ok r4a) h5a) ?_
  rintro _ w4 E1a rfl
  refine nrm ?_
  have X2a:=xtr X0a E1a
  refine wh h7c<|wp_seq_k fun _ h0d=>Af<|sV (Ah (o':=0) Np rfl rfl) ?_
  have q1d:=((q1c.ext E0b).ext E3a).ext E1a
  refine sV3 (Ai Pm rfl (Bx.cell q1d rfl)) (Aa rfl) (Aa rfl) ?_
  refine scn f9c (Ee (first:=[]) (cap:=[]) (args:=[.slice A1 (sz x0) c2,.slice A4 (sz x1) c5]) en_253 (by rfl) (by rfl)) (JP x0 x1 A1 c2 A4 c5 w4 (tbx X2a hT) (n3.ext X2a) (n6.ext X2a)) fun r4b f2d w5 A5b c6b E7b n8b=>?_
  have X6a:=xtr X2a E7b
  rcases AF f2d with ⟨r7a,h8a,f3d⟩ | ⟨r7a,h8a,rfl⟩
  ·refine scO (Ad Kt (by rfl)) (FQ r4b A5b c6b w5 (tbx X6a hT) n8b (.ok r7a) h8a) ?_
   rintro _ w6 E9a ⟨A4d,c5d,rfl,n6d⟩
   refine nrm ?_
   have X7d:=xtr X6a E9a
   refine sV (Ab rfl) ?_
   have q9b:=(((q4c.ext E3a).ext E1a).ext E7b).ext E9a
   refine ss GW q9b fun w7 U0c q8d=>?_
   have X9d:=belU X7d U0c g5c
   refine wh h0d<|wp_ret ?_
   obtain rfl:=sj f3d
   obtain rfl:=sj hr0
   exact Nv Gr MK rfl (Res.tmp rfl (Res.cell1 rfl BW (Bx.cell q8d rfl) Res.nil)) (Av X9d ⟨A4d,c5d,rfl,(n6d.upd U0c q9b (by decide))⟩)
  ·refine scP (Ad Kt (by rfl)) (FQ r4b A5b c6b w5 (tbx X6a hT) n8b (.error r7a) h8a) fun w6 E9a=>?_
   cases hr0
 ·refine scP (Ad Kv (by rfl)) (GY x0 x1 b2b A1 c2 A4 c5 w3 (tbx X0a hT) (n3.ext X0a) (n6.ext X0a) q3b (.error r4a) h5a) fun w4 E1a=>?_
  cases hr0
theorem c_nat_Add (x0:Nat) (x1:Nat) (A1:Option Addr) (c2:Nat) (A4:Option Addr) (c5:Nat) (w:World) (hT:TB w) (n3:RU w A1 c2 x0) (n6:RU w A4 c5 x1) (r:Nat × Int) (hr:MS x0 x1=some r) :
  Calls Tryz.prog 221 #[.slice A1 (sz x0) c2,.slice A4 (sz x1) c5] w (Ret IJ w r):=by
 unfold MS at hr
 go_enter Tryz.func221,Tryz.ntmps221
 refine wp_seq_k fun _ h7=>Af<|sV2 (Ab rfl) (Ab rfl) ?_
 refine wh h7<|wp_seq_k fun _ h8=>Af<|sV3 (Aa rfl) (Aa rfl) (Bb (vals:=[(0,.func (.func 253) #[] #[])]) (cells:=[.func (.func 253) #[] #[],.nilFunc]) (by rfl) (by kernel_rfl)) ?_
 refine scn hr (Ad Pn (by rfl)) (c_nat_multiplied__nat_limbs_add__nil x0 x1 A1 c2 A4 c5 w hT n3 n6) fun r9 f0a w1 A1a c2a E3a n4a=>?_
 refine sV3 (Aj rfl rfl) (Aj rfl rfl) (Ab rfl) ?_
 refine sV (Ab rfl) ?_
 refine wh h8<|wp_ret ?_
 exact CV f0a rfl (Res.tmp rfl (Res.tmp rfl Res.nil)) (Av E3a ⟨A1a,c2a,rfl,n4a⟩)
theorem Kb (x0:Bool) (x1:Nat) (A1:Option Addr) (c2:Nat) (w:World) (hT:TB w) (n3:RU w A1 c2 x1) (r:Ae) (hr:Gc x0 x1=some r) :
  Calls Tryz.prog 217 #[.bool x0,.slice A1 (sz x1) c2] w (Ret Mm w r):=by
 unfold Gc at hr
 go_enter Tryz.func217,Tryz.ntmps217
 refine wp_seq_k fun _ h4=>Af<|Ax Lz fun b5 w1 E6 g7 q8=>?_
 refine nrm ?_
 refine wh h4<|wp_seq_k fun _ h9=>Af<|sV2 (Aa rfl) (Aa rfl) ?_
 obtain ⟨m1a,h7a,f8a⟩:=Ac hr
 refine BH 6 (fun l l' w'=>∃(t3a:Value) (t4a:Value) (t5a:Value),w1=w'∧l'=((((l.set 7 t3a).set 8 t4a).set 9 t5a).set 10 (.bool m1a))) ?_ ?_
 ·intro HJ23
  rcases zb h7a with ⟨e0a,f9a⟩ | ⟨e0a,f0b⟩
  ·refine sV (Aa rfl) ?_ (hw:=wgT rfl e0a)
   refine sV (AG Dn rfl) ?_ (hw:=wgT rfl e0a)
   refine sb (Gm rfl rfl) ?_ (hw:=wgT rfl e0a)
   intro z2a hz2a
   refine nrm ?_
   refine sV (AA (evb rfl e0a) rfl) ?_
   obtain rfl:z2a=decide (0<(sz x1:Int)):=bz hz2a
   obtain rfl:=sj f9a
   exact HJ23 _ _ ⟨(.slice A1 (sz x1) c2),(.int .i64 (sz x1:Int)),(.bool (decide (0<(sz x1:Int)))),rfl,(by kernel_rfl)⟩
  ·refine sQ rfl e0a ?_
   refine sQ rfl e0a ?_
   refine sQ rfl e0a ?_
   refine sV (AC (evb rfl e0a) rfl) ?_
   obtain rfl:=sj f0b
   exact HJ23 _ _ ⟨uu,uu,uu,rfl,(by kernel_rfl)⟩
 ·rintro l' _ ⟨t3a,t4a,t5a,rfl,hq'⟩ l'' hl
  rw [hq'] at hl
  clear hq'
  simp only [S0,S1] at hl
  subst hl
  refine sV2 (Aa rfl) (Bb (vals:=[(0,.bool m1a),(1,.slice A1 (sz x1) c2)]) (cells:=[.bool m1a,.slice A1 (sz x1) c2]) (by rfl) (by kernel_rfl)) ?_
  refine ss Kd q8 fun w2 U1b q2b=>?_
  have F6a:=belU E6 U1b g7
  refine wh h9<|wp_ret ?_
  exact CV f8a rfl (Res.cellN rfl GS q2b rfl rfl Res.nil) (Av F6a ⟨A1,c2,rfl,(n3.ext F6a)⟩)
theorem Lp (x0:Ae) (A1:Option Addr) (c2:Nat) (w:World) (hT:TB w) (n3:RU w A1 c2 x0.Abs) (r:Ae) (hr:HK x0=some r) :
  Calls Tryz.prog 216 #[.agg #[.bool x0.Neg,.slice A1 (sz x0.Abs) c2]] w (Ret Mm w r):=by
 unfold HK at hr
 go_enter Tryz.func216,Tryz.ntmps216
 refine wp_seq_k fun _ h4=>Af<|Bm rfl rfl fun b5 w1 E6 g7 q8=>?_
 refine nrm ?_
 refine Ax Lz fun b9 w2 E2a g0b q7a=>?_
 refine nrm ?_
 have g1b:=nlt E6.size g0b
 have X2b:=xtr E6 E2a
 refine wh h4<|wp_seq_k fun _ h3b=>DK [6] 7 mo rfl fun w3 E0a S3a=>have X4a:=xtr X2b E0a;dA 0 rfl (fun _=>Ah (o':=0) IP rfl rfl) ?_
 refine dV 1 rfl (fun _ hw=>Ai HZ rfl (Bx.cell (((q8.ext E2a).ext E0a).ext hw) rfl)) S3a ?_
 refine dA 2 rfl (fun _=>Ah (o':=1) Eb rfl rfl) ?_
 refine dV 3 rfl (fun _ hw=>Ai Gf rfl (Bx.cell (((q8.ext E2a).ext E0a).ext hw) rfl)) S3a ?_
 refine dcn hr 4 rfl (by rfl) (Ad Pj (by rfl)) (Hc x0.Abs A1 c2 w3 (tbx X4a hT) (n3.ext X4a)) fun r8a f4b w4 A5a c6a E1a n5b=>?_
 have X6b:=xtr X4a E1a
 have S0c:=S3a.trans E1a
 refine dA 5 rfl (fun _=>Bb (vals:=[(0,.bool x0.Neg),(1,.slice A5a (sz r8a) c6a)]) (cells:=[.bool x0.Neg,.slice A5a (sz r8a) c6a]) (by rfl) (by kernel_rfl)) ?_
 refine dkk 6 Kd ((q7a.ext E0a).ext E1a) fun w5 U9a q7b=>?_
 have X8b:=belU X6b U9a g1b
 refine CE (by kernel_rfl) ?_
 refine h3b _ _<|wp_ret ?_
 have n9b:=n5b.upd U9a ((q7a.ext E0a).ext E1a) (by decide)
 exact CV f4b rfl (Res.cellN rfl GS q7b rfl rfl Res.nil) (Av X8b ⟨A5a,c6a,rfl,n9b⟩)
theorem Iy (x0:Int) (x1:Ae) (bp0:Nat) (bp1:Nat) (A2:Option Addr) (c3:Nat) (w:World) (hT:TB w) (q1:Bx w bp0 3 [.int .i64 x0]) (n4:RU w A2 c3 x1.Abs) (q5:Bx w bp1 25 [.bool x1.Neg,.slice A2 (sz x1.Abs) c3]) (r:Except Int (Ae)) (hr:Fe x0 x1=some r) :
  Calls Tryz.prog 215 #[.pointer (some ⟨bp0,0,none⟩),.pointer (some ⟨bp1,0,none⟩)] w (RetE 274 Mm w r):=by
 unfold Fe at hr
 go_enter Tryz.func215,Tryz.ntmps215
 refine wp_seq_k fun _ h6=>Af<|Ax Lz fun b7 w1 E8 g9 q0a=>?_
 refine nrm ?_
 refine wh h6<|wp_seq_k fun _ h6d=>wp_seq_k fun _ h7d=>Af<|sV (Ai FM rfl (Bx.cell (q1.ext E8) rfl)) ?_
 refine sb (FP rfl rfl) fun z8d hz8d=>?_
 refine nrm ?_
 refine wh h7d ?_
 rcases zi hz8d hr with ⟨e3c,_,f9h⟩ | ⟨e3c,_,f0i⟩
 ·refine wp_cond_true (Ak (evb rfl e3c))<|wp_seq_k fun _ h1i=>DK [11] 12 mo rfl fun w2 E1a S3a=>have X4c:=xtr E8 E1a;dA 0 rfl (fun _=>Ah (o':=0) IP rfl rfl) ?_
  refine dV 1 rfl (fun _ hw=>Ai HZ rfl (Bx.cell (((q5.ext E8).ext E1a).ext hw) rfl)) S3a ?_
  refine dA 2 rfl (fun _=>Ah (o':=1) Eb rfl rfl) ?_
  refine dV 3 rfl (fun _ hw=>Ai Gf rfl (Bx.cell (((q5.ext E8).ext E1a).ext hw) rfl)) S3a ?_
  refine dV 4 rfl (fun _ hw=>Ai FM rfl (Bx.cell (((q1.ext E8).ext E1a).ext hw) rfl)) S3a ?_
  refine dcn f9h 5 rfl (by rfl) (Ad QV (by rfl)) (NS x1.Abs x0 A2 c3 w2 (tbx X4c hT) (n4.ext X4c)) fun r4a f2i w3 A9d c0e E5c n1e=>?_
  have X5a:=xtr X4c E5c
  have S3i:=S3a.trans E5c
  refine dA 6 rfl (fun _=>Aj rfl rfl) ?_
  refine dA 7 rfl (fun _=>Aj rfl rfl) ?_
  rcases AF f2i with ⟨r6a,h6c,f4i⟩ | ⟨r6a,h6c,rfl⟩
  ·refine dcO 8 rfl (by kernel_rfl) (by rfl) (Ad Kw (by rfl)) (Fh r4a.1 r4a.2 A9d c0e w3 (tbx X5a hT) n1e (.ok r6a) h6c) ?_
   rintro _ w4 E2a ⟨A5i,c6i,rfl,n7i⟩
   refine dnrm ?_
   have X2e:=xtr X5a E2a
   have S8i:=S3i.trans E2a
   refine dcn f4i 9 rfl (by rfl) (Ad Po (by rfl)) (Kb x1.Neg r6a A5i c6i w4 (tbx X2e hT) n7i) fun r9i f0j w5 A1j c2j E7c n3j=>?_
   have X3e:=xtr X2e E7c
   have S4j:=S8i.trans E7c
   refine dcn f0j 10 rfl (by rfl) (Ad Pz (by rfl)) (Lp r9i A1j c2j w5 (tbx X3e hT) n3j) fun r7q f5j w6 A6j c7j E8c n8j=>?_
   have X9j:=xtr X3e E8c
   have S8q:=S4j.trans E8c
   have q4e:=((((q0a.ext E1a).ext E5c).ext E2a).ext E7c).ext E8c
   refine dkk 11 Kd q4e fun w7 U5e q0k=>?_
   have X1k:=belU X9j U5e g9
   refine CE (by kernel_rfl) ?_
   refine h1i _ _<|wp_ret ?_
   exact CV f5j rfl (Res.cellN rfl GS q0k rfl rfl Res.nil) (DC X1k ⟨A6j,c7j,rfl,(n8j.upd U5e q4e (by decide))⟩)
  ·refine dcP 8 rfl (by kernel_rfl) (by rfl) (Ad Kw (by rfl)) (Fh r4a.1 r4a.2 A9d c0e w3 (tbx X5a hT) n1e (.error r6a) h6c) fun w4 E2a=>?_
   have X2k:=xtr X5a E2a
   exact ⟨rfl,BK X2k⟩
 ·refine wp_cond_false (Ak (evb rfl e3c))<|wp_skip<|h6d _ _<|wp_seq_k fun _ h3k=>Af<|sV3 (Ai FM rfl (Bx.cell (q1.ext E8) rfl)) (Nt rfl rfl) (Qp (c:=wi64 (-(max x0 (-33792)))) rfl rfl) ?_
  refine sV (Ab rfl) ?_
  refine wh h3k<|wp_seq_k fun _ h4k=>wp_seq_k fun _ h5k=>Af<|sV2 (Ah (o':=0) IP rfl rfl) (Ai HZ rfl (Bx.cell (q5.ext E8) rfl)) ?_
  refine sb (Fq rfl) fun z6e hz6e=>?_
  refine nrm ?_
  refine wh h5k ?_
  rcases zi hz6e f0i with ⟨e9c,_,f6k⟩ | ⟨e9c,_,f7k⟩
  ·refine wp_cond_true (Ak (evb rfl e9c))<|wp_seq_k fun _ h8k=>Af<|sV3 (Ah (o':=1) Eb rfl rfl) (Ai Gf rfl (Bx.cell (q5.ext E8) rfl)) (Aa rfl) ?_
   refine scn f6k (Ad RC (by rfl)) (NZ x1.Abs (wi64 (-(max x0 (-33792)))) A2 c3 w1 (tbx E8 hT) (n4.ext E8)) fun r7a f9k w2 A7e c8e E9e n0f=>?_
   have X8a:=xtr E8 E9e
   refine sV2 (Aj rfl rfl) (Aj rfl rfl) ?_
   rcases AF f9k with ⟨r9a,h0d,f0l⟩ | ⟨r9a,h0d,rfl⟩
   ·refine scO (Ad Kw (by rfl)) (Fh r7a.1 r7a.2 A7e c8e w2 (tbx X8a hT) n0f (.ok r9a) h0d) ?_
    rintro _ w3 E0b ⟨A1l,c2l,rfl,n3l⟩
    refine nrm ?_
    have X1f:=xtr X8a E0b
    refine scn f0l (Ad Po (by rfl)) (Kb false r9a A1l c2l w3 (tbx X1f hT) n3l) fun r4l f5l w4 A6l c7l E2f n8l=>?_
    have X3f:=xtr X1f E2f
    refine scn f5l (Ad Pz (by rfl)) (Lp r4l A6l c7l w4 (tbx X3f hT) n8l) fun r9q f9l w5 A0m c1m E4f n2m=>?_
    have X3m:=xtr X3f E4f
    have q5f:=(((q0a.ext E9e).ext E0b).ext E2f).ext E4f
    refine ss Kd q5f fun w6 U6f q4m=>?_
    have X5m:=belU X3m U6f g9
    refine wh h8k<|wp_ret ?_
    exact CV f9l rfl (Res.cellN rfl GS q4m rfl rfl Res.nil) (DC X5m ⟨A0m,c1m,rfl,(n2m.upd U6f q5f (by decide))⟩)
   ·refine scP (Ad Kw (by rfl)) (Fh r7a.1 r7a.2 A7e c8e w2 (tbx X8a hT) n0f (.error r9a) h0d) fun w3 E0b=>?_
    have X6m:=xtr X8a E0b
    exact ⟨rfl,BK X6m⟩
  ·refine wp_cond_false (Ak (evb rfl e9c))<|wp_skip<|h4k _ _<|wp_seq_k fun _ h7m=>Af<|sV2 (Ah (o':=1) Eb rfl rfl) (Ai Gf rfl (Bx.cell (q5.ext E8) rfl)) ?_
   refine CI (vals:=[(0,.int .u32 1)]) (cs:=[.int .u32 1]) Dn Au HM (by rfl) (by decide) (by kernel_rfl) fun b8m w2 E7f g9m q0n=>?_
   refine nrm ?_
   have g0r:=nlt E8.size g9m
   have X1d:=xtr E8 E7f
   have n1n:=RL.lit1 q0n (by decide)
   refine scn f7k (Ad en_220 (by rfl)) (c_nat_Sub x1.Abs 1 A2 c3 (some ⟨b8m,0,none⟩) 1 w2 (tbx X1d hT) (n4.ext X1d) n1n) fun r1b f2n w3 A8f c9f E0g n1g=>?_
   have X2b:=xtr X1d E0g
   refine sV2 (Aj rfl rfl) (Aj rfl rfl) ?_
   rcases AF f2n with ⟨r3b,h2d,f3n⟩ | ⟨r3b,h2d,rfl⟩
   ·refine scO (Ad Kw (by rfl)) (Fh r1b.1 r1b.2 A8f c9f w3 (tbx X2b hT) n1g (.ok r3b) h2d) ?_
    rintro _ w4 E4b ⟨A4n,c5n,rfl,n6n⟩
    refine nrm ?_
    have X2g:=xtr X2b E4b
    refine sV (Aa rfl) ?_
    refine scn f3n (Ad RC (by rfl)) (NZ r3b (wi64 (-(max x0 (-33792)))) A4n c5n w4 (tbx X2g hT) n6n) fun r5b f7n w5 A3g c4g E5g n6g=>?_
    have X6b:=xtr X2g E5g
    refine sV2 (Aj rfl rfl) (Aj rfl rfl) ?_
    rcases AF f7n with ⟨r7b,h3d,f8n⟩ | ⟨r7b,h3d,rfl⟩
    ·refine scO (Ad Kw (by rfl)) (Fh r5b.1 r5b.2 A3g c4g w5 (tbx X6b hT) n6g (.ok r7b) h3d) ?_
     rintro _ w6 E8b ⟨A9n,c0o,rfl,n1o⟩
     refine nrm ?_
     have X7g:=xtr X6b E8b
     refine sV (Ab rfl) ?_
     refine wh h7m<|wp_seq_k fun _ h2o=>Af<|sV (Aa rfl) ?_
     refine CI (vals:=[(0,.int .u32 1)]) (cs:=[.int .u32 1]) Dn Au HM (by rfl) (by decide) (by kernel_rfl) fun b3o w7 E4d g4o q5o=>?_
     refine nrm ?_
     have g1r:=nlt X7g.size g4o
     have X8g:=xtr X7g E4d
     have n6o:=RL.lit1 q5o (by decide)
     refine scn f8n (Ad en_221 (by rfl)) (c_nat_Add r7b 1 A9n c0o (some ⟨b3o,0,none⟩) 1 w7 (tbx X8g hT) (n1o.ext E4d) n6o) fun r9b f7o w8 A9g c0h E1h n2h=>?_
     have X0c:=xtr X8g E1h
     refine sV2 (Aj rfl rfl) (Aj rfl rfl) ?_
     rcases AF f7o with ⟨r1c,h5d,f8o⟩ | ⟨r1c,h5d,rfl⟩
     ·refine scO (Ad Kw (by rfl)) (Fh r9b.1 r9b.2 A9g c0h w8 (tbx X0c hT) n2h (.ok r1c) h5d) ?_
      rintro _ w9 E2c ⟨A9o,c0p,rfl,n1p⟩
      refine nrm ?_
      have X3h:=xtr X0c E2c
      refine scn f8o (Ad Po (by rfl)) (Kb true r1c A9o c0p w9 (tbx X3h hT) n1p) fun r2p f3p w0a A4p c5p E4h n6p=>?_
      have X5h:=xtr X3h E4h
      refine scn f3p (Ad Pz (by rfl)) (Lp r2p A4p c5p w0a (tbx X5h hT) n6p) fun r2r f7p w6d A8p c9p E6h n0q=>?_
      have X1q:=xtr X5h E6h
      have q7h:=(((((((((q0a.ext E7f).ext E0g).ext E4b).ext E5g).ext E8b).ext E4d).ext E1h).ext E2c).ext E4h).ext E6h
      refine ss Kd q7h fun w7d U8h q2q=>?_
      have X3q:=belU X1q U8h g9
      refine wh h2o<|wp_ret ?_
      exact CV f7p rfl (Res.cellN rfl GS q2q rfl rfl Res.nil) (DC X3q ⟨A8p,c9p,rfl,(n0q.upd U8h q7h (by decide))⟩)
     ·refine scP (Ad Kw (by rfl)) (Fh r9b.1 r9b.2 A9g c0h w8 (tbx X0c hT) n2h (.error r1c) h5d) fun w9 E2c=>?_
      have X4q:=xtr X0c E2c
      exact ⟨rfl,BK X4q⟩
    ·refine scP (Ad Kw (by rfl)) (Fh r5b.1 r5b.2 A3g c4g w5 (tbx X6b hT) n6g (.error r7b) h3d) fun w6 E8b=>?_
     have X5q:=xtr X6b E8b
     exact ⟨rfl,BK X5q⟩
   ·refine scP (Ad Kw (by rfl)) (Fh r1b.1 r1b.2 A8f c9f w3 (tbx X2b hT) n1g (.error r3b) h2d) fun w4 E4b=>?_
    have X6q:=xtr X2b E4b
    exact ⟨rfl,BK X6q⟩
theorem c_whole_compute__whole_Shift_1__1 (x0_0:Int) (x0_1:Ae) (x1_0:Ae) (bp0_0:Nat) (bp0_1:Nat) (A2:Option Addr) (c3:Nat) (bp1:Nat) (A6:Option Addr) (c7:Nat) (w:World) (hT:TB w) (q1:Bx w bp0_0 3 [.int .i64 x0_0]) (n4:RU w A2 c3 x0_1.Abs) (q5:Bx w bp0_1 25 [.bool x0_1.Neg,.slice A2 (sz x0_1.Abs) c3]) (n8:RU w A6 c7 x1_0.Abs) (q9:Bx w bp1 25 [.bool x1_0.Neg,.slice A6 (sz x1_0.Abs) c7]) (r:Ae × Int) (hr:Dc x0_0 x0_1 x1_0=some r) :
  Calls Tryz.prog 214 #[.func (.func 215) #[] #[.pointer (some ⟨bp0_0,0,none⟩),.pointer (some ⟨bp0_1,0,none⟩)],.slice (some ⟨bp1,0,none⟩) 1 1] w (Ret NP w r):=by
 unfold Dc at hr
 obtain ⟨q0,hq0,hr0⟩:=Ac hr
 unfold Ei at hq0
 go_enter_defers Tryz.func214,Tryz.ntmps214
 refine wp_seq_k fun _ h6b=>Af<|Ax Lz fun b5d w1 E1a g7b q8b=>?_
 refine nrm ?_
 refine Ax Jk fun b9b w2 E2a g0c q3b=>?_
 refine nrm ?_
 have g1c:=nlt E1a.size g0c
 have X3a:=xtr E1a E2a
 refine wh h6b<|wp_seq_k fun _ h2c=>Af<|Hw (vs:=[.pointer (some ⟨b9b,0,none⟩)]) (by rfl) (by rfl)<|wh h2c<|wp_seq_k fun _ h3c=>Af<|sV (Aa rfl) ?_
 rcases AF hq0 with ⟨r6a,h7a,f4c⟩ | ⟨r6a,h7a,rfl⟩
 ·refine scO (Ad QC (by rfl)) (La x1_0 bp1 A6 c7 w2 (tbx X3a hT) (n8.ext X3a) ((q9.ext E1a).ext E2a) (.ok r6a) h7a) ?_
  rintro _ w3 E0a rfl
  refine nrm ?_
  have X4a:=xtr X3a E0a
  refine wh h3c<|wp_seq_k fun _ h5c=>Af<|sV (Aa rfl) ?_
  rcases AF f4c with ⟨r8a,h9a,f32⟩ | ⟨r8a,h9a,rfl⟩
  ·refine scO (Ee (first:=[]) (cap:=[.pointer (some ⟨bp0_0,0,none⟩),.pointer (some ⟨bp0_1,0,none⟩)]) (args:=[]) Rh (by rfl) (by rfl)) (Iy x0_0 x0_1 bp0_0 bp0_1 A2 c3 w3 (tbx X4a hT) (((q1.ext E1a).ext E2a).ext E0a) (n4.ext X4a) (((q5.ext E1a).ext E2a).ext E0a) (.ok r8a) h9a) ?_
   rintro _ w4 E5a ⟨A6c,c7c,rfl,n8c⟩
   refine nrm ?_
   have X9c:=xtr X4a E5a
   have q0b:=((q8b.ext E2a).ext E0a).ext E5a
   refine ss Kd q0b fun w5 U1b q0d=>?_
   have X1d:=belU X9c U1b g7b
   have ne4b:=(Bx.neT ((q3b.ext E0a).ext E5a) q0b (by decide))
   have q5b:=((q3b.ext E0a).ext E5a).upd U1b ne4b
   refine ss GW q5b fun w6 U2b q2d=>?_
   have X3d:=belU X1d U2b g1c
   refine wh h5c<|wp_ret ?_
   have n4d:=(n8c.upd U1b q0b (by decide)).upd U2b q5b (by decide)
   obtain rfl:=sj f32
   obtain rfl:=sj hr0
   exact Nv idle_whole_caught en_246 rfl (Res.cellN rfl GS (q0d.upd U2b (Ne.symm ne4b)) rfl rfl (Res.cell1 rfl BW (Bx.cell q2d rfl) Res.nil)) (Av X3d ⟨A6c,c7c,rfl,n4d⟩)
  ·refine scP (Ee (first:=[]) (cap:=[.pointer (some ⟨bp0_0,0,none⟩),.pointer (some ⟨bp0_1,0,none⟩)]) (args:=[]) Rh (by rfl) (by rfl)) (Iy x0_0 x0_1 bp0_0 bp0_1 A2 c3 w3 (tbx X4a hT) (((q1.ext E1a).ext E2a).ext E0a) (n4.ext X4a) (((q5.ext E1a).ext E2a).ext E0a) (.error r8a) h9a) fun w4 E5a=>?_
   cases hr0
 ·refine scP (Ad QC (by rfl)) (La x1_0 bp1 A6 c7 w2 (tbx X3a hT) (n8.ext X3a) ((q9.ext E1a).ext E2a) (.error r6a) h7a) fun w3 E0a=>?_
  cases hr0
theorem c_whole_Shift (x0:Ae) (x1:Int) (A1:Option Addr) (c2:Nat) (w:World) (hT:TB w) (n3:RU w A1 c2 x0.Abs) (r:Ae × Int) (hr:Hv x0 x1=some r) :
  Calls Tryz.prog 156 #[.agg #[.bool x0.Neg,.slice A1 (sz x0.Abs) c2],.int .i64 x1] w (Ret NP w r):=by
 unfold Hv at hr
 go_enter Tryz.func156,Tryz.ntmps156
 refine wp_seq_k fun _ h4=>Af<|Bm rfl rfl fun b5 w1 E6 g7 q8=>?_
 refine nrm ?_
 refine Bm rfl rfl fun b9 w2 E3a g9a q0b=>?_
 refine nrm ?_
 have g5c:=nlt E6.size g9a
 have X5a:=xtr E6 E3a
 refine Ax Lz fun b6c w3 E1a g1b q6a=>?_
 refine nrm ?_
 have g2b:=nlt X5a.size g1b
 have X7a:=xtr X5a E1a
 refine sV (Ab rfl) ?_
 refine wh h4<|wp_seq_k fun _ h3b=>Af<|sV2 (Mi (vs:=[.pointer (some ⟨b9,0,none⟩),.pointer (some ⟨b5,0,none⟩)]) rfl) (Am GS rfl ((q8.ext E3a).ext E1a) rfl) ?_
 refine CI (vals:=[(0,.agg #[.bool x0.Neg,.slice A1 (sz x0.Abs) c2])]) (cs:=[.bool x0.Neg,.slice A1 (sz x0.Abs) c2]) PI Kd Lz (by rfl) (by decide) (by kernel_rfl) fun b4b w4 E0a g5b q6b=>?_
 refine nrm ?_
 have g7c:=nlt X7a.size g5b
 have X2a:=xtr X7a E0a
 refine scn hr (Ad en_214 (by rfl)) (c_whole_compute__whole_Shift_1__1 x1 x0 x0 b9 b5 A1 c2 b4b A1 c2 w4 (tbx X2a hT) ((q0b.ext E1a).ext E0a) (n3.ext X2a) (((q8.ext E3a).ext E1a).ext E0a) (n3.ext X2a) q6b) fun r8c f7b w5 A8b c9b E4a n0c=>?_
 have X1c:=xtr X2a E4a
 refine sV2 (Aj rfl rfl) (Aj rfl rfl) ?_
 refine ss Kd ((q6a.ext E0a).ext E4a) fun w6 U8a q2c=>?_
 have X3c:=belU X1c U8a g2b
 refine sV (Ab rfl) ?_
 refine wh h3b<|wp_ret ?_
 have n4c:=n0c.upd U8a ((q6a.ext E0a).ext E4a) (by decide)
 exact CV f7b rfl (Res.cellN rfl GS q2c rfl rfl (Res.tmp rfl Res.nil)) (Av X3c ⟨A8b,c9b,rfl,n4c⟩)
theorem c_dyad_ToRat (x0:Aq) (A1:Option Addr) (c2:Nat) (w:World) (hT:TB w) (n3:RLu w A1 c2 x0.Man.Abs) (r:Dt × Int) (hr:IR x0=some r) :
  Calls Tryz.prog 63 #[.agg #[.bool x0.Man.Neg,.slice A1 x0.Man.Abs.length c2,.int .i64 x0.Exp]] w (Ret rep_65_33 w r):=by
 unfold IR at hr
 obtain ⟨q0,hq0,hr0⟩:=Ac hr
 unfold Kr at hq0
 go_enter_defers Tryz.func63,Tryz.ntmps63
 refine wp_seq_k fun _ h4=>Af<|Bm rfl rfl fun b5 w1 E6 g7 q8=>?_
 refine nrm ?_
 refine Ax QG fun b9 w2 E9b g0e q8a=>?_
 refine nrm ?_
 have g5b:=nlt E6.size g0e
 have X1e:=xtr E6 E9b
 refine Ax Jk fun b7c w3 E5a g4h q9a=>?_
 refine nrm ?_
 have g0c:=nlt X1e.size g4h
 have X7f:=xtr X1e E5a
 refine wh h4<|wp_seq_k fun _ h5h=>Af<|Hw (vs:=[.pointer (some ⟨b9,0,none⟩),.pointer (some ⟨b7c,0,none⟩)]) (by rfl) (by rfl)<|wh h5h<|wp_seq_k fun _ h6h=>Af<|sV (Am BT rfl ((q8.ext E9b).ext E5a) rfl) ?_
 refine CI (vals:=[(0,.agg #[.bool x0.Man.Neg,.slice A1 x0.Man.Abs.length c2,.int .i64 x0.Exp])]) (cs:=[.bool x0.Man.Neg,.slice A1 x0.Man.Abs.length c2,.int .i64 x0.Exp]) KE FI Hq (by rfl) (by decide) (by kernel_rfl) fun b8f w4 E1a g7h q9f=>?_
 refine nrm ?_
 have g5o:=nlt X7f.size g7h
 have X6b:=xtr X7f E1a
 rcases AF hq0 with ⟨r8c,h2e,f8h⟩ | ⟨r8c,h2e,rfl⟩
 ·refine scO (Ad MP (by rfl)) (IB x0 b8f A1 c2 w4 (tbx X6b hT) (n3.ext X6b) q9f (.ok r8c) h2e) ?_
  rintro _ w5 E0a rfl
  refine nrm ?_
  have X1c:=xtr X6b E0a
  refine wh h6h<|wp_seq_k fun _ h9h=>wp_seq_k fun _ h0i=>Af<|sV (Ah (o':=2) Hj rfl rfl) ?_
  have q7b:=(((q8.ext E9b).ext E5a).ext E1a).ext E0a
  refine sV (Ai FM rfl (Bx.cell q7b rfl)) ?_
  refine sb (FP rfl rfl) fun z0g hz0g=>?_
  refine nrm ?_
  refine wh h0i ?_
  rcases zi hz0g f8h with ⟨e3e,_,f1i⟩ | ⟨e3e,_,f2i⟩
  ·refine wp_cond_true (Ak (evb rfl e3e))<|wp_seq_k fun _ h3i=>Af<|sV2 (Ah (o':=0) HF rfl rfl) (dld GS q7b) ?_
   refine sV2 (Ah (o':=2) Hj rfl rfl) (Ai FM rfl (Bx.cell q7b rfl)) ?_
   obtain ⟨m1g,h4i,f5i⟩:=Ac f1i
   have hx2g:=AU h4i
   have n6i:RU w5 A1 c2 m1g:=by unfold RU;rw [hx2g];exact (n3.ext X1c)
   refine scn f5i (Ad en_156 (by simp only [sz,hx2g];rfl)) (c_whole_Shift (⟨x0.Man.Neg,m1g⟩:Ae) x0.Exp A1 c2 w5 (tbx X1c hT) n6i) fun r0b f7i w6 A8i c9i E1b n0j=>?_
   have X3g:=xtr X1c E1b
   refine sV3 (Aa rfl) (Aj rfl rfl) (Aj rfl rfl) ?_
   refine Ax Lz fun b6o w7 E1j g4g q2j=>?_
   refine nrm ?_
   have g3j:=nlt X3g.size g4g
   refine ss Kd q2j fun w8 U4j q2c=>?_
   have F6a:=belU E1j U4j g4g
   have X9c:=xtr X3g F6a
   refine sV (Ab rfl) ?_
   refine wh h3i<|wp_seq_k fun _ h5j=>Af<|sV (Aa rfl) ?_
   refine sb (CG rfl rfl) fun z4e hz4e=>?_
   refine nrm ?_
   refine sV (Aa rfl) ?_
   obtain rfl:z4e=decide (r0b.2=0):=bz hz4e
   rcases AF f7i with ⟨r0d,h5e,f6j⟩ | ⟨r0d,h5e,rfl⟩
   ·refine scO (Ad DY (by rfl)) (AZ (decide (r0b.2=0)) r0b.2 w8 (tbx X9c hT)  (.ok r0d) h5e) ?_
    rintro _ w9 E2a rfl
    refine nrm ?_
    have X5g:=xtr X9c E2a
    refine wh h5j<|wp_seq_k fun _ h7j=>Af<|sV2 (Ah (o':=1) Eb rfl rfl) (Ai Gf rfl (Bx.cell (q2c.ext E2a) rfl)) ?_
    refine scn f6j (Ad Pj (by rfl)) (Hc r0b.1.Abs A8i c9i w9 (tbx X5g hT) ((n0j.ext F6a).ext E2a)) fun r6g f8j w9b A6e c7e E4a n9j=>?_
    have X0k:=xtr X5g E4a
    refine sV (Ah (o':=1) Eb rfl rfl) ?_
    refine ss Mv ((q2c.ext E2a).ext E4a) fun w0e U3c q1k=>?_
    have X7g:=belU X0k U3c g3j
    refine wh h7j<|wp_seq_k fun _ h2k=>Af<|sV (Am GS rfl q1k rfl) ?_
    refine CI (vals:=[(0,.int .u32 1)]) (cs:=[.int .u32 1]) Dn Au HM (by rfl) (by decide) (by kernel_rfl) fun b8e w8a E4c g3k q4k=>?_
    refine nrm ?_
    have g7o:=nlt X7g.size g3k
    have X5k:=xtr X7g E4c
    have n6k:=RL.lit1 q4k (by decide)
    refine sV (Bb (vals:=[(0,.agg #[.bool r0b.1.Neg,.slice A6e (sz r6g) c7e]),(1,.slice (some ⟨b8e,0,none⟩) (sz 1) 1)]) (cells:=[.bool r0b.1.Neg,.slice A6e (sz r6g) c7e,.slice (some ⟨b8e,0,none⟩) (sz 1) 1]) (by rfl) (by kernel_rfl)) ?_
    have ne7k:=(Bx.neT (((((((q8a.ext E5a).ext E1a).ext E0a).ext E1b).ext F6a).ext E2a).ext E4a) ((q2c.ext E2a).ext E4a) (by decide))
    have q1d:=((((((((q8a.ext E5a).ext E1a).ext E0a).ext E1b).ext F6a).ext E2a).ext E4a).upd U3c ne7k).ext E4c
    refine ss Pa q1d fun w5b U2d q8k=>?_
    have X9k:=belU X5k U2d g5b
    have ne8g:=(Bx.neT ((((((q9a.ext E1a).ext E0a).ext E1b).ext F6a).ext E2a).ext E4a) ((q2c.ext E2a).ext E4a) (by decide))
    have ne9g:=(Bx.neT ((((((((q9a.ext E1a).ext E0a).ext E1b).ext F6a).ext E2a).ext E4a).upd U3c ne8g).ext E4c) q1d (by decide))
    have q9e:=((((((((q9a.ext E1a).ext E0a).ext E1b).ext F6a).ext E2a).ext E4a).upd U3c ne8g).ext E4c).upd U2d ne9g
    refine ss GW q9e fun w1e U3d q0l=>?_
    have X1l:=belU X9k U3d g0c
    refine wh h2k<|wp_ret ?_
    have n2l:=(((n9j.upd U3c ((q2c.ext E2a).ext E4a) (by decide)).ext E4c).upd U2d q1d (by decide)).upd U3d q9e (by decide)
    have n3l:=(n6k.upd U2d q1d (by decide)).upd U3d q9e (by decide)
    obtain rfl:=sj f8j
    obtain rfl:=sj hr0
    exact Mj JF Nu rfl (Res.cellN rfl Lb (q8k.upd U3d (Ne.symm ne9g)) rfl rfl (Res.cell1 rfl BW (Bx.cell q0l rfl) Res.nil)) (Av X1l ⟨A6e,c7e,(some ⟨b8e,0,none⟩),1,rfl,n2l,n3l⟩)
   ·refine scP (Ad DY (by rfl)) (AZ (decide (r0b.2=0)) r0b.2 w8 (tbx X9c hT)  (.error r0d) h5e) fun w9 E2a=>?_
    have X4l:=xtr X9c E2a
    have q5l:=(((((q8a.ext E5a).ext E1a).ext E0a).ext E1b).ext F6a).ext E2a
    have q6l:=((((q9a.ext E1a).ext E0a).ext E1b).ext F6a).ext E2a
    refine Ir Nu (Jc b9 b7c (.bool false:Value) (.slice none 0 0:Value) (.slice none 0 0:Value) (.int .i64 0:Value) r0d q5l q6l) rfl ?_
    rintro w9 ⟨u9,q9,q9'⟩
    obtain rfl:=sj hr0
    exact ⟨_,(Res.cellN rfl Lb q9 rfl rfl (Res.cell1 rfl BW (Bx.cell q9' rfl) Res.nil)),Av (u9.toExt X4l g5b g0c) ⟨none,0,none,0,rfl,RU.nil _,RU.nil _⟩⟩
  ·refine wp_cond_false (Ak (evb rfl e3e))<|wp_skip<|h9h _ _<|wp_seq_k fun _ h7l=>Af<|CI (vals:=[(0,.int .u32 1)]) (cs:=[.int .u32 1]) Dn Au HM (by rfl) (by decide) (by kernel_rfl) fun b8l w6 E7a g9l q0m=>?_
   refine nrm ?_
   have g8o:=nlt X1c.size g9l
   have X0h:=xtr X1c E7a
   have n1m:=RL.lit1 q0m (by decide)
   refine sV3 (Ah (o':=2) Hj rfl rfl) (Ai FM rfl (Bx.cell (q7b.ext E7a) rfl)) (Qp (c:=wi64 (-x0.Exp)) rfl rfl) ?_
   refine scn f2i (Ad QV (by rfl)) (NS 1 (wi64 (-x0.Exp)) (some ⟨b8l,0,none⟩) 1 w6 (tbx X0h hT) n1m) fun r3b f2m w7 A0f c1f E2b n3m=>?_
   have X4d:=xtr X0h E2b
   refine sV3 (Aa rfl) (Aj rfl rfl) (Aj rfl rfl) ?_
   refine sV2 (Ab rfl) (Ab rfl) ?_
   refine wh h7l<|wp_seq_k fun _ h4m=>Af<|sV (Aa rfl) ?_
   refine sb (CG rfl rfl) fun z2f hz2f=>?_
   refine nrm ?_
   refine sV (Aa rfl) ?_
   obtain rfl:z2f=decide (r3b.2=0):=bz hz2f
   rcases AF f2m with ⟨r5d,h3f,f5m⟩ | ⟨r5d,h3f,rfl⟩
   ·refine scO (Ad DY (by rfl)) (AZ (decide (r3b.2=0)) r3b.2 w7 (tbx X4d hT)  (.ok r5d) h3f) ?_
    rintro _ w8 E3a rfl
    refine nrm ?_
    have X6m:=xtr X4d E3a
    refine wh h4m<|wp_seq_k fun _ h7m=>DK [10,11] 12 mo rfl fun w9 E4b S4f=>?_
    have X5f:=xtr X6m E4b
    refine dA 0 rfl (fun _=>Ah (o':=0) HF rfl rfl) ?_ (hQ:=fun _ _ _ h=>dq (rs:=[.cell 2 65,.cell 3 33]) rfl (by decide) h)
    refine dA 1 rfl (fun _=>Ah (o':=0) IP rfl rfl) ?_ (hQ:=fun _ _ _ h=>dq (rs:=[.cell 2 65,.cell 3 33]) rfl (by decide) h)
    refine dV 2 rfl (fun _ hw=>Ai HZ rfl (Bx.cell (((((q7b.ext E7a).ext E2b).ext E3a).ext E4b).ext hw) rfl)) S4f ?_ (hQ:=fun _ _ _ h=>dq (rs:=[.cell 2 65,.cell 3 33]) rfl (by decide) h)
    refine dA 3 rfl (fun _=>Ah (o':=0) HF rfl rfl) ?_ (hQ:=fun _ _ _ h=>dq (rs:=[.cell 2 65,.cell 3 33]) rfl (by decide) h)
    refine dA 4 rfl (fun _=>Ah (o':=1) Eb rfl rfl) ?_ (hQ:=fun _ _ _ h=>dq (rs:=[.cell 2 65,.cell 3 33]) rfl (by decide) h)
    refine dV 5 rfl (fun _ hw=>Ai Gf rfl (Bx.cell (((((q7b.ext E7a).ext E2b).ext E3a).ext E4b).ext hw) rfl)) S4f ?_ (hQ:=fun _ _ _ h=>dq (rs:=[.cell 2 65,.cell 3 33]) rfl (by decide) h)
    refine dA 8 rfl (fun _=>Aa rfl) ?_ (hQ:=fun _ _ _ h=>dq (rs:=[.cell 2 65,.cell 3 33]) rfl (by decide) h)
    obtain ⟨m1h,h8m,f9m⟩:=Ac f5m
    have hx2h:=AU h8m
    have n0n:RU w9 A1 c2 m1h:=by unfold RU;rw [hx2h];exact (n3.ext X5f)
    refine dcn f9m 6 rfl (by rfl) (Ad Pj (by simp only [sz,hx2h];rfl)) (Hc m1h A1 c2 w9 (tbx X5f hT) n0n) fun r6d f1n w9b A5c c6c E8b n2n=>?_
    have X3n:=xtr X5f E8b
    have S9o:=S4f.trans E8b
    refine dA 7 rfl (fun _=>Bb (vals:=[(0,.bool x0.Man.Neg),(1,.slice A5c (sz r6d) c6c)]) (cells:=[.bool x0.Man.Neg,.slice A5c (sz r6d) c6c]) (by rfl) (by kernel_rfl)) ?_ (hQ:=fun _ _ _ h=>dq (rs:=[.cell 2 65,.cell 3 33]) rfl (by decide) h)
    refine dA 9 rfl (fun _=>Bb (vals:=[(0,.agg #[.bool x0.Man.Neg,.slice A5c (sz r6d) c6c]),(1,.slice A0f (sz r3b.1) c1f)]) (cells:=[.bool x0.Man.Neg,.slice A5c (sz r6d) c6c,.slice A0f (sz r3b.1) c1f]) (by rfl) (by kernel_rfl)) ?_ (hQ:=fun _ _ _ h=>dq (rs:=[.cell 2 65,.cell 3 33]) rfl (by decide) h)
    have q7d:=(((((((q8a.ext E5a).ext E1a).ext E0a).ext E7a).ext E2b).ext E3a).ext E4b).ext E8b
    refine dkk 10 Pa q7d fun w0e U8d q4n=>?_
    have X5n:=belU X3n U8d g5b
    have ne3h:=(Bx.neT (((((((q9a.ext E1a).ext E0a).ext E7a).ext E2b).ext E3a).ext E4b).ext E8b) q7d (by decide))
    have q6f:=(((((((q9a.ext E1a).ext E0a).ext E7a).ext E2b).ext E3a).ext E4b).ext E8b).upd U8d ne3h
    refine dkk 11 GW q6f fun w8a U9d q6n=>?_
    have X7n:=belU X5n U9d g0c
    refine CE (by kernel_rfl) ?_
    refine h7m _ _<|wp_ret ?_
    have n8n:=(n2n.upd U8d q7d (by decide)).upd U9d q6f (by decide)
    have n9n:=((((n3m.ext E3a).ext E4b).ext E8b).upd U8d q7d (by decide)).upd U9d q6f (by decide)
    obtain rfl:=sj f1n
    obtain rfl:=sj hr0
    exact Mj JF Nu rfl (Res.cellN rfl Lb (q4n.upd U9d (Ne.symm ne3h)) rfl rfl (Res.cell1 rfl BW (Bx.cell q6n rfl) Res.nil)) (Av X7n ⟨A5c,c6c,A0f,c1f,rfl,n8n,n9n⟩)
   ·refine scP (Ad DY (by rfl)) (AZ (decide (r3b.2=0)) r3b.2 w7 (tbx X4d hT)  (.error r5d) h3f) fun w8 E3a=>?_
    have X0o:=xtr X4d E3a
    have q1o:=(((((q8a.ext E5a).ext E1a).ext E0a).ext E7a).ext E2b).ext E3a
    have q2o:=((((q9a.ext E1a).ext E0a).ext E7a).ext E2b).ext E3a
    refine Ir Nu (Jc b9 b7c (.bool false:Value) (.slice none 0 0:Value) (.slice none 0 0:Value) (.int .i64 0:Value) r5d q1o q2o) rfl ?_
    rintro w9 ⟨u9,q9,q9'⟩
    obtain rfl:=sj hr0
    exact ⟨_,(Res.cellN rfl Lb q9 rfl rfl (Res.cell1 rfl BW (Bx.cell q9' rfl) Res.nil)),Av (u9.toExt X0o g5b g0c) ⟨none,0,none,0,rfl,RU.nil _,RU.nil _⟩⟩
 ·refine scP (Ad MP (by rfl)) (IB x0 b8f A1 c2 w4 (tbx X6b hT) (n3.ext X6b) q9f (.error r8c) h2e) fun w5 E0a=>?_
  have X3o:=xtr X6b E0a
  have q4o:=((q8a.ext E5a).ext E1a).ext E0a
  refine Ir Nu (Jc b9 b7c (.bool false:Value) (.slice none 0 0:Value) (.slice none 0 0:Value) (.int .i64 0:Value) r8c q4o ((q9a.ext E1a).ext E0a)) rfl ?_
  rintro w9 ⟨u9,q9,q9'⟩
  obtain rfl:=sj hr0
  exact ⟨_,(Res.cellN rfl Lb q9 rfl rfl (Res.cell1 rfl BW (Bx.cell q9' rfl) Res.nil)),Av (u9.toExt X3o g5b g0c) ⟨none,0,none,0,rfl,RU.nil _,RU.nil _⟩⟩
theorem c_nat_Gcd_1 (x0:Nat) (x1:Nat) (A1:Option Addr) (c2:Nat) (A4:Option Addr) (c5:Nat) (w:World) (hT:TB w) (n3:RU w A1 c2 x0) (n6:RU w A4 c5 x1) (r:Nat) (hr:JE x0 x1=some r) :
  Calls Tryz.prog 243 #[.slice A1 (sz x0) c2,.slice A4 (sz x1) c5] w (Ret KO w r):=by
 unfold JE at hr
 go_enter Tryz.func243,Tryz.ntmps243
 refine wp_seq_k fun _ h7=>Af<|sV (Ab rfl) ?_
 refine wh h7<|wp_seq_k fun _ h8=>?_
 obtain ⟨m8a,h0c,f1c⟩:=Ac hr
 refine Dm (fun l l' w'=>∃(A6a:Option Addr) (c7a:Nat),Ext w w'∧RU w' A6a c7a m8a∧Fr l' (fun t1b=>.slice A6a (sz m8a) c7a::gp t1b 1 18 [])) ?_ ?_
 ·apply wp_block
  refine BI (fun l n2b l' w'=>∃(v1a:Nat) (v0a:Nat) (A2a:Option Addr) (c3a:Nat) (A4a:Option Addr) (c5a:Nat),Ext w w'∧RU w' A2a c3a v1a∧RU w' A4a c5a v0a∧Fj x0 x1 n2b v1a v0a=some m8a∧Fr l' (fun t3b=>.slice A2a (sz v1a) c3a::.slice A4a (sz v0a) c5a::gp t3b 2 17 [])) 18446744073709551616 ?_ ?_ ?_
  ·exact ⟨x0,x1,A1,c2,A4,c5,(Ext.refl _),n3,n6,h0c,(Fr.mk (by kernel_rfl))⟩
  ·rintro l' w' ⟨v1a,v0a,A2a,c3a,A4a,c5a,_,_,_,hz,_⟩
   exact nomatch hz
  ·rintro n2b ih2c _ w1 ⟨v1a,v0a,A2a,c3a,A4a,c5a,U9a,n4b,n5b,hr6b,⟨t3b,rfl⟩⟩ l'' hl
   simp only [gp,Nat.reduceAdd] at hl
   subst hl
   unfold Fj at hr6b
   refine Bk<|wp_seq_k fun _ h3c=>wp_seq_k fun _ h4c=>Af<|sV2 (Aa rfl) (AG AQ rfl) ?_
   refine sb (Gm rfl rfl) fun z7b hz7b=>?_
   refine nrm ?_
   refine wh h4c ?_
   rcases zi hz7b hr6b with ⟨e0b,_,f5c⟩ | ⟨e0b,_,f6c⟩
   ·refine wp_cond_true (Ak (evb rfl e0b))<|wp_skip<|h3c _ _ ?_
    apply wp_block
    refine wp_seq_k fun _ h7c=>Af<|sV2 (Aa rfl) (Aa rfl) ?_
    obtain ⟨r8b,h8c,f9c⟩:=Ac f5c
    refine sc (Ad en_244 (by rfl)) (Jr v1a v0a A2a c3a A4a c5a w1 (tbx U9a hT) n4b n5b r8b h8c) ?_
    rintro _ w2 E9b ⟨A6d,c7d,A0d,c1d,rfl,n8d,n2d⟩
    refine nrm ?_
    refine sV3 (Aa rfl) (Aj rfl rfl) (Aj rfl rfl) ?_
    refine sV2 (Ab rfl) (Ab rfl) ?_
    refine wh h7c<|Af<|sV3 (Aa rfl) (Aa rfl) (Ab rfl) ?_
    refine sV (Ab rfl) ?_
    refine AK ?_
    exact ih2c _ _ ⟨v0a,r8b.2,A4a,c5a,A0d,c1d,(U9a.trans E9b),(n5b.ext E9b),n2d,f9c,(Fr.mk (by kernel_rfl))⟩
   ·refine wp_cond_false (Ak (evb rfl e0b))<|wp_exit ?_
    simp only [Exit.then,Exit.inBlock,↓reduceIte,Nat.reduceEqDiff]
    obtain rfl:=sj f6c
    exact ⟨_,rfl,A2a,c3a,U9a,n4b,(Fr.mk (by kernel_rfl))⟩
 ·rintro _ w1 ⟨A6a,c7a,U3d,n4d,⟨t1b,rfl⟩⟩ l'' hl
  simp only [gp,Nat.reduceAdd] at hl
  subst hl
  refine h8 _ _<|wp_seq_k fun _ h5d=>Af<|sV2 (Aa rfl) (Ab rfl) ?_
  refine wh h5d<|wp_ret ?_
  exact BG f1c U3d ⟨A6a,c7a,rfl,n4d⟩
theorem c_nat_multiplied__nat_Gcd_1__nil (x0:Nat) (x1:Nat) (A1:Option Addr) (c2:Nat) (A4:Option Addr) (c5:Nat) (w:World) (hT:TB w) (n3:RU w A1 c2 x0) (n6:RU w A4 c5 x1) (r:Nat × Int) (hr:Dq x0 x1=some r) :
  Calls Tryz.prog 242 #[.slice A1 (sz x0) c2,.slice A4 (sz x1) c5,.agg #[.func (.func 243) #[] #[],.nilFunc]] w (Ret IJ w r):=by
 unfold Dq at hr
 obtain ⟨q0,hq0,hr0⟩:=Ac hr
 unfold EE at hq0
 go_enter_defers Tryz.func242,Tryz.ntmps242
 refine wp_seq_k fun _ h7=>Af<|Bm rfl rfl fun b8 w1 E9 g0e q1c=>?_
 refine nrm ?_
 refine sV (Ab rfl) ?_
 refine Ax Jk fun b2c w2 E0b g3c q4c=>?_
 refine nrm ?_
 have g5c:=nlt E9.size g3c
 have X1b:=xtr E9 E0b
 refine wh h7<|wp_seq_k fun _ h6c=>Af<|Hw (vs:=[.pointer (some ⟨b2c,0,none⟩)]) (by rfl) (by rfl)<|wh h6c<|wp_seq_k fun _ h7c=>Af<|sV2 (Aa rfl) (Aa rfl) ?_
 refine CI (vals:=[(0,.slice A1 (sz x0) c2),(1,.slice A4 (sz x1) c5)]) (cs:=[.slice A1 (sz x0) c2,.slice A4 (sz x1) c5]) Kx Mv OR (by rfl) (by decide) (by kernel_rfl) fun b2b w3 E3a g8c q3b=>?_
 refine nrm ?_
 have g1e:=nlt X1b.size g8c
 have X0a:=xtr X1b E3a
 rcases AF hq0 with ⟨r4a,h5a,f9c⟩ | ⟨r4a,h5a,rfl⟩
 ·refine scO (Ad Kv (by rfl)) (GY x0 x1 b2b A1 c2 A4 c5 w3 (tbx X0a hT) (n3.ext X0a) (n6.ext X0a) q3b (.ok r4a) h5a) ?_
  rintro _ w4 E1a rfl
  refine nrm ?_
  have X2a:=xtr X0a E1a
  refine wh h7c<|wp_seq_k fun _ h0d=>Af<|sV (Ah (o':=0) Np rfl rfl) ?_
  have q1d:=((q1c.ext E0b).ext E3a).ext E1a
  refine sV3 (Ai Pm rfl (Bx.cell q1d rfl)) (Aa rfl) (Aa rfl) ?_
  refine scn f9c (Ee (first:=[]) (cap:=[]) (args:=[.slice A1 (sz x0) c2,.slice A4 (sz x1) c5]) en_243 (by rfl) (by rfl)) (c_nat_Gcd_1 x0 x1 A1 c2 A4 c5 w4 (tbx X2a hT) (n3.ext X2a) (n6.ext X2a)) fun r4b f2d w5 A5b c6b E7b n8b=>?_
  have X6a:=xtr X2a E7b
  rcases AF f2d with ⟨r7a,h8a,f3d⟩ | ⟨r7a,h8a,rfl⟩
  ·refine scO (Ad Kt (by rfl)) (FQ r4b A5b c6b w5 (tbx X6a hT) n8b (.ok r7a) h8a) ?_
   rintro _ w6 E9a ⟨A4d,c5d,rfl,n6d⟩
   refine nrm ?_
   have X7d:=xtr X6a E9a
   refine sV (Ab rfl) ?_
   have q9b:=(((q4c.ext E3a).ext E1a).ext E7b).ext E9a
   refine ss GW q9b fun w7 U0c q8d=>?_
   have X9d:=belU X7d U0c g5c
   refine wh h0d<|wp_ret ?_
   obtain rfl:=sj f3d
   obtain rfl:=sj hr0
   exact Nv Gr MK rfl (Res.tmp rfl (Res.cell1 rfl BW (Bx.cell q8d rfl) Res.nil)) (Av X9d ⟨A4d,c5d,rfl,(n6d.upd U0c q9b (by decide))⟩)
  ·refine scP (Ad Kt (by rfl)) (FQ r4b A5b c6b w5 (tbx X6a hT) n8b (.error r7a) h8a) fun w6 E9a=>?_
   cases hr0
 ·refine scP (Ad Kv (by rfl)) (GY x0 x1 b2b A1 c2 A4 c5 w3 (tbx X0a hT) (n3.ext X0a) (n6.ext X0a) q3b (.error r4a) h5a) fun w4 E1a=>?_
  cases hr0
theorem c_nat_Gcd (x0:Nat) (x1:Nat) (A1:Option Addr) (c2:Nat) (A4:Option Addr) (c5:Nat) (w:World) (hT:TB w) (n3:RU w A1 c2 x0) (n6:RU w A4 c5 x1) (r:Nat × Int) (hr:KJ x0 x1=some r) :
  Calls Tryz.prog 209 #[.slice A1 (sz x0) c2,.slice A4 (sz x1) c5] w (Ret IJ w r):=by
 unfold KJ at hr
 go_enter Tryz.func209,Tryz.ntmps209
 refine wp_seq_k fun _ h7=>Af<|sV2 (Ab rfl) (Ab rfl) ?_
 refine wh h7<|wp_seq_k fun _ h8=>Af<|sV3 (Aa rfl) (Aa rfl) (Bb (vals:=[(0,.func (.func 243) #[] #[])]) (cells:=[.func (.func 243) #[] #[],.nilFunc]) (by rfl) (by kernel_rfl)) ?_
 refine scn hr (Ad Pn (by rfl)) (c_nat_multiplied__nat_Gcd_1__nil x0 x1 A1 c2 A4 c5 w hT n3 n6) fun r9 f0a w1 A1a c2a E3a n4a=>?_
 refine sV3 (Aj rfl rfl) (Aj rfl rfl) (Ab rfl) ?_
 refine sV (Ab rfl) ?_
 refine wh h8<|wp_ret ?_
 exact CV f0a rfl (Res.tmp rfl (Res.tmp rfl Res.nil)) (Av E3a ⟨A1a,c2a,rfl,n4a⟩)
end Go.Proofs

