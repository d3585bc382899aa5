import Derived.Test.YtabiobmfelafoaaGreatDoorGen3
namespace Go.Proofs
set_option linter.unusedVariables false
set_option linter.unusedSimpArgs false
set_option maxHeartbeats 4000000
open Go.RowKit Go.Sb Go.Proofs.Sbn
theorem c_sorobanref04_Fits (x0:Ak) (A1:Option Addr) (c2:Nat) (w:World) (hT:TB w) (n3:RU w A1 c2 x0.Man.Abs) (r:Fb) (hr:Fj x0=some r) :
  Calls Tryz.prog 134 #[.agg #[.bool x0.Man.Neg,.slice A1 (sz x0.Man.Abs) c2,.int .i64 x0.Exp]] w (Ret rep_154 w r):=by
 unfold Fj at hr
 go_enter Tryz.func134,Tryz.ntmps134
 refine wp_seq_k fun K4 h4=>Af<|BH rfl rfl fun b5 w1 E6 g7 q8=>?_
 refine nrm ?_
 refine Aw Nu fun b9 w2 E3a g4b q5a=>?_
 refine nrm ?_
 have g6a:=nlt E6.size g4b
 have X4a:=xtr E6 E3a
 refine Ad<|h4 _ _<|wp_seq_k fun K7a h7a=>wp_seq_k fun K8a h8a=>Af<|sV (Am BC rfl (q8.ext E3a) rfl) ?_
 obtain ⟨r5b,h6b,f9a⟩:=Ab hr
 refine sc (Ae LA (by rfl)) (DF (⟨(⟨x0.Man.Neg,(limbs x0.Man.Abs)⟩:AK),x0.Exp⟩:Au) A1 c2 w2 (tbx X4a hT) (n3.ext X4a) r5b h6b) ?_
 rintro _ w3 E1a rfl
 refine nrm ?_
 have X0b:=xtr X4a E1a
 refine sb (Fg rfl) fun z2a hz2a=>?_
 refine nrm ?_
 refine Ad<|h8a _ _ ?_
 rcases bft z2a with e0a | e0a
 ·have p7b:=zP hz2a e0a
  have f8b:=ifP p7b f9a
  refine wp_cond_true (Aj (evb rfl e0a))<|wp_seq_k fun K1b h1b=>Af<|sV (AL (vals:=[(1,.int .i64 2)]) (cells:=[.bool false,.slice none 0 0,.int .i64 0,.int .i64 2]) (by rfl) (by kernel_rfl)) ?_
  refine Ay Mq rfl rfl (q5a.ext E1a) rfl rfl rfl rfl (by simp only [SP0,SP1,S0,S1,Nat.reduceAdd];rfl) fun w4 U9b q0c=>?_
  have X1c:=AV X0b U9b g6a
  refine Ad<|h1b _ _<|wp_ret ?_
  obtain rfl:=sj f8b
  exact fin rfl (Res.cellN rfl NV q0c rfl rfl Res.nil) (Al X1c ⟨none,0,rfl,(RU.nil _)⟩)
 ·have p2c:=zN hz2a e0a
  have f3c:=ifN p2c f9a
  refine wp_cond_false (Aj (evb rfl e0a))<|wp_skip<|h7a _ _<|wp_seq_k fun K2b h2b=>Af<|sV (Am BC rfl ((q8.ext E3a).ext E1a) rfl) ?_
  refine sV (AL (vals:=[(0,.agg #[.bool x0.Man.Neg,.slice A1 (sz x0.Man.Abs) c2,.int .i64 x0.Exp])]) (cells:=[.bool x0.Man.Neg,.slice A1 (sz x0.Man.Abs) c2,.int .i64 x0.Exp,.int .i64 0]) (by rfl) (by kernel_rfl)) ?_
  refine Ay Mq rfl rfl (q5a.ext E1a) rfl rfl rfl rfl (by simp only [SP0,SP1,S0,S1,Nat.reduceAdd];rfl) fun w4 U4c q5c=>?_
  have X3b:=AV X0b U4c g6a
  refine Ad<|h2b _ _<|wp_ret ?_
  obtain rfl:=sj f3c
  exact fin rfl (Res.cellN rfl NV q5c rfl rfl Res.nil) (Al X3b ⟨A1,c2,rfl,(n3.ext X3b)⟩)
theorem GZ (b b':Nat) (v0 v1 v2:Value) (u:Value) (n:Int) {w:World} (qa:Bx w b 65 [v0,v1,v2]) (qb:Bx w b' 33 [u]) :
  CallsD Tryz.prog 155 #[.pointer (some ⟨b,0,none⟩),.pointer (some ⟨b',0,none⟩)] (.panicking [entry 201 n]) w fun e u' w'=>e = .returned (.tuple #[])∧u' = .panicking [{ entry 201 n with recovered:=true }]∧(Upd2 b b' w w'∧Bx w' b 65 [.bool false,.slice none 0 0,.slice none 0 0]∧Bx w' b' 33 [.int .i64 n]):=by
 refine Jo Tryz.func155 rfl [.pointer (some ⟨b,0,none⟩),.pointer (some ⟨b',0,none⟩),uu,uu,uu,uu,uu,uu,uu,uu,uu,uu,uu,uu,uu,uu,uu,uu,uu,uu,uu,uu,uu,uu,uu,uu] (by simp [Tryz.ntmps155]) fun c₀ cs hu=>?_
 apply wpS_seq
 refine OS hu rfl ?_
 simp only [S0,S1]
 refine wpS_of_wp<|wp_seq_k fun K1 h1=>Af<|sV (Aa rfl) ?_
 refine sV (KR Kr rfl) ?_
 refine Ad<|h1 _ _<|wp_cond_true (Aj (evb rfl rfl))<|wp_seq_k fun K2 h2=>Af<|sV (Aa rfl) ?_
 refine sV (Kk LH rfl) ?_
 refine sV (Aa rfl) ?_
 refine sV (AB rfl rfl) ?_
 refine sV (AB rfl rfl) ?_
 refine Aw ML fun b3 w1 E4 g5 q6=>?_
 refine nrm ?_
 have X7:=(Upd2.refl b b' w).ext E4
 refine Ay Mo rfl rfl q6 rfl rfl rfl rfl (by simp only [SP0,SP1,S0,S1,Nat.reduceAdd];rfl) fun w2 U8 q9=>?_
 have X3a:=X7.upd U8 (.inl g5)
 refine sV (Ac rfl) ?_
 refine Ad<|h2 _ _<|wp_seq_k fun K4a h4a=>wp_seq_k fun K5a h5a=>Af<|sV (Aa rfl) ?_
 refine sV (MA rfl rfl rfl) ?_
 refine Ad<|h5a _ _<|wp_cond_false (Aj (evb rfl rfl))<|wp_skip<|h4a _ _<|wp_seq_k fun K6a h6a=>Af<|Aw Ls fun b8c w3 E1a g2b q3b=>?_
 refine nrm ?_
 have g9c:=nlt X3a.size g2b
 have X4b:=X3a.ext E1a
 refine Ad<|h6a _ _<|DH [6,8] 9 mo rfl fun w4 E0a S5b=>have X6b:=X4b.ext E0a;dA 0 rfl (fun _=>Aa rfl) ?_
 refine dA 1 rfl (fun _=>Aa rfl) ?_
 refine dV 2 rfl (fun _ hw=>Am IG rfl ((q3b.ext E0a).ext hw) rfl) S5b ?_
 refine dA 3 rfl (fun _=>Ag (o':=0) KM rfl rfl) ?_
 refine dA 5 rfl (fun _=>BF rfl) ?_
 refine Iw #[true,true,true,true,true,true,true,false,false] 2 (fun l l' w'=>UpdS [b] w4 w'∧Bx w' b 65 [.bool false,.slice none 0 0,.slice none 0 0]∧l'=(l.set 23 (.int .i64 n))) ?_ ?_
 ·intro HJ38
  refine Gz 4 6 (by kernel_rfl) ?_ ?_
  ·refine opV 4 rfl (by rfl) (Ah Ef rfl (Bx.cell ((q9.ext E1a).ext E0a) rfl)) (dnrm ?_)
   refine CZ 6 (by kernel_rfl) ?_
   ·have F7b:=AV E4 U8 g5
    refine opK 6 rfl (by decide) (by rfl) JD rfl rfl (((qa.ext F7b).ext E1a).ext E0a) rfl rfl rfl rfl (by simp only [SP0,SP1,S0,S1,Nat.reduceAdd];rfl) fun w5 U8b q9b=>?_
    exact Ex (by kernel_rfl) (HJ38 _ _ ⟨((UpdS.refl _ _).upd U8b (.inl im0)),q9b,(by simp only [S0,S1]<;>rfl)⟩)
  ·have F7a:=AV E4 U8 g5
   refine opK 6 rfl (by decide) (by rfl) JD rfl rfl (((qa.ext F7a).ext E1a).ext E0a) rfl rfl rfl rfl (by simp only [SP0,SP1,S0,S1,Nat.reduceAdd];rfl) fun w5 U8a q0c=>?_
   refine CZ 4 (by kernel_rfl) ?_
   ·have ne1c:=(Bx.neT ((q9.ext E1a).ext E0a) (((qa.ext F7a).ext E1a).ext E0a) (by decide))
    have q2c:=((q9.ext E1a).ext E0a).upd U8a ne1c
    refine opV 4 rfl (by rfl) (Ah Ef rfl (Bx.cell q2c rfl)) (dnrm ?_)
    exact Ex (by kernel_rfl) (HJ38 _ _ ⟨((UpdS.refl _ _).upd U8a (.inl im0)),q0c,(by simp only [S0,S1]<;>rfl)⟩)
 ·rintro l' w5 ⟨U9a,q3c,hq'⟩ l'' hl
  rw [hq'] at hl
  clear hq'
  simp only [S0,S1] at hl
  subst hl
  have X4c:=X6b.updS U9a (alc (.inr (.inl rfl)) al0)
  refine dA 7 rfl (fun _=>BF rfl) ?_
  have F2a:=AV E4 U8 g5
  have ne0b:=(Bx.neT (((qb.ext F2a).ext E1a).ext E0a) (((qa.ext F2a).ext E1a).ext E0a) (by decide))
  have q5c:=(((qb.ext F2a).ext E1a).ext E0a).updS U9a (nmc ne0b nm0)
  refine dk 8 rfl (by kernel_rfl) (by decide) (by rfl) Ij rfl rfl q5c rfl rfl rfl rfl (by simp only [SP0,SP1,S0,S1,Nat.reduceAdd];rfl) fun w6 U1b q6c=>?_
  have X7c:=X4c.upd U1b (.inr (.inr rfl))
  refine Ct (by kernel_rfl) ?_
  exact OR (by kernel_rfl) ⟨rfl,rfl,X7c,(q3c.upd U1b (Ne.symm ne0b)),q6c⟩
theorem Hu:OA Tryz.prog 155:=by
 intro ar b b' w ha
 subst ha
 refine Jo Tryz.func155 rfl [.pointer (some ⟨b,0,none⟩),.pointer (some ⟨b',0,none⟩),uu,uu,uu,uu,uu,uu,uu,uu,uu,uu,uu,uu,uu,uu,uu,uu,uu,uu,uu,uu,uu,uu,uu,uu] (by simp [Tryz.ntmps155]) fun c₀ cs hu=>?_
 apply wpS_seq
 refine OC hu rfl ?_
 simp only [S0,S1]
 refine wpS_of_wp<|wp_seq_k fun K1 h1=>Af<|sV (Aa rfl) ?_
 refine sV (Jx Kr rfl) ?_
 refine Ad<|h1 _ _<|wp_cond_false (Aj (evb rfl rfl))<|wp_skip ?_
 exact NK hu (by kernel_rfl) ⟨rfl,rfl,rfl⟩
theorem idle_whole_caught:Oz Tryz.prog 246:=by
 intro b w
 refine Jo Tryz.func246 rfl [.pointer (some ⟨b,0,none⟩),uu,uu,uu,uu,uu,uu,uu,uu,uu,uu,uu,uu,uu,uu] (by simp [Tryz.ntmps246]) fun c₀ cs hu=>?_
 apply wpS_seq
 refine rcvI1 hu rfl ?_
 simp only [S0,S1]
 refine wpS_of_wp ?_
 apply wp_block
 refine wp_seq_k fun K1 h1=>Af<|sV (d_eqlNilN Kr rfl) ?_
 refine Ad<|h1 _ _<|wp_cond_true (Aj (evb rfl rfl))<|Af<|sV (Ac rfl) ?_
 refine Ad ?_
 try simp only [Exit.inBlock]
 exact NK hu (by kernel_rfl) ⟨rfl,rfl,rfl⟩
theorem c_whole_args_1 (x0:Ai) (A1:Option Addr) (c2:Nat) (w:World) (hT:TB w) (n3:RU w A1 c2 x0.Abs) (r:Bool) (hr:GV x0=some r) :
  Calls Tryz.prog 270 #[.agg #[.bool x0.Neg,.slice A1 (sz x0.Abs) c2]] w (Ret Ff w r):=by
 unfold GV at hr
 go_enter Tryz.func270,Tryz.ntmps270
 refine wp_seq_k fun K4 h4=>Af<|BH rfl rfl fun b5 w1 E6 g7 q8=>?_
 refine nrm ?_
 refine sV (Ac rfl) ?_
 refine Ad<|h4 _ _<|wp_seq_k fun K9 h9=>Af<|sV (Am DK rfl q8 rfl) ?_
 obtain ⟨r1a,h2a,f3a⟩:=Ab hr
 refine sc (Ae MQ (by rfl)) (Iy (⟨x0.Neg,(limbs x0.Abs)⟩:AK) A1 c2 w1 (tbx E6 hT) (n3.ext E6) r1a h2a) ?_
 rintro _ w2 E4a rfl
 refine nrm ?_
 have X5a:=xtr E6 E4a
 refine sb (Fg rfl) fun z0a hz0a=>?_
 refine nrm ?_
 refine sV (Ac rfl) ?_
 refine Ad<|h9 _ _<|wp_ret ?_
 obtain rfl:z0a=decide (¬(r1a=true)):=bz hz0a
 obtain rfl:=sj f3a
 exact fin rfl (Res.tmp rfl Res.nil) (Al X5a rfl)
theorem c_slices_IndexFunc_Int__1__whole_args_1 (x0_0:Ai) (bp0:Nat) (A1:Option Addr) (c2:Nat) (w:World) (hT:TB w) (n3:RU w A1 c2 x0_0.Abs) (q4:Bx w bp0 25 [.bool x0_0.Neg,.slice A1 (sz x0_0.Abs) c2]) (r:Int) (hr:BS x0_0=some r) :
  Calls Tryz.prog 284 #[.slice (some ⟨bp0,0,none⟩) 1 1,.func (.func 270) #[] #[]] w (Ret Gc w r):=by
 unfold BS at hr
 go_enter Tryz.func284,Tryz.ntmps284
 refine wp_seq_k fun K5 h5=>Af<|sV (Ac rfl) ?_
 refine Ad<|h5 _ _<|wp_seq_k fun K6 h6=>wp_seq_k fun K7 h7=>Af<|sV (Aa rfl) ?_
 refine sV (AF Mk rfl) ?_
 refine sV (Aa rfl) ?_
 refine Ad<|h7 _ _ ?_
 apply wp_block
 refine HZ<|Bk<|wp_seq_k fun K8 h8=>Af<|sV (JV (v:=.bool true) (Dm rfl rfl) (by rfl)) ?_
 refine Ad<|h8 _ _<|wp_seq_k fun K9 h9=>wp_cond_true (Aj (evb rfl rfl))<|wp_skip<|h9 _ _<|wp_seq_k fun K1a h1a=>?_
 apply wp_block
 refine wp_seq_k fun K2a h2a=>Af<|sV (Aa rfl) ?_
 refine sV (Ac rfl) ?_
 refine Ad<|h2a _ _<|wp_seq_k fun K3a h3a=>Af<|sV (Aa rfl) ?_
 refine sV (Aa rfl) ?_
 refine sV (Aa rfl) ?_
 refine sV (Jg (o':=0) Mk GY rfl rfl (by decide) (by decide) (by decide)) ?_
 refine sV (Am DK rfl q4 rfl) ?_
 obtain ⟨r4a,h0b,f5a⟩:=Ab hr
 refine sc (Hd (first:=[]) (cap:=[]) (args:=[.agg #[.bool x0_0.Neg,.slice A1 (sz x0_0.Abs) c2]]) en_270 (by rfl) (by rfl)) (c_whole_args_1 x0_0 A1 c2 w hT n3 r4a h0b) ?_
 rintro _ w1 E6a rfl
 refine nrm ?_
 refine Ad<|h3a _ _ ?_
 rcases bft r4a with e0a | e0a
 ·have p1b:=e0a
  have f2b:=ifP p1b f5a
  refine wp_cond_true (Aj (evb rfl e0a))<|wp_seq_k fun K7a h7a=>Af<|sV (Aa rfl) ?_
  refine sV (Ac rfl) ?_
  refine Ad<|h7a _ _<|wp_ret ?_
  obtain rfl:=sj f2b
  exact fin rfl (Res.tmp rfl Res.nil) (Al E6a rfl)
 ·have p3b:=bF e0a
  have f4b:=ifN p3b f5a
  refine wp_cond_false (Aj (evb rfl e0a))<|wp_skip<|h1a _ _<|Af<|sV (AU (c:=1) rfl rfl (by decide)) ?_
  refine sV (Aa rfl) ?_
  refine Ad<|Bk<|wp_seq_k fun K8a h8a=>Af<|sV (JV (v:=.bool false) (Dm rfl rfl) (by rfl)) ?_
  refine Ad<|h8a _ _<|wp_seq_k fun K5b h5b=>wp_cond_false (Aj (evb rfl rfl))<|wp_exit ?_
  simp only [Exit.then,Exit.inBlock,↓reduceIte,Nat.reduceEqDiff]
  refine h6 _ _<|wp_seq_k fun K9a h9a=>Af<|sV (Ac rfl) ?_
  refine Ad<|h9a _ _<|wp_ret ?_
  obtain rfl:=sj f4b
  exact fin rfl (Res.tmp rfl Res.nil) (Al E6a rfl)
theorem c_slices_ContainsFunc_Int__1__whole_args_1 (x0_0:Ai) (bp0:Nat) (A1:Option Addr) (c2:Nat) (w:World) (hT:TB w) (n3:RU w A1 c2 x0_0.Abs) (q4:Bx w bp0 25 [.bool x0_0.Neg,.slice A1 (sz x0_0.Abs) c2]) (r:Bool) (hr:BD x0_0=some r) :
  Calls Tryz.prog 269 #[.slice (some ⟨bp0,0,none⟩) 1 1,.func (.func 270) #[] #[]] w (Ret Ff w r):=by
 unfold BD at hr
 go_enter Tryz.func269,Tryz.ntmps269
 refine wp_seq_k fun K5 h5=>Af<|sV (Ac rfl) ?_
 refine Ad<|h5 _ _<|wp_seq_k fun K6 h6=>Af<|sV (Aa rfl) ?_
 refine sV (Aa rfl) ?_
 obtain ⟨r7,h8,f9⟩:=Ab hr
 refine sc (Ae en_284 (by rfl)) (c_slices_IndexFunc_Int__1__whole_args_1 x0_0 bp0 A1 c2 w hT n3 q4 r7 h8) ?_
 rintro _ w1 E1a rfl
 refine nrm ?_
 refine sb (Fh rfl rfl) fun z0a hz0a=>?_
 refine nrm ?_
 refine sV (Ac rfl) ?_
 refine Ad<|h6 _ _<|wp_ret ?_
 obtain rfl:z0a=decide (0≤r7):=bz hz0a
 obtain rfl:=sj f9
 exact fin rfl (Res.tmp rfl Res.nil) (Al E1a rfl)
theorem HK (x0:Bool) (x1:Int) (w:World) (hT:TB w) (r:Except Int (Unit)) (hr:HM x0 x1=some r) :
  Calls Tryz.prog 248 #[.bool x0,.int .i64 x1] w (RetE 274 JX w r):=by
 unfold HM at hr
 go_enter Tryz.func248,Tryz.ntmps248
 refine wp_seq_k fun K1 h1=>Af<|sV (Aa rfl) ?_
 refine sb (Fg rfl) fun z2 hz2=>?_
 refine nrm ?_
 refine Ad<|h1 _ _ ?_
 rcases bft z2 with e8 | e8
 ·have p0a:=zP hz2 e8
  have f1a:=ifP p0a hr
  refine wp_cond_true (Aj (evb rfl e8))<|Af<|sV (Aa rfl) ?_
  refine sV (AL (vals:=[(0,.int .i64 x1)]) (cells:=[.int .i64 x1]) (by rfl) (by kernel_rfl)) ?_
  refine sV (Jh ni_274 rfl) ?_
  refine My rfl ?_
  obtain rfl:=sj f1a
  exact ⟨rfl,Cz (Ext.refl _)⟩
 ·have p9:=zN hz2 e8
  have f2a:=ifN p9 hr
  refine wp_cond_false (Aj (evb rfl e8))<|wp_skip ?_
  obtain rfl:=sj f2a
  exact LO rfl Res.nil (EB (Ext.refl _) rfl)
theorem IV (x0_0:Ai) (bp0:Nat) (A1:Option Addr) (c2:Nat) (w:World) (hT:TB w) (n3:RU w A1 c2 x0_0.Abs) (q4:Bx w bp0 25 [.bool x0_0.Neg,.slice A1 (sz x0_0.Abs) c2]) (r:Except Int (Unit)) (hr:FQ x0_0=some r) :
  Calls Tryz.prog 247 #[.slice (some ⟨bp0,0,none⟩) 1 1] w (RetE 274 JX w r):=by
 unfold FQ at hr
 go_enter Tryz.func247,Tryz.ntmps247
 refine Af<|sV (Aa rfl) ?_
 obtain ⟨r5,h6,f7⟩:=Ab hr
 refine sc (Ae en_269 (by rfl)) (c_slices_ContainsFunc_Int__1__whole_args_1 x0_0 bp0 A1 c2 w hT n3 q4 r5 h6) ?_
 rintro _ w1 E8 rfl
 refine nrm ?_
 refine sb (Fg rfl) fun z9 hz9=>?_
 refine nrm ?_
 obtain rfl:z9=decide (¬(r5=true)):=bz hz9
 rcases Bi f7 with ⟨r0a,h1a,f3a⟩ | ⟨r0a,h1a,rfl⟩
 ·refine scO (Ae LL (by rfl)) (HK (decide (¬(r5=true))) 1 w1 (tbx E8 hT)  (.ok r0a) h1a) ?_
  rintro _ w2 E2a rfl
  refine nrm ?_
  have X4a:=xtr E8 E2a
  refine Ad ?_
  obtain rfl:=sj f3a
  exact LO rfl Res.nil (EB X4a rfl)
 ·refine scP (Ae LL (by rfl)) (HK (decide (¬(r5=true))) 1 w1 (tbx E8 hT)  (.error r0a) h1a) fun w2 E2a=>?_
  have X5a:=xtr E8 E2a
  exact ⟨rfl,Cz X5a⟩
theorem IW:Oz Tryz.prog 222:=by
 intro b w
 refine Jo Tryz.func222 rfl [.pointer (some ⟨b,0,none⟩),uu,uu,uu,uu,uu,uu,uu,uu,uu,uu,uu,uu,uu,uu,uu,uu,uu,uu,uu] (by simp [Tryz.ntmps222]) fun c₀ cs hu=>?_
 apply wpS_seq
 refine OC hu rfl ?_
 simp only [S0,S1]
 refine wpS_of_wp<|wp_seq_k fun K1 h1=>Af<|sV (Aa rfl) ?_
 refine sV (Jx Kr rfl) ?_
 refine Ad<|h1 _ _<|wp_cond_false (Aj (evb rfl rfl))<|wp_skip ?_
 try simp only [Exit.inBlock]
 exact NK hu (by kernel_rfl) ⟨rfl,rfl,rfl⟩
theorem c_nat_taken_1 (x0:Nat) (A1:Option Addr) (c2:Nat) (w:World) (hT:TB w) (n3:RU w A1 c2 x0) (r:Bool) (hr:Hp x0=some r) :
  Calls Tryz.prog 255 #[.slice A1 (sz x0) c2] w (Ret Ff w r):=by
 unfold Hp at hr
 go_enter Tryz.func255,Tryz.ntmps255
 refine wp_seq_k fun K4 h4=>Af<|sV (Ac rfl) ?_
 refine Ad<|h4 _ _<|wp_seq_k fun K5 h5=>Af<|sV (Aa rfl) ?_
 obtain ⟨r6,h7,f8⟩:=Ab hr
 refine sc (Ae NP (by rfl)) (Ie (limbs x0) A1 c2 w hT n3 r6 h7) ?_
 rintro _ w1 E9 rfl
 refine nrm ?_
 refine sb (Fg rfl) fun z0a hz0a=>?_
 refine nrm ?_
 refine sV (Ac rfl) ?_
 refine Ad<|h5 _ _<|wp_ret ?_
 obtain rfl:z0a=decide (¬(r6=true)):=bz hz0a
 obtain rfl:=sj f8
 exact fin rfl (Res.tmp rfl Res.nil) (Al E9 rfl)
theorem c_slices_IndexFunc_Nat__1__nat_taken_1 (x0_0:Nat) (bp0:Nat) (A1:Option Addr) (c2:Nat) (w:World) (hT:TB w) (n3:RU w A1 c2 x0_0) (q4:Bx w bp0 23 [.slice A1 (sz x0_0) c2]) (r:Int) (hr:BW x0_0=some r) :
  Calls Tryz.prog 274 #[.slice (some ⟨bp0,0,none⟩) 1 1,.func (.func 255) #[] #[]] w (Ret Gc w r):=by
 unfold BW at hr
 go_enter Tryz.func274,Tryz.ntmps274
 refine wp_seq_k fun K5 h5=>Af<|sV (Ac rfl) ?_
 refine Ad<|h5 _ _<|wp_seq_k fun K6 h6=>wp_seq_k fun K7 h7=>Af<|sV (Aa rfl) ?_
 refine sV (AF MM rfl) ?_
 refine sV (Aa rfl) ?_
 refine Ad<|h7 _ _ ?_
 apply wp_block
 refine HZ<|Bk<|wp_seq_k fun K8 h8=>Af<|sV (JV (v:=.bool true) (Dm rfl rfl) (by rfl)) ?_
 refine Ad<|h8 _ _<|wp_seq_k fun K9 h9=>wp_cond_true (Aj (evb rfl rfl))<|wp_skip<|h9 _ _<|wp_seq_k fun K1a h1a=>?_
 apply wp_block
 refine wp_seq_k fun K2a h2a=>Af<|sV (Aa rfl) ?_
 refine sV (Ac rfl) ?_
 refine Ad<|h2a _ _<|wp_seq_k fun K3a h3a=>Af<|sV (Aa rfl) ?_
 refine sV (Aa rfl) ?_
 refine sV (Aa rfl) ?_
 refine sV (Jg (o':=0) MM NQ rfl rfl (by decide) (by decide) (by decide)) ?_
 refine sV (Ah Dp rfl (Bx.cell q4 rfl)) ?_
 obtain ⟨r4a,h0b,f5a⟩:=Ab hr
 refine sc (Hd (first:=[]) (cap:=[]) (args:=[.slice A1 (sz x0_0) c2]) en_255 (by rfl) (by rfl)) (c_nat_taken_1 x0_0 A1 c2 w hT n3 r4a h0b) ?_
 rintro _ w1 E6a rfl
 refine nrm ?_
 refine Ad<|h3a _ _ ?_
 rcases bft r4a with e0a | e0a
 ·have p1b:=e0a
  have f2b:=ifP p1b f5a
  refine wp_cond_true (Aj (evb rfl e0a))<|wp_seq_k fun K7a h7a=>Af<|sV (Aa rfl) ?_
  refine sV (Ac rfl) ?_
  refine Ad<|h7a _ _<|wp_ret ?_
  obtain rfl:=sj f2b
  exact fin rfl (Res.tmp rfl Res.nil) (Al E6a rfl)
 ·have p3b:=bF e0a
  have f4b:=ifN p3b f5a
  refine wp_cond_false (Aj (evb rfl e0a))<|wp_skip<|h1a _ _<|Af<|sV (AU (c:=1) rfl rfl (by decide)) ?_
  refine sV (Aa rfl) ?_
  refine Ad<|Bk<|wp_seq_k fun K8a h8a=>Af<|sV (JV (v:=.bool false) (Dm rfl rfl) (by rfl)) ?_
  refine Ad<|h8a _ _<|wp_seq_k fun K5b h5b=>wp_cond_false (Aj (evb rfl rfl))<|wp_exit ?_
  simp only [Exit.then,Exit.inBlock,↓reduceIte,Nat.reduceEqDiff]
  refine h6 _ _<|wp_seq_k fun K9a h9a=>Af<|sV (Ac rfl) ?_
  refine Ad<|h9a _ _<|wp_ret ?_
  obtain rfl:=sj f4b
  exact fin rfl (Res.tmp rfl Res.nil) (Al E6a rfl)
theorem c_slices_ContainsFunc_Nat__1__nat_taken_1 (x0_0:Nat) (bp0:Nat) (A1:Option Addr) (c2:Nat) (w:World) (hT:TB w) (n3:RU w A1 c2 x0_0) (q4:Bx w bp0 23 [.slice A1 (sz x0_0) c2]) (r:Bool) (hr:BI x0_0=some r) :
  Calls Tryz.prog 254 #[.slice (some ⟨bp0,0,none⟩) 1 1,.func (.func 255) #[] #[]] w (Ret Ff w r):=by
 unfold BI at hr
 go_enter Tryz.func254,Tryz.ntmps254
 refine wp_seq_k fun K5 h5=>Af<|sV (Ac rfl) ?_
 refine Ad<|h5 _ _<|wp_seq_k fun K6 h6=>Af<|sV (Aa rfl) ?_
 refine sV (Aa rfl) ?_
 obtain ⟨r7,h8,f9⟩:=Ab hr
 refine sc (Ae en_274 (by rfl)) (c_slices_IndexFunc_Nat__1__nat_taken_1 x0_0 bp0 A1 c2 w hT n3 q4 r7 h8) ?_
 rintro _ w1 E1a rfl
 refine nrm ?_
 refine sb (Fh rfl rfl) fun z0a hz0a=>?_
 refine nrm ?_
 refine sV (Ac rfl) ?_
 refine Ad<|h6 _ _<|wp_ret ?_
 obtain rfl:z0a=decide (0≤r7):=bz hz0a
 obtain rfl:=sj f9
 exact fin rfl (Res.tmp rfl Res.nil) (Al E1a rfl)
theorem Gu (x0:Bool) (x1:Int) (w:World) (hT:TB w) (r:Except Int (Unit)) (hr:FL x0 x1=some r) :
  Calls Tryz.prog 224 #[.bool x0,.int .i64 x1] w (RetE 258 JX w r):=by
 unfold FL at hr
 go_enter Tryz.func224,Tryz.ntmps224
 refine wp_seq_k fun K1 h1=>Af<|sV (Aa rfl) ?_
 refine sb (Fg rfl) fun z2 hz2=>?_
 refine nrm ?_
 refine Ad<|h1 _ _ ?_
 rcases bft z2 with e8 | e8
 ·have p0a:=zP hz2 e8
  have f1a:=ifP p0a hr
  refine wp_cond_true (Aj (evb rfl e8))<|Af<|sV (Aa rfl) ?_
  refine sV (AL (vals:=[(0,.int .i64 x1)]) (cells:=[.int .i64 x1]) (by rfl) (by kernel_rfl)) ?_
  refine sV (Jh ni_258 rfl) ?_
  refine My rfl ?_
  obtain rfl:=sj f1a
  exact ⟨rfl,Cz (Ext.refl _)⟩
 ·have p9:=zN hz2 e8
  have f2a:=ifN p9 hr
  refine wp_cond_false (Aj (evb rfl e8))<|wp_skip ?_
  obtain rfl:=sj f2a
  exact LO rfl Res.nil (EB (Ext.refl _) rfl)
theorem Ja (x0_0:Nat) (bp0:Nat) (A1:Option Addr) (c2:Nat) (w:World) (hT:TB w) (n3:RU w A1 c2 x0_0) (q4:Bx w bp0 23 [.slice A1 (sz x0_0) c2]) (r:Except Int (Unit)) (hr:Gr x0_0=some r) :
  Calls Tryz.prog 223 #[.slice (some ⟨bp0,0,none⟩) 1 1] w (RetE 258 JX w r):=by
 unfold Gr at hr
 go_enter Tryz.func223,Tryz.ntmps223
 refine Af<|sV (Aa rfl) ?_
 obtain ⟨r5,h6,f7⟩:=Ab hr
 refine sc (Ae en_254 (by rfl)) (c_slices_ContainsFunc_Nat__1__nat_taken_1 x0_0 bp0 A1 c2 w hT n3 q4 r5 h6) ?_
 rintro _ w1 E8 rfl
 refine nrm ?_
 refine sb (Fg rfl) fun z9 hz9=>?_
 refine nrm ?_
 obtain rfl:z9=decide (¬(r5=true)):=bz hz9
 rcases Bi f7 with ⟨r0a,h1a,f3a⟩ | ⟨r0a,h1a,rfl⟩
 ·refine scO (Ae Jt (by rfl)) (Gu (decide (¬(r5=true))) 1 w1 (tbx E8 hT)  (.ok r0a) h1a) ?_
  rintro _ w2 E2a rfl
  refine nrm ?_
  have X4a:=xtr E8 E2a
  refine Ad ?_
  obtain rfl:=sj f3a
  exact LO rfl Res.nil (EB X4a rfl)
 ·refine scP (Ae Jt (by rfl)) (Gu (decide (¬(r5=true))) 1 w1 (tbx E8 hT)  (.error r0a) h1a) fun w2 E2a=>?_
  have X5a:=xtr E8 E2a
  exact ⟨rfl,Cz X5a⟩
theorem Kt (x0:Nat) (A1:Option Addr) (c2:Nat) (w:World) (hT:TB w) (n3:RU w A1 c2 x0) (r:Except Int (Nat)) (hr:Hy x0=some r) :
  Calls Tryz.prog 225 #[.slice A1 (sz x0) c2] w (RetE 258 Iq w r):=by
 unfold Hy at hr
 go_enter Tryz.func225,Tryz.ntmps225
 refine wp_seq_k fun K4 h4=>Af<|sV (Ac rfl) ?_
 refine Ad<|h4 _ _<|wp_seq_k fun K5 h5=>Af<|sV (Aa rfl) ?_
 refine sV (AF FK rfl) ?_
 refine sb (GT rfl rfl) fun z6 hz6=>?_
 refine nrm ?_
 obtain rfl:z6=decide ((sz x0:Int)≤1024):=bz hz6
 rcases Bi hr with ⟨r7,h8,f9⟩ | ⟨r7,h8,rfl⟩
 ·refine scO (Ae Jt (by rfl)) (Gu (decide ((sz x0:Int)≤1024)) 2 w hT  (.ok r7) h8) ?_
  rintro _ w1 E0a rfl
  refine nrm ?_
  refine Ad<|h5 _ _<|wp_seq_k fun K1a h1a=>Af<|sV (Aa rfl) ?_
  obtain ⟨r2a,h3a,f4a⟩:=Ab f9
  refine sc (Ae en_256 (by rfl)) (c_slices_Clone_nat_limbs x0 A1 c2 w1 (tbx E0a hT) (n3.ext E0a) r2a h3a) ?_
  rintro _ w2 E5a ⟨A6a,c7a,rfl,n8a⟩
  refine nrm ?_
  have X9a:=xtr E0a E5a
  refine sV (Ac rfl) ?_
  refine Ad<|h1a _ _<|wp_ret ?_
  obtain rfl:=sj f4a
  exact fin rfl (Res.tmp rfl Res.nil) (EB X9a ⟨A6a,c7a,rfl,n8a⟩)
 ·refine scP (Ae Jt (by rfl)) (Gu (decide ((sz x0:Int)≤1024)) 2 w hT  (.error r7) h8) fun w1 E0a=>?_
  exact ⟨rfl,Cz E0a⟩
theorem Lr (x0:Nat) (x1:Int) (A1:Option Addr) (c2:Nat) (w:World) (hT:TB w) (n3:RU w A1 c2 x0) (r:Nat × Int) (hr:HP x0 x1=some r) :
  Calls Tryz.prog 158 #[.slice A1 (sz x0) c2,.int .i64 x1] w (Ret Jy w r):=by
 unfold HP at hr
 obtain ⟨q0,hq0,hr0⟩:=Ab hr
 unfold JI at hq0
 go_enter_defers Tryz.func158,Tryz.ntmps158
 refine wp_seq_k fun K4 h4=>Af<|sV (Ac rfl) ?_
 refine Aw Ky fun b5 w1 E6 g7 q8=>?_
 refine nrm ?_
 refine Ad<|h4 _ _<|wp_seq_k fun K9 h9=>Af<|Jj (vs:=[.pointer (some ⟨b5,0,none⟩)]) (by rfl) (by rfl)<|Ad<|h9 _ _<|wp_seq_k fun K3c h3c=>Af<|sV (Aa rfl) ?_
 refine CH (vals:=[(0,.slice A1 (sz x0) c2)]) (cs:=[.slice A1 (sz x0) c2]) MM NQ zt_23 (by rfl) (by decide) (by kernel_rfl) fun b4c w2 E6a g9d q5c=>?_
 refine nrm ?_
 have g8f:=nlt E6.size g9d
 have X0a:=xtr E6 E6a
 rcases Bi hq0 with ⟨r7a,h8a,f0e⟩ | ⟨r7a,h8a,rfl⟩
 ·refine scO (Ae Ot (by rfl)) (Ja x0 b4c A1 c2 w2 (tbx X0a hT) (n3.ext X0a) q5c (.ok r7a) h8a) ?_
  rintro _ w3 E2a rfl
  refine nrm ?_
  have X9a:=xtr X0a E2a
  refine Ad<|h3c _ _<|wp_seq_k fun K6c h6c=>Af<|sV (Aa rfl) ?_
  refine sb (Fh rfl rfl) fun z0b hz0b=>?_
  refine nrm ?_
  obtain rfl:z0b=decide (0≤x1):=bz hz0b
  rcases Bi f0e with ⟨r1b,h2b,f7c⟩ | ⟨r1b,h2b,rfl⟩
  ·refine scO (Ae Jt (by rfl)) (Gu (decide (0≤x1)) 1 w3 (tbx X9a hT)  (.ok r1b) h2b) ?_
   rintro _ w4 E3a rfl
   refine nrm ?_
   have X4a:=xtr X9a E3a
   refine Ad<|h6c _ _<|wp_seq_k fun K8c h8c=>wp_seq_k fun K9c h9c=>Af<|sV (Aa rfl) ?_
   refine sV (AF AJ rfl) ?_
   refine sb (Cc rfl rfl) fun z5a hz5a=>?_
   refine nrm ?_
   refine Ad<|h9c _ _ ?_
   rcases bft z5a with e1a | e1a
   ·have p1e:=zP hz5a e1a
    have f2e:=ifP p1e f7c
    refine wp_cond_true (Aj (evb rfl e1a))<|wp_seq_k fun K0d h0d=>Af<|sV (Ac rfl) ?_
    refine Ay Ij rfl rfl (((q8.ext E6a).ext E2a).ext E3a) rfl rfl rfl rfl (by simp only [SP0,SP1,S0,S1,Nat.reduceAdd];rfl) fun w5 U3e q4e=>?_
    have X5e:=AV X4a U3e g7
    refine Ad<|h0d _ _<|wp_ret ?_
    obtain rfl:=sj f2e
    obtain rfl:=sj hr0
    exact Oe IW Oy rfl (Res.tmp rfl (Res.cell1 rfl Ef (Bx.cell q4e rfl) Res.nil)) (Al X5e ⟨none,0,rfl,(RU.nil _)⟩)
   ·have p6e:=zN hz5a e1a
    have f7e:=ifN p6e f7c
    refine wp_cond_false (Aj (evb rfl e1a))<|wp_skip<|h8c _ _<|wp_seq_k fun K1d h1d=>Af<|sV (Aa rfl) ?_
    refine sb (GT rfl rfl) fun z3b hz3b=>?_
    refine nrm ?_
    obtain rfl:z3b=decide (x1≤32768):=bz hz3b
    rcases Bi f7e with ⟨r4b,h5b,f8e⟩ | ⟨r4b,h5b,rfl⟩
    ·refine scO (Ae Jt (by rfl)) (Gu (decide (x1≤32768)) 2 w4 (tbx X4a hT)  (.ok r4b) h5b) ?_
     rintro _ w5 E6b rfl
     refine nrm ?_
     have X7b:=xtr X4a E6b
     refine Ad<|h1d _ _<|wp_seq_k fun K2d h2d=>Af<|sV (Aa rfl) ?_
     refine sV (Aa rfl) ?_
     obtain ⟨r8b,h9e,f0f⟩:=Ab f8e
     refine sc (Ae en_226 (by rfl)) (Hz x0 x1 A1 c2 w5 (tbx X7b hT) (n3.ext X7b) r8b h9e) ?_
     rintro _ w6 E3d ⟨A4d,c5d,rfl,n6d⟩
     refine nrm ?_
     have X9b:=xtr X7b E3d
     rcases Bi f0f with ⟨r0c,h1c,f1f⟩ | ⟨r0c,h1c,rfl⟩
     ·refine scO (Ae Nr (by rfl)) (Kt r8b A4d c5d w6 (tbx X9b hT) n6d (.ok r0c) h1c) ?_
      rintro _ w7 E2c ⟨A2f,c3f,rfl,n4f⟩
      refine nrm ?_
      have X5f:=xtr X9b E2c
      refine sV (Ac rfl) ?_
      have q7d:=(((((q8.ext E6a).ext E2a).ext E3a).ext E6b).ext E3d).ext E2c
      refine Ay Ij rfl rfl q7d rfl rfl rfl rfl (by simp only [SP0,SP1,S0,S1,Nat.reduceAdd];rfl) fun w8 U8d q6f=>?_
      have X7f:=AV X5f U8d g7
      refine Ad<|h2d _ _<|wp_ret ?_
      obtain rfl:=sj f1f
      obtain rfl:=sj hr0
      exact Oe IW Oy rfl (Res.tmp rfl (Res.cell1 rfl Ef (Bx.cell q6f rfl) Res.nil)) (Al X7f ⟨A2f,c3f,rfl,(n4f.upd U8d q7d (by decide))⟩)
     ·refine scP (Ae Nr (by rfl)) (Kt r8b A4d c5d w6 (tbx X9b hT) n6d (.error r0c) h1c) fun w7 E2c=>?_
      cases hr0
    ·refine scP (Ae Jt (by rfl)) (Gu (decide (x1≤32768)) 2 w4 (tbx X4a hT)  (.error r4b) h5b) fun w5 E6b=>?_
     cases hr0
  ·refine scP (Ae Jt (by rfl)) (Gu (decide (0≤x1)) 1 w3 (tbx X9a hT)  (.error r1b) h2b) fun w4 E3a=>?_
   cases hr0
 ·refine scP (Ae Ot (by rfl)) (Ja x0 b4c A1 c2 w2 (tbx X0a hT) (n3.ext X0a) q5c (.error r7a) h8a) fun w3 E2a=>?_
  cases hr0
theorem Eg (x0:Nat) (x1:Int) (A1:Option Addr) (c2:Nat) (w:World) (hT:TB w) (n3:RU w A1 c2 x0) (r:Except Int (Nat)) (hr:EZ x0 x1=some r) :
  Calls Tryz.prog 218 #[.slice A1 (sz x0) c2,.int .i64 x1] w (RetE 274 Iq w r):=by
 unfold EZ at hr
 go_enter Tryz.func218,Tryz.ntmps218
 refine wp_seq_k fun K4 h4=>Af<|sV (Ac rfl) ?_
 refine Ad<|h4 _ _<|wp_seq_k fun K5 h5=>Af<|sV (Aa rfl) ?_
 refine sb (Cc rfl rfl) fun z6 hz6=>?_
 refine nrm ?_
 refine sV (Aa rfl) ?_
 obtain rfl:z6=decide (x1=0):=bz hz6
 rcases Bi hr with ⟨r7,h8,f9⟩ | ⟨r7,h8,rfl⟩
 ·refine scO (Ae LL (by rfl)) (HK (decide (x1=0)) x1 w hT  (.ok r7) h8) ?_
  rintro _ w1 E0a rfl
  refine nrm ?_
  refine Ad<|h5 _ _<|wp_seq_k fun K1a h1a=>Af<|sV (Aa rfl) ?_
  refine sV (Ac rfl) ?_
  refine Ad<|h1a _ _<|wp_ret ?_
  obtain rfl:=sj f9
  exact fin rfl (Res.tmp rfl Res.nil) (EB E0a ⟨A1,c2,rfl,(n3.ext E0a)⟩)
 ·refine scP (Ae LL (by rfl)) (HK (decide (x1=0)) x1 w hT  (.error r7) h8) fun w1 E0a=>?_
  exact ⟨rfl,Cz E0a⟩
theorem HU (x0:Bool) (x1:Nat) (A1:Option Addr) (c2:Nat) (w:World) (hT:TB w) (n3:RU w A1 c2 x1) (r:Ai) (hr:EJ x0 x1=some r) :
  Calls Tryz.prog 217 #[.bool x0,.slice A1 (sz x1) c2] w (Ret IH w r):=by
 unfold EJ at hr
 go_enter Tryz.func217,Tryz.ntmps217
 refine wp_seq_k fun K4 h4=>Af<|Aw IE fun b5 w1 E6 g7 q8=>?_
 refine nrm ?_
 refine Ad<|h4 _ _<|wp_seq_k fun K9 h9=>Af<|sV (Aa rfl) ?_
 refine sV (Aa rfl) ?_
 obtain ⟨m1a,h3a,f8a⟩:=Ab hr
 refine Cm 6 (fun l l' w'=>∃(t4a:Value) (t5a:Value) (t6a:Value),w1=w'∧l'=((((l.set 7 t4a).set 8 t5a).set 9 t6a).set 10 (.bool m1a))) ?_ ?_
 ·intro HJ23
  rcases bft x0 with e0a | e0a
  ·have p9a:=e0a
   have f0b:=ifP p9a h3a
   refine sV (Aa rfl) ?_ (hw:=wgT rfl e0a)
   refine sV (AF AJ rfl) ?_ (hw:=wgT rfl e0a)
   refine sb (EP rfl rfl) ?_ (hw:=wgT rfl e0a)
   intro z2a hz2a
   refine nrm ?_
   refine sV (Ax (evb rfl e0a) rfl) ?_
   obtain rfl:z2a=decide (0<(sz x1:Int)):=bz hz2a
   obtain rfl:=sj f0b
   exact HJ23 _ _ ⟨(.slice A1 (sz x1) c2),(.int .i64 (sz x1:Int)),(.bool (decide (0<(sz x1:Int)))),rfl,(by simp only [S0,S1]<;>rfl)⟩
  ·have p1b:=bF e0a
   have f2b:=ifN p1b h3a
   refine sP ?_ (hw:=wgF rfl e0a)
   refine sP ?_ (hw:=wgF rfl e0a)
   refine sP ?_ (hw:=wgF rfl e0a)
   refine sV (AG (evb rfl e0a) rfl) ?_
   obtain rfl:=sj f2b
   exact HJ23 _ _ ⟨uu,uu,uu,rfl,(by simp only [S0,S1]<;>rfl)⟩
 ·rintro l' _ ⟨t4a,t5a,t6a,rfl,hq'⟩ l'' hl
  rw [hq'] at hl
  clear hq'
  simp only [S0,S1] at hl
  subst hl
  refine sV (Aa rfl) ?_
  refine sV (AL (vals:=[(0,.bool m1a),(1,.slice A1 (sz x1) c2)]) (cells:=[.bool m1a,.slice A1 (sz x1) c2]) (by rfl) (by kernel_rfl)) ?_
  refine Ay GY rfl rfl q8 rfl rfl rfl rfl (by simp only [SP0,SP1,S0,S1,Nat.reduceAdd];rfl) fun w2 U3b q4b=>?_
  have F7a:=AV E6 U3b g7
  refine Ad<|h9 _ _<|wp_ret ?_
  obtain rfl:=sj f8a
  exact fin rfl (Res.cellN rfl DK q4b rfl rfl Res.nil) (Al F7a ⟨A1,c2,rfl,(n3.ext F7a)⟩)
theorem Jd (x0:Ai) (A1:Option Addr) (c2:Nat) (w:World) (hT:TB w) (n3:RU w A1 c2 x0.Abs) (r:Ai) (hr:Gn x0=some r) :
  Calls Tryz.prog 216 #[.agg #[.bool x0.Neg,.slice A1 (sz x0.Abs) c2]] w (Ret IH w r):=by
 unfold Gn at hr
 go_enter Tryz.func216,Tryz.ntmps216
 refine wp_seq_k fun K4 h4=>Af<|BH rfl rfl fun b5 w1 E6 g7 q8=>?_
 refine nrm ?_
 refine Aw IE fun b9 w2 E2a g1b q8a=>?_
 refine nrm ?_
 have g2b:=nlt E6.size g1b
 have X3b:=xtr E6 E2a
 refine Ad<|h4 _ _<|wp_seq_k fun K9a h9a=>DH [6] 7 mo rfl fun w3 E0a S3a=>have X4a:=xtr X3b E0a;dA 0 rfl (fun _=>Ag (o':=0) Et rfl rfl) ?_
 refine dV 1 rfl (fun _ hw=>Ah Gf rfl (Bx.cell (((q8.ext E2a).ext E0a).ext hw) rfl)) S3a ?_
 refine dA 2 rfl (fun _=>Ag (o':=1) BB rfl rfl) ?_
 refine dV 3 rfl (fun _ hw=>Ah Dp rfl (Bx.cell (((q8.ext E2a).ext E0a).ext hw) rfl)) S3a ?_
 obtain ⟨r5a,h4b,f5b⟩:=Ab hr
 refine dc 4 rfl (by kernel_rfl) (by rfl) (Ae MC (by rfl)) (FE x0.Abs A1 c2 w3 (tbx X4a hT) (n3.ext X4a) r5a h4b) ?_
 rintro _ w4 E1a ⟨A6a,c7a,rfl,n6b⟩
 refine dnrm ?_
 have X7b:=xtr X4a E1a
 have S1c:=S3a.trans E1a
 refine dA 5 rfl (fun _=>AL (vals:=[(0,.bool x0.Neg),(1,.slice A6a (sz r5a) c7a)]) (cells:=[.bool x0.Neg,.slice A6a (sz r5a) c7a]) (by rfl) (by kernel_rfl)) ?_
 refine dk 6 rfl (by kernel_rfl) (by decide) (by rfl) GY rfl rfl ((q8a.ext E0a).ext E1a) rfl rfl rfl rfl (by simp only [SP0,SP1,S0,S1,Nat.reduceAdd];rfl) fun w5 U0b q8b=>?_
 have X9b:=AV X7b U0b g2b
 refine Ct (by kernel_rfl) ?_
 refine h9a _ _<|wp_ret ?_
 have n0c:=n6b.upd U0b ((q8a.ext E0a).ext E1a) (by decide)
 obtain rfl:=sj f5b
 exact fin rfl (Res.cellN rfl DK q8b rfl rfl Res.nil) (Al X9b ⟨A6a,c7a,rfl,n0c⟩)
theorem GG (x0:Int) (x1:Ai) (bp0:Nat) (bp1:Nat) (A2:Option Addr) (c3:Nat) (w:World) (hT:TB w) (q1:Bx w bp0 3 [.int .i64 x0]) (n4:RU w A2 c3 x1.Abs) (q5:Bx w bp1 25 [.bool x1.Neg,.slice A2 (sz x1.Abs) c3]) (r:Except Int (Ai)) (hr:Ei x0 x1=some r) :
  Calls Tryz.prog 215 #[.pointer (some ⟨bp0,0,none⟩),.pointer (some ⟨bp1,0,none⟩)] w (RetE 274 IH w r):=by
 unfold Ei at hr
 go_enter Tryz.func215,Tryz.ntmps215
 refine wp_seq_k fun K6 h6=>Af<|Aw IE fun b7 w1 E8 g9 q0a=>?_
 refine nrm ?_
 refine Ad<|h6 _ _<|wp_seq_k fun K7c h7c=>wp_seq_k fun K8c h8c=>Af<|sV (Ah EA rfl (Bx.cell (q1.ext E8) rfl)) ?_
 refine sb (Fh rfl rfl) fun z0b hz0b=>?_
 refine nrm ?_
 refine Ad<|h8c _ _ ?_
 rcases bft z0b with e1a | e1a
 ·have p0j:=zP hz0b e1a
  have f1j:=ifP p0j hr
  refine wp_cond_true (Aj (evb rfl e1a))<|wp_seq_k fun K0e h0e=>DH [11] 12 mo rfl fun w2 E2a S1b=>have X9c:=xtr E8 E2a;dA 0 rfl (fun _=>Ag (o':=0) Et rfl rfl) ?_
  refine dV 1 rfl (fun _ hw=>Ah Gf rfl (Bx.cell (((q5.ext E8).ext E2a).ext hw) rfl)) S1b ?_
  refine dA 2 rfl (fun _=>Ag (o':=1) BB rfl rfl) ?_
  refine dV 3 rfl (fun _ hw=>Ah Dp rfl (Bx.cell (((q5.ext E8).ext E2a).ext hw) rfl)) S1b ?_
  refine dV 4 rfl (fun _ hw=>Ah EA rfl (Bx.cell (((q1.ext E8).ext E2a).ext hw) rfl)) S1b ?_
  obtain ⟨r3a,h2j,f3j⟩:=Ab f1j
  refine dc 5 rfl (by kernel_rfl) (by rfl) (Ae NW (by rfl)) (Lr x1.Abs x0 A2 c3 w2 (tbx X9c hT) (n4.ext X9c) r3a h2j) ?_
  rintro _ w3 E0d ⟨A1e,c2e,rfl,n3e⟩
  refine dnrm ?_
  have X2b:=xtr X9c E0d
  have S4j:=S1b.trans E0d
  refine dA 6 rfl (fun _=>AB rfl rfl) ?_
  refine dA 7 rfl (fun _=>AB rfl rfl) ?_
  rcases Bi f3j with ⟨r3b,h1d,f5j⟩ | ⟨r3b,h1d,rfl⟩
  ·refine dcO 8 rfl (by kernel_rfl) (by rfl) (Ae Iv (by rfl)) (Eg r3a.1 r3a.2 A1e c2e w3 (tbx X2b hT) n3e (.ok r3b) h1d) ?_
   rintro _ w4 E4a ⟨A6j,c7j,rfl,n8j⟩
   refine dnrm ?_
   have X4e:=xtr X2b E4a
   have S9j:=S4j.trans E4a
   obtain ⟨r5e,h0k,f1k⟩:=Ab f5j
   refine dc 9 rfl (by kernel_rfl) (by rfl) (Ae Mm (by rfl)) (HU x1.Neg r3b A6j c7j w4 (tbx X4e hT) n8j r5e h0k) ?_
   rintro _ w5 E2d ⟨A2k,c3k,rfl,n4k⟩
   refine dnrm ?_
   have X6e:=xtr X4e E2d
   have S5k:=S9j.trans E2d
   obtain ⟨r6k,h7k,f8k⟩:=Ab f1k
   refine dc 10 rfl (by kernel_rfl) (by rfl) (Ae Ml (by rfl)) (Jd r5e A2k c3k w5 (tbx X6e hT) n4k r6k h7k) ?_
   rintro _ w6 E3d ⟨A9k,c0l,rfl,n1l⟩
   refine dnrm ?_
   have X2l:=xtr X6e E3d
   have S5s:=S5k.trans E3d
   have q7e:=((((q0a.ext E2a).ext E0d).ext E4a).ext E2d).ext E3d
   refine dk 11 rfl (by kernel_rfl) (by decide) (by rfl) GY rfl rfl q7e rfl rfl rfl rfl (by simp only [SP0,SP1,S0,S1,Nat.reduceAdd];rfl) fun w7 U8e q3l=>?_
   have X4l:=AV X2l U8e g9
   refine Ct (by kernel_rfl) ?_
   refine h0e _ _<|wp_ret ?_
   obtain rfl:=sj f8k
   exact fin rfl (Res.cellN rfl DK q3l rfl rfl Res.nil) (EB X4l ⟨A9k,c0l,rfl,(n1l.upd U8e q7e (by decide))⟩)
  ·refine dcP 8 rfl (by kernel_rfl) (by rfl) (Ae Iv (by rfl)) (Eg r3a.1 r3a.2 A1e c2e w3 (tbx X2b hT) n3e (.error r3b) h1d) fun w4 E4a=>?_
   have X5l:=xtr X2b E4a
   exact ⟨rfl,Cz X5l⟩
 ·have p6l:=zN hz0b e1a
  have f9e:=ifN p6l hr
  refine wp_cond_false (Aj (evb rfl e1a))<|wp_skip<|h7c _ _<|wp_seq_k fun K0f h0f=>Af<|sV (Ah EA rfl (Bx.cell (q1.ext E8) rfl)) ?_
  refine sV (Ly rfl rfl) ?_
  refine sV (MV (c:=wi64 (-(max x0 (-33792)))) rfl rfl) ?_
  refine sV (Ac rfl) ?_
  refine Ad<|h0f _ _<|wp_seq_k fun K1f h1f=>wp_seq_k fun K2f h2f=>Af<|sV (Ag (o':=0) Et rfl rfl) ?_
  refine sV (Ah Gf rfl (Bx.cell (q5.ext E8) rfl)) ?_
  refine sb (Fg rfl) fun z4b hz4b=>?_
  refine nrm ?_
  refine Ad<|h2f _ _ ?_
  rcases bft z4b with e5a | e5a
  ·have p7l:=zP hz4b e5a
   have f8l:=ifP p7l f9e
   refine wp_cond_true (Aj (evb rfl e5a))<|wp_seq_k fun K3f h3f=>Af<|sV (Ag (o':=1) BB rfl rfl) ?_
   refine sV (Ah Dp rfl (Bx.cell (q5.ext E8) rfl)) ?_
   refine sV (Aa rfl) ?_
   obtain ⟨r6a,h9l,f0m⟩:=Ab f8l
   refine sc (Ae Ns (by rfl)) (Lp x1.Abs (wi64 (-(max x0 (-33792)))) A2 c3 w1 (tbx E8 hT) (n4.ext E8) r6a h9l) ?_
   rintro _ w2 E4f ⟨A5f,c6f,rfl,n7f⟩
   refine nrm ?_
   have X5b:=xtr E8 E4f
   refine sV (AB rfl rfl) ?_
   refine sV (AB rfl rfl) ?_
   rcases Bi f0m with ⟨r6b,h4d,f1m⟩ | ⟨r6b,h4d,rfl⟩
   ·refine scO (Ae Iv (by rfl)) (Eg r6a.1 r6a.2 A5f c6f w2 (tbx X5b hT) n7f (.ok r6b) h4d) ?_
    rintro _ w3 E7b ⟨A2m,c3m,rfl,n4m⟩
    refine nrm ?_
    have X8f:=xtr X5b E7b
    obtain ⟨r9f,h5m,f6m⟩:=Ab f1m
    refine sc (Ae Mm (by rfl)) (HU false r6b A2m c3m w3 (tbx X8f hT) n4m r9f h5m) ?_
    rintro _ w4 E0g ⟨A7m,c8m,rfl,n9m⟩
    refine nrm ?_
    have X1g:=xtr X8f E0g
    obtain ⟨r0n,h1n,f2n⟩:=Ab f6m
    refine sc (Ae Ml (by rfl)) (Jd r9f A7m c8m w4 (tbx X1g hT) n9m r0n h1n) ?_
    rintro _ w5 E2g ⟨A3n,c4n,rfl,n5n⟩
    refine nrm ?_
    have X6n:=xtr X1g E2g
    have q3g:=(((q0a.ext E4f).ext E7b).ext E0g).ext E2g
    refine Ay GY rfl rfl q3g rfl rfl rfl rfl (by simp only [SP0,SP1,S0,S1,Nat.reduceAdd];rfl) fun w6 U4g q7n=>?_
    have X8n:=AV X6n U4g g9
    refine Ad<|h3f _ _<|wp_ret ?_
    obtain rfl:=sj f2n
    exact fin rfl (Res.cellN rfl DK q7n rfl rfl Res.nil) (EB X8n ⟨A3n,c4n,rfl,(n5n.upd U4g q3g (by decide))⟩)
   ·refine scP (Ae Iv (by rfl)) (Eg r6a.1 r6a.2 A5f c6f w2 (tbx X5b hT) n7f (.error r6b) h4d) fun w3 E7b=>?_
    have X9n:=xtr X5b E7b
    exact ⟨rfl,Cz X9n⟩
  ·have p0o:=zN hz4b e5a
   have f1o:=ifN p0o f9e
   refine wp_cond_false (Aj (evb rfl e5a))<|wp_skip<|h1f _ _<|wp_seq_k fun K5g h5g=>Af<|sV (Ag (o':=1) BB rfl rfl) ?_
   refine sV (Ah Dp rfl (Bx.cell (q5.ext E8) rfl)) ?_
   refine CH (vals:=[(0,.int .u32 1)]) (cs:=[.int .u32 1]) AJ Ap EM (by rfl) (by decide) (by kernel_rfl) fun b2o w2 E6g g3o q4o=>?_
   refine nrm ?_
   have g6s:=nlt E8.size g3o
   have X5d:=xtr E8 E6g
   have n5o:=RL.lit1 q4o (by decide)
   obtain ⟨r7a,h6o,f7o⟩:=Ab f1o
   refine sc (Ae en_220 (by rfl)) (c_nat_Sub x1.Abs 1 A2 c3 (some ⟨b2o,0,none⟩) 1 w2 (tbx X5d hT) (n4.ext X5d) n5o r7a h6o) ?_
   rintro _ w3 E7g ⟨A8g,c9g,rfl,n0h⟩
   refine nrm ?_
   have X8b:=xtr X5d E7g
   refine sV (AB rfl rfl) ?_
   refine sV (AB rfl rfl) ?_
   rcases Bi f7o with ⟨r9b,h6d,f8o⟩ | ⟨r9b,h6d,rfl⟩
   ·refine scO (Ae Iv (by rfl)) (Eg r7a.1 r7a.2 A8g c9g w3 (tbx X8b hT) n0h (.ok r9b) h6d) ?_
    rintro _ w4 E0c ⟨A9o,c0p,rfl,n1p⟩
    refine nrm ?_
    have X1h:=xtr X8b E0c
    refine sV (Aa rfl) ?_
    obtain ⟨r8a,h2p,f3p⟩:=Ab f8o
    refine sc (Ae Ns (by rfl)) (Lp r9b (wi64 (-(max x0 (-33792)))) A9o c0p w4 (tbx X1h hT) n1p r8a h2p) ?_
    rintro _ w5 E2h ⟨A3h,c4h,rfl,n5h⟩
    refine nrm ?_
    have X1c:=xtr X1h E2h
    refine sV (AB rfl rfl) ?_
    refine sV (AB rfl rfl) ?_
    rcases Bi f3p with ⟨r2c,h7d,f4p⟩ | ⟨r2c,h7d,rfl⟩
    ·refine scO (Ae Iv (by rfl)) (Eg r8a.1 r8a.2 A3h c4h w5 (tbx X1c hT) n5h (.ok r2c) h7d) ?_
     rintro _ w6 E3c ⟨A5p,c6p,rfl,n7p⟩
     refine nrm ?_
     have X6h:=xtr X1c E3c
     refine sV (Ac rfl) ?_
     refine Ad<|h5g _ _<|wp_seq_k fun K7h h7h=>Af<|sV (Aa rfl) ?_
     refine CH (vals:=[(0,.int .u32 1)]) (cs:=[.int .u32 1]) AJ Ap EM (by rfl) (by decide) (by kernel_rfl) fun b8p w7 E8d g9p q0q=>?_
     refine nrm ?_
     have g7s:=nlt X6h.size g9p
     have X8h:=xtr X6h E8d
     have n1q:=RL.lit1 q0q (by decide)
     obtain ⟨r9a,h2q,f3q⟩:=Ab f4p
     refine sc (Ae en_221 (by rfl)) (c_nat_Add r2c 1 A5p c6p (some ⟨b8p,0,none⟩) 1 w7 (tbx X8h hT) (n7p.ext E8d) n1q r9a h2q) ?_
     rintro _ w8 E9h ⟨A0i,c1i,rfl,n2i⟩
     refine nrm ?_
     have X4c:=xtr X8h E9h
     refine sV (AB rfl rfl) ?_
     refine sV (AB rfl rfl) ?_
     rcases Bi f3q with ⟨r5c,h9d,f4q⟩ | ⟨r5c,h9d,rfl⟩
     ·refine scO (Ae Iv (by rfl)) (Eg r9a.1 r9a.2 A0i c1i w8 (tbx X4c hT) n2i (.ok r5c) h9d) ?_
      rintro _ w9 E6c ⟨A5q,c6q,rfl,n7q⟩
      refine nrm ?_
      have X3i:=xtr X4c E6c
      obtain ⟨r4i,h8q,f9q⟩:=Ab f4q
      refine sc (Ae Mm (by rfl)) (HU true r5c A5q c6q w9 (tbx X3i hT) n7q r4i h8q) ?_
      rintro _ w0a E5i ⟨A0r,c1r,rfl,n2r⟩
      refine nrm ?_
      have X6i:=xtr X3i E5i
      obtain ⟨r3r,h4r,f5r⟩:=Ab f9q
      refine sc (Ae Ml (by rfl)) (Jd r4i A0r c1r w0a (tbx X6i hT) n2r r3r h4r) ?_
      rintro _ w7c E7i ⟨A6r,c7r,rfl,n8r⟩
      refine nrm ?_
      have X9r:=xtr X6i E7i
      have q8i:=(((((((((q0a.ext E6g).ext E7g).ext E0c).ext E2h).ext E3c).ext E8d).ext E9h).ext E6c).ext E5i).ext E7i
      refine Ay GY rfl rfl q8i rfl rfl rfl rfl (by simp only [SP0,SP1,S0,S1,Nat.reduceAdd];rfl) fun w8c U9i q0s=>?_
      have X1s:=AV X9r U9i g9
      refine Ad<|h7h _ _<|wp_ret ?_
      obtain rfl:=sj f5r
      exact fin rfl (Res.cellN rfl DK q0s rfl rfl Res.nil) (EB X1s ⟨A6r,c7r,rfl,(n8r.upd U9i q8i (by decide))⟩)
     ·refine scP (Ae Iv (by rfl)) (Eg r9a.1 r9a.2 A0i c1i w8 (tbx X4c hT) n2i (.error r5c) h9d) fun w9 E6c=>?_
      have X2s:=xtr X4c E6c
      exact ⟨rfl,Cz X2s⟩
    ·refine scP (Ae Iv (by rfl)) (Eg r8a.1 r8a.2 A3h c4h w5 (tbx X1c hT) n5h (.error r2c) h7d) fun w6 E3c=>?_
     have X3s:=xtr X1c E3c
     exact ⟨rfl,Cz X3s⟩
   ·refine scP (Ae Iv (by rfl)) (Eg r7a.1 r7a.2 A8g c9g w3 (tbx X8b hT) n0h (.error r9b) h6d) fun w4 E0c=>?_
    have X4s:=xtr X8b E0c
    exact ⟨rfl,Cz X4s⟩
theorem c_whole_compute__whole_Shift_1__1 (x0_0:Int) (x0_1:Ai) (x1_0:Ai) (bp0_0:Nat) (bp0_1:Nat) (A2:Option Addr) (c3:Nat) (bp1:Nat) (A6:Option Addr) (c7:Nat) (w:World) (hT:TB w) (q1:Bx w bp0_0 3 [.int .i64 x0_0]) (n4:RU w A2 c3 x0_1.Abs) (q5:Bx w bp0_1 25 [.bool x0_1.Neg,.slice A2 (sz x0_1.Abs) c3]) (n8:RU w A6 c7 x1_0.Abs) (q9:Bx w bp1 25 [.bool x1_0.Neg,.slice A6 (sz x1_0.Abs) c7]) (r:Ai × Int) (hr:CA x0_0 x0_1 x1_0=some r) :
  Calls Tryz.prog 214 #[.func (.func 215) #[] #[.pointer (some ⟨bp0_0,0,none⟩),.pointer (some ⟨bp0_1,0,none⟩)],.slice (some ⟨bp1,0,none⟩) 1 1] w (Ret Lz w r):=by
 unfold CA at hr
 obtain ⟨q0,hq0,hr0⟩:=Ab hr
 unfold Dv at hq0
 go_enter_defers Tryz.func214,Tryz.ntmps214
 refine wp_seq_k fun K3b h3b=>Af<|Aw IE fun b5d w1 E1a g0c q1c=>?_
 refine nrm ?_
 refine Aw Ky fun b2c w2 E2a g3c q4b=>?_
 refine nrm ?_
 have g4c:=nlt E1a.size g3c
 have X3a:=xtr E1a E2a
 refine Ad<|h3b _ _<|wp_seq_k fun K5b h5b=>Af<|Jj (vs:=[.pointer (some ⟨b2c,0,none⟩)]) (by rfl) (by rfl)<|Ad<|h5b _ _<|wp_seq_k fun K6b h6b=>Af<|sV (Aa rfl) ?_
 rcases Bi hq0 with ⟨r6a,h7a,f5c⟩ | ⟨r6a,h7a,rfl⟩
 ·refine scO (Ae NN (by rfl)) (IV x1_0 bp1 A6 c7 w2 (tbx X3a hT) (n8.ext X3a) ((q9.ext E1a).ext E2a) (.ok r6a) h7a) ?_
  rintro _ w3 E0a rfl
  refine nrm ?_
  have X4a:=xtr X3a E0a
  refine Ad<|h6b _ _<|wp_seq_k fun K7b h7b=>Af<|sV (Aa rfl) ?_
  rcases Bi f5c with ⟨r8a,h9a,f32⟩ | ⟨r8a,h9a,rfl⟩
  ·refine scO (Hd (first:=[]) (cap:=[.pointer (some ⟨bp0_0,0,none⟩),.pointer (some ⟨bp0_1,0,none⟩)]) (args:=[]) Nt (by rfl) (by rfl)) (GG x0_0 x0_1 bp0_0 bp0_1 A2 c3 w3 (tbx X4a hT) (((q1.ext E1a).ext E2a).ext E0a) (n4.ext X4a) (((q5.ext E1a).ext E2a).ext E0a) (.ok r8a) h9a) ?_
   rintro _ w4 E5a ⟨A6c,c7c,rfl,n8c⟩
   refine nrm ?_
   have X9c:=xtr X4a E5a
   have q0b:=((q1c.ext E2a).ext E0a).ext E5a
   refine Ay GY rfl rfl q0b rfl rfl rfl rfl (by simp only [SP0,SP1,S0,S1,Nat.reduceAdd];rfl) fun w5 U1b q0d=>?_
   have X1d:=AV X9c U1b g0c
   have ne8b:=(Bx.neT ((q4b.ext E0a).ext E5a) q0b (by decide))
   have q9b:=((q4b.ext E0a).ext E5a).upd U1b ne8b
   refine Ay Ij rfl rfl q9b rfl rfl rfl rfl (by simp only [SP0,SP1,S0,S1,Nat.reduceAdd];rfl) fun w6 U2b q2d=>?_
   have X3d:=AV X1d U2b g4c
   refine Ad<|h7b _ _<|wp_ret ?_
   have n4d:=(n8c.upd U1b q0b (by decide)).upd U2b q9b (by decide)
   obtain rfl:=sj f32
   obtain rfl:=sj hr0
   exact Oe idle_whole_caught en_246 rfl (Res.cellN rfl DK (q0d.upd U2b (Ne.symm ne8b)) rfl rfl (Res.cell1 rfl Ef (Bx.cell q2d rfl) Res.nil)) (Al X3d ⟨A6c,c7c,rfl,n4d⟩)
  ·refine scP (Hd (first:=[]) (cap:=[.pointer (some ⟨bp0_0,0,none⟩),.pointer (some ⟨bp0_1,0,none⟩)]) (args:=[]) Nt (by rfl) (by rfl)) (GG x0_0 x0_1 bp0_0 bp0_1 A2 c3 w3 (tbx X4a hT) (((q1.ext E1a).ext E2a).ext E0a) (n4.ext X4a) (((q5.ext E1a).ext E2a).ext E0a) (.error r8a) h9a) fun w4 E5a=>?_
   cases hr0
 ·refine scP (Ae NN (by rfl)) (IV x1_0 bp1 A6 c7 w2 (tbx X3a hT) (n8.ext X3a) ((q9.ext E1a).ext E2a) (.error r6a) h7a) fun w3 E0a=>?_
  cases hr0
theorem c_whole_Shift (x0:Ai) (x1:Int) (A1:Option Addr) (c2:Nat) (w:World) (hT:TB w) (n3:RU w A1 c2 x0.Abs) (r:Ai × Int) (hr:FV x0 x1=some r) :
  Calls Tryz.prog 156 #[.agg #[.bool x0.Neg,.slice A1 (sz x0.Abs) c2],.int .i64 x1] w (Ret Lz w r):=by
 unfold FV at hr
 go_enter Tryz.func156,Tryz.ntmps156
 refine wp_seq_k fun K4 h4=>Af<|BH rfl rfl fun b5 w1 E6 g7 q8=>?_
 refine nrm ?_
 refine BH rfl rfl fun b9 w2 E3a g0b q1b=>?_
 refine nrm ?_
 have g7c:=nlt E6.size g0b
 have X5a:=xtr E6 E3a
 refine Aw IE fun b8c w3 E1a g2b q6a=>?_
 refine nrm ?_
 have g3b:=nlt X5a.size g2b
 have X7a:=xtr X5a E1a
 refine sV (Ac rfl) ?_
 refine Ad<|h4 _ _<|wp_seq_k fun K8a h8a=>Af<|sV (KT (vs:=[.pointer (some ⟨b9,0,none⟩),.pointer (some ⟨b5,0,none⟩)]) rfl) ?_
 refine sV (Am DK rfl ((q8.ext E3a).ext E1a) rfl) ?_
 refine CH (vals:=[(0,.agg #[.bool x0.Neg,.slice A1 (sz x0.Abs) c2])]) (cs:=[.bool x0.Neg,.slice A1 (sz x0.Abs) c2]) Mk GY IE (by rfl) (by decide) (by kernel_rfl) fun b4b w4 E0a g5b q6b=>?_
 refine nrm ?_
 have g9c:=nlt X7a.size g5b
 have X2a:=xtr X7a E0a
 obtain ⟨r7b,h8b,f9b⟩:=Ab hr
 refine sc (Ae en_214 (by rfl)) (c_whole_compute__whole_Shift_1__1 x1 x0 x0 b9 b5 A1 c2 b4b A1 c2 w4 (tbx X2a hT) ((q1b.ext E1a).ext E0a) (n3.ext X2a) (((q8.ext E3a).ext E1a).ext E0a) (n3.ext X2a) q6b r7b h8b) ?_
 rintro _ w5 E4a ⟨A0c,c1c,rfl,n2c⟩
 refine nrm ?_
 have X3c:=xtr X2a E4a
 refine sV (AB rfl rfl) ?_
 refine sV (AB rfl rfl) ?_
 refine Ay GY rfl rfl ((q6a.ext E0a).ext E4a) rfl rfl rfl rfl (by simp only [SP0,SP1,S0,S1,Nat.reduceAdd];rfl) fun w6 U9a q4c=>?_
 have X5c:=AV X3c U9a g3b
 refine sV (Ac rfl) ?_
 refine Ad<|h8a _ _<|wp_ret ?_
 have n6c:=n2c.upd U9a ((q6a.ext E0a).ext E4a) (by decide)
 obtain rfl:=sj f9b
 exact fin rfl (Res.cellN rfl DK q4c rfl rfl (Res.tmp rfl Res.nil)) (Al X5c ⟨A0c,c1c,rfl,n6c⟩)
theorem c_dyad_ToRat (x0:Au) (A1:Option Addr) (c2:Nat) (w:World) (hT:TB w) (n3:RLu w A1 c2 x0.Man.Abs) (r:Cw × Int) (hr:EV x0=some r) :
  Calls Tryz.prog 63 #[.agg #[.bool x0.Man.Neg,.slice A1 x0.Man.Abs.length c2,.int .i64 x0.Exp]] w (Ret rep_65_33 w r):=by
 unfold EV at hr
 obtain ⟨q0,hq0,hr0⟩:=Ab hr
 unfold Hn at hq0
 go_enter_defers Tryz.func63,Tryz.ntmps63
 refine wp_seq_k fun K4 h4=>Af<|BH rfl rfl fun b5 w1 E6 g7 q8=>?_
 refine nrm ?_
 refine Aw Ls fun b9 w2 E9b g2e q9a=>?_
 refine nrm ?_
 have g5b:=nlt E6.size g2e
 have X3e:=xtr E6 E9b
 refine Aw Ky fun b9c w3 E5a g6i q0b=>?_
 refine nrm ?_
 have g0c:=nlt X3e.size g6i
 have X9f:=xtr X3e E5a
 refine Ad<|h4 _ _<|wp_seq_k fun K0g h0g=>Af<|Jj (vs:=[.pointer (some ⟨b9,0,none⟩),.pointer (some ⟨b9c,0,none⟩)]) (by rfl) (by rfl)<|Ad<|h0g _ _<|wp_seq_k fun K1g h1g=>Af<|sV (Am BC rfl ((q8.ext E9b).ext E5a) rfl) ?_
 refine CH (vals:=[(0,.agg #[.bool x0.Man.Neg,.slice A1 x0.Man.Abs.length c2,.int .i64 x0.Exp])]) (cs:=[.bool x0.Man.Neg,.slice A1 x0.Man.Abs.length c2,.int .i64 x0.Exp]) MW EU GB (by rfl) (by decide) (by kernel_rfl) fun b2g w4 E1a g7i q3g=>?_
 refine nrm ?_
 have g1p:=nlt X9f.size g7i
 have X6b:=xtr X9f E1a
 rcases Bi hq0 with ⟨r0d,h4e,f4g⟩ | ⟨r0d,h4e,rfl⟩
 ·refine scO (Ae LZ (by rfl)) (GH x0 b2g A1 c2 w4 (tbx X6b hT) (n3.ext X6b) q3g (.ok r0d) h4e) ?_
  rintro _ w5 E0a rfl
  refine nrm ?_
  have X1c:=xtr X6b E0a
  refine Ad<|h1g _ _<|wp_seq_k fun K5g h5g=>wp_seq_k fun K6g h6g=>Af<|sV (Ag (o':=2) DV rfl rfl) ?_
  have q7b:=(((q8.ext E9b).ext E5a).ext E1a).ext E0a
  refine sV (Ah EA rfl (Bx.cell q7b rfl)) ?_
  refine sb (Fh rfl rfl) fun z1d hz1d=>?_
  refine nrm ?_
  refine Ad<|h6g _ _ ?_
  rcases bft z1d with e2c | e2c
  ·have p8i:=zP hz1d e2c
   have f9i:=ifP p8i f4g
   refine wp_cond_true (Aj (evb rfl e2c))<|wp_seq_k fun K7g h7g=>Af<|sV (Ag (o':=0) DM rfl rfl) ?_
   refine sV (AE DK rfl q7b (by simp only [List.drop_zero,List.take_succ_cons,List.take_zero];rfl) rfl) ?_
   refine sV (Ag (o':=2) DV rfl rfl) ?_
   refine sV (Ah EA rfl (Bx.cell q7b rfl)) ?_
   obtain ⟨m8g,h0j,f1j⟩:=Ab f9i
   have hx9g:=Dh h0j
   have n2j:RU w5 A1 c2 m8g:=by unfold RU;rw [hx9g];exact (n3.ext X1c)
   obtain ⟨r6a,h3j,f4j⟩:=Ab f1j
   refine sc (Ae en_156 (by simp only [sz,hx9g];rfl)) (c_whole_Shift (⟨x0.Man.Neg,m8g⟩:Ai) x0.Exp A1 c2 w5 (tbx X1c hT) n2j r6a h3j) ?_
   rintro _ w6 E1b ⟨A5j,c6j,rfl,n7j⟩
   refine nrm ?_
   have X0h:=xtr X1c E1b
   refine sV (Aa rfl) ?_
   refine sV (AB rfl rfl) ?_
   refine sV (AB rfl rfl) ?_
   refine Aw IE fun b2p w7 E8j g1h q9j=>?_
   refine nrm ?_
   have g0k:=nlt X0h.size g1h
   refine Ay GY rfl rfl q9j rfl rfl rfl rfl (by simp only [SP0,SP1,S0,S1,Nat.reduceAdd];rfl) fun w8 U1k q3c=>?_
   have F7a:=AV E8j U1k g1h
   have X2d:=xtr X0h F7a
   refine sV (Ac rfl) ?_
   refine Ad<|h7g _ _<|wp_seq_k fun K2h h2h=>Af<|sV (Aa rfl) ?_
   refine sb (Cc rfl rfl) fun z5e hz5e=>?_
   refine nrm ?_
   refine sV (Aa rfl) ?_
   obtain rfl:z5e=decide (r6a.2=0):=bz hz5e
   rcases Bi f4j with ⟨r3d,h6e,f2k⟩ | ⟨r3d,h6e,rfl⟩
   ·refine scO (Ae EQ (by rfl)) (BA (decide (r6a.2=0)) r6a.2 w8 (tbx X2d hT)  (.ok r3d) h6e) ?_
    rintro _ w9 E2a rfl
    refine nrm ?_
    have X3h:=xtr X2d E2a
    refine Ad<|h2h _ _<|wp_seq_k fun K4h h4h=>Af<|sV (Ag (o':=1) BB rfl rfl) ?_
    refine sV (Ah Dp rfl (Bx.cell (q3c.ext E2a) rfl)) ?_
    obtain ⟨r7e,h3k,f4k⟩:=Ab f2k
    refine sc (Ae MC (by rfl)) (FE r6a.1.Abs A5j c6j w9 (tbx X3h hT) ((n7j.ext F7a).ext E2a) r7e h3k) ?_
    rintro _ w9b E4a ⟨A8e,c9e,rfl,n5k⟩
    refine nrm ?_
    have X6k:=xtr X3h E4a
    refine sV (Ag (o':=1) BB rfl rfl) ?_
    refine Ay NQ rfl rfl ((q3c.ext E2a).ext E4a) rfl rfl rfl rfl (by simp only [SP0,SP1,S0,S1,Nat.reduceAdd];rfl) fun w2e U4c q7k=>?_
    have X5h:=AV X6k U4c g0k
    refine Ad<|h4h _ _<|wp_seq_k fun K6h h6h=>Af<|sV (Am DK rfl q7k rfl) ?_
    refine CH (vals:=[(0,.int .u32 1)]) (cs:=[.int .u32 1]) AJ Ap EM (by rfl) (by decide) (by kernel_rfl) fun b0f w9a E5c g8k q9k=>?_
    refine nrm ?_
    have g3p:=nlt X5h.size g8k
    have X0l:=xtr X5h E5c
    have n1l:=RL.lit1 q9k (by decide)
    refine sV (AL (vals:=[(0,.agg #[.bool r6a.1.Neg,.slice A8e (sz r7e) c9e]),(1,.slice (some ⟨b0f,0,none⟩) (sz 1) 1)]) (cells:=[.bool r6a.1.Neg,.slice A8e (sz r7e) c9e,.slice (some ⟨b0f,0,none⟩) (sz 1) 1]) (by rfl) (by kernel_rfl)) ?_
    have ne2l:=(Bx.neT (((((((q9a.ext E5a).ext E1a).ext E0a).ext E1b).ext F7a).ext E2a).ext E4a) ((q3c.ext E2a).ext E4a) (by decide))
    have q4d:=((((((((q9a.ext E5a).ext E1a).ext E0a).ext E1b).ext F7a).ext E2a).ext E4a).upd U4c ne2l).ext E5c
    refine Ay JD rfl rfl q4d rfl rfl rfl rfl (by simp only [SP0,SP1,S0,S1,Nat.reduceAdd];rfl) fun w5b U5d q3l=>?_
    have X4l:=AV X0l U5d g5b
    have ne7h:=(Bx.neT ((((((q0b.ext E1a).ext E0a).ext E1b).ext F7a).ext E2a).ext E4a) ((q3c.ext E2a).ext E4a) (by decide))
    have ne8h:=(Bx.neT ((((((((q0b.ext E1a).ext E0a).ext E1b).ext F7a).ext E2a).ext E4a).upd U4c ne7h).ext E5c) q4d (by decide))
    have q1f:=((((((((q0b.ext E1a).ext E0a).ext E1b).ext F7a).ext E2a).ext E4a).upd U4c ne7h).ext E5c).upd U5d ne8h
    refine Ay Ij rfl rfl q1f rfl rfl rfl rfl (by simp only [SP0,SP1,S0,S1,Nat.reduceAdd];rfl) fun w3e U6d q5l=>?_
    have X6l:=AV X4l U6d g0c
    refine Ad<|h6h _ _<|wp_ret ?_
    have n7l:=(((n5k.upd U4c ((q3c.ext E2a).ext E4a) (by decide)).ext E5c).upd U5d q4d (by decide)).upd U6d q1f (by decide)
    have n8l:=(n1l.upd U5d q4d (by decide)).upd U6d q1f (by decide)
    obtain rfl:=sj f4k
    obtain rfl:=sj hr0
    exact Md Hu KX rfl (Res.cellN rfl IG (q3l.upd U6d (Ne.symm ne8h)) rfl rfl (Res.cell1 rfl Ef (Bx.cell q5l rfl) Res.nil)) (Al X6l ⟨A8e,c9e,(some ⟨b0f,0,none⟩),1,rfl,n7l,n8l⟩)
   ·refine scP (Ae EQ (by rfl)) (BA (decide (r6a.2=0)) r6a.2 w8 (tbx X2d hT)  (.error r3d) h6e) fun w9 E2a=>?_
    have X9l:=xtr X2d E2a
    have q0m:=(((((q9a.ext E5a).ext E1a).ext E0a).ext E1b).ext F7a).ext E2a
    have q1m:=((((q0b.ext E1a).ext E0a).ext E1b).ext F7a).ext E2a
    refine IX KX (GZ b9 b9c (.bool false:Value) (.slice none 0 0:Value) (.slice none 0 0:Value) (.int .i64 0:Value) r3d q0m q1m) rfl ?_
    rintro w9 ⟨u9,q9,q9'⟩
    obtain rfl:=sj hr0
    exact ⟨_,(Res.cellN rfl IG q9 rfl rfl (Res.cell1 rfl Ef (Bx.cell q9' rfl) Res.nil)),Al (u9.toExt X9l g5b g0c) ⟨none,0,none,0,rfl,RU.nil _,RU.nil _⟩⟩
  ·have p2m:=zN hz1d e2c
   have f3m:=ifN p2m f4g
   refine wp_cond_false (Aj (evb rfl e2c))<|wp_skip<|h5g _ _<|wp_seq_k fun K9h h9h=>Af<|CH (vals:=[(0,.int .u32 1)]) (cs:=[.int .u32 1]) AJ Ap EM (by rfl) (by decide) (by kernel_rfl) fun b4m w6 E8a g5m q6m=>?_
   refine nrm ?_
   have g4p:=nlt X1c.size g5m
   have X0i:=xtr X1c E8a
   have n7m:=RL.lit1 q6m (by decide)
   refine sV (Ag (o':=2) DV rfl rfl) ?_
   refine sV (Ah EA rfl (Bx.cell (q7b.ext E8a) rfl)) ?_
   refine sV (MV (c:=wi64 (-x0.Exp)) rfl rfl) ?_
   obtain ⟨r2b,h8m,f9m⟩:=Ab f3m
   refine sc (Ae NW (by rfl)) (Lr 1 (wi64 (-x0.Exp)) (some ⟨b4m,0,none⟩) 1 w6 (tbx X0i hT) n7m r2b h8m) ?_
   rintro _ w7 E3b ⟨A2f,c3f,rfl,n0n⟩
   refine nrm ?_
   have X7d:=xtr X0i E3b
   refine sV (Aa rfl) ?_
   refine sV (AB rfl rfl) ?_
   refine sV (AB rfl rfl) ?_
   refine sV (Ac rfl) ?_
   refine sV (Ac rfl) ?_
   refine Ad<|h9h _ _<|wp_seq_k fun K1i h1i=>Af<|sV (Aa rfl) ?_
   refine sb (Cc rfl rfl) fun z4f hz4f=>?_
   refine nrm ?_
   refine sV (Aa rfl) ?_
   obtain rfl:z4f=decide (r2b.2=0):=bz hz4f
   rcases Bi f9m with ⟨r8d,h5f,f1n⟩ | ⟨r8d,h5f,rfl⟩
   ·refine scO (Ae EQ (by rfl)) (BA (decide (r2b.2=0)) r2b.2 w7 (tbx X7d hT)  (.ok r8d) h5f) ?_
    rintro _ w8 E3a rfl
    refine nrm ?_
    have X2n:=xtr X7d E3a
    refine Ad<|h1i _ _<|wp_seq_k fun K2i h2i=>DH [10,11] 12 mo rfl fun w9 E4b S6f=>?_
    have X7f:=xtr X2n E4b
    refine dA 0 rfl (fun _=>Ag (o':=0) DM rfl rfl) ?_ (hQ:=fun _ _ _ h=>dq (rs:=[.cell 2 65,.cell 3 33]) rfl (by decide) h)
    refine dA 1 rfl (fun _=>Ag (o':=0) Et rfl rfl) ?_ (hQ:=fun _ _ _ h=>dq (rs:=[.cell 2 65,.cell 3 33]) rfl (by decide) h)
    refine dV 2 rfl (fun _ hw=>Ah Gf rfl (Bx.cell (((((q7b.ext E8a).ext E3b).ext E3a).ext E4b).ext hw) rfl)) S6f ?_ (hQ:=fun _ _ _ h=>dq (rs:=[.cell 2 65,.cell 3 33]) rfl (by decide) h)
    refine dA 3 rfl (fun _=>Ag (o':=0) DM rfl rfl) ?_ (hQ:=fun _ _ _ h=>dq (rs:=[.cell 2 65,.cell 3 33]) rfl (by decide) h)
    refine dA 4 rfl (fun _=>Ag (o':=1) BB rfl rfl) ?_ (hQ:=fun _ _ _ h=>dq (rs:=[.cell 2 65,.cell 3 33]) rfl (by decide) h)
    refine dV 5 rfl (fun _ hw=>Ah Dp rfl (Bx.cell (((((q7b.ext E8a).ext E3b).ext E3a).ext E4b).ext hw) rfl)) S6f ?_ (hQ:=fun _ _ _ h=>dq (rs:=[.cell 2 65,.cell 3 33]) rfl (by decide) h)
    refine dA 8 rfl (fun _=>Aa rfl) ?_ (hQ:=fun _ _ _ h=>dq (rs:=[.cell 2 65,.cell 3 33]) rfl (by decide) h)
    obtain ⟨m3i,h3n,f4n⟩:=Ab f1n
    have hx4i:=Dh h3n
    have n5n:RU w9 A1 c2 m3i:=by unfold RU;rw [hx4i];exact (n3.ext X7f)
    obtain ⟨r6c,h6n,f7n⟩:=Ab f4n
    refine dc 6 rfl (by kernel_rfl) (by rfl) (Ae MC (by simp only [sz,hx4i];rfl)) (FE m3i A1 c2 w9 (tbx X7f hT) n5n r6c h6n) ?_
    rintro _ w9b E8b ⟨A7c,c8c,rfl,n8n⟩
    refine dnrm ?_
    have X9n:=xtr X7f E8b
    have S5p:=S6f.trans E8b
    refine dA 7 rfl (fun _=>AL (vals:=[(0,.bool x0.Man.Neg),(1,.slice A7c (sz r6c) c8c)]) (cells:=[.bool x0.Man.Neg,.slice A7c (sz r6c) c8c]) (by rfl) (by kernel_rfl)) ?_ (hQ:=fun _ _ _ h=>dq (rs:=[.cell 2 65,.cell 3 33]) rfl (by decide) h)
    refine dA 9 rfl (fun _=>AL (vals:=[(0,.agg #[.bool x0.Man.Neg,.slice A7c (sz r6c) c8c]),(1,.slice A2f (sz r2b.1) c3f)]) (cells:=[.bool x0.Man.Neg,.slice A7c (sz r6c) c8c,.slice A2f (sz r2b.1) c3f]) (by rfl) (by kernel_rfl)) ?_ (hQ:=fun _ _ _ h=>dq (rs:=[.cell 2 65,.cell 3 33]) rfl (by decide) h)
    have q9d:=(((((((q9a.ext E5a).ext E1a).ext E0a).ext E8a).ext E3b).ext E3a).ext E4b).ext E8b
    refine dk 10 rfl (by kernel_rfl) (by decide) (by rfl) JD rfl rfl q9d rfl rfl rfl rfl (by simp only [SP0,SP1,S0,S1,Nat.reduceAdd];rfl) fun w2e U0e q0o=>?_
    have X1o:=AV X9n U0e g5b
    have ne5i:=(Bx.neT (((((((q0b.ext E1a).ext E0a).ext E8a).ext E3b).ext E3a).ext E4b).ext E8b) q9d (by decide))
    have q8f:=(((((((q0b.ext E1a).ext E0a).ext E8a).ext E3b).ext E3a).ext E4b).ext E8b).upd U0e ne5i
    refine dk 11 rfl (by kernel_rfl) (by decide) (by rfl) Ij rfl rfl q8f rfl rfl rfl rfl (by simp only [SP0,SP1,S0,S1,Nat.reduceAdd];rfl) fun w9a U1e q2o=>?_
    have X3o:=AV X1o U1e g0c
    refine Ct (by kernel_rfl) ?_
    refine h2i _ _<|wp_ret ?_
    have n4o:=(n8n.upd U0e q9d (by decide)).upd U1e q8f (by decide)
    have n5o:=((((n0n.ext E3a).ext E4b).ext E8b).upd U0e q9d (by decide)).upd U1e q8f (by decide)
    obtain rfl:=sj f7n
    obtain rfl:=sj hr0
    exact Md Hu KX rfl (Res.cellN rfl IG (q0o.upd U1e (Ne.symm ne5i)) rfl rfl (Res.cell1 rfl Ef (Bx.cell q2o rfl) Res.nil)) (Al X3o ⟨A7c,c8c,A2f,c3f,rfl,n4o,n5o⟩)
   ·refine scP (Ae EQ (by rfl)) (BA (decide (r2b.2=0)) r2b.2 w7 (tbx X7d hT)  (.error r8d) h5f) fun w8 E3a=>?_
    have X6o:=xtr X7d E3a
    have q7o:=(((((q9a.ext E5a).ext E1a).ext E0a).ext E8a).ext E3b).ext E3a
    have q8o:=((((q0b.ext E1a).ext E0a).ext E8a).ext E3b).ext E3a
    refine IX KX (GZ b9 b9c (.bool false:Value) (.slice none 0 0:Value) (.slice none 0 0:Value) (.int .i64 0:Value) r8d q7o q8o) rfl ?_
    rintro w9 ⟨u9,q9,q9'⟩
    obtain rfl:=sj hr0
    exact ⟨_,(Res.cellN rfl IG q9 rfl rfl (Res.cell1 rfl Ef (Bx.cell q9' rfl) Res.nil)),Al (u9.toExt X6o g5b g0c) ⟨none,0,none,0,rfl,RU.nil _,RU.nil _⟩⟩
 ·refine scP (Ae LZ (by rfl)) (GH x0 b2g A1 c2 w4 (tbx X6b hT) (n3.ext X6b) q3g (.error r0d) h4e) fun w5 E0a=>?_
  have X9o:=xtr X6b E0a
  have q0p:=((q9a.ext E5a).ext E1a).ext E0a
  refine IX KX (GZ b9 b9c (.bool false:Value) (.slice none 0 0:Value) (.slice none 0 0:Value) (.int .i64 0:Value) r0d q0p ((q0b.ext E1a).ext E0a)) rfl ?_
  rintro w9 ⟨u9,q9,q9'⟩
  obtain rfl:=sj hr0
  exact ⟨_,(Res.cellN rfl IG q9 rfl rfl (Res.cell1 rfl Ef (Bx.cell q9' rfl) Res.nil)),Al (u9.toExt X9o g5b g0c) ⟨none,0,none,0,rfl,RU.nil _,RU.nil _⟩⟩
theorem c_sorobanlaw04_agrees (x0:Ak) (x1:Int) (x2:Int) (x3:Ak) (A1:Option Addr) (c2:Nat) (A4:Option Addr) (c5:Nat) (w:World) (hT:TB w) (n3:RU w A1 c2 x0.Man.Abs) (n6:RU w A4 c5 x3.Man.Abs) (r:Bool) (hr:BN x0 x1 x2 x3=some r) :
  Calls Tryz.prog 50 #[.agg #[.bool x0.Man.Neg,.slice A1 (sz x0.Man.Abs) c2,.int .i64 x0.Exp],.int .i64 x1,.int .i64 x2,.agg #[.bool x3.Man.Neg,.slice A4 (sz x3.Man.Abs) c5,.int .i64 x3.Exp]] w (Ret Ff w r):=by
 unfold BN at hr
 go_enter Tryz.func50,Tryz.ntmps50
 refine wp_seq_k fun K7 h7=>Af<|BH rfl rfl fun b8 w1 E9 g0h q1b=>?_
 refine nrm ?_
 refine BH rfl rfl fun b1h w2 E9a g4d q5d=>?_
 refine nrm ?_
 have g2h:=nlt E9.size g4d
 have X2a:=xtr E9 E9a
 refine sV (Ac rfl) ?_
 refine Ad<|h7 _ _<|wp_seq_k fun K2b h2b=>wp_seq_k fun K3b h3b=>Af<|sV (Aa rfl) ?_
 refine sb (Ii rfl rfl) fun z5a hz5a=>?_
 refine nrm ?_
 refine Ad<|h3b _ _ ?_
 rcases bft z5a with e3a | e3a
 ·have p6d:=zP hz5a e3a
  have f7d:=ifP p6d hr
  refine wp_cond_true (Aj (evb rfl e3a))<|wp_seq_k fun K4b h4b=>Af<|sV (Aa rfl) ?_
  refine sV (Aa rfl) ?_
  refine sb (Cc rfl rfl) fun z6a hz6a=>?_
  refine nrm ?_
  refine sV (Aa rfl) ?_
  obtain ⟨m8d,h5b,f9d⟩:=Ab f7d
  refine Cm 8 (fun l l' w'=>∃(t6b:Value) (t7b:Value) (t8b:Value),UpdS [] w2 w'∧l'=((((l.set 16 t6b).set 17 t7b).set 18 t8b).set 19 (.bool m8d))) ?_ ?_
  ·intro HJ134
   rcases bft z6a with e1a | e1a
   ·have p0e:=zP hz6a e1a
    have f1e:=ifP p0e h5b
    refine sV (Am BC rfl (q1b.ext E9a) rfl) ?_ (hw:=wgT rfl e1a)
    refine sV (AL (vals:=[]) (cells:=[.bool false,.slice none 0 0,.int .i64 0]) (by rfl) (by kernel_rfl)) ?_ (hw:=wgT rfl e1a)
    obtain ⟨r9b,h2e,f3e⟩:=Ab f1e
    refine sc (Ae Li (by rfl)) (Di x0 (⟨(⟨false,0⟩:Ai),0⟩:Ak) A1 c2 none 0 w2 (tbx X2a hT) (n3.ext X2a) (RU.nil _) r9b h2e) ?_ (hw:=wgT rfl e1a)
    rintro _ w3 E4e rfl
    refine nrm ?_
    refine sV (Ax (evb rfl e1a) rfl) ?_
    obtain rfl:=sj f3e
    exact HJ134 _ _ ⟨(.agg #[.bool x0.Man.Neg,.slice A1 (sz x0.Man.Abs) c2,.int .i64 x0.Exp]),(.agg #[.bool false,.slice none 0 0,.int .i64 0]),(.bool r9b),((UpdS.refl _ _).ext E4e),(by simp only [S0,S1]<;>rfl)⟩
   ·have p5e:=zN hz6a e1a
    have f6e:=ifN p5e h5b
    refine sP ?_ (hw:=wgF rfl e1a)
    refine sP ?_ (hw:=wgF rfl e1a)
    refine sP ?_ (hw:=wgF rfl e1a)
    refine sV (AG (evb rfl e1a) rfl) ?_
    obtain rfl:=sj f6e
    exact HJ134 _ _ ⟨uu,uu,uu,(UpdS.refl _ _),(by simp only [S0,S1]<;>rfl)⟩
  ·rintro l' w3 ⟨t6b,t7b,t8b,U7e,hq'⟩ l'' hl
   rw [hq'] at hl
   clear hq'
   simp only [S0,S1] at hl
   subst hl
   have X8e:=IM X2a U7e (X2a).size al0
   refine sV (Ac rfl) ?_
   refine Ad<|h4b _ _<|wp_ret ?_
   obtain rfl:=sj f9d
   exact fin rfl (Res.tmp rfl Res.nil) (Al X8e rfl)
 ·have p9e:=zN hz5a e3a
  have f0f:=ifN p9e hr
  refine wp_cond_false (Aj (evb rfl e3a))<|wp_skip<|h2b _ _<|wp_seq_k fun K0c h0c=>Af<|sV (Am BC rfl q5d rfl) ?_
  obtain ⟨r4a,h1f,f2f⟩:=Ab f0f
  refine sc (Ae en_134 (by rfl)) (c_sorobanref04_Fits x3 A4 c5 w2 (tbx X2a hT) (n6.ext X2a) r4a h1f) ?_
  rintro _ w3 E1c ⟨A2c,c3c,rfl,n3f⟩
  refine nrm ?_
  have X4c:=xtr X2a E1c
  refine Aw Nu fun b4f w4 E5f g5c q6f=>?_
  refine nrm ?_
  have g3h:=nlt X4c.size g5c
  refine Ay Mq rfl rfl q6f rfl rfl rfl rfl (by simp only [SP0,SP1,S0,S1,Nat.reduceAdd];rfl) fun w5 U7f q6c=>?_
  have F0b:=AV E5f U7f g5c
  have X7a:=xtr X4c F0b
  refine Ad<|h0c _ _<|wp_seq_k fun K7c h7c=>Af<|sV (Aa rfl) ?_
  refine sV (Ag (o':=3) fa_154_1 rfl rfl) ?_
  refine sV (Ah Ef rfl (Bx.cell q6c rfl)) ?_
  refine sb (Cc rfl rfl) fun z8a hz8a=>?_
  refine nrm ?_
  refine sV (Aa rfl) ?_
  obtain ⟨m8f,h8c,f9f⟩:=Ab f2f
  refine Cm 10 (fun l l' w'=>∃(t9c:Value) (t0d:Value) (t1d:Value) (t2d:Value),UpdS [] w5 w'∧l'=(((((l.set 27 t9c).set 28 t0d).set 29 t1d).set 30 t2d).set 31 (.bool m8f))) ?_ ?_
  ·intro HJ102
   rcases bft z8a with e0a | e0a
   ·have p0g:=zP hz8a e0a
    have f1g:=ifP p0g h8c
    have q2g:=((q1b.ext E9a).ext E1c).ext F0b
    refine sV (Am BC rfl q2g rfl) ?_ (hw:=wgT rfl e0a)
    refine sV (Ag (o':=0) fa_154_0 rfl rfl) ?_ (hw:=wgT rfl e0a)
    refine sV (AE BC rfl q6c (by simp only [List.drop_zero,List.take_succ_cons,List.take_zero];rfl) rfl) ?_ (hw:=wgT rfl e0a)
    obtain ⟨r3d,h3g,f4g⟩:=Ab f1g
    refine sc (Ae Li (by rfl)) (Di x0 r4a.D A1 c2 A2c c3c w5 (tbx X7a hT) (n3.ext X7a) (n3f.ext F0b) r3d h3g) ?_ (hw:=wgT rfl e0a)
    rintro _ w6 E5g rfl
    refine nrm ?_
    refine sV (Ax (evb rfl e0a) rfl) ?_
    obtain rfl:=sj f4g
    exact HJ102 _ _ ⟨(.agg #[.bool x0.Man.Neg,.slice A1 (sz x0.Man.Abs) c2,.int .i64 x0.Exp]),(.pointer (some ⟨b4f,0,none⟩)),(.agg #[.bool r4a.D.Man.Neg,.slice A2c (sz r4a.D.Man.Abs) c3c,.int .i64 r4a.D.Exp]),(.bool r3d),((UpdS.refl _ _).ext E5g),(by simp only [S0,S1]<;>rfl)⟩
   ·have p6g:=zN hz8a e0a
    have f7g:=ifN p6g h8c
    refine sP ?_ (hw:=wgF rfl e0a)
    refine sP ?_ (hw:=wgF rfl e0a)
    refine sP ?_ (hw:=wgF rfl e0a)
    refine sP ?_ (hw:=wgF rfl e0a)
    refine sV (AG (evb rfl e0a) rfl) ?_
    obtain rfl:=sj f7g
    exact HJ102 _ _ ⟨uu,uu,uu,uu,(UpdS.refl _ _),(by simp only [S0,S1]<;>rfl)⟩
  ·rintro l' w6 ⟨t9c,t0d,t1d,t2d,U8g,hq'⟩ l'' hl
   rw [hq'] at hl
   clear hq'
   simp only [S0,S1] at hl
   subst hl
   have X9g:=IM X7a U8g (X7a).size al0
   refine sV (Ac rfl) ?_
   refine Ad<|h7c _ _<|wp_ret ?_
   obtain rfl:=sj f9f
   exact fin rfl (Res.tmp rfl Res.nil) (Al X9g rfl)
theorem HF (x0:Cw) (x1:Cw) (A1:Option Addr) (c2:Nat) (A4:Option Addr) (c5:Nat) (A7:Option Addr) (c8:Nat) (A2a:Option Addr) (c3a:Nat) (w:World) (hT:TB w) (n3:RU w A1 c2 x0.Num.Abs) (n6:RU w A4 c5 x0.Den) (n9:RU w A7 c8 x1.Num.Abs) (n0c:RU w A2a c3a x1.Den) (r:Bool) (hr:Ch x0 x1=some r) :
  Calls Tryz.prog 66 #[.agg #[.bool x0.Num.Neg,.slice A1 (sz x0.Num.Abs) c2,.slice A4 (sz x0.Den) c5],.agg #[.bool x1.Num.Neg,.slice A7 (sz x1.Num.Abs) c8,.slice A2a (sz x1.Den) c3a]] w (Ret Ff w r):=by
 unfold Ch at hr
 go_enter Tryz.func66,Tryz.ntmps66
 refine wp_seq_k fun K7a h7a=>Af<|BH rfl rfl fun b1c w1 E8a g7d q9a=>?_
 refine nrm ?_
 refine BH rfl rfl fun b2c w2 E5a g3c q0b=>?_
 refine nrm ?_
 have g8d:=nlt E8a.size g3c
 have X4a:=xtr E8a E5a
 refine sV (Ac rfl) ?_
 refine Ad<|h7a _ _<|wp_seq_k fun K1b h1b=>Af<|sV (Ag (o':=0) Ni rfl rfl) ?_
 refine sV (AE DK rfl (q9a.ext E5a) (by simp only [List.drop_zero,List.take_succ_cons,List.take_zero];rfl) rfl) ?_
 refine sV (Ag (o':=0) Ni rfl rfl) ?_
 refine sV (AE DK rfl q0b (by simp only [List.drop_zero,List.take_succ_cons,List.take_zero];rfl) rfl) ?_
 obtain ⟨r2b,h4c,f5c⟩:=Ab hr
 refine sc (Ae OG (by rfl)) (GU x0.Num x1.Num A1 c2 A7 c8 w2 (tbx X4a hT) (n3.ext X4a) (n9.ext X4a) r2b h4c) ?_
 rintro _ w3 E6a rfl
 refine nrm ?_
 have X1a:=xtr X4a E6a
 refine sV (Aa rfl) ?_
 obtain ⟨m6c,h3b,f7c⟩:=Ab f5c
 refine Cm 12 (fun l l' w'=>∃(t4b:Value) (t5b:Value) (t6b:Value) (t7b:Value) (t8b:Value),UpdS [] w3 w'∧l'=((((((l.set 11 t4b).set 12 t5b).set 13 t6b).set 14 t7b).set 15 t8b).set 16 (.bool m6c))) ?_ ?_
 ·intro HJ49
  rcases bft r2b with e0a | e0a
  ·have p8c:=e0a
   have f9c:=ifP p8c h3b
   refine sV (Ag (o':=2) MX rfl rfl) ?_ (hw:=wgT rfl e0a)
   refine sV (Ah Dp rfl (Bx.cell ((q9a.ext E5a).ext E6a) rfl)) ?_ (hw:=wgT rfl e0a)
   refine sV (Ag (o':=2) MX rfl rfl) ?_ (hw:=wgT rfl e0a)
   refine sV (Ah Dp rfl (Bx.cell (q0b.ext E6a) rfl)) ?_ (hw:=wgT rfl e0a)
   obtain ⟨r9b,h0d,f1d⟩:=Ab f9c
   refine sc (Ae MD (by rfl)) (Ez (limbs x0.Den) (limbs x1.Den) A4 c5 A2a c3a w3 (tbx X1a hT) (n6.ext X1a) (n0c.ext X1a) r9b h0d) ?_ (hw:=wgT rfl e0a)
   rintro _ w4 E2d rfl
   refine nrm ?_
   refine sV (Ax (evb rfl e0a) rfl) ?_
   obtain rfl:=sj f1d
   exact HJ49 _ _ ⟨(.pointer (some ⟨b1c,2,none⟩)),(.slice A4 (sz x0.Den) c5),(.pointer (some ⟨b2c,2,none⟩)),(.slice A2a (sz x1.Den) c3a),(.bool r9b),((UpdS.refl _ _).ext E2d),(by simp only [S0,S1]<;>rfl)⟩
  ·have p3d:=bF e0a
   have f4d:=ifN p3d h3b
   refine sP ?_ (hw:=wgF rfl e0a)
   refine sP ?_ (hw:=wgF rfl e0a)
   refine sP ?_ (hw:=wgF rfl e0a)
   refine sP ?_ (hw:=wgF rfl e0a)
   refine sP ?_ (hw:=wgF rfl e0a)
   refine sV (AG (evb rfl e0a) rfl) ?_
   obtain rfl:=sj f4d
   exact HJ49 _ _ ⟨uu,uu,uu,uu,uu,(UpdS.refl _ _),(by simp only [S0,S1]<;>rfl)⟩
 ·rintro l' w4 ⟨t4b,t5b,t6b,t7b,t8b,U5d,hq'⟩ l'' hl
  rw [hq'] at hl
  clear hq'
  simp only [S0,S1] at hl
  subst hl
  have X6d:=IM X1a U5d (X1a).size al0
  refine sV (Ac rfl) ?_
  refine Ad<|h1b _ _<|wp_ret ?_
  obtain rfl:=sj f7c
  exact fin rfl (Res.tmp rfl Res.nil) (Al X6d rfl)
theorem c_sorobanref03_Whole (x0:Ai) (A1:Option Addr) (c2:Nat) (w:World) (hT:TB w) (n3:RU w A1 c2 x0.Abs) (r:Cw) (hr:Gs x0=some r) :
  Calls Tryz.prog 159 #[.agg #[.bool x0.Neg,.slice A1 (sz x0.Abs) c2]] w (Ret MF w r):=by
 unfold Gs at hr
 go_enter Tryz.func159,Tryz.ntmps159
 refine wp_seq_k fun K4 h4=>Af<|BH rfl rfl fun b5 w1 E6 g7 q8=>?_
 refine nrm ?_
 refine Aw Ls fun b9 w2 E5a g2b q6a=>?_
 refine nrm ?_
 have g3b:=nlt E6.size g2b
 have X4b:=xtr E6 E5a
 refine Ad<|h4 _ _<|wp_seq_k fun K7a h7a=>DH [3] 4 mo rfl fun w3 E0a S8a=>have X9a:=xtr X4b E0a;dV 0 rfl (fun _ hw=>Am DK rfl (((q8.ext E5a).ext E0a).ext hw) rfl) S8a ?_
 obtain ⟨r2a,h5b,f6b⟩:=Ab hr
 refine dc 1 rfl (by kernel_rfl) (by rfl) (Ae Mp (by rfl)) (GK w3 (tbx X9a hT)  r2a h5b) ?_
 rintro _ w4 E1a ⟨A3a,c4a,rfl,n7b⟩
 refine dnrm ?_
 have X8b:=xtr X9a E1a
 have S1c:=S8a.trans E1a
 refine dA 2 rfl (fun _=>AL (vals:=[(0,.agg #[.bool x0.Neg,.slice A1 (sz x0.Abs) c2]),(1,.slice A3a (sz r2a) c4a)]) (cells:=[.bool x0.Neg,.slice A1 (sz x0.Abs) c2,.slice A3a (sz r2a) c4a]) (by rfl) (by kernel_rfl)) ?_
 refine dk 3 rfl (by kernel_rfl) (by decide) (by rfl) JD rfl rfl ((q6a.ext E0a).ext E1a) rfl rfl rfl rfl (by simp only [SP0,SP1,S0,S1,Nat.reduceAdd];rfl) fun w5 U0b q9b=>?_
 have X1b:=AV X8b U0b g3b
 refine Ct (by kernel_rfl) ?_
 refine h7a _ _<|wp_ret ?_
 have n0c:=n7b.upd U0b ((q6a.ext E0a).ext E1a) (by decide)
 obtain rfl:=sj f6b
 exact fin rfl (Res.cellN rfl IG q9b rfl rfl Res.nil) (Al X1b ⟨A1,c2,A3a,c4a,rfl,(n3.ext X1b),n0c⟩)
theorem c_sorobanref04_Value (x0:Ak) (A1:Option Addr) (c2:Nat) (w:World) (hT:TB w) (n3:RU w A1 c2 x0.Man.Abs) (r:Cw) (hr:CU x0=some r) :
  Calls Tryz.prog 67 #[.agg #[.bool x0.Man.Neg,.slice A1 (sz x0.Man.Abs) c2,.int .i64 x0.Exp]] w (Ret MF w r):=by
 unfold CU at hr
 go_enter Tryz.func67,Tryz.ntmps67
 refine wp_seq_k fun K4 h4=>Af<|BH rfl rfl fun b5 w1 E6 g7 q8=>?_
 refine nrm ?_
 refine Aw Ls fun b9 w2 E0a g3d q1c=>?_
 refine nrm ?_
 have g2c:=nlt E6.size g3d
 have X3c:=xtr E6 E0a
 refine Ad<|h4 _ _<|wp_seq_k fun K4c h4c=>wp_seq_k fun K5c h5c=>Af<|sV (Ag (o':=2) DV rfl rfl) ?_
 refine sV (Ah EA rfl (Bx.cell (q8.ext E0a) rfl)) ?_
 refine sb (Fh rfl rfl) fun z3a hz3a=>?_
 refine nrm ?_
 refine Ad<|h5c _ _ ?_
 rcases bft z3a with e1a | e1a
 ·have p4d:=zP hz3a e1a
  have f5d:=ifP p4d hr
  refine wp_cond_true (Aj (evb rfl e1a))<|wp_seq_k fun K6c h6c=>DH [11] 12 mo rfl fun w3 E2a S4a=>have X7a:=xtr X3c E2a;dA 0 rfl (fun _=>Ag (o':=0) DM rfl rfl) ?_
  refine dA 1 rfl (fun _=>Ag (o':=0) Et rfl rfl) ?_
  refine dV 2 rfl (fun _ hw=>Ah Gf rfl (Bx.cell (((q8.ext E0a).ext E2a).ext hw) rfl)) S4a ?_
  refine dA 3 rfl (fun _=>Ag (o':=0) DM rfl rfl) ?_
  refine dA 4 rfl (fun _=>Ag (o':=1) BB rfl rfl) ?_
  refine dV 5 rfl (fun _ hw=>Ah Dp rfl (Bx.cell (((q8.ext E0a).ext E2a).ext hw) rfl)) S4a ?_
  refine dA 6 rfl (fun _=>Ag (o':=2) DV rfl rfl) ?_
  refine dV 7 rfl (fun _ hw=>Ah EA rfl (Bx.cell (((q8.ext E0a).ext E2a).ext hw) rfl)) S4a ?_
  obtain ⟨r5a,h6d,f7d⟩:=Ab f5d
  refine dc 8 rfl (by kernel_rfl) (by rfl) (Ae Kj (by rfl)) (EG x0.Man.Abs x0.Exp A1 c2 w3 (tbx X7a hT) (n3.ext X7a) r5a h6d) ?_
  rintro _ w4 E8a ⟨A9a,c0b,rfl,n8d⟩
  refine dnrm ?_
  have X7c:=xtr X7a E8a
  have S9d:=S4a.trans E8a
  refine dA 9 rfl (fun _=>AL (vals:=[(0,.bool x0.Man.Neg),(1,.slice A9a (sz r5a) c0b)]) (cells:=[.bool x0.Man.Neg,.slice A9a (sz r5a) c0b]) (by rfl) (by kernel_rfl)) ?_
  obtain ⟨r0e,h1e,f2e⟩:=Ab f7d
  refine dc 10 rfl (by kernel_rfl) (by rfl) (Ae en_159 (by rfl)) (c_sorobanref03_Whole (⟨x0.Man.Neg,r5a⟩:Ai) A9a c0b w4 (tbx X7c hT) n8d r0e h1e) ?_
  rintro _ w5 E1b ⟨A3e,c4e,A5e,c6e,rfl,n7e,n8e⟩
  refine dnrm ?_
  have X9e:=xtr X7c E1b
  have S8h:=S9d.trans E1b
  have q2b:=((q1c.ext E2a).ext E8a).ext E1b
  refine dk 11 rfl (by kernel_rfl) (by decide) (by rfl) JD rfl rfl q2b rfl rfl rfl rfl (by simp only [SP0,SP1,S0,S1,Nat.reduceAdd];rfl) fun w6 U3b q0f=>?_
  have X1f:=AV X9e U3b g2c
  refine Ct (by kernel_rfl) ?_
  refine h6c _ _<|wp_ret ?_
  obtain rfl:=sj f2e
  exact fin rfl (Res.cellN rfl IG q0f rfl rfl Res.nil) (Al X1f ⟨A3e,c4e,A5e,c6e,rfl,(n7e.upd U3b q2b (by decide)),(n8e.upd U3b q2b (by decide))⟩)
 ·have p2f:=zN hz3a e1a
  have f3f:=ifN p2f hr
  refine wp_cond_false (Aj (evb rfl e1a))<|wp_skip<|h4c _ _<|wp_seq_k fun K8c h8c=>DH [8] 9 mo rfl fun w3 E6a S4b=>have X9c:=xtr X3c E6a;dA 0 rfl (fun _=>Ag (o':=0) DM rfl rfl) ?_
  refine dV 1 rfl (fun _ hw=>AE DK rfl (((q8.ext E0a).ext E6a).ext hw) (by simp only [List.drop_zero,List.take_succ_cons,List.take_zero];rfl) rfl) S4b ?_
  refine dA 3 rfl (fun _=>Ag (o':=2) DV rfl rfl) ?_
  refine dV 4 rfl (fun _ hw=>Ah EA rfl (Bx.cell (((q8.ext E0a).ext E6a).ext hw) rfl)) S4b ?_
  refine dA 5 rfl (fun _=>Bs (c:=wi64 (0 - x0.Exp)) rfl rfl rfl) ?_
  obtain ⟨r0d,h4f,f5f⟩:=Ab f3f
  refine dc 2 rfl (by kernel_rfl) (by rfl) (Ae Mp (by rfl)) (GK w3 (tbx X9c hT)  r0d h4f) ?_
  rintro _ w4 E5b ⟨A6f,c7f,rfl,n8f⟩
  refine dnrm ?_
  have X1d:=xtr X9c E5b
  have S9f:=S4b.trans E5b
  obtain ⟨r2d,h0g,f1g⟩:=Ab f5f
  refine dc 6 rfl (by kernel_rfl) (by rfl) (Ae Kj (by rfl)) (EG r0d (wi64 (0 - x0.Exp)) A6f c7f w4 (tbx X1d hT) n8f r2d h0g) ?_
  rintro _ w5 E6b ⟨A2g,c3g,rfl,n4g⟩
  refine dnrm ?_
  have X7b:=xtr X1d E6b
  have S5g:=S9f.trans E6b
  obtain ⟨r6g,h7g,f8g⟩:=Ab f1g
  refine dc 7 rfl (by kernel_rfl) (by rfl) (Ae en_160 (by rfl)) (c_sorobanref03_Of x0.Man r2d A1 c2 A2g c3g w5 (tbx X7b hT) (n3.ext X7b) n4g r6g h7g) ?_
  rintro _ w6 E8b ⟨A9g,c0h,A1h,c2h,rfl,n3h,n4h⟩
  refine dnrm ?_
  have X5h:=xtr X7b E8b
  have S9h:=S5g.trans E8b
  have q9b:=(((q1c.ext E6a).ext E5b).ext E6b).ext E8b
  refine dk 8 rfl (by kernel_rfl) (by decide) (by rfl) JD rfl rfl q9b rfl rfl rfl rfl (by simp only [SP0,SP1,S0,S1,Nat.reduceAdd];rfl) fun w7 U0c q6h=>?_
  have X7h:=AV X5h U0c g2c
  refine Ct (by kernel_rfl) ?_
  refine h8c _ _<|wp_ret ?_
  obtain rfl:=sj f8g
  exact fin rfl (Res.cellN rfl IG q6h rfl rfl Res.nil) (Al X7h ⟨A9g,c0h,A1h,c2h,rfl,(n3h.upd U0c q9b (by decide)),(n4h.upd U0c q9b (by decide))⟩)
set_option maxRecDepth 20000 in
theorem c_sorobanlaw04_DyadChecks (x0:Au) (x1:AK) (x2:Int) (x3:Av) (A1:Option Addr) (c2:Nat) (A4:Option Addr) (c5:Nat) (A7:Option Addr) (c8:Nat) (A4c:Option Addr) (c5c:Nat) (w:World) (hT:TB w) (n3:RLu w A1 c2 x0.Man.Abs) (n6:RLu w A4 c5 x1.Abs) (n9:RLu w A7 c8 x3.Lo.Man.Abs) (n9c:RLu w A4c c5c x3.Hi.Man.Abs) (r:Bool) (hr:DW x0 x1 x2 x3=some r) :
  Calls Tryz.prog 8 #[.agg #[.bool x0.Man.Neg,.slice A1 x0.Man.Abs.length c2,.int .i64 x0.Exp],.agg #[.bool x1.Neg,.slice A4 x1.Abs.length c5],.int .i64 x2,.agg #[.bool x3.Lo.Man.Neg,.slice A7 x3.Lo.Man.Abs.length c8,.int .i64 x3.Lo.Exp,.bool x3.Hi.Man.Neg,.slice A4c x3.Hi.Man.Abs.length c5c,.int .i64 x3.Hi.Exp]] w (Ret Ff w r):=by
 unfold DW at hr
 refine Lh Tryz.func8 rfl [.agg #[.bool x0.Man.Neg,.slice A1 x0.Man.Abs.length c2,.int .i64 x0.Exp],.agg #[.bool x1.Neg,.slice A4 x1.Abs.length c5],.int .i64 x2,.agg #[.bool x3.Lo.Man.Neg,.slice A7 x3.Lo.Man.Abs.length c8,.int .i64 x3.Lo.Exp,.bool x3.Hi.Man.Neg,.slice A4c x3.Hi.Man.Abs.length c5c,.int .i64 x3.Hi.Exp],uu,uu,uu,uu,uu,uu,uu,uu,uu,uu,uu,uu,uu,uu,uu,uu,uu,uu,uu,uu,uu,uu,uu,uu,uu,uu,uu,uu,uu,uu,uu,uu,uu,uu,uu,uu,uu,uu,uu,uu,uu,uu,uu,uu,uu,uu,uu,uu,uu,uu,uu,uu,uu,uu,uu,uu,uu,uu,uu,uu,uu,uu,uu,uu,uu,uu,uu,uu,uu,uu,uu,uu,uu,uu,uu,uu,uu,uu,uu,uu,uu,uu,uu,uu,uu,uu,uu,uu,uu,uu,uu,uu,uu,uu,uu,uu,uu,uu] (by kernel_rfl) ?_
 refine wp_seq_k fun K5d h5d=>Af<|BH rfl rfl fun b9j w1 E0h g9s q6d=>?_
 refine nrm ?_
 refine BH rfl rfl fun b1h w2 E2d g2h q7d=>?_
 refine nrm ?_
 have g0k:=nlt E0h.size g2h
 have X8e:=xtr E0h E2d
 refine BH rfl rfl fun b3d w3 E6a g3h q8d=>?_
 refine nrm ?_
 have g6a8:=nlt X8e.size g3h
 have X4h:=xtr X8e E6a
 refine sV (Ac rfl) ?_
 refine Ad<|h5d _ _<|wp_seq_k fun K1k h1k=>wp_seq_k fun K2k h2k=>Af<|sV (Am BC rfl ((q6d.ext E2d).ext E6a) rfl) ?_
 obtain ⟨r0t,h1t,f2t⟩:=Ab hr
 refine sc (Ae Oa (by rfl)) (Gh x0 A1 c2 w3 (tbx X4h hT) (n3.ext X4h) r0t h1t) ?_
 rintro _ w4 E7b rfl
 refine nrm ?_
 have X9d:=xtr X4h E7b
 refine sb (Fg rfl) fun z9e hz9e=>?_
 refine nrm ?_
 refine sV (Aa rfl) ?_
 obtain ⟨m3k,h4k,f3t⟩:=Ab f2t
 refine Cm 9 (fun l l' w'=>∃(t5k:Value) (t6k:Value) (t7k:Value) (t8k:Value),w4=w'∧l'=(((((l.set 19 t5k).set 20 t6k).set 21 t7k).set 22 t8k).set 23 (.bool m3k))) ?_ ?_
 ·intro HJ52
  rcases bft z9e with e4a | e4a
  ·have p4t:=zP hz9e e4a
   have f5t:=ifP p4t h4k
   refine sP ?_ (hw:=wgF rfl e4a)
   refine sP ?_ (hw:=wgF rfl e4a)
   refine sP ?_ (hw:=wgF rfl e4a)
   refine sP ?_ (hw:=wgF rfl e4a)
   refine sV (Ax (evb rfl e4a) rfl) ?_
   obtain rfl:=sj f5t
   exact HJ52 _ _ ⟨uu,uu,uu,uu,rfl,(by simp only [S0,S1]<;>rfl)⟩
  ·have p6t:=zN hz9e e4a
   have f7t:=ifN p6t h4k
   refine sV (Ag (o':=1) BB rfl rfl) ?_ (hw:=wgT rfl e4a)
   refine sV (Ah Dp rfl (Bx.cell ((q7d.ext E6a).ext E7b) rfl)) ?_ (hw:=wgT rfl e4a)
   refine sV (AF AJ rfl) ?_ (hw:=wgT rfl e4a)
   refine sb (EP rfl rfl) ?_ (hw:=wgT rfl e4a)
   intro z5h hz5h
   refine nrm ?_
   refine sV (AG (evb rfl e4a) rfl) ?_
   obtain rfl:z5h=decide (60<(x1.Abs.length:Int)):=bz hz5h
   obtain rfl:=sj f7t
   exact HJ52 _ _ ⟨(.pointer (some ⟨b1h,1,none⟩)),(.slice A4 x1.Abs.length c5),(.int .i64 (x1.Abs.length:Int)),(.bool (decide (60<(x1.Abs.length:Int)))),rfl,(by simp only [S0,S1]<;>rfl)⟩
 ·rintro l' _ ⟨t5k,t6k,t7k,t8k,rfl,hq'⟩ l'' hl
  rw [hq'] at hl
  clear hq'
  simp only [S0,S1] at hl
  subst hl
  refine sV (Aa rfl) ?_
  obtain ⟨m9k,h0l,f8t⟩:=Ab f3t
  refine Cm 13 (fun l l' w'=>∃(t1l:Value) (t2l:Value),w4=w'∧l'=(((l.set 25 t1l).set 26 t2l).set 27 (.bool m9k))) ?_ ?_
  ·intro HJ71
   rcases bft m3k with e8b | e8b
   ·have p9t:=e8b
    have f0u:=ifP p9t h0l
    refine sP ?_ (hw:=wgF rfl e8b)
    refine sP ?_ (hw:=wgF rfl e8b)
    refine sV (Ax (evb rfl e8b) rfl) ?_
    obtain rfl:=sj f0u
    exact HJ71 _ _ ⟨uu,uu,rfl,(by simp only [S0,S1]<;>rfl)⟩
   ·have p1u:=bF e8b
    have f2u:=ifN p1u h0l
    refine sV (Aa rfl) ?_ (hw:=wgT rfl e8b)
    refine sb (Dm rfl rfl) ?_ (hw:=wgT rfl e8b)
    intro z6h hz6h
    refine nrm ?_
    refine sV (AG (evb rfl e8b) rfl) ?_
    obtain rfl:z6h=decide (x2<(-3000)):=bz hz6h
    obtain rfl:=sj f2u
    exact HJ71 _ _ ⟨(.int .i64 x2),(.bool (decide (x2<(-3000)))),rfl,(by simp only [S0,S1]<;>rfl)⟩
  ·rintro l' _ ⟨t1l,t2l,rfl,hq'⟩ l'' hl
   rw [hq'] at hl
   clear hq'
   simp only [S0,S1] at hl
   subst hl
   refine sV (Aa rfl) ?_
   obtain ⟨m3l,h4l,f3u⟩:=Ab f8t
   refine Cm 17 (fun l l' w'=>∃(t5l:Value) (t6l:Value),w4=w'∧l'=(((l.set 29 t5l).set 30 t6l).set 31 (.bool m3l))) ?_ ?_
   ·intro HJ90
    rcases bft m9k with e9b | e9b
    ·have p4u:=e9b
     have f5u:=ifP p4u h4l
     refine sP ?_ (hw:=wgF rfl e9b)
     refine sP ?_ (hw:=wgF rfl e9b)
     refine sV (Ax (evb rfl e9b) rfl) ?_
     obtain rfl:=sj f5u
     exact HJ90 _ _ ⟨uu,uu,rfl,(by simp only [S0,S1]<;>rfl)⟩
    ·have p6u:=bF e9b
     have f7u:=ifN p6u h4l
     refine sV (Aa rfl) ?_ (hw:=wgT rfl e9b)
     refine sb (EP rfl rfl) ?_ (hw:=wgT rfl e9b)
     intro z7h hz7h
     refine nrm ?_
     refine sV (AG (evb rfl e9b) rfl) ?_
     obtain rfl:z7h=decide (3000<x2):=bz hz7h
     obtain rfl:=sj f7u
     exact HJ90 _ _ ⟨(.int .i64 x2),(.bool (decide (3000<x2))),rfl,(by simp only [S0,S1]<;>rfl)⟩
   ·rintro l' _ ⟨t5l,t6l,rfl,hq'⟩ l'' hl
    rw [hq'] at hl
    clear hq'
    simp only [S0,S1] at hl
    subst hl
    refine sV (Aa rfl) ?_
    obtain ⟨m7l,h8l,f9l⟩:=Ab f3u
    refine Cm 22 (fun l l' w'=>∃(t0m:Value) (t1m:Value) (t2m:Value),UpdS [] w4 w'∧l'=((((l.set 33 t0m).set 34 t1m).set 35 t2m).set 36 (.bool m7l))) ?_ ?_
    ·intro HJ115
     rcases bft m3l with e8a | e8a
     ·have p8u:=e8a
      have f9u:=ifP p8u h8l
      refine sP ?_ (hw:=wgF rfl e8a)
      refine sP ?_ (hw:=wgF rfl e8a)
      refine sP ?_ (hw:=wgF rfl e8a)
      refine sV (Ax (evb rfl e8a) rfl) ?_
      obtain rfl:=sj f9u
      exact HJ115 _ _ ⟨uu,uu,uu,(UpdS.refl _ _),(by simp only [S0,S1]<;>rfl)⟩
     ·have p0v:=bF e8a
      have f1v:=ifN p0v h8l
      refine sV (Am CI rfl (q8d.ext E7b) rfl) ?_ (hw:=wgT rfl e8a)
      obtain ⟨r0f,h2v,f3v⟩:=Ab f1v
      refine sc (Ae en_26 (by rfl)) (c_sorobanlaw04_lightSpan x3 A7 c8 A4c c5c w4 (tbx X9d hT) (n9.ext X9d) (n9c.ext X9d) r0f h2v) ?_ (hw:=wgT rfl e8a)
      rintro _ w5 E4v rfl
      refine nrm ?_
      refine sb (Fg rfl) ?_ (hw:=wgT rfl e8a)
      intro z8h hz8h
      refine nrm ?_
      refine sV (AG (evb rfl e8a) rfl) ?_
      obtain rfl:z8h=decide (¬(r0f=true)):=bz hz8h
      obtain rfl:=sj f3v
      exact HJ115 _ _ ⟨(.agg #[.bool x3.Lo.Man.Neg,.slice A7 x3.Lo.Man.Abs.length c8,.int .i64 x3.Lo.Exp,.bool x3.Hi.Man.Neg,.slice A4c x3.Hi.Man.Abs.length c5c,.int .i64 x3.Hi.Exp]),(.bool r0f),(.bool (decide (¬(r0f=true)))),((UpdS.refl _ _).ext E4v),(by simp only [S0,S1]<;>rfl)⟩
    ·rintro l' w5 ⟨t0m,t1m,t2m,U0d,hq'⟩ l'' hl
     rw [hq'] at hl
     clear hq'
     simp only [S0,S1] at hl
     subst hl
     have X0e:=IM X9d U0d (X9d).size al0
     refine Ad<|h2k _ _ ?_
     rcases bft m7l with e1e | e1e
     ·have p5v:=e1e
      have f6v:=ifP p5v f9l
      refine wp_cond_true (Aj (evb rfl e1e))<|wp_seq_k fun K3m h3m=>Af ?_
      obtain ⟨r7v,h8v,f9v⟩:=Ab f6v
      refine sc (Ae Nn (by rfl)) (FX w5 (tbx X0e hT)  r7v h8v) ?_
      rintro _ w6 E0w rfl
      refine nrm ?_
      have X1w:=xtr X0e E0w
      refine sV (Ac rfl) ?_
      refine Ad<|h3m _ _<|wp_ret ?_
      obtain rfl:=sj f9v
      exact fin rfl (Res.tmp rfl Res.nil) (Al X1w rfl)
     ·have p2w:=bF e1e
      have f3w:=ifN p2w f9l
      refine wp_cond_false (Aj (evb rfl e1e))<|wp_skip<|h1k _ _<|wp_seq_k fun K4m h4m=>Af<|have q9h:=((q7d.ext E6a).ext E7b).updS U0d nm0;sV (Am DK rfl q9h rfl) ?_
      refine sV (Aa rfl) ?_
      obtain ⟨r1f,h4w,f5w⟩:=Ab f3w
      refine sc (Ae OP (by rfl)) (Kw x1 x2 A4 c5 w5 (tbx X0e hT) (n6.ext X0e) r1f h4w) ?_
      rintro _ w6 E6c ⟨A5m,c6m,rfl,n6w⟩
      refine nrm ?_
      have X7m:=xtr X0e E6c
      refine sV (Aa rfl) ?_
      refine sV (AB rfl rfl) ?_
      refine sV (AB rfl rfl) ?_
      refine Aw GB fun b7a8 w7 E7w g8m q8w=>?_
      refine nrm ?_
      have g8a8:=nlt X7m.size g8m
      refine Ay EU rfl rfl q8w rfl rfl rfl rfl (by simp only [SP0,SP1,S0,S1,Nat.reduceAdd];rfl) fun w8 U9w q9m=>?_
      have F0c:=AV E7w U9w g8m
      have X0i:=xtr X7m F0c
      refine sV (Ac rfl) ?_
      refine Ad<|h4m _ _<|wp_seq_k fun K0n h0n=>Af<|sV (Am DK rfl ((q9h.ext E6c).ext F0c) rfl) ?_
      obtain ⟨r1n,h0x,f1x⟩:=Ab f5w
      refine sc (Ae OH (by rfl)) (GP x1 A4 c5 w8 (tbx X0i hT) (n6.ext X0i) r1n h0x) ?_
      rintro _ w9 E4b rfl
      refine nrm ?_
      have X2n:=xtr X0i E4b
      obtain ⟨r3n,h2x,f3x⟩:=Ab f1x
      refine sc (Ae en_18 (by rfl)) (c_sorobanlaw04_arg r1n w9 (tbx X2n hT)  r3n h2x) ?_
      rintro _ w4c E5b rfl
      refine nrm ?_
      have X4n:=xtr X2n E5b
      refine sV (Ac rfl) ?_
      refine Ad<|h0n _ _<|wp_seq_k fun K5n h5n=>Af<|sV (AL (vals:=[]) (cells:=[.bool false,.slice none 0 0,.int .i64 0]) (by rfl) (by kernel_rfl)) ?_
      refine Aw GB fun b6n w5c E4x g2f q5x=>?_
      refine nrm ?_
      have g6x:=nlt X4n.size g2f
      refine Ay EU rfl rfl q5x rfl rfl rfl rfl (by simp only [SP0,SP1,S0,S1,Nat.reduceAdd];rfl) fun w9c U7x q2e=>?_
      have F7c:=AV E4x U7x g2f
      have X3f:=xtr X4n F7c
      refine Ad<|h5n _ _<|wp_seq_k fun K7n h7n=>wp_seq_k fun K8n h8n=>Af<|sV (Aa rfl) ?_
      refine sb (Cc rfl rfl) fun z4f hz4f=>?_
      refine nrm ?_
      refine Ad<|h8n _ _ ?_
      obtain ⟨m1d,h9n,f8x⟩:=Ab f3x
      refine CE (fun l l' w'=>∃(t0o:Value) (t1o:Value) (t2o:Value) (A5f:Option Addr) (c6f:Nat),UpdS [b6n] w9c w'∧Bx w' b6n 27 [.bool m1d.1,.slice A5f (sz m1d.2.1) c6f,.int .i64 m1d.2.2]∧RU w' A5f c6f m1d.2.1∧l'=(((l.set 50 t0o).set 51 t1o).set 52 t2o)) ?_ ?_
      ·rcases bft z4f with e3e | e3e
       ·have p9x:=zP hz4f e3e
        have f0y:=ifP p9x h9n
        refine wp_cond_true (Aj (evb rfl e3e))<|Af<|have q1y:=((((q9h.ext E6c).ext F0c).ext E4b).ext E5b).ext F7c;sV (Am DK rfl q1y rfl) ?_
        refine sV (Aa rfl) ?_
        obtain ⟨m3o,h2y,f3y⟩:=Ab f0y
        have hx4o:=Dh h2y
        have n4y:RU w9c A4 c5 m3o:=by unfold RU;rw [hx4o];exact (n6.ext X3f)
        obtain ⟨r7f,h5y,f6y⟩:=Ab f3y
        refine sc (Ae NX (by simp only [sz,hx4o];rfl)) (He (⟨x1.Neg,m3o⟩:Ai) x2 A4 c5 w9c (tbx X3f hT) n4y r7f h5y) ?_
        rintro _ w5d E1i ⟨A5o,c6o,rfl,n7y⟩
        refine nrm ?_
        refine Ay EU rfl rfl (q2e.ext E1i) rfl rfl rfl rfl (by simp only [SP0,SP1,S0,S1,Nat.reduceAdd];rfl) fun w9j U7o q8y=>?_
        refine Ad ?_
        have n9y:=n7y.upd U7o (q2e.ext E1i) (by decide)
        obtain rfl:=sj f6y
        exact ⟨_,rfl,(.agg #[.bool x1.Neg,.slice A4 x1.Abs.length c5]),(.int .i64 x2),(.agg #[.bool r7f.Man.Neg,.slice A5o (sz r7f.Man.Abs) c6o,.int .i64 r7f.Exp]),A5o,c6o,(((UpdS.refl _ _).ext E1i).upd U7o (.inl im0)),q8y,n9y,(by simp only [S0,S1]<;>rfl)⟩
       ·have p0z:=zN hz4f e3e
        have f1z:=ifN p0z h9n
        refine wp_cond_false (Aj (evb rfl e3e))<|wp_skip ?_
        obtain rfl:=sj f1z
        exact ⟨_,rfl,uu,uu,uu,none,0,(UpdS.refl _ _),q2e,(RU.nil _),(by simp only [S0,S1]<;>rfl)⟩
      ·rintro l' w5d ⟨t0o,t1o,t2o,A5f,c6f,U4d,q2z,n3z,hq'⟩ l'' hl
       rw [hq'] at hl
       clear hq'
       simp only [S0,S1] at hl
       subst hl
       have X2i:=IM X3f U4d (X3f).size (alc g6x al0)
       refine h7n _ _<|wp_seq_k fun K8o h8o=>Af<|have ne4z:=(Bx.ne ((((((((q6d.ext E2d).ext E6a).ext E7b).updS U0d nm0).ext E6c).ext F0c).ext E4b).ext E5b) g2f);have q8f:=(((((((((q6d.ext E2d).ext E6a).ext E7b).updS U0d nm0).ext E6c).ext F0c).ext E4b).ext E5b).ext F7c).updS U4d (nmc ne4z nm0);sV (Am BC rfl q8f rfl) ?_
       obtain ⟨r7a,h5z,f6z⟩:=Ab f8x
       refine sc (Ae en_63 (by rfl)) (c_dyad_ToRat x0 A1 c2 w5d (tbx X2i hT) (n3.ext X2i) r7a h5z) ?_
       rintro _ w9j E6b ⟨A3i,c4i,A5i,c6i,rfl,n9o,n0p⟩
       refine nrm ?_
       have X1p:=xtr X2i E6b
       refine sV (Aa rfl) ?_
       refine sV (AB rfl rfl) ?_
       refine sV (AB rfl rfl) ?_
       refine Aw Ls fun b9a8 w0h E7z g2p q8z=>?_
       refine nrm ?_
       have g0a9:=nlt X1p.size g2p
       refine Ay JD rfl rfl q8z rfl rfl rfl rfl (by simp only [SP0,SP1,S0,S1,Nat.reduceAdd];rfl) fun w9s U9z q3p=>?_
       have F3a:=AV E7z U9z g2p
       have X0a0:=xtr X1p F3a
       refine sV (Ac rfl) ?_
       refine Ad<|h8o _ _<|wp_seq_k fun K4p h4p=>wp_seq_k fun K9f h9f=>DH [] 20 mo rfl fun w6d E1a S7i=>have X8i:=xtr X0a0 E1a;dV 0 rfl (fun _ hw=>Am BC rfl ((((q8f.ext E6b).ext F3a).ext E1a).ext hw) rfl) S7i ?_
       refine dV 2 rfl (fun _ hw=>Am BC rfl ((((q8f.ext E6b).ext F3a).ext E1a).ext hw) rfl) S7i ?_
       obtain ⟨r1a0,h2a0,f3a0⟩:=Ab f6z
       refine dc 1 rfl (by kernel_rfl) (by rfl) (Ae Na (by rfl)) (HI x0 A1 c2 w6d (tbx X8i hT) (n3.ext X8i) r1a0 h2a0) ?_
       rintro _ w1h E9a rfl
       refine dnrm ?_
       have X9i:=xtr X8i E9a
       have S4a0:=S7i.trans E9a
       obtain ⟨r5a0,h6a0,f5p⟩:=Ab f3a0
       refine dc 3 rfl (by kernel_rfl) (by rfl) (Ae LA (by rfl)) (DF x0 A1 c2 w1h (tbx X9i hT) (n3.ext X9i) r5a0 h6a0) ?_
       rintro _ w2d E0b rfl
       refine dnrm ?_
       have X4e:=xtr X9i E0b
       have S0j:=S4a0.trans E0b
       refine dab 4 rfl (by kernel_rfl) (fun _ _ _ h=>h) (by rfl) (fun _=>LC Mx rfl rfl) fun z0g hz0g=>?_
       refine dnrm ?_
       refine dA 5 rfl (fun _=>Aa rfl) ?_
       rcases bft z0g with e2a | e2a
       ·have p7a0:=zP hz0g e2a
        have f8a0:=ifP p7a0 f5p
        refine dP 6 rfl ?_ (hw:=wgF rfl e2a)
        refine dP 7 rfl ?_ (hw:=wgF rfl e2a)
        refine dP 8 rfl ?_ (hw:=wgF rfl e2a)
        refine dP 9 rfl ?_ (hw:=wgF rfl e2a)
        refine dP 10 rfl ?_ (hw:=wgF rfl e2a)
        refine dA 11 rfl (fun _=>Ax (evb rfl e2a) rfl) ?_
        refine dA 12 rfl (fun _=>Aa rfl) ?_
        refine dP 13 rfl ?_ (hw:=wgF rfl rfl)
        refine dP 14 rfl ?_ (hw:=wgF rfl rfl)
        refine dP 15 rfl ?_ (hw:=wgF rfl rfl)
        refine dP 16 rfl ?_ (hw:=wgF rfl rfl)
        refine dP 17 rfl ?_ (hw:=wgF rfl rfl)
        refine dP 18 rfl ?_ (hw:=wgF rfl rfl)
        refine dA 19 rfl (fun _=>Ax (evb rfl rfl) rfl) ?_
        refine Ct (by kernel_rfl) ?_
        refine h9f _ _<|wp_cond_true (Aj (evb rfl rfl))<|wp_seq_k fun K6p h6p=>Af<|sV (Ac rfl) ?_
        refine Ad<|h6p _ _<|wp_ret ?_
        obtain rfl:=sj f8a0
        exact fin rfl (Res.tmp rfl Res.nil) (Al X4e rfl)
       ·have p9a0:=zN hz0g e2a
        have f0a1:=ifN p9a0 f5p
        have ne7p:=(Bx.neT (((((((q8d.ext E7b).updS U0d nm0).ext E6c).ext F0c).ext E4b).ext E5b).ext F7c) q2e (by decide))
        refine dV 6 rfl (fun _ hw=>Am CI rfl ((((((((((((q8d.ext E7b).updS U0d nm0).ext E6c).ext F0c).ext E4b).ext E5b).ext F7c).updS U4d (nmc ne7p nm0)).ext E6b).ext F3a).ext E1a).ext hw) rfl) S0j ?_ (hw:=wgT rfl e2a)
        refine dV 8 rfl (fun _ hw=>Am CI rfl ((((((((((((q8d.ext E7b).updS U0d nm0).ext E6c).ext F0c).ext E4b).ext E5b).ext F7c).updS U4d (nmc ne7p nm0)).ext E6b).ext F3a).ext E1a).ext hw) rfl) S0j ?_ (hw:=wgT rfl e2a)
        obtain ⟨r1a1,h2a1,f3a1⟩:=Ab f0a1
        refine dc 7 rfl (by kernel_rfl) (wgT rfl e2a) (Ae Ow (by rfl)) (Ir x3 A7 c8 A4c c5c w2d (tbx X4e hT) (n9.ext X4e) (n9c.ext X4e) r1a1 h2a1) ?_
        rintro _ w2h E1b rfl
        refine dnrm ?_
        have X1g:=xtr X4e E1b
        have S4a1:=S0j.trans E1b
        obtain ⟨r5a1,h6a1,f8p⟩:=Ab f3a1
        refine dc 9 rfl (by kernel_rfl) (wgT rfl e2a) (Ae en_17 (by rfl)) (c_sorobanref04_Proper x3 A7 c8 A4c c5c w2h (tbx X1g hT) (n9.ext X1g) (n9c.ext X1g) r5a1 h6a1) ?_
        rintro _ w7d E2b rfl
        refine dnrm ?_
        have X1j:=xtr X1g E2b
        have S2j:=S4a1.trans E2b
        refine dab 10 rfl (by kernel_rfl) (fun _ _ _ h=>h) (wgT rfl e2a) (fun _=>LC Mx rfl rfl) fun z2g hz2g=>?_
        refine dnrm ?_
        refine dA 11 rfl (fun _=>AG (evb rfl e2a) rfl) ?_
        refine dA 12 rfl (fun _=>Aa rfl) ?_
        rcases bft z2g with e0a | e0a
        ·have p7a1:=zP hz2g e0a
         have f8a1:=ifP p7a1 f8p
         refine dP 13 rfl ?_ (hw:=wgF rfl e0a)
         refine dP 14 rfl ?_ (hw:=wgF rfl e0a)
         refine dP 15 rfl ?_ (hw:=wgF rfl e0a)
         refine dP 16 rfl ?_ (hw:=wgF rfl e0a)
         refine dP 17 rfl ?_ (hw:=wgF rfl e0a)
         refine dP 18 rfl ?_ (hw:=wgF rfl e0a)
         refine dA 19 rfl (fun _=>Ax (evb rfl e0a) rfl) ?_
         refine Ct (by kernel_rfl) ?_
         refine h9f _ _<|wp_cond_true (Aj (evb rfl rfl))<|wp_seq_k fun K9p h9p=>Af<|sV (Ac rfl) ?_
         refine Ad<|h9p _ _<|wp_ret ?_
         obtain rfl:=sj f8a1
         exact fin rfl (Res.tmp rfl Res.nil) (Al X1j rfl)
        ·have p9a1:=zN hz2g e0a
         have f0a2:=ifN p9a1 f8p
         have ne1a2:=(Bx.ne ((q9m.ext E4b).ext E5b) g2f)
         refine dV 13 rfl (fun _ hw=>Am BC rfl ((((((((q9m.ext E4b).ext E5b).ext F7c).updS U4d (nmc ne1a2 nm0)).ext E6b).ext F3a).ext E1a).ext hw) rfl) S2j ?_ (hw:=wgT rfl e0a)
         refine dA 14 rfl (fun _=>Aa rfl) ?_ (hw:=wgT rfl e0a)
         refine dA 15 rfl (fun _=>Aa rfl) ?_ (hw:=wgT rfl e0a)
         refine dV 16 rfl (fun _ hw=>Am BC rfl ((((q2z.ext E6b).ext F3a).ext E1a).ext hw) rfl) S2j ?_ (hw:=wgT rfl e0a)
         have n2a2:RU w7d A5m c6m r1f.1.Man.Abs:=(((((((((((n6w.ext F0c).ext E4b).ext E5b).ext F7c).updS U4d (alc ⟨_,_,by decide,q2e⟩ al0)).ext E6b).ext F3a).ext E1a).ext E9a).ext E0b).ext E1b).ext E2b
         have n3a2:=((((((n3z.ext E6b).ext F3a).ext E1a).ext E9a).ext E0b).ext E1b).ext E2b
         obtain ⟨r4a2,h5a2,f0q⟩:=Ab f0a2
         refine dc 17 rfl (by kernel_rfl) (wgT rfl e0a) (Ae en_50 (by rfl)) (c_sorobanlaw04_agrees r1f.1 r1f.2 r3n (⟨(⟨m1d.1,m1d.2.1⟩:Ai),m1d.2.2⟩:Ak) A5m c6m A5f c6f w7d (tbx X1j hT) n2a2 n3a2 r4a2 h5a2) ?_
         rintro _ w0k E1c rfl
         refine dnrm ?_
         have X3g:=xtr X1j E1c
         have S1a9:=S2j.trans E1c
         refine dab 18 rfl (by kernel_rfl) (fun _ _ _ h=>h) (wgT rfl e0a) (fun _=>Fg rfl) fun z4g hz4g=>?_
         refine dnrm ?_
         refine dA 19 rfl (fun _=>AG (evb rfl e0a) rfl) ?_
         refine Ct (by kernel_rfl) ?_
         refine h9f _ _ ?_
         rcases bft z4g with e5e | e5e
         ·have p6a2:=zP hz4g e5e
          have f7a2:=ifP p6a2 f0q
          refine wp_cond_true (Aj (evb rfl e5e))<|wp_seq_k fun K1q h1q=>Af<|sV (Ac rfl) ?_
          refine Ad<|h1q _ _<|wp_ret ?_
          obtain rfl:=sj f7a2
          exact fin rfl (Res.tmp rfl Res.nil) (Al X3g rfl)
         ·have p8a2:=zN hz4g e5e
          have f9a2:=ifN p8a2 f0q
          refine wp_cond_false (Aj (evb rfl e5e))<|wp_skip<|h4p _ _<|wp_seq_k fun K2q h2q=>wp_seq_k fun K3q h3q=>Af<|have q4q:=(((((((q8f.ext E6b).ext F3a).ext E1a).ext E9a).ext E0b).ext E1b).ext E2b).ext E1c;sV (Am BC rfl q4q rfl) ?_
          obtain ⟨r0a3,h1a3,f5q⟩:=Ab f9a2
          refine sc (Ae LA (by rfl)) (DF x0 A1 c2 w0k (tbx X3g hT) (n3.ext X3g) r0a3 h1a3) ?_
          rintro _ w8e E8c rfl
          refine nrm ?_
          have X3j:=xtr X3g E8c
          refine sb (Fg rfl) fun z5g hz5g=>?_
          refine nrm ?_
          refine Ad<|h3q _ _ ?_
          rcases bft z5g with e6e | e6e
          ·have p2a3:=zP hz5g e6e
           have f3a3:=ifP p2a3 f5q
           refine wp_cond_true (Aj (evb rfl e6e))<|wp_seq_k fun K6q h6q=>Af ?_
           obtain ⟨r7q,h4a3,f5a3⟩:=Ab f3a3
           refine sc (Ae Nn (by rfl)) (FX w8e (tbx X3j hT)  r7q h4a3) ?_
           rintro _ w3d E6g rfl
           refine nrm ?_
           have X4j:=xtr X3j E6g
           refine sV (Aa rfl) ?_
           obtain ⟨m8q,h9q,f6a3⟩:=Ab f5a3
           refine Cm 5 (fun l l' w'=>∃(t0r:Value) (t1r:Value),w3d=w'∧l'=(((l.set 83 t0r).set 84 t1r).set 85 (.bool m8q))) ?_ ?_
           ·intro HJ490
            rcases bft r7q with e2c | e2c
            ·have p7a3:=e2c
             have f8a3:=ifP p7a3 h9q
             refine sV (Aa rfl) ?_ (hw:=wgT rfl e2c)
             refine sb (Cc rfl rfl) ?_ (hw:=wgT rfl e2c)
             intro z5j hz5j
             refine nrm ?_
             refine sV (Ax (evb rfl e2c) rfl) ?_
             obtain rfl:z5j=decide (r7a.2=1):=bz hz5j
             obtain rfl:=sj f8a3
             exact HJ490 _ _ ⟨(.int .i64 r7a.2),(.bool (decide (r7a.2=1))),rfl,(by simp only [S0,S1]<;>rfl)⟩
            ·have p9a3:=bF e2c
             have f0a4:=ifN p9a3 h9q
             refine sP ?_ (hw:=wgF rfl e2c)
             refine sP ?_ (hw:=wgF rfl e2c)
             refine sV (AG (evb rfl e2c) rfl) ?_
             obtain rfl:=sj f0a4
             exact HJ490 _ _ ⟨uu,uu,rfl,(by simp only [S0,S1]<;>rfl)⟩
           ·rintro l' _ ⟨t0r,t1r,rfl,hq'⟩ l'' hl
            rw [hq'] at hl
            clear hq'
            simp only [S0,S1] at hl
            subst hl
            refine sV (Aa rfl) ?_
            obtain ⟨m1a4,h2r,f2a4⟩:=Ab f6a3
            refine Cm 10 (fun l l' w'=>∃(t3r:Value) (t4r:Value) (t5r:Value),UpdS [] w3d w'∧l'=((((l.set 87 t3r).set 88 t4r).set 89 t5r).set 90 (.bool m1a4))) ?_ ?_
            ·intro HJ517
             rcases bft m8q with e3b | e3b
             ·have p3a4:=e3b
              have f4a4:=ifP p3a4 h2r
              have q5a4:=(((((((q3p.ext E1a).ext E9a).ext E0b).ext E1b).ext E2b).ext E1c).ext E8c).ext E6g
              refine sV (Am IG rfl q5a4 rfl) ?_ (hw:=wgT rfl e3b)
              refine sV (AL (vals:=[]) (cells:=[.bool false,.slice none 0 0,.slice none 0 0]) (by rfl) (by kernel_rfl)) ?_ (hw:=wgT rfl e3b)
              have n6a4:=((((((((n9o.ext F3a).ext E1a).ext E9a).ext E0b).ext E1b).ext E2b).ext E1c).ext E8c).ext E6g
              have n7a4:=((((((((n0p.ext F3a).ext E1a).ext E9a).ext E0b).ext E1b).ext E2b).ext E1c).ext E8c).ext E6g
              obtain ⟨r6r,h8a4,f9a4⟩:=Ab f4a4
              refine sc (Ae OD (by rfl)) (HF r7a.1 (⟨(⟨false,0⟩:Ai),0⟩:Cw) A3i c4i A5i c6i none 0 none 0 w3d (tbx X4j hT) n6a4 n7a4 (RU.nil _) (RU.nil _) r6r h8a4) ?_ (hw:=wgT rfl e3b)
              rintro _ w6a E0a5 rfl
              refine nrm ?_
              refine sV (Ax (evb rfl e3b) rfl) ?_
              obtain rfl:=sj f9a4
              exact HJ517 _ _ ⟨(.agg #[.bool r7a.1.Num.Neg,.slice A3i (sz r7a.1.Num.Abs) c4i,.slice A5i (sz r7a.1.Den) c6i]),(.agg #[.bool false,.slice none 0 0,.slice none 0 0]),(.bool r6r),((UpdS.refl _ _).ext E0a5),(by simp only [S0,S1]<;>rfl)⟩
             ·have p1a5:=bF e3b
              have f2a5:=ifN p1a5 h2r
              refine sP ?_ (hw:=wgF rfl e3b)
              refine sP ?_ (hw:=wgF rfl e3b)
              refine sP ?_ (hw:=wgF rfl e3b)
              refine sV (AG (evb rfl e3b) rfl) ?_
              obtain rfl:=sj f2a5
              exact HJ517 _ _ ⟨uu,uu,uu,(UpdS.refl _ _),(by simp only [S0,S1]<;>rfl)⟩
            ·rintro l' w6a ⟨t3r,t4r,t5r,U3a5,hq'⟩ l'' hl
             rw [hq'] at hl
             clear hq'
             simp only [S0,S1] at hl
             subst hl
             have X4a5:=IM X4j U3a5 (X4j).size al0
             refine sV (Ac rfl) ?_
             refine Ad<|h6q _ _<|wp_ret ?_
             obtain rfl:=sj f2a4
             exact fin rfl (Res.tmp rfl Res.nil) (Al X4a5 rfl)
          ·have p5a5:=zN hz5g e6e
           have f6a5:=ifN p5a5 f5q
           refine wp_cond_false (Aj (evb rfl e6e))<|wp_skip<|h2q _ _<|wp_seq_k fun K6j h6j=>DH [] 12 mo rfl fun w3d E7e S7a5=>?_
           have X7r:=xtr X3j E7e
           obtain ⟨r8r,h8a5,f9a5⟩:=Ab f6a5
           refine dc 0 rfl (by kernel_rfl) (by rfl) (Ae Nn (by rfl)) (FX w3d (tbx X7r hT)  r8r h8a5) ?_
           rintro _ w6a E7g rfl
           refine dnrm ?_
           have X8g:=xtr X7r E7g
           have S7j:=S7a5.trans E7g
           refine dA 1 rfl (fun _=>Aa rfl) ?_
           obtain ⟨m9r,h0s,f1s⟩:=Ab f9a5
           refine Iw #[true,true,true,true,true,false,false,false,false,false,false,false] 7 (fun l l' w'=>∃(t2s:Value) (t3s:Value),w6a=w'∧l'=(((l.set 93 t2s).set 94 t3s).set 95 (.bool m9r))) ?_ ?_
           ·intro HJ435
            rcases bft r8r with e3c | e3c
            ·have p0a6:=e3c
             have f1a6:=ifP p0a6 h0s
             refine dA 2 rfl (fun _=>Aa rfl) ?_ (hw:=wgT rfl e3c)
             refine dab 3 rfl (by kernel_rfl) (fun _ _ _ h=>h) (wgT rfl e3c) (fun _=>Cc rfl rfl) fun z8j hz8j=>?_
             refine dnrm ?_
             refine dA 4 rfl (fun _=>Ax (evb rfl e3c) rfl) ?_
             obtain rfl:z8j=decide (r7a.2=0):=bz hz8j
             obtain rfl:=sj f1a6
             exact Ex (by kernel_rfl) (HJ435 _ _ ⟨(.int .i64 r7a.2),(.bool (decide (r7a.2=0))),rfl,(by simp only [S0,S1]<;>rfl)⟩)
            ·have p2a6:=bF e3c
             have f3a6:=ifN p2a6 h0s
             refine dP 2 rfl ?_ (hw:=wgF rfl e3c)
             refine dP 3 rfl ?_ (hw:=wgF rfl e3c)
             refine dA 4 rfl (fun _=>AG (evb rfl e3c) rfl) ?_
             obtain rfl:=sj f3a6
             exact Ex (by kernel_rfl) (HJ435 _ _ ⟨uu,uu,rfl,(by simp only [S0,S1]<;>rfl)⟩)
           ·rintro l' _ ⟨t2s,t3s,rfl,hq'⟩ l'' hl
            rw [hq'] at hl
            clear hq'
            simp only [S0,S1] at hl
            subst hl
            refine dA 5 rfl (fun _=>Aa rfl) ?_
            rcases bft m9r with e5a | e5a
            ·have p4a6:=e5a
             have f5a6:=ifP p4a6 f1s
             refine dV 6 rfl (fun _ hw=>Am IG rfl (((((((((q3p.ext E1a).ext E9a).ext E0b).ext E1b).ext E2b).ext E1c).ext E8c).ext E7e).ext hw) rfl) S7j ?_ (hw:=wgT rfl e5a)
             refine dV 7 rfl (fun _ hw=>Am BC rfl (((q4q.ext E8c).ext E7e).ext hw) rfl) S7j ?_ (hw:=wgT rfl e5a)
             obtain ⟨m4s,h6a6,f7a6⟩:=Ab f5a6
             have hx5s:=Dh h6a6
             have n8a6:RU w6a A1 c2 m4s:=by unfold RU;rw [hx5s];exact (n3.ext X8g)
             obtain ⟨r6s,h9a6,f0a7⟩:=Ab f7a6
             refine dc 8 rfl (by kernel_rfl) (wgT rfl e5a) (Ae en_67 (by simp only [sz,hx5s];rfl)) (c_sorobanref04_Value (⟨(⟨x0.Man.Neg,m4s⟩:Ai),x0.Exp⟩:Ak) A1 c2 w6a (tbx X8g hT) n8a6 r6s h9a6) ?_
             rintro _ w3h E9g ⟨A1a7,c2a7,A3a7,c4a7,rfl,n5a7,n6a7⟩
             refine dnrm ?_
             have X7s:=xtr X8g E9g
             have S7a7:=S7j.trans E9g
             have n8a7:=((((((((((n9o.ext F3a).ext E1a).ext E9a).ext E0b).ext E1b).ext E2b).ext E1c).ext E8c).ext E7e).ext E7g).ext E9g
             have n9a7:=((((((((((n0p.ext F3a).ext E1a).ext E9a).ext E0b).ext E1b).ext E2b).ext E1c).ext E8c).ext E7e).ext E7g).ext E9g
             obtain ⟨r0a8,h1a8,f2a8⟩:=Ab f0a7
             refine dc 9 rfl (by kernel_rfl) (wgT rfl e5a) (Ae OD (by rfl)) (HF r7a.1 r6s A3i c4i A5i c6i A1a7 c2a7 A3a7 c4a7 w3h (tbx X7s hT) n8a7 n9a7 n5a7 n6a7 r0a8 h1a8) ?_
             rintro _ w8d E8s rfl
             refine dnrm ?_
             have X3a8:=xtr X7s E8s
             have S2a9:=S7a7.trans E8s
             refine dA 10 rfl (fun _=>Ax (evb rfl e5a) rfl) ?_
             refine dA 11 rfl (fun _=>Ac rfl) ?_
             refine Ct (by kernel_rfl) ?_
             refine h6j _ _<|wp_ret ?_
             obtain rfl:=sj f2a8
             exact fin rfl (Res.tmp rfl Res.nil) (Al X3a8 rfl)
            ·have p4a8:=bF e5a
             have f5a8:=ifN p4a8 f1s
             refine dP 6 rfl ?_ (hw:=wgF rfl e5a)
             refine dP 7 rfl ?_ (hw:=wgF rfl e5a)
             refine dP 8 rfl ?_ (hw:=wgF rfl e5a)
             refine dP 9 rfl ?_ (hw:=wgF rfl e5a)
             refine dA 10 rfl (fun _=>AG (evb rfl e5a) rfl) ?_
             refine dA 11 rfl (fun _=>Ac rfl) ?_
             refine Ct (by kernel_rfl) ?_
             refine h6j _ _<|wp_ret ?_
             obtain rfl:=sj f5a8
             exact fin rfl (Res.tmp rfl Res.nil) (Al X8g rfl)
end Go.Proofs

