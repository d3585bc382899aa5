import Derived.Test.YtabiobmfelafoaaGreatDoorGen3
namespace Go.Proofs
set_option linter.unusedVariables false
set_option linter.unusedSimpArgs false
set_option maxHeartbeats 4000000
open Go.RowKit Go.Sb Go.Proofs.Sbn
theorem HH (b b':Nat) (v0 v1 v2:Value) (u:Value) (n:Int) {w:World} (qa:Bx w b 65 [v0,v1,v2]) (qb:Bx w b' 33 [u]) :
  CallsD Tryz.prog 155 #[.pointer (some ⟨b,0,none⟩),.pointer (some ⟨b',0,none⟩)] (.panicking [entry 201 n]) w fun e u' w'=>e = .returned (.tuple #[])∧u' = .panicking [{ entry 201 n with recovered:=true }]∧(Upd2 b b' w w'∧Bx w' b 65 [.bool false,.slice none 0 0,.slice none 0 0]∧Bx w' b' 33 [.int .i64 n]):=by
 refine Jf Tryz.func155 rfl [.pointer (some ⟨b,0,none⟩),.pointer (some ⟨b',0,none⟩),uu,uu,uu,uu,uu,uu,uu,uu,uu,uu,uu,uu,uu,uu,uu,uu,uu,uu,uu,uu,uu,uu,uu,uu] (by simp [Tryz.ntmps155]) fun c₀ cs hu=>?_
 apply wpS_seq
 refine Pv hu rfl ?_
 simp only [S0,S1]
 refine wpS_of_wp<|wp_seq_k fun K1 h1=>Af<|sV (Aa rfl) ?_
 refine sV (KV Kx rfl) ?_
 refine Ad<|h1 _ _<|wp_cond_true (Aj (evb rfl rfl))<|wp_seq_k fun K2 h2=>Af<|sV (Aa rfl) ?_
 refine sV (Kj Ml rfl) ?_
 refine sV (Aa rfl) ?_
 refine sV (Ap rfl rfl) ?_
 refine sV (Ap rfl rfl) ?_
 refine Aw MP fun b3 w1 E4 g5 q6=>?_
 refine nrm ?_
 have X7:=(Upd2.refl b b' w).ext E4
 refine Ax MJ rfl rfl q6 rfl rfl rfl rfl (by simp only [SP0,SP1,S0,S1,Nat.reduceAdd];rfl) fun w2 U8 q9=>?_
 have X3a:=X7.upd U8 (.inl g5)
 refine sV (Ac rfl) ?_
 refine Ad<|h2 _ _<|wp_seq_k fun K4a h4a=>wp_seq_k fun K5a h5a=>Af<|sV (Aa rfl) ?_
 refine sV (Lb rfl rfl rfl) ?_
 refine Ad<|h5a _ _<|wp_cond_false (Aj (evb rfl rfl))<|wp_skip<|h4a _ _<|wp_seq_k fun K6a h6a=>Af<|Aw OL fun b8c w3 E1a g2b q3b=>?_
 refine nrm ?_
 have g9c:=nlt X3a.size g2b
 have X4b:=X3a.ext E1a
 refine Ad<|h6a _ _<|Ei [6,8] 9 mo rfl fun w4 E0a S5b=>have X6b:=X4b.ext E0a;dA 0 rfl (fun _=>Aa rfl) ?_
 refine dA 1 rfl (fun _=>Aa rfl) ?_
 refine dV 2 rfl (fun _ hw=>Am JG rfl ((q3b.ext E0a).ext hw) rfl) S5b ?_
 refine dA 3 rfl (fun _=>Ai (o':=0) KW rfl rfl) ?_
 refine dA 5 rfl (fun _=>Bn rfl) ?_
 refine IP #[true,true,true,true,true,true,true,false,false] 2 (fun l l' w'=>UpdS [b] w4 w'∧Bx w' b 65 [.bool false,.slice none 0 0,.slice none 0 0]∧l'=(l.set 23 (.int .i64 n))) ?_ ?_
 ·intro HJ38
  refine GF 4 6 (by kernel_rfl) ?_ ?_
  ·refine opV 4 rfl (by rfl) (Ag Ck rfl (Bx.cell ((q9.ext E1a).ext E0a) rfl)) (dnrm ?_)
   refine CF 6 (by kernel_rfl) ?_
   ·have F7b:=belU E4 U8 g5
    refine opK 6 rfl (by decide) (by rfl) Ni rfl rfl (((qa.ext F7b).ext E1a).ext E0a) rfl rfl rfl rfl (by simp only [SP0,SP1,S0,S1,Nat.reduceAdd];rfl) fun w5 U8b q9b=>?_
    exact Et (by kernel_rfl) (HJ38 _ _ ⟨((UpdS.refl _ _).upd U8b (.inl im0)),q9b,(by simp only [S0,S1]<;>rfl)⟩)
  ·have F7a:=belU E4 U8 g5
   refine opK 6 rfl (by decide) (by rfl) Ni rfl rfl (((qa.ext F7a).ext E1a).ext E0a) rfl rfl rfl rfl (by simp only [SP0,SP1,S0,S1,Nat.reduceAdd];rfl) fun w5 U8a q0c=>?_
   refine CF 4 (by kernel_rfl) ?_
   ·have ne1c:=(Bx.neT ((q9.ext E1a).ext E0a) (((qa.ext F7a).ext E1a).ext E0a) (by decide))
    have q2c:=((q9.ext E1a).ext E0a).upd U8a ne1c
    refine opV 4 rfl (by rfl) (Ag Ck rfl (Bx.cell q2c rfl)) (dnrm ?_)
    exact Et (by kernel_rfl) (HJ38 _ _ ⟨((UpdS.refl _ _).upd U8a (.inl im0)),q0c,(by simp only [S0,S1]<;>rfl)⟩)
 ·rintro l' w5 ⟨U9a,q3c,hq'⟩ l'' hl
  rw [hq'] at hl
  clear hq'
  simp only [S0,S1] at hl
  subst hl
  have X4c:=X6b.updS U9a (alc (.inr (.inl rfl)) al0)
  refine dA 7 rfl (fun _=>Bn rfl) ?_
  have F2a:=belU E4 U8 g5
  have ne0b:=(Bx.neT (((qb.ext F2a).ext E1a).ext E0a) (((qa.ext F2a).ext E1a).ext E0a) (by decide))
  have q5c:=(((qb.ext F2a).ext E1a).ext E0a).updS U9a (nmc ne0b nm0)
  refine dk 8 rfl (by kernel_rfl) (by decide) (by rfl) GA rfl rfl q5c rfl rfl rfl rfl (by simp only [SP0,SP1,S0,S1,Nat.reduceAdd];rfl) fun w6 U1b q6c=>?_
  have X7c:=X4c.upd U1b (.inr (.inr rfl))
  refine CU (by kernel_rfl) ?_
  exact Pw (by kernel_rfl) ⟨rfl,rfl,X7c,(q3c.upd U1b (Ne.symm ne0b)),q6c⟩
theorem Ig:Pj Tryz.prog 155:=by
 intro ar b b' w ha
 subst ha
 refine Jf Tryz.func155 rfl [.pointer (some ⟨b,0,none⟩),.pointer (some ⟨b',0,none⟩),uu,uu,uu,uu,uu,uu,uu,uu,uu,uu,uu,uu,uu,uu,uu,uu,uu,uu,uu,uu,uu,uu,uu,uu] (by simp [Tryz.ntmps155]) fun c₀ cs hu=>?_
 apply wpS_seq
 refine Pl hu rfl ?_
 simp only [S0,S1]
 refine wpS_of_wp<|wp_seq_k fun K1 h1=>Af<|sV (Aa rfl) ?_
 refine sV (Jp Kx rfl) ?_
 refine Ad<|h1 _ _<|wp_cond_false (Aj (evb rfl rfl))<|wp_skip ?_
 exact Ol hu (by kernel_rfl) ⟨rfl,rfl,rfl⟩
theorem idle_whole_caught:OK Tryz.prog 246:=by
 intro b w
 refine Jf Tryz.func246 rfl [.pointer (some ⟨b,0,none⟩),uu,uu,uu,uu,uu,uu,uu,uu,uu,uu,uu,uu,uu,uu] (by simp [Tryz.ntmps246]) fun c₀ cs hu=>?_
 apply wpS_seq
 refine rcvI1 hu rfl ?_
 simp only [S0,S1]
 refine wpS_of_wp ?_
 apply wp_block
 refine wp_seq_k fun K1 h1=>Af<|sV (d_eqlNilN Kx rfl) ?_
 refine Ad<|h1 _ _<|wp_cond_true (Aj (evb rfl rfl))<|Af<|sV (Ac rfl) ?_
 refine Ad ?_
 try simp only [Exit.inBlock]
 exact Ol hu (by kernel_rfl) ⟨rfl,rfl,rfl⟩
theorem c_whole_args_1 (x0:Ah) (A1:Option Addr) (c2:Nat) (w:World) (hT:TB w) (n3:RU w A1 c2 x0.Abs) (r:Bool) (hr:GL x0=some r) :
  Calls Tryz.prog 270 #[.agg #[.bool x0.Neg,.slice A1 (sz x0.Abs) c2]] w (Ret Fy w r):=by
 unfold GL at hr
 go_enter Tryz.func270,Tryz.ntmps270
 refine wp_seq_k fun K4 h4=>Af<|BT rfl rfl fun b5 w1 E6 g7 q8=>?_
 refine nrm ?_
 refine sV (Ac rfl) ?_
 refine Ad<|h4 _ _<|wp_seq_k fun K9 h9=>Af<|sV (Am FY rfl q8 rfl) ?_
 obtain ⟨r1a,h2a,f3a⟩:=Ab hr
 refine sc (Ae MT (by rfl)) (HZ (⟨x0.Neg,(limbs x0.Abs)⟩:AL) A1 c2 w1 (tbx E6 hT) (n3.ext E6) r1a h2a) ?_
 rintro _ w2 E4a rfl
 refine nrm ?_
 have X5a:=xtr E6 E4a
 refine sb (ER rfl) fun z0a hz0a=>?_
 refine nrm ?_
 refine sV (Ac rfl) ?_
 refine Ad<|h9 _ _<|wp_ret ?_
 obtain rfl:z0a=decide (¬(r1a=true)):=bz hz0a
 obtain rfl:=sj f3a
 exact fin rfl (Res.tmp rfl Res.nil) (Ak X5a rfl)
theorem c_slices_IndexFunc_Int__1__whole_args_1 (x0_0:Ah) (bp0:Nat) (A1:Option Addr) (c2:Nat) (w:World) (hT:TB w) (n3:RU w A1 c2 x0_0.Abs) (q4:Bx w bp0 25 [.bool x0_0.Neg,.slice A1 (sz x0_0.Abs) c2]) (r:Int) (hr:Bl x0_0=some r) :
  Calls Tryz.prog 284 #[.slice (some ⟨bp0,0,none⟩) 1 1,.func (.func 270) #[] #[]] w (Ret GI w r):=by
 unfold Bl at hr
 go_enter Tryz.func284,Tryz.ntmps284
 refine wp_seq_k fun K5 h5=>Af<|sV (Ac rfl) ?_
 refine Ad<|h5 _ _<|wp_seq_k fun K6 h6=>wp_seq_k fun K7 h7=>Af<|sV (Aa rfl) ?_
 refine sV (AD NA rfl) ?_
 refine sV (Aa rfl) ?_
 refine Ad<|h7 _ _ ?_
 apply wp_block
 refine GO<|Bg<|wp_seq_k fun K8 h8=>Af<|sV (HO (v:=.bool true) (Cm rfl rfl) (by rfl)) ?_
 refine Ad<|h8 _ _<|wp_seq_k fun K9 h9=>wp_cond_true (Aj (evb rfl rfl))<|wp_skip<|h9 _ _<|wp_seq_k fun K1a h1a=>?_
 apply wp_block
 refine wp_seq_k fun K2a h2a=>Af<|sV (Aa rfl) ?_
 refine sV (Ac rfl) ?_
 refine Ad<|h2a _ _<|wp_seq_k fun K3a h3a=>Af<|sV (Aa rfl) ?_
 refine sV (Aa rfl) ?_
 refine sV (Aa rfl) ?_
 refine sV (FO (o':=0) NA IY rfl rfl (by decide) (by decide) (by decide)) ?_
 refine sV (Am FY rfl q4 rfl) ?_
 obtain ⟨r4a,h0b,f5a⟩:=Ab hr
 refine sc (FB (first:=[]) (cap:=[]) (args:=[.agg #[.bool x0_0.Neg,.slice A1 (sz x0_0.Abs) c2]]) en_270 (by rfl) (by rfl)) (c_whole_args_1 x0_0 A1 c2 w hT n3 r4a h0b) ?_
 rintro _ w1 E6a rfl
 refine nrm ?_
 refine Ad<|h3a _ _ ?_
 rcases bft r4a with e0a | e0a
 ·have p1b:=e0a
  have f2b:=ifP p1b f5a
  refine wp_cond_true (Aj (evb rfl e0a))<|wp_seq_k fun K7a h7a=>Af<|sV (Aa rfl) ?_
  refine sV (Ac rfl) ?_
  refine Ad<|h7a _ _<|wp_ret ?_
  obtain rfl:=sj f2b
  exact fin rfl (Res.tmp rfl Res.nil) (Ak E6a rfl)
 ·have p3b:=bF e0a
  have f4b:=ifN p3b f5a
  refine wp_cond_false (Aj (evb rfl e0a))<|wp_skip<|h1a _ _<|Af<|sV (Bd (c:=1) rfl rfl (by decide)) ?_
  refine sV (Aa rfl) ?_
  refine Ad<|Bg<|wp_seq_k fun K8a h8a=>Af<|sV (HO (v:=.bool false) (Cm rfl rfl) (by rfl)) ?_
  refine Ad<|h8a _ _<|wp_seq_k fun K5b h5b=>wp_cond_false (Aj (evb rfl rfl))<|wp_exit ?_
  simp only [Exit.then,Exit.inBlock,↓reduceIte,Nat.reduceEqDiff]
  refine h6 _ _<|wp_seq_k fun K9a h9a=>Af<|sV (Ac rfl) ?_
  refine Ad<|h9a _ _<|wp_ret ?_
  obtain rfl:=sj f4b
  exact fin rfl (Res.tmp rfl Res.nil) (Ak E6a rfl)
theorem c_slices_ContainsFunc_Int__1__whole_args_1 (x0_0:Ah) (bp0:Nat) (A1:Option Addr) (c2:Nat) (w:World) (hT:TB w) (n3:RU w A1 c2 x0_0.Abs) (q4:Bx w bp0 25 [.bool x0_0.Neg,.slice A1 (sz x0_0.Abs) c2]) (r:Bool) (hr:Bh x0_0=some r) :
  Calls Tryz.prog 269 #[.slice (some ⟨bp0,0,none⟩) 1 1,.func (.func 270) #[] #[]] w (Ret Fy w r):=by
 unfold Bh at hr
 go_enter Tryz.func269,Tryz.ntmps269
 refine wp_seq_k fun K5 h5=>Af<|sV (Ac rfl) ?_
 refine Ad<|h5 _ _<|wp_seq_k fun K6 h6=>Af<|sV (Aa rfl) ?_
 refine sV (Aa rfl) ?_
 obtain ⟨r7,h8,f9⟩:=Ab hr
 refine sc (Ae en_284 (by rfl)) (c_slices_IndexFunc_Int__1__whole_args_1 x0_0 bp0 A1 c2 w hT n3 q4 r7 h8) ?_
 rintro _ w1 E1a rfl
 refine nrm ?_
 refine sb (EP rfl rfl) fun z0a hz0a=>?_
 refine nrm ?_
 refine sV (Ac rfl) ?_
 refine Ad<|h6 _ _<|wp_ret ?_
 obtain rfl:z0a=decide (0≤r7):=bz hz0a
 obtain rfl:=sj f9
 exact fin rfl (Res.tmp rfl Res.nil) (Ak E1a rfl)
theorem ID (x0:Bool) (x1:Int) (w:World) (hT:TB w) (r:Except Int (Unit)) (hr:IE x0 x1=some r) :
  Calls Tryz.prog 248 #[.bool x0,.int .i64 x1] w (RetE 274 Ki w r):=by
 unfold IE at hr
 go_enter Tryz.func248,Tryz.ntmps248
 refine wp_seq_k fun K1 h1=>Af<|sV (Aa rfl) ?_
 refine sb (ER rfl) fun z2 hz2=>?_
 refine nrm ?_
 refine Ad<|h1 _ _ ?_
 rcases bft z2 with e8 | e8
 ·have p0a:=zP hz2 e8
  have f1a:=ifP p0a hr
  refine wp_cond_true (Aj (evb rfl e8))<|Af<|sV (Aa rfl) ?_
  refine sV (Bc (vals:=[(0,.int .i64 x1)]) (cells:=[.int .i64 x1]) (by rfl) (by kernel_rfl)) ?_
  refine sV (JY ni_274 rfl) ?_
  refine Nv rfl ?_
  obtain rfl:=sj f1a
  exact ⟨rfl,BP (Ext.refl _)⟩
 ·have p9:=zN hz2 e8
  have f2a:=ifN p9 hr
  refine wp_cond_false (Aj (evb rfl e8))<|wp_skip ?_
  obtain rfl:=sj f2a
  exact Mb rfl Res.nil (DT (Ext.refl _) rfl)
theorem JF (x0_0:Ah) (bp0:Nat) (A1:Option Addr) (c2:Nat) (w:World) (hT:TB w) (n3:RU w A1 c2 x0_0.Abs) (q4:Bx w bp0 25 [.bool x0_0.Neg,.slice A1 (sz x0_0.Abs) c2]) (r:Except Int (Unit)) (hr:Fj x0_0=some r) :
  Calls Tryz.prog 247 #[.slice (some ⟨bp0,0,none⟩) 1 1] w (RetE 274 Ki w r):=by
 unfold Fj at hr
 go_enter Tryz.func247,Tryz.ntmps247
 refine Af<|sV (Aa rfl) ?_
 obtain ⟨r5,h6,f7⟩:=Ab hr
 refine sc (Ae en_269 (by rfl)) (c_slices_ContainsFunc_Int__1__whole_args_1 x0_0 bp0 A1 c2 w hT n3 q4 r5 h6) ?_
 rintro _ w1 E8 rfl
 refine nrm ?_
 refine sb (ER rfl) fun z9 hz9=>?_
 refine nrm ?_
 obtain rfl:z9=decide (¬(r5=true)):=bz hz9
 rcases AG f7 with ⟨r0a,h1a,f3a⟩ | ⟨r0a,h1a,rfl⟩
 ·refine scO (Ae MG (by rfl)) (ID (decide (¬(r5=true))) 1 w1 (tbx E8 hT)  (.ok r0a) h1a) ?_
  rintro _ w2 E2a rfl
  refine nrm ?_
  have X4a:=xtr E8 E2a
  refine Ad ?_
  obtain rfl:=sj f3a
  exact Mb rfl Res.nil (DT X4a rfl)
 ·refine scP (Ae MG (by rfl)) (ID (decide (¬(r5=true))) 1 w1 (tbx E8 hT)  (.error r0a) h1a) fun w2 E2a=>?_
  have X5a:=xtr E8 E2a
  exact ⟨rfl,BP X5a⟩
theorem Fm:OK Tryz.prog 222:=by
 intro b w
 refine Jf Tryz.func222 rfl [.pointer (some ⟨b,0,none⟩),uu,uu,uu,uu,uu,uu,uu,uu,uu,uu,uu,uu,uu,uu,uu,uu,uu,uu,uu] (by simp [Tryz.ntmps222]) fun c₀ cs hu=>?_
 apply wpS_seq
 refine Pl hu rfl ?_
 simp only [S0,S1]
 refine wpS_of_wp<|wp_seq_k fun K1 h1=>Af<|sV (Aa rfl) ?_
 refine sV (Jp Kx rfl) ?_
 refine Ad<|h1 _ _<|wp_cond_false (Aj (evb rfl rfl))<|wp_skip ?_
 try simp only [Exit.inBlock]
 exact Ol hu (by kernel_rfl) ⟨rfl,rfl,rfl⟩
theorem Jb (x0:Nat) (A1:Option Addr) (c2:Nat) (w:World) (hT:TB w) (n3:RU w A1 c2 x0) (r:Bool) (hr:FD x0=some r) :
  Calls Tryz.prog 255 #[.slice A1 (sz x0) c2] w (Ret Fy w r):=by
 unfold FD at hr
 go_enter Tryz.func255,Tryz.ntmps255
 refine wp_seq_k fun K4 h4=>Af<|sV (Ac rfl) ?_
 refine Ad<|h4 _ _<|wp_seq_k fun K5 h5=>Af<|sV (Aa rfl) ?_
 obtain ⟨r6,h7,f8⟩:=Ab hr
 refine sc (Ae NR (by rfl)) (Ii (limbs x0) A1 c2 w hT n3 r6 h7) ?_
 rintro _ w1 E9 rfl
 refine nrm ?_
 refine sb (ER rfl) fun z0a hz0a=>?_
 refine nrm ?_
 refine sV (Ac rfl) ?_
 refine Ad<|h5 _ _<|wp_ret ?_
 obtain rfl:z0a=decide (¬(r6=true)):=bz hz0a
 obtain rfl:=sj f8
 exact fin rfl (Res.tmp rfl Res.nil) (Ak E9 rfl)
theorem c_slices_IndexFunc_Nat__1__nat_taken_1 (x0_0:Nat) (bp0:Nat) (A1:Option Addr) (c2:Nat) (w:World) (hT:TB w) (n3:RU w A1 c2 x0_0) (q4:Bx w bp0 23 [.slice A1 (sz x0_0) c2]) (r:Int) (hr:BR x0_0=some r) :
  Calls Tryz.prog 274 #[.slice (some ⟨bp0,0,none⟩) 1 1,.func (.func 255) #[] #[]] w (Ret GI w r):=by
 unfold BR at hr
 go_enter Tryz.func274,Tryz.ntmps274
 refine wp_seq_k fun K5 h5=>Af<|sV (Ac rfl) ?_
 refine Ad<|h5 _ _<|wp_seq_k fun K6 h6=>wp_seq_k fun K7 h7=>Af<|sV (Aa rfl) ?_
 refine sV (AD Jd rfl) ?_
 refine sV (Aa rfl) ?_
 refine Ad<|h7 _ _ ?_
 apply wp_block
 refine GO<|Bg<|wp_seq_k fun K8 h8=>Af<|sV (HO (v:=.bool true) (Cm rfl rfl) (by rfl)) ?_
 refine Ad<|h8 _ _<|wp_seq_k fun K9 h9=>wp_cond_true (Aj (evb rfl rfl))<|wp_skip<|h9 _ _<|wp_seq_k fun K1a h1a=>?_
 apply wp_block
 refine wp_seq_k fun K2a h2a=>Af<|sV (Aa rfl) ?_
 refine sV (Ac rfl) ?_
 refine Ad<|h2a _ _<|wp_seq_k fun K3a h3a=>Af<|sV (Aa rfl) ?_
 refine sV (Aa rfl) ?_
 refine sV (Aa rfl) ?_
 refine sV (FO (o':=0) Jd KO rfl rfl (by decide) (by decide) (by decide)) ?_
 refine sV (Ag EQ rfl (Bx.cell q4 rfl)) ?_
 obtain ⟨r4a,h0b,f5a⟩:=Ab hr
 refine sc (FB (first:=[]) (cap:=[]) (args:=[.slice A1 (sz x0_0) c2]) No (by rfl) (by rfl)) (Jb x0_0 A1 c2 w hT n3 r4a h0b) ?_
 rintro _ w1 E6a rfl
 refine nrm ?_
 refine Ad<|h3a _ _ ?_
 rcases bft r4a with e0a | e0a
 ·have p1b:=e0a
  have f2b:=ifP p1b f5a
  refine wp_cond_true (Aj (evb rfl e0a))<|wp_seq_k fun K7a h7a=>Af<|sV (Aa rfl) ?_
  refine sV (Ac rfl) ?_
  refine Ad<|h7a _ _<|wp_ret ?_
  obtain rfl:=sj f2b
  exact fin rfl (Res.tmp rfl Res.nil) (Ak E6a rfl)
 ·have p3b:=bF e0a
  have f4b:=ifN p3b f5a
  refine wp_cond_false (Aj (evb rfl e0a))<|wp_skip<|h1a _ _<|Af<|sV (Bd (c:=1) rfl rfl (by decide)) ?_
  refine sV (Aa rfl) ?_
  refine Ad<|Bg<|wp_seq_k fun K8a h8a=>Af<|sV (HO (v:=.bool false) (Cm rfl rfl) (by rfl)) ?_
  refine Ad<|h8a _ _<|wp_seq_k fun K5b h5b=>wp_cond_false (Aj (evb rfl rfl))<|wp_exit ?_
  simp only [Exit.then,Exit.inBlock,↓reduceIte,Nat.reduceEqDiff]
  refine h6 _ _<|wp_seq_k fun K9a h9a=>Af<|sV (Ac rfl) ?_
  refine Ad<|h9a _ _<|wp_ret ?_
  obtain rfl:=sj f4b
  exact fin rfl (Res.tmp rfl Res.nil) (Ak E6a rfl)
theorem c_slices_ContainsFunc_Nat__1__nat_taken_1 (x0_0:Nat) (bp0:Nat) (A1:Option Addr) (c2:Nat) (w:World) (hT:TB w) (n3:RU w A1 c2 x0_0) (q4:Bx w bp0 23 [.slice A1 (sz x0_0) c2]) (r:Bool) (hr:BF x0_0=some r) :
  Calls Tryz.prog 254 #[.slice (some ⟨bp0,0,none⟩) 1 1,.func (.func 255) #[] #[]] w (Ret Fy w r):=by
 unfold BF at hr
 go_enter Tryz.func254,Tryz.ntmps254
 refine wp_seq_k fun K5 h5=>Af<|sV (Ac rfl) ?_
 refine Ad<|h5 _ _<|wp_seq_k fun K6 h6=>Af<|sV (Aa rfl) ?_
 refine sV (Aa rfl) ?_
 obtain ⟨r7,h8,f9⟩:=Ab hr
 refine sc (Ae Pe (by rfl)) (c_slices_IndexFunc_Nat__1__nat_taken_1 x0_0 bp0 A1 c2 w hT n3 q4 r7 h8) ?_
 rintro _ w1 E1a rfl
 refine nrm ?_
 refine sb (EP rfl rfl) fun z0a hz0a=>?_
 refine nrm ?_
 refine sV (Ac rfl) ?_
 refine Ad<|h6 _ _<|wp_ret ?_
 obtain rfl:z0a=decide (0≤r7):=bz hz0a
 obtain rfl:=sj f9
 exact fin rfl (Res.tmp rfl Res.nil) (Ak E1a rfl)
theorem DH (x0:Bool) (x1:Int) (w:World) (hT:TB w) (r:Except Int (Unit)) (hr:EA x0 x1=some r) :
  Calls Tryz.prog 224 #[.bool x0,.int .i64 x1] w (RetE 258 Ki w r):=by
 unfold EA at hr
 go_enter Tryz.func224,Tryz.ntmps224
 refine wp_seq_k fun K1 h1=>Af<|sV (Aa rfl) ?_
 refine sb (ER rfl) fun z2 hz2=>?_
 refine nrm ?_
 refine Ad<|h1 _ _ ?_
 rcases bft z2 with e8 | e8
 ·have p0a:=zP hz2 e8
  have f1a:=ifP p0a hr
  refine wp_cond_true (Aj (evb rfl e8))<|Af<|sV (Aa rfl) ?_
  refine sV (Bc (vals:=[(0,.int .i64 x1)]) (cells:=[.int .i64 x1]) (by rfl) (by kernel_rfl)) ?_
  refine sV (JY ni_258 rfl) ?_
  refine Nv rfl ?_
  obtain rfl:=sj f1a
  exact ⟨rfl,BP (Ext.refl _)⟩
 ·have p9:=zN hz2 e8
  have f2a:=ifN p9 hr
  refine wp_cond_false (Aj (evb rfl e8))<|wp_skip ?_
  obtain rfl:=sj f2a
  exact Mb rfl Res.nil (DT (Ext.refl _) rfl)
theorem Hv (x0_0:Nat) (bp0:Nat) (A1:Option Addr) (c2:Nat) (w:World) (hT:TB w) (n3:RU w A1 c2 x0_0) (q4:Bx w bp0 23 [.slice A1 (sz x0_0) c2]) (r:Except Int (Unit)) (hr:FV x0_0=some r) :
  Calls Tryz.prog 223 #[.slice (some ⟨bp0,0,none⟩) 1 1] w (RetE 258 Ki w r):=by
 unfold FV at hr
 go_enter Tryz.func223,Tryz.ntmps223
 refine Af<|sV (Aa rfl) ?_
 obtain ⟨r5,h6,f7⟩:=Ab hr
 refine sc (Ae OP (by rfl)) (c_slices_ContainsFunc_Nat__1__nat_taken_1 x0_0 bp0 A1 c2 w hT n3 q4 r5 h6) ?_
 rintro _ w1 E8 rfl
 refine nrm ?_
 refine sb (ER rfl) fun z9 hz9=>?_
 refine nrm ?_
 obtain rfl:z9=decide (¬(r5=true)):=bz hz9
 rcases AG f7 with ⟨r0a,h1a,f3a⟩ | ⟨r0a,h1a,rfl⟩
 ·refine scO (Ae HB (by rfl)) (DH (decide (¬(r5=true))) 1 w1 (tbx E8 hT)  (.ok r0a) h1a) ?_
  rintro _ w2 E2a rfl
  refine nrm ?_
  have X4a:=xtr E8 E2a
  refine Ad ?_
  obtain rfl:=sj f3a
  exact Mb rfl Res.nil (DT X4a rfl)
 ·refine scP (Ae HB (by rfl)) (DH (decide (¬(r5=true))) 1 w1 (tbx E8 hT)  (.error r0a) h1a) fun w2 E2a=>?_
  have X5a:=xtr E8 E2a
  exact ⟨rfl,BP X5a⟩
theorem EI (x0:Nat) (A1:Option Addr) (c2:Nat) (w:World) (hT:TB w) (n3:RU w A1 c2 x0) (r:Except Int (Nat)) (hr:Fz x0=some r) :
  Calls Tryz.prog 225 #[.slice A1 (sz x0) c2] w (RetE 258 LU w r):=by
 unfold Fz at hr
 go_enter Tryz.func225,Tryz.ntmps225
 refine wp_seq_k fun K4 h4=>Af<|sV (Ac rfl) ?_
 refine Ad<|h4 _ _<|wp_seq_k fun K5 h5=>Af<|sV (Aa rfl) ?_
 refine sV (AD AP rfl) ?_
 refine sb (IL rfl rfl) fun z6 hz6=>?_
 refine nrm ?_
 obtain rfl:z6=decide ((sz x0:Int)≤1024):=bz hz6
 rcases AG hr with ⟨r7,h8,f9⟩ | ⟨r7,h8,rfl⟩
 ·refine scO (Ae HB (by rfl)) (DH (decide ((sz x0:Int)≤1024)) 2 w hT  (.ok r7) h8) ?_
  rintro _ w1 E0a rfl
  refine nrm ?_
  refine Ad<|h5 _ _<|wp_seq_k fun K1a h1a=>Af<|sV (Aa rfl) ?_
  obtain ⟨r2a,h3a,f4a⟩:=Ab f9
  refine sc (Ae en_256 (by rfl)) (c_slices_Clone_nat_limbs x0 A1 c2 w1 (tbx E0a hT) (n3.ext E0a) r2a h3a) ?_
  rintro _ w2 E5a ⟨A6a,c7a,rfl,n8a⟩
  refine nrm ?_
  have X9a:=xtr E0a E5a
  refine sV (Ac rfl) ?_
  refine Ad<|h1a _ _<|wp_ret ?_
  obtain rfl:=sj f4a
  exact fin rfl (Res.tmp rfl Res.nil) (DT X9a ⟨A6a,c7a,rfl,n8a⟩)
 ·refine scP (Ae HB (by rfl)) (DH (decide ((sz x0:Int)≤1024)) 2 w hT  (.error r7) h8) fun w1 E0a=>?_
  exact ⟨rfl,BP E0a⟩
theorem Mv (x0:Nat) (x1:Int) (A1:Option Addr) (c2:Nat) (w:World) (hT:TB w) (n3:RU w A1 c2 x0) (r:Nat × Int) (hr:IG x0 x1=some r) :
  Calls Tryz.prog 158 #[.slice A1 (sz x0) c2,.int .i64 x1] w (Ret Hr w r):=by
 unfold IG at hr
 obtain ⟨q0,hq0,hr0⟩:=Ab hr
 unfold KC at hq0
 go_enter_defers Tryz.func158,Tryz.ntmps158
 refine wp_seq_k fun K4 h4=>Af<|sV (Ac rfl) ?_
 refine Aw Iw fun b5 w1 E6 g7 q8=>?_
 refine nrm ?_
 refine Ad<|h4 _ _<|wp_seq_k fun K9 h9=>Af<|Ha (vs:=[.pointer (some ⟨b5,0,none⟩)]) (by rfl) (by rfl)<|Ad<|h9 _ _<|wp_seq_k fun K3c h3c=>Af<|sV (Aa rfl) ?_
 refine Ct (vals:=[(0,.slice A1 (sz x0) c2)]) (cs:=[.slice A1 (sz x0) c2]) Jd KO Nd (by rfl) (by decide) (by kernel_rfl) fun b4c w2 E6a g9d q5c=>?_
 refine nrm ?_
 have g8f:=nlt E6.size g9d
 have X0a:=xtr E6 E6a
 rcases AG hq0 with ⟨r7a,h8a,f0e⟩ | ⟨r7a,h8a,rfl⟩
 ·refine scO (Ae Ja (by rfl)) (Hv x0 b4c A1 c2 w2 (tbx X0a hT) (n3.ext X0a) q5c (.ok r7a) h8a) ?_
  rintro _ w3 E2a rfl
  refine nrm ?_
  have X9a:=xtr X0a E2a
  refine Ad<|h3c _ _<|wp_seq_k fun K6c h6c=>Af<|sV (Aa rfl) ?_
  refine sb (EP rfl rfl) fun z0b hz0b=>?_
  refine nrm ?_
  obtain rfl:z0b=decide (0≤x1):=bz hz0b
  rcases AG f0e with ⟨r1b,h2b,f7c⟩ | ⟨r1b,h2b,rfl⟩
  ·refine scO (Ae HB (by rfl)) (DH (decide (0≤x1)) 1 w3 (tbx X9a hT)  (.ok r1b) h2b) ?_
   rintro _ w4 E3a rfl
   refine nrm ?_
   have X4a:=xtr X9a E3a
   refine Ad<|h6c _ _<|wp_seq_k fun K8c h8c=>wp_seq_k fun K9c h9c=>Af<|sV (Aa rfl) ?_
   refine sV (AD CA rfl) ?_
   refine sb (Ce rfl rfl) fun z5a hz5a=>?_
   refine nrm ?_
   refine Ad<|h9c _ _ ?_
   rcases bft z5a with e1a | e1a
   ·have p1e:=zP hz5a e1a
    have f2e:=ifP p1e f7c
    refine wp_cond_true (Aj (evb rfl e1a))<|wp_seq_k fun K0d h0d=>Af<|sV (Ac rfl) ?_
    refine Ax GA rfl rfl (((q8.ext E6a).ext E2a).ext E3a) rfl rfl rfl rfl (by simp only [SP0,SP1,S0,S1,Nat.reduceAdd];rfl) fun w5 U3e q4e=>?_
    have X5e:=belU X4a U3e g7
    refine Ad<|h0d _ _<|wp_ret ?_
    obtain rfl:=sj f2e
    obtain rfl:=sj hr0
    exact LX Fm Lv rfl (Res.tmp rfl (Res.cell1 rfl Ck (Bx.cell q4e rfl) Res.nil)) (Ak X5e ⟨none,0,rfl,(RU.nil _)⟩)
   ·have p6e:=zN hz5a e1a
    have f7e:=ifN p6e f7c
    refine wp_cond_false (Aj (evb rfl e1a))<|wp_skip<|h8c _ _<|wp_seq_k fun K1d h1d=>Af<|sV (Aa rfl) ?_
    refine sb (IL rfl rfl) fun z3b hz3b=>?_
    refine nrm ?_
    obtain rfl:z3b=decide (x1≤32768):=bz hz3b
    rcases AG f7e with ⟨r4b,h5b,f8e⟩ | ⟨r4b,h5b,rfl⟩
    ·refine scO (Ae HB (by rfl)) (DH (decide (x1≤32768)) 2 w4 (tbx X4a hT)  (.ok r4b) h5b) ?_
     rintro _ w5 E6b rfl
     refine nrm ?_
     have X7b:=xtr X4a E6b
     refine Ad<|h1d _ _<|wp_seq_k fun K2d h2d=>Af<|sV (Aa rfl) ?_
     refine sV (Aa rfl) ?_
     obtain ⟨r8b,h9e,f0f⟩:=Ab f8e
     refine sc (Ae MV (by rfl)) (Gi x0 x1 A1 c2 w5 (tbx X7b hT) (n3.ext X7b) r8b h9e) ?_
     rintro _ w6 E3d ⟨A4d,c5d,rfl,n6d⟩
     refine nrm ?_
     have X9b:=xtr X7b E3d
     rcases AG f0f with ⟨r0c,h1c,f1f⟩ | ⟨r0c,h1c,rfl⟩
     ·refine scO (Ae IZ (by rfl)) (EI r8b A4d c5d w6 (tbx X9b hT) n6d (.ok r0c) h1c) ?_
      rintro _ w7 E2c ⟨A2f,c3f,rfl,n4f⟩
      refine nrm ?_
      have X5f:=xtr X9b E2c
      refine sV (Ac rfl) ?_
      have q7d:=(((((q8.ext E6a).ext E2a).ext E3a).ext E6b).ext E3d).ext E2c
      refine Ax GA rfl rfl q7d rfl rfl rfl rfl (by simp only [SP0,SP1,S0,S1,Nat.reduceAdd];rfl) fun w8 U8d q6f=>?_
      have X7f:=belU X5f U8d g7
      refine Ad<|h2d _ _<|wp_ret ?_
      obtain rfl:=sj f1f
      obtain rfl:=sj hr0
      exact LX Fm Lv rfl (Res.tmp rfl (Res.cell1 rfl Ck (Bx.cell q6f rfl) Res.nil)) (Ak X7f ⟨A2f,c3f,rfl,(n4f.upd U8d q7d (by decide))⟩)
     ·refine scP (Ae IZ (by rfl)) (EI r8b A4d c5d w6 (tbx X9b hT) n6d (.error r0c) h1c) fun w7 E2c=>?_
      cases hr0
    ·refine scP (Ae HB (by rfl)) (DH (decide (x1≤32768)) 2 w4 (tbx X4a hT)  (.error r4b) h5b) fun w5 E6b=>?_
     cases hr0
  ·refine scP (Ae HB (by rfl)) (DH (decide (0≤x1)) 1 w3 (tbx X9a hT)  (.error r1b) h2b) fun w4 E3a=>?_
   cases hr0
 ·refine scP (Ae Ja (by rfl)) (Hv x0 b4c A1 c2 w2 (tbx X0a hT) (n3.ext X0a) q5c (.error r7a) h8a) fun w3 E2a=>?_
  cases hr0
theorem Ee (x0:Nat) (x1:Int) (A1:Option Addr) (c2:Nat) (w:World) (hT:TB w) (n3:RU w A1 c2 x0) (r:Except Int (Nat)) (hr:Fu x0 x1=some r) :
  Calls Tryz.prog 218 #[.slice A1 (sz x0) c2,.int .i64 x1] w (RetE 274 LU w r):=by
 unfold Fu at hr
 go_enter Tryz.func218,Tryz.ntmps218
 refine wp_seq_k fun K4 h4=>Af<|sV (Ac rfl) ?_
 refine Ad<|h4 _ _<|wp_seq_k fun K5 h5=>Af<|sV (Aa rfl) ?_
 refine sb (Ce rfl rfl) fun z6 hz6=>?_
 refine nrm ?_
 refine sV (Aa rfl) ?_
 obtain rfl:z6=decide (x1=0):=bz hz6
 rcases AG hr with ⟨r7,h8,f9⟩ | ⟨r7,h8,rfl⟩
 ·refine scO (Ae MG (by rfl)) (ID (decide (x1=0)) x1 w hT  (.ok r7) h8) ?_
  rintro _ w1 E0a rfl
  refine nrm ?_
  refine Ad<|h5 _ _<|wp_seq_k fun K1a h1a=>Af<|sV (Aa rfl) ?_
  refine sV (Ac rfl) ?_
  refine Ad<|h1a _ _<|wp_ret ?_
  obtain rfl:=sj f9
  exact fin rfl (Res.tmp rfl Res.nil) (DT E0a ⟨A1,c2,rfl,(n3.ext E0a)⟩)
 ·refine scP (Ae MG (by rfl)) (ID (decide (x1=0)) x1 w hT  (.error r7) h8) fun w1 E0a=>?_
  exact ⟨rfl,BP E0a⟩
theorem My (x0:Nat) (x1:Int) (A1:Option Addr) (c2:Nat) (w:World) (hT:TB w) (n3:RU w A1 c2 x0) (r:Nat × Int) (hr:Ko x0 x1=some r) :
  Calls Tryz.prog 219 #[.slice A1 (sz x0) c2,.int .i64 x1] w (Ret Hr w r):=by
 unfold Ko at hr
 obtain ⟨q0,hq0,hr0⟩:=Ab hr
 unfold Mf at hq0
 go_enter_defers Tryz.func219,Tryz.ntmps219
 refine wp_seq_k fun K4 h4=>Af<|sV (Ac rfl) ?_
 refine Aw Iw fun b5 w1 E6 g7 q8=>?_
 refine nrm ?_
 refine Ad<|h4 _ _<|wp_seq_k fun K9 h9=>Af<|Ha (vs:=[.pointer (some ⟨b5,0,none⟩)]) (by rfl) (by rfl)<|Ad<|h9 _ _<|wp_seq_k fun K5b h5b=>Af<|sV (Aa rfl) ?_
 refine Ct (vals:=[(0,.slice A1 (sz x0) c2)]) (cs:=[.slice A1 (sz x0) c2]) Jd KO Nd (by rfl) (by decide) (by kernel_rfl) fun b6b w2 E7b g7c q8b=>?_
 refine nrm ?_
 have g9d:=nlt E6.size g7c
 have X0a:=xtr E6 E7b
 rcases AG hq0 with ⟨r1a,h2a,f8c⟩ | ⟨r1a,h2a,rfl⟩
 ·refine scO (Ae Ja (by rfl)) (Hv x0 b6b A1 c2 w2 (tbx X0a hT) (n3.ext X0a) q8b (.ok r1a) h2a) ?_
  rintro _ w3 E3a rfl
  refine nrm ?_
  have X4a:=xtr X0a E3a
  refine Ad<|h5b _ _<|wp_seq_k fun K9b h9b=>Af<|sV (Aa rfl) ?_
  refine sb (EP rfl rfl) fun z5a hz5a=>?_
  refine nrm ?_
  obtain rfl:z5a=decide (0≤x1):=bz hz5a
  rcases AG f8c with ⟨r6a,h7a,f9c⟩ | ⟨r6a,h7a,rfl⟩
  ·refine scO (Ae HB (by rfl)) (DH (decide (0≤x1)) 1 w3 (tbx X4a hT)  (.ok r6a) h7a) ?_
   rintro _ w4 E8a rfl
   refine nrm ?_
   have X9a:=xtr X4a E8a
   refine Ad<|h9b _ _<|wp_seq_k fun K0c h0c=>Af<|sV (Aa rfl) ?_
   refine sV (Aa rfl) ?_
   obtain ⟨r0b,h0d,f1d⟩:=Ab f9c
   refine sc (Ae NQ (by rfl)) (Hg x0 x1 A1 c2 w4 (tbx X9a hT) (n3.ext X9a) r0b h0d) ?_
   rintro _ w5 E1c ⟨A2c,c3c,rfl,n4c⟩
   refine nrm ?_
   have X1b:=xtr X9a E1c
   rcases AG f1d with ⟨r2b,h3b,f2d⟩ | ⟨r2b,h3b,rfl⟩
   ·refine scO (Ae IZ (by rfl)) (EI r0b A2c c3c w5 (tbx X1b hT) n4c (.ok r2b) h3b) ?_
    rintro _ w6 E4b ⟨A3d,c4d,rfl,n5d⟩
    refine nrm ?_
    have X6d:=xtr X1b E4b
    refine sV (Ac rfl) ?_
    have q5c:=((((q8.ext E7b).ext E3a).ext E8a).ext E1c).ext E4b
    refine Ax GA rfl rfl q5c rfl rfl rfl rfl (by simp only [SP0,SP1,S0,S1,Nat.reduceAdd];rfl) fun w7 U6c q7d=>?_
    have X8d:=belU X6d U6c g7
    refine Ad<|h0c _ _<|wp_ret ?_
    obtain rfl:=sj f2d
    obtain rfl:=sj hr0
    exact LX Fm Lv rfl (Res.tmp rfl (Res.cell1 rfl Ck (Bx.cell q7d rfl) Res.nil)) (Ak X8d ⟨A3d,c4d,rfl,(n5d.upd U6c q5c (by decide))⟩)
   ·refine scP (Ae IZ (by rfl)) (EI r0b A2c c3c w5 (tbx X1b hT) n4c (.error r2b) h3b) fun w6 E4b=>?_
    cases hr0
  ·refine scP (Ae HB (by rfl)) (DH (decide (0≤x1)) 1 w3 (tbx X4a hT)  (.error r6a) h7a) fun w4 E8a=>?_
   cases hr0
 ·refine scP (Ae Ja (by rfl)) (Hv x0 b6b A1 c2 w2 (tbx X0a hT) (n3.ext X0a) q8b (.error r1a) h2a) fun w3 E3a=>?_
  cases hr0
theorem c_slices_IndexFunc_Nat__2__nat_taken_1 (x0_0:Nat) (x0_1:Nat) (bp0:Nat) (A1:Option Addr) (c2:Nat) (A4:Option Addr) (c5:Nat) (w:World) (hT:TB w) (n3:RU w A1 c2 x0_0) (n6:RU w A4 c5 x0_1) (q7:Bx w bp0 23 [.slice A1 (sz x0_0) c2,.slice A4 (sz x0_1) c5]) (r:Int) (hr:BS x0_0 x0_1=some r) :
  Calls Tryz.prog 274 #[.slice (some ⟨bp0,0,none⟩) 2 2,.func (.func 255) #[] #[]] w (Ret GI w r):=by
 unfold BS at hr
 go_enter Tryz.func274,Tryz.ntmps274
 refine wp_seq_k fun K8 h8=>Af<|sV (Ac rfl) ?_
 refine Ad<|h8 _ _<|wp_seq_k fun K9 h9=>wp_seq_k fun K3a h3a=>Af<|sV (Aa rfl) ?_
 refine sV (AD Jd rfl) ?_
 refine sV (Aa rfl) ?_
 refine Ad<|h3a _ _ ?_
 apply wp_block
 refine GO<|Bg<|wp_seq_k fun K4a h4a=>Af<|sV (HO (v:=.bool true) (Cm rfl rfl) (by rfl)) ?_
 refine Ad<|h4a _ _<|wp_seq_k fun K5a h5a=>wp_cond_true (Aj (evb rfl rfl))<|wp_skip<|h5a _ _<|wp_seq_k fun K6a h6a=>?_
 apply wp_block
 refine wp_seq_k fun K7a h7a=>Af<|sV (Aa rfl) ?_
 refine sV (Ac rfl) ?_
 refine Ad<|h7a _ _<|wp_seq_k fun K8a h8a=>Af<|sV (Aa rfl) ?_
 refine sV (Aa rfl) ?_
 refine sV (Aa rfl) ?_
 refine sV (FO (o':=0) Jd KO rfl rfl (by decide) (by decide) (by decide)) ?_
 refine sV (Ag EQ rfl (Bx.cell q7 rfl)) ?_
 obtain ⟨r9a,h3c,f0b⟩:=Ab hr
 refine sc (FB (first:=[]) (cap:=[]) (args:=[.slice A1 (sz x0_0) c2]) No (by rfl) (by rfl)) (Jb x0_0 A1 c2 w hT n3 r9a h3c) ?_
 rintro _ w1 E0a rfl
 refine nrm ?_
 refine Ad<|h8a _ _ ?_
 rcases bft r9a with e1a | e1a
 ·have p4c:=e1a
  have f5c:=ifP p4c f0b
  refine wp_cond_true (Aj (evb rfl e1a))<|wp_seq_k fun K1b h1b=>Af<|sV (Aa rfl) ?_
  refine sV (Ac rfl) ?_
  refine Ad<|h1b _ _<|wp_ret ?_
  obtain rfl:=sj f5c
  exact fin rfl (Res.tmp rfl Res.nil) (Ak E0a rfl)
 ·have p6c:=bF e1a
  have f7c:=ifN p6c f0b
  refine wp_cond_false (Aj (evb rfl e1a))<|wp_skip<|h6a _ _<|Af<|sV (Bd (c:=1) rfl rfl (by decide)) ?_
  refine sV (Aa rfl) ?_
  refine Ad<|Bg<|wp_seq_k fun K2b h2b=>Af<|sV (HO (v:=.bool true) (Cm rfl rfl) (by rfl)) ?_
  refine Ad<|h2b _ _<|wp_seq_k fun K3b h3b=>wp_cond_true (Aj (evb rfl rfl))<|wp_skip<|h3b _ _<|wp_seq_k fun K4b h4b=>?_
  apply wp_block
  refine wp_seq_k fun K5b h5b=>Af<|sV (Aa rfl) ?_
  refine sV (Ac rfl) ?_
  refine Ad<|h5b _ _<|wp_seq_k fun K6b h6b=>Af<|sV (Aa rfl) ?_
  refine sV (Aa rfl) ?_
  refine sV (Aa rfl) ?_
  refine sV (FO (o':=1) Jd KO rfl rfl (by decide) (by decide) (by decide)) ?_
  refine sV (Ag EQ rfl (Bx.cell (q7.ext E0a) rfl)) ?_
  obtain ⟨r7b,h8c,f8b⟩:=Ab f7c
  refine sc (FB (first:=[]) (cap:=[]) (args:=[.slice A4 (sz x0_1) c5]) No (by rfl) (by rfl)) (Jb x0_1 A4 c5 w1 (tbx E0a hT) (n6.ext E0a) r7b h8c) ?_
  rintro _ w2 E9c rfl
  refine nrm ?_
  have X9b:=xtr E0a E9c
  refine Ad<|h6b _ _ ?_
  rcases bft r7b with e2a | e2a
  ·have p0d:=e2a
   have f1d:=ifP p0d f8b
   refine wp_cond_true (Aj (evb rfl e2a))<|wp_seq_k fun K0c h0c=>Af<|sV (Aa rfl) ?_
   refine sV (Ac rfl) ?_
   refine Ad<|h0c _ _<|wp_ret ?_
   obtain rfl:=sj f1d
   exact fin rfl (Res.tmp rfl Res.nil) (Ak X9b rfl)
  ·have p2d:=bF e2a
   have f3d:=ifN p2d f8b
   refine wp_cond_false (Aj (evb rfl e2a))<|wp_skip<|h4b _ _<|Af<|sV (Bd (c:=2) rfl rfl (by decide)) ?_
   refine sV (Aa rfl) ?_
   refine Ad<|Bg<|wp_seq_k fun K1c h1c=>Af<|sV (HO (v:=.bool false) (Cm rfl rfl) (by rfl)) ?_
   refine Ad<|h1c _ _<|wp_seq_k fun K4d h4d=>wp_cond_false (Aj (evb rfl rfl))<|wp_exit ?_
   simp only [Exit.then,Exit.inBlock,↓reduceIte,Nat.reduceEqDiff]
   refine h9 _ _<|wp_seq_k fun K2c h2c=>Af<|sV (Ac rfl) ?_
   refine Ad<|h2c _ _<|wp_ret ?_
   obtain rfl:=sj f3d
   exact fin rfl (Res.tmp rfl Res.nil) (Ak X9b rfl)
theorem c_slices_ContainsFunc_Nat__2__nat_taken_1 (x0_0:Nat) (x0_1:Nat) (bp0:Nat) (A1:Option Addr) (c2:Nat) (A4:Option Addr) (c5:Nat) (w:World) (hT:TB w) (n3:RU w A1 c2 x0_0) (n6:RU w A4 c5 x0_1) (q7:Bx w bp0 23 [.slice A1 (sz x0_0) c2,.slice A4 (sz x0_1) c5]) (r:Bool) (hr:BE x0_0 x0_1=some r) :
  Calls Tryz.prog 254 #[.slice (some ⟨bp0,0,none⟩) 2 2,.func (.func 255) #[] #[]] w (Ret Fy w r):=by
 unfold BE at hr
 go_enter Tryz.func254,Tryz.ntmps254
 refine wp_seq_k fun K8 h8=>Af<|sV (Ac rfl) ?_
 refine Ad<|h8 _ _<|wp_seq_k fun K9 h9=>Af<|sV (Aa rfl) ?_
 refine sV (Aa rfl) ?_
 obtain ⟨r1a,h2a,f3a⟩:=Ab hr
 refine sc (Ae Pe (by rfl)) (c_slices_IndexFunc_Nat__2__nat_taken_1 x0_0 x0_1 bp0 A1 c2 A4 c5 w hT n3 n6 q7 r1a h2a) ?_
 rintro _ w1 E4a rfl
 refine nrm ?_
 refine sb (EP rfl rfl) fun z0a hz0a=>?_
 refine nrm ?_
 refine sV (Ac rfl) ?_
 refine Ad<|h9 _ _<|wp_ret ?_
 obtain rfl:z0a=decide (0≤r1a):=bz hz0a
 obtain rfl:=sj f3a
 exact fin rfl (Res.tmp rfl Res.nil) (Ak E4a rfl)
theorem FW (x0_0:Nat) (x0_1:Nat) (bp0:Nat) (A1:Option Addr) (c2:Nat) (A4:Option Addr) (c5:Nat) (w:World) (hT:TB w) (n3:RU w A1 c2 x0_0) (n6:RU w A4 c5 x0_1) (q7:Bx w bp0 23 [.slice A1 (sz x0_0) c2,.slice A4 (sz x0_1) c5]) (r:Except Int (Unit)) (hr:EZ x0_0 x0_1=some r) :
  Calls Tryz.prog 223 #[.slice (some ⟨bp0,0,none⟩) 2 2] w (RetE 258 Ki w r):=by
 unfold EZ at hr
 go_enter Tryz.func223,Tryz.ntmps223
 refine Af<|sV (Aa rfl) ?_
 obtain ⟨r8,h9,f5a⟩:=Ab hr
 refine sc (Ae OP (by rfl)) (c_slices_ContainsFunc_Nat__2__nat_taken_1 x0_0 x0_1 bp0 A1 c2 A4 c5 w hT n3 n6 q7 r8 h9) ?_
 rintro _ w1 E0a rfl
 refine nrm ?_
 refine sb (ER rfl) fun z1a hz1a=>?_
 refine nrm ?_
 obtain rfl:z1a=decide (¬(r8=true)):=bz hz1a
 rcases AG f5a with ⟨r2a,h3a,f6a⟩ | ⟨r2a,h3a,rfl⟩
 ·refine scO (Ae HB (by rfl)) (DH (decide (¬(r8=true))) 1 w1 (tbx E0a hT)  (.ok r2a) h3a) ?_
  rintro _ w2 E4a rfl
  refine nrm ?_
  have X7a:=xtr E0a E4a
  refine Ad ?_
  obtain rfl:=sj f6a
  exact Mb rfl Res.nil (DT X7a rfl)
 ·refine scP (Ae HB (by rfl)) (DH (decide (¬(r8=true))) 1 w1 (tbx E0a hT)  (.error r2a) h3a) fun w2 E4a=>?_
  have X8a:=xtr E0a E4a
  exact ⟨rfl,BP X8a⟩
theorem Ly (x0:Nat) (x1:Nat) (A1:Option Addr) (c2:Nat) (A4:Option Addr) (c5:Nat) (w:World) (hT:TB w) (n3:RU w A1 c2 x0) (n6:RU w A4 c5 x1) (r:Except Int (Nat)) (hr:Kd x0 x1=some r) :
  Calls Tryz.prog 250 #[.slice A1 (sz x0) c2,.slice A4 (sz x1) c5] w (RetE 258 JA w r):=by
 unfold Kd at hr
 go_enter Tryz.func250,Tryz.ntmps250
 refine wp_seq_k fun K7 h7=>Af<|sV (Ac rfl) ?_
 refine Ad<|h7 _ _<|wp_seq_k fun K8 h8=>Af<|sV (Aa rfl) ?_
 refine sV (Aa rfl) ?_
 obtain ⟨r9,h7a,f8a⟩:=Ab hr
 refine sc (Ae NM (by rfl)) (Hj x0 x1 A1 c2 A4 c5 w hT n3 n6 r9 h7a) ?_
 rintro _ w1 E0a rfl
 refine nrm ?_
 refine sb (EP rfl rfl) fun z2a hz2a=>?_
 refine nrm ?_
 obtain rfl:z2a=decide (0≤r9):=bz hz2a
 rcases AG f8a with ⟨r3a,h4a,f9a⟩ | ⟨r3a,h4a,rfl⟩
 ·refine scO (Ae HB (by rfl)) (DH (decide (0≤r9)) 3 w1 (tbx E0a hT)  (.ok r3a) h4a) ?_
  rintro _ w2 E5a rfl
  refine nrm ?_
  have X1a:=xtr E0a E5a
  refine Ad<|h8 _ _<|wp_seq_k fun K6a h6a=>Af<|sV (Aa rfl) ?_
  refine sV (Aa rfl) ?_
  obtain ⟨r0b,h1b,f2b⟩:=Ab f9a
  refine sc (Ae en_252 (by rfl)) (c_nat_limbs_sub x0 x1 A1 c2 A4 c5 w2 (tbx X1a hT) (n3.ext X1a) (n6.ext X1a) r0b h1b) ?_
  rintro _ w3 E3b ⟨A4b,c5b,rfl,n6b⟩
  refine nrm ?_
  have X7b:=xtr X1a E3b
  refine sV (Ac rfl) ?_
  refine Ad<|h6a _ _<|wp_ret ?_
  obtain rfl:=sj f2b
  exact fin rfl (Res.tmp rfl Res.nil) (DT X7b ⟨A4b,c5b,rfl,n6b⟩)
 ·refine scP (Ae HB (by rfl)) (DH (decide (0≤r9)) 3 w1 (tbx E0a hT)  (.error r3a) h4a) fun w2 E5a=>?_
  have X8b:=xtr E0a E5a
  exact ⟨rfl,BP X8b⟩
theorem c_nat_multiplied__nat_Sub_1__nil (x0:Nat) (x1:Nat) (A1:Option Addr) (c2:Nat) (A4:Option Addr) (c5:Nat) (w:World) (hT:TB w) (n3:RU w A1 c2 x0) (n6:RU w A4 c5 x1) (r:Nat × Int) (hr:DJ x0 x1=some r) :
  Calls Tryz.prog 242 #[.slice A1 (sz x0) c2,.slice A4 (sz x1) c5,.agg #[.func (.func 250) #[] #[],.nilFunc]] w (Ret Hr w r):=by
 unfold DJ at hr
 obtain ⟨q0,hq0,hr0⟩:=Ab hr
 unfold Ff at hq0
 go_enter_defers Tryz.func242,Tryz.ntmps242
 refine wp_seq_k fun K7 h7=>Af<|BT rfl rfl fun b8 w1 E9 g1e q5c=>?_
 refine nrm ?_
 refine sV (Ac rfl) ?_
 refine Aw Iw fun b6c w2 E3b g7c q8c=>?_
 refine nrm ?_
 have g9c:=nlt E9.size g7c
 have X4b:=xtr E9 E3b
 refine Ad<|h7 _ _<|wp_seq_k fun K5b h5b=>Af<|Ha (vs:=[.pointer (some ⟨b6c,0,none⟩)]) (by rfl) (by rfl)<|Ad<|h5b _ _<|wp_seq_k fun K6b h6b=>Af<|sV (Aa rfl) ?_
 refine sV (Aa rfl) ?_
 refine Ct (vals:=[(0,.slice A1 (sz x0) c2),(1,.slice A4 (sz x1) c5)]) (cs:=[.slice A1 (sz x0) c2,.slice A4 (sz x1) c5]) Jd KO Nd (by rfl) (by decide) (by kernel_rfl) fun b7b w3 E4a g0d q8b=>?_
 refine nrm ?_
 have g2e:=nlt X4b.size g0d
 have X0a:=xtr X4b E4a
 rcases AG hq0 with ⟨r5a,h6a,f1d⟩ | ⟨r5a,h6a,rfl⟩
 ·refine scO (Ae Ja (by rfl)) (FW x0 x1 b7b A1 c2 A4 c5 w3 (tbx X0a hT) (n3.ext X0a) (n6.ext X0a) q8b (.ok r5a) h6a) ?_
  rintro _ w4 E3a rfl
  refine nrm ?_
  have X1a:=xtr X0a E3a
  refine Ad<|h6b _ _<|wp_seq_k fun K9b h9b=>Af<|sV (Ai (o':=0) Ma rfl rfl) ?_
  have q2d:=((q5c.ext E3b).ext E4a).ext E3a
  refine sV (Ag Nz rfl (Bx.cell q2d rfl)) ?_
  refine sV (Aa rfl) ?_
  refine sV (Aa rfl) ?_
  rcases AG f1d with ⟨r2a,h7a,f3d⟩ | ⟨r2a,h7a,rfl⟩
  ·refine scO (FB (first:=[]) (cap:=[]) (args:=[.slice A1 (sz x0) c2,.slice A4 (sz x1) c5]) Oy (by rfl) (by rfl)) (Ly x0 x1 A1 c2 A4 c5 w4 (tbx X1a hT) (n3.ext X1a) (n6.ext X1a) (.ok r2a) h7a) ?_
   rintro _ w5 E8a ⟨A0c,c1c,rfl,n2c⟩
   refine nrm ?_
   have X9a:=xtr X1a E8a
   rcases AG f3d with ⟨r0b,h1b,f4d⟩ | ⟨r0b,h1b,rfl⟩
   ·refine scO (Ae IZ (by rfl)) (EI r2a A0c c1c w5 (tbx X9a hT) n2c (.ok r0b) h1b) ?_
    rintro _ w6 E2b ⟨A5d,c6d,rfl,n7d⟩
    refine nrm ?_
    have X8d:=xtr X9a E2b
    refine sV (Ac rfl) ?_
    have q3c:=(((q8c.ext E4a).ext E3a).ext E8a).ext E2b
    refine Ax GA rfl rfl q3c rfl rfl rfl rfl (by simp only [SP0,SP1,S0,S1,Nat.reduceAdd];rfl) fun w7 U4c q9d=>?_
    have X0e:=belU X8d U4c g9c
    refine Ad<|h9b _ _<|wp_ret ?_
    obtain rfl:=sj f4d
    obtain rfl:=sj hr0
    exact LX Fm Lv rfl (Res.tmp rfl (Res.cell1 rfl Ck (Bx.cell q9d rfl) Res.nil)) (Ak X0e ⟨A5d,c6d,rfl,(n7d.upd U4c q3c (by decide))⟩)
   ·refine scP (Ae IZ (by rfl)) (EI r2a A0c c1c w5 (tbx X9a hT) n2c (.error r0b) h1b) fun w6 E2b=>?_
    cases hr0
  ·refine scP (FB (first:=[]) (cap:=[]) (args:=[.slice A1 (sz x0) c2,.slice A4 (sz x1) c5]) Oy (by rfl) (by rfl)) (Ly x0 x1 A1 c2 A4 c5 w4 (tbx X1a hT) (n3.ext X1a) (n6.ext X1a) (.error r2a) h7a) fun w5 E8a=>?_
   cases hr0
 ·refine scP (Ae Ja (by rfl)) (FW x0 x1 b7b A1 c2 A4 c5 w3 (tbx X0a hT) (n3.ext X0a) (n6.ext X0a) q8b (.error r5a) h6a) fun w4 E3a=>?_
  cases hr0
theorem c_nat_Sub (x0:Nat) (x1:Nat) (A1:Option Addr) (c2:Nat) (A4:Option Addr) (c5:Nat) (w:World) (hT:TB w) (n3:RU w A1 c2 x0) (n6:RU w A4 c5 x1) (r:Nat × Int) (hr:Lq x0 x1=some r) :
  Calls Tryz.prog 220 #[.slice A1 (sz x0) c2,.slice A4 (sz x1) c5] w (Ret Hr w r):=by
 unfold Lq at hr
 go_enter Tryz.func220,Tryz.ntmps220
 refine wp_seq_k fun K7 h7=>Af<|sV (Ac rfl) ?_
 refine sV (Ac rfl) ?_
 refine Ad<|h7 _ _<|wp_seq_k fun K8 h8=>Af<|sV (Aa rfl) ?_
 refine sV (Aa rfl) ?_
 refine sV (Bc (vals:=[(0,.func (.func 250) #[] #[])]) (cells:=[.func (.func 250) #[] #[],.nilFunc]) (by rfl) (by kernel_rfl)) ?_
 obtain ⟨r9,h0a,f1a⟩:=Ab hr
 refine sc (Ae Nn (by rfl)) (c_nat_multiplied__nat_Sub_1__nil x0 x1 A1 c2 A4 c5 w hT n3 n6 r9 h0a) ?_
 rintro _ w1 E2a ⟨A3a,c4a,rfl,n5a⟩
 refine nrm ?_
 refine sV (Ap rfl rfl) ?_
 refine sV (Ap rfl rfl) ?_
 refine sV (Ac rfl) ?_
 refine sV (Ac rfl) ?_
 refine Ad<|h8 _ _<|wp_ret ?_
 obtain rfl:=sj f1a
 exact fin rfl (Res.tmp rfl (Res.tmp rfl Res.nil)) (Ak E2a ⟨A3a,c4a,rfl,n5a⟩)
theorem c_nat_multiplied__nat_limbs_add__nil (x0:Nat) (x1:Nat) (A1:Option Addr) (c2:Nat) (A4:Option Addr) (c5:Nat) (w:World) (hT:TB w) (n3:RU w A1 c2 x0) (n6:RU w A4 c5 x1) (r:Nat × Int) (hr:CX x0 x1=some r) :
  Calls Tryz.prog 242 #[.slice A1 (sz x0) c2,.slice A4 (sz x1) c5,.agg #[.func (.func 253) #[] #[],.nilFunc]] w (Ret Hr w r):=by
 unfold CX at hr
 obtain ⟨q0,hq0,hr0⟩:=Ab hr
 unfold Ev at hq0
 go_enter_defers Tryz.func242,Tryz.ntmps242
 refine wp_seq_k fun K7 h7=>Af<|BT rfl rfl fun b8 w1 E9 g1e q4c=>?_
 refine nrm ?_
 refine sV (Ac rfl) ?_
 refine Aw Iw fun b5c w2 E1b g6c q7c=>?_
 refine nrm ?_
 have g8c:=nlt E9.size g6c
 have X2b:=xtr E9 E1b
 refine Ad<|h7 _ _<|wp_seq_k fun K3b h3b=>Af<|Ha (vs:=[.pointer (some ⟨b5c,0,none⟩)]) (by rfl) (by rfl)<|Ad<|h3b _ _<|wp_seq_k fun K4b h4b=>Af<|sV (Aa rfl) ?_
 refine sV (Aa rfl) ?_
 refine Ct (vals:=[(0,.slice A1 (sz x0) c2),(1,.slice A4 (sz x1) c5)]) (cs:=[.slice A1 (sz x0) c2,.slice A4 (sz x1) c5]) Jd KO Nd (by rfl) (by decide) (by kernel_rfl) fun b5b w3 E3a g9c q6b=>?_
 refine nrm ?_
 have g2e:=nlt X2b.size g9c
 have X0a:=xtr X2b E3a
 rcases AG hq0 with ⟨r4a,h5a,f0d⟩ | ⟨r4a,h5a,rfl⟩
 ·refine scO (Ae Ja (by rfl)) (FW x0 x1 b5b A1 c2 A4 c5 w3 (tbx X0a hT) (n3.ext X0a) (n6.ext X0a) q6b (.ok r4a) h5a) ?_
  rintro _ w4 E1a rfl
  refine nrm ?_
  have X2a:=xtr X0a E1a
  refine Ad<|h4b _ _<|wp_seq_k fun K7b h7b=>Af<|sV (Ai (o':=0) Ma rfl rfl) ?_
  have q1d:=((q4c.ext E1b).ext E3a).ext E1a
  refine sV (Ag Nz rfl (Bx.cell q1d rfl)) ?_
  refine sV (Aa rfl) ?_
  refine sV (Aa rfl) ?_
  obtain ⟨r6a,h2d,f3d⟩:=Ab f0d
  refine sc (FB (first:=[]) (cap:=[]) (args:=[.slice A1 (sz x0) c2,.slice A4 (sz x1) c5]) en_253 (by rfl) (by rfl)) (c_nat_limbs_add x0 x1 A1 c2 A4 c5 w4 (tbx X2a hT) (n3.ext X2a) (n6.ext X2a) r6a h2d) ?_
  rintro _ w5 E8b ⟨A9b,c0c,rfl,n1c⟩
  refine nrm ?_
  have X7a:=xtr X2a E8b
  rcases AG f3d with ⟨r8a,h9a,f4d⟩ | ⟨r8a,h9a,rfl⟩
  ·refine scO (Ae IZ (by rfl)) (EI r6a A9b c0c w5 (tbx X7a hT) n1c (.ok r8a) h9a) ?_
   rintro _ w6 E0b ⟨A5d,c6d,rfl,n7d⟩
   refine nrm ?_
   have X8d:=xtr X7a E0b
   refine sV (Ac rfl) ?_
   have q2c:=(((q7c.ext E3a).ext E1a).ext E8b).ext E0b
   refine Ax GA rfl rfl q2c rfl rfl rfl rfl (by simp only [SP0,SP1,S0,S1,Nat.reduceAdd];rfl) fun w7 U3c q9d=>?_
   have X0e:=belU X8d U3c g8c
   refine Ad<|h7b _ _<|wp_ret ?_
   obtain rfl:=sj f4d
   obtain rfl:=sj hr0
   exact LX Fm Lv rfl (Res.tmp rfl (Res.cell1 rfl Ck (Bx.cell q9d rfl) Res.nil)) (Ak X0e ⟨A5d,c6d,rfl,(n7d.upd U3c q2c (by decide))⟩)
  ·refine scP (Ae IZ (by rfl)) (EI r6a A9b c0c w5 (tbx X7a hT) n1c (.error r8a) h9a) fun w6 E0b=>?_
   cases hr0
 ·refine scP (Ae Ja (by rfl)) (FW x0 x1 b5b A1 c2 A4 c5 w3 (tbx X0a hT) (n3.ext X0a) (n6.ext X0a) q6b (.error r4a) h5a) fun w4 E1a=>?_
  cases hr0
theorem c_nat_Add (x0:Nat) (x1:Nat) (A1:Option Addr) (c2:Nat) (A4:Option Addr) (c5:Nat) (w:World) (hT:TB w) (n3:RU w A1 c2 x0) (n6:RU w A4 c5 x1) (r:Nat × Int) (hr:Ll x0 x1=some r) :
  Calls Tryz.prog 221 #[.slice A1 (sz x0) c2,.slice A4 (sz x1) c5] w (Ret Hr w r):=by
 unfold Ll at hr
 go_enter Tryz.func221,Tryz.ntmps221
 refine wp_seq_k fun K7 h7=>Af<|sV (Ac rfl) ?_
 refine sV (Ac rfl) ?_
 refine Ad<|h7 _ _<|wp_seq_k fun K8 h8=>Af<|sV (Aa rfl) ?_
 refine sV (Aa rfl) ?_
 refine sV (Bc (vals:=[(0,.func (.func 253) #[] #[])]) (cells:=[.func (.func 253) #[] #[],.nilFunc]) (by rfl) (by kernel_rfl)) ?_
 obtain ⟨r9,h0a,f1a⟩:=Ab hr
 refine sc (Ae Nn (by rfl)) (c_nat_multiplied__nat_limbs_add__nil x0 x1 A1 c2 A4 c5 w hT n3 n6 r9 h0a) ?_
 rintro _ w1 E2a ⟨A3a,c4a,rfl,n5a⟩
 refine nrm ?_
 refine sV (Ap rfl rfl) ?_
 refine sV (Ap rfl rfl) ?_
 refine sV (Ac rfl) ?_
 refine sV (Ac rfl) ?_
 refine Ad<|h8 _ _<|wp_ret ?_
 obtain rfl:=sj f1a
 exact fin rfl (Res.tmp rfl (Res.tmp rfl Res.nil)) (Ak E2a ⟨A3a,c4a,rfl,n5a⟩)
theorem II (x0:Bool) (x1:Nat) (A1:Option Addr) (c2:Nat) (w:World) (hT:TB w) (n3:RU w A1 c2 x1) (r:Ah) (hr:ES x0 x1=some r) :
  Calls Tryz.prog 217 #[.bool x0,.slice A1 (sz x1) c2] w (Ret Lp w r):=by
 unfold ES at hr
 go_enter Tryz.func217,Tryz.ntmps217
 refine wp_seq_k fun K4 h4=>Af<|Aw Kq fun b5 w1 E6 g7 q8=>?_
 refine nrm ?_
 refine Ad<|h4 _ _<|wp_seq_k fun K9 h9=>Af<|sV (Aa rfl) ?_
 refine sV (Aa rfl) ?_
 obtain ⟨m1a,h3a,f8a⟩:=Ab hr
 refine Ca 6 (fun l l' w'=>∃(t4a:Value) (t5a:Value) (t6a:Value),w1=w'∧l'=((((l.set 7 t4a).set 8 t5a).set 9 t6a).set 10 (.bool m1a))) ?_ ?_
 ·intro HJ23
  rcases bft x0 with e0a | e0a
  ·have p9a:=e0a
   have f0b:=ifP p9a h3a
   refine sV (Aa rfl) ?_ (hw:=wgT rfl e0a)
   refine sV (AD CA rfl) ?_ (hw:=wgT rfl e0a)
   refine sb (Fs rfl rfl) ?_ (hw:=wgT rfl e0a)
   intro z2a hz2a
   refine nrm ?_
   refine sV (AB (evb rfl e0a) rfl) ?_
   obtain rfl:z2a=decide (0<(sz x1:Int)):=bz hz2a
   obtain rfl:=sj f0b
   exact HJ23 _ _ ⟨(.slice A1 (sz x1) c2),(.int .i64 (sz x1:Int)),(.bool (decide (0<(sz x1:Int)))),rfl,(by simp only [S0,S1]<;>rfl)⟩
  ·have p1b:=bF e0a
   have f2b:=ifN p1b h3a
   refine sP ?_ (hw:=wgF rfl e0a)
   refine sP ?_ (hw:=wgF rfl e0a)
   refine sP ?_ (hw:=wgF rfl e0a)
   refine sV (AF (evb rfl e0a) rfl) ?_
   obtain rfl:=sj f2b
   exact HJ23 _ _ ⟨uu,uu,uu,rfl,(by simp only [S0,S1]<;>rfl)⟩
 ·rintro l' _ ⟨t4a,t5a,t6a,rfl,hq'⟩ l'' hl
  rw [hq'] at hl
  clear hq'
  simp only [S0,S1] at hl
  subst hl
  refine sV (Aa rfl) ?_
  refine sV (Bc (vals:=[(0,.bool m1a),(1,.slice A1 (sz x1) c2)]) (cells:=[.bool m1a,.slice A1 (sz x1) c2]) (by rfl) (by kernel_rfl)) ?_
  refine Ax IY rfl rfl q8 rfl rfl rfl rfl (by simp only [SP0,SP1,S0,S1,Nat.reduceAdd];rfl) fun w2 U3b q4b=>?_
  have F7a:=belU E6 U3b g7
  refine Ad<|h9 _ _<|wp_ret ?_
  obtain rfl:=sj f8a
  exact fin rfl (Res.cellN rfl FY q4b rfl rfl Res.nil) (Ak F7a ⟨A1,c2,rfl,(n3.ext F7a)⟩)
theorem JZ (x0:Ah) (A1:Option Addr) (c2:Nat) (w:World) (hT:TB w) (n3:RU w A1 c2 x0.Abs) (r:Ah) (hr:GR x0=some r) :
  Calls Tryz.prog 216 #[.agg #[.bool x0.Neg,.slice A1 (sz x0.Abs) c2]] w (Ret Lp w r):=by
 unfold GR at hr
 go_enter Tryz.func216,Tryz.ntmps216
 refine wp_seq_k fun K4 h4=>Af<|BT rfl rfl fun b5 w1 E6 g7 q8=>?_
 refine nrm ?_
 refine Aw Kq fun b9 w2 E2a g1b q8a=>?_
 refine nrm ?_
 have g2b:=nlt E6.size g1b
 have X3b:=xtr E6 E2a
 refine Ad<|h4 _ _<|wp_seq_k fun K9a h9a=>Ei [6] 7 mo rfl fun w3 E0a S3a=>have X4a:=xtr X3b E0a;dA 0 rfl (fun _=>Ai (o':=0) Ia rfl rfl) ?_
 refine dV 1 rfl (fun _ hw=>Ag Ik rfl (Bx.cell (((q8.ext E2a).ext E0a).ext hw) rfl)) S3a ?_
 refine dA 2 rfl (fun _=>Ai (o':=1) Dl rfl rfl) ?_
 refine dV 3 rfl (fun _ hw=>Ag EQ rfl (Bx.cell (((q8.ext E2a).ext E0a).ext hw) rfl)) S3a ?_
 obtain ⟨r5a,h4b,f5b⟩:=Ab hr
 refine dc 4 rfl (by kernel_rfl) (by rfl) (Ae ND (by rfl)) (Ga x0.Abs A1 c2 w3 (tbx X4a hT) (n3.ext X4a) r5a h4b) ?_
 rintro _ w4 E1a ⟨A6a,c7a,rfl,n6b⟩
 refine dnrm ?_
 have X7b:=xtr X4a E1a
 have S1c:=S3a.trans E1a
 refine dA 5 rfl (fun _=>Bc (vals:=[(0,.bool x0.Neg),(1,.slice A6a (sz r5a) c7a)]) (cells:=[.bool x0.Neg,.slice A6a (sz r5a) c7a]) (by rfl) (by kernel_rfl)) ?_
 refine dk 6 rfl (by kernel_rfl) (by decide) (by rfl) IY rfl rfl ((q8a.ext E0a).ext E1a) rfl rfl rfl rfl (by simp only [SP0,SP1,S0,S1,Nat.reduceAdd];rfl) fun w5 U0b q8b=>?_
 have X9b:=belU X7b U0b g2b
 refine CU (by kernel_rfl) ?_
 refine h9a _ _<|wp_ret ?_
 have n0c:=n6b.upd U0b ((q8a.ext E0a).ext E1a) (by decide)
 obtain rfl:=sj f5b
 exact fin rfl (Res.cellN rfl FY q8b rfl rfl Res.nil) (Ak X9b ⟨A6a,c7a,rfl,n0c⟩)
theorem He (x0:Int) (x1:Ah) (bp0:Nat) (bp1:Nat) (A2:Option Addr) (c3:Nat) (w:World) (hT:TB w) (q1:Bx w bp0 3 [.int .i64 x0]) (n4:RU w A2 c3 x1.Abs) (q5:Bx w bp1 25 [.bool x1.Neg,.slice A2 (sz x1.Abs) c3]) (r:Except Int (Ah)) (hr:Eb x0 x1=some r) :
  Calls Tryz.prog 215 #[.pointer (some ⟨bp0,0,none⟩),.pointer (some ⟨bp1,0,none⟩)] w (RetE 274 Lp w r):=by
 unfold Eb at hr
 go_enter Tryz.func215,Tryz.ntmps215
 refine wp_seq_k fun K6 h6=>Af<|Aw Kq fun b7 w1 E8 g9 q0a=>?_
 refine nrm ?_
 refine Ad<|h6 _ _<|wp_seq_k fun K7c h7c=>wp_seq_k fun K8c h8c=>Af<|sV (Ag Ey rfl (Bx.cell (q1.ext E8) rfl)) ?_
 refine sb (EP rfl rfl) fun z0b hz0b=>?_
 refine nrm ?_
 refine Ad<|h8c _ _ ?_
 rcases bft z0b with e1a | e1a
 ·have p0j:=zP hz0b e1a
  have f1j:=ifP p0j hr
  refine wp_cond_true (Aj (evb rfl e1a))<|wp_seq_k fun K0e h0e=>Ei [11] 12 mo rfl fun w2 E2a S1b=>have X9c:=xtr E8 E2a;dA 0 rfl (fun _=>Ai (o':=0) Ia rfl rfl) ?_
  refine dV 1 rfl (fun _ hw=>Ag Ik rfl (Bx.cell (((q5.ext E8).ext E2a).ext hw) rfl)) S1b ?_
  refine dA 2 rfl (fun _=>Ai (o':=1) Dl rfl rfl) ?_
  refine dV 3 rfl (fun _ hw=>Ag EQ rfl (Bx.cell (((q5.ext E8).ext E2a).ext hw) rfl)) S1b ?_
  refine dV 4 rfl (fun _ hw=>Ag Ey rfl (Bx.cell (((q1.ext E8).ext E2a).ext hw) rfl)) S1b ?_
  obtain ⟨r3a,h2j,f3j⟩:=Ab f1j
  refine dc 5 rfl (by kernel_rfl) (by rfl) (Ae Oq (by rfl)) (Mv x1.Abs x0 A2 c3 w2 (tbx X9c hT) (n4.ext X9c) r3a h2j) ?_
  rintro _ w3 E0d ⟨A1e,c2e,rfl,n3e⟩
  refine dnrm ?_
  have X2b:=xtr X9c E0d
  have S4j:=S1b.trans E0d
  refine dA 6 rfl (fun _=>Ap rfl rfl) ?_
  refine dA 7 rfl (fun _=>Ap rfl rfl) ?_
  rcases AG f3j with ⟨r3b,h1d,f5j⟩ | ⟨r3b,h1d,rfl⟩
  ·refine dcO 8 rfl (by kernel_rfl) (by rfl) (Ae Jj (by rfl)) (Ee r3a.1 r3a.2 A1e c2e w3 (tbx X2b hT) n3e (.ok r3b) h1d) ?_
   rintro _ w4 E4a ⟨A6j,c7j,rfl,n8j⟩
   refine dnrm ?_
   have X4e:=xtr X2b E4a
   have S9j:=S4j.trans E4a
   obtain ⟨r5e,h0k,f1k⟩:=Ab f5j
   refine dc 9 rfl (by kernel_rfl) (by rfl) (Ae NO (by rfl)) (II x1.Neg r3b A6j c7j w4 (tbx X4e hT) n8j r5e h0k) ?_
   rintro _ w5 E2d ⟨A2k,c3k,rfl,n4k⟩
   refine dnrm ?_
   have X6e:=xtr X4e E2d
   have S5k:=S9j.trans E2d
   obtain ⟨r6k,h7k,f8k⟩:=Ab f1k
   refine dc 10 rfl (by kernel_rfl) (by rfl) (Ae Ny (by rfl)) (JZ r5e A2k c3k w5 (tbx X6e hT) n4k r6k h7k) ?_
   rintro _ w6 E3d ⟨A9k,c0l,rfl,n1l⟩
   refine dnrm ?_
   have X2l:=xtr X6e E3d
   have S5s:=S5k.trans E3d
   have q7e:=((((q0a.ext E2a).ext E0d).ext E4a).ext E2d).ext E3d
   refine dk 11 rfl (by kernel_rfl) (by decide) (by rfl) IY rfl rfl q7e rfl rfl rfl rfl (by simp only [SP0,SP1,S0,S1,Nat.reduceAdd];rfl) fun w7 U8e q3l=>?_
   have X4l:=belU X2l U8e g9
   refine CU (by kernel_rfl) ?_
   refine h0e _ _<|wp_ret ?_
   obtain rfl:=sj f8k
   exact fin rfl (Res.cellN rfl FY q3l rfl rfl Res.nil) (DT X4l ⟨A9k,c0l,rfl,(n1l.upd U8e q7e (by decide))⟩)
  ·refine dcP 8 rfl (by kernel_rfl) (by rfl) (Ae Jj (by rfl)) (Ee r3a.1 r3a.2 A1e c2e w3 (tbx X2b hT) n3e (.error r3b) h1d) fun w4 E4a=>?_
   have X5l:=xtr X2b E4a
   exact ⟨rfl,BP X5l⟩
 ·have p6l:=zN hz0b e1a
  have f9e:=ifN p6l hr
  refine wp_cond_false (Aj (evb rfl e1a))<|wp_skip<|h7c _ _<|wp_seq_k fun K0f h0f=>Af<|sV (Ag Ey rfl (Bx.cell (q1.ext E8) rfl)) ?_
  refine sV (NT rfl rfl) ?_
  refine sV (Oc (c:=wi64 (-(max x0 (-33792)))) rfl rfl) ?_
  refine sV (Ac rfl) ?_
  refine Ad<|h0f _ _<|wp_seq_k fun K1f h1f=>wp_seq_k fun K2f h2f=>Af<|sV (Ai (o':=0) Ia rfl rfl) ?_
  refine sV (Ag Ik rfl (Bx.cell (q5.ext E8) rfl)) ?_
  refine sb (ER rfl) fun z4b hz4b=>?_
  refine nrm ?_
  refine Ad<|h2f _ _ ?_
  rcases bft z4b with e5a | e5a
  ·have p7l:=zP hz4b e5a
   have f8l:=ifP p7l f9e
   refine wp_cond_true (Aj (evb rfl e5a))<|wp_seq_k fun K3f h3f=>Af<|sV (Ai (o':=1) Dl rfl rfl) ?_
   refine sV (Ag EQ rfl (Bx.cell (q5.ext E8) rfl)) ?_
   refine sV (Aa rfl) ?_
   obtain ⟨r6a,h9l,f0m⟩:=Ab f8l
   refine sc (Ae OZ (by rfl)) (My x1.Abs (wi64 (-(max x0 (-33792)))) A2 c3 w1 (tbx E8 hT) (n4.ext E8) r6a h9l) ?_
   rintro _ w2 E4f ⟨A5f,c6f,rfl,n7f⟩
   refine nrm ?_
   have X5b:=xtr E8 E4f
   refine sV (Ap rfl rfl) ?_
   refine sV (Ap rfl rfl) ?_
   rcases AG f0m with ⟨r6b,h4d,f1m⟩ | ⟨r6b,h4d,rfl⟩
   ·refine scO (Ae Jj (by rfl)) (Ee r6a.1 r6a.2 A5f c6f w2 (tbx X5b hT) n7f (.ok r6b) h4d) ?_
    rintro _ w3 E7b ⟨A2m,c3m,rfl,n4m⟩
    refine nrm ?_
    have X8f:=xtr X5b E7b
    obtain ⟨r9f,h5m,f6m⟩:=Ab f1m
    refine sc (Ae NO (by rfl)) (II false r6b A2m c3m w3 (tbx X8f hT) n4m r9f h5m) ?_
    rintro _ w4 E0g ⟨A7m,c8m,rfl,n9m⟩
    refine nrm ?_
    have X1g:=xtr X8f E0g
    obtain ⟨r0n,h1n,f2n⟩:=Ab f6m
    refine sc (Ae Ny (by rfl)) (JZ r9f A7m c8m w4 (tbx X1g hT) n9m r0n h1n) ?_
    rintro _ w5 E2g ⟨A3n,c4n,rfl,n5n⟩
    refine nrm ?_
    have X6n:=xtr X1g E2g
    have q3g:=(((q0a.ext E4f).ext E7b).ext E0g).ext E2g
    refine Ax IY rfl rfl q3g rfl rfl rfl rfl (by simp only [SP0,SP1,S0,S1,Nat.reduceAdd];rfl) fun w6 U4g q7n=>?_
    have X8n:=belU X6n U4g g9
    refine Ad<|h3f _ _<|wp_ret ?_
    obtain rfl:=sj f2n
    exact fin rfl (Res.cellN rfl FY q7n rfl rfl Res.nil) (DT X8n ⟨A3n,c4n,rfl,(n5n.upd U4g q3g (by decide))⟩)
   ·refine scP (Ae Jj (by rfl)) (Ee r6a.1 r6a.2 A5f c6f w2 (tbx X5b hT) n7f (.error r6b) h4d) fun w3 E7b=>?_
    have X9n:=xtr X5b E7b
    exact ⟨rfl,BP X9n⟩
  ·have p0o:=zN hz4b e5a
   have f1o:=ifN p0o f9e
   refine wp_cond_false (Aj (evb rfl e5a))<|wp_skip<|h1f _ _<|wp_seq_k fun K5g h5g=>Af<|sV (Ai (o':=1) Dl rfl rfl) ?_
   refine sV (Ag EQ rfl (Bx.cell (q5.ext E8) rfl)) ?_
   refine Ct (vals:=[(0,.int .u32 1)]) (cs:=[.int .u32 1]) CA As Hc (by rfl) (by decide) (by kernel_rfl) fun b2o w2 E6g g3o q4o=>?_
   refine nrm ?_
   have g6s:=nlt E8.size g3o
   have X5d:=xtr E8 E6g
   have n5o:=RL.lit1 q4o (by decide)
   obtain ⟨r7a,h6o,f7o⟩:=Ab f1o
   refine sc (Ae en_220 (by rfl)) (c_nat_Sub x1.Abs 1 A2 c3 (some ⟨b2o,0,none⟩) 1 w2 (tbx X5d hT) (n4.ext X5d) n5o r7a h6o) ?_
   rintro _ w3 E7g ⟨A8g,c9g,rfl,n0h⟩
   refine nrm ?_
   have X8b:=xtr X5d E7g
   refine sV (Ap rfl rfl) ?_
   refine sV (Ap rfl rfl) ?_
   rcases AG f7o with ⟨r9b,h6d,f8o⟩ | ⟨r9b,h6d,rfl⟩
   ·refine scO (Ae Jj (by rfl)) (Ee r7a.1 r7a.2 A8g c9g w3 (tbx X8b hT) n0h (.ok r9b) h6d) ?_
    rintro _ w4 E0c ⟨A9o,c0p,rfl,n1p⟩
    refine nrm ?_
    have X1h:=xtr X8b E0c
    refine sV (Aa rfl) ?_
    obtain ⟨r8a,h2p,f3p⟩:=Ab f8o
    refine sc (Ae OZ (by rfl)) (My r9b (wi64 (-(max x0 (-33792)))) A9o c0p w4 (tbx X1h hT) n1p r8a h2p) ?_
    rintro _ w5 E2h ⟨A3h,c4h,rfl,n5h⟩
    refine nrm ?_
    have X1c:=xtr X1h E2h
    refine sV (Ap rfl rfl) ?_
    refine sV (Ap rfl rfl) ?_
    rcases AG f3p with ⟨r2c,h7d,f4p⟩ | ⟨r2c,h7d,rfl⟩
    ·refine scO (Ae Jj (by rfl)) (Ee r8a.1 r8a.2 A3h c4h w5 (tbx X1c hT) n5h (.ok r2c) h7d) ?_
     rintro _ w6 E3c ⟨A5p,c6p,rfl,n7p⟩
     refine nrm ?_
     have X6h:=xtr X1c E3c
     refine sV (Ac rfl) ?_
     refine Ad<|h5g _ _<|wp_seq_k fun K7h h7h=>Af<|sV (Aa rfl) ?_
     refine Ct (vals:=[(0,.int .u32 1)]) (cs:=[.int .u32 1]) CA As Hc (by rfl) (by decide) (by kernel_rfl) fun b8p w7 E8d g9p q0q=>?_
     refine nrm ?_
     have g7s:=nlt X6h.size g9p
     have X8h:=xtr X6h E8d
     have n1q:=RL.lit1 q0q (by decide)
     obtain ⟨r9a,h2q,f3q⟩:=Ab f4p
     refine sc (Ae en_221 (by rfl)) (c_nat_Add r2c 1 A5p c6p (some ⟨b8p,0,none⟩) 1 w7 (tbx X8h hT) (n7p.ext E8d) n1q r9a h2q) ?_
     rintro _ w8 E9h ⟨A0i,c1i,rfl,n2i⟩
     refine nrm ?_
     have X4c:=xtr X8h E9h
     refine sV (Ap rfl rfl) ?_
     refine sV (Ap rfl rfl) ?_
     rcases AG f3q with ⟨r5c,h9d,f4q⟩ | ⟨r5c,h9d,rfl⟩
     ·refine scO (Ae Jj (by rfl)) (Ee r9a.1 r9a.2 A0i c1i w8 (tbx X4c hT) n2i (.ok r5c) h9d) ?_
      rintro _ w9 E6c ⟨A5q,c6q,rfl,n7q⟩
      refine nrm ?_
      have X3i:=xtr X4c E6c
      obtain ⟨r4i,h8q,f9q⟩:=Ab f4q
      refine sc (Ae NO (by rfl)) (II true r5c A5q c6q w9 (tbx X3i hT) n7q r4i h8q) ?_
      rintro _ w0a E5i ⟨A0r,c1r,rfl,n2r⟩
      refine nrm ?_
      have X6i:=xtr X3i E5i
      obtain ⟨r3r,h4r,f5r⟩:=Ab f9q
      refine sc (Ae Ny (by rfl)) (JZ r4i A0r c1r w0a (tbx X6i hT) n2r r3r h4r) ?_
      rintro _ w7c E7i ⟨A6r,c7r,rfl,n8r⟩
      refine nrm ?_
      have X9r:=xtr X6i E7i
      have q8i:=(((((((((q0a.ext E6g).ext E7g).ext E0c).ext E2h).ext E3c).ext E8d).ext E9h).ext E6c).ext E5i).ext E7i
      refine Ax IY rfl rfl q8i rfl rfl rfl rfl (by simp only [SP0,SP1,S0,S1,Nat.reduceAdd];rfl) fun w8c U9i q0s=>?_
      have X1s:=belU X9r U9i g9
      refine Ad<|h7h _ _<|wp_ret ?_
      obtain rfl:=sj f5r
      exact fin rfl (Res.cellN rfl FY q0s rfl rfl Res.nil) (DT X1s ⟨A6r,c7r,rfl,(n8r.upd U9i q8i (by decide))⟩)
     ·refine scP (Ae Jj (by rfl)) (Ee r9a.1 r9a.2 A0i c1i w8 (tbx X4c hT) n2i (.error r5c) h9d) fun w9 E6c=>?_
      have X2s:=xtr X4c E6c
      exact ⟨rfl,BP X2s⟩
    ·refine scP (Ae Jj (by rfl)) (Ee r8a.1 r8a.2 A3h c4h w5 (tbx X1c hT) n5h (.error r2c) h7d) fun w6 E3c=>?_
     have X3s:=xtr X1c E3c
     exact ⟨rfl,BP X3s⟩
   ·refine scP (Ae Jj (by rfl)) (Ee r7a.1 r7a.2 A8g c9g w3 (tbx X8b hT) n0h (.error r9b) h6d) fun w4 E0c=>?_
    have X4s:=xtr X8b E0c
    exact ⟨rfl,BP X4s⟩
theorem c_whole_compute__whole_Shift_1__1 (x0_0:Int) (x0_1:Ah) (x1_0:Ah) (bp0_0:Nat) (bp0_1:Nat) (A2:Option Addr) (c3:Nat) (bp1:Nat) (A6:Option Addr) (c7:Nat) (w:World) (hT:TB w) (q1:Bx w bp0_0 3 [.int .i64 x0_0]) (n4:RU w A2 c3 x0_1.Abs) (q5:Bx w bp0_1 25 [.bool x0_1.Neg,.slice A2 (sz x0_1.Abs) c3]) (n8:RU w A6 c7 x1_0.Abs) (q9:Bx w bp1 25 [.bool x1_0.Neg,.slice A6 (sz x1_0.Abs) c7]) (r:Ah × Int) (hr:Cu x0_0 x0_1 x1_0=some r) :
  Calls Tryz.prog 214 #[.func (.func 215) #[] #[.pointer (some ⟨bp0_0,0,none⟩),.pointer (some ⟨bp0_1,0,none⟩)],.slice (some ⟨bp1,0,none⟩) 1 1] w (Ret Mw w r):=by
 unfold Cu at hr
 obtain ⟨q0,hq0,hr0⟩:=Ab hr
 unfold Ds at hq0
 go_enter_defers Tryz.func214,Tryz.ntmps214
 refine wp_seq_k fun K3b h3b=>Af<|Aw Kq fun b5d w1 E1a g0c q1c=>?_
 refine nrm ?_
 refine Aw Iw fun b2c w2 E2a g3c q4b=>?_
 refine nrm ?_
 have g4c:=nlt E1a.size g3c
 have X3a:=xtr E1a E2a
 refine Ad<|h3b _ _<|wp_seq_k fun K5b h5b=>Af<|Ha (vs:=[.pointer (some ⟨b2c,0,none⟩)]) (by rfl) (by rfl)<|Ad<|h5b _ _<|wp_seq_k fun K6b h6b=>Af<|sV (Aa rfl) ?_
 rcases AG hq0 with ⟨r6a,h7a,f5c⟩ | ⟨r6a,h7a,rfl⟩
 ·refine scO (Ae Pf (by rfl)) (JF x1_0 bp1 A6 c7 w2 (tbx X3a hT) (n8.ext X3a) ((q9.ext E1a).ext E2a) (.ok r6a) h7a) ?_
  rintro _ w3 E0a rfl
  refine nrm ?_
  have X4a:=xtr X3a E0a
  refine Ad<|h6b _ _<|wp_seq_k fun K7b h7b=>Af<|sV (Aa rfl) ?_
  rcases AG f5c with ⟨r8a,h9a,f32⟩ | ⟨r8a,h9a,rfl⟩
  ·refine scO (FB (first:=[]) (cap:=[.pointer (some ⟨bp0_0,0,none⟩),.pointer (some ⟨bp0_1,0,none⟩)]) (args:=[]) Pt (by rfl) (by rfl)) (He x0_0 x0_1 bp0_0 bp0_1 A2 c3 w3 (tbx X4a hT) (((q1.ext E1a).ext E2a).ext E0a) (n4.ext X4a) (((q5.ext E1a).ext E2a).ext E0a) (.ok r8a) h9a) ?_
   rintro _ w4 E5a ⟨A6c,c7c,rfl,n8c⟩
   refine nrm ?_
   have X9c:=xtr X4a E5a
   have q0b:=((q1c.ext E2a).ext E0a).ext E5a
   refine Ax IY rfl rfl q0b rfl rfl rfl rfl (by simp only [SP0,SP1,S0,S1,Nat.reduceAdd];rfl) fun w5 U1b q0d=>?_
   have X1d:=belU X9c U1b g0c
   have ne8b:=(Bx.neT ((q4b.ext E0a).ext E5a) q0b (by decide))
   have q9b:=((q4b.ext E0a).ext E5a).upd U1b ne8b
   refine Ax GA rfl rfl q9b rfl rfl rfl rfl (by simp only [SP0,SP1,S0,S1,Nat.reduceAdd];rfl) fun w6 U2b q2d=>?_
   have X3d:=belU X1d U2b g4c
   refine Ad<|h7b _ _<|wp_ret ?_
   have n4d:=(n8c.upd U1b q0b (by decide)).upd U2b q9b (by decide)
   obtain rfl:=sj f32
   obtain rfl:=sj hr0
   exact LX idle_whole_caught en_246 rfl (Res.cellN rfl FY (q0d.upd U2b (Ne.symm ne8b)) rfl rfl (Res.cell1 rfl Ck (Bx.cell q2d rfl) Res.nil)) (Ak X3d ⟨A6c,c7c,rfl,n4d⟩)
  ·refine scP (FB (first:=[]) (cap:=[.pointer (some ⟨bp0_0,0,none⟩),.pointer (some ⟨bp0_1,0,none⟩)]) (args:=[]) Pt (by rfl) (by rfl)) (He x0_0 x0_1 bp0_0 bp0_1 A2 c3 w3 (tbx X4a hT) (((q1.ext E1a).ext E2a).ext E0a) (n4.ext X4a) (((q5.ext E1a).ext E2a).ext E0a) (.error r8a) h9a) fun w4 E5a=>?_
   cases hr0
 ·refine scP (Ae Pf (by rfl)) (JF x1_0 bp1 A6 c7 w2 (tbx X3a hT) (n8.ext X3a) ((q9.ext E1a).ext E2a) (.error r6a) h7a) fun w3 E0a=>?_
  cases hr0
theorem c_whole_Shift (x0:Ah) (x1:Int) (A1:Option Addr) (c2:Nat) (w:World) (hT:TB w) (n3:RU w A1 c2 x0.Abs) (r:Ah × Int) (hr:Gq x0 x1=some r) :
  Calls Tryz.prog 156 #[.agg #[.bool x0.Neg,.slice A1 (sz x0.Abs) c2],.int .i64 x1] w (Ret Mw w r):=by
 unfold Gq at hr
 go_enter Tryz.func156,Tryz.ntmps156
 refine wp_seq_k fun K4 h4=>Af<|BT rfl rfl fun b5 w1 E6 g7 q8=>?_
 refine nrm ?_
 refine BT rfl rfl fun b9 w2 E3a g0b q1b=>?_
 refine nrm ?_
 have g7c:=nlt E6.size g0b
 have X5a:=xtr E6 E3a
 refine Aw Kq fun b8c w3 E1a g2b q6a=>?_
 refine nrm ?_
 have g3b:=nlt X5a.size g2b
 have X7a:=xtr X5a E1a
 refine sV (Ac rfl) ?_
 refine Ad<|h4 _ _<|wp_seq_k fun K8a h8a=>Af<|sV (KB (vs:=[.pointer (some ⟨b9,0,none⟩),.pointer (some ⟨b5,0,none⟩)]) rfl) ?_
 refine sV (Am FY rfl ((q8.ext E3a).ext E1a) rfl) ?_
 refine Ct (vals:=[(0,.agg #[.bool x0.Neg,.slice A1 (sz x0.Abs) c2])]) (cs:=[.bool x0.Neg,.slice A1 (sz x0.Abs) c2]) NA IY Kq (by rfl) (by decide) (by kernel_rfl) fun b4b w4 E0a g5b q6b=>?_
 refine nrm ?_
 have g9c:=nlt X7a.size g5b
 have X2a:=xtr X7a E0a
 obtain ⟨r7b,h8b,f9b⟩:=Ab hr
 refine sc (Ae en_214 (by rfl)) (c_whole_compute__whole_Shift_1__1 x1 x0 x0 b9 b5 A1 c2 b4b A1 c2 w4 (tbx X2a hT) ((q1b.ext E1a).ext E0a) (n3.ext X2a) (((q8.ext E3a).ext E1a).ext E0a) (n3.ext X2a) q6b r7b h8b) ?_
 rintro _ w5 E4a ⟨A0c,c1c,rfl,n2c⟩
 refine nrm ?_
 have X3c:=xtr X2a E4a
 refine sV (Ap rfl rfl) ?_
 refine sV (Ap rfl rfl) ?_
 refine Ax IY rfl rfl ((q6a.ext E0a).ext E4a) rfl rfl rfl rfl (by simp only [SP0,SP1,S0,S1,Nat.reduceAdd];rfl) fun w6 U9a q4c=>?_
 have X5c:=belU X3c U9a g3b
 refine sV (Ac rfl) ?_
 refine Ad<|h8a _ _<|wp_ret ?_
 have n6c:=n2c.upd U9a ((q6a.ext E0a).ext E4a) (by decide)
 obtain rfl:=sj f9b
 exact fin rfl (Res.cellN rfl FY q4c rfl rfl (Res.tmp rfl Res.nil)) (Ak X5c ⟨A0c,c1c,rfl,n6c⟩)
theorem c_dyad_ToRat (x0:Aq) (A1:Option Addr) (c2:Nat) (w:World) (hT:TB w) (n3:RLu w A1 c2 x0.Man.Abs) (r:De × Int) (hr:HF x0=some r) :
  Calls Tryz.prog 63 #[.agg #[.bool x0.Man.Neg,.slice A1 x0.Man.Abs.length c2,.int .i64 x0.Exp]] w (Ret rep_65_33 w r):=by
 unfold HF at hr
 obtain ⟨q0,hq0,hr0⟩:=Ab hr
 unfold Jl at hq0
 go_enter_defers Tryz.func63,Tryz.ntmps63
 refine wp_seq_k fun K4 h4=>Af<|BT rfl rfl fun b5 w1 E6 g7 q8=>?_
 refine nrm ?_
 refine Aw OL fun b9 w2 E9b g2e q9a=>?_
 refine nrm ?_
 have g5b:=nlt E6.size g2e
 have X3e:=xtr E6 E9b
 refine Aw Iw fun b9c w3 E5a g6i q0b=>?_
 refine nrm ?_
 have g0c:=nlt X3e.size g6i
 have X9f:=xtr X3e E5a
 refine Ad<|h4 _ _<|wp_seq_k fun K0g h0g=>Af<|Ha (vs:=[.pointer (some ⟨b9,0,none⟩),.pointer (some ⟨b9c,0,none⟩)]) (by rfl) (by rfl)<|Ad<|h0g _ _<|wp_seq_k fun K1g h1g=>Af<|sV (Am Bk rfl ((q8.ext E9b).ext E5a) rfl) ?_
 refine Ct (vals:=[(0,.agg #[.bool x0.Man.Neg,.slice A1 x0.Man.Abs.length c2,.int .i64 x0.Exp])]) (cs:=[.bool x0.Man.Neg,.slice A1 x0.Man.Abs.length c2,.int .i64 x0.Exp]) HN DU FM (by rfl) (by decide) (by kernel_rfl) fun b2g w4 E1a g7i q3g=>?_
 refine nrm ?_
 have g1p:=nlt X9f.size g7i
 have X6b:=xtr X9f E1a
 rcases AG hq0 with ⟨r0d,h4e,f4g⟩ | ⟨r0d,h4e,rfl⟩
 ·refine scO (Ae Je (by rfl)) (DO x0 b2g A1 c2 w4 (tbx X6b hT) (n3.ext X6b) q3g (.ok r0d) h4e) ?_
  rintro _ w5 E0a rfl
  refine nrm ?_
  have X1c:=xtr X6b E0a
  refine Ad<|h1g _ _<|wp_seq_k fun K5g h5g=>wp_seq_k fun K6g h6g=>Af<|sV (Ai (o':=2) FH rfl rfl) ?_
  have q7b:=(((q8.ext E9b).ext E5a).ext E1a).ext E0a
  refine sV (Ag Ey rfl (Bx.cell q7b rfl)) ?_
  refine sb (EP rfl rfl) fun z1d hz1d=>?_
  refine nrm ?_
  refine Ad<|h6g _ _ ?_
  rcases bft z1d with e2c | e2c
  ·have p8i:=zP hz1d e2c
   have f9i:=ifP p8i f4g
   refine wp_cond_true (Aj (evb rfl e2c))<|wp_seq_k fun K7g h7g=>Af<|sV (Ai (o':=0) Gd rfl rfl) ?_
   refine sV (AH FY rfl q7b (by simp only [List.drop_zero,List.take_succ_cons,List.take_zero];rfl) rfl) ?_
   refine sV (Ai (o':=2) FH rfl rfl) ?_
   refine sV (Ag Ey rfl (Bx.cell q7b rfl)) ?_
   obtain ⟨m8g,h0j,f1j⟩:=Ab f9i
   have hx9g:=BD h0j
   have n2j:RU w5 A1 c2 m8g:=by unfold RU;rw [hx9g];exact (n3.ext X1c)
   obtain ⟨r6a,h3j,f4j⟩:=Ab f1j
   refine sc (Ae en_156 (by simp only [sz,hx9g];rfl)) (c_whole_Shift (⟨x0.Man.Neg,m8g⟩:Ah) x0.Exp A1 c2 w5 (tbx X1c hT) n2j r6a h3j) ?_
   rintro _ w6 E1b ⟨A5j,c6j,rfl,n7j⟩
   refine nrm ?_
   have X0h:=xtr X1c E1b
   refine sV (Aa rfl) ?_
   refine sV (Ap rfl rfl) ?_
   refine sV (Ap rfl rfl) ?_
   refine Aw Kq fun b2p w7 E8j g1h q9j=>?_
   refine nrm ?_
   have g0k:=nlt X0h.size g1h
   refine Ax IY rfl rfl q9j rfl rfl rfl rfl (by simp only [SP0,SP1,S0,S1,Nat.reduceAdd];rfl) fun w8 U1k q3c=>?_
   have F7a:=belU E8j U1k g1h
   have X2d:=xtr X0h F7a
   refine sV (Ac rfl) ?_
   refine Ad<|h7g _ _<|wp_seq_k fun K2h h2h=>Af<|sV (Aa rfl) ?_
   refine sb (Ce rfl rfl) fun z5e hz5e=>?_
   refine nrm ?_
   refine sV (Aa rfl) ?_
   obtain rfl:z5e=decide (r6a.2=0):=bz hz5e
   rcases AG f4j with ⟨r3d,h6e,f2k⟩ | ⟨r3d,h6e,rfl⟩
   ·refine scO (Ae Dh (by rfl)) (AN (decide (r6a.2=0)) r6a.2 w8 (tbx X2d hT)  (.ok r3d) h6e) ?_
    rintro _ w9 E2a rfl
    refine nrm ?_
    have X3h:=xtr X2d E2a
    refine Ad<|h2h _ _<|wp_seq_k fun K4h h4h=>Af<|sV (Ai (o':=1) Dl rfl rfl) ?_
    refine sV (Ag EQ rfl (Bx.cell (q3c.ext E2a) rfl)) ?_
    obtain ⟨r7e,h3k,f4k⟩:=Ab f2k
    refine sc (Ae ND (by rfl)) (Ga r6a.1.Abs A5j c6j w9 (tbx X3h hT) ((n7j.ext F7a).ext E2a) r7e h3k) ?_
    rintro _ w9b E4a ⟨A8e,c9e,rfl,n5k⟩
    refine nrm ?_
    have X6k:=xtr X3h E4a
    refine sV (Ai (o':=1) Dl rfl rfl) ?_
    refine Ax KO rfl rfl ((q3c.ext E2a).ext E4a) rfl rfl rfl rfl (by simp only [SP0,SP1,S0,S1,Nat.reduceAdd];rfl) fun w2e U4c q7k=>?_
    have X5h:=belU X6k U4c g0k
    refine Ad<|h4h _ _<|wp_seq_k fun K6h h6h=>Af<|sV (Am FY rfl q7k rfl) ?_
    refine Ct (vals:=[(0,.int .u32 1)]) (cs:=[.int .u32 1]) CA As Hc (by rfl) (by decide) (by kernel_rfl) fun b0f w9a E5c g8k q9k=>?_
    refine nrm ?_
    have g3p:=nlt X5h.size g8k
    have X0l:=xtr X5h E5c
    have n1l:=RL.lit1 q9k (by decide)
    refine sV (Bc (vals:=[(0,.agg #[.bool r6a.1.Neg,.slice A8e (sz r7e) c9e]),(1,.slice (some ⟨b0f,0,none⟩) (sz 1) 1)]) (cells:=[.bool r6a.1.Neg,.slice A8e (sz r7e) c9e,.slice (some ⟨b0f,0,none⟩) (sz 1) 1]) (by rfl) (by kernel_rfl)) ?_
    have ne2l:=(Bx.neT (((((((q9a.ext E5a).ext E1a).ext E0a).ext E1b).ext F7a).ext E2a).ext E4a) ((q3c.ext E2a).ext E4a) (by decide))
    have q4d:=((((((((q9a.ext E5a).ext E1a).ext E0a).ext E1b).ext F7a).ext E2a).ext E4a).upd U4c ne2l).ext E5c
    refine Ax Ni rfl rfl q4d rfl rfl rfl rfl (by simp only [SP0,SP1,S0,S1,Nat.reduceAdd];rfl) fun w5b U5d q3l=>?_
    have X4l:=belU X0l U5d g5b
    have ne7h:=(Bx.neT ((((((q0b.ext E1a).ext E0a).ext E1b).ext F7a).ext E2a).ext E4a) ((q3c.ext E2a).ext E4a) (by decide))
    have ne8h:=(Bx.neT ((((((((q0b.ext E1a).ext E0a).ext E1b).ext F7a).ext E2a).ext E4a).upd U4c ne7h).ext E5c) q4d (by decide))
    have q1f:=((((((((q0b.ext E1a).ext E0a).ext E1b).ext F7a).ext E2a).ext E4a).upd U4c ne7h).ext E5c).upd U5d ne8h
    refine Ax GA rfl rfl q1f rfl rfl rfl rfl (by simp only [SP0,SP1,S0,S1,Nat.reduceAdd];rfl) fun w3e U6d q5l=>?_
    have X6l:=belU X4l U6d g0c
    refine Ad<|h6h _ _<|wp_ret ?_
    have n7l:=(((n5k.upd U4c ((q3c.ext E2a).ext E4a) (by decide)).ext E5c).upd U5d q4d (by decide)).upd U6d q1f (by decide)
    have n8l:=(n1l.upd U5d q4d (by decide)).upd U6d q1f (by decide)
    obtain rfl:=sj f4k
    obtain rfl:=sj hr0
    exact LH Ig Mi rfl (Res.cellN rfl JG (q3l.upd U6d (Ne.symm ne8h)) rfl rfl (Res.cell1 rfl Ck (Bx.cell q5l rfl) Res.nil)) (Ak X6l ⟨A8e,c9e,(some ⟨b0f,0,none⟩),1,rfl,n7l,n8l⟩)
   ·refine scP (Ae Dh (by rfl)) (AN (decide (r6a.2=0)) r6a.2 w8 (tbx X2d hT)  (.error r3d) h6e) fun w9 E2a=>?_
    have X9l:=xtr X2d E2a
    have q0m:=(((((q9a.ext E5a).ext E1a).ext E0a).ext E1b).ext F7a).ext E2a
    have q1m:=((((q0b.ext E1a).ext E0a).ext E1b).ext F7a).ext E2a
    refine HR Mi (HH b9 b9c (.bool false:Value) (.slice none 0 0:Value) (.slice none 0 0:Value) (.int .i64 0:Value) r3d q0m q1m) rfl ?_
    rintro w9 ⟨u9,q9,q9'⟩
    obtain rfl:=sj hr0
    exact ⟨_,(Res.cellN rfl JG q9 rfl rfl (Res.cell1 rfl Ck (Bx.cell q9' rfl) Res.nil)),Ak (u9.toExt X9l g5b g0c) ⟨none,0,none,0,rfl,RU.nil _,RU.nil _⟩⟩
  ·have p2m:=zN hz1d e2c
   have f3m:=ifN p2m f4g
   refine wp_cond_false (Aj (evb rfl e2c))<|wp_skip<|h5g _ _<|wp_seq_k fun K9h h9h=>Af<|Ct (vals:=[(0,.int .u32 1)]) (cs:=[.int .u32 1]) CA As Hc (by rfl) (by decide) (by kernel_rfl) fun b4m w6 E8a g5m q6m=>?_
   refine nrm ?_
   have g4p:=nlt X1c.size g5m
   have X0i:=xtr X1c E8a
   have n7m:=RL.lit1 q6m (by decide)
   refine sV (Ai (o':=2) FH rfl rfl) ?_
   refine sV (Ag Ey rfl (Bx.cell (q7b.ext E8a) rfl)) ?_
   refine sV (Oc (c:=wi64 (-x0.Exp)) rfl rfl) ?_
   obtain ⟨r2b,h8m,f9m⟩:=Ab f3m
   refine sc (Ae Oq (by rfl)) (Mv 1 (wi64 (-x0.Exp)) (some ⟨b4m,0,none⟩) 1 w6 (tbx X0i hT) n7m r2b h8m) ?_
   rintro _ w7 E3b ⟨A2f,c3f,rfl,n0n⟩
   refine nrm ?_
   have X7d:=xtr X0i E3b
   refine sV (Aa rfl) ?_
   refine sV (Ap rfl rfl) ?_
   refine sV (Ap rfl rfl) ?_
   refine sV (Ac rfl) ?_
   refine sV (Ac rfl) ?_
   refine Ad<|h9h _ _<|wp_seq_k fun K1i h1i=>Af<|sV (Aa rfl) ?_
   refine sb (Ce rfl rfl) fun z4f hz4f=>?_
   refine nrm ?_
   refine sV (Aa rfl) ?_
   obtain rfl:z4f=decide (r2b.2=0):=bz hz4f
   rcases AG f9m with ⟨r8d,h5f,f1n⟩ | ⟨r8d,h5f,rfl⟩
   ·refine scO (Ae Dh (by rfl)) (AN (decide (r2b.2=0)) r2b.2 w7 (tbx X7d hT)  (.ok r8d) h5f) ?_
    rintro _ w8 E3a rfl
    refine nrm ?_
    have X2n:=xtr X7d E3a
    refine Ad<|h1i _ _<|wp_seq_k fun K2i h2i=>Ei [10,11] 12 mo rfl fun w9 E4b S6f=>?_
    have X7f:=xtr X2n E4b
    refine dA 0 rfl (fun _=>Ai (o':=0) Gd rfl rfl) ?_ (hQ:=fun _ _ _ h=>dq (rs:=[.cell 2 65,.cell 3 33]) rfl (by decide) h)
    refine dA 1 rfl (fun _=>Ai (o':=0) Ia rfl rfl) ?_ (hQ:=fun _ _ _ h=>dq (rs:=[.cell 2 65,.cell 3 33]) rfl (by decide) h)
    refine dV 2 rfl (fun _ hw=>Ag Ik rfl (Bx.cell (((((q7b.ext E8a).ext E3b).ext E3a).ext E4b).ext hw) rfl)) S6f ?_ (hQ:=fun _ _ _ h=>dq (rs:=[.cell 2 65,.cell 3 33]) rfl (by decide) h)
    refine dA 3 rfl (fun _=>Ai (o':=0) Gd rfl rfl) ?_ (hQ:=fun _ _ _ h=>dq (rs:=[.cell 2 65,.cell 3 33]) rfl (by decide) h)
    refine dA 4 rfl (fun _=>Ai (o':=1) Dl rfl rfl) ?_ (hQ:=fun _ _ _ h=>dq (rs:=[.cell 2 65,.cell 3 33]) rfl (by decide) h)
    refine dV 5 rfl (fun _ hw=>Ag EQ rfl (Bx.cell (((((q7b.ext E8a).ext E3b).ext E3a).ext E4b).ext hw) rfl)) S6f ?_ (hQ:=fun _ _ _ h=>dq (rs:=[.cell 2 65,.cell 3 33]) rfl (by decide) h)
    refine dA 8 rfl (fun _=>Aa rfl) ?_ (hQ:=fun _ _ _ h=>dq (rs:=[.cell 2 65,.cell 3 33]) rfl (by decide) h)
    obtain ⟨m3i,h3n,f4n⟩:=Ab f1n
    have hx4i:=BD h3n
    have n5n:RU w9 A1 c2 m3i:=by unfold RU;rw [hx4i];exact (n3.ext X7f)
    obtain ⟨r6c,h6n,f7n⟩:=Ab f4n
    refine dc 6 rfl (by kernel_rfl) (by rfl) (Ae ND (by simp only [sz,hx4i];rfl)) (Ga m3i A1 c2 w9 (tbx X7f hT) n5n r6c h6n) ?_
    rintro _ w9b E8b ⟨A7c,c8c,rfl,n8n⟩
    refine dnrm ?_
    have X9n:=xtr X7f E8b
    have S5p:=S6f.trans E8b
    refine dA 7 rfl (fun _=>Bc (vals:=[(0,.bool x0.Man.Neg),(1,.slice A7c (sz r6c) c8c)]) (cells:=[.bool x0.Man.Neg,.slice A7c (sz r6c) c8c]) (by rfl) (by kernel_rfl)) ?_ (hQ:=fun _ _ _ h=>dq (rs:=[.cell 2 65,.cell 3 33]) rfl (by decide) h)
    refine dA 9 rfl (fun _=>Bc (vals:=[(0,.agg #[.bool x0.Man.Neg,.slice A7c (sz r6c) c8c]),(1,.slice A2f (sz r2b.1) c3f)]) (cells:=[.bool x0.Man.Neg,.slice A7c (sz r6c) c8c,.slice A2f (sz r2b.1) c3f]) (by rfl) (by kernel_rfl)) ?_ (hQ:=fun _ _ _ h=>dq (rs:=[.cell 2 65,.cell 3 33]) rfl (by decide) h)
    have q9d:=(((((((q9a.ext E5a).ext E1a).ext E0a).ext E8a).ext E3b).ext E3a).ext E4b).ext E8b
    refine dk 10 rfl (by kernel_rfl) (by decide) (by rfl) Ni rfl rfl q9d rfl rfl rfl rfl (by simp only [SP0,SP1,S0,S1,Nat.reduceAdd];rfl) fun w2e U0e q0o=>?_
    have X1o:=belU X9n U0e g5b
    have ne5i:=(Bx.neT (((((((q0b.ext E1a).ext E0a).ext E8a).ext E3b).ext E3a).ext E4b).ext E8b) q9d (by decide))
    have q8f:=(((((((q0b.ext E1a).ext E0a).ext E8a).ext E3b).ext E3a).ext E4b).ext E8b).upd U0e ne5i
    refine dk 11 rfl (by kernel_rfl) (by decide) (by rfl) GA rfl rfl q8f rfl rfl rfl rfl (by simp only [SP0,SP1,S0,S1,Nat.reduceAdd];rfl) fun w9a U1e q2o=>?_
    have X3o:=belU X1o U1e g0c
    refine CU (by kernel_rfl) ?_
    refine h2i _ _<|wp_ret ?_
    have n4o:=(n8n.upd U0e q9d (by decide)).upd U1e q8f (by decide)
    have n5o:=((((n0n.ext E3a).ext E4b).ext E8b).upd U0e q9d (by decide)).upd U1e q8f (by decide)
    obtain rfl:=sj f7n
    obtain rfl:=sj hr0
    exact LH Ig Mi rfl (Res.cellN rfl JG (q0o.upd U1e (Ne.symm ne5i)) rfl rfl (Res.cell1 rfl Ck (Bx.cell q2o rfl) Res.nil)) (Ak X3o ⟨A7c,c8c,A2f,c3f,rfl,n4o,n5o⟩)
   ·refine scP (Ae Dh (by rfl)) (AN (decide (r2b.2=0)) r2b.2 w7 (tbx X7d hT)  (.error r8d) h5f) fun w8 E3a=>?_
    have X6o:=xtr X7d E3a
    have q7o:=(((((q9a.ext E5a).ext E1a).ext E0a).ext E8a).ext E3b).ext E3a
    have q8o:=((((q0b.ext E1a).ext E0a).ext E8a).ext E3b).ext E3a
    refine HR Mi (HH b9 b9c (.bool false:Value) (.slice none 0 0:Value) (.slice none 0 0:Value) (.int .i64 0:Value) r8d q7o q8o) rfl ?_
    rintro w9 ⟨u9,q9,q9'⟩
    obtain rfl:=sj hr0
    exact ⟨_,(Res.cellN rfl JG q9 rfl rfl (Res.cell1 rfl Ck (Bx.cell q9' rfl) Res.nil)),Ak (u9.toExt X6o g5b g0c) ⟨none,0,none,0,rfl,RU.nil _,RU.nil _⟩⟩
 ·refine scP (Ae Je (by rfl)) (DO x0 b2g A1 c2 w4 (tbx X6b hT) (n3.ext X6b) q3g (.error r0d) h4e) fun w5 E0a=>?_
  have X9o:=xtr X6b E0a
  have q0p:=((q9a.ext E5a).ext E1a).ext E0a
  refine HR Mi (HH b9 b9c (.bool false:Value) (.slice none 0 0:Value) (.slice none 0 0:Value) (.int .i64 0:Value) r0d q0p ((q0b.ext E1a).ext E0a)) rfl ?_
  rintro w9 ⟨u9,q9,q9'⟩
  obtain rfl:=sj hr0
  exact ⟨_,(Res.cellN rfl JG q9 rfl rfl (Res.cell1 rfl Ck (Bx.cell q9' rfl) Res.nil)),Ak (u9.toExt X9o g5b g0c) ⟨none,0,none,0,rfl,RU.nil _,RU.nil _⟩⟩
theorem c_sorobanref03_IsDir (x0:Int) (w:World) (hT:TB w) (r:Bool) (hr:Ep x0=some r) :
  Calls Tryz.prog 54 #[.int .i64 x0] w (Ret Fy w r):=by
 unfold Ep at hr
 go_enter Tryz.func54,Tryz.ntmps54
 refine wp_seq_k fun K1 h1=>Af<|sV (Ac rfl) ?_
 refine Ad<|h1 _ _<|wp_seq_k fun K2 h2=>Af<|sV (Aa rfl) ?_
 refine sb (EP rfl rfl) fun z3 hz3=>?_
 refine nrm ?_
 refine sV (Aa rfl) ?_
 obtain ⟨m5a,h2a,f6a⟩:=Ab hr
 refine Ca 6 (fun l l' w'=>∃(t3a:Value) (t4a:Value),w=w'∧l'=(((l.set 6 t3a).set 7 t4a).set 8 (.bool m5a))) ?_ ?_
 ·intro HJ16
  rcases bft z3 with e0a | e0a
  ·have p7a:=zP hz3 e0a
   have f8a:=ifP p7a h2a
   refine sV (Aa rfl) ?_ (hw:=wgT rfl e0a)
   refine sb (IL rfl rfl) ?_ (hw:=wgT rfl e0a)
   intro z1a hz1a
   refine nrm ?_
   refine sV (AB (evb rfl e0a) rfl) ?_
   obtain rfl:z1a=decide (x0≤5):=bz hz1a
   obtain rfl:=sj f8a
   exact HJ16 _ _ ⟨(.int .i64 x0),(.bool (decide (x0≤5))),rfl,(by simp only [S0,S1]<;>rfl)⟩
  ·have p9a:=zN hz3 e0a
   have f0b:=ifN p9a h2a
   refine sP ?_ (hw:=wgF rfl e0a)
   refine sP ?_ (hw:=wgF rfl e0a)
   refine sV (AF (evb rfl e0a) rfl) ?_
   obtain rfl:=sj f0b
   exact HJ16 _ _ ⟨uu,uu,rfl,(by simp only [S0,S1]<;>rfl)⟩
 ·rintro l' _ ⟨t3a,t4a,rfl,hq'⟩ l'' hl
  rw [hq'] at hl
  clear hq'
  simp only [S0,S1] at hl
  subst hl
  refine sV (Ac rfl) ?_
  refine Ad<|h2 _ _<|wp_ret ?_
  obtain rfl:=sj f6a
  exact fin rfl (Res.tmp rfl Res.nil) (Ak (Ext.refl _) rfl)
theorem c_nat_Gcd_1 (x0:Nat) (x1:Nat) (A1:Option Addr) (c2:Nat) (A4:Option Addr) (c5:Nat) (w:World) (hT:TB w) (n3:RU w A1 c2 x0) (n6:RU w A4 c5 x1) (r:Nat) (hr:Ij x0 x1=some r) :
  Calls Tryz.prog 243 #[.slice A1 (sz x0) c2,.slice A4 (sz x1) c5] w (Ret JA w r):=by
 unfold Ij at hr
 go_enter Tryz.func243,Tryz.ntmps243
 refine wp_seq_k fun K7 h7=>Af<|sV (Ac rfl) ?_
 refine Ad<|h7 _ _<|wp_seq_k fun K8 h8=>?_
 obtain ⟨m0b,h4c,f5c⟩:=Ab hr
 refine Di (fun l l' w'=>∃(A7a:Option Addr) (c8a:Nat),Ext w w'∧RU w' A7a c8a m0b∧Fr l' (fun t3b=>.slice A7a (sz m0b) c8a::gp t3b 1 18 [])) ?_ ?_
 ·apply wp_block
  refine BA (fun l n4b l' w'=>∃(v1a:Nat) (v0a:Nat) (A2a:Option Addr) (c3a:Nat) (A4a:Option Addr) (c5a:Nat),Ext w w'∧RU w' A2a c3a v1a∧RU w' A4a c5a v0a∧Ed x0 x1 n4b v1a v0a=some m0b∧Fr l' (fun t5b=>.slice A2a (sz v1a) c3a::.slice A4a (sz v0a) c5a::gp t5b 2 17 [])) 18446744073709551616 ?_ ?_ ?_
  ·exact ⟨x0,x1,A1,c2,A4,c5,(Ext.refl _),n3,n6,h4c,(Fr.mk (by kernel_rfl))⟩
  ·rintro l' w' ⟨v1a,v0a,A2a,c3a,A4a,c5a,_,_,_,hz,_⟩
   exact nomatch hz
  ·rintro n4b ih6c _ w1 ⟨v1a,v0a,A2a,c3a,A4a,c5a,U1b,n6b,n7b,hr2b,⟨t5b,rfl⟩⟩ l'' hl
   simp only [gp,Nat.reduceAdd] at hl
   subst hl
   unfold Ed at hr2b
   refine Bg<|wp_seq_k fun K8b h8b=>wp_seq_k fun K9b h9b=>Af<|sV (Aa rfl) ?_
   refine sV (AD AP rfl) ?_
   refine sb (Fs rfl rfl) fun z9a hz9a=>?_
   refine nrm ?_
   refine Ad<|h9b _ _ ?_
   rcases bft z9a with e6a | e6a
   ·have p7c:=zP hz9a e6a
    have f8c:=ifP p7c hr2b
    refine wp_cond_true (Aj (evb rfl e6a))<|wp_skip<|h8b _ _ ?_
    apply wp_block
    refine wp_seq_k fun K0c h0c=>Af<|sV (Aa rfl) ?_
    refine sV (Aa rfl) ?_
    obtain ⟨r1c,h9c,f0d⟩:=Ab f8c
    refine sc (Ae en_244 (by rfl)) (HU v1a v0a A2a c3a A4a c5a w1 (tbx U1b hT) n6b n7b r1c h9c) ?_
    rintro _ w2 E2c ⟨A8d,c9d,A1d,c2d,rfl,n0e,n3d⟩
    refine nrm ?_
    refine sV (Aa rfl) ?_
    refine sV (Ap rfl rfl) ?_
    refine sV (Ap rfl rfl) ?_
    refine sV (Ac rfl) ?_
    refine sV (Ac rfl) ?_
    refine Ad<|h0c _ _<|Af<|sV (Aa rfl) ?_
    refine sV (Aa rfl) ?_
    refine sV (Ac rfl) ?_
    refine sV (Ac rfl) ?_
    refine Ad ?_
    exact ih6c _ _ ⟨v0a,r1c.2,A4a,c5a,A1d,c2d,(U1b.trans E2c),(n7b.ext E2c),n3d,f0d,(Fr.mk (by kernel_rfl))⟩
   ·have p4d:=zN hz9a e6a
    have f5d:=ifN p4d hr2b
    refine wp_cond_false (Aj (evb rfl e6a))<|wp_exit ?_
    simp only [Exit.then,Exit.inBlock,↓reduceIte,Nat.reduceEqDiff]
    obtain rfl:=sj f5d
    exact ⟨_,rfl,A2a,c3a,U1b,n6b,(Fr.mk (by kernel_rfl))⟩
 ·rintro _ w1 ⟨A7a,c8a,U6d,n7d,⟨t3b,rfl⟩⟩ l'' hl
  simp only [gp,Nat.reduceAdd] at hl
  subst hl
  refine h8 _ _<|wp_seq_k fun K3c h3c=>Af<|sV (Aa rfl) ?_
  refine sV (Ac rfl) ?_
  refine Ad<|h3c _ _<|wp_ret ?_
  obtain rfl:=sj f5c
  exact fin rfl (Res.tmp rfl Res.nil) (Ak U6d ⟨A7a,c8a,rfl,n7d⟩)
theorem c_nat_multiplied__nat_Gcd_1__nil (x0:Nat) (x1:Nat) (A1:Option Addr) (c2:Nat) (A4:Option Addr) (c5:Nat) (w:World) (hT:TB w) (n3:RU w A1 c2 x0) (n6:RU w A4 c5 x1) (r:Nat × Int) (hr:CC x0 x1=some r) :
  Calls Tryz.prog 242 #[.slice A1 (sz x0) c2,.slice A4 (sz x1) c5,.agg #[.func (.func 243) #[] #[],.nilFunc]] w (Ret Hr w r):=by
 unfold CC at hr
 obtain ⟨q0,hq0,hr0⟩:=Ab hr
 unfold DG at hq0
 go_enter_defers Tryz.func242,Tryz.ntmps242
 refine wp_seq_k fun K7 h7=>Af<|BT rfl rfl fun b8 w1 E9 g1e q4c=>?_
 refine nrm ?_
 refine sV (Ac rfl) ?_
 refine Aw Iw fun b5c w2 E1b g6c q7c=>?_
 refine nrm ?_
 have g8c:=nlt E9.size g6c
 have X2b:=xtr E9 E1b
 refine Ad<|h7 _ _<|wp_seq_k fun K3b h3b=>Af<|Ha (vs:=[.pointer (some ⟨b5c,0,none⟩)]) (by rfl) (by rfl)<|Ad<|h3b _ _<|wp_seq_k fun K4b h4b=>Af<|sV (Aa rfl) ?_
 refine sV (Aa rfl) ?_
 refine Ct (vals:=[(0,.slice A1 (sz x0) c2),(1,.slice A4 (sz x1) c5)]) (cs:=[.slice A1 (sz x0) c2,.slice A4 (sz x1) c5]) Jd KO Nd (by rfl) (by decide) (by kernel_rfl) fun b5b w3 E3a g9c q6b=>?_
 refine nrm ?_
 have g2e:=nlt X2b.size g9c
 have X0a:=xtr X2b E3a
 rcases AG hq0 with ⟨r4a,h5a,f0d⟩ | ⟨r4a,h5a,rfl⟩
 ·refine scO (Ae Ja (by rfl)) (FW x0 x1 b5b A1 c2 A4 c5 w3 (tbx X0a hT) (n3.ext X0a) (n6.ext X0a) q6b (.ok r4a) h5a) ?_
  rintro _ w4 E1a rfl
  refine nrm ?_
  have X2a:=xtr X0a E1a
  refine Ad<|h4b _ _<|wp_seq_k fun K7b h7b=>Af<|sV (Ai (o':=0) Ma rfl rfl) ?_
  have q1d:=((q4c.ext E1b).ext E3a).ext E1a
  refine sV (Ag Nz rfl (Bx.cell q1d rfl)) ?_
  refine sV (Aa rfl) ?_
  refine sV (Aa rfl) ?_
  obtain ⟨r6a,h2d,f3d⟩:=Ab f0d
  refine sc (FB (first:=[]) (cap:=[]) (args:=[.slice A1 (sz x0) c2,.slice A4 (sz x1) c5]) en_243 (by rfl) (by rfl)) (c_nat_Gcd_1 x0 x1 A1 c2 A4 c5 w4 (tbx X2a hT) (n3.ext X2a) (n6.ext X2a) r6a h2d) ?_
  rintro _ w5 E8b ⟨A9b,c0c,rfl,n1c⟩
  refine nrm ?_
  have X7a:=xtr X2a E8b
  rcases AG f3d with ⟨r8a,h9a,f4d⟩ | ⟨r8a,h9a,rfl⟩
  ·refine scO (Ae IZ (by rfl)) (EI r6a A9b c0c w5 (tbx X7a hT) n1c (.ok r8a) h9a) ?_
   rintro _ w6 E0b ⟨A5d,c6d,rfl,n7d⟩
   refine nrm ?_
   have X8d:=xtr X7a E0b
   refine sV (Ac rfl) ?_
   have q2c:=(((q7c.ext E3a).ext E1a).ext E8b).ext E0b
   refine Ax GA rfl rfl q2c rfl rfl rfl rfl (by simp only [SP0,SP1,S0,S1,Nat.reduceAdd];rfl) fun w7 U3c q9d=>?_
   have X0e:=belU X8d U3c g8c
   refine Ad<|h7b _ _<|wp_ret ?_
   obtain rfl:=sj f4d
   obtain rfl:=sj hr0
   exact LX Fm Lv rfl (Res.tmp rfl (Res.cell1 rfl Ck (Bx.cell q9d rfl) Res.nil)) (Ak X0e ⟨A5d,c6d,rfl,(n7d.upd U3c q2c (by decide))⟩)
  ·refine scP (Ae IZ (by rfl)) (EI r6a A9b c0c w5 (tbx X7a hT) n1c (.error r8a) h9a) fun w6 E0b=>?_
   cases hr0
 ·refine scP (Ae Ja (by rfl)) (FW x0 x1 b5b A1 c2 A4 c5 w3 (tbx X0a hT) (n3.ext X0a) (n6.ext X0a) q6b (.error r4a) h5a) fun w4 E1a=>?_
  cases hr0
theorem c_nat_Gcd (x0:Nat) (x1:Nat) (A1:Option Addr) (c2:Nat) (A4:Option Addr) (c5:Nat) (w:World) (hT:TB w) (n3:RU w A1 c2 x0) (n6:RU w A4 c5 x1) (r:Nat × Int) (hr:Jm x0 x1=some r) :
  Calls Tryz.prog 209 #[.slice A1 (sz x0) c2,.slice A4 (sz x1) c5] w (Ret Hr w r):=by
 unfold Jm at hr
 go_enter Tryz.func209,Tryz.ntmps209
 refine wp_seq_k fun K7 h7=>Af<|sV (Ac rfl) ?_
 refine sV (Ac rfl) ?_
 refine Ad<|h7 _ _<|wp_seq_k fun K8 h8=>Af<|sV (Aa rfl) ?_
 refine sV (Aa rfl) ?_
 refine sV (Bc (vals:=[(0,.func (.func 243) #[] #[])]) (cells:=[.func (.func 243) #[] #[],.nilFunc]) (by rfl) (by kernel_rfl)) ?_
 obtain ⟨r9,h0a,f1a⟩:=Ab hr
 refine sc (Ae Nn (by rfl)) (c_nat_multiplied__nat_Gcd_1__nil x0 x1 A1 c2 A4 c5 w hT n3 n6 r9 h0a) ?_
 rintro _ w1 E2a ⟨A3a,c4a,rfl,n5a⟩
 refine nrm ?_
 refine sV (Ap rfl rfl) ?_
 refine sV (Ap rfl rfl) ?_
 refine sV (Ac rfl) ?_
 refine sV (Ac rfl) ?_
 refine Ad<|h8 _ _<|wp_ret ?_
 obtain rfl:=sj f1a
 exact fin rfl (Res.tmp rfl (Res.tmp rfl Res.nil)) (Ak E2a ⟨A3a,c4a,rfl,n5a⟩)
end Go.Proofs

