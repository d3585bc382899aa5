import Derived.Test.YtabiobmfelafoaaGreatDoorGen3
namespace Go.Proofs
set_option linter.unusedVariables false
set_option linter.unusedSimpArgs false
set_option maxHeartbeats 4000000
open Go.RowKit Go.Sb Go.Proofs.Sbn
theorem idle_whole_caught:Qq Tryz.prog 246:=by
 intro b w
 refine Kh Tryz.func246 rfl [.pointer (some ⟨b,0,none⟩),uu,uu,uu,uu,uu,uu,uu,uu,uu,uu,uu,uu,uu,uu] (by simp [Tryz.ntmps246]) fun c₀ cs hu=>?_
 apply wpS_seq
 refine rcvI1 hu rfl ?_
 simp only [S0,S1]
 refine wpS_of_wp ?_
 apply wp_block
 refine wp_seq_k fun _ h1=>Ae<|sV (d_eqlNilN LG rfl) ?_
 refine wh h1<|wp_cond_true (Ai (evb rfl rfl))<|Ae<|sV (Ac rfl) ?_
 refine AG ?_
 try simp only [Exit.inBlock]
 exact PN hu (by kernel_rfl) ⟨rfl,rfl,rfl⟩
theorem c_whole_args_1 (x0:Ah) (A1:Option Addr) (c2:Nat) (w:World) (hT:TB w) (n3:RU w A1 c2 x0.Abs) (r:Bool) (hr:Ip x0=some r) :
  Calls Tryz.prog 270 #[.agg #[.bool x0.Neg,.slice A1 (sz x0.Abs) c2]] w (Ret Gq w r):=by
 unfold Ip at hr
 go_enter Tryz.func270,Tryz.ntmps270
 refine wp_seq_k fun _ h4=>Ae<|Bu rfl rfl fun b5 w1 E6 g7 q8=>?_
 refine nrm ?_
 refine sV (Ac rfl) ?_
 refine wh h4<|wp_seq_k fun _ h9=>Ae<|sV (Al Dq rfl q8 rfl) ?_
 obtain ⟨r1a,h2a,f3a⟩:=Ab hr
 refine sc (Ad NV (by rfl)) (IX (⟨x0.Neg,(limbs x0.Abs)⟩:AW) A1 c2 w1 (tbx E6 hT) (n3.ext E6) r1a h2a) ?_
 rintro _ w2 E4a rfl
 refine nrm ?_
 have X5a:=xtr E6 E4a
 refine sb (Fv rfl) fun z0a hz0a=>?_
 refine nrm ?_
 refine sV (Ac rfl) ?_
 refine wh h9<|wp_ret ?_
 obtain rfl:z0a=decide (¬(r1a=true)):=bz hz0a
 obtain rfl:=sj f3a
 exact fin rfl (Res.tmp rfl Res.nil) (Aj X5a rfl)
theorem c_slices_IndexFunc_Int__1__whole_args_1 (x0_0:Ah) (bp0:Nat) (A1:Option Addr) (c2:Nat) (w:World) (hT:TB w) (n3:RU w A1 c2 x0_0.Abs) (q4:Bx w bp0 25 [.bool x0_0.Neg,.slice A1 (sz x0_0.Abs) c2]) (r:Int) (hr:Ch x0_0=some r) :
  Calls Tryz.prog 284 #[.slice (some ⟨bp0,0,none⟩) 1 1,.func (.func 270) #[] #[]] w (Ret Fy w r):=by
 unfold Ch at hr
 go_enter Tryz.func284,Tryz.ntmps284
 refine wp_seq_k fun _ h5=>Ae<|sV (Ac rfl) ?_
 refine wh h5<|wp_seq_k fun _ h6=>wp_seq_k fun _ h7=>Ae<|sV3 (Aa rfl) (Ax OJ rfl) (Aa rfl) ?_
 refine wh h7 ?_
 apply wp_block
 refine Ia<|AV<|wp_seq_k fun _ h8=>Ae<|sV (JH (v:=.bool true) (Cj rfl rfl) (by rfl)) ?_
 refine wh h8<|wp_seq_k fun _ h9=>wp_cond_true (Ai (evb rfl rfl))<|wp_skip<|h9 _ _<|wp_seq_k fun _ h2a=>?_
 apply wp_block
 refine wp_seq_k fun _ h3a=>Ae<|sV2 (Aa rfl) (Ac rfl) ?_
 refine wh h3a<|wp_seq_k fun _ h4a=>Ae<|sV3 (Aa rfl) (Aa rfl) (Aa rfl) ?_
 refine sV (Iu (o':=0) OJ GU rfl rfl (by decide) (by decide) (by decide)) ?_
 refine sV (Al Dq rfl q4 rfl) ?_
 obtain ⟨r5a,h6a,f7a⟩:=Ab hr
 refine sc (Gx (first:=[]) (cap:=[]) (args:=[.agg #[.bool x0_0.Neg,.slice A1 (sz x0_0.Abs) c2]]) en_270 (by rfl) (by rfl)) (c_whole_args_1 x0_0 A1 c2 w hT n3 r5a h6a) ?_
 rintro _ w1 E1a rfl
 refine nrm ?_
 refine wh h4a ?_
 rcases zb f7a with ⟨e0a,f8a⟩ | ⟨e0a,f9a⟩
 ·refine wp_cond_true (Ai (evb rfl e0a))<|wp_seq_k fun _ h0b=>Ae<|sV2 (Aa rfl) (Ac rfl) ?_
  refine wh h0b<|wp_ret ?_
  obtain rfl:=sj f8a
  exact fin rfl (Res.tmp rfl Res.nil) (Aj E1a rfl)
 ·refine wp_cond_false (Ai (evb rfl e0a))<|wp_skip<|h2a _ _<|Ae<|sV (AM (c:=1) rfl rfl (by decide)) ?_
  refine sV (Aa rfl) ?_
  refine AG<|AV<|wp_seq_k fun _ h1b=>Ae<|sV (JH (v:=.bool false) (Cj rfl rfl) (by rfl)) ?_
  refine wh h1b<|wp_seq_k fun _ h3b=>wp_cond_false (Ai (evb rfl rfl))<|wp_exit ?_
  simp only [Exit.then,Exit.inBlock,↓reduceIte,Nat.reduceEqDiff]
  refine h6 _ _<|wp_seq_k fun _ h2b=>Ae<|sV (Ac rfl) ?_
  refine wh h2b<|wp_ret ?_
  obtain rfl:=sj f9a
  exact fin rfl (Res.tmp rfl Res.nil) (Aj E1a rfl)
theorem c_slices_ContainsFunc_Int__1__whole_args_1 (x0_0:Ah) (bp0:Nat) (A1:Option Addr) (c2:Nat) (w:World) (hT:TB w) (n3:RU w A1 c2 x0_0.Abs) (q4:Bx w bp0 25 [.bool x0_0.Neg,.slice A1 (sz x0_0.Abs) c2]) (r:Bool) (hr:BQ x0_0=some r) :
  Calls Tryz.prog 269 #[.slice (some ⟨bp0,0,none⟩) 1 1,.func (.func 270) #[] #[]] w (Ret Gq w r):=by
 unfold BQ at hr
 go_enter Tryz.func269,Tryz.ntmps269
 refine wp_seq_k fun _ h5=>Ae<|sV (Ac rfl) ?_
 refine wh h5<|wp_seq_k fun _ h6=>Ae<|sV2 (Aa rfl) (Aa rfl) ?_
 obtain ⟨r7,h8,f9⟩:=Ab hr
 refine sc (Ad en_284 (by rfl)) (c_slices_IndexFunc_Int__1__whole_args_1 x0_0 bp0 A1 c2 w hT n3 q4 r7 h8) ?_
 rintro _ w1 E1a rfl
 refine nrm ?_
 refine sb (Fu rfl rfl) fun z0a hz0a=>?_
 refine nrm ?_
 refine sV (Ac rfl) ?_
 refine wh h6<|wp_ret ?_
 obtain rfl:z0a=decide (0≤r7):=bz hz0a
 obtain rfl:=sj f9
 exact fin rfl (Res.tmp rfl Res.nil) (Aj E1a rfl)
theorem Jt (x0:Bool) (x1:Int) (w:World) (hT:TB w) (r:Except Int (Unit)) (hr:Jw x0 x1=some r) :
  Calls Tryz.prog 248 #[.bool x0,.int .i64 x1] w (RetE 274 Ld w r):=by
 unfold Jw at hr
 go_enter Tryz.func248,Tryz.ntmps248
 refine wp_seq_k fun _ h1=>Ae<|sV (Aa rfl) ?_
 refine sb (Fv rfl) fun z2 hz2=>?_
 refine nrm ?_
 refine wh h1 ?_
 rcases zi hz2 hr with ⟨e8,_,f0a⟩ | ⟨e8,_,f1a⟩
 ·refine wp_cond_true (Ai (evb rfl e8))<|Ae<|sV2 (Aa rfl) (Bb (vals:=[(0,.int .i64 x1)]) (cells:=[.int .i64 x1]) (by rfl) (by kernel_rfl)) ?_
  refine sV (KT ni_274 rfl) ?_
  refine OO rfl ?_
  obtain rfl:=sj f0a
  exact ⟨rfl,Cw (Ext.refl _)⟩
 ·refine wp_cond_false (Ai (evb rfl e8))<|wp_skip ?_
  obtain rfl:=sj f1a
  exact Nb rfl Res.nil (EK (Ext.refl _) rfl)
theorem KM (x0_0:Ah) (bp0:Nat) (A1:Option Addr) (c2:Nat) (w:World) (hT:TB w) (n3:RU w A1 c2 x0_0.Abs) (q4:Bx w bp0 25 [.bool x0_0.Neg,.slice A1 (sz x0_0.Abs) c2]) (r:Except Int (Unit)) (hr:Hf x0_0=some r) :
  Calls Tryz.prog 247 #[.slice (some ⟨bp0,0,none⟩) 1 1] w (RetE 274 Ld w r):=by
 unfold Hf at hr
 go_enter Tryz.func247,Tryz.ntmps247
 refine Ae<|sV (Aa rfl) ?_
 obtain ⟨r5,h6,f7⟩:=Ab hr
 refine sc (Ad en_269 (by rfl)) (c_slices_ContainsFunc_Int__1__whole_args_1 x0_0 bp0 A1 c2 w hT n3 q4 r5 h6) ?_
 rintro _ w1 E8 rfl
 refine nrm ?_
 refine sb (Fv rfl) fun z9 hz9=>?_
 refine nrm ?_
 obtain rfl:z9=decide (¬(r5=true)):=bz hz9
 rcases AR f7 with ⟨r0a,h1a,f3a⟩ | ⟨r0a,h1a,rfl⟩
 ·refine scO (Ad NR (by rfl)) (Jt (decide (¬(r5=true))) 1 w1 (tbx E8 hT)  (.ok r0a) h1a) ?_
  rintro _ w2 E2a rfl
  refine nrm ?_
  have X4a:=xtr E8 E2a
  refine AG ?_
  obtain rfl:=sj f3a
  exact Nb rfl Res.nil (EK X4a rfl)
 ·refine scP (Ad NR (by rfl)) (Jt (decide (¬(r5=true))) 1 w1 (tbx E8 hT)  (.error r0a) h1a) fun w2 E2a=>?_
  have X5a:=xtr E8 E2a
  exact ⟨rfl,Cw X5a⟩
theorem Gj:Qq Tryz.prog 222:=by
 intro b w
 refine Kh Tryz.func222 rfl [.pointer (some ⟨b,0,none⟩),uu,uu,uu,uu,uu,uu,uu,uu,uu,uu,uu,uu,uu,uu,uu,uu,uu,uu,uu] (by simp [Tryz.ntmps222]) fun c₀ cs hu=>?_
 apply wpS_seq
 refine Qy hu rfl ?_
 simp only [S0,S1]
 refine wpS_of_wp<|wp_seq_k fun _ h1=>Ae<|sV2 (Aa rfl) (Km LG rfl) ?_
 refine wh h1<|wp_cond_false (Ai (evb rfl rfl))<|wp_skip ?_
 try simp only [Exit.inBlock]
 exact PN hu (by kernel_rfl) ⟨rfl,rfl,rfl⟩
theorem Kg (x0:Nat) (A1:Option Addr) (c2:Nat) (w:World) (hT:TB w) (n3:RU w A1 c2 x0) (r:Bool) (hr:GA x0=some r) :
  Calls Tryz.prog 255 #[.slice A1 (sz x0) c2] w (Ret Gq w r):=by
 unfold GA at hr
 go_enter Tryz.func255,Tryz.ntmps255
 refine wp_seq_k fun _ h4=>Ae<|sV (Ac rfl) ?_
 refine wh h4<|wp_seq_k fun _ h5=>Ae<|sV (Aa rfl) ?_
 obtain ⟨r6,h7,f8⟩:=Ab hr
 refine sc (Ad OQ (by rfl)) (Ja (limbs x0) A1 c2 w hT n3 r6 h7) ?_
 rintro _ w1 E9 rfl
 refine nrm ?_
 refine sb (Fv rfl) fun z0a hz0a=>?_
 refine nrm ?_
 refine sV (Ac rfl) ?_
 refine wh h5<|wp_ret ?_
 obtain rfl:z0a=decide (¬(r6=true)):=bz hz0a
 obtain rfl:=sj f8
 exact fin rfl (Res.tmp rfl Res.nil) (Aj E9 rfl)
theorem c_slices_IndexFunc_Nat__1__nat_taken_1 (x0_0:Nat) (bp0:Nat) (A1:Option Addr) (c2:Nat) (w:World) (hT:TB w) (n3:RU w A1 c2 x0_0) (q4:Bx w bp0 23 [.slice A1 (sz x0_0) c2]) (r:Int) (hr:Cr x0_0=some r) :
  Calls Tryz.prog 274 #[.slice (some ⟨bp0,0,none⟩) 1 1,.func (.func 255) #[] #[]] w (Ret Fy w r):=by
 unfold Cr at hr
 go_enter Tryz.func274,Tryz.ntmps274
 refine wp_seq_k fun _ h5=>Ae<|sV (Ac rfl) ?_
 refine wh h5<|wp_seq_k fun _ h6=>wp_seq_k fun _ h7=>Ae<|sV3 (Aa rfl) (Ax Kk rfl) (Aa rfl) ?_
 refine wh h7 ?_
 apply wp_block
 refine Ia<|AV<|wp_seq_k fun _ h8=>Ae<|sV (JH (v:=.bool true) (Cj rfl rfl) (by rfl)) ?_
 refine wh h8<|wp_seq_k fun _ h9=>wp_cond_true (Ai (evb rfl rfl))<|wp_skip<|h9 _ _<|wp_seq_k fun _ h2a=>?_
 apply wp_block
 refine wp_seq_k fun _ h3a=>Ae<|sV2 (Aa rfl) (Ac rfl) ?_
 refine wh h3a<|wp_seq_k fun _ h4a=>Ae<|sV3 (Aa rfl) (Aa rfl) (Aa rfl) ?_
 refine sV (Iu (o':=0) Kk LV rfl rfl (by decide) (by decide) (by decide)) ?_
 refine sV (Af BJ rfl (Bx.cell q4 rfl)) ?_
 obtain ⟨r5a,h6a,f7a⟩:=Ab hr
 refine sc (Gx (first:=[]) (cap:=[]) (args:=[.slice A1 (sz x0_0) c2]) Pu (by rfl) (by rfl)) (Kg x0_0 A1 c2 w hT n3 r5a h6a) ?_
 rintro _ w1 E1a rfl
 refine nrm ?_
 refine wh h4a ?_
 rcases zb f7a with ⟨e0a,f8a⟩ | ⟨e0a,f9a⟩
 ·refine wp_cond_true (Ai (evb rfl e0a))<|wp_seq_k fun _ h0b=>Ae<|sV2 (Aa rfl) (Ac rfl) ?_
  refine wh h0b<|wp_ret ?_
  obtain rfl:=sj f8a
  exact fin rfl (Res.tmp rfl Res.nil) (Aj E1a rfl)
 ·refine wp_cond_false (Ai (evb rfl e0a))<|wp_skip<|h2a _ _<|Ae<|sV (AM (c:=1) rfl rfl (by decide)) ?_
  refine sV (Aa rfl) ?_
  refine AG<|AV<|wp_seq_k fun _ h1b=>Ae<|sV (JH (v:=.bool false) (Cj rfl rfl) (by rfl)) ?_
  refine wh h1b<|wp_seq_k fun _ h3b=>wp_cond_false (Ai (evb rfl rfl))<|wp_exit ?_
  simp only [Exit.then,Exit.inBlock,↓reduceIte,Nat.reduceEqDiff]
  refine h6 _ _<|wp_seq_k fun _ h2b=>Ae<|sV (Ac rfl) ?_
  refine wh h2b<|wp_ret ?_
  obtain rfl:=sj f9a
  exact fin rfl (Res.tmp rfl Res.nil) (Aj E1a rfl)
theorem c_slices_ContainsFunc_Nat__1__nat_taken_1 (x0_0:Nat) (bp0:Nat) (A1:Option Addr) (c2:Nat) (w:World) (hT:TB w) (n3:RU w A1 c2 x0_0) (q4:Bx w bp0 23 [.slice A1 (sz x0_0) c2]) (r:Bool) (hr:BU x0_0=some r) :
  Calls Tryz.prog 254 #[.slice (some ⟨bp0,0,none⟩) 1 1,.func (.func 255) #[] #[]] w (Ret Gq w r):=by
 unfold BU at hr
 go_enter Tryz.func254,Tryz.ntmps254
 refine wp_seq_k fun _ h5=>Ae<|sV (Ac rfl) ?_
 refine wh h5<|wp_seq_k fun _ h6=>Ae<|sV2 (Aa rfl) (Aa rfl) ?_
 obtain ⟨r7,h8,f9⟩:=Ab hr
 refine sc (Ad QE (by rfl)) (c_slices_IndexFunc_Nat__1__nat_taken_1 x0_0 bp0 A1 c2 w hT n3 q4 r7 h8) ?_
 rintro _ w1 E1a rfl
 refine nrm ?_
 refine sb (Fu rfl rfl) fun z0a hz0a=>?_
 refine nrm ?_
 refine sV (Ac rfl) ?_
 refine wh h6<|wp_ret ?_
 obtain rfl:z0a=decide (0≤r7):=bz hz0a
 obtain rfl:=sj f9
 exact fin rfl (Res.tmp rfl Res.nil) (Aj E1a rfl)
theorem EB (x0:Bool) (x1:Int) (w:World) (hT:TB w) (r:Except Int (Unit)) (hr:EC x0 x1=some r) :
  Calls Tryz.prog 224 #[.bool x0,.int .i64 x1] w (RetE 258 Ld w r):=by
 unfold EC at hr
 go_enter Tryz.func224,Tryz.ntmps224
 refine wp_seq_k fun _ h1=>Ae<|sV (Aa rfl) ?_
 refine sb (Fv rfl) fun z2 hz2=>?_
 refine nrm ?_
 refine wh h1 ?_
 rcases zi hz2 hr with ⟨e8,_,f0a⟩ | ⟨e8,_,f1a⟩
 ·refine wp_cond_true (Ai (evb rfl e8))<|Ae<|sV2 (Aa rfl) (Bb (vals:=[(0,.int .i64 x1)]) (cells:=[.int .i64 x1]) (by rfl) (by kernel_rfl)) ?_
  refine sV (KT ni_258 rfl) ?_
  refine OO rfl ?_
  obtain rfl:=sj f0a
  exact ⟨rfl,Cw (Ext.refl _)⟩
 ·refine wp_cond_false (Ai (evb rfl e8))<|wp_skip ?_
  obtain rfl:=sj f1a
  exact Nb rfl Res.nil (EK (Ext.refl _) rfl)
theorem Iz (x0_0:Nat) (bp0:Nat) (A1:Option Addr) (c2:Nat) (w:World) (hT:TB w) (n3:RU w A1 c2 x0_0) (q4:Bx w bp0 23 [.slice A1 (sz x0_0) c2]) (r:Except Int (Unit)) (hr:GI x0_0=some r) :
  Calls Tryz.prog 223 #[.slice (some ⟨bp0,0,none⟩) 1 1] w (RetE 258 Ld w r):=by
 unfold GI at hr
 go_enter Tryz.func223,Tryz.ntmps223
 refine Ae<|sV (Aa rfl) ?_
 obtain ⟨r5,h6,f7⟩:=Ab hr
 refine sc (Ad QO (by rfl)) (c_slices_ContainsFunc_Nat__1__nat_taken_1 x0_0 bp0 A1 c2 w hT n3 q4 r5 h6) ?_
 rintro _ w1 E8 rfl
 refine nrm ?_
 refine sb (Fv rfl) fun z9 hz9=>?_
 refine nrm ?_
 obtain rfl:z9=decide (¬(r5=true)):=bz hz9
 rcases AR f7 with ⟨r0a,h1a,f3a⟩ | ⟨r0a,h1a,rfl⟩
 ·refine scO (Ad IG (by rfl)) (EB (decide (¬(r5=true))) 1 w1 (tbx E8 hT)  (.ok r0a) h1a) ?_
  rintro _ w2 E2a rfl
  refine nrm ?_
  have X4a:=xtr E8 E2a
  refine AG ?_
  obtain rfl:=sj f3a
  exact Nb rfl Res.nil (EK X4a rfl)
 ·refine scP (Ad IG (by rfl)) (EB (decide (¬(r5=true))) 1 w1 (tbx E8 hT)  (.error r0a) h1a) fun w2 E2a=>?_
  have X5a:=xtr E8 E2a
  exact ⟨rfl,Cw X5a⟩
theorem FJ (x0:Nat) (A1:Option Addr) (c2:Nat) (w:World) (hT:TB w) (n3:RU w A1 c2 x0) (r:Except Int (Nat)) (hr:Gn x0=some r) :
  Calls Tryz.prog 225 #[.slice A1 (sz x0) c2] w (RetE 258 Jn w r):=by
 unfold Gn at hr
 go_enter Tryz.func225,Tryz.ntmps225
 refine wp_seq_k fun _ h4=>Ae<|sV (Ac rfl) ?_
 refine wh h4<|wp_seq_k fun _ h5=>Ae<|sV2 (Aa rfl) (Ax AU rfl) ?_
 refine sb (Ie rfl rfl) fun z6 hz6=>?_
 refine nrm ?_
 obtain rfl:z6=decide ((sz x0:Int)≤1024):=bz hz6
 rcases AR hr with ⟨r7,h8,f9⟩ | ⟨r7,h8,rfl⟩
 ·refine scO (Ad IG (by rfl)) (EB (decide ((sz x0:Int)≤1024)) 2 w hT  (.ok r7) h8) ?_
  rintro _ w1 E0a rfl
  refine nrm ?_
  refine wh h5<|wp_seq_k fun _ h1a=>Ae<|sV (Aa rfl) ?_
  obtain ⟨r2a,h3a,f4a⟩:=Ab f9
  refine sc (Ad en_256 (by rfl)) (c_slices_Clone_nat_limbs x0 A1 c2 w1 (tbx E0a hT) (n3.ext E0a) r2a h3a) ?_
  rintro _ w2 E5a ⟨A6a,c7a,rfl,n8a⟩
  refine nrm ?_
  have X9a:=xtr E0a E5a
  refine sV (Ac rfl) ?_
  refine wh h1a<|wp_ret ?_
  obtain rfl:=sj f4a
  exact fin rfl (Res.tmp rfl Res.nil) (EK X9a ⟨A6a,c7a,rfl,n8a⟩)
 ·refine scP (Ad IG (by rfl)) (EB (decide ((sz x0:Int)≤1024)) 2 w hT  (.error r7) h8) fun w1 E0a=>?_
  exact ⟨rfl,Cw E0a⟩
theorem c_nat_Shl (x0:Nat) (x1:Int) (A1:Option Addr) (c2:Nat) (w:World) (hT:TB w) (n3:RU w A1 c2 x0) (r:Nat × Int) (hr:Kp x0 x1=some r) :
  Calls Tryz.prog 158 #[.slice A1 (sz x0) c2,.int .i64 x1] w (Ret Ij w r):=by
 unfold Kp at hr
 obtain ⟨q0,hq0,hr0⟩:=Ab hr
 unfold LP at hq0
 go_enter_defers Tryz.func158,Tryz.ntmps158
 refine wp_seq_k fun _ h4=>Ae<|sV (Ac rfl) ?_
 refine AA JM fun b5 w1 E6 g7 q8=>?_
 refine nrm ?_
 refine wh h4<|wp_seq_k fun _ h9=>Ae<|Ic (vs:=[.pointer (some ⟨b5,0,none⟩)]) (by rfl) (by rfl)<|wh h9<|wp_seq_k fun _ h1d=>Ae<|sV (Aa rfl) ?_
 refine Cv (vals:=[(0,.slice A1 (sz x0) c2)]) (cs:=[.slice A1 (sz x0) c2]) Kk LV OB (by rfl) (by decide) (by kernel_rfl) fun b2c w2 E4a g2d q3c=>?_
 refine nrm ?_
 have g6f:=nlt E6.size g2d
 have X0a:=xtr E6 E4a
 rcases AR hq0 with ⟨r5a,h6a,f3d⟩ | ⟨r5a,h6a,rfl⟩
 ·refine scO (Ad Kj (by rfl)) (Iz x0 b2c A1 c2 w2 (tbx X0a hT) (n3.ext X0a) q3c (.ok r5a) h6a) ?_
  rintro _ w3 E1a rfl
  refine nrm ?_
  have X7a:=xtr X0a E1a
  refine wh h1d<|wp_seq_k fun _ h4d=>Ae<|sV (Aa rfl) ?_
  refine sb (Fu rfl rfl) fun z8a hz8a=>?_
  refine nrm ?_
  obtain rfl:z8a=decide (0≤x1):=bz hz8a
  rcases AR f3d with ⟨r9a,h0b,f5d⟩ | ⟨r9a,h0b,rfl⟩
  ·refine scO (Ad IG (by rfl)) (EB (decide (0≤x1)) 1 w3 (tbx X7a hT)  (.ok r9a) h0b) ?_
   rintro _ w4 E2a rfl
   refine nrm ?_
   have X3a:=xtr X7a E2a
   refine wh h4d<|wp_seq_k fun _ h6d=>wp_seq_k fun _ h7d=>Ae<|sV2 (Aa rfl) (Ax AH rfl) ?_
   refine sb (Bl rfl rfl) fun z4c hz4c=>?_
   refine nrm ?_
   refine wh h7d ?_
   rcases zi hz4c f5d with ⟨e1b,_,f8d⟩ | ⟨e1b,_,f9d⟩
   ·refine wp_cond_true (Ai (evb rfl e1b))<|wp_seq_k fun _ h0e=>Ae<|sV (Ac rfl) ?_
    refine ss HU (((q8.ext E4a).ext E1a).ext E2a) fun w5 U1e q2e=>?_
    have X3e:=belU X3a U1e g7
    refine wh h0e<|wp_ret ?_
    obtain rfl:=sj f8d
    obtain rfl:=sj hr0
    exact Ng Gj Mt rfl (Res.tmp rfl (Res.cell1 rfl Dy (Bx.cell q2e rfl) Res.nil)) (Aj X3e ⟨none,0,rfl,(RU.nil _)⟩)
   ·refine wp_cond_false (Ai (evb rfl e1b))<|wp_skip<|h6d _ _<|wp_seq_k fun _ h4e=>Ae<|sV (Aa rfl) ?_
    refine sb (Ie rfl rfl) fun z2b hz2b=>?_
    refine nrm ?_
    obtain rfl:z2b=decide (x1≤32768):=bz hz2b
    rcases AR f9d with ⟨r3b,h4b,f5e⟩ | ⟨r3b,h4b,rfl⟩
    ·refine scO (Ad IG (by rfl)) (EB (decide (x1≤32768)) 2 w4 (tbx X3a hT)  (.ok r3b) h4b) ?_
     rintro _ w5 E5b rfl
     refine nrm ?_
     have X6b:=xtr X3a E5b
     refine wh h4e<|wp_seq_k fun _ h6e=>Ae<|sV2 (Aa rfl) (Aa rfl) ?_
     obtain ⟨r7b,h7e,f8e⟩:=Ab f5e
     refine sc (Ad NG (by rfl)) (Hh x0 x1 A1 c2 w5 (tbx X6b hT) (n3.ext X6b) r7b h7e) ?_
     rintro _ w6 E5c ⟨A6c,c7c,rfl,n8c⟩
     refine nrm ?_
     have X8b:=xtr X6b E5c
     rcases AR f8e with ⟨r9b,h0c,f9e⟩ | ⟨r9b,h0c,rfl⟩
     ·refine scO (Ad Ke (by rfl)) (FJ r7b A6c c7c w6 (tbx X8b hT) n8c (.ok r9b) h0c) ?_
      rintro _ w7 E1c ⟨A0f,c1f,rfl,n2f⟩
      refine nrm ?_
      have X3f:=xtr X8b E1c
      refine sV (Ac rfl) ?_
      have q9c:=(((((q8.ext E4a).ext E1a).ext E2a).ext E5b).ext E5c).ext E1c
      refine ss HU q9c fun w8 U0d q4f=>?_
      have X5f:=belU X3f U0d g7
      refine wh h6e<|wp_ret ?_
      obtain rfl:=sj f9e
      obtain rfl:=sj hr0
      exact Ng Gj Mt rfl (Res.tmp rfl (Res.cell1 rfl Dy (Bx.cell q4f rfl) Res.nil)) (Aj X5f ⟨A0f,c1f,rfl,(n2f.upd U0d q9c (by decide))⟩)
     ·refine scP (Ad Ke (by rfl)) (FJ r7b A6c c7c w6 (tbx X8b hT) n8c (.error r9b) h0c) fun w7 E1c=>?_
      cases hr0
    ·refine scP (Ad IG (by rfl)) (EB (decide (x1≤32768)) 2 w4 (tbx X3a hT)  (.error r3b) h4b) fun w5 E5b=>?_
     cases hr0
  ·refine scP (Ad IG (by rfl)) (EB (decide (0≤x1)) 1 w3 (tbx X7a hT)  (.error r9a) h0b) fun w4 E2a=>?_
   cases hr0
 ·refine scP (Ad Kj (by rfl)) (Iz x0 b2c A1 c2 w2 (tbx X0a hT) (n3.ext X0a) q3c (.error r5a) h6a) fun w3 E1a=>?_
  cases hr0
theorem EY (x0:Nat) (x1:Int) (A1:Option Addr) (c2:Nat) (w:World) (hT:TB w) (n3:RU w A1 c2 x0) (r:Except Int (Nat)) (hr:FE x0 x1=some r) :
  Calls Tryz.prog 218 #[.slice A1 (sz x0) c2,.int .i64 x1] w (RetE 274 Jn w r):=by
 unfold FE at hr
 go_enter Tryz.func218,Tryz.ntmps218
 refine wp_seq_k fun _ h4=>Ae<|sV (Ac rfl) ?_
 refine wh h4<|wp_seq_k fun _ h5=>Ae<|sV (Aa rfl) ?_
 refine sb (Bl rfl rfl) fun z6 hz6=>?_
 refine nrm ?_
 refine sV (Aa rfl) ?_
 obtain rfl:z6=decide (x1=0):=bz hz6
 rcases AR hr with ⟨r7,h8,f9⟩ | ⟨r7,h8,rfl⟩
 ·refine scO (Ad NR (by rfl)) (Jt (decide (x1=0)) x1 w hT  (.ok r7) h8) ?_
  rintro _ w1 E0a rfl
  refine nrm ?_
  refine wh h5<|wp_seq_k fun _ h1a=>Ae<|sV2 (Aa rfl) (Ac rfl) ?_
  refine wh h1a<|wp_ret ?_
  obtain rfl:=sj f9
  exact fin rfl (Res.tmp rfl Res.nil) (EK E0a ⟨A1,c2,rfl,(n3.ext E0a)⟩)
 ·refine scP (Ad NR (by rfl)) (Jt (decide (x1=0)) x1 w hT  (.error r7) h8) fun w1 E0a=>?_
  exact ⟨rfl,Cw E0a⟩
theorem ND (x0:Nat) (x1:Int) (A1:Option Addr) (c2:Nat) (w:World) (hT:TB w) (n3:RU w A1 c2 x0) (r:Nat × Int) (hr:Jz x0 x1=some r) :
  Calls Tryz.prog 219 #[.slice A1 (sz x0) c2,.int .i64 x1] w (Ret Ij w r):=by
 unfold Jz at hr
 obtain ⟨q0,hq0,hr0⟩:=Ab hr
 unfold LO at hq0
 go_enter_defers Tryz.func219,Tryz.ntmps219
 refine wp_seq_k fun _ h4=>Ae<|sV (Ac rfl) ?_
 refine AA JM fun b5 w1 E6 g7 q8=>?_
 refine nrm ?_
 refine wh h4<|wp_seq_k fun _ h9=>Ae<|Ic (vs:=[.pointer (some ⟨b5,0,none⟩)]) (by rfl) (by rfl)<|wh h9<|wp_seq_k fun _ h4c=>Ae<|sV (Aa rfl) ?_
 refine Cv (vals:=[(0,.slice A1 (sz x0) c2)]) (cs:=[.slice A1 (sz x0) c2]) Kk LV OB (by rfl) (by decide) (by kernel_rfl) fun b5b w2 E6b g5c q7b=>?_
 refine nrm ?_
 have g9d:=nlt E6.size g5c
 have X0a:=xtr E6 E6b
 rcases AR hq0 with ⟨r1a,h2a,f6c⟩ | ⟨r1a,h2a,rfl⟩
 ·refine scO (Ad Kj (by rfl)) (Iz x0 b5b A1 c2 w2 (tbx X0a hT) (n3.ext X0a) q7b (.ok r1a) h2a) ?_
  rintro _ w3 E3a rfl
  refine nrm ?_
  have X4a:=xtr X0a E3a
  refine wh h4c<|wp_seq_k fun _ h7c=>Ae<|sV (Aa rfl) ?_
  refine sb (Fu rfl rfl) fun z5a hz5a=>?_
  refine nrm ?_
  obtain rfl:z5a=decide (0≤x1):=bz hz5a
  rcases AR f6c with ⟨r6a,h7a,f8c⟩ | ⟨r6a,h7a,rfl⟩
  ·refine scO (Ad IG (by rfl)) (EB (decide (0≤x1)) 1 w3 (tbx X4a hT)  (.ok r6a) h7a) ?_
   rintro _ w4 E8a rfl
   refine nrm ?_
   have X9a:=xtr X4a E8a
   refine wh h7c<|wp_seq_k fun _ h9c=>Ae<|sV2 (Aa rfl) (Aa rfl) ?_
   obtain ⟨r0b,h0d,f1d⟩:=Ab f8c
   refine sc (Ad ON (by rfl)) (HW x0 x1 A1 c2 w4 (tbx X9a hT) (n3.ext X9a) r0b h0d) ?_
   rintro _ w5 E8b ⟨A9b,c0c,rfl,n1c⟩
   refine nrm ?_
   have X1b:=xtr X9a E8b
   rcases AR f1d with ⟨r2b,h3b,f2d⟩ | ⟨r2b,h3b,rfl⟩
   ·refine scO (Ad Ke (by rfl)) (FJ r0b A9b c0c w5 (tbx X1b hT) n1c (.ok r2b) h3b) ?_
    rintro _ w6 E4b ⟨A3d,c4d,rfl,n5d⟩
    refine nrm ?_
    have X6d:=xtr X1b E4b
    refine sV (Ac rfl) ?_
    have q2c:=((((q8.ext E6b).ext E3a).ext E8a).ext E8b).ext E4b
    refine ss HU q2c fun w7 U3c q7d=>?_
    have X8d:=belU X6d U3c g7
    refine wh h9c<|wp_ret ?_
    obtain rfl:=sj f2d
    obtain rfl:=sj hr0
    exact Ng Gj Mt rfl (Res.tmp rfl (Res.cell1 rfl Dy (Bx.cell q7d rfl) Res.nil)) (Aj X8d ⟨A3d,c4d,rfl,(n5d.upd U3c q2c (by decide))⟩)
   ·refine scP (Ad Ke (by rfl)) (FJ r0b A9b c0c w5 (tbx X1b hT) n1c (.error r2b) h3b) fun w6 E4b=>?_
    cases hr0
  ·refine scP (Ad IG (by rfl)) (EB (decide (0≤x1)) 1 w3 (tbx X4a hT)  (.error r6a) h7a) fun w4 E8a=>?_
   cases hr0
 ·refine scP (Ad Kj (by rfl)) (Iz x0 b5b A1 c2 w2 (tbx X0a hT) (n3.ext X0a) q7b (.error r1a) h2a) fun w3 E3a=>?_
  cases hr0
theorem c_slices_IndexFunc_Nat__2__nat_taken_1 (x0_0:Nat) (x0_1:Nat) (bp0:Nat) (A1:Option Addr) (c2:Nat) (A4:Option Addr) (c5:Nat) (w:World) (hT:TB w) (n3:RU w A1 c2 x0_0) (n6:RU w A4 c5 x0_1) (q7:Bx w bp0 23 [.slice A1 (sz x0_0) c2,.slice A4 (sz x0_1) c5]) (r:Int) (hr:Cx x0_0 x0_1=some r) :
  Calls Tryz.prog 274 #[.slice (some ⟨bp0,0,none⟩) 2 2,.func (.func 255) #[] #[]] w (Ret Fy w r):=by
 unfold Cx at hr
 go_enter Tryz.func274,Tryz.ntmps274
 refine wp_seq_k fun _ h8=>Ae<|sV (Ac rfl) ?_
 refine wh h8<|wp_seq_k fun _ h9=>wp_seq_k fun _ h4a=>Ae<|sV3 (Aa rfl) (Ax Kk rfl) (Aa rfl) ?_
 refine wh h4a ?_
 apply wp_block
 refine Ia<|AV<|wp_seq_k fun _ h5a=>Ae<|sV (JH (v:=.bool true) (Cj rfl rfl) (by rfl)) ?_
 refine wh h5a<|wp_seq_k fun _ h6a=>wp_cond_true (Ai (evb rfl rfl))<|wp_skip<|h6a _ _<|wp_seq_k fun _ h7a=>?_
 apply wp_block
 refine wp_seq_k fun _ h8a=>Ae<|sV2 (Aa rfl) (Ac rfl) ?_
 refine wh h8a<|wp_seq_k fun _ h9a=>Ae<|sV3 (Aa rfl) (Aa rfl) (Aa rfl) ?_
 refine sV (Iu (o':=0) Kk LV rfl rfl (by decide) (by decide) (by decide)) ?_
 refine sV (Af BJ rfl (Bx.cell q7 rfl)) ?_
 obtain ⟨r0b,h1b,f2b⟩:=Ab hr
 refine sc (Gx (first:=[]) (cap:=[]) (args:=[.slice A1 (sz x0_0) c2]) Pu (by rfl) (by rfl)) (Kg x0_0 A1 c2 w hT n3 r0b h1b) ?_
 rintro _ w1 E0a rfl
 refine nrm ?_
 refine wh h9a ?_
 rcases zb f2b with ⟨e1a,f3b⟩ | ⟨e1a,f4b⟩
 ·refine wp_cond_true (Ai (evb rfl e1a))<|wp_seq_k fun _ h5b=>Ae<|sV2 (Aa rfl) (Ac rfl) ?_
  refine wh h5b<|wp_ret ?_
  obtain rfl:=sj f3b
  exact fin rfl (Res.tmp rfl Res.nil) (Aj E0a rfl)
 ·refine wp_cond_false (Ai (evb rfl e1a))<|wp_skip<|h7a _ _<|Ae<|sV (AM (c:=1) rfl rfl (by decide)) ?_
  refine sV (Aa rfl) ?_
  refine AG<|AV<|wp_seq_k fun _ h6b=>Ae<|sV (JH (v:=.bool true) (Cj rfl rfl) (by rfl)) ?_
  refine wh h6b<|wp_seq_k fun _ h7b=>wp_cond_true (Ai (evb rfl rfl))<|wp_skip<|h7b _ _<|wp_seq_k fun _ h8b=>?_
  apply wp_block
  refine wp_seq_k fun _ h9b=>Ae<|sV2 (Aa rfl) (Ac rfl) ?_
  refine wh h9b<|wp_seq_k fun _ h0c=>Ae<|sV3 (Aa rfl) (Aa rfl) (Aa rfl) ?_
  refine sV (Iu (o':=1) Kk LV rfl rfl (by decide) (by decide) (by decide)) ?_
  refine sV (Af BJ rfl (Bx.cell (q7.ext E0a) rfl)) ?_
  obtain ⟨r1c,h2c,f3c⟩:=Ab f4b
  refine sc (Gx (first:=[]) (cap:=[]) (args:=[.slice A4 (sz x0_1) c5]) Pu (by rfl) (by rfl)) (Kg x0_1 A4 c5 w1 (tbx E0a hT) (n6.ext E0a) r1c h2c) ?_
  rintro _ w2 E4c rfl
  refine nrm ?_
  have X3a:=xtr E0a E4c
  refine wh h0c ?_
  rcases zb f3c with ⟨e2a,f5c⟩ | ⟨e2a,f6c⟩
  ·refine wp_cond_true (Ai (evb rfl e2a))<|wp_seq_k fun _ h7c=>Ae<|sV2 (Aa rfl) (Ac rfl) ?_
   refine wh h7c<|wp_ret ?_
   obtain rfl:=sj f5c
   exact fin rfl (Res.tmp rfl Res.nil) (Aj X3a rfl)
  ·refine wp_cond_false (Ai (evb rfl e2a))<|wp_skip<|h8b _ _<|Ae<|sV (AM (c:=2) rfl rfl (by decide)) ?_
   refine sV (Aa rfl) ?_
   refine AG<|AV<|wp_seq_k fun _ h8c=>Ae<|sV (JH (v:=.bool false) (Cj rfl rfl) (by rfl)) ?_
   refine wh h8c<|wp_seq_k fun _ h0d=>wp_cond_false (Ai (evb rfl rfl))<|wp_exit ?_
   simp only [Exit.then,Exit.inBlock,↓reduceIte,Nat.reduceEqDiff]
   refine h9 _ _<|wp_seq_k fun _ h9c=>Ae<|sV (Ac rfl) ?_
   refine wh h9c<|wp_ret ?_
   obtain rfl:=sj f6c
   exact fin rfl (Res.tmp rfl Res.nil) (Aj X3a rfl)
theorem c_slices_ContainsFunc_Nat__2__nat_taken_1 (x0_0:Nat) (x0_1:Nat) (bp0:Nat) (A1:Option Addr) (c2:Nat) (A4:Option Addr) (c5:Nat) (w:World) (hT:TB w) (n3:RU w A1 c2 x0_0) (n6:RU w A4 c5 x0_1) (q7:Bx w bp0 23 [.slice A1 (sz x0_0) c2,.slice A4 (sz x0_1) c5]) (r:Bool) (hr:BV x0_0 x0_1=some r) :
  Calls Tryz.prog 254 #[.slice (some ⟨bp0,0,none⟩) 2 2,.func (.func 255) #[] #[]] w (Ret Gq w r):=by
 unfold BV at hr
 go_enter Tryz.func254,Tryz.ntmps254
 refine wp_seq_k fun _ h8=>Ae<|sV (Ac rfl) ?_
 refine wh h8<|wp_seq_k fun _ h9=>Ae<|sV2 (Aa rfl) (Aa rfl) ?_
 obtain ⟨r1a,h2a,f3a⟩:=Ab hr
 refine sc (Ad QE (by rfl)) (c_slices_IndexFunc_Nat__2__nat_taken_1 x0_0 x0_1 bp0 A1 c2 A4 c5 w hT n3 n6 q7 r1a h2a) ?_
 rintro _ w1 E4a rfl
 refine nrm ?_
 refine sb (Fu rfl rfl) fun z0a hz0a=>?_
 refine nrm ?_
 refine sV (Ac rfl) ?_
 refine wh h9<|wp_ret ?_
 obtain rfl:z0a=decide (0≤r1a):=bz hz0a
 obtain rfl:=sj f3a
 exact fin rfl (Res.tmp rfl Res.nil) (Aj E4a rfl)
theorem GH (x0_0:Nat) (x0_1:Nat) (bp0:Nat) (A1:Option Addr) (c2:Nat) (A4:Option Addr) (c5:Nat) (w:World) (hT:TB w) (n3:RU w A1 c2 x0_0) (n6:RU w A4 c5 x0_1) (q7:Bx w bp0 23 [.slice A1 (sz x0_0) c2,.slice A4 (sz x0_1) c5]) (r:Except Int (Unit)) (hr:FP x0_0 x0_1=some r) :
  Calls Tryz.prog 223 #[.slice (some ⟨bp0,0,none⟩) 2 2] w (RetE 258 Ld w r):=by
 unfold FP at hr
 go_enter Tryz.func223,Tryz.ntmps223
 refine Ae<|sV (Aa rfl) ?_
 obtain ⟨r8,h9,f5a⟩:=Ab hr
 refine sc (Ad QO (by rfl)) (c_slices_ContainsFunc_Nat__2__nat_taken_1 x0_0 x0_1 bp0 A1 c2 A4 c5 w hT n3 n6 q7 r8 h9) ?_
 rintro _ w1 E0a rfl
 refine nrm ?_
 refine sb (Fv rfl) fun z1a hz1a=>?_
 refine nrm ?_
 obtain rfl:z1a=decide (¬(r8=true)):=bz hz1a
 rcases AR f5a with ⟨r2a,h3a,f6a⟩ | ⟨r2a,h3a,rfl⟩
 ·refine scO (Ad IG (by rfl)) (EB (decide (¬(r8=true))) 1 w1 (tbx E0a hT)  (.ok r2a) h3a) ?_
  rintro _ w2 E4a rfl
  refine nrm ?_
  have X7a:=xtr E0a E4a
  refine AG ?_
  obtain rfl:=sj f6a
  exact Nb rfl Res.nil (EK X7a rfl)
 ·refine scP (Ad IG (by rfl)) (EB (decide (¬(r8=true))) 1 w1 (tbx E0a hT)  (.error r2a) h3a) fun w2 E4a=>?_
  have X8a:=xtr E0a E4a
  exact ⟨rfl,Cw X8a⟩
theorem MH (x0:Nat) (x1:Nat) (A1:Option Addr) (c2:Nat) (A4:Option Addr) (c5:Nat) (w:World) (hT:TB w) (n3:RU w A1 c2 x0) (n6:RU w A4 c5 x1) (r:Except Int (Nat)) (hr:JR x0 x1=some r) :
  Calls Tryz.prog 250 #[.slice A1 (sz x0) c2,.slice A4 (sz x1) c5] w (RetE 258 KC w r):=by
 unfold JR at hr
 go_enter Tryz.func250,Tryz.ntmps250
 refine wp_seq_k fun _ h7=>Ae<|sV (Ac rfl) ?_
 refine wh h7<|wp_seq_k fun _ h8=>Ae<|sV2 (Aa rfl) (Aa rfl) ?_
 obtain ⟨r9,h6a,f7a⟩:=Ab hr
 refine sc (Ad OV (by rfl)) (HX x0 x1 A1 c2 A4 c5 w hT n3 n6 r9 h6a) ?_
 rintro _ w1 E0a rfl
 refine nrm ?_
 refine sb (Fu rfl rfl) fun z2a hz2a=>?_
 refine nrm ?_
 obtain rfl:z2a=decide (0≤r9):=bz hz2a
 rcases AR f7a with ⟨r3a,h4a,f8a⟩ | ⟨r3a,h4a,rfl⟩
 ·refine scO (Ad IG (by rfl)) (EB (decide (0≤r9)) 3 w1 (tbx E0a hT)  (.ok r3a) h4a) ?_
  rintro _ w2 E5a rfl
  refine nrm ?_
  have X1a:=xtr E0a E5a
  refine wh h8<|wp_seq_k fun _ h9a=>Ae<|sV2 (Aa rfl) (Aa rfl) ?_
  obtain ⟨r0b,h1b,f2b⟩:=Ab f8a
  refine sc (Ad en_252 (by rfl)) (Jl x0 x1 A1 c2 A4 c5 w2 (tbx X1a hT) (n3.ext X1a) (n6.ext X1a) r0b h1b) ?_
  rintro _ w3 E3b ⟨A4b,c5b,rfl,n6b⟩
  refine nrm ?_
  have X7b:=xtr X1a E3b
  refine sV (Ac rfl) ?_
  refine wh h9a<|wp_ret ?_
  obtain rfl:=sj f2b
  exact fin rfl (Res.tmp rfl Res.nil) (EK X7b ⟨A4b,c5b,rfl,n6b⟩)
 ·refine scP (Ad IG (by rfl)) (EB (decide (0≤r9)) 3 w1 (tbx E0a hT)  (.error r3a) h4a) fun w2 E5a=>?_
  have X8b:=xtr E0a E5a
  exact ⟨rfl,Cw X8b⟩
theorem c_nat_multiplied__nat_Sub_1__nil (x0:Nat) (x1:Nat) (A1:Option Addr) (c2:Nat) (A4:Option Addr) (c5:Nat) (w:World) (hT:TB w) (n3:RU w A1 c2 x0) (n6:RU w A4 c5 x1) (r:Nat × Int) (hr:Di x0 x1=some r) :
  Calls Tryz.prog 242 #[.slice A1 (sz x0) c2,.slice A4 (sz x1) c5,.agg #[.func (.func 250) #[] #[],.nilFunc]] w (Ret Ij w r):=by
 unfold Di at hr
 obtain ⟨q0,hq0,hr0⟩:=Ab hr
 unfold Ew at hq0
 go_enter_defers Tryz.func242,Tryz.ntmps242
 refine wp_seq_k fun _ h7=>Ae<|Bu rfl rfl fun b8 w1 E9 g1e q2c=>?_
 refine nrm ?_
 refine sV (Ac rfl) ?_
 refine AA JM fun b3c w2 E3b g4c q5c=>?_
 refine nrm ?_
 have g6c:=nlt E9.size g4c
 have X4b:=xtr E9 E3b
 refine wh h7<|wp_seq_k fun _ h7c=>Ae<|Ic (vs:=[.pointer (some ⟨b3c,0,none⟩)]) (by rfl) (by rfl)<|wh h7c<|wp_seq_k fun _ h8c=>Ae<|sV2 (Aa rfl) (Aa rfl) ?_
 refine Cv (vals:=[(0,.slice A1 (sz x0) c2),(1,.slice A4 (sz x1) c5)]) (cs:=[.slice A1 (sz x0) c2,.slice A4 (sz x1) c5]) Kk LV OB (by rfl) (by decide) (by kernel_rfl) fun b5b w3 E4a g9c q6b=>?_
 refine nrm ?_
 have g2e:=nlt X4b.size g9c
 have X0a:=xtr X4b E4a
 rcases AR hq0 with ⟨r5a,h6a,f0d⟩ | ⟨r5a,h6a,rfl⟩
 ·refine scO (Ad Kj (by rfl)) (GH x0 x1 b5b A1 c2 A4 c5 w3 (tbx X0a hT) (n3.ext X0a) (n6.ext X0a) q6b (.ok r5a) h6a) ?_
  rintro _ w4 E3a rfl
  refine nrm ?_
  have X1a:=xtr X0a E3a
  refine wh h8c<|wp_seq_k fun _ h1d=>Ae<|sV (Ag (o':=0) Nq rfl rfl) ?_
  have q2d:=((q2c.ext E3b).ext E4a).ext E3a
  refine sV3 (Af Pe rfl (Bx.cell q2d rfl)) (Aa rfl) (Aa rfl) ?_
  rcases AR f0d with ⟨r2a,h7a,f3d⟩ | ⟨r2a,h7a,rfl⟩
  ·refine scO (Gx (first:=[]) (cap:=[]) (args:=[.slice A1 (sz x0) c2,.slice A4 (sz x1) c5]) QC (by rfl) (by rfl)) (MH x0 x1 A1 c2 A4 c5 w4 (tbx X1a hT) (n3.ext X1a) (n6.ext X1a) (.ok r2a) h7a) ?_
   rintro _ w5 E8a ⟨A7b,c8b,rfl,n9b⟩
   refine nrm ?_
   have X9a:=xtr X1a E8a
   rcases AR f3d with ⟨r0b,h1b,f4d⟩ | ⟨r0b,h1b,rfl⟩
   ·refine scO (Ad Ke (by rfl)) (FJ r2a A7b c8b w5 (tbx X9a hT) n9b (.ok r0b) h1b) ?_
    rintro _ w6 E2b ⟨A5d,c6d,rfl,n7d⟩
    refine nrm ?_
    have X8d:=xtr X9a E2b
    refine sV (Ac rfl) ?_
    have q0c:=(((q5c.ext E4a).ext E3a).ext E8a).ext E2b
    refine ss HU q0c fun w7 U1c q9d=>?_
    have X0e:=belU X8d U1c g6c
    refine wh h1d<|wp_ret ?_
    obtain rfl:=sj f4d
    obtain rfl:=sj hr0
    exact Ng Gj Mt rfl (Res.tmp rfl (Res.cell1 rfl Dy (Bx.cell q9d rfl) Res.nil)) (Aj X0e ⟨A5d,c6d,rfl,(n7d.upd U1c q0c (by decide))⟩)
   ·refine scP (Ad Ke (by rfl)) (FJ r2a A7b c8b w5 (tbx X9a hT) n9b (.error r0b) h1b) fun w6 E2b=>?_
    cases hr0
  ·refine scP (Gx (first:=[]) (cap:=[]) (args:=[.slice A1 (sz x0) c2,.slice A4 (sz x1) c5]) QC (by rfl) (by rfl)) (MH x0 x1 A1 c2 A4 c5 w4 (tbx X1a hT) (n3.ext X1a) (n6.ext X1a) (.error r2a) h7a) fun w5 E8a=>?_
   cases hr0
 ·refine scP (Ad Kj (by rfl)) (GH x0 x1 b5b A1 c2 A4 c5 w3 (tbx X0a hT) (n3.ext X0a) (n6.ext X0a) q6b (.error r5a) h6a) fun w4 E3a=>?_
  cases hr0
theorem c_nat_Sub (x0:Nat) (x1:Nat) (A1:Option Addr) (c2:Nat) (A4:Option Addr) (c5:Nat) (w:World) (hT:TB w) (n3:RU w A1 c2 x0) (n6:RU w A4 c5 x1) (r:Nat × Int) (hr:Kr x0 x1=some r) :
  Calls Tryz.prog 220 #[.slice A1 (sz x0) c2,.slice A4 (sz x1) c5] w (Ret Ij w r):=by
 unfold Kr at hr
 go_enter Tryz.func220,Tryz.ntmps220
 refine wp_seq_k fun _ h7=>Ae<|sV2 (Ac rfl) (Ac rfl) ?_
 refine wh h7<|wp_seq_k fun _ h8=>Ae<|sV3 (Aa rfl) (Aa rfl) (Bb (vals:=[(0,.func (.func 250) #[] #[])]) (cells:=[.func (.func 250) #[] #[],.nilFunc]) (by rfl) (by kernel_rfl)) ?_
 obtain ⟨r9,h0a,f1a⟩:=Ab hr
 refine sc (Ad Pk (by rfl)) (c_nat_multiplied__nat_Sub_1__nil x0 x1 A1 c2 A4 c5 w hT n3 n6 r9 h0a) ?_
 rintro _ w1 E2a ⟨A3a,c4a,rfl,n5a⟩
 refine nrm ?_
 refine sV3 (Av rfl rfl) (Av rfl rfl) (Ac rfl) ?_
 refine sV (Ac rfl) ?_
 refine wh h8<|wp_ret ?_
 obtain rfl:=sj f1a
 exact fin rfl (Res.tmp rfl (Res.tmp rfl Res.nil)) (Aj E2a ⟨A3a,c4a,rfl,n5a⟩)
theorem c_nat_multiplied__nat_limbs_add__nil (x0:Nat) (x1:Nat) (A1:Option Addr) (c2:Nat) (A4:Option Addr) (c5:Nat) (w:World) (hT:TB w) (n3:RU w A1 c2 x0) (n6:RU w A4 c5 x1) (r:Nat × Int) (hr:CE x0 x1=some r) :
  Calls Tryz.prog 242 #[.slice A1 (sz x0) c2,.slice A4 (sz x1) c5,.agg #[.func (.func 253) #[] #[],.nilFunc]] w (Ret Ij w r):=by
 unfold CE at hr
 obtain ⟨q0,hq0,hr0⟩:=Ab hr
 unfold DH at hq0
 go_enter_defers Tryz.func242,Tryz.ntmps242
 refine wp_seq_k fun _ h7=>Ae<|Bu rfl rfl fun b8 w1 E9 g1e q1c=>?_
 refine nrm ?_
 refine sV (Ac rfl) ?_
 refine AA JM fun b2c w2 E1b g3c q4c=>?_
 refine nrm ?_
 have g5c:=nlt E9.size g3c
 have X2b:=xtr E9 E1b
 refine wh h7<|wp_seq_k fun _ h6c=>Ae<|Ic (vs:=[.pointer (some ⟨b2c,0,none⟩)]) (by rfl) (by rfl)<|wh h6c<|wp_seq_k fun _ h7c=>Ae<|sV2 (Aa rfl) (Aa rfl) ?_
 refine Cv (vals:=[(0,.slice A1 (sz x0) c2),(1,.slice A4 (sz x1) c5)]) (cs:=[.slice A1 (sz x0) c2,.slice A4 (sz x1) c5]) Kk LV OB (by rfl) (by decide) (by kernel_rfl) fun b3b w3 E3a g8c q4b=>?_
 refine nrm ?_
 have g2e:=nlt X2b.size g8c
 have X0a:=xtr X2b E3a
 rcases AR hq0 with ⟨r4a,h5a,f9c⟩ | ⟨r4a,h5a,rfl⟩
 ·refine scO (Ad Kj (by rfl)) (GH x0 x1 b3b A1 c2 A4 c5 w3 (tbx X0a hT) (n3.ext X0a) (n6.ext X0a) q4b (.ok r4a) h5a) ?_
  rintro _ w4 E1a rfl
  refine nrm ?_
  have X2a:=xtr X0a E1a
  refine wh h7c<|wp_seq_k fun _ h0d=>Ae<|sV (Ag (o':=0) Nq rfl rfl) ?_
  have q1d:=((q1c.ext E1b).ext E3a).ext E1a
  refine sV3 (Af Pe rfl (Bx.cell q1d rfl)) (Aa rfl) (Aa rfl) ?_
  obtain ⟨r6a,h2d,f3d⟩:=Ab f9c
  refine sc (Gx (first:=[]) (cap:=[]) (args:=[.slice A1 (sz x0) c2,.slice A4 (sz x1) c5]) en_253 (by rfl) (by rfl)) (Jk x0 x1 A1 c2 A4 c5 w4 (tbx X2a hT) (n3.ext X2a) (n6.ext X2a) r6a h2d) ?_
  rintro _ w5 E5b ⟨A6b,c7b,rfl,n8b⟩
  refine nrm ?_
  have X7a:=xtr X2a E5b
  rcases AR f3d with ⟨r8a,h9a,f4d⟩ | ⟨r8a,h9a,rfl⟩
  ·refine scO (Ad Ke (by rfl)) (FJ r6a A6b c7b w5 (tbx X7a hT) n8b (.ok r8a) h9a) ?_
   rintro _ w6 E0b ⟨A5d,c6d,rfl,n7d⟩
   refine nrm ?_
   have X8d:=xtr X7a E0b
   refine sV (Ac rfl) ?_
   have q9b:=(((q4c.ext E3a).ext E1a).ext E5b).ext E0b
   refine ss HU q9b fun w7 U0c q9d=>?_
   have X0e:=belU X8d U0c g5c
   refine wh h0d<|wp_ret ?_
   obtain rfl:=sj f4d
   obtain rfl:=sj hr0
   exact Ng Gj Mt rfl (Res.tmp rfl (Res.cell1 rfl Dy (Bx.cell q9d rfl) Res.nil)) (Aj X0e ⟨A5d,c6d,rfl,(n7d.upd U0c q9b (by decide))⟩)
  ·refine scP (Ad Ke (by rfl)) (FJ r6a A6b c7b w5 (tbx X7a hT) n8b (.error r8a) h9a) fun w6 E0b=>?_
   cases hr0
 ·refine scP (Ad Kj (by rfl)) (GH x0 x1 b3b A1 c2 A4 c5 w3 (tbx X0a hT) (n3.ext X0a) (n6.ext X0a) q4b (.error r4a) h5a) fun w4 E1a=>?_
  cases hr0
theorem c_nat_Add (x0:Nat) (x1:Nat) (A1:Option Addr) (c2:Nat) (A4:Option Addr) (c5:Nat) (w:World) (hT:TB w) (n3:RU w A1 c2 x0) (n6:RU w A4 c5 x1) (r:Nat × Int) (hr:Kn x0 x1=some r) :
  Calls Tryz.prog 221 #[.slice A1 (sz x0) c2,.slice A4 (sz x1) c5] w (Ret Ij w r):=by
 unfold Kn at hr
 go_enter Tryz.func221,Tryz.ntmps221
 refine wp_seq_k fun _ h7=>Ae<|sV2 (Ac rfl) (Ac rfl) ?_
 refine wh h7<|wp_seq_k fun _ h8=>Ae<|sV3 (Aa rfl) (Aa rfl) (Bb (vals:=[(0,.func (.func 253) #[] #[])]) (cells:=[.func (.func 253) #[] #[],.nilFunc]) (by rfl) (by kernel_rfl)) ?_
 obtain ⟨r9,h0a,f1a⟩:=Ab hr
 refine sc (Ad Pk (by rfl)) (c_nat_multiplied__nat_limbs_add__nil x0 x1 A1 c2 A4 c5 w hT n3 n6 r9 h0a) ?_
 rintro _ w1 E2a ⟨A3a,c4a,rfl,n5a⟩
 refine nrm ?_
 refine sV3 (Av rfl rfl) (Av rfl rfl) (Ac rfl) ?_
 refine sV (Ac rfl) ?_
 refine wh h8<|wp_ret ?_
 obtain rfl:=sj f1a
 exact fin rfl (Res.tmp rfl (Res.tmp rfl Res.nil)) (Aj E2a ⟨A3a,c4a,rfl,n5a⟩)
theorem JI (x0:Bool) (x1:Nat) (A1:Option Addr) (c2:Nat) (w:World) (hT:TB w) (n3:RU w A1 c2 x1) (r:Ah) (hr:Ez x0 x1=some r) :
  Calls Tryz.prog 217 #[.bool x0,.slice A1 (sz x1) c2] w (Ret Jm w r):=by
 unfold Ez at hr
 go_enter Tryz.func217,Tryz.ntmps217
 refine wp_seq_k fun _ h4=>Ae<|AA IJ fun b5 w1 E6 g7 q8=>?_
 refine nrm ?_
 refine wh h4<|wp_seq_k fun _ h9=>Ae<|sV2 (Aa rfl) (Aa rfl) ?_
 obtain ⟨m1a,h7a,f8a⟩:=Ab hr
 refine Bm 6 (fun l l' w'=>∃(t3a:Value) (t4a:Value) (t5a:Value),w1=w'∧l'=((((l.set 7 t3a).set 8 t4a).set 9 t5a).set 10 (.bool m1a))) ?_ ?_
 ·intro HJ23
  rcases zb h7a with ⟨e0a,f9a⟩ | ⟨e0a,f0b⟩
  ·refine sV (Aa rfl) ?_ (hw:=wgT rfl e0a)
   refine sV (Ax AH rfl) ?_ (hw:=wgT rfl e0a)
   refine sb (EX rfl rfl) ?_ (hw:=wgT rfl e0a)
   intro z2a hz2a
   refine nrm ?_
   refine sV (Ar (evb rfl e0a) rfl) ?_
   obtain rfl:z2a=decide (0<(sz x1:Int)):=bz hz2a
   obtain rfl:=sj f9a
   exact HJ23 _ _ ⟨(.slice A1 (sz x1) c2),(.int .i64 (sz x1:Int)),(.bool (decide (0<(sz x1:Int)))),rfl,(by simp only [S0,S1]<;>rfl)⟩
  ·refine sP ?_ (hw:=wgF rfl e0a)
   refine sP ?_ (hw:=wgF rfl e0a)
   refine sP ?_ (hw:=wgF rfl e0a)
   refine sV (Aw (evb rfl e0a) rfl) ?_
   obtain rfl:=sj f0b
   exact HJ23 _ _ ⟨uu,uu,uu,rfl,(by simp only [S0,S1]<;>rfl)⟩
 ·rintro l' _ ⟨t3a,t4a,t5a,rfl,hq'⟩ l'' hl
  rw [hq'] at hl
  clear hq'
  simp only [S0,S1] at hl
  subst hl
  refine sV2 (Aa rfl) (Bb (vals:=[(0,.bool m1a),(1,.slice A1 (sz x1) c2)]) (cells:=[.bool m1a,.slice A1 (sz x1) c2]) (by rfl) (by kernel_rfl)) ?_
  refine ss GU q8 fun w2 U1b q2b=>?_
  have F6a:=belU E6 U1b g7
  refine wh h9<|wp_ret ?_
  obtain rfl:=sj f8a
  exact fin rfl (Res.cellN rfl Dq q2b rfl rfl Res.nil) (Aj F6a ⟨A1,c2,rfl,(n3.ext F6a)⟩)
theorem Li (x0:Ah) (A1:Option Addr) (c2:Nat) (w:World) (hT:TB w) (n3:RU w A1 c2 x0.Abs) (r:Ah) (hr:Gp x0=some r) :
  Calls Tryz.prog 216 #[.agg #[.bool x0.Neg,.slice A1 (sz x0.Abs) c2]] w (Ret Jm w r):=by
 unfold Gp at hr
 go_enter Tryz.func216,Tryz.ntmps216
 refine wp_seq_k fun _ h4=>Ae<|Bu rfl rfl fun b5 w1 E6 g7 q8=>?_
 refine nrm ?_
 refine AA IJ fun b9 w2 E2a g0b q8a=>?_
 refine nrm ?_
 have g1b:=nlt E6.size g0b
 have X2b:=xtr E6 E2a
 refine wh h4<|wp_seq_k fun _ h3b=>Dn [6] 7 mo rfl fun w3 E0a S3a=>have X4a:=xtr X2b E0a;dA 0 rfl (fun _=>Ag (o':=0) DF rfl rfl) ?_
 refine dV 1 rfl (fun _ hw=>Af GC rfl (Bx.cell (((q8.ext E2a).ext E0a).ext hw) rfl)) S3a ?_
 refine dA 2 rfl (fun _=>Ag (o':=1) Bf rfl rfl) ?_
 refine dV 3 rfl (fun _ hw=>Af BJ rfl (Bx.cell (((q8.ext E2a).ext E0a).ext hw) rfl)) S3a ?_
 obtain ⟨r5a,h4b,f5b⟩:=Ab hr
 refine dc 4 rfl (by kernel_rfl) (by rfl) (Ad Ql (by rfl)) (Iq x0.Abs A1 c2 w3 (tbx X4a hT) (n3.ext X4a) r5a h4b) ?_
 rintro _ w4 E1a ⟨A6a,c7a,rfl,n6b⟩
 refine dnrm ?_
 have X7b:=xtr X4a E1a
 have S1c:=S3a.trans E1a
 refine dA 5 rfl (fun _=>Bb (vals:=[(0,.bool x0.Neg),(1,.slice A6a (sz r5a) c7a)]) (cells:=[.bool x0.Neg,.slice A6a (sz r5a) c7a]) (by rfl) (by kernel_rfl)) ?_
 refine dkk 6 GU ((q8a.ext E0a).ext E1a) fun w5 U9a q8b=>?_
 have X9b:=belU X7b U9a g1b
 refine Cn (by kernel_rfl) ?_
 refine h3b _ _<|wp_ret ?_
 have n0c:=n6b.upd U9a ((q8a.ext E0a).ext E1a) (by decide)
 obtain rfl:=sj f5b
 exact fin rfl (Res.cellN rfl Dq q8b rfl rfl Res.nil) (Aj X9b ⟨A6a,c7a,rfl,n0c⟩)
theorem HR (x0:Int) (x1:Ah) (bp0:Nat) (bp1:Nat) (A2:Option Addr) (c3:Nat) (w:World) (hT:TB w) (q1:Bx w bp0 3 [.int .i64 x0]) (n4:RU w A2 c3 x1.Abs) (q5:Bx w bp1 25 [.bool x1.Neg,.slice A2 (sz x1.Abs) c3]) (r:Except Int (Ah)) (hr:DS x0 x1=some r) :
  Calls Tryz.prog 215 #[.pointer (some ⟨bp0,0,none⟩),.pointer (some ⟨bp1,0,none⟩)] w (RetE 274 Jm w r):=by
 unfold DS at hr
 go_enter Tryz.func215,Tryz.ntmps215
 refine wp_seq_k fun _ h6=>Ae<|AA IJ fun b7 w1 E8 g9 q0a=>?_
 refine nrm ?_
 refine wh h6<|wp_seq_k fun _ h6d=>wp_seq_k fun _ h7d=>Ae<|sV (Af EN rfl (Bx.cell (q1.ext E8) rfl)) ?_
 refine sb (Fu rfl rfl) fun z8d hz8d=>?_
 refine nrm ?_
 refine wh h7d ?_
 rcases zi hz8d hr with ⟨e3c,_,f2i⟩ | ⟨e3c,_,f3i⟩
 ·refine wp_cond_true (Ai (evb rfl e3c))<|wp_seq_k fun _ h4i=>Dn [11] 12 mo rfl fun w2 E1a S8a=>have X4c:=xtr E8 E1a;dA 0 rfl (fun _=>Ag (o':=0) DF rfl rfl) ?_
  refine dV 1 rfl (fun _ hw=>Af GC rfl (Bx.cell (((q5.ext E8).ext E1a).ext hw) rfl)) S8a ?_
  refine dA 2 rfl (fun _=>Ag (o':=1) Bf rfl rfl) ?_
  refine dV 3 rfl (fun _ hw=>Af BJ rfl (Bx.cell (((q5.ext E8).ext E1a).ext hw) rfl)) S8a ?_
  refine dV 4 rfl (fun _ hw=>Af EN rfl (Bx.cell (((q1.ext E8).ext E1a).ext hw) rfl)) S8a ?_
  obtain ⟨r2a,h5i,f6i⟩:=Ab f2i
  refine dc 5 rfl (by kernel_rfl) (by rfl) (Ad en_158 (by rfl)) (c_nat_Shl x1.Abs x0 A2 c3 w2 (tbx X4c hT) (n4.ext X4c) r2a h5i) ?_
  rintro _ w3 E5c ⟨A9d,c0e,rfl,n1e⟩
  refine dnrm ?_
  have X9a:=xtr X4c E5c
  have S7i:=S8a.trans E5c
  refine dA 6 rfl (fun _=>Av rfl rfl) ?_
  refine dA 7 rfl (fun _=>Av rfl rfl) ?_
  rcases AR f6i with ⟨r0b,h6c,f8i⟩ | ⟨r0b,h6c,rfl⟩
  ·refine dcO 8 rfl (by kernel_rfl) (by rfl) (Ad Kf (by rfl)) (EY r2a.1 r2a.2 A9d c0e w3 (tbx X9a hT) n1e (.ok r0b) h6c) ?_
   rintro _ w4 E3a ⟨A9i,c0j,rfl,n1j⟩
   refine dnrm ?_
   have X2e:=xtr X9a E3a
   have S2j:=S7i.trans E3a
   obtain ⟨r3e,h3j,f4j⟩:=Ab f8i
   refine dc 9 rfl (by kernel_rfl) (by rfl) (Ad Pr (by rfl)) (JI x1.Neg r0b A9i c0j w4 (tbx X2e hT) n1j r3e h3j) ?_
   rintro _ w5 E7c ⟨A5j,c6j,rfl,n7j⟩
   refine dnrm ?_
   have X4e:=xtr X2e E7c
   have S8j:=S2j.trans E7c
   obtain ⟨r9j,h0k,f1k⟩:=Ab f4j
   refine dc 10 rfl (by kernel_rfl) (by rfl) (Ad OT (by rfl)) (Li r3e A5j c6j w5 (tbx X4e hT) n7j r9j h0k) ?_
   rintro _ w6 E8c ⟨A2k,c3k,rfl,n4k⟩
   refine dnrm ?_
   have X5k:=xtr X4e E8c
   have S1s:=S8j.trans E8c
   have q5e:=((((q0a.ext E1a).ext E5c).ext E3a).ext E7c).ext E8c
   refine dkk 11 GU q5e fun w7 U6e q6k=>?_
   have X7k:=belU X5k U6e g9
   refine Cn (by kernel_rfl) ?_
   refine h4i _ _<|wp_ret ?_
   obtain rfl:=sj f1k
   exact fin rfl (Res.cellN rfl Dq q6k rfl rfl Res.nil) (EK X7k ⟨A2k,c3k,rfl,(n4k.upd U6e q5e (by decide))⟩)
  ·refine dcP 8 rfl (by kernel_rfl) (by rfl) (Ad Kf (by rfl)) (EY r2a.1 r2a.2 A9d c0e w3 (tbx X9a hT) n1e (.error r0b) h6c) fun w4 E3a=>?_
   have X8k:=xtr X9a E3a
   exact ⟨rfl,Cw X8k⟩
 ·refine wp_cond_false (Ai (evb rfl e3c))<|wp_skip<|h6d _ _<|wp_seq_k fun _ h9k=>Ae<|sV3 (Af EN rfl (Bx.cell (q1.ext E8) rfl)) (Nm rfl rfl) (PK (c:=wi64 (-(max x0 (-33792)))) rfl rfl) ?_
  refine sV (Ac rfl) ?_
  refine wh h9k<|wp_seq_k fun _ h0l=>wp_seq_k fun _ h1l=>Ae<|sV2 (Ag (o':=0) DF rfl rfl) (Af GC rfl (Bx.cell (q5.ext E8) rfl)) ?_
  refine sb (Fv rfl) fun z7e hz7e=>?_
  refine nrm ?_
  refine wh h1l ?_
  rcases zi hz7e f3i with ⟨e9c,_,f2l⟩ | ⟨e9c,_,f3l⟩
  ·refine wp_cond_true (Ai (evb rfl e9c))<|wp_seq_k fun _ h4l=>Ae<|sV3 (Ag (o':=1) Bf rfl rfl) (Af BJ rfl (Bx.cell (q5.ext E8) rfl)) (Aa rfl) ?_
   obtain ⟨r4a,h5l,f6l⟩:=Ab f2l
   refine sc (Ad PU (by rfl)) (ND x1.Abs (wi64 (-(max x0 (-33792)))) A2 c3 w1 (tbx E8 hT) (n4.ext E8) r4a h5l) ?_
   rintro _ w2 E8e ⟨A9e,c0f,rfl,n1f⟩
   refine nrm ?_
   have X1b:=xtr E8 E8e
   refine sV2 (Av rfl rfl) (Av rfl rfl) ?_
   rcases AR f6l with ⟨r2b,h0d,f7l⟩ | ⟨r2b,h0d,rfl⟩
   ·refine scO (Ad Kf (by rfl)) (EY r4a.1 r4a.2 A9e c0f w2 (tbx X1b hT) n1f (.ok r2b) h0d) ?_
    rintro _ w3 E3b ⟨A8l,c9l,rfl,n0m⟩
    refine nrm ?_
    have X2f:=xtr X1b E3b
    obtain ⟨r3f,h1m,f2m⟩:=Ab f7l
    refine sc (Ad Pr (by rfl)) (JI false r2b A8l c9l w3 (tbx X2f hT) n0m r3f h1m) ?_
    rintro _ w4 E4f ⟨A3m,c4m,rfl,n5m⟩
    refine nrm ?_
    have X5f:=xtr X2f E4f
    obtain ⟨r6m,h7m,f8m⟩:=Ab f2m
    refine sc (Ad OT (by rfl)) (Li r3f A3m c4m w4 (tbx X5f hT) n5m r6m h7m) ?_
    rintro _ w5 E6f ⟨A9m,c0n,rfl,n1n⟩
    refine nrm ?_
    have X2n:=xtr X5f E6f
    have q7f:=(((q0a.ext E8e).ext E3b).ext E4f).ext E6f
    refine ss GU q7f fun w6 U8f q3n=>?_
    have X4n:=belU X2n U8f g9
    refine wh h4l<|wp_ret ?_
    obtain rfl:=sj f8m
    exact fin rfl (Res.cellN rfl Dq q3n rfl rfl Res.nil) (EK X4n ⟨A9m,c0n,rfl,(n1n.upd U8f q7f (by decide))⟩)
   ·refine scP (Ad Kf (by rfl)) (EY r4a.1 r4a.2 A9e c0f w2 (tbx X1b hT) n1f (.error r2b) h0d) fun w3 E3b=>?_
    have X5n:=xtr X1b E3b
    exact ⟨rfl,Cw X5n⟩
  ·refine wp_cond_false (Ai (evb rfl e9c))<|wp_skip<|h0l _ _<|wp_seq_k fun _ h6n=>Ae<|sV2 (Ag (o':=1) Bf rfl rfl) (Af BJ rfl (Bx.cell (q5.ext E8) rfl)) ?_
   refine Cv (vals:=[(0,.int .u32 1)]) (cs:=[.int .u32 1]) AH An Ge (by rfl) (by decide) (by kernel_rfl) fun b7n w2 E9f g8n q9n=>?_
   refine nrm ?_
   have g2s:=nlt E8.size g8n
   have X1d:=xtr E8 E9f
   have n0o:=RL.lit1 q9n (by decide)
   obtain ⟨r5a,h1o,f2o⟩:=Ab f3l
   refine sc (Ad en_220 (by rfl)) (c_nat_Sub x1.Abs 1 A2 c3 (some ⟨b7n,0,none⟩) 1 w2 (tbx X1d hT) (n4.ext X1d) n0o r5a h1o) ?_
   rintro _ w3 E0g ⟨A1g,c2g,rfl,n3g⟩
   refine nrm ?_
   have X4b:=xtr X1d E0g
   refine sV2 (Av rfl rfl) (Av rfl rfl) ?_
   rcases AR f2o with ⟨r5b,h2d,f3o⟩ | ⟨r5b,h2d,rfl⟩
   ·refine scO (Ad Kf (by rfl)) (EY r5a.1 r5a.2 A1g c2g w3 (tbx X4b hT) n3g (.ok r5b) h2d) ?_
    rintro _ w4 E6b ⟨A4o,c5o,rfl,n6o⟩
    refine nrm ?_
    have X4g:=xtr X4b E6b
    refine sV (Aa rfl) ?_
    obtain ⟨r6a,h7o,f8o⟩:=Ab f3o
    refine sc (Ad PU (by rfl)) (ND r5b (wi64 (-(max x0 (-33792)))) A4o c5o w4 (tbx X4g hT) n6o r6a h7o) ?_
    rintro _ w5 E5g ⟨A6g,c7g,rfl,n8g⟩
    refine nrm ?_
    have X7b:=xtr X4g E5g
    refine sV2 (Av rfl rfl) (Av rfl rfl) ?_
    rcases AR f8o with ⟨r8b,h3d,f9o⟩ | ⟨r8b,h3d,rfl⟩
    ·refine scO (Ad Kf (by rfl)) (EY r6a.1 r6a.2 A6g c7g w5 (tbx X7b hT) n8g (.ok r8b) h3d) ?_
     rintro _ w6 E9b ⟨A0p,c1p,rfl,n2p⟩
     refine nrm ?_
     have X9g:=xtr X7b E9b
     refine sV (Ac rfl) ?_
     refine wh h6n<|wp_seq_k fun _ h3p=>Ae<|sV (Aa rfl) ?_
     refine Cv (vals:=[(0,.int .u32 1)]) (cs:=[.int .u32 1]) AH An Ge (by rfl) (by decide) (by kernel_rfl) fun b4p w7 E4d g5p q6p=>?_
     refine nrm ?_
     have g3s:=nlt X9g.size g5p
     have X0h:=xtr X9g E4d
     have n7p:=RL.lit1 q6p (by decide)
     obtain ⟨r7a,h8p,f9p⟩:=Ab f9o
     refine sc (Ad en_221 (by rfl)) (c_nat_Add r8b 1 A0p c1p (some ⟨b4p,0,none⟩) 1 w7 (tbx X0h hT) (n2p.ext E4d) n7p r7a h8p) ?_
     rintro _ w8 E1h ⟨A2h,c3h,rfl,n4h⟩
     refine nrm ?_
     have X0c:=xtr X0h E1h
     refine sV2 (Av rfl rfl) (Av rfl rfl) ?_
     rcases AR f9p with ⟨r1c,h5d,f0q⟩ | ⟨r1c,h5d,rfl⟩
     ·refine scO (Ad Kf (by rfl)) (EY r7a.1 r7a.2 A2h c3h w8 (tbx X0c hT) n4h (.ok r1c) h5d) ?_
      rintro _ w9 E2c ⟨A1q,c2q,rfl,n3q⟩
      refine nrm ?_
      have X5h:=xtr X0c E2c
      obtain ⟨r6h,h4q,f5q⟩:=Ab f0q
      refine sc (Ad Pr (by rfl)) (JI true r1c A1q c2q w9 (tbx X5h hT) n3q r6h h4q) ?_
      rintro _ w0a E7h ⟨A6q,c7q,rfl,n8q⟩
      refine nrm ?_
      have X8h:=xtr X5h E7h
      obtain ⟨r9q,h0r,f1r⟩:=Ab f5q
      refine sc (Ad OT (by rfl)) (Li r6h A6q c7q w0a (tbx X8h hT) n8q r9q h0r) ?_
      rintro _ w6d E9h ⟨A2r,c3r,rfl,n4r⟩
      refine nrm ?_
      have X5r:=xtr X8h E9h
      have q0i:=(((((((((q0a.ext E9f).ext E0g).ext E6b).ext E5g).ext E9b).ext E4d).ext E1h).ext E2c).ext E7h).ext E9h
      refine ss GU q0i fun w7d U1i q6r=>?_
      have X7r:=belU X5r U1i g9
      refine wh h3p<|wp_ret ?_
      obtain rfl:=sj f1r
      exact fin rfl (Res.cellN rfl Dq q6r rfl rfl Res.nil) (EK X7r ⟨A2r,c3r,rfl,(n4r.upd U1i q0i (by decide))⟩)
     ·refine scP (Ad Kf (by rfl)) (EY r7a.1 r7a.2 A2h c3h w8 (tbx X0c hT) n4h (.error r1c) h5d) fun w9 E2c=>?_
      have X8r:=xtr X0c E2c
      exact ⟨rfl,Cw X8r⟩
    ·refine scP (Ad Kf (by rfl)) (EY r6a.1 r6a.2 A6g c7g w5 (tbx X7b hT) n8g (.error r8b) h3d) fun w6 E9b=>?_
     have X9r:=xtr X7b E9b
     exact ⟨rfl,Cw X9r⟩
   ·refine scP (Ad Kf (by rfl)) (EY r5a.1 r5a.2 A1g c2g w3 (tbx X4b hT) n3g (.error r5b) h2d) fun w4 E6b=>?_
    have X0s:=xtr X4b E6b
    exact ⟨rfl,Cw X0s⟩
theorem c_whole_compute__whole_Shift_1__1 (x0_0:Int) (x0_1:Ah) (x1_0:Ah) (bp0_0:Nat) (bp0_1:Nat) (A2:Option Addr) (c3:Nat) (bp1:Nat) (A6:Option Addr) (c7:Nat) (w:World) (hT:TB w) (q1:Bx w bp0_0 3 [.int .i64 x0_0]) (n4:RU w A2 c3 x0_1.Abs) (q5:Bx w bp0_1 25 [.bool x0_1.Neg,.slice A2 (sz x0_1.Abs) c3]) (n8:RU w A6 c7 x1_0.Abs) (q9:Bx w bp1 25 [.bool x1_0.Neg,.slice A6 (sz x1_0.Abs) c7]) (r:Ah × Int) (hr:Cg x0_0 x0_1 x1_0=some r) :
  Calls Tryz.prog 214 #[.func (.func 215) #[] #[.pointer (some ⟨bp0_0,0,none⟩),.pointer (some ⟨bp0_1,0,none⟩)],.slice (some ⟨bp1,0,none⟩) 1 1] w (Ret MA w r):=by
 unfold Cg at hr
 obtain ⟨q0,hq0,hr0⟩:=Ab hr
 unfold CV at hq0
 go_enter_defers Tryz.func214,Tryz.ntmps214
 refine wp_seq_k fun _ h6b=>Ae<|AA IJ fun b5d w1 E1a g7b q8b=>?_
 refine nrm ?_
 refine AA JM fun b9b w2 E2a g0c q3b=>?_
 refine nrm ?_
 have g1c:=nlt E1a.size g0c
 have X3a:=xtr E1a E2a
 refine wh h6b<|wp_seq_k fun _ h2c=>Ae<|Ic (vs:=[.pointer (some ⟨b9b,0,none⟩)]) (by rfl) (by rfl)<|wh h2c<|wp_seq_k fun _ h3c=>Ae<|sV (Aa rfl) ?_
 rcases AR hq0 with ⟨r6a,h7a,f4c⟩ | ⟨r6a,h7a,rfl⟩
 ·refine scO (Ad QG (by rfl)) (KM x1_0 bp1 A6 c7 w2 (tbx X3a hT) (n8.ext X3a) ((q9.ext E1a).ext E2a) (.ok r6a) h7a) ?_
  rintro _ w3 E0a rfl
  refine nrm ?_
  have X4a:=xtr X3a E0a
  refine wh h3c<|wp_seq_k fun _ h5c=>Ae<|sV (Aa rfl) ?_
  rcases AR f4c with ⟨r8a,h9a,f32⟩ | ⟨r8a,h9a,rfl⟩
  ·refine scO (Gx (first:=[]) (cap:=[.pointer (some ⟨bp0_0,0,none⟩),.pointer (some ⟨bp0_1,0,none⟩)]) (args:=[]) QN (by rfl) (by rfl)) (HR x0_0 x0_1 bp0_0 bp0_1 A2 c3 w3 (tbx X4a hT) (((q1.ext E1a).ext E2a).ext E0a) (n4.ext X4a) (((q5.ext E1a).ext E2a).ext E0a) (.ok r8a) h9a) ?_
   rintro _ w4 E5a ⟨A6c,c7c,rfl,n8c⟩
   refine nrm ?_
   have X9c:=xtr X4a E5a
   have q0b:=((q8b.ext E2a).ext E0a).ext E5a
   refine ss GU q0b fun w5 U1b q0d=>?_
   have X1d:=belU X9c U1b g7b
   have ne4b:=(Bx.neT ((q3b.ext E0a).ext E5a) q0b (by decide))
   have q5b:=((q3b.ext E0a).ext E5a).upd U1b ne4b
   refine ss HU q5b fun w6 U2b q2d=>?_
   have X3d:=belU X1d U2b g1c
   refine wh h5c<|wp_ret ?_
   have n4d:=(n8c.upd U1b q0b (by decide)).upd U2b q5b (by decide)
   obtain rfl:=sj f32
   obtain rfl:=sj hr0
   exact Ng idle_whole_caught en_246 rfl (Res.cellN rfl Dq (q0d.upd U2b (Ne.symm ne4b)) rfl rfl (Res.cell1 rfl Dy (Bx.cell q2d rfl) Res.nil)) (Aj X3d ⟨A6c,c7c,rfl,n4d⟩)
  ·refine scP (Gx (first:=[]) (cap:=[.pointer (some ⟨bp0_0,0,none⟩),.pointer (some ⟨bp0_1,0,none⟩)]) (args:=[]) QN (by rfl) (by rfl)) (HR x0_0 x0_1 bp0_0 bp0_1 A2 c3 w3 (tbx X4a hT) (((q1.ext E1a).ext E2a).ext E0a) (n4.ext X4a) (((q5.ext E1a).ext E2a).ext E0a) (.error r8a) h9a) fun w4 E5a=>?_
   cases hr0
 ·refine scP (Ad QG (by rfl)) (KM x1_0 bp1 A6 c7 w2 (tbx X3a hT) (n8.ext X3a) ((q9.ext E1a).ext E2a) (.error r6a) h7a) fun w3 E0a=>?_
  cases hr0
theorem c_whole_Shift (x0:Ah) (x1:Int) (A1:Option Addr) (c2:Nat) (w:World) (hT:TB w) (n3:RU w A1 c2 x0.Abs) (r:Ah × Int) (hr:Fa x0 x1=some r) :
  Calls Tryz.prog 156 #[.agg #[.bool x0.Neg,.slice A1 (sz x0.Abs) c2],.int .i64 x1] w (Ret MA w r):=by
 unfold Fa at hr
 go_enter Tryz.func156,Tryz.ntmps156
 refine wp_seq_k fun _ h4=>Ae<|Bu rfl rfl fun b5 w1 E6 g7 q8=>?_
 refine nrm ?_
 refine Bu rfl rfl fun b9 w2 E3a g9a q0b=>?_
 refine nrm ?_
 have g7c:=nlt E6.size g9a
 have X5a:=xtr E6 E3a
 refine AA IJ fun b8c w3 E1a g1b q6a=>?_
 refine nrm ?_
 have g2b:=nlt X5a.size g1b
 have X7a:=xtr X5a E1a
 refine sV (Ac rfl) ?_
 refine wh h4<|wp_seq_k fun _ h3b=>Ae<|sV2 (LM (vs:=[.pointer (some ⟨b9,0,none⟩),.pointer (some ⟨b5,0,none⟩)]) rfl) (Al Dq rfl ((q8.ext E3a).ext E1a) rfl) ?_
 refine Cv (vals:=[(0,.agg #[.bool x0.Neg,.slice A1 (sz x0.Abs) c2])]) (cs:=[.bool x0.Neg,.slice A1 (sz x0.Abs) c2]) OJ GU IJ (by rfl) (by decide) (by kernel_rfl) fun b4b w4 E0a g5b q6b=>?_
 refine nrm ?_
 have g9c:=nlt X7a.size g5b
 have X2a:=xtr X7a E0a
 obtain ⟨r7b,h8b,f9b⟩:=Ab hr
 refine sc (Ad en_214 (by rfl)) (c_whole_compute__whole_Shift_1__1 x1 x0 x0 b9 b5 A1 c2 b4b A1 c2 w4 (tbx X2a hT) ((q0b.ext E1a).ext E0a) (n3.ext X2a) (((q8.ext E3a).ext E1a).ext E0a) (n3.ext X2a) q6b r7b h8b) ?_
 rintro _ w5 E4a ⟨A0c,c1c,rfl,n2c⟩
 refine nrm ?_
 have X3c:=xtr X2a E4a
 refine sV2 (Av rfl rfl) (Av rfl rfl) ?_
 refine ss GU ((q6a.ext E0a).ext E4a) fun w6 U8a q4c=>?_
 have X5c:=belU X3c U8a g2b
 refine sV (Ac rfl) ?_
 refine wh h3b<|wp_ret ?_
 have n6c:=n2c.upd U8a ((q6a.ext E0a).ext E4a) (by decide)
 obtain rfl:=sj f9b
 exact fin rfl (Res.cellN rfl Dq q4c rfl rfl (Res.tmp rfl Res.nil)) (Aj X5c ⟨A0c,c1c,rfl,n6c⟩)
theorem c_sorobanref03_Whole (x0:Ah) (A1:Option Addr) (c2:Nat) (w:World) (hT:TB w) (n3:RU w A1 c2 x0.Abs) (r:Cz) (hr:Hy x0=some r) :
  Calls Tryz.prog 159 #[.agg #[.bool x0.Neg,.slice A1 (sz x0.Abs) c2]] w (Ret OL w r):=by
 unfold Hy at hr
 go_enter Tryz.func159,Tryz.ntmps159
 refine wp_seq_k fun _ h4=>Ae<|Bu rfl rfl fun b5 w1 E6 g7 q8=>?_
 refine nrm ?_
 refine AA Qo fun b9 w2 E5a g1b q6a=>?_
 refine nrm ?_
 have g2b:=nlt E6.size g1b
 have X3b:=xtr E6 E5a
 refine wh h4<|wp_seq_k fun _ h4b=>Dn [3] 4 mo rfl fun w3 E0a S7a=>have X8a:=xtr X3b E0a;dV 0 rfl (fun _ hw=>Al Dq rfl (((q8.ext E5a).ext E0a).ext hw) rfl) S7a ?_
 obtain ⟨r2a,h5b,f6b⟩:=Ab hr
 refine dc 1 rfl (by kernel_rfl) (by rfl) (Ad Nl (by rfl)) (FS w3 (tbx X8a hT)  r2a h5b) ?_
 rintro _ w4 E1a ⟨A3a,c4a,rfl,n7b⟩
 refine dnrm ?_
 have X8b:=xtr X8a E1a
 have S1c:=S7a.trans E1a
 refine dA 2 rfl (fun _=>Bb (vals:=[(0,.agg #[.bool x0.Neg,.slice A1 (sz x0.Abs) c2]),(1,.slice A3a (sz r2a) c4a)]) (cells:=[.bool x0.Neg,.slice A1 (sz x0.Abs) c2,.slice A3a (sz r2a) c4a]) (by rfl) (by kernel_rfl)) ?_
 refine dkk 3 Ol ((q6a.ext E0a).ext E1a) fun w5 U9a q9b=>?_
 have X0b:=belU X8b U9a g2b
 refine Cn (by kernel_rfl) ?_
 refine h4b _ _<|wp_ret ?_
 have n0c:=n7b.upd U9a ((q6a.ext E0a).ext E1a) (by decide)
 obtain rfl:=sj f6b
 exact fin rfl (Res.cellN rfl Kl q9b rfl rfl Res.nil) (Aj X0b ⟨A1,c2,A3a,c4a,rfl,(n3.ext X0b),n0c⟩)
theorem IZ (x0:Ak) (A1:Option Addr) (c2:Nat) (w:World) (hT:TB w) (n3:RU w A1 c2 x0.Man.Abs) (r:Cz) (hr:Eg x0=some r) :
  Calls Tryz.prog 67 #[.agg #[.bool x0.Man.Neg,.slice A1 (sz x0.Man.Abs) c2,.int .i64 x0.Exp]] w (Ret OL w r):=by
 unfold Eg at hr
 go_enter Tryz.func67,Tryz.ntmps67
 refine wp_seq_k fun _ h4=>Ae<|Bu rfl rfl fun b5 w1 E6 g7 q8=>?_
 refine nrm ?_
 refine AA Qo fun b9 w2 E0a g9c q0c=>?_
 refine nrm ?_
 have g1c:=nlt E6.size g9c
 have X2c:=xtr E6 E0a
 refine wh h4<|wp_seq_k fun _ h0d=>wp_seq_k fun _ h1d=>Ae<|sV2 (Ag (o':=2) EZ rfl rfl) (Af EN rfl (Bx.cell (q8.ext E0a) rfl)) ?_
 refine sb (Fu rfl rfl) fun z3c hz3c=>?_
 refine nrm ?_
 refine wh h1d ?_
 rcases zi hz3c hr with ⟨e5a,_,f2d⟩ | ⟨e5a,_,f3d⟩
 ·refine wp_cond_true (Ai (evb rfl e5a))<|wp_seq_k fun _ h4d=>Dn [11] 12 mo rfl fun w3 E1a S2a=>have X6a:=xtr X2c E1a;dA 0 rfl (fun _=>Ag (o':=0) Ey rfl rfl) ?_
  refine dA 1 rfl (fun _=>Ag (o':=0) DF rfl rfl) ?_
  refine dV 2 rfl (fun _ hw=>Af GC rfl (Bx.cell (((q8.ext E0a).ext E1a).ext hw) rfl)) S2a ?_
  refine dA 3 rfl (fun _=>Ag (o':=0) Ey rfl rfl) ?_
  refine dA 4 rfl (fun _=>Ag (o':=1) Bf rfl rfl) ?_
  refine dV 5 rfl (fun _ hw=>Af BJ rfl (Bx.cell (((q8.ext E0a).ext E1a).ext hw) rfl)) S2a ?_
  refine dA 6 rfl (fun _=>Ag (o':=2) EZ rfl rfl) ?_
  refine dV 7 rfl (fun _ hw=>Af EN rfl (Bx.cell (((q8.ext E0a).ext E1a).ext hw) rfl)) S2a ?_
  obtain ⟨r3a,h5d,f6d⟩:=Ab f2d
  refine dc 8 rfl (by kernel_rfl) (by rfl) (Ad Mz (by rfl)) (FQ x0.Man.Abs x0.Exp A1 c2 w3 (tbx X6a hT) (n3.ext X6a) r3a h5d) ?_
  rintro _ w4 E7a ⟨A8a,c9a,rfl,n7d⟩
  refine dnrm ?_
  have X4c:=xtr X6a E7a
  have S8d:=S2a.trans E7a
  refine dA 9 rfl (fun _=>Bb (vals:=[(0,.bool x0.Man.Neg),(1,.slice A8a (sz r3a) c9a)]) (cells:=[.bool x0.Man.Neg,.slice A8a (sz r3a) c9a]) (by rfl) (by kernel_rfl)) ?_
  obtain ⟨r9d,h0e,f1e⟩:=Ab f6d
  refine dc 10 rfl (by kernel_rfl) (by rfl) (Ad en_159 (by rfl)) (c_sorobanref03_Whole (⟨x0.Man.Neg,r3a⟩:Ah) A8a c9a w4 (tbx X4c hT) n7d r9d h0e) ?_
  rintro _ w5 E0b ⟨A2e,c3e,A4e,c5e,rfl,n6e,n7e⟩
  refine dnrm ?_
  have X8e:=xtr X4c E0b
  have S6h:=S8d.trans E0b
  have q1b:=((q0c.ext E1a).ext E7a).ext E0b
  refine dkk 11 Ol q1b fun w6 U2b q9e=>?_
  have X0f:=belU X8e U2b g1c
  refine Cn (by kernel_rfl) ?_
  refine h4d _ _<|wp_ret ?_
  obtain rfl:=sj f1e
  exact fin rfl (Res.cellN rfl Kl q9e rfl rfl Res.nil) (Aj X0f ⟨A2e,c3e,A4e,c5e,rfl,(n6e.upd U2b q1b (by decide)),(n7e.upd U2b q1b (by decide))⟩)
 ·refine wp_cond_false (Ai (evb rfl e5a))<|wp_skip<|h0d _ _<|wp_seq_k fun _ h1f=>Dn [8] 9 mo rfl fun w3 E4a S3b=>have X5c:=xtr X2c E4a;dA 0 rfl (fun _=>Ag (o':=0) Ey rfl rfl) ?_
  refine dV 1 rfl (fun _ hw=>AL Dq rfl (((q8.ext E0a).ext E4a).ext hw) (by simp only [List.drop_zero,List.take_succ_cons,List.take_zero];rfl) rfl) S3b ?_
  refine dA 3 rfl (fun _=>Ag (o':=2) EZ rfl rfl) ?_
  refine dV 4 rfl (fun _ hw=>Af EN rfl (Bx.cell (((q8.ext E0a).ext E4a).ext hw) rfl)) S3b ?_
  refine dA 5 rfl (fun _=>Ba (c:=wi64 (0 - x0.Exp)) rfl rfl rfl) ?_
  obtain ⟨r6c,h2f,f3f⟩:=Ab f3d
  refine dc 2 rfl (by kernel_rfl) (by rfl) (Ad Nl (by rfl)) (FS w3 (tbx X5c hT)  r6c h2f) ?_
  rintro _ w4 E4b ⟨A4f,c5f,rfl,n6f⟩
  refine dnrm ?_
  have X7c:=xtr X5c E4b
  have S7f:=S3b.trans E4b
  obtain ⟨r8c,h8f,f9f⟩:=Ab f3f
  refine dc 6 rfl (by kernel_rfl) (by rfl) (Ad Mz (by rfl)) (FQ r6c (wi64 (0 - x0.Exp)) A4f c5f w4 (tbx X7c hT) n6f r8c h8f) ?_
  rintro _ w5 E5b ⟨A0g,c1g,rfl,n2g⟩
  refine dnrm ?_
  have X6b:=xtr X7c E5b
  have S3g:=S7f.trans E5b
  obtain ⟨r4g,h5g,f6g⟩:=Ab f9f
  refine dc 7 rfl (by kernel_rfl) (by rfl) (Ad en_160 (by rfl)) (c_sorobanref03_Of x0.Man r8c A1 c2 A0g c1g w5 (tbx X6b hT) (n3.ext X6b) n2g r4g h5g) ?_
  rintro _ w6 E7b ⟨A7g,c8g,A9g,c0h,rfl,n1h,n2h⟩
  refine dnrm ?_
  have X3h:=xtr X6b E7b
  have S7h:=S3g.trans E7b
  have q8b:=(((q0c.ext E4a).ext E4b).ext E5b).ext E7b
  refine dkk 8 Ol q8b fun w7 U9b q4h=>?_
  have X5h:=belU X3h U9b g1c
  refine Cn (by kernel_rfl) ?_
  refine h1f _ _<|wp_ret ?_
  obtain rfl:=sj f6g
  exact fin rfl (Res.cellN rfl Kl q4h rfl rfl Res.nil) (Aj X5h ⟨A7g,c8g,A9g,c0h,rfl,(n1h.upd U9b q8b (by decide)),(n2h.upd U9b q8b (by decide))⟩)
theorem c_sorobanlaw04_lightRat (x0:FV) (A1:Option Addr) (c2:Nat) (A4:Option Addr) (c5:Nat) (w:World) (hT:TB w) (n3:RLu w A1 c2 x0.Num.Abs) (n6:RLu w A4 c5 x0.Den) (r:Bool) (hr:Er x0=some r) :
  Calls Tryz.prog 53 #[.agg #[.bool x0.Num.Neg,.slice A1 x0.Num.Abs.length c2,.slice A4 x0.Den.length c5]] w (Ret Gq w r):=by
 unfold Er at hr
 go_enter Tryz.func53,Tryz.ntmps53
 refine wp_seq_k fun _ h7=>Ae<|Bu rfl rfl fun b8 w1 E9 g4b q2a=>?_
 refine nrm ?_
 refine sV (Ac rfl) ?_
 refine wh h7<|wp_seq_k fun _ h8a=>Ae<|sV3 (Ag (o':=0) IE rfl rfl) (Ag (o':=1) Bf rfl rfl) (Af BJ rfl (Bx.cell q2a rfl)) ?_
 refine sV (Ax AH rfl) ?_
 refine sb (Ie rfl rfl) fun z3a hz3a=>?_
 refine nrm ?_
 refine sV (Aa rfl) ?_
 obtain ⟨m9a,h0b,f1b⟩:=Ab hr
 refine Bm 11 (fun l l' w'=>∃(t4a:Value) (t5a:Value) (t6a:Value) (t7a:Value),w1=w'∧l'=(((((l.set 9 t4a).set 10 t5a).set 11 t6a).set 12 t7a).set 13 (.bool m9a))) ?_ ?_
 ·intro HJ28
  rcases zi hz3a h0b with ⟨e0a,_,f2b⟩ | ⟨e0a,_,f3b⟩
  ·refine sV (Ag (o':=2) HV rfl rfl) ?_ (hw:=wgT rfl e0a)
   refine sV (Af BJ rfl (Bx.cell q2a rfl)) ?_ (hw:=wgT rfl e0a)
   refine sV (Ax AH rfl) ?_ (hw:=wgT rfl e0a)
   refine sb (Ie rfl rfl) ?_ (hw:=wgT rfl e0a)
   intro z1a hz1a
   refine nrm ?_
   refine sV (Ar (evb rfl e0a) rfl) ?_
   obtain rfl:z1a=decide ((x0.Den.length:Int)≤60):=bz hz1a
   obtain rfl:=sj f2b
   exact HJ28 _ _ ⟨(.pointer (some ⟨b8,2,none⟩)),(.slice A4 x0.Den.length c5),(.int .i64 (x0.Den.length:Int)),(.bool (decide ((x0.Den.length:Int)≤60))),rfl,(by simp only [S0,S1]<;>rfl)⟩
  ·refine sP ?_ (hw:=wgF rfl e0a)
   refine sP ?_ (hw:=wgF rfl e0a)
   refine sP ?_ (hw:=wgF rfl e0a)
   refine sP ?_ (hw:=wgF rfl e0a)
   refine sV (Aw (evb rfl e0a) rfl) ?_
   obtain rfl:=sj f3b
   exact HJ28 _ _ ⟨uu,uu,uu,uu,rfl,(by simp only [S0,S1]<;>rfl)⟩
 ·rintro l' _ ⟨t4a,t5a,t6a,t7a,rfl,hq'⟩ l'' hl
  rw [hq'] at hl
  clear hq'
  simp only [S0,S1] at hl
  subst hl
  refine sV (Ac rfl) ?_
  refine wh h8a<|wp_ret ?_
  obtain rfl:=sj f1b
  exact fin rfl (Res.tmp rfl Res.nil) (Aj E9 rfl)
theorem c_nat_Gcd_1 (x0:Nat) (x1:Nat) (A1:Option Addr) (c2:Nat) (A4:Option Addr) (c5:Nat) (w:World) (hT:TB w) (n3:RU w A1 c2 x0) (n6:RU w A4 c5 x1) (r:Nat) (hr:IY x0 x1=some r) :
  Calls Tryz.prog 243 #[.slice A1 (sz x0) c2,.slice A4 (sz x1) c5] w (Ret KC w r):=by
 unfold IY at hr
 go_enter Tryz.func243,Tryz.ntmps243
 refine wp_seq_k fun _ h7=>Ae<|sV (Ac rfl) ?_
 refine wh h7<|wp_seq_k fun _ h8=>?_
 obtain ⟨m8a,h0c,f1c⟩:=Ab hr
 refine BX (fun l l' w'=>∃(A6a:Option Addr) (c7a:Nat),Ext w w'∧RU w' A6a c7a m8a∧Fr l' (fun t1b=>.slice A6a (sz m8a) c7a::gp t1b 1 18 [])) ?_ ?_
 ·apply wp_block
  refine AP (fun l n2b l' w'=>∃(v1a:Nat) (v0a:Nat) (A2a:Option Addr) (c3a:Nat) (A4a:Option Addr) (c5a:Nat),Ext w w'∧RU w' A2a c3a v1a∧RU w' A4a c5a v0a∧Fc x0 x1 n2b v1a v0a=some m8a∧Fr l' (fun t3b=>.slice A2a (sz v1a) c3a::.slice A4a (sz v0a) c5a::gp t3b 2 17 [])) 18446744073709551616 ?_ ?_ ?_
  ·exact ⟨x0,x1,A1,c2,A4,c5,(Ext.refl _),n3,n6,h0c,(Fr.mk (by kernel_rfl))⟩
  ·rintro l' w' ⟨v1a,v0a,A2a,c3a,A4a,c5a,_,_,_,hz,_⟩
   exact nomatch hz
  ·rintro n2b ih2c _ w1 ⟨v1a,v0a,A2a,c3a,A4a,c5a,U9a,n4b,n5b,hr6b,⟨t3b,rfl⟩⟩ l'' hl
   simp only [gp,Nat.reduceAdd] at hl
   subst hl
   unfold Fc at hr6b
   refine AV<|wp_seq_k fun _ h3c=>wp_seq_k fun _ h4c=>Ae<|sV2 (Aa rfl) (Ax AU rfl) ?_
   refine sb (EX rfl rfl) fun z7b hz7b=>?_
   refine nrm ?_
   refine wh h4c ?_
   rcases zi hz7b hr6b with ⟨e0b,_,f5c⟩ | ⟨e0b,_,f6c⟩
   ·refine wp_cond_true (Ai (evb rfl e0b))<|wp_skip<|h3c _ _ ?_
    apply wp_block
    refine wp_seq_k fun _ h7c=>Ae<|sV2 (Aa rfl) (Aa rfl) ?_
    obtain ⟨r8b,h8c,f9c⟩:=Ab f5c
    refine sc (Ad en_244 (by rfl)) (IK v1a v0a A2a c3a A4a c5a w1 (tbx U9a hT) n4b n5b r8b h8c) ?_
    rintro _ w2 E9b ⟨A6d,c7d,A0d,c1d,rfl,n8d,n2d⟩
    refine nrm ?_
    refine sV3 (Aa rfl) (Av rfl rfl) (Av rfl rfl) ?_
    refine sV2 (Ac rfl) (Ac rfl) ?_
    refine wh h7c<|Ae<|sV3 (Aa rfl) (Aa rfl) (Ac rfl) ?_
    refine sV (Ac rfl) ?_
    refine AG ?_
    exact ih2c _ _ ⟨v0a,r8b.2,A4a,c5a,A0d,c1d,(U9a.trans E9b),(n5b.ext E9b),n2d,f9c,(Fr.mk (by kernel_rfl))⟩
   ·refine wp_cond_false (Ai (evb rfl e0b))<|wp_exit ?_
    simp only [Exit.then,Exit.inBlock,↓reduceIte,Nat.reduceEqDiff]
    obtain rfl:=sj f6c
    exact ⟨_,rfl,A2a,c3a,U9a,n4b,(Fr.mk (by kernel_rfl))⟩
 ·rintro _ w1 ⟨A6a,c7a,U3d,n4d,⟨t1b,rfl⟩⟩ l'' hl
  simp only [gp,Nat.reduceAdd] at hl
  subst hl
  refine h8 _ _<|wp_seq_k fun _ h5d=>Ae<|sV2 (Aa rfl) (Ac rfl) ?_
  refine wh h5d<|wp_ret ?_
  obtain rfl:=sj f1c
  exact fin rfl (Res.tmp rfl Res.nil) (Aj U3d ⟨A6a,c7a,rfl,n4d⟩)
theorem c_nat_multiplied__nat_Gcd_1__nil (x0:Nat) (x1:Nat) (A1:Option Addr) (c2:Nat) (A4:Option Addr) (c5:Nat) (w:World) (hT:TB w) (n3:RU w A1 c2 x0) (n6:RU w A4 c5 x1) (r:Nat × Int) (hr:Dh x0 x1=some r) :
  Calls Tryz.prog 242 #[.slice A1 (sz x0) c2,.slice A4 (sz x1) c5,.agg #[.func (.func 243) #[] #[],.nilFunc]] w (Ret Ij w r):=by
 unfold Dh at hr
 obtain ⟨q0,hq0,hr0⟩:=Ab hr
 unfold Ev at hq0
 go_enter_defers Tryz.func242,Tryz.ntmps242
 refine wp_seq_k fun _ h7=>Ae<|Bu rfl rfl fun b8 w1 E9 g1e q1c=>?_
 refine nrm ?_
 refine sV (Ac rfl) ?_
 refine AA JM fun b2c w2 E1b g3c q4c=>?_
 refine nrm ?_
 have g5c:=nlt E9.size g3c
 have X2b:=xtr E9 E1b
 refine wh h7<|wp_seq_k fun _ h6c=>Ae<|Ic (vs:=[.pointer (some ⟨b2c,0,none⟩)]) (by rfl) (by rfl)<|wh h6c<|wp_seq_k fun _ h7c=>Ae<|sV2 (Aa rfl) (Aa rfl) ?_
 refine Cv (vals:=[(0,.slice A1 (sz x0) c2),(1,.slice A4 (sz x1) c5)]) (cs:=[.slice A1 (sz x0) c2,.slice A4 (sz x1) c5]) Kk LV OB (by rfl) (by decide) (by kernel_rfl) fun b3b w3 E3a g8c q4b=>?_
 refine nrm ?_
 have g2e:=nlt X2b.size g8c
 have X0a:=xtr X2b E3a
 rcases AR hq0 with ⟨r4a,h5a,f9c⟩ | ⟨r4a,h5a,rfl⟩
 ·refine scO (Ad Kj (by rfl)) (GH x0 x1 b3b A1 c2 A4 c5 w3 (tbx X0a hT) (n3.ext X0a) (n6.ext X0a) q4b (.ok r4a) h5a) ?_
  rintro _ w4 E1a rfl
  refine nrm ?_
  have X2a:=xtr X0a E1a
  refine wh h7c<|wp_seq_k fun _ h0d=>Ae<|sV (Ag (o':=0) Nq rfl rfl) ?_
  have q1d:=((q1c.ext E1b).ext E3a).ext E1a
  refine sV3 (Af Pe rfl (Bx.cell q1d rfl)) (Aa rfl) (Aa rfl) ?_
  obtain ⟨r6a,h2d,f3d⟩:=Ab f9c
  refine sc (Gx (first:=[]) (cap:=[]) (args:=[.slice A1 (sz x0) c2,.slice A4 (sz x1) c5]) en_243 (by rfl) (by rfl)) (c_nat_Gcd_1 x0 x1 A1 c2 A4 c5 w4 (tbx X2a hT) (n3.ext X2a) (n6.ext X2a) r6a h2d) ?_
  rintro _ w5 E5b ⟨A6b,c7b,rfl,n8b⟩
  refine nrm ?_
  have X7a:=xtr X2a E5b
  rcases AR f3d with ⟨r8a,h9a,f4d⟩ | ⟨r8a,h9a,rfl⟩
  ·refine scO (Ad Ke (by rfl)) (FJ r6a A6b c7b w5 (tbx X7a hT) n8b (.ok r8a) h9a) ?_
   rintro _ w6 E0b ⟨A5d,c6d,rfl,n7d⟩
   refine nrm ?_
   have X8d:=xtr X7a E0b
   refine sV (Ac rfl) ?_
   have q9b:=(((q4c.ext E3a).ext E1a).ext E5b).ext E0b
   refine ss HU q9b fun w7 U0c q9d=>?_
   have X0e:=belU X8d U0c g5c
   refine wh h0d<|wp_ret ?_
   obtain rfl:=sj f4d
   obtain rfl:=sj hr0
   exact Ng Gj Mt rfl (Res.tmp rfl (Res.cell1 rfl Dy (Bx.cell q9d rfl) Res.nil)) (Aj X0e ⟨A5d,c6d,rfl,(n7d.upd U0c q9b (by decide))⟩)
  ·refine scP (Ad Ke (by rfl)) (FJ r6a A6b c7b w5 (tbx X7a hT) n8b (.error r8a) h9a) fun w6 E0b=>?_
   cases hr0
 ·refine scP (Ad Kj (by rfl)) (GH x0 x1 b3b A1 c2 A4 c5 w3 (tbx X0a hT) (n3.ext X0a) (n6.ext X0a) q4b (.error r4a) h5a) fun w4 E1a=>?_
  cases hr0
theorem c_nat_Gcd (x0:Nat) (x1:Nat) (A1:Option Addr) (c2:Nat) (A4:Option Addr) (c5:Nat) (w:World) (hT:TB w) (n3:RU w A1 c2 x0) (n6:RU w A4 c5 x1) (r:Nat × Int) (hr:Ku x0 x1=some r) :
  Calls Tryz.prog 209 #[.slice A1 (sz x0) c2,.slice A4 (sz x1) c5] w (Ret Ij w r):=by
 unfold Ku at hr
 go_enter Tryz.func209,Tryz.ntmps209
 refine wp_seq_k fun _ h7=>Ae<|sV2 (Ac rfl) (Ac rfl) ?_
 refine wh h7<|wp_seq_k fun _ h8=>Ae<|sV3 (Aa rfl) (Aa rfl) (Bb (vals:=[(0,.func (.func 243) #[] #[])]) (cells:=[.func (.func 243) #[] #[],.nilFunc]) (by rfl) (by kernel_rfl)) ?_
 obtain ⟨r9,h0a,f1a⟩:=Ab hr
 refine sc (Ad Pk (by rfl)) (c_nat_multiplied__nat_Gcd_1__nil x0 x1 A1 c2 A4 c5 w hT n3 n6 r9 h0a) ?_
 rintro _ w1 E2a ⟨A3a,c4a,rfl,n5a⟩
 refine nrm ?_
 refine sV3 (Av rfl rfl) (Av rfl rfl) (Ac rfl) ?_
 refine sV (Ac rfl) ?_
 refine wh h8<|wp_ret ?_
 obtain rfl:=sj f1a
 exact fin rfl (Res.tmp rfl (Res.tmp rfl Res.nil)) (Aj E2a ⟨A3a,c4a,rfl,n5a⟩)
end Go.Proofs

