import Derived.Test.YtabiobmfelafoaaGreatDoorLeafDefs
namespace Go.Proofs.Lf
set_option linter.unusedVariables false
set_option linter.unusedSimpArgs false
set_option maxHeartbeats 4000000
open Go.RowKit Go.Sb Go.Proofs Go.Proofs.Sbn
theorem Gu (x0:List Int) (A1:Option Addr) (c2:Nat) (w:World) (hT:TB w) (n3:RLu w A1 c2 x0) (r:Bool) (hr:Bk x0=some r) :
  Calls Tryz.prog 143 #[.slice A1 x0.length c2] w (Ret Gq w r):=by
 unfold Bk at hr
 go_enter Tryz.func143,Tryz.ntmps143
 refine wp_seq_k fun _ h4=>Ae<|sV (Ac rfl) ?_
 refine wh h4<|wp_seq_k fun _ h5=>Ae<|sV2 (Aa rfl) (Ax AH rfl) ?_
 refine sb (Ie rfl rfl) fun z6 hz6=>?_
 refine nrm ?_
 refine sV (Aa rfl) ?_
 obtain ⟨m8a,h9a,f0b⟩:=Ab hr
 refine Bm 17 (fun l l' w'=>∃(t3a:Nat→Value),w=w'∧l'=(((((((((((((l.set 7 (t3a 0)).set 8 (t3a 1)).set 9 (t3a 2)).set 10 (t3a 3)).set 11 (t3a 4)).set 12 (t3a 5)).set 13 (t3a 6)).set 14 (t3a 7)).set 15 (t3a 8)).set 16 (t3a 9)).set 17 (t3a 10)).set 18 (t3a 11)).set 19 (.bool m8a))) ?_ ?_
 ·intro HJ54
  rcases zi hz6 h9a with ⟨e2a,_,f1b⟩ | ⟨e2a,_,f2b⟩
  ·refine sV (Aa rfl) ?_ (hw:=wgT rfl e2a)
   refine sV (Ax AH rfl) ?_ (hw:=wgT rfl e2a)
   refine sb (Bl rfl rfl) ?_ (hw:=wgT rfl e2a)
   intro z4a hz4a
   refine nrm ?_
   refine sV (Aa rfl) ?_ (hw:=wgT rfl e2a)
   obtain ⟨m7a,h3b,f4b⟩:=Ab f1b
   refine Bm 16 (fun l l' w'=>∃(t1a:Nat→Value),w=w'∧l'=((((((((l.set 11 (t1a 0)).set 12 (t1a 1)).set 13 (t1a 2)).set 14 (t1a 3)).set 15 (t1a 4)).set 16 (t1a 5)).set 17 (t1a 6)).set 18 (.bool m7a))) ?_ ?_
   ·intro HJ81
    rcases zi hz4a h3b with ⟨e0a,_,f5b⟩ | ⟨e0a,_,f6b⟩
    ·refine sP ?_ (hw:=wgF rfl e0a)
     refine sP ?_ (hw:=wgF rfl e0a)
     refine sP ?_ (hw:=wgF rfl e0a)
     refine sP ?_ (hw:=wgF rfl e0a)
     refine sP ?_ (hw:=wgF rfl e0a)
     refine sP ?_ (hw:=wgF rfl e0a)
     refine sP ?_ (hw:=wgF rfl e0a)
     refine sV (Ar (evb rfl e0a) rfl) ?_ (hw:=wgT rfl e2a)
     obtain rfl:=sj f5b
     exact HJ81 _ _ ⟨(tk [uu,uu,uu,uu,uu,uu,uu]),(by trivial),(by simp only [S0,S1]<;>rfl)⟩
    ·refine sV (Aa rfl) ?_ (hw:=wgT rfl e0a)
     refine sV (Aa rfl) ?_ (hw:=wgT rfl e0a)
     refine sV (Ax AH rfl) ?_ (hw:=wgT rfl e0a)
     refine sV (Ba (c:=wi64 ((x0.length:Int) - 1)) rfl rfl rfl) ?_ (hw:=wgT rfl e0a)
     obtain ⟨u5a,h7b,f8b⟩:=Ab f6b
     obtain ⟨bb90,oo91,hA9b,ia0c,ib1c,hc93⟩:=RL.nth n3 h7b
     refine sV (As AH An rfl rfl hA9b ia0c ib1c) ?_ (hw:=wgT rfl e0a)
     refine sV (Af AQ rfl hc93) ?_ (hw:=wgT rfl e0a)
     refine sb (HT rfl rfl) ?_ (hw:=wgT rfl e0a)
     intro z6a hz6a
     refine nrm ?_
     refine sV (Aw (evb rfl e0a) rfl) ?_ (hw:=wgT rfl e2a)
     obtain rfl:z6a=decide (¬u5a=0):=bz hz6a
     obtain rfl:=sj f8b
     exact HJ81 _ _ ⟨(tk [.slice A1 x0.length c2,.slice A1 x0.length c2,.int .i64 (x0.length:Int),.int .i64 (wi64 ((x0.length:Int) - 1)),.pointer (some ⟨bb90,oo91+((wi64 ((x0.length:Int) - 1)):Int).toNat,none⟩),.int .u32 u5a,.bool (decide (¬u5a=0))]),(by trivial),(by simp only [S0,S1]<;>rfl)⟩
   ·rintro l' _ ⟨t1a,rfl,hq'⟩ l'' hl
    rw [hq'] at hl
    clear hq'
    simp only [S0,S1] at hl
    subst hl
    refine sV (Ar (evb rfl e2a) rfl) ?_
    obtain rfl:=sj f4b
    exact HJ54 _ _ ⟨(tk [.slice A1 x0.length c2,.int .i64 (x0.length:Int),.bool z4a,.bool z4a,t1a 0,t1a 1,t1a 2,t1a 3,t1a 4,t1a 5,t1a 6,.bool m7a]),(by trivial),(by simp only [S0,S1]<;>rfl)⟩
  ·refine sP ?_ (hw:=wgF rfl e2a)
   refine sP ?_ (hw:=wgF rfl e2a)
   refine sP ?_ (hw:=wgF rfl e2a)
   refine sP ?_ (hw:=wgF rfl e2a)
   refine sP ?_
   refine sP ?_
   refine sP ?_
   refine sP ?_
   refine sP ?_
   refine sP ?_
   refine sP ?_
   refine sP ?_ (hw:=wgF rfl e2a)
   refine sV (Aw (evb rfl e2a) rfl) ?_
   obtain rfl:=sj f2b
   exact HJ54 _ _ ⟨(tk [uu,uu,uu,uu,uu,uu,uu,uu,uu,uu,uu,uu]),(by trivial),(by simp only [S0,S1]<;>rfl)⟩
 ·rintro l' _ ⟨t3a,rfl,hq'⟩ l'' hl
  rw [hq'] at hl
  clear hq'
  simp only [S0,S1] at hl
  subst hl
  refine sV (Ac rfl) ?_
  refine wh h5<|wp_ret ?_
  obtain rfl:=sj f0b
  exact fin rfl (Res.tmp rfl Res.nil) (Aj (Ext.refl _) rfl)
theorem BI (x0:List Int) (x1:Int) (A1:Option Addr) (c2:Nat) (w:World) (hT:TB w) (n3:RLu w A1 c2 x0) (r:Int) (hr:Be x0 x1=some r) :
  Calls Tryz.prog 197 #[.slice A1 x0.length c2,.int .i64 x1] w (Ret Ma w r):=by
 unfold Be at hr
 go_enter Tryz.func197,Tryz.ntmps197
 refine wp_seq_k fun _ h4=>Ae<|sV (Ac rfl) ?_
 refine wh h4<|wp_seq_k fun _ h5=>wp_seq_k fun _ h6=>Ae<|sV3 (Aa rfl) (Aa rfl) (Ax AH rfl) ?_
 refine sb (Fu rfl rfl) fun z7 hz7=>?_
 refine nrm ?_
 refine wh h6 ?_
 rcases zi hz7 hr with ⟨e0a,_,f1a⟩ | ⟨e0a,_,f2a⟩
 ·refine wp_cond_true (Ai (evb rfl e0a))<|wp_seq_k fun _ h3a=>Ae<|sV (Ac rfl) ?_
  refine wh h3a<|wp_ret ?_
  obtain rfl:=sj f1a
  exact fin rfl (Res.tmp rfl Res.nil) (Aj (Ext.refl _) rfl)
 ·refine wp_cond_false (Ai (evb rfl e0a))<|wp_skip<|h5 _ _<|wp_seq_k fun _ h4a=>Ae<|sV2 (Aa rfl) (Aa rfl) ?_
  obtain ⟨u5a,h6a,f7a⟩:=Ab f2a
  obtain ⟨bb23,oo24,hA8a,ia9a,ib0b,hc26⟩:=RL.nth n3 h6a
  refine sV3 (As AH An rfl rfl hA8a ia9a ib0b) (Af AQ rfl hc26) (AE (c:=wu64 u5a) AF AD rfl rfl) ?_
  refine sV (Ac rfl) ?_
  refine wh h4a<|wp_ret ?_
  obtain rfl:=sj f7a
  exact fin rfl (Res.tmp rfl Res.nil) (Aj (Ext.refl _) rfl)
theorem Ha (x0:List Int) (x1:Int) (A1:Option Addr) (c2:Nat) (w:World) (hT:TB w) (n3:RLu w A1 c2 x0) (r:Int) (hr:Ca x0 x1=some r) :
  Calls Tryz.prog 128 #[.slice A1 x0.length c2,.int .i64 x1] w (Ret Ma w r):=by
 unfold Ca at hr
 go_enter Tryz.func128,Tryz.ntmps128
 refine wp_seq_k fun _ h4=>Ae<|sV (Ac rfl) ?_
 refine wh h4<|wp_seq_k fun _ h5=>Ae<|sV3 (Aa rfl) (Aa rfl) (Hj (c:=wi64 (x1.tdiv 32)) (by decide) rfl rfl rfl) ?_
 obtain ⟨r6,h7,f8⟩:=Ab hr
 refine sc (Ad IM (by rfl)) (BI x0 (wi64 (x1.tdiv 32)) A1 c2 w hT n3 r6 h7) ?_
 rintro _ w1 E9 rfl
 refine nrm ?_
 refine sV2 (Aa rfl) (Jr (c:=x1.tmod 32) (by decide) rfl rfl rfl) ?_
 obtain ⟨_,h0a,f1a⟩:=Ab f8
 have gd12:=Az h0a
 refine sV2 (GS (c:=r6.fdiv (2^min ((x1.tmod 32):Int).toNat IntKind.u64.bits)) gd12 rfl rfl rfl) (Jr (c:=(r6.fdiv (2^min ((x1.tmod 32):Int).toNat IntKind.u64.bits)).tmod 2) (by decide) rfl rfl rfl) ?_
 refine sV (Ac rfl) ?_
 refine wh h5<|wp_ret ?_
 obtain rfl:=sj f1a
 exact fin rfl (Res.tmp rfl Res.nil) (Aj E9 rfl)
theorem Fx (x0:List Int) (x1:List Int) (A1:Option Addr) (c2:Nat) (A4:Option Addr) (c5:Nat) (w:World) (hT:TB w) (n3:RLu w A1 c2 x0) (n6:RLu w A4 c5 x1) (r:Bool) (hr:Bc x0 x1=some r) :
  Calls Tryz.prog 144 #[.slice A1 x0.length c2,.slice A4 x1.length c5] w (Ret Gq w r):=by
 unfold Bc at hr
 go_enter Tryz.func144,Tryz.ntmps144
 refine wp_seq_k fun _ h7=>Ae<|sV (Ac rfl) ?_
 refine wh h7<|wp_seq_k fun _ h8=>wp_seq_k fun _ h9=>Ae<|sV3 (Aa rfl) (Ax AH rfl) (Aa rfl) ?_
 refine sV (Ax AH rfl) ?_
 refine sb (HT rfl rfl) fun z7a hz7a=>?_
 refine nrm ?_
 refine wh h9 ?_
 rcases zi hz7a hr with ⟨e1a,_,f4b⟩ | ⟨e1a,_,f5b⟩
 ·refine wp_cond_true (Ai (evb rfl e1a))<|wp_seq_k fun _ h6b=>Ae<|sV (Ac rfl) ?_
  refine wh h6b<|wp_ret ?_
  obtain rfl:=sj f4b
  exact fin rfl (Res.tmp rfl Res.nil) (Aj (Ext.refl _) rfl)
 ·refine wp_cond_false (Ai (evb rfl e1a))<|wp_skip<|h8 _ _<|wp_seq_k fun _ h7b=>wp_seq_k fun _ h8b=>Ae<|sV (Ac rfl) ?_
  refine wh h8b ?_
  apply wp_block
  refine AP (fun l n8a l' w'=>∃(v0a:Int),Ext w w'∧CC x0 x1 n8a v0a=some r∧Fr l' (fun t2a=>.slice A1 x0.length c2::.slice A4 x1.length c5::gp t2a 2 3 (.int .i64 v0a::gp t2a 6 20 []))) 18446744073709551616 ?_ ?_ ?_
  ·exact ⟨0,(Ext.refl _),f5b,(Fr.mk (by kernel_rfl))⟩
  ·rintro l' w' ⟨v0a,_,hz,_⟩
   exact nomatch hz
  ·rintro n8a ih9b _ w1 ⟨v0a,U3a,hr9a,⟨t2a,rfl⟩⟩ l'' hl
   simp only [gp,Nat.reduceAdd] at hl
   subst hl
   unfold CC at hr9a
   refine AV<|wp_seq_k fun _ h0c=>wp_seq_k fun _ h1c=>Ae<|sV3 (Aa rfl) (Aa rfl) (Ax AH rfl) ?_
   refine sb (Cj rfl rfl) fun z0b hz0b=>?_
   refine nrm ?_
   refine wh h1c ?_
   rcases zi hz0b hr9a with ⟨e4a,_,f2c⟩ | ⟨e4a,_,f3c⟩
   ·refine wp_cond_true (Ai (evb rfl e4a))<|wp_skip<|h0c _ _<|wp_seq_k fun _ h4c=>?_
    apply wp_block
    refine wp_seq_k fun _ h5c=>Dn [] 9 mo rfl fun w2 E1b S2b=>have X5a:=xtr U3a E1b;dA 0 rfl (fun _=>Aa rfl) ?_
    refine dA 1 rfl (fun _=>Aa rfl) ?_
    obtain ⟨u0e,h6c,f7c⟩:=Ab f2c
    obtain ⟨bb156,oo157,hA8c,ia9c,ib0d,hc159⟩:=RL.nth (n3.ext X5a) h6c
    refine dA 2 rfl (fun _=>As AH An rfl rfl hA8c ia9c ib0d) ?_
    refine dV 3 rfl (fun _ hw=>Af AQ rfl (CA hc159 hw)) S2b ?_
    refine dA 4 rfl (fun _=>Aa rfl) ?_
    refine dA 5 rfl (fun _=>Aa rfl) ?_
    obtain ⟨u1e,h1d,f2d⟩:=Ab f7c
    obtain ⟨bb165,oo166,hA3d,ia4d,ib5d,hc168⟩:=RL.nth (n6.ext X5a) h1d
    refine dA 6 rfl (fun _=>As AH An rfl rfl hA3d ia4d ib5d) ?_
    refine dV 7 rfl (fun _ hw=>Af AQ rfl (CA hc168 hw)) S2b ?_
    refine dab 8 rfl (by kernel_rfl) (fun _ _ _ h=>h) (by rfl) (fun _=>HT rfl rfl) fun z3b hz3b=>?_
    refine dnrm ?_
    refine Cn (by kernel_rfl) ?_
    refine h5c _ _ ?_
    rcases zi hz3b f2d with ⟨e6a,_,f6d⟩ | ⟨e6a,_,f7d⟩
    ·refine wp_cond_true (Ai (evb rfl e6a))<|wp_seq_k fun _ h8d=>Ae<|sV (Ac rfl) ?_
     refine wh h8d<|wp_ret ?_
     obtain rfl:=sj f6d
     exact fin rfl (Res.tmp rfl Res.nil) (Aj X5a rfl)
    ·refine wp_cond_false (Ai (evb rfl e6a))<|wp_skip<|h4c _ _<|Ae<|sV3 (Aa rfl) (AM (c:=wi64 (v0a+1)) rfl rfl rfl) (Ac rfl) ?_
     refine AG ?_
     exact ih9b _ _ ⟨(wi64 (v0a+1)),(U3a.trans E1b),f7d,(Fr.mk (by kernel_rfl))⟩
   ·refine wp_cond_false (Ai (evb rfl e4a))<|wp_exit ?_
    simp only [Exit.then,Exit.inBlock,↓reduceIte,Nat.reduceEqDiff]
    refine h7b _ _<|wp_seq_k fun _ h9d=>Ae<|sV (Ac rfl) ?_
    refine wh h9d<|wp_ret ?_
    obtain rfl:=sj f3c
    exact fin rfl (Res.tmp rfl Res.nil) (Aj U3a rfl)
theorem Ce (x0:List Int) (A1:Option Addr) (c2:Nat) (w:World) (hT:TB w) (n3:RLu w A1 c2 x0) (r:List Int) (hr:Bd x0=some r) :
  Calls Tryz.prog 210 #[.slice A1 x0.length c2] w (Ret KA w r):=by
 unfold Bd at hr
 go_enter Tryz.func210,Tryz.ntmps210
 refine wp_seq_k fun _ h4=>Ae<|sV (Ac rfl) ?_
 refine wh h4<|wp_seq_k fun _ h5=>Ae<|sV3 (Aa rfl) (Ax AH rfl) (Ac rfl) ?_
 refine wh h5<|wp_seq_k fun _ h6=>?_
 obtain ⟨m4a,h4b,f5b⟩:=Ab hr
 refine BX (fun l l' w'=>w=w'∧Fr l' (fun t6a=>.slice A1 x0.length c2::gp t6a 1 2 (.int .i64 m4a::gp t6a 4 19 []))) ?_ ?_
 ·apply wp_block
  refine AP (fun l n1b l' w'=>∃(v2a:Int) (t3a:Nat→Value),w=w'∧Cc x0 n1b v2a=some m4a∧Fr l' (fun t5a=>.slice A1 x0.length c2::gp t5a 1 2 (.int .i64 v2a::gp t5a 4 5 ((t3a 0)::(t3a 1)::(t3a 2)::(t3a 3)::(t3a 4)::(t3a 5)::gp t5a 15 8 [])))) 18446744073709551616 ?_ ?_ ?_
  ·exact ⟨(x0.length:Int),(tk [uu,uu,uu,uu,uu,uu]),(by trivial),h4b,(Fr.mk (by kernel_rfl))⟩
  ·rintro l' w' ⟨v2a,t3a,_,hz,_⟩
   exact nomatch hz
  ·rintro n1b ih6b _ _ ⟨v2a,t3a,rfl,hr2b,⟨t5a,rfl⟩⟩ l'' hl
   simp only [gp,Nat.reduceAdd] at hl
   subst hl
   unfold Cc at hr2b
   refine AV<|wp_seq_k fun _ h7b=>wp_seq_k fun _ h8b=>Ae<|sV (Aa rfl) ?_
   refine sb (EX rfl rfl) fun z3b hz3b=>?_
   refine nrm ?_
   refine sV (Aa rfl) ?_
   obtain ⟨m9b,h0c,f1c⟩:=Ab hr2b
   refine Bm 10 (fun l l' w'=>∃(t1a:Nat→Value),w=w'∧l'=(((((((l.set 9 (t1a 0)).set 10 (t1a 1)).set 11 (t1a 2)).set 12 (t1a 3)).set 13 (t1a 4)).set 14 (t1a 5)).set 15 (.bool m9b))) ?_ ?_
   ·intro HJ307
    rcases zi hz3b h0c with ⟨e0a,_,f2c⟩ | ⟨e0a,_,f3c⟩
    ·refine sV (Aa rfl) ?_ (hw:=wgT rfl e0a)
     refine sV (Aa rfl) ?_ (hw:=wgT rfl e0a)
     refine sV (Ba (c:=wi64 (v2a - 1)) rfl rfl rfl) ?_ (hw:=wgT rfl e0a)
     obtain ⟨u7a,h4c,f5c⟩:=Ab f2c
     obtain ⟨bb316,oo317,hA6c,ia7c,ib8c,hc319⟩:=RL.nth n3 h4c
     refine sV (As AH An rfl rfl hA6c ia7c ib8c) ?_ (hw:=wgT rfl e0a)
     refine sV (Af AQ rfl hc319) ?_ (hw:=wgT rfl e0a)
     refine sb (Bl rfl rfl) ?_ (hw:=wgT rfl e0a)
     intro z8a hz8a
     refine nrm ?_
     refine sV (Ar (evb rfl e0a) rfl) ?_
     obtain rfl:z8a=decide (u7a=0):=bz hz8a
     obtain rfl:=sj f5c
     exact HJ307 _ _ ⟨(tk [.slice A1 x0.length c2,.int .i64 v2a,.int .i64 (wi64 (v2a - 1)),.pointer (some ⟨bb316,oo317+((wi64 (v2a - 1)):Int).toNat,none⟩),.int .u32 u7a,.bool (decide (u7a=0))]),(by trivial),(by simp only [S0,S1]<;>rfl)⟩
    ·refine sP ?_ (hw:=wgF rfl e0a)
     refine sP ?_ (hw:=wgF rfl e0a)
     refine sP ?_ (hw:=wgF rfl e0a)
     refine sP ?_ (hw:=wgF rfl e0a)
     refine sP ?_ (hw:=wgF rfl e0a)
     refine sP ?_ (hw:=wgF rfl e0a)
     refine sV (Aw (evb rfl e0a) rfl) ?_
     obtain rfl:=sj f3c
     exact HJ307 _ _ ⟨(tk [uu,uu,uu,uu,uu,uu]),(by trivial),(by simp only [S0,S1]<;>rfl)⟩
   ·rintro l' _ ⟨t1a,rfl,hq'⟩ l'' hl
    rw [hq'] at hl
    clear hq'
    simp only [S0,S1] at hl
    subst hl
    refine wh h8b ?_
    rcases zb f1c with ⟨e9a,f9c⟩ | ⟨e9a,f0d⟩
    ·refine wp_cond_true (Ai (evb rfl e9a))<|wp_skip<|h7b _ _ ?_
     apply wp_block
     refine Ae<|sV3 (Aa rfl) (Ba (c:=wi64 (v2a - 1)) rfl rfl rfl) (Ac rfl) ?_
     refine AG ?_
     exact ih6b _ _ ⟨(wi64 (v2a - 1)),(tk [t1a 0,t1a 1,t1a 2,t1a 3,t1a 4,t1a 5]),(by trivial),f9c,(Fr.mk (by kernel_rfl))⟩
    ·refine wp_cond_false (Ai (evb rfl e9a))<|wp_exit ?_
     simp only [Exit.then,Exit.inBlock,↓reduceIte,Nat.reduceEqDiff]
     obtain rfl:=sj f0d
     exact ⟨_,rfl,(by trivial),(Fr.mk (by kernel_rfl))⟩
 ·rintro _ _ ⟨rfl,⟨t6a,rfl⟩⟩ l'' hl
  simp only [gp,Nat.reduceAdd] at hl
  subst hl
  refine h6 _ _<|wp_seq_k fun _ h1d=>Ae<|Mk AH CJ fun A2d w1 E0b=>?_
  refine nrm ?_
  refine sV2 (Aa rfl) (Aa rfl) ?_
  obtain ⟨_,h3d,f4d⟩:=Ab f5b
  have gd340:=Az h3d
  refine MS (lo:=0) (hi:=(m4a:Int).toNat) AH An rfl rfl ⟨.i64,by rw [Int.toNat_of_nonneg (a:=m4a) (by omega)];rfl⟩ (by omega) (by omega) (n3.ext E0b) fun A2e c3e n5d=>?_
  refine nrm ?_
  obtain ⟨_,h6d,f7d⟩:=Ab f4d
  have gd346:=Az h6d
  refine Jf AH CJ rfl rfl rfl (OW.nil 179 w.heap.size w1 A2d) n5d gd346 E0b.size fun A8d c9d w2 B349 ow0e=>?_
  refine nrm ?_
  have X1e:=xO E0b B349 (Nat.le_refl _)
  refine sV (Ac rfl) ?_
  refine wh h1d<|wp_ret ?_
  obtain rfl:=sj f7d
  exact fin rfl (Res.tmp rfl Res.nil) (Aj X1e ⟨A8d,c9d,rfl,(OW.rl ow0e)⟩)
theorem Gl (x0:Int) (w:World) (hT:TB w) (r:List Int) (hr:CM x0=some r) :
  Calls Tryz.prog 179 #[.int .u64 x0] w (Ret KA w r):=by
 unfold CM at hr
 go_enter Tryz.func179,Tryz.ntmps179
 refine wp_seq_k fun _ h1=>Ae<|sV (Ac rfl) ?_
 refine wh h1<|wp_seq_k fun _ h2=>Ae<|sV3 (Aa rfl) (AE (c:=wu32 x0) AD AF rfl rfl) (Aa rfl) ?_
 refine sV (GS (c:=x0.fdiv (2^min (32:Int).toNat IntKind.u64.bits)) (by decide) rfl rfl rfl) ?_
 refine sV (AE (c:=wu32 (x0.fdiv (2^min (32:Int).toNat IntKind.u64.bits))) AD AF rfl rfl) ?_
 refine Cv (vals:=[(0,.int .u32 (wu32 x0)),(1,.int .u32 (wu32 (x0.fdiv (2^min (32:Int).toNat IntKind.u64.bits))))]) (cs:=[.int .u32 (wu32 x0),.int .u32 (wu32 (x0.fdiv (2^min (32:Int).toNat IntKind.u64.bits)))]) AH An Ge (by rfl) (by decide) (by kernel_rfl) fun b4 w1 E3 g5 q6=>?_
 refine nrm ?_
 have n7:RLu w1 (some ⟨b4,0,none⟩) 2 [(wu32 x0),(wu32 (x0.fdiv (2^min (32:Int).toNat IntKind.u64.bits)))]:=(OW.lit (n0:=0) (n:=2) (xs:=[(wu32 x0),(wu32 (x0.fdiv (2^min (32:Int).toNat IntKind.u64.bits)))]) q6 (Nat.zero_le _) rfl (by decide)).rl
 obtain ⟨r8,h9,f0a⟩:=Ab hr
 refine sc (Ad JK (by rfl)) (Ce ([(wu32 x0),(wu32 (x0.fdiv (2^min (32:Int).toNat IntKind.u64.bits)))]:List Int) (some ⟨b4,0,none⟩) 2 w1 (tbx E3 hT) n7 r8 h9) ?_
 rintro _ w2 E1a ⟨A2a,c3a,rfl,n4a⟩
 refine nrm ?_
 have X5a:=xtr E3 E1a
 refine sV (Ac rfl) ?_
 refine wh h2<|wp_ret ?_
 obtain rfl:=sj f0a
 exact fin rfl (Res.tmp rfl Res.nil) (Aj X5a ⟨A2a,c3a,rfl,n4a⟩)
theorem Ed (x0:List Int) (x1:List Int) (A1:Option Addr) (c2:Nat) (A4:Option Addr) (c5:Nat) (w:World) (hT:TB w) (n3:RLu w A1 c2 x0) (n6:RLu w A4 c5 x1) (r:Int) (hr:Bs x0 x1=some r) :
  Calls Tryz.prog 198 #[.slice A1 x0.length c2,.slice A4 x1.length c5] w (Ret Fy w r):=by
 unfold Bs at hr
 go_enter Tryz.func198,Tryz.ntmps198
 refine wp_seq_k fun _ h7=>Ae<|sV (Ac rfl) ?_
 refine wh h7<|wp_seq_k fun _ h8=>wp_seq_k fun _ h9=>Ae<|sV3 (Aa rfl) (Ax AH rfl) (Aa rfl) ?_
 refine sV3 (Ax AH rfl) (Nm rfl rfl) (Ba (c:=wi64 ((max (x0.length:Int) (x1.length:Int)) - 1)) rfl rfl rfl) ?_
 refine sV (Ac rfl) ?_
 refine wh h9 ?_
 apply wp_block
 refine AP (fun l n9a l' w'=>∃(v0a:Int),Ext w w'∧Dw x0 x1 n9a v0a=some r∧Fr l' (fun t3a=>.slice A1 x0.length c2::.slice A4 x1.length c5::gp t3a 2 3 (.int .i64 v0a::gp t3a 6 24 []))) 18446744073709551616 ?_ ?_ ?_
 ·exact ⟨(wi64 ((max (x0.length:Int) (x1.length:Int)) - 1)),(Ext.refl _),hr,(Fr.mk (by kernel_rfl))⟩
 ·rintro l' w' ⟨v0a,_,hz,_⟩
  exact nomatch hz
 ·rintro n9a ih8b _ w1 ⟨v0a,U1a,hr0b,⟨t3a,rfl⟩⟩ l'' hl
  simp only [gp,Nat.reduceAdd] at hl
  subst hl
  unfold Dw at hr0b
  refine AV<|wp_seq_k fun _ h9b=>wp_seq_k fun _ h0c=>Ae<|sV (Aa rfl) ?_
  refine sb (Fu rfl rfl) fun z1b hz1b=>?_
  refine nrm ?_
  refine wh h0c ?_
  rcases zi hz1b hr0b with ⟨e4a,_,f1c⟩ | ⟨e4a,_,f2c⟩
  ·refine wp_cond_true (Ai (evb rfl e4a))<|wp_skip<|h9b _ _<|wp_seq_k fun _ h3c=>?_
   apply wp_block
   refine wp_seq_k fun _ h4c=>wp_seq_k fun _ h5c=>Ae<|sV2 (Aa rfl) (Aa rfl) ?_
   obtain ⟨r6c,h7c,f8c⟩:=Ab f1c
   refine sc (Ad IM (by rfl)) (BI x0 v0a A1 c2 w1 (tbx U1a hT) (n3.ext U1a) r6c h7c) ?_
   rintro _ w2 E2b rfl
   refine nrm ?_
   have X5a:=xtr U1a E2b
   refine sV2 (Aa rfl) (Aa rfl) ?_
   obtain ⟨r9c,h0d,f1d⟩:=Ab f8c
   refine sc (Ad IM (by rfl)) (BI x1 v0a A4 c5 w2 (tbx X5a hT) (n6.ext X5a) r9c h0d) ?_
   rintro _ w3 E3b rfl
   refine nrm ?_
   have X2a:=xtr X5a E3b
   refine sb (Cj rfl rfl) fun z4b hz4b=>?_
   refine nrm ?_
   refine wh h5c ?_
   rcases zi hz4b f1d with ⟨e6a,_,f2d⟩ | ⟨e6a,_,f3d⟩
   ·refine wp_cond_true (Ai (evb rfl e6a))<|wp_seq_k fun _ h4d=>Ae<|sV (Ac rfl) ?_
    refine wh h4d<|wp_ret ?_
    obtain rfl:=sj f2d
    exact fin rfl (Res.tmp rfl Res.nil) (Aj X2a rfl)
   ·refine wp_cond_false (Ai (evb rfl e6a))<|wp_skip<|h4c _ _<|wp_seq_k fun _ h5d=>Ae<|sV2 (Aa rfl) (Aa rfl) ?_
    obtain ⟨r6d,h7d,f8d⟩:=Ab f3d
    refine sc (Ad IM (by rfl)) (BI x0 v0a A1 c2 w3 (tbx X2a hT) (n3.ext X2a) r6d h7d) ?_
    rintro _ w4 E5b rfl
    refine nrm ?_
    have X7a:=xtr X2a E5b
    refine sV2 (Aa rfl) (Aa rfl) ?_
    obtain ⟨r9d,h0e,f1e⟩:=Ab f8d
    refine sc (Ad IM (by rfl)) (BI x1 v0a A4 c5 w4 (tbx X7a hT) (n6.ext X7a) r9d h0e) ?_
    rintro _ w5 E6b rfl
    refine nrm ?_
    have X2e:=xtr X7a E6b
    refine sb (EX rfl rfl) fun z7b hz7b=>?_
    refine nrm ?_
    refine wh h5d ?_
    rcases zi hz7b f1e with ⟨e8a,_,f3e⟩ | ⟨e8a,_,f4e⟩
    ·refine wp_cond_true (Ai (evb rfl e8a))<|wp_seq_k fun _ h5e=>Ae<|sV (Ac rfl) ?_
     refine wh h5e<|wp_ret ?_
     obtain rfl:=sj f3e
     exact fin rfl (Res.tmp rfl Res.nil) (Aj X2e rfl)
    ·refine wp_cond_false (Ai (evb rfl e8a))<|wp_skip<|h3c _ _<|Ae<|sV3 (Aa rfl) (Ba (c:=wi64 (v0a - 1)) rfl rfl rfl) (Ac rfl) ?_
     refine AG ?_
     exact ih8b _ _ ⟨(wi64 (v0a - 1)),((((U1a.trans E2b).trans E3b).trans E5b).trans E6b),f4e,(Fr.mk (by kernel_rfl))⟩
  ·refine wp_cond_false (Ai (evb rfl e4a))<|wp_exit ?_
   simp only [Exit.then,Exit.inBlock,↓reduceIte,Nat.reduceEqDiff]
   refine h8 _ _<|wp_seq_k fun _ h6e=>Ae<|sV (Ac rfl) ?_
   refine wh h6e<|wp_ret ?_
   obtain rfl:=sj f2c
   exact fin rfl (Res.tmp rfl Res.nil) (Aj U1a rfl)
theorem GE (x0:List Int) (A1:Option Addr) (c2:Nat) (w:World) (hT:TB w) (n3:RLu w A1 c2 x0) (r:Int) (hr:BN x0=some r) :
  Calls Tryz.prog 147 #[.slice A1 x0.length c2] w (Ret Fy w r):=by
 unfold BN at hr
 go_enter Tryz.func147,Tryz.ntmps147
 refine wp_seq_k fun _ h4=>Ae<|sV (Ac rfl) ?_
 refine wh h4<|wp_seq_k fun _ h5=>Ae<|sV3 (Aa rfl) (Ax AH rfl) (Ac rfl) ?_
 refine wh h5<|wp_seq_k fun _ h6=>wp_seq_k fun _ h7=>Ae<|sV (Aa rfl) ?_
 refine sb (Bl rfl rfl) fun z8 hz8=>?_
 refine nrm ?_
 refine wh h7 ?_
 rcases zi hz8 hr with ⟨e2a,_,f0b⟩ | ⟨e2a,_,f1b⟩
 ·refine wp_cond_true (Ai (evb rfl e2a))<|wp_seq_k fun _ h2b=>Ae<|sV (Ac rfl) ?_
  refine wh h2b<|wp_ret ?_
  obtain rfl:=sj f0b
  exact fin rfl (Res.tmp rfl Res.nil) (Aj (Ext.refl _) rfl)
 ·refine wp_cond_false (Ai (evb rfl e2a))<|wp_skip<|h6 _ _<|wp_seq_k fun _ h3b=>Ae<|sV3 (Aa rfl) (Ba (c:=wi64 ((x0.length:Int) - 1)) rfl rfl rfl) (Jq (c:=wi64 (32*(wi64 ((x0.length:Int) - 1)))) rfl rfl rfl) ?_
  refine sV (Ac rfl) ?_
  refine wh h3b<|wp_seq_k fun _ h4b=>wp_seq_k fun _ h5b=>Ae<|sV3 (Aa rfl) (Aa rfl) (Ba (c:=wi64 ((x0.length:Int) - 1)) rfl rfl rfl) ?_
  obtain ⟨u6b,h7b,f8b⟩:=Ab f1b
  obtain ⟨bb26,oo27,hA9b,ia0c,ib1c,hc29⟩:=RL.nth n3 h7b
  refine sV3 (As AH An rfl rfl hA9b ia0c ib1c) (Af AQ rfl hc29) (Ac rfl) ?_
  refine wh h5b ?_
  obtain ⟨m6a,h2c,f3c⟩:=Ab f8b
  refine BX (fun l l' w'=>w=w'∧Fr l' (fun t3a=>gp t3a 0 4 (.int .i64 m6a::gp t3a 5 20 []))) ?_ ?_
  ·apply wp_block
   refine AP (fun l n7a l' w'=>∃(v0a:Int) (v1a:Int),w=w'∧DR x0 n7a v0a v1a=some m6a∧Fr l' (fun t4a=>gp t4a 0 4 (.int .i64 v0a::.int .u32 v1a::gp t4a 6 19 []))) 18446744073709551616 ?_ ?_ ?_
   ·exact ⟨(wi64 (32*(wi64 ((x0.length:Int) - 1)))),u6b,(by trivial),h2c,(Fr.mk (by kernel_rfl))⟩
   ·rintro l' w' ⟨v0a,v1a,_,hz,_⟩
    exact nomatch hz
   ·rintro n7a ih4c _ _ ⟨v0a,v1a,rfl,hr8a,⟨t4a,rfl⟩⟩ l'' hl
    simp only [gp,Nat.reduceAdd] at hl
    subst hl
    unfold DR at hr8a
    refine AV<|wp_seq_k fun _ h5c=>wp_seq_k fun _ h6c=>Ae<|sV (Aa rfl) ?_
    refine sb (EX rfl rfl) fun z9a hz9a=>?_
    refine nrm ?_
    refine wh h6c ?_
    rcases zi hz9a hr8a with ⟨e5a,_,f7c⟩ | ⟨e5a,_,f8c⟩
    ·refine wp_cond_true (Ai (evb rfl e5a))<|wp_skip<|h5c _ _<|wp_seq_k fun _ h9c=>?_
     apply wp_block
     refine Ae<|sV3 (Aa rfl) (AM (c:=wi64 (v0a+1)) rfl rfl rfl) (Ac rfl) ?_
     refine wh h9c<|Ae<|sV2 (Aa rfl) (Hj (c:=wu32 (v1a.tdiv 2)) (by decide) rfl rfl rfl) ?_
     refine sV (Ac rfl) ?_
     refine AG ?_
     exact ih4c _ _ ⟨(wi64 (v0a+1)),(wu32 (v1a.tdiv 2)),(by trivial),f7c,(Fr.mk (by kernel_rfl))⟩
    ·refine wp_cond_false (Ai (evb rfl e5a))<|wp_exit ?_
     simp only [Exit.then,Exit.inBlock,↓reduceIte,Nat.reduceEqDiff]
     obtain rfl:=sj f8c
     exact ⟨_,rfl,(by trivial),(Fr.mk (by kernel_rfl))⟩
  ·rintro _ _ ⟨rfl,⟨t3a,rfl⟩⟩ l'' hl
   simp only [gp,Nat.reduceAdd] at hl
   subst hl
   refine h4b _ _<|wp_seq_k fun _ h0d=>Ae<|sV2 (Aa rfl) (Ac rfl) ?_
   refine wh h0d<|wp_ret ?_
   obtain rfl:=sj f3c
   exact fin rfl (Res.tmp rfl Res.nil) (Aj (Ext.refl _) rfl)
theorem HD (x0:List Int) (A1:Option Addr) (c2:Nat) (w:World) (hT:TB w) (n3:RLu w A1 c2 x0) (r:Int) (hr:BS x0=some r) :
  Calls Tryz.prog 153 #[.slice A1 x0.length c2] w (Ret Fy w r):=by
 unfold BS at hr
 go_enter Tryz.func153,Tryz.ntmps153
 refine wp_seq_k fun _ h4=>Ae<|sV (Ac rfl) ?_
 refine wh h4<|wp_seq_k fun _ h5=>Ae<|sV (Ac rfl) ?_
 refine wh h5<|wp_seq_k fun _ h6=>?_
 obtain ⟨m0b,h5b,f6b⟩:=Ab hr
 refine BX (fun l l' w'=>Ext w w'∧Fr l' (fun t7a=>gp t7a 0 3 (.int .i64 m0b::gp t7a 4 12 []))) ?_ ?_
 ·apply wp_block
  refine AP (fun l n1b l' w'=>∃(v2a:Int) (t3a:Nat→Value),Ext w w'∧BP x0 n1b v2a=some m0b∧Fr l' (fun t4a=>.slice A1 x0.length c2::gp t4a 1 2 (.int .i64 v2a::gp t4a 4 4 ((t3a 0)::(t3a 1)::(t3a 2)::(t3a 3)::gp t4a 12 4 [])))) 18446744073709551616 ?_ ?_ ?_
  ·exact ⟨0,(tk [uu,uu,uu,uu]),(Ext.refl _),h5b,(Fr.mk (by kernel_rfl))⟩
  ·rintro l' w' ⟨v2a,t3a,_,hz,_⟩
   exact nomatch hz
  ·rintro n1b ih7b _ w1 ⟨v2a,t3a,U5a,hr2b,⟨t4a,rfl⟩⟩ l'' hl
   simp only [gp,Nat.reduceAdd] at hl
   subst hl
   unfold BP at hr2b
   refine AV<|wp_seq_k fun _ h8b=>wp_seq_k fun _ h9b=>Ae<|sV2 (Aa rfl) (Ax AH rfl) ?_
   refine sb (EX rfl rfl) fun z3b hz3b=>?_
   refine nrm ?_
   refine sV (Aa rfl) ?_
   obtain ⟨m0c,h1c,f2c⟩:=Ab hr2b
   refine Bm 9 (fun l l' w'=>∃(t1a:Nat→Value),Ext w1 w'∧l'=(((((l.set 8 (t1a 0)).set 9 (t1a 1)).set 10 (t1a 2)).set 11 (t1a 3)).set 12 (.bool m0c))) ?_ ?_
   ·intro HJ265
    rcases zi hz3b h1c with ⟨e0a,_,f3c⟩ | ⟨e0a,_,f4c⟩
    ·refine sV (Aa rfl) ?_ (hw:=wgT rfl e0a)
     refine sV (Aa rfl) ?_ (hw:=wgT rfl e0a)
     obtain ⟨r6a,h5c,f6c⟩:=Ab f3c
     refine sc (Ad Pm (by rfl)) (Ha x0 v2a A1 c2 w1 (tbx U5a hT) (n3.ext U5a) r6a h5c) ?_ (hw:=wgT rfl e0a)
     rintro _ w2 E7c rfl
     refine nrm ?_
     refine sb (Bl rfl rfl) ?_ (hw:=wgT rfl e0a)
     intro z8a hz8a
     refine nrm ?_
     refine sV (Ar (evb rfl e0a) rfl) ?_
     obtain rfl:z8a=decide (r6a=0):=bz hz8a
     obtain rfl:=sj f6c
     exact HJ265 _ _ ⟨(tk [.slice A1 x0.length c2,.int .i64 v2a,.int .u64 r6a,.bool (decide (r6a=0))]),E7c,(by simp only [S0,S1]<;>rfl)⟩
    ·refine sP ?_ (hw:=wgF rfl e0a)
     refine sP ?_ (hw:=wgF rfl e0a)
     refine sP ?_ (hw:=wgF rfl e0a)
     refine sP ?_ (hw:=wgF rfl e0a)
     refine sV (Aw (evb rfl e0a) rfl) ?_
     obtain rfl:=sj f4c
     exact HJ265 _ _ ⟨(tk [uu,uu,uu,uu]),(Ext.refl _),(by simp only [S0,S1]<;>rfl)⟩
   ·rintro l' w2 ⟨t1a,U4b,hq'⟩ l'' hl
    rw [hq'] at hl
    clear hq'
    simp only [S0,S1] at hl
    subst hl
    refine wh h9b ?_
    rcases zb f2c with ⟨e9a,f8c⟩ | ⟨e9a,f9c⟩
    ·refine wp_cond_true (Ai (evb rfl e9a))<|wp_skip<|h8b _ _ ?_
     apply wp_block
     refine Ae<|sV3 (Aa rfl) (AM (c:=wi64 (v2a+1)) rfl rfl rfl) (Ac rfl) ?_
     refine AG ?_
     exact ih7b _ _ ⟨(wi64 (v2a+1)),(tk [t1a 0,t1a 1,t1a 2,t1a 3]),(U5a.trans U4b),f8c,(Fr.mk (by kernel_rfl))⟩
    ·refine wp_cond_false (Ai (evb rfl e9a))<|wp_exit ?_
     simp only [Exit.then,Exit.inBlock,↓reduceIte,Nat.reduceEqDiff]
     obtain rfl:=sj f9c
     exact ⟨_,rfl,(U5a.trans U4b),(Fr.mk (by kernel_rfl))⟩
 ·rintro _ w1 ⟨U0d,⟨t7a,rfl⟩⟩ l'' hl
  simp only [gp,Nat.reduceAdd] at hl
  subst hl
  refine h6 _ _<|wp_seq_k fun _ h1d=>Ae<|sV2 (Aa rfl) (Ac rfl) ?_
  refine wh h1d<|wp_ret ?_
  obtain rfl:=sj f6b
  exact fin rfl (Res.tmp rfl Res.nil) (Aj U0d rfl)
theorem FW (x0:List Int) (x1:List Int) (A1:Option Addr) (c2:Nat) (A4:Option Addr) (c5:Nat) (w:World) (hT:TB w) (n3:RLu w A1 c2 x0) (n6:RLu w A4 c5 x1) (r:List Int) (hr:Bw x0 x1=some r) :
  Calls Tryz.prog 189 #[.slice A1 x0.length c2,.slice A4 x1.length c5] w (Ret KA w r):=by
 unfold Bw at hr
 go_enter Tryz.func189,Tryz.ntmps189
 refine wp_seq_k fun _ h7=>Ae<|sV (Ac rfl) ?_
 refine wh h7<|wp_seq_k fun _ h8=>Ae<|sV (Ac rfl) ?_
 refine wh h8<|wp_seq_k fun _ h9=>Ae<|sV (Ac rfl) ?_
 refine wh h9<|wp_seq_k fun _ h4c=>wp_seq_k fun _ h5c=>Ae<|sV (Ac rfl) ?_
 refine wh h5c ?_
 obtain ⟨m5a,h6c,f7c⟩:=Ab hr
 refine BX (fun l l' w'=>∃(A8a:Option Addr) (c9a:Nat),Ext w w'∧OW 179 w.heap.size w' A8a m5a.length c9a m5a∧Fr l' (fun t1b=>gp t1b 0 5 (.slice A8a m5a.length c9a::gp t1b 6 30 []))) ?_ ?_
 ·apply wp_block
  refine AP (fun l n5b l' w'=>∃(v0a:Int) (v3a:Int) (v4a:List Int) (A6a:Option Addr) (c7a:Nat),Ext w w'∧OW 179 w.heap.size w' A6a v4a.length c7a v4a∧CN x0 x1 n5b v0a v3a v4a=some m5a∧Fr l' (fun t2b=>.slice A1 x0.length c2::.slice A4 x1.length c5::gp t2b 2 3 (.slice A6a v4a.length c7a::.int .u64 v0a::.int .i64 v3a::gp t2b 8 28 []))) 18446744073709551616 ?_ ?_ ?_
  ·exact ⟨0,0,([]:List Int),none,0,(Ext.refl _),(OW.nn (OW.nil 179 w.heap.size w none)),h6c,(Fr.mk (by simp only [OW.len (OW.nil 179 w.heap.size w none)];kernel_rfl))⟩
  ·rintro l' w' ⟨v0a,v3a,v4a,A6a,c7a,_,_,hz,_⟩
   exact nomatch hz
  ·rintro n5b ih8c _ w1 ⟨v0a,v3a,v4a,A6a,c7a,X0b,ow6b,hr7b,⟨t2b,rfl⟩⟩ l'' hl
   simp only [gp,Nat.reduceAdd] at hl
   subst hl
   unfold CN at hr7b
   refine AV<|wp_seq_k fun _ h9c=>wp_seq_k fun _ h0d=>Ae<|sV3 (Aa rfl) (Aa rfl) (Ax AH rfl) ?_
   refine sV3 (Aa rfl) (Ax AH rfl) (Nm rfl rfl) ?_
   refine sb (Ie rfl rfl) fun z8b hz8b=>?_
   refine nrm ?_
   refine wh h0d ?_
   rcases zi hz8b hr7b with ⟨e3b,_,f1d⟩ | ⟨e3b,_,f2d⟩
   ·refine wp_cond_true (Ai (evb rfl e3b))<|wp_skip<|h9c _ _<|wp_seq_k fun _ h3d=>?_
    apply wp_block
    refine wp_seq_k fun _ h4d=>Ae<|sV2 (Aa rfl) (Aa rfl) ?_
    obtain ⟨r1a,h5d,f6d⟩:=Ab f1d
    refine sc (Ad IM (by rfl)) (BI x0 v3a A1 c2 w1 (tbx X0b hT) (n3.ext X0b) r1a h5d) ?_
    rintro _ w2 E9b rfl
    refine nrm ?_
    have X4b:=xtr X0b E9b
    refine sV2 (Aa rfl) (Aa rfl) ?_
    obtain ⟨r2a,h7d,f8d⟩:=Ab f6d
    refine sc (Ad IM (by rfl)) (BI x1 v3a A4 c5 w2 (tbx X4b hT) (n6.ext X4b) r2a h7d) ?_
    rintro _ w3 E0c rfl
    refine nrm ?_
    have X9d:=xtr X4b E0c
    refine sV3 (AM (c:=wu64 (r1a+r2a)) rfl rfl rfl) (Aa rfl) (AM (c:=wu64 ((wu64 (r1a+r2a))+v0a)) rfl rfl rfl) ?_
    refine sV (Ac rfl) ?_
    refine wh h4d<|wp_seq_k fun _ h0e=>Ae<|sV3 (Aa rfl) (Aa rfl) (AE (c:=wu32 (wu64 ((wu64 (r1a+r2a))+v0a))) AD AF rfl rfl) ?_
    refine Cv (vals:=[(0,.int .u32 (wu32 (wu64 ((wu64 (r1a+r2a))+v0a))))]) (cs:=[.int .u32 (wu32 (wu64 ((wu64 (r1a+r2a))+v0a)))]) AH An Ge (by rfl) (by decide) (by kernel_rfl) fun b1e w4 E1c g1g q2e=>?_
    refine nrm ?_
    have X2c:=xtr X9d E1c
    have n3e:RLu w4 (some ⟨b1e,0,none⟩) 1 [(wu32 (wu64 ((wu64 (r1a+r2a))+v0a)))]:=(OW.lit (n0:=0) (n:=1) (xs:=[(wu32 (wu64 ((wu64 (r1a+r2a))+v0a)))]) q2e (Nat.zero_le _) rfl (by decide)).rl
    have ow4e:=((ow6b.ext E9b).ext E0c).ext E1c
    obtain ⟨_,h5e,f6e⟩:=Ab f8d
    have gd512:=Az h5e
    refine Jf AH CJ rfl rfl rfl ow4e n3e gd512 X2c.size fun A7e c8e w5 B515 ow9e=>?_
    refine nrm ?_
    have X0f:=xO X2c B515 (Nat.le_refl _)
    refine sV (Ac rfl) ?_
    refine wh h0e<|Ae<|sV2 (Aa rfl) (GS (c:=(wu64 ((wu64 (r1a+r2a))+v0a)).fdiv (2^min (32:Int).toNat IntKind.u64.bits)) (by decide) rfl rfl rfl) ?_
    refine sV (Ac rfl) ?_
    refine wh h3d<|Ae<|sV3 (Aa rfl) (AM (c:=wi64 (v3a+1)) rfl rfl rfl) (Ac rfl) ?_
    refine AG ?_
    exact ih8c _ _ ⟨((wu64 ((wu64 (r1a+r2a))+v0a)).fdiv (2^min (32:Int).toNat IntKind.u64.bits)),(wi64 (v3a+1)),(v4a++([(wu32 (wu64 ((wu64 (r1a+r2a))+v0a)))]:List Int)),A7e,c8e,X0f,(OW.nn ow9e),f6e,(Fr.mk (by kernel_rfl))⟩
   ·refine wp_cond_false (Ai (evb rfl e3b))<|wp_exit ?_
    simp only [Exit.then,Exit.inBlock,↓reduceIte,Nat.reduceEqDiff]
    obtain rfl:=sj f2d
    exact ⟨_,rfl,A6a,c7a,X0b,(OW.nn ow6b),(Fr.mk (by kernel_rfl))⟩
 ·rintro _ w1 ⟨A8a,c9a,X3c,ow1f,⟨t1b,rfl⟩⟩ l'' hl
  simp only [gp,Nat.reduceAdd] at hl
  subst hl
  refine h4c _ _<|wp_seq_k fun _ h2f=>Ae<|sV (Aa rfl) ?_
  obtain ⟨r3f,h4f,f5f⟩:=Ab f7c
  refine sc (Ad JK (by rfl)) (Ce m5a A8a c9a w1 (tbx X3c hT) (OW.rl ow1f) r3f h4f) ?_
  rintro _ w2 E6f ⟨A7f,c8f,rfl,n9f⟩
  refine nrm ?_
  have X0g:=xtr X3c E6f
  refine sV (Ac rfl) ?_
  refine wh h2f<|wp_ret ?_
  obtain rfl:=sj f5f
  exact fin rfl (Res.tmp rfl Res.nil) (Aj X0g ⟨A7f,c8f,rfl,n9f⟩)
theorem Hb (x0:List Int) (x1:List Int) (A1:Option Addr) (c2:Nat) (A4:Option Addr) (c5:Nat) (w:World) (hT:TB w) (n3:RLu w A1 c2 x0) (n6:RLu w A4 c5 x1) (r:List Int) (hr:BY x0 x1=some r) :
  Calls Tryz.prog 199 #[.slice A1 x0.length c2,.slice A4 x1.length c5] w (Ret KA w r):=by
 unfold BY at hr
 go_enter Tryz.func199,Tryz.ntmps199
 refine wp_seq_k fun _ h7=>Ae<|sV (Ac rfl) ?_
 refine wh h7<|wp_seq_k fun _ h8=>Ae<|sV (Ac rfl) ?_
 refine wh h8<|wp_seq_k fun _ h9=>Ae<|sV (Ac rfl) ?_
 refine wh h9<|wp_seq_k fun _ h4c=>wp_seq_k fun _ h5c=>Ae<|sV (Ac rfl) ?_
 refine wh h5c ?_
 obtain ⟨m5a,h6c,f7c⟩:=Ab hr
 refine BX (fun l l' w'=>∃(A8a:Option Addr) (c9a:Nat),Ext w w'∧OW 179 w.heap.size w' A8a m5a.length c9a m5a∧Fr l' (fun t1b=>gp t1b 0 5 (.slice A8a m5a.length c9a::gp t1b 6 27 []))) ?_ ?_
 ·apply wp_block
  refine AP (fun l n5b l' w'=>∃(v0a:Int) (v3a:Int) (v4a:List Int) (A6a:Option Addr) (c7a:Nat),Ext w w'∧OW 179 w.heap.size w' A6a v4a.length c7a v4a∧CS x0 x1 n5b v0a v3a v4a=some m5a∧Fr l' (fun t2b=>.slice A1 x0.length c2::.slice A4 x1.length c5::gp t2b 2 3 (.slice A6a v4a.length c7a::.int .u64 v0a::.int .i64 v3a::gp t2b 8 25 []))) 18446744073709551616 ?_ ?_ ?_
  ·exact ⟨0,0,([]:List Int),none,0,(Ext.refl _),(OW.nn (OW.nil 179 w.heap.size w none)),h6c,(Fr.mk (by simp only [OW.len (OW.nil 179 w.heap.size w none)];kernel_rfl))⟩
  ·rintro l' w' ⟨v0a,v3a,v4a,A6a,c7a,_,_,hz,_⟩
   exact nomatch hz
  ·rintro n5b ih8c _ w1 ⟨v0a,v3a,v4a,A6a,c7a,X0b,ow6b,hr7b,⟨t2b,rfl⟩⟩ l'' hl
   simp only [gp,Nat.reduceAdd] at hl
   subst hl
   unfold CS at hr7b
   refine AV<|wp_seq_k fun _ h9c=>wp_seq_k fun _ h0d=>Ae<|sV3 (Aa rfl) (Aa rfl) (Ax AH rfl) ?_
   refine sb (Cj rfl rfl) fun z8b hz8b=>?_
   refine nrm ?_
   refine wh h0d ?_
   rcases zi hz8b hr7b with ⟨e3b,_,f1d⟩ | ⟨e3b,_,f2d⟩
   ·refine wp_cond_true (Ai (evb rfl e3b))<|wp_skip<|h9c _ _<|wp_seq_k fun _ h3d=>?_
    apply wp_block
    refine wp_seq_k fun _ h4d=>Ae<|sV2 (Aa rfl) (Aa rfl) ?_
    obtain ⟨r1a,h5d,f6d⟩:=Ab f1d
    refine sc (Ad IM (by rfl)) (BI x0 v3a A1 c2 w1 (tbx X0b hT) (n3.ext X0b) r1a h5d) ?_
    rintro _ w2 E9b rfl
    refine nrm ?_
    have X4b:=xtr X0b E9b
    refine sV2 (Aa rfl) (Aa rfl) ?_
    obtain ⟨r2a,h7d,f8d⟩:=Ab f6d
    refine sc (Ad IM (by rfl)) (BI x1 v3a A4 c5 w2 (tbx X4b hT) (n6.ext X4b) r2a h7d) ?_
    rintro _ w3 E0c rfl
    refine nrm ?_
    have X9d:=xtr X4b E0c
    refine sV3 (Ba (c:=wu64 (r1a - r2a)) rfl rfl rfl) (Aa rfl) (Ba (c:=wu64 ((wu64 (r1a - r2a)) - v0a)) rfl rfl rfl) ?_
    refine sV (Ac rfl) ?_
    refine wh h4d<|wp_seq_k fun _ h0e=>Ae<|sV3 (Aa rfl) (Aa rfl) (AE (c:=wu32 (wu64 ((wu64 (r1a - r2a)) - v0a))) AD AF rfl rfl) ?_
    refine Cv (vals:=[(0,.int .u32 (wu32 (wu64 ((wu64 (r1a - r2a)) - v0a))))]) (cs:=[.int .u32 (wu32 (wu64 ((wu64 (r1a - r2a)) - v0a)))]) AH An Ge (by rfl) (by decide) (by kernel_rfl) fun b1e w4 E1c g1g q2e=>?_
    refine nrm ?_
    have X2c:=xtr X9d E1c
    have n3e:RLu w4 (some ⟨b1e,0,none⟩) 1 [(wu32 (wu64 ((wu64 (r1a - r2a)) - v0a)))]:=(OW.lit (n0:=0) (n:=1) (xs:=[(wu32 (wu64 ((wu64 (r1a - r2a)) - v0a)))]) q2e (Nat.zero_le _) rfl (by decide)).rl
    have ow4e:=((ow6b.ext E9b).ext E0c).ext E1c
    obtain ⟨_,h5e,f6e⟩:=Ab f8d
    have gd512:=Az h5e
    refine Jf AH CJ rfl rfl rfl ow4e n3e gd512 X2c.size fun A7e c8e w5 B515 ow9e=>?_
    refine nrm ?_
    have X0f:=xO X2c B515 (Nat.le_refl _)
    refine sV (Ac rfl) ?_
    refine wh h0e<|Ae<|sV2 (Aa rfl) (GS (c:=(wu64 ((wu64 (r1a - r2a)) - v0a)).fdiv (2^min (63:Int).toNat IntKind.u64.bits)) (by decide) rfl rfl rfl) ?_
    refine sV (Ac rfl) ?_
    refine wh h3d<|Ae<|sV3 (Aa rfl) (AM (c:=wi64 (v3a+1)) rfl rfl rfl) (Ac rfl) ?_
    refine AG ?_
    exact ih8c _ _ ⟨((wu64 ((wu64 (r1a - r2a)) - v0a)).fdiv (2^min (63:Int).toNat IntKind.u64.bits)),(wi64 (v3a+1)),(v4a++([(wu32 (wu64 ((wu64 (r1a - r2a)) - v0a)))]:List Int)),A7e,c8e,X0f,(OW.nn ow9e),f6e,(Fr.mk (by kernel_rfl))⟩
   ·refine wp_cond_false (Ai (evb rfl e3b))<|wp_exit ?_
    simp only [Exit.then,Exit.inBlock,↓reduceIte,Nat.reduceEqDiff]
    obtain rfl:=sj f2d
    exact ⟨_,rfl,A6a,c7a,X0b,(OW.nn ow6b),(Fr.mk (by kernel_rfl))⟩
 ·rintro _ w1 ⟨A8a,c9a,X3c,ow1f,⟨t1b,rfl⟩⟩ l'' hl
  simp only [gp,Nat.reduceAdd] at hl
  subst hl
  refine h4c _ _<|wp_seq_k fun _ h2f=>Ae<|sV (Aa rfl) ?_
  obtain ⟨r3f,h4f,f5f⟩:=Ab f7c
  refine sc (Ad JK (by rfl)) (Ce m5a A8a c9a w1 (tbx X3c hT) (OW.rl ow1f) r3f h4f) ?_
  rintro _ w2 E6f ⟨A7f,c8f,rfl,n9f⟩
  refine nrm ?_
  have X0g:=xtr X3c E6f
  refine sV (Ac rfl) ?_
  refine wh h2f<|wp_ret ?_
  obtain rfl:=sj f5f
  exact fin rfl (Res.tmp rfl Res.nil) (Aj X0g ⟨A7f,c8f,rfl,n9f⟩)
theorem HZ (x0:List Int) (x1:List Int) (A1:Option Addr) (c2:Nat) (A4:Option Addr) (c5:Nat) (w:World) (hT:TB w) (n3:RLu w A1 c2 x0) (n6:RLu w A4 c5 x1) (r:List Int) (hr:Cy x0 x1=some r) :
  Calls Tryz.prog 200 #[.slice A1 x0.length c2,.slice A4 x1.length c5] w (Ret KA w r):=by
 unfold Cy at hr
 go_enter Tryz.func200,Tryz.ntmps200
 refine wp_seq_k fun _ h7=>Ae<|sV (Ac rfl) ?_
 refine wh h7<|wp_seq_k fun _ h8=>Ae<|sV3 (Aa rfl) (Ax AH rfl) (Aa rfl) ?_
 refine sV2 (Ax AH rfl) (AM (c:=wi64 ((x0.length:Int)+(x1.length:Int))) rfl rfl rfl) ?_
 obtain ⟨_,h9,f1e⟩:=Ab hr
 have gd11:=Az h9
 refine GV AH CJ rfl rfl gd11 fun A1a w1 E2e ow3e=>?_
 refine nrm ?_
 refine sV (Ac rfl) ?_
 refine wh h8<|wp_seq_k fun _ h4e=>wp_seq_k fun _ h5e=>Ae<|sV (Ac rfl) ?_
 refine wh h5e ?_
 obtain ⟨m2b,h6e,f7e⟩:=Ab f1e
 refine BX (fun l l' w'=>Ext w w'∧OW 179 w.heap.size w' A1a (((wi64 ((x0.length:Int)+(x1.length:Int))):Int).toNat) (((wi64 ((x0.length:Int)+(x1.length:Int))):Int).toNat) m2b∧Fr l' (fun t3b=>gp t3b 0 5 (.slice A1a (((wi64 ((x0.length:Int)+(x1.length:Int))):Int).toNat) (((wi64 ((x0.length:Int)+(x1.length:Int))):Int).toNat)::gp t3b 6 62 []))) ?_ ?_
 ·apply wp_block
  refine AP (fun l n3c l' w'=>∃(v0a:Int) (v7a:List Int),Ext w w'∧OW 179 w.heap.size w' A1a (((wi64 ((x0.length:Int)+(x1.length:Int))):Int).toNat) (((wi64 ((x0.length:Int)+(x1.length:Int))):Int).toNat) v7a∧CR x0 x1 n3c v0a v7a=some m2b∧Fr l' (fun t4b=>.slice A1 x0.length c2::.slice A4 x1.length c5::gp t4b 2 3 (.slice A1a (((wi64 ((x0.length:Int)+(x1.length:Int))):Int).toNat) (((wi64 ((x0.length:Int)+(x1.length:Int))):Int).toNat)::.int .i64 v0a::gp t4b 7 61 []))) 18446744073709551616 ?_ ?_ ?_
  ·exact ⟨0,(List.replicate ((wi64 ((x0.length:Int)+(x1.length:Int))):Int).toNat (0:Int)),E2e,ow3e,h6e,(Fr.mk (by kernel_rfl))⟩
  ·rintro l' w' ⟨v0a,v7a,_,_,hz,_⟩
   exact nomatch hz
  ·rintro n3c ih8e _ w2 ⟨v0a,v7a,X4c,ow5c,hr6c,⟨t4b,rfl⟩⟩ l'' hl
   simp only [gp,Nat.reduceAdd] at hl
   subst hl
   unfold CR at hr6c
   refine AV<|wp_seq_k fun _ h9e=>wp_seq_k fun _ h0f=>Ae<|sV3 (Aa rfl) (Aa rfl) (Ax AH rfl) ?_
   refine sb (Cj rfl rfl) fun z7c hz7c=>?_
   refine nrm ?_
   refine wh h0f ?_
   rcases zi hz7c hr6c with ⟨e5b,_,f1f⟩ | ⟨e5b,_,f2f⟩
   ·refine wp_cond_true (Ai (evb rfl e5b))<|wp_skip<|h9e _ _<|wp_seq_k fun _ h3f=>?_
    obtain ⟨m8c,h4f,f5f⟩:=Ab f1f
    refine BX (fun l l' w'=>Ext w w'∧OW 179 w.heap.size w' A1a (((wi64 ((x0.length:Int)+(x1.length:Int))):Int).toNat) (((wi64 ((x0.length:Int)+(x1.length:Int))):Int).toNat) m8c∧Fr l' (fun t6b=>.slice A1 x0.length c2::.slice A4 x1.length c5::gp t6b 2 3 (.slice A1a (((wi64 ((x0.length:Int)+(x1.length:Int))):Int).toNat) (((wi64 ((x0.length:Int)+(x1.length:Int))):Int).toNat)::.int .i64 v0a::gp t6b 7 61 []))) ?_ ?_
    ·apply wp_block
     refine wp_seq_k fun _ h6f=>Ae<|sV (Ac rfl) ?_
     refine wh h6f<|wp_seq_k fun _ h7f=>wp_seq_k fun _ h8f=>Ae<|sV (Ac rfl) ?_
     refine wh h8f ?_
     obtain ⟨m1b,h9f,f0g⟩:=Ab h4f
     refine BX (fun l l' w'=>Ext w w'∧OW 179 w.heap.size w' A1a (((wi64 ((x0.length:Int)+(x1.length:Int))):Int).toNat) (((wi64 ((x0.length:Int)+(x1.length:Int))):Int).toNat) m1b.2∧Fr l' (fun t7b=>.slice A1 x0.length c2::.slice A4 x1.length c5::gp t7b 2 3 (.slice A1a (((wi64 ((x0.length:Int)+(x1.length:Int))):Int).toNat) (((wi64 ((x0.length:Int)+(x1.length:Int))):Int).toNat)::.int .i64 v0a::.int .u64 m1b.1::gp t7b 8 60 []))) ?_ ?_
     ·apply wp_block
      refine AP (fun l n9c l' w'=>∃(v2a:Int) (v3a:Int) (v8a:List Int),Ext w w'∧OW 179 w.heap.size w' A1a (((wi64 ((x0.length:Int)+(x1.length:Int))):Int).toNat) (((wi64 ((x0.length:Int)+(x1.length:Int))):Int).toNat) v8a∧CP x0 x1 v0a n9c v2a v3a v8a=some m1b∧Fr l' (fun t8b=>.slice A1 x0.length c2::.slice A4 x1.length c5::gp t8b 2 3 (.slice A1a (((wi64 ((x0.length:Int)+(x1.length:Int))):Int).toNat) (((wi64 ((x0.length:Int)+(x1.length:Int))):Int).toNat)::.int .i64 v0a::.int .u64 v2a::.int .i64 v3a::gp t8b 9 59 []))) 18446744073709551616 ?_ ?_ ?_
      ·exact ⟨0,0,v7a,X4c,ow5c,h9f,(Fr.mk (by kernel_rfl))⟩
      ·rintro l' w' ⟨v2a,v3a,v8a,_,_,hz,_⟩
       exact nomatch hz
      ·rintro n9c ih1g _ w3 ⟨v2a,v3a,v8a,X0d,ow9a,hr1d,⟨t8b,rfl⟩⟩ l'' hl
       simp only [gp,Nat.reduceAdd] at hl
       subst hl
       unfold CP at hr1d
       refine AV<|wp_seq_k fun _ h2g=>wp_seq_k fun _ h3g=>Ae<|sV3 (Aa rfl) (Aa rfl) (Ax AH rfl) ?_
       refine sb (Cj rfl rfl) fun z2d hz2d=>?_
       refine nrm ?_
       refine wh h3g ?_
       rcases zi hz2d hr1d with ⟨e9b,_,f4g⟩ | ⟨e9b,_,f5g⟩
       ·refine wp_cond_true (Ai (evb rfl e9b))<|wp_skip<|h2g _ _<|wp_seq_k fun _ h6g=>?_
        apply wp_block
        refine wp_seq_k fun _ h7g=>Dn [] 22 mo rfl fun w4 E0b S0c=>have X1c:=xtr X0d E0b;dA 0 rfl (fun _=>Aa rfl) ?_
        refine dA 1 rfl (fun _=>Aa rfl) ?_
        obtain ⟨u4a,h8g,f9g⟩:=Ab f4g
        obtain ⟨bb5216,oo5217,hA0h,ia1h,ib2h,hc5219⟩:=RL.nth (n3.ext X1c) h8g
        refine dA 2 rfl (fun _=>As AH An rfl rfl hA0h ia1h ib2h) ?_
        refine dV 3 rfl (fun _ hw=>Af AQ rfl (CA hc5219 hw)) S0c ?_
        refine dA 4 rfl (fun _=>AE (c:=wu64 u4a) AF AD rfl rfl) ?_
        refine dA 5 rfl (fun _=>Aa rfl) ?_
        refine dA 6 rfl (fun _=>Aa rfl) ?_
        obtain ⟨u5a,h3h,f4h⟩:=Ab f9g
        obtain ⟨bb5225,oo5226,hA5h,ia6h,ib7h,hc5228⟩:=RL.nth (n6.ext X1c) h3h
        refine dA 7 rfl (fun _=>As AH An rfl rfl hA5h ia6h ib7h) ?_
        refine dV 8 rfl (fun _ hw=>Af AQ rfl (CA hc5228 hw)) S0c ?_
        refine dA 9 rfl (fun _=>AE (c:=wu64 u5a) AF AD rfl rfl) ?_
        refine dA 10 rfl (fun _=>Jq (c:=wu64 ((wu64 u4a)*(wu64 u5a))) rfl rfl rfl) ?_
        refine dA 11 rfl (fun _=>Aa rfl) ?_
        refine dA 12 rfl (fun _=>Aa rfl) ?_
        refine dA 13 rfl (fun _=>Aa rfl) ?_
        refine dA 14 rfl (fun _=>AM (c:=wi64 (v0a+v3a)) rfl rfl rfl) ?_
        obtain ⟨u6a,h8h,f9h⟩:=Ab f4h
        obtain ⟨bb5234,hA0i,hz4k,ia1i,ib2i,hc5239⟩:=OW.nthc (ow9a.ext E0b) h8h
        refine dA 15 rfl (fun _=>As AH An rfl rfl hA0i ia1i ib2i) ?_
        refine dV 16 rfl (fun _ hw=>Af AQ rfl (CA hc5239 hw)) S0c ?_
        refine dA 17 rfl (fun _=>AE (c:=wu64 u6a) AF AD rfl rfl) ?_
        refine dA 18 rfl (fun _=>AM (c:=wu64 ((wu64 ((wu64 u4a)*(wu64 u5a)))+(wu64 u6a))) rfl rfl rfl) ?_
        refine dA 19 rfl (fun _=>Aa rfl) ?_
        refine dA 20 rfl (fun _=>AM (c:=wu64 ((wu64 ((wu64 ((wu64 u4a)*(wu64 u5a)))+(wu64 u6a)))+v2a)) rfl rfl rfl) ?_
        refine dA 21 rfl (fun _=>Ac rfl) ?_
        refine Cn (by kernel_rfl) ?_
        refine h7g _ _<|wp_seq_k fun _ h3i=>Ae<|sV3 (Aa rfl) (Aa rfl) (Aa rfl) ?_
        refine sV3 (AM (c:=wi64 (v0a+v3a)) rfl rfl rfl) (Aa rfl) (AE (c:=wu32 (wu64 ((wu64 ((wu64 ((wu64 u4a)*(wu64 u5a)))+(wu64 u6a)))+v2a))) AD AF rfl rfl) ?_
        obtain ⟨u5k,h4i,f5i⟩:=Ab f9h
        obtain ⟨bb5244,hA3d,hz6k,ia4d,ib5d,hc5249⟩:=OW.nthc (ow9a.ext E0b) h4i
        refine sV (As AH An rfl rfl hA3d ia4d ib5d) ?_
        refine KP An rfl rfl (ow9a.ext E0b) hA3d ia4d (by rw [OW.len (ow9a.ext E0b)];exact ib5d) fun w5 B5250 U7k ow6i=>?_
        have X7i:=xO X1c B5250 (Nat.le_refl _)
        refine wh h3i<|Ae<|sV2 (Aa rfl) (GS (c:=(wu64 ((wu64 ((wu64 ((wu64 u4a)*(wu64 u5a)))+(wu64 u6a)))+v2a)).fdiv (2^min (32:Int).toNat IntKind.u64.bits)) (by decide) rfl rfl rfl) ?_
        refine sV (Ac rfl) ?_
        refine wh h6g<|Ae<|sV3 (Aa rfl) (AM (c:=wi64 (v3a+1)) rfl rfl rfl) (Ac rfl) ?_
        refine AG ?_
        exact ih1g _ _ ⟨((wu64 ((wu64 ((wu64 ((wu64 u4a)*(wu64 u5a)))+(wu64 u6a)))+v2a)).fdiv (2^min (32:Int).toNat IntKind.u64.bits)),(wi64 (v3a+1)),(List.set v8a ((wi64 (v0a+v3a)):Int).toNat (wu32 (wu64 ((wu64 ((wu64 ((wu64 u4a)*(wu64 u5a)))+(wu64 u6a)))+v2a)))),X7i,ow6i,f5i,(Fr.mk (by kernel_rfl))⟩
       ·refine wp_cond_false (Ai (evb rfl e9b))<|wp_exit ?_
        simp only [Exit.then,Exit.inBlock,↓reduceIte,Nat.reduceEqDiff]
        obtain rfl:=sj f5g
        exact ⟨_,rfl,X0d,ow9a,(Fr.mk (by kernel_rfl))⟩
     ·rintro _ w3 ⟨X8i,ow2c,⟨t7b,rfl⟩⟩ l'' hl
      simp only [gp,Nat.reduceAdd] at hl
      subst hl
      refine h7f _ _<|Ae<|sV3 (Aa rfl) (Aa rfl) (Aa rfl) ?_
      refine sV3 (Ax AH rfl) (AM (c:=wi64 (v0a+(x1.length:Int))) rfl rfl rfl) (Aa rfl) ?_
      refine sV (AE (c:=wu32 m1b.1) AD AF rfl rfl) ?_
      obtain ⟨u8k,h9i,f0j⟩:=Ab f0g
      obtain ⟨bb5257,hA6d,hz9k,ia7d,ib8d,hc5262⟩:=OW.nthc ow2c h9i
      refine sV (As AH An rfl rfl hA6d ia7d ib8d) ?_
      refine KP An rfl rfl ow2c hA6d ia7d (by rw [OW.len ow2c];exact ib8d) fun w4 B5263 U0l ow1j=>?_
      have X2j:=xO X8i B5263 (Nat.le_refl _)
      refine AG ?_
      obtain rfl:=sj f0j
      exact ⟨_,rfl,X2j,ow1j,(Fr.mk (by kernel_rfl))⟩
    ·rintro _ w3 ⟨X3j,ow4j,⟨t6b,rfl⟩⟩ l'' hl
     simp only [gp,Nat.reduceAdd] at hl
     subst hl
     refine h3f _ _<|Ae<|sV3 (Aa rfl) (AM (c:=wi64 (v0a+1)) rfl rfl rfl) (Ac rfl) ?_
     refine AG ?_
     exact ih8e _ _ ⟨(wi64 (v0a+1)),m8c,X3j,ow4j,f5f,(Fr.mk (by kernel_rfl))⟩
   ·refine wp_cond_false (Ai (evb rfl e5b))<|wp_exit ?_
    simp only [Exit.then,Exit.inBlock,↓reduceIte,Nat.reduceEqDiff]
    obtain rfl:=sj f2f
    exact ⟨_,rfl,X4c,ow5c,(Fr.mk (by kernel_rfl))⟩
 ·rintro _ w2 ⟨X9d,ow0e,⟨t3b,rfl⟩⟩ l'' hl
  simp only [gp,Nat.reduceAdd] at hl
  subst hl
  refine h4e _ _<|wp_seq_k fun _ h5j=>Ae<|sV (Aa rfl) ?_
  obtain ⟨r6j,h7j,f8j⟩:=Ab f7e
  refine sc (Ad JK (by simp only [OW.len ow0e];rfl)) (Ce m2b A1a (((wi64 ((x0.length:Int)+(x1.length:Int))):Int).toNat) w2 (tbx X9d hT) (OW.rl ow0e) r6j h7j) ?_
  rintro _ w3 E9j ⟨A0k,c1k,rfl,n2k⟩
  refine nrm ?_
  have X3k:=xtr X9d E9j
  refine sV (Ac rfl) ?_
  refine wh h5j<|wp_ret ?_
  obtain rfl:=sj f8j
  exact fin rfl (Res.tmp rfl Res.nil) (Aj X3k ⟨A0k,c1k,rfl,n2k⟩)
theorem c_sorobanref01_short (x0:List Int) (x1:Int) (A1:Option Addr) (c2:Nat) (w:World) (hT:TB w) (n3:RLu w A1 c2 x0) (r:CD) (hr:Fq x0 x1=some r) :
  Calls Tryz.prog 211 #[.slice A1 x0.length c2,.int .u32 x1] w (Ret Oy w r):=by
 unfold Fq at hr
 go_enter Tryz.func211,Tryz.ntmps211
 refine wp_seq_k fun _ h4=>Ae<|AA Np fun b5 w1 E6 g7 q8=>?_
 refine nrm ?_
 refine wh h4<|wp_seq_k fun _ h9=>Ae<|sV2 (Aa rfl) (Ax AH rfl) ?_
 obtain ⟨_,h2d,f3d⟩:=Ab hr
 have gd12:=Az h2d
 refine GV AH CJ rfl rfl gd12 fun A3a w2 E0c ow4d=>?_
 refine nrm ?_
 have X5d:=xtr E6 E0c
 refine sV (Ac rfl) ?_
 refine wh h9<|wp_seq_k fun _ h6d=>Ae<|sV (Ac rfl) ?_
 refine wh h6d<|wp_seq_k fun _ h7d=>wp_seq_k fun _ h8d=>Ae<|sV3 (Aa rfl) (Ax AH rfl) (Ba (c:=wi64 ((x0.length:Int) - 1)) rfl rfl rfl) ?_
 refine sV (Ac rfl) ?_
 refine wh h8d ?_
 obtain ⟨m4a,h9d,f0e⟩:=Ab f3d
 refine BX (fun l l' w'=>Ext w w'∧Ext w1 w'∧OW 179 w1.heap.size w' A3a (((x0.length:Int):Int).toNat) (((x0.length:Int):Int).toNat) m4a.2∧Fr l' (fun t7a=>gp t7a 0 4 (.pointer (some ⟨b5,0,none⟩)::.slice A3a (((x0.length:Int):Int).toNat) (((x0.length:Int):Int).toNat)::.int .u64 m4a.1::gp t7a 7 37 []))) ?_ ?_
 ·apply wp_block
  refine AP (fun l n1c l' w'=>∃(v0a:Int) (v1a:Int) (v5a:List Int),Ext w w'∧Ext w1 w'∧OW 179 w1.heap.size w' A3a (((x0.length:Int):Int).toNat) (((x0.length:Int):Int).toNat) v5a∧Ct x0 x1 n1c v0a v1a v5a=some m4a∧Fr l' (fun t8a=>.slice A1 x0.length c2::.int .u32 x1::gp t8a 2 2 (.pointer (some ⟨b5,0,none⟩)::.slice A3a (((x0.length:Int):Int).toNat) (((x0.length:Int):Int).toNat)::.int .u64 v0a::.int .i64 v1a::gp t8a 8 36 []))) 18446744073709551616 ?_ ?_ ?_
  ·exact ⟨0,(wi64 ((x0.length:Int) - 1)),(List.replicate ((x0.length:Int):Int).toNat (0:Int)),X5d,E0c,ow4d,h9d,(Fr.mk (by kernel_rfl))⟩
  ·rintro l' w' ⟨v0a,v1a,v5a,_,_,_,hz,_⟩
   exact nomatch hz
  ·rintro n1c ih1e _ w3 ⟨v0a,v1a,v5a,X9a,X2c,ow6a,hr3c,⟨t8a,rfl⟩⟩ l'' hl
   simp only [gp,Nat.reduceAdd] at hl
   subst hl
   unfold Ct at hr3c
   refine AV<|wp_seq_k fun _ h2e=>wp_seq_k fun _ h3e=>Ae<|sV (Aa rfl) ?_
   refine sb (Fu rfl rfl) fun z4c hz4c=>?_
   refine nrm ?_
   refine wh h3e ?_
   rcases zi hz4c hr3c with ⟨e0b,_,f4e⟩ | ⟨e0b,_,f5e⟩
   ·refine wp_cond_true (Ai (evb rfl e0b))<|wp_skip<|h2e _ _<|wp_seq_k fun _ h6e=>?_
    apply wp_block
    refine wp_seq_k fun _ h7e=>Ae<|sV2 (Aa rfl) (JF (c:=wu64 (v0a*2^min (32:Int).toNat IntKind.u64.bits)) (by decide) rfl rfl rfl) ?_
    refine sV2 (Aa rfl) (Aa rfl) ?_
    obtain ⟨u2a,h8e,f9e⟩:=Ab f4e
    obtain ⟨bb328,oo329,hA0f,ia1f,ib2f,hc331⟩:=RL.nth (n3.ext X9a) h8e
    refine sV3 (As AH An rfl rfl hA0f ia1f ib2f) (Af AQ rfl hc331) (AE (c:=wu64 u2a) AF AD rfl rfl) ?_
    refine sV2 (AM (c:=wu64 ((wu64 (v0a*2^min (32:Int).toNat IntKind.u64.bits))+(wu64 u2a))) rfl rfl rfl) (Ac rfl) ?_
    refine wh h7e<|wp_seq_k fun _ h3f=>Ae<|sV3 (Aa rfl) (Aa rfl) (Aa rfl) ?_
    refine sV2 (Aa rfl) (AE (c:=wu64 x1) AF AD rfl rfl) ?_
    obtain ⟨_,h4f,f5f⟩:=Ab f9e
    have gd338:=Az h4f
    refine sV2 (Hj (c:=wu64 ((wu64 ((wu64 (v0a*2^min (32:Int).toNat IntKind.u64.bits))+(wu64 u2a))).tdiv (wu64 x1))) (decide_eq_true gd338) rfl rfl rfl) (AE (c:=wu32 (wu64 ((wu64 ((wu64 (v0a*2^min (32:Int).toNat IntKind.u64.bits))+(wu64 u2a))).tdiv (wu64 x1)))) AD AF rfl rfl) ?_
    obtain ⟨u7h,h6f,f7f⟩:=Ab f5f
    obtain ⟨bb342,hA5c,hz8h,ia6c,ib7c,hc347⟩:=OW.nthc ow6a h6f
    refine sV (As AH An rfl rfl hA5c ia6c ib7c) ?_
    refine KP An rfl rfl ow6a hA5c ia6c (by rw [OW.len ow6a];exact ib7c) fun w4 B348 U9h ow8f=>?_
    have X9f:=xO X9a B348 E6.size
    have X0g:=xO X2c B348 (Nat.le_refl _)
    refine wh h3f<|Ae<|sV3 (Aa rfl) (Aa rfl) (AE (c:=wu64 x1) AF AD rfl rfl) ?_
    obtain ⟨_,h1g,f2g⟩:=Ab f7f
    have gd355:=Az h1g
    refine sV2 (Jr (c:=(wu64 ((wu64 (v0a*2^min (32:Int).toNat IntKind.u64.bits))+(wu64 u2a))).tmod (wu64 x1)) (decide_eq_true gd355) rfl rfl rfl) (Ac rfl) ?_
    refine wh h6e<|Ae<|sV3 (Aa rfl) (Ba (c:=wi64 (v1a - 1)) rfl rfl rfl) (Ac rfl) ?_
    refine AG ?_
    exact ih1e _ _ ⟨((wu64 ((wu64 (v0a*2^min (32:Int).toNat IntKind.u64.bits))+(wu64 u2a))).tmod (wu64 x1)),(wi64 (v1a - 1)),(List.set v5a (v1a:Int).toNat (wu32 (wu64 ((wu64 ((wu64 (v0a*2^min (32:Int).toNat IntKind.u64.bits))+(wu64 u2a))).tdiv (wu64 x1))))),X9f,X0g,ow8f,f2g,(Fr.mk (by kernel_rfl))⟩
   ·refine wp_cond_false (Ai (evb rfl e0b))<|wp_exit ?_
    simp only [Exit.then,Exit.inBlock,↓reduceIte,Nat.reduceEqDiff]
    obtain rfl:=sj f5e
    exact ⟨_,rfl,X9a,X2c,ow6a,(Fr.mk (by kernel_rfl))⟩
 ·rintro _ w3 ⟨X8c,X3g,ow9c,⟨t7a,rfl⟩⟩ l'' hl
  simp only [gp,Nat.reduceAdd] at hl
  subst hl
  refine h7d _ _<|wp_seq_k fun _ h4g=>Ae<|sV (Aa rfl) ?_
  obtain ⟨r1b,h5g,f6g⟩:=Ab f0e
  refine sc (Ad JK (by simp only [OW.len ow9c];rfl)) (Ce m4a.2 A3a (((x0.length:Int):Int).toNat) w3 (tbx X8c hT) (OW.rl ow9c) r1b h5g) ?_
  rintro _ w4 E0d ⟨A2b,c3b,rfl,n7g⟩
  refine nrm ?_
  have X1d:=xtr X8c E0d
  have X8g:=xtr X3g E0d
  refine sV (Aa rfl) ?_
  obtain ⟨r4b,h9g,f0h⟩:=Ab f6g
  refine sc (Ad NH (by rfl)) (Gl m4a.1 w4 (tbx X1d hT)  r4b h9g) ?_
  rintro _ w5 E5b ⟨A6b,c7b,rfl,n1h⟩
  refine nrm ?_
  have X2h:=xtr X1d E5b
  have X8b:=xtr X8g E5b
  refine sV (Bb (vals:=[(0,.slice A2b r1b.length c3b),(1,.slice A6b r4b.length c7b)]) (cells:=[.slice A2b r1b.length c3b,.slice A6b r4b.length c7b]) (by rfl) (by kernel_rfl)) ?_
  refine ss LQ (q8.ext X8b) fun w6 U9b q3h=>?_
  have X4h:=belU X2h U9b g7
  refine wh h4g<|wp_ret ?_
  have n5h:=(n7g.ext E5b).upd U9b (q8.ext X8b) (by decide)
  have n6h:=n1h.upd U9b (q8.ext X8b) (by decide)
  obtain rfl:=sj f0h
  exact fin rfl (Res.cellN rfl No q3h rfl rfl Res.nil) (Aj X4h ⟨A2b,c3b,A6b,c7b,rfl,n5h,n6h⟩)
theorem FQ (x0:List Int) (x1:Int) (A1:Option Addr) (c2:Nat) (w:World) (hT:TB w) (n3:RLu w A1 c2 x0) (r:List Int) (hr:Br x0 x1=some r) :
  Calls Tryz.prog 148 #[.slice A1 x0.length c2,.int .i64 x1] w (Ret KA w r):=by
 unfold Br at hr
 go_enter Tryz.func148,Tryz.ntmps148
 refine wp_seq_k fun _ h4=>Ae<|sV (Ac rfl) ?_
 refine wh h4<|wp_seq_k fun _ h5=>wp_seq_k fun _ h6=>Ae<|sV2 (Aa rfl) (Ax AH rfl) ?_
 refine sb (Bl rfl rfl) fun z7 hz7=>?_
 refine nrm ?_
 refine wh h6 ?_
 rcases zi hz7 hr with ⟨e7a,_,f4c⟩ | ⟨e7a,_,f5c⟩
 ·refine wp_cond_true (Ai (evb rfl e7a))<|wp_seq_k fun _ h6c=>Ae<|sV2 (Aa rfl) (Ac rfl) ?_
  refine wh h6c<|wp_ret ?_
  obtain rfl:=sj f4c
  exact fin rfl (Res.tmp rfl Res.nil) (Aj (Ext.refl _) ⟨A1,c2,rfl,n3⟩)
 ·refine wp_cond_false (Ai (evb rfl e7a))<|wp_skip<|h5 _ _<|wp_seq_k fun _ h7c=>Ae<|sV2 (Aa rfl) (Hj (c:=wi64 (x1.tdiv 32)) (by decide) rfl rfl rfl) ?_
  refine sV2 (Aa rfl) (Hj (c:=wi64 (x1.tdiv 32)) (by decide) rfl rfl rfl) ?_
  refine sV3 (Aa rfl) (Ax AH rfl) (AM (c:=wi64 ((wi64 (x1.tdiv 32))+(x0.length:Int))) rfl rfl rfl) ?_
  refine sV (AM (c:=wi64 ((wi64 ((wi64 (x1.tdiv 32))+(x0.length:Int)))+1)) rfl rfl rfl) ?_
  obtain ⟨_,h8c,f9c⟩:=Ab f5c
  have gd22:=Az h8c
  refine GV AH CJ rfl rfl gd22 fun A0d w1 E1d ow4b=>?_
  refine nrm ?_
  refine sV (Ac rfl) ?_
  refine wh h7c<|wp_seq_k fun _ h2d=>Ae<|sV (Ac rfl) ?_
  refine wh h2d<|wp_seq_k fun _ h3d=>wp_seq_k fun _ h4d=>Ae<|sV (Ac rfl) ?_
  refine wh h4d ?_
  obtain ⟨m1a,h5d,f6d⟩:=Ab f9c
  refine BX (fun l l' w'=>∃(A8a:Option Addr) (c9a:Nat),Ext w w'∧OW 179 w.heap.size w' A8a m1a.2.length c9a m1a.2∧Fr l' (fun t0b=>gp t0b 0 5 (.slice A8a m1a.2.length c9a::.int .u64 m1a.1::gp t0b 7 44 []))) ?_ ?_
  ·apply wp_block
   refine AP (fun l n5b l' w'=>∃(v0a:Int) (v4a:Int) (v3a:List Int) (A5a:Option Addr) (c6a:Nat),Ext w w'∧OW 179 w.heap.size w' A5a v3a.length c6a v3a∧BG x0 x1 n5b v0a v4a v3a=some m1a∧Fr l' (fun t1b=>.slice A1 x0.length c2::.int .i64 x1::gp t1b 2 3 (.slice A5a v3a.length c6a::.int .u64 v0a::.int .i64 v4a::gp t1b 8 43 []))) 18446744073709551616 ?_ ?_ ?_
   ·exact ⟨0,0,(List.replicate ((wi64 (x1.tdiv 32)):Int).toNat (0:Int)),A0d,(((wi64 ((wi64 ((wi64 (x1.tdiv 32))+(x0.length:Int)))+1)):Int).toNat),E1d,(OW.nn ow4b),h5d,(Fr.mk (by simp only [OW.len ow4b];kernel_rfl))⟩
   ·rintro l' w' ⟨v0a,v4a,v3a,A5a,c6a,_,_,hz,_⟩
    exact nomatch hz
   ·rintro n5b ih7d _ w2 ⟨v0a,v4a,v3a,A5a,c6a,X2b,ow6b,hr7b,⟨t1b,rfl⟩⟩ l'' hl
    simp only [gp,Nat.reduceAdd] at hl
    subst hl
    unfold BG at hr7b
    refine AV<|wp_seq_k fun _ h8d=>wp_seq_k fun _ h9d=>Ae<|sV3 (Aa rfl) (Aa rfl) (Ax AH rfl) ?_
    refine sb (Cj rfl rfl) fun z8b hz8b=>?_
    refine nrm ?_
    refine wh h9d ?_
    rcases zi hz8b hr7b with ⟨e3b,_,f0e⟩ | ⟨e3b,_,f1e⟩
    ·refine wp_cond_true (Ai (evb rfl e3b))<|wp_skip<|h8d _ _<|wp_seq_k fun _ h2e=>?_
     apply wp_block
     refine wp_seq_k fun _ h3e=>Ae<|sV2 (Aa rfl) (Aa rfl) ?_
     obtain ⟨u2a,h4e,f5e⟩:=Ab f0e
     obtain ⟨bb330,oo331,hA6e,ia7e,ib8e,hc333⟩:=RL.nth (n3.ext X2b) h4e
     refine sV3 (As AH An rfl rfl hA6e ia7e ib8e) (Af AQ rfl hc333) (AE (c:=wu64 u2a) AF AD rfl rfl) ?_
     refine sV2 (Aa rfl) (Jr (c:=x1.tmod 32) (by decide) rfl rfl rfl) ?_
     obtain ⟨_,h9e,f0f⟩:=Ab f5e
     have gd339:=Az h9e
     refine sV3 (JF (c:=wu64 ((wu64 u2a)*2^min ((x1.tmod 32):Int).toNat IntKind.u64.bits)) gd339 rfl rfl rfl) (Aa rfl) (AM (c:=wu64 ((wu64 ((wu64 u2a)*2^min ((x1.tmod 32):Int).toNat IntKind.u64.bits))+v0a)) rfl rfl rfl) ?_
     refine sV (Ac rfl) ?_
     refine wh h3e<|wp_seq_k fun _ h1f=>Ae<|sV3 (Aa rfl) (Aa rfl) (AE (c:=wu32 (wu64 ((wu64 ((wu64 u2a)*2^min ((x1.tmod 32):Int).toNat IntKind.u64.bits))+v0a))) AD AF rfl rfl) ?_
     refine Cv (vals:=[(0,.int .u32 (wu32 (wu64 ((wu64 ((wu64 u2a)*2^min ((x1.tmod 32):Int).toNat IntKind.u64.bits))+v0a))))]) (cs:=[.int .u32 (wu32 (wu64 ((wu64 ((wu64 u2a)*2^min ((x1.tmod 32):Int).toNat IntKind.u64.bits))+v0a)))]) AH An Ge (by rfl) (by decide) (by kernel_rfl) fun b2f w3 E9b g0i q3f=>?_
     refine nrm ?_
     have X0c:=xtr X2b E9b
     have n4f:RLu w3 (some ⟨b2f,0,none⟩) 1 [(wu32 (wu64 ((wu64 ((wu64 u2a)*2^min ((x1.tmod 32):Int).toNat IntKind.u64.bits))+v0a)))]:=(OW.lit (n0:=0) (n:=1) (xs:=[(wu32 (wu64 ((wu64 ((wu64 u2a)*2^min ((x1.tmod 32):Int).toNat IntKind.u64.bits))+v0a)))]) q3f (Nat.zero_le _) rfl (by decide)).rl
     obtain ⟨_,h5f,f6f⟩:=Ab f0f
     have gd349:=Az h5f
     refine Jf AH CJ rfl rfl rfl (ow6b.ext E9b) n4f gd349 X0c.size fun A7f c8f w4 B352 ow9f=>?_
     refine nrm ?_
     have X0g:=xO X0c B352 (Nat.le_refl _)
     refine sV (Ac rfl) ?_
     refine wh h1f<|Ae<|sV2 (Aa rfl) (GS (c:=(wu64 ((wu64 ((wu64 u2a)*2^min ((x1.tmod 32):Int).toNat IntKind.u64.bits))+v0a)).fdiv (2^min (32:Int).toNat IntKind.u64.bits)) (by decide) rfl rfl rfl) ?_
     refine sV (Ac rfl) ?_
     refine wh h2e<|Ae<|sV3 (Aa rfl) (AM (c:=wi64 (v4a+1)) rfl rfl rfl) (Ac rfl) ?_
     refine AG ?_
     exact ih7d _ _ ⟨((wu64 ((wu64 ((wu64 u2a)*2^min ((x1.tmod 32):Int).toNat IntKind.u64.bits))+v0a)).fdiv (2^min (32:Int).toNat IntKind.u64.bits)),(wi64 (v4a+1)),(v3a++([(wu32 (wu64 ((wu64 ((wu64 u2a)*2^min ((x1.tmod 32):Int).toNat IntKind.u64.bits))+v0a)))]:List Int)),A7f,c8f,X0g,(OW.nn ow9f),f6f,(Fr.mk (by kernel_rfl))⟩
    ·refine wp_cond_false (Ai (evb rfl e3b))<|wp_exit ?_
     simp only [Exit.then,Exit.inBlock,↓reduceIte,Nat.reduceEqDiff]
     obtain rfl:=sj f1e
     exact ⟨_,rfl,A5a,c6a,X2b,(OW.nn ow6b),(Fr.mk (by kernel_rfl))⟩
  ·rintro _ w2 ⟨A8a,c9a,X1g,ow2g,⟨t0b,rfl⟩⟩ l'' hl
   simp only [gp,Nat.reduceAdd] at hl
   subst hl
   refine h3d _ _<|wp_seq_k fun _ h3g=>Ae<|sV3 (Aa rfl) (Aa rfl) (AE (c:=wu32 m1a.1) AD AF rfl rfl) ?_
   refine Cv (vals:=[(0,.int .u32 (wu32 m1a.1))]) (cs:=[.int .u32 (wu32 m1a.1)]) AH An Ge (by rfl) (by decide) (by kernel_rfl) fun b4g w3 E1c g1i q5g=>?_
   refine nrm ?_
   have X2c:=xtr X1g E1c
   have n6g:RLu w3 (some ⟨b4g,0,none⟩) 1 [(wu32 m1a.1)]:=(OW.lit (n0:=0) (n:=1) (xs:=[(wu32 m1a.1)]) q5g (Nat.zero_le _) rfl (by decide)).rl
   obtain ⟨_,h7g,f8g⟩:=Ab f6d
   have gd364:=Az h7g
   refine Jf AH CJ rfl rfl rfl (ow2g.ext E1c) n6g gd364 X2c.size fun A9g c0h w4 B367 ow1h=>?_
   refine nrm ?_
   have X3c:=xO X2c B367 (Nat.le_refl _)
   obtain ⟨r2h,h3h,f4h⟩:=Ab f8g
   refine sc (Ad JK (by rfl)) (Ce (m1a.2++([(wu32 m1a.1)]:List Int)) A9g c0h w4 (tbx X3c hT) (OW.rl ow1h) r2h h3h) ?_
   rintro _ w5 E5h ⟨A6h,c7h,rfl,n8h⟩
   refine nrm ?_
   have X9h:=xtr X3c E5h
   refine sV (Ac rfl) ?_
   refine wh h3g<|wp_ret ?_
   obtain rfl:=sj f4h
   exact fin rfl (Res.tmp rfl Res.nil) (Aj X9h ⟨A6h,c7h,rfl,n8h⟩)
theorem Hd (x0:List Int) (x1:Int) (A1:Option Addr) (c2:Nat) (w:World) (hT:TB w) (n3:RLu w A1 c2 x0) (r:List Int) (hr:BZ x0 x1=some r) :
  Calls Tryz.prog 154 #[.slice A1 x0.length c2,.int .i64 x1] w (Ret KA w r):=by
 unfold BZ at hr
 go_enter Tryz.func154,Tryz.ntmps154
 refine wp_seq_k fun _ h4=>Ae<|sV (Ac rfl) ?_
 refine wh h4<|wp_seq_k fun _ h5=>wp_seq_k fun _ h6=>Ae<|sV2 (Aa rfl) (Hj (c:=wi64 (x1.tdiv 32)) (by decide) rfl rfl rfl) ?_
 refine sV2 (Aa rfl) (Ax AH rfl) ?_
 refine sb (Fu rfl rfl) fun z7 hz7=>?_
 refine nrm ?_
 refine wh h6 ?_
 rcases zi hz7 hr with ⟨e0b,_,f4c⟩ | ⟨e0b,_,f5c⟩
 ·refine wp_cond_true (Ai (evb rfl e0b))<|wp_seq_k fun _ h6c=>Ae<|sV (Ac rfl) ?_
  refine wh h6c<|wp_ret ?_
  obtain rfl:=sj f4c
  exact fin rfl (Res.tmp rfl Res.nil) (Aj (Ext.refl _) ⟨none,0,rfl,(RL.nil _ _ _)⟩)
 ·refine wp_cond_false (Ai (evb rfl e0b))<|wp_skip<|h5 _ _<|wp_seq_k fun _ h7c=>Ae<|sV (Ac rfl) ?_
  refine wh h7c<|wp_seq_k fun _ h8c=>wp_seq_k fun _ h9c=>Ae<|sV2 (Aa rfl) (Hj (c:=wi64 (x1.tdiv 32)) (by decide) rfl rfl rfl) ?_
  refine sV (Ac rfl) ?_
  refine wh h9c ?_
  obtain ⟨m4a,h0d,f1d⟩:=Ab f5c
  refine BX (fun l l' w'=>∃(A7a:Option Addr) (c8a:Nat),Ext w w'∧OW 179 w.heap.size w' A7a m4a.length c8a m4a∧Fr l' (fun t1b=>gp t1b 0 5 (.slice A7a m4a.length c8a::gp t1b 6 34 []))) ?_ ?_
  ·apply wp_block
   refine AP (fun l n5b l' w'=>∃(v1a:Int) (v3a:List Int) (A5a:Option Addr) (c6a:Nat),Ext w w'∧OW 179 w.heap.size w' A5a v3a.length c6a v3a∧Dz x0 x1 n5b v1a v3a=some m4a∧Fr l' (fun t2b=>.slice A1 x0.length c2::.int .i64 x1::gp t2b 2 3 (.slice A5a v3a.length c6a::.int .i64 v1a::gp t2b 7 33 []))) 18446744073709551616 ?_ ?_ ?_
   ·exact ⟨(wi64 (x1.tdiv 32)),([]:List Int),none,0,(Ext.refl _),(OW.nn (OW.nil 179 w.heap.size w none)),h0d,(Fr.mk (by simp only [OW.len (OW.nil 179 w.heap.size w none)];kernel_rfl))⟩
   ·rintro l' w' ⟨v1a,v3a,A5a,c6a,_,_,hz,_⟩
    exact nomatch hz
   ·rintro n5b ih2d _ w1 ⟨v1a,v3a,A5a,c6a,X9a,ow6b,hr7b,⟨t2b,rfl⟩⟩ l'' hl
    simp only [gp,Nat.reduceAdd] at hl
    subst hl
    unfold Dz at hr7b
    refine AV<|wp_seq_k fun _ h3d=>wp_seq_k fun _ h4d=>Ae<|sV3 (Aa rfl) (Aa rfl) (Ax AH rfl) ?_
    refine sb (Cj rfl rfl) fun z8b hz8b=>?_
    refine nrm ?_
    refine wh h4d ?_
    rcases zi hz8b hr7b with ⟨e3b,_,f5d⟩ | ⟨e3b,_,f6d⟩
    ·refine wp_cond_true (Ai (evb rfl e3b))<|wp_skip<|h3d _ _<|wp_seq_k fun _ h7d=>?_
     apply wp_block
     refine wp_seq_k fun _ h8d=>Ae<|sV3 (Aa rfl) (Aa rfl) (AM (c:=wi64 (v1a+1)) rfl rfl rfl) ?_
     obtain ⟨r0a,h9d,f0e⟩:=Ab f5d
     refine sc (Ad IM (by rfl)) (BI x0 (wi64 (v1a+1)) A1 c2 w1 (tbx X9a hT) (n3.ext X9a) r0a h9d) ?_
     rintro _ w2 E9b rfl
     refine nrm ?_
     have X4b:=xtr X9a E9b
     refine sV (JF (c:=wu64 (r0a*2^min (32:Int).toNat IntKind.u64.bits)) (by decide) rfl rfl rfl) ?_
     refine sV2 (Aa rfl) (Aa rfl) ?_
     obtain ⟨r2a,h1e,f2e⟩:=Ab f0e
     refine sc (Ad IM (by rfl)) (BI x0 v1a A1 c2 w2 (tbx X4b hT) (n3.ext X4b) r2a h1e) ?_
     rintro _ w3 E0c rfl
     refine nrm ?_
     have X3e:=xtr X4b E0c
     refine sV3 (AM (c:=wu64 ((wu64 (r0a*2^min (32:Int).toNat IntKind.u64.bits))+r2a)) rfl rfl rfl) (Aa rfl) (Jr (c:=x1.tmod 32) (by decide) rfl rfl rfl) ?_
     obtain ⟨_,h4e,f5e⟩:=Ab f2e
     have gd526:=Az h4e
     refine sV2 (GS (c:=(wu64 ((wu64 (r0a*2^min (32:Int).toNat IntKind.u64.bits))+r2a)).fdiv (2^min ((x1.tmod 32):Int).toNat IntKind.u64.bits)) gd526 rfl rfl rfl) (Ac rfl) ?_
     refine wh h8d<|Ae<|sV3 (Aa rfl) (Aa rfl) (AE (c:=wu32 ((wu64 ((wu64 (r0a*2^min (32:Int).toNat IntKind.u64.bits))+r2a)).fdiv (2^min ((x1.tmod 32):Int).toNat IntKind.u64.bits))) AD AF rfl rfl) ?_
     refine Cv (vals:=[(0,.int .u32 (wu32 ((wu64 ((wu64 (r0a*2^min (32:Int).toNat IntKind.u64.bits))+r2a)).fdiv (2^min ((x1.tmod 32):Int).toNat IntKind.u64.bits))))]) (cs:=[.int .u32 (wu32 ((wu64 ((wu64 (r0a*2^min (32:Int).toNat IntKind.u64.bits))+r2a)).fdiv (2^min ((x1.tmod 32):Int).toNat IntKind.u64.bits)))]) AH An Ge (by rfl) (by decide) (by kernel_rfl) fun b6e w4 E1c g6g q7e=>?_
     refine nrm ?_
     have X2c:=xtr X3e E1c
     have n8e:RLu w4 (some ⟨b6e,0,none⟩) 1 [(wu32 ((wu64 ((wu64 (r0a*2^min (32:Int).toNat IntKind.u64.bits))+r2a)).fdiv (2^min ((x1.tmod 32):Int).toNat IntKind.u64.bits)))]:=(OW.lit (n0:=0) (n:=1) (xs:=[(wu32 ((wu64 ((wu64 (r0a*2^min (32:Int).toNat IntKind.u64.bits))+r2a)).fdiv (2^min ((x1.tmod 32):Int).toNat IntKind.u64.bits)))]) q7e (Nat.zero_le _) rfl (by decide)).rl
     have ow9e:=((ow6b.ext E9b).ext E0c).ext E1c
     obtain ⟨_,h0f,f1f⟩:=Ab f5e
     have gd536:=Az h0f
     refine Jf AH CJ rfl rfl rfl ow9e n8e gd536 X2c.size fun A2f c3f w5 B539 ow4f=>?_
     refine nrm ?_
     have X5f:=xO X2c B539 (Nat.le_refl _)
     refine sV (Ac rfl) ?_
     refine wh h7d<|Ae<|sV3 (Aa rfl) (AM (c:=wi64 (v1a+1)) rfl rfl rfl) (Ac rfl) ?_
     refine AG ?_
     exact ih2d _ _ ⟨(wi64 (v1a+1)),(v3a++([(wu32 ((wu64 ((wu64 (r0a*2^min (32:Int).toNat IntKind.u64.bits))+r2a)).fdiv (2^min ((x1.tmod 32):Int).toNat IntKind.u64.bits)))]:List Int)),A2f,c3f,X5f,(OW.nn ow4f),f1f,(Fr.mk (by kernel_rfl))⟩
    ·refine wp_cond_false (Ai (evb rfl e3b))<|wp_exit ?_
     simp only [Exit.then,Exit.inBlock,↓reduceIte,Nat.reduceEqDiff]
     obtain rfl:=sj f6d
     exact ⟨_,rfl,A5a,c6a,X9a,(OW.nn ow6b),(Fr.mk (by kernel_rfl))⟩
  ·rintro _ w1 ⟨A7a,c8a,X3c,ow6f,⟨t1b,rfl⟩⟩ l'' hl
   simp only [gp,Nat.reduceAdd] at hl
   subst hl
   refine h8c _ _<|wp_seq_k fun _ h7f=>Ae<|sV (Aa rfl) ?_
   obtain ⟨r8f,h9f,f0g⟩:=Ab f1d
   refine sc (Ad JK (by rfl)) (Ce m4a A7a c8a w1 (tbx X3c hT) (OW.rl ow6f) r8f h9f) ?_
   rintro _ w2 E1g ⟨A2g,c3g,rfl,n4g⟩
   refine nrm ?_
   have X5g:=xtr X3c E1g
   refine sV (Ac rfl) ?_
   refine wh h7f<|wp_ret ?_
   obtain rfl:=sj f0g
   exact fin rfl (Res.tmp rfl Res.nil) (Aj X5g ⟨A2g,c3g,rfl,n4g⟩)
theorem c_sorobanref01_Trim_o (x0:List Int) (A1:Option Addr) (c2:Nat) (w:World) (hT:TB w) (n3:RLu w A1 c2 x0) (r:List Int) (hr:EM x0=some r) :
  Calls Tryz.prog 210 #[.slice A1 x0.length c2] w (Ret (repo w) w r):=by
 unfold EM at hr
 go_enter Tryz.func210,Tryz.ntmps210
 refine wp_seq_k fun _ h4=>Ae<|sV (Ac rfl) ?_
 refine wh h4<|wp_seq_k fun _ h5=>Ae<|sV3 (Aa rfl) (Ax AH rfl) (Ac rfl) ?_
 refine wh h5<|wp_seq_k fun _ h6=>?_
 obtain ⟨m4a,h5b,f6b⟩:=Ab hr
 refine BX (fun l l' w'=>w=w'∧Fr l' (fun t6a=>.slice A1 x0.length c2::gp t6a 1 2 (.int .i64 m4a::gp t6a 4 19 []))) ?_ ?_
 ·apply wp_block
  refine AP (fun l n2b l' w'=>∃(v2a:Int) (t3a:Nat→Value),w=w'∧Dm x0 n2b v2a=some m4a∧Fr l' (fun t5a=>.slice A1 x0.length c2::gp t5a 1 2 (.int .i64 v2a::gp t5a 4 5 ((t3a 0)::(t3a 1)::(t3a 2)::(t3a 3)::(t3a 4)::(t3a 5)::gp t5a 15 8 [])))) 18446744073709551616 ?_ ?_ ?_
  ·exact ⟨(x0.length:Int),(tk [uu,uu,uu,uu,uu,uu]),(by trivial),h5b,(Fr.mk (by kernel_rfl))⟩
  ·rintro l' w' ⟨v2a,t3a,_,hz,_⟩
   exact nomatch hz
  ·rintro n2b ih7b _ _ ⟨v2a,t3a,rfl,hr3b,⟨t5a,rfl⟩⟩ l'' hl
   simp only [gp,Nat.reduceAdd] at hl
   subst hl
   unfold Dm at hr3b
   refine AV<|wp_seq_k fun _ h8b=>wp_seq_k fun _ h9b=>Ae<|sV (Aa rfl) ?_
   refine sb (EX rfl rfl) fun z4b hz4b=>?_
   refine nrm ?_
   refine sV (Aa rfl) ?_
   obtain ⟨m0c,h1c,f2c⟩:=Ab hr3b
   refine Bm 10 (fun l l' w'=>∃(t1a:Nat→Value),w=w'∧l'=(((((((l.set 9 (t1a 0)).set 10 (t1a 1)).set 11 (t1a 2)).set 12 (t1a 3)).set 13 (t1a 4)).set 14 (t1a 5)).set 15 (.bool m0c))) ?_ ?_
   ·intro HJ307
    rcases zi hz4b h1c with ⟨e0a,_,f3c⟩ | ⟨e0a,_,f4c⟩
    ·refine sV (Aa rfl) ?_ (hw:=wgT rfl e0a)
     refine sV (Aa rfl) ?_ (hw:=wgT rfl e0a)
     refine sV (Ba (c:=wi64 (v2a - 1)) rfl rfl rfl) ?_ (hw:=wgT rfl e0a)
     obtain ⟨u7a,h5c,f6c⟩:=Ab f3c
     obtain ⟨bb316,oo317,hA7c,ia8c,ib9c,hc319⟩:=RL.nth n3 h5c
     refine sV (As AH An rfl rfl hA7c ia8c ib9c) ?_ (hw:=wgT rfl e0a)
     refine sV (Af AQ rfl hc319) ?_ (hw:=wgT rfl e0a)
     refine sb (Bl rfl rfl) ?_ (hw:=wgT rfl e0a)
     intro z8a hz8a
     refine nrm ?_
     refine sV (Ar (evb rfl e0a) rfl) ?_
     obtain rfl:z8a=decide (u7a=0):=bz hz8a
     obtain rfl:=sj f6c
     exact HJ307 _ _ ⟨(tk [.slice A1 x0.length c2,.int .i64 v2a,.int .i64 (wi64 (v2a - 1)),.pointer (some ⟨bb316,oo317+((wi64 (v2a - 1)):Int).toNat,none⟩),.int .u32 u7a,.bool (decide (u7a=0))]),(by trivial),(by simp only [S0,S1]<;>rfl)⟩
    ·refine sP ?_ (hw:=wgF rfl e0a)
     refine sP ?_ (hw:=wgF rfl e0a)
     refine sP ?_ (hw:=wgF rfl e0a)
     refine sP ?_ (hw:=wgF rfl e0a)
     refine sP ?_ (hw:=wgF rfl e0a)
     refine sP ?_ (hw:=wgF rfl e0a)
     refine sV (Aw (evb rfl e0a) rfl) ?_
     obtain rfl:=sj f4c
     exact HJ307 _ _ ⟨(tk [uu,uu,uu,uu,uu,uu]),(by trivial),(by simp only [S0,S1]<;>rfl)⟩
   ·rintro l' _ ⟨t1a,rfl,hq'⟩ l'' hl
    rw [hq'] at hl
    clear hq'
    simp only [S0,S1] at hl
    subst hl
    refine wh h9b ?_
    rcases zb f2c with ⟨e9a,f0d⟩ | ⟨e9a,f1d⟩
    ·refine wp_cond_true (Ai (evb rfl e9a))<|wp_skip<|h8b _ _ ?_
     apply wp_block
     refine Ae<|sV3 (Aa rfl) (Ba (c:=wi64 (v2a - 1)) rfl rfl rfl) (Ac rfl) ?_
     refine AG ?_
     exact ih7b _ _ ⟨(wi64 (v2a - 1)),(tk [t1a 0,t1a 1,t1a 2,t1a 3,t1a 4,t1a 5]),(by trivial),f0d,(Fr.mk (by kernel_rfl))⟩
    ·refine wp_cond_false (Ai (evb rfl e9a))<|wp_exit ?_
     simp only [Exit.then,Exit.inBlock,↓reduceIte,Nat.reduceEqDiff]
     obtain rfl:=sj f1d
     exact ⟨_,rfl,(by trivial),(Fr.mk (by kernel_rfl))⟩
 ·rintro _ _ ⟨rfl,⟨t6a,rfl⟩⟩ l'' hl
  simp only [gp,Nat.reduceAdd] at hl
  subst hl
  refine h6 _ _<|wp_seq_k fun _ h2d=>Ae<|Mk AH CJ fun A3d w1 E0b=>?_
  refine nrm ?_
  refine sV2 (Aa rfl) (Aa rfl) ?_
  obtain ⟨_,h4d,f5d⟩:=Ab f6b
  have gd340:=Az h4d
  refine MS (lo:=0) (hi:=(m4a:Int).toNat) AH An rfl rfl ⟨.i64,by rw [Int.toNat_of_nonneg (a:=m4a) (by omega)];rfl⟩ (by omega) (by omega) (n3.ext E0b) fun A2e c3e n6d=>?_
  refine nrm ?_
  obtain ⟨_,h7d,f8d⟩:=Ab f5d
  have gd346:=Az h7d
  refine Jf AH CJ rfl rfl rfl (OW.nil 179 w.heap.size w1 A3d) n6d gd346 E0b.size fun A9d c0e w2 B349 ow1b=>?_
  refine nrm ?_
  have X1e:=xO E0b B349 (Nat.le_refl _)
  refine sV (Ac rfl) ?_
  refine wh h2d<|wp_ret ?_
  obtain rfl:=sj f8d
  exact fin rfl (Res.tmp rfl Res.nil) (Aj X1e ⟨A9d,c0e,(by rw [OW.len ow1b];rfl),(by rw [OW.len ow1b];exact OW.mono ow1b (Nat.le_refl _))⟩)
theorem Jb (x0:List Int) (x1:Int) (A1:Option Addr) (c2:Nat) (w:World) (hT:TB w) (n3:RLu w A1 c2 x0) (r:List Int) (hr:Eo x0 x1=some r) :
  Calls Tryz.prog 148 #[.slice A1 x0.length c2,.int .i64 x1] w (Ret (repo w) w r):=by
 unfold Eo at hr
 go_enter Tryz.func148,Tryz.ntmps148
 refine wp_seq_k fun _ h4=>Ae<|sV (Ac rfl) ?_
 refine wh h4<|wp_seq_k fun _ h5=>wp_seq_k fun _ h6=>Ae<|sV2 (Aa rfl) (Ax AH rfl) ?_
 refine sb (Bl rfl rfl) fun z7 hz7=>?_
 refine nrm ?_
 refine wh h6 ?_
 rcases zi hz7 hr with ⟨e7a,_,f6c⟩ | ⟨e7a,_,f7c⟩
 ·refine wp_cond_true (Ai (evb rfl e7a))<|wp_seq_k fun _ h8c=>Ae<|sV2 (Aa rfl) (Ac rfl) ?_
  refine wh h8c<|wp_ret ?_
  exact nomatch f6c
 ·refine wp_cond_false (Ai (evb rfl e7a))<|wp_skip<|h5 _ _<|wp_seq_k fun _ h9c=>Ae<|sV2 (Aa rfl) (Hj (c:=wi64 (x1.tdiv 32)) (by decide) rfl rfl rfl) ?_
  refine sV2 (Aa rfl) (Hj (c:=wi64 (x1.tdiv 32)) (by decide) rfl rfl rfl) ?_
  refine sV3 (Aa rfl) (Ax AH rfl) (AM (c:=wi64 ((wi64 (x1.tdiv 32))+(x0.length:Int))) rfl rfl rfl) ?_
  refine sV (AM (c:=wi64 ((wi64 ((wi64 (x1.tdiv 32))+(x0.length:Int)))+1)) rfl rfl rfl) ?_
  obtain ⟨_,h0d,f1d⟩:=Ab f7c
  have gd22:=Az h0d
  refine GV AH CJ rfl rfl gd22 fun A2d w1 E3d ow6b=>?_
  refine nrm ?_
  refine sV (Ac rfl) ?_
  refine wh h9c<|wp_seq_k fun _ h4d=>Ae<|sV (Ac rfl) ?_
  refine wh h4d<|wp_seq_k fun _ h5d=>wp_seq_k fun _ h6d=>Ae<|sV (Ac rfl) ?_
  refine wh h6d ?_
  obtain ⟨m1a,h7d,f8d⟩:=Ab f1d
  refine BX (fun l l' w'=>∃(A8a:Option Addr) (c9a:Nat),Ext w w'∧OW 179 w.heap.size w' A8a m1a.2.length c9a m1a.2∧Fr l' (fun t0b=>gp t0b 0 5 (.slice A8a m1a.2.length c9a::.int .u64 m1a.1::gp t0b 7 44 []))) ?_ ?_
  ·apply wp_block
   refine AP (fun l n7b l' w'=>∃(v0a:Int) (v4a:Int) (v3a:List Int) (A5a:Option Addr) (c6a:Nat),Ext w w'∧OW 179 w.heap.size w' A5a v3a.length c6a v3a∧DG x0 x1 n7b v0a v4a v3a=some m1a∧Fr l' (fun t1b=>.slice A1 x0.length c2::.int .i64 x1::gp t1b 2 3 (.slice A5a v3a.length c6a::.int .u64 v0a::.int .i64 v4a::gp t1b 8 43 []))) 18446744073709551616 ?_ ?_ ?_
   ·exact ⟨0,0,(List.replicate ((wi64 (x1.tdiv 32)):Int).toNat (0:Int)),A2d,(((wi64 ((wi64 ((wi64 (x1.tdiv 32))+(x0.length:Int)))+1)):Int).toNat),E3d,(OW.nn ow6b),h7d,(Fr.mk (by simp only [OW.len ow6b];kernel_rfl))⟩
   ·rintro l' w' ⟨v0a,v4a,v3a,A5a,c6a,_,_,hz,_⟩
    exact nomatch hz
   ·rintro n7b ih9d _ w2 ⟨v0a,v4a,v3a,A5a,c6a,X2b,ow8b,hr9b,⟨t1b,rfl⟩⟩ l'' hl
    simp only [gp,Nat.reduceAdd] at hl
    subst hl
    unfold DG at hr9b
    refine AV<|wp_seq_k fun _ h0e=>wp_seq_k fun _ h1e=>Ae<|sV3 (Aa rfl) (Aa rfl) (Ax AH rfl) ?_
    refine sb (Cj rfl rfl) fun z0c hz0c=>?_
    refine nrm ?_
    refine wh h1e ?_
    rcases zi hz0c hr9b with ⟨e3b,_,f2e⟩ | ⟨e3b,_,f3e⟩
    ·refine wp_cond_true (Ai (evb rfl e3b))<|wp_skip<|h0e _ _<|wp_seq_k fun _ h4e=>?_
     apply wp_block
     refine wp_seq_k fun _ h5e=>Ae<|sV2 (Aa rfl) (Aa rfl) ?_
     obtain ⟨u2a,h6e,f7e⟩:=Ab f2e
     obtain ⟨bb330,oo331,hA8e,ia9e,ib0f,hc333⟩:=RL.nth (n3.ext X2b) h6e
     refine sV3 (As AH An rfl rfl hA8e ia9e ib0f) (Af AQ rfl hc333) (AE (c:=wu64 u2a) AF AD rfl rfl) ?_
     refine sV2 (Aa rfl) (Jr (c:=x1.tmod 32) (by decide) rfl rfl rfl) ?_
     obtain ⟨_,h1f,f2f⟩:=Ab f7e
     have gd339:=Az h1f
     refine sV3 (JF (c:=wu64 ((wu64 u2a)*2^min ((x1.tmod 32):Int).toNat IntKind.u64.bits)) gd339 rfl rfl rfl) (Aa rfl) (AM (c:=wu64 ((wu64 ((wu64 u2a)*2^min ((x1.tmod 32):Int).toNat IntKind.u64.bits))+v0a)) rfl rfl rfl) ?_
     refine sV (Ac rfl) ?_
     refine wh h5e<|wp_seq_k fun _ h3f=>Ae<|sV3 (Aa rfl) (Aa rfl) (AE (c:=wu32 (wu64 ((wu64 ((wu64 u2a)*2^min ((x1.tmod 32):Int).toNat IntKind.u64.bits))+v0a))) AD AF rfl rfl) ?_
     refine Cv (vals:=[(0,.int .u32 (wu32 (wu64 ((wu64 ((wu64 u2a)*2^min ((x1.tmod 32):Int).toNat IntKind.u64.bits))+v0a))))]) (cs:=[.int .u32 (wu32 (wu64 ((wu64 ((wu64 u2a)*2^min ((x1.tmod 32):Int).toNat IntKind.u64.bits))+v0a)))]) AH An Ge (by rfl) (by decide) (by kernel_rfl) fun b4f w3 E1c g0i q5f=>?_
     refine nrm ?_
     have X2c:=xtr X2b E1c
     have n6f:RLu w3 (some ⟨b4f,0,none⟩) 1 [(wu32 (wu64 ((wu64 ((wu64 u2a)*2^min ((x1.tmod 32):Int).toNat IntKind.u64.bits))+v0a)))]:=(OW.lit (n0:=0) (n:=1) (xs:=[(wu32 (wu64 ((wu64 ((wu64 u2a)*2^min ((x1.tmod 32):Int).toNat IntKind.u64.bits))+v0a)))]) q5f (Nat.zero_le _) rfl (by decide)).rl
     obtain ⟨_,h7f,f8f⟩:=Ab f2f
     have gd349:=Az h7f
     refine Jf AH CJ rfl rfl rfl (ow8b.ext E1c) n6f gd349 X2c.size fun A9f c0g w4 B352 ow1g=>?_
     refine nrm ?_
     have X2g:=xO X2c B352 (Nat.le_refl _)
     refine sV (Ac rfl) ?_
     refine wh h3f<|Ae<|sV2 (Aa rfl) (GS (c:=(wu64 ((wu64 ((wu64 u2a)*2^min ((x1.tmod 32):Int).toNat IntKind.u64.bits))+v0a)).fdiv (2^min (32:Int).toNat IntKind.u64.bits)) (by decide) rfl rfl rfl) ?_
     refine sV (Ac rfl) ?_
     refine wh h4e<|Ae<|sV3 (Aa rfl) (AM (c:=wi64 (v4a+1)) rfl rfl rfl) (Ac rfl) ?_
     refine AG ?_
     exact ih9d _ _ ⟨((wu64 ((wu64 ((wu64 u2a)*2^min ((x1.tmod 32):Int).toNat IntKind.u64.bits))+v0a)).fdiv (2^min (32:Int).toNat IntKind.u64.bits)),(wi64 (v4a+1)),(v3a++([(wu32 (wu64 ((wu64 ((wu64 u2a)*2^min ((x1.tmod 32):Int).toNat IntKind.u64.bits))+v0a)))]:List Int)),A9f,c0g,X2g,(OW.nn ow1g),f8f,(Fr.mk (by kernel_rfl))⟩
    ·refine wp_cond_false (Ai (evb rfl e3b))<|wp_exit ?_
     simp only [Exit.then,Exit.inBlock,↓reduceIte,Nat.reduceEqDiff]
     obtain rfl:=sj f3e
     exact ⟨_,rfl,A5a,c6a,X2b,(OW.nn ow8b),(Fr.mk (by kernel_rfl))⟩
  ·rintro _ w2 ⟨A8a,c9a,X3g,ow4g,⟨t0b,rfl⟩⟩ l'' hl
   simp only [gp,Nat.reduceAdd] at hl
   subst hl
   refine h5d _ _<|wp_seq_k fun _ h5g=>Ae<|sV3 (Aa rfl) (Aa rfl) (AE (c:=wu32 m1a.1) AD AF rfl rfl) ?_
   refine Cv (vals:=[(0,.int .u32 (wu32 m1a.1))]) (cs:=[.int .u32 (wu32 m1a.1)]) AH An Ge (by rfl) (by decide) (by kernel_rfl) fun b6g w3 E3c g1i q7g=>?_
   refine nrm ?_
   have X4c:=xtr X3g E3c
   have n8g:RLu w3 (some ⟨b6g,0,none⟩) 1 [(wu32 m1a.1)]:=(OW.lit (n0:=0) (n:=1) (xs:=[(wu32 m1a.1)]) q7g (Nat.zero_le _) rfl (by decide)).rl
   obtain ⟨_,h9g,f0h⟩:=Ab f8d
   have gd364:=Az h9g
   refine Jf AH CJ rfl rfl rfl (ow4g.ext E3c) n8g gd364 X4c.size fun A1h c2h w4 B367 ow5c=>?_
   refine nrm ?_
   have X4b:=xO X4c B367 (Nat.le_refl _)
   obtain ⟨r3h,h4h,f5h⟩:=Ab f0h
   have hl377:=OW.lt ow5c
   refine sc (Ad JK (by rfl)) (c_sorobanref01_Trim_o (m1a.2++([(wu32 m1a.1)]:List Int)) A1h c2h w4 (tbx X4b hT) (OW.rl ow5c) r3h h4h) ?_
   rintro _ w5 E6h ⟨A7h,c8h,rfl,n5b⟩
   refine nrm ?_
   have X9h:=xtr X4b E6h
   refine sV (Ac rfl) ?_
   refine wh h5g<|wp_ret ?_
   obtain rfl:=sj f5h
   exact fin rfl (Res.tmp rfl Res.nil) (Aj X9h ⟨A7h,c8h,(by rw [OW.len n5b];rfl),(by rw [OW.len n5b];exact OW.mono n5b X4b.size)⟩)
theorem Ja (x0:List Int) (A1:Option Addr) (c2:Nat) (w:World) (hT:TB w) (n3:RLu w A1 c2 x0) (r:Bool) (hr:Gs x0=some r) :
  Calls Tryz.prog 208 #[.slice A1 x0.length c2] w (Ret Gq w r):=by
 unfold Gs at hr
 go_enter Tryz.func208,Tryz.ntmps208
 refine wp_seq_k fun _ h4=>Ae<|sV (Ac rfl) ?_
 refine wh h4<|wp_seq_k fun _ h5=>Ae<|sV2 (Aa rfl) (Ax AH rfl) ?_
 refine sb (Ie rfl rfl) fun z6 hz6=>?_
 refine nrm ?_
 refine sV (Aa rfl) ?_
 obtain ⟨m8a,h9a,f0b⟩:=Ab hr
 refine Bm 17 (fun l l' w'=>∃(t3a:Nat→Value),w=w'∧l'=(((((((((((((l.set 7 (t3a 0)).set 8 (t3a 1)).set 9 (t3a 2)).set 10 (t3a 3)).set 11 (t3a 4)).set 12 (t3a 5)).set 13 (t3a 6)).set 14 (t3a 7)).set 15 (t3a 8)).set 16 (t3a 9)).set 17 (t3a 10)).set 18 (t3a 11)).set 19 (.bool m8a))) ?_ ?_
 ·intro HJ54
  rcases zi hz6 h9a with ⟨e2a,_,f1b⟩ | ⟨e2a,_,f2b⟩
  ·refine sV (Aa rfl) ?_ (hw:=wgT rfl e2a)
   refine sV (Ax AH rfl) ?_ (hw:=wgT rfl e2a)
   refine sb (Bl rfl rfl) ?_ (hw:=wgT rfl e2a)
   intro z4a hz4a
   refine nrm ?_
   refine sV (Aa rfl) ?_ (hw:=wgT rfl e2a)
   obtain ⟨m7a,h3b,f4b⟩:=Ab f1b
   refine Bm 16 (fun l l' w'=>∃(t1a:Nat→Value),w=w'∧l'=((((((((l.set 11 (t1a 0)).set 12 (t1a 1)).set 13 (t1a 2)).set 14 (t1a 3)).set 15 (t1a 4)).set 16 (t1a 5)).set 17 (t1a 6)).set 18 (.bool m7a))) ?_ ?_
   ·intro HJ81
    rcases zi hz4a h3b with ⟨e0a,_,f5b⟩ | ⟨e0a,_,f6b⟩
    ·refine sP ?_ (hw:=wgF rfl e0a)
     refine sP ?_ (hw:=wgF rfl e0a)
     refine sP ?_ (hw:=wgF rfl e0a)
     refine sP ?_ (hw:=wgF rfl e0a)
     refine sP ?_ (hw:=wgF rfl e0a)
     refine sP ?_ (hw:=wgF rfl e0a)
     refine sP ?_ (hw:=wgF rfl e0a)
     refine sV (Ar (evb rfl e0a) rfl) ?_ (hw:=wgT rfl e2a)
     obtain rfl:=sj f5b
     exact HJ81 _ _ ⟨(tk [uu,uu,uu,uu,uu,uu,uu]),(by trivial),(by simp only [S0,S1]<;>rfl)⟩
    ·refine sV (Aa rfl) ?_ (hw:=wgT rfl e0a)
     refine sV (Aa rfl) ?_ (hw:=wgT rfl e0a)
     refine sV (Ax AH rfl) ?_ (hw:=wgT rfl e0a)
     refine sV (Ba (c:=wi64 ((x0.length:Int) - 1)) rfl rfl rfl) ?_ (hw:=wgT rfl e0a)
     obtain ⟨u5a,h7b,f8b⟩:=Ab f6b
     obtain ⟨bb90,oo91,hA9b,ia0c,ib1c,hc93⟩:=RL.nth n3 h7b
     refine sV (As AH An rfl rfl hA9b ia0c ib1c) ?_ (hw:=wgT rfl e0a)
     refine sV (Af AQ rfl hc93) ?_ (hw:=wgT rfl e0a)
     refine sb (HT rfl rfl) ?_ (hw:=wgT rfl e0a)
     intro z6a hz6a
     refine nrm ?_
     refine sV (Aw (evb rfl e0a) rfl) ?_ (hw:=wgT rfl e2a)
     obtain rfl:z6a=decide (¬u5a=0):=bz hz6a
     obtain rfl:=sj f8b
     exact HJ81 _ _ ⟨(tk [.slice A1 x0.length c2,.slice A1 x0.length c2,.int .i64 (x0.length:Int),.int .i64 (wi64 ((x0.length:Int) - 1)),.pointer (some ⟨bb90,oo91+((wi64 ((x0.length:Int) - 1)):Int).toNat,none⟩),.int .u32 u5a,.bool (decide (¬u5a=0))]),(by trivial),(by simp only [S0,S1]<;>rfl)⟩
   ·rintro l' _ ⟨t1a,rfl,hq'⟩ l'' hl
    rw [hq'] at hl
    clear hq'
    simp only [S0,S1] at hl
    subst hl
    refine sV (Ar (evb rfl e2a) rfl) ?_
    obtain rfl:=sj f4b
    exact HJ54 _ _ ⟨(tk [.slice A1 x0.length c2,.int .i64 (x0.length:Int),.bool z4a,.bool z4a,t1a 0,t1a 1,t1a 2,t1a 3,t1a 4,t1a 5,t1a 6,.bool m7a]),(by trivial),(by simp only [S0,S1]<;>rfl)⟩
  ·refine sP ?_ (hw:=wgF rfl e2a)
   refine sP ?_ (hw:=wgF rfl e2a)
   refine sP ?_ (hw:=wgF rfl e2a)
   refine sP ?_ (hw:=wgF rfl e2a)
   refine sP ?_
   refine sP ?_
   refine sP ?_
   refine sP ?_
   refine sP ?_
   refine sP ?_
   refine sP ?_
   refine sP ?_ (hw:=wgF rfl e2a)
   refine sV (Aw (evb rfl e2a) rfl) ?_
   obtain rfl:=sj f2b
   exact HJ54 _ _ ⟨(tk [uu,uu,uu,uu,uu,uu,uu,uu,uu,uu,uu,uu]),(by trivial),(by simp only [S0,S1]<;>rfl)⟩
 ·rintro l' _ ⟨t3a,rfl,hq'⟩ l'' hl
  rw [hq'] at hl
  clear hq'
  simp only [S0,S1] at hl
  subst hl
  refine sV (Ac rfl) ?_
  refine wh h5<|wp_ret ?_
  obtain rfl:=sj f0b
  exact fin rfl (Res.tmp rfl Res.nil) (Aj (Ext.refl _) rfl)
end Go.Proofs.Lf

