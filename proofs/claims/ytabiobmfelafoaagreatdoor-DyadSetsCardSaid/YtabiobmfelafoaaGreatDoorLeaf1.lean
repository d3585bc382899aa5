import Derived.Test.YtabiobmfelafoaaGreatDoorLeafDefs
namespace Go.Proofs.Lf
set_option linter.unusedVariables false
set_option linter.unusedSimpArgs false
set_option maxHeartbeats 4000000
open Go.RowKit Go.Sb Go.Proofs Go.Proofs.Sbn
open Go.Proofs.Tryz
theorem GF (x0:List Int) (A1:OA) (c2:Nat) (w:World) (hT:TB w) (n3:RLu w A1 c2 x0) (r:Bool) (hr:Bu x0=some r) :
  Calls prog 143 #[.slice A1 x0.length c2] w (Ret Gc w r):=by
 unfold Bu at hr
 go_enter func143,ntmps143
 refine ws fun h4=>Ai<|sV (Ab rfl) ?_
 refine nx h4 fun h5=>sV2 (Aa rfl) (Az AJ rfl) ?_
 refine sbl (GL rfl rfl) fun z6 hz6=>?_
 refine sV (Aa rfl) ?_
 obtain ⟨m8a,h9a,f0b⟩:=Ac hr
 refine Bw 17 (fun l l' w'=>∃(t3a:Nat→Value),w=w'∧l'=(((((((((((((l.set 7 (t3a 0)).set 8 (t3a 1)).set 9 (t3a 2)).set 10 (t3a 3)).set 11 (t3a 4)).set 12 (t3a 5)).set 13 (t3a 6)).set 14 (t3a 7)).set 15 (t3a 8)).set 16 (t3a 9)).set 17 (t3a 10)).set 18 (t3a 11)).set 19 (.bool m8a))) ?_ ?_
 ·intro HJ54
  rcases zi hz6 h9a with ⟨e2a,_,f1b⟩ | ⟨e2a,_,f2b⟩
  ·refine sV (Aa rfl) ?_ (hw:=wgT rfl e2a)
   refine sV (Az AJ rfl) ?_ (hw:=wgT rfl e2a)
   refine sbl (BD rfl rfl) (fun z4a hz4a=>?_) (hw:=wgT rfl e2a)
   refine sV (Aa rfl) ?_ (hw:=wgT rfl e2a)
   obtain ⟨m7a,h3b,f4b⟩:=Ac f1b
   refine Bw 16 (fun l l' w'=>∃(t1a:Nat→Value),w=w'∧l'=((((((((l.set 11 (t1a 0)).set 12 (t1a 1)).set 13 (t1a 2)).set 14 (t1a 3)).set 15 (t1a 4)).set 16 (t1a 5)).set 17 (t1a 6)).set 18 (.bool m7a))) ?_ ?_
   ·intro HJ81
    rcases zi hz4a h3b with ⟨e0a,_,f5b⟩ | ⟨e0a,_,f6b⟩
    ·refine sQ rfl e0a ?_
     refine sQ rfl e0a ?_
     refine sQ rfl e0a ?_
     refine sQ rfl e0a ?_
     refine sQ rfl e0a ?_
     refine sQ rfl e0a ?_
     refine sQ rfl e0a ?_
     refine sV (Aq (evb rfl e0a) rfl) ?_ (hw:=wgT rfl e2a)
     obtain rfl:=sj f5b
     exact HJ81 _ _ ⟨(tk [uu,uu,uu,uu,uu,uu,uu]),(by trivial),(by kernel_rfl)⟩
    ·refine sV (Aa rfl) ?_ (hw:=wgT rfl e0a)
     refine sV (Aa rfl) ?_ (hw:=wgT rfl e0a)
     refine sV (Az AJ rfl) ?_ (hw:=wgT rfl e0a)
     refine sV (Bc (c:=wi64 ((x0.length:Int) - 1)) rfl rfl rfl) ?_ (hw:=wgT rfl e0a)
     obtain ⟨u5a,h7b,f8b⟩:=Ac f6b
     obtain ⟨bb90,oo91,hA9b,ia0c,ib1c,hc93⟩:=RL.nth n3 h7b
     refine sV (As AJ Ao rfl rfl hA9b ia0c ib1c) ?_ (hw:=wgT rfl e0a)
     refine sV (Ah AP rfl hc93) ?_ (hw:=wgT rfl e0a)
     refine sbl (IW rfl rfl) (fun z6a hz6a=>?_) (hw:=wgT rfl e0a)
     refine sV (Av (evb rfl e0a) rfl) ?_ (hw:=wgT rfl e2a)
     obtain rfl:z6a=decide (¬u5a=0):=bz hz6a
     obtain rfl:=sj f8b
     exact HJ81 _ _ ⟨(tk [.slice A1 x0.length c2,.slice A1 x0.length c2,.int .i64 (x0.length:Int),.int .i64 (wi64 ((x0.length:Int) - 1)),.pointer (some ⟨bb90,oo91+((wi64 ((x0.length:Int) - 1)):Int).toNat,none⟩),.int .u32 u5a,.bool (decide (¬u5a=0))]),(by trivial),(by kernel_rfl)⟩
   ·rintro l' _ ⟨t1a,rfl,rfl⟩ l'' hl
    simp only [S0,S1] at hl;subst hl
    refine sV (Aq (evb rfl e2a) rfl) ?_
    obtain rfl:=sj f4b
    exact HJ54 _ _ ⟨(tk [.slice A1 x0.length c2,.int .i64 (x0.length:Int),.bool z4a,.bool z4a,t1a 0,t1a 1,t1a 2,t1a 3,t1a 4,t1a 5,t1a 6,.bool m7a]),(by trivial),(by kernel_rfl)⟩
  ·refine sQ rfl e2a ?_
   refine sQ rfl e2a ?_
   refine sQ rfl e2a ?_
   refine sQ rfl e2a ?_
   refine sP ?_
   refine sP ?_
   refine sP ?_
   refine sP ?_
   refine sP ?_
   refine sP ?_
   refine sP ?_
   refine sQ rfl e2a ?_
   refine sV (Av (evb rfl e2a) rfl) ?_
   obtain rfl:=sj f2b
   exact HJ54 _ _ ⟨(tk [uu,uu,uu,uu,uu,uu,uu,uu,uu,uu,uu,uu]),(by trivial),(by kernel_rfl)⟩
 ·rintro l' _ ⟨t3a,rfl,rfl⟩ l'' hl
  simp only [S0,S1] at hl;subst hl
  refine sV (Ab rfl) ?_
  refine wh h5<|wp_ret ?_
  exact Bq f0b (Ext.refl _) rfl
theorem BS (x0:List Int) (x1:Int) (A1:OA) (c2:Nat) (w:World) (hT:TB w) (n3:RLu w A1 c2 x0) (r:Int) (hr:Bp x0 x1=some r) :
  Calls prog 197 #[.slice A1 x0.length c2,.int .i64 x1] w (Ret Mg w r):=by
 unfold Bp at hr
 go_enter func197,ntmps197
 refine ws fun h4=>Ai<|sV (Ab rfl) ?_
 refine wh h4<|ws fun h5=>ws fun h6=>Ai<|sV3 (Aa rfl) (Aa rfl) (Az AJ rfl) ?_
 refine sbl (Gp rfl rfl) fun z7 hz7=>?_
 refine wh h6 ?_
 rcases zi hz7 hr with ⟨e0a,_,f1a⟩ | ⟨e0a,_,f2a⟩
 ·refine ct e0a<|ws fun h3a=>Ai<|sV (Ab rfl) ?_
  refine wh h3a<|wp_ret ?_
  exact Bq f1a (Ext.refl _) rfl
 ·refine cf e0a<|wp_skip<|h5 _ _<|ws fun h4a=>Ai<|sV2 (Aa rfl) (Aa rfl) ?_
  obtain ⟨u5a,h6a,f7a⟩:=Ac f2a
  obtain ⟨bb23,oo24,hA8a,ia9a,ib0b,hc26⟩:=RL.nth n3 h6a
  refine sV3 (As AJ Ao rfl rfl hA8a ia9a ib0b) (Ah AP rfl hc26) (AF (c:=wu64 u5a) AG AD rfl rfl) ?_
  refine sV (Ab rfl) ?_
  refine wh h4a<|wp_ret ?_
  exact Bq f7a (Ext.refl _) rfl
theorem Hg (x0:List Int) (x1:Int) (A1:OA) (c2:Nat) (w:World) (hT:TB w) (n3:RLu w A1 c2 x0) (r:Int) (hr:Ck x0 x1=some r) :
  Calls prog 128 #[.slice A1 x0.length c2,.int .i64 x1] w (Ret Mg w r):=by
 unfold Ck at hr
 go_enter func128,ntmps128
 refine ws fun h4=>Ai<|sV (Ab rfl) ?_
 refine nx h4 fun h5=>sV3 (Aa rfl) (Aa rfl) (Ht (c:=wi64 (x1.tdiv 32)) (by decide) rfl rfl rfl) ?_
 refine scr hr (Ad Ja (by rfl)) (BS x0 (wi64 (x1.tdiv 32)) A1 c2 w hT n3) fun r6 f8 w1 E9=>?_
 refine sV2 (Aa rfl) (JC (c:=x1.tmod 32) (by decide) rfl rfl rfl) ?_
 obtain ⟨_,h0a,f1a⟩:=Ac f8
 have gd12:=AC h0a
 refine sV2 (HA (c:=r6.fdiv (2^min ((x1.tmod 32):Int).toNat IntKind.u64.bits)) gd12 rfl rfl rfl) (JC (c:=(r6.fdiv (2^min ((x1.tmod 32):Int).toNat IntKind.u64.bits)).tmod 2) (by decide) rfl rfl rfl) ?_
 refine sV (Ab rfl) ?_
 refine wh h5<|wp_ret ?_
 exact Bq f1a E9 rfl
theorem FZ (x0:List Int) (x1:List Int) (A1:OA) (c2:Nat) (A4:OA) (c5:Nat) (w:World) (hT:TB w) (n3:RLu w A1 c2 x0) (n6:RLu w A4 c5 x1) (r:Bool) (hr:Bm x0 x1=some r) :
  Calls prog 144 #[.slice A1 x0.length c2,.slice A4 x1.length c5] w (Ret Gc w r):=by
 unfold Bm at hr
 go_enter func144,ntmps144
 refine ws fun h7=>Ai<|sV (Ab rfl) ?_
 refine wh h7<|ws fun h8=>ws fun h9=>Ai<|sV3 (Aa rfl) (Az AJ rfl) (Aa rfl) ?_
 refine sV (Az AJ rfl) ?_
 refine sbl (IW rfl rfl) fun z7a hz7a=>?_
 refine wh h9 ?_
 rcases zi hz7a hr with ⟨e1a,_,f4b⟩ | ⟨e1a,_,f5b⟩
 ·refine ct e1a<|ws fun h6b=>Ai<|sV (Ab rfl) ?_
  refine wh h6b<|wp_ret ?_
  exact Bq f4b (Ext.refl _) rfl
 ·refine cf e1a<|wp_skip<|h8 _ _<|ws fun h7b=>ws fun h8b=>Ai<|sV (Ab rfl) ?_
  refine wh h8b ?_
  apply wp_block
  refine AV (fun l n8a l' w'=>∃(v0a:Int),Ext w w'∧CQ x0 x1 n8a v0a=some r∧Fr l' (fun t2a=>.slice A1 x0.length c2::.slice A4 x1.length c5::gp t2a 2 3 (.int .i64 v0a::gp t2a 6 20 []))) 18446744073709551616 ?_ ?_ ?_
  ·exact ⟨0,(Ext.refl _),f5b,(Fr.mk (by kernel_rfl))⟩
  ·rintro l' w' ⟨v0a,_,hz,_⟩
   exact nomatch hz
  ·rintro n8a ih9b _ w1 ⟨v0a,U3a,hr9a,⟨t2a,rfl⟩⟩ l'' hl
   simp only [gp,Nat.reduceAdd] at hl
   subst hl
   unfold CQ at hr9a
   refine AW<|ws fun h0c=>ws fun h1c=>Ai<|sV3 (Aa rfl) (Aa rfl) (Az AJ rfl) ?_
   refine sbl (Cu rfl rfl) fun z0b hz0b=>?_
   refine wh h1c ?_
   rcases zi hz0b hr9a with ⟨e4a,_,f2c⟩ | ⟨e4a,_,f3c⟩
   ·refine ct e4a<|wp_skip<|h0c _ _<|ws fun h4c=>?_
    apply wp_block
    refine ws fun h5c=>DD [] 9 mo rfl fun w2 E1b S2b=>have X5a:=xtr U3a E1b;dA 0 rfl (fun _=>Aa rfl) ?_
    refine dA 1 rfl (fun _=>Aa rfl) ?_
    obtain ⟨u0e,h6c,f7c⟩:=Ac f2c
    obtain ⟨bb156,oo157,hA8c,ia9c,ib0d,hc159⟩:=RL.nth (n3.ext X5a) h6c
    refine dA 2 rfl (fun _=>As AJ Ao rfl rfl hA8c ia9c ib0d) ?_
    refine dV 3 rfl (fun _ hw=>Ah AP rfl (CN hc159 hw)) S2b ?_
    refine dA2 4 5 rfl rfl (fun _=>Aa rfl) (fun _=>Aa rfl) ?_
    obtain ⟨u1e,h1d,f2d⟩:=Ac f7c
    obtain ⟨bb165,oo166,hA3d,ia4d,ib5d,hc168⟩:=RL.nth (n6.ext X5a) h1d
    refine dA 6 rfl (fun _=>As AJ Ao rfl rfl hA3d ia4d ib5d) ?_
    refine dV 7 rfl (fun _ hw=>Ah AP rfl (CN hc168 hw)) S2b ?_
    refine dab 8 rfl (by kernel_rfl) (fun _ _ _ h=>h) (by rfl) (fun _=>IW rfl rfl) fun z3b hz3b=>?_
    refine dnrm ?_
    refine CI (by kernel_rfl) ?_
    refine h5c _ _ ?_
    rcases zi hz3b f2d with ⟨e6a,_,f6d⟩ | ⟨e6a,_,f7d⟩
    ·refine ct e6a<|ws fun h8d=>Ai<|sV (Ab rfl) ?_
     refine wh h8d<|wp_ret ?_
     exact Bq f6d X5a rfl
    ·refine cf e6a<|wp_skip<|h4c _ _<|Ai<|sV3 (Aa rfl) (AL (c:=wi64 (v0a+1)) rfl rfl rfl) (Ab rfl) ?_
     refine AE ?_
     exact ih9b _ _ ⟨(wi64 (v0a+1)),(U3a.trans E1b),f7d,(Fr.mk (by kernel_rfl))⟩
   ·refine cf e4a<|wp_exit ?_
    simp only [Exit.then,Exit.inBlock,↓reduceIte,Nat.reduceEqDiff]
    refine h7b _ _<|ws fun h9d=>Ai<|sV (Ab rfl) ?_
    refine wh h9d<|wp_ret ?_
    exact Bq f3c U3a rfl
theorem Cr (x0:List Int) (A1:OA) (c2:Nat) (w:World) (hT:TB w) (n3:RLu w A1 c2 x0) (r:List Int) (hr:Bo x0=some r) :
  Calls prog 210 #[.slice A1 x0.length c2] w (Ret KL w r):=by
 unfold Bo at hr
 go_enter func210,ntmps210
 refine ws fun h4=>Ai<|sV (Ab rfl) ?_
 refine nx h4 fun h5=>sV3 (Aa rfl) (Az AJ rfl) (Ab rfl) ?_
 refine wh h5<|ws fun h6=>?_
 obtain ⟨m4a,h4b,f5b⟩:=Ac hr
 refine BJ (fun l l' w'=>w=w'∧Fr l' (fun t6a=>.slice A1 x0.length c2::gp t6a 1 2 (.int .i64 m4a::gp t6a 4 19 []))) ?_ ?_
 ·apply wp_block
  refine AV (fun l n1b l' w'=>∃(v2a:Int) (t3a:Nat→Value),w=w'∧Cm x0 n1b v2a=some m4a∧Fr l' (fun t5a=>.slice A1 x0.length c2::gp t5a 1 2 (.int .i64 v2a::gp t5a 4 5 ((t3a 0)::(t3a 1)::(t3a 2)::(t3a 3)::(t3a 4)::(t3a 5)::gp t5a 15 8 [])))) 18446744073709551616 ?_ ?_ ?_
  ·exact ⟨(x0.length:Int),(tk [uu,uu,uu,uu,uu,uu]),(by trivial),h4b,(Fr.mk (by kernel_rfl))⟩
  ·rintro l' w' ⟨v2a,t3a,_,hz,_⟩
   exact nomatch hz
  ·rintro n1b ih6b _ _ ⟨v2a,t3a,rfl,hr2b,⟨t5a,rfl⟩⟩ l'' hl
   simp only [gp,Nat.reduceAdd] at hl
   subst hl
   unfold Cm at hr2b
   refine AW<|ws fun h7b=>ws fun h8b=>Ai<|sV (Aa rfl) ?_
   refine sbl (ES rfl rfl) fun z3b hz3b=>?_
   refine sV (Aa rfl) ?_
   obtain ⟨m9b,h0c,f1c⟩:=Ac hr2b
   refine Bw 10 (fun l l' w'=>∃(t1a:Nat→Value),w=w'∧l'=(((((((l.set 9 (t1a 0)).set 10 (t1a 1)).set 11 (t1a 2)).set 12 (t1a 3)).set 13 (t1a 4)).set 14 (t1a 5)).set 15 (.bool m9b))) ?_ ?_
   ·intro HJ307
    rcases zi hz3b h0c with ⟨e0a,_,f2c⟩ | ⟨e0a,_,f3c⟩
    ·refine sV (Aa rfl) ?_ (hw:=wgT rfl e0a)
     refine sV (Aa rfl) ?_ (hw:=wgT rfl e0a)
     refine sV (Bc (c:=wi64 (v2a - 1)) rfl rfl rfl) ?_ (hw:=wgT rfl e0a)
     obtain ⟨u7a,h4c,f5c⟩:=Ac f2c
     obtain ⟨bb316,oo317,hA6c,ia7c,ib8c,hc319⟩:=RL.nth n3 h4c
     refine sV (As AJ Ao rfl rfl hA6c ia7c ib8c) ?_ (hw:=wgT rfl e0a)
     refine sV (Ah AP rfl hc319) ?_ (hw:=wgT rfl e0a)
     refine sbl (BD rfl rfl) (fun z8a hz8a=>?_) (hw:=wgT rfl e0a)
     refine sV (Aq (evb rfl e0a) rfl) ?_
     obtain rfl:z8a=decide (u7a=0):=bz hz8a
     obtain rfl:=sj f5c
     exact HJ307 _ _ ⟨(tk [.slice A1 x0.length c2,.int .i64 v2a,.int .i64 (wi64 (v2a - 1)),.pointer (some ⟨bb316,oo317+((wi64 (v2a - 1)):Int).toNat,none⟩),.int .u32 u7a,.bool (decide (u7a=0))]),(by trivial),(by kernel_rfl)⟩
    ·refine sQ rfl e0a ?_
     refine sQ rfl e0a ?_
     refine sQ rfl e0a ?_
     refine sQ rfl e0a ?_
     refine sQ rfl e0a ?_
     refine sQ rfl e0a ?_
     refine sV (Av (evb rfl e0a) rfl) ?_
     obtain rfl:=sj f3c
     exact HJ307 _ _ ⟨(tk [uu,uu,uu,uu,uu,uu]),(by trivial),(by kernel_rfl)⟩
   ·rintro l' _ ⟨t1a,rfl,rfl⟩ l'' hl
    simp only [S0,S1] at hl;subst hl
    refine wh h8b ?_
    rcases zb f1c with ⟨e9a,f9c⟩ | ⟨e9a,f0d⟩
    ·refine ct e9a<|wp_skip<|h7b _ _ ?_
     apply wp_block
     refine Ai<|sV3 (Aa rfl) (Bc (c:=wi64 (v2a - 1)) rfl rfl rfl) (Ab rfl) ?_
     refine AE ?_
     exact ih6b _ _ ⟨(wi64 (v2a - 1)),(tk [t1a 0,t1a 1,t1a 2,t1a 3,t1a 4,t1a 5]),(by trivial),f9c,(Fr.mk (by kernel_rfl))⟩
    ·refine cf e9a<|wp_exit ?_
     simp only [Exit.then,Exit.inBlock,↓reduceIte,Nat.reduceEqDiff]
     obtain rfl:=sj f0d
     exact ⟨_,rfl,(by trivial),(Fr.mk (by kernel_rfl))⟩
 ·rintro _ _ ⟨rfl,⟨t6a,rfl⟩⟩ l'' hl
  simp only [gp,Nat.reduceAdd] at hl
  subst hl
  refine h6 _ _<|ws fun h1d=>Ai<|MO AJ Dw fun A2d w1 E0b=>?_
  refine nrm ?_
  refine sV2 (Aa rfl) (Aa rfl) ?_
  obtain ⟨_,h3d,f4d⟩:=Ac f5b
  have gd340:=AC h3d
  refine Nu (lo:=0) (hi:=(m4a:Int).toNat) AJ Ao rfl rfl ⟨.i64,by rw [Int.toNat_of_nonneg (a:=m4a) (by omega)];rfl⟩ (by omega) (by omega) (n3.ext E0b) fun A2e c3e n5d=>?_
  refine nrm ?_
  obtain ⟨_,h6d,f7d⟩:=Ac f4d
  have gd346:=AC h6d
  refine JE AJ Dw rfl rfl rfl (OW.nil 179 w.heap.size w1 A2d) n5d gd346 E0b.size fun A8d c9d w2 B349 ow0e=>?_
  refine nrm ?_
  have X1e:=xO E0b B349 (Nat.le_refl _)
  refine sV (Ab rfl) ?_
  refine wh h1d<|wp_ret ?_
  exact Bq f7d X1e ⟨A8d,c9d,rfl,(OW.rl ow0e)⟩
theorem GG (x0:Int) (w:World) (hT:TB w) (r:List Int) (hr:CW x0=some r) :
  Calls prog 179 #[.int .u64 x0] w (Ret KL w r):=by
 unfold CW at hr
 go_enter func179,ntmps179
 refine ws fun h1=>Ai<|sV (Ab rfl) ?_
 refine nx h1 fun h2=>sV3 (Aa rfl) (AF (c:=wu32 x0) AD AG rfl rfl) (Aa rfl) ?_
 refine sV (HA (c:=x0.fdiv (2^min (32:Int).toNat IntKind.u64.bits)) (by decide) rfl rfl rfl) ?_
 refine sV (AF (c:=wu32 (x0.fdiv (2^min (32:Int).toNat IntKind.u64.bits))) AD AG rfl rfl) ?_
 refine DY (vals:=[(0,.int .u32 (wu32 x0)),(1,.int .u32 (wu32 (x0.fdiv (2^min (32:Int).toNat IntKind.u64.bits))))]) (cs:=[.int .u32 (wu32 x0),.int .u32 (wu32 (x0.fdiv (2^min (32:Int).toNat IntKind.u64.bits)))]) AJ Ao GY (by rfl) (by decide) (by kernel_rfl) fun b4 w1 E3 g5 q6=>?_
 refine nrm ?_
 have n7:RLu w1 (some ⟨b4,0,none⟩) 2 [(wu32 x0),(wu32 (x0.fdiv (2^min (32:Int).toNat IntKind.u64.bits)))]:=(OW.lit (n0:=0) (n:=2) (xs:=[(wu32 x0),(wu32 (x0.fdiv (2^min (32:Int).toNat IntKind.u64.bits)))]) q6 (Nat.zero_le _) rfl (by decide)).rl
 refine scn hr (Ad JM (by rfl)) (Cr ([(wu32 x0),(wu32 (x0.fdiv (2^min (32:Int).toNat IntKind.u64.bits)))]:List Int) (some ⟨b4,0,none⟩) 2 w1 (tbx E3 hT) n7) fun r8 f0a w2 A1a c2a E3a n4a=>?_
 have X5a:=xtr E3 E3a
 refine sV (Ab rfl) ?_
 refine wh h2<|wp_ret ?_
 exact Bq f0a X5a ⟨A1a,c2a,rfl,n4a⟩
theorem EA (x0:List Int) (x1:List Int) (A1:OA) (c2:Nat) (A4:OA) (c5:Nat) (w:World) (hT:TB w) (n3:RLu w A1 c2 x0) (n6:RLu w A4 c5 x1) (r:Int) (hr:Bz x0 x1=some r) :
  Calls prog 198 #[.slice A1 x0.length c2,.slice A4 x1.length c5] w (Ret Gl w r):=by
 unfold Bz at hr
 go_enter func198,ntmps198
 refine ws fun h7=>Ai<|sV (Ab rfl) ?_
 refine wh h7<|ws fun h8=>ws fun h9=>Ai<|sV3 (Aa rfl) (Az AJ rfl) (Aa rfl) ?_
 refine sV3 (Az AJ rfl) (LF rfl rfl) (Bc (c:=wi64 ((max (x0.length:Int) (x1.length:Int)) - 1)) rfl rfl rfl) ?_
 refine sV (Ab rfl) ?_
 refine wh h9 ?_
 apply wp_block
 refine AV (fun l n9a l' w'=>∃(v0a:Int),Ext w w'∧DK x0 x1 n9a v0a=some r∧Fr l' (fun t3a=>.slice A1 x0.length c2::.slice A4 x1.length c5::gp t3a 2 3 (.int .i64 v0a::gp t3a 6 24 []))) 18446744073709551616 ?_ ?_ ?_
 ·exact ⟨(wi64 ((max (x0.length:Int) (x1.length:Int)) - 1)),(Ext.refl _),hr,(Fr.mk (by kernel_rfl))⟩
 ·rintro l' w' ⟨v0a,_,hz,_⟩
  exact nomatch hz
 ·rintro n9a ih8b _ w1 ⟨v0a,U1a,hr0b,⟨t3a,rfl⟩⟩ l'' hl
  simp only [gp,Nat.reduceAdd] at hl
  subst hl
  unfold DK at hr0b
  refine AW<|ws fun h9b=>ws fun h0c=>Ai<|sV (Aa rfl) ?_
  refine sbl (Gp rfl rfl) fun z1b hz1b=>?_
  refine wh h0c ?_
  rcases zi hz1b hr0b with ⟨e4a,_,f1c⟩ | ⟨e4a,_,f2c⟩
  ·refine ct e4a<|wp_skip<|h9b _ _<|ws fun h3c=>?_
   apply wp_block
   refine ws fun h4c=>ws fun h5c=>Ai<|sV2 (Aa rfl) (Aa rfl) ?_
   refine scr f1c (Ad Ja (by rfl)) (BS x0 v0a A1 c2 w1 (tbx U1a hT) (n3.ext U1a)) fun r9d f6c w2 E2b=>?_
   have X5a:=xtr U1a E2b
   refine sV2 (Aa rfl) (Aa rfl) ?_
   refine scr f6c (Ad Ja (by rfl)) (BS x1 v0a A4 c5 w2 (tbx X5a hT) (n6.ext X5a)) fun r0e f7c w3 E3b=>?_
   have X2a:=xtr X5a E3b
   refine sbl (Cu rfl rfl) fun z4b hz4b=>?_
   refine wh h5c ?_
   rcases zi hz4b f7c with ⟨e6a,_,f8c⟩ | ⟨e6a,_,f9c⟩
   ·refine ct e6a<|ws fun h0d=>Ai<|sV (Ab rfl) ?_
    refine wh h0d<|wp_ret ?_
    exact Bq f8c X2a rfl
   ·refine cf e6a<|wp_skip<|h4c _ _<|ws fun h1d=>Ai<|sV2 (Aa rfl) (Aa rfl) ?_
    refine scr f9c (Ad Ja (by rfl)) (BS x0 v0a A1 c2 w3 (tbx X2a hT) (n3.ext X2a)) fun r1e f2d w4 E5b=>?_
    have X7a:=xtr X2a E5b
    refine sV2 (Aa rfl) (Aa rfl) ?_
    refine scr f2d (Ad Ja (by rfl)) (BS x1 v0a A4 c5 w4 (tbx X7a hT) (n6.ext X7a)) fun r2e f3d w5 E6b=>?_
    have X4d:=xtr X7a E6b
    refine sbl (ES rfl rfl) fun z7b hz7b=>?_
    refine wh h1d ?_
    rcases zi hz7b f3d with ⟨e8a,_,f5d⟩ | ⟨e8a,_,f6d⟩
    ·refine ct e8a<|ws fun h7d=>Ai<|sV (Ab rfl) ?_
     refine wh h7d<|wp_ret ?_
     exact Bq f5d X4d rfl
    ·refine cf e8a<|wp_skip<|h3c _ _<|Ai<|sV3 (Aa rfl) (Bc (c:=wi64 (v0a - 1)) rfl rfl rfl) (Ab rfl) ?_
     refine AE ?_
     exact ih8b _ _ ⟨(wi64 (v0a - 1)),((((U1a.trans E2b).trans E3b).trans E5b).trans E6b),f6d,(Fr.mk (by kernel_rfl))⟩
  ·refine cf e4a<|wp_exit ?_
   simp only [Exit.then,Exit.inBlock,↓reduceIte,Nat.reduceEqDiff]
   refine h8 _ _<|ws fun h8d=>Ai<|sV (Ab rfl) ?_
   refine wh h8d<|wp_ret ?_
   exact Bq f2c U1a rfl
theorem Du (x0:List Int) (A1:OA) (c2:Nat) (w:World) (hT:TB w) (n3:RLu w A1 c2 x0) (r:Int) (hr:Bn x0=some r) :
  Calls prog 147 #[.slice A1 x0.length c2] w (Ret Gl w r):=by
 unfold Bn at hr
 go_enter func147,ntmps147
 refine ws fun h4=>Ai<|sV (Ab rfl) ?_
 refine nx h4 fun h5=>sV3 (Aa rfl) (Az AJ rfl) (Ab rfl) ?_
 refine wh h5<|ws fun h6=>ws fun h7=>Ai<|sV (Aa rfl) ?_
 refine sbl (BD rfl rfl) fun z8 hz8=>?_
 refine wh h7 ?_
 rcases zi hz8 hr with ⟨e2a,_,f0b⟩ | ⟨e2a,_,f1b⟩
 ·refine ct e2a<|ws fun h2b=>Ai<|sV (Ab rfl) ?_
  refine wh h2b<|wp_ret ?_
  exact Bq f0b (Ext.refl _) rfl
 ·refine cf e2a<|wp_skip<|h6 _ _<|ws fun h3b=>Ai<|sV3 (Aa rfl) (Bc (c:=wi64 ((x0.length:Int) - 1)) rfl rfl rfl) (JF (c:=wi64 (32*(wi64 ((x0.length:Int) - 1)))) rfl rfl rfl) ?_
  refine sV (Ab rfl) ?_
  refine wh h3b<|ws fun h4b=>ws fun h5b=>Ai<|sV3 (Aa rfl) (Aa rfl) (Bc (c:=wi64 ((x0.length:Int) - 1)) rfl rfl rfl) ?_
  obtain ⟨u6b,h7b,f8b⟩:=Ac f1b
  obtain ⟨bb26,oo27,hA9b,ia0c,ib1c,hc29⟩:=RL.nth n3 h7b
  refine sV3 (As AJ Ao rfl rfl hA9b ia0c ib1c) (Ah AP rfl hc29) (Ab rfl) ?_
  refine wh h5b ?_
  obtain ⟨m6a,h2c,f3c⟩:=Ac f8b
  refine BJ (fun l l' w'=>w=w'∧Fr l' (fun t3a=>gp t3a 0 4 (.int .i64 m6a::gp t3a 5 20 []))) ?_ ?_
  ·apply wp_block
   refine AV (fun l n7a l' w'=>∃(v0a:Int) (v1a:Int),w=w'∧El x0 n7a v0a v1a=some m6a∧Fr l' (fun t4a=>gp t4a 0 4 (.int .i64 v0a::.int .u32 v1a::gp t4a 6 19 []))) 18446744073709551616 ?_ ?_ ?_
   ·exact ⟨(wi64 (32*(wi64 ((x0.length:Int) - 1)))),u6b,(by trivial),h2c,(Fr.mk (by kernel_rfl))⟩
   ·rintro l' w' ⟨v0a,v1a,_,hz,_⟩
    exact nomatch hz
   ·rintro n7a ih4c _ _ ⟨v0a,v1a,rfl,hr8a,⟨t4a,rfl⟩⟩ l'' hl
    simp only [gp,Nat.reduceAdd] at hl
    subst hl
    unfold El at hr8a
    refine AW<|ws fun h5c=>ws fun h6c=>Ai<|sV (Aa rfl) ?_
    refine sbl (ES rfl rfl) fun z9a hz9a=>?_
    refine wh h6c ?_
    rcases zi hz9a hr8a with ⟨e5a,_,f7c⟩ | ⟨e5a,_,f8c⟩
    ·refine ct e5a<|wp_skip<|h5c _ _<|ws fun h9c=>?_
     apply wp_block
     refine Ai<|sV3 (Aa rfl) (AL (c:=wi64 (v0a+1)) rfl rfl rfl) (Ab rfl) ?_
     refine wh h9c<|Ai<|sV2 (Aa rfl) (Ht (c:=wu32 (v1a.tdiv 2)) (by decide) rfl rfl rfl) ?_
     refine sV (Ab rfl) ?_
     refine AE ?_
     exact ih4c _ _ ⟨(wi64 (v0a+1)),(wu32 (v1a.tdiv 2)),(by trivial),f7c,(Fr.mk (by kernel_rfl))⟩
    ·refine cf e5a<|wp_exit ?_
     simp only [Exit.then,Exit.inBlock,↓reduceIte,Nat.reduceEqDiff]
     obtain rfl:=sj f8c
     exact ⟨_,rfl,(by trivial),(Fr.mk (by kernel_rfl))⟩
  ·rintro _ _ ⟨rfl,⟨t3a,rfl⟩⟩ l'' hl
   simp only [gp,Nat.reduceAdd] at hl
   subst hl
   refine h4b _ _<|ws fun h0d=>Ai<|sV2 (Aa rfl) (Ab rfl) ?_
   refine wh h0d<|wp_ret ?_
   exact Bq f3c (Ext.refl _) rfl
theorem HK (x0:List Int) (A1:OA) (c2:Nat) (w:World) (hT:TB w) (n3:RLu w A1 c2 x0) (r:Int) (hr:Ce x0=some r) :
  Calls prog 153 #[.slice A1 x0.length c2] w (Ret Gl w r):=by
 unfold Ce at hr
 go_enter func153,ntmps153
 refine ws fun h4=>Ai<|sV (Ab rfl) ?_
 refine nx h4 fun h5=>sV (Ab rfl) ?_
 refine wh h5<|ws fun h6=>?_
 obtain ⟨m0b,h5b,f6b⟩:=Ac hr
 refine BJ (fun l l' w'=>Ext w w'∧Fr l' (fun t6a=>gp t6a 0 3 (.int .i64 m0b::gp t6a 4 12 []))) ?_ ?_
 ·apply wp_block
  refine AV (fun l n1b l' w'=>∃(v2a:Int) (t3a:Nat→Value),Ext w w'∧Cd x0 n1b v2a=some m0b∧Fr l' (fun t4a=>.slice A1 x0.length c2::gp t4a 1 2 (.int .i64 v2a::gp t4a 4 4 ((t3a 0)::(t3a 1)::(t3a 2)::(t3a 3)::gp t4a 12 4 [])))) 18446744073709551616 ?_ ?_ ?_
  ·exact ⟨0,(tk [uu,uu,uu,uu]),(Ext.refl _),h5b,(Fr.mk (by kernel_rfl))⟩
  ·rintro l' w' ⟨v2a,t3a,_,hz,_⟩
   exact nomatch hz
  ·rintro n1b ih7b _ w1 ⟨v2a,t3a,U5a,hr2b,⟨t4a,rfl⟩⟩ l'' hl
   simp only [gp,Nat.reduceAdd] at hl
   subst hl
   unfold Cd at hr2b
   refine AW<|ws fun h8b=>ws fun h9b=>Ai<|sV2 (Aa rfl) (Az AJ rfl) ?_
   refine sbl (ES rfl rfl) fun z3b hz3b=>?_
   refine sV (Aa rfl) ?_
   obtain ⟨m0c,h1c,f2c⟩:=Ac hr2b
   refine Bw 9 (fun l l' w'=>∃(t1a:Nat→Value),Ext w1 w'∧l'=(((((l.set 8 (t1a 0)).set 9 (t1a 1)).set 10 (t1a 2)).set 11 (t1a 3)).set 12 (.bool m0c))) ?_ ?_
   ·intro HJ265
    rcases zi hz3b h1c with ⟨e0a,_,f3c⟩ | ⟨e0a,_,f4c⟩
    ·refine sV (Aa rfl) ?_ (hw:=wgT rfl e0a)
     refine sV (Aa rfl) ?_ (hw:=wgT rfl e0a)
     refine scr f3c (Ad ON (by rfl)) (Hg x0 v2a A1 c2 w1 (tbx U5a hT) (n3.ext U5a)) (fun r7a f5c w2 E6c=>?_) (hw:=wgT rfl e0a)
     refine sbl (BD rfl rfl) (fun z8a hz8a=>?_) (hw:=wgT rfl e0a)
     refine sV (Aq (evb rfl e0a) rfl) ?_
     obtain rfl:z8a=decide (r7a=0):=bz hz8a
     obtain rfl:=sj f5c
     exact HJ265 _ _ ⟨(tk [.slice A1 x0.length c2,.int .i64 v2a,.int .u64 r7a,.bool (decide (r7a=0))]),E6c,(by kernel_rfl)⟩
    ·refine sQ rfl e0a ?_
     refine sQ rfl e0a ?_
     refine sQ rfl e0a ?_
     refine sQ rfl e0a ?_
     refine sV (Av (evb rfl e0a) rfl) ?_
     obtain rfl:=sj f4c
     exact HJ265 _ _ ⟨(tk [uu,uu,uu,uu]),(Ext.refl _),(by kernel_rfl)⟩
   ·rintro l' w2 ⟨t1a,U4b,rfl⟩ l'' hl
    simp only [S0,S1] at hl;subst hl
    refine wh h9b ?_
    rcases zb f2c with ⟨e9a,f7c⟩ | ⟨e9a,f8c⟩
    ·refine ct e9a<|wp_skip<|h8b _ _ ?_
     apply wp_block
     refine Ai<|sV3 (Aa rfl) (AL (c:=wi64 (v2a+1)) rfl rfl rfl) (Ab rfl) ?_
     refine AE ?_
     exact ih7b _ _ ⟨(wi64 (v2a+1)),(tk [t1a 0,t1a 1,t1a 2,t1a 3]),(U5a.trans U4b),f7c,(Fr.mk (by kernel_rfl))⟩
    ·refine cf e9a<|wp_exit ?_
     simp only [Exit.then,Exit.inBlock,↓reduceIte,Nat.reduceEqDiff]
     obtain rfl:=sj f8c
     exact ⟨_,rfl,(U5a.trans U4b),(Fr.mk (by kernel_rfl))⟩
 ·rintro _ w1 ⟨U9c,⟨t6a,rfl⟩⟩ l'' hl
  simp only [gp,Nat.reduceAdd] at hl
  subst hl
  refine h6 _ _<|ws fun h0d=>Ai<|sV2 (Aa rfl) (Ab rfl) ?_
  refine wh h0d<|wp_ret ?_
  exact Bq f6b U9c rfl
theorem Gs (x0:List Int) (x1:List Int) (A1:OA) (c2:Nat) (A4:OA) (c5:Nat) (w:World) (hT:TB w) (n3:RLu w A1 c2 x0) (n6:RLu w A4 c5 x1) (r:List Int) (hr:BU x0 x1=some r) :
  Calls prog 189 #[.slice A1 x0.length c2,.slice A4 x1.length c5] w (Ret KL w r):=by
 unfold BU at hr
 go_enter func189,ntmps189
 refine ws fun h7=>Ai<|sV (Ab rfl) ?_
 refine nx h7 fun h8=>sV (Ab rfl) ?_
 refine nx h8 fun h9=>sV (Ab rfl) ?_
 refine wh h9<|ws fun h4c=>ws fun h5c=>Ai<|sV (Ab rfl) ?_
 refine wh h5c ?_
 obtain ⟨m5a,h6c,f7c⟩:=Ac hr
 refine BJ (fun l l' w'=>∃(A8a:OA) (c9a:Nat),Ext w w'∧OW 179 w.heap.size w' A8a m5a.length c9a m5a∧Fr l' (fun t1b=>gp t1b 0 5 (.slice A8a m5a.length c9a::gp t1b 6 30 []))) ?_ ?_
 ·apply wp_block
  refine AV (fun l n5b l' w'=>∃(v0a:Int) (v3a:Int) (v4a:List Int) (A6a:OA) (c7a:Nat),Ext w w'∧OW 179 w.heap.size w' A6a v4a.length c7a v4a∧CZ x0 x1 n5b v0a v3a v4a=some m5a∧Fr l' (fun t2b=>.slice A1 x0.length c2::.slice A4 x1.length c5::gp t2b 2 3 (.slice A6a v4a.length c7a::.int .u64 v0a::.int .i64 v3a::gp t2b 8 28 []))) 18446744073709551616 ?_ ?_ ?_
  ·exact ⟨0,0,([]:List Int),none,0,(Ext.refl _),(OW.nn (OW.nil 179 w.heap.size w none)),h6c,(Fr.mk (by simp only [OW.len (OW.nil 179 w.heap.size w none)];kernel_rfl))⟩
  ·rintro l' w' ⟨v0a,v3a,v4a,A6a,c7a,_,_,hz,_⟩
   exact nomatch hz
  ·rintro n5b ih8c _ w1 ⟨v0a,v3a,v4a,A6a,c7a,X0b,ow6b,hr7b,⟨t2b,rfl⟩⟩ l'' hl
   simp only [gp,Nat.reduceAdd] at hl
   subst hl
   unfold CZ at hr7b
   refine AW<|ws fun h9c=>ws fun h0d=>Ai<|sV3 (Aa rfl) (Aa rfl) (Az AJ rfl) ?_
   refine sV3 (Aa rfl) (Az AJ rfl) (LF rfl rfl) ?_
   refine sbl (GL rfl rfl) fun z8b hz8b=>?_
   refine wh h0d ?_
   rcases zi hz8b hr7b with ⟨e3b,_,f1d⟩ | ⟨e3b,_,f2d⟩
   ·refine ct e3b<|wp_skip<|h9c _ _<|ws fun h3d=>?_
    apply wp_block
    refine ws fun h4d=>Ai<|sV2 (Aa rfl) (Aa rfl) ?_
    refine scr f1d (Ad Ja (by rfl)) (BS x0 v3a A1 c2 w1 (tbx X0b hT) (n3.ext X0b)) fun r1a f5d w2 E9b=>?_
    have X4b:=xtr X0b E9b
    refine sV2 (Aa rfl) (Aa rfl) ?_
    refine scr f5d (Ad Ja (by rfl)) (BS x1 v3a A4 c5 w2 (tbx X4b hT) (n6.ext X4b)) fun r2a f6d w3 E0c=>?_
    have X7d:=xtr X4b E0c
    refine sV3 (AL (c:=wu64 (r1a+r2a)) rfl rfl rfl) (Aa rfl) (AL (c:=wu64 ((wu64 (r1a+r2a))+v0a)) rfl rfl rfl) ?_
    refine sV (Ab rfl) ?_
    refine nx h4d fun h8d=>sV3 (Aa rfl) (Aa rfl) (AF (c:=wu32 (wu64 ((wu64 (r1a+r2a))+v0a))) AD AG rfl rfl) ?_
    refine DY (vals:=[(0,.int .u32 (wu32 (wu64 ((wu64 (r1a+r2a))+v0a))))]) (cs:=[.int .u32 (wu32 (wu64 ((wu64 (r1a+r2a))+v0a)))]) AJ Ao GY (by rfl) (by decide) (by kernel_rfl) fun b9d w4 E1c g7f q0e=>?_
    refine nrm ?_
    have X2c:=xtr X7d E1c
    have n1e:RLu w4 (some ⟨b9d,0,none⟩) 1 [(wu32 (wu64 ((wu64 (r1a+r2a))+v0a)))]:=(OW.lit (n0:=0) (n:=1) (xs:=[(wu32 (wu64 ((wu64 (r1a+r2a))+v0a)))]) q0e (Nat.zero_le _) rfl (by decide)).rl
    have ow2e:=((ow6b.ext E9b).ext E0c).ext E1c
    obtain ⟨_,h3e,f4e⟩:=Ac f6d
    have gd512:=AC h3e
    refine JE AJ Dw rfl rfl rfl ow2e n1e gd512 X2c.size fun A5e c6e w5 B515 ow7e=>?_
    refine nrm ?_
    have X8e:=xO X2c B515 (Nat.le_refl _)
    refine sV (Ab rfl) ?_
    refine wh h8d<|Ai<|sV2 (Aa rfl) (HA (c:=(wu64 ((wu64 (r1a+r2a))+v0a)).fdiv (2^min (32:Int).toNat IntKind.u64.bits)) (by decide) rfl rfl rfl) ?_
    refine sV (Ab rfl) ?_
    refine wh h3d<|Ai<|sV3 (Aa rfl) (AL (c:=wi64 (v3a+1)) rfl rfl rfl) (Ab rfl) ?_
    refine AE ?_
    exact ih8c _ _ ⟨((wu64 ((wu64 (r1a+r2a))+v0a)).fdiv (2^min (32:Int).toNat IntKind.u64.bits)),(wi64 (v3a+1)),(v4a++([(wu32 (wu64 ((wu64 (r1a+r2a))+v0a)))]:List Int)),A5e,c6e,X8e,(OW.nn ow7e),f4e,(Fr.mk (by kernel_rfl))⟩
   ·refine cf e3b<|wp_exit ?_
    simp only [Exit.then,Exit.inBlock,↓reduceIte,Nat.reduceEqDiff]
    obtain rfl:=sj f2d
    exact ⟨_,rfl,A6a,c7a,X0b,(OW.nn ow6b),(Fr.mk (by kernel_rfl))⟩
 ·rintro _ w1 ⟨A8a,c9a,X3c,ow9e,⟨t1b,rfl⟩⟩ l'' hl
  simp only [gp,Nat.reduceAdd] at hl
  subst hl
  refine h4c _ _<|ws fun h0f=>Ai<|sV (Aa rfl) ?_
  refine scn f7c (Ad JM (by rfl)) (Cr m5a A8a c9a w1 (tbx X3c hT) (OW.rl ow9e)) fun r8f f1f w2 A2f c3f E4f n5f=>?_
  have X6f:=xtr X3c E4f
  refine sV (Ab rfl) ?_
  refine wh h0f<|wp_ret ?_
  exact Bq f1f X6f ⟨A2f,c3f,rfl,n5f⟩
theorem Hn (x0:List Int) (x1:List Int) (A1:OA) (c2:Nat) (A4:OA) (c5:Nat) (w:World) (hT:TB w) (n3:RLu w A1 c2 x0) (n6:RLu w A4 c5 x1) (r:List Int) (hr:Ci x0 x1=some r) :
  Calls prog 199 #[.slice A1 x0.length c2,.slice A4 x1.length c5] w (Ret KL w r):=by
 unfold Ci at hr
 go_enter func199,ntmps199
 refine ws fun h7=>Ai<|sV (Ab rfl) ?_
 refine nx h7 fun h8=>sV (Ab rfl) ?_
 refine nx h8 fun h9=>sV (Ab rfl) ?_
 refine wh h9<|ws fun h4c=>ws fun h5c=>Ai<|sV (Ab rfl) ?_
 refine wh h5c ?_
 obtain ⟨m5a,h6c,f7c⟩:=Ac hr
 refine BJ (fun l l' w'=>∃(A8a:OA) (c9a:Nat),Ext w w'∧OW 179 w.heap.size w' A8a m5a.length c9a m5a∧Fr l' (fun t1b=>gp t1b 0 5 (.slice A8a m5a.length c9a::gp t1b 6 27 []))) ?_ ?_
 ·apply wp_block
  refine AV (fun l n5b l' w'=>∃(v0a:Int) (v3a:Int) (v4a:List Int) (A6a:OA) (c7a:Nat),Ext w w'∧OW 179 w.heap.size w' A6a v4a.length c7a v4a∧De x0 x1 n5b v0a v3a v4a=some m5a∧Fr l' (fun t2b=>.slice A1 x0.length c2::.slice A4 x1.length c5::gp t2b 2 3 (.slice A6a v4a.length c7a::.int .u64 v0a::.int .i64 v3a::gp t2b 8 25 []))) 18446744073709551616 ?_ ?_ ?_
  ·exact ⟨0,0,([]:List Int),none,0,(Ext.refl _),(OW.nn (OW.nil 179 w.heap.size w none)),h6c,(Fr.mk (by simp only [OW.len (OW.nil 179 w.heap.size w none)];kernel_rfl))⟩
  ·rintro l' w' ⟨v0a,v3a,v4a,A6a,c7a,_,_,hz,_⟩
   exact nomatch hz
  ·rintro n5b ih8c _ w1 ⟨v0a,v3a,v4a,A6a,c7a,X0b,ow6b,hr7b,⟨t2b,rfl⟩⟩ l'' hl
   simp only [gp,Nat.reduceAdd] at hl
   subst hl
   unfold De at hr7b
   refine AW<|ws fun h9c=>ws fun h0d=>Ai<|sV3 (Aa rfl) (Aa rfl) (Az AJ rfl) ?_
   refine sbl (Cu rfl rfl) fun z8b hz8b=>?_
   refine wh h0d ?_
   rcases zi hz8b hr7b with ⟨e3b,_,f1d⟩ | ⟨e3b,_,f2d⟩
   ·refine ct e3b<|wp_skip<|h9c _ _<|ws fun h3d=>?_
    apply wp_block
    refine ws fun h4d=>Ai<|sV2 (Aa rfl) (Aa rfl) ?_
    refine scr f1d (Ad Ja (by rfl)) (BS x0 v3a A1 c2 w1 (tbx X0b hT) (n3.ext X0b)) fun r1a f5d w2 E9b=>?_
    have X4b:=xtr X0b E9b
    refine sV2 (Aa rfl) (Aa rfl) ?_
    refine scr f5d (Ad Ja (by rfl)) (BS x1 v3a A4 c5 w2 (tbx X4b hT) (n6.ext X4b)) fun r2a f6d w3 E0c=>?_
    have X7d:=xtr X4b E0c
    refine sV3 (Bc (c:=wu64 (r1a - r2a)) rfl rfl rfl) (Aa rfl) (Bc (c:=wu64 ((wu64 (r1a - r2a)) - v0a)) rfl rfl rfl) ?_
    refine sV (Ab rfl) ?_
    refine nx h4d fun h8d=>sV3 (Aa rfl) (Aa rfl) (AF (c:=wu32 (wu64 ((wu64 (r1a - r2a)) - v0a))) AD AG rfl rfl) ?_
    refine DY (vals:=[(0,.int .u32 (wu32 (wu64 ((wu64 (r1a - r2a)) - v0a))))]) (cs:=[.int .u32 (wu32 (wu64 ((wu64 (r1a - r2a)) - v0a)))]) AJ Ao GY (by rfl) (by decide) (by kernel_rfl) fun b9d w4 E1c g7f q0e=>?_
    refine nrm ?_
    have X2c:=xtr X7d E1c
    have n1e:RLu w4 (some ⟨b9d,0,none⟩) 1 [(wu32 (wu64 ((wu64 (r1a - r2a)) - v0a)))]:=(OW.lit (n0:=0) (n:=1) (xs:=[(wu32 (wu64 ((wu64 (r1a - r2a)) - v0a)))]) q0e (Nat.zero_le _) rfl (by decide)).rl
    have ow2e:=((ow6b.ext E9b).ext E0c).ext E1c
    obtain ⟨_,h3e,f4e⟩:=Ac f6d
    have gd512:=AC h3e
    refine JE AJ Dw rfl rfl rfl ow2e n1e gd512 X2c.size fun A5e c6e w5 B515 ow7e=>?_
    refine nrm ?_
    have X8e:=xO X2c B515 (Nat.le_refl _)
    refine sV (Ab rfl) ?_
    refine wh h8d<|Ai<|sV2 (Aa rfl) (HA (c:=(wu64 ((wu64 (r1a - r2a)) - v0a)).fdiv (2^min (63:Int).toNat IntKind.u64.bits)) (by decide) rfl rfl rfl) ?_
    refine sV (Ab rfl) ?_
    refine wh h3d<|Ai<|sV3 (Aa rfl) (AL (c:=wi64 (v3a+1)) rfl rfl rfl) (Ab rfl) ?_
    refine AE ?_
    exact ih8c _ _ ⟨((wu64 ((wu64 (r1a - r2a)) - v0a)).fdiv (2^min (63:Int).toNat IntKind.u64.bits)),(wi64 (v3a+1)),(v4a++([(wu32 (wu64 ((wu64 (r1a - r2a)) - v0a)))]:List Int)),A5e,c6e,X8e,(OW.nn ow7e),f4e,(Fr.mk (by kernel_rfl))⟩
   ·refine cf e3b<|wp_exit ?_
    simp only [Exit.then,Exit.inBlock,↓reduceIte,Nat.reduceEqDiff]
    obtain rfl:=sj f2d
    exact ⟨_,rfl,A6a,c7a,X0b,(OW.nn ow6b),(Fr.mk (by kernel_rfl))⟩
 ·rintro _ w1 ⟨A8a,c9a,X3c,ow9e,⟨t1b,rfl⟩⟩ l'' hl
  simp only [gp,Nat.reduceAdd] at hl
  subst hl
  refine h4c _ _<|ws fun h0f=>Ai<|sV (Aa rfl) ?_
  refine scn f7c (Ad JM (by rfl)) (Cr m5a A8a c9a w1 (tbx X3c hT) (OW.rl ow9e)) fun r8f f1f w2 A2f c3f E4f n5f=>?_
  have X6f:=xtr X3c E4f
  refine sV (Ab rfl) ?_
  refine wh h0f<|wp_ret ?_
  exact Bq f1f X6f ⟨A2f,c3f,rfl,n5f⟩
theorem Iu (x0:List Int) (x1:List Int) (A1:OA) (c2:Nat) (A4:OA) (c5:Nat) (w:World) (hT:TB w) (n3:RLu w A1 c2 x0) (n6:RLu w A4 c5 x1) (r:List Int) (hr:CK x0 x1=some r) :
  Calls prog 200 #[.slice A1 x0.length c2,.slice A4 x1.length c5] w (Ret KL w r):=by
 unfold CK at hr
 go_enter func200,ntmps200
 refine ws fun h7=>Ai<|sV (Ab rfl) ?_
 refine nx h7 fun h8=>sV3 (Aa rfl) (Az AJ rfl) (Aa rfl) ?_
 refine sV2 (Az AJ rfl) (AL (c:=wi64 ((x0.length:Int)+(x1.length:Int))) rfl rfl rfl) ?_
 obtain ⟨_,h9,f2e⟩:=Ac hr
 have gd11:=AC h9
 refine HE AJ Dw rfl rfl gd11 fun A1a w1 E3e ow4e=>?_
 refine nrm ?_
 refine sV (Ab rfl) ?_
 refine wh h8<|ws fun h5e=>ws fun h6e=>Ai<|sV (Ab rfl) ?_
 refine wh h6e ?_
 obtain ⟨m1b,h7e,f8e⟩:=Ac f2e
 refine BJ (fun l l' w'=>Ext w w'∧OW 179 w.heap.size w' A1a (((wi64 ((x0.length:Int)+(x1.length:Int))):Int).toNat) (((wi64 ((x0.length:Int)+(x1.length:Int))):Int).toNat) m1b∧Fr l' (fun t2b=>gp t2b 0 5 (.slice A1a (((wi64 ((x0.length:Int)+(x1.length:Int))):Int).toNat) (((wi64 ((x0.length:Int)+(x1.length:Int))):Int).toNat)::gp t2b 6 62 []))) ?_ ?_
 ·apply wp_block
  refine AV (fun l n2c l' w'=>∃(v0a:Int) (v7a:List Int),Ext w w'∧OW 179 w.heap.size w' A1a (((wi64 ((x0.length:Int)+(x1.length:Int))):Int).toNat) (((wi64 ((x0.length:Int)+(x1.length:Int))):Int).toNat) v7a∧Dd x0 x1 n2c v0a v7a=some m1b∧Fr l' (fun t3b=>.slice A1 x0.length c2::.slice A4 x1.length c5::gp t3b 2 3 (.slice A1a (((wi64 ((x0.length:Int)+(x1.length:Int))):Int).toNat) (((wi64 ((x0.length:Int)+(x1.length:Int))):Int).toNat)::.int .i64 v0a::gp t3b 7 61 []))) 18446744073709551616 ?_ ?_ ?_
  ·exact ⟨0,(List.replicate ((wi64 ((x0.length:Int)+(x1.length:Int))):Int).toNat (0:Int)),E3e,ow4e,h7e,(Fr.mk (by kernel_rfl))⟩
  ·rintro l' w' ⟨v0a,v7a,_,_,hz,_⟩
   exact nomatch hz
  ·rintro n2c ih9e _ w2 ⟨v0a,v7a,X3c,ow4c,hr5c,⟨t3b,rfl⟩⟩ l'' hl
   simp only [gp,Nat.reduceAdd] at hl
   subst hl
   unfold Dd at hr5c
   refine AW<|ws fun h0f=>ws fun h1f=>Ai<|sV3 (Aa rfl) (Aa rfl) (Az AJ rfl) ?_
   refine sbl (Cu rfl rfl) fun z6c hz6c=>?_
   refine wh h1f ?_
   rcases zi hz6c hr5c with ⟨e4b,_,f2f⟩ | ⟨e4b,_,f3f⟩
   ·refine ct e4b<|wp_skip<|h0f _ _<|ws fun h4f=>?_
    obtain ⟨m7c,h5f,f6f⟩:=Ac f2f
    refine BJ (fun l l' w'=>Ext w w'∧OW 179 w.heap.size w' A1a (((wi64 ((x0.length:Int)+(x1.length:Int))):Int).toNat) (((wi64 ((x0.length:Int)+(x1.length:Int))):Int).toNat) m7c∧Fr l' (fun t5b=>.slice A1 x0.length c2::.slice A4 x1.length c5::gp t5b 2 3 (.slice A1a (((wi64 ((x0.length:Int)+(x1.length:Int))):Int).toNat) (((wi64 ((x0.length:Int)+(x1.length:Int))):Int).toNat)::.int .i64 v0a::gp t5b 7 61 []))) ?_ ?_
    ·apply wp_block
     refine ws fun h7f=>Ai<|sV (Ab rfl) ?_
     refine wh h7f<|ws fun h8f=>ws fun h9f=>Ai<|sV (Ab rfl) ?_
     refine wh h9f ?_
     obtain ⟨m9a,h0g,f1g⟩:=Ac h5f
     refine BJ (fun l l' w'=>Ext w w'∧OW 179 w.heap.size w' A1a (((wi64 ((x0.length:Int)+(x1.length:Int))):Int).toNat) (((wi64 ((x0.length:Int)+(x1.length:Int))):Int).toNat) m9a.2∧Fr l' (fun t6b=>.slice A1 x0.length c2::.slice A4 x1.length c5::gp t6b 2 3 (.slice A1a (((wi64 ((x0.length:Int)+(x1.length:Int))):Int).toNat) (((wi64 ((x0.length:Int)+(x1.length:Int))):Int).toNat)::.int .i64 v0a::.int .u64 m9a.1::gp t6b 8 60 []))) ?_ ?_
     ·apply wp_block
      refine AV (fun l n8c l' w'=>∃(v2a:Int) (v3a:Int) (v8a:List Int),Ext w w'∧OW 179 w.heap.size w' A1a (((wi64 ((x0.length:Int)+(x1.length:Int))):Int).toNat) (((wi64 ((x0.length:Int)+(x1.length:Int))):Int).toNat) v8a∧Dg x0 x1 v0a n8c v2a v3a v8a=some m9a∧Fr l' (fun t7b=>.slice A1 x0.length c2::.slice A4 x1.length c5::gp t7b 2 3 (.slice A1a (((wi64 ((x0.length:Int)+(x1.length:Int))):Int).toNat) (((wi64 ((x0.length:Int)+(x1.length:Int))):Int).toNat)::.int .i64 v0a::.int .u64 v2a::.int .i64 v3a::gp t7b 9 59 []))) 18446744073709551616 ?_ ?_ ?_
      ·exact ⟨0,0,v7a,X3c,ow4c,h0g,(Fr.mk (by kernel_rfl))⟩
      ·rintro l' w' ⟨v2a,v3a,v8a,_,_,hz,_⟩
       exact nomatch hz
      ·rintro n8c ih2g _ w3 ⟨v2a,v3a,v8a,X9c,ow0d,hr1d,⟨t7b,rfl⟩⟩ l'' hl
       simp only [gp,Nat.reduceAdd] at hl
       subst hl
       unfold Dg at hr1d
       refine AW<|ws fun h3g=>ws fun h4g=>Ai<|sV3 (Aa rfl) (Aa rfl) (Az AJ rfl) ?_
       refine sbl (Cu rfl rfl) fun z2d hz2d=>?_
       refine wh h4g ?_
       rcases zi hz2d hr1d with ⟨e8b,_,f5g⟩ | ⟨e8b,_,f6g⟩
       ·refine ct e8b<|wp_skip<|h3g _ _<|ws fun h7g=>?_
        apply wp_block
        refine ws fun h8g=>DD [] 22 mo rfl fun w4 E3d S9b=>have X0c:=xtr X9c E3d;dA 0 rfl (fun _=>Aa rfl) ?_
        refine dA 1 rfl (fun _=>Aa rfl) ?_
        obtain ⟨u4a,h9g,f0h⟩:=Ac f5g
        obtain ⟨bb5216,oo5217,hA1h,ia2h,ib3h,hc5219⟩:=RL.nth (n3.ext X0c) h9g
        refine dA 2 rfl (fun _=>As AJ Ao rfl rfl hA1h ia2h ib3h) ?_
        refine dV 3 rfl (fun _ hw=>Ah AP rfl (CN hc5219 hw)) S9b ?_
        refine dA2 4 5 rfl rfl (fun _=>AF (c:=wu64 u4a) AG AD rfl rfl) (fun _=>Aa rfl) ?_
        refine dA 6 rfl (fun _=>Aa rfl) ?_
        obtain ⟨u5a,h4h,f5h⟩:=Ac f0h
        obtain ⟨bb5225,oo5226,hA6h,ia7h,ib8h,hc5228⟩:=RL.nth (n6.ext X0c) h4h
        refine dA 7 rfl (fun _=>As AJ Ao rfl rfl hA6h ia7h ib8h) ?_
        refine dV 8 rfl (fun _ hw=>Ah AP rfl (CN hc5228 hw)) S9b ?_
        refine dA2 9 10 rfl rfl (fun _=>AF (c:=wu64 u5a) AG AD rfl rfl) (fun _=>JF (c:=wu64 ((wu64 u4a)*(wu64 u5a))) rfl rfl rfl) ?_
        refine dA2 11 12 rfl rfl (fun _=>Aa rfl) (fun _=>Aa rfl) ?_
        refine dA2 13 14 rfl rfl (fun _=>Aa rfl) (fun _=>AL (c:=wi64 (v0a+v3a)) rfl rfl rfl) ?_
        obtain ⟨u6a,h9h,f0i⟩:=Ac f5h
        have q0b:=ow0d.ext E3d
        obtain ⟨bb5234,hA1i,hz3k,ia2i,ib3i,hc5239⟩:=OW.nthc q0b h9h
        refine dA 15 rfl (fun _=>As AJ Ao rfl rfl hA1i ia2i ib3i) ?_
        refine dV 16 rfl (fun _ hw=>Ah AP rfl (CN hc5239 hw)) S9b ?_
        refine dA2 17 18 rfl rfl (fun _=>AF (c:=wu64 u6a) AG AD rfl rfl) (fun _=>AL (c:=wu64 ((wu64 ((wu64 u4a)*(wu64 u5a)))+(wu64 u6a))) rfl rfl rfl) ?_
        refine dA2 19 20 rfl rfl (fun _=>Aa rfl) (fun _=>AL (c:=wu64 ((wu64 ((wu64 ((wu64 u4a)*(wu64 u5a)))+(wu64 u6a)))+v2a)) rfl rfl rfl) ?_
        refine dA 21 rfl (fun _=>Ab rfl) ?_
        refine CI (by kernel_rfl) ?_
        refine h8g _ _<|ws fun h4i=>Ai<|sV3 (Aa rfl) (Aa rfl) (Aa rfl) ?_
        refine sV3 (AL (c:=wi64 (v0a+v3a)) rfl rfl rfl) (Aa rfl) (AF (c:=wu32 (wu64 ((wu64 ((wu64 ((wu64 u4a)*(wu64 u5a)))+(wu64 u6a)))+v2a))) AD AG rfl rfl) ?_
        obtain ⟨u4k,h5i,f6i⟩:=Ac f0i
        obtain ⟨bb5244,hA4d,hz5k,ia5d,ib6d,hc5249⟩:=OW.nthc q0b h5i
        refine sV (As AJ Ao rfl rfl hA4d ia5d ib6d) ?_
        refine LC Ao rfl rfl q0b hA4d ia5d (by rw [OW.len q0b];exact ib6d) fun w5 B5250 U6k ow7i=>?_
        have X8i:=xO X0c B5250 (Nat.le_refl _)
        refine wh h4i<|Ai<|sV2 (Aa rfl) (HA (c:=(wu64 ((wu64 ((wu64 ((wu64 u4a)*(wu64 u5a)))+(wu64 u6a)))+v2a)).fdiv (2^min (32:Int).toNat IntKind.u64.bits)) (by decide) rfl rfl rfl) ?_
        refine sV (Ab rfl) ?_
        refine wh h7g<|Ai<|sV3 (Aa rfl) (AL (c:=wi64 (v3a+1)) rfl rfl rfl) (Ab rfl) ?_
        refine AE ?_
        exact ih2g _ _ ⟨((wu64 ((wu64 ((wu64 ((wu64 u4a)*(wu64 u5a)))+(wu64 u6a)))+v2a)).fdiv (2^min (32:Int).toNat IntKind.u64.bits)),(wi64 (v3a+1)),(List.set v8a ((wi64 (v0a+v3a)):Int).toNat (wu32 (wu64 ((wu64 ((wu64 ((wu64 u4a)*(wu64 u5a)))+(wu64 u6a)))+v2a)))),X8i,ow7i,f6i,(Fr.mk (by kernel_rfl))⟩
       ·refine cf e8b<|wp_exit ?_
        simp only [Exit.then,Exit.inBlock,↓reduceIte,Nat.reduceEqDiff]
        obtain rfl:=sj f6g
        exact ⟨_,rfl,X9c,ow0d,(Fr.mk (by kernel_rfl))⟩
     ·rintro _ w3 ⟨X9i,ow1c,⟨t6b,rfl⟩⟩ l'' hl
      simp only [gp,Nat.reduceAdd] at hl
      subst hl
      refine h8f _ _<|Ai<|sV3 (Aa rfl) (Aa rfl) (Aa rfl) ?_
      refine sV3 (Az AJ rfl) (AL (c:=wi64 (v0a+(x1.length:Int))) rfl rfl rfl) (Aa rfl) ?_
      refine sV (AF (c:=wu32 m9a.1) AD AG rfl rfl) ?_
      obtain ⟨u7k,h0j,f1j⟩:=Ac f1g
      obtain ⟨bb5257,hA7d,hz8k,ia8d,ib9d,hc5262⟩:=OW.nthc ow1c h0j
      refine sV (As AJ Ao rfl rfl hA7d ia8d ib9d) ?_
      refine LC Ao rfl rfl ow1c hA7d ia8d (by rw [OW.len ow1c];exact ib9d) fun w4 B5263 U9k ow2j=>?_
      have X3j:=xO X9i B5263 (Nat.le_refl _)
      refine AE ?_
      obtain rfl:=sj f1j
      exact ⟨_,rfl,X3j,ow2j,(Fr.mk (by kernel_rfl))⟩
    ·rintro _ w3 ⟨X4j,ow5j,⟨t5b,rfl⟩⟩ l'' hl
     simp only [gp,Nat.reduceAdd] at hl
     subst hl
     refine h4f _ _<|Ai<|sV3 (Aa rfl) (AL (c:=wi64 (v0a+1)) rfl rfl rfl) (Ab rfl) ?_
     refine AE ?_
     exact ih9e _ _ ⟨(wi64 (v0a+1)),m7c,X4j,ow5j,f6f,(Fr.mk (by kernel_rfl))⟩
   ·refine cf e4b<|wp_exit ?_
    simp only [Exit.then,Exit.inBlock,↓reduceIte,Nat.reduceEqDiff]
    obtain rfl:=sj f3f
    exact ⟨_,rfl,X3c,ow4c,(Fr.mk (by kernel_rfl))⟩
 ·rintro _ w2 ⟨X0e,ow1e,⟨t2b,rfl⟩⟩ l'' hl
  simp only [gp,Nat.reduceAdd] at hl
  subst hl
  refine h5e _ _<|ws fun h6j=>Ai<|sV (Aa rfl) ?_
  refine scn f8e (Ad JM (by simp only [OW.len ow1e];rfl)) (Cr m1b A1a (((wi64 ((x0.length:Int)+(x1.length:Int))):Int).toNat) w2 (tbx X0e hT) (OW.rl ow1e)) fun r0l f7j w3 A8j c9j E0k n1k=>?_
  have X2k:=xtr X0e E0k
  refine sV (Ab rfl) ?_
  refine wh h6j<|wp_ret ?_
  exact Bq f7j X2k ⟨A8j,c9j,rfl,n1k⟩
theorem c_sorobanref01_short (x0:List Int) (x1:Int) (A1:OA) (c2:Nat) (w:World) (hT:TB w) (n3:RLu w A1 c2 x0) (r:CP) (hr:FM x0 x1=some r) :
  Calls prog 211 #[.slice A1 x0.length c2,.int .u32 x1] w (Ret OB w r):=by
 unfold FM at hr
 go_enter func211,ntmps211
 refine ws fun h4=>Ai<|sal LL fun b5 w1 E6 g7 q8=>?_
 refine nx h4 fun h9=>sV2 (Aa rfl) (Az AJ rfl) ?_
 obtain ⟨_,h2d,f3d⟩:=Ac hr
 have gd12:=AC h2d
 refine HE AJ Dw rfl rfl gd12 fun A3a w2 E8b ow4d=>?_
 refine nrm ?_
 have X5d:=xtr E6 E8b
 refine sV (Ab rfl) ?_
 refine nx h9 fun h6d=>sV (Ab rfl) ?_
 refine wh h6d<|ws fun h7d=>ws fun h8d=>Ai<|sV3 (Aa rfl) (Az AJ rfl) (Bc (c:=wi64 ((x0.length:Int) - 1)) rfl rfl rfl) ?_
 refine sV (Ab rfl) ?_
 refine wh h8d ?_
 obtain ⟨m4a,h9d,f0e⟩:=Ac f3d
 refine BJ (fun l l' w'=>Ext w w'∧Ext w1 w'∧OW 179 w1.heap.size w' A3a (((x0.length:Int):Int).toNat) (((x0.length:Int):Int).toNat) m4a.2∧Fr l' (fun t7a=>gp t7a 0 4 (.pointer (some ⟨b5,0,none⟩)::.slice A3a (((x0.length:Int):Int).toNat) (((x0.length:Int):Int).toNat)::.int .u64 m4a.1::gp t7a 7 37 []))) ?_ ?_
 ·apply wp_block
  refine AV (fun l n9b l' w'=>∃(v0a:Int) (v1a:Int) (v5a:List Int),Ext w w'∧Ext w1 w'∧OW 179 w1.heap.size w' A3a (((x0.length:Int):Int).toNat) (((x0.length:Int):Int).toNat) v5a∧CF x0 x1 n9b v0a v1a v5a=some m4a∧Fr l' (fun t8a=>.slice A1 x0.length c2::.int .u32 x1::gp t8a 2 2 (.pointer (some ⟨b5,0,none⟩)::.slice A3a (((x0.length:Int):Int).toNat) (((x0.length:Int):Int).toNat)::.int .u64 v0a::.int .i64 v1a::gp t8a 8 36 []))) 18446744073709551616 ?_ ?_ ?_
  ·exact ⟨0,(wi64 ((x0.length:Int) - 1)),(List.replicate ((x0.length:Int):Int).toNat (0:Int)),X5d,E8b,ow4d,h9d,(Fr.mk (by kernel_rfl))⟩
  ·rintro l' w' ⟨v0a,v1a,v5a,_,_,_,hz,_⟩
   exact nomatch hz
  ·rintro n9b ih1e _ w3 ⟨v0a,v1a,v5a,X9a,X0c,ow6a,hr1c,⟨t8a,rfl⟩⟩ l'' hl
   simp only [gp,Nat.reduceAdd] at hl
   subst hl
   unfold CF at hr1c
   refine AW<|ws fun h2e=>ws fun h3e=>Ai<|sV (Aa rfl) ?_
   refine sbl (Gp rfl rfl) fun z2c hz2c=>?_
   refine wh h3e ?_
   rcases zi hz2c hr1c with ⟨e0b,_,f4e⟩ | ⟨e0b,_,f5e⟩
   ·refine ct e0b<|wp_skip<|h2e _ _<|ws fun h6e=>?_
    apply wp_block
    refine ws fun h7e=>Ai<|sV2 (Aa rfl) (JQ (c:=wu64 (v0a*2^min (32:Int).toNat IntKind.u64.bits)) (by decide) rfl rfl rfl) ?_
    refine sV2 (Aa rfl) (Aa rfl) ?_
    obtain ⟨u2a,h8e,f9e⟩:=Ac f4e
    obtain ⟨bb328,oo329,hA0f,ia1f,ib2f,hc331⟩:=RL.nth (n3.ext X9a) h8e
    refine sV3 (As AJ Ao rfl rfl hA0f ia1f ib2f) (Ah AP rfl hc331) (AF (c:=wu64 u2a) AG AD rfl rfl) ?_
    refine sV2 (AL (c:=wu64 ((wu64 (v0a*2^min (32:Int).toNat IntKind.u64.bits))+(wu64 u2a))) rfl rfl rfl) (Ab rfl) ?_
    refine nx h7e fun h3f=>sV3 (Aa rfl) (Aa rfl) (Aa rfl) ?_
    refine sV2 (Aa rfl) (AF (c:=wu64 x1) AG AD rfl rfl) ?_
    obtain ⟨_,h4f,f5f⟩:=Ac f9e
    have gd338:=AC h4f
    refine sV2 (Ht (c:=wu64 ((wu64 ((wu64 (v0a*2^min (32:Int).toNat IntKind.u64.bits))+(wu64 u2a))).tdiv (wu64 x1))) (decide_eq_true gd338) rfl rfl rfl) (AF (c:=wu32 (wu64 ((wu64 ((wu64 (v0a*2^min (32:Int).toNat IntKind.u64.bits))+(wu64 u2a))).tdiv (wu64 x1)))) AD AG rfl rfl) ?_
    obtain ⟨u5h,h6f,f7f⟩:=Ac f5f
    obtain ⟨bb342,hA3c,hz6h,ia4c,ib5c,hc347⟩:=OW.nthc ow6a h6f
    refine sV (As AJ Ao rfl rfl hA3c ia4c ib5c) ?_
    refine LC Ao rfl rfl ow6a hA3c ia4c (by rw [OW.len ow6a];exact ib5c) fun w4 B348 U7h ow8f=>?_
    have X9f:=xO X9a B348 E6.size
    have X0g:=xO X0c B348 (Nat.le_refl _)
    refine wh h3f<|Ai<|sV3 (Aa rfl) (Aa rfl) (AF (c:=wu64 x1) AG AD rfl rfl) ?_
    obtain ⟨_,h1g,f2g⟩:=Ac f7f
    have gd355:=AC h1g
    refine sV2 (JC (c:=(wu64 ((wu64 (v0a*2^min (32:Int).toNat IntKind.u64.bits))+(wu64 u2a))).tmod (wu64 x1)) (decide_eq_true gd355) rfl rfl rfl) (Ab rfl) ?_
    refine wh h6e<|Ai<|sV3 (Aa rfl) (Bc (c:=wi64 (v1a - 1)) rfl rfl rfl) (Ab rfl) ?_
    refine AE ?_
    exact ih1e _ _ ⟨((wu64 ((wu64 (v0a*2^min (32:Int).toNat IntKind.u64.bits))+(wu64 u2a))).tmod (wu64 x1)),(wi64 (v1a - 1)),(List.set v5a (v1a:Int).toNat (wu32 (wu64 ((wu64 ((wu64 (v0a*2^min (32:Int).toNat IntKind.u64.bits))+(wu64 u2a))).tdiv (wu64 x1))))),X9f,X0g,ow8f,f2g,(Fr.mk (by kernel_rfl))⟩
   ·refine cf e0b<|wp_exit ?_
    simp only [Exit.then,Exit.inBlock,↓reduceIte,Nat.reduceEqDiff]
    obtain rfl:=sj f5e
    exact ⟨_,rfl,X9a,X0c,ow6a,(Fr.mk (by kernel_rfl))⟩
 ·rintro _ w3 ⟨X6c,X3g,ow7c,⟨t7a,rfl⟩⟩ l'' hl
  simp only [gp,Nat.reduceAdd] at hl
  subst hl
  refine h7d _ _<|ws fun h4g=>Ai<|sV (Aa rfl) ?_
  refine scn f0e (Ad JM (by simp only [OW.len ow7c];rfl)) (Cr m4a.2 A3a (((x0.length:Int):Int).toNat) w3 (tbx X6c hT) (OW.rl ow7c)) fun r8c f5g w4 A1b c2b E9c n6g=>?_
  have X0d:=xtr X6c E9c
  have X7g:=xtr X3g E9c
  refine sV (Aa rfl) ?_
  refine scn f5g (Ad Ob (by rfl)) (GG m4a.1 w4 (tbx X0d hT)) fun r1d f8g w5 A3b c4b E5b n9g=>?_
  have X0h:=xtr X0d E5b
  have X6b:=xtr X7g E5b
  refine sV (AR (vals:=[(0,.slice A1b r8c.length c2b),(1,.slice A3b r1d.length c4b)]) (cells:=[.slice A1b r8c.length c2b,.slice A3b r1d.length c4b]) (by rfl) (by kernel_rfl)) ?_
  refine ss KC (q8.ext X6b) fun w6 U7b q1h=>?_
  have X2h:=belU X0h U7b g7
  refine wh h4g<|wp_ret ?_
  have n3h:=(n6g.ext E5b).upd U7b (q8.ext X6b) (by decide)
  have n4h:=n9g.upd U7b (q8.ext X6b) (by decide)
  exact Ej f8g MW q1h X2h ⟨A1b,c2b,A3b,c4b,rfl,n3h,n4h⟩
theorem CJ (x0:List Int) (x1:Int) (A1:OA) (c2:Nat) (w:World) (hT:TB w) (n3:RLu w A1 c2 x0) (r:List Int) (hr:AU x0 x1=some r) :
  Calls prog 148 #[.slice A1 x0.length c2,.int .i64 x1] w (Ret KL w r):=by
 unfold AU at hr
 go_enter func148,ntmps148
 refine ws fun h4=>Ai<|sV (Ab rfl) ?_
 refine wh h4<|ws fun h5=>ws fun h6=>Ai<|sV2 (Aa rfl) (Az AJ rfl) ?_
 refine sbl (BD rfl rfl) fun z7 hz7=>?_
 refine wh h6 ?_
 rcases zi hz7 hr with ⟨e7a,_,f4c⟩ | ⟨e7a,_,f5c⟩
 ·refine ct e7a<|ws fun h6c=>Ai<|sV2 (Aa rfl) (Ab rfl) ?_
  refine wh h6c<|wp_ret ?_
  exact Bq f4c (Ext.refl _) ⟨A1,c2,rfl,n3⟩
 ·refine cf e7a<|wp_skip<|h5 _ _<|ws fun h7c=>Ai<|sV2 (Aa rfl) (Ht (c:=wi64 (x1.tdiv 32)) (by decide) rfl rfl rfl) ?_
  refine sV2 (Aa rfl) (Ht (c:=wi64 (x1.tdiv 32)) (by decide) rfl rfl rfl) ?_
  refine sV3 (Aa rfl) (Az AJ rfl) (AL (c:=wi64 ((wi64 (x1.tdiv 32))+(x0.length:Int))) rfl rfl rfl) ?_
  refine sV (AL (c:=wi64 ((wi64 ((wi64 (x1.tdiv 32))+(x0.length:Int)))+1)) rfl rfl rfl) ?_
  obtain ⟨_,h8c,f9c⟩:=Ac f5c
  have gd22:=AC h8c
  refine HE AJ Dw rfl rfl gd22 fun A0d w1 E1d ow4b=>?_
  refine nrm ?_
  refine sV (Ab rfl) ?_
  refine nx h7c fun h2d=>sV (Ab rfl) ?_
  refine wh h2d<|ws fun h3d=>ws fun h4d=>Ai<|sV (Ab rfl) ?_
  refine wh h4d ?_
  obtain ⟨m1a,h5d,f6d⟩:=Ac f9c
  refine BJ (fun l l' w'=>∃(A8a:OA) (c9a:Nat),Ext w w'∧OW 179 w.heap.size w' A8a m1a.2.length c9a m1a.2∧Fr l' (fun t0b=>gp t0b 0 5 (.slice A8a m1a.2.length c9a::.int .u64 m1a.1::gp t0b 7 44 []))) ?_ ?_
  ·apply wp_block
   refine AV (fun l n5b l' w'=>∃(v0a:Int) (v4a:Int) (v3a:List Int) (A5a:OA) (c6a:Nat),Ext w w'∧OW 179 w.heap.size w' A5a v3a.length c6a v3a∧BK x0 x1 n5b v0a v4a v3a=some m1a∧Fr l' (fun t1b=>.slice A1 x0.length c2::.int .i64 x1::gp t1b 2 3 (.slice A5a v3a.length c6a::.int .u64 v0a::.int .i64 v4a::gp t1b 8 43 []))) 18446744073709551616 ?_ ?_ ?_
   ·exact ⟨0,0,(List.replicate ((wi64 (x1.tdiv 32)):Int).toNat (0:Int)),A0d,(((wi64 ((wi64 ((wi64 (x1.tdiv 32))+(x0.length:Int)))+1)):Int).toNat),E1d,(OW.nn ow4b),h5d,(Fr.mk (by simp only [OW.len ow4b];kernel_rfl))⟩
   ·rintro l' w' ⟨v0a,v4a,v3a,A5a,c6a,_,_,hz,_⟩
    exact nomatch hz
   ·rintro n5b ih7d _ w2 ⟨v0a,v4a,v3a,A5a,c6a,X2b,ow6b,hr7b,⟨t1b,rfl⟩⟩ l'' hl
    simp only [gp,Nat.reduceAdd] at hl
    subst hl
    unfold BK at hr7b
    refine AW<|ws fun h8d=>ws fun h9d=>Ai<|sV3 (Aa rfl) (Aa rfl) (Az AJ rfl) ?_
    refine sbl (Cu rfl rfl) fun z8b hz8b=>?_
    refine wh h9d ?_
    rcases zi hz8b hr7b with ⟨e3b,_,f0e⟩ | ⟨e3b,_,f1e⟩
    ·refine ct e3b<|wp_skip<|h8d _ _<|ws fun h2e=>?_
     apply wp_block
     refine ws fun h3e=>Ai<|sV2 (Aa rfl) (Aa rfl) ?_
     obtain ⟨u2a,h4e,f5e⟩:=Ac f0e
     obtain ⟨bb330,oo331,hA6e,ia7e,ib8e,hc333⟩:=RL.nth (n3.ext X2b) h4e
     refine sV3 (As AJ Ao rfl rfl hA6e ia7e ib8e) (Ah AP rfl hc333) (AF (c:=wu64 u2a) AG AD rfl rfl) ?_
     refine sV2 (Aa rfl) (JC (c:=x1.tmod 32) (by decide) rfl rfl rfl) ?_
     obtain ⟨_,h9e,f0f⟩:=Ac f5e
     have gd339:=AC h9e
     refine sV3 (JQ (c:=wu64 ((wu64 u2a)*2^min ((x1.tmod 32):Int).toNat IntKind.u64.bits)) gd339 rfl rfl rfl) (Aa rfl) (AL (c:=wu64 ((wu64 ((wu64 u2a)*2^min ((x1.tmod 32):Int).toNat IntKind.u64.bits))+v0a)) rfl rfl rfl) ?_
     refine sV (Ab rfl) ?_
     refine nx h3e fun h1f=>sV3 (Aa rfl) (Aa rfl) (AF (c:=wu32 (wu64 ((wu64 ((wu64 u2a)*2^min ((x1.tmod 32):Int).toNat IntKind.u64.bits))+v0a))) AD AG rfl rfl) ?_
     refine DY (vals:=[(0,.int .u32 (wu32 (wu64 ((wu64 ((wu64 u2a)*2^min ((x1.tmod 32):Int).toNat IntKind.u64.bits))+v0a))))]) (cs:=[.int .u32 (wu32 (wu64 ((wu64 ((wu64 u2a)*2^min ((x1.tmod 32):Int).toNat IntKind.u64.bits))+v0a)))]) AJ Ao GY (by rfl) (by decide) (by kernel_rfl) fun b2f w3 E9b g8h q3f=>?_
     refine nrm ?_
     have X0c:=xtr X2b E9b
     have n4f:RLu w3 (some ⟨b2f,0,none⟩) 1 [(wu32 (wu64 ((wu64 ((wu64 u2a)*2^min ((x1.tmod 32):Int).toNat IntKind.u64.bits))+v0a)))]:=(OW.lit (n0:=0) (n:=1) (xs:=[(wu32 (wu64 ((wu64 ((wu64 u2a)*2^min ((x1.tmod 32):Int).toNat IntKind.u64.bits))+v0a)))]) q3f (Nat.zero_le _) rfl (by decide)).rl
     obtain ⟨_,h5f,f6f⟩:=Ac f0f
     have gd349:=AC h5f
     refine JE AJ Dw rfl rfl rfl (ow6b.ext E9b) n4f gd349 X0c.size fun A7f c8f w4 B352 ow9f=>?_
     refine nrm ?_
     have X0g:=xO X0c B352 (Nat.le_refl _)
     refine sV (Ab rfl) ?_
     refine wh h1f<|Ai<|sV2 (Aa rfl) (HA (c:=(wu64 ((wu64 ((wu64 u2a)*2^min ((x1.tmod 32):Int).toNat IntKind.u64.bits))+v0a)).fdiv (2^min (32:Int).toNat IntKind.u64.bits)) (by decide) rfl rfl rfl) ?_
     refine sV (Ab rfl) ?_
     refine wh h2e<|Ai<|sV3 (Aa rfl) (AL (c:=wi64 (v4a+1)) rfl rfl rfl) (Ab rfl) ?_
     refine AE ?_
     exact ih7d _ _ ⟨((wu64 ((wu64 ((wu64 u2a)*2^min ((x1.tmod 32):Int).toNat IntKind.u64.bits))+v0a)).fdiv (2^min (32:Int).toNat IntKind.u64.bits)),(wi64 (v4a+1)),(v3a++([(wu32 (wu64 ((wu64 ((wu64 u2a)*2^min ((x1.tmod 32):Int).toNat IntKind.u64.bits))+v0a)))]:List Int)),A7f,c8f,X0g,(OW.nn ow9f),f6f,(Fr.mk (by kernel_rfl))⟩
    ·refine cf e3b<|wp_exit ?_
     simp only [Exit.then,Exit.inBlock,↓reduceIte,Nat.reduceEqDiff]
     obtain rfl:=sj f1e
     exact ⟨_,rfl,A5a,c6a,X2b,(OW.nn ow6b),(Fr.mk (by kernel_rfl))⟩
  ·rintro _ w2 ⟨A8a,c9a,X1g,ow2g,⟨t0b,rfl⟩⟩ l'' hl
   simp only [gp,Nat.reduceAdd] at hl
   subst hl
   refine h3d _ _<|ws fun h3g=>Ai<|sV3 (Aa rfl) (Aa rfl) (AF (c:=wu32 m1a.1) AD AG rfl rfl) ?_
   refine DY (vals:=[(0,.int .u32 (wu32 m1a.1))]) (cs:=[.int .u32 (wu32 m1a.1)]) AJ Ao GY (by rfl) (by decide) (by kernel_rfl) fun b4g w3 E1c g9h q5g=>?_
   refine nrm ?_
   have X2c:=xtr X1g E1c
   have n6g:RLu w3 (some ⟨b4g,0,none⟩) 1 [(wu32 m1a.1)]:=(OW.lit (n0:=0) (n:=1) (xs:=[(wu32 m1a.1)]) q5g (Nat.zero_le _) rfl (by decide)).rl
   obtain ⟨_,h7g,f8g⟩:=Ac f6d
   have gd364:=AC h7g
   refine JE AJ Dw rfl rfl rfl (ow2g.ext E1c) n6g gd364 X2c.size fun A9g c0h w4 B367 ow1h=>?_
   refine nrm ?_
   have X3c:=xO X2c B367 (Nat.le_refl _)
   refine scn f8g (Ad JM (by rfl)) (Cr (m1a.2++([(wu32 m1a.1)]:List Int)) A9g c0h w4 (tbx X3c hT) (OW.rl ow1h)) fun r0i f2h w5 A3h c4h E5h n6h=>?_
   have X7h:=xtr X3c E5h
   refine sV (Ab rfl) ?_
   refine wh h3g<|wp_ret ?_
   exact Bq f2h X7h ⟨A3h,c4h,rfl,n6h⟩
theorem Hh (x0:List Int) (x1:Int) (A1:OA) (c2:Nat) (w:World) (hT:TB w) (n3:RLu w A1 c2 x0) (r:List Int) (hr:Cj x0 x1=some r) :
  Calls prog 154 #[.slice A1 x0.length c2,.int .i64 x1] w (Ret KL w r):=by
 unfold Cj at hr
 go_enter func154,ntmps154
 refine ws fun h4=>Ai<|sV (Ab rfl) ?_
 refine wh h4<|ws fun h5=>ws fun h6=>Ai<|sV2 (Aa rfl) (Ht (c:=wi64 (x1.tdiv 32)) (by decide) rfl rfl rfl) ?_
 refine sV2 (Aa rfl) (Az AJ rfl) ?_
 refine sbl (Gp rfl rfl) fun z7 hz7=>?_
 refine wh h6 ?_
 rcases zi hz7 hr with ⟨e0b,_,f4c⟩ | ⟨e0b,_,f5c⟩
 ·refine ct e0b<|ws fun h6c=>Ai<|sV (Ab rfl) ?_
  refine wh h6c<|wp_ret ?_
  exact Bq f4c (Ext.refl _) ⟨none,0,rfl,(RL.nil _ _ _)⟩
 ·refine cf e0b<|wp_skip<|h5 _ _<|ws fun h7c=>Ai<|sV (Ab rfl) ?_
  refine wh h7c<|ws fun h8c=>ws fun h9c=>Ai<|sV2 (Aa rfl) (Ht (c:=wi64 (x1.tdiv 32)) (by decide) rfl rfl rfl) ?_
  refine sV (Ab rfl) ?_
  refine wh h9c ?_
  obtain ⟨m4a,h0d,f1d⟩:=Ac f5c
  refine BJ (fun l l' w'=>∃(A7a:OA) (c8a:Nat),Ext w w'∧OW 179 w.heap.size w' A7a m4a.length c8a m4a∧Fr l' (fun t1b=>gp t1b 0 5 (.slice A7a m4a.length c8a::gp t1b 6 34 []))) ?_ ?_
  ·apply wp_block
   refine AV (fun l n5b l' w'=>∃(v0a:Int) (v3a:List Int) (A5a:OA) (c6a:Nat),Ext w w'∧OW 179 w.heap.size w' A5a v3a.length c6a v3a∧DO x0 x1 n5b v0a v3a=some m4a∧Fr l' (fun t2b=>.slice A1 x0.length c2::.int .i64 x1::gp t2b 2 3 (.slice A5a v3a.length c6a::.int .i64 v0a::gp t2b 7 33 []))) 18446744073709551616 ?_ ?_ ?_
   ·exact ⟨(wi64 (x1.tdiv 32)),([]:List Int),none,0,(Ext.refl _),(OW.nn (OW.nil 179 w.heap.size w none)),h0d,(Fr.mk (by simp only [OW.len (OW.nil 179 w.heap.size w none)];kernel_rfl))⟩
   ·rintro l' w' ⟨v0a,v3a,A5a,c6a,_,_,hz,_⟩
    exact nomatch hz
   ·rintro n5b ih2d _ w1 ⟨v0a,v3a,A5a,c6a,X9a,ow6b,hr7b,⟨t2b,rfl⟩⟩ l'' hl
    simp only [gp,Nat.reduceAdd] at hl
    subst hl
    unfold DO at hr7b
    refine AW<|ws fun h3d=>ws fun h4d=>Ai<|sV3 (Aa rfl) (Aa rfl) (Az AJ rfl) ?_
    refine sbl (Cu rfl rfl) fun z8b hz8b=>?_
    refine wh h4d ?_
    rcases zi hz8b hr7b with ⟨e3b,_,f5d⟩ | ⟨e3b,_,f6d⟩
    ·refine ct e3b<|wp_skip<|h3d _ _<|ws fun h7d=>?_
     apply wp_block
     refine ws fun h8d=>Ai<|sV3 (Aa rfl) (Aa rfl) (AL (c:=wi64 (v0a+1)) rfl rfl rfl) ?_
     refine scr f5d (Ad Ja (by rfl)) (BS x0 (wi64 (v0a+1)) A1 c2 w1 (tbx X9a hT) (n3.ext X9a)) fun r1a f9d w2 E9b=>?_
     have X4b:=xtr X9a E9b
     refine sV (JQ (c:=wu64 (r1a*2^min (32:Int).toNat IntKind.u64.bits)) (by decide) rfl rfl rfl) ?_
     refine sV2 (Aa rfl) (Aa rfl) ?_
     refine scr f9d (Ad Ja (by rfl)) (BS x0 v0a A1 c2 w2 (tbx X4b hT) (n3.ext X4b)) fun r2a f0e w3 E0c=>?_
     have X1e:=xtr X4b E0c
     refine sV3 (AL (c:=wu64 ((wu64 (r1a*2^min (32:Int).toNat IntKind.u64.bits))+r2a)) rfl rfl rfl) (Aa rfl) (JC (c:=x1.tmod 32) (by decide) rfl rfl rfl) ?_
     obtain ⟨_,h2e,f3e⟩:=Ac f0e
     have gd526:=AC h2e
     refine sV2 (HA (c:=(wu64 ((wu64 (r1a*2^min (32:Int).toNat IntKind.u64.bits))+r2a)).fdiv (2^min ((x1.tmod 32):Int).toNat IntKind.u64.bits)) gd526 rfl rfl rfl) (Ab rfl) ?_
     refine wh h8d<|Ai<|sV3 (Aa rfl) (Aa rfl) (AF (c:=wu32 ((wu64 ((wu64 (r1a*2^min (32:Int).toNat IntKind.u64.bits))+r2a)).fdiv (2^min ((x1.tmod 32):Int).toNat IntKind.u64.bits))) AD AG rfl rfl) ?_
     refine DY (vals:=[(0,.int .u32 (wu32 ((wu64 ((wu64 (r1a*2^min (32:Int).toNat IntKind.u64.bits))+r2a)).fdiv (2^min ((x1.tmod 32):Int).toNat IntKind.u64.bits))))]) (cs:=[.int .u32 (wu32 ((wu64 ((wu64 (r1a*2^min (32:Int).toNat IntKind.u64.bits))+r2a)).fdiv (2^min ((x1.tmod 32):Int).toNat IntKind.u64.bits)))]) AJ Ao GY (by rfl) (by decide) (by kernel_rfl) fun b4e w4 E1c g2g q5e=>?_
     refine nrm ?_
     have X2c:=xtr X1e E1c
     have n6e:RLu w4 (some ⟨b4e,0,none⟩) 1 [(wu32 ((wu64 ((wu64 (r1a*2^min (32:Int).toNat IntKind.u64.bits))+r2a)).fdiv (2^min ((x1.tmod 32):Int).toNat IntKind.u64.bits)))]:=(OW.lit (n0:=0) (n:=1) (xs:=[(wu32 ((wu64 ((wu64 (r1a*2^min (32:Int).toNat IntKind.u64.bits))+r2a)).fdiv (2^min ((x1.tmod 32):Int).toNat IntKind.u64.bits)))]) q5e (Nat.zero_le _) rfl (by decide)).rl
     have ow7e:=((ow6b.ext E9b).ext E0c).ext E1c
     obtain ⟨_,h8e,f9e⟩:=Ac f3e
     have gd536:=AC h8e
     refine JE AJ Dw rfl rfl rfl ow7e n6e gd536 X2c.size fun A0f c1f w5 B539 ow2f=>?_
     refine nrm ?_
     have X3f:=xO X2c B539 (Nat.le_refl _)
     refine sV (Ab rfl) ?_
     refine wh h7d<|Ai<|sV3 (Aa rfl) (AL (c:=wi64 (v0a+1)) rfl rfl rfl) (Ab rfl) ?_
     refine AE ?_
     exact ih2d _ _ ⟨(wi64 (v0a+1)),(v3a++([(wu32 ((wu64 ((wu64 (r1a*2^min (32:Int).toNat IntKind.u64.bits))+r2a)).fdiv (2^min ((x1.tmod 32):Int).toNat IntKind.u64.bits)))]:List Int)),A0f,c1f,X3f,(OW.nn ow2f),f9e,(Fr.mk (by kernel_rfl))⟩
    ·refine cf e3b<|wp_exit ?_
     simp only [Exit.then,Exit.inBlock,↓reduceIte,Nat.reduceEqDiff]
     obtain rfl:=sj f6d
     exact ⟨_,rfl,A5a,c6a,X9a,(OW.nn ow6b),(Fr.mk (by kernel_rfl))⟩
  ·rintro _ w1 ⟨A7a,c8a,X3c,ow4f,⟨t1b,rfl⟩⟩ l'' hl
   simp only [gp,Nat.reduceAdd] at hl
   subst hl
   refine h8c _ _<|ws fun h5f=>Ai<|sV (Aa rfl) ?_
   refine scn f1d (Ad JM (by rfl)) (Cr m4a A7a c8a w1 (tbx X3c hT) (OW.rl ow4f)) fun r3g f6f w2 A7f c8f E9f n0g=>?_
   have X1g:=xtr X3c E9f
   refine sV (Ab rfl) ?_
   refine wh h5f<|wp_ret ?_
   exact Bq f6f X1g ⟨A7f,c8f,rfl,n0g⟩
theorem c_sorobanref01_Trim_o (x0:List Int) (A1:OA) (c2:Nat) (w:World) (hT:TB w) (n3:RLu w A1 c2 x0) (r:List Int) (hr:Fk x0=some r) :
  Calls prog 210 #[.slice A1 x0.length c2] w (Ret (repo w) w r):=by
 unfold Fk at hr
 go_enter func210,ntmps210
 refine ws fun h4=>Ai<|sV (Ab rfl) ?_
 refine nx h4 fun h5=>sV3 (Aa rfl) (Az AJ rfl) (Ab rfl) ?_
 refine wh h5<|ws fun h6=>?_
 obtain ⟨m4a,h5b,f6b⟩:=Ac hr
 refine BJ (fun l l' w'=>w=w'∧Fr l' (fun t6a=>.slice A1 x0.length c2::gp t6a 1 2 (.int .i64 m4a::gp t6a 4 19 []))) ?_ ?_
 ·apply wp_block
  refine AV (fun l n2b l' w'=>∃(v2a:Int) (t3a:Nat→Value),w=w'∧DA x0 n2b v2a=some m4a∧Fr l' (fun t5a=>.slice A1 x0.length c2::gp t5a 1 2 (.int .i64 v2a::gp t5a 4 5 ((t3a 0)::(t3a 1)::(t3a 2)::(t3a 3)::(t3a 4)::(t3a 5)::gp t5a 15 8 [])))) 18446744073709551616 ?_ ?_ ?_
  ·exact ⟨(x0.length:Int),(tk [uu,uu,uu,uu,uu,uu]),(by trivial),h5b,(Fr.mk (by kernel_rfl))⟩
  ·rintro l' w' ⟨v2a,t3a,_,hz,_⟩
   exact nomatch hz
  ·rintro n2b ih7b _ _ ⟨v2a,t3a,rfl,hr3b,⟨t5a,rfl⟩⟩ l'' hl
   simp only [gp,Nat.reduceAdd] at hl
   subst hl
   unfold DA at hr3b
   refine AW<|ws fun h8b=>ws fun h9b=>Ai<|sV (Aa rfl) ?_
   refine sbl (ES rfl rfl) fun z4b hz4b=>?_
   refine sV (Aa rfl) ?_
   obtain ⟨m0c,h1c,f2c⟩:=Ac hr3b
   refine Bw 10 (fun l l' w'=>∃(t1a:Nat→Value),w=w'∧l'=(((((((l.set 9 (t1a 0)).set 10 (t1a 1)).set 11 (t1a 2)).set 12 (t1a 3)).set 13 (t1a 4)).set 14 (t1a 5)).set 15 (.bool m0c))) ?_ ?_
   ·intro HJ307
    rcases zi hz4b h1c with ⟨e0a,_,f3c⟩ | ⟨e0a,_,f4c⟩
    ·refine sV (Aa rfl) ?_ (hw:=wgT rfl e0a)
     refine sV (Aa rfl) ?_ (hw:=wgT rfl e0a)
     refine sV (Bc (c:=wi64 (v2a - 1)) rfl rfl rfl) ?_ (hw:=wgT rfl e0a)
     obtain ⟨u7a,h5c,f6c⟩:=Ac f3c
     obtain ⟨bb316,oo317,hA7c,ia8c,ib9c,hc319⟩:=RL.nth n3 h5c
     refine sV (As AJ Ao rfl rfl hA7c ia8c ib9c) ?_ (hw:=wgT rfl e0a)
     refine sV (Ah AP rfl hc319) ?_ (hw:=wgT rfl e0a)
     refine sbl (BD rfl rfl) (fun z8a hz8a=>?_) (hw:=wgT rfl e0a)
     refine sV (Aq (evb rfl e0a) rfl) ?_
     obtain rfl:z8a=decide (u7a=0):=bz hz8a
     obtain rfl:=sj f6c
     exact HJ307 _ _ ⟨(tk [.slice A1 x0.length c2,.int .i64 v2a,.int .i64 (wi64 (v2a - 1)),.pointer (some ⟨bb316,oo317+((wi64 (v2a - 1)):Int).toNat,none⟩),.int .u32 u7a,.bool (decide (u7a=0))]),(by trivial),(by kernel_rfl)⟩
    ·refine sQ rfl e0a ?_
     refine sQ rfl e0a ?_
     refine sQ rfl e0a ?_
     refine sQ rfl e0a ?_
     refine sQ rfl e0a ?_
     refine sQ rfl e0a ?_
     refine sV (Av (evb rfl e0a) rfl) ?_
     obtain rfl:=sj f4c
     exact HJ307 _ _ ⟨(tk [uu,uu,uu,uu,uu,uu]),(by trivial),(by kernel_rfl)⟩
   ·rintro l' _ ⟨t1a,rfl,rfl⟩ l'' hl
    simp only [S0,S1] at hl;subst hl
    refine wh h9b ?_
    rcases zb f2c with ⟨e9a,f0d⟩ | ⟨e9a,f1d⟩
    ·refine ct e9a<|wp_skip<|h8b _ _ ?_
     apply wp_block
     refine Ai<|sV3 (Aa rfl) (Bc (c:=wi64 (v2a - 1)) rfl rfl rfl) (Ab rfl) ?_
     refine AE ?_
     exact ih7b _ _ ⟨(wi64 (v2a - 1)),(tk [t1a 0,t1a 1,t1a 2,t1a 3,t1a 4,t1a 5]),(by trivial),f0d,(Fr.mk (by kernel_rfl))⟩
    ·refine cf e9a<|wp_exit ?_
     simp only [Exit.then,Exit.inBlock,↓reduceIte,Nat.reduceEqDiff]
     obtain rfl:=sj f1d
     exact ⟨_,rfl,(by trivial),(Fr.mk (by kernel_rfl))⟩
 ·rintro _ _ ⟨rfl,⟨t6a,rfl⟩⟩ l'' hl
  simp only [gp,Nat.reduceAdd] at hl
  subst hl
  refine h6 _ _<|ws fun h2d=>Ai<|MO AJ Dw fun A3d w1 E0b=>?_
  refine nrm ?_
  refine sV2 (Aa rfl) (Aa rfl) ?_
  obtain ⟨_,h4d,f5d⟩:=Ac f6b
  have gd340:=AC h4d
  refine Nu (lo:=0) (hi:=(m4a:Int).toNat) AJ Ao rfl rfl ⟨.i64,by rw [Int.toNat_of_nonneg (a:=m4a) (by omega)];rfl⟩ (by omega) (by omega) (n3.ext E0b) fun A2e c3e n6d=>?_
  refine nrm ?_
  obtain ⟨_,h7d,f8d⟩:=Ac f5d
  have gd346:=AC h7d
  refine JE AJ Dw rfl rfl rfl (OW.nil 179 w.heap.size w1 A3d) n6d gd346 E0b.size fun A9d c0e w2 B349 ow1b=>?_
  refine nrm ?_
  have X1e:=xO E0b B349 (Nat.le_refl _)
  refine sV (Ab rfl) ?_
  refine wh h2d<|wp_ret ?_
  exact IJ f8d rfl (Res.tmp rfl Res.nil) (Bg X1e ⟨A9d,c0e,(by rw [OW.len ow1b];rfl),(by rw [OW.len ow1b];exact OW.mono ow1b (Nat.le_refl _))⟩)
theorem Jm (x0:List Int) (x1:Int) (A1:OA) (c2:Nat) (w:World) (hT:TB w) (n3:RLu w A1 c2 x0) (r:List Int) (hr:EG x0 x1=some r) :
  Calls prog 148 #[.slice A1 x0.length c2,.int .i64 x1] w (Ret (repo w) w r):=by
 unfold EG at hr
 go_enter func148,ntmps148
 refine ws fun h4=>Ai<|sV (Ab rfl) ?_
 refine wh h4<|ws fun h5=>ws fun h6=>Ai<|sV2 (Aa rfl) (Az AJ rfl) ?_
 refine sbl (BD rfl rfl) fun z7 hz7=>?_
 refine wh h6 ?_
 rcases zi hz7 hr with ⟨e7a,_,f6c⟩ | ⟨e7a,_,f7c⟩
 ·refine ct e7a<|ws fun h8c=>Ai<|sV2 (Aa rfl) (Ab rfl) ?_
  refine wh h8c<|wp_ret ?_
  exact nomatch f6c
 ·refine cf e7a<|wp_skip<|h5 _ _<|ws fun h9c=>Ai<|sV2 (Aa rfl) (Ht (c:=wi64 (x1.tdiv 32)) (by decide) rfl rfl rfl) ?_
  refine sV2 (Aa rfl) (Ht (c:=wi64 (x1.tdiv 32)) (by decide) rfl rfl rfl) ?_
  refine sV3 (Aa rfl) (Az AJ rfl) (AL (c:=wi64 ((wi64 (x1.tdiv 32))+(x0.length:Int))) rfl rfl rfl) ?_
  refine sV (AL (c:=wi64 ((wi64 ((wi64 (x1.tdiv 32))+(x0.length:Int)))+1)) rfl rfl rfl) ?_
  obtain ⟨_,h0d,f1d⟩:=Ac f7c
  have gd22:=AC h0d
  refine HE AJ Dw rfl rfl gd22 fun A2d w1 E3d ow6b=>?_
  refine nrm ?_
  refine sV (Ab rfl) ?_
  refine nx h9c fun h4d=>sV (Ab rfl) ?_
  refine wh h4d<|ws fun h5d=>ws fun h6d=>Ai<|sV (Ab rfl) ?_
  refine wh h6d ?_
  obtain ⟨m1a,h7d,f8d⟩:=Ac f1d
  refine BJ (fun l l' w'=>∃(A8a:OA) (c9a:Nat),Ext w w'∧OW 179 w.heap.size w' A8a m1a.2.length c9a m1a.2∧Fr l' (fun t0b=>gp t0b 0 5 (.slice A8a m1a.2.length c9a::.int .u64 m1a.1::gp t0b 7 44 []))) ?_ ?_
  ·apply wp_block
   refine AV (fun l n7b l' w'=>∃(v0a:Int) (v4a:Int) (v3a:List Int) (A5a:OA) (c6a:Nat),Ext w w'∧OW 179 w.heap.size w' A5a v3a.length c6a v3a∧DS x0 x1 n7b v0a v4a v3a=some m1a∧Fr l' (fun t1b=>.slice A1 x0.length c2::.int .i64 x1::gp t1b 2 3 (.slice A5a v3a.length c6a::.int .u64 v0a::.int .i64 v4a::gp t1b 8 43 []))) 18446744073709551616 ?_ ?_ ?_
   ·exact ⟨0,0,(List.replicate ((wi64 (x1.tdiv 32)):Int).toNat (0:Int)),A2d,(((wi64 ((wi64 ((wi64 (x1.tdiv 32))+(x0.length:Int)))+1)):Int).toNat),E3d,(OW.nn ow6b),h7d,(Fr.mk (by simp only [OW.len ow6b];kernel_rfl))⟩
   ·rintro l' w' ⟨v0a,v4a,v3a,A5a,c6a,_,_,hz,_⟩
    exact nomatch hz
   ·rintro n7b ih9d _ w2 ⟨v0a,v4a,v3a,A5a,c6a,X2b,ow8b,hr9b,⟨t1b,rfl⟩⟩ l'' hl
    simp only [gp,Nat.reduceAdd] at hl
    subst hl
    unfold DS at hr9b
    refine AW<|ws fun h0e=>ws fun h1e=>Ai<|sV3 (Aa rfl) (Aa rfl) (Az AJ rfl) ?_
    refine sbl (Cu rfl rfl) fun z0c hz0c=>?_
    refine wh h1e ?_
    rcases zi hz0c hr9b with ⟨e3b,_,f2e⟩ | ⟨e3b,_,f3e⟩
    ·refine ct e3b<|wp_skip<|h0e _ _<|ws fun h4e=>?_
     apply wp_block
     refine ws fun h5e=>Ai<|sV2 (Aa rfl) (Aa rfl) ?_
     obtain ⟨u2a,h6e,f7e⟩:=Ac f2e
     obtain ⟨bb330,oo331,hA8e,ia9e,ib0f,hc333⟩:=RL.nth (n3.ext X2b) h6e
     refine sV3 (As AJ Ao rfl rfl hA8e ia9e ib0f) (Ah AP rfl hc333) (AF (c:=wu64 u2a) AG AD rfl rfl) ?_
     refine sV2 (Aa rfl) (JC (c:=x1.tmod 32) (by decide) rfl rfl rfl) ?_
     obtain ⟨_,h1f,f2f⟩:=Ac f7e
     have gd339:=AC h1f
     refine sV3 (JQ (c:=wu64 ((wu64 u2a)*2^min ((x1.tmod 32):Int).toNat IntKind.u64.bits)) gd339 rfl rfl rfl) (Aa rfl) (AL (c:=wu64 ((wu64 ((wu64 u2a)*2^min ((x1.tmod 32):Int).toNat IntKind.u64.bits))+v0a)) rfl rfl rfl) ?_
     refine sV (Ab rfl) ?_
     refine nx h5e fun h3f=>sV3 (Aa rfl) (Aa rfl) (AF (c:=wu32 (wu64 ((wu64 ((wu64 u2a)*2^min ((x1.tmod 32):Int).toNat IntKind.u64.bits))+v0a))) AD AG rfl rfl) ?_
     refine DY (vals:=[(0,.int .u32 (wu32 (wu64 ((wu64 ((wu64 u2a)*2^min ((x1.tmod 32):Int).toNat IntKind.u64.bits))+v0a))))]) (cs:=[.int .u32 (wu32 (wu64 ((wu64 ((wu64 u2a)*2^min ((x1.tmod 32):Int).toNat IntKind.u64.bits))+v0a)))]) AJ Ao GY (by rfl) (by decide) (by kernel_rfl) fun b4f w3 E1c g0i q5f=>?_
     refine nrm ?_
     have X2c:=xtr X2b E1c
     have n6f:RLu w3 (some ⟨b4f,0,none⟩) 1 [(wu32 (wu64 ((wu64 ((wu64 u2a)*2^min ((x1.tmod 32):Int).toNat IntKind.u64.bits))+v0a)))]:=(OW.lit (n0:=0) (n:=1) (xs:=[(wu32 (wu64 ((wu64 ((wu64 u2a)*2^min ((x1.tmod 32):Int).toNat IntKind.u64.bits))+v0a)))]) q5f (Nat.zero_le _) rfl (by decide)).rl
     obtain ⟨_,h7f,f8f⟩:=Ac f2f
     have gd349:=AC h7f
     refine JE AJ Dw rfl rfl rfl (ow8b.ext E1c) n6f gd349 X2c.size fun A9f c0g w4 B352 ow1g=>?_
     refine nrm ?_
     have X2g:=xO X2c B352 (Nat.le_refl _)
     refine sV (Ab rfl) ?_
     refine wh h3f<|Ai<|sV2 (Aa rfl) (HA (c:=(wu64 ((wu64 ((wu64 u2a)*2^min ((x1.tmod 32):Int).toNat IntKind.u64.bits))+v0a)).fdiv (2^min (32:Int).toNat IntKind.u64.bits)) (by decide) rfl rfl rfl) ?_
     refine sV (Ab rfl) ?_
     refine wh h4e<|Ai<|sV3 (Aa rfl) (AL (c:=wi64 (v4a+1)) rfl rfl rfl) (Ab rfl) ?_
     refine AE ?_
     exact ih9d _ _ ⟨((wu64 ((wu64 ((wu64 u2a)*2^min ((x1.tmod 32):Int).toNat IntKind.u64.bits))+v0a)).fdiv (2^min (32:Int).toNat IntKind.u64.bits)),(wi64 (v4a+1)),(v3a++([(wu32 (wu64 ((wu64 ((wu64 u2a)*2^min ((x1.tmod 32):Int).toNat IntKind.u64.bits))+v0a)))]:List Int)),A9f,c0g,X2g,(OW.nn ow1g),f8f,(Fr.mk (by kernel_rfl))⟩
    ·refine cf e3b<|wp_exit ?_
     simp only [Exit.then,Exit.inBlock,↓reduceIte,Nat.reduceEqDiff]
     obtain rfl:=sj f3e
     exact ⟨_,rfl,A5a,c6a,X2b,(OW.nn ow8b),(Fr.mk (by kernel_rfl))⟩
  ·rintro _ w2 ⟨A8a,c9a,X3g,ow4g,⟨t0b,rfl⟩⟩ l'' hl
   simp only [gp,Nat.reduceAdd] at hl
   subst hl
   refine h5d _ _<|ws fun h5g=>Ai<|sV3 (Aa rfl) (Aa rfl) (AF (c:=wu32 m1a.1) AD AG rfl rfl) ?_
   refine DY (vals:=[(0,.int .u32 (wu32 m1a.1))]) (cs:=[.int .u32 (wu32 m1a.1)]) AJ Ao GY (by rfl) (by decide) (by kernel_rfl) fun b6g w3 E3c g1i q7g=>?_
   refine nrm ?_
   have X4c:=xtr X3g E3c
   have n8g:RLu w3 (some ⟨b6g,0,none⟩) 1 [(wu32 m1a.1)]:=(OW.lit (n0:=0) (n:=1) (xs:=[(wu32 m1a.1)]) q7g (Nat.zero_le _) rfl (by decide)).rl
   obtain ⟨_,h9g,f0h⟩:=Ac f8d
   have gd364:=AC h9g
   refine JE AJ Dw rfl rfl rfl (ow4g.ext E3c) n8g gd364 X4c.size fun A1h c2h w4 B367 ow5c=>?_
   refine nrm ?_
   have X4b:=xO X4c B367 (Nat.le_refl _)
   obtain ⟨r3h,h4h,f5h⟩:=Ac f0h
   have hl377:=OW.lt ow5c
   refine sc (Ad JM (by rfl)) (c_sorobanref01_Trim_o (m1a.2++([(wu32 m1a.1)]:List Int)) A1h c2h w4 (tbx X4b hT) (OW.rl ow5c) r3h h4h) ?_
   rintro _ w5 E6h ⟨A7h,c8h,rfl,n5b⟩
   refine nrm ?_
   have X9h:=xtr X4b E6h
   refine sV (Ab rfl) ?_
   refine wh h5g<|wp_ret ?_
   exact IJ f5h rfl (Res.tmp rfl Res.nil) (Bg X9h ⟨A7h,c8h,(by rw [OW.len n5b];rfl),(by rw [OW.len n5b];exact OW.mono n5b X4b.size)⟩)
theorem Jj (x0:List Int) (A1:OA) (c2:Nat) (w:World) (hT:TB w) (n3:RLu w A1 c2 x0) (r:Bool) (hr:GA x0=some r) :
  Calls prog 208 #[.slice A1 x0.length c2] w (Ret Gc w r):=by
 unfold GA at hr
 go_enter func208,ntmps208
 refine ws fun h4=>Ai<|sV (Ab rfl) ?_
 refine nx h4 fun h5=>sV2 (Aa rfl) (Az AJ rfl) ?_
 refine sbl (GL rfl rfl) fun z6 hz6=>?_
 refine sV (Aa rfl) ?_
 obtain ⟨m8a,h9a,f0b⟩:=Ac hr
 refine Bw 17 (fun l l' w'=>∃(t3a:Nat→Value),w=w'∧l'=(((((((((((((l.set 7 (t3a 0)).set 8 (t3a 1)).set 9 (t3a 2)).set 10 (t3a 3)).set 11 (t3a 4)).set 12 (t3a 5)).set 13 (t3a 6)).set 14 (t3a 7)).set 15 (t3a 8)).set 16 (t3a 9)).set 17 (t3a 10)).set 18 (t3a 11)).set 19 (.bool m8a))) ?_ ?_
 ·intro HJ54
  rcases zi hz6 h9a with ⟨e2a,_,f1b⟩ | ⟨e2a,_,f2b⟩
  ·refine sV (Aa rfl) ?_ (hw:=wgT rfl e2a)
   refine sV (Az AJ rfl) ?_ (hw:=wgT rfl e2a)
   refine sbl (BD rfl rfl) (fun z4a hz4a=>?_) (hw:=wgT rfl e2a)
   refine sV (Aa rfl) ?_ (hw:=wgT rfl e2a)
   obtain ⟨m7a,h3b,f4b⟩:=Ac f1b
   refine Bw 16 (fun l l' w'=>∃(t1a:Nat→Value),w=w'∧l'=((((((((l.set 11 (t1a 0)).set 12 (t1a 1)).set 13 (t1a 2)).set 14 (t1a 3)).set 15 (t1a 4)).set 16 (t1a 5)).set 17 (t1a 6)).set 18 (.bool m7a))) ?_ ?_
   ·intro HJ81
    rcases zi hz4a h3b with ⟨e0a,_,f5b⟩ | ⟨e0a,_,f6b⟩
    ·refine sQ rfl e0a ?_
     refine sQ rfl e0a ?_
     refine sQ rfl e0a ?_
     refine sQ rfl e0a ?_
     refine sQ rfl e0a ?_
     refine sQ rfl e0a ?_
     refine sQ rfl e0a ?_
     refine sV (Aq (evb rfl e0a) rfl) ?_ (hw:=wgT rfl e2a)
     obtain rfl:=sj f5b
     exact HJ81 _ _ ⟨(tk [uu,uu,uu,uu,uu,uu,uu]),(by trivial),(by kernel_rfl)⟩
    ·refine sV (Aa rfl) ?_ (hw:=wgT rfl e0a)
     refine sV (Aa rfl) ?_ (hw:=wgT rfl e0a)
     refine sV (Az AJ rfl) ?_ (hw:=wgT rfl e0a)
     refine sV (Bc (c:=wi64 ((x0.length:Int) - 1)) rfl rfl rfl) ?_ (hw:=wgT rfl e0a)
     obtain ⟨u5a,h7b,f8b⟩:=Ac f6b
     obtain ⟨bb90,oo91,hA9b,ia0c,ib1c,hc93⟩:=RL.nth n3 h7b
     refine sV (As AJ Ao rfl rfl hA9b ia0c ib1c) ?_ (hw:=wgT rfl e0a)
     refine sV (Ah AP rfl hc93) ?_ (hw:=wgT rfl e0a)
     refine sbl (IW rfl rfl) (fun z6a hz6a=>?_) (hw:=wgT rfl e0a)
     refine sV (Av (evb rfl e0a) rfl) ?_ (hw:=wgT rfl e2a)
     obtain rfl:z6a=decide (¬u5a=0):=bz hz6a
     obtain rfl:=sj f8b
     exact HJ81 _ _ ⟨(tk [.slice A1 x0.length c2,.slice A1 x0.length c2,.int .i64 (x0.length:Int),.int .i64 (wi64 ((x0.length:Int) - 1)),.pointer (some ⟨bb90,oo91+((wi64 ((x0.length:Int) - 1)):Int).toNat,none⟩),.int .u32 u5a,.bool (decide (¬u5a=0))]),(by trivial),(by kernel_rfl)⟩
   ·rintro l' _ ⟨t1a,rfl,rfl⟩ l'' hl
    simp only [S0,S1] at hl;subst hl
    refine sV (Aq (evb rfl e2a) rfl) ?_
    obtain rfl:=sj f4b
    exact HJ54 _ _ ⟨(tk [.slice A1 x0.length c2,.int .i64 (x0.length:Int),.bool z4a,.bool z4a,t1a 0,t1a 1,t1a 2,t1a 3,t1a 4,t1a 5,t1a 6,.bool m7a]),(by trivial),(by kernel_rfl)⟩
  ·refine sQ rfl e2a ?_
   refine sQ rfl e2a ?_
   refine sQ rfl e2a ?_
   refine sQ rfl e2a ?_
   refine sP ?_
   refine sP ?_
   refine sP ?_
   refine sP ?_
   refine sP ?_
   refine sP ?_
   refine sP ?_
   refine sQ rfl e2a ?_
   refine sV (Av (evb rfl e2a) rfl) ?_
   obtain rfl:=sj f2b
   exact HJ54 _ _ ⟨(tk [uu,uu,uu,uu,uu,uu,uu,uu,uu,uu,uu,uu]),(by trivial),(by kernel_rfl)⟩
 ·rintro l' _ ⟨t3a,rfl,rfl⟩ l'' hl
  simp only [S0,S1] at hl;subst hl
  refine sV (Ab rfl) ?_
  refine wh h5<|wp_ret ?_
  exact Bq f0b (Ext.refl _) rfl
end Go.Proofs.Lf

