import Derived.Test.YtabiobmfelafoaaGreatDoorLeafDefs
namespace Go.Proofs.Lf
set_option linter.unusedVariables false
set_option linter.unusedSimpArgs false
set_option maxHeartbeats 4000000
open Go.RowKit Go.Sb Go.Proofs Go.Proofs.Sbn
open Go.Proofs.Tryz
theorem HV (x0:List Int) (A1:OA) (c2:Nat) (w:World) (hT:TB w) (n3:RLu w A1 c2 x0) (r:Bool) (hr:Bw x0=some r) :
  Calls prog 143 #[.slice A1 x0.length c2] w (Ret Gi w r):=by
 unfold Bw at hr
 go_enter func143,ntmps143
 refine ws fun h4=>Ah<|sV (Ab rfl) ?_
 refine nx h4 fun h5=>sV2 (Aa rfl) (AD CH rfl) ?_
 refine sbl (KX rfl rfl) fun z6 hz6=>?_
 refine sV (Aa rfl) ?_
 obtain ⟨m8a,h9a,f0b⟩:=Ad hr
 refine BH 17 (fun l l' w'=>∃(t3a:Nat→Value),w=w'∧l'=(((((((((((((l.set 7 (t3a 0)).set 8 (t3a 1)).set 9 (t3a 2)).set 10 (t3a 3)).set 11 (t3a 4)).set 12 (t3a 5)).set 13 (t3a 6)).set 14 (t3a 7)).set 15 (t3a 8)).set 16 (t3a 9)).set 17 (t3a 10)).set 18 (t3a 11)).set 19 (.bool m8a))) ?_ ?_
 ·intro HJ54
  rcases zi hz6 h9a with ⟨e2a,_,f1b⟩ | ⟨e2a,_,f2b⟩
  ·refine sV (Aa rfl) ?_ (hw:=wgT rfl e2a)
   refine sV (AD CH rfl) ?_ (hw:=wgT rfl e2a)
   refine sbl (Cy rfl rfl) (fun z4a hz4a=>?_) (hw:=wgT rfl e2a)
   refine sV (Aa rfl) ?_ (hw:=wgT rfl e2a)
   obtain ⟨m7a,h3b,f4b⟩:=Ad f1b
   refine BH 16 (fun l l' w'=>∃(t1a:Nat→Value),w=w'∧l'=((((((((l.set 11 (t1a 0)).set 12 (t1a 1)).set 13 (t1a 2)).set 14 (t1a 3)).set 15 (t1a 4)).set 16 (t1a 5)).set 17 (t1a 6)).set 18 (.bool m7a))) ?_ ?_
   ·intro HJ81
    rcases zi hz4a h3b with ⟨e0a,_,f5b⟩ | ⟨e0a,_,f6b⟩
    ·refine sQ rfl e0a ?_
     refine sQ rfl e0a ?_
     refine sQ rfl e0a ?_
     refine sQ rfl e0a ?_
     refine sQ rfl e0a ?_
     refine sQ rfl e0a ?_
     refine sQ rfl e0a ?_
     refine sV (Az (evb rfl e0a) rfl) ?_ (hw:=wgT rfl e2a)
     obtain rfl:=sj f5b
     exact HJ81 _ _ ⟨(tk [uu,uu,uu,uu,uu,uu,uu]),(by trivial),(by kernel_rfl)⟩
    ·refine sV (Aa rfl) ?_ (hw:=wgT rfl e0a)
     refine sV (Aa rfl) ?_ (hw:=wgT rfl e0a)
     refine sV (AD CH rfl) ?_ (hw:=wgT rfl e0a)
     refine sV (Bt (c:=wi64 ((x0.length:Int) - 1)) rfl rfl rfl) ?_ (hw:=wgT rfl e0a)
     obtain ⟨u5a,h7b,f8b⟩:=Ad f6b
     obtain ⟨bb90,oo91,hA9b,ia0c,ib1c,hc93⟩:=RL.nth n3 h7b
     refine sV (AA CH Av rfl rfl hA9b ia0c ib1c) ?_ (hw:=wgT rfl e0a)
     refine sV (Ag AZ rfl hc93) ?_ (hw:=wgT rfl e0a)
     refine sbl (Il rfl rfl) (fun z6a hz6a=>?_) (hw:=wgT rfl e0a)
     refine sV (AE (evb rfl e0a) rfl) ?_ (hw:=wgT rfl e2a)
     obtain rfl:z6a=decide (¬u5a=0):=bz hz6a
     obtain rfl:=sj f8b
     exact HJ81 _ _ ⟨(tk [.slice A1 x0.length c2,.slice A1 x0.length c2,.int .i64 (x0.length:Int),.int .i64 (wi64 ((x0.length:Int) - 1)),.pointer (some ⟨bb90,oo91+((wi64 ((x0.length:Int) - 1)):Int).toNat,none⟩),.int .u32 u5a,.bool (decide (¬u5a=0))]),(by trivial),(by kernel_rfl)⟩
   ·rintro l' _ ⟨t1a,rfl,rfl⟩ l'' hl
    simp only [S0,S1] at hl;subst hl
    refine sV (Az (evb rfl e2a) rfl) ?_
    obtain rfl:=sj f4b
    exact HJ54 _ _ ⟨(tk [.slice A1 x0.length c2,.int .i64 (x0.length:Int),.bool z4a,.bool z4a,t1a 0,t1a 1,t1a 2,t1a 3,t1a 4,t1a 5,t1a 6,.bool m7a]),(by trivial),(by kernel_rfl)⟩
  ·refine sQ rfl e2a ?_
   refine sQ rfl e2a ?_
   refine sQ rfl e2a ?_
   refine sQ rfl e2a ?_
   refine sP ?_
   refine sP ?_
   refine sP ?_
   refine sP ?_
   refine sP ?_
   refine sP ?_
   refine sP ?_
   refine sQ rfl e2a ?_
   refine sV (AE (evb rfl e2a) rfl) ?_
   obtain rfl:=sj f2b
   exact HJ54 _ _ ⟨(tk [uu,uu,uu,uu,uu,uu,uu,uu,uu,uu,uu,uu]),(by trivial),(by kernel_rfl)⟩
 ·rintro l' _ ⟨t3a,rfl,rfl⟩ l'' hl
  simp only [S0,S1] at hl;subst hl
  refine sV (Ab rfl) ?_
  refine wh h5<|wp_ret ?_
  exact Bn f0b (Ext.refl _) rfl
theorem IY (x0:List Int) (x1:Int) (A1:OA) (c2:Nat) (w:World) (hT:TB w) (n3:RLu w A1 c2 x0) (r:Int) (hr:Bi x0 x1=some r) :
  Calls prog 197 #[.slice A1 x0.length c2,.int .i64 x1] w (Ret MY w r):=by
 unfold Bi at hr
 go_enter func197,ntmps197
 refine ws fun h4=>Ah<|sV (Ab rfl) ?_
 refine wh h4<|ws fun h5=>ws fun h6=>Ah<|sV3 (Aa rfl) (Aa rfl) (AD CH rfl) ?_
 refine sbl (Hb rfl rfl) fun z7 hz7=>?_
 refine wh h6 ?_
 rcases zi hz7 hr with ⟨e0a,_,f1a⟩ | ⟨e0a,_,f2a⟩
 ·refine ct e0a<|ws fun h3a=>Ah<|sV (Ab rfl) ?_
  refine wh h3a<|wp_ret ?_
  exact Bn f1a (Ext.refl _) rfl
 ·refine cf e0a<|wp_skip<|h5 _ _<|ws fun h4a=>Ah<|sV2 (Aa rfl) (Aa rfl) ?_
  obtain ⟨u5a,h6a,f7a⟩:=Ad f2a
  obtain ⟨bb23,oo24,hA8a,ia9a,ib0b,hc26⟩:=RL.nth n3 h6a
  refine sV3 (AA CH Av rfl rfl hA8a ia9a ib0b) (Ag AZ rfl hc26) (AO (c:=wu64 u5a) AQ AN rfl rfl) ?_
  refine sV (Ab rfl) ?_
  refine wh h4a<|wp_ret ?_
  exact Bn f7a (Ext.refl _) rfl
theorem Hs (x0:List Int) (x1:Int) (A1:OA) (c2:Nat) (w:World) (hT:TB w) (n3:RLu w A1 c2 x0) (r:Int) (hr:BV x0 x1=some r) :
  Calls prog 128 #[.slice A1 x0.length c2,.int .i64 x1] w (Ret MY w r):=by
 unfold BV at hr
 go_enter func128,ntmps128
 refine ws fun h4=>Ah<|sV (Ab rfl) ?_
 refine nx h4 fun h5=>sV3 (Aa rfl) (Aa rfl) (Ji (c:=wi64 (x1.tdiv 32)) (by decide) rfl rfl rfl) ?_
 refine scr hr (Ac Qj (by rfl)) (IY x0 (wi64 (x1.tdiv 32)) A1 c2 w hT n3) fun r6 f8 w1 E9=>?_
 refine sV2 (Aa rfl) (LD (c:=x1.tmod 32) (by decide) rfl rfl rfl) ?_
 obtain ⟨_,h0a,f1a⟩:=Ad f8
 have gd12:=AI h0a
 refine sV2 (IX (c:=r6.fdiv (2^min ((x1.tmod 32):Int).toNat IntKind.u64.bits)) gd12 rfl rfl rfl) (LD (c:=(r6.fdiv (2^min ((x1.tmod 32):Int).toNat IntKind.u64.bits)).tmod 2) (by decide) rfl rfl rfl) ?_
 refine sV (Ab rfl) ?_
 refine wh h5<|wp_ret ?_
 exact Bn f1a E9 rfl
theorem Iq (x0:List Int) (x1:List Int) (A1:OA) (c2:Nat) (A4:OA) (c5:Nat) (w:World) (hT:TB w) (n3:RLu w A1 c2 x0) (n6:RLu w A4 c5 x1) (r:Bool) (hr:Ca x0 x1=some r) :
  Calls prog 144 #[.slice A1 x0.length c2,.slice A4 x1.length c5] w (Ret Gi w r):=by
 unfold Ca at hr
 go_enter func144,ntmps144
 refine ws fun h7=>Ah<|sV (Ab rfl) ?_
 refine wh h7<|ws fun h8=>ws fun h9=>Ah<|sV3 (Aa rfl) (AD CH rfl) (Aa rfl) ?_
 refine sV (AD CH rfl) ?_
 refine sbl (Il rfl rfl) fun z7a hz7a=>?_
 refine wh h9 ?_
 rcases zi hz7a hr with ⟨e1a,_,f4b⟩ | ⟨e1a,_,f5b⟩
 ·refine ct e1a<|ws fun h6b=>Ah<|sV (Ab rfl) ?_
  refine wh h6b<|wp_ret ?_
  exact Bn f4b (Ext.refl _) rfl
 ·refine cf e1a<|wp_skip<|h8 _ _<|ws fun h7b=>ws fun h8b=>Ah<|sV (Ab rfl) ?_
  refine wh h8b ?_
  apply wp_block
  refine Bp (fun l n8a l' w'=>∃(v0a:Int),Ext w w'∧Cm x0 x1 n8a v0a=some r∧Fr l' (fun t2a=>.slice A1 x0.length c2::.slice A4 x1.length c5::gp t2a 2 3 (.int .i64 v0a::gp t2a 6 20 []))) 18446744073709551616 ?_ ?_ ?_
  ·exact ⟨0,(Ext.refl _),f5b,(Fr.mk (by kernel_rfl))⟩
  ·rintro l' w' ⟨v0a,_,hz,_⟩
   exact nomatch hz
  ·rintro n8a ih9b _ w1 ⟨v0a,U3a,hr9a,⟨t2a,rfl⟩⟩ l'' hl
   simp only [gp,Nat.reduceAdd] at hl
   subst hl
   unfold Cm at hr9a
   refine AW<|ws fun h0c=>ws fun h1c=>Ah<|sV3 (Aa rfl) (Aa rfl) (AD CH rfl) ?_
   refine sbl (Bv rfl rfl) fun z0b hz0b=>?_
   refine wh h1c ?_
   rcases zi hz0b hr9a with ⟨e4a,_,f2c⟩ | ⟨e4a,_,f3c⟩
   ·refine ct e4a<|wp_skip<|h0c _ _<|ws fun h4c=>?_
    apply wp_block
    refine ws fun h5c=>DT [] 9 mo rfl fun w2 E1b S2b=>have X5a:=xtr U3a E1b;dA 0 rfl (fun _=>Aa rfl) ?_
    refine dA 1 rfl (fun _=>Aa rfl) ?_
    obtain ⟨u0e,h6c,f7c⟩:=Ad f2c
    obtain ⟨bb156,oo157,hA8c,ia9c,ib0d,hc159⟩:=RL.nth (n3.ext X5a) h6c
    refine dA 2 rfl (fun _=>AA CH Av rfl rfl hA8c ia9c ib0d) ?_
    refine dV 3 rfl (fun _ hw=>Ag AZ rfl (DS hc159 hw)) S2b ?_
    refine dA2 4 5 rfl rfl (fun _=>Aa rfl) (fun _=>Aa rfl) ?_
    obtain ⟨u1e,h1d,f2d⟩:=Ad f7c
    obtain ⟨bb165,oo166,hA3d,ia4d,ib5d,hc168⟩:=RL.nth (n6.ext X5a) h1d
    refine dA 6 rfl (fun _=>AA CH Av rfl rfl hA3d ia4d ib5d) ?_
    refine dV 7 rfl (fun _ hw=>Ag AZ rfl (DS hc168 hw)) S2b ?_
    refine dab 8 rfl (by kernel_rfl) (fun _ _ _ h=>h) (by rfl) (fun _=>Il rfl rfl) fun z3b hz3b=>?_
    refine dnrm ?_
    refine Cx (by kernel_rfl) ?_
    refine h5c _ _ ?_
    rcases zi hz3b f2d with ⟨e6a,_,f6d⟩ | ⟨e6a,_,f7d⟩
    ·refine ct e6a<|ws fun h8d=>Ah<|sV (Ab rfl) ?_
     refine wh h8d<|wp_ret ?_
     exact Bn f6d X5a rfl
    ·refine cf e6a<|wp_skip<|h4c _ _<|Ah<|sV3 (Aa rfl) (AV (c:=wi64 (v0a+1)) rfl rfl rfl) (Ab rfl) ?_
     refine AF ?_
     exact ih9b _ _ ⟨(wi64 (v0a+1)),(U3a.trans E1b),f7d,(Fr.mk (by kernel_rfl))⟩
   ·refine cf e4a<|wp_exit ?_
    simp only [Exit.then,Exit.inBlock,↓reduceIte,Nat.reduceEqDiff]
    refine h7b _ _<|ws fun h9d=>Ah<|sV (Ab rfl) ?_
    refine wh h9d<|wp_ret ?_
    exact Bn f3c U3a rfl
theorem Ke (x0:List Int) (A1:OA) (c2:Nat) (w:World) (hT:TB w) (n3:RLu w A1 c2 x0) (r:List Int) (hr:Bk x0=some r) :
  Calls prog 210 #[.slice A1 x0.length c2] w (Ret OP w r):=by
 unfold Bk at hr
 go_enter func210,ntmps210
 refine ws fun h4=>Ah<|sV (Ab rfl) ?_
 refine nx h4 fun h5=>sV3 (Aa rfl) (AD CH rfl) (Ab rfl) ?_
 refine wh h5<|ws fun h6=>?_
 obtain ⟨m4a,h4b,f5b⟩:=Ad hr
 refine CG (fun l l' w'=>w=w'∧Fr l' (fun t6a=>.slice A1 x0.length c2::gp t6a 1 2 (.int .i64 m4a::gp t6a 4 19 []))) ?_ ?_
 ·apply wp_block
  refine Bp (fun l n1b l' w'=>∃(v2a:Int) (t3a:Nat→Value),w=w'∧BX x0 n1b v2a=some m4a∧Fr l' (fun t5a=>.slice A1 x0.length c2::gp t5a 1 2 (.int .i64 v2a::gp t5a 4 5 ((t3a 0)::(t3a 1)::(t3a 2)::(t3a 3)::(t3a 4)::(t3a 5)::gp t5a 15 8 [])))) 18446744073709551616 ?_ ?_ ?_
  ·exact ⟨(x0.length:Int),(tk [uu,uu,uu,uu,uu,uu]),(by trivial),h4b,(Fr.mk (by kernel_rfl))⟩
  ·rintro l' w' ⟨v2a,t3a,_,hz,_⟩
   exact nomatch hz
  ·rintro n1b ih6b _ _ ⟨v2a,t3a,rfl,hr2b,⟨t5a,rfl⟩⟩ l'' hl
   simp only [gp,Nat.reduceAdd] at hl
   subst hl
   unfold BX at hr2b
   refine AW<|ws fun h7b=>ws fun h8b=>Ah<|sV (Aa rfl) ?_
   refine sbl (Eh rfl rfl) fun z3b hz3b=>?_
   refine sV (Aa rfl) ?_
   obtain ⟨m9b,h0c,f1c⟩:=Ad hr2b
   refine BH 10 (fun l l' w'=>∃(t1a:Nat→Value),w=w'∧l'=(((((((l.set 9 (t1a 0)).set 10 (t1a 1)).set 11 (t1a 2)).set 12 (t1a 3)).set 13 (t1a 4)).set 14 (t1a 5)).set 15 (.bool m9b))) ?_ ?_
   ·intro HJ307
    rcases zi hz3b h0c with ⟨e0a,_,f2c⟩ | ⟨e0a,_,f3c⟩
    ·refine sV (Aa rfl) ?_ (hw:=wgT rfl e0a)
     refine sV (Aa rfl) ?_ (hw:=wgT rfl e0a)
     refine sV (Bt (c:=wi64 (v2a - 1)) rfl rfl rfl) ?_ (hw:=wgT rfl e0a)
     obtain ⟨u7a,h4c,f5c⟩:=Ad f2c
     obtain ⟨bb316,oo317,hA6c,ia7c,ib8c,hc319⟩:=RL.nth n3 h4c
     refine sV (AA CH Av rfl rfl hA6c ia7c ib8c) ?_ (hw:=wgT rfl e0a)
     refine sV (Ag AZ rfl hc319) ?_ (hw:=wgT rfl e0a)
     refine sbl (Cy rfl rfl) (fun z8a hz8a=>?_) (hw:=wgT rfl e0a)
     refine sV (Az (evb rfl e0a) rfl) ?_
     obtain rfl:z8a=decide (u7a=0):=bz hz8a
     obtain rfl:=sj f5c
     exact HJ307 _ _ ⟨(tk [.slice A1 x0.length c2,.int .i64 v2a,.int .i64 (wi64 (v2a - 1)),.pointer (some ⟨bb316,oo317+((wi64 (v2a - 1)):Int).toNat,none⟩),.int .u32 u7a,.bool (decide (u7a=0))]),(by trivial),(by kernel_rfl)⟩
    ·refine sQ rfl e0a ?_
     refine sQ rfl e0a ?_
     refine sQ rfl e0a ?_
     refine sQ rfl e0a ?_
     refine sQ rfl e0a ?_
     refine sQ rfl e0a ?_
     refine sV (AE (evb rfl e0a) rfl) ?_
     obtain rfl:=sj f3c
     exact HJ307 _ _ ⟨(tk [uu,uu,uu,uu,uu,uu]),(by trivial),(by kernel_rfl)⟩
   ·rintro l' _ ⟨t1a,rfl,rfl⟩ l'' hl
    simp only [S0,S1] at hl;subst hl
    refine wh h8b ?_
    rcases zb f1c with ⟨e9a,f9c⟩ | ⟨e9a,f0d⟩
    ·refine ct e9a<|wp_skip<|h7b _ _ ?_
     apply wp_block
     refine Ah<|sV3 (Aa rfl) (Bt (c:=wi64 (v2a - 1)) rfl rfl rfl) (Ab rfl) ?_
     refine AF ?_
     exact ih6b _ _ ⟨(wi64 (v2a - 1)),(tk [t1a 0,t1a 1,t1a 2,t1a 3,t1a 4,t1a 5]),(by trivial),f9c,(Fr.mk (by kernel_rfl))⟩
    ·refine cf e9a<|wp_exit ?_
     simp only [Exit.then,Exit.inBlock,↓reduceIte,Nat.reduceEqDiff]
     obtain rfl:=sj f0d
     exact ⟨_,rfl,(by trivial),(Fr.mk (by kernel_rfl))⟩
 ·rintro _ _ ⟨rfl,⟨t6a,rfl⟩⟩ l'' hl
  simp only [gp,Nat.reduceAdd] at hl
  subst hl
  refine h6 _ _<|ws fun h1d=>Ah<|NK CH ER fun A2d w1 E0b=>?_
  refine nrm ?_
  refine sV2 (Aa rfl) (Aa rfl) ?_
  obtain ⟨_,h3d,f4d⟩:=Ad f5b
  have gd340:=AI h3d
  refine Pj (lo:=0) (hi:=(m4a:Int).toNat) CH Av rfl rfl ⟨.i64,by rw [Int.toNat_of_nonneg (a:=m4a) (by omega)];rfl⟩ (by omega) (by omega) (n3.ext E0b) fun A2e c3e n5d=>?_
  refine nrm ?_
  obtain ⟨_,h6d,f7d⟩:=Ad f4d
  have gd346:=AI h6d
  refine MV CH ER rfl rfl rfl (OW.nil 179 w.heap.size w1 A2d) n5d gd346 E0b.size fun A8d c9d w2 B349 ow0e=>?_
  refine nrm ?_
  have X1e:=xO E0b B349 (Nat.le_refl _)
  refine sV (Ab rfl) ?_
  refine wh h1d<|wp_ret ?_
  exact Bn f7d X1e ⟨A8d,c9d,rfl,(OW.rl ow0e)⟩
theorem HL (x0:Int) (w:World) (hT:TB w) (r:List Int) (hr:CA x0=some r) :
  Calls prog 179 #[.int .u64 x0] w (Ret OP w r):=by
 unfold CA at hr
 go_enter func179,ntmps179
 refine ws fun h1=>Ah<|sV (Ab rfl) ?_
 refine nx h1 fun h2=>sV3 (Aa rfl) (AO (c:=wu32 x0) AN AQ rfl rfl) (Aa rfl) ?_
 refine sV (IX (c:=x0.fdiv (2^min (32:Int).toNat IntKind.u64.bits)) (by decide) rfl rfl rfl) ?_
 refine sV (AO (c:=wu32 (x0.fdiv (2^min (32:Int).toNat IntKind.u64.bits))) AN AQ rfl rfl) ?_
 refine Dj (vals:=[(0,.int .u32 (wu32 x0)),(1,.int .u32 (wu32 (x0.fdiv (2^min (32:Int).toNat IntKind.u64.bits))))]) (cs:=[.int .u32 (wu32 x0),.int .u32 (wu32 (x0.fdiv (2^min (32:Int).toNat IntKind.u64.bits)))]) CH Av Jr (by rfl) (by decide) (by kernel_rfl) fun b4 w1 E3 g5 q6=>?_
 refine nrm ?_
 have n7:RLu w1 (some ⟨b4,0,none⟩) 2 [(wu32 x0),(wu32 (x0.fdiv (2^min (32:Int).toNat IntKind.u64.bits)))]:=(OW.lit (n0:=0) (n:=2) (xs:=[(wu32 x0),(wu32 (x0.fdiv (2^min (32:Int).toNat IntKind.u64.bits)))]) q6 (Nat.zero_le _) rfl (by decide)).rl
 refine scn hr (Ac RV (by rfl)) (Ke ([(wu32 x0),(wu32 (x0.fdiv (2^min (32:Int).toNat IntKind.u64.bits)))]:List Int) (some ⟨b4,0,none⟩) 2 w1 (tbx E3 hT) n7) fun r8 f0a w2 A1a c2a E3a n4a=>?_
 have X5a:=xtr E3 E3a
 refine sV (Ab rfl) ?_
 refine wh h2<|wp_ret ?_
 exact Bn f0a X5a ⟨A1a,c2a,rfl,n4a⟩
theorem HO (x0:List Int) (A1:OA) (c2:Nat) (w:World) (hT:TB w) (n3:RLu w A1 c2 x0) (r:Int) (hr:BO x0=some r) :
  Calls prog 153 #[.slice A1 x0.length c2] w (Ret HY w r):=by
 unfold BO at hr
 go_enter func153,ntmps153
 refine ws fun h4=>Ah<|sV (Ab rfl) ?_
 refine nx h4 fun h5=>sV (Ab rfl) ?_
 refine wh h5<|ws fun h6=>?_
 obtain ⟨m0b,h5b,f6b⟩:=Ad hr
 refine CG (fun l l' w'=>Ext w w'∧Fr l' (fun t6a=>gp t6a 0 3 (.int .i64 m0b::gp t6a 4 12 []))) ?_ ?_
 ·apply wp_block
  refine Bp (fun l n1b l' w'=>∃(v2a:Int) (t3a:Nat→Value),Ext w w'∧BL x0 n1b v2a=some m0b∧Fr l' (fun t4a=>.slice A1 x0.length c2::gp t4a 1 2 (.int .i64 v2a::gp t4a 4 4 ((t3a 0)::(t3a 1)::(t3a 2)::(t3a 3)::gp t4a 12 4 [])))) 18446744073709551616 ?_ ?_ ?_
  ·exact ⟨0,(tk [uu,uu,uu,uu]),(Ext.refl _),h5b,(Fr.mk (by kernel_rfl))⟩
  ·rintro l' w' ⟨v2a,t3a,_,hz,_⟩
   exact nomatch hz
  ·rintro n1b ih7b _ w1 ⟨v2a,t3a,U5a,hr2b,⟨t4a,rfl⟩⟩ l'' hl
   simp only [gp,Nat.reduceAdd] at hl
   subst hl
   unfold BL at hr2b
   refine AW<|ws fun h8b=>ws fun h9b=>Ah<|sV2 (Aa rfl) (AD CH rfl) ?_
   refine sbl (Eh rfl rfl) fun z3b hz3b=>?_
   refine sV (Aa rfl) ?_
   obtain ⟨m0c,h1c,f2c⟩:=Ad hr2b
   refine BH 9 (fun l l' w'=>∃(t1a:Nat→Value),Ext w1 w'∧l'=(((((l.set 8 (t1a 0)).set 9 (t1a 1)).set 10 (t1a 2)).set 11 (t1a 3)).set 12 (.bool m0c))) ?_ ?_
   ·intro HJ265
    rcases zi hz3b h1c with ⟨e0a,_,f3c⟩ | ⟨e0a,_,f4c⟩
    ·refine sV (Aa rfl) ?_ (hw:=wgT rfl e0a)
     refine sV (Aa rfl) ?_ (hw:=wgT rfl e0a)
     refine scr f3c (Ac Qr (by rfl)) (Hs x0 v2a A1 c2 w1 (tbx U5a hT) (n3.ext U5a)) (fun r7a f5c w2 E6c=>?_) (hw:=wgT rfl e0a)
     refine sbl (Cy rfl rfl) (fun z8a hz8a=>?_) (hw:=wgT rfl e0a)
     refine sV (Az (evb rfl e0a) rfl) ?_
     obtain rfl:z8a=decide (r7a=0):=bz hz8a
     obtain rfl:=sj f5c
     exact HJ265 _ _ ⟨(tk [.slice A1 x0.length c2,.int .i64 v2a,.int .u64 r7a,.bool (decide (r7a=0))]),E6c,(by kernel_rfl)⟩
    ·refine sQ rfl e0a ?_
     refine sQ rfl e0a ?_
     refine sQ rfl e0a ?_
     refine sQ rfl e0a ?_
     refine sV (AE (evb rfl e0a) rfl) ?_
     obtain rfl:=sj f4c
     exact HJ265 _ _ ⟨(tk [uu,uu,uu,uu]),(Ext.refl _),(by kernel_rfl)⟩
   ·rintro l' w2 ⟨t1a,U4b,rfl⟩ l'' hl
    simp only [S0,S1] at hl;subst hl
    refine wh h9b ?_
    rcases zb f2c with ⟨e9a,f7c⟩ | ⟨e9a,f8c⟩
    ·refine ct e9a<|wp_skip<|h8b _ _ ?_
     apply wp_block
     refine Ah<|sV3 (Aa rfl) (AV (c:=wi64 (v2a+1)) rfl rfl rfl) (Ab rfl) ?_
     refine AF ?_
     exact ih7b _ _ ⟨(wi64 (v2a+1)),(tk [t1a 0,t1a 1,t1a 2,t1a 3]),(U5a.trans U4b),f7c,(Fr.mk (by kernel_rfl))⟩
    ·refine cf e9a<|wp_exit ?_
     simp only [Exit.then,Exit.inBlock,↓reduceIte,Nat.reduceEqDiff]
     obtain rfl:=sj f8c
     exact ⟨_,rfl,(U5a.trans U4b),(Fr.mk (by kernel_rfl))⟩
 ·rintro _ w1 ⟨U9c,⟨t6a,rfl⟩⟩ l'' hl
  simp only [gp,Nat.reduceAdd] at hl
  subst hl
  refine h6 _ _<|ws fun h0d=>Ah<|sV2 (Aa rfl) (Ab rfl) ?_
  refine wh h0d<|wp_ret ?_
  exact Bn f6b U9c rfl
theorem IC (x0:List Int) (x1:Int) (A1:OA) (c2:Nat) (w:World) (hT:TB w) (n3:RLu w A1 c2 x0) (r:List Int) (hr:BW x0 x1=some r) :
  Calls prog 154 #[.slice A1 x0.length c2,.int .i64 x1] w (Ret OP w r):=by
 unfold BW at hr
 go_enter func154,ntmps154
 refine ws fun h4=>Ah<|sV (Ab rfl) ?_
 refine wh h4<|ws fun h5=>ws fun h6=>Ah<|sV2 (Aa rfl) (Ji (c:=wi64 (x1.tdiv 32)) (by decide) rfl rfl rfl) ?_
 refine sV2 (Aa rfl) (AD CH rfl) ?_
 refine sbl (Hb rfl rfl) fun z7 hz7=>?_
 refine wh h6 ?_
 rcases zi hz7 hr with ⟨e0b,_,f4c⟩ | ⟨e0b,_,f5c⟩
 ·refine ct e0b<|ws fun h6c=>Ah<|sV (Ab rfl) ?_
  refine wh h6c<|wp_ret ?_
  exact Bn f4c (Ext.refl _) ⟨none,0,rfl,(RL.nil _ _ _)⟩
 ·refine cf e0b<|wp_skip<|h5 _ _<|ws fun h7c=>Ah<|sV (Ab rfl) ?_
  refine wh h7c<|ws fun h8c=>ws fun h9c=>Ah<|sV2 (Aa rfl) (Ji (c:=wi64 (x1.tdiv 32)) (by decide) rfl rfl rfl) ?_
  refine sV (Ab rfl) ?_
  refine wh h9c ?_
  obtain ⟨m4a,h0d,f1d⟩:=Ad f5c
  refine CG (fun l l' w'=>∃(A7a:OA) (c8a:Nat),Ext w w'∧OW 179 w.heap.size w' A7a m4a.length c8a m4a∧Fr l' (fun t1b=>gp t1b 0 5 (.slice A7a m4a.length c8a::gp t1b 6 34 []))) ?_ ?_
  ·apply wp_block
   refine Bp (fun l n5b l' w'=>∃(v0a:Int) (v3a:List Int) (A5a:OA) (c6a:Nat),Ext w w'∧OW 179 w.heap.size w' A5a v3a.length c6a v3a∧Dm x0 x1 n5b v0a v3a=some m4a∧Fr l' (fun t2b=>.slice A1 x0.length c2::.int .i64 x1::gp t2b 2 3 (.slice A5a v3a.length c6a::.int .i64 v0a::gp t2b 7 33 []))) 18446744073709551616 ?_ ?_ ?_
   ·exact ⟨(wi64 (x1.tdiv 32)),([]:List Int),none,0,(Ext.refl _),(OW.nn (OW.nil 179 w.heap.size w none)),h0d,(Fr.mk (by simp only [OW.len (OW.nil 179 w.heap.size w none)];kernel_rfl))⟩
   ·rintro l' w' ⟨v0a,v3a,A5a,c6a,_,_,hz,_⟩
    exact nomatch hz
   ·rintro n5b ih2d _ w1 ⟨v0a,v3a,A5a,c6a,X9a,ow6b,hr7b,⟨t2b,rfl⟩⟩ l'' hl
    simp only [gp,Nat.reduceAdd] at hl
    subst hl
    unfold Dm at hr7b
    refine AW<|ws fun h3d=>ws fun h4d=>Ah<|sV3 (Aa rfl) (Aa rfl) (AD CH rfl) ?_
    refine sbl (Bv rfl rfl) fun z8b hz8b=>?_
    refine wh h4d ?_
    rcases zi hz8b hr7b with ⟨e3b,_,f5d⟩ | ⟨e3b,_,f6d⟩
    ·refine ct e3b<|wp_skip<|h3d _ _<|ws fun h7d=>?_
     apply wp_block
     refine ws fun h8d=>Ah<|sV3 (Aa rfl) (Aa rfl) (AV (c:=wi64 (v0a+1)) rfl rfl rfl) ?_
     refine scr f5d (Ac Qj (by rfl)) (IY x0 (wi64 (v0a+1)) A1 c2 w1 (tbx X9a hT) (n3.ext X9a)) fun r1a f9d w2 E9b=>?_
     have X4b:=xtr X9a E9b
     refine sV (LQ (c:=wu64 (r1a*2^min (32:Int).toNat IntKind.u64.bits)) (by decide) rfl rfl rfl) ?_
     refine sV2 (Aa rfl) (Aa rfl) ?_
     refine scr f9d (Ac Qj (by rfl)) (IY x0 v0a A1 c2 w2 (tbx X4b hT) (n3.ext X4b)) fun r2a f0e w3 E0c=>?_
     have X1e:=xtr X4b E0c
     refine sV3 (AV (c:=wu64 ((wu64 (r1a*2^min (32:Int).toNat IntKind.u64.bits))+r2a)) rfl rfl rfl) (Aa rfl) (LD (c:=x1.tmod 32) (by decide) rfl rfl rfl) ?_
     obtain ⟨_,h2e,f3e⟩:=Ad f0e
     have gd526:=AI h2e
     refine sV2 (IX (c:=(wu64 ((wu64 (r1a*2^min (32:Int).toNat IntKind.u64.bits))+r2a)).fdiv (2^min ((x1.tmod 32):Int).toNat IntKind.u64.bits)) gd526 rfl rfl rfl) (Ab rfl) ?_
     refine wh h8d<|Ah<|sV3 (Aa rfl) (Aa rfl) (AO (c:=wu32 ((wu64 ((wu64 (r1a*2^min (32:Int).toNat IntKind.u64.bits))+r2a)).fdiv (2^min ((x1.tmod 32):Int).toNat IntKind.u64.bits))) AN AQ rfl rfl) ?_
     refine Dj (vals:=[(0,.int .u32 (wu32 ((wu64 ((wu64 (r1a*2^min (32:Int).toNat IntKind.u64.bits))+r2a)).fdiv (2^min ((x1.tmod 32):Int).toNat IntKind.u64.bits))))]) (cs:=[.int .u32 (wu32 ((wu64 ((wu64 (r1a*2^min (32:Int).toNat IntKind.u64.bits))+r2a)).fdiv (2^min ((x1.tmod 32):Int).toNat IntKind.u64.bits)))]) CH Av Jr (by rfl) (by decide) (by kernel_rfl) fun b4e w4 E1c g2g q5e=>?_
     refine nrm ?_
     have X2c:=xtr X1e E1c
     have n6e:RLu w4 (some ⟨b4e,0,none⟩) 1 [(wu32 ((wu64 ((wu64 (r1a*2^min (32:Int).toNat IntKind.u64.bits))+r2a)).fdiv (2^min ((x1.tmod 32):Int).toNat IntKind.u64.bits)))]:=(OW.lit (n0:=0) (n:=1) (xs:=[(wu32 ((wu64 ((wu64 (r1a*2^min (32:Int).toNat IntKind.u64.bits))+r2a)).fdiv (2^min ((x1.tmod 32):Int).toNat IntKind.u64.bits)))]) q5e (Nat.zero_le _) rfl (by decide)).rl
     have ow7e:=((ow6b.ext E9b).ext E0c).ext E1c
     obtain ⟨_,h8e,f9e⟩:=Ad f3e
     have gd536:=AI h8e
     refine MV CH ER rfl rfl rfl ow7e n6e gd536 X2c.size fun A0f c1f w5 B539 ow2f=>?_
     refine nrm ?_
     have X3f:=xO X2c B539 (Nat.le_refl _)
     refine sV (Ab rfl) ?_
     refine wh h7d<|Ah<|sV3 (Aa rfl) (AV (c:=wi64 (v0a+1)) rfl rfl rfl) (Ab rfl) ?_
     refine AF ?_
     exact ih2d _ _ ⟨(wi64 (v0a+1)),(v3a++([(wu32 ((wu64 ((wu64 (r1a*2^min (32:Int).toNat IntKind.u64.bits))+r2a)).fdiv (2^min ((x1.tmod 32):Int).toNat IntKind.u64.bits)))]:List Int)),A0f,c1f,X3f,(OW.nn ow2f),f9e,(Fr.mk (by kernel_rfl))⟩
    ·refine cf e3b<|wp_exit ?_
     simp only [Exit.then,Exit.inBlock,↓reduceIte,Nat.reduceEqDiff]
     obtain rfl:=sj f6d
     exact ⟨_,rfl,A5a,c6a,X9a,(OW.nn ow6b),(Fr.mk (by kernel_rfl))⟩
  ·rintro _ w1 ⟨A7a,c8a,X3c,ow4f,⟨t1b,rfl⟩⟩ l'' hl
   simp only [gp,Nat.reduceAdd] at hl
   subst hl
   refine h8c _ _<|ws fun h5f=>Ah<|sV (Aa rfl) ?_
   refine scn f1d (Ac RV (by rfl)) (Ke m4a A7a c8a w1 (tbx X3c hT) (OW.rl ow4f)) fun r3g f6f w2 A7f c8f E9f n0g=>?_
   have X1g:=xtr X3c E9f
   refine sV (Ab rfl) ?_
   refine wh h5f<|wp_ret ?_
   exact Bn f6f X1g ⟨A7f,c8f,rfl,n0g⟩
theorem JE (x0:List Int) (A1:OA) (c2:Nat) (w:World) (hT:TB w) (n3:RLu w A1 c2 x0) (r:Bool) (hr:GI x0=some r) :
  Calls prog 208 #[.slice A1 x0.length c2] w (Ret Gi w r):=by
 unfold GI at hr
 go_enter func208,ntmps208
 refine ws fun h4=>Ah<|sV (Ab rfl) ?_
 refine nx h4 fun h5=>sV2 (Aa rfl) (AD CH rfl) ?_
 refine sbl (KX rfl rfl) fun z6 hz6=>?_
 refine sV (Aa rfl) ?_
 obtain ⟨m8a,h9a,f0b⟩:=Ad hr
 refine BH 17 (fun l l' w'=>∃(t3a:Nat→Value),w=w'∧l'=(((((((((((((l.set 7 (t3a 0)).set 8 (t3a 1)).set 9 (t3a 2)).set 10 (t3a 3)).set 11 (t3a 4)).set 12 (t3a 5)).set 13 (t3a 6)).set 14 (t3a 7)).set 15 (t3a 8)).set 16 (t3a 9)).set 17 (t3a 10)).set 18 (t3a 11)).set 19 (.bool m8a))) ?_ ?_
 ·intro HJ54
  rcases zi hz6 h9a with ⟨e2a,_,f1b⟩ | ⟨e2a,_,f2b⟩
  ·refine sV (Aa rfl) ?_ (hw:=wgT rfl e2a)
   refine sV (AD CH rfl) ?_ (hw:=wgT rfl e2a)
   refine sbl (Cy rfl rfl) (fun z4a hz4a=>?_) (hw:=wgT rfl e2a)
   refine sV (Aa rfl) ?_ (hw:=wgT rfl e2a)
   obtain ⟨m7a,h3b,f4b⟩:=Ad f1b
   refine BH 16 (fun l l' w'=>∃(t1a:Nat→Value),w=w'∧l'=((((((((l.set 11 (t1a 0)).set 12 (t1a 1)).set 13 (t1a 2)).set 14 (t1a 3)).set 15 (t1a 4)).set 16 (t1a 5)).set 17 (t1a 6)).set 18 (.bool m7a))) ?_ ?_
   ·intro HJ81
    rcases zi hz4a h3b with ⟨e0a,_,f5b⟩ | ⟨e0a,_,f6b⟩
    ·refine sQ rfl e0a ?_
     refine sQ rfl e0a ?_
     refine sQ rfl e0a ?_
     refine sQ rfl e0a ?_
     refine sQ rfl e0a ?_
     refine sQ rfl e0a ?_
     refine sQ rfl e0a ?_
     refine sV (Az (evb rfl e0a) rfl) ?_ (hw:=wgT rfl e2a)
     obtain rfl:=sj f5b
     exact HJ81 _ _ ⟨(tk [uu,uu,uu,uu,uu,uu,uu]),(by trivial),(by kernel_rfl)⟩
    ·refine sV (Aa rfl) ?_ (hw:=wgT rfl e0a)
     refine sV (Aa rfl) ?_ (hw:=wgT rfl e0a)
     refine sV (AD CH rfl) ?_ (hw:=wgT rfl e0a)
     refine sV (Bt (c:=wi64 ((x0.length:Int) - 1)) rfl rfl rfl) ?_ (hw:=wgT rfl e0a)
     obtain ⟨u5a,h7b,f8b⟩:=Ad f6b
     obtain ⟨bb90,oo91,hA9b,ia0c,ib1c,hc93⟩:=RL.nth n3 h7b
     refine sV (AA CH Av rfl rfl hA9b ia0c ib1c) ?_ (hw:=wgT rfl e0a)
     refine sV (Ag AZ rfl hc93) ?_ (hw:=wgT rfl e0a)
     refine sbl (Il rfl rfl) (fun z6a hz6a=>?_) (hw:=wgT rfl e0a)
     refine sV (AE (evb rfl e0a) rfl) ?_ (hw:=wgT rfl e2a)
     obtain rfl:z6a=decide (¬u5a=0):=bz hz6a
     obtain rfl:=sj f8b
     exact HJ81 _ _ ⟨(tk [.slice A1 x0.length c2,.slice A1 x0.length c2,.int .i64 (x0.length:Int),.int .i64 (wi64 ((x0.length:Int) - 1)),.pointer (some ⟨bb90,oo91+((wi64 ((x0.length:Int) - 1)):Int).toNat,none⟩),.int .u32 u5a,.bool (decide (¬u5a=0))]),(by trivial),(by kernel_rfl)⟩
   ·rintro l' _ ⟨t1a,rfl,rfl⟩ l'' hl
    simp only [S0,S1] at hl;subst hl
    refine sV (Az (evb rfl e2a) rfl) ?_
    obtain rfl:=sj f4b
    exact HJ54 _ _ ⟨(tk [.slice A1 x0.length c2,.int .i64 (x0.length:Int),.bool z4a,.bool z4a,t1a 0,t1a 1,t1a 2,t1a 3,t1a 4,t1a 5,t1a 6,.bool m7a]),(by trivial),(by kernel_rfl)⟩
  ·refine sQ rfl e2a ?_
   refine sQ rfl e2a ?_
   refine sQ rfl e2a ?_
   refine sQ rfl e2a ?_
   refine sP ?_
   refine sP ?_
   refine sP ?_
   refine sP ?_
   refine sP ?_
   refine sP ?_
   refine sP ?_
   refine sQ rfl e2a ?_
   refine sV (AE (evb rfl e2a) rfl) ?_
   obtain rfl:=sj f2b
   exact HJ54 _ _ ⟨(tk [uu,uu,uu,uu,uu,uu,uu,uu,uu,uu,uu,uu]),(by trivial),(by kernel_rfl)⟩
 ·rintro l' _ ⟨t3a,rfl,rfl⟩ l'' hl
  simp only [S0,S1] at hl;subst hl
  refine sV (Ab rfl) ?_
  refine wh h5<|wp_ret ?_
  exact Bn f0b (Ext.refl _) rfl
end Go.Proofs.Lf

