import Derived.Test.YtabiobmfelafoaaGreatDoorLeafDefs
namespace Go.Proofs.Lf
set_option linter.unusedVariables false
set_option linter.unusedSimpArgs false
set_option maxHeartbeats 4000000
open Go.RowKit Go.Sb Go.Proofs Go.Proofs.Sbn
open Go.Proofs.Tryz
theorem DX (x0:List Int) (A1:OA) (c2:Nat) (w:World) (hT:TB w) (n3:RLu w A1 c2 x0) (r:List Int) (hr:BG x0=some r) :
  Calls prog 236 #[.slice A1 x0.length c2] w (Ret Kz w r):=by
 unfold BG at hr
 go_enter func236,ntmps236
 refine ws fun h4=>Ah<|sV (Ab rfl) ?_
 refine wh h4<|ws fun h5=>?_
 obtain ⟨m8a,h8b,f9b⟩:=Ad hr
 refine CG (fun l l' w'=>∃(A6a:OA) (c7a:Nat),w=w'∧RLu w' A6a c7a m8a∧Fr l' (fun t4b=>.slice A6a m8a.length c7a::gp t4b 1 20 [])) ?_ ?_
 ·apply wp_block
  refine Bp (fun l n5b l' w'=>∃(v1a:List Int) (A4a:OA) (c5a:Nat) (t3a:Nat→Value),w=w'∧RLu w' A4a c5a v1a∧Db x0 n5b v1a=some m8a∧Fr l' (fun t9a=>.slice A4a v1a.length c5a::gp t9a 1 6 ((t3a 0)::(t3a 1)::(t3a 2)::(t3a 3)::(t3a 4)::(t3a 5)::(t3a 6)::gp t9a 14 7 []))) 18446744073709551616 ?_ ?_ ?_
  ·exact ⟨x0,A1,c2,(tk [uu,uu,uu,uu,uu,uu,uu]),(by trivial),n3,h8b,(Fr.mk (by kernel_rfl))⟩
  ·rintro l' w' ⟨v1a,A4a,c5a,t3a,_,_,hz,_⟩
   exact nomatch hz
  ·rintro n5b ih0c _ _ ⟨v1a,A4a,c5a,t3a,rfl,n0b,hr6b,⟨t9a,rfl⟩⟩ l'' hl
   simp only [gp,Nat.reduceAdd] at hl
   subst hl
   unfold Db at hr6b
   refine AW<|ws fun h1c=>ws fun h2c=>Ah<|sV2 (Aa rfl) (AD Au rfl) ?_
   refine sbl (Eh rfl rfl) fun z7b hz7b=>?_
   refine sV (Aa rfl) ?_
   obtain ⟨m3c,h4c,f5c⟩:=Ad hr6b
   refine BH 12 (fun l l' w'=>∃(t2a:Nat→Value),w=w'∧l'=((((((((l.set 7 (t2a 0)).set 8 (t2a 1)).set 9 (t2a 2)).set 10 (t2a 3)).set 11 (t2a 4)).set 12 (t2a 5)).set 13 (t2a 6)).set 14 (.bool m3c))) ?_ ?_
   ·intro HJ360
    rcases zi hz7b h4c with ⟨e0a,_,f6c⟩ | ⟨e0a,_,f7c⟩
    ·refine sV (Aa rfl) ?_ (hw:=wgT rfl e0a)
     refine sV (Aa rfl) ?_ (hw:=wgT rfl e0a)
     refine sV (AD Au rfl) ?_ (hw:=wgT rfl e0a)
     refine sV (Bt (c:=wi64 ((v1a.length:Int) - 1)) rfl rfl rfl) ?_ (hw:=wgT rfl e0a)
     obtain ⟨u1b,h8c,f9c⟩:=Ad f6c
     obtain ⟨bb369,oo370,hA0d,ia1d,ib2d,hc372⟩:=RL.nth n0b h8c
     refine sV (AA Au Av rfl rfl hA0d ia1d ib2d) ?_ (hw:=wgT rfl e0a)
     refine sV (Ag AZ rfl hc372) ?_ (hw:=wgT rfl e0a)
     refine sbl (Cy rfl rfl) (fun z2b hz2b=>?_) (hw:=wgT rfl e0a)
     refine sV (Az (evb rfl e0a) rfl) ?_
     obtain rfl:z2b=decide (u1b=0):=bz hz2b
     obtain rfl:=sj f9c
     exact HJ360 _ _ ⟨(tk [.slice A4a v1a.length c5a,.slice A4a v1a.length c5a,.int .i64 (v1a.length:Int),.int .i64 (wi64 ((v1a.length:Int) - 1)),.pointer (some ⟨bb369,oo370+((wi64 ((v1a.length:Int) - 1)):Int).toNat,none⟩),.int .u32 u1b,.bool (decide (u1b=0))]),(by trivial),(by kernel_rfl)⟩
    ·refine sQ rfl e0a ?_
     refine sQ rfl e0a ?_
     refine sQ rfl e0a ?_
     refine sQ rfl e0a ?_
     refine sQ rfl e0a ?_
     refine sQ rfl e0a ?_
     refine sQ rfl e0a ?_
     refine sV (AE (evb rfl e0a) rfl) ?_
     obtain rfl:=sj f7c
     exact HJ360 _ _ ⟨(tk [uu,uu,uu,uu,uu,uu,uu]),(by trivial),(by kernel_rfl)⟩
   ·rintro l' _ ⟨t2a,rfl,rfl⟩ l'' hl
    simp only [S0,S1] at hl;subst hl
    refine wh h2c ?_
    rcases zb f5c with ⟨e3b,f3d⟩ | ⟨e3b,f4d⟩
    ·refine ct e3b<|wp_skip<|h1c _ _ ?_
     apply wp_block
     refine Ah<|sV3 (Aa rfl) (Aa rfl) (AD Au rfl) ?_
     refine sV (Bt (c:=wi64 ((v1a.length:Int) - 1)) rfl rfl rfl) ?_
     obtain ⟨_,h5d,f6d⟩:=Ad f3d
     have gd389:=AI h5d
     refine Pj (lo:=0) (hi:=((wi64 ((v1a.length:Int) - 1)):Int).toNat) Au Av rfl rfl ⟨.i64,by rw [Int.toNat_of_nonneg (a:=(wi64 ((v1a.length:Int) - 1))) (by omega)];rfl⟩ (by omega) (by omega) n0b fun A7d c8d n9d=>?_
     refine nrm ?_
     refine sV (Ab rfl) ?_
     refine AF ?_
     exact ih0c _ _ ⟨((List.drop 0 v1a).take ((((wi64 ((v1a.length:Int) - 1)):Int).toNat) - 0)),A7d,c8d,(tk [t2a 0,t2a 1,t2a 2,t2a 3,t2a 4,t2a 5,t2a 6]),(by trivial),n9d,f6d,(Fr.mk (by kernel_rfl))⟩
    ·refine cf e3b<|wp_exit ?_
     simp only [Exit.then,Exit.inBlock,↓reduceIte,Nat.reduceEqDiff]
     obtain rfl:=sj f4d
     exact ⟨_,rfl,A4a,c5a,(by trivial),n0b,(Fr.mk (by kernel_rfl))⟩
 ·rintro _ _ ⟨A6a,c7a,rfl,n0e,⟨t4b,rfl⟩⟩ l'' hl
  simp only [gp,Nat.reduceAdd] at hl
  subst hl
  refine h5 _ _<|ws fun h1e=>Ah<|sV2 (Aa rfl) (Ab rfl) ?_
  refine wh h1e<|wp_ret ?_
  exact Bn f9b (Ext.refl _) ⟨A6a,c7a,rfl,n0e⟩
theorem c_wide_Of (x0:Int) (w:World) (hT:TB w) (r:List Int) (hr:La x0=some r) :
  Calls prog 265 #[.int .u64 x0] w (Ret Kz w r):=by
 unfold La at hr
 go_enter func265,ntmps265
 refine ws fun h1=>Ah<|sV (Ab rfl) ?_
 refine nx h1 fun h2=>sV3 (Aa rfl) (AO (c:=wu32 x0) AN AQ rfl rfl) (Aa rfl) ?_
 refine sV (IX (c:=x0.fdiv (2^min (32:Int).toNat IntKind.u64.bits)) (by decide) rfl rfl rfl) ?_
 refine sV (AO (c:=wu32 (x0.fdiv (2^min (32:Int).toNat IntKind.u64.bits))) AN AQ rfl rfl) ?_
 refine Dj (vals:=[(0,.int .u32 (wu32 x0)),(1,.int .u32 (wu32 (x0.fdiv (2^min (32:Int).toNat IntKind.u64.bits))))]) (cs:=[.int .u32 (wu32 x0),.int .u32 (wu32 (x0.fdiv (2^min (32:Int).toNat IntKind.u64.bits)))]) Au Av Jr (by rfl) (by decide) (by kernel_rfl) fun b4 w1 E3 g5 q6=>?_
 refine nrm ?_
 have n7:RLu w1 (some ⟨b4,0,none⟩) 2 [(wu32 x0),(wu32 (x0.fdiv (2^min (32:Int).toNat IntKind.u64.bits)))]:=(OW.lit (n0:=0) (n:=2) (xs:=[(wu32 x0),(wu32 (x0.fdiv (2^min (32:Int).toNat IntKind.u64.bits)))]) q6 (Nat.zero_le _) rfl (by decide)).rl
 refine scn hr (Ac Lm (by rfl)) (DX ([(wu32 x0),(wu32 (x0.fdiv (2^min (32:Int).toNat IntKind.u64.bits)))]:List Int) (some ⟨b4,0,none⟩) 2 w1 (tbx E3 hT) n7) fun r8 f0a w2 A1a c2a E3a n4a=>?_
 have X5a:=xtr E3 E3a
 refine sV (Ab rfl) ?_
 refine wh h2<|wp_ret ?_
 exact Bn f0a X5a ⟨A1a,c2a,rfl,n4a⟩
theorem DY (x0:List Int) (A1:OA) (c2:Nat) (w:World) (hT:TB w) (n3:RLu w A1 c2 x0) (r:Int) (hr:Bu x0=some r) :
  Calls prog 184 #[.slice A1 x0.length c2] w (Ret HY w r):=by
 unfold Bu at hr
 go_enter func184,ntmps184
 refine ws fun h4=>Ah<|sV (Ab rfl) ?_
 refine wh h4<|ws fun h5=>ws fun h6=>Ah<|sV2 (Aa rfl) (AD Au rfl) ?_
 refine sbl (Cy rfl rfl) fun z7 hz7=>?_
 refine wh h6 ?_
 rcases zi hz7 hr with ⟨e0a,_,f1a⟩ | ⟨e0a,_,f2a⟩
 ·refine ct e0a<|ws fun h3a=>Ah<|sV (Ab rfl) ?_
  refine wh h3a<|wp_ret ?_
  exact Bn f1a (Ext.refl _) rfl
 ·refine cf e0a<|wp_skip<|h5 _ _<|ws fun h4a=>Ah<|sV3 (Aa rfl) (AD Au rfl) (KS (c:=wi64 (32*(x0.length:Int))) rfl rfl rfl) ?_
  refine sV3 (Aa rfl) (Aa rfl) (AD Au rfl) ?_
  refine sV (Bt (c:=wi64 ((x0.length:Int) - 1)) rfl rfl rfl) ?_
  obtain ⟨u5a,h6a,f7a⟩:=Ad f2a
  obtain ⟨bb23,oo24,hA8a,ia9a,ib0b,hc26⟩:=RL.nth n3 h6a
  refine sV2 (AA Au Av rfl rfl hA8a ia9a ib0b) (Ag AZ rfl hc26) ?_
  refine scr f7a (Ac Qn (by rfl)) (Gh u5a w hT) fun r1b f32 w1 E2b=>?_
  refine sV2 (Bt (c:=wi64 ((wi64 (32*(x0.length:Int))) - r1b)) rfl rfl rfl) (Ab rfl) ?_
  refine wh h4a<|wp_ret ?_
  exact Bn f32 E2b rfl
theorem Jt (x0:List Int) (A1:OA) (c2:Nat) (w:World) (hT:TB w) (n3:RLu w A1 c2 x0) (r:Int) (hr:CS x0=some r) :
  Calls prog 213 #[.slice A1 x0.length c2] w (Ret HY w r):=by
 unfold CS at hr
 go_enter func213,ntmps213
 refine ws fun h4=>Ah<|sV (Ab rfl) ?_
 refine nx h4 fun h5=>sV (Ab rfl) ?_
 refine wh h5<|ws fun h6=>?_
 obtain ⟨m4a,h5b,f6b⟩:=Ad hr
 refine CG (fun l l' w'=>w=w'∧Fr l' (fun t6a=>.slice A1 x0.length c2::gp t6a 1 2 (.int .i64 m4a::gp t6a 4 25 []))) ?_ ?_
 ·apply wp_block
  refine Bp (fun l n1b l' w'=>∃(v2a:Int) (t3a:Nat→Value),w=w'∧Dq x0 n1b v2a=some m4a∧Fr l' (fun t5a=>.slice A1 x0.length c2::gp t5a 1 2 (.int .i64 v2a::gp t5a 4 5 ((t3a 0)::(t3a 1)::(t3a 2)::(t3a 3)::(t3a 4)::gp t5a 14 15 [])))) 18446744073709551616 ?_ ?_ ?_
  ·exact ⟨0,(tk [uu,uu,uu,uu,uu]),(by trivial),h5b,(Fr.mk (by kernel_rfl))⟩
  ·rintro l' w' ⟨v2a,t3a,_,hz,_⟩
   exact nomatch hz
  ·rintro n1b ih7b _ _ ⟨v2a,t3a,rfl,hr2b,⟨t5a,rfl⟩⟩ l'' hl
   simp only [gp,Nat.reduceAdd] at hl
   subst hl
   unfold Dq at hr2b
   refine AW<|ws fun h8b=>ws fun h9b=>Ah<|sV3 (Aa rfl) (Aa rfl) (AD Au rfl) ?_
   refine sbl (Bv rfl rfl) fun z3b hz3b=>?_
   refine sV (Aa rfl) ?_
   obtain ⟨m0c,h1c,f2c⟩:=Ad hr2b
   refine BH 11 (fun l l' w'=>∃(t1a:Nat→Value),w=w'∧l'=((((((l.set 9 (t1a 0)).set 10 (t1a 1)).set 11 (t1a 2)).set 12 (t1a 3)).set 13 (t1a 4)).set 14 (.bool m0c))) ?_ ?_
   ·intro HJ307
    rcases zi hz3b h1c with ⟨e0a,_,f3c⟩ | ⟨e0a,_,f4c⟩
    ·refine sV (Aa rfl) ?_ (hw:=wgT rfl e0a)
     refine sV (Aa rfl) ?_ (hw:=wgT rfl e0a)
     obtain ⟨u7a,h5c,f6c⟩:=Ad f3c
     obtain ⟨bb316,oo317,hA7c,ia8c,ib9c,hc319⟩:=RL.nth n3 h5c
     refine sV (AA Au Av rfl rfl hA7c ia8c ib9c) ?_ (hw:=wgT rfl e0a)
     refine sV (Ag AZ rfl hc319) ?_ (hw:=wgT rfl e0a)
     refine sbl (Cy rfl rfl) (fun z8a hz8a=>?_) (hw:=wgT rfl e0a)
     refine sV (Az (evb rfl e0a) rfl) ?_
     obtain rfl:z8a=decide (u7a=0):=bz hz8a
     obtain rfl:=sj f6c
     exact HJ307 _ _ ⟨(tk [.slice A1 x0.length c2,.int .i64 v2a,.pointer (some ⟨bb316,oo317+(v2a:Int).toNat,none⟩),.int .u32 u7a,.bool (decide (u7a=0))]),(by trivial),(by kernel_rfl)⟩
    ·refine sQ rfl e0a ?_
     refine sQ rfl e0a ?_
     refine sQ rfl e0a ?_
     refine sQ rfl e0a ?_
     refine sQ rfl e0a ?_
     refine sV (AE (evb rfl e0a) rfl) ?_
     obtain rfl:=sj f4c
     exact HJ307 _ _ ⟨(tk [uu,uu,uu,uu,uu]),(by trivial),(by kernel_rfl)⟩
   ·rintro l' _ ⟨t1a,rfl,rfl⟩ l'' hl
    simp only [S0,S1] at hl;subst hl
    refine wh h9b ?_
    rcases zb f2c with ⟨e9a,f0d⟩ | ⟨e9a,f1d⟩
    ·refine ct e9a<|wp_skip<|h8b _ _ ?_
     apply wp_block
     refine Ah<|sV3 (Aa rfl) (AV (c:=wi64 (v2a+1)) rfl rfl rfl) (Ab rfl) ?_
     refine AF ?_
     exact ih7b _ _ ⟨(wi64 (v2a+1)),(tk [t1a 0,t1a 1,t1a 2,t1a 3,t1a 4]),(by trivial),f0d,(Fr.mk (by kernel_rfl))⟩
    ·refine cf e9a<|wp_exit ?_
     simp only [Exit.then,Exit.inBlock,↓reduceIte,Nat.reduceEqDiff]
     obtain rfl:=sj f1d
     exact ⟨_,rfl,(by trivial),(Fr.mk (by kernel_rfl))⟩
 ·rintro _ _ ⟨rfl,⟨t6a,rfl⟩⟩ l'' hl
  simp only [gp,Nat.reduceAdd] at hl
  subst hl
  refine h6 _ _<|ws fun h2d=>ws fun h3d=>Ah<|sV3 (Aa rfl) (Aa rfl) (AD Au rfl) ?_
  refine sbl (Cy rfl rfl) fun z4b hz4b=>?_
  refine wh h3d ?_
  rcases zi hz4b f6b with ⟨e0b,_,f4d⟩ | ⟨e0b,_,f5d⟩
  ·refine ct e0b<|ws fun h6d=>Ah<|sV (Ab rfl) ?_
   refine wh h6d<|wp_ret ?_
   exact Bn f4d (Ext.refl _) rfl
  ·refine cf e0b<|wp_skip<|h2d _ _<|ws fun h7d=>Ah<|sV3 (Aa rfl) (KS (c:=wi64 (32*m4a)) rfl rfl rfl) (Aa rfl) ?_
   refine sV (Aa rfl) ?_
   obtain ⟨u8d,h9d,f0e⟩:=Ad f5d
   obtain ⟨bb352,oo353,hA1e,ia2e,ib3e,hc355⟩:=RL.nth n3 h9d
   refine sV2 (AA Au Av rfl rfl hA1e ia2e ib3e) (Ag AZ rfl hc355) ?_
   refine scr f0e (Ac en_245 (by rfl)) (c_math_bits_TrailingZeros32 u8d w hT) fun r4e f5e w1 E6e=>?_
   refine sV2 (AV (c:=wi64 ((wi64 (32*m4a))+r4e)) rfl rfl rfl) (Ab rfl) ?_
   refine wh h7d<|wp_ret ?_
   exact Bn f5e E6e rfl
theorem GZ (x0:List Int) (x1:List Int) (A1:OA) (c2:Nat) (A4:OA) (c5:Nat) (w:World) (hT:TB w) (n3:RLu w A1 c2 x0) (n6:RLu w A4 c5 x1) (r:Int) (hr:Cv x0 x1=some r) :
  Calls prog 205 #[.slice A1 x0.length c2,.slice A4 x1.length c5] w (Ret HY w r):=by
 unfold Cv at hr
 go_enter func205,ntmps205
 refine ws fun h7=>Ah<|sV (Ab rfl) ?_
 refine wh h7<|ws fun h8=>ws fun h9=>Ah<|sV3 (Aa rfl) (AD Au rfl) (Aa rfl) ?_
 refine sV (AD Au rfl) ?_
 refine sbl (Il rfl rfl) fun z9a hz9a=>?_
 refine wh h9 ?_
 rcases zi hz9a hr with ⟨e2a,_,f8b⟩ | ⟨e2a,_,f9b⟩
 ·refine ct e2a<|ws fun h0c=>Ah<|sV3 (Aa rfl) (AD Au rfl) (Aa rfl) ?_
  refine sV3 (AD Au rfl) (Bt (c:=wi64 ((x0.length:Int) - (x1.length:Int))) rfl rfl rfl) (Ab rfl) ?_
  refine wh h0c<|wp_ret ?_
  exact Bn f8b (Ext.refl _) rfl
 ·refine cf e2a<|wp_skip<|h8 _ _<|ws fun h1c=>ws fun h2c=>Ah<|sV3 (Aa rfl) (AD Au rfl) (Bt (c:=wi64 ((x0.length:Int) - 1)) rfl rfl rfl) ?_
  refine sV (Ab rfl) ?_
  refine wh h2c ?_
  apply wp_block
  refine Bp (fun l n0b l' w'=>∃(v0a:Int),Ext w w'∧EY x0 x1 n0b v0a=some r∧Fr l' (fun t3a=>.slice A1 x0.length c2::.slice A4 x1.length c5::gp t3a 2 3 (.int .i64 v0a::gp t3a 6 35 []))) 18446744073709551616 ?_ ?_ ?_
  ·exact ⟨(wi64 ((x0.length:Int) - 1)),(Ext.refl _),f9b,(Fr.mk (by kernel_rfl))⟩
  ·rintro l' w' ⟨v0a,_,hz,_⟩
   exact nomatch hz
  ·rintro n0b ih3c _ w1 ⟨v0a,U4a,hr1b,⟨t3a,rfl⟩⟩ l'' hl
   simp only [gp,Nat.reduceAdd] at hl
   subst hl
   unfold EY at hr1b
   refine AW<|ws fun h4c=>ws fun h5c=>Ah<|sV (Aa rfl) ?_
   refine sbl (Hb rfl rfl) fun z2b hz2b=>?_
   refine wh h5c ?_
   rcases zi hz2b hr1b with ⟨e5a,_,f6c⟩ | ⟨e5a,_,f7c⟩
   ·refine ct e5a<|wp_skip<|h4c _ _<|ws fun h8c=>?_
    apply wp_block
    refine ws fun h9c=>DT [] 9 mo rfl fun w2 E3b S4b=>have X6a:=xtr U4a E3b;dA 0 rfl (fun _=>Aa rfl) ?_
    refine dA 1 rfl (fun _=>Aa rfl) ?_
    obtain ⟨u0g,h0d,f1d⟩:=Ad f6c
    obtain ⟨bb298,oo299,hA2d,ia3d,ib4d,hc301⟩:=RL.nth (n3.ext X6a) h0d
    refine dA 2 rfl (fun _=>AA Au Av rfl rfl hA2d ia3d ib4d) ?_
    refine dV 3 rfl (fun _ hw=>Ag AZ rfl (DS hc301 hw)) S4b ?_
    refine dA2 4 5 rfl rfl (fun _=>Aa rfl) (fun _=>Aa rfl) ?_
    obtain ⟨u1g,h5d,f6d⟩:=Ad f1d
    obtain ⟨bb307,oo308,hA7d,ia8d,ib9d,hc310⟩:=RL.nth (n6.ext X6a) h5d
    refine dA 6 rfl (fun _=>AA Au Av rfl rfl hA7d ia8d ib9d) ?_
    refine dV 7 rfl (fun _ hw=>Ag AZ rfl (DS hc310 hw)) S4b ?_
    refine dab 8 rfl (by kernel_rfl) (fun _ _ _ h=>h) (by rfl) (fun _=>Il rfl rfl) fun z5b hz5b=>?_
    refine dnrm ?_
    refine Cx (by kernel_rfl) ?_
    refine h9c _ _ ?_
    rcases zi hz5b f6d with ⟨e7a,_,f0e⟩ | ⟨e7a,_,f1e⟩
    ·refine ct e7a<|ws fun h2e=>ws fun h3e=>DT [] 9 mo rfl fun w3 E4e S6b=>have X1a:=xtr X6a E4e;dA 0 rfl (fun _=>Aa rfl) ?_
     refine dA 1 rfl (fun _=>Aa rfl) ?_
     obtain ⟨u2g,h5e,f6e⟩:=Ad f0e
     obtain ⟨bb368,oo369,hA7e,ia8e,ib9e,hc371⟩:=RL.nth (n3.ext X1a) h5e
     refine dA 2 rfl (fun _=>AA Au Av rfl rfl hA7e ia8e ib9e) ?_
     refine dV 3 rfl (fun _ hw=>Ag AZ rfl (DS hc371 hw)) S6b ?_
     refine dA2 4 5 rfl rfl (fun _=>Aa rfl) (fun _=>Aa rfl) ?_
     obtain ⟨u3g,h0f,f1f⟩:=Ad f6e
     obtain ⟨bb377,oo378,hA2f,ia3f,ib4f,hc380⟩:=RL.nth (n6.ext X1a) h0f
     refine dA 6 rfl (fun _=>AA Au Av rfl rfl hA2f ia3f ib4f) ?_
     refine dV 7 rfl (fun _ hw=>Ag AZ rfl (DS hc380 hw)) S6b ?_
     refine dab 8 rfl (by kernel_rfl) (fun _ _ _ h=>h) (by rfl) (fun _=>Bv rfl rfl) fun z7b hz7b=>?_
     refine dnrm ?_
     refine Cx (by kernel_rfl) ?_
     refine h3e _ _ ?_
     rcases zi hz7b f1f with ⟨e8a,_,f5f⟩ | ⟨e8a,_,f6f⟩
     ·refine ct e8a<|ws fun h7f=>Ah<|sV (Ab rfl) ?_
      refine wh h7f<|wp_ret ?_
      exact Bn f5f X1a rfl
     ·refine cf e8a<|wp_skip<|h2e _ _<|ws fun h8f=>Ah<|sV (Ab rfl) ?_
      refine wh h8f<|wp_ret ?_
      exact Bn f6f X1a rfl
    ·refine cf e7a<|wp_skip<|h8c _ _<|Ah<|sV3 (Aa rfl) (Bt (c:=wi64 (v0a - 1)) rfl rfl rfl) (Ab rfl) ?_
     refine AF ?_
     exact ih3c _ _ ⟨(wi64 (v0a - 1)),(U4a.trans E3b),f1e,(Fr.mk (by kernel_rfl))⟩
   ·refine cf e5a<|wp_exit ?_
    simp only [Exit.then,Exit.inBlock,↓reduceIte,Nat.reduceEqDiff]
    refine h1c _ _<|ws fun h9f=>Ah<|sV (Ab rfl) ?_
    refine wh h9f<|wp_ret ?_
    exact Bn f7c U4a rfl
theorem HN (x0:List Int) (x1:List Int) (A1:OA) (c2:Nat) (A4:OA) (c5:Nat) (w:World) (hT:TB w) (n3:RLu w A1 c2 x0) (n6:RLu w A4 c5 x1) (r:List Int) (hr:CJ x0 x1=some r) :
  Calls prog 207 #[.slice A1 x0.length c2,.slice A4 x1.length c5] w (Ret Kz w r):=by
 unfold CJ at hr
 go_enter func207,ntmps207
 refine ws fun h7=>Ah<|sV (Ab rfl) ?_
 refine wh h7<|ws fun h8=>ws fun h9=>Ah<|sV3 (Aa rfl) (AD Au rfl) (Aa rfl) ?_
 refine sV (AD Au rfl) ?_
 refine sbl (Bv rfl rfl) fun z2c hz2c=>?_
 refine wh h9 ?_
 obtain ⟨m0a,h6d,f7d⟩:=Ad hr
 refine CG (fun l l' w'=>∃(A8a:OA) (c9a:Nat) (A0b:OA) (c1b:Nat),w=w'∧RLu w' A8a c9a m0a.1∧RLu w' A0b c1b m0a.2∧Fr l' (fun t3c=>.slice A8a m0a.1.length c9a::.slice A0b m0a.2.length c1b::gp t3c 2 54 [])) ?_ ?_
 ·rcases zi hz2c h6d with ⟨e5b,_,f8d⟩ | ⟨e5b,_,f9d⟩
  ·refine ct e5b<|Ah<|sV3 (Aa rfl) (Aa rfl) (Ab rfl) ?_
   refine sV (Ab rfl) ?_
   refine AF ?_
   obtain rfl:=sj f8d
   exact ⟨_,rfl,A4,c5,A1,c2,(by trivial),n6,n3,(Fr.mk (by kernel_rfl))⟩
  ·refine cf e5b<|wp_skip ?_
   obtain rfl:=sj f9d
   exact ⟨_,rfl,A1,c2,A4,c5,(by trivial),n3,n6,(Fr.mk (by kernel_rfl))⟩
 ·rintro _ _ ⟨A8a,c9a,A0b,c1b,rfl,n0e,n1e,⟨t3c,rfl⟩⟩ l'' hl
  simp only [gp,Nat.reduceAdd] at hl
  subst hl
  refine h8 _ _<|ws fun h2e=>Ah<|sV3 (Aa rfl) (AD Au rfl) (AV (c:=wi64 ((m0a.1.length:Int)+1)) rfl rfl rfl) ?_
  obtain ⟨_,h3e,f4e⟩:=Ad f7d
  have gd43:=AI h3e
  refine IH Au ER rfl rfl gd43 fun A5e w1 E6e ow4c=>?_
  refine nrm ?_
  refine sV (Ab rfl) ?_
  refine nx h2e fun h7e=>sV (Ab rfl) ?_
  refine wh h7e<|ws fun h8e=>ws fun h9e=>Ah<|sV3 (Aa rfl) (AD Au rfl) (Aa rfl) ?_
  refine wh h9e ?_
  obtain ⟨m1a,h0f,f1f⟩:=Ad f4e
  refine CG (fun l l' w'=>∃(A6b:OA) (c7b:Nat),Ext w w'∧OW 179 w.heap.size w' A6b m1a.2.length c7b m1a.2∧Fr l' (fun t8b=>gp t8b 0 5 (.slice A6b m1a.2.length c7b::.int .u64 m1a.1::gp t8b 7 49 []))) ?_ ?_
  ·apply wp_block
   refine Bp (fun l n5c l' w'=>∃(v5a:Int) (v4a:Int) (v3a:List Int) (A6a:OA) (c7a:Nat),Ext w w'∧OW 179 w.heap.size w' A6a v3a.length c7a v3a∧DB x0 x1 m0a n5c v5a v4a v3a=some m1a∧Fr l' (fun t2b=>gp t2b 0 1 (.slice A0b m0a.2.length c1b::gp t2b 2 3 (.slice A6a v3a.length c7a::.int .u64 v5a::gp t2b 7 13 (.slice A8a m0a.1.length c9a::.int .i64 (m0a.1.length:Int)::.int .i64 v4a::gp t2b 23 33 []))))) 18446744073709551616 ?_ ?_ ?_
   ·exact ⟨0,0,(List.replicate (0:Int).toNat (0:Int)),A5e,(((wi64 ((m0a.1.length:Int)+1)):Int).toNat),E6e,(OW.nn ow4c),h0f,(Fr.mk (by simp only [OW.len ow4c];kernel_rfl))⟩
   ·rintro l' w' ⟨v5a,v4a,v3a,A6a,c7a,_,_,hz,_⟩
    exact nomatch hz
   ·rintro n5c ih2f _ w2 ⟨v5a,v4a,v3a,A6a,c7a,X4b,ow6c,hr7c,⟨t2b,rfl⟩⟩ l'' hl
    simp only [gp,Nat.reduceAdd] at hl
    subst hl
    unfold DB at hr7c
    refine AW<|ws fun h3f=>Ah<|sbl (Bv rfl rfl) fun z8c hz8c=>?_
    refine wh h3f<|ws fun h4f=>?_
    rcases zi hz8c hr7c with ⟨e9b,_,f5f⟩ | ⟨e9b,_,f6f⟩
    ·refine ct e9b<|wp_skip<|h4f _ _<|ws fun h7f=>?_
     apply wp_block
     refine ws fun h8f=>Ah<|sV (Aa rfl) ?_
     obtain ⟨u0c,h9f,f0g⟩:=Ad f5f
     obtain ⟨bb541,oo542,hA1g,ia2g,ib3g,hc544⟩:=RL.nth (n0e.ext X4b) h9f
     refine sV3 (AA Au Av rfl rfl hA1g ia2g ib3g) (Ag AZ rfl hc544) (Ab rfl) ?_
     refine sV (Ab rfl) ?_
     refine nx h8f fun h4g=>sV3 (Aa rfl) (Aa rfl) (AO (c:=wu64 u0c) AQ AN rfl rfl) ?_
     refine sV2 (AV (c:=wu64 (v5a+(wu64 u0c))) rfl rfl rfl) (Ab rfl) ?_
     refine wh h4g<|ws fun h5g=>ws fun h6g=>Ah<|sV3 (Aa rfl) (Aa rfl) (AD Au rfl) ?_
     refine sbl (Bv rfl rfl) fun z9c hz9c=>?_
     refine wh h6g ?_
     obtain ⟨m2a,h7g,f8g⟩:=Ad f0g
     refine CG (fun l l' w'=>w2=w'∧Fr l' (fun t3b=>gp t3b 0 1 (.slice A0b m0a.2.length c1b::gp t3b 2 3 (.slice A6a v3a.length c7a::.int .u64 m2a::gp t3b 7 13 (.slice A8a m0a.1.length c9a::.int .i64 (m0a.1.length:Int)::.int .i64 v4a::gp t3b 23 33 []))))) ?_ ?_
     ·rcases zi hz9c h7g with ⟨e1c,_,f9g⟩ | ⟨e1c,_,f0h⟩
      ·refine ct e1c<|Ah<|sV3 (Aa rfl) (Aa rfl) (Aa rfl) ?_
       obtain ⟨u0d,h1h,f2h⟩:=Ad f9g
       obtain ⟨bb582,oo583,hA3h,ia4h,ib5h,hc585⟩:=RL.nth (n1e.ext X4b) h1h
       refine sV3 (AA Au Av rfl rfl hA3h ia4h ib5h) (Ag AZ rfl hc585) (AO (c:=wu64 u0d) AQ AN rfl rfl) ?_
       refine sV2 (AV (c:=wu64 ((wu64 (v5a+(wu64 u0c)))+(wu64 u0d))) rfl rfl rfl) (Ab rfl) ?_
       refine AF ?_
       obtain rfl:=sj f2h
       exact ⟨_,rfl,(by trivial),(Fr.mk (by kernel_rfl))⟩
      ·refine cf e1c<|wp_skip ?_
       obtain rfl:=sj f0h
       exact ⟨_,rfl,(by trivial),(Fr.mk (by kernel_rfl))⟩
     ·rintro _ _ ⟨rfl,⟨t3b,rfl⟩⟩ l'' hl
      simp only [gp,Nat.reduceAdd] at hl
      subst hl
      refine h5g _ _<|ws fun h6h=>Ah<|sV3 (Aa rfl) (Aa rfl) (AO (c:=wu32 m2a) AN AQ rfl rfl) ?_
      refine Dj (vals:=[(0,.int .u32 (wu32 m2a))]) (cs:=[.int .u32 (wu32 m2a)]) Au Av Jr (by rfl) (by decide) (by kernel_rfl) fun b7h w3 E1d g3k q8h=>?_
      refine nrm ?_
      have X2d:=xtr X4b E1d
      have n9h:RLu w3 (some ⟨b7h,0,none⟩) 1 [(wu32 m2a)]:=(OW.lit (n0:=0) (n:=1) (xs:=[(wu32 m2a)]) q8h (Nat.zero_le _) rfl (by decide)).rl
      obtain ⟨_,h0i,f1i⟩:=Ad f8g
      have gd598:=AI h0i
      refine MV Au ER rfl rfl rfl (ow6c.ext E1d) n9h gd598 X2d.size fun A2i c3i w4 B601 ow4i=>?_
      refine nrm ?_
      have X5i:=xO X2d B601 (Nat.le_refl _)
      refine sV (Ab rfl) ?_
      refine wh h6h<|Ah<|sV2 (Aa rfl) (IX (c:=m2a.fdiv (2^min (32:Int).toNat IntKind.u64.bits)) (by decide) rfl rfl rfl) ?_
      refine sV (Ab rfl) ?_
      refine wh h7f<|Ah<|sV2 (AV (c:=wi64 (v4a+1)) rfl rfl rfl) (Aa rfl) ?_
      refine AF ?_
      exact ih2f _ _ ⟨(m2a.fdiv (2^min (32:Int).toNat IntKind.u64.bits)),(wi64 (v4a+1)),(v3a++([(wu32 m2a)]:List Int)),A2i,c3i,X5i,(OW.nn ow4i),f1i,(Fr.mk (by kernel_rfl))⟩
    ·refine cf e9b<|wp_exit ?_
     simp only [Exit.then,Exit.inBlock,↓reduceIte,Nat.reduceEqDiff]
     obtain rfl:=sj f6f
     exact ⟨_,rfl,A6a,c7a,X4b,(OW.nn ow6c),(Fr.mk (by kernel_rfl))⟩
  ·rintro _ w2 ⟨A6b,c7b,X6i,ow7i,⟨t8b,rfl⟩⟩ l'' hl
   simp only [gp,Nat.reduceAdd] at hl
   subst hl
   refine h8e _ _<|ws fun h8i=>Ah<|sV3 (Aa rfl) (Aa rfl) (AO (c:=wu32 m1a.1) AN AQ rfl rfl) ?_
   refine Dj (vals:=[(0,.int .u32 (wu32 m1a.1))]) (cs:=[.int .u32 (wu32 m1a.1)]) Au Av Jr (by rfl) (by decide) (by kernel_rfl) fun b9i w3 E3d g4k q0j=>?_
   refine nrm ?_
   have X4d:=xtr X6i E3d
   have n1j:RLu w3 (some ⟨b9i,0,none⟩) 1 [(wu32 m1a.1)]:=(OW.lit (n0:=0) (n:=1) (xs:=[(wu32 m1a.1)]) q0j (Nat.zero_le _) rfl (by decide)).rl
   obtain ⟨_,h2j,f3j⟩:=Ad f1f
   have gd613:=AI h2j
   refine MV Au ER rfl rfl rfl (ow7i.ext E3d) n1j gd613 X4d.size fun A4j c5j w4 B616 ow6j=>?_
   refine nrm ?_
   have X5d:=xO X4d B616 (Nat.le_refl _)
   refine scn f3j (Ac Lm (by rfl)) (DX (m1a.2++([(wu32 m1a.1)]:List Int)) A4j c5j w4 (tbx X5d hT) (OW.rl ow6j)) fun r5k f7j w5 A8j c9j E0k n1k=>?_
   have X2k:=xtr X5d E0k
   refine sV (Ab rfl) ?_
   refine wh h8i<|wp_ret ?_
   exact Bn f7j X2k ⟨A8j,c9j,rfl,n1k⟩
theorem Gq (x0:List Int) (x1:List Int) (A1:OA) (c2:Nat) (A4:OA) (c5:Nat) (w:World) (hT:TB w) (n3:RLu w A1 c2 x0) (n6:RLu w A4 c5 x1) (r:List Int) (hr:Ch x0 x1=some r) :
  Calls prog 191 #[.slice A1 x0.length c2,.slice A4 x1.length c5] w (Ret Kz w r):=by
 unfold Ch at hr
 go_enter func191,ntmps191
 refine ws fun h7=>Ah<|sV (Ab rfl) ?_
 refine nx h7 fun h8=>sV (Aa rfl) ?_
 refine scn hr (Ac Qb (by rfl)) (Ip x0 A1 c2 w hT n3) fun r9 f8c w1 A1a c2a E9c n0d=>?_
 refine sV (Ab rfl) ?_
 refine nx h8 fun h1d=>sV (Ab rfl) ?_
 refine wh h1d<|ws fun h2d=>ws fun h3d=>Ah<|sV3 (Aa rfl) (AD Au rfl) (Aa rfl) ?_
 refine wh h3d ?_
 obtain ⟨m0b,h4d,f5d⟩:=Ad f8c
 refine CG (fun l l' w'=>Ext w w'∧OW 179 w.heap.size w' A1a r9.length c2a m0b∧Fr l' (fun t1b=>gp t1b 0 5 (.slice A1a r9.length c2a::gp t1b 6 41 []))) ?_ ?_
 ·apply wp_block
  refine Bp (fun l n6b l' w'=>∃(v4a:Int) (v0a:Int) (v5a:List Int),Ext w w'∧OW 179 w.heap.size w' A1a r9.length c2a v5a∧Eu x0 x1 r9 n6b v4a v0a v5a=some m0b∧Fr l' (fun t6a=>gp t6a 0 1 (.slice A4 x1.length c5::gp t6a 2 3 (.slice A1a r9.length c2a::.int .u64 v4a::gp t6a 7 6 (.int .i64 ((r9.length:Nat):Int)::.int .i64 v0a::gp t6a 15 32 []))))) 18446744073709551616 ?_ ?_ ?_
  ·exact ⟨0,0,r9,E9c,n0d,h4d,(Fr.mk (by kernel_rfl))⟩
  ·rintro l' w' ⟨v4a,v0a,v5a,_,_,hz,_⟩
   exact nomatch hz
  ·rintro n6b ih6d _ w2 ⟨v4a,v0a,v5a,X2b,ow7a,hr7b,⟨t6a,rfl⟩⟩ l'' hl
   simp only [gp,Nat.reduceAdd] at hl
   subst hl
   unfold Eu at hr7b
   refine AW<|ws fun h7d=>Ah<|sbl (Bv rfl rfl) fun z8b hz8b=>?_
   refine wh h7d<|ws fun h8d=>?_
   rcases zi hz8b hr7b with ⟨e3b,_,f9d⟩ | ⟨e3b,_,f0e⟩
   ·refine ct e3b<|wp_skip<|h8d _ _<|ws fun h1e=>?_
    apply wp_block
    refine ws fun h2e=>Ah<|sV2 (Aa rfl) (Ab rfl) ?_
    refine nx h2e fun h3e=>sV2 (Aa rfl) (Ab rfl) ?_
    refine wh h3e<|ws fun h4e=>ws fun h5e=>Ah<|sV3 (Aa rfl) (Aa rfl) (AD Au rfl) ?_
    refine sbl (Bv rfl rfl) fun z9b hz9b=>?_
    refine wh h5e ?_
    obtain ⟨m8a,h6e,f7e⟩:=Ad f9d
    refine CG (fun l l' w'=>w2=w'∧Fr l' (fun t3a=>gp t3a 0 1 (.slice A4 x1.length c5::gp t3a 2 3 (.slice A1a r9.length c2a::gp t3a 6 1 (.int .i64 v0a::.int .u64 m8a::gp t3a 9 4 (.int .i64 ((r9.length:Nat):Int)::.int .i64 v0a::gp t3a 15 32 [])))))) ?_ ?_
    ·rcases zi hz9b h6e with ⟨e4b,_,f8e⟩ | ⟨e4b,_,f9e⟩
     ·refine ct e4b<|Ah<|sV3 (Aa rfl) (Aa rfl) (Aa rfl) ?_
      obtain ⟨u0c,h0f,f1f⟩:=Ad f8e
      obtain ⟨bb615,oo616,hA2f,ia3f,ib4f,hc618⟩:=RL.nth (n6.ext X2b) h0f
      refine sV3 (AA Au Av rfl rfl hA2f ia3f ib4f) (Ag AZ rfl hc618) (AO (c:=wu64 u0c) AQ AN rfl rfl) ?_
      refine sV2 (AV (c:=wu64 (v4a+(wu64 u0c))) rfl rfl rfl) (Ab rfl) ?_
      refine AF ?_
      obtain rfl:=sj f1f
      exact ⟨_,rfl,(by trivial),(Fr.mk (by kernel_rfl))⟩
     ·refine cf e4b<|wp_skip ?_
      obtain rfl:=sj f9e
      exact ⟨_,rfl,(by trivial),(Fr.mk (by kernel_rfl))⟩
    ·rintro _ _ ⟨rfl,⟨t3a,rfl⟩⟩ l'' hl
     simp only [gp,Nat.reduceAdd] at hl
     subst hl
     refine h4e _ _<|ws fun h5f=>Ah<|sV2 (Aa rfl) (Aa rfl) ?_
     obtain ⟨u9a,h6f,f7f⟩:=Ad f7e
     obtain ⟨bb626,hA8f,hz9h,ia9f,ib0g,hc631⟩:=OW.nthc ow7a h6f
     refine sV3 (AA Au Av rfl rfl hA8f ia9f ib0g) (Ag AZ rfl hc631) (AO (c:=wu64 u9a) AQ AN rfl rfl) ?_
     refine sV (Ab rfl) ?_
     refine nx h5f fun h1g=>sV3 (Aa rfl) (Aa rfl) (Aa rfl) ?_
     refine sV3 (Aa rfl) (Bt (c:=wu64 ((wu64 u9a) - m8a)) rfl rfl rfl) (AO (c:=wu32 (wu64 ((wu64 u9a) - m8a))) AN AQ rfl rfl) ?_
     obtain ⟨u0i,h2g,f3g⟩:=Ad f7f
     obtain ⟨bb636,hA1c,hz1i,ia2c,ib3c,hc641⟩:=OW.nthc ow7a h2g
     refine sV (AA Au Av rfl rfl hA1c ia2c ib3c) ?_
     refine MW Av rfl rfl ow7a hA1c ia2c (by rw [OW.len ow7a];exact ib3c) fun w3 B642 U2i ow4g=>?_
     have X5g:=xO X2b B642 (Nat.le_refl _)
     refine nx h1g fun h6g=>sV (Ab rfl) ?_
     refine nx h6g fun h7g=>sV2 (Aa rfl) (Aa rfl) ?_
     refine sbl (Bv rfl rfl) fun z4c hz4c=>?_
     refine wh h7g ?_
     obtain ⟨m5c,h8g,f9g⟩:=Ad f3g
     refine CG (fun l l' w'=>w3=w'∧l'=(l.set 6 (.int .u64 m5c))) ?_ ?_
     ·rcases zi hz4c h8g with ⟨e5b,_,f0h⟩ | ⟨e5b,_,f1h⟩
      ·refine ct e5b<|Ah<|sV (Ab rfl) ?_
       refine AF ?_
       obtain rfl:=sj f0h
       exact ⟨_,rfl,(by trivial),(by kernel_rfl)⟩
      ·refine cf e5b<|wp_skip ?_
       obtain rfl:=sj f1h
       exact ⟨_,rfl,(by trivial),(by kernel_rfl)⟩
     ·rintro l' _ ⟨rfl,rfl⟩ l'' hl
      simp only [S0,S1] at hl;subst hl
      refine h1e _ _<|Ah<|sV2 (AV (c:=wi64 (v0a+1)) rfl rfl rfl) (Aa rfl) ?_
      refine AF ?_
      exact ih6d _ _ ⟨m5c,(wi64 (v0a+1)),(List.set v5a (v0a:Int).toNat (wu32 (wu64 ((wu64 u9a) - m8a)))),X5g,ow4g,f9g,(Fr.mk (by kernel_rfl))⟩
   ·refine cf e3b<|wp_exit ?_
    simp only [Exit.then,Exit.inBlock,↓reduceIte,Nat.reduceEqDiff]
    obtain rfl:=sj f0e
    exact ⟨_,rfl,X2b,ow7a,(Fr.mk (by kernel_rfl))⟩
 ·rintro _ w2 ⟨X6c,ow7c,⟨t1b,rfl⟩⟩ l'' hl
  simp only [gp,Nat.reduceAdd] at hl
  subst hl
  refine h2d _ _<|ws fun h2h=>Ah<|sV (Aa rfl) ?_
  refine scn f5d (Ac Lm (by simp only [OW.len ow7c];rfl)) (DX m0b A1a c2a w2 (tbx X6c hT) (OW.rl ow7c)) fun r3i f3h w3 A4h c5h E6h n7h=>?_
  have X8h:=xtr X6c E6h
  refine sV (Ab rfl) ?_
  refine wh h2h<|wp_ret ?_
  exact Bn f3h X8h ⟨A4h,c5h,rfl,n7h⟩
theorem IR (x0:List Int) (x1:List Int) (A1:OA) (c2:Nat) (A4:OA) (c5:Nat) (w:World) (hT:TB w) (n3:RLu w A1 c2 x0) (n6:RLu w A4 c5 x1) (r:List Int) (hr:Ds x0 x1=some r) :
  Calls prog 241 #[.slice A1 x0.length c2,.slice A4 x1.length c5] w (Ret Kz w r):=by
 unfold Ds at hr
 go_enter func241,ntmps241
 refine ws fun h7=>Ah<|sV (Ab rfl) ?_
 refine nx h7 fun h8=>sV3 (Aa rfl) (AD Au rfl) (Aa rfl) ?_
 refine sV2 (AD Au rfl) (AV (c:=wi64 ((x0.length:Int)+(x1.length:Int))) rfl rfl rfl) ?_
 obtain ⟨_,h9,f8d⟩:=Ad hr
 have gd11:=AI h9
 refine IH Au ER rfl rfl gd11 fun A1a w1 E9d ow0e=>?_
 refine nrm ?_
 refine sV (Ab rfl) ?_
 refine wh h8<|ws fun h1e=>ws fun h2e=>Ah<|sV3 (Aa rfl) (AD Au rfl) (Aa rfl) ?_
 refine wh h2e ?_
 obtain ⟨m5b,h3e,f4e⟩:=Ad f8d
 refine CG (fun l l' w'=>Ext w w'∧OW 179 w.heap.size w' A1a (((wi64 ((x0.length:Int)+(x1.length:Int))):Int).toNat) (((wi64 ((x0.length:Int)+(x1.length:Int))):Int).toNat) m5b∧Fr l' (fun t6b=>gp t6b 0 5 (.slice A1a (((wi64 ((x0.length:Int)+(x1.length:Int))):Int).toNat) (((wi64 ((x0.length:Int)+(x1.length:Int))):Int).toNat)::gp t6b 6 61 []))) ?_ ?_
 ·apply wp_block
  refine Bp (fun l n2c l' w'=>∃(v0a:Int) (v9a:List Int),Ext w w'∧OW 179 w.heap.size w' A1a (((wi64 ((x0.length:Int)+(x1.length:Int))):Int).toNat) (((wi64 ((x0.length:Int)+(x1.length:Int))):Int).toNat) v9a∧Cw x0 x1 n2c v0a v9a=some m5b∧Fr l' (fun t0b=>gp t0b 0 1 (.slice A4 x1.length c5::gp t0b 2 3 (.slice A1a (((wi64 ((x0.length:Int)+(x1.length:Int))):Int).toNat) (((wi64 ((x0.length:Int)+(x1.length:Int))):Int).toNat)::gp t0b 6 11 (.slice A1 x0.length c2::.int .i64 (x0.length:Int)::.int .i64 v0a::gp t0b 20 47 []))))) 18446744073709551616 ?_ ?_ ?_
  ·exact ⟨0,(List.replicate ((wi64 ((x0.length:Int)+(x1.length:Int))):Int).toNat (0:Int)),E9d,ow0e,h3e,(Fr.mk (by kernel_rfl))⟩
  ·rintro l' w' ⟨v0a,v9a,_,_,hz,_⟩
   exact nomatch hz
  ·rintro n2c ih5e _ w2 ⟨v0a,v9a,X7b,ow3c,hr4c,⟨t0b,rfl⟩⟩ l'' hl
   simp only [gp,Nat.reduceAdd] at hl
   subst hl
   unfold Cw at hr4c
   refine AW<|ws fun h6e=>Ah<|sbl (Bv rfl rfl) fun z5c hz5c=>?_
   refine wh h6e<|ws fun h7e=>?_
   rcases zi hz5c hr4c with ⟨e8b,_,f8e⟩ | ⟨e8b,_,f9e⟩
   ·refine ct e8b<|wp_skip<|h7e _ _<|ws fun h0f=>?_
    obtain ⟨m6c,h1f,f2f⟩:=Ad f8e
    refine CG (fun l l' w'=>Ext w w'∧OW 179 w.heap.size w' A1a (((wi64 ((x0.length:Int)+(x1.length:Int))):Int).toNat) (((wi64 ((x0.length:Int)+(x1.length:Int))):Int).toNat) m6c∧Fr l' (fun t1b=>gp t1b 0 1 (.slice A4 x1.length c5::gp t1b 2 3 (.slice A1a (((wi64 ((x0.length:Int)+(x1.length:Int))):Int).toNat) (((wi64 ((x0.length:Int)+(x1.length:Int))):Int).toNat)::gp t1b 6 11 (.slice A1 x0.length c2::.int .i64 (x0.length:Int)::.int .i64 v0a::gp t1b 20 47 []))))) ?_ ?_
    ·apply wp_block
     refine ws fun h3f=>Ah<|sV (Aa rfl) ?_
     obtain ⟨u2a,h4f,f5f⟩:=Ad h1f
     obtain ⟨bb4311,oo4312,hA6f,ia7f,ib8f,hc4314⟩:=RL.nth (n3.ext X7b) h4f
     refine sV3 (AA Au Av rfl rfl hA6f ia7f ib8f) (Ag AZ rfl hc4314) (Ab rfl) ?_
     refine sV (Ab rfl) ?_
     refine nx h3f fun h9f=>sV (Ab rfl) ?_
     refine wh h9f<|ws fun h0g=>ws fun h1g=>Ah<|sV3 (Aa rfl) (AD Au rfl) (Aa rfl) ?_
     refine wh h1g ?_
     obtain ⟨m4b,h2g,f3g⟩:=Ad f5f
     refine CG (fun l l' w'=>Ext w w'∧OW 179 w.heap.size w' A1a (((wi64 ((x0.length:Int)+(x1.length:Int))):Int).toNat) (((wi64 ((x0.length:Int)+(x1.length:Int))):Int).toNat) m4b.2∧Fr l' (fun t7a=>gp t7a 0 1 (.slice A4 x1.length c5::gp t7a 2 3 (.slice A1a (((wi64 ((x0.length:Int)+(x1.length:Int))):Int).toNat) (((wi64 ((x0.length:Int)+(x1.length:Int))):Int).toNat)::.int .i64 v0a::gp t7a 7 1 (.int .u64 m4b.1::gp t7a 9 8 (.slice A1 x0.length c2::.int .i64 (x0.length:Int)::.int .i64 v0a::gp t7a 20 47 [])))))) ?_ ?_
     ·apply wp_block
      refine Bp (fun l n7c l' w'=>∃(v3a:Int) (v4a:Int) (v2b:List Int),Ext w w'∧OW 179 w.heap.size w' A1a (((wi64 ((x0.length:Int)+(x1.length:Int))):Int).toNat) (((wi64 ((x0.length:Int)+(x1.length:Int))):Int).toNat) v2b∧CU x0 x1 v0a u2a n7c v3a v4a v2b=some m4b∧Fr l' (fun t8a=>gp t8a 0 1 (.slice A4 x1.length c5::gp t8a 2 3 (.slice A1a (((wi64 ((x0.length:Int)+(x1.length:Int))):Int).toNat) (((wi64 ((x0.length:Int)+(x1.length:Int))):Int).toNat)::.int .i64 v0a::.int .u32 u2a::.int .u64 v3a::gp t8a 9 8 (.slice A1 x0.length c2::.int .i64 (x0.length:Int)::.int .i64 v0a::gp t8a 20 4 (.slice A4 x1.length c5::.int .i64 (x1.length:Int)::.int .i64 v4a::gp t8a 27 40 [])))))) 18446744073709551616 ?_ ?_ ?_
      ·exact ⟨0,0,v9a,X7b,ow3c,h2g,(Fr.mk (by kernel_rfl))⟩
      ·rintro l' w' ⟨v3a,v4a,v2b,_,_,hz,_⟩
       exact nomatch hz
      ·rintro n7c ih4g _ w3 ⟨v3a,v4a,v2b,X9b,ow3b,hr8c,⟨t8a,rfl⟩⟩ l'' hl
       simp only [gp,Nat.reduceAdd] at hl
       subst hl
       unfold CU at hr8c
       refine AW<|ws fun h5g=>Ah<|sbl (Bv rfl rfl) fun z9c hz9c=>?_
       refine wh h5g<|ws fun h6g=>?_
       rcases zi hz9c hr8c with ⟨e0c,_,f7g⟩ | ⟨e0c,_,f8g⟩
       ·refine ct e0c<|wp_skip<|h6g _ _<|ws fun h9g=>?_
        apply wp_block
        refine ws fun h0h=>Ah<|sV (Aa rfl) ?_
        obtain ⟨u5a,h1h,f2h⟩:=Ad f7g
        obtain ⟨bb4635,oo4636,hA3h,ia4h,ib5h,hc4638⟩:=RL.nth (n6.ext X9b) h1h
        refine sV3 (AA Au Av rfl rfl hA3h ia4h ib5h) (Ag AZ rfl hc4638) (Ab rfl) ?_
        refine sV (Ab rfl) ?_
        refine nx h0h fun h6h=>sV3 (Aa rfl) (Aa rfl) (AO (c:=wu64 u2a) AQ AN rfl rfl) ?_
        refine sV3 (Aa rfl) (AO (c:=wu64 u5a) AQ AN rfl rfl) (KS (c:=wu64 ((wu64 u2a)*(wu64 u5a))) rfl rfl rfl) ?_
        refine sV3 (Aa rfl) (Aa rfl) (Aa rfl) ?_
        refine sV (AV (c:=wi64 (v0a+v4a)) rfl rfl rfl) ?_
        obtain ⟨u6a,h7h,f8h⟩:=Ad f2h
        obtain ⟨bb4646,hA9h,hz1k,ia0i,ib1i,hc4651⟩:=OW.nthc ow3b h7h
        refine sV3 (AA Au Av rfl rfl hA9h ia0i ib1i) (Ag AZ rfl hc4651) (AO (c:=wu64 u6a) AQ AN rfl rfl) ?_
        refine sV3 (AV (c:=wu64 ((wu64 ((wu64 u2a)*(wu64 u5a)))+(wu64 u6a))) rfl rfl rfl) (AV (c:=wu64 (v3a+(wu64 ((wu64 ((wu64 u2a)*(wu64 u5a)))+(wu64 u6a))))) rfl rfl rfl) (Ab rfl) ?_
        refine nx h6h fun h2i=>sV3 (Aa rfl) (Aa rfl) (Aa rfl) ?_
        refine sV3 (AV (c:=wi64 (v0a+v4a)) rfl rfl rfl) (Aa rfl) (AO (c:=wu32 (wu64 (v3a+(wu64 ((wu64 ((wu64 u2a)*(wu64 u5a)))+(wu64 u6a)))))) AN AQ rfl rfl) ?_
        obtain ⟨u2k,h3i,f4i⟩:=Ad f8h
        obtain ⟨bb4656,hA0d,hz3k,ia1d,ib2d,hc4661⟩:=OW.nthc ow3b h3i
        refine sV (AA Au Av rfl rfl hA0d ia1d ib2d) ?_
        refine MW Av rfl rfl ow3b hA0d ia1d (by rw [OW.len ow3b];exact ib2d) fun w4 B4662 U4k ow5i=>?_
        have X6i:=xO X9b B4662 (Nat.le_refl _)
        refine wh h2i<|Ah<|sV2 (Aa rfl) (IX (c:=(wu64 (v3a+(wu64 ((wu64 ((wu64 u2a)*(wu64 u5a)))+(wu64 u6a))))).fdiv (2^min (32:Int).toNat IntKind.u64.bits)) (by decide) rfl rfl rfl) ?_
        refine sV (Ab rfl) ?_
        refine wh h9g<|Ah<|sV2 (AV (c:=wi64 (v4a+1)) rfl rfl rfl) (Aa rfl) ?_
        refine AF ?_
        exact ih4g _ _ ⟨((wu64 (v3a+(wu64 ((wu64 ((wu64 u2a)*(wu64 u5a)))+(wu64 u6a))))).fdiv (2^min (32:Int).toNat IntKind.u64.bits)),(wi64 (v4a+1)),(List.set v2b ((wi64 (v0a+v4a)):Int).toNat (wu32 (wu64 (v3a+(wu64 ((wu64 ((wu64 u2a)*(wu64 u5a)))+(wu64 u6a))))))),X6i,ow5i,f4i,(Fr.mk (by kernel_rfl))⟩
       ·refine cf e0c<|wp_exit ?_
        simp only [Exit.then,Exit.inBlock,↓reduceIte,Nat.reduceEqDiff]
        obtain rfl:=sj f8g
        exact ⟨_,rfl,X9b,ow3b,(Fr.mk (by kernel_rfl))⟩
     ·rintro _ w3 ⟨X7i,ow1c,⟨t7a,rfl⟩⟩ l'' hl
      simp only [gp,Nat.reduceAdd] at hl
      subst hl
      refine h0g _ _<|Ah<|sV3 (Aa rfl) (Aa rfl) (Aa rfl) ?_
      refine sV3 (AD Au rfl) (AV (c:=wi64 (v0a+(x1.length:Int))) rfl rfl rfl) (Aa rfl) ?_
      refine sV (AO (c:=wu32 m4b.1) AN AQ rfl rfl) ?_
      obtain ⟨u5k,h8i,f9i⟩:=Ad f3g
      obtain ⟨bb4669,hA3d,hz6k,ia4d,ib5d,hc4674⟩:=OW.nthc ow1c h8i
      refine sV (AA Au Av rfl rfl hA3d ia4d ib5d) ?_
      refine MW Av rfl rfl ow1c hA3d ia4d (by rw [OW.len ow1c];exact ib5d) fun w4 B4675 U7k ow0j=>?_
      have X1j:=xO X7i B4675 (Nat.le_refl _)
      refine AF ?_
      obtain rfl:=sj f9i
      exact ⟨_,rfl,X1j,ow0j,(Fr.mk (by kernel_rfl))⟩
    ·rintro _ w3 ⟨X2j,ow3j,⟨t1b,rfl⟩⟩ l'' hl
     simp only [gp,Nat.reduceAdd] at hl
     subst hl
     refine h0f _ _<|Ah<|sV2 (AV (c:=wi64 (v0a+1)) rfl rfl rfl) (Aa rfl) ?_
     refine AF ?_
     exact ih5e _ _ ⟨(wi64 (v0a+1)),m6c,X2j,ow3j,f2f,(Fr.mk (by kernel_rfl))⟩
   ·refine cf e8b<|wp_exit ?_
    simp only [Exit.then,Exit.inBlock,↓reduceIte,Nat.reduceEqDiff]
    obtain rfl:=sj f9e
    exact ⟨_,rfl,X7b,ow3c,(Fr.mk (by kernel_rfl))⟩
 ·rintro _ w2 ⟨X6d,ow7d,⟨t6b,rfl⟩⟩ l'' hl
  simp only [gp,Nat.reduceAdd] at hl
  subst hl
  refine h1e _ _<|ws fun h4j=>Ah<|sV (Aa rfl) ?_
  refine scn f4e (Ac Lm (by simp only [OW.len ow7d];rfl)) (DX m5b A1a (((wi64 ((x0.length:Int)+(x1.length:Int))):Int).toNat) w2 (tbx X6d hT) (OW.rl ow7d)) fun r8k f5j w3 A6j c7j E8j n9j=>?_
  have X0k:=xtr X6d E8j
  refine sV (Ab rfl) ?_
  refine wh h4j<|wp_ret ?_
  exact Bn f5j X0k ⟨A6j,c7j,rfl,n9j⟩
theorem CL (x0:List Int) (x1:Int) (A1:OA) (c2:Nat) (w:World) (hT:TB w) (n3:RLu w A1 c2 x0) (r:List Int) (hr:Bq x0 x1=some r) :
  Calls prog 185 #[.slice A1 x0.length c2,.int .i64 x1] w (Ret Kz w r):=by
 unfold Bq at hr
 go_enter func185,ntmps185
 refine ws fun h4=>Ah<|sV (Ab rfl) ?_
 refine wh h4<|ws fun h5=>ws fun h6=>Ah<|sV2 (Aa rfl) (AD Au rfl) ?_
 refine sbl (Cy rfl rfl) fun z7 hz7=>?_
 refine wh h6 ?_
 rcases zi hz7 hr with ⟨e8a,_,f4c⟩ | ⟨e8a,_,f5c⟩
 ·refine ct e8a<|ws fun h6c=>Ah<|sV (Ab rfl) ?_
  refine wh h6c<|wp_ret ?_
  exact Bn f4c (Ext.refl _) ⟨none,0,rfl,(RL.nil _ _ _)⟩
 ·refine cf e8a<|wp_skip<|h5 _ _<|ws fun h7c=>Ah<|sV2 (Aa rfl) (Ji (c:=wi64 (x1.tdiv 32)) (by decide) rfl rfl rfl) ?_
  refine sV2 (Aa rfl) (Ji (c:=wi64 (x1.tdiv 32)) (by decide) rfl rfl rfl) ?_
  refine sV3 (Aa rfl) (AD Au rfl) (AV (c:=wi64 ((wi64 (x1.tdiv 32))+(x0.length:Int))) rfl rfl rfl) ?_
  refine sV (AV (c:=wi64 ((wi64 ((wi64 (x1.tdiv 32))+(x0.length:Int)))+1)) rfl rfl rfl) ?_
  obtain ⟨_,h8c,f9c⟩:=Ad f5c
  have gd22:=AI h8c
  refine IH Au ER rfl rfl gd22 fun A0d w1 E1d ow4b=>?_
  refine nrm ?_
  refine sV (Ab rfl) ?_
  refine nx h7c fun h2d=>sV (Ab rfl) ?_
  refine wh h2d<|ws fun h3d=>ws fun h4d=>Ah<|sV3 (Aa rfl) (AD Au rfl) (Aa rfl) ?_
  refine wh h4d ?_
  obtain ⟨m0a,h5d,f6d⟩:=Ad f9c
  refine CG (fun l l' w'=>∃(A9a:OA) (c0b:Nat),Ext w w'∧OW 179 w.heap.size w' A9a m0a.2.length c0b m0a.2∧Fr l' (fun t1b=>gp t1b 0 5 (.slice A9a m0a.2.length c0b::.int .u64 m0a.1::gp t1b 7 41 []))) ?_ ?_
  ·apply wp_block
   refine Bp (fun l n5b l' w'=>∃(v1a:Int) (v4a:Int) (v3a:List Int) (A5a:OA) (c6a:Nat),Ext w w'∧OW 179 w.heap.size w' A5a v3a.length c6a v3a∧Ce x0 x1 n5b v1a v4a v3a=some m0a∧Fr l' (fun t7a=>gp t7a 0 1 (.int .i64 x1::gp t7a 2 3 (.slice A5a v3a.length c6a::.int .u64 v1a::gp t7a 7 14 (.slice A1 x0.length c2::.int .i64 (x0.length:Int)::.int .i64 v4a::gp t7a 24 24 []))))) 18446744073709551616 ?_ ?_ ?_
   ·exact ⟨0,0,(List.replicate ((wi64 (x1.tdiv 32)):Int).toNat (0:Int)),A0d,(((wi64 ((wi64 ((wi64 (x1.tdiv 32))+(x0.length:Int)))+1)):Int).toNat),E1d,(OW.nn ow4b),h5d,(Fr.mk (by simp only [OW.len ow4b];kernel_rfl))⟩
   ·rintro l' w' ⟨v1a,v4a,v3a,A5a,c6a,_,_,hz,_⟩
    exact nomatch hz
   ·rintro n5b ih7d _ w2 ⟨v1a,v4a,v3a,A5a,c6a,X2b,ow6b,hr7b,⟨t7a,rfl⟩⟩ l'' hl
    simp only [gp,Nat.reduceAdd] at hl
    subst hl
    unfold Ce at hr7b
    refine AW<|ws fun h8d=>Ah<|sbl (Bv rfl rfl) fun z8b hz8b=>?_
    refine wh h8d<|ws fun h9d=>?_
    rcases zi hz8b hr7b with ⟨e3b,_,f0e⟩ | ⟨e3b,_,f1e⟩
    ·refine ct e3b<|wp_skip<|h9d _ _<|ws fun h2e=>?_
     apply wp_block
     refine ws fun h3e=>Ah ?_
     obtain ⟨u2a,h4e,f5e⟩:=Ad f0e
     obtain ⟨bb335,oo336,hA6e,ia7e,ib8e,hc338⟩:=RL.nth (n3.ext X2b) h4e
     refine sV3 (AA Au Av rfl rfl hA6e ia7e ib8e) (Ag AZ rfl hc338) (Ab rfl) ?_
     refine nx h3e fun h9e=>sV3 (Aa rfl) (Aa rfl) (AO (c:=wu64 u2a) AQ AN rfl rfl) ?_
     refine sV2 (Aa rfl) (LD (c:=x1.tmod 32) (by decide) rfl rfl rfl) ?_
     obtain ⟨_,h0f,f1f⟩:=Ad f5e
     have gd345:=AI h0f
     refine sV3 (LQ (c:=wu64 ((wu64 u2a)*2^min ((x1.tmod 32):Int).toNat IntKind.u64.bits)) gd345 rfl rfl rfl) (Oq rfl rfl) (Ab rfl) ?_
     refine nx h9e fun h2f=>sV3 (Aa rfl) (Aa rfl) (AO (c:=wu32 (bor .u64 v1a (wu64 ((wu64 u2a)*2^min ((x1.tmod 32):Int).toNat IntKind.u64.bits)))) AN AQ rfl rfl) ?_
     refine Dj (vals:=[(0,.int .u32 (wu32 (bor .u64 v1a (wu64 ((wu64 u2a)*2^min ((x1.tmod 32):Int).toNat IntKind.u64.bits)))))]) (cs:=[.int .u32 (wu32 (bor .u64 v1a (wu64 ((wu64 u2a)*2^min ((x1.tmod 32):Int).toNat IntKind.u64.bits))))]) Au Av Jr (by rfl) (by decide) (by kernel_rfl) fun b3f w3 E9b g9h q4f=>?_
     refine nrm ?_
     have X0c:=xtr X2b E9b
     have n5f:RLu w3 (some ⟨b3f,0,none⟩) 1 [(wu32 (bor .u64 v1a (wu64 ((wu64 u2a)*2^min ((x1.tmod 32):Int).toNat IntKind.u64.bits))))]:=(OW.lit (n0:=0) (n:=1) (xs:=[(wu32 (bor .u64 v1a (wu64 ((wu64 u2a)*2^min ((x1.tmod 32):Int).toNat IntKind.u64.bits))))]) q4f (Nat.zero_le _) rfl (by decide)).rl
     obtain ⟨_,h6f,f7f⟩:=Ad f1f
     have gd355:=AI h6f
     refine MV Au ER rfl rfl rfl (ow6b.ext E9b) n5f gd355 X0c.size fun A8f c9f w4 B358 ow0g=>?_
     refine nrm ?_
     have X1g:=xO X0c B358 (Nat.le_refl _)
     refine sV (Ab rfl) ?_
     refine wh h2f<|Ah<|sV2 (Aa rfl) (IX (c:=(bor .u64 v1a (wu64 ((wu64 u2a)*2^min ((x1.tmod 32):Int).toNat IntKind.u64.bits))).fdiv (2^min (32:Int).toNat IntKind.u64.bits)) (by decide) rfl rfl rfl) ?_
     refine sV (Ab rfl) ?_
     refine wh h2e<|Ah<|sV2 (AV (c:=wi64 (v4a+1)) rfl rfl rfl) (Aa rfl) ?_
     refine AF ?_
     exact ih7d _ _ ⟨((bor .u64 v1a (wu64 ((wu64 u2a)*2^min ((x1.tmod 32):Int).toNat IntKind.u64.bits))).fdiv (2^min (32:Int).toNat IntKind.u64.bits)),(wi64 (v4a+1)),(v3a++([(wu32 (bor .u64 v1a (wu64 ((wu64 u2a)*2^min ((x1.tmod 32):Int).toNat IntKind.u64.bits))))]:List Int)),A8f,c9f,X1g,(OW.nn ow0g),f7f,(Fr.mk (by kernel_rfl))⟩
    ·refine cf e3b<|wp_exit ?_
     simp only [Exit.then,Exit.inBlock,↓reduceIte,Nat.reduceEqDiff]
     obtain rfl:=sj f1e
     exact ⟨_,rfl,A5a,c6a,X2b,(OW.nn ow6b),(Fr.mk (by kernel_rfl))⟩
  ·rintro _ w2 ⟨A9a,c0b,X2g,ow3g,⟨t1b,rfl⟩⟩ l'' hl
   simp only [gp,Nat.reduceAdd] at hl
   subst hl
   refine h3d _ _<|ws fun h4g=>Ah<|sV3 (Aa rfl) (Aa rfl) (AO (c:=wu32 m0a.1) AN AQ rfl rfl) ?_
   refine Dj (vals:=[(0,.int .u32 (wu32 m0a.1))]) (cs:=[.int .u32 (wu32 m0a.1)]) Au Av Jr (by rfl) (by decide) (by kernel_rfl) fun b5g w3 E1c g0i q6g=>?_
   refine nrm ?_
   have X2c:=xtr X2g E1c
   have n7g:RLu w3 (some ⟨b5g,0,none⟩) 1 [(wu32 m0a.1)]:=(OW.lit (n0:=0) (n:=1) (xs:=[(wu32 m0a.1)]) q6g (Nat.zero_le _) rfl (by decide)).rl
   obtain ⟨_,h8g,f9g⟩:=Ad f6d
   have gd370:=AI h8g
   refine MV Au ER rfl rfl rfl (ow3g.ext E1c) n7g gd370 X2c.size fun A0h c1h w4 B373 ow2h=>?_
   refine nrm ?_
   have X3c:=xO X2c B373 (Nat.le_refl _)
   refine scn f9g (Ac Lm (by rfl)) (DX (m0a.2++([(wu32 m0a.1)]:List Int)) A0h c1h w4 (tbx X3c hT) (OW.rl ow2h)) fun r1i f3h w5 A4h c5h E6h n7h=>?_
   have X8h:=xtr X3c E6h
   refine sV (Ab rfl) ?_
   refine wh h4g<|wp_ret ?_
   exact Bn f3h X8h ⟨A4h,c5h,rfl,n7h⟩
theorem Hc (x0:List Int) (x1:Int) (A1:OA) (c2:Nat) (w:World) (hT:TB w) (n3:RLu w A1 c2 x0) (r:List Int) (hr:Ct x0 x1=some r) :
  Calls prog 204 #[.slice A1 x0.length c2,.int .i64 x1] w (Ret Kz w r):=by
 unfold Ct at hr
 go_enter func204,ntmps204
 refine ws fun h4=>Ah<|sV (Ab rfl) ?_
 refine wh h4<|ws fun h5=>ws fun h6=>Ah<|sV2 (Aa rfl) (Ji (c:=wi64 (x1.tdiv 32)) (by decide) rfl rfl rfl) ?_
 refine sV2 (Aa rfl) (AD Au rfl) ?_
 refine sbl (Hb rfl rfl) fun z7 hz7=>?_
 refine wh h6 ?_
 rcases zi hz7 hr with ⟨e1b,_,f0e⟩ | ⟨e1b,_,f1e⟩
 ·refine ct e1b<|ws fun h2e=>Ah<|sV (Ab rfl) ?_
  refine wh h2e<|wp_ret ?_
  exact Bn f0e (Ext.refl _) ⟨none,0,rfl,(RL.nil _ _ _)⟩
 ·refine cf e1b<|wp_skip<|h5 _ _<|ws fun h3e=>Ah<|sV3 (Aa rfl) (Aa rfl) (Ji (c:=wi64 (x1.tdiv 32)) (by decide) rfl rfl rfl) ?_
  obtain ⟨_,h4e,f5e⟩:=Ad f1e
  have gd22:=AI h4e
  refine Pj (lo:=((wi64 (x1.tdiv 32)):Int).toNat) (hi:=x0.length) Au Av rfl ⟨.i64,by rw [Int.toNat_of_nonneg (a:=(wi64 (x1.tdiv 32))) (by omega)];rfl⟩ rfl (by omega) (by omega) n3 fun A2b c3b n0c=>?_
  refine nrm ?_
  refine sV (Ab rfl) ?_
  refine nx h3e fun h6e=>sV2 (Aa rfl) (AD Au rfl) ?_
  obtain ⟨_,h7e,f8e⟩:=Ad f5e
  have gd29:=AI h7e
  refine IH Au ER rfl rfl gd29 fun A4a w1 E9e ow0f=>?_
  refine nrm ?_
  refine sV (Ab rfl) ?_
  refine wh h6e<|ws fun h1f=>ws fun h2f=>Ah<|sV3 (Aa rfl) (AD Au rfl) (Aa rfl) ?_
  refine wh h2f ?_
  obtain ⟨m4b,h3f,f4f⟩:=Ad f8e
  refine CG (fun l l' w'=>Ext w w'∧OW 179 w.heap.size w' A4a (((List.length ((List.drop (((wi64 (x1.tdiv 32)):Int).toNat) x0).take (x0.length - (((wi64 (x1.tdiv 32)):Int).toNat))):Int):Int).toNat) (((List.length ((List.drop (((wi64 (x1.tdiv 32)):Int).toNat) x0).take (x0.length - (((wi64 (x1.tdiv 32)):Int).toNat))):Int):Int).toNat) m4b∧Fr l' (fun t5b=>gp t5b 0 5 (.slice A4a (((List.length ((List.drop (((wi64 (x1.tdiv 32)):Int).toNat) x0).take (x0.length - (((wi64 (x1.tdiv 32)):Int).toNat))):Int):Int).toNat) (((List.length ((List.drop (((wi64 (x1.tdiv 32)):Int).toNat) x0).take (x0.length - (((wi64 (x1.tdiv 32)):Int).toNat))):Int):Int).toNat)::gp t5b 6 56 []))) ?_ ?_
  ·apply wp_block
   refine Bp (fun l n1c l' w'=>∃(v2a:Int) (v7a:List Int) (t6a:Nat→Value),Ext w w'∧OW 179 w.heap.size w' A4a (((List.length ((List.drop (((wi64 (x1.tdiv 32)):Int).toNat) x0).take (x0.length - (((wi64 (x1.tdiv 32)):Int).toNat))):Int):Int).toNat) (((List.length ((List.drop (((wi64 (x1.tdiv 32)):Int).toNat) x0).take (x0.length - (((wi64 (x1.tdiv 32)):Int).toNat))):Int):Int).toNat) v7a∧Ek x0 x1 n1c v2a v7a=some m4b∧Fr l' (fun t0a=>.slice A2b (List.length ((List.drop (((wi64 (x1.tdiv 32)):Int).toNat) x0).take (x0.length - (((wi64 (x1.tdiv 32)):Int).toNat)))) c3b::.int .i64 x1::gp t0a 2 3 (.slice A4a (((List.length ((List.drop (((wi64 (x1.tdiv 32)):Int).toNat) x0).take (x0.length - (((wi64 (x1.tdiv 32)):Int).toNat))):Int):Int).toNat) (((List.length ((List.drop (((wi64 (x1.tdiv 32)):Int).toNat) x0).take (x0.length - (((wi64 (x1.tdiv 32)):Int).toNat))):Int):Int).toNat)::gp t0a 6 14 (.slice A2b (List.length ((List.drop (((wi64 (x1.tdiv 32)):Int).toNat) x0).take (x0.length - (((wi64 (x1.tdiv 32)):Int).toNat)))) c3b::.int .i64 (List.length ((List.drop (((wi64 (x1.tdiv 32)):Int).toNat) x0).take (x0.length - (((wi64 (x1.tdiv 32)):Int).toNat))):Int)::.int .i64 v2a::gp t0a 23 17 ((t6a 0)::(t6a 1)::(t6a 2)::gp t0a 43 19 []))))) 18446744073709551616 ?_ ?_ ?_
   ·exact ⟨0,(List.replicate ((List.length ((List.drop (((wi64 (x1.tdiv 32)):Int).toNat) x0).take (x0.length - (((wi64 (x1.tdiv 32)):Int).toNat))):Int):Int).toNat (0:Int)),(tk [uu,uu,uu]),E9e,ow0f,h3f,(Fr.mk (by kernel_rfl))⟩
   ·rintro l' w' ⟨v2a,v7a,t6a,_,_,hz,_⟩
    exact nomatch hz
   ·rintro n1c ih5f _ w2 ⟨v2a,v7a,t6a,X6b,ow8a,hr2c,⟨t0a,rfl⟩⟩ l'' hl
    simp only [gp,Nat.reduceAdd] at hl
    subst hl
    unfold Ek at hr2c
    refine AW<|ws fun h6f=>Ah<|sbl (Bv rfl rfl) fun z3c hz3c=>?_
    refine wh h6f<|ws fun h7f=>?_
    rcases zi hz3c hr2c with ⟨e7b,_,f8f⟩ | ⟨e7b,_,f9f⟩
    ·refine ct e7b<|wp_skip<|h7f _ _<|ws fun h0g=>?_
     apply wp_block
     refine ws fun h1g=>Ah<|sV (Aa rfl) ?_
     obtain ⟨u2g,h3g,f4g⟩:=Ad f8f
     obtain ⟨bb876,oo877,hA5g,ia6g,ib7g,hc879⟩:=RL.nth (n0c.ext X6b) h3g
     refine sV3 (AA Au Av rfl rfl hA5g ia6g ib7g) (Ag AZ rfl hc879) (Ab rfl) ?_
     refine sV (Ab rfl) ?_
     refine nx h1g fun h8g=>sV3 (Aa rfl) (Aa rfl) (Aa rfl) ?_
     refine sV2 (Aa rfl) (LD (c:=x1.tmod 32) (by decide) rfl rfl rfl) ?_
     obtain ⟨_,h9g,f0h⟩:=Ad f4g
     have gd886:=AI h9g
     refine sV (IX (c:=u2g.fdiv (2^min ((x1.tmod 32):Int).toNat IntKind.u32.bits)) gd886 rfl rfl rfl) ?_
     obtain ⟨u8k,h1h,f2h⟩:=Ad f0h
     obtain ⟨bb890,hA4c,hz9k,ia5c,ib6c,hc895⟩:=OW.nthc ow8a h1h
     refine sV (AA Au Av rfl rfl hA4c ia5c ib6c) ?_
     refine MW Av rfl rfl ow8a hA4c ia5c (by rw [OW.len ow8a];exact ib6c) fun w3 B896 U0l ow7c=>?_
     have X8c:=xO X6b B896 (Nat.le_refl _)
     refine nx h8g fun h3h=>sV3 (Aa rfl) (AV (c:=wi64 (v2a+1)) rfl rfl rfl) (Aa rfl) ?_
     refine sV (AD Au rfl) ?_
     refine sbl (Bv rfl rfl) fun z9c hz9c=>?_
     refine sV (Aa rfl) ?_
     obtain ⟨m4h,h5h,f6h⟩:=Ad f2h
     refine BH 10 (fun l l' w'=>∃(t5a:Nat→Value),w3=w'∧l'=((((l.set 40 (t5a 0)).set 41 (t5a 1)).set 42 (t5a 2)).set 43 (.bool m4h))) ?_ ?_
     ·intro HJ912
      rcases zi hz9c h5h with ⟨e3a,_,f7h⟩ | ⟨e3a,_,f8h⟩
      ·refine sV (Aa rfl) ?_ (hw:=wgT rfl e3a)
       refine sV (LD (c:=x1.tmod 32) (by decide) rfl rfl rfl) ?_ (hw:=wgT rfl e3a)
       refine sbl (Eh rfl rfl) (fun z8b hz8b=>?_) (hw:=wgT rfl e3a)
       refine sV (Az (evb rfl e3a) rfl) ?_
       obtain rfl:z8b=decide (0<(x1.tmod 32)):=bz hz8b
       obtain rfl:=sj f7h
       exact HJ912 _ _ ⟨(tk [.int .i64 x1,.int .i64 (x1.tmod 32),.bool (decide (0<(x1.tmod 32)))]),(by trivial),(by kernel_rfl)⟩
      ·refine sQ rfl e3a ?_
       refine sQ rfl e3a ?_
       refine sQ rfl e3a ?_
       refine sV (AE (evb rfl e3a) rfl) ?_
       obtain rfl:=sj f8h
       exact HJ912 _ _ ⟨(tk [uu,uu,uu]),(by trivial),(by kernel_rfl)⟩
     ·rintro l' _ ⟨t5a,rfl,rfl⟩ l'' hl
      simp only [S0,S1] at hl;subst hl
      refine wh h3h ?_
      obtain ⟨m0d,h9h,f0i⟩:=Ad f6h
      refine CG (fun l l' w'=>∃(t1a:Nat→Value),Ext w w'∧OW 179 w.heap.size w' A4a (((List.length ((List.drop (((wi64 (x1.tdiv 32)):Int).toNat) x0).take (x0.length - (((wi64 (x1.tdiv 32)):Int).toNat))):Int):Int).toNat) (((List.length ((List.drop (((wi64 (x1.tdiv 32)):Int).toNat) x0).take (x0.length - (((wi64 (x1.tdiv 32)):Int).toNat))):Int):Int).toNat) m0d∧l'=(((((((((((((((l.set 44 (t1a 0)).set 45 (t1a 1)).set 46 (t1a 2)).set 47 (t1a 3)).set 48 (t1a 4)).set 49 (t1a 5)).set 50 (t1a 6)).set 51 (t1a 7)).set 52 (t1a 8)).set 53 (t1a 9)).set 54 (t1a 10)).set 55 (t1a 11)).set 56 (t1a 12)).set 57 (t1a 13)).set 58 (t1a 14))) ?_ ?_
      ·rcases zb h9h with ⟨e9b,f1i⟩ | ⟨e9b,f2i⟩
       ·refine ct e9b<|DT [15] 16 mo rfl fun w4 E1d S2d=>have X3d:=xtr X8c E1d;dA 0 rfl (fun _=>Aa rfl) ?_
        refine dA 1 rfl (fun _=>Aa rfl) ?_
        obtain ⟨u4d,h3i,f4i⟩:=Ad f1i
        have q9a:=ow7c.ext E1d
        obtain ⟨bb982,hA5i,hz1l,ia6i,ib7i,hc987⟩:=OW.nthc q9a h3i
        refine dA 2 rfl (fun _=>AA Au Av rfl rfl hA5i ia6i ib7i) ?_
        refine dV 3 rfl (fun _ hw=>Ag AZ rfl (DS hc987 hw)) S2d ?_
        refine dA2 4 5 rfl rfl (fun _=>Aa rfl) (fun _=>Aa rfl) ?_
        refine dA 6 rfl (fun _=>AV (c:=wi64 (v2a+1)) rfl rfl rfl) ?_
        obtain ⟨u0b,h8i,f9i⟩:=Ad f4i
        obtain ⟨bb991,oo992,hA0j,ia1j,ib2j,hc994⟩:=RL.nth (n0c.ext X3d) h8i
        refine dA 7 rfl (fun _=>AA Au Av rfl rfl hA0j ia1j ib2j) ?_
        refine dV 8 rfl (fun _ hw=>Ag AZ rfl (DS hc994 hw)) S2d ?_
        refine dA2 9 10 rfl rfl (fun _=>Aa rfl) (fun _=>LD (c:=x1.tmod 32) (by decide) rfl rfl rfl) ?_
        refine dA 11 rfl (fun _=>Bt (c:=wi64 (32 - (x1.tmod 32))) rfl rfl rfl) ?_
        obtain ⟨_,h3j,f4j⟩:=Ad f9i
        have gd999:=AI h3j
        refine dA2 12 13 rfl rfl (fun _=>LQ (c:=wu32 (u0b*2^min ((wi64 (32 - (x1.tmod 32))):Int).toNat IntKind.u32.bits)) gd999 rfl rfl rfl) (fun _=>Oq rfl rfl) ?_
        obtain ⟨u2l,h5j,f6j⟩:=Ad f4j
        obtain ⟨bb1003,hA5d,hz3l,ia6d,ib7d,hc1008⟩:=OW.nthc q9a h5j
        refine dA 14 rfl (fun _=>AA Au Av rfl rfl hA5d ia6d ib7d) ?_
        refine dkO 15 rfl (by kernel_rfl) (by decide) (by rfl) Av rfl rfl q9a hA5d ia6d (by rw [OW.len q9a];exact ib7d) fun w5 B1009 U4l ow7j=>?_
        have X8j:=xO X3d B1009 (Nat.le_refl _)
        refine Cx (by kernel_rfl) ?_
        obtain rfl:=sj f6j
        exact ⟨_,rfl,(tk [.slice A4a (((List.length ((List.drop (((wi64 (x1.tdiv 32)):Int).toNat) x0).take (x0.length - (((wi64 (x1.tdiv 32)):Int).toNat))):Int):Int).toNat) (((List.length ((List.drop (((wi64 (x1.tdiv 32)):Int).toNat) x0).take (x0.length - (((wi64 (x1.tdiv 32)):Int).toNat))):Int):Int).toNat),.int .i64 v2a,.pointer (some ⟨bb982,0+(v2a:Int).toNat,none⟩),.int .u32 u4d,.slice A2b (List.length ((List.drop (((wi64 (x1.tdiv 32)):Int).toNat) x0).take (x0.length - (((wi64 (x1.tdiv 32)):Int).toNat)))) c3b,.int .i64 v2a,.int .i64 (wi64 (v2a+1)),.pointer (some ⟨bb991,oo992+((wi64 (v2a+1)):Int).toNat,none⟩),.int .u32 u0b,.int .i64 x1,.int .i64 (x1.tmod 32),.int .i64 (wi64 (32 - (x1.tmod 32))),.int .u32 (wu32 (u0b*2^min ((wi64 (32 - (x1.tmod 32))):Int).toNat IntKind.u32.bits)),.int .u32 (bor .u32 u4d (wu32 (u0b*2^min ((wi64 (32 - (x1.tmod 32))):Int).toNat IntKind.u32.bits))),.pointer (some ⟨bb1003,0+(v2a:Int).toNat,none⟩)]),X8j,ow7j,(by kernel_rfl)⟩
       ·refine cf e9b<|wp_skip ?_
        obtain rfl:=sj f2i
        exact ⟨_,rfl,(tk [t0a 44,t0a 45,t0a 46,t0a 47,t0a 48,t0a 49,t0a 50,t0a 51,t0a 52,t0a 53,t0a 54,t0a 55,t0a 56,t0a 57,t0a 58]),X8c,ow7c,(by kernel_rfl)⟩
      ·rintro l' w4 ⟨t1a,X9j,ow0k,rfl⟩ l'' hl
       simp only [S0,S1] at hl;subst hl
       refine h0g _ _<|Ah<|sV2 (AV (c:=wi64 (v2a+1)) rfl rfl rfl) (Aa rfl) ?_
       refine AF ?_
       exact ih5f _ _ ⟨(wi64 (v2a+1)),m0d,(tk [t5a 0,t5a 1,t5a 2]),X9j,ow0k,f0i,(Fr.mk (by kernel_rfl))⟩
    ·refine cf e7b<|wp_exit ?_
     simp only [Exit.then,Exit.inBlock,↓reduceIte,Nat.reduceEqDiff]
     obtain rfl:=sj f9f
     exact ⟨_,rfl,X6b,ow8a,(Fr.mk (by kernel_rfl))⟩
  ·rintro _ w2 ⟨X8d,ow9d,⟨t5b,rfl⟩⟩ l'' hl
   simp only [gp,Nat.reduceAdd] at hl
   subst hl
   refine h1f _ _<|ws fun h1k=>Ah<|sV (Aa rfl) ?_
   refine scn f4f (Ac Lm (by simp only [OW.len ow9d];rfl)) (DX m4b A4a (((List.length ((List.drop (((wi64 (x1.tdiv 32)):Int).toNat) x0).take (x0.length - (((wi64 (x1.tdiv 32)):Int).toNat))):Int):Int).toNat) w2 (tbx X8d hT) (OW.rl ow9d)) fun r5l f2k w3 A3k c4k E5k n6k=>?_
   have X7k:=xtr X8d E5k
   refine sV (Ab rfl) ?_
   refine wh h1k<|wp_ret ?_
   exact Bn f2k X7k ⟨A3k,c4k,rfl,n6k⟩
theorem c_wide_Nat_short (x0:List Int) (x1:Int) (A1:OA) (c2:Nat) (w:World) (hT:TB w) (n3:RLu w A1 c2 x0) (r:List Int × List Int) (hr:GY x0 x1=some r) :
  Calls prog 237 #[.slice A1 x0.length c2,.int .u32 x1] w (Ret MP w r):=by
 unfold GY at hr
 go_enter func237,ntmps237
 refine ws fun h4=>Ah<|sV2 (Ab rfl) (Ab rfl) ?_
 refine nx h4 fun h5=>sV2 (Aa rfl) (AD Au rfl) ?_
 obtain ⟨_,h6,f7⟩:=Ad hr
 have gd8:=AI h6
 refine IH Au ER rfl rfl gd8 fun A9 w1 E2c ow3c=>?_
 refine nrm ?_
 refine sV (Ab rfl) ?_
 refine nx h5 fun h4c=>sV (Ab rfl) ?_
 refine wh h4c<|ws fun h5c=>ws fun h6c=>Ah<|sV3 (Aa rfl) (AD Au rfl) (Bt (c:=wi64 ((x0.length:Int) - 1)) rfl rfl rfl) ?_
 refine sV (Ab rfl) ?_
 refine wh h6c ?_
 obtain ⟨m3a,h7c,f8c⟩:=Ad f7
 refine CG (fun l l' w'=>Ext w w'∧OW 179 w.heap.size w' A9 (((x0.length:Int):Int).toNat) (((x0.length:Int):Int).toNat) m3a.2∧Fr l' (fun t5a=>gp t5a 0 6 (.slice A9 (((x0.length:Int):Int).toNat) (((x0.length:Int):Int).toNat)::.int .u64 m3a.1::gp t5a 8 35 []))) ?_ ?_
 ·apply wp_block
  refine Bp (fun l n0b l' w'=>∃(v0a:Int) (v1a:Int) (v4a:List Int),Ext w w'∧OW 179 w.heap.size w' A9 (((x0.length:Int):Int).toNat) (((x0.length:Int):Int).toNat) v4a∧BU x0 x1 n0b v0a v1a v4a=some m3a∧Fr l' (fun t6a=>.slice A1 x0.length c2::.int .u32 x1::gp t6a 2 4 (.slice A9 (((x0.length:Int):Int).toNat) (((x0.length:Int):Int).toNat)::.int .u64 v0a::.int .i64 v1a::gp t6a 9 34 []))) 18446744073709551616 ?_ ?_ ?_
  ·exact ⟨0,(wi64 ((x0.length:Int) - 1)),(List.replicate ((x0.length:Int):Int).toNat (0:Int)),E2c,ow3c,h7c,(Fr.mk (by kernel_rfl))⟩
  ·rintro l' w' ⟨v0a,v1a,v4a,_,_,hz,_⟩
   exact nomatch hz
  ·rintro n0b ih9c _ w2 ⟨v0a,v1a,v4a,X7a,ow1b,hr2b,⟨t6a,rfl⟩⟩ l'' hl
   simp only [gp,Nat.reduceAdd] at hl
   subst hl
   unfold BU at hr2b
   refine AW<|ws fun h0d=>ws fun h1d=>Ah<|sV (Aa rfl) ?_
   refine sbl (Hb rfl rfl) fun z3b hz3b=>?_
   refine wh h1d ?_
   rcases zi hz3b hr2b with ⟨e8a,_,f2d⟩ | ⟨e8a,_,f3d⟩
   ·refine ct e8a<|wp_skip<|h0d _ _<|ws fun h4d=>?_
    apply wp_block
    refine ws fun h5d=>Ah<|sV2 (Aa rfl) (LQ (c:=wu64 (v0a*2^min (32:Int).toNat IntKind.u64.bits)) (by decide) rfl rfl rfl) ?_
    refine sV2 (Aa rfl) (Aa rfl) ?_
    obtain ⟨u2a,h6d,f7d⟩:=Ad f2d
    obtain ⟨bb320,oo321,hA8d,ia9d,ib0e,hc323⟩:=RL.nth (n3.ext X7a) h6d
    refine sV3 (AA Au Av rfl rfl hA8d ia9d ib0e) (Ag AZ rfl hc323) (AO (c:=wu64 u2a) AQ AN rfl rfl) ?_
    refine sV2 (Oq rfl rfl) (Ab rfl) ?_
    refine wh h5d<|DT [12] 14 mo rfl fun w3 E4b S1g=>have X1e:=xtr X7a E4b;dA 0 rfl (fun _=>Aa rfl) ?_
    refine dA2 1 2 rfl rfl (fun _=>Aa rfl) (fun _=>Aa rfl) ?_
    refine dA2 3 4 rfl rfl (fun _=>Aa rfl) (fun _=>AO (c:=wu64 x1) AQ AN rfl rfl) ?_
    obtain ⟨_,h2e,f3e⟩:=Ad f7d
    have gd332:=AI h2e
    refine dA2 5 6 rfl rfl (fun _=>Ji (c:=wu64 ((bor .u64 (wu64 (v0a*2^min (32:Int).toNat IntKind.u64.bits)) (wu64 u2a)).tdiv (wu64 x1))) (decide_eq_true gd332) rfl rfl rfl) (fun _=>AO (c:=wu32 (wu64 ((bor .u64 (wu64 (v0a*2^min (32:Int).toNat IntKind.u64.bits)) (wu64 u2a)).tdiv (wu64 x1)))) AN AQ rfl rfl) ?_
    refine dA2 7 8 rfl rfl (fun _=>Aa rfl) (fun _=>Aa rfl) ?_
    refine dA 9 rfl (fun _=>AO (c:=wu64 x1) AQ AN rfl rfl) ?_
    obtain ⟨_,h4e,f5e⟩:=Ad f3e
    have gd335:=AI h4e
    refine dA 10 rfl (fun _=>LD (c:=(bor .u64 (wu64 (v0a*2^min (32:Int).toNat IntKind.u64.bits)) (wu64 u2a)).tmod (wu64 x1)) (decide_eq_true gd335) rfl rfl rfl) ?_
    obtain ⟨u2g,h6e,f7e⟩:=Ad f5e
    have q9a:=ow1b.ext E4b
    obtain ⟨bb339,hA5b,hz3g,ia6b,ib7b,hc344⟩:=OW.nthc q9a h6e
    refine dA 11 rfl (fun _=>AA Au Av rfl rfl hA5b ia6b ib7b) ?_
    refine dkO 12 rfl (by kernel_rfl) (by decide) (by rfl) Av rfl rfl q9a hA5b ia6b (by rw [OW.len q9a];exact ib7b) fun w4 B345 U4g ow8e=>?_
    have X9e:=xO X1e B345 (Nat.le_refl _)
    refine dA 13 rfl (fun _=>Ab rfl) ?_
    refine Cx (by kernel_rfl) ?_
    refine h4d _ _<|Ah<|sV3 (Aa rfl) (Bt (c:=wi64 (v1a - 1)) rfl rfl rfl) (Ab rfl) ?_
    refine AF ?_
    exact ih9c _ _ ⟨((bor .u64 (wu64 (v0a*2^min (32:Int).toNat IntKind.u64.bits)) (wu64 u2a)).tmod (wu64 x1)),(wi64 (v1a - 1)),(List.set v4a (v1a:Int).toNat (wu32 (wu64 ((bor .u64 (wu64 (v0a*2^min (32:Int).toNat IntKind.u64.bits)) (wu64 u2a)).tdiv (wu64 x1))))),X9e,ow8e,f7e,(Fr.mk (by kernel_rfl))⟩
   ·refine cf e8a<|wp_exit ?_
    simp only [Exit.then,Exit.inBlock,↓reduceIte,Nat.reduceEqDiff]
    obtain rfl:=sj f3d
    exact ⟨_,rfl,X7a,ow1b,(Fr.mk (by kernel_rfl))⟩
 ·rintro _ w2 ⟨X8b,ow9b,⟨t5a,rfl⟩⟩ l'' hl
  simp only [gp,Nat.reduceAdd] at hl
  subst hl
  refine h5c _ _<|ws fun h0f=>Ah<|sV (Aa rfl) ?_
  refine scn f8c (Ac Lm (by simp only [OW.len ow9b];rfl)) (DX m3a.2 A9 (((x0.length:Int):Int).toNat) w2 (tbx X8b hT) (OW.rl ow9b)) fun r5g f1f w3 A2f c3f E4f n5f=>?_
  have X0c:=xtr X8b E4f
  refine sV (Aa rfl) ?_
  refine scn f1f (Ac en_265 (by rfl)) (c_wide_Of m3a.1 w3 (tbx X0c hT)) fun r6g f6f w4 A7f c8f E1c n9f=>?_
  have X0g:=xtr X0c E1c
  refine sV2 (Ab rfl) (Ab rfl) ?_
  refine wh h0f<|wp_ret ?_
  exact Gd f6f rfl (Res.tmp rfl (Res.tmp rfl Res.nil)) (AJ X0g ⟨A2f,c3f,A7f,c8f,rfl,(n5f.ext E1c),n9f⟩)
end Go.Proofs.Lf

