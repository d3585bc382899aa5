import Derived.Test.YtabiobmfelafoaaGreatDoorGen4
namespace Go.Proofs
set_option linter.unusedVariables false
set_option linter.unusedSimpArgs false
set_option maxHeartbeats 4000000
open Go.RowKit Go.Sb Go.Proofs.Sbn
theorem c_sorobanlaw04_lightRat (x0:EQ) (A1:Option Addr) (c2:Nat) (A4:Option Addr) (c5:Nat) (w:World) (hT:TB w) (n3:RLu w A1 c2 x0.Num.Abs) (n6:RLu w A4 c5 x0.Den) (r:Bool) (hr:DD x0=some r) :
  Calls Tryz.prog 53 #[.agg #[.bool x0.Num.Neg,.slice A1 x0.Num.Abs.length c2,.slice A4 x0.Den.length c5]] w (Ret Fe w r):=by
 unfold DD at hr
 go_enter Tryz.func53,Tryz.ntmps53
 refine wp_seq_k fun K7 h7=>Ae<|Ch rfl rfl fun b8 w1 E9 g6b q3a=>?_
 refine nrm ?_
 refine sV (Ac rfl) ?_
 refine Ad<|h7 _ _<|wp_seq_k fun K4a h4a=>Ae<|sV (Ah (o':=0) GF rfl rfl) ?_
 refine sV (Ah (o':=1) Dn rfl rfl) ?_
 refine sV (Ag CW rfl (Bx.cell q3a rfl)) ?_
 refine sV (Ax AP rfl) ?_
 refine sb (FZ rfl rfl) fun z1a hz1a=>?_
 refine nrm ?_
 refine sV (Aa rfl) ?_
 obtain ⟨m0b,h5a,f1b⟩:=Ab hr
 refine BB 11 (fun l l' w'=>∃(t6a:Value) (t7a:Value) (t8a:Value) (t9a:Value),w1=w'∧l'=(((((l.set 9 t6a).set 10 t7a).set 11 t8a).set 12 t9a).set 13 (.bool m0b))) ?_ ?_
 ·intro HJ28
  rcases bft z1a with e0a | e0a
  ·have p2b:=zP hz1a e0a
   have f3b:=ifP p2b h5a
   refine sV (Ah (o':=2) GZ rfl rfl) ?_ (hw:=wgT rfl e0a)
   refine sV (Ag CW rfl (Bx.cell q3a rfl)) ?_ (hw:=wgT rfl e0a)
   refine sV (Ax AP rfl) ?_ (hw:=wgT rfl e0a)
   refine sb (FZ rfl rfl) ?_ (hw:=wgT rfl e0a)
   intro z2a hz2a
   refine nrm ?_
   refine sV (Aw (evb rfl e0a) rfl) ?_
   obtain rfl:z2a=decide ((x0.Den.length:Int)≤60):=bz hz2a
   obtain rfl:=sj f3b
   exact HJ28 _ _ ⟨(.pointer (some ⟨b8,2,none⟩)),(.slice A4 x0.Den.length c5),(.int .i64 (x0.Den.length:Int)),(.bool (decide ((x0.Den.length:Int)≤60))),rfl,(by simp only [S0,S1]<;>rfl)⟩
  ·have p4b:=zN hz1a e0a
   have f5b:=ifN p4b h5a
   refine sP ?_ (hw:=wgF rfl e0a)
   refine sP ?_ (hw:=wgF rfl e0a)
   refine sP ?_ (hw:=wgF rfl e0a)
   refine sP ?_ (hw:=wgF rfl e0a)
   refine sV (AB (evb rfl e0a) rfl) ?_
   obtain rfl:=sj f5b
   exact HJ28 _ _ ⟨uu,uu,uu,uu,rfl,(by simp only [S0,S1]<;>rfl)⟩
 ·rintro l' _ ⟨t6a,t7a,t8a,t9a,rfl,hq'⟩ l'' hl
  rw [hq'] at hl
  clear hq'
  simp only [S0,S1] at hl
  subst hl
  refine sV (Ac rfl) ?_
  refine Ad<|h4a _ _<|wp_ret ?_
  obtain rfl:=sj f1b
  exact fin rfl (Res.tmp rfl Res.nil) (Ak E9 rfl)
theorem c_sorobanref03_IsDir (x0:Int) (w:World) (hT:TB w) (r:Bool) (hr:Du x0=some r) :
  Calls Tryz.prog 54 #[.int .i64 x0] w (Ret Fe w r):=by
 unfold Du at hr
 go_enter Tryz.func54,Tryz.ntmps54
 refine wp_seq_k fun K1 h1=>Ae<|sV (Ac rfl) ?_
 refine Ad<|h1 _ _<|wp_seq_k fun K2 h2=>Ae<|sV (Aa rfl) ?_
 refine sb (Fl rfl rfl) fun z3 hz3=>?_
 refine nrm ?_
 refine sV (Aa rfl) ?_
 obtain ⟨m5a,h2a,f6a⟩:=Ab hr
 refine BB 6 (fun l l' w'=>∃(t3a:Value) (t4a:Value),w=w'∧l'=(((l.set 6 t3a).set 7 t4a).set 8 (.bool m5a))) ?_ ?_
 ·intro HJ16
  rcases bft z3 with e0a | e0a
  ·have p7a:=zP hz3 e0a
   have f8a:=ifP p7a h2a
   refine sV (Aa rfl) ?_ (hw:=wgT rfl e0a)
   refine sb (FZ rfl rfl) ?_ (hw:=wgT rfl e0a)
   intro z1a hz1a
   refine nrm ?_
   refine sV (Aw (evb rfl e0a) rfl) ?_
   obtain rfl:z1a=decide (x0≤5):=bz hz1a
   obtain rfl:=sj f8a
   exact HJ16 _ _ ⟨(.int .i64 x0),(.bool (decide (x0≤5))),rfl,(by simp only [S0,S1]<;>rfl)⟩
  ·have p9a:=zN hz3 e0a
   have f0b:=ifN p9a h2a
   refine sP ?_ (hw:=wgF rfl e0a)
   refine sP ?_ (hw:=wgF rfl e0a)
   refine sV (AB (evb rfl e0a) rfl) ?_
   obtain rfl:=sj f0b
   exact HJ16 _ _ ⟨uu,uu,rfl,(by simp only [S0,S1]<;>rfl)⟩
 ·rintro l' _ ⟨t3a,t4a,rfl,hq'⟩ l'' hl
  rw [hq'] at hl
  clear hq'
  simp only [S0,S1] at hl
  subst hl
  refine sV (Ac rfl) ?_
  refine Ad<|h2 _ _<|wp_ret ?_
  obtain rfl:=sj f6a
  exact fin rfl (Res.tmp rfl Res.nil) (Ak (Ext.refl _) rfl)
theorem c_nat_Gcd_1 (x0:Nat) (x1:Nat) (A1:Option Addr) (c2:Nat) (A4:Option Addr) (c5:Nat) (w:World) (hT:TB w) (n3:RU w A1 c2 x0) (n6:RU w A4 c5 x1) (r:Nat) (hr:Hv x0 x1=some r) :
  Calls Tryz.prog 243 #[.slice A1 (sz x0) c2,.slice A4 (sz x1) c5] w (Ret KH w r):=by
 unfold Hv at hr
 go_enter Tryz.func243,Tryz.ntmps243
 refine wp_seq_k fun K7 h7=>Ae<|sV (Ac rfl) ?_
 refine Ad<|h7 _ _<|wp_seq_k fun K8 h8=>?_
 obtain ⟨m7b,h8c,f9c⟩:=Ab hr
 refine BZ (fun l l' w'=>∃(A3b:Option Addr) (c4b:Nat) (t1a:Nat→Value),Ext w w'∧RU w' A3b c4b m7b∧l'=(((((((((((((((l.set 0 (.slice A3b (sz m7b) c4b)).set 1 (t1a 0)).set 5 (t1a 1)).set 6 (t1a 2)).set 7 (t1a 3)).set 8 (t1a 4)).set 9 (t1a 5)).set 10 (t1a 6)).set 11 (t1a 7)).set 12 (t1a 8)).set 13 (t1a 9)).set 14 (t1a 10)).set 15 (t1a 11)).set 16 (t1a 12)).set 17 (t1a 13))) ?_ ?_
 ·apply wp_block
  refine AR (fun l n0c l' w'=>∃(v6a:Nat) (v2a:Nat) (A7a:Option Addr) (c8a:Nat) (A3a:Option Addr) (c4a:Nat) (t0a:Nat→Value),Ext w w'∧RU w' A7a c8a v6a∧RU w' A3a c4a v2a∧Ed x0 x1 n0c v6a v2a=some m7b∧l'=(((((((((((((((l.set 0 (.slice A7a (sz v6a) c8a)).set 1 (.slice A3a (sz v2a) c4a)).set 5 (t0a 0)).set 6 (t0a 1)).set 7 (t0a 2)).set 8 (t0a 3)).set 9 (t0a 4)).set 10 (t0a 5)).set 11 (t0a 6)).set 12 (t0a 7)).set 13 (t0a 8)).set 14 (t0a 9)).set 15 (t0a 10)).set 16 (t0a 11)).set 17 (t0a 12))) 18446744073709551616 ?_ ?_ ?_
  ·exact ⟨x0,x1,A1,c2,A4,c5,(tk [uu,uu,uu,uu,uu,uu,uu,uu,uu,uu,uu,uu,uu]),(Ext.refl _),n3,n6,h8c,(by simp only [S0,S1]<;>rfl)⟩
  ·rintro l' w' ⟨v6a,v2a,A7a,c8a,A3a,c4a,t0a,_,_,_,hz,_⟩
   exact nomatch hz
  ·rintro n0c ih0d l' w1 ⟨v6a,v2a,A7a,c8a,A3a,c4a,t0a,U8b,n1c,n2c,hr9b,hq'⟩ l'' hl
   rw [hq'] at hl
   clear hq'
   simp only [S0,S1] at hl
   subst hl
   unfold Ed at hr9b
   refine Ba<|wp_seq_k fun K3c h3c=>wp_seq_k fun K4c h4c=>Ae<|sV (Aa rfl) ?_
   refine sV (Ax AU rfl) ?_
   refine sb (Eu rfl rfl) fun z9a hz9a=>?_
   refine nrm ?_
   refine Ad<|h4c _ _ ?_
   rcases bft z9a with e2b | e2b
   ·have p1d:=zP hz9a e2b
    have f2d:=ifP p1d hr9b
    refine wp_cond_true (Ai (evb rfl e2b))<|wp_skip<|h3c _ _ ?_
    apply wp_block
    refine wp_seq_k fun K5c h5c=>Ae<|sV (Aa rfl) ?_
    refine sV (Aa rfl) ?_
    obtain ⟨r5a,h3d,f4d⟩:=Ab f2d
    refine sc (Af en_244 (by rfl)) (Hj v6a v2a A7a c8a A3a c4a w1 (tbx U8b hT) n1c n2c r5a h3d) ?_
    rintro _ w2 E6c ⟨A5b,c6b,A0b,c1b,rfl,n0e,n5d⟩
    refine nrm ?_
    refine sV (Aa rfl) ?_
    refine sV (AK rfl rfl) ?_
    refine sV (AK rfl rfl) ?_
    refine sV (Ac rfl) ?_
    refine sV (Ac rfl) ?_
    refine Ad<|h5c _ _<|Ae<|sV (Aa rfl) ?_
    refine sV (Aa rfl) ?_
    refine sV (Ac rfl) ?_
    refine sV (Ac rfl) ?_
    refine Ad ?_
    exact ih0d _ _ ⟨v2a,r5a.2,A3a,c4a,A0b,c1b,(tk [.slice A5b (sz r5a.1) c6b,.slice A0b (sz r5a.2) c1b,.slice A3a (sz v2a) c4a,.int .i64 (sz v2a:Int),.bool z9a,.tuple #[.slice A5b (sz r5a.1) c6b,.slice A0b (sz r5a.2) c1b],.slice A7a (sz v6a) c8a,.slice A3a (sz v2a) c4a,.tuple #[.slice A5b (sz r5a.1) c6b,.slice A0b (sz r5a.2) c1b],.slice A5b (sz r5a.1) c6b,.slice A0b (sz r5a.2) c1b,.slice A3a (sz v2a) c4a,.slice A0b (sz r5a.2) c1b]),(U8b.trans E6c),(n2c.ext E6c),n5d,f4d,(by simp only [S0,S1]<;>rfl)⟩
   ·have p6d:=zN hz9a e2b
    have f7d:=ifN p6d hr9b
    refine wp_cond_false (Ai (evb rfl e2b))<|wp_exit ?_
    simp only [Exit.then,Exit.inBlock,↓reduceIte,Nat.reduceEqDiff]
    obtain rfl:=sj f7d
    exact ⟨_,rfl,A7a,c8a,(tk [.slice A3a (sz v2a) c4a,t0a 0,t0a 1,.slice A3a (sz v2a) c4a,.int .i64 (sz v2a:Int),.bool z9a,t0a 5,t0a 6,t0a 7,t0a 8,t0a 9,t0a 10,t0a 11,t0a 12]),U8b,n1c,(by simp only [S0,S1]<;>rfl)⟩
 ·rintro l' w1 ⟨A3b,c4b,t1a,U8d,n9d,hq'⟩ l'' hl
  rw [hq'] at hl
  clear hq'
  simp only [S0,S1] at hl
  subst hl
  refine h8 _ _<|wp_seq_k fun K7c h7c=>Ae<|sV (Aa rfl) ?_
  refine sV (Ac rfl) ?_
  refine Ad<|h7c _ _<|wp_ret ?_
  obtain rfl:=sj f9c
  exact fin rfl (Res.tmp rfl Res.nil) (Ak U8d ⟨A3b,c4b,rfl,n9d⟩)
theorem c_nat_multiplied__nat_Gcd_1__nil (x0:Nat) (x1:Nat) (A1:Option Addr) (c2:Nat) (A4:Option Addr) (c5:Nat) (w:World) (hT:TB w) (n3:RU w A1 c2 x0) (n6:RU w A4 c5 x1) (r:Nat × Int) (hr:CG x0 x1=some r) :
  Calls Tryz.prog 242 #[.slice A1 (sz x0) c2,.slice A4 (sz x1) c5,.agg #[.func (.func 243) #[] #[],.nilFunc]] w (Ret Ln w r):=by
 unfold CG at hr
 obtain ⟨q0,hq0,hr0⟩:=Ab hr
 unfold DF at hq0
 go_enter_defers Tryz.func242,Tryz.ntmps242
 refine wp_seq_k fun K7 h7=>Ae<|Ch rfl rfl fun b8 w1 E9 g1e q4c=>?_
 refine nrm ?_
 refine sV (Ac rfl) ?_
 refine AE KN fun b5c w2 E1b g6c q7c=>?_
 refine nrm ?_
 have g8c:=nlt E9.size g6c
 have X2b:=xtr E9 E1b
 refine Ad<|h7 _ _<|wp_seq_k fun K3b h3b=>Ae<|JF (vs:=[.pointer (some ⟨b5c,0,none⟩)]) (by rfl) (by rfl)<|Ad<|h3b _ _<|wp_seq_k fun K4b h4b=>Ae<|sV (Aa rfl) ?_
 refine sV (Aa rfl) ?_
 refine DI (vals:=[(0,.slice A1 (sz x0) c2),(1,.slice A4 (sz x1) c5)]) (cs:=[.slice A1 (sz x0) c2,.slice A4 (sz x1) c5]) LI Nj zt_23 (by rfl) (by decide) (by kernel_rfl) fun b5b w3 E3a g9c q6b=>?_
 refine nrm ?_
 have g2e:=nlt X2b.size g9c
 have X0a:=xtr X2b E3a
 rcases BR hq0 with ⟨r4a,h5a,f0d⟩ | ⟨r4a,h5a,rfl⟩
 ·refine scO (Af Ni (by rfl)) (Jb x0 x1 b5b A1 c2 A4 c5 w3 (tbx X0a hT) (n3.ext X0a) (n6.ext X0a) q6b (.ok r4a) h5a) ?_
  rintro _ w4 E1a rfl
  refine nrm ?_
  have X2a:=xtr X0a E1a
  refine Ad<|h4b _ _<|wp_seq_k fun K7b h7b=>Ae<|sV (Ah (o':=0) fa_252_0 rfl rfl) ?_
  have q1d:=((q4c.ext E1b).ext E3a).ext E1a
  refine sV (Ag fl_249 rfl (Bx.cell q1d rfl)) ?_
  refine sV (Aa rfl) ?_
  refine sV (Aa rfl) ?_
  obtain ⟨r6a,h2d,f3d⟩:=Ab f0d
  refine sc (Hs (first:=[]) (cap:=[]) (args:=[.slice A1 (sz x0) c2,.slice A4 (sz x1) c5]) en_243 (by rfl) (by rfl)) (c_nat_Gcd_1 x0 x1 A1 c2 A4 c5 w4 (tbx X2a hT) (n3.ext X2a) (n6.ext X2a) r6a h2d) ?_
  rintro _ w5 E8b ⟨A9b,c0c,rfl,n1c⟩
  refine nrm ?_
  have X7a:=xtr X2a E8b
  rcases BR f3d with ⟨r8a,h9a,f4d⟩ | ⟨r8a,h9a,rfl⟩
  ·refine scO (Af NX (by rfl)) (Kz r6a A9b c0c w5 (tbx X7a hT) n1c (.ok r8a) h9a) ?_
   rintro _ w6 E0b ⟨A5d,c6d,rfl,n7d⟩
   refine nrm ?_
   have X8d:=xtr X7a E0b
   refine sV (Ac rfl) ?_
   have q2c:=(((q7c.ext E3a).ext E1a).ext E8b).ext E0b
   refine AA JA rfl rfl q2c rfl rfl rfl rfl (by simp only [SP0,SP1,S0,S1,Nat.reduceAdd];rfl) fun w7 U3c q9d=>?_
   have X0e:=belU X8d U3c g8c
   refine Ad<|h7b _ _<|wp_ret ?_
   obtain rfl:=sj f4d
   obtain rfl:=sj hr0
   exact finD1 idle_nat_caught en_222 rfl (Res.tmp rfl (Res.cell1 rfl EG (Bx.cell q9d rfl) Res.nil)) (Ak X0e ⟨A5d,c6d,rfl,(n7d.upd U3c q2c (by decide))⟩)
  ·refine scP (Af NX (by rfl)) (Kz r6a A9b c0c w5 (tbx X7a hT) n1c (.error r8a) h9a) fun w6 E0b=>?_
   cases hr0
 ·refine scP (Af Ni (by rfl)) (Jb x0 x1 b5b A1 c2 A4 c5 w3 (tbx X0a hT) (n3.ext X0a) (n6.ext X0a) q6b (.error r4a) h5a) fun w4 E1a=>?_
  cases hr0
theorem c_nat_Gcd (x0:Nat) (x1:Nat) (A1:Option Addr) (c2:Nat) (A4:Option Addr) (c5:Nat) (w:World) (hT:TB w) (n3:RU w A1 c2 x0) (n6:RU w A4 c5 x1) (r:Nat × Int) (hr:Iz x0 x1=some r) :
  Calls Tryz.prog 209 #[.slice A1 (sz x0) c2,.slice A4 (sz x1) c5] w (Ret Ln w r):=by
 unfold Iz at hr
 go_enter Tryz.func209,Tryz.ntmps209
 refine wp_seq_k fun K7 h7=>Ae<|sV (Ac rfl) ?_
 refine sV (Ac rfl) ?_
 refine Ad<|h7 _ _<|wp_seq_k fun K8 h8=>Ae<|sV (Aa rfl) ?_
 refine sV (Aa rfl) ?_
 refine sV (Bi (vals:=[(0,.func (.func 243) #[] #[])]) (cells:=[.func (.func 243) #[] #[],.nilFunc]) (by rfl) (by kernel_rfl)) ?_
 obtain ⟨r9,h0a,f1a⟩:=Ab hr
 refine sc (Af en_242 (by rfl)) (c_nat_multiplied__nat_Gcd_1__nil x0 x1 A1 c2 A4 c5 w hT n3 n6 r9 h0a) ?_
 rintro _ w1 E2a ⟨A3a,c4a,rfl,n5a⟩
 refine nrm ?_
 refine sV (AK rfl rfl) ?_
 refine sV (AK rfl rfl) ?_
 refine sV (Ac rfl) ?_
 refine sV (Ac rfl) ?_
 refine Ad<|h8 _ _<|wp_ret ?_
 obtain rfl:=sj f1a
 exact fin rfl (Res.tmp rfl (Res.tmp rfl Res.nil)) (Ak E2a ⟨A3a,c4a,rfl,n5a⟩)
theorem c_ratio_Valid (x0:EQ) (A1:Option Addr) (c2:Nat) (A4:Option Addr) (c5:Nat) (w:World) (hT:TB w) (n3:RLu w A1 c2 x0.Num.Abs) (n6:RLu w A4 c5 x0.Den) (r:Bool) (hr:Fj x0=some r) :
  Calls Tryz.prog 141 #[.agg #[.bool x0.Num.Neg,.slice A1 x0.Num.Abs.length c2,.slice A4 x0.Den.length c5]] w (Ret Fe w r):=by
 unfold Fj at hr
 go_enter Tryz.func141,Tryz.ntmps141
 refine wp_seq_k fun K7 h7=>Ae<|Ch rfl rfl fun b8 w1 E9 g9j q5a=>?_
 refine nrm ?_
 refine sV (Ac rfl) ?_
 refine Ad<|h7 _ _<|wp_seq_k fun K9b h9b=>wp_seq_k fun K0c h0c=>Ae<|sV (Ah (o':=0) GF rfl rfl) ?_
 refine sV (AL Ig rfl q5a (by simp only [List.drop_zero,List.take_succ_cons,List.take_zero];rfl) rfl) ?_
 obtain ⟨r3f,h4f,f5f⟩:=Ab hr
 refine sc (Af Mi (by rfl)) (Iu x0.Num A1 c2 w1 (tbx E9 hT) (n3.ext E9) r3f h4f) ?_
 rintro _ w2 E6a rfl
 refine nrm ?_
 have X9a:=xtr E9 E6a
 refine sb (FD rfl) fun z0b hz0b=>?_
 refine nrm ?_
 refine sV (Aa rfl) ?_
 obtain ⟨m1c,h2c,f6f⟩:=Ab f5f
 refine BB 10 (fun l l' w'=>∃(t3c:Value) (t4c:Value) (t5c:Value) (t6c:Value),UpdS [] w2 w'∧l'=(((((l.set 10 t3c).set 11 t4c).set 12 t5c).set 13 t6c).set 14 (.bool m1c))) ?_ ?_
 ·intro HJ39
  rcases bft z0b with e0a | e0a
  ·have p7f:=zP hz0b e0a
   have f8f:=ifP p7f h2c
   refine sP ?_ (hw:=wgF rfl e0a)
   refine sP ?_ (hw:=wgF rfl e0a)
   refine sP ?_ (hw:=wgF rfl e0a)
   refine sP ?_ (hw:=wgF rfl e0a)
   refine sV (Aw (evb rfl e0a) rfl) ?_
   obtain rfl:=sj f8f
   exact HJ39 _ _ ⟨uu,uu,uu,uu,(UpdS.refl _ _),(by simp only [S0,S1]<;>rfl)⟩
  ·have p9f:=zN hz0b e0a
   have f0g:=ifN p9f h2c
   refine sV (Ah (o':=2) GZ rfl rfl) ?_ (hw:=wgT rfl e0a)
   refine sV (Ag CW rfl (Bx.cell (q5a.ext E6a) rfl)) ?_ (hw:=wgT rfl e0a)
   obtain ⟨r1b,h1g,f2g⟩:=Ab f0g
   refine sc (Af MD (by rfl)) (Ht x0.Den A4 c5 w2 (tbx X9a hT) (n6.ext X9a) r1b h1g) ?_ (hw:=wgT rfl e0a)
   rintro _ w3 E3g rfl
   refine nrm ?_
   refine sb (FD rfl) ?_ (hw:=wgT rfl e0a)
   intro z4b hz4b
   refine nrm ?_
   refine sV (AB (evb rfl e0a) rfl) ?_
   obtain rfl:z4b=decide (¬(r1b=true)):=bz hz4b
   obtain rfl:=sj f2g
   exact HJ39 _ _ ⟨(.pointer (some ⟨b8,2,none⟩)),(.slice A4 x0.Den.length c5),(.bool r1b),(.bool (decide (¬(r1b=true)))),((UpdS.refl _ _).ext E3g),(by simp only [S0,S1]<;>rfl)⟩
 ·rintro l' w3 ⟨t3c,t4c,t5c,t6c,U2b,hq'⟩ l'' hl
  rw [hq'] at hl
  clear hq'
  simp only [S0,S1] at hl
  subst hl
  have X7a:=HU X9a U2b (X9a).size al0
  refine sV (Aa rfl) ?_
  obtain ⟨m7c,h8c,f9c⟩:=Ab f6f
  refine BB 16 (fun l l' w'=>∃(t0d:Value) (t1d:Value) (t2d:Value) (t3d:Value),w3=w'∧l'=(((((l.set 16 t0d).set 17 t1d).set 18 t2d).set 19 t3d).set 20 (.bool m7c))) ?_ ?_
  ·intro HJ66
   rcases bft m1c with e1a | e1a
   ·have p4g:=e1a
    have f5g:=ifP p4g h8c
    refine sP ?_ (hw:=wgF rfl e1a)
    refine sP ?_ (hw:=wgF rfl e1a)
    refine sP ?_ (hw:=wgF rfl e1a)
    refine sP ?_ (hw:=wgF rfl e1a)
    refine sV (Aw (evb rfl e1a) rfl) ?_
    obtain rfl:=sj f5g
    exact HJ66 _ _ ⟨uu,uu,uu,uu,rfl,(by simp only [S0,S1]<;>rfl)⟩
   ·have p6g:=bF e1a
    have f7g:=ifN p6g h8c
    refine sV (Ah (o':=2) GZ rfl rfl) ?_ (hw:=wgT rfl e1a)
    refine sV (Ag CW rfl (Bx.cell ((q5a.ext E6a).updS U2b nm0) rfl)) ?_ (hw:=wgT rfl e1a)
    refine sV (Ax AP rfl) ?_ (hw:=wgT rfl e1a)
    refine sb (BE rfl rfl) ?_ (hw:=wgT rfl e1a)
    intro z5b hz5b
    refine nrm ?_
    refine sV (AB (evb rfl e1a) rfl) ?_
    obtain rfl:z5b=decide ((x0.Den.length:Int)=0):=bz hz5b
    obtain rfl:=sj f7g
    exact HJ66 _ _ ⟨(.pointer (some ⟨b8,2,none⟩)),(.slice A4 x0.Den.length c5),(.int .i64 (x0.Den.length:Int)),(.bool (decide ((x0.Den.length:Int)=0))),rfl,(by simp only [S0,S1]<;>rfl)⟩
  ·rintro l' _ ⟨t0d,t1d,t2d,t3d,rfl,hq'⟩ l'' hl
   rw [hq'] at hl
   clear hq'
   simp only [S0,S1] at hl
   subst hl
   refine Ad<|h0c _ _ ?_
   rcases bft m7c with e8a | e8a
   ·have p8g:=e8a
    have f9g:=ifP p8g f9c
    refine wp_cond_true (Ai (evb rfl e8a))<|wp_seq_k fun K4d h4d=>Ae<|sV (Ac rfl) ?_
    refine Ad<|h4d _ _<|wp_ret ?_
    obtain rfl:=sj f9g
    exact fin rfl (Res.tmp rfl Res.nil) (Ak X7a rfl)
   ·have p0h:=bF e8a
    have f1h:=ifN p0h f9c
    refine wp_cond_false (Ai (evb rfl e8a))<|wp_skip<|h9b _ _<|wp_seq_k fun K5d h5d=>Ae<|sV (Ah (o':=0) GF rfl rfl) ?_
    refine sV (Ah (o':=1) Dn rfl rfl) ?_
    refine sV (Ag CW rfl (Bx.cell ((q5a.ext E6a).updS U2b nm0) rfl)) ?_
    refine sV (Ah (o':=2) GZ rfl rfl) ?_
    refine sV (Ag CW rfl (Bx.cell ((q5a.ext E6a).updS U2b nm0) rfl)) ?_
    obtain ⟨m6d,h2h,f3h⟩:=Ab f1h
    have hx7d:=Cu h2h
    have n4h:RU w3 A1 c2 m6d:=by unfold RU;rw [hx7d];exact (n3.ext X7a)
    obtain ⟨m8d,h5h,f6h⟩:=Ab f3h
    have hx9d:=Cu h5h
    have n7h:RU w3 A4 c5 m8d:=by unfold RU;rw [hx9d];exact (n6.ext X7a)
    obtain ⟨r4a,h8h,f9h⟩:=Ab f6h
    refine sc (Af en_209 (by simp only [sz,hx7d,hx9d];rfl)) (c_nat_Gcd m6d m8d A1 c2 A4 c5 w3 (tbx X7a hT) n4h n7h r4a h8h) ?_
    rintro _ w4 E0i ⟨A0e,c1e,rfl,n1i⟩
    refine nrm ?_
    have X2i:=xtr X7a E0i
    refine sV (Aa rfl) ?_
    refine sV (AK rfl rfl) ?_
    refine sV (AK rfl rfl) ?_
    refine sV (Ac rfl) ?_
    refine sV (Ac rfl) ?_
    refine Ad<|h5d _ _<|wp_seq_k fun K2e h2e=>Ae<|sV (Aa rfl) ?_
    refine sb (BE rfl rfl) fun z3b hz3b=>?_
    refine nrm ?_
    refine sV (Aa rfl) ?_
    obtain ⟨m3e,h4e,f3i⟩:=Ab f9h
    refine BB 7 (fun l l' w'=>∃(t5e:Value) (t6e:Value) (t7e:Value),w4=w'∧l'=((((l.set 33 t5e).set 34 t6e).set 35 t7e).set 36 (.bool m3e))) ?_ ?_
    ·intro HJ118
     rcases bft z3b with e3a | e3a
     ·have p4i:=zP hz3b e3a
      have f5i:=ifP p4i h4e
      refine sV (Aa rfl) ?_ (hw:=wgT rfl e3a)
      refine sV (Ax AP rfl) ?_ (hw:=wgT rfl e3a)
      refine sb (BE rfl rfl) ?_ (hw:=wgT rfl e3a)
      intro z6b hz6b
      refine nrm ?_
      refine sV (Aw (evb rfl e3a) rfl) ?_
      obtain rfl:z6b=decide ((sz r4a.1:Int)=1):=bz hz6b
      obtain rfl:=sj f5i
      exact HJ118 _ _ ⟨(.slice A0e (sz r4a.1) c1e),(.int .i64 (sz r4a.1:Int)),(.bool (decide ((sz r4a.1:Int)=1))),rfl,(by simp only [S0,S1]<;>rfl)⟩
     ·have p6i:=zN hz3b e3a
      have f7i:=ifN p6i h4e
      refine sP ?_ (hw:=wgF rfl e3a)
      refine sP ?_ (hw:=wgF rfl e3a)
      refine sP ?_ (hw:=wgF rfl e3a)
      refine sV (AB (evb rfl e3a) rfl) ?_
      obtain rfl:=sj f7i
      exact HJ118 _ _ ⟨uu,uu,uu,rfl,(by simp only [S0,S1]<;>rfl)⟩
    ·rintro l' _ ⟨t5e,t6e,t7e,rfl,hq'⟩ l'' hl
     rw [hq'] at hl
     clear hq'
     simp only [S0,S1] at hl
     subst hl
     refine sV (Aa rfl) ?_
     obtain ⟨m8i,h8e,f9i⟩:=Ab f3i
     refine BB 13 (fun l l' w'=>∃(t9e:Value) (t0f:Value) (t1f:Value) (t2f:Value),w4=w'∧l'=(((((l.set 38 t9e).set 39 t0f).set 40 t1f).set 41 t2f).set 42 (.bool m8i))) ?_ ?_
     ·intro HJ149
      rcases bft m3e with e2a | e2a
      ·have p0j:=e2a
       have f1j:=ifP p0j h8e
       refine sV (Aa rfl) ?_ (hw:=wgT rfl e2a)
       obtain ⟨u7b,h2j,f3j⟩:=Ab f1j
       obtain ⟨bb158,oo159,hA4j,ia5j,ib6j,hc161⟩:=RL.nth n1i h2j
       refine sV (Ar AP An rfl rfl hA4j ia5j ib6j) ?_ (hw:=wgT rfl e2a)
       refine sV (Ag AN rfl hc161) ?_ (hw:=wgT rfl e2a)
       refine sb (BE rfl rfl) ?_ (hw:=wgT rfl e2a)
       intro z8b hz8b
       refine nrm ?_
       refine sV (Aw (evb rfl e2a) rfl) ?_
       obtain rfl:z8b=decide (u7b=1):=bz hz8b
       obtain rfl:=sj f3j
       exact HJ149 _ _ ⟨(.slice A0e (sz r4a.1) c1e),(.pointer (some ⟨bb158,oo159+(0:Int).toNat,none⟩)),(.int .u32 u7b),(.bool (decide (u7b=1))),rfl,(by simp only [S0,S1]<;>rfl)⟩
      ·have p7j:=bF e2a
       have f8j:=ifN p7j h8e
       refine sP ?_ (hw:=wgF rfl e2a)
       refine sP ?_ (hw:=wgF rfl e2a)
       refine sP ?_ (hw:=wgF rfl e2a)
       refine sP ?_ (hw:=wgF rfl e2a)
       refine sV (AB (evb rfl e2a) rfl) ?_
       obtain rfl:=sj f8j
       exact HJ149 _ _ ⟨uu,uu,uu,uu,rfl,(by simp only [S0,S1]<;>rfl)⟩
     ·rintro l' _ ⟨t9e,t0f,t1f,t2f,rfl,hq'⟩ l'' hl
      rw [hq'] at hl
      clear hq'
      simp only [S0,S1] at hl
      subst hl
      refine sV (Ac rfl) ?_
      refine Ad<|h2e _ _<|wp_ret ?_
      obtain rfl:=sj f9i
      exact fin rfl (Res.tmp rfl Res.nil) (Ak X2i rfl)
theorem c_dyad_ratOf (x0:Ha) (A1:Option Addr) (c2:Nat) (A4:Option Addr) (c5:Nat) (w:World) (hT:TB w) (n3:RU w A1 c2 x0.Num.Abs) (n6:RU w A4 c5 x0.Den) (r:Am × Am) (hr:HI x0=some r) :
  Calls Tryz.prog 142 #[.agg #[.bool x0.Num.Neg,.slice A1 (sz x0.Num.Abs) c2,.slice A4 (sz x0.Den) c5]] w (Ret rep_119_119 w r):=by
 unfold HI at hr
 go_enter Tryz.func142,Tryz.ntmps142
 refine wp_seq_k fun K7 h7=>Ae<|Ch rfl rfl fun b8 w1 E9 g2f q3b=>?_
 refine nrm ?_
 refine AE Bg fun b3f w2 E7a g1c q4b=>?_
 refine nrm ?_
 have g2c:=nlt E9.size g1c
 have X5b:=xtr E9 E7a
 refine AE Bg fun b4f w3 E2a g6b q3c=>?_
 refine nrm ?_
 have g4c:=nlt X5b.size g6b
 have X5c:=xtr X5b E2a
 refine Ad<|h7 _ _<|wp_seq_k fun K7b h7b=>EE [8,9] 10 mo rfl fun w4 E0a S8a=>have X9a:=xtr X5c E0a;dA 0 rfl (fun _=>Ah (o':=0) GF rfl rfl) ?_
 refine dV 1 rfl (fun _ hw=>AL Ig rfl ((((q3b.ext E7a).ext E2a).ext E0a).ext hw) (by simp only [List.drop_zero,List.take_succ_cons,List.take_zero];rfl) rfl) S8a ?_
 refine dA 4 rfl (fun _=>Ah (o':=2) GZ rfl rfl) ?_
 refine dV 5 rfl (fun _ hw=>Ag CW rfl (Bx.cell ((((q3b.ext E7a).ext E2a).ext E0a).ext hw) rfl)) S8a ?_
 refine dA 6 rfl (fun _=>Bi (vals:=[(1,.slice A4 (sz x0.Den) c5)]) (cells:=[.bool false,.slice A4 (sz x0.Den) c5]) (by rfl) (by kernel_rfl)) ?_
 obtain ⟨r8b,h6c,f7c⟩:=Ab hr
 refine dc 2 rfl (by kernel_rfl) (by rfl) (Af Mo (by rfl)) (Jh x0.Num A1 c2 w4 (tbx X9a hT) (n3.ext X9a) r8b h6c) ?_
 rintro _ w5 E3a ⟨A8c,c9c,rfl,n0d⟩
 refine dnrm ?_
 have X9b:=xtr X9a E3a
 have S1d:=S8a.trans E3a
 obtain ⟨r2d,h3d,f4d⟩:=Ab f7c
 refine dc 3 rfl (by kernel_rfl) (by rfl) (Af JG (by rfl)) (Fk r8b 0 A8c c9c w5 (tbx X9b hT) n0d r2d h3d) ?_
 rintro _ w6 E4a ⟨A5d,c6d,rfl,n7d⟩
 refine dnrm ?_
 have X0b:=xtr X9b E4a
 have S8d:=S1d.trans E4a
 obtain ⟨r9d,h0e,f1e⟩:=Ab f4d
 refine dc 7 rfl (by kernel_rfl) (by rfl) (Af JG (by rfl)) (Fk (⟨false,x0.Den⟩:Aj) 0 A4 c5 w6 (tbx X0b hT) (n6.ext X0b) r9d h0e) ?_
 rintro _ w7 E1a ⟨A2e,c3e,rfl,n4e⟩
 refine dnrm ?_
 have X5e:=xtr X0b E1a
 have S5f:=S8d.trans E1a
 have q1b:=((((q4b.ext E2a).ext E0a).ext E3a).ext E4a).ext E1a
 refine dk 8 rfl (by kernel_rfl) (by decide) (by rfl) Cl rfl rfl q1b rfl rfl rfl rfl (by simp only [SP0,SP1,S0,S1,Nat.reduceAdd];rfl) fun w8 U5a q6e=>?_
 have X7e:=belU X5e U5a g2c
 have ne0c:=(Bx.ne q4b g6b).symm
 have q2b:=((((q3c.ext E0a).ext E3a).ext E4a).ext E1a).upd U5a ne0c
 refine dk 9 rfl (by kernel_rfl) (by decide) (by rfl) Cl rfl rfl q2b rfl rfl rfl rfl (by simp only [SP0,SP1,S0,S1,Nat.reduceAdd];rfl) fun w9 U6a q8e=>?_
 have X9e:=belU X7e U6a g4c
 refine Dm (by kernel_rfl) ?_
 refine h7b _ _<|wp_ret ?_
 have n0f:=((n7d.ext E1a).upd U5a q1b (by decide)).upd U6a q2b (by decide)
 have n1f:=(n4e.upd U5a q1b (by decide)).upd U6a q2b (by decide)
 obtain rfl:=sj f1e
 exact fin rfl (Res.cellN rfl AI (q6e.upd U6a (Ne.symm ne0c)) rfl rfl (Res.cellN rfl AI q8e rfl rfl Res.nil)) (Ak X9e ⟨A5d,c6d,A2e,c3e,rfl,n0f,n1f⟩)
theorem c_dyad_FromRat (x0:EQ) (x1:Int) (x2:Int) (A1:Option Addr) (c2:Nat) (A4:Option Addr) (c5:Nat) (w:World) (hT:TB w) (n3:RLu w A1 c2 x0.Num.Abs) (n6:RLu w A4 c5 x0.Den) (r:Al × Int) (hr:Ek x0 x1 x2=some r) :
  Calls Tryz.prog 56 #[.agg #[.bool x0.Num.Neg,.slice A1 x0.Num.Abs.length c2,.slice A4 x0.Den.length c5],.int .i64 x1,.int .i64 x2] w (Ret Kk w r):=by
 unfold Ek at hr
 obtain ⟨q0,hq0,hr0⟩:=Ab hr
 unfold GE at hq0
 go_enter_defers Tryz.func56,Tryz.ntmps56
 refine wp_seq_k fun K7 h7=>Ae<|Ch rfl rfl fun b8 w1 E9 g9g q2d=>?_
 refine nrm ?_
 refine AE FR fun b5b w2 E7b g3d q9a=>?_
 refine nrm ?_
 have g8b:=nlt E9.size g3d
 have X5e:=xtr E9 E7b
 refine AE KN fun b0c w3 E8a g0h q0b=>?_
 refine nrm ?_
 have g1c:=nlt X5e.size g0h
 have X2c:=xtr X5e E8a
 refine Ad<|h7 _ _<|wp_seq_k fun K6e h6e=>Ae<|JF (vs:=[.pointer (some ⟨b5b,0,none⟩),.pointer (some ⟨b0c,0,none⟩)]) (by rfl) (by rfl)<|Ad<|h6e _ _<|wp_seq_k fun K7e h7e=>Ae<|sV (Ao Lm rfl ((q2d.ext E7b).ext E8a) rfl) ?_
 obtain ⟨r4d,h1h,f2h⟩:=Ab hq0
 refine sc (Af en_141 (by rfl)) (c_ratio_Valid x0 A1 c2 A4 c5 w3 (tbx X2c hT) (n3.ext X2c) (n6.ext X2c) r4d h1h) ?_
 rintro _ w4 E2a rfl
 refine nrm ?_
 have X3c:=xtr X2c E2a
 rcases BR f2h with ⟨r4c,h5d,f3h⟩ | ⟨r4c,h5d,rfl⟩
 ·refine scO (Af Fq (by rfl)) (BO r4d 1 w4 (tbx X3c hT)  (.ok r4c) h5d) ?_
  rintro _ w5 E0a rfl
  refine nrm ?_
  have X5c:=xtr X3c E0a
  refine Ad<|h7e _ _<|wp_seq_k fun K8e h8e=>Ae<|sV (Aa rfl) ?_
  rcases BR f3h with ⟨r6c,h6d,f4h⟩ | ⟨r6c,h6d,rfl⟩
  ·refine scO (Af Iw (by rfl)) (EH x1 w5 (tbx X5c hT)  (.ok r6c) h6d) ?_
   rintro _ w6 E3a rfl
   refine nrm ?_
   have X7c:=xtr X5c E3a
   refine Ad<|h8e _ _<|wp_seq_k fun K9e h9e=>Ae<|sV (Aa rfl) ?_
   rcases BR f4h with ⟨r8c,h7d,f5h⟩ | ⟨r8c,h7d,rfl⟩
   ·refine scO (Af Ly (by rfl)) (GJ x2 w6 (tbx X7c hT)  (.ok r8c) h7d) ?_
    rintro _ w7 E4a rfl
    refine nrm ?_
    have X9c:=xtr X7c E4a
    refine Ad<|h9e _ _<|wp_seq_k fun K0f h0f=>Ae<|have q6h:=(((((q2d.ext E7b).ext E8a).ext E2a).ext E0a).ext E3a).ext E4a;sV (Ao Lm rfl q6h rfl) ?_
    obtain ⟨m1f,h7h,f8h⟩:=Ab f5h
    have hx2f:=Cu h7h
    have n9h:RU w7 A1 c2 m1f:=by unfold RU;rw [hx2f];exact (n3.ext X9c)
    obtain ⟨m3f,h0i,f1i⟩:=Ab f8h
    have hx4f:=Cu h0i
    have n2i:RU w7 A4 c5 m3f:=by unfold RU;rw [hx4f];exact (n6.ext X9c)
    obtain ⟨r8d,h3i,f4i⟩:=Ab f1i
    refine sc (Af en_142 (by simp only [sz,hx2f,hx4f];rfl)) (c_dyad_ratOf (⟨(⟨x0.Num.Neg,m1f⟩:Aj),m3f⟩:Ha) A1 c2 A4 c5 w7 (tbx X9c hT) n9h n2i r8d h3i) ?_
    rintro _ w8 E7a ⟨A5i,c6i,A7i,c8i,rfl,n9i,n0j⟩
    refine nrm ?_
    have X5f:=xtr X9c E7a
    refine sV (Aa rfl) ?_
    refine sV (AK rfl rfl) ?_
    refine sV (AK rfl rfl) ?_
    refine AE Bg fun b6m w9 E6a g1j q2b=>?_
    refine nrm ?_
    have g2j:=nlt X5f.size g1j
    have X6f:=xtr X5f E6a
    refine AE Bg fun b7m w9g E1a g7f q6b=>?_
    refine nrm ?_
    have g3j:=nlt X6f.size g7f
    have X4j:=xtr X6f E1a
    refine AA Cl rfl rfl (q2b.ext E1a) rfl rfl rfl rfl (by simp only [SP0,SP1,S0,S1,Nat.reduceAdd];rfl) fun w2d U5a q5j=>?_
    have X6j:=belU X4j U5a g2j
    have ne3b:=(Bx.ne q2b g7f).symm
    refine AA Cl rfl rfl (q6b.upd U5a ne3b) rfl rfl rfl rfl (by simp only [SP0,SP1,S0,S1,Nat.reduceAdd];rfl) fun w5b U1b q7j=>?_
    have X8f:=belU X6j U1b g3j
    refine Ad<|h0f _ _<|wp_seq_k fun K9f h9f=>Ae<|sV (Ao AI rfl (q5j.upd U1b (Ne.symm ne3b)) rfl) ?_
    refine sV (Ao AI rfl q7j rfl) ?_
    refine sV (Aa rfl) ?_
    refine sV (Aa rfl) ?_
    have n8j:=(((n9i.ext E6a).ext E1a).upd U5a (q2b.ext E1a) (by decide)).upd U1b (q6b.upd U5a ne3b) (by decide)
    have n9j:=(((n0j.ext E6a).ext E1a).upd U5a (q2b.ext E1a) (by decide)).upd U1b (q6b.upd U5a ne3b) (by decide)
    obtain ⟨r9d,h0k,f1k⟩:=Ab f4i
    refine sc (Af Dd (by rfl)) (As r8d.1 r8d.2 x1 x2 A5i c6i A7i c8i w5b (tbx X8f hT) n8j n9j r9d h0k) ?_
    rintro _ w7b E9b ⟨A0g,c1g,rfl,n2g⟩
    refine nrm ?_
    have X0d:=xtr X8f E9b
    rcases BR f1k with ⟨r1d,h0e,f2k⟩ | ⟨r1d,h0e,rfl⟩
    ·refine scO (Af Iv (by rfl)) (Dl r9d A0g c1g w7b (tbx X0d hT) n2g (.ok r1d) h0e) ?_
     rintro _ w3d E4b ⟨A3k,c4k,rfl,n5k⟩
     refine nrm ?_
     have X6k:=xtr X0d E4b
     have ne3g:=(Bx.neT ((((((((q9a.ext E8a).ext E2a).ext E0a).ext E3a).ext E4a).ext E7a).ext E6a).ext E1a) (q2b.ext E1a) (by decide))
     have ne7k:=(Bx.neT (((((((((q9a.ext E8a).ext E2a).ext E0a).ext E3a).ext E4a).ext E7a).ext E6a).ext E1a).upd U5a ne3g) (q6b.upd U5a ne3b) (by decide))
     have q1e:=(((((((((((q9a.ext E8a).ext E2a).ext E0a).ext E3a).ext E4a).ext E7a).ext E6a).ext E1a).upd U5a ne3g).upd U1b ne7k).ext E9b).ext E4b
     refine AA EI rfl rfl q1e rfl rfl rfl rfl (by simp only [SP0,SP1,S0,S1,Nat.reduceAdd];rfl) fun w9a U2e q8k=>?_
     have X9k:=belU X6k U2e g8b
     have ne3e:=(Bx.neT (((((((q0b.ext E2a).ext E0a).ext E3a).ext E4a).ext E7a).ext E6a).ext E1a) (q2b.ext E1a) (by decide))
     have ne4g:=(Bx.neT ((((((((q0b.ext E2a).ext E0a).ext E3a).ext E4a).ext E7a).ext E6a).ext E1a).upd U5a ne3e) (q6b.upd U5a ne3b) (by decide))
     have ne5g:=(Bx.neT (((((((((((q0b.ext E2a).ext E0a).ext E3a).ext E4a).ext E7a).ext E6a).ext E1a).upd U5a ne3e).upd U1b ne4g).ext E9b).ext E4b) q1e (by decide))
     have q6g:=(((((((((((q0b.ext E2a).ext E0a).ext E3a).ext E4a).ext E7a).ext E6a).ext E1a).upd U5a ne3e).upd U1b ne4g).ext E9b).ext E4b).upd U2e ne5g
     refine AA JA rfl rfl q6g rfl rfl rfl rfl (by simp only [SP0,SP1,S0,S1,Nat.reduceAdd];rfl) fun w8b U4e q0l=>?_
     have X1l:=belU X9k U4e g1c
     refine Ad<|h9f _ _<|wp_ret ?_
     have n2l:=(n5k.upd U2e q1e (by decide)).upd U4e q6g (by decide)
     obtain rfl:=sj f2k
     obtain rfl:=sj hr0
     exact MC EV GY rfl (Res.cellN rfl BG (q8k.upd U4e (Ne.symm ne5g)) rfl rfl (Res.cell1 rfl EG (Bx.cell q0l rfl) Res.nil)) (Ak X1l ⟨A3k,c4k,rfl,n2l⟩)
    ·refine scP (Af Iv (by rfl)) (Dl r9d A0g c1g w7b (tbx X0d hT) n2g (.error r1d) h0e) fun w3d E4b=>?_
     have X3l:=xtr X0d E4b
     have ne7g:=(Bx.neT ((((((((q9a.ext E8a).ext E2a).ext E0a).ext E3a).ext E4a).ext E7a).ext E6a).ext E1a) (q2b.ext E1a) (by decide))
     have ne4l:=(Bx.neT (((((((((q9a.ext E8a).ext E2a).ext E0a).ext E3a).ext E4a).ext E7a).ext E6a).ext E1a).upd U5a ne7g) (q6b.upd U5a ne3b) (by decide))
     have q5l:=(((((((((((q9a.ext E8a).ext E2a).ext E0a).ext E3a).ext E4a).ext E7a).ext E6a).ext E1a).upd U5a ne7g).upd U1b ne4l).ext E9b).ext E4b
     have ne8g:=(Bx.neT (((((((q0b.ext E2a).ext E0a).ext E3a).ext E4a).ext E7a).ext E6a).ext E1a) (q2b.ext E1a) (by decide))
     have ne6l:=(Bx.neT ((((((((q0b.ext E2a).ext E0a).ext E3a).ext E4a).ext E7a).ext E6a).ext E1a).upd U5a ne8g) (q6b.upd U5a ne3b) (by decide))
     have q7l:=((((((((((q0b.ext E2a).ext E0a).ext E3a).ext E4a).ext E7a).ext E6a).ext E1a).upd U5a ne8g).upd U1b ne6l).ext E9b).ext E4b
     refine IK GY (Cd b5b b0c (.bool false:Value) (.slice none 0 0:Value) (.int .i64 0:Value) (.int .i64 0:Value) r1d q5l q7l) rfl ?_
     rintro w9 ⟨u9,q9,q9'⟩
     obtain rfl:=sj hr0
     exact ⟨_,(Res.cellN rfl BG q9 rfl rfl (Res.cell1 rfl EG (Bx.cell q9' rfl) Res.nil)),Ak (u9.toExt X3l g8b g1c) ⟨none,0,rfl,RU.nil _⟩⟩
   ·refine scP (Af Ly (by rfl)) (GJ x2 w6 (tbx X7c hT)  (.error r8c) h7d) fun w7 E4a=>?_
    have X8l:=xtr X7c E4a
    have q9l:=((((q9a.ext E8a).ext E2a).ext E0a).ext E3a).ext E4a
    have q0m:=(((q0b.ext E2a).ext E0a).ext E3a).ext E4a
    refine IK GY (Cd b5b b0c (.bool false:Value) (.slice none 0 0:Value) (.int .i64 0:Value) (.int .i64 0:Value) r8c q9l q0m) rfl ?_
    rintro w9 ⟨u9,q9,q9'⟩
    obtain rfl:=sj hr0
    exact ⟨_,(Res.cellN rfl BG q9 rfl rfl (Res.cell1 rfl EG (Bx.cell q9' rfl) Res.nil)),Ak (u9.toExt X8l g8b g1c) ⟨none,0,rfl,RU.nil _⟩⟩
  ·refine scP (Af Iw (by rfl)) (EH x1 w5 (tbx X5c hT)  (.error r6c) h6d) fun w6 E3a=>?_
   have X1m:=xtr X5c E3a
   have q2m:=(((q9a.ext E8a).ext E2a).ext E0a).ext E3a
   have q3m:=((q0b.ext E2a).ext E0a).ext E3a
   refine IK GY (Cd b5b b0c (.bool false:Value) (.slice none 0 0:Value) (.int .i64 0:Value) (.int .i64 0:Value) r6c q2m q3m) rfl ?_
   rintro w9 ⟨u9,q9,q9'⟩
   obtain rfl:=sj hr0
   exact ⟨_,(Res.cellN rfl BG q9 rfl rfl (Res.cell1 rfl EG (Bx.cell q9' rfl) Res.nil)),Ak (u9.toExt X1m g8b g1c) ⟨none,0,rfl,RU.nil _⟩⟩
 ·refine scP (Af Fq (by rfl)) (BO r4d 1 w4 (tbx X3c hT)  (.error r4c) h5d) fun w5 E0a=>?_
  have X4m:=xtr X3c E0a
  have q5m:=((q9a.ext E8a).ext E2a).ext E0a
  refine IK GY (Cd b5b b0c (.bool false:Value) (.slice none 0 0:Value) (.int .i64 0:Value) (.int .i64 0:Value) r4c q5m ((q0b.ext E2a).ext E0a)) rfl ?_
  rintro w9 ⟨u9,q9,q9'⟩
  obtain rfl:=sj hr0
  exact ⟨_,(Res.cellN rfl BG q9 rfl rfl (Res.cell1 rfl EG (Bx.cell q9' rfl) Res.nil)),Ak (u9.toExt X4m g8b g1c) ⟨none,0,rfl,RU.nil _⟩⟩
theorem c_sorobanref03_Valid (x0:EQ) (A1:Option Addr) (c2:Nat) (A4:Option Addr) (c5:Nat) (w:World) (hT:TB w) (n3:RLu w A1 c2 x0.Num.Abs) (n6:RLu w A4 c5 x0.Den) (r:Bool) (hr:Es x0=some r) :
  Calls Tryz.prog 57 #[.agg #[.bool x0.Num.Neg,.slice A1 x0.Num.Abs.length c2,.slice A4 x0.Den.length c5]] w (Ret Fe w r):=by
 unfold Es at hr
 go_enter Tryz.func57,Tryz.ntmps57
 refine wp_seq_k fun K7 h7=>Ae<|Ch rfl rfl fun b8 w1 E9 g9h q2a=>?_
 refine nrm ?_
 refine sV (Ac rfl) ?_
 refine Ad<|h7 _ _<|wp_seq_k fun K2b h2b=>wp_seq_k fun K3b h3b=>Ae<|sV (Ah (o':=0) GF rfl rfl) ?_
 refine sV (AL Ig rfl q2a (by simp only [List.drop_zero,List.take_succ_cons,List.take_zero];rfl) rfl) ?_
 obtain ⟨r8d,h9d,f0e⟩:=Ab hr
 refine sc (Af OG (by rfl)) (GO x0.Num A1 c2 w1 (tbx E9 hT) (n3.ext E9) r8d h9d) ?_
 rintro _ w2 E3a rfl
 refine nrm ?_
 have X6a:=xtr E9 E3a
 refine sb (FD rfl) fun z7a hz7a=>?_
 refine nrm ?_
 refine sV (Aa rfl) ?_
 obtain ⟨m4b,h5b,f1e⟩:=Ab f0e
 refine BB 10 (fun l l' w'=>∃(t6b:Value) (t7b:Value) (t8b:Value) (t9b:Value),UpdS [] w2 w'∧l'=(((((l.set 8 t6b).set 9 t7b).set 10 t8b).set 11 t9b).set 12 (.bool m4b))) ?_ ?_
 ·intro HJ39
  rcases bft z7a with e0a | e0a
  ·have p2e:=zP hz7a e0a
   have f3e:=ifP p2e h5b
   refine sP ?_ (hw:=wgF rfl e0a)
   refine sP ?_ (hw:=wgF rfl e0a)
   refine sP ?_ (hw:=wgF rfl e0a)
   refine sP ?_ (hw:=wgF rfl e0a)
   refine sV (Aw (evb rfl e0a) rfl) ?_
   obtain rfl:=sj f3e
   exact HJ39 _ _ ⟨uu,uu,uu,uu,(UpdS.refl _ _),(by simp only [S0,S1]<;>rfl)⟩
  ·have p4e:=zN hz7a e0a
   have f5e:=ifN p4e h5b
   refine sV (Ah (o':=2) GZ rfl rfl) ?_ (hw:=wgT rfl e0a)
   refine sV (Ag CW rfl (Bx.cell (q2a.ext E3a) rfl)) ?_ (hw:=wgT rfl e0a)
   obtain ⟨r8a,h6e,f7e⟩:=Ab f5e
   refine sc (Af NZ (by rfl)) (Fh x0.Den A4 c5 w2 (tbx X6a hT) (n6.ext X6a) r8a h6e) ?_ (hw:=wgT rfl e0a)
   rintro _ w3 E8e rfl
   refine nrm ?_
   refine sb (FD rfl) ?_ (hw:=wgT rfl e0a)
   intro z0b hz0b
   refine nrm ?_
   refine sV (AB (evb rfl e0a) rfl) ?_
   obtain rfl:z0b=decide (¬(r8a=true)):=bz hz0b
   obtain rfl:=sj f7e
   exact HJ39 _ _ ⟨(.pointer (some ⟨b8,2,none⟩)),(.slice A4 x0.Den.length c5),(.bool r8a),(.bool (decide (¬(r8a=true)))),((UpdS.refl _ _).ext E8e),(by simp only [S0,S1]<;>rfl)⟩
 ·rintro l' w3 ⟨t6b,t7b,t8b,t9b,U9a,hq'⟩ l'' hl
  rw [hq'] at hl
  clear hq'
  simp only [S0,S1] at hl
  subst hl
  have X4a:=HU X6a U9a (X6a).size al0
  refine sV (Aa rfl) ?_
  obtain ⟨m0c,h1c,f2c⟩:=Ab f1e
  refine BB 16 (fun l l' w'=>∃(t3c:Value) (t4c:Value) (t5c:Value) (t6c:Value),w3=w'∧l'=(((((l.set 14 t3c).set 15 t4c).set 16 t5c).set 17 t6c).set 18 (.bool m0c))) ?_ ?_
  ·intro HJ66
   rcases bft m4b with e1a | e1a
   ·have p9e:=e1a
    have f0f:=ifP p9e h1c
    refine sP ?_ (hw:=wgF rfl e1a)
    refine sP ?_ (hw:=wgF rfl e1a)
    refine sP ?_ (hw:=wgF rfl e1a)
    refine sP ?_ (hw:=wgF rfl e1a)
    refine sV (Aw (evb rfl e1a) rfl) ?_
    obtain rfl:=sj f0f
    exact HJ66 _ _ ⟨uu,uu,uu,uu,rfl,(by simp only [S0,S1]<;>rfl)⟩
   ·have p1f:=bF e1a
    have f2f:=ifN p1f h1c
    refine sV (Ah (o':=2) GZ rfl rfl) ?_ (hw:=wgT rfl e1a)
    refine sV (Ag CW rfl (Bx.cell ((q2a.ext E3a).updS U9a nm0) rfl)) ?_ (hw:=wgT rfl e1a)
    refine sV (Ax AP rfl) ?_ (hw:=wgT rfl e1a)
    refine sb (BE rfl rfl) ?_ (hw:=wgT rfl e1a)
    intro z1b hz1b
    refine nrm ?_
    refine sV (AB (evb rfl e1a) rfl) ?_
    obtain rfl:z1b=decide ((x0.Den.length:Int)=0):=bz hz1b
    obtain rfl:=sj f2f
    exact HJ66 _ _ ⟨(.pointer (some ⟨b8,2,none⟩)),(.slice A4 x0.Den.length c5),(.int .i64 (x0.Den.length:Int)),(.bool (decide ((x0.Den.length:Int)=0))),rfl,(by simp only [S0,S1]<;>rfl)⟩
  ·rintro l' _ ⟨t3c,t4c,t5c,t6c,rfl,hq'⟩ l'' hl
   rw [hq'] at hl
   clear hq'
   simp only [S0,S1] at hl
   subst hl
   refine Ad<|h3b _ _ ?_
   rcases bft m0c with e5a | e5a
   ·have p3f:=e5a
    have f4f:=ifP p3f f2c
    refine wp_cond_true (Ai (evb rfl e5a))<|wp_seq_k fun K7c h7c=>Ae<|sV (Ac rfl) ?_
    refine Ad<|h7c _ _<|wp_ret ?_
    obtain rfl:=sj f4f
    exact fin rfl (Res.tmp rfl Res.nil) (Ak X4a rfl)
   ·have p5f:=bF e5a
    have f6f:=ifN p5f f2c
    refine wp_cond_false (Ai (evb rfl e5a))<|wp_skip<|h2b _ _<|wp_seq_k fun K8c h8c=>Ae<|sV (Ah (o':=0) GF rfl rfl) ?_
    refine sV (Ah (o':=1) Dn rfl rfl) ?_
    refine sV (Ag CW rfl (Bx.cell ((q2a.ext E3a).updS U9a nm0) rfl)) ?_
    refine sV (Ah (o':=2) GZ rfl rfl) ?_
    refine sV (Ag CW rfl (Bx.cell ((q2a.ext E3a).updS U9a nm0) rfl)) ?_
    obtain ⟨m9c,h7f,f8f⟩:=Ab f6f
    have hx0d:=Cu h7f
    have n9f:RU w3 A1 c2 m9c:=by unfold RU;rw [hx0d];exact (n3.ext X4a)
    obtain ⟨m1d,h0g,f1g⟩:=Ab f8f
    have hx2d:=Cu h0g
    have n2g:RU w3 A4 c5 m1d:=by unfold RU;rw [hx2d];exact (n6.ext X4a)
    obtain ⟨r3d,h3g,f4g⟩:=Ab f1g
    refine sc (Af en_145 (by simp only [sz,hx0d,hx2d];rfl)) (c_sorobanref01_Gcd m9c m1d A1 c2 A4 c5 w3 (tbx X4a hT) n9f n2g r3d h3g) ?_
    rintro _ w4 E5g ⟨A6g,c7g,rfl,n8g⟩
    refine nrm ?_
    have X4d:=xtr X4a E5g
    obtain ⟨r5d,h9g,f0h⟩:=Ab f4g
    refine sc (Af Mg (by rfl)) (GM w4 (tbx X4d hT)  r5d h9g) ?_
    rintro _ w5 E6d ⟨A1h,c2h,rfl,n3h⟩
    refine nrm ?_
    have X7d:=xtr X4d E6d
    obtain ⟨r4h,h5h,f6h⟩:=Ab f0h
    refine sc (Af ND (by rfl)) (Fp (limbs r3d) (limbs r5d) A6g c7g A1h c2h w5 (tbx X7d hT) (n8g.ext E6d) n3h r4h h5h) ?_
    rintro _ w6 E7h rfl
    refine nrm ?_
    have X8h:=xtr X7d E7h
    refine sV (Ac rfl) ?_
    refine Ad<|h8c _ _<|wp_ret ?_
    obtain rfl:=sj f6h
    exact fin rfl (Res.tmp rfl Res.nil) (Ak X8h rfl)
theorem c_sorobanlaw04_DyadRounds (x0:AC) (x1:EQ) (x2:Int) (x3:Int) (A1:Option Addr) (c2:Nat) (A4:Option Addr) (c5:Nat) (A7:Option Addr) (c8:Nat) (w:World) (hT:TB w) (n3:RLu w A1 c2 x0.Man.Abs) (n6:RLu w A4 c5 x1.Num.Abs) (n9:RLu w A7 c8 x1.Den) (r:Bool) (hr:DS x0 x1 x2 x3=some r) :
  Calls Tryz.prog 7 #[.agg #[.bool x0.Man.Neg,.slice A1 x0.Man.Abs.length c2,.int .i64 x0.Exp],.agg #[.bool x1.Num.Neg,.slice A4 x1.Num.Abs.length c5,.slice A7 x1.Den.length c8],.int .i64 x2,.int .i64 x3] w (Ret Fe w r):=by
 unfold DS at hr
 go_enter Tryz.func7,Tryz.ntmps7
 refine wp_seq_k fun K7f h7f=>Ae<|Ch rfl rfl fun b7q w1 E0d g8f q1d=>?_
 refine nrm ?_
 refine Ch rfl rfl fun b9f w2 E3e g2i q6c=>?_
 refine nrm ?_
 have g7c:=nlt E0d.size g2i
 have X2c:=xtr E0d E3e
 refine sV (Ac rfl) ?_
 refine Ad<|h7f _ _<|wp_seq_k fun K9b h9b=>wp_seq_k fun K3c h3c=>Ae<|sV (Ao BG rfl (q1d.ext E3e) rfl) ?_
 obtain ⟨r0g,h8q,f9q⟩:=Ab hr
 refine sc (Af en_44 (by rfl)) (c_sorobanlaw04_light x0 A1 c2 w2 (tbx X2c hT) (n3.ext X2c) r0g h8q) ?_
 rintro _ w3 E4e rfl
 refine nrm ?_
 have X2d:=xtr X2c E4e
 refine sb (FD rfl) fun z5e hz5e=>?_
 refine nrm ?_
 refine sV (Aa rfl) ?_
 obtain ⟨m3i,h4i,f5i⟩:=Ab f9q
 refine BB 8 (fun l l' w'=>∃(t6i:Value) (t7i:Value) (t8i:Value),UpdS [] w3 w'∧l'=((((l.set 22 t6i).set 23 t7i).set 24 t8i).set 25 (.bool m3i))) ?_ ?_
 ·intro HJ47
  rcases bft z5e with e7a | e7a
  ·have p0r:=zP hz5e e7a
   have f1r:=ifP p0r h4i
   refine sP ?_ (hw:=wgF rfl e7a)
   refine sP ?_ (hw:=wgF rfl e7a)
   refine sP ?_ (hw:=wgF rfl e7a)
   refine sV (Aw (evb rfl e7a) rfl) ?_
   obtain rfl:=sj f1r
   exact HJ47 _ _ ⟨uu,uu,uu,(UpdS.refl _ _),(by simp only [S0,S1]<;>rfl)⟩
  ·have p2r:=zN hz5e e7a
   have f3r:=ifN p2r h4i
   refine sV (Ao Lm rfl (q6c.ext E4e) rfl) ?_ (hw:=wgT rfl e7a)
   obtain ⟨r6e,h4r,f5r⟩:=Ab f3r
   refine sc (Af en_53 (by rfl)) (c_sorobanlaw04_lightRat x1 A4 c5 A7 c8 w3 (tbx X2d hT) (n6.ext X2d) (n9.ext X2d) r6e h4r) ?_ (hw:=wgT rfl e7a)
   rintro _ w4 E6r rfl
   refine nrm ?_
   refine sb (FD rfl) ?_ (hw:=wgT rfl e7a)
   intro z1g hz1g
   refine nrm ?_
   refine sV (AB (evb rfl e7a) rfl) ?_
   obtain rfl:z1g=decide (¬(r6e=true)):=bz hz1g
   obtain rfl:=sj f5r
   exact HJ47 _ _ ⟨(.agg #[.bool x1.Num.Neg,.slice A4 x1.Num.Abs.length c5,.slice A7 x1.Den.length c8]),(.bool r6e),(.bool (decide (¬(r6e=true)))),((UpdS.refl _ _).ext E6r),(by simp only [S0,S1]<;>rfl)⟩
 ·rintro l' w4 ⟨t6i,t7i,t8i,U2g,hq'⟩ l'' hl
  rw [hq'] at hl
  clear hq'
  simp only [S0,S1] at hl
  subst hl
  have X7e:=HU X2d U2g (X2d).size al0
  refine Ad<|h3c _ _ ?_
  rcases bft m3i with e3d | e3d
  ·have p7r:=e3d
   have f8r:=ifP p7r f5i
   refine wp_cond_true (Ai (evb rfl e3d))<|wp_seq_k fun K9i h9i=>Ae ?_
   obtain ⟨r9r,h0s,f1s⟩:=Ab f8r
   refine sc (Af Oz (by rfl)) (Hf w4 (tbx X7e hT)  r9r h0s) ?_
   rintro _ w5 E2s rfl
   refine nrm ?_
   have X3s:=xtr X7e E2s
   refine sV (Ac rfl) ?_
   refine Ad<|h9i _ _<|wp_ret ?_
   obtain rfl:=sj f1s
   exact fin rfl (Res.tmp rfl Res.nil) (Ak X3s rfl)
  ·have p4s:=bF e3d
   have f5s:=ifN p4s f5i
   refine wp_cond_false (Ai (evb rfl e3d))<|wp_skip<|h9b _ _<|wp_seq_k fun K0j h0j=>Ae<|sV (Aa rfl) ?_
   obtain ⟨r1j,h6s,f7s⟩:=Ab f5s
   refine sc (Af en_16 (by rfl)) (c_sorobanlaw04_fine x2 w4 (tbx X7e hT)  r1j h6s) ?_
   rintro _ w5 E3g rfl
   refine nrm ?_
   have X4g:=xtr X7e E3g
   refine sV (Aa rfl) ?_
   obtain ⟨m5g,h2j,f8s⟩:=Ab f7s
   refine BB 6 (fun l l' w'=>∃(t3j:Value) (t4j:Value),UpdS [] w5 w'∧l'=(((l.set 30 t3j).set 31 t4j).set 32 (.bool m5g))) ?_ ?_
   ·intro HJ98
    rcases bft r1j with e5b | e5b
    ·have p9s:=e5b
     have f0t:=ifP p9s h2j
     refine sV (Aa rfl) ?_ (hw:=wgT rfl e5b)
     obtain ⟨r5j,h1t,f2t⟩:=Ab f0t
     refine sc (Af en_54 (by rfl)) (c_sorobanref03_IsDir x3 w5 (tbx X4g hT)  r5j h1t) ?_ (hw:=wgT rfl e5b)
     rintro _ w6 E3t rfl
     refine nrm ?_
     refine sV (Aw (evb rfl e5b) rfl) ?_
     obtain rfl:=sj f2t
     exact HJ98 _ _ ⟨(.int .i64 x3),(.bool r5j),((UpdS.refl _ _).ext E3t),(by simp only [S0,S1]<;>rfl)⟩
    ·have p4t:=bF e5b
     have f5t:=ifN p4t h2j
     refine sP ?_ (hw:=wgF rfl e5b)
     refine sP ?_ (hw:=wgF rfl e5b)
     refine sV (AB (evb rfl e5b) rfl) ?_
     obtain rfl:=sj f5t
     exact HJ98 _ _ ⟨uu,uu,(UpdS.refl _ _),(by simp only [S0,S1]<;>rfl)⟩
   ·rintro l' w6 ⟨t3j,t4j,U6g,hq'⟩ l'' hl
    rw [hq'] at hl
    clear hq'
    simp only [S0,S1] at hl
    subst hl
    have X7g:=HU X4g U6g (X4g).size al0
    refine sV (Ac rfl) ?_
    refine Ad<|h0j _ _<|wp_seq_k fun K6j h6j=>Ae<|have q8g:=((((q1d.ext E3e).ext E4e).updS U2g nm0).ext E3g).updS U6g nm0;sV (Ao BG rfl q8g rfl) ?_
    refine sV (Aa rfl) ?_
    refine sV (Aa rfl) ?_
    obtain ⟨r0c,h6t,f7t⟩:=Ab f8s
    refine sc (Af Oe (by rfl)) (IQ x0 x2 x3 A1 c2 w6 (tbx X7g hT) (n3.ext X7g) r0c h6t) ?_
    rintro _ w7 E8e ⟨A9g,c0h,rfl,n8t⟩
    refine nrm ?_
    have X7j:=xtr X7g E8e
    refine sV (Aa rfl) ?_
    refine sV (AK rfl rfl) ?_
    refine sV (AK rfl rfl) ?_
    refine AE FR fun b1a4 w8 E9t g8j q0u=>?_
    refine nrm ?_
    have g2a4:=nlt X7j.size g8j
    refine AA EI rfl rfl q0u rfl rfl rfl rfl (by simp only [SP0,SP1,S0,S1,Nat.reduceAdd];rfl) fun w9 U1u q1h=>?_
    have F4d:=belU E9t U1u g8j
    have X9e:=xtr X7j F4d
    refine sV (Ac rfl) ?_
    refine Ad<|h6j _ _<|wp_seq_k fun K9j h9j=>Ae<|have q0f:=(((((q6c.ext E4e).updS U2g nm0).ext E3g).updS U6g nm0).ext E8e).ext F4d;sV (Ao Lm rfl q0f rfl) ?_
    refine sV (Aa rfl) ?_
    refine sV (Aa rfl) ?_
    obtain ⟨r1c,h2u,f3u⟩:=Ab f7t
    refine sc (Af en_56 (by rfl)) (c_dyad_FromRat x1 x2 x3 A4 c5 A7 c8 w9 (tbx X9e hT) (n6.ext X9e) (n9.ext X9e) r1c h2u) ?_
    rintro _ w7f E1b ⟨A2h,c3h,rfl,n4u⟩
    refine nrm ?_
    have X0k:=xtr X9e E1b
    refine sV (Aa rfl) ?_
    refine sV (AK rfl rfl) ?_
    refine sV (AK rfl rfl) ?_
    refine AE FR fun b3a4 w7q E5u g1k q6u=>?_
    refine nrm ?_
    have g4a4:=nlt X0k.size g1k
    refine AA EI rfl rfl q6u rfl rfl rfl rfl (by simp only [SP0,SP1,S0,S1,Nat.reduceAdd];rfl) fun w0d U7u q4h=>?_
    have F8a:=belU E5u U7u g1k
    have X1f:=xtr X0k F8a
    refine sV (Ac rfl) ?_
    refine Ad<|h9j _ _<|wp_seq_k fun K2k h2k=>Ae<|sV (Aa rfl) ?_
    refine sV (Aa rfl) ?_
    obtain ⟨m3k,h4k,f8u⟩:=Ab f3u
    refine BB 5 (fun l l' w'=>∃(t5k:Value) (t6k:Value),UpdS [] w0d w'∧l'=(((l.set 49 t5k).set 50 t6k).set 51 (.bool m3k))) ?_ ?_
    ·intro HJ168
     rcases bft m5g with e6b | e6b
     ·have p9u:=e6b
      have f0v:=ifP p9u h4k
      have q1v:=(((q8g.ext E8e).ext F4d).ext E1b).ext F8a
      refine sV (Ao BG rfl q1v rfl) ?_ (hw:=wgT rfl e6b)
      obtain ⟨r7k,h2v,f3v⟩:=Ab f0v
      refine sc (Af Oc (by rfl)) (Gm x0 A1 c2 w0d (tbx X1f hT) (n3.ext X1f) r7k h2v) ?_ (hw:=wgT rfl e6b)
      rintro _ w8f E4v rfl
      refine nrm ?_
      refine sV (Aw (evb rfl e6b) rfl) ?_
      obtain rfl:=sj f3v
      exact HJ168 _ _ ⟨(.agg #[.bool x0.Man.Neg,.slice A1 x0.Man.Abs.length c2,.int .i64 x0.Exp]),(.bool r7k),((UpdS.refl _ _).ext E4v),(by simp only [S0,S1]<;>rfl)⟩
     ·have p5v:=bF e6b
      have f6v:=ifN p5v h4k
      refine sP ?_ (hw:=wgF rfl e6b)
      refine sP ?_ (hw:=wgF rfl e6b)
      refine sV (AB (evb rfl e6b) rfl) ?_
      obtain rfl:=sj f6v
      exact HJ168 _ _ ⟨uu,uu,(UpdS.refl _ _),(by simp only [S0,S1]<;>rfl)⟩
    ·rintro l' w8f ⟨t5k,t6k,U3a,hq'⟩ l'' hl
     rw [hq'] at hl
     clear hq'
     simp only [S0,S1] at hl
     subst hl
     have X8k:=HU X1f U3a (X1f).size al0
     obtain ⟨r5h,h7v,f8v⟩:=Ab f8u
     refine sc (Af OD (by rfl)) (HV m3k w8f (tbx X8k hT)  r5h h7v) ?_
     rintro _ w1d E4a rfl
     refine nrm ?_
     have X5d:=xtr X8k E4a
     refine sV (Ac rfl) ?_
     refine Ad<|h2k _ _<|wp_seq_k fun K9k h9k=>Ae<|sV (Aa rfl) ?_
     refine sV (Aa rfl) ?_
     obtain ⟨m0l,h1l,f9v⟩:=Ab f8v
     refine BB 5 (fun l l' w'=>∃(t2l:Value) (t3l:Value),UpdS [] w1d w'∧l'=(((l.set 55 t2l).set 56 t3l).set 57 (.bool m0l))) ?_ ?_
     ·intro HJ204
      rcases bft m5g with e7b | e7b
      ·have p0w:=e7b
       have f1w:=ifP p0w h1l
       have q2w:=(((q0f.ext E1b).ext F8a).updS U3a nm0).ext E4a
       refine sV (Ao Lm rfl q2w rfl) ?_ (hw:=wgT rfl e7b)
       obtain ⟨r4l,h3w,f4w⟩:=Ab f1w
       refine sc (Af en_57 (by rfl)) (c_sorobanref03_Valid x1 A4 c5 A7 c8 w1d (tbx X5d hT) (n6.ext X5d) (n9.ext X5d) r4l h3w) ?_ (hw:=wgT rfl e7b)
       rintro _ w9f E5w rfl
       refine nrm ?_
       refine sV (Aw (evb rfl e7b) rfl) ?_
       obtain rfl:=sj f4w
       exact HJ204 _ _ ⟨(.agg #[.bool x1.Num.Neg,.slice A4 x1.Num.Abs.length c5,.slice A7 x1.Den.length c8]),(.bool r4l),((UpdS.refl _ _).ext E5w),(by simp only [S0,S1]<;>rfl)⟩
      ·have p6w:=bF e7b
       have f7w:=ifN p6w h1l
       refine sP ?_ (hw:=wgF rfl e7b)
       refine sP ?_ (hw:=wgF rfl e7b)
       refine sV (AB (evb rfl e7b) rfl) ?_
       obtain rfl:=sj f7w
       exact HJ204 _ _ ⟨uu,uu,(UpdS.refl _ _),(by simp only [S0,S1]<;>rfl)⟩
     ·rintro l' w9f ⟨t2l,t3l,U5a,hq'⟩ l'' hl
      rw [hq'] at hl
      clear hq'
      simp only [S0,S1] at hl
      subst hl
      have X5l:=HU X5d U5a (X5d).size al0
      obtain ⟨r6h,h8w,f9w⟩:=Ab f9v
      refine sc (Af OD (by rfl)) (HV m0l w9f (tbx X5l hT)  r6h h8w) ?_
      rintro _ w3e E6a rfl
      refine nrm ?_
      have X6l:=xtr X5l E6a
      refine sV (Ac rfl) ?_
      refine Ad<|h9k _ _<|wp_seq_k fun K7l h7l=>Ae<|AE FR fun b8l w2i E2b g7h q3b=>?_
      refine nrm ?_
      have g0x:=nlt X6l.size g7h
      have X9l:=xtr X6l E2b
      refine AE FR fun b0m w6c E2a g4c q6d=>?_
      refine nrm ?_
      have g1x:=nlt X9l.size g4c
      have X2f:=xtr X9l E2a
      refine Ad<|h7l _ _<|wp_seq_k fun K1m h1m=>wp_seq_k fun K2m h2m=>Ae<|sV (Aa rfl) ?_
      refine sb (BE rfl rfl) fun z3f hz3f=>?_
      refine nrm ?_
      refine Ad<|h2m _ _ ?_
      obtain ⟨m9a,h3m,f2x⟩:=Ab f9w
      refine BZ (fun l l' w'=>∃(t4m:Value) (t5m:Value) (t6m:Value) (t7m:Value) (A8c:Option Addr) (c9c:Nat),UpdS [b8l] w6c w'∧Bx w' b8l 27 [.bool m9a.1,.slice A8c (sz m9a.2.1) c9c,.int .i64 m9a.2.2]∧RU w' A8c c9c m9a.2.1∧l'=((((l.set 61 t4m).set 62 t5m).set 63 t6m).set 64 t7m)) ?_ ?_
      ·rcases bft z3f with e7d | e7d
       ·have p3x:=zP hz3f e7d
        have f4x:=ifP p3x h3m
        refine wp_cond_true (Ai (evb rfl e7d))<|Ae<|have q5x:=(((((((((q8g.ext E8e).ext F4d).ext E1b).ext F8a).updS U3a nm0).ext E4a).updS U5a nm0).ext E6a).ext E2b).ext E2a;sV (Ao BG rfl q5x rfl) ?_
        refine sV (Aa rfl) ?_
        refine sV (Aa rfl) ?_
        obtain ⟨m8m,h6x,f7x⟩:=Ab f4x
        have hx9m:=Cu h6x
        have n8x:RU w6c A1 c2 m8m:=by unfold RU;rw [hx9m];exact (n3.ext X2f)
        obtain ⟨r4f,h9x,f0y⟩:=Ab f7x
        refine sc (Af en_58 (by simp only [sz,hx9m];rfl)) (c_sorobanref04_Round (⟨(⟨x0.Man.Neg,m8m⟩:Aj),x0.Exp⟩:Al) x2 x3 A1 c2 w6c (tbx X2f hT) n8x r4f h9x) ?_
        rintro _ w7c E8h ⟨A0n,c1n,rfl,n1y⟩
        refine nrm ?_
        refine AA EI rfl rfl ((q3b.ext E2a).ext E8h) rfl rfl rfl rfl (by simp only [SP0,SP1,S0,S1,Nat.reduceAdd];rfl) fun w2c U2n q2y=>?_
        refine Ad ?_
        have n3y:=n1y.upd U2n ((q3b.ext E2a).ext E8h) (by decide)
        obtain rfl:=sj f0y
        exact ⟨_,rfl,(.agg #[.bool x0.Man.Neg,.slice A1 x0.Man.Abs.length c2,.int .i64 x0.Exp]),(.int .i64 x2),(.int .i64 x3),(.agg #[.bool r4f.Man.Neg,.slice A0n (sz r4f.Man.Abs) c1n,.int .i64 r4f.Exp]),A0n,c1n,(((UpdS.refl _ _).ext E8h).upd U2n (.inl im0)),q2y,n3y,(by simp only [S0,S1]<;>rfl)⟩
       ·have p4y:=zN hz3f e7d
        have f5y:=ifN p4y h3m
        refine wp_cond_false (Ai (evb rfl e7d))<|wp_skip ?_
        obtain rfl:=sj f5y
        exact ⟨_,rfl,uu,uu,uu,uu,none,0,(UpdS.refl _ _),(q3b.ext E2a),(RU.nil _),(by simp only [S0,S1]<;>rfl)⟩
      ·rintro l' w7c ⟨t4m,t5m,t6m,t7m,A8c,c9c,U0b,q6y,n7y,hq'⟩ l'' hl
       rw [hq'] at hl
       clear hq'
       simp only [S0,S1] at hl
       subst hl
       have X8d:=HU X2f U0b (X2f).size (alc g0x al0)
       refine h1m _ _<|wp_seq_k fun K3n h3n=>wp_seq_k fun K4n h4n=>Ae<|sV (Aa rfl) ?_
       refine sb (BE rfl rfl) fun z5f hz5f=>?_
       refine nrm ?_
       refine Ad<|h4n _ _ ?_
       obtain ⟨m4b,h5n,f8y⟩:=Ab f2x
       refine BZ (fun l l' w'=>∃(t6n:Value) (t7n:Value) (t8n:Value) (t9n:Value) (A9d:Option Addr) (c0e:Nat),UpdS [b0m] w7c w'∧Bx w' b0m 27 [.bool m4b.1,.slice A9d (sz m4b.2.1) c0e,.int .i64 m4b.2.2]∧RU w' A9d c0e m4b.2.1∧l'=((((l.set 67 t6n).set 68 t7n).set 69 t8n).set 70 t9n)) ?_ ?_
       ·rcases bft z5f with e1e | e1e
        ·have p9y:=zP hz5f e1e
         have f0z:=ifP p9y h5n
         refine wp_cond_true (Ai (evb rfl e1e))<|Ae<|have ne1z:=(Bx.neT ((((((((q0f.ext E1b).ext F8a).updS U3a nm0).ext E4a).updS U5a nm0).ext E6a).ext E2b).ext E2a) (q3b.ext E2a) (by decide));have q2z:=((((((((q0f.ext E1b).ext F8a).updS U3a nm0).ext E4a).updS U5a nm0).ext E6a).ext E2b).ext E2a).updS U0b (nmc ne1z nm0);sV (Ao Lm rfl q2z rfl) ?_
         refine sV (Aa rfl) ?_
         refine sV (Aa rfl) ?_
         obtain ⟨m0o,h3z,f4z⟩:=Ab f0z
         have hx1o:=Cu h3z
         have n5z:RU w7c A4 c5 m0o:=by unfold RU;rw [hx1o];exact (n6.ext X8d)
         obtain ⟨m2o,h6z,f7z⟩:=Ab f4z
         have hx3o:=Cu h6z
         have n8z:RU w7c A7 c8 m2o:=by unfold RU;rw [hx3o];exact (n9.ext X8d)
         obtain ⟨r6f,h9z,f0a0⟩:=Ab f7z
         refine sc (Af en_59 (by simp only [sz,hx1o,hx3o];rfl)) (c_sorobanref04_FromRat (⟨(⟨x1.Num.Neg,m0o⟩:Aj),m2o⟩:Ha) x2 x3 A4 c5 A7 c8 w7c (tbx X8d hT) n5z n8z r6f h9z) ?_
         rintro _ w2c E4o ⟨A5o,c6o,rfl,n1a0⟩
         refine nrm ?_
         have ne2a0:=(Bx.ne q3b g4c).symm
         have q7o:=(q6d.updS U0b (nmc ne2a0 nm0)).ext E4o
         refine AA EI rfl rfl q7o rfl rfl rfl rfl (by simp only [SP0,SP1,S0,S1,Nat.reduceAdd];rfl) fun w9b U8o q3a0=>?_
         refine Ad ?_
         obtain rfl:=sj f0a0
         exact ⟨_,rfl,(.agg #[.bool x1.Num.Neg,.slice A4 x1.Num.Abs.length c5,.slice A7 x1.Den.length c8]),(.int .i64 x2),(.int .i64 x3),(.agg #[.bool r6f.Man.Neg,.slice A5o (sz r6f.Man.Abs) c6o,.int .i64 r6f.Exp]),A5o,c6o,(((UpdS.refl _ _).ext E4o).upd U8o (.inl im0)),q3a0,(n1a0.upd U8o q7o (by decide)),(by simp only [S0,S1]<;>rfl)⟩
        ·have p4a0:=zN hz5f e1e
         have f5a0:=ifN p4a0 h5n
         refine wp_cond_false (Ai (evb rfl e1e))<|wp_skip ?_
         have ne6a0:=(Bx.ne q3b g4c).symm
         obtain rfl:=sj f5a0
         exact ⟨_,rfl,uu,uu,uu,uu,none,0,(UpdS.refl _ _),(q6d.updS U0b (nmc ne6a0 nm0)),(RU.nil _),(by simp only [S0,S1]<;>rfl)⟩
       ·rintro l' w2c ⟨t6n,t7n,t8n,t9n,A9d,c0e,U5c,q7a0,n8a0,hq'⟩ l'' hl
        rw [hq'] at hl
        clear hq'
        simp only [S0,S1] at hl
        subst hl
        have X9o:=HU X8d U5c (X8d).size (alc g1x al0)
        refine h3n _ _<|wp_seq_k fun K0p h0p=>Ae ?_
        obtain ⟨r1p,h9a0,f0a1⟩:=Ab f8y
        refine sc (Af Oz (by rfl)) (Hf w2c (tbx X9o hT)  r1p h9a0) ?_
        rintro _ w9b E8b rfl
        refine nrm ?_
        have X9h:=xtr X9o E8b
        refine sV (Aa rfl) ?_
        obtain ⟨m2p,h3p,f1a1⟩:=Ab f0a1
        refine BB 8 (fun l l' w'=>∃(t4p:Value) (t5p:Value) (t6p:Value) (t7p:Value) (t8p:Value),UpdS [] w9b w'∧l'=((((((l.set 73 t4p).set 74 t5p).set 75 t6p).set 76 t7p).set 77 t8p).set 78 (.bool m2p))) ?_ ?_
        ·intro HJ407
         rcases bft r1p with e0a | e0a
         ·have p2a1:=e0a
          have f3a1:=ifP p2a1 h3p
          have ne4a1:=(Bx.ne ((((((q1h.ext E1b).ext F8a).updS U3a nm0).ext E4a).updS U5a nm0).ext E6a) g7h)
          have ne5a1:=(Bx.ne (((((((q1h.ext E1b).ext F8a).updS U3a nm0).ext E4a).updS U5a nm0).ext E6a).ext E2b) g4c)
          have q6a1:=((((((((((q1h.ext E1b).ext F8a).updS U3a nm0).ext E4a).updS U5a nm0).ext E6a).ext E2b).ext E2a).updS U0b (nmc ne4a1 nm0)).updS U5c (nmc ne5a1 nm0)).ext E8b
          refine sV (Ao BG rfl q6a1 rfl) ?_ (hw:=wgT rfl e0a)
          refine sV (Aa rfl) ?_ (hw:=wgT rfl e0a)
          refine sV (Aa rfl) ?_ (hw:=wgT rfl e0a)
          have ne0i:=(Bx.ne q3b g4c)
          have q7a1:=(q6y.updS U5c (nmc ne0i nm0)).ext E8b
          refine sV (Ao BG rfl q7a1 rfl) ?_ (hw:=wgT rfl e0a)
          have n8a1:RU w9b A9g c0h r0c.1.Man.Abs:=(((((((((((n8t.ext F4d).ext E1b).ext F8a).updS U3a al0).ext E4a).updS U5a al0).ext E6a).ext E2b).ext E2a).updS U0b (alc ⟨_,_,by decide,q3b.ext E2a⟩ al0)).updS U5c (alc ⟨_,_,by decide,q6d.updS U0b (nmc (Ne.symm ne0i) nm0)⟩ al0)).ext E8b
          have n9a1:RU w9b A8c c9c m9a.2.1:=(n7y.updS U5c (alc ⟨_,_,by decide,q6d.updS U0b (nmc (Ne.symm ne0i) nm0)⟩ al0)).ext E8b
          obtain ⟨r9p,h0a2,f1a2⟩:=Ab f3a1
          refine sc (Af OE (by rfl)) (He r0c.1 r0c.2 r5h (⟨(⟨m9a.1,m9a.2.1⟩:Aj),m9a.2.2⟩:Al) A9g c0h A8c c9c w9b (tbx X9h hT) n8a1 n9a1 r9p h0a2) ?_ (hw:=wgT rfl e0a)
          rintro _ w3c E2a2 rfl
          refine nrm ?_
          refine sV (Aw (evb rfl e0a) rfl) ?_
          obtain rfl:=sj f1a2
          exact HJ407 _ _ ⟨(.agg #[.bool r0c.1.Man.Neg,.slice A9g (sz r0c.1.Man.Abs) c0h,.int .i64 r0c.1.Exp]),(.int .i64 r0c.2),(.int .i64 r5h),(.agg #[.bool m9a.1,.slice A8c (sz m9a.2.1) c9c,.int .i64 m9a.2.2]),(.bool r9p),((UpdS.refl _ _).ext E2a2),(by simp only [S0,S1]<;>rfl)⟩
         ·have p3a2:=bF e0a
          have f4a2:=ifN p3a2 h3p
          refine sP ?_ (hw:=wgF rfl e0a)
          refine sP ?_ (hw:=wgF rfl e0a)
          refine sP ?_ (hw:=wgF rfl e0a)
          refine sP ?_ (hw:=wgF rfl e0a)
          refine sP ?_ (hw:=wgF rfl e0a)
          refine sV (AB (evb rfl e0a) rfl) ?_
          obtain rfl:=sj f4a2
          exact HJ407 _ _ ⟨uu,uu,uu,uu,uu,(UpdS.refl _ _),(by simp only [S0,S1]<;>rfl)⟩
        ·rintro l' w3c ⟨t4p,t5p,t6p,t7p,t8p,U2e,hq'⟩ l'' hl
         rw [hq'] at hl
         clear hq'
         simp only [S0,S1] at hl
         subst hl
         have X1i:=HU X9h U2e (X9h).size al0
         refine sV (Aa rfl) ?_
         obtain ⟨m5a2,h0q,f6a2⟩:=Ab f1a1
         refine BB 15 (fun l l' w'=>∃(t1q:Value) (t2q:Value) (t3q:Value) (t4q:Value) (t5q:Value),UpdS [] w3c w'∧l'=((((((l.set 80 t1q).set 81 t2q).set 82 t3q).set 83 t4q).set 84 t5q).set 85 (.bool m5a2))) ?_ ?_
         ·intro HJ450
          rcases bft m2p with e1a | e1a
          ·have p7a2:=e1a
           have f8a2:=ifP p7a2 h0q
           have ne9a2:=(Bx.ne ((((q4h.updS U3a nm0).ext E4a).updS U5a nm0).ext E6a) g7h)
           have ne0a3:=(Bx.ne (((((q4h.updS U3a nm0).ext E4a).updS U5a nm0).ext E6a).ext E2b) g4c)
           have q1a3:=(((((((((q4h.updS U3a nm0).ext E4a).updS U5a nm0).ext E6a).ext E2b).ext E2a).updS U0b (nmc ne9a2 nm0)).updS U5c (nmc ne0a3 nm0)).ext E8b).updS U2e nm0
           refine sV (Ao BG rfl q1a3 rfl) ?_ (hw:=wgT rfl e1a)
           refine sV (Aa rfl) ?_ (hw:=wgT rfl e1a)
           refine sV (Aa rfl) ?_ (hw:=wgT rfl e1a)
           refine sV (Ao BG rfl ((q7a0.ext E8b).updS U2e nm0) rfl) ?_ (hw:=wgT rfl e1a)
           have ne2a3:=(Bx.ne q3b g4c).symm
           have n3a3:RU w3c A2h c3h r1c.1.Man.Abs:=((((((((((n4u.ext F8a).updS U3a al0).ext E4a).updS U5a al0).ext E6a).ext E2b).ext E2a).updS U0b (alc ⟨_,_,by decide,q3b.ext E2a⟩ al0)).updS U5c (alc ⟨_,_,by decide,q6d.updS U0b (nmc ne2a3 nm0)⟩ al0)).ext E8b).updS U2e al0
           obtain ⟨r6q,h4a3,f5a3⟩:=Ab f8a2
           refine sc (Af OE (by rfl)) (He r1c.1 r1c.2 r6h (⟨(⟨m4b.1,m4b.2.1⟩:Aj),m4b.2.2⟩:Al) A2h c3h A9d c0e w3c (tbx X1i hT) n3a3 ((n8a0.ext E8b).updS U2e al0) r6q h4a3) ?_ (hw:=wgT rfl e1a)
           rintro _ w0g E6a3 rfl
           refine nrm ?_
           refine sV (Aw (evb rfl e1a) rfl) ?_
           obtain rfl:=sj f5a3
           exact HJ450 _ _ ⟨(.agg #[.bool r1c.1.Man.Neg,.slice A2h (sz r1c.1.Man.Abs) c3h,.int .i64 r1c.1.Exp]),(.int .i64 r1c.2),(.int .i64 r6h),(.agg #[.bool m4b.1,.slice A9d (sz m4b.2.1) c0e,.int .i64 m4b.2.2]),(.bool r6q),((UpdS.refl _ _).ext E6a3),(by simp only [S0,S1]<;>rfl)⟩
          ·have p7a3:=bF e1a
           have f8a3:=ifN p7a3 h0q
           refine sP ?_ (hw:=wgF rfl e1a)
           refine sP ?_ (hw:=wgF rfl e1a)
           refine sP ?_ (hw:=wgF rfl e1a)
           refine sP ?_ (hw:=wgF rfl e1a)
           refine sP ?_ (hw:=wgF rfl e1a)
           refine sV (AB (evb rfl e1a) rfl) ?_
           obtain rfl:=sj f8a3
           exact HJ450 _ _ ⟨uu,uu,uu,uu,uu,(UpdS.refl _ _),(by simp only [S0,S1]<;>rfl)⟩
         ·rintro l' w0g ⟨t1q,t2q,t3q,t4q,t5q,U9a3,hq'⟩ l'' hl
          rw [hq'] at hl
          clear hq'
          simp only [S0,S1] at hl
          subst hl
          have X0a4:=HU X1i U9a3 (X1i).size al0
          refine sV (Ac rfl) ?_
          refine Ad<|h0p _ _<|wp_ret ?_
          obtain rfl:=sj f6a2
          exact fin rfl (Res.tmp rfl Res.nil) (Ak X0a4 rfl)
end Go.Proofs

