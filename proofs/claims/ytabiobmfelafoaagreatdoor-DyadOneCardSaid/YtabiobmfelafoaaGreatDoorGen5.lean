import Derived.Test.YtabiobmfelafoaaGreatDoorGen4
namespace Go.Proofs
set_option linter.unusedVariables false
set_option linter.unusedSimpArgs false
set_option maxHeartbeats 4000000
open Go.RowKit Go.Sb Go.Proofs.Sbn
theorem Kw (x0:Gm) (A1:Option Addr) (c2:Nat) (A4:Option Addr) (c5:Nat) (w:World) (hT:TB w) (n3:RLu w A1 c2 x0.Num.Abs) (n6:RLu w A4 c5 x0.Den) (r:Bool) (hr:Gs x0=some r) :
  Calls Tryz.prog 141 #[.agg #[.bool x0.Num.Neg,.slice A1 x0.Num.Abs.length c2,.slice A4 x0.Den.length c5]] w (Ret Fy w r):=by
 unfold Gs at hr
 go_enter Tryz.func141,Tryz.ntmps141
 refine wp_seq_k fun K7 h7=>Af<|BT rfl rfl fun b8 w1 E9 g9j q5a=>?_
 refine nrm ?_
 refine sV (Ac rfl) ?_
 refine Ad<|h7 _ _<|wp_seq_k fun K9b h9b=>wp_seq_k fun K0c h0c=>Af<|sV (Ai (o':=0) MR rfl rfl) ?_
 refine sV (AH FY rfl q5a (by simp only [List.drop_zero,List.take_succ_cons,List.take_zero];rfl) rfl) ?_
 obtain ⟨r3f,h4f,f5f⟩:=Ab hr
 refine sc (Ae MT (by rfl)) (HZ x0.Num A1 c2 w1 (tbx E9 hT) (n3.ext E9) r3f h4f) ?_
 rintro _ w2 E6a rfl
 refine nrm ?_
 have X9a:=xtr E9 E6a
 refine sb (ER rfl) fun z0b hz0b=>?_
 refine nrm ?_
 refine sV (Aa rfl) ?_
 obtain ⟨m1c,h2c,f6f⟩:=Ab f5f
 refine Ca 10 (fun l l' w'=>∃(t3c:Value) (t4c:Value) (t5c:Value) (t6c:Value),UpdS [] w2 w'∧l'=(((((l.set 10 t3c).set 11 t4c).set 12 t5c).set 13 t6c).set 14 (.bool m1c))) ?_ ?_
 ·intro HJ39
  rcases bft z0b with e0a | e0a
  ·have p7f:=zP hz0b e0a
   have f8f:=ifP p7f h2c
   refine sP ?_ (hw:=wgF rfl e0a)
   refine sP ?_ (hw:=wgF rfl e0a)
   refine sP ?_ (hw:=wgF rfl e0a)
   refine sP ?_ (hw:=wgF rfl e0a)
   refine sV (AB (evb rfl e0a) rfl) ?_
   obtain rfl:=sj f8f
   exact HJ39 _ _ ⟨uu,uu,uu,uu,(UpdS.refl _ _),(by simp only [S0,S1]<;>rfl)⟩
  ·have p9f:=zN hz0b e0a
   have f0g:=ifN p9f h2c
   refine sV (Ai (o':=2) LM rfl rfl) ?_ (hw:=wgT rfl e0a)
   refine sV (Ag EQ rfl (Bx.cell (q5a.ext E6a) rfl)) ?_ (hw:=wgT rfl e0a)
   obtain ⟨r1b,h1g,f2g⟩:=Ab f0g
   refine sc (Ae NR (by rfl)) (Ii x0.Den A4 c5 w2 (tbx X9a hT) (n6.ext X9a) r1b h1g) ?_ (hw:=wgT rfl e0a)
   rintro _ w3 E3g rfl
   refine nrm ?_
   refine sb (ER rfl) ?_ (hw:=wgT rfl e0a)
   intro z4b hz4b
   refine nrm ?_
   refine sV (AF (evb rfl e0a) rfl) ?_
   obtain rfl:z4b=decide (¬(r1b=true)):=bz hz4b
   obtain rfl:=sj f2g
   exact HJ39 _ _ ⟨(.pointer (some ⟨b8,2,none⟩)),(.slice A4 x0.Den.length c5),(.bool r1b),(.bool (decide (¬(r1b=true)))),((UpdS.refl _ _).ext E3g),(by simp only [S0,S1]<;>rfl)⟩
 ·rintro l' w3 ⟨t3c,t4c,t5c,t6c,U2b,hq'⟩ l'' hl
  rw [hq'] at hl
  clear hq'
  simp only [S0,S1] at hl
  subst hl
  have X7a:=JN X9a U2b (X9a).size al0
  refine sV (Aa rfl) ?_
  obtain ⟨m7c,h8c,f9c⟩:=Ab f6f
  refine Ca 16 (fun l l' w'=>∃(t0d:Value) (t1d:Value) (t2d:Value) (t3d:Value),w3=w'∧l'=(((((l.set 16 t0d).set 17 t1d).set 18 t2d).set 19 t3d).set 20 (.bool m7c))) ?_ ?_
  ·intro HJ66
   rcases bft m1c with e1a | e1a
   ·have p4g:=e1a
    have f5g:=ifP p4g h8c
    refine sP ?_ (hw:=wgF rfl e1a)
    refine sP ?_ (hw:=wgF rfl e1a)
    refine sP ?_ (hw:=wgF rfl e1a)
    refine sP ?_ (hw:=wgF rfl e1a)
    refine sV (AB (evb rfl e1a) rfl) ?_
    obtain rfl:=sj f5g
    exact HJ66 _ _ ⟨uu,uu,uu,uu,rfl,(by simp only [S0,S1]<;>rfl)⟩
   ·have p6g:=bF e1a
    have f7g:=ifN p6g h8c
    refine sV (Ai (o':=2) LM rfl rfl) ?_ (hw:=wgT rfl e1a)
    refine sV (Ag EQ rfl (Bx.cell ((q5a.ext E6a).updS U2b nm0) rfl)) ?_ (hw:=wgT rfl e1a)
    refine sV (AD CA rfl) ?_ (hw:=wgT rfl e1a)
    refine sb (Ce rfl rfl) ?_ (hw:=wgT rfl e1a)
    intro z5b hz5b
    refine nrm ?_
    refine sV (AF (evb rfl e1a) rfl) ?_
    obtain rfl:z5b=decide ((x0.Den.length:Int)=0):=bz hz5b
    obtain rfl:=sj f7g
    exact HJ66 _ _ ⟨(.pointer (some ⟨b8,2,none⟩)),(.slice A4 x0.Den.length c5),(.int .i64 (x0.Den.length:Int)),(.bool (decide ((x0.Den.length:Int)=0))),rfl,(by simp only [S0,S1]<;>rfl)⟩
  ·rintro l' _ ⟨t0d,t1d,t2d,t3d,rfl,hq'⟩ l'' hl
   rw [hq'] at hl
   clear hq'
   simp only [S0,S1] at hl
   subst hl
   refine Ad<|h0c _ _ ?_
   rcases bft m7c with e8a | e8a
   ·have p8g:=e8a
    have f9g:=ifP p8g f9c
    refine wp_cond_true (Aj (evb rfl e8a))<|wp_seq_k fun K4d h4d=>Af<|sV (Ac rfl) ?_
    refine Ad<|h4d _ _<|wp_ret ?_
    obtain rfl:=sj f9g
    exact fin rfl (Res.tmp rfl Res.nil) (Ak X7a rfl)
   ·have p0h:=bF e8a
    have f1h:=ifN p0h f9c
    refine wp_cond_false (Aj (evb rfl e8a))<|wp_skip<|h9b _ _<|wp_seq_k fun K5d h5d=>Af<|sV (Ai (o':=0) MR rfl rfl) ?_
    refine sV (Ai (o':=1) Dl rfl rfl) ?_
    refine sV (Ag EQ rfl (Bx.cell ((q5a.ext E6a).updS U2b nm0) rfl)) ?_
    refine sV (Ai (o':=2) LM rfl rfl) ?_
    refine sV (Ag EQ rfl (Bx.cell ((q5a.ext E6a).updS U2b nm0) rfl)) ?_
    obtain ⟨m6d,h2h,f3h⟩:=Ab f1h
    have hx7d:=BD h2h
    have n4h:RU w3 A1 c2 m6d:=by unfold RU;rw [hx7d];exact (n3.ext X7a)
    obtain ⟨m8d,h5h,f6h⟩:=Ab f3h
    have hx9d:=BD h5h
    have n7h:RU w3 A4 c5 m8d:=by unfold RU;rw [hx9d];exact (n6.ext X7a)
    obtain ⟨r4a,h8h,f9h⟩:=Ab f6h
    refine sc (Ae en_209 (by simp only [sz,hx7d,hx9d];rfl)) (c_nat_Gcd m6d m8d A1 c2 A4 c5 w3 (tbx X7a hT) n4h n7h r4a h8h) ?_
    rintro _ w4 E0i ⟨A0e,c1e,rfl,n1i⟩
    refine nrm ?_
    have X2i:=xtr X7a E0i
    refine sV (Aa rfl) ?_
    refine sV (Ap rfl rfl) ?_
    refine sV (Ap rfl rfl) ?_
    refine sV (Ac rfl) ?_
    refine sV (Ac rfl) ?_
    refine Ad<|h5d _ _<|wp_seq_k fun K2e h2e=>Af<|sV (Aa rfl) ?_
    refine sb (Ce rfl rfl) fun z3b hz3b=>?_
    refine nrm ?_
    refine sV (Aa rfl) ?_
    obtain ⟨m3e,h4e,f3i⟩:=Ab f9h
    refine Ca 7 (fun l l' w'=>∃(t5e:Value) (t6e:Value) (t7e:Value),w4=w'∧l'=((((l.set 33 t5e).set 34 t6e).set 35 t7e).set 36 (.bool m3e))) ?_ ?_
    ·intro HJ118
     rcases bft z3b with e3a | e3a
     ·have p4i:=zP hz3b e3a
      have f5i:=ifP p4i h4e
      refine sV (Aa rfl) ?_ (hw:=wgT rfl e3a)
      refine sV (AD CA rfl) ?_ (hw:=wgT rfl e3a)
      refine sb (Ce rfl rfl) ?_ (hw:=wgT rfl e3a)
      intro z6b hz6b
      refine nrm ?_
      refine sV (AB (evb rfl e3a) rfl) ?_
      obtain rfl:z6b=decide ((sz r4a.1:Int)=1):=bz hz6b
      obtain rfl:=sj f5i
      exact HJ118 _ _ ⟨(.slice A0e (sz r4a.1) c1e),(.int .i64 (sz r4a.1:Int)),(.bool (decide ((sz r4a.1:Int)=1))),rfl,(by simp only [S0,S1]<;>rfl)⟩
     ·have p6i:=zN hz3b e3a
      have f7i:=ifN p6i h4e
      refine sP ?_ (hw:=wgF rfl e3a)
      refine sP ?_ (hw:=wgF rfl e3a)
      refine sP ?_ (hw:=wgF rfl e3a)
      refine sV (AF (evb rfl e3a) rfl) ?_
      obtain rfl:=sj f7i
      exact HJ118 _ _ ⟨uu,uu,uu,rfl,(by simp only [S0,S1]<;>rfl)⟩
    ·rintro l' _ ⟨t5e,t6e,t7e,rfl,hq'⟩ l'' hl
     rw [hq'] at hl
     clear hq'
     simp only [S0,S1] at hl
     subst hl
     refine sV (Aa rfl) ?_
     obtain ⟨m8i,h8e,f9i⟩:=Ab f3i
     refine Ca 13 (fun l l' w'=>∃(t9e:Value) (t0f:Value) (t1f:Value) (t2f:Value),w4=w'∧l'=(((((l.set 38 t9e).set 39 t0f).set 40 t1f).set 41 t2f).set 42 (.bool m8i))) ?_ ?_
     ·intro HJ149
      rcases bft m3e with e2a | e2a
      ·have p0j:=e2a
       have f1j:=ifP p0j h8e
       refine sV (Aa rfl) ?_ (hw:=wgT rfl e2a)
       obtain ⟨u7b,h2j,f3j⟩:=Ab f1j
       obtain ⟨bb158,oo159,hA4j,ia5j,ib6j,hc161⟩:=RL.nth n1i h2j
       refine sV (Ay CA As rfl rfl hA4j ia5j ib6j) ?_ (hw:=wgT rfl e2a)
       refine sV (Ag AV rfl hc161) ?_ (hw:=wgT rfl e2a)
       refine sb (Ce rfl rfl) ?_ (hw:=wgT rfl e2a)
       intro z8b hz8b
       refine nrm ?_
       refine sV (AB (evb rfl e2a) rfl) ?_
       obtain rfl:z8b=decide (u7b=1):=bz hz8b
       obtain rfl:=sj f3j
       exact HJ149 _ _ ⟨(.slice A0e (sz r4a.1) c1e),(.pointer (some ⟨bb158,oo159+(0:Int).toNat,none⟩)),(.int .u32 u7b),(.bool (decide (u7b=1))),rfl,(by simp only [S0,S1]<;>rfl)⟩
      ·have p7j:=bF e2a
       have f8j:=ifN p7j h8e
       refine sP ?_ (hw:=wgF rfl e2a)
       refine sP ?_ (hw:=wgF rfl e2a)
       refine sP ?_ (hw:=wgF rfl e2a)
       refine sP ?_ (hw:=wgF rfl e2a)
       refine sV (AF (evb rfl e2a) rfl) ?_
       obtain rfl:=sj f8j
       exact HJ149 _ _ ⟨uu,uu,uu,uu,rfl,(by simp only [S0,S1]<;>rfl)⟩
     ·rintro l' _ ⟨t9e,t0f,t1f,t2f,rfl,hq'⟩ l'' hl
      rw [hq'] at hl
      clear hq'
      simp only [S0,S1] at hl
      subst hl
      refine sV (Ac rfl) ?_
      refine Ad<|h2e _ _<|wp_ret ?_
      obtain rfl:=sj f9i
      exact fin rfl (Res.tmp rfl Res.nil) (Ak X2i rfl)
theorem KP (x0:De) (A1:Option Addr) (c2:Nat) (A4:Option Addr) (c5:Nat) (w:World) (hT:TB w) (n3:RU w A1 c2 x0.Num.Abs) (n6:RU w A4 c5 x0.Den) (r:An × An) (hr:GV x0=some r) :
  Calls Tryz.prog 142 #[.agg #[.bool x0.Num.Neg,.slice A1 (sz x0.Num.Abs) c2,.slice A4 (sz x0.Den) c5]] w (Ret rep_119_119 w r):=by
 unfold GV at hr
 go_enter Tryz.func142,Tryz.ntmps142
 refine wp_seq_k fun K7 h7=>Af<|BT rfl rfl fun b8 w1 E9 g2f q3b=>?_
 refine nrm ?_
 refine Aw Ba fun b3f w2 E7a g1c q4b=>?_
 refine nrm ?_
 have g2c:=nlt E9.size g1c
 have X5b:=xtr E9 E7a
 refine Aw Ba fun b4f w3 E2a g6b q3c=>?_
 refine nrm ?_
 have g4c:=nlt X5b.size g6b
 have X5c:=xtr X5b E2a
 refine Ad<|h7 _ _<|wp_seq_k fun K7b h7b=>Ei [8,9] 10 mo rfl fun w4 E0a S8a=>have X9a:=xtr X5c E0a;dA 0 rfl (fun _=>Ai (o':=0) MR rfl rfl) ?_
 refine dV 1 rfl (fun _ hw=>AH FY rfl ((((q3b.ext E7a).ext E2a).ext E0a).ext hw) (by simp only [List.drop_zero,List.take_succ_cons,List.take_zero];rfl) rfl) S8a ?_
 refine dA 4 rfl (fun _=>Ai (o':=2) LM rfl rfl) ?_
 refine dV 5 rfl (fun _ hw=>Ag EQ rfl (Bx.cell ((((q3b.ext E7a).ext E2a).ext E0a).ext hw) rfl)) S8a ?_
 refine dA 6 rfl (fun _=>Bc (vals:=[(1,.slice A4 (sz x0.Den) c5)]) (cells:=[.bool false,.slice A4 (sz x0.Den) c5]) (by rfl) (by kernel_rfl)) ?_
 obtain ⟨r8b,h6c,f7c⟩:=Ab hr
 refine dc 2 rfl (by kernel_rfl) (by rfl) (Ae NE (by rfl)) (Kf x0.Num A1 c2 w4 (tbx X9a hT) (n3.ext X9a) r8b h6c) ?_
 rintro _ w5 E3a ⟨A8c,c9c,rfl,n0d⟩
 refine dnrm ?_
 have X9b:=xtr X9a E3a
 have S1d:=S8a.trans E3a
 obtain ⟨r2d,h3d,f4d⟩:=Ab f7c
 refine dc 3 rfl (by kernel_rfl) (by rfl) (Ae Ky (by rfl)) (FE r8b 0 A8c c9c w5 (tbx X9b hT) n0d r2d h3d) ?_
 rintro _ w6 E4a ⟨A5d,c6d,rfl,n7d⟩
 refine dnrm ?_
 have X0b:=xtr X9b E4a
 have S8d:=S1d.trans E4a
 obtain ⟨r9d,h0e,f1e⟩:=Ab f4d
 refine dc 7 rfl (by kernel_rfl) (by rfl) (Ae Ky (by rfl)) (FE (⟨false,x0.Den⟩:Ah) 0 A4 c5 w6 (tbx X0b hT) (n6.ext X0b) r9d h0e) ?_
 rintro _ w7 E1a ⟨A2e,c3e,rfl,n4e⟩
 refine dnrm ?_
 have X5e:=xtr X0b E1a
 have S5f:=S8d.trans E1a
 have q1b:=((((q4b.ext E2a).ext E0a).ext E3a).ext E4a).ext E1a
 refine dk 8 rfl (by kernel_rfl) (by decide) (by rfl) BX rfl rfl q1b rfl rfl rfl rfl (by simp only [SP0,SP1,S0,S1,Nat.reduceAdd];rfl) fun w8 U5a q6e=>?_
 have X7e:=belU X5e U5a g2c
 have ne0c:=(Bx.ne q4b g6b).symm
 have q2b:=((((q3c.ext E0a).ext E3a).ext E4a).ext E1a).upd U5a ne0c
 refine dk 9 rfl (by kernel_rfl) (by decide) (by rfl) BX rfl rfl q2b rfl rfl rfl rfl (by simp only [SP0,SP1,S0,S1,Nat.reduceAdd];rfl) fun w9 U6a q8e=>?_
 have X9e:=belU X7e U6a g4c
 refine CU (by kernel_rfl) ?_
 refine h7b _ _<|wp_ret ?_
 have n0f:=((n7d.ext E1a).upd U5a q1b (by decide)).upd U6a q2b (by decide)
 have n1f:=(n4e.upd U5a q1b (by decide)).upd U6a q2b (by decide)
 obtain rfl:=sj f1e
 exact fin rfl (Res.cellN rfl AE (q6e.upd U6a (Ne.symm ne0c)) rfl rfl (Res.cellN rfl AE q8e rfl rfl Res.nil)) (Ak X9e ⟨A5d,c6d,A2e,c3e,rfl,n0f,n1f⟩)
theorem c_dyad_FromRat (x0:Gm) (x1:Int) (x2:Int) (A1:Option Addr) (c2:Nat) (A4:Option Addr) (c5:Nat) (w:World) (hT:TB w) (n3:RLu w A1 c2 x0.Num.Abs) (n6:RLu w A4 c5 x0.Den) (r:Al × Int) (hr:EX x0 x1 x2=some r) :
  Calls Tryz.prog 56 #[.agg #[.bool x0.Num.Neg,.slice A1 x0.Num.Abs.length c2,.slice A4 x0.Den.length c5],.int .i64 x1,.int .i64 x2] w (Ret Lu w r):=by
 unfold EX at hr
 obtain ⟨q0,hq0,hr0⟩:=Ab hr
 unfold Iq at hq0
 go_enter_defers Tryz.func56,Tryz.ntmps56
 refine wp_seq_k fun K7 h7=>Af<|BT rfl rfl fun b8 w1 E9 g9g q2d=>?_
 refine nrm ?_
 refine Aw FM fun b5b w2 E7b g3d q9a=>?_
 refine nrm ?_
 have g8b:=nlt E9.size g3d
 have X5e:=xtr E9 E7b
 refine Aw Iw fun b0c w3 E8a g0h q0b=>?_
 refine nrm ?_
 have g1c:=nlt X5e.size g0h
 have X2c:=xtr X5e E8a
 refine Ad<|h7 _ _<|wp_seq_k fun K6e h6e=>Af<|Ha (vs:=[.pointer (some ⟨b5b,0,none⟩),.pointer (some ⟨b0c,0,none⟩)]) (by rfl) (by rfl)<|Ad<|h6e _ _<|wp_seq_k fun K7e h7e=>Af<|sV (Am JG rfl ((q2d.ext E7b).ext E8a) rfl) ?_
 obtain ⟨r4d,h1h,f2h⟩:=Ab hq0
 refine sc (Ae OO (by rfl)) (Kw x0 A1 c2 A4 c5 w3 (tbx X2c hT) (n3.ext X2c) (n6.ext X2c) r4d h1h) ?_
 rintro _ w4 E2a rfl
 refine nrm ?_
 have X3c:=xtr X2c E2a
 rcases AG f2h with ⟨r4c,h5d,f3h⟩ | ⟨r4c,h5d,rfl⟩
 ·refine scO (Ae Dh (by rfl)) (AN r4d 1 w4 (tbx X3c hT)  (.ok r4c) h5d) ?_
  rintro _ w5 E0a rfl
  refine nrm ?_
  have X5c:=xtr X3c E0a
  refine Ad<|h7e _ _<|wp_seq_k fun K8e h8e=>Af<|sV (Aa rfl) ?_
  rcases AG f3h with ⟨r6c,h6d,f4h⟩ | ⟨r6c,h6d,rfl⟩
  ·refine scO (Ae Jk (by rfl)) (EH x1 w5 (tbx X5c hT)  (.ok r6c) h6d) ?_
   rintro _ w6 E3a rfl
   refine nrm ?_
   have X7c:=xtr X5c E3a
   refine Ad<|h8e _ _<|wp_seq_k fun K9e h9e=>Af<|sV (Aa rfl) ?_
   rcases AG f4h with ⟨r8c,h7d,f5h⟩ | ⟨r8c,h7d,rfl⟩
   ·refine scO (Ae MQ (by rfl)) (Hk x2 w6 (tbx X7c hT)  (.ok r8c) h7d) ?_
    rintro _ w7 E4a rfl
    refine nrm ?_
    have X9c:=xtr X7c E4a
    refine Ad<|h9e _ _<|wp_seq_k fun K0f h0f=>Af<|have q6h:=(((((q2d.ext E7b).ext E8a).ext E2a).ext E0a).ext E3a).ext E4a;sV (Am JG rfl q6h rfl) ?_
    obtain ⟨m1f,h7h,f8h⟩:=Ab f5h
    have hx2f:=BD h7h
    have n9h:RU w7 A1 c2 m1f:=by unfold RU;rw [hx2f];exact (n3.ext X9c)
    obtain ⟨m3f,h0i,f1i⟩:=Ab f8h
    have hx4f:=BD h0i
    have n2i:RU w7 A4 c5 m3f:=by unfold RU;rw [hx4f];exact (n6.ext X9c)
    obtain ⟨r8d,h3i,f4i⟩:=Ab f1i
    refine sc (Ae Ph (by simp only [sz,hx2f,hx4f];rfl)) (KP (⟨(⟨x0.Num.Neg,m1f⟩:Ah),m3f⟩:De) A1 c2 A4 c5 w7 (tbx X9c hT) n9h n2i r8d h3i) ?_
    rintro _ w8 E7a ⟨A5i,c6i,A7i,c8i,rfl,n9i,n0j⟩
    refine nrm ?_
    have X5f:=xtr X9c E7a
    refine sV (Aa rfl) ?_
    refine sV (Ap rfl rfl) ?_
    refine sV (Ap rfl rfl) ?_
    refine Aw Ba fun b6m w9 E6a g1j q2b=>?_
    refine nrm ?_
    have g2j:=nlt X5f.size g1j
    have X6f:=xtr X5f E6a
    refine Aw Ba fun b7m w9g E1a g7f q6b=>?_
    refine nrm ?_
    have g3j:=nlt X6f.size g7f
    have X4j:=xtr X6f E1a
    refine Ax BX rfl rfl (q2b.ext E1a) rfl rfl rfl rfl (by simp only [SP0,SP1,S0,S1,Nat.reduceAdd];rfl) fun w2d U5a q5j=>?_
    have X6j:=belU X4j U5a g2j
    have ne3b:=(Bx.ne q2b g7f).symm
    refine Ax BX rfl rfl (q6b.upd U5a ne3b) rfl rfl rfl rfl (by simp only [SP0,SP1,S0,S1,Nat.reduceAdd];rfl) fun w5b U1b q7j=>?_
    have X8f:=belU X6j U1b g3j
    refine Ad<|h0f _ _<|wp_seq_k fun K9f h9f=>Af<|sV (Am AE rfl (q5j.upd U1b (Ne.symm ne3b)) rfl) ?_
    refine sV (Am AE rfl q7j rfl) ?_
    refine sV (Aa rfl) ?_
    refine sV (Aa rfl) ?_
    have n8j:=(((n9i.ext E6a).ext E1a).upd U5a (q2b.ext E1a) (by decide)).upd U1b (q6b.upd U5a ne3b) (by decide)
    have n9j:=(((n0j.ext E6a).ext E1a).upd U5a (q2b.ext E1a) (by decide)).upd U1b (q6b.upd U5a ne3b) (by decide)
    obtain ⟨r9d,h0k,f1k⟩:=Ab f4i
    refine sc (Ae CY (by rfl)) (Au r8d.1 r8d.2 x1 x2 A5i c6i A7i c8i w5b (tbx X8f hT) n8j n9j r9d h0k) ?_
    rintro _ w7b E9b ⟨A0g,c1g,rfl,n2g⟩
    refine nrm ?_
    have X0d:=xtr X8f E9b
    rcases AG f1k with ⟨r1d,h0e,f2k⟩ | ⟨r1d,h0e,rfl⟩
    ·refine scO (Ae Jh (by rfl)) (Dc r9d A0g c1g w7b (tbx X0d hT) n2g (.ok r1d) h0e) ?_
     rintro _ w3d E4b ⟨A3k,c4k,rfl,n5k⟩
     refine nrm ?_
     have X6k:=xtr X0d E4b
     have ne3g:=(Bx.neT ((((((((q9a.ext E8a).ext E2a).ext E0a).ext E3a).ext E4a).ext E7a).ext E6a).ext E1a) (q2b.ext E1a) (by decide))
     have ne7k:=(Bx.neT (((((((((q9a.ext E8a).ext E2a).ext E0a).ext E3a).ext E4a).ext E7a).ext E6a).ext E1a).upd U5a ne3g) (q6b.upd U5a ne3b) (by decide))
     have q1e:=(((((((((((q9a.ext E8a).ext E2a).ext E0a).ext E3a).ext E4a).ext E7a).ext E6a).ext E1a).upd U5a ne3g).upd U1b ne7k).ext E9b).ext E4b
     refine Ax DU rfl rfl q1e rfl rfl rfl rfl (by simp only [SP0,SP1,S0,S1,Nat.reduceAdd];rfl) fun w9a U2e q8k=>?_
     have X9k:=belU X6k U2e g8b
     have ne3e:=(Bx.neT (((((((q0b.ext E2a).ext E0a).ext E3a).ext E4a).ext E7a).ext E6a).ext E1a) (q2b.ext E1a) (by decide))
     have ne4g:=(Bx.neT ((((((((q0b.ext E2a).ext E0a).ext E3a).ext E4a).ext E7a).ext E6a).ext E1a).upd U5a ne3e) (q6b.upd U5a ne3b) (by decide))
     have ne5g:=(Bx.neT (((((((((((q0b.ext E2a).ext E0a).ext E3a).ext E4a).ext E7a).ext E6a).ext E1a).upd U5a ne3e).upd U1b ne4g).ext E9b).ext E4b) q1e (by decide))
     have q6g:=(((((((((((q0b.ext E2a).ext E0a).ext E3a).ext E4a).ext E7a).ext E6a).ext E1a).upd U5a ne3e).upd U1b ne4g).ext E9b).ext E4b).upd U2e ne5g
     refine Ax GA rfl rfl q6g rfl rfl rfl rfl (by simp only [SP0,SP1,S0,S1,Nat.reduceAdd];rfl) fun w8b U4e q0l=>?_
     have X1l:=belU X9k U4e g1c
     refine Ad<|h9f _ _<|wp_ret ?_
     have n2l:=(n5k.upd U2e q1e (by decide)).upd U4e q6g (by decide)
     obtain rfl:=sj f2k
     obtain rfl:=sj hr0
     exact LH Fc HC rfl (Res.cellN rfl Bk (q8k.upd U4e (Ne.symm ne5g)) rfl rfl (Res.cell1 rfl Ck (Bx.cell q0l rfl) Res.nil)) (Ak X1l ⟨A3k,c4k,rfl,n2l⟩)
    ·refine scP (Ae Jh (by rfl)) (Dc r9d A0g c1g w7b (tbx X0d hT) n2g (.error r1d) h0e) fun w3d E4b=>?_
     have X3l:=xtr X0d E4b
     have ne7g:=(Bx.neT ((((((((q9a.ext E8a).ext E2a).ext E0a).ext E3a).ext E4a).ext E7a).ext E6a).ext E1a) (q2b.ext E1a) (by decide))
     have ne4l:=(Bx.neT (((((((((q9a.ext E8a).ext E2a).ext E0a).ext E3a).ext E4a).ext E7a).ext E6a).ext E1a).upd U5a ne7g) (q6b.upd U5a ne3b) (by decide))
     have q5l:=(((((((((((q9a.ext E8a).ext E2a).ext E0a).ext E3a).ext E4a).ext E7a).ext E6a).ext E1a).upd U5a ne7g).upd U1b ne4l).ext E9b).ext E4b
     have ne8g:=(Bx.neT (((((((q0b.ext E2a).ext E0a).ext E3a).ext E4a).ext E7a).ext E6a).ext E1a) (q2b.ext E1a) (by decide))
     have ne6l:=(Bx.neT ((((((((q0b.ext E2a).ext E0a).ext E3a).ext E4a).ext E7a).ext E6a).ext E1a).upd U5a ne8g) (q6b.upd U5a ne3b) (by decide))
     have q7l:=((((((((((q0b.ext E2a).ext E0a).ext E3a).ext E4a).ext E7a).ext E6a).ext E1a).upd U5a ne8g).upd U1b ne6l).ext E9b).ext E4b
     refine HR HC (BY b5b b0c (.bool false:Value) (.slice none 0 0:Value) (.int .i64 0:Value) (.int .i64 0:Value) r1d q5l q7l) rfl ?_
     rintro w9 ⟨u9,q9,q9'⟩
     obtain rfl:=sj hr0
     exact ⟨_,(Res.cellN rfl Bk q9 rfl rfl (Res.cell1 rfl Ck (Bx.cell q9' rfl) Res.nil)),Ak (u9.toExt X3l g8b g1c) ⟨none,0,rfl,RU.nil _⟩⟩
   ·refine scP (Ae MQ (by rfl)) (Hk x2 w6 (tbx X7c hT)  (.error r8c) h7d) fun w7 E4a=>?_
    have X8l:=xtr X7c E4a
    have q9l:=((((q9a.ext E8a).ext E2a).ext E0a).ext E3a).ext E4a
    have q0m:=(((q0b.ext E2a).ext E0a).ext E3a).ext E4a
    refine HR HC (BY b5b b0c (.bool false:Value) (.slice none 0 0:Value) (.int .i64 0:Value) (.int .i64 0:Value) r8c q9l q0m) rfl ?_
    rintro w9 ⟨u9,q9,q9'⟩
    obtain rfl:=sj hr0
    exact ⟨_,(Res.cellN rfl Bk q9 rfl rfl (Res.cell1 rfl Ck (Bx.cell q9' rfl) Res.nil)),Ak (u9.toExt X8l g8b g1c) ⟨none,0,rfl,RU.nil _⟩⟩
  ·refine scP (Ae Jk (by rfl)) (EH x1 w5 (tbx X5c hT)  (.error r6c) h6d) fun w6 E3a=>?_
   have X1m:=xtr X5c E3a
   have q2m:=(((q9a.ext E8a).ext E2a).ext E0a).ext E3a
   have q3m:=((q0b.ext E2a).ext E0a).ext E3a
   refine HR HC (BY b5b b0c (.bool false:Value) (.slice none 0 0:Value) (.int .i64 0:Value) (.int .i64 0:Value) r6c q2m q3m) rfl ?_
   rintro w9 ⟨u9,q9,q9'⟩
   obtain rfl:=sj hr0
   exact ⟨_,(Res.cellN rfl Bk q9 rfl rfl (Res.cell1 rfl Ck (Bx.cell q9' rfl) Res.nil)),Ak (u9.toExt X1m g8b g1c) ⟨none,0,rfl,RU.nil _⟩⟩
 ·refine scP (Ae Dh (by rfl)) (AN r4d 1 w4 (tbx X3c hT)  (.error r4c) h5d) fun w5 E0a=>?_
  have X4m:=xtr X3c E0a
  have q5m:=((q9a.ext E8a).ext E2a).ext E0a
  refine HR HC (BY b5b b0c (.bool false:Value) (.slice none 0 0:Value) (.int .i64 0:Value) (.int .i64 0:Value) r4c q5m ((q0b.ext E2a).ext E0a)) rfl ?_
  rintro w9 ⟨u9,q9,q9'⟩
  obtain rfl:=sj hr0
  exact ⟨_,(Res.cellN rfl Bk q9 rfl rfl (Res.cell1 rfl Ck (Bx.cell q9' rfl) Res.nil)),Ak (u9.toExt X4m g8b g1c) ⟨none,0,rfl,RU.nil _⟩⟩
theorem c_sorobanlaw04_valid__2 (x0_0:Aq) (x0_1:Aq) (bp0:Nat) (A1:Option Addr) (c2:Nat) (A4:Option Addr) (c5:Nat) (w:World) (hT:TB w) (n3:RLu w A1 c2 x0_0.Man.Abs) (n6:RLu w A4 c5 x0_1.Man.Abs) (q7:Bx w bp0 27 [.bool x0_0.Man.Neg,.slice A1 x0_0.Man.Abs.length c2,.int .i64 x0_0.Exp,.bool x0_1.Man.Neg,.slice A4 x0_1.Man.Abs.length c5,.int .i64 x0_1.Exp]) (r:Bool) (hr:DB x0_0 x0_1=some r) :
  Calls Tryz.prog 33 #[.slice (some ⟨bp0,0,none⟩) 2 2] w (Ret Fy w r):=by
 unfold DB at hr
 go_enter Tryz.func33,Tryz.ntmps33
 refine wp_seq_k fun K8 h8=>Af<|sV (Ac rfl) ?_
 refine Ad<|h8 _ _<|wp_seq_k fun K9 h9=>wp_seq_k fun K4b h4b=>Af<|sV (Ac rfl) ?_
 refine Ad<|h4b _ _ ?_
 apply wp_block
 refine GO<|Bg<|wp_seq_k fun K5b h5b=>wp_seq_k fun K6b h6b=>Af<|sV (Aa rfl) ?_
 refine sV (Aa rfl) ?_
 refine sV (AD HN rfl) ?_
 refine sV (HO (v:=.bool true) (Cm rfl rfl) (by rfl)) ?_
 refine Ad<|h6b _ _<|wp_cond_true (Aj (evb rfl rfl))<|wp_skip<|h5b _ _<|wp_seq_k fun K7b h7b=>?_
 apply wp_block
 refine wp_seq_k fun K8b h8b=>Af<|sV (Aa rfl) ?_
 refine sV (Aa rfl) ?_
 refine sV (FO (o':=0) HN DU rfl rfl (by decide) (by decide) (by decide)) ?_
 refine sV (AH Bk rfl q7 (by simp only [List.drop_zero,List.take_succ_cons,List.take_zero];rfl) rfl) ?_
 obtain ⟨r7e,h8e,f9e⟩:=Ab hr
 refine sc (Ae PK (by rfl)) (Ie x0_0 A1 c2 w hT n3 r7e h8e) ?_
 rintro _ w1 E2a rfl
 refine nrm ?_
 refine sb (ER rfl) fun z5a hz5a=>?_
 refine nrm ?_
 refine sV (Aa rfl) ?_
 obtain ⟨m9b,h0c,f1c⟩:=Ab f9e
 refine Ca 14 (fun l l' w'=>∃(t2c:Value) (t3c:Value) (t4c:Value) (t5c:Value) (t6c:Value) (t7c:Value),UpdS [] w1 w'∧l'=(((((((l.set 17 t2c).set 18 t3c).set 19 t4c).set 20 t5c).set 21 t6c).set 22 t7c).set 23 (.bool m9b))) ?_ ?_
 ·intro HJ41
  rcases bft z5a with e0a | e0a
  ·have p0f:=zP hz5a e0a
   have f1f:=ifP p0f h0c
   refine sP ?_ (hw:=wgF rfl e0a)
   refine sP ?_ (hw:=wgF rfl e0a)
   refine sP ?_ (hw:=wgF rfl e0a)
   refine sP ?_ (hw:=wgF rfl e0a)
   refine sP ?_ (hw:=wgF rfl e0a)
   refine sP ?_ (hw:=wgF rfl e0a)
   refine sV (AB (evb rfl e0a) rfl) ?_
   obtain rfl:=sj f1f
   exact HJ41 _ _ ⟨uu,uu,uu,uu,uu,uu,(UpdS.refl _ _),(by simp only [S0,S1]<;>rfl)⟩
  ·have p2f:=zN hz5a e0a
   have f3f:=ifN p2f h0c
   refine sV (Aa rfl) ?_ (hw:=wgT rfl e0a)
   refine sV (Aa rfl) ?_ (hw:=wgT rfl e0a)
   refine sV (FO (o':=0) HN DU rfl rfl (by decide) (by decide) (by decide)) ?_ (hw:=wgT rfl e0a)
   refine sV (AH Bk rfl (q7.ext E2a) (by simp only [List.drop_zero,List.take_succ_cons,List.take_zero];rfl) rfl) ?_ (hw:=wgT rfl e0a)
   obtain ⟨r6a,h4f,f5f⟩:=Ab f3f
   refine sc (Ae Mg (by rfl)) (Gb x0_0 A1 c2 w1 (tbx E2a hT) (n3.ext E2a) r6a h4f) ?_ (hw:=wgT rfl e0a)
   rintro _ w2 E6f rfl
   refine nrm ?_
   refine sb (ER rfl) ?_ (hw:=wgT rfl e0a)
   intro z1b hz1b
   refine nrm ?_
   refine sV (AF (evb rfl e0a) rfl) ?_
   obtain rfl:z1b=decide (¬(r6a=true)):=bz hz1b
   obtain rfl:=sj f5f
   exact HJ41 _ _ ⟨(.slice (some ⟨bp0,0,none⟩) 2 2),(.int .i64 0),(.pointer (some ⟨bp0,0,none⟩)),(.agg #[.bool x0_0.Man.Neg,.slice A1 x0_0.Man.Abs.length c2,.int .i64 x0_0.Exp]),(.bool r6a),(.bool (decide (¬(r6a=true)))),((UpdS.refl _ _).ext E6f),(by simp only [S0,S1]<;>rfl)⟩
 ·rintro l' w2 ⟨t2c,t3c,t4c,t5c,t6c,t7c,U2b,hq'⟩ l'' hl
  rw [hq'] at hl
  clear hq'
  simp only [S0,S1] at hl
  subst hl
  have X7a:=JN E2a U2b (E2a).size al0
  refine Ad<|h8b _ _ ?_
  rcases bft m9b with e3a | e3a
  ·have p7f:=e3a
   have f64:=ifP p7f f1c
   refine wp_cond_true (Aj (evb rfl e3a))<|wp_seq_k fun K8c h8c=>Af<|sV (Ac rfl) ?_
   refine Ad<|h8c _ _<|wp_ret ?_
   obtain rfl:=sj f64
   exact fin rfl (Res.tmp rfl Res.nil) (Ak X7a rfl)
  ·have p8f:=bF e3a
   have f9f:=ifN p8f f1c
   refine wp_cond_false (Aj (evb rfl e3a))<|wp_skip<|h7b _ _<|Af<|sV (Aa rfl) ?_
   refine sV (Bd (c:=1) rfl rfl (by decide)) ?_
   refine sV (Ac rfl) ?_
   refine Ad<|Bg<|wp_seq_k fun K9c h9c=>wp_seq_k fun K0d h0d=>Af<|sV (Aa rfl) ?_
   refine sV (Aa rfl) ?_
   refine sV (AD HN rfl) ?_
   refine sV (HO (v:=.bool true) (Cm rfl rfl) (by rfl)) ?_
   refine Ad<|h0d _ _<|wp_cond_true (Aj (evb rfl rfl))<|wp_skip<|h9c _ _<|wp_seq_k fun K1d h1d=>?_
   apply wp_block
   refine wp_seq_k fun K2d h2d=>Af<|sV (Aa rfl) ?_
   refine sV (Aa rfl) ?_
   refine sV (FO (o':=3) HN DU rfl rfl (by decide) (by decide) (by decide)) ?_
   refine sV (AH Bk rfl ((q7.ext E2a).updS U2b nm0) (by simp only [List.drop_succ_cons,List.drop_zero,List.take_succ_cons,List.take_zero];rfl) rfl) ?_
   obtain ⟨r0g,h1g,f2g⟩:=Ab f9f
   refine sc (Ae PK (by rfl)) (Ie x0_1 A4 c5 w2 (tbx X7a hT) (n6.ext X7a) r0g h1g) ?_
   rintro _ w3 E3d rfl
   refine nrm ?_
   have X8a:=xtr X7a E3d
   refine sb (ER rfl) fun z9a hz9a=>?_
   refine nrm ?_
   refine sV (Aa rfl) ?_
   obtain ⟨m4d,h5d,f6d⟩:=Ab f2g
   refine Ca 14 (fun l l' w'=>∃(t7d:Value) (t8d:Value) (t9d:Value) (t0e:Value) (t1e:Value) (t2e:Value),UpdS [] w3 w'∧l'=(((((((l.set 17 t7d).set 18 t8d).set 19 t9d).set 20 t0e).set 21 t1e).set 22 t2e).set 23 (.bool m4d))) ?_ ?_
   ·intro HJ97
    rcases bft z9a with e1a | e1a
    ·have p3g:=zP hz9a e1a
     have f4g:=ifP p3g h5d
     refine sP ?_ (hw:=wgF rfl e1a)
     refine sP ?_ (hw:=wgF rfl e1a)
     refine sP ?_ (hw:=wgF rfl e1a)
     refine sP ?_ (hw:=wgF rfl e1a)
     refine sP ?_ (hw:=wgF rfl e1a)
     refine sP ?_ (hw:=wgF rfl e1a)
     refine sV (AB (evb rfl e1a) rfl) ?_
     obtain rfl:=sj f4g
     exact HJ97 _ _ ⟨uu,uu,uu,uu,uu,uu,(UpdS.refl _ _),(by simp only [S0,S1]<;>rfl)⟩
    ·have p5g:=zN hz9a e1a
     have f6g:=ifN p5g h5d
     refine sV (Aa rfl) ?_ (hw:=wgT rfl e1a)
     refine sV (Aa rfl) ?_ (hw:=wgT rfl e1a)
     refine sV (FO (o':=3) HN DU rfl rfl (by decide) (by decide) (by decide)) ?_ (hw:=wgT rfl e1a)
     have q7g:=((q7.ext E2a).updS U2b nm0).ext E3d
     refine sV (AH Bk rfl q7g (by simp only [List.drop_succ_cons,List.drop_zero,List.take_succ_cons,List.take_zero];rfl) rfl) ?_ (hw:=wgT rfl e1a)
     obtain ⟨r0b,h8g,f9g⟩:=Ab f6g
     refine sc (Ae Mg (by rfl)) (Gb x0_1 A4 c5 w3 (tbx X8a hT) (n6.ext X8a) r0b h8g) ?_ (hw:=wgT rfl e1a)
     rintro _ w4 E0h rfl
     refine nrm ?_
     refine sb (ER rfl) ?_ (hw:=wgT rfl e1a)
     intro z3b hz3b
     refine nrm ?_
     refine sV (AF (evb rfl e1a) rfl) ?_
     obtain rfl:z3b=decide (¬(r0b=true)):=bz hz3b
     obtain rfl:=sj f9g
     exact HJ97 _ _ ⟨(.slice (some ⟨bp0,0,none⟩) 2 2),(.int .i64 1),(.pointer (some ⟨bp0,3,none⟩)),(.agg #[.bool x0_1.Man.Neg,.slice A4 x0_1.Man.Abs.length c5,.int .i64 x0_1.Exp]),(.bool r0b),(.bool (decide (¬(r0b=true)))),((UpdS.refl _ _).ext E0h),(by simp only [S0,S1]<;>rfl)⟩
   ·rintro l' w4 ⟨t7d,t8d,t9d,t0e,t1e,t2e,U1h,hq'⟩ l'' hl
    rw [hq'] at hl
    clear hq'
    simp only [S0,S1] at hl
    subst hl
    have X3e:=JN X8a U1h (X8a).size al0
    refine Ad<|h2d _ _ ?_
    rcases bft m4d with e4a | e4a
    ·have p2h:=e4a
     have f3h:=ifP p2h f6d
     refine wp_cond_true (Aj (evb rfl e4a))<|wp_seq_k fun K4e h4e=>Af<|sV (Ac rfl) ?_
     refine Ad<|h4e _ _<|wp_ret ?_
     obtain rfl:=sj f3h
     exact fin rfl (Res.tmp rfl Res.nil) (Ak X3e rfl)
    ·have p4h:=bF e4a
     have f5h:=ifN p4h f6d
     refine wp_cond_false (Aj (evb rfl e4a))<|wp_skip<|h1d _ _<|Af<|sV (Aa rfl) ?_
     refine sV (Bd (c:=2) rfl rfl (by decide)) ?_
     refine sV (Ac rfl) ?_
     refine Ad<|Bg<|wp_seq_k fun K6h h6h=>wp_seq_k fun K5e h5e=>Af<|sV (Aa rfl) ?_
     refine sV (Aa rfl) ?_
     refine sV (AD HN rfl) ?_
     refine sV (HO (v:=.bool false) (Cm rfl rfl) (by rfl)) ?_
     refine Ad<|h5e _ _<|wp_cond_false (Aj (evb rfl rfl))<|wp_exit ?_
     simp only [Exit.then,Exit.inBlock,↓reduceIte,Nat.reduceEqDiff]
     refine h9 _ _<|wp_seq_k fun K6e h6e=>Af<|sV (Ac rfl) ?_
     refine Ad<|h6e _ _<|wp_ret ?_
     obtain rfl:=sj f5h
     exact fin rfl (Res.tmp rfl Res.nil) (Ak X3e rfl)
theorem Fp (b b':Nat) (v0:Value) (u:Value) (n:Int) {w:World} (qa:Bx w b 3 [v0]) (qb:Bx w b' 33 [u]) :
  CallsD Tryz.prog 119 #[.pointer (some ⟨b,0,none⟩),.pointer (some ⟨b',0,none⟩)] (.panicking [entry 201 n]) w fun e u' w'=>e = .returned (.tuple #[])∧u' = .panicking [{ entry 201 n with recovered:=true }]∧(Upd2 b b' w w'∧Bx w' b 3 [.int .i64 0]∧Bx w' b' 33 [.int .i64 n]):=by
 refine Jf Tryz.func119 rfl [.pointer (some ⟨b,0,none⟩),.pointer (some ⟨b',0,none⟩),uu,uu,uu,uu,uu,uu,uu,uu,uu,uu,uu,uu,uu,uu,uu,uu,uu,uu,uu,uu,uu,uu,uu,uu] (by simp [Tryz.ntmps119]) fun c₀ cs hu=>?_
 apply wpS_seq
 refine Pv hu rfl ?_
 simp only [S0,S1]
 refine wpS_of_wp<|wp_seq_k fun K1 h1=>Af<|sV (Aa rfl) ?_
 refine sV (KV Kx rfl) ?_
 refine Ad<|h1 _ _<|wp_cond_true (Aj (evb rfl rfl))<|wp_seq_k fun K2 h2=>Af<|sV (Aa rfl) ?_
 refine sV (Kj Ml rfl) ?_
 refine sV (Aa rfl) ?_
 refine sV (Ap rfl rfl) ?_
 refine sV (Ap rfl rfl) ?_
 refine Aw MP fun b3 w1 E4 g5 q6=>?_
 refine nrm ?_
 have X7:=(Upd2.refl b b' w).ext E4
 refine Ax MJ rfl rfl q6 rfl rfl rfl rfl (by simp only [SP0,SP1,S0,S1,Nat.reduceAdd];rfl) fun w2 U8 q9=>?_
 have X0b:=X7.upd U8 (.inl g5)
 refine sV (Ac rfl) ?_
 refine Ad<|h2 _ _<|wp_seq_k fun K2a h2a=>wp_seq_k fun K3a h3a=>Af<|sV (Aa rfl) ?_
 refine sV (Lb rfl rfl rfl) ?_
 refine Ad<|h3a _ _<|wp_cond_false (Aj (evb rfl rfl))<|wp_skip<|h2a _ _<|wp_seq_k fun K4a h4a=>Af<|sV (Ac rfl) ?_
 refine Ad<|h4a _ _<|Ei [6,8] 9 mo rfl fun w3 E0a S2c=>have X1b:=X0b.ext E0a;dA 0 rfl (fun _=>Aa rfl) ?_
 refine dA 1 rfl (fun _=>Aa rfl) ?_
 refine dA 2 rfl (fun _=>Aa rfl) ?_
 refine dA 3 rfl (fun _=>Ai (o':=0) KW rfl rfl) ?_
 refine dA 5 rfl (fun _=>Bn rfl) ?_
 refine IP #[true,true,true,true,true,true,true,false,false] 2 (fun l l' w'=>UpdS [b] w3 w'∧Bx w' b 3 [.int .i64 0]∧l'=(l.set 23 (.int .i64 n))) ?_ ?_
 ·intro HJ31
  refine GF 4 6 (by kernel_rfl) ?_ ?_
  ·refine opV 4 rfl (by rfl) (Ag Ck rfl (Bx.cell (q9.ext E0a) rfl)) (dnrm ?_)
   refine CF 6 (by kernel_rfl) ?_
   ·have F2b:=belU E4 U8 g5
    refine opK 6 rfl (by decide) (by rfl) Pc rfl rfl ((qa.ext F2b).ext E0a) rfl rfl rfl rfl (by simp only [SP0,SP1,S0,S1,Nat.reduceAdd];rfl) fun w4 U3b q4b=>?_
    exact Et (by kernel_rfl) (HJ31 _ _ ⟨((UpdS.refl _ _).upd U3b (.inl im0)),q4b,(by simp only [S0,S1]<;>rfl)⟩)
  ·have F5a:=belU E4 U8 g5
   refine opK 6 rfl (by decide) (by rfl) Pc rfl rfl ((qa.ext F5a).ext E0a) rfl rfl rfl rfl (by simp only [SP0,SP1,S0,S1,Nat.reduceAdd];rfl) fun w4 U6a q5b=>?_
   refine CF 4 (by kernel_rfl) ?_
   ·have ne6b:=(Bx.neT (q9.ext E0a) ((qa.ext F5a).ext E0a) (by decide))
    refine opV 4 rfl (by rfl) (Ag Ck rfl (Bx.cell ((q9.ext E0a).upd U6a ne6b) rfl)) (dnrm ?_)
    exact Et (by kernel_rfl) (HJ31 _ _ ⟨((UpdS.refl _ _).upd U6a (.inl im0)),q5b,(by simp only [S0,S1]<;>rfl)⟩)
 ·rintro l' w4 ⟨U7a,q7b,hq'⟩ l'' hl
  rw [hq'] at hl
  clear hq'
  simp only [S0,S1] at hl
  subst hl
  have X8b:=X1b.updS U7a (alc (.inr (.inl rfl)) al0)
  refine dA 7 rfl (fun _=>Bn rfl) ?_
  have F1a:=belU E4 U8 g5
  have ne8a:=(Bx.neT ((qb.ext F1a).ext E0a) ((qa.ext F1a).ext E0a) (by decide))
  have q9b:=((qb.ext F1a).ext E0a).updS U7a (nmc ne8a nm0)
  refine dk 8 rfl (by kernel_rfl) (by decide) (by rfl) GA rfl rfl q9b rfl rfl rfl rfl (by simp only [SP0,SP1,S0,S1,Nat.reduceAdd];rfl) fun w5 U9a q0c=>?_
  have X1c:=X8b.upd U9a (.inr (.inr rfl))
  refine CU (by kernel_rfl) ?_
  exact Pw (by kernel_rfl) ⟨rfl,rfl,X1c,(q7b.upd U9a (Ne.symm ne8a)),q0c⟩
theorem GM:Pj Tryz.prog 119:=by
 intro ar b b' w ha
 subst ha
 refine Jf Tryz.func119 rfl [.pointer (some ⟨b,0,none⟩),.pointer (some ⟨b',0,none⟩),uu,uu,uu,uu,uu,uu,uu,uu,uu,uu,uu,uu,uu,uu,uu,uu,uu,uu,uu,uu,uu,uu,uu,uu] (by simp [Tryz.ntmps119]) fun c₀ cs hu=>?_
 apply wpS_seq
 refine Pl hu rfl ?_
 simp only [S0,S1]
 refine wpS_of_wp<|wp_seq_k fun K1 h1=>Af<|sV (Aa rfl) ?_
 refine sV (Jp Kx rfl) ?_
 refine Ad<|h1 _ _<|wp_cond_false (Aj (evb rfl rfl))<|wp_skip ?_
 exact Ol hu (by kernel_rfl) ⟨rfl,rfl,rfl⟩
theorem c_dyad_Cmp (x0:Aq) (x1:Aq) (A1:Option Addr) (c2:Nat) (A4:Option Addr) (c5:Nat) (w:World) (hT:TB w) (n3:RLu w A1 c2 x0.Man.Abs) (n6:RLu w A4 c5 x1.Man.Abs) (r:Int × Int) (hr:IN x0 x1=some r) :
  Calls Tryz.prog 41 #[.agg #[.bool x0.Man.Neg,.slice A1 x0.Man.Abs.length c2,.int .i64 x0.Exp],.agg #[.bool x1.Man.Neg,.slice A4 x1.Man.Abs.length c5,.int .i64 x1.Exp]] w (Ret LO w r):=by
 unfold IN at hr
 obtain ⟨q0,hq0,hr0⟩:=Ab hr
 unfold JP at hq0
 go_enter_defers Tryz.func41,Tryz.ntmps41
 refine wp_seq_k fun K7 h7=>Af<|BT rfl rfl fun b8 w1 E9 g3e q5b=>?_
 refine nrm ?_
 refine BT rfl rfl fun b4e w2 E6b g5e q7b=>?_
 refine nrm ?_
 have g0i:=nlt E9.size g5e
 have X8b:=xtr E9 E6b
 refine Aw PL fun b9b w3 E8a g6e q0c=>?_
 refine nrm ?_
 have g1c:=nlt X8b.size g6e
 have X2c:=xtr X8b E8a
 refine Aw Iw fun b3c w4 E3a g7e q0b=>?_
 refine nrm ?_
 have g4c:=nlt X2c.size g7e
 have X5c:=xtr X2c E3a
 refine Ad<|h7 _ _<|wp_seq_k fun K6c h6c=>Af<|Ha (vs:=[.pointer (some ⟨b9b,0,none⟩),.pointer (some ⟨b3c,0,none⟩)]) (by rfl) (by rfl)<|Ad<|h6c _ _<|wp_seq_k fun K7c h7c=>Af<|have q8c:=((q5b.ext E6b).ext E8a).ext E3a;sV (Am Bk rfl q8c rfl) ?_
 refine sV (Am Bk rfl ((q7b.ext E8a).ext E3a) rfl) ?_
 refine Ct (vals:=[(0,.agg #[.bool x0.Man.Neg,.slice A1 x0.Man.Abs.length c2,.int .i64 x0.Exp]),(1,.agg #[.bool x1.Man.Neg,.slice A4 x1.Man.Abs.length c5,.int .i64 x1.Exp])]) (cs:=[.bool x0.Man.Neg,.slice A1 x0.Man.Abs.length c2,.int .i64 x0.Exp,.bool x1.Man.Neg,.slice A4 x1.Man.Abs.length c5,.int .i64 x1.Exp]) HN DU FM (by rfl) (by decide) (by kernel_rfl) fun b9c w5 E1a g8e q0d=>?_
 refine nrm ?_
 have g1i:=nlt X5c.size g8e
 have X2a:=xtr X5c E1a
 rcases AG hq0 with ⟨r9a,h1b,f9e⟩ | ⟨r9a,h1b,rfl⟩
 ·refine scO (Ae Je (by rfl)) (JE x0 x1 b9c A1 c2 A4 c5 w5 (tbx X2a hT) (n3.ext X2a) (n6.ext X2a) q0d (.ok r9a) h1b) ?_
  rintro _ w6 E0a rfl
  refine nrm ?_
  have X0f:=xtr X2a E0a
  refine Ad<|h7c _ _<|wp_seq_k fun K1d h1d=>Ei [5,6] 7 mo rfl fun w7 E4a S2b=>?_
  have X3b:=xtr X0f E4a
  refine dV 0 rfl (fun _ hw=>Am Bk rfl ((((q8c.ext E1a).ext E0a).ext E4a).ext hw) rfl) S2b ?_ (hQ:=fun _ _ _ h=>dq (rs:=[.cell 4 3,.cell 5 33]) rfl (by decide) h)
  refine dV 2 rfl (fun _ hw=>Am Bk rfl ((((((q7b.ext E8a).ext E3a).ext E1a).ext E0a).ext E4a).ext hw) rfl) S2b ?_ (hQ:=fun _ _ _ h=>dq (rs:=[.cell 4 3,.cell 5 33]) rfl (by decide) h)
  obtain ⟨m2d,h1f,f2f⟩:=Ab f9e
  have hx3d:=BD h1f
  have n3f:RU w7 A1 c2 m2d:=by unfold RU;rw [hx3d];exact (n3.ext X3b)
  obtain ⟨r4d,h4f,f5f⟩:=Ab f2f
  refine dc 1 rfl (by kernel_rfl) (by rfl) (Ae JB (by simp only [sz,hx3d];rfl)) (GX (⟨(⟨x0.Man.Neg,m2d⟩:Ah),x0.Exp⟩:Al) A1 c2 w7 (tbx X3b hT) n3f r4d h4f) ?_
  rintro _ w8 E6a ⟨A6f,c7f,rfl,n8f⟩
  refine dnrm ?_
  have X4b:=xtr X3b E6a
  have S9f:=S2b.trans E6a
  obtain ⟨m5d,h0g,f1g⟩:=Ab f5f
  have hx6d:=BD h0g
  have n2g:RU w8 A4 c5 m5d:=by unfold RU;rw [hx6d];exact (n6.ext X4b)
  obtain ⟨r7d,h3g,f4g⟩:=Ab f1g
  refine dc 3 rfl (by kernel_rfl) (by rfl) (Ae JB (by simp only [sz,hx6d];rfl)) (GX (⟨(⟨x1.Man.Neg,m5d⟩:Ah),x1.Exp⟩:Al) A4 c5 w8 (tbx X4b hT) n2g r7d h3g) ?_
  rintro _ w9 E5a ⟨A5g,c6g,rfl,n7g⟩
  refine dnrm ?_
  have X8d:=xtr X4b E5a
  have S8g:=S9f.trans E5a
  obtain ⟨r9g,h0h,f1h⟩:=Ab f4g
  refine dc 4 rfl (by kernel_rfl) (by rfl) (Ae IH (by rfl)) (CJ r4d r7d A6f c7f A5g c6g w9 (tbx X8d hT) (n8f.ext E5a) n7g r9g h0h) ?_
  rintro _ w3e E7a rfl
  refine dnrm ?_
  have X2h:=xtr X8d E7a
  have S2i:=S8g.trans E7a
  have q9d:=((((((q0c.ext E3a).ext E1a).ext E0a).ext E4a).ext E6a).ext E5a).ext E7a
  refine dk 5 rfl (by kernel_rfl) (by decide) (by rfl) Pc rfl rfl q9d rfl rfl rfl rfl (by simp only [SP0,SP1,S0,S1,Nat.reduceAdd];rfl) fun w5b U0e q3h=>?_
  have X4h:=belU X2h U0e g1c
  have ne1e:=(Bx.neT ((((((q0b.ext E1a).ext E0a).ext E4a).ext E6a).ext E5a).ext E7a) q9d (by decide))
  have q5h:=((((((q0b.ext E1a).ext E0a).ext E4a).ext E6a).ext E5a).ext E7a).upd U0e ne1e
  refine dk 6 rfl (by kernel_rfl) (by decide) (by rfl) GA rfl rfl q5h rfl rfl rfl rfl (by simp only [SP0,SP1,S0,S1,Nat.reduceAdd];rfl) fun w4e U2e q6h=>?_
  have X7h:=belU X4h U2e g4c
  refine CU (by kernel_rfl) ?_
  refine h1d _ _<|wp_ret ?_
  obtain rfl:=sj f1h
  obtain rfl:=sj hr0
  exact LH GM JT rfl (Res.cell1 rfl Ey (Bx.cell (q3h.upd U2e (Ne.symm ne1e)) rfl) (Res.cell1 rfl Ck (Bx.cell q6h rfl) Res.nil)) (Ak X7h rfl)
 ·refine scP (Ae Je (by rfl)) (JE x0 x1 b9c A1 c2 A4 c5 w5 (tbx X2a hT) (n3.ext X2a) (n6.ext X2a) q0d (.error r9a) h1b) fun w6 E0a=>?_
  have X8h:=xtr X2a E0a
  have q9h:=((q0c.ext E3a).ext E1a).ext E0a
  refine HR JT (Fp b9b b3c (.int .i64 0:Value) (.int .i64 0:Value) r9a q9h ((q0b.ext E1a).ext E0a)) rfl ?_
  rintro w9 ⟨u9,q9,q9'⟩
  obtain rfl:=sj hr0
  exact ⟨_,(Res.cell1 rfl Ey (Bx.cell q9 rfl) (Res.cell1 rfl Ck (Bx.cell q9' rfl) Res.nil)),Ak (u9.toExt X8h g1c g4c) rfl⟩
theorem c_dyad_Top (x0:Aq) (A1:Option Addr) (c2:Nat) (w:World) (hT:TB w) (n3:RLu w A1 c2 x0.Man.Abs) (r:Int × Int) (hr:Hm x0=some r) :
  Calls Tryz.prog 36 #[.agg #[.bool x0.Man.Neg,.slice A1 x0.Man.Abs.length c2,.int .i64 x0.Exp]] w (Ret LO w r):=by
 unfold Hm at hr
 obtain ⟨q0,hq0,hr0⟩:=Ab hr
 unfold JU at hq0
 go_enter_defers Tryz.func36,Tryz.ntmps36
 refine wp_seq_k fun K4 h4=>Af<|BT rfl rfl fun b5 w1 E6 g7 q8=>?_
 refine nrm ?_
 refine Aw PL fun b9 w2 E5a g7d q2b=>?_
 refine nrm ?_
 have g3b:=nlt E6.size g7d
 have X0c:=xtr E6 E5a
 refine Aw Iw fun b4b w3 E3a g8d q6a=>?_
 refine nrm ?_
 have g5b:=nlt X0c.size g8d
 have X1c:=xtr X0c E3a
 refine Ad<|h4 _ _<|wp_seq_k fun K2c h2c=>Af<|Ha (vs:=[.pointer (some ⟨b9,0,none⟩),.pointer (some ⟨b4b,0,none⟩)]) (by rfl) (by rfl)<|Ad<|h2c _ _<|wp_seq_k fun K3c h3c=>Af<|sV (Am Bk rfl ((q8.ext E5a).ext E3a) rfl) ?_
 refine Ct (vals:=[(0,.agg #[.bool x0.Man.Neg,.slice A1 x0.Man.Abs.length c2,.int .i64 x0.Exp])]) (cs:=[.bool x0.Man.Neg,.slice A1 x0.Man.Abs.length c2,.int .i64 x0.Exp]) HN DU FM (by rfl) (by decide) (by kernel_rfl) fun b4c w4 E1a g9d q5c=>?_
 refine nrm ?_
 have g4g:=nlt X1c.size g9d
 have X4a:=xtr X1c E1a
 rcases AG hq0 with ⟨r7a,h6b,f0e⟩ | ⟨r7a,h6b,rfl⟩
 ·refine scO (Ae Je (by rfl)) (DO x0 b4c A1 c2 w4 (tbx X4a hT) (n3.ext X4a) q5c (.ok r7a) h6b) ?_
  rintro _ w5 E0a rfl
  refine nrm ?_
  have X8a:=xtr X4a E0a
  refine Ad<|h3c _ _<|wp_seq_k fun K6c h6c=>Af<|sV (Ai (o':=0) Gd rfl rfl) ?_
  refine sV (Ai (o':=1) Dl rfl rfl) ?_
  have q7c:=(((q8.ext E5a).ext E3a).ext E1a).ext E0a
  refine sV (Ag EQ rfl (Bx.cell q7c rfl)) ?_
  refine sV (AD CA rfl) ?_
  refine sb (Fs rfl rfl) fun z7b hz7b=>?_
  refine nrm ?_
  obtain rfl:z7b=decide (0<(x0.Man.Abs.length:Int)):=bz hz7b
  rcases AG f0e with ⟨r9a,h8b,f1e⟩ | ⟨r9a,h8b,rfl⟩
  ·refine scO (Ae Dh (by rfl)) (AN (decide (0<(x0.Man.Abs.length:Int))) 5 w5 (tbx X8a hT)  (.ok r9a) h8b) ?_
   rintro _ w6 E2a rfl
   refine nrm ?_
   have X9b:=xtr X8a E2a
   refine Ad<|h6c _ _<|wp_seq_k fun K8c h8c=>Af<|sV (Am Bk rfl (q7c.ext E2a) rfl) ?_
   obtain ⟨m9c,h2e,f3e⟩:=Ab f1e
   have hx0d:=BD h2e
   have n4e:RU w6 A1 c2 m9c:=by unfold RU;rw [hx0d];exact (n3.ext X9b)
   obtain ⟨r1d,h5e,f6e⟩:=Ab f3e
   refine sc (Ae JB (by simp only [sz,hx0d];rfl)) (GX (⟨(⟨x0.Man.Neg,m9c⟩:Ah),x0.Exp⟩:Al) A1 c2 w6 (tbx X9b hT) n4e r1d h5e) ?_
   rintro _ w7 E0b ⟨A7e,c8e,rfl,n9e⟩
   refine nrm ?_
   have X2d:=xtr X9b E0b
   obtain ⟨r0f,h1f,f2f⟩:=Ab f6e
   refine sc (Ae NL (by rfl)) (IK r1d A7e c8e w7 (tbx X2d hT) n9e r0f h1f) ?_
   rintro _ w8 E1b rfl
   refine nrm ?_
   have X3f:=xtr X2d E1b
   have q3d:=(((((q2b.ext E3a).ext E1a).ext E0a).ext E2a).ext E0b).ext E1b
   refine Ax Pc rfl rfl q3d rfl rfl rfl rfl (by simp only [SP0,SP1,S0,S1,Nat.reduceAdd];rfl) fun w9 U4d q4f=>?_
   have X5f:=belU X3f U4d g3b
   have ne5d:=(Bx.neT (((((q6a.ext E1a).ext E0a).ext E2a).ext E0b).ext E1b) q3d (by decide))
   have q6f:=(((((q6a.ext E1a).ext E0a).ext E2a).ext E0b).ext E1b).upd U4d ne5d
   refine Ax GA rfl rfl q6f rfl rfl rfl rfl (by simp only [SP0,SP1,S0,S1,Nat.reduceAdd];rfl) fun w5a U6d q7f=>?_
   have X8f:=belU X5f U6d g5b
   refine Ad<|h8c _ _<|wp_ret ?_
   obtain rfl:=sj f2f
   obtain rfl:=sj hr0
   exact LH GM JT rfl (Res.cell1 rfl Ey (Bx.cell (q4f.upd U6d (Ne.symm ne5d)) rfl) (Res.cell1 rfl Ck (Bx.cell q7f rfl) Res.nil)) (Ak X8f rfl)
  ·refine scP (Ae Dh (by rfl)) (AN (decide (0<(x0.Man.Abs.length:Int))) 5 w5 (tbx X8a hT)  (.error r9a) h8b) fun w6 E2a=>?_
   have X9f:=xtr X8a E2a
   have q0g:=(((q2b.ext E3a).ext E1a).ext E0a).ext E2a
   have q1g:=((q6a.ext E1a).ext E0a).ext E2a
   refine HR JT (Fp b9 b4b (.int .i64 0:Value) (.int .i64 0:Value) r9a q0g q1g) rfl ?_
   rintro w9 ⟨u9,q9,q9'⟩
   obtain rfl:=sj hr0
   exact ⟨_,(Res.cell1 rfl Ey (Bx.cell q9 rfl) (Res.cell1 rfl Ck (Bx.cell q9' rfl) Res.nil)),Ak (u9.toExt X9f g3b g5b) rfl⟩
 ·refine scP (Ae Je (by rfl)) (DO x0 b4c A1 c2 w4 (tbx X4a hT) (n3.ext X4a) q5c (.error r7a) h6b) fun w5 E0a=>?_
  have X2g:=xtr X4a E0a
  have q3g:=((q2b.ext E3a).ext E1a).ext E0a
  refine HR JT (Fp b9 b4b (.int .i64 0:Value) (.int .i64 0:Value) r7a q3g ((q6a.ext E1a).ext E0a)) rfl ?_
  rintro w9 ⟨u9,q9,q9'⟩
  obtain rfl:=sj hr0
  exact ⟨_,(Res.cell1 rfl Ey (Bx.cell q9 rfl) (Res.cell1 rfl Ck (Bx.cell q9' rfl) Res.nil)),Ak (u9.toExt X2g g3b g5b) rfl⟩
theorem c_dyad_CmpRat (x0:Aq) (x1:Gm) (A1:Option Addr) (c2:Nat) (A4:Option Addr) (c5:Nat) (A7:Option Addr) (c8:Nat) (w:World) (hT:TB w) (n3:RLu w A1 c2 x0.Man.Abs) (n6:RLu w A4 c5 x1.Num.Abs) (n9:RLu w A7 c8 x1.Den) (r:Int × Int) (hr:FF x0 x1=some r) :
  Calls Tryz.prog 81 #[.agg #[.bool x0.Man.Neg,.slice A1 x0.Man.Abs.length c2,.int .i64 x0.Exp],.agg #[.bool x1.Num.Neg,.slice A4 x1.Num.Abs.length c5,.slice A7 x1.Den.length c8]] w (Ret LO w r):=by
 unfold FF at hr
 obtain ⟨q0,hq0,hr0⟩:=Ab hr
 unfold IJ at hq0
 go_enter_defers Tryz.func81,Tryz.ntmps81
 refine wp_seq_k fun K9c h9c=>Af<|BT rfl rfl fun b6h w1 E0d g7h q0c=>?_
 refine nrm ?_
 refine BT rfl rfl fun b2e w2 E1c g3e q4e=>?_
 refine nrm ?_
 have g8h:=nlt E0d.size g3e
 have X5e:=xtr E0d E1c
 refine Aw PL fun b1d w3 E2d g9h q8b=>?_
 refine nrm ?_
 have g3d:=nlt X5e.size g9h
 have X6e:=xtr X5e E2d
 refine Aw Iw fun b4d w4 E9a g0i q4b=>?_
 refine nrm ?_
 have g5d:=nlt X6e.size g0i
 have X7e:=xtr X6e E9a
 refine Ad<|h9c _ _<|wp_seq_k fun K8e h8e=>Af<|Ha (vs:=[.pointer (some ⟨b1d,0,none⟩),.pointer (some ⟨b4d,0,none⟩)]) (by rfl) (by rfl)<|Ad<|h8e _ _<|wp_seq_k fun K9e h9e=>Af<|have q2c:=((q0c.ext E1c).ext E2d).ext E9a;sV (Am Bk rfl q2c rfl) ?_
 refine Ct (vals:=[(0,.agg #[.bool x0.Man.Neg,.slice A1 x0.Man.Abs.length c2,.int .i64 x0.Exp])]) (cs:=[.bool x0.Man.Neg,.slice A1 x0.Man.Abs.length c2,.int .i64 x0.Exp]) HN DU FM (by rfl) (by decide) (by kernel_rfl) fun b0f w5 E2a g1i q1f=>?_
 refine nrm ?_
 have g1o:=nlt X7e.size g1i
 have X5b:=xtr X7e E2a
 rcases AG hq0 with ⟨r3c,h6d,f2i⟩ | ⟨r3c,h6d,rfl⟩
 ·refine scO (Ae Je (by rfl)) (DO x0 b0f A1 c2 w5 (tbx X5b hT) (n3.ext X5b) q1f (.ok r3c) h6d) ?_
  rintro _ w6 E1a rfl
  refine nrm ?_
  have X4c:=xtr X5b E1a
  refine Ad<|h9e _ _<|wp_seq_k fun K2f h2f=>Af<|have q3f:=(((q4e.ext E2d).ext E9a).ext E2a).ext E1a;sV (Am JG rfl q3f rfl) ?_
  obtain ⟨r7d,h3i,f4i⟩:=Ab f2i
  refine sc (Ae OO (by rfl)) (Kw x1 A4 c5 A7 c8 w6 (tbx X4c hT) (n6.ext X4c) (n9.ext X4c) r7d h3i) ?_
  rintro _ w7 E5a rfl
  refine nrm ?_
  have X5c:=xtr X4c E5a
  rcases AG f4i with ⟨r6c,h8d,f5i⟩ | ⟨r6c,h8d,rfl⟩
  ·refine scO (Ae Dh (by rfl)) (AN r7d 1 w7 (tbx X5c hT)  (.ok r6c) h8d) ?_
   rintro _ w8 E3a rfl
   refine nrm ?_
   have X7c:=xtr X5c E3a
   refine Ad<|h2f _ _<|wp_seq_k fun K4f h4f=>Af<|sV (Am JG rfl ((q3f.ext E5a).ext E3a) rfl) ?_
   obtain ⟨m5f,h6i,f7i⟩:=Ab f5i
   have hx6f:=BD h6i
   have n8i:RU w8 A4 c5 m5f:=by unfold RU;rw [hx6f];exact (n6.ext X7c)
   obtain ⟨m7f,h9i,f0j⟩:=Ab f7i
   have hx8f:=BD h9i
   have n1j:RU w8 A7 c8 m7f:=by unfold RU;rw [hx8f];exact (n9.ext X7c)
   obtain ⟨r9d,h2j,f3j⟩:=Ab f0j
   refine sc (Ae Ph (by simp only [sz,hx6f,hx8f];rfl)) (KP (⟨(⟨x1.Num.Neg,m5f⟩:Ah),m7f⟩:De) A4 c5 A7 c8 w8 (tbx X7c hT) n8i n1j r9d h2j) ?_
   rintro _ w9 E7a ⟨A4j,c5j,A6j,c7j,rfl,n8j,n9j⟩
   refine nrm ?_
   have X9f:=xtr X7c E7a
   refine sV (Aa rfl) ?_
   refine sV (Ap rfl rfl) ?_
   refine sV (Ap rfl rfl) ?_
   refine Aw Ba fun b2o w9c E6a g0k q1b=>?_
   refine nrm ?_
   have g1k:=nlt X9f.size g0k
   have X0g:=xtr X9f E6a
   refine Aw Ba fun b3o w6h E0a g1g q6b=>?_
   refine nrm ?_
   have g2k:=nlt X0g.size g1g
   have X3k:=xtr X0g E0a
   refine Ax BX rfl rfl (q1b.ext E0a) rfl rfl rfl rfl (by simp only [SP0,SP1,S0,S1,Nat.reduceAdd];rfl) fun w0d U4a q4k=>?_
   have X5k:=belU X3k U4a g1k
   have ne2b:=(Bx.ne q1b g1g).symm
   refine Ax BX rfl rfl (q6b.upd U4a ne2b) rfl rfl rfl rfl (by simp only [SP0,SP1,S0,S1,Nat.reduceAdd];rfl) fun w7h U0b q6k=>?_
   have X7k:=belU X5k U0b g2k
   refine Ad<|h4f _ _<|wp_seq_k fun K2g h2g=>Ei [6,7] 8 mo rfl fun w0c E8a S8c=>?_
   have X0e:=xtr X7k E8a
   have ne3g:=(Bx.neT (((((((q2c.ext E2a).ext E1a).ext E5a).ext E3a).ext E7a).ext E6a).ext E0a) (q1b.ext E0a) (by decide))
   have ne8k:=(Bx.neT ((((((((q2c.ext E2a).ext E1a).ext E5a).ext E3a).ext E7a).ext E6a).ext E0a).upd U4a ne3g) (q6b.upd U4a ne2b) (by decide))
   refine dV 0 rfl (fun _ hw=>Am Bk rfl (((((((((((q2c.ext E2a).ext E1a).ext E5a).ext E3a).ext E7a).ext E6a).ext E0a).upd U4a ne3g).upd U0b ne8k).ext E8a).ext hw) rfl) S8c ?_ (hQ:=fun _ _ _ h=>dq (rs:=[.cell 4 3,.cell 5 33]) rfl (by decide) h)
   refine dV 2 rfl (fun _ hw=>Am AE rfl ((q6k.ext E8a).ext hw) rfl) S8c ?_ (hQ:=fun _ _ _ h=>dq (rs:=[.cell 4 3,.cell 5 33]) rfl (by decide) h)
   refine dV 4 rfl (fun _ hw=>Am AE rfl (((q4k.upd U0b (Ne.symm ne2b)).ext E8a).ext hw) rfl) S8c ?_ (hQ:=fun _ _ _ h=>dq (rs:=[.cell 4 3,.cell 5 33]) rfl (by decide) h)
   obtain ⟨m4g,h9k,f0l⟩:=Ab f3j
   have hx5g:=BD h9k
   have n1l:RU w0c A1 c2 m4g:=by unfold RU;rw [hx5g];exact (n3.ext X0e)
   obtain ⟨r6g,h2l,f3l⟩:=Ab f0l
   refine dc 1 rfl (by kernel_rfl) (by rfl) (Ae JB (by simp only [sz,hx5g];rfl)) (GX (⟨(⟨x0.Man.Neg,m4g⟩:Ah),x0.Exp⟩:Al) A1 c2 w0c (tbx X0e hT) n1l r6g h2l) ?_
   rintro _ w2e E3b ⟨A4l,c5l,rfl,n6l⟩
   refine dnrm ?_
   have X7g:=xtr X0e E3b
   have S7l:=S8c.trans E3b
   have n8l:=(((((n9j.ext E6a).ext E0a).upd U4a (q1b.ext E0a) (by decide)).upd U0b (q6b.upd U4a ne2b) (by decide)).ext E8a).ext E3b
   obtain ⟨r8g,h9l,f0m⟩:=Ab f3l
   refine dc 3 rfl (by kernel_rfl) (by rfl) (Ae NN (by rfl)) (HP r6g r9d.2 A4l c5l A6j c7j w2e (tbx X7g hT) n6l n8l r8g h9l) ?_
   rintro _ w1c E7b ⟨A1m,c2m,rfl,n3m⟩
   refine dnrm ?_
   have X9g:=xtr X7g E7b
   have S4m:=S7l.trans E7b
   have n5m:=((((((n8j.ext E6a).ext E0a).upd U4a (q1b.ext E0a) (by decide)).upd U0b (q6b.upd U4a ne2b) (by decide)).ext E8a).ext E3b).ext E7b
   obtain ⟨r6m,h7m,f8m⟩:=Ab f0m
   refine dc 5 rfl (by kernel_rfl) (by rfl) (Ae IH (by rfl)) (CJ r8g r9d.1 A1m c2m A4j c5j w1c (tbx X9g hT) n3m n5m r6m h7m) ?_
   rintro _ w3e E9b rfl
   refine dnrm ?_
   have X9m:=xtr X9g E9b
   have S4o:=S4m.trans E9b
   have ne0h:=(Bx.neT ((((((((q8b.ext E9a).ext E2a).ext E1a).ext E5a).ext E3a).ext E7a).ext E6a).ext E0a) (q1b.ext E0a) (by decide))
   have ne0n:=(Bx.neT (((((((((q8b.ext E9a).ext E2a).ext E1a).ext E5a).ext E3a).ext E7a).ext E6a).ext E0a).upd U4a ne0h) (q6b.upd U4a ne2b) (by decide))
   have q1h:=(((((((((((((q8b.ext E9a).ext E2a).ext E1a).ext E5a).ext E3a).ext E7a).ext E6a).ext E0a).upd U4a ne0h).upd U0b ne0n).ext E8a).ext E3b).ext E7b).ext E9b
   refine dk 6 rfl (by kernel_rfl) (by decide) (by rfl) Pc rfl rfl q1h rfl rfl rfl rfl (by simp only [SP0,SP1,S0,S1,Nat.reduceAdd];rfl) fun w4e U2h q1n=>?_
   have X2n:=belU X9m U2h g3d
   have ne1e:=(Bx.neT (((((((q4b.ext E2a).ext E1a).ext E5a).ext E3a).ext E7a).ext E6a).ext E0a) (q1b.ext E0a) (by decide))
   have ne3h:=(Bx.neT ((((((((q4b.ext E2a).ext E1a).ext E5a).ext E3a).ext E7a).ext E6a).ext E0a).upd U4a ne1e) (q6b.upd U4a ne2b) (by decide))
   have ne4h:=(Bx.neT (((((((((((((q4b.ext E2a).ext E1a).ext E5a).ext E3a).ext E7a).ext E6a).ext E0a).upd U4a ne1e).upd U0b ne3h).ext E8a).ext E3b).ext E7b).ext E9b) q1h (by decide))
   have q3n:=(((((((((((((q4b.ext E2a).ext E1a).ext E5a).ext E3a).ext E7a).ext E6a).ext E0a).upd U4a ne1e).upd U0b ne3h).ext E8a).ext E3b).ext E7b).ext E9b).upd U2h ne4h
   refine dk 7 rfl (by kernel_rfl) (by decide) (by rfl) GA rfl rfl q3n rfl rfl rfl rfl (by simp only [SP0,SP1,S0,S1,Nat.reduceAdd];rfl) fun w8h U5h q4n=>?_
   have X5n:=belU X2n U5h g5d
   refine CU (by kernel_rfl) ?_
   refine h2g _ _<|wp_ret ?_
   obtain rfl:=sj f8m
   obtain rfl:=sj hr0
   exact LH GM JT rfl (Res.cell1 rfl Ey (Bx.cell (q1n.upd U5h (Ne.symm ne4h)) rfl) (Res.cell1 rfl Ck (Bx.cell q4n rfl) Res.nil)) (Ak X5n rfl)
  ·refine scP (Ae Dh (by rfl)) (AN r7d 1 w7 (tbx X5c hT)  (.error r6c) h8d) fun w8 E3a=>?_
   have X6n:=xtr X5c E3a
   have q7n:=((((q8b.ext E9a).ext E2a).ext E1a).ext E5a).ext E3a
   have q8n:=(((q4b.ext E2a).ext E1a).ext E5a).ext E3a
   refine HR JT (Fp b1d b4d (.int .i64 0:Value) (.int .i64 0:Value) r6c q7n q8n) rfl ?_
   rintro w9 ⟨u9,q9,q9'⟩
   obtain rfl:=sj hr0
   exact ⟨_,(Res.cell1 rfl Ey (Bx.cell q9 rfl) (Res.cell1 rfl Ck (Bx.cell q9' rfl) Res.nil)),Ak (u9.toExt X6n g3d g5d) rfl⟩
 ·refine scP (Ae Je (by rfl)) (DO x0 b0f A1 c2 w5 (tbx X5b hT) (n3.ext X5b) q1f (.error r3c) h6d) fun w6 E1a=>?_
  have X9n:=xtr X5b E1a
  have q0o:=((q8b.ext E9a).ext E2a).ext E1a
  refine HR JT (Fp b1d b4d (.int .i64 0:Value) (.int .i64 0:Value) r3c q0o ((q4b.ext E2a).ext E1a)) rfl ?_
  rintro w9 ⟨u9,q9,q9'⟩
  obtain rfl:=sj hr0
  exact ⟨_,(Res.cell1 rfl Ey (Bx.cell q9 rfl) (Res.cell1 rfl Ck (Bx.cell q9' rfl) Res.nil)),Ak (u9.toExt X9n g3d g5d) rfl⟩
set_option maxRecDepth 20000 in
theorem c_sorobanlaw04_DyadOne (x0:Aq) (x1:Aq) (x2:Int) (A1:Option Addr) (c2:Nat) (A4:Option Addr) (c5:Nat) (w:World) (hT:TB w) (n3:RLu w A1 c2 x0.Man.Abs) (n6:RLu w A4 c5 x1.Man.Abs) (r:Bool) (hr:EF x0 x1 x2=some r) :
  Calls Tryz.prog 11 #[.agg #[.bool x0.Man.Neg,.slice A1 x0.Man.Abs.length c2,.int .i64 x0.Exp],.agg #[.bool x1.Man.Neg,.slice A4 x1.Man.Abs.length c5,.int .i64 x1.Exp],.int .i64 x2] w (Ret Fy w r):=by
 unfold EF at hr
 refine LQ Tryz.func11 rfl [.agg #[.bool x0.Man.Neg,.slice A1 x0.Man.Abs.length c2,.int .i64 x0.Exp],.agg #[.bool x1.Man.Neg,.slice A4 x1.Man.Abs.length c5,.int .i64 x1.Exp],.int .i64 x2,uu,uu,uu,uu,uu,uu,uu,uu,uu,uu,uu,uu,uu,uu,uu,uu,uu,uu,uu,uu,uu,uu,uu,uu,uu,uu,uu,uu,uu,uu,uu,uu,uu,uu,uu,uu,uu,uu,uu,uu,uu,uu,uu,uu,uu,uu,uu,uu,uu,uu,uu,uu,uu,uu,uu,uu,uu,uu,uu,uu,uu,uu,uu,uu,uu,uu,uu,uu,uu,uu,uu,uu,uu,uu,uu,uu,uu,uu,uu,uu,uu,uu,uu,uu,uu,uu,uu,uu,uu,uu,uu,uu,uu,uu,uu,uu,uu,uu,uu,uu,uu,uu,uu,uu,uu,uu,uu,uu,uu,uu,uu,uu,uu,uu] (by kernel_rfl) ?_
 refine wp_seq_k fun K7 h7=>Af<|BT rfl rfl fun b8 w1 E9 g7q q3f=>?_
 refine nrm ?_
 refine BT rfl rfl fun b8b w2 E5a g4d q3c=>?_
 refine nrm ?_
 have g8q:=nlt E9.size g4d
 have X4f:=xtr E9 E5a
 refine sV (Ac rfl) ?_
 refine Ad<|h7 _ _<|wp_seq_k fun K5d h5d=>wp_seq_k fun K6d h6d=>Af<|sV (Am Bk rfl (q3f.ext E5a) rfl) ?_
 refine sV (Am Bk rfl q3c rfl) ?_
 refine Ct (vals:=[(0,.agg #[.bool x0.Man.Neg,.slice A1 x0.Man.Abs.length c2,.int .i64 x0.Exp]),(1,.agg #[.bool x1.Man.Neg,.slice A4 x1.Man.Abs.length c5,.int .i64 x1.Exp])]) (cs:=[.bool x0.Man.Neg,.slice A1 x0.Man.Abs.length c2,.int .i64 x0.Exp,.bool x1.Man.Neg,.slice A4 x1.Man.Abs.length c5,.int .i64 x1.Exp]) HN DU FM (by rfl) (by decide) (by kernel_rfl) fun b9b w3 E4b g9q q0r=>?_
 refine nrm ?_
 have g7a3:=nlt X4f.size g9q
 have X7d:=xtr X4f E4b
 obtain ⟨r1r,h2r,f3r⟩:=Ab hr
 refine sc (Ae en_33 (by rfl)) (c_sorobanlaw04_valid__2 x0 x1 b9b A1 c2 A4 c5 w3 (tbx X7d hT) (n3.ext X7d) (n6.ext X7d) q0r r1r h2r) ?_
 rintro _ w4 E5f rfl
 refine nrm ?_
 have X6f:=xtr X7d E5f
 refine sb (ER rfl) fun z8d hz8d=>?_
 refine nrm ?_
 refine sV (Aa rfl) ?_
 obtain ⟨m0h,h1h,f2h⟩:=Ab f3r
 refine Ca 10 (fun l l' w'=>∃(t3h:Value) (t4h:Value) (t5h:Value),UpdS [] w4 w'∧l'=((((l.set 26 t3h).set 27 t4h).set 28 t5h).set 29 (.bool m0h))) ?_ ?_
 ·intro HJ50
  rcases bft z8d with e2a | e2a
  ·have p4r:=zP hz8d e2a
   have f5r:=ifP p4r h1h
   refine sP ?_ (hw:=wgF rfl e2a)
   refine sP ?_ (hw:=wgF rfl e2a)
   refine sP ?_ (hw:=wgF rfl e2a)
   refine sV (AB (evb rfl e2a) rfl) ?_
   obtain rfl:=sj f5r
   exact HJ50 _ _ ⟨uu,uu,uu,(UpdS.refl _ _),(by simp only [S0,S1]<;>rfl)⟩
  ·have p6r:=zN hz8d e2a
   have f7r:=ifN p6r h1h
   refine sV (Aa rfl) ?_ (hw:=wgT rfl e2a)
   obtain ⟨r9d,h8r,f9r⟩:=Ab f7r
   refine sc (Ae en_54 (by rfl)) (c_sorobanref03_IsDir x2 w4 (tbx X6f hT)  r9d h8r) ?_ (hw:=wgT rfl e2a)
   rintro _ w5 E0s rfl
   refine nrm ?_
   refine sb (ER rfl) ?_ (hw:=wgT rfl e2a)
   intro z7f hz7f
   refine nrm ?_
   refine sV (AF (evb rfl e2a) rfl) ?_
   obtain rfl:z7f=decide (¬(r9d=true)):=bz hz7f
   obtain rfl:=sj f9r
   exact HJ50 _ _ ⟨(.int .i64 x2),(.bool r9d),(.bool (decide (¬(r9d=true)))),((UpdS.refl _ _).ext E0s),(by simp only [S0,S1]<;>rfl)⟩
 ·rintro l' w5 ⟨t3h,t4h,t5h,U8f,hq'⟩ l'' hl
  rw [hq'] at hl
  clear hq'
  simp only [S0,S1] at hl
  subst hl
  have X4c:=JN X6f U8f (X6f).size al0
  refine Ad<|h6d _ _ ?_
  rcases bft m0h with e5c | e5c
  ·have p1s:=e5c
   have f2s:=ifP p1s f2h
   refine wp_cond_true (Aj (evb rfl e5c))<|wp_seq_k fun K6h h6h=>Af ?_
   obtain ⟨r3s,h4s,f5s⟩:=Ab f2s
   refine sc (Ae PH (by rfl)) (HM w5 (tbx X4c hT)  r3s h4s) ?_
   rintro _ w6 E6s rfl
   refine nrm ?_
   have X7s:=xtr X4c E6s
   refine sV (Ac rfl) ?_
   refine Ad<|h6h _ _<|wp_ret ?_
   obtain rfl:=sj f5s
   exact fin rfl (Res.tmp rfl Res.nil) (Ak X7s rfl)
  ·have p8s:=bF e5c
   have f9s:=ifN p8s f2h
   refine wp_cond_false (Aj (evb rfl e5c))<|wp_skip<|h5d _ _<|wp_seq_k fun K7h h7h=>Af<|sV (Ai (o':=0) Gd rfl rfl) ?_
   have q0e:=(((q3f.ext E5a).ext E4b).ext E5f).updS U8f nm0
   refine sV (AH FY rfl q0e (by simp only [List.drop_zero,List.take_succ_cons,List.take_zero];rfl) rfl) ?_
   refine sV (Ai (o':=2) FH rfl rfl) ?_
   refine sV (Ag Ey rfl (Bx.cell q0e rfl)) ?_
   obtain ⟨r6c,h0t,f1t⟩:=Ab f9s
   refine sc (Ae PA (by rfl)) (LB x0.Man x0.Exp A1 c2 w5 (tbx X4c hT) (n3.ext X4c) r6c h0t) ?_
   rintro _ w6 E1e ⟨A8h,c9h,rfl,n2t⟩
   refine nrm ?_
   have X0i:=xtr X4c E1e
   refine sV (Aa rfl) ?_
   refine sV (Ap rfl rfl) ?_
   refine sV (Ap rfl rfl) ?_
   refine Aw FM fun b8a3 w7 E3t g1i q4t=>?_
   refine nrm ?_
   have g9a3:=nlt X0i.size g1i
   refine Ax DU rfl rfl q4t rfl rfl rfl rfl (by simp only [SP0,SP1,S0,S1,Nat.reduceAdd];rfl) fun w8 U5t q6t=>?_
   have F7c:=belU E3t U5t g1i
   have X2e:=xtr X0i F7c
   refine sV (Ac rfl) ?_
   refine Ad<|h7h _ _<|wp_seq_k fun K2i h2i=>Af<|sV (Am Bk rfl ((q0e.ext E1e).ext F7c) rfl) ?_
   have q3i:=((((q3c.ext E4b).ext E5f).updS U8f nm0).ext E1e).ext F7c
   refine sV (Am Bk rfl q3i rfl) ?_
   obtain ⟨r6a,h7t,f8t⟩:=Ab f1t
   refine sc (Ae en_41 (by rfl)) (c_dyad_Cmp x0 x1 A1 c2 A4 c5 w8 (tbx X2e hT) (n3.ext X2e) (n6.ext X2e) r6a h7t) ?_
   rintro _ w9 E8c rfl
   refine nrm ?_
   have X9f:=xtr X2e E8c
   refine sV (Aa rfl) ?_
   refine sV (Ap rfl rfl) ?_
   refine sV (Ap rfl rfl) ?_
   refine sV (Ac rfl) ?_
   refine sV (Ac rfl) ?_
   refine Ad<|h2i _ _<|wp_seq_k fun K4i h4i=>Af<|have q3e:=((q0e.ext E1e).ext F7c).ext E8c;sV (Am Bk rfl q3e rfl) ?_
   obtain ⟨r4a,h9t,f0u⟩:=Ab f8t
   refine sc (Ae en_63 (by rfl)) (c_dyad_ToRat x0 A1 c2 w9 (tbx X9f hT) (n3.ext X9f) r4a h9t) ?_
   rintro _ w7q E5b ⟨A5i,c6i,A7i,c8i,rfl,n1u,n2u⟩
   refine nrm ?_
   have X9i:=xtr X9f E5b
   refine sV (Aa rfl) ?_
   refine sV (Ap rfl rfl) ?_
   refine sV (Ap rfl rfl) ?_
   refine Aw OL fun b0a4 w3f E3u g0j q4u=>?_
   refine nrm ?_
   have g1a4:=nlt X9i.size g0j
   refine Ax Ni rfl rfl q4u rfl rfl rfl rfl (by simp only [SP0,SP1,S0,S1,Nat.reduceAdd];rfl) fun w8b U5u q6u=>?_
   have F7a:=belU E3u U5u g0j
   have X4e:=xtr X9i F7a
   refine sV (Ac rfl) ?_
   refine Ad<|h4i _ _<|wp_seq_k fun K1j h1j=>wp_seq_k fun K2j h2j=>Af<|sV (Aa rfl) ?_
   refine sb (Ix rfl rfl) fun z5e hz5e=>?_
   refine nrm ?_
   refine sV (Aa rfl) ?_
   obtain ⟨m3j,h4j,f7u⟩:=Ab f0u
   refine Ca 6 (fun l l' w'=>∃(t5j:Value) (t6j:Value),w8b=w'∧l'=(((l.set 53 t5j).set 54 t6j).set 55 (.bool m3j))) ?_ ?_
   ·intro HJ144
    rcases bft z5e with e8a | e8a
    ·have p8u:=zP hz5e e8a
     have f9u:=ifP p8u h4j
     refine sP ?_ (hw:=wgF rfl e8a)
     refine sP ?_ (hw:=wgF rfl e8a)
     refine sV (AB (evb rfl e8a) rfl) ?_
     obtain rfl:=sj f9u
     exact HJ144 _ _ ⟨uu,uu,rfl,(by simp only [S0,S1]<;>rfl)⟩
    ·have p0v:=zN hz5e e8a
     have f1v:=ifN p0v h4j
     refine sV (Aa rfl) ?_ (hw:=wgT rfl e8a)
     refine sb (Ix rfl rfl) ?_ (hw:=wgT rfl e8a)
     intro z0g hz0g
     refine nrm ?_
     refine sV (AF (evb rfl e8a) rfl) ?_
     obtain rfl:z0g=decide (¬r6a.2=0):=bz hz0g
     obtain rfl:=sj f1v
     exact HJ144 _ _ ⟨(.int .i64 r6a.2),(.bool (decide (¬r6a.2=0))),rfl,(by simp only [S0,S1]<;>rfl)⟩
   ·rintro l' _ ⟨t5j,t6j,rfl,hq'⟩ l'' hl
    rw [hq'] at hl
    clear hq'
    simp only [S0,S1] at hl
    subst hl
    refine sV (Aa rfl) ?_
    obtain ⟨m7j,h8j,f2v⟩:=Ab f7u
    refine Ca 10 (fun l l' w'=>∃(t9j:Value) (t0k:Value),w8b=w'∧l'=(((l.set 57 t9j).set 58 t0k).set 59 (.bool m7j))) ?_ ?_
    ·intro HJ163
     rcases bft m3j with e9a | e9a
     ·have p3v:=e9a
      have f4v:=ifP p3v h8j
      refine sP ?_ (hw:=wgF rfl e9a)
      refine sP ?_ (hw:=wgF rfl e9a)
      refine sV (AB (evb rfl e9a) rfl) ?_
      obtain rfl:=sj f4v
      exact HJ163 _ _ ⟨uu,uu,rfl,(by simp only [S0,S1]<;>rfl)⟩
     ·have p5v:=bF e9a
      have f6v:=ifN p5v h8j
      refine sV (Aa rfl) ?_ (hw:=wgT rfl e9a)
      refine sb (Ix rfl rfl) ?_ (hw:=wgT rfl e9a)
      intro z1g hz1g
      refine nrm ?_
      refine sV (AF (evb rfl e9a) rfl) ?_
      obtain rfl:z1g=decide (¬r4a.2=0):=bz hz1g
      obtain rfl:=sj f6v
      exact HJ163 _ _ ⟨(.int .i64 r4a.2),(.bool (decide (¬r4a.2=0))),rfl,(by simp only [S0,S1]<;>rfl)⟩
    ·rintro l' _ ⟨t9j,t0k,rfl,hq'⟩ l'' hl
     rw [hq'] at hl
     clear hq'
     simp only [S0,S1] at hl
     subst hl
     refine sV (Aa rfl) ?_
     obtain ⟨m1k,h2k,f7v⟩:=Ab f2v
     refine Ca 16 (fun l l' w'=>∃(t3k:Value) (t4k:Value) (t5k:Value) (t6k:Value),UpdS [] w8b w'∧l'=(((((l.set 61 t3k).set 62 t4k).set 63 t5k).set 64 t6k).set 65 (.bool m1k))) ?_ ?_
     ·intro HJ196
      rcases bft m7j with e1a | e1a
      ·have p8v:=e1a
       have f9v:=ifP p8v h2k
       refine sP ?_ (hw:=wgF rfl e1a)
       refine sP ?_ (hw:=wgF rfl e1a)
       refine sP ?_ (hw:=wgF rfl e1a)
       refine sP ?_ (hw:=wgF rfl e1a)
       refine sV (AB (evb rfl e1a) rfl) ?_
       obtain rfl:=sj f9v
       exact HJ196 _ _ ⟨uu,uu,uu,uu,(UpdS.refl _ _),(by simp only [S0,S1]<;>rfl)⟩
      ·have p0w:=bF e1a
       have f1w:=ifN p0w h2k
       have q2w:=((q6t.ext E8c).ext E5b).ext F7a
       refine sV (Am Bk rfl q2w rfl) ?_ (hw:=wgT rfl e1a)
       refine sV (Am Bk rfl ((q3e.ext E5b).ext F7a) rfl) ?_ (hw:=wgT rfl e1a)
       have n3w:=(((n2t.ext F7c).ext E8c).ext E5b).ext F7a
       obtain ⟨m7k,h4w,f5w⟩:=Ab f1w
       have hx8k:=BD h4w
       have n6w:RU w8b A1 c2 m7k:=by unfold RU;rw [hx8k];exact (n3.ext X4e)
       obtain ⟨r6e,h7w,f8w⟩:=Ab f5w
       refine sc (Ae LF (by simp only [sz,hx8k];rfl)) (Cz r6c.1 (⟨(⟨x0.Man.Neg,m7k⟩:Ah),x0.Exp⟩:Al) A8h c9h A1 c2 w8b (tbx X4e hT) n3w n6w r6e h7w) ?_ (hw:=wgT rfl e1a)
       rintro _ w5a E9w rfl
       refine nrm ?_
       refine sb (ER rfl) ?_ (hw:=wgT rfl e1a)
       intro z2g hz2g
       refine nrm ?_
       refine sV (AF (evb rfl e1a) rfl) ?_
       obtain rfl:z2g=decide (¬(r6e=true)):=bz hz2g
       obtain rfl:=sj f8w
       exact HJ196 _ _ ⟨(.agg #[.bool r6c.1.Man.Neg,.slice A8h (sz r6c.1.Man.Abs) c9h,.int .i64 r6c.1.Exp]),(.agg #[.bool x0.Man.Neg,.slice A1 x0.Man.Abs.length c2,.int .i64 x0.Exp]),(.bool r6e),(.bool (decide (¬(r6e=true)))),((UpdS.refl _ _).ext E9w),(by simp only [S0,S1]<;>rfl)⟩
     ·rintro l' w5a ⟨t3k,t4k,t5k,t6k,U6b,hq'⟩ l'' hl
      rw [hq'] at hl
      clear hq'
      simp only [S0,S1] at hl
      subst hl
      have X9c:=JN X4e U6b (X4e).size al0
      refine sV (Aa rfl) ?_
      obtain ⟨m9k,h0l,f1l⟩:=Ab f7v
      refine Ca 24 (fun l l' w'=>∃(t2l:Value) (t3l:Value) (t4l:Value) (t5l:Value) (t6l:Value) (t7l:Value),UpdS [] w5a w'∧l'=(((((((l.set 67 t2l).set 68 t3l).set 69 t4l).set 70 t5l).set 71 t6l).set 72 t7l).set 73 (.bool m9k))) ?_ ?_
      ·intro HJ250
       rcases bft m1k with e0a | e0a
       ·have p0x:=e0a
        have f1x:=ifP p0x h0l
        refine sP ?_ (hw:=wgF rfl e0a)
        refine sP ?_ (hw:=wgF rfl e0a)
        refine sP ?_ (hw:=wgF rfl e0a)
        refine sP ?_ (hw:=wgF rfl e0a)
        refine sP ?_ (hw:=wgF rfl e0a)
        refine sP ?_ (hw:=wgF rfl e0a)
        refine sV (AB (evb rfl e0a) rfl) ?_
        obtain rfl:=sj f1x
        exact HJ250 _ _ ⟨uu,uu,uu,uu,uu,uu,(UpdS.refl _ _),(by simp only [S0,S1]<;>rfl)⟩
       ·have p2x:=bF e0a
        have f3x:=ifN p2x h0l
        refine sV (Aa rfl) ?_ (hw:=wgT rfl e0a)
        refine sb (Ce rfl rfl) ?_ (hw:=wgT rfl e0a)
        intro z3g hz3g
        refine nrm ?_
        have q4x:=((q3e.ext E5b).ext F7a).updS U6b nm0
        refine sV (Am Bk rfl q4x rfl) ?_ (hw:=wgT rfl e0a)
        have q5x:=(((q3i.ext E8c).ext E5b).ext F7a).updS U6b nm0
        refine sV (Am Bk rfl q5x rfl) ?_ (hw:=wgT rfl e0a)
        obtain ⟨m8l,h6x,f7x⟩:=Ab f3x
        have hx9l:=BD h6x
        have n8x:RU w5a A1 c2 m8l:=by unfold RU;rw [hx9l];exact (n3.ext X9c)
        obtain ⟨m0m,h9x,f0y⟩:=Ab f7x
        have hx1m:=BD h9x
        have n1y:RU w5a A4 c5 m0m:=by unfold RU;rw [hx1m];exact (n6.ext X9c)
        obtain ⟨r7e,h2y,f3y⟩:=Ab f0y
        refine sc (Ae LF (by simp only [sz,hx9l,hx1m];rfl)) (Cz (⟨(⟨x0.Man.Neg,m8l⟩:Ah),x0.Exp⟩:Al) (⟨(⟨x1.Man.Neg,m0m⟩:Ah),x1.Exp⟩:Al) A1 c2 A4 c5 w5a (tbx X9c hT) n8x n1y r7e h2y) ?_ (hw:=wgT rfl e0a)
        rintro _ w4d E4y rfl
        refine nrm ?_
        obtain rfl:z3g=decide (r6a.1=0):=bz hz3g
        refine sb (NB OM rfl rfl) ?_ (hw:=wgT rfl e0a)
        intro z4g hz4g
        refine nrm ?_
        refine sV (AF (evb rfl e0a) rfl) ?_
        obtain rfl:z4g=decide (¬(decide (r6a.1=0))=r7e):=bz hz4g
        obtain rfl:=sj f3y
        exact HJ250 _ _ ⟨(.int .i64 r6a.1),(.bool (decide (r6a.1=0))),(.agg #[.bool x0.Man.Neg,.slice A1 x0.Man.Abs.length c2,.int .i64 x0.Exp]),(.agg #[.bool x1.Man.Neg,.slice A4 x1.Man.Abs.length c5,.int .i64 x1.Exp]),(.bool r7e),(.bool (decide (¬(decide (r6a.1=0))=r7e))),((UpdS.refl _ _).ext E4y),(by simp only [S0,S1]<;>rfl)⟩
      ·rintro l' w4d ⟨t2l,t3l,t4l,t5l,t6l,t7l,U0d,hq'⟩ l'' hl
       rw [hq'] at hl
       clear hq'
       simp only [S0,S1] at hl
       subst hl
       have X8e:=JN X9c U0d (X9c).size al0
       refine Ad<|h2j _ _ ?_
       rcases bft m9k with e1d | e1d
       ·have p5y:=e1d
        have f6y:=ifP p5y f1l
        refine wp_cond_true (Aj (evb rfl e1d))<|wp_seq_k fun K2m h2m=>Af<|sV (Ac rfl) ?_
        refine Ad<|h2m _ _<|wp_ret ?_
        obtain rfl:=sj f6y
        exact fin rfl (Res.tmp rfl Res.nil) (Ak X8e rfl)
       ·have p7y:=bF e1d
        have f8y:=ifN p7y f1l
        refine wp_cond_false (Aj (evb rfl e1d))<|wp_skip<|h1j _ _<|wp_seq_k fun K3m h3m=>Af<|sV (Ac rfl) ?_
        refine Ad<|h3m _ _<|wp_seq_k fun K4m h4m=>wp_seq_k fun K5m h5m=>Af<|have q5g:=(((q3e.ext E5b).ext F7a).updS U6b nm0).updS U0d nm0;sV (Am Bk rfl q5g rfl) ?_
        obtain ⟨r0c,h9y,f0z⟩:=Ab f8y
        refine sc (Ae en_36 (by rfl)) (c_dyad_Top x0 A1 c2 w4d (tbx X8e hT) (n3.ext X8e) r0c h9y) ?_
        rintro _ w3c E1c rfl
        refine nrm ?_
        have X6m:=xtr X8e E1c
        refine sV (Aa rfl) ?_
        refine sV (Ap rfl rfl) ?_
        refine sV (Ap rfl rfl) ?_
        refine sV (Ac rfl) ?_
        refine sV (Ac rfl) ?_
        refine Ad<|h5m _ _<|wp_seq_k fun K7m h7m=>Af<|sV (Aa rfl) ?_
        refine sb (Ce rfl rfl) fun z9e hz9e=>?_
        refine nrm ?_
        refine Ad<|h7m _ _ ?_
        obtain ⟨m8m,h9m,f1z⟩:=Ab f0z
        refine Di (fun l l' w'=>∃(t0n:Value) (t1n:Value) (t2n:Value) (t3n:Value) (t4n:Value),w3c=w'∧l'=((((((l.set 13 (.int .i64 m8m)).set 81 t0n).set 82 t1n).set 83 t2n).set 84 t3n).set 85 t4n)) ?_ ?_
        ·rcases bft z9e with e2d | e2d
         ·have p2z:=zP hz9e e2d
          have f3z:=ifP p2z h9m
          refine wp_cond_true (Aj (evb rfl e2d))<|Af<|sV (Aa rfl) ?_
          refine sV (Ai (o':=2) FH rfl rfl) ?_
          refine sV (Ag Ey rfl (Bx.cell (q5g.ext E1c) rfl)) ?_
          refine sV (Bv (c:=wi64 (r0c.1 - x0.Exp)) rfl rfl rfl) ?_
          refine sV (Bd (c:=wi64 ((wi64 (r0c.1 - x0.Exp))+1)) rfl rfl rfl) ?_
          refine sV (Ac rfl) ?_
          refine Ad ?_
          obtain rfl:=sj f3z
          exact ⟨_,rfl,(.int .i64 r0c.1),(.pointer (some ⟨b8,2,none⟩)),(.int .i64 x0.Exp),(.int .i64 (wi64 (r0c.1 - x0.Exp))),(.int .i64 (wi64 ((wi64 (r0c.1 - x0.Exp))+1))),rfl,(by simp only [S0,S1]<;>rfl)⟩
         ·have p4z:=zN hz9e e2d
          have f5z:=ifN p4z h9m
          refine wp_cond_false (Aj (evb rfl e2d))<|wp_skip ?_
          obtain rfl:=sj f5z
          exact ⟨_,rfl,uu,uu,uu,uu,uu,rfl,(by simp only [S0,S1]<;>rfl)⟩
        ·rintro l' _ ⟨t0n,t1n,t2n,t3n,t4n,rfl,hq'⟩ l'' hl
         rw [hq'] at hl
         clear hq'
         simp only [S0,S1] at hl
         subst hl
         refine h4m _ _<|wp_seq_k fun K5n h5n=>Af<|have q6n:=((q6u.updS U6b nm0).updS U0d nm0).ext E1c;sV (Am JG rfl q6n rfl) ?_
         refine sV (Aa rfl) ?_
         refine sV (Aa rfl) ?_
         have n7n:=(((n1u.ext F7a).updS U6b al0).updS U0d al0).ext E1c
         have n8n:=(((n2u.ext F7a).updS U6b al0).updS U0d al0).ext E1c
         obtain ⟨r3b,h6z,f7z⟩:=Ab f1z
         refine sc (Ae en_56 (by rfl)) (c_dyad_FromRat (⟨(⟨r4a.1.Num.Neg,(limbs r4a.1.Num.Abs)⟩:AL),(limbs r4a.1.Den)⟩:Gm) m8m x2 A5i c6i A7i c8i w3c (tbx X6m hT) n7n n8n r3b h6z) ?_
         rintro _ w8q E3d ⟨A9n,c0o,rfl,n8z⟩
         refine nrm ?_
         have X1o:=xtr X6m E3d
         refine sV (Aa rfl) ?_
         refine sV (Ap rfl rfl) ?_
         refine sV (Ap rfl rfl) ?_
         refine Aw FM fun b2a4 w4f E9z g2o q0a0=>?_
         refine nrm ?_
         have g3a4:=nlt X1o.size g2o
         refine Ax DU rfl rfl q0a0 rfl rfl rfl rfl (by simp only [SP0,SP1,S0,S1,Nat.reduceAdd];rfl) fun w5d U1a0 q2a0=>?_
         have F2c:=belU E9z U1a0 g2o
         have X6g:=xtr X1o F2c
         refine sV (Ac rfl) ?_
         refine Ad<|h5n _ _<|wp_seq_k fun K3o h3o=>Af<|have q4o:=((q5g.ext E1c).ext E3d).ext F2c;sV (Am Bk rfl q4o rfl) ?_
         refine sV (Am JG rfl ((q6n.ext E3d).ext F2c) rfl) ?_
         obtain ⟨r7b,h3a0,f4a0⟩:=Ab f7z
         refine sc (Ae en_81 (by rfl)) (c_dyad_CmpRat x0 (⟨(⟨r4a.1.Num.Neg,(limbs r4a.1.Num.Abs)⟩:AL),(limbs r4a.1.Den)⟩:Gm) A1 c2 A5i c6i A7i c8i w5d (tbx X6g hT) (n3.ext X6g) ((n7n.ext E3d).ext F2c) ((n8n.ext E3d).ext F2c) r7b h3a0) ?_
         rintro _ w6d E0f rfl
         refine nrm ?_
         have X5o:=xtr X6g E0f
         refine sV (Aa rfl) ?_
         refine sV (Ap rfl rfl) ?_
         refine sV (Ap rfl rfl) ?_
         refine sV (Ac rfl) ?_
         refine sV (Ac rfl) ?_
         refine Ad<|h3o _ _<|wp_seq_k fun K6o h6o=>Af ?_
         obtain ⟨r7o,h5a0,f6a0⟩:=Ab f4a0
         refine sc (Ae PH (by rfl)) (HM w6d (tbx X5o hT)  r7o h5a0) ?_
         rintro _ w9b E1f rfl
         refine nrm ?_
         have X2f:=xtr X5o E1f
         refine sV (Aa rfl) ?_
         obtain ⟨m8o,h9o,f7a0⟩:=Ab f6a0
         refine Ca 5 (fun l l' w'=>∃(t0p:Value) (t1p:Value),w9b=w'∧l'=(((l.set 101 t0p).set 102 t1p).set 103 (.bool m8o))) ?_ ?_
         ·intro HJ365
          rcases bft r7o with e0b | e0b
          ·have p8a0:=e0b
           have f9a0:=ifP p8a0 h9o
           refine sV (Aa rfl) ?_ (hw:=wgT rfl e0b)
           refine sb (Ce rfl rfl) ?_ (hw:=wgT rfl e0b)
           intro z7g hz7g
           refine nrm ?_
           refine sV (AB (evb rfl e0b) rfl) ?_
           obtain rfl:z7g=decide (r3b.2=0):=bz hz7g
           obtain rfl:=sj f9a0
           exact HJ365 _ _ ⟨(.int .i64 r3b.2),(.bool (decide (r3b.2=0))),rfl,(by simp only [S0,S1]<;>rfl)⟩
          ·have p0a1:=bF e0b
           have f1a1:=ifN p0a1 h9o
           refine sP ?_ (hw:=wgF rfl e0b)
           refine sP ?_ (hw:=wgF rfl e0b)
           refine sV (AF (evb rfl e0b) rfl) ?_
           obtain rfl:=sj f1a1
           exact HJ365 _ _ ⟨uu,uu,rfl,(by simp only [S0,S1]<;>rfl)⟩
         ·rintro l' _ ⟨t0p,t1p,rfl,hq'⟩ l'' hl
          rw [hq'] at hl
          clear hq'
          simp only [S0,S1] at hl
          subst hl
          refine sV (Aa rfl) ?_
          obtain ⟨m2p,h3p,f2a1⟩:=Ab f7a0
          refine Ca 10 (fun l l' w'=>∃(t4p:Value) (t5p:Value) (t6p:Value),UpdS [] w9b w'∧l'=((((l.set 105 t4p).set 106 t5p).set 107 t6p).set 108 (.bool m2p))) ?_ ?_
          ·intro HJ395
           rcases bft m8o with e3a | e3a
           ·have p3a1:=e3a
            have f4a1:=ifP p3a1 h3p
            refine sV (Am Bk rfl ((q2a0.ext E0f).ext E1f) rfl) ?_ (hw:=wgT rfl e3a)
            refine sV (Am Bk rfl ((q4o.ext E0f).ext E1f) rfl) ?_ (hw:=wgT rfl e3a)
            have n5a1:=((n8z.ext F2c).ext E0f).ext E1f
            obtain ⟨m7p,h6a1,f7a1⟩:=Ab f4a1
            have hx8p:=BD h6a1
            have n8a1:RU w9b A1 c2 m7p:=by unfold RU;rw [hx8p];exact (n3.ext X2f)
            obtain ⟨r9p,h9a1,f0a2⟩:=Ab f7a1
            refine sc (Ae LF (by simp only [sz,hx8p];rfl)) (Cz r3b.1 (⟨(⟨x0.Man.Neg,m7p⟩:Ah),x0.Exp⟩:Al) A9n c0o A1 c2 w9b (tbx X2f hT) n5a1 n8a1 r9p h9a1) ?_ (hw:=wgT rfl e3a)
            rintro _ w4b E1a2 rfl
            refine nrm ?_
            refine sV (AB (evb rfl e3a) rfl) ?_
            obtain rfl:=sj f0a2
            exact HJ395 _ _ ⟨(.agg #[.bool r3b.1.Man.Neg,.slice A9n (sz r3b.1.Man.Abs) c0o,.int .i64 r3b.1.Exp]),(.agg #[.bool x0.Man.Neg,.slice A1 x0.Man.Abs.length c2,.int .i64 x0.Exp]),(.bool r9p),((UpdS.refl _ _).ext E1a2),(by simp only [S0,S1]<;>rfl)⟩
           ·have p2a2:=bF e3a
            have f3a2:=ifN p2a2 h3p
            refine sP ?_ (hw:=wgF rfl e3a)
            refine sP ?_ (hw:=wgF rfl e3a)
            refine sP ?_ (hw:=wgF rfl e3a)
            refine sV (AF (evb rfl e3a) rfl) ?_
            obtain rfl:=sj f3a2
            exact HJ395 _ _ ⟨uu,uu,uu,(UpdS.refl _ _),(by simp only [S0,S1]<;>rfl)⟩
          ·rintro l' w4b ⟨t4p,t5p,t6p,U4a2,hq'⟩ l'' hl
           rw [hq'] at hl
           clear hq'
           simp only [S0,S1] at hl
           subst hl
           have X5a2:=JN X2f U4a2 (X2f).size al0
           refine sV (Aa rfl) ?_
           obtain ⟨m0q,h1q,f6a2⟩:=Ab f2a1
           refine Ca 14 (fun l l' w'=>∃(t2q:Value) (t3q:Value),w4b=w'∧l'=(((l.set 110 t2q).set 111 t3q).set 112 (.bool m0q))) ?_ ?_
           ·intro HJ425
            rcases bft m2p with e1b | e1b
            ·have p7a2:=e1b
             have f8a2:=ifP p7a2 h1q
             refine sV (Aa rfl) ?_ (hw:=wgT rfl e1b)
             refine sb (Ce rfl rfl) ?_ (hw:=wgT rfl e1b)
             intro z8g hz8g
             refine nrm ?_
             refine sV (AB (evb rfl e1b) rfl) ?_
             obtain rfl:z8g=decide (r7b.2=0):=bz hz8g
             obtain rfl:=sj f8a2
             exact HJ425 _ _ ⟨(.int .i64 r7b.2),(.bool (decide (r7b.2=0))),rfl,(by simp only [S0,S1]<;>rfl)⟩
            ·have p9a2:=bF e1b
             have f0a3:=ifN p9a2 h1q
             refine sP ?_ (hw:=wgF rfl e1b)
             refine sP ?_ (hw:=wgF rfl e1b)
             refine sV (AF (evb rfl e1b) rfl) ?_
             obtain rfl:=sj f0a3
             exact HJ425 _ _ ⟨uu,uu,rfl,(by simp only [S0,S1]<;>rfl)⟩
           ·rintro l' _ ⟨t2q,t3q,rfl,hq'⟩ l'' hl
            rw [hq'] at hl
            clear hq'
            simp only [S0,S1] at hl
            subst hl
            refine sV (Aa rfl) ?_
            obtain ⟨m1a3,h4q,f2a3⟩:=Ab f6a2
            refine Ca 18 (fun l l' w'=>∃(t5q:Value) (t6q:Value),w4b=w'∧l'=(((l.set 114 t5q).set 115 t6q).set 116 (.bool m1a3))) ?_ ?_
            ·intro HJ444
             rcases bft m0q with e2b | e2b
             ·have p3a3:=e2b
              have f4a3:=ifP p3a3 h4q
              refine sV (Aa rfl) ?_ (hw:=wgT rfl e2b)
              refine sb (Ce rfl rfl) ?_ (hw:=wgT rfl e2b)
              intro z9g hz9g
              refine nrm ?_
              refine sV (AB (evb rfl e2b) rfl) ?_
              obtain rfl:z9g=decide (r7b.1=0):=bz hz9g
              obtain rfl:=sj f4a3
              exact HJ444 _ _ ⟨(.int .i64 r7b.1),(.bool (decide (r7b.1=0))),rfl,(by simp only [S0,S1]<;>rfl)⟩
             ·have p5a3:=bF e2b
              have f6a3:=ifN p5a3 h4q
              refine sP ?_ (hw:=wgF rfl e2b)
              refine sP ?_ (hw:=wgF rfl e2b)
              refine sV (AF (evb rfl e2b) rfl) ?_
              obtain rfl:=sj f6a3
              exact HJ444 _ _ ⟨uu,uu,rfl,(by simp only [S0,S1]<;>rfl)⟩
            ·rintro l' _ ⟨t5q,t6q,rfl,hq'⟩ l'' hl
             rw [hq'] at hl
             clear hq'
             simp only [S0,S1] at hl
             subst hl
             refine sV (Ac rfl) ?_
             refine Ad<|h6o _ _<|wp_ret ?_
             obtain rfl:=sj f2a3
             exact fin rfl (Res.tmp rfl Res.nil) (Ak X5a2 rfl)
end Go.Proofs

