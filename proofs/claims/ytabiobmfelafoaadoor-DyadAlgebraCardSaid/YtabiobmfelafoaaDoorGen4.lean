import Derived.Test.YtabiobmfelafoaaDoorGen3
namespace Go.Proofs
set_option linter.unusedVariables false
set_option linter.unusedSimpArgs false
set_option maxHeartbeats 4000000
open Go.RowKit Go.Sb Go.Proofs.Sbn
set_option maxRecDepth 20000 in
theorem c_sorobanlaw04_DyadAlgebra (x0:Al) (x1:Al) (x2:Al) (x3:Int) (A1:Option Addr) (c2:Nat) (A4:Option Addr) (c5:Nat) (A7:Option Addr) (c8:Nat) (w:World) (hT:TB w) (n3:RLu w A1 c2 x0.Man.Abs) (n6:RLu w A4 c5 x1.Man.Abs) (n9:RLu w A7 c8 x2.Man.Abs) (r:Bool) (hr:CX x0 x1 x2 x3=some r) :
  Calls Tryd.prog 3 #[.agg #[.bool x0.Man.Neg,.slice A1 x0.Man.Abs.length c2,.int .i64 x0.Exp],.agg #[.bool x1.Man.Neg,.slice A4 x1.Man.Abs.length c5,.int .i64 x1.Exp],.agg #[.bool x2.Man.Neg,.slice A7 x2.Man.Abs.length c8,.int .i64 x2.Exp],.int .i64 x3] w (Ret EO w r):=by
 unfold CX at hr
 refine Jg Tryd.func3 rfl [.agg #[.bool x0.Man.Neg,.slice A1 x0.Man.Abs.length c2,.int .i64 x0.Exp],.agg #[.bool x1.Man.Neg,.slice A4 x1.Man.Abs.length c5,.int .i64 x1.Exp],.agg #[.bool x2.Man.Neg,.slice A7 x2.Man.Abs.length c8,.int .i64 x2.Exp],.int .i64 x3,uu,uu,uu,uu,uu,uu,uu,uu,uu,uu,uu,uu,uu,uu,uu,uu,uu,uu,uu,uu,uu,uu,uu,uu,uu,uu,uu,uu,uu,uu,uu,uu,uu,uu,uu,uu,uu,uu,uu,uu,uu,uu,uu,uu,uu,uu,uu,uu,uu,uu,uu,uu,uu,uu,uu,uu,uu,uu,uu,uu,uu,uu,uu,uu,uu,uu,uu,uu,uu,uu,uu,uu,uu,uu,uu,uu,uu,uu,uu,uu,uu,uu,uu,uu,uu,uu,uu,uu,uu,uu,uu,uu,uu,uu,uu,uu,uu,uu,uu,uu,uu,uu,uu,uu,uu,uu,uu,uu,uu,uu,uu,uu,uu,uu,uu,uu,uu,uu,uu,uu,uu,uu,uu,uu,uu,uu,uu,uu,uu,uu,uu,uu,uu,uu,uu,uu,uu,uu,uu,uu,uu,uu,uu,uu,uu,uu,uu,uu,uu,uu,uu,uu,uu,uu,uu,uu,uu,uu,uu,uu,uu,uu,uu,uu,uu,uu,uu,uu,uu,uu,uu,uu,uu,uu,uu,uu,uu,uu,uu,uu,uu,uu,uu,uu,uu,uu,uu,uu,uu,uu,uu,uu,uu,uu,uu,uu,uu,uu,uu,uu,uu,uu,uu,uu,uu,uu,uu,uu,uu,uu,uu,uu,uu,uu,uu,uu,uu,uu,uu,uu,uu,uu,uu,uu,uu,uu,uu,uu,uu,uu,uu,uu,uu,uu,uu,uu,uu,uu,uu,uu,uu,uu,uu,uu,uu,uu,uu,uu,uu,uu,uu,uu,uu,uu,uu,uu,uu,uu,uu,uu,uu,uu,uu,uu,uu,uu,uu,uu,uu,uu,uu] (by kernel_rfl) ?_
 refine wp_seq_k fun K9a3 h9a3=>Ah<|Br rfl rfl fun b5p w1 E0a4 g5aw q9s=>?_
 refine nrm ?_
 refine Br rfl rfl fun b0t w2 E1t g1a4 q9u=>?_
 refine nrm ?_
 have g6aw:=nlt E0a4.size g1a4
 have X0i:=xtr E0a4 E1t
 refine Br rfl rfl fun b0m w3 E2h g5ai q0v=>?_
 refine nrm ?_
 have g6ai:=nlt X0i.size g5ai
 have X2a4:=xtr X0i E2h
 refine sV (Ac rfl) ?_
 refine Ad<|h9a3 _ _<|wp_seq_k fun K3a4 h3a4=>wp_seq_k fun K1v h1v=>Ah<|sV (Ak As rfl ((q9s.ext E1t).ext E2h) rfl) ?_
 refine sV (Ak As rfl (q9u.ext E2h) rfl) ?_
 refine sV (Ak As rfl q0v rfl) ?_
 refine Dw (vals:=[(0,.agg #[.bool x0.Man.Neg,.slice A1 x0.Man.Abs.length c2,.int .i64 x0.Exp]),(1,.agg #[.bool x1.Man.Neg,.slice A4 x1.Man.Abs.length c5,.int .i64 x1.Exp]),(2,.agg #[.bool x2.Man.Neg,.slice A7 x2.Man.Abs.length c8,.int .i64 x2.Exp])]) (cs:=[.bool x0.Man.Neg,.slice A1 x0.Man.Abs.length c2,.int .i64 x0.Exp,.bool x1.Man.Neg,.slice A4 x1.Man.Abs.length c5,.int .i64 x1.Exp,.bool x2.Man.Neg,.slice A7 x2.Man.Abs.length c8,.int .i64 x2.Exp]) EW AL Bn (by rfl) (by decide) (by kernel_rfl) fun b2v w4 E1m g4a4 q7ai=>?_
 refine nrm ?_
 have g7aw:=nlt X2a4.size g4a4
 have X8o:=xtr X2a4 E1m
 obtain ⟨r3v,h8ai,f2m⟩:=Ab hr
 refine sc (Ae en_6 (by rfl)) (c_sorobanlaw04_valid__3 x0 x1 x2 b2v A1 c2 A4 c5 A7 c8 w4 (tbx X8o hT) (n3.ext X8o) (n6.ext X8o) (n9.ext X8o) q7ai r3v h8ai) ?_
 rintro _ w5 E9f rfl
 refine nrm ?_
 have X1i:=xtr X8o E9f
 refine sb (Eg rfl) fun z2i hz2i=>?_
 refine nrm ?_
 refine sV (Aa rfl) ?_
 obtain ⟨m9o,h5a4,f6a4⟩:=Ab f2m
 refine Bh 13 (fun l l' w'=>∃(t2t:Value) (t0g:Value) (t3m:Value) (t0p:Value) (t3t:Value),w5=w'∧l'=((((((l.set 38 t2t).set 39 t0g).set 40 t3m).set 41 t0p).set 42 t3t).set 43 (.bool m9o))) ?_ ?_
 ·intro HJ57
  rcases bft z2i with e2c | e2c
  ·have p6p:=zP hz2i e2c
   have f7a4:=ifP p6p h5a4
   refine sP ?_ (hw:=wgF rfl e2c)
   refine sP ?_ (hw:=wgF rfl e2c)
   refine sP ?_ (hw:=wgF rfl e2c)
   refine sP ?_ (hw:=wgF rfl e2c)
   refine sP ?_ (hw:=wgF rfl e2c)
   refine sV (Ar (evb rfl e2c) rfl) ?_
   obtain rfl:=sj f7a4
   exact HJ57 _ _ ⟨uu,uu,uu,uu,uu,rfl,(by simp only [S0,S1]<;>rfl)⟩
  ·have p4v:=zN hz2i e2c
   have f8a4:=ifN p4v h5a4
   refine sV (Ai (o':=0) Er rfl rfl) ?_ (hw:=wgT rfl e2c)
   refine sV (Ai (o':=1) Du rfl rfl) ?_ (hw:=wgT rfl e2c)
   have q8aw:=(((q9s.ext E1t).ext E2h).ext E1m).ext E9f
   refine sV (Aj Fl rfl (Bx.cell q8aw rfl)) ?_ (hw:=wgT rfl e2c)
   refine sV (AO CQ rfl) ?_ (hw:=wgT rfl e2c)
   refine sb (Eu rfl rfl) ?_ (hw:=wgT rfl e2c)
   intro z9a4 hz9a4
   refine nrm ?_
   refine sV (Az (evb rfl e2c) rfl) ?_
   obtain rfl:z9a4=decide (20<(x0.Man.Abs.length:Int)):=bz hz9a4
   obtain rfl:=sj f8a4
   exact HJ57 _ _ ⟨(.pointer (some ⟨b5p,0,none⟩)),(.pointer (some ⟨b5p,1,none⟩)),(.slice A1 x0.Man.Abs.length c2),(.int .i64 (x0.Man.Abs.length:Int)),(.bool (decide (20<(x0.Man.Abs.length:Int)))),rfl,(by simp only [S0,S1]<;>rfl)⟩
 ·rintro l' _ ⟨t2t,t0g,t3m,t0p,t3t,rfl,hq'⟩ l'' hl
  rw [hq'] at hl
  clear hq'
  simp only [S0,S1] at hl
  subst hl
  refine sV (Aa rfl) ?_
  obtain ⟨m7p,h9ai,f9aw⟩:=Ab f6a4
  refine Bh 20 (fun l l' w'=>∃(t5v:Value) (t6v:Value) (t7v:Value) (t8v:Value) (t9v:Value),w5=w'∧l'=((((((l.set 45 t5v).set 46 t6v).set 47 t7v).set 48 t8v).set 49 t9v).set 50 (.bool m7p))) ?_ ?_
  ·intro HJ81
   rcases bft m9o with e9c | e9c
   ·have p0ax:=e9c
    have f1ax:=ifP p0ax h9ai
    refine sP ?_ (hw:=wgF rfl e9c)
    refine sP ?_ (hw:=wgF rfl e9c)
    refine sP ?_ (hw:=wgF rfl e9c)
    refine sP ?_ (hw:=wgF rfl e9c)
    refine sP ?_ (hw:=wgF rfl e9c)
    refine sV (Ar (evb rfl e9c) rfl) ?_
    obtain rfl:=sj f1ax
    exact HJ81 _ _ ⟨uu,uu,uu,uu,uu,rfl,(by simp only [S0,S1]<;>rfl)⟩
   ·have p2ax:=bF e9c
    have f3ax:=ifN p2ax h9ai
    refine sV (Ai (o':=0) Er rfl rfl) ?_ (hw:=wgT rfl e9c)
    refine sV (Ai (o':=1) Du rfl rfl) ?_ (hw:=wgT rfl e9c)
    have q4ax:=((q9u.ext E2h).ext E1m).ext E9f
    refine sV (Aj Fl rfl (Bx.cell q4ax rfl)) ?_ (hw:=wgT rfl e9c)
    refine sV (AO CQ rfl) ?_ (hw:=wgT rfl e9c)
    refine sb (Eu rfl rfl) ?_ (hw:=wgT rfl e9c)
    intro z0a5 hz0a5
    refine nrm ?_
    refine sV (Az (evb rfl e9c) rfl) ?_
    obtain rfl:z0a5=decide (20<(x1.Man.Abs.length:Int)):=bz hz0a5
    obtain rfl:=sj f3ax
    exact HJ81 _ _ ⟨(.pointer (some ⟨b0t,0,none⟩)),(.pointer (some ⟨b0t,1,none⟩)),(.slice A4 x1.Man.Abs.length c5),(.int .i64 (x1.Man.Abs.length:Int)),(.bool (decide (20<(x1.Man.Abs.length:Int)))),rfl,(by simp only [S0,S1]<;>rfl)⟩
  ·rintro l' _ ⟨t5v,t6v,t7v,t8v,t9v,rfl,hq'⟩ l'' hl
   rw [hq'] at hl
   clear hq'
   simp only [S0,S1] at hl
   subst hl
   refine sV (Aa rfl) ?_
   obtain ⟨m8p,h0aj,f5ax⟩:=Ab f9aw
   refine Bh 27 (fun l l' w'=>∃(t0w:Value) (t1w:Value) (t2w:Value) (t3w:Value) (t4w:Value),w5=w'∧l'=((((((l.set 52 t0w).set 53 t1w).set 54 t2w).set 55 t3w).set 56 t4w).set 57 (.bool m8p))) ?_ ?_
   ·intro HJ104
    rcases bft m7p with e0d | e0d
    ·have p6ax:=e0d
     have f7ax:=ifP p6ax h0aj
     refine sP ?_ (hw:=wgF rfl e0d)
     refine sP ?_ (hw:=wgF rfl e0d)
     refine sP ?_ (hw:=wgF rfl e0d)
     refine sP ?_ (hw:=wgF rfl e0d)
     refine sP ?_ (hw:=wgF rfl e0d)
     refine sV (Ar (evb rfl e0d) rfl) ?_
     obtain rfl:=sj f7ax
     exact HJ104 _ _ ⟨uu,uu,uu,uu,uu,rfl,(by simp only [S0,S1]<;>rfl)⟩
    ·have p8ax:=bF e0d
     have f9ax:=ifN p8ax h0aj
     refine sV (Ai (o':=0) Er rfl rfl) ?_ (hw:=wgT rfl e0d)
     refine sV (Ai (o':=1) Du rfl rfl) ?_ (hw:=wgT rfl e0d)
     refine sV (Aj Fl rfl (Bx.cell ((q0v.ext E1m).ext E9f) rfl)) ?_ (hw:=wgT rfl e0d)
     refine sV (AO CQ rfl) ?_ (hw:=wgT rfl e0d)
     refine sb (Eu rfl rfl) ?_ (hw:=wgT rfl e0d)
     intro z1a5 hz1a5
     refine nrm ?_
     refine sV (Az (evb rfl e0d) rfl) ?_
     obtain rfl:z1a5=decide (20<(x2.Man.Abs.length:Int)):=bz hz1a5
     obtain rfl:=sj f9ax
     exact HJ104 _ _ ⟨(.pointer (some ⟨b0m,0,none⟩)),(.pointer (some ⟨b0m,1,none⟩)),(.slice A7 x2.Man.Abs.length c8),(.int .i64 (x2.Man.Abs.length:Int)),(.bool (decide (20<(x2.Man.Abs.length:Int)))),rfl,(by simp only [S0,S1]<;>rfl)⟩
   ·rintro l' _ ⟨t0w,t1w,t2w,t3w,t4w,rfl,hq'⟩ l'' hl
    rw [hq'] at hl
    clear hq'
    simp only [S0,S1] at hl
    subst hl
    refine sV (Aa rfl) ?_
    obtain ⟨m9p,h1aj,f0ay⟩:=Ab f5ax
    refine Bh 31 (fun l l' w'=>∃(t5w:Value) (t6w:Value),w5=w'∧l'=(((l.set 59 t5w).set 60 t6w).set 61 (.bool m9p))) ?_ ?_
    ·intro HJ123
     rcases bft m8p with e3i | e3i
     ·have p1ay:=e3i
      have f2ay:=ifP p1ay h1aj
      refine sP ?_ (hw:=wgF rfl e3i)
      refine sP ?_ (hw:=wgF rfl e3i)
      refine sV (Ar (evb rfl e3i) rfl) ?_
      obtain rfl:=sj f2ay
      exact HJ123 _ _ ⟨uu,uu,rfl,(by simp only [S0,S1]<;>rfl)⟩
     ·have p3ay:=bF e3i
      have f4ay:=ifN p3ay h1aj
      refine sV (Aa rfl) ?_ (hw:=wgT rfl e3i)
      refine sb (Eu rfl rfl) ?_ (hw:=wgT rfl e3i)
      intro z2a5 hz2a5
      refine nrm ?_
      refine sV (Az (evb rfl e3i) rfl) ?_
      obtain rfl:z2a5=decide (3000<x3):=bz hz2a5
      obtain rfl:=sj f4ay
      exact HJ123 _ _ ⟨(.int .i64 x3),(.bool (decide (3000<x3))),rfl,(by simp only [S0,S1]<;>rfl)⟩
    ·rintro l' _ ⟨t5w,t6w,rfl,hq'⟩ l'' hl
     rw [hq'] at hl
     clear hq'
     simp only [S0,S1] at hl
     subst hl
     refine sV (Aa rfl) ?_
     obtain ⟨m7w,h2aj,f3aj⟩:=Ab f0ay
     refine Bh 35 (fun l l' w'=>∃(t8w:Value) (t9w:Value),w5=w'∧l'=(((l.set 63 t8w).set 64 t9w).set 65 (.bool m7w))) ?_ ?_
     ·intro HJ142
      rcases bft m9p with e4i | e4i
      ·have p5ay:=e4i
       have f6ay:=ifP p5ay h2aj
       refine sP ?_ (hw:=wgF rfl e4i)
       refine sP ?_ (hw:=wgF rfl e4i)
       refine sV (Ar (evb rfl e4i) rfl) ?_
       obtain rfl:=sj f6ay
       exact HJ142 _ _ ⟨uu,uu,rfl,(by simp only [S0,S1]<;>rfl)⟩
      ·have p7ay:=bF e4i
       have f8ay:=ifN p7ay h2aj
       refine sV (Aa rfl) ?_ (hw:=wgT rfl e4i)
       refine sb (CR rfl rfl) ?_ (hw:=wgT rfl e4i)
       intro z3a5 hz3a5
       refine nrm ?_
       refine sV (Az (evb rfl e4i) rfl) ?_
       obtain rfl:z3a5=decide (x3<(-3000)):=bz hz3a5
       obtain rfl:=sj f8ay
       exact HJ142 _ _ ⟨(.int .i64 x3),(.bool (decide (x3<(-3000)))),rfl,(by simp only [S0,S1]<;>rfl)⟩
     ·rintro l' _ ⟨t8w,t9w,rfl,hq'⟩ l'' hl
      rw [hq'] at hl
      clear hq'
      simp only [S0,S1] at hl
      subst hl
      refine Ad<|h1v _ _ ?_
      rcases bft m7w with e4t | e4t
      ·have p9ay:=e4t
       have f0az:=ifP p9ay f3aj
       refine wp_cond_true (Ao (evb rfl e4t))<|wp_seq_k fun K4aj h4aj=>Ah ?_
       obtain ⟨r1az,h2az,f3az⟩:=Ab f0az
       refine sc (Ae en_7 (by rfl)) (FG w5 (tbx X1i hT)  r1az h2az) ?_
       rintro _ w6 E4az rfl
       refine nrm ?_
       have X5az:=xtr X1i E4az
       refine sV (Ac rfl) ?_
       refine Ad<|h4aj _ _<|wp_ret ?_
       obtain rfl:=sj f3az
       exact fin rfl (Res.tmp rfl Res.nil) (Ap X5az rfl)
      ·have p6az:=bF e4t
       have f7az:=ifN p6az f3aj
       refine wp_cond_false (Ao (evb rfl e4t))<|wp_skip<|h3a4 _ _<|wp_seq_k fun K5aj h5aj=>Ah<|have q4a5:=(((q9s.ext E1t).ext E2h).ext E1m).ext E9f;sV (Ak As rfl q4a5 rfl) ?_
       have q5a5:=((q9u.ext E2h).ext E1m).ext E9f
       refine sV (Ak As rfl q5a5 rfl) ?_
       obtain ⟨r6a,h8az,f9az⟩:=Ab f7az
       refine sc (Ae JP (by rfl)) (Fj x0 x1 A1 c2 A4 c5 w5 (tbx X1i hT) (n3.ext X1i) (n6.ext X1i) r6a h8az) ?_
       rintro _ w6 E0q ⟨A1g,c2g,rfl,n0b0⟩
       refine nrm ?_
       have X6aj:=xtr X1i E0q
       refine sV (Aa rfl) ?_
       refine sV (Am rfl rfl) ?_
       refine sV (Am rfl rfl) ?_
       refine Ax Bn fun b7aj w7 E1b0 g8aj q2b0=>?_
       refine nrm ?_
       have g6bw:=nlt X6aj.size g8aj
       refine AA AL rfl rfl q2b0 rfl rfl rfl rfl (by simp only [SP0,SP1,S0,S1,Nat.reduceAdd];rfl) fun w8 U3b0 q9aj=>?_
       have F1p:=belU E1b0 U3b0 g8aj
       have X0x:=xtr X6aj F1p
       refine sV (Ac rfl) ?_
       refine Ad<|h5aj _ _<|wp_seq_k fun K0ak h0ak=>Ah<|sV (Ak As rfl ((q5a5.ext E0q).ext F1p) rfl) ?_
       refine sV (Ak As rfl ((q4a5.ext E0q).ext F1p) rfl) ?_
       obtain ⟨r2b,h4b0,f5b0⟩:=Ab f9az
       refine sc (Ae JP (by rfl)) (Fj x1 x0 A4 c5 A1 c2 w8 (tbx X0x hT) (n6.ext X0x) (n3.ext X0x) r2b h4b0) ?_
       rintro _ w9 E2p ⟨A4m,c5m,rfl,n6b0⟩
       refine nrm ?_
       have X1ak:=xtr X0x E2p
       refine sV (Aa rfl) ?_
       refine sV (Am rfl rfl) ?_
       refine sV (Am rfl rfl) ?_
       refine Ax Bn fun b2ak w9a3 E7b0 g3ak q8b0=>?_
       refine nrm ?_
       have g7bw:=nlt X1ak.size g3ak
       refine AA AL rfl rfl q8b0 rfl rfl rfl rfl (by simp only [SP0,SP1,S0,S1,Nat.reduceAdd];rfl) fun w5p U9b0 q0b1=>?_
       have F6m:=belU E7b0 U9b0 g3ak
       have X6a5:=xtr X1ak F6m
       refine sV (Ac rfl) ?_
       refine Ad<|h0ak _ _<|wp_seq_k fun K4ak h4ak=>Ah<|sV (Ak As rfl ((q9aj.ext E2p).ext F6m) rfl) ?_
       have q7a5:=(((((q0v.ext E1m).ext E9f).ext E0q).ext F1p).ext E2p).ext F6m
       refine sV (Ak As rfl q7a5 rfl) ?_
       have n5ak:=((n0b0.ext F1p).ext E2p).ext F6m
       obtain ⟨r3b,h1b1,f2b1⟩:=Ab f5b0
       refine sc (Ae JP (by rfl)) (Fj (⟨(⟨r6a.1.Man.Neg,(limbs r6a.1.Man.Abs)⟩:Ay),r6a.1.Exp⟩:Al) x2 A1g c2g A7 c8 w5p (tbx X6a5 hT) n5ak (n9.ext X6a5) r3b h1b1) ?_
       rintro _ w0a4 E5i ⟨A7m,c8m,rfl,n3b1⟩
       refine nrm ?_
       have X6ak:=xtr X6a5 E5i
       refine sV (Aa rfl) ?_
       refine sV (Am rfl rfl) ?_
       refine sV (Am rfl rfl) ?_
       refine Ax Bn fun b7ak w5aw E4b1 g8ak q5b1=>?_
       refine nrm ?_
       have g8bw:=nlt X6ak.size g8ak
       refine AA AL rfl rfl q5b1 rfl rfl rfl rfl (by simp only [SP0,SP1,S0,S1,Nat.reduceAdd];rfl) fun w9s U6b1 q7b1=>?_
       have F3h:=belU E4b1 U6b1 g8ak
       have X1x:=xtr X6ak F3h
       refine sV (Ac rfl) ?_
       refine Ad<|h4ak _ _<|wp_seq_k fun K9ak h9ak=>Ah<|have q0al:=(((((q5a5.ext E0q).ext F1p).ext E2p).ext F6m).ext E5i).ext F3h;sV (Ak As rfl q0al rfl) ?_
       refine sV (Ak As rfl ((q7a5.ext E5i).ext F3h) rfl) ?_
       obtain ⟨r1a,h8b1,f9b1⟩:=Ab f2b1
       refine sc (Ae JP (by rfl)) (Fj x1 x2 A4 c5 A7 c8 w9s (tbx X1x hT) (n6.ext X1x) (n9.ext X1x) r1a h8b1) ?_
       rintro _ w0t E4h ⟨A2f,c3f,rfl,n1al⟩
       refine nrm ?_
       have X2al:=xtr X1x E4h
       refine sV (Aa rfl) ?_
       refine sV (Am rfl rfl) ?_
       refine sV (Am rfl rfl) ?_
       refine Ax Bn fun b3al w1t E0b2 g4al q1b2=>?_
       refine nrm ?_
       have g9bw:=nlt X2al.size g4al
       refine AA AL rfl rfl q1b2 rfl rfl rfl rfl (by simp only [SP0,SP1,S0,S1,Nat.reduceAdd];rfl) fun w1a4 U2b2 q5al=>?_
       have F4f:=belU E0b2 U2b2 g4al
       have X8a5:=xtr X2al F4f
       refine sV (Ac rfl) ?_
       refine Ad<|h9ak _ _<|wp_seq_k fun K6al h6al=>Ah<|have q7al:=(((((((q4a5.ext E0q).ext F1p).ext E2p).ext F6m).ext E5i).ext F3h).ext E4h).ext F4f;sV (Ak As rfl q7al rfl) ?_
       refine sV (Ak As rfl q5al rfl) ?_
       obtain ⟨r4b,h3b2,f4b2⟩:=Ab f9b1
       refine sc (Ae JP (by rfl)) (Fj x0 (⟨(⟨r1a.1.Man.Neg,(limbs r1a.1.Man.Abs)⟩:Ay),r1a.1.Exp⟩:Al) A1 c2 A2f c3f w1a4 (tbx X8a5 hT) (n3.ext X8a5) (n1al.ext F4f) r4b h3b2) ?_
       rintro _ w9u E5f ⟨A9m,c0n,rfl,n5b2⟩
       refine nrm ?_
       have X8al:=xtr X8a5 E5f
       refine sV (Aa rfl) ?_
       refine sV (Am rfl rfl) ?_
       refine sV (Am rfl rfl) ?_
       refine Ax Bn fun b9al w6aw E6b2 g0am q7b2=>?_
       refine nrm ?_
       have g0bx:=nlt X8al.size g0am
       refine AA AL rfl rfl q7b2 rfl rfl rfl rfl (by simp only [SP0,SP1,S0,S1,Nat.reduceAdd];rfl) fun w0i U8b2 q9b2=>?_
       have F3e:=belU E6b2 U8b2 g0am
       have X9a5:=xtr X8al F3e
       refine sV (Ac rfl) ?_
       refine Ad<|h6al _ _<|wp_seq_k fun K1am h1am=>wp_seq_k fun K2am h2am=>Ah<|sV (Aa rfl) ?_
       refine sb (DY rfl rfl) fun z1n hz1n=>?_
       refine nrm ?_
       refine sV (Aa rfl) ?_
       obtain ⟨m1q,h3am,f0b3⟩:=Ab f4b2
       refine Bh 6 (fun l l' w'=>∃(t2x:Value) (t3x:Value),w0i=w'∧l'=(((l.set 100 t2x).set 101 t3x).set 102 (.bool m1q))) ?_ ?_
       ·intro HJ281
        rcases bft z1n with e6i | e6i
        ·have p1b3:=zP hz1n e6i
         have f2b3:=ifP p1b3 h3am
         refine sP ?_ (hw:=wgF rfl e6i)
         refine sP ?_ (hw:=wgF rfl e6i)
         refine sV (Ar (evb rfl e6i) rfl) ?_
         obtain rfl:=sj f2b3
         exact HJ281 _ _ ⟨uu,uu,rfl,(by simp only [S0,S1]<;>rfl)⟩
        ·have p3b3:=zN hz1n e6i
         have f4b3:=ifN p3b3 h3am
         refine sV (Aa rfl) ?_ (hw:=wgT rfl e6i)
         refine sb (DY rfl rfl) ?_ (hw:=wgT rfl e6i)
         intro z0a6 hz0a6
         refine nrm ?_
         refine sV (Az (evb rfl e6i) rfl) ?_
         obtain rfl:z0a6=decide (¬r2b.2=0):=bz hz0a6
         obtain rfl:=sj f4b3
         exact HJ281 _ _ ⟨(.int .i64 r2b.2),(.bool (decide (¬r2b.2=0))),rfl,(by simp only [S0,S1]<;>rfl)⟩
       ·rintro l' _ ⟨t2x,t3x,rfl,hq'⟩ l'' hl
        rw [hq'] at hl
        clear hq'
        simp only [S0,S1] at hl
        subst hl
        refine sV (Aa rfl) ?_
        obtain ⟨m2q,h4am,f5b3⟩:=Ab f0b3
        refine Bh 10 (fun l l' w'=>∃(t4x:Value) (t5x:Value),w0i=w'∧l'=(((l.set 104 t4x).set 105 t5x).set 106 (.bool m2q))) ?_ ?_
        ·intro HJ300
         rcases bft m1q with e7i | e7i
         ·have p6b3:=e7i
          have f7b3:=ifP p6b3 h4am
          refine sP ?_ (hw:=wgF rfl e7i)
          refine sP ?_ (hw:=wgF rfl e7i)
          refine sV (Ar (evb rfl e7i) rfl) ?_
          obtain rfl:=sj f7b3
          exact HJ300 _ _ ⟨uu,uu,rfl,(by simp only [S0,S1]<;>rfl)⟩
         ·have p8b3:=bF e7i
          have f9b3:=ifN p8b3 h4am
          refine sV (Aa rfl) ?_ (hw:=wgT rfl e7i)
          refine sb (DY rfl rfl) ?_ (hw:=wgT rfl e7i)
          intro z1a6 hz1a6
          refine nrm ?_
          refine sV (Az (evb rfl e7i) rfl) ?_
          obtain rfl:z1a6=decide (¬r3b.2=0):=bz hz1a6
          obtain rfl:=sj f9b3
          exact HJ300 _ _ ⟨(.int .i64 r3b.2),(.bool (decide (¬r3b.2=0))),rfl,(by simp only [S0,S1]<;>rfl)⟩
        ·rintro l' _ ⟨t4x,t5x,rfl,hq'⟩ l'' hl
         rw [hq'] at hl
         clear hq'
         simp only [S0,S1] at hl
         subst hl
         refine sV (Aa rfl) ?_
         obtain ⟨m3q,h5am,f0b4⟩:=Ab f5b3
         refine Bh 14 (fun l l' w'=>∃(t6x:Value) (t7x:Value),w0i=w'∧l'=(((l.set 108 t6x).set 109 t7x).set 110 (.bool m3q))) ?_ ?_
         ·intro HJ319
          rcases bft m2q with e8i | e8i
          ·have p1b4:=e8i
           have f2b4:=ifP p1b4 h5am
           refine sP ?_ (hw:=wgF rfl e8i)
           refine sP ?_ (hw:=wgF rfl e8i)
           refine sV (Ar (evb rfl e8i) rfl) ?_
           obtain rfl:=sj f2b4
           exact HJ319 _ _ ⟨uu,uu,rfl,(by simp only [S0,S1]<;>rfl)⟩
          ·have p3b4:=bF e8i
           have f4b4:=ifN p3b4 h5am
           refine sV (Aa rfl) ?_ (hw:=wgT rfl e8i)
           refine sb (DY rfl rfl) ?_ (hw:=wgT rfl e8i)
           intro z2a6 hz2a6
           refine nrm ?_
           refine sV (Az (evb rfl e8i) rfl) ?_
           obtain rfl:z2a6=decide (¬r1a.2=0):=bz hz2a6
           obtain rfl:=sj f4b4
           exact HJ319 _ _ ⟨(.int .i64 r1a.2),(.bool (decide (¬r1a.2=0))),rfl,(by simp only [S0,S1]<;>rfl)⟩
         ·rintro l' _ ⟨t6x,t7x,rfl,hq'⟩ l'' hl
          rw [hq'] at hl
          clear hq'
          simp only [S0,S1] at hl
          subst hl
          refine sV (Aa rfl) ?_
          obtain ⟨m4q,h6am,f5b4⟩:=Ab f0b4
          refine Bh 18 (fun l l' w'=>∃(t8x:Value) (t9x:Value),w0i=w'∧l'=(((l.set 112 t8x).set 113 t9x).set 114 (.bool m4q))) ?_ ?_
          ·intro HJ338
           rcases bft m3q with e9i | e9i
           ·have p6b4:=e9i
            have f7b4:=ifP p6b4 h6am
            refine sP ?_ (hw:=wgF rfl e9i)
            refine sP ?_ (hw:=wgF rfl e9i)
            refine sV (Ar (evb rfl e9i) rfl) ?_
            obtain rfl:=sj f7b4
            exact HJ338 _ _ ⟨uu,uu,rfl,(by simp only [S0,S1]<;>rfl)⟩
           ·have p8b4:=bF e9i
            have f9b4:=ifN p8b4 h6am
            refine sV (Aa rfl) ?_ (hw:=wgT rfl e9i)
            refine sb (DY rfl rfl) ?_ (hw:=wgT rfl e9i)
            intro z3a6 hz3a6
            refine nrm ?_
            refine sV (Az (evb rfl e9i) rfl) ?_
            obtain rfl:z3a6=decide (¬r4b.2=0):=bz hz3a6
            obtain rfl:=sj f9b4
            exact HJ338 _ _ ⟨(.int .i64 r4b.2),(.bool (decide (¬r4b.2=0))),rfl,(by simp only [S0,S1]<;>rfl)⟩
          ·rintro l' _ ⟨t8x,t9x,rfl,hq'⟩ l'' hl
           rw [hq'] at hl
           clear hq'
           simp only [S0,S1] at hl
           subst hl
           refine sV (Aa rfl) ?_
           obtain ⟨m5q,h7am,f0b5⟩:=Ab f5b4
           refine Bh 24 (fun l l' w'=>∃(t0y:Value) (t1y:Value) (t2y:Value) (t3y:Value),UpdS [] w0i w'∧l'=(((((l.set 116 t0y).set 117 t1y).set 118 t2y).set 119 t3y).set 120 (.bool m5q))) ?_ ?_
           ·intro HJ368
            rcases bft m4q with e4e | e4e
            ·have p1b5:=e4e
             have f2b5:=ifP p1b5 h7am
             refine sP ?_ (hw:=wgF rfl e4e)
             refine sP ?_ (hw:=wgF rfl e4e)
             refine sP ?_ (hw:=wgF rfl e4e)
             refine sP ?_ (hw:=wgF rfl e4e)
             refine sV (Ar (evb rfl e4e) rfl) ?_
             obtain rfl:=sj f2b5
             exact HJ368 _ _ ⟨uu,uu,uu,uu,(UpdS.refl _ _),(by simp only [S0,S1]<;>rfl)⟩
            ·have p3b5:=bF e4e
             have f4b5:=ifN p3b5 h7am
             have q5b5:=(((((((q9aj.ext E2p).ext F6m).ext E5i).ext F3h).ext E4h).ext F4f).ext E5f).ext F3e
             refine sV (Ak As rfl q5b5 rfl) ?_ (hw:=wgT rfl e4e)
             have q6b5:=(((((q0b1.ext E5i).ext F3h).ext E4h).ext F4f).ext E5f).ext F3e
             refine sV (Ak As rfl q6b5 rfl) ?_ (hw:=wgT rfl e4e)
             have n7b5:=(((((n5ak.ext E5i).ext F3h).ext E4h).ext F4f).ext E5f).ext F3e
             have n8b5:=((((((n6b0.ext F6m).ext E5i).ext F3h).ext E4h).ext F4f).ext E5f).ext F3e
             obtain ⟨r4y,h9b5,f0b6⟩:=Ab f4b5
             refine sc (Ae It (by rfl)) (Bc r6a.1 r2b.1 A1g c2g A4m c5m w0i (tbx X9a5 hT) n7b5 n8b5 r4y h9b5) ?_ (hw:=wgT rfl e4e)
             rintro _ w0m E1b6 rfl
             refine nrm ?_
             refine sb (Eg rfl) ?_ (hw:=wgT rfl e4e)
             intro z4a6 hz4a6
             refine nrm ?_
             refine sV (Az (evb rfl e4e) rfl) ?_
             obtain rfl:z4a6=decide (¬(r4y=true)):=bz hz4a6
             obtain rfl:=sj f0b6
             exact HJ368 _ _ ⟨(.agg #[.bool r6a.1.Man.Neg,.slice A1g (sz r6a.1.Man.Abs) c2g,.int .i64 r6a.1.Exp]),(.agg #[.bool r2b.1.Man.Neg,.slice A4m (sz r2b.1.Man.Abs) c5m,.int .i64 r2b.1.Exp]),(.bool r4y),(.bool (decide (¬(r4y=true)))),((UpdS.refl _ _).ext E1b6),(by simp only [S0,S1]<;>rfl)⟩
           ·rintro l' w0m ⟨t0y,t1y,t2y,t3y,U5h,hq'⟩ l'' hl
            rw [hq'] at hl
            clear hq'
            simp only [S0,S1] at hl
            subst hl
            have X5a6:=GA X9a5 U5h (X9a5).size al0
            refine sV (Aa rfl) ?_
            obtain ⟨m5y,h8am,f9am⟩:=Ab f0b5
            refine Bh 30 (fun l l' w'=>∃(t6y:Value) (t7y:Value) (t8y:Value) (t9y:Value),UpdS [] w0m w'∧l'=(((((l.set 122 t6y).set 123 t7y).set 124 t8y).set 125 t9y).set 126 (.bool m5y))) ?_ ?_
            ·intro HJ406
             rcases bft m5q with e5e | e5e
             ·have p2b6:=e5e
              have f3b6:=ifP p2b6 h8am
              refine sP ?_ (hw:=wgF rfl e5e)
              refine sP ?_ (hw:=wgF rfl e5e)
              refine sP ?_ (hw:=wgF rfl e5e)
              refine sP ?_ (hw:=wgF rfl e5e)
              refine sV (Ar (evb rfl e5e) rfl) ?_
              obtain rfl:=sj f3b6
              exact HJ406 _ _ ⟨uu,uu,uu,uu,(UpdS.refl _ _),(by simp only [S0,S1]<;>rfl)⟩
             ·have p4b6:=bF e5e
              have f5b6:=ifN p4b6 h8am
              have q6b6:=((((q7b1.ext E4h).ext F4f).ext E5f).ext F3e).updS U5h nm0
              refine sV (Ak As rfl q6b6 rfl) ?_ (hw:=wgT rfl e5e)
              refine sV (Ak As rfl (q9b2.updS U5h nm0) rfl) ?_ (hw:=wgT rfl e5e)
              have n7b6:=(((((n3b1.ext F3h).ext E4h).ext F4f).ext E5f).ext F3e).updS U5h al0
              obtain ⟨r0z,h8b6,f9b6⟩:=Ab f5b6
              refine sc (Ae It (by rfl)) (Bc r3b.1 r4b.1 A7m c8m A9m c0n w0m (tbx X5a6 hT) n7b6 ((n5b2.ext F3e).updS U5h al0) r0z h8b6) ?_ (hw:=wgT rfl e5e)
              rintro _ w2h E0b7 rfl
              refine nrm ?_
              refine sb (Eg rfl) ?_ (hw:=wgT rfl e5e)
              intro z6a6 hz6a6
              refine nrm ?_
              refine sV (Az (evb rfl e5e) rfl) ?_
              obtain rfl:z6a6=decide (¬(r0z=true)):=bz hz6a6
              obtain rfl:=sj f9b6
              exact HJ406 _ _ ⟨(.agg #[.bool r3b.1.Man.Neg,.slice A7m (sz r3b.1.Man.Abs) c8m,.int .i64 r3b.1.Exp]),(.agg #[.bool r4b.1.Man.Neg,.slice A9m (sz r4b.1.Man.Abs) c0n,.int .i64 r4b.1.Exp]),(.bool r0z),(.bool (decide (¬(r0z=true)))),((UpdS.refl _ _).ext E0b7),(by simp only [S0,S1]<;>rfl)⟩
            ·rintro l' w2h ⟨t6y,t7y,t8y,t9y,U6q,hq'⟩ l'' hl
             rw [hq'] at hl
             clear hq'
             simp only [S0,S1] at hl
             subst hl
             have X5t:=GA X5a6 U6q (X5a6).size al0
             refine Ad<|h2am _ _ ?_
             rcases bft m5y with e6t | e6t
             ·have p1b7:=e6t
              have f2b7:=ifP p1b7 f9am
              refine wp_cond_true (Ao (evb rfl e6t))<|wp_seq_k fun K0an h0an=>Ah<|sV (Ac rfl) ?_
              refine Ad<|h0an _ _<|wp_ret ?_
              obtain rfl:=sj f2b7
              exact fin rfl (Res.tmp rfl Res.nil) (Ap X5t rfl)
             ·have p3b7:=bF e6t
              have f4b7:=ifN p3b7 f9am
              refine wp_cond_false (Ao (evb rfl e6t))<|wp_skip<|h1am _ _<|wp_seq_k fun K1an h1an=>Ah<|have q7a6:=(((q7al.ext E5f).ext F3e).updS U5h nm0).updS U6q nm0;sV (Ak As rfl q7a6 rfl) ?_
              have q1z:=(((((q0al.ext E4h).ext F4f).ext E5f).ext F3e).updS U5h nm0).updS U6q nm0
              refine sV (Ak As rfl q1z rfl) ?_
              obtain ⟨r0a,h5b7,f6b7⟩:=Ab f4b7
              refine sc (Ae GP (by rfl)) (Dy x0 x1 A1 c2 A4 c5 w2h (tbx X5t hT) (n3.ext X5t) (n6.ext X5t) r0a h5b7) ?_
              rintro _ w5ai E0j ⟨A7d,c8d,rfl,n7b7⟩
              refine nrm ?_
              have X2an:=xtr X5t E0j
              refine sV (Aa rfl) ?_
              refine sV (Am rfl rfl) ?_
              refine sV (Am rfl rfl) ?_
              refine Ax Bn fun b3an w0v E8b7 g4an q9b7=>?_
              refine nrm ?_
              have g1bx:=nlt X2an.size g4an
              refine AA AL rfl rfl q9b7 rfl rfl rfl rfl (by simp only [SP0,SP1,S0,S1,Nat.reduceAdd];rfl) fun w6ai U0b8 q1b8=>?_
              have F6h:=belU E8b7 U0b8 g4an
              have X2z:=xtr X2an F6h
              refine sV (Ac rfl) ?_
              refine Ad<|h1an _ _<|wp_seq_k fun K5an h5an=>Ah<|sV (Ak As rfl ((q1z.ext E0j).ext F6h) rfl) ?_
              refine sV (Ak As rfl ((q7a6.ext E0j).ext F6h) rfl) ?_
              obtain ⟨r9a,h2b8,f3b8⟩:=Ab f6b7
              refine sc (Ae GP (by rfl)) (Dy x1 x0 A4 c5 A1 c2 w6ai (tbx X2z hT) (n6.ext X2z) (n3.ext X2z) r9a h2b8) ?_
              rintro _ w2a4 E1j ⟨A2n,c3n,rfl,n4b8⟩
              refine nrm ?_
              have X6an:=xtr X2z E1j
              refine sV (Aa rfl) ?_
              refine sV (Am rfl rfl) ?_
              refine sV (Am rfl rfl) ?_
              refine Ax Bn fun b7an w3a4 E5b8 g8an q6b8=>?_
              refine nrm ?_
              have g2bx:=nlt X6an.size g8an
              refine AA AL rfl rfl q6b8 rfl rfl rfl rfl (by simp only [SP0,SP1,S0,S1,Nat.reduceAdd];rfl) fun w1v U7b8 q8b8=>?_
              have F7h:=belU E5b8 U7b8 g8an
              have X3z:=xtr X6an F7h
              refine sV (Ac rfl) ?_
              refine Ad<|h5an _ _<|wp_seq_k fun K9an h9an=>Ah<|have q4z:=(((q7a6.ext E0j).ext F6h).ext E1j).ext F7h;sV (Ak As rfl q4z rfl) ?_
              have q0ao:=(((((((((((q7a5.ext E5i).ext F3h).ext E4h).ext F4f).ext E5f).ext F3e).updS U5h nm0).updS U6q nm0).ext E0j).ext F6h).ext E1j).ext F7h
              refine sV (Ak As rfl q0ao rfl) ?_
              obtain ⟨r8a,h9b8,f0b9⟩:=Ab f3b8
              refine sc (Ae GP (by rfl)) (Dy x0 x2 A1 c2 A7 c8 w1v (tbx X3z hT) (n3.ext X3z) (n9.ext X3z) r8a h9b8) ?_
              rintro _ w2v E6e ⟨A2j,c3j,rfl,n1b9⟩
              refine nrm ?_
              have X1ao:=xtr X3z E6e
              refine sV (Aa rfl) ?_
              refine sV (Am rfl rfl) ?_
              refine sV (Am rfl rfl) ?_
              refine Ax Bn fun b2ao w1m E2b9 g3ao q3b9=>?_
              refine nrm ?_
              have g3bx:=nlt X1ao.size g3ao
              refine AA AL rfl rfl q3b9 rfl rfl rfl rfl (by simp only [SP0,SP1,S0,S1,Nat.reduceAdd];rfl) fun w4a4 U4b9 q5b9=>?_
              have F9d:=belU E2b9 U4b9 g3ao
              have X8a6:=xtr X1ao F9d
              refine sV (Ac rfl) ?_
              refine Ad<|h9an _ _<|wp_seq_k fun K4ao h4ao=>Ah<|sV (Ak As rfl ((q4z.ext E6e).ext F9d) rfl) ?_
              have q6b9:=(((((((((q5al.ext E5f).ext F3e).updS U5h nm0).updS U6q nm0).ext E0j).ext F6h).ext E1j).ext F7h).ext E6e).ext F9d
              refine sV (Ak As rfl q6b9 rfl) ?_
              have n7b9:=((((((((((n1al.ext F4f).ext E5f).ext F3e).updS U5h al0).updS U6q al0).ext E0j).ext F6h).ext E1j).ext F7h).ext E6e).ext F9d
              obtain ⟨r0b,h8b9,f9b9⟩:=Ab f0b9
              refine sc (Ae GP (by rfl)) (Dy x0 (⟨(⟨r1a.1.Man.Neg,(limbs r1a.1.Man.Abs)⟩:Ay),r1a.1.Exp⟩:Al) A1 c2 A2f c3f w4a4 (tbx X8a6 hT) (n3.ext X8a6) n7b9 r0b h8b9) ?_
              rintro _ w7ai E6f ⟨A4n,c5n,rfl,n0ba⟩
              refine nrm ?_
              have X5ao:=xtr X8a6 E6f
              refine sV (Aa rfl) ?_
              refine sV (Am rfl rfl) ?_
              refine sV (Am rfl rfl) ?_
              refine Ax Bn fun b6ao w7aw E1ba g7ao q2ba=>?_
              refine nrm ?_
              have g4bx:=nlt X5ao.size g7ao
              refine AA AL rfl rfl q2ba rfl rfl rfl rfl (by simp only [SP0,SP1,S0,S1,Nat.reduceAdd];rfl) fun w8o U3ba q4ba=>?_
              have F7e:=belU E1ba U3ba g7ao
              have X8ao:=xtr X5ao F7e
              refine sV (Ac rfl) ?_
              refine Ad<|h4ao _ _<|wp_seq_k fun K9ao h9ao=>Ah<|have q9a6:=(((((q1b8.ext E1j).ext F7h).ext E6e).ext F9d).ext E6f).ext F7e;sV (Ak As rfl q9a6 rfl) ?_
              refine sV (Ak As rfl ((q5b9.ext E6f).ext F7e) rfl) ?_
              have n0a7:=((((((n7b7.ext F6h).ext E1j).ext F7h).ext E6e).ext F9d).ext E6f).ext F7e
              have n5ba:=((n1b9.ext F9d).ext E6f).ext F7e
              obtain ⟨r1b,h6ba,f7ba⟩:=Ab f9b9
              refine sc (Ae JP (by rfl)) (Fj (⟨(⟨r0a.1.Man.Neg,(limbs r0a.1.Man.Abs)⟩:Ay),r0a.1.Exp⟩:Al) (⟨(⟨r8a.1.Man.Neg,(limbs r8a.1.Man.Abs)⟩:Ay),r8a.1.Exp⟩:Al) A7d c8d A2j c3j w8o (tbx X8ao hT) n0a7 n5ba r1b h6ba) ?_
              rintro _ w3v E0e ⟨A6n,c7n,rfl,n8ba⟩
              refine nrm ?_
              have X0ap:=xtr X8ao E0e
              refine sV (Aa rfl) ?_
              refine sV (Am rfl rfl) ?_
              refine sV (Am rfl rfl) ?_
              refine Ax Bn fun b1ap w8ai E9ba g2ap q0bb=>?_
              refine nrm ?_
              have g5bx:=nlt X0ap.size g2ap
              refine AA AL rfl rfl q0bb rfl rfl rfl rfl (by simp only [SP0,SP1,S0,S1,Nat.reduceAdd];rfl) fun w2m U1bb q2bb=>?_
              have F1d:=belU E9ba U1bb g2ap
              have X1a7:=xtr X0ap F1d
              refine sV (Ac rfl) ?_
              refine Ad<|h9ao _ _<|wp_seq_k fun K3ap h3ap=>wp_seq_k fun K4ap h4ap=>Ah<|sV (Aa rfl) ?_
              refine sb (DY rfl rfl) fun z8n hz8n=>?_
              refine nrm ?_
              refine sV (Aa rfl) ?_
              obtain ⟨m7q,h5ap,f3bb⟩:=Ab f7ba
              refine Bh 6 (fun l l' w'=>∃(t5z:Value) (t6z:Value),w2m=w'∧l'=(((l.set 160 t5z).set 161 t6z).set 162 (.bool m7q))) ?_ ?_
              ·intro HJ551
               rcases bft z8n with e4j | e4j
               ·have p4bb:=zP hz8n e4j
                have f5bb:=ifP p4bb h5ap
                refine sP ?_ (hw:=wgF rfl e4j)
                refine sP ?_ (hw:=wgF rfl e4j)
                refine sV (Ar (evb rfl e4j) rfl) ?_
                obtain rfl:=sj f5bb
                exact HJ551 _ _ ⟨uu,uu,rfl,(by simp only [S0,S1]<;>rfl)⟩
               ·have p6bb:=zN hz8n e4j
                have f7bb:=ifN p6bb h5ap
                refine sV (Aa rfl) ?_ (hw:=wgT rfl e4j)
                refine sb (DY rfl rfl) ?_ (hw:=wgT rfl e4j)
                intro z2a7 hz2a7
                refine nrm ?_
                refine sV (Az (evb rfl e4j) rfl) ?_
                obtain rfl:z2a7=decide (¬r9a.2=0):=bz hz2a7
                obtain rfl:=sj f7bb
                exact HJ551 _ _ ⟨(.int .i64 r9a.2),(.bool (decide (¬r9a.2=0))),rfl,(by simp only [S0,S1]<;>rfl)⟩
              ·rintro l' _ ⟨t5z,t6z,rfl,hq'⟩ l'' hl
               rw [hq'] at hl
               clear hq'
               simp only [S0,S1] at hl
               subst hl
               refine sV (Aa rfl) ?_
               obtain ⟨m8q,h6ap,f8bb⟩:=Ab f3bb
               refine Bh 10 (fun l l' w'=>∃(t7z:Value) (t8z:Value),w2m=w'∧l'=(((l.set 164 t7z).set 165 t8z).set 166 (.bool m8q))) ?_ ?_
               ·intro HJ570
                rcases bft m7q with e5j | e5j
                ·have p9bb:=e5j
                 have f0bc:=ifP p9bb h6ap
                 refine sP ?_ (hw:=wgF rfl e5j)
                 refine sP ?_ (hw:=wgF rfl e5j)
                 refine sV (Ar (evb rfl e5j) rfl) ?_
                 obtain rfl:=sj f0bc
                 exact HJ570 _ _ ⟨uu,uu,rfl,(by simp only [S0,S1]<;>rfl)⟩
                ·have p1bc:=bF e5j
                 have f2bc:=ifN p1bc h6ap
                 refine sV (Aa rfl) ?_ (hw:=wgT rfl e5j)
                 refine sb (DY rfl rfl) ?_ (hw:=wgT rfl e5j)
                 intro z3a7 hz3a7
                 refine nrm ?_
                 refine sV (Az (evb rfl e5j) rfl) ?_
                 obtain rfl:z3a7=decide (¬r8a.2=0):=bz hz3a7
                 obtain rfl:=sj f2bc
                 exact HJ570 _ _ ⟨(.int .i64 r8a.2),(.bool (decide (¬r8a.2=0))),rfl,(by simp only [S0,S1]<;>rfl)⟩
               ·rintro l' _ ⟨t7z,t8z,rfl,hq'⟩ l'' hl
                rw [hq'] at hl
                clear hq'
                simp only [S0,S1] at hl
                subst hl
                refine sV (Aa rfl) ?_
                obtain ⟨m9q,h7ap,f3bc⟩:=Ab f8bb
                refine Bh 14 (fun l l' w'=>∃(t9z:Value) (t0a0:Value),w2m=w'∧l'=(((l.set 168 t9z).set 169 t0a0).set 170 (.bool m9q))) ?_ ?_
                ·intro HJ589
                 rcases bft m8q with e6j | e6j
                 ·have p4bc:=e6j
                  have f5bc:=ifP p4bc h7ap
                  refine sP ?_ (hw:=wgF rfl e6j)
                  refine sP ?_ (hw:=wgF rfl e6j)
                  refine sV (Ar (evb rfl e6j) rfl) ?_
                  obtain rfl:=sj f5bc
                  exact HJ589 _ _ ⟨uu,uu,rfl,(by simp only [S0,S1]<;>rfl)⟩
                 ·have p6bc:=bF e6j
                  have f7bc:=ifN p6bc h7ap
                  refine sV (Aa rfl) ?_ (hw:=wgT rfl e6j)
                  refine sb (DY rfl rfl) ?_ (hw:=wgT rfl e6j)
                  intro z4a7 hz4a7
                  refine nrm ?_
                  refine sV (Az (evb rfl e6j) rfl) ?_
                  obtain rfl:z4a7=decide (¬r0b.2=0):=bz hz4a7
                  obtain rfl:=sj f7bc
                  exact HJ589 _ _ ⟨(.int .i64 r0b.2),(.bool (decide (¬r0b.2=0))),rfl,(by simp only [S0,S1]<;>rfl)⟩
                ·rintro l' _ ⟨t9z,t0a0,rfl,hq'⟩ l'' hl
                 rw [hq'] at hl
                 clear hq'
                 simp only [S0,S1] at hl
                 subst hl
                 refine sV (Aa rfl) ?_
                 obtain ⟨m0r,h8ap,f8bc⟩:=Ab f3bc
                 refine Bh 18 (fun l l' w'=>∃(t1a0:Value) (t2a0:Value),w2m=w'∧l'=(((l.set 172 t1a0).set 173 t2a0).set 174 (.bool m0r))) ?_ ?_
                 ·intro HJ608
                  rcases bft m9q with e7j | e7j
                  ·have p9bc:=e7j
                   have f0bd:=ifP p9bc h8ap
                   refine sP ?_ (hw:=wgF rfl e7j)
                   refine sP ?_ (hw:=wgF rfl e7j)
                   refine sV (Ar (evb rfl e7j) rfl) ?_
                   obtain rfl:=sj f0bd
                   exact HJ608 _ _ ⟨uu,uu,rfl,(by simp only [S0,S1]<;>rfl)⟩
                  ·have p1bd:=bF e7j
                   have f2bd:=ifN p1bd h8ap
                   refine sV (Aa rfl) ?_ (hw:=wgT rfl e7j)
                   refine sb (DY rfl rfl) ?_ (hw:=wgT rfl e7j)
                   intro z5a7 hz5a7
                   refine nrm ?_
                   refine sV (Az (evb rfl e7j) rfl) ?_
                   obtain rfl:z5a7=decide (¬r1b.2=0):=bz hz5a7
                   obtain rfl:=sj f2bd
                   exact HJ608 _ _ ⟨(.int .i64 r1b.2),(.bool (decide (¬r1b.2=0))),rfl,(by simp only [S0,S1]<;>rfl)⟩
                 ·rintro l' _ ⟨t1a0,t2a0,rfl,hq'⟩ l'' hl
                  rw [hq'] at hl
                  clear hq'
                  simp only [S0,S1] at hl
                  subst hl
                  refine sV (Aa rfl) ?_
                  obtain ⟨m1r,h9ap,f3bd⟩:=Ab f8bc
                  refine Bh 24 (fun l l' w'=>∃(t3a0:Value) (t4a0:Value) (t5a0:Value) (t6a0:Value),UpdS [] w2m w'∧l'=(((((l.set 176 t3a0).set 177 t4a0).set 178 t5a0).set 179 t6a0).set 180 (.bool m1r))) ?_ ?_
                  ·intro HJ636
                   rcases bft m0r with e8e | e8e
                   ·have p4bd:=e8e
                    have f5bd:=ifP p4bd h9ap
                    refine sP ?_ (hw:=wgF rfl e8e)
                    refine sP ?_ (hw:=wgF rfl e8e)
                    refine sP ?_ (hw:=wgF rfl e8e)
                    refine sP ?_ (hw:=wgF rfl e8e)
                    refine sV (Ar (evb rfl e8e) rfl) ?_
                    obtain rfl:=sj f5bd
                    exact HJ636 _ _ ⟨uu,uu,uu,uu,(UpdS.refl _ _),(by simp only [S0,S1]<;>rfl)⟩
                   ·have p6bd:=bF e8e
                    have f7bd:=ifN p6bd h9ap
                    refine sV (Ak As rfl ((q9a6.ext E0e).ext F1d) rfl) ?_ (hw:=wgT rfl e8e)
                    have q8bd:=(((((q8b8.ext E6e).ext F9d).ext E6f).ext F7e).ext E0e).ext F1d
                    refine sV (Ak As rfl q8bd rfl) ?_ (hw:=wgT rfl e8e)
                    have n9bd:=((((((n4b8.ext F7h).ext E6e).ext F9d).ext E6f).ext F7e).ext E0e).ext F1d
                    obtain ⟨r7a0,h0be,f1be⟩:=Ab f7bd
                    refine sc (Ae It (by rfl)) (Bc r0a.1 r9a.1 A7d c8d A2n c3n w2m (tbx X1a7 hT) ((n0a7.ext E0e).ext F1d) n9bd r7a0 h0be) ?_ (hw:=wgT rfl e8e)
                    rintro _ w9f E2be rfl
                    refine nrm ?_
                    refine sb (Eg rfl) ?_ (hw:=wgT rfl e8e)
                    intro z6a7 hz6a7
                    refine nrm ?_
                    refine sV (Az (evb rfl e8e) rfl) ?_
                    obtain rfl:z6a7=decide (¬(r7a0=true)):=bz hz6a7
                    obtain rfl:=sj f1be
                    exact HJ636 _ _ ⟨(.agg #[.bool r0a.1.Man.Neg,.slice A7d (sz r0a.1.Man.Abs) c8d,.int .i64 r0a.1.Exp]),(.agg #[.bool r9a.1.Man.Neg,.slice A2n (sz r9a.1.Man.Abs) c3n,.int .i64 r9a.1.Exp]),(.bool r7a0),(.bool (decide (¬(r7a0=true)))),((UpdS.refl _ _).ext E2be),(by simp only [S0,S1]<;>rfl)⟩
                  ·rintro l' w9f ⟨t3a0,t4a0,t5a0,t6a0,U7f,hq'⟩ l'' hl
                   rw [hq'] at hl
                   clear hq'
                   simp only [S0,S1] at hl
                   subst hl
                   have X7a7:=GA X1a7 U7f (X1a7).size al0
                   refine sV (Aa rfl) ?_
                   obtain ⟨m8a0,h0aq,f1aq⟩:=Ab f3bd
                   refine Bh 30 (fun l l' w'=>∃(t9a0:Value) (t0a1:Value) (t1a1:Value) (t2a1:Value),UpdS [] w9f w'∧l'=(((((l.set 182 t9a0).set 183 t0a1).set 184 t1a1).set 185 t2a1).set 186 (.bool m8a0))) ?_ ?_
                   ·intro HJ672
                    rcases bft m1r with e9e | e9e
                    ·have p3be:=e9e
                     have f4be:=ifP p3be h0aq
                     refine sP ?_ (hw:=wgF rfl e9e)
                     refine sP ?_ (hw:=wgF rfl e9e)
                     refine sP ?_ (hw:=wgF rfl e9e)
                     refine sP ?_ (hw:=wgF rfl e9e)
                     refine sV (Ar (evb rfl e9e) rfl) ?_
                     obtain rfl:=sj f4be
                     exact HJ672 _ _ ⟨uu,uu,uu,uu,(UpdS.refl _ _),(by simp only [S0,S1]<;>rfl)⟩
                    ·have p5be:=bF e9e
                     have f6be:=ifN p5be h0aq
                     have q7be:=((q4ba.ext E0e).ext F1d).updS U7f nm0
                     refine sV (Ak As rfl q7be rfl) ?_ (hw:=wgT rfl e9e)
                     refine sV (Ak As rfl (q2bb.updS U7f nm0) rfl) ?_ (hw:=wgT rfl e9e)
                     have n8be:=(((n0ba.ext F7e).ext E0e).ext F1d).updS U7f al0
                     obtain ⟨r3a1,h9be,f0bf⟩:=Ab f6be
                     refine sc (Ae It (by rfl)) (Bc r0b.1 r1b.1 A4n c5n A6n c7n w9f (tbx X7a7 hT) n8be ((n8ba.ext F1d).updS U7f al0) r3a1 h9be) ?_ (hw:=wgT rfl e9e)
                     rintro _ w1i E1bf rfl
                     refine nrm ?_
                     refine sb (Eg rfl) ?_ (hw:=wgT rfl e9e)
                     intro z8a7 hz8a7
                     refine nrm ?_
                     refine sV (Az (evb rfl e9e) rfl) ?_
                     obtain rfl:z8a7=decide (¬(r3a1=true)):=bz hz8a7
                     obtain rfl:=sj f0bf
                     exact HJ672 _ _ ⟨(.agg #[.bool r0b.1.Man.Neg,.slice A4n (sz r0b.1.Man.Abs) c5n,.int .i64 r0b.1.Exp]),(.agg #[.bool r1b.1.Man.Neg,.slice A6n (sz r1b.1.Man.Abs) c7n,.int .i64 r1b.1.Exp]),(.bool r3a1),(.bool (decide (¬(r3a1=true)))),((UpdS.refl _ _).ext E1bf),(by simp only [S0,S1]<;>rfl)⟩
                   ·rintro l' w1i ⟨t9a0,t0a1,t1a1,t2a1,U9n,hq'⟩ l'' hl
                    rw [hq'] at hl
                    clear hq'
                    simp only [S0,S1] at hl
                    subst hl
                    have X4a1:=GA X7a7 U9n (X7a7).size al0
                    refine Ad<|h4ap _ _ ?_
                    rcases bft m8a0 with e7t | e7t
                    ·have p2bf:=e7t
                     have f3bf:=ifP p2bf f1aq
                     refine wp_cond_true (Ao (evb rfl e7t))<|wp_seq_k fun K2aq h2aq=>Ah<|sV (Ac rfl) ?_
                     refine Ad<|h2aq _ _<|wp_ret ?_
                     obtain rfl:=sj f3bf
                     exact fin rfl (Res.tmp rfl Res.nil) (Ap X4a1 rfl)
                    ·have p4bf:=bF e7t
                     have f5bf:=ifN p4bf f1aq
                     refine wp_cond_false (Ao (evb rfl e7t))<|wp_skip<|h3ap _ _<|wp_seq_k fun K3aq h3aq=>Ah<|have q6bf:=(((q9a6.ext E0e).ext F1d).updS U7f nm0).updS U9n nm0;sV (Ak As rfl q6bf rfl) ?_
                     have q4aq:=(((((((q0ao.ext E6e).ext F9d).ext E6f).ext F7e).ext E0e).ext F1d).updS U7f nm0).updS U9n nm0
                     refine sV (Ak As rfl q4aq rfl) ?_
                     have n7bf:=(((n0a7.ext E0e).ext F1d).updS U7f al0).updS U9n al0
                     obtain ⟨r5b,h8bf,f9bf⟩:=Ab f5bf
                     refine sc (Ae GP (by rfl)) (Dy (⟨(⟨r0a.1.Man.Neg,(limbs r0a.1.Man.Abs)⟩:Ay),r0a.1.Exp⟩:Al) x2 A7d c8d A7 c8 w1i (tbx X4a1 hT) n7bf (n9.ext X4a1) r5b h8bf) ?_
                     rintro _ w2i E2r ⟨A0o,c1o,rfl,n0bg⟩
                     refine nrm ?_
                     have X5aq:=xtr X4a1 E2r
                     refine sV (Aa rfl) ?_
                     refine sV (Am rfl rfl) ?_
                     refine sV (Am rfl rfl) ?_
                     refine Ax Bn fun b6aq w6bx E1bg g7aq q2bg=>?_
                     refine nrm ?_
                     have g7bx:=nlt X5aq.size g7aq
                     refine AA AL rfl rfl q2bg rfl rfl rfl rfl (by simp only [SP0,SP1,S0,S1,Nat.reduceAdd];rfl) fun w8bx U3bg q4bg=>?_
                     have F3p:=belU E1bg U3bg g7aq
                     have X5bg:=xtr X5aq F3p
                     refine sV (Ac rfl) ?_
                     refine Ad<|h3aq _ _<|wp_seq_k fun K8aq h8aq=>DD [9] 11 mo rfl fun w5a1 E2o S6a1=>have X8f:=xtr X5bg E2o;dV 0 rfl (fun _ hw=>Ak As rfl ((((((((((((q4z.ext E6e).ext F9d).ext E6f).ext F7e).ext E0e).ext F1d).updS U7f nm0).updS U9n nm0).ext E2r).ext F3p).ext E2o).ext hw) rfl) S6a1 ?_
                     refine dV 1 rfl (fun _ hw=>Ak As rfl ((((((((((((((((q1z.ext E0j).ext F6h).ext E1j).ext F7h).ext E6e).ext F9d).ext E6f).ext F7e).ext E0e).ext F1d).updS U7f nm0).updS U9n nm0).ext E2r).ext F3p).ext E2o).ext hw) rfl) S6a1 ?_
                     refine dV 2 rfl (fun _ hw=>Ak As rfl ((((q4aq.ext E2r).ext F3p).ext E2o).ext hw) rfl) S6a1 ?_
                     obtain ⟨m9a7,h6bg,f7bg⟩:=Ab f9bf
                     have hx0a8:=BO h6bg
                     have n9aq:RU w5a1 A4 c5 m9a7:=by unfold RU;rw [hx0a8];exact (n6.ext X8f)
                     obtain ⟨m1a8,h8bg,f9bg⟩:=Ab f7bg
                     have hx2a8:=BO h8bg
                     have n0ar:RU w5a1 A7 c8 m1a8:=by unfold RU;rw [hx2a8];exact (n9.ext X8f)
                     obtain ⟨r1c,h1ar,f0bh⟩:=Ab f9bg
                     obtain ⟨r7a,h3a8,f1bh⟩:=Ab f0bh
                     refine IF #[true,true,true,true,true,true,true,true,true,true,false] 1 (fun l' w'=>∃(A7a1:Option Addr) (c8a1:Nat) (A3g:Option Addr) (c4g:Nat) (b8t:Nat),Ext w5a1 w'∧RU w' A7a1 c8a1 r1c.Man.Abs∧RU w' A3g c4g r7a.1.Man.Abs∧w5a1.heap.size≤b8t∧Bx w' b8t 27 [.bool r7a.1.Man.Neg,.slice A3g (sz r7a.1.Man.Abs) c4g,.int .i64 r7a.1.Exp]∧l'=[.agg #[.bool x0.Man.Neg,.slice A1 x0.Man.Abs.length c2,.int .i64 x0.Exp],.agg #[.bool x1.Man.Neg,.slice A4 x1.Man.Abs.length c5,.int .i64 x1.Exp],.agg #[.bool x2.Man.Neg,.slice A7 x2.Man.Abs.length c8,.int .i64 x2.Exp],.int .i64 x3,.pointer (some ⟨b5p,0,none⟩),.pointer (some ⟨b0t,0,none⟩),.pointer (some ⟨b0m,0,none⟩),uu,.bool false,.pointer (some ⟨b7aj,0,none⟩),.int .i64 r5b.2,.pointer (some ⟨b2ak,0,none⟩),.int .i64 r9a.2,.pointer (some ⟨b7ak,0,none⟩),.int .i64 r8a.2,.pointer (some ⟨b3al,0,none⟩),.int .i64 r0b.2,.pointer (some ⟨b9al,0,none⟩),.int .i64 r1b.2,.pointer (some ⟨b3an,0,none⟩),.pointer (some ⟨b7an,0,none⟩),.pointer (some ⟨b2ao,0,none⟩),.pointer (some ⟨b6ao,0,none⟩),.pointer (some ⟨b1ap,0,none⟩),.pointer (some ⟨b6aq,0,none⟩),.pointer (some ⟨b8t,0,none⟩),uu,uu,uu,uu,uu,.agg #[.bool x0.Man.Neg,.slice A1 x0.Man.Abs.length c2,.int .i64 x0.Exp],.agg #[.bool x1.Man.Neg,.slice A4 x1.Man.Abs.length c5,.int .i64 x1.Exp],.agg #[.bool x2.Man.Neg,.slice A7 x2.Man.Abs.length c8,.int .i64 x2.Exp],.slice (some ⟨b2v,0,none⟩) 3 3,.bool r3v,.bool z2i,.bool z2i,t2t,t0g,t3m,t0p,t3t,.bool m9o,.bool m9o,t5v,t6v,t7v,t8v,t9v,.bool m7p,.bool m7p,t0w,t1w,t2w,t3w,t4w,.bool m8p,.bool m8p,t5w,t6w,.bool m9p,.bool m9p,t8w,t9w,.bool m7w,uu,.tuple #[.agg #[.bool r6a.1.Man.Neg,.slice A1g (sz r6a.1.Man.Abs) c2g,.int .i64 r6a.1.Exp],.int .i64 r6a.2],.agg #[.bool x0.Man.Neg,.slice A1 x0.Man.Abs.length c2,.int .i64 x0.Exp],.agg #[.bool x1.Man.Neg,.slice A4 x1.Man.Abs.length c5,.int .i64 x1.Exp],.tuple #[.agg #[.bool r6a.1.Man.Neg,.slice A1g (sz r6a.1.Man.Abs) c2g,.int .i64 r6a.1.Exp],.int .i64 r6a.2],.agg #[.bool r6a.1.Man.Neg,.slice A1g (sz r6a.1.Man.Abs) c2g,.int .i64 r6a.1.Exp],.int .i64 r6a.2,.tuple #[.agg #[.bool r2b.1.Man.Neg,.slice A4m (sz r2b.1.Man.Abs) c5m,.int .i64 r2b.1.Exp],.int .i64 r2b.2],.agg #[.bool x1.Man.Neg,.slice A4 x1.Man.Abs.length c5,.int .i64 x1.Exp],.agg #[.bool x0.Man.Neg,.slice A1 x0.Man.Abs.length c2,.int .i64 x0.Exp],.tuple #[.agg #[.bool r2b.1.Man.Neg,.slice A4m (sz r2b.1.Man.Abs) c5m,.int .i64 r2b.1.Exp],.int .i64 r2b.2],.agg #[.bool r2b.1.Man.Neg,.slice A4m (sz r2b.1.Man.Abs) c5m,.int .i64 r2b.1.Exp],.int .i64 r2b.2,.tuple #[.agg #[.bool r3b.1.Man.Neg,.slice A7m (sz r3b.1.Man.Abs) c8m,.int .i64 r3b.1.Exp],.int .i64 r3b.2],.agg #[.bool r6a.1.Man.Neg,.slice A1g (sz r6a.1.Man.Abs) c2g,.int .i64 r6a.1.Exp],.agg #[.bool x2.Man.Neg,.slice A7 x2.Man.Abs.length c8,.int .i64 x2.Exp],.tuple #[.agg #[.bool r3b.1.Man.Neg,.slice A7m (sz r3b.1.Man.Abs) c8m,.int .i64 r3b.1.Exp],.int .i64 r3b.2],.agg #[.bool r3b.1.Man.Neg,.slice A7m (sz r3b.1.Man.Abs) c8m,.int .i64 r3b.1.Exp],.int .i64 r3b.2,.tuple #[.agg #[.bool r1a.1.Man.Neg,.slice A2f (sz r1a.1.Man.Abs) c3f,.int .i64 r1a.1.Exp],.int .i64 r1a.2],.agg #[.bool x1.Man.Neg,.slice A4 x1.Man.Abs.length c5,.int .i64 x1.Exp],.agg #[.bool x2.Man.Neg,.slice A7 x2.Man.Abs.length c8,.int .i64 x2.Exp],.tuple #[.agg #[.bool r1a.1.Man.Neg,.slice A2f (sz r1a.1.Man.Abs) c3f,.int .i64 r1a.1.Exp],.int .i64 r1a.2],.agg #[.bool r1a.1.Man.Neg,.slice A2f (sz r1a.1.Man.Abs) c3f,.int .i64 r1a.1.Exp],.int .i64 r1a.2,.tuple #[.agg #[.bool r4b.1.Man.Neg,.slice A9m (sz r4b.1.Man.Abs) c0n,.int .i64 r4b.1.Exp],.int .i64 r4b.2],.agg #[.bool x0.Man.Neg,.slice A1 x0.Man.Abs.length c2,.int .i64 x0.Exp],.agg #[.bool r1a.1.Man.Neg,.slice A2f (sz r1a.1.Man.Abs) c3f,.int .i64 r1a.1.Exp],.tuple #[.agg #[.bool r4b.1.Man.Neg,.slice A9m (sz r4b.1.Man.Abs) c0n,.int .i64 r4b.1.Exp],.int .i64 r4b.2],.agg #[.bool r4b.1.Man.Neg,.slice A9m (sz r4b.1.Man.Abs) c0n,.int .i64 r4b.1.Exp],.int .i64 r4b.2,.int .i64 r6a.2,.bool z1n,.bool z1n,t2x,t3x,.bool m1q,.bool m1q,t4x,t5x,.bool m2q,.bool m2q,t6x,t7x,.bool m3q,.bool m3q,t8x,t9x,.bool m4q,.bool m4q,t0y,t1y,t2y,t3y,.bool m5q,.bool m5q,t6y,t7y,t8y,t9y,.bool m5y,.tuple #[.agg #[.bool r0a.1.Man.Neg,.slice A7d (sz r0a.1.Man.Abs) c8d,.int .i64 r0a.1.Exp],.int .i64 r0a.2],.agg #[.bool x0.Man.Neg,.slice A1 x0.Man.Abs.length c2,.int .i64 x0.Exp],.agg #[.bool x1.Man.Neg,.slice A4 x1.Man.Abs.length c5,.int .i64 x1.Exp],.tuple #[.agg #[.bool r0a.1.Man.Neg,.slice A7d (sz r0a.1.Man.Abs) c8d,.int .i64 r0a.1.Exp],.int .i64 r0a.2],.agg #[.bool r0a.1.Man.Neg,.slice A7d (sz r0a.1.Man.Abs) c8d,.int .i64 r0a.1.Exp],.int .i64 r0a.2,.tuple #[.agg #[.bool r9a.1.Man.Neg,.slice A2n (sz r9a.1.Man.Abs) c3n,.int .i64 r9a.1.Exp],.int .i64 r9a.2],.agg #[.bool x1.Man.Neg,.slice A4 x1.Man.Abs.length c5,.int .i64 x1.Exp],.agg #[.bool x0.Man.Neg,.slice A1 x0.Man.Abs.length c2,.int .i64 x0.Exp],.tuple #[.agg #[.bool r9a.1.Man.Neg,.slice A2n (sz r9a.1.Man.Abs) c3n,.int .i64 r9a.1.Exp],.int .i64 r9a.2],.agg #[.bool r9a.1.Man.Neg,.slice A2n (sz r9a.1.Man.Abs) c3n,.int .i64 r9a.1.Exp],.int .i64 r9a.2,.tuple #[.agg #[.bool r8a.1.Man.Neg,.slice A2j (sz r8a.1.Man.Abs) c3j,.int .i64 r8a.1.Exp],.int .i64 r8a.2],.agg #[.bool x0.Man.Neg,.slice A1 x0.Man.Abs.length c2,.int .i64 x0.Exp],.agg #[.bool x2.Man.Neg,.slice A7 x2.Man.Abs.length c8,.int .i64 x2.Exp],.tuple #[.agg #[.bool r8a.1.Man.Neg,.slice A2j (sz r8a.1.Man.Abs) c3j,.int .i64 r8a.1.Exp],.int .i64 r8a.2],.agg #[.bool r8a.1.Man.Neg,.slice A2j (sz r8a.1.Man.Abs) c3j,.int .i64 r8a.1.Exp],.int .i64 r8a.2,.tuple #[.agg #[.bool r0b.1.Man.Neg,.slice A4n (sz r0b.1.Man.Abs) c5n,.int .i64 r0b.1.Exp],.int .i64 r0b.2],.agg #[.bool x0.Man.Neg,.slice A1 x0.Man.Abs.length c2,.int .i64 x0.Exp],.agg #[.bool r1a.1.Man.Neg,.slice A2f (sz r1a.1.Man.Abs) c3f,.int .i64 r1a.1.Exp],.tuple #[.agg #[.bool r0b.1.Man.Neg,.slice A4n (sz r0b.1.Man.Abs) c5n,.int .i64 r0b.1.Exp],.int .i64 r0b.2],.agg #[.bool r0b.1.Man.Neg,.slice A4n (sz r0b.1.Man.Abs) c5n,.int .i64 r0b.1.Exp],.int .i64 r0b.2,.tuple #[.agg #[.bool r1b.1.Man.Neg,.slice A6n (sz r1b.1.Man.Abs) c7n,.int .i64 r1b.1.Exp],.int .i64 r1b.2],.agg #[.bool r0a.1.Man.Neg,.slice A7d (sz r0a.1.Man.Abs) c8d,.int .i64 r0a.1.Exp],.agg #[.bool r8a.1.Man.Neg,.slice A2j (sz r8a.1.Man.Abs) c3j,.int .i64 r8a.1.Exp],.tuple #[.agg #[.bool r1b.1.Man.Neg,.slice A6n (sz r1b.1.Man.Abs) c7n,.int .i64 r1b.1.Exp],.int .i64 r1b.2],.agg #[.bool r1b.1.Man.Neg,.slice A6n (sz r1b.1.Man.Abs) c7n,.int .i64 r1b.1.Exp],.int .i64 r1b.2,.int .i64 r0a.2,.bool z8n,.bool z8n,t5z,t6z,.bool m7q,.bool m7q,t7z,t8z,.bool m8q,.bool m8q,t9z,t0a0,.bool m9q,.bool m9q,t1a0,t2a0,.bool m0r,.bool m0r,t3a0,t4a0,t5a0,t6a0,.bool m1r,.bool m1r,t9a0,t0a1,t1a1,t2a1,.bool m8a0,.tuple #[.agg #[.bool r5b.1.Man.Neg,.slice A0o (sz r5b.1.Man.Abs) c1o,.int .i64 r5b.1.Exp],.int .i64 r5b.2],.agg #[.bool r0a.1.Man.Neg,.slice A7d (sz r0a.1.Man.Abs) c8d,.int .i64 r0a.1.Exp],.agg #[.bool x2.Man.Neg,.slice A7 x2.Man.Abs.length c8,.int .i64 x2.Exp],.tuple #[.agg #[.bool r5b.1.Man.Neg,.slice A0o (sz r5b.1.Man.Abs) c1o,.int .i64 r5b.1.Exp],.int .i64 r5b.2],.agg #[.bool r5b.1.Man.Neg,.slice A0o (sz r5b.1.Man.Abs) c1o,.int .i64 r5b.1.Exp],.int .i64 r5b.2,.tuple #[.agg #[.bool r7a.1.Man.Neg,.slice A3g (sz r7a.1.Man.Abs) c4g,.int .i64 r7a.1.Exp],.int .i64 r7a.2],.agg #[.bool x0.Man.Neg,.slice A1 x0.Man.Abs.length c2,.int .i64 x0.Exp],.agg #[.bool x1.Man.Neg,.slice A4 x1.Man.Abs.length c5,.int .i64 x1.Exp],.agg #[.bool x2.Man.Neg,.slice A7 x2.Man.Abs.length c8,.int .i64 x2.Exp],.agg #[.bool r1c.Man.Neg,.slice A7a1 (sz r1c.Man.Abs) c8a1,.int .i64 r1c.Exp],.tuple #[.agg #[.bool r7a.1.Man.Neg,.slice A3g (sz r7a.1.Man.Abs) c4g,.int .i64 r7a.1.Exp],.int .i64 r7a.2],.agg #[.bool r7a.1.Man.Neg,.slice A3g (sz r7a.1.Man.Abs) c4g,.int .i64 r7a.1.Exp],.int .i64 r7a.2,uu,uu,uu,uu,uu,uu,uu,uu,uu,uu,uu,uu,uu,uu,uu,uu,uu,uu,uu,uu,uu,uu,uu,uu,uu,uu,uu,uu,uu,uu,uu,uu,uu,uu,uu,uu,uu,uu,uu,uu,uu,uu,uu,uu,uu,uu,uu,uu,uu,uu,uu,uu,uu,uu,uu,uu,uu,uu,uu,uu,uu,uu,uu,uu,uu,uu,uu,uu,uu,uu,uu,uu,uu,uu]) ?_ ?_
                     ·rintro _ w2bh ⟨A7a1,c8a1,A3g,c4g,b8t,E3r,n9bx,n3bh,g4bh,q5bh,rfl⟩
                      have g0by:=nlt X8f.size g4bh
                      have X4a8:=xtr X8f E3r
                      have S1by:=S6a1.trans E3r
                      refine dA 10 rfl (fun _=>Ac rfl) ?_
                      refine CC (by kernel_rfl) ?_
                      refine h8aq _ _<|wp_seq_k fun K2ar h2ar=>Ah<|have q3ar:=(((((((((((((((q1z.ext E0j).ext F6h).ext E1j).ext F7h).ext E6e).ext F9d).ext E6f).ext F7e).ext E0e).ext F1d).updS U7f nm0).updS U9n nm0).ext E2r).ext F3p).ext E2o).ext E3r;sV (Ak As rfl q3ar rfl) ?_
                      obtain ⟨r7b,h6bh,f7bh⟩:=Ab f1bh
                      refine sc (Ae en_12 (by rfl)) (c_dyad_Neg x1 A4 c5 w2bh (tbx X4a8 hT) (n6.ext X4a8) r7b h6bh) ?_
                      rintro _ w2by E4p ⟨A9t,c0u,rfl,n8bh⟩
                      refine nrm ?_
                      have X4ar:=xtr X4a8 E4p
                      refine sV (Aa rfl) ?_
                      refine sV (Am rfl rfl) ?_
                      refine sV (Am rfl rfl) ?_
                      refine Ax Bn fun b9bh w3by E0bi g5ar q1bi=>?_
                      refine nrm ?_
                      have g4by:=nlt X4ar.size g5ar
                      refine AA AL rfl rfl q1bi rfl rfl rfl rfl (by simp only [SP0,SP1,S0,S1,Nat.reduceAdd];rfl) fun w2bi U3bi q4bi=>?_
                      have F3o:=belU E0bi U3bi g5ar
                      have X9a1:=xtr X4ar F3o
                      refine sV (Ac rfl) ?_
                      refine Ad<|h2ar _ _<|wp_seq_k fun K6ar h6ar=>Ah<|have q5a8:=(((((((((((((q4z.ext E6e).ext F9d).ext E6f).ext F7e).ext E0e).ext F1d).updS U7f nm0).updS U9n nm0).ext E2r).ext F3p).ext E2o).ext E3r).ext E4p).ext F3o;sV (Ak As rfl q5a8 rfl) ?_
                      refine sV (Ak As rfl ((q3ar.ext E4p).ext F3o) rfl) ?_
                      obtain ⟨r8b,h5bi,f6bi⟩:=Ab f7bh
                      refine sc (Ae en_13 (by rfl)) (c_dyad_Sub x0 x1 A1 c2 A4 c5 w2bi (tbx X9a1 hT) (n3.ext X9a1) (n6.ext X9a1) r8b h5bi) ?_
                      rintro _ w9o E8j ⟨A1u,c2u,rfl,n7bi⟩
                      refine nrm ?_
                      have X7ar:=xtr X9a1 E8j
                      refine sV (Aa rfl) ?_
                      refine sV (Am rfl rfl) ?_
                      refine sV (Am rfl rfl) ?_
                      refine Ax Bn fun b8bi w5a4 E9bi g8ar q0bj=>?_
                      refine nrm ?_
                      have g5by:=nlt X7ar.size g8ar
                      refine AA AL rfl rfl q0bj rfl rfl rfl rfl (by simp only [SP0,SP1,S0,S1,Nat.reduceAdd];rfl) fun w6a4 U1bj q2bj=>?_
                      have F8h:=belU E9bi U1bj g8ar
                      have X6a8:=xtr X7ar F8h
                      refine sV (Ac rfl) ?_
                      refine Ad<|h6ar _ _<|wp_seq_k fun K9ar h9ar=>Ah<|sV (Ak As rfl ((q5a8.ext E8j).ext F8h) rfl) ?_
                      refine sV (Ak As rfl ((q4bi.ext E8j).ext F8h) rfl) ?_
                      have n3bj:=((n8bh.ext F3o).ext E8j).ext F8h
                      obtain ⟨r9b,h4bj,f5bj⟩:=Ab f6bi
                      refine sc (Ae JP (by rfl)) (Fj x0 (⟨(⟨r7b.1.Man.Neg,(limbs r7b.1.Man.Abs)⟩:Ay),r7b.1.Exp⟩:Al) A1 c2 A9t c0u w6a4 (tbx X6a8 hT) (n3.ext X6a8) n3bj r9b h4bj) ?_
                      rintro _ w6by E4o ⟨A3u,c4u,rfl,n6bj⟩
                      refine nrm ?_
                      have X0as:=xtr X6a8 E4o
                      refine sV (Aa rfl) ?_
                      refine sV (Am rfl rfl) ?_
                      refine sV (Am rfl rfl) ?_
                      refine Ax Bn fun b7bj w2t E8bj g1as q9bj=>?_
                      refine nrm ?_
                      have g7by:=nlt X0as.size g1as
                      refine AA AL rfl rfl q9bj rfl rfl rfl rfl (by simp only [SP0,SP1,S0,S1,Nat.reduceAdd];rfl) fun w0g U0bk q1bk=>?_
                      have F9j:=belU E8bj U0bk g1as
                      have X7a8:=xtr X0as F9j
                      refine sV (Ac rfl) ?_
                      refine Ad<|h9ar _ _<|wp_seq_k fun K2as h2as=>wp_seq_k fun K3as h3as=>Ah<|sV (Aa rfl) ?_
                      refine sb (DY rfl rfl) fun z4r hz4r=>?_
                      refine nrm ?_
                      refine sV (Aa rfl) ?_
                      obtain ⟨m0a2,h4as,f2bk⟩:=Ab f5bj
                      refine Bh 6 (fun l l' w'=>∃(t8a8:Value) (t9a8:Value),w0g=w'∧l'=(((l.set 221 t8a8).set 222 t9a8).set 223 (.bool m0a2))) ?_ ?_
                      ·intro HJ963
                       rcases bft z4r with e0k | e0k
                       ·have p3bk:=zP hz4r e0k
                        have f4bk:=ifP p3bk h4as
                        refine sP ?_ (hw:=wgF rfl e0k)
                        refine sP ?_ (hw:=wgF rfl e0k)
                        refine sV (Ar (evb rfl e0k) rfl) ?_
                        obtain rfl:=sj f4bk
                        exact HJ963 _ _ ⟨uu,uu,rfl,(by simp only [S0,S1]<;>rfl)⟩
                       ·have p5bk:=zN hz4r e0k
                        have f6bk:=ifN p5bk h4as
                        refine sV (Aa rfl) ?_ (hw:=wgT rfl e0k)
                        refine sb (DY rfl rfl) ?_ (hw:=wgT rfl e0k)
                        intro z0a9 hz0a9
                        refine nrm ?_
                        refine sV (Az (evb rfl e0k) rfl) ?_
                        obtain rfl:z0a9=decide (¬r7a.2=0):=bz hz0a9
                        obtain rfl:=sj f6bk
                        exact HJ963 _ _ ⟨(.int .i64 r7a.2),(.bool (decide (¬r7a.2=0))),rfl,(by simp only [S0,S1]<;>rfl)⟩
                      ·rintro l' _ ⟨t8a8,t9a8,rfl,hq'⟩ l'' hl
                       rw [hq'] at hl
                       clear hq'
                       simp only [S0,S1] at hl
                       subst hl
                       refine sV (Aa rfl) ?_
                       obtain ⟨m1a2,h5as,f7bk⟩:=Ab f2bk
                       refine Bh 10 (fun l l' w'=>∃(t1a9:Value) (t2a9:Value),w0g=w'∧l'=(((l.set 225 t1a9).set 226 t2a9).set 227 (.bool m1a2))) ?_ ?_
                       ·intro HJ982
                        rcases bft m0a2 with e1k | e1k
                        ·have p8bk:=e1k
                         have f9bk:=ifP p8bk h5as
                         refine sP ?_ (hw:=wgF rfl e1k)
                         refine sP ?_ (hw:=wgF rfl e1k)
                         refine sV (Ar (evb rfl e1k) rfl) ?_
                         obtain rfl:=sj f9bk
                         exact HJ982 _ _ ⟨uu,uu,rfl,(by simp only [S0,S1]<;>rfl)⟩
                        ·have p0bl:=bF e1k
                         have f1bl:=ifN p0bl h5as
                         refine sV (Aa rfl) ?_ (hw:=wgT rfl e1k)
                         refine sb (DY rfl rfl) ?_ (hw:=wgT rfl e1k)
                         intro z3a9 hz3a9
                         refine nrm ?_
                         refine sV (Az (evb rfl e1k) rfl) ?_
                         obtain rfl:z3a9=decide (¬r7b.2=0):=bz hz3a9
                         obtain rfl:=sj f1bl
                         exact HJ982 _ _ ⟨(.int .i64 r7b.2),(.bool (decide (¬r7b.2=0))),rfl,(by simp only [S0,S1]<;>rfl)⟩
                       ·rintro l' _ ⟨t1a9,t2a9,rfl,hq'⟩ l'' hl
                        rw [hq'] at hl
                        clear hq'
                        simp only [S0,S1] at hl
                        subst hl
                        refine sV (Aa rfl) ?_
                        obtain ⟨m2a2,h6as,f2bl⟩:=Ab f7bk
                        refine Bh 14 (fun l l' w'=>∃(t4a9:Value) (t5a9:Value),w0g=w'∧l'=(((l.set 229 t4a9).set 230 t5a9).set 231 (.bool m2a2))) ?_ ?_
                        ·intro HJ1001
                         rcases bft m1a2 with e2k | e2k
                         ·have p3bl:=e2k
                          have f4bl:=ifP p3bl h6as
                          refine sP ?_ (hw:=wgF rfl e2k)
                          refine sP ?_ (hw:=wgF rfl e2k)
                          refine sV (Ar (evb rfl e2k) rfl) ?_
                          obtain rfl:=sj f4bl
                          exact HJ1001 _ _ ⟨uu,uu,rfl,(by simp only [S0,S1]<;>rfl)⟩
                         ·have p5bl:=bF e2k
                          have f6bl:=ifN p5bl h6as
                          refine sV (Aa rfl) ?_ (hw:=wgT rfl e2k)
                          refine sb (DY rfl rfl) ?_ (hw:=wgT rfl e2k)
                          intro z6a9 hz6a9
                          refine nrm ?_
                          refine sV (Az (evb rfl e2k) rfl) ?_
                          obtain rfl:z6a9=decide (¬r8b.2=0):=bz hz6a9
                          obtain rfl:=sj f6bl
                          exact HJ1001 _ _ ⟨(.int .i64 r8b.2),(.bool (decide (¬r8b.2=0))),rfl,(by simp only [S0,S1]<;>rfl)⟩
                        ·rintro l' _ ⟨t4a9,t5a9,rfl,hq'⟩ l'' hl
                         rw [hq'] at hl
                         clear hq'
                         simp only [S0,S1] at hl
                         subst hl
                         refine sV (Aa rfl) ?_
                         obtain ⟨m3a2,h7as,f7bl⟩:=Ab f2bl
                         refine Bh 18 (fun l l' w'=>∃(t7a9:Value) (t8a9:Value),w0g=w'∧l'=(((l.set 233 t7a9).set 234 t8a9).set 235 (.bool m3a2))) ?_ ?_
                         ·intro HJ1020
                          rcases bft m2a2 with e3k | e3k
                          ·have p8bl:=e3k
                           have f9bl:=ifP p8bl h7as
                           refine sP ?_ (hw:=wgF rfl e3k)
                           refine sP ?_ (hw:=wgF rfl e3k)
                           refine sV (Ar (evb rfl e3k) rfl) ?_
                           obtain rfl:=sj f9bl
                           exact HJ1020 _ _ ⟨uu,uu,rfl,(by simp only [S0,S1]<;>rfl)⟩
                          ·have p0bm:=bF e3k
                           have f1bm:=ifN p0bm h7as
                           refine sV (Aa rfl) ?_ (hw:=wgT rfl e3k)
                           refine sb (DY rfl rfl) ?_ (hw:=wgT rfl e3k)
                           intro z9a9 hz9a9
                           refine nrm ?_
                           refine sV (Az (evb rfl e3k) rfl) ?_
                           obtain rfl:z9a9=decide (¬r9b.2=0):=bz hz9a9
                           obtain rfl:=sj f1bm
                           exact HJ1020 _ _ ⟨(.int .i64 r9b.2),(.bool (decide (¬r9b.2=0))),rfl,(by simp only [S0,S1]<;>rfl)⟩
                         ·rintro l' _ ⟨t7a9,t8a9,rfl,hq'⟩ l'' hl
                          rw [hq'] at hl
                          clear hq'
                          simp only [S0,S1] at hl
                          subst hl
                          refine sV (Aa rfl) ?_
                          obtain ⟨m4a2,h8as,f2bm⟩:=Ab f7bl
                          refine Bh 24 (fun l l' w'=>∃(t0aa:Value) (t1aa:Value) (t2aa:Value) (t3aa:Value),UpdS [] w0g w'∧l'=(((((l.set 237 t0aa).set 238 t1aa).set 239 t2aa).set 240 t3aa).set 241 (.bool m4a2))) ?_ ?_
                          ·intro HJ1050
                           rcases bft m3a2 with e0f | e0f
                           ·have p3bm:=e0f
                            have f4bm:=ifP p3bm h8as
                            refine sP ?_ (hw:=wgF rfl e0f)
                            refine sP ?_ (hw:=wgF rfl e0f)
                            refine sP ?_ (hw:=wgF rfl e0f)
                            refine sP ?_ (hw:=wgF rfl e0f)
                            refine sV (Ar (evb rfl e0f) rfl) ?_
                            obtain rfl:=sj f4bm
                            exact HJ1050 _ _ ⟨uu,uu,uu,uu,(UpdS.refl _ _),(by simp only [S0,S1]<;>rfl)⟩
                           ·have p5bm:=bF e0f
                            have f6bm:=ifN p5bm h8as
                            have q7bm:=(((((((q4bg.ext E2o).ext E3r).ext E4p).ext F3o).ext E8j).ext F8h).ext E4o).ext F9j
                            refine sV (Ak As rfl q7bm rfl) ?_ (hw:=wgT rfl e0f)
                            have q8bm:=(((((q5bh.ext E4p).ext F3o).ext E8j).ext F8h).ext E4o).ext F9j
                            refine sV (Ak As rfl q8bm rfl) ?_ (hw:=wgT rfl e0f)
                            have n9bm:=((((((((n0bg.ext F3p).ext E2o).ext E3r).ext E4p).ext F3o).ext E8j).ext F8h).ext E4o).ext F9j
                            have n0bn:=(((((n3bh.ext E4p).ext F3o).ext E8j).ext F8h).ext E4o).ext F9j
                            obtain ⟨r5a2,h1bn,f2bn⟩:=Ab f6bm
                            refine sc (Ae It (by rfl)) (Bc r5b.1 r7a.1 A0o c1o A3g c4g w0g (tbx X7a8 hT) n9bm n0bn r5a2 h1bn) ?_ (hw:=wgT rfl e0f)
                            rintro _ w3m E3bn rfl
                            refine nrm ?_
                            refine sb (Eg rfl) ?_ (hw:=wgT rfl e0f)
                            intro z4aa hz4aa
                            refine nrm ?_
                            refine sV (Az (evb rfl e0f) rfl) ?_
                            obtain rfl:z4aa=decide (¬(r5a2=true)):=bz hz4aa
                            obtain rfl:=sj f2bn
                            exact HJ1050 _ _ ⟨(.agg #[.bool r5b.1.Man.Neg,.slice A0o (sz r5b.1.Man.Abs) c1o,.int .i64 r5b.1.Exp]),(.agg #[.bool r7a.1.Man.Neg,.slice A3g (sz r7a.1.Man.Abs) c4g,.int .i64 r7a.1.Exp]),(.bool r5a2),(.bool (decide (¬(r5a2=true)))),((UpdS.refl _ _).ext E3bn),(by simp only [S0,S1]<;>rfl)⟩
                          ·rintro l' w3m ⟨t0aa,t1aa,t2aa,t3aa,U5r,hq'⟩ l'' hl
                           rw [hq'] at hl
                           clear hq'
                           simp only [S0,S1] at hl
                           subst hl
                           have X5aa:=GA X7a8 U5r (X7a8).size al0
                           refine sV (Aa rfl) ?_
                           obtain ⟨m6aa,h9as,f0at⟩:=Ab f2bm
                           refine Bh 30 (fun l l' w'=>∃(t7aa:Value) (t8aa:Value) (t9aa:Value) (t0ab:Value),UpdS [] w3m w'∧l'=(((((l.set 243 t7aa).set 244 t8aa).set 245 t9aa).set 246 t0ab).set 247 (.bool m6aa))) ?_ ?_
                           ·intro HJ1088
                            rcases bft m4a2 with e1f | e1f
                            ·have p4bn:=e1f
                             have f5bn:=ifP p4bn h9as
                             refine sP ?_ (hw:=wgF rfl e1f)
                             refine sP ?_ (hw:=wgF rfl e1f)
                             refine sP ?_ (hw:=wgF rfl e1f)
                             refine sP ?_ (hw:=wgF rfl e1f)
                             refine sV (Ar (evb rfl e1f) rfl) ?_
                             obtain rfl:=sj f5bn
                             exact HJ1088 _ _ ⟨uu,uu,uu,uu,(UpdS.refl _ _),(by simp only [S0,S1]<;>rfl)⟩
                            ·have p6bn:=bF e1f
                             have f7bn:=ifN p6bn h9as
                             have q8bn:=((q2bj.ext E4o).ext F9j).updS U5r nm0
                             refine sV (Ak As rfl q8bn rfl) ?_ (hw:=wgT rfl e1f)
                             refine sV (Ak As rfl (q1bk.updS U5r nm0) rfl) ?_ (hw:=wgT rfl e1f)
                             have n9bn:=(((n7bi.ext F8h).ext E4o).ext F9j).updS U5r al0
                             obtain ⟨r6a2,h0bo,f1bo⟩:=Ab f7bn
                             refine sc (Ae It (by rfl)) (Bc r8b.1 r9b.1 A1u c2u A3u c4u w3m (tbx X5aa hT) n9bn ((n6bj.ext F9j).updS U5r al0) r6a2 h0bo) ?_ (hw:=wgT rfl e1f)
                             rintro _ w0p E2bo rfl
                             refine nrm ?_
                             refine sb (Eg rfl) ?_ (hw:=wgT rfl e1f)
                             intro z1ab hz1ab
                             refine nrm ?_
                             refine sV (Az (evb rfl e1f) rfl) ?_
                             obtain rfl:z1ab=decide (¬(r6a2=true)):=bz hz1ab
                             obtain rfl:=sj f1bo
                             exact HJ1088 _ _ ⟨(.agg #[.bool r8b.1.Man.Neg,.slice A1u (sz r8b.1.Man.Abs) c2u,.int .i64 r8b.1.Exp]),(.agg #[.bool r9b.1.Man.Neg,.slice A3u (sz r9b.1.Man.Abs) c4u,.int .i64 r9b.1.Exp]),(.bool r6a2),(.bool (decide (¬(r6a2=true)))),((UpdS.refl _ _).ext E2bo),(by simp only [S0,S1]<;>rfl)⟩
                           ·rintro l' w0p ⟨t7aa,t8aa,t9aa,t0ab,U1at,hq'⟩ l'' hl
                            rw [hq'] at hl
                            clear hq'
                            simp only [S0,S1] at hl
                            subst hl
                            have X7a2:=GA X5aa U1at (X5aa).size al0
                            refine Ad<|h3as _ _ ?_
                            rcases bft m6aa with e5u | e5u
                            ·have p3bo:=e5u
                             have f4bo:=ifP p3bo f0at
                             refine wp_cond_true (Ao (evb rfl e5u))<|wp_seq_k fun K2at h2at=>Ah<|sV (Ac rfl) ?_
                             refine Ad<|h2at _ _<|wp_ret ?_
                             obtain rfl:=sj f4bo
                             exact fin rfl (Res.tmp rfl Res.nil) (Ap X7a2 rfl)
                            ·have p5bo:=bF e5u
                             have f6bo:=ifN p5bo f0at
                             refine wp_cond_false (Ao (evb rfl e5u))<|wp_skip<|h2as _ _<|wp_seq_k fun K3at h3at=>Ah<|have q4at:=(((((q5a8.ext E8j).ext F8h).ext E4o).ext F9j).updS U5r nm0).updS U1at nm0;sV (Ak As rfl q4at rfl) ?_
                             refine sV (Aa rfl) ?_
                             obtain ⟨r0c,h7bo,f8bo⟩:=Ab f6bo
                             refine sc (Ae en_14 (by rfl)) (c_dyad_Shift x0 x3 A1 c2 w0p (tbx X7a2 hT) (n3.ext X7a2) r0c h7bo) ?_
                             rintro _ w3t E5at ⟨A6u,c7u,rfl,n9bo⟩
                             refine nrm ?_
                             have X6at:=xtr X7a2 E5at
                             refine sV (Aa rfl) ?_
                             refine sV (Am rfl rfl) ?_
                             refine sV (Am rfl rfl) ?_
                             refine Ax Bn fun b0bp w8by E1bp g7at q2bp=>?_
                             refine nrm ?_
                             have g9by:=nlt X6at.size g7at
                             refine AA AL rfl rfl q2bp rfl rfl rfl rfl (by simp only [SP0,SP1,S0,S1,Nat.reduceAdd];rfl) fun w2c U3bp q4bp=>?_
                             have F2ab:=belU E1bp U3bp g7at
                             have X5bp:=xtr X6at F2ab
                             refine sV (Ac rfl) ?_
                             refine Ad<|h3at _ _<|wp_seq_k fun K8at h8at=>DD [8] 10 mo rfl fun w4v E8a2 S9at=>have X9h:=xtr X5bp E8a2;dV 0 rfl (fun _ hw=>Ak As rfl ((((q4at.ext E5at).ext F2ab).ext E8a2).ext hw) rfl) S9at ?_
                             refine dA 1 rfl (fun _=>Aa rfl) ?_
                             obtain ⟨r2d,h0au,f6bp⟩:=Ab f8bo
                             obtain ⟨r6b,h3ab,f7bp⟩:=Ab f6bp
                             refine IF #[true,true,true,true,true,true,true,true,true,false] 1 (fun l' w'=>∃(A4ab:Option Addr) (c5ab:Nat) (A5o:Option Addr) (c6o:Nat) (b9a2:Nat),Ext w4v w'∧RU w' A4ab c5ab r2d.Man.Abs∧RU w' A5o c6o r6b.1.Man.Abs∧w4v.heap.size≤b9a2∧Bx w' b9a2 27 [.bool r6b.1.Man.Neg,.slice A5o (sz r6b.1.Man.Abs) c6o,.int .i64 r6b.1.Exp]∧l'=[.agg #[.bool x0.Man.Neg,.slice A1 x0.Man.Abs.length c2,.int .i64 x0.Exp],.agg #[.bool x1.Man.Neg,.slice A4 x1.Man.Abs.length c5,.int .i64 x1.Exp],.agg #[.bool x2.Man.Neg,.slice A7 x2.Man.Abs.length c8,.int .i64 x2.Exp],.int .i64 x3,.pointer (some ⟨b5p,0,none⟩),.pointer (some ⟨b0t,0,none⟩),.pointer (some ⟨b0m,0,none⟩),uu,.bool false,.pointer (some ⟨b7aj,0,none⟩),.int .i64 r0c.2,.pointer (some ⟨b2ak,0,none⟩),.int .i64 r7a.2,.pointer (some ⟨b7ak,0,none⟩),.int .i64 r7b.2,.pointer (some ⟨b3al,0,none⟩),.int .i64 r8b.2,.pointer (some ⟨b9al,0,none⟩),.int .i64 r9b.2,.pointer (some ⟨b3an,0,none⟩),.pointer (some ⟨b7an,0,none⟩),.pointer (some ⟨b2ao,0,none⟩),.pointer (some ⟨b6ao,0,none⟩),.pointer (some ⟨b1ap,0,none⟩),.pointer (some ⟨b6aq,0,none⟩),.pointer (some ⟨b8t,0,none⟩),.pointer (some ⟨b9bh,0,none⟩),.pointer (some ⟨b8bi,0,none⟩),.pointer (some ⟨b7bj,0,none⟩),.pointer (some ⟨b0bp,0,none⟩),.pointer (some ⟨b9a2,0,none⟩),.agg #[.bool x0.Man.Neg,.slice A1 x0.Man.Abs.length c2,.int .i64 x0.Exp],.agg #[.bool x1.Man.Neg,.slice A4 x1.Man.Abs.length c5,.int .i64 x1.Exp],.agg #[.bool x2.Man.Neg,.slice A7 x2.Man.Abs.length c8,.int .i64 x2.Exp],.slice (some ⟨b2v,0,none⟩) 3 3,.bool r3v,.bool z2i,.bool z2i,t2t,t0g,t3m,t0p,t3t,.bool m9o,.bool m9o,t5v,t6v,t7v,t8v,t9v,.bool m7p,.bool m7p,t0w,t1w,t2w,t3w,t4w,.bool m8p,.bool m8p,t5w,t6w,.bool m9p,.bool m9p,t8w,t9w,.bool m7w,uu,.tuple #[.agg #[.bool r6a.1.Man.Neg,.slice A1g (sz r6a.1.Man.Abs) c2g,.int .i64 r6a.1.Exp],.int .i64 r6a.2],.agg #[.bool x0.Man.Neg,.slice A1 x0.Man.Abs.length c2,.int .i64 x0.Exp],.agg #[.bool x1.Man.Neg,.slice A4 x1.Man.Abs.length c5,.int .i64 x1.Exp],.tuple #[.agg #[.bool r6a.1.Man.Neg,.slice A1g (sz r6a.1.Man.Abs) c2g,.int .i64 r6a.1.Exp],.int .i64 r6a.2],.agg #[.bool r6a.1.Man.Neg,.slice A1g (sz r6a.1.Man.Abs) c2g,.int .i64 r6a.1.Exp],.int .i64 r6a.2,.tuple #[.agg #[.bool r2b.1.Man.Neg,.slice A4m (sz r2b.1.Man.Abs) c5m,.int .i64 r2b.1.Exp],.int .i64 r2b.2],.agg #[.bool x1.Man.Neg,.slice A4 x1.Man.Abs.length c5,.int .i64 x1.Exp],.agg #[.bool x0.Man.Neg,.slice A1 x0.Man.Abs.length c2,.int .i64 x0.Exp],.tuple #[.agg #[.bool r2b.1.Man.Neg,.slice A4m (sz r2b.1.Man.Abs) c5m,.int .i64 r2b.1.Exp],.int .i64 r2b.2],.agg #[.bool r2b.1.Man.Neg,.slice A4m (sz r2b.1.Man.Abs) c5m,.int .i64 r2b.1.Exp],.int .i64 r2b.2,.tuple #[.agg #[.bool r3b.1.Man.Neg,.slice A7m (sz r3b.1.Man.Abs) c8m,.int .i64 r3b.1.Exp],.int .i64 r3b.2],.agg #[.bool r6a.1.Man.Neg,.slice A1g (sz r6a.1.Man.Abs) c2g,.int .i64 r6a.1.Exp],.agg #[.bool x2.Man.Neg,.slice A7 x2.Man.Abs.length c8,.int .i64 x2.Exp],.tuple #[.agg #[.bool r3b.1.Man.Neg,.slice A7m (sz r3b.1.Man.Abs) c8m,.int .i64 r3b.1.Exp],.int .i64 r3b.2],.agg #[.bool r3b.1.Man.Neg,.slice A7m (sz r3b.1.Man.Abs) c8m,.int .i64 r3b.1.Exp],.int .i64 r3b.2,.tuple #[.agg #[.bool r1a.1.Man.Neg,.slice A2f (sz r1a.1.Man.Abs) c3f,.int .i64 r1a.1.Exp],.int .i64 r1a.2],.agg #[.bool x1.Man.Neg,.slice A4 x1.Man.Abs.length c5,.int .i64 x1.Exp],.agg #[.bool x2.Man.Neg,.slice A7 x2.Man.Abs.length c8,.int .i64 x2.Exp],.tuple #[.agg #[.bool r1a.1.Man.Neg,.slice A2f (sz r1a.1.Man.Abs) c3f,.int .i64 r1a.1.Exp],.int .i64 r1a.2],.agg #[.bool r1a.1.Man.Neg,.slice A2f (sz r1a.1.Man.Abs) c3f,.int .i64 r1a.1.Exp],.int .i64 r1a.2,.tuple #[.agg #[.bool r4b.1.Man.Neg,.slice A9m (sz r4b.1.Man.Abs) c0n,.int .i64 r4b.1.Exp],.int .i64 r4b.2],.agg #[.bool x0.Man.Neg,.slice A1 x0.Man.Abs.length c2,.int .i64 x0.Exp],.agg #[.bool r1a.1.Man.Neg,.slice A2f (sz r1a.1.Man.Abs) c3f,.int .i64 r1a.1.Exp],.tuple #[.agg #[.bool r4b.1.Man.Neg,.slice A9m (sz r4b.1.Man.Abs) c0n,.int .i64 r4b.1.Exp],.int .i64 r4b.2],.agg #[.bool r4b.1.Man.Neg,.slice A9m (sz r4b.1.Man.Abs) c0n,.int .i64 r4b.1.Exp],.int .i64 r4b.2,.int .i64 r6a.2,.bool z1n,.bool z1n,t2x,t3x,.bool m1q,.bool m1q,t4x,t5x,.bool m2q,.bool m2q,t6x,t7x,.bool m3q,.bool m3q,t8x,t9x,.bool m4q,.bool m4q,t0y,t1y,t2y,t3y,.bool m5q,.bool m5q,t6y,t7y,t8y,t9y,.bool m5y,.tuple #[.agg #[.bool r0a.1.Man.Neg,.slice A7d (sz r0a.1.Man.Abs) c8d,.int .i64 r0a.1.Exp],.int .i64 r0a.2],.agg #[.bool x0.Man.Neg,.slice A1 x0.Man.Abs.length c2,.int .i64 x0.Exp],.agg #[.bool x1.Man.Neg,.slice A4 x1.Man.Abs.length c5,.int .i64 x1.Exp],.tuple #[.agg #[.bool r0a.1.Man.Neg,.slice A7d (sz r0a.1.Man.Abs) c8d,.int .i64 r0a.1.Exp],.int .i64 r0a.2],.agg #[.bool r0a.1.Man.Neg,.slice A7d (sz r0a.1.Man.Abs) c8d,.int .i64 r0a.1.Exp],.int .i64 r0a.2,.tuple #[.agg #[.bool r9a.1.Man.Neg,.slice A2n (sz r9a.1.Man.Abs) c3n,.int .i64 r9a.1.Exp],.int .i64 r9a.2],.agg #[.bool x1.Man.Neg,.slice A4 x1.Man.Abs.length c5,.int .i64 x1.Exp],.agg #[.bool x0.Man.Neg,.slice A1 x0.Man.Abs.length c2,.int .i64 x0.Exp],.tuple #[.agg #[.bool r9a.1.Man.Neg,.slice A2n (sz r9a.1.Man.Abs) c3n,.int .i64 r9a.1.Exp],.int .i64 r9a.2],.agg #[.bool r9a.1.Man.Neg,.slice A2n (sz r9a.1.Man.Abs) c3n,.int .i64 r9a.1.Exp],.int .i64 r9a.2,.tuple #[.agg #[.bool r8a.1.Man.Neg,.slice A2j (sz r8a.1.Man.Abs) c3j,.int .i64 r8a.1.Exp],.int .i64 r8a.2],.agg #[.bool x0.Man.Neg,.slice A1 x0.Man.Abs.length c2,.int .i64 x0.Exp],.agg #[.bool x2.Man.Neg,.slice A7 x2.Man.Abs.length c8,.int .i64 x2.Exp],.tuple #[.agg #[.bool r8a.1.Man.Neg,.slice A2j (sz r8a.1.Man.Abs) c3j,.int .i64 r8a.1.Exp],.int .i64 r8a.2],.agg #[.bool r8a.1.Man.Neg,.slice A2j (sz r8a.1.Man.Abs) c3j,.int .i64 r8a.1.Exp],.int .i64 r8a.2,.tuple #[.agg #[.bool r0b.1.Man.Neg,.slice A4n (sz r0b.1.Man.Abs) c5n,.int .i64 r0b.1.Exp],.int .i64 r0b.2],.agg #[.bool x0.Man.Neg,.slice A1 x0.Man.Abs.length c2,.int .i64 x0.Exp],.agg #[.bool r1a.1.Man.Neg,.slice A2f (sz r1a.1.Man.Abs) c3f,.int .i64 r1a.1.Exp],.tuple #[.agg #[.bool r0b.1.Man.Neg,.slice A4n (sz r0b.1.Man.Abs) c5n,.int .i64 r0b.1.Exp],.int .i64 r0b.2],.agg #[.bool r0b.1.Man.Neg,.slice A4n (sz r0b.1.Man.Abs) c5n,.int .i64 r0b.1.Exp],.int .i64 r0b.2,.tuple #[.agg #[.bool r1b.1.Man.Neg,.slice A6n (sz r1b.1.Man.Abs) c7n,.int .i64 r1b.1.Exp],.int .i64 r1b.2],.agg #[.bool r0a.1.Man.Neg,.slice A7d (sz r0a.1.Man.Abs) c8d,.int .i64 r0a.1.Exp],.agg #[.bool r8a.1.Man.Neg,.slice A2j (sz r8a.1.Man.Abs) c3j,.int .i64 r8a.1.Exp],.tuple #[.agg #[.bool r1b.1.Man.Neg,.slice A6n (sz r1b.1.Man.Abs) c7n,.int .i64 r1b.1.Exp],.int .i64 r1b.2],.agg #[.bool r1b.1.Man.Neg,.slice A6n (sz r1b.1.Man.Abs) c7n,.int .i64 r1b.1.Exp],.int .i64 r1b.2,.int .i64 r0a.2,.bool z8n,.bool z8n,t5z,t6z,.bool m7q,.bool m7q,t7z,t8z,.bool m8q,.bool m8q,t9z,t0a0,.bool m9q,.bool m9q,t1a0,t2a0,.bool m0r,.bool m0r,t3a0,t4a0,t5a0,t6a0,.bool m1r,.bool m1r,t9a0,t0a1,t1a1,t2a1,.bool m8a0,.tuple #[.agg #[.bool r5b.1.Man.Neg,.slice A0o (sz r5b.1.Man.Abs) c1o,.int .i64 r5b.1.Exp],.int .i64 r5b.2],.agg #[.bool r0a.1.Man.Neg,.slice A7d (sz r0a.1.Man.Abs) c8d,.int .i64 r0a.1.Exp],.agg #[.bool x2.Man.Neg,.slice A7 x2.Man.Abs.length c8,.int .i64 x2.Exp],.tuple #[.agg #[.bool r5b.1.Man.Neg,.slice A0o (sz r5b.1.Man.Abs) c1o,.int .i64 r5b.1.Exp],.int .i64 r5b.2],.agg #[.bool r5b.1.Man.Neg,.slice A0o (sz r5b.1.Man.Abs) c1o,.int .i64 r5b.1.Exp],.int .i64 r5b.2,.tuple #[.agg #[.bool r7a.1.Man.Neg,.slice A3g (sz r7a.1.Man.Abs) c4g,.int .i64 r7a.1.Exp],.int .i64 r7a.2],.agg #[.bool x0.Man.Neg,.slice A1 x0.Man.Abs.length c2,.int .i64 x0.Exp],.agg #[.bool x1.Man.Neg,.slice A4 x1.Man.Abs.length c5,.int .i64 x1.Exp],.agg #[.bool x2.Man.Neg,.slice A7 x2.Man.Abs.length c8,.int .i64 x2.Exp],.agg #[.bool r1c.Man.Neg,.slice A7a1 (sz r1c.Man.Abs) c8a1,.int .i64 r1c.Exp],.tuple #[.agg #[.bool r7a.1.Man.Neg,.slice A3g (sz r7a.1.Man.Abs) c4g,.int .i64 r7a.1.Exp],.int .i64 r7a.2],.agg #[.bool r7a.1.Man.Neg,.slice A3g (sz r7a.1.Man.Abs) c4g,.int .i64 r7a.1.Exp],.int .i64 r7a.2,.tuple #[.agg #[.bool r7b.1.Man.Neg,.slice A9t (sz r7b.1.Man.Abs) c0u,.int .i64 r7b.1.Exp],.int .i64 r7b.2],.agg #[.bool x1.Man.Neg,.slice A4 x1.Man.Abs.length c5,.int .i64 x1.Exp],.tuple #[.agg #[.bool r7b.1.Man.Neg,.slice A9t (sz r7b.1.Man.Abs) c0u,.int .i64 r7b.1.Exp],.int .i64 r7b.2],.agg #[.bool r7b.1.Man.Neg,.slice A9t (sz r7b.1.Man.Abs) c0u,.int .i64 r7b.1.Exp],.int .i64 r7b.2,.tuple #[.agg #[.bool r8b.1.Man.Neg,.slice A1u (sz r8b.1.Man.Abs) c2u,.int .i64 r8b.1.Exp],.int .i64 r8b.2],.agg #[.bool x0.Man.Neg,.slice A1 x0.Man.Abs.length c2,.int .i64 x0.Exp],.agg #[.bool x1.Man.Neg,.slice A4 x1.Man.Abs.length c5,.int .i64 x1.Exp],.tuple #[.agg #[.bool r8b.1.Man.Neg,.slice A1u (sz r8b.1.Man.Abs) c2u,.int .i64 r8b.1.Exp],.int .i64 r8b.2],.agg #[.bool r8b.1.Man.Neg,.slice A1u (sz r8b.1.Man.Abs) c2u,.int .i64 r8b.1.Exp],.int .i64 r8b.2,.tuple #[.agg #[.bool r9b.1.Man.Neg,.slice A3u (sz r9b.1.Man.Abs) c4u,.int .i64 r9b.1.Exp],.int .i64 r9b.2],.agg #[.bool x0.Man.Neg,.slice A1 x0.Man.Abs.length c2,.int .i64 x0.Exp],.agg #[.bool r7b.1.Man.Neg,.slice A9t (sz r7b.1.Man.Abs) c0u,.int .i64 r7b.1.Exp],.tuple #[.agg #[.bool r9b.1.Man.Neg,.slice A3u (sz r9b.1.Man.Abs) c4u,.int .i64 r9b.1.Exp],.int .i64 r9b.2],.agg #[.bool r9b.1.Man.Neg,.slice A3u (sz r9b.1.Man.Abs) c4u,.int .i64 r9b.1.Exp],.int .i64 r9b.2,.int .i64 r5b.2,.bool z4r,.bool z4r,t8a8,t9a8,.bool m0a2,.bool m0a2,t1a9,t2a9,.bool m1a2,.bool m1a2,t4a9,t5a9,.bool m2a2,.bool m2a2,t7a9,t8a9,.bool m3a2,.bool m3a2,t0aa,t1aa,t2aa,t3aa,.bool m4a2,.bool m4a2,t7aa,t8aa,t9aa,t0ab,.bool m6aa,.tuple #[.agg #[.bool r0c.1.Man.Neg,.slice A6u (sz r0c.1.Man.Abs) c7u,.int .i64 r0c.1.Exp],.int .i64 r0c.2],.agg #[.bool x0.Man.Neg,.slice A1 x0.Man.Abs.length c2,.int .i64 x0.Exp],.int .i64 x3,.tuple #[.agg #[.bool r0c.1.Man.Neg,.slice A6u (sz r0c.1.Man.Abs) c7u,.int .i64 r0c.1.Exp],.int .i64 r0c.2],.agg #[.bool r0c.1.Man.Neg,.slice A6u (sz r0c.1.Man.Abs) c7u,.int .i64 r0c.1.Exp],.int .i64 r0c.2,.tuple #[.agg #[.bool r6b.1.Man.Neg,.slice A5o (sz r6b.1.Man.Abs) c6o,.int .i64 r6b.1.Exp],.int .i64 r6b.2],.agg #[.bool x0.Man.Neg,.slice A1 x0.Man.Abs.length c2,.int .i64 x0.Exp],.int .i64 x3,.agg #[.bool r2d.Man.Neg,.slice A4ab (sz r2d.Man.Abs) c5ab,.int .i64 r2d.Exp],.tuple #[.agg #[.bool r6b.1.Man.Neg,.slice A5o (sz r6b.1.Man.Abs) c6o,.int .i64 r6b.1.Exp],.int .i64 r6b.2],.agg #[.bool r6b.1.Man.Neg,.slice A5o (sz r6b.1.Man.Abs) c6o,.int .i64 r6b.1.Exp],.int .i64 r6b.2,uu,uu,uu,uu,uu,uu,uu,uu,uu,uu,uu,uu,uu,uu]) ?_ ?_
                             ·rintro _ w8a4 ⟨A4ab,c5ab,A5o,c6o,b9a2,E0a3,n0bz,n8bp,g9bp,q0bq,rfl⟩
                              have g1bz:=nlt X9h.size g9bp
                              have X1au:=xtr X9h E0a3
                              have S2bz:=S9at.trans E0a3
                              refine dA 9 rfl (fun _=>Ac rfl) ?_
                              refine CC (by kernel_rfl) ?_
                              refine h8at _ _<|wp_seq_k fun K2au h2au=>Ah ?_
                              obtain ⟨r3au,h1bq,f2bq⟩:=Ab f7bp
                              refine sc (Ae en_7 (by rfl)) (FG w8a4 (tbx X1au hT)  r3au h1bq) ?_
                              rintro _ w6p E8u rfl
                              refine nrm ?_
                              have X6ab:=xtr X1au E8u
                              refine sV (Aa rfl) ?_
                              obtain ⟨m4au,h5au,f3bq⟩:=Ab f2bq
                              refine Bh 5 (fun l l' w'=>∃(t6au:Value) (t7au:Value),w6p=w'∧l'=(((l.set 263 t6au).set 264 t7au).set 265 (.bool m4au))) ?_ ?_
                              ·intro HJ1310
                               rcases bft r3au with e4k | e4k
                               ·have p4bq:=e4k
                                have f5bq:=ifP p4bq h5au
                                refine sV (Aa rfl) ?_ (hw:=wgT rfl e4k)
                                refine sb (CE rfl rfl) ?_ (hw:=wgT rfl e4k)
                                intro z7ab hz7ab
                                refine nrm ?_
                                refine sV (Ar (evb rfl e4k) rfl) ?_
                                obtain rfl:z7ab=decide (r0c.2=0):=bz hz7ab
                                obtain rfl:=sj f5bq
                                exact HJ1310 _ _ ⟨(.int .i64 r0c.2),(.bool (decide (r0c.2=0))),rfl,(by simp only [S0,S1]<;>rfl)⟩
                               ·have p6bq:=bF e4k
                                have f7bq:=ifN p6bq h5au
                                refine sP ?_ (hw:=wgF rfl e4k)
                                refine sP ?_ (hw:=wgF rfl e4k)
                                refine sV (Az (evb rfl e4k) rfl) ?_
                                obtain rfl:=sj f7bq
                                exact HJ1310 _ _ ⟨uu,uu,rfl,(by simp only [S0,S1]<;>rfl)⟩
                              ·rintro l' _ ⟨t6au,t7au,rfl,hq'⟩ l'' hl
                               rw [hq'] at hl
                               clear hq'
                               simp only [S0,S1] at hl
                               subst hl
                               refine sV (Aa rfl) ?_
                               obtain ⟨m8au,h9au,f8bq⟩:=Ab f3bq
                               refine Bh 9 (fun l l' w'=>∃(t0av:Value) (t1av:Value),w6p=w'∧l'=(((l.set 267 t0av).set 268 t1av).set 269 (.bool m8au))) ?_ ?_
                               ·intro HJ1329
                                rcases bft m4au with e5k | e5k
                                ·have p9bq:=e5k
                                 have f0br:=ifP p9bq h9au
                                 refine sV (Aa rfl) ?_ (hw:=wgT rfl e5k)
                                 refine sb (CE rfl rfl) ?_ (hw:=wgT rfl e5k)
                                 intro z8ab hz8ab
                                 refine nrm ?_
                                 refine sV (Ar (evb rfl e5k) rfl) ?_
                                 obtain rfl:z8ab=decide (r6b.2=0):=bz hz8ab
                                 obtain rfl:=sj f0br
                                 exact HJ1329 _ _ ⟨(.int .i64 r6b.2),(.bool (decide (r6b.2=0))),rfl,(by simp only [S0,S1]<;>rfl)⟩
                                ·have p1br:=bF e5k
                                 have f2br:=ifN p1br h9au
                                 refine sP ?_ (hw:=wgF rfl e5k)
                                 refine sP ?_ (hw:=wgF rfl e5k)
                                 refine sV (Az (evb rfl e5k) rfl) ?_
                                 obtain rfl:=sj f2br
                                 exact HJ1329 _ _ ⟨uu,uu,rfl,(by simp only [S0,S1]<;>rfl)⟩
                               ·rintro l' _ ⟨t0av,t1av,rfl,hq'⟩ l'' hl
                                rw [hq'] at hl
                                clear hq'
                                simp only [S0,S1] at hl
                                subst hl
                                refine sV (Aa rfl) ?_
                                obtain ⟨m3br,h2av,f4br⟩:=Ab f8bq
                                refine Bh 14 (fun l l' w'=>∃(t3av:Value) (t4av:Value) (t5av:Value),UpdS [] w6p w'∧l'=((((l.set 271 t3av).set 272 t4av).set 273 t5av).set 274 (.bool m3br))) ?_ ?_
                                ·intro HJ1355
                                 rcases bft m8au with e5g | e5g
                                 ·have p5br:=e5g
                                  have f6br:=ifP p5br h2av
                                  have q7br:=((q4bp.ext E8a2).ext E0a3).ext E8u
                                  refine sV (Ak As rfl q7br rfl) ?_ (hw:=wgT rfl e5g)
                                  refine sV (Ak As rfl (q0bq.ext E8u) rfl) ?_ (hw:=wgT rfl e5g)
                                  have n8br:=(((n9bo.ext F2ab).ext E8a2).ext E0a3).ext E8u
                                  obtain ⟨r6av,h9br,f0bs⟩:=Ab f6br
                                  refine sc (Ae It (by rfl)) (Bc r0c.1 r6b.1 A6u c7u A5o c6o w6p (tbx X6ab hT) n8br (n8bp.ext E8u) r6av h9br) ?_ (hw:=wgT rfl e5g)
                                  rintro _ w7a4 E1bs rfl
                                  refine nrm ?_
                                  refine sV (Ar (evb rfl e5g) rfl) ?_
                                  obtain rfl:=sj f0bs
                                  exact HJ1355 _ _ ⟨(.agg #[.bool r0c.1.Man.Neg,.slice A6u (sz r0c.1.Man.Abs) c7u,.int .i64 r0c.1.Exp]),(.agg #[.bool r6b.1.Man.Neg,.slice A5o (sz r6b.1.Man.Abs) c6o,.int .i64 r6b.1.Exp]),(.bool r6av),((UpdS.refl _ _).ext E1bs),(by simp only [S0,S1]<;>rfl)⟩
                                 ·have p2bs:=bF e5g
                                  have f3bs:=ifN p2bs h2av
                                  refine sP ?_ (hw:=wgF rfl e5g)
                                  refine sP ?_ (hw:=wgF rfl e5g)
                                  refine sP ?_ (hw:=wgF rfl e5g)
                                  refine sV (Az (evb rfl e5g) rfl) ?_
                                  obtain rfl:=sj f3bs
                                  exact HJ1355 _ _ ⟨uu,uu,uu,(UpdS.refl _ _),(by simp only [S0,S1]<;>rfl)⟩
                                ·rintro l' w7a4 ⟨t3av,t4av,t5av,U4bs,hq'⟩ l'' hl
                                 rw [hq'] at hl
                                 clear hq'
                                 simp only [S0,S1] at hl
                                 subst hl
                                 have X5bs:=GA X6ab U4bs (X6ab).size al0
                                 refine sV (Ac rfl) ?_
                                 refine Ad<|h2au _ _<|wp_ret ?_
                                 obtain rfl:=sj f4br
                                 exact fin rfl (Res.tmp rfl Res.nil) (Ap X5bs rfl)
                             ·intro HJ1154
                              refine Bi 2 7 (by kernel_rfl) ?_ ?_
                              ·refine opC 2 rfl (by rfl) (Ae GG (by rfl)) (AU 1 x3  _ (tbx (Ext.refl _) (tbx X9h hT))  r2d h0au) ?_
                               rintro _ _ E2a ⟨A3c,c4c,rfl,n5c⟩
                               refine dnrm ?_
                               refine Bi 3 7 (by kernel_rfl) ?_ ?_
                               ·refine opC 3 rfl (by rfl) (Ae GP (by rfl)) (Dy x0 (⟨(⟨r2d.Man.Neg,(limbs r2d.Man.Abs)⟩:Ay),r2d.Exp⟩:Al) A1 c2 A3c c4c _ (tbx E2a (tbx X9h hT)) ((n3.ext X9h).ext E2a) n5c r6b h3ab) ?_
                                rintro _ _ E4a ⟨A6g,c7g,rfl,n8g⟩
                                refine dnrm ?_
                                refine Bi 4 7 (by kernel_rfl) ?_ ?_
                                ·refine opV 4 rfl (by rfl) (Aa rfl) (dnrm ?_)
                                 refine GE 5 6 7 (by kernel_rfl) ?_ ?_ ?_
                                 ·refine opV 5 rfl (by rfl) (Am rfl rfl) (dnrm ?_)
                                  refine Bi 6 7 (by kernel_rfl) ?_ ?_
                                  ·refine opV 6 rfl (by rfl) (Am rfl rfl) (dnrm ?_)
                                   refine Au 7 (by kernel_rfl) ?_
                                   ·refine opA 7 rfl (by rfl) (Aq Bn) fun b6bs _ E9ab g7av q0ac=>dnrm ?_
                                    refine Au 8 (by kernel_rfl) ?_
                                    ·refine opK 8 rfl (by decide) (by rfl) AL rfl rfl q0ac rfl rfl rfl rfl (by simp only [SP0,SP1,S0,S1,Nat.reduceAdd];rfl) fun _ U1ac q7bs=>?_
                                     exact AW (by kernel_rfl) (HJ1154 _ _ ⟨A3c,c4c,A6g,c7g,b6bs,(belU ((E2a.trans E4a).trans E9ab) U1ac (nlt (E2a.trans E4a).size g7av)),(((n5c.ext E4a).ext E9ab).upd U1ac q0ac (by decide)),((n8g.ext E9ab).upd U1ac q0ac (by decide)),(nlt (E2a.trans E4a).size g7av),q7bs,rfl⟩)
                                  ·refine opA 7 rfl (by rfl) (Aq Bn) fun b8av _ E6r g1a3 q7r=>dnrm ?_
                                   refine Bi 6 8 (by kernel_rfl) ?_ ?_
                                   ·refine opV 6 rfl (by rfl) (Am rfl rfl) (dnrm ?_)
                                    refine Au 8 (by kernel_rfl) ?_
                                    ·refine opK 8 rfl (by decide) (by rfl) AL rfl rfl q7r rfl rfl rfl rfl (by simp only [SP0,SP1,S0,S1,Nat.reduceAdd];rfl) fun _ U2ac q8bs=>?_
                                     exact AW (by kernel_rfl) (HJ1154 _ _ ⟨A3c,c4c,A6g,c7g,b8av,(belU ((E2a.trans E4a).trans E6r) U2ac (nlt (E2a.trans E4a).size g1a3)),(((n5c.ext E4a).ext E6r).upd U2ac q7r (by decide)),((n8g.ext E6r).upd U2ac q7r (by decide)),(nlt (E2a.trans E4a).size g1a3),q8bs,rfl⟩)
                                   ·refine opK 8 rfl (by decide) (by rfl) AL rfl rfl q7r rfl rfl rfl rfl (by simp only [SP0,SP1,S0,S1,Nat.reduceAdd];rfl) fun _ U3ac q9bs=>?_
                                    refine Au 6 (by kernel_rfl) ?_
                                    ·refine opV 6 rfl (by rfl) (Am rfl rfl) (dnrm ?_)
                                     exact AW (by kernel_rfl) (HJ1154 _ _ ⟨A3c,c4c,A6g,c7g,b8av,(belU ((E2a.trans E4a).trans E6r) U3ac (nlt (E2a.trans E4a).size g1a3)),(((n5c.ext E4a).ext E6r).upd U3ac q7r (by decide)),((n8g.ext E6r).upd U3ac q7r (by decide)),(nlt (E2a.trans E4a).size g1a3),q9bs,rfl⟩)
                                 ·refine opV 6 rfl (by rfl) (Am rfl rfl) (dnrm ?_)
                                  refine Bi 5 7 (by kernel_rfl) ?_ ?_
                                  ·refine opV 5 rfl (by rfl) (Am rfl rfl) (dnrm ?_)
                                   refine Au 7 (by kernel_rfl) ?_
                                   ·refine opA 7 rfl (by rfl) (Aq Bn) fun b0bt _ E4ac g9av q5ac=>dnrm ?_
                                    refine Au 8 (by kernel_rfl) ?_
                                    ·refine opK 8 rfl (by decide) (by rfl) AL rfl rfl q5ac rfl rfl rfl rfl (by simp only [SP0,SP1,S0,S1,Nat.reduceAdd];rfl) fun _ U6ac q1bt=>?_
                                     exact AW (by kernel_rfl) (HJ1154 _ _ ⟨A3c,c4c,A6g,c7g,b0bt,(belU ((E2a.trans E4a).trans E4ac) U6ac (nlt (E2a.trans E4a).size g9av)),(((n5c.ext E4a).ext E4ac).upd U6ac q5ac (by decide)),((n8g.ext E4ac).upd U6ac q5ac (by decide)),(nlt (E2a.trans E4a).size g9av),q1bt,rfl⟩)
                                  ·refine opA 7 rfl (by rfl) (Aq Bn) fun b2bt _ E7ac g0aw q8ac=>dnrm ?_
                                   refine Au 5 (by kernel_rfl) ?_
                                   ·refine opV 5 rfl (by rfl) (Am rfl rfl) (dnrm ?_)
                                    refine Au 8 (by kernel_rfl) ?_
                                    ·refine opK 8 rfl (by decide) (by rfl) AL rfl rfl q8ac rfl rfl rfl rfl (by simp only [SP0,SP1,S0,S1,Nat.reduceAdd];rfl) fun _ U9ac q3bt=>?_
                                     exact AW (by kernel_rfl) (HJ1154 _ _ ⟨A3c,c4c,A6g,c7g,b2bt,(belU ((E2a.trans E4a).trans E7ac) U9ac (nlt (E2a.trans E4a).size g0aw)),(((n5c.ext E4a).ext E7ac).upd U9ac q8ac (by decide)),((n8g.ext E7ac).upd U9ac q8ac (by decide)),(nlt (E2a.trans E4a).size g0aw),q3bt,rfl⟩)
                                 ·refine opA 7 rfl (by rfl) (Aq Bn) fun b0ad _ E6k g8r q7k=>dnrm ?_
                                  refine Bi 5 6 (by kernel_rfl) ?_ ?_
                                  ·refine opV 5 rfl (by rfl) (Am rfl rfl) (dnrm ?_)
                                   refine Bi 6 8 (by kernel_rfl) ?_ ?_
                                   ·refine opV 6 rfl (by rfl) (Am rfl rfl) (dnrm ?_)
                                    refine Au 8 (by kernel_rfl) ?_
                                    ·refine opK 8 rfl (by decide) (by rfl) AL rfl rfl q7k rfl rfl rfl rfl (by simp only [SP0,SP1,S0,S1,Nat.reduceAdd];rfl) fun _ U1ad q4bt=>?_
                                     exact AW (by kernel_rfl) (HJ1154 _ _ ⟨A3c,c4c,A6g,c7g,b0ad,(belU ((E2a.trans E4a).trans E6k) U1ad (nlt (E2a.trans E4a).size g8r)),(((n5c.ext E4a).ext E6k).upd U1ad q7k (by decide)),((n8g.ext E6k).upd U1ad q7k (by decide)),(nlt (E2a.trans E4a).size g8r),q4bt,rfl⟩)
                                   ·refine opK 8 rfl (by decide) (by rfl) AL rfl rfl q7k rfl rfl rfl rfl (by simp only [SP0,SP1,S0,S1,Nat.reduceAdd];rfl) fun _ U2ad q5bt=>?_
                                    refine Au 6 (by kernel_rfl) ?_
                                    ·refine opV 6 rfl (by rfl) (Am rfl rfl) (dnrm ?_)
                                     exact AW (by kernel_rfl) (HJ1154 _ _ ⟨A3c,c4c,A6g,c7g,b0ad,(belU ((E2a.trans E4a).trans E6k) U2ad (nlt (E2a.trans E4a).size g8r)),(((n5c.ext E4a).ext E6k).upd U2ad q7k (by decide)),((n8g.ext E6k).upd U2ad q7k (by decide)),(nlt (E2a.trans E4a).size g8r),q5bt,rfl⟩)
                                  ·refine opV 6 rfl (by rfl) (Am rfl rfl) (dnrm ?_)
                                   refine Au 5 (by kernel_rfl) ?_
                                   ·refine opV 5 rfl (by rfl) (Am rfl rfl) (dnrm ?_)
                                    refine Au 8 (by kernel_rfl) ?_
                                    ·refine opK 8 rfl (by decide) (by rfl) AL rfl rfl q7k rfl rfl rfl rfl (by simp only [SP0,SP1,S0,S1,Nat.reduceAdd];rfl) fun _ U3ad q6bt=>?_
                                     exact AW (by kernel_rfl) (HJ1154 _ _ ⟨A3c,c4c,A6g,c7g,b0ad,(belU ((E2a.trans E4a).trans E6k) U3ad (nlt (E2a.trans E4a).size g8r)),(((n5c.ext E4a).ext E6k).upd U3ad q7k (by decide)),((n8g.ext E6k).upd U3ad q7k (by decide)),(nlt (E2a.trans E4a).size g8r),q6bt,rfl⟩)
                                ·refine opA 7 rfl (by rfl) (Aq Bn) fun b4ad _ E8k g9r q9k=>dnrm ?_
                                 refine Au 4 (by kernel_rfl) ?_
                                 ·refine opV 4 rfl (by rfl) (Aa rfl) (dnrm ?_)
                                  refine Bi 5 6 (by kernel_rfl) ?_ ?_
                                  ·refine opV 5 rfl (by rfl) (Am rfl rfl) (dnrm ?_)
                                   refine Bi 6 8 (by kernel_rfl) ?_ ?_
                                   ·refine opV 6 rfl (by rfl) (Am rfl rfl) (dnrm ?_)
                                    refine Au 8 (by kernel_rfl) ?_
                                    ·refine opK 8 rfl (by decide) (by rfl) AL rfl rfl q9k rfl rfl rfl rfl (by simp only [SP0,SP1,S0,S1,Nat.reduceAdd];rfl) fun _ U5ad q7bt=>?_
                                     exact AW (by kernel_rfl) (HJ1154 _ _ ⟨A3c,c4c,A6g,c7g,b4ad,(belU ((E2a.trans E4a).trans E8k) U5ad (nlt (E2a.trans E4a).size g9r)),(((n5c.ext E4a).ext E8k).upd U5ad q9k (by decide)),((n8g.ext E8k).upd U5ad q9k (by decide)),(nlt (E2a.trans E4a).size g9r),q7bt,rfl⟩)
                                   ·refine opK 8 rfl (by decide) (by rfl) AL rfl rfl q9k rfl rfl rfl rfl (by simp only [SP0,SP1,S0,S1,Nat.reduceAdd];rfl) fun _ U6ad q8bt=>?_
                                    refine Au 6 (by kernel_rfl) ?_
                                    ·refine opV 6 rfl (by rfl) (Am rfl rfl) (dnrm ?_)
                                     exact AW (by kernel_rfl) (HJ1154 _ _ ⟨A3c,c4c,A6g,c7g,b4ad,(belU ((E2a.trans E4a).trans E8k) U6ad (nlt (E2a.trans E4a).size g9r)),(((n5c.ext E4a).ext E8k).upd U6ad q9k (by decide)),((n8g.ext E8k).upd U6ad q9k (by decide)),(nlt (E2a.trans E4a).size g9r),q8bt,rfl⟩)
                                  ·refine opV 6 rfl (by rfl) (Am rfl rfl) (dnrm ?_)
                                   refine Au 5 (by kernel_rfl) ?_
                                   ·refine opV 5 rfl (by rfl) (Am rfl rfl) (dnrm ?_)
                                    refine Au 8 (by kernel_rfl) ?_
                                    ·refine opK 8 rfl (by decide) (by rfl) AL rfl rfl q9k rfl rfl rfl rfl (by simp only [SP0,SP1,S0,S1,Nat.reduceAdd];rfl) fun _ U7ad q9bt=>?_
                                     exact AW (by kernel_rfl) (HJ1154 _ _ ⟨A3c,c4c,A6g,c7g,b4ad,(belU ((E2a.trans E4a).trans E8k) U7ad (nlt (E2a.trans E4a).size g9r)),(((n5c.ext E4a).ext E8k).upd U7ad q9k (by decide)),((n8g.ext E8k).upd U7ad q9k (by decide)),(nlt (E2a.trans E4a).size g9r),q9bt,rfl⟩)
                               ·refine opA 7 rfl (by rfl) (Aq Bn) fun b8ad _ E0l g0s q1l=>dnrm ?_
                                refine Au 3 (by kernel_rfl) ?_
                                ·refine opC 3 rfl (by rfl) (Ae GP (by rfl)) (Dy x0 (⟨(⟨r2d.Man.Neg,(limbs r2d.Man.Abs)⟩:Ay),r2d.Exp⟩:Al) A1 c2 A3c c4c _ (tbx (E2a.trans E0l) (tbx X9h hT)) ((n3.ext X9h).ext (E2a.trans E0l)) (n5c.ext E0l) r6b h3ab) ?_
                                 rintro _ _ E3d ⟨A9ad,c0ae,rfl,n1ae⟩
                                 refine dnrm ?_
                                 refine Au 4 (by kernel_rfl) ?_
                                 ·refine opV 4 rfl (by rfl) (Aa rfl) (dnrm ?_)
                                  refine Bi 5 6 (by kernel_rfl) ?_ ?_
                                  ·refine opV 5 rfl (by rfl) (Am rfl rfl) (dnrm ?_)
                                   refine Bi 6 8 (by kernel_rfl) ?_ ?_
                                   ·refine opV 6 rfl (by rfl) (Am rfl rfl) (dnrm ?_)
                                    refine Au 8 (by kernel_rfl) ?_
                                    ·refine opK 8 rfl (by decide) (by rfl) AL rfl rfl (q1l.ext E3d) rfl rfl rfl rfl (by simp only [SP0,SP1,S0,S1,Nat.reduceAdd];rfl) fun _ U2ae q0bu=>?_
                                     exact AW (by kernel_rfl) (HJ1154 _ _ ⟨A3c,c4c,A9ad,c0ae,b8ad,(belU ((E2a.trans E0l).trans E3d) U2ae (nlt E2a.size g0s)),(((n5c.ext E0l).ext E3d).upd U2ae (q1l.ext E3d) (by decide)),(n1ae.upd U2ae (q1l.ext E3d) (by decide)),(nlt E2a.size g0s),q0bu,rfl⟩)
                                   ·refine opK 8 rfl (by decide) (by rfl) AL rfl rfl (q1l.ext E3d) rfl rfl rfl rfl (by simp only [SP0,SP1,S0,S1,Nat.reduceAdd];rfl) fun _ U3ae q1bu=>?_
                                    refine Au 6 (by kernel_rfl) ?_
                                    ·refine opV 6 rfl (by rfl) (Am rfl rfl) (dnrm ?_)
                                     exact AW (by kernel_rfl) (HJ1154 _ _ ⟨A3c,c4c,A9ad,c0ae,b8ad,(belU ((E2a.trans E0l).trans E3d) U3ae (nlt E2a.size g0s)),(((n5c.ext E0l).ext E3d).upd U3ae (q1l.ext E3d) (by decide)),(n1ae.upd U3ae (q1l.ext E3d) (by decide)),(nlt E2a.size g0s),q1bu,rfl⟩)
                                  ·refine opV 6 rfl (by rfl) (Am rfl rfl) (dnrm ?_)
                                   refine Au 5 (by kernel_rfl) ?_
                                   ·refine opV 5 rfl (by rfl) (Am rfl rfl) (dnrm ?_)
                                    refine Au 8 (by kernel_rfl) ?_
                                    ·refine opK 8 rfl (by decide) (by rfl) AL rfl rfl (q1l.ext E3d) rfl rfl rfl rfl (by simp only [SP0,SP1,S0,S1,Nat.reduceAdd];rfl) fun _ U4ae q2bu=>?_
                                     exact AW (by kernel_rfl) (HJ1154 _ _ ⟨A3c,c4c,A9ad,c0ae,b8ad,(belU ((E2a.trans E0l).trans E3d) U4ae (nlt E2a.size g0s)),(((n5c.ext E0l).ext E3d).upd U4ae (q1l.ext E3d) (by decide)),(n1ae.upd U4ae (q1l.ext E3d) (by decide)),(nlt E2a.size g0s),q2bu,rfl⟩)
                              ·refine opA 7 rfl (by rfl) (Aq Bn) fun b5ae _ E1s g2s q2l=>dnrm ?_
                               refine Au 2 (by kernel_rfl) ?_
                               ·refine opC 2 rfl (by rfl) (Ae GG (by rfl)) (AU 1 x3  _ (tbx E1s (tbx X9h hT))  r2d h0au) ?_
                                rintro _ _ E1e ⟨A2a3,c3a3,rfl,n4a3⟩
                                refine dnrm ?_
                                refine Au 3 (by kernel_rfl) ?_
                                ·refine opC 3 rfl (by rfl) (Ae GP (by rfl)) (Dy x0 (⟨(⟨r2d.Man.Neg,(limbs r2d.Man.Abs)⟩:Ay),r2d.Exp⟩:Al) A1 c2 A2a3 c3a3 _ (tbx (E1s.trans E1e) (tbx X9h hT)) ((n3.ext X9h).ext (E1s.trans E1e)) n4a3 r6b h3ab) ?_
                                 rintro _ _ E4d ⟨A6ae,c7ae,rfl,n8ae⟩
                                 refine dnrm ?_
                                 refine Au 4 (by kernel_rfl) ?_
                                 ·refine opV 4 rfl (by rfl) (Aa rfl) (dnrm ?_)
                                  refine Bi 5 6 (by kernel_rfl) ?_ ?_
                                  ·refine opV 5 rfl (by rfl) (Am rfl rfl) (dnrm ?_)
                                   refine Bi 6 8 (by kernel_rfl) ?_ ?_
                                   ·refine opV 6 rfl (by rfl) (Am rfl rfl) (dnrm ?_)
                                    refine Au 8 (by kernel_rfl) ?_
                                    ·refine opK 8 rfl (by decide) (by rfl) AL rfl rfl ((q2l.ext E1e).ext E4d) rfl rfl rfl rfl (by simp only [SP0,SP1,S0,S1,Nat.reduceAdd];rfl) fun _ U9ae q3bu=>?_
                                     exact AW (by kernel_rfl) (HJ1154 _ _ ⟨A2a3,c3a3,A6ae,c7ae,b5ae,(belU ((E1s.trans E1e).trans E4d) U9ae g2s),((n4a3.ext E4d).upd U9ae ((q2l.ext E1e).ext E4d) (by decide)),(n8ae.upd U9ae ((q2l.ext E1e).ext E4d) (by decide)),g2s,q3bu,rfl⟩)
                                   ·refine opK 8 rfl (by decide) (by rfl) AL rfl rfl ((q2l.ext E1e).ext E4d) rfl rfl rfl rfl (by simp only [SP0,SP1,S0,S1,Nat.reduceAdd];rfl) fun _ U0af q4bu=>?_
                                    refine Au 6 (by kernel_rfl) ?_
                                    ·refine opV 6 rfl (by rfl) (Am rfl rfl) (dnrm ?_)
                                     exact AW (by kernel_rfl) (HJ1154 _ _ ⟨A2a3,c3a3,A6ae,c7ae,b5ae,(belU ((E1s.trans E1e).trans E4d) U0af g2s),((n4a3.ext E4d).upd U0af ((q2l.ext E1e).ext E4d) (by decide)),(n8ae.upd U0af ((q2l.ext E1e).ext E4d) (by decide)),g2s,q4bu,rfl⟩)
                                  ·refine opV 6 rfl (by rfl) (Am rfl rfl) (dnrm ?_)
                                   refine Au 5 (by kernel_rfl) ?_
                                   ·refine opV 5 rfl (by rfl) (Am rfl rfl) (dnrm ?_)
                                    refine Au 8 (by kernel_rfl) ?_
                                    ·refine opK 8 rfl (by decide) (by rfl) AL rfl rfl ((q2l.ext E1e).ext E4d) rfl rfl rfl rfl (by simp only [SP0,SP1,S0,S1,Nat.reduceAdd];rfl) fun _ U1af q5bu=>?_
                                     exact AW (by kernel_rfl) (HJ1154 _ _ ⟨A2a3,c3a3,A6ae,c7ae,b5ae,(belU ((E1s.trans E1e).trans E4d) U1af g2s),((n4a3.ext E4d).upd U1af ((q2l.ext E1e).ext E4d) (by decide)),(n8ae.upd U1af ((q2l.ext E1e).ext E4d) (by decide)),g2s,q5bu,rfl⟩)
                     ·intro HJ750
                      refine Bi 3 8 (by kernel_rfl) ?_ ?_
                      ·refine opC 3 rfl (by rfl) (Ae Lv (by simp only [sz,hx0a8,hx2a8];rfl)) (Gh (⟨(⟨x1.Man.Neg,m9a7⟩:Ag),x1.Exp⟩:Af) (⟨(⟨x2.Man.Neg,m1a8⟩:Ag),x2.Exp⟩:Af) A4 c5 A7 c8 _ (tbx (Ext.refl _) (tbx X8f hT)) (n9aq.ext (Ext.refl _)) (n0ar.ext (Ext.refl _)) r1c h1ar) ?_
                       rintro _ _ E3a ⟨A6c,c7c,rfl,n8c⟩
                       refine dnrm ?_
                       refine Bi 4 8 (by kernel_rfl) ?_ ?_
                       ·refine opC 4 rfl (by rfl) (Ae GP (by rfl)) (Dy x0 (⟨(⟨r1c.Man.Neg,(limbs r1c.Man.Abs)⟩:Ay),r1c.Exp⟩:Al) A1 c2 A6c c7c _ (tbx E3a (tbx X8f hT)) ((n3.ext X8f).ext E3a) n8c r7a h3a8) ?_
                        rintro _ _ E5a ⟨A9g,c0h,rfl,n1h⟩
                        refine dnrm ?_
                        refine Bi 5 8 (by kernel_rfl) ?_ ?_
                        ·refine opV 5 rfl (by rfl) (Aa rfl) (dnrm ?_)
                         refine GE 6 7 8 (by kernel_rfl) ?_ ?_ ?_
                         ·refine opV 6 rfl (by rfl) (Am rfl rfl) (dnrm ?_)
                          refine Bi 7 8 (by kernel_rfl) ?_ ?_
                          ·refine opV 7 rfl (by rfl) (Am rfl rfl) (dnrm ?_)
                           refine Au 8 (by kernel_rfl) ?_
                           ·refine opA 8 rfl (by rfl) (Aq Bn) fun b6bu _ E2af g1aw q3af=>dnrm ?_
                            refine Au 9 (by kernel_rfl) ?_
                            ·refine opK 9 rfl (by decide) (by rfl) AL rfl rfl q3af rfl rfl rfl rfl (by simp only [SP0,SP1,S0,S1,Nat.reduceAdd];rfl) fun _ U4af q7bu=>?_
                             exact AW (by kernel_rfl) (HJ750 _ _ ⟨A6c,c7c,A9g,c0h,b6bu,(belU ((E3a.trans E5a).trans E2af) U4af (nlt (E3a.trans E5a).size g1aw)),(((n8c.ext E5a).ext E2af).upd U4af q3af (by decide)),((n1h.ext E2af).upd U4af q3af (by decide)),(nlt (E3a.trans E5a).size g1aw),q7bu,rfl⟩)
                          ·refine opA 8 rfl (by rfl) (Aq Bn) fun b2aw _ E3s g5a3 q4s=>dnrm ?_
                           refine Bi 7 9 (by kernel_rfl) ?_ ?_
                           ·refine opV 7 rfl (by rfl) (Am rfl rfl) (dnrm ?_)
                            refine Au 9 (by kernel_rfl) ?_
                            ·refine opK 9 rfl (by decide) (by rfl) AL rfl rfl q4s rfl rfl rfl rfl (by simp only [SP0,SP1,S0,S1,Nat.reduceAdd];rfl) fun _ U5af q8bu=>?_
                             exact AW (by kernel_rfl) (HJ750 _ _ ⟨A6c,c7c,A9g,c0h,b2aw,(belU ((E3a.trans E5a).trans E3s) U5af (nlt (E3a.trans E5a).size g5a3)),(((n8c.ext E5a).ext E3s).upd U5af q4s (by decide)),((n1h.ext E3s).upd U5af q4s (by decide)),(nlt (E3a.trans E5a).size g5a3),q8bu,rfl⟩)
                           ·refine opK 9 rfl (by decide) (by rfl) AL rfl rfl q4s rfl rfl rfl rfl (by simp only [SP0,SP1,S0,S1,Nat.reduceAdd];rfl) fun _ U6af q9bu=>?_
                            refine Au 7 (by kernel_rfl) ?_
                            ·refine opV 7 rfl (by rfl) (Am rfl rfl) (dnrm ?_)
                             exact AW (by kernel_rfl) (HJ750 _ _ ⟨A6c,c7c,A9g,c0h,b2aw,(belU ((E3a.trans E5a).trans E3s) U6af (nlt (E3a.trans E5a).size g5a3)),(((n8c.ext E5a).ext E3s).upd U6af q4s (by decide)),((n1h.ext E3s).upd U6af q4s (by decide)),(nlt (E3a.trans E5a).size g5a3),q9bu,rfl⟩)
                         ·refine opV 7 rfl (by rfl) (Am rfl rfl) (dnrm ?_)
                          refine Bi 6 8 (by kernel_rfl) ?_ ?_
                          ·refine opV 6 rfl (by rfl) (Am rfl rfl) (dnrm ?_)
                           refine Au 8 (by kernel_rfl) ?_
                           ·refine opA 8 rfl (by rfl) (Aq Bn) fun b0bv _ E7af g3aw q8af=>dnrm ?_
                            refine Au 9 (by kernel_rfl) ?_
                            ·refine opK 9 rfl (by decide) (by rfl) AL rfl rfl q8af rfl rfl rfl rfl (by simp only [SP0,SP1,S0,S1,Nat.reduceAdd];rfl) fun _ U9af q1bv=>?_
                             exact AW (by kernel_rfl) (HJ750 _ _ ⟨A6c,c7c,A9g,c0h,b0bv,(belU ((E3a.trans E5a).trans E7af) U9af (nlt (E3a.trans E5a).size g3aw)),(((n8c.ext E5a).ext E7af).upd U9af q8af (by decide)),((n1h.ext E7af).upd U9af q8af (by decide)),(nlt (E3a.trans E5a).size g3aw),q1bv,rfl⟩)
                          ·refine opA 8 rfl (by rfl) (Aq Bn) fun b2bv _ E0ag g4aw q1ag=>dnrm ?_
                           refine Au 6 (by kernel_rfl) ?_
                           ·refine opV 6 rfl (by rfl) (Am rfl rfl) (dnrm ?_)
                            refine Au 9 (by kernel_rfl) ?_
                            ·refine opK 9 rfl (by decide) (by rfl) AL rfl rfl q1ag rfl rfl rfl rfl (by simp only [SP0,SP1,S0,S1,Nat.reduceAdd];rfl) fun _ U2ag q3bv=>?_
                             exact AW (by kernel_rfl) (HJ750 _ _ ⟨A6c,c7c,A9g,c0h,b2bv,(belU ((E3a.trans E5a).trans E0ag) U2ag (nlt (E3a.trans E5a).size g4aw)),(((n8c.ext E5a).ext E0ag).upd U2ag q1ag (by decide)),((n1h.ext E0ag).upd U2ag q1ag (by decide)),(nlt (E3a.trans E5a).size g4aw),q3bv,rfl⟩)
                         ·refine opA 8 rfl (by rfl) (Aq Bn) fun b3ag _ E3l g5s q4l=>dnrm ?_
                          refine Bi 6 7 (by kernel_rfl) ?_ ?_
                          ·refine opV 6 rfl (by rfl) (Am rfl rfl) (dnrm ?_)
                           refine Bi 7 9 (by kernel_rfl) ?_ ?_
                           ·refine opV 7 rfl (by rfl) (Am rfl rfl) (dnrm ?_)
                            refine Au 9 (by kernel_rfl) ?_
                            ·refine opK 9 rfl (by decide) (by rfl) AL rfl rfl q4l rfl rfl rfl rfl (by simp only [SP0,SP1,S0,S1,Nat.reduceAdd];rfl) fun _ U4ag q4bv=>?_
                             exact AW (by kernel_rfl) (HJ750 _ _ ⟨A6c,c7c,A9g,c0h,b3ag,(belU ((E3a.trans E5a).trans E3l) U4ag (nlt (E3a.trans E5a).size g5s)),(((n8c.ext E5a).ext E3l).upd U4ag q4l (by decide)),((n1h.ext E3l).upd U4ag q4l (by decide)),(nlt (E3a.trans E5a).size g5s),q4bv,rfl⟩)
                           ·refine opK 9 rfl (by decide) (by rfl) AL rfl rfl q4l rfl rfl rfl rfl (by simp only [SP0,SP1,S0,S1,Nat.reduceAdd];rfl) fun _ U5ag q5bv=>?_
                            refine Au 7 (by kernel_rfl) ?_
                            ·refine opV 7 rfl (by rfl) (Am rfl rfl) (dnrm ?_)
                             exact AW (by kernel_rfl) (HJ750 _ _ ⟨A6c,c7c,A9g,c0h,b3ag,(belU ((E3a.trans E5a).trans E3l) U5ag (nlt (E3a.trans E5a).size g5s)),(((n8c.ext E5a).ext E3l).upd U5ag q4l (by decide)),((n1h.ext E3l).upd U5ag q4l (by decide)),(nlt (E3a.trans E5a).size g5s),q5bv,rfl⟩)
                          ·refine opV 7 rfl (by rfl) (Am rfl rfl) (dnrm ?_)
                           refine Au 6 (by kernel_rfl) ?_
                           ·refine opV 6 rfl (by rfl) (Am rfl rfl) (dnrm ?_)
                            refine Au 9 (by kernel_rfl) ?_
                            ·refine opK 9 rfl (by decide) (by rfl) AL rfl rfl q4l rfl rfl rfl rfl (by simp only [SP0,SP1,S0,S1,Nat.reduceAdd];rfl) fun _ U6ag q6bv=>?_
                             exact AW (by kernel_rfl) (HJ750 _ _ ⟨A6c,c7c,A9g,c0h,b3ag,(belU ((E3a.trans E5a).trans E3l) U6ag (nlt (E3a.trans E5a).size g5s)),(((n8c.ext E5a).ext E3l).upd U6ag q4l (by decide)),((n1h.ext E3l).upd U6ag q4l (by decide)),(nlt (E3a.trans E5a).size g5s),q6bv,rfl⟩)
                        ·refine opA 8 rfl (by rfl) (Aq Bn) fun b7ag _ E5l g6s q6l=>dnrm ?_
                         refine Au 5 (by kernel_rfl) ?_
                         ·refine opV 5 rfl (by rfl) (Aa rfl) (dnrm ?_)
                          refine Bi 6 7 (by kernel_rfl) ?_ ?_
                          ·refine opV 6 rfl (by rfl) (Am rfl rfl) (dnrm ?_)
                           refine Bi 7 9 (by kernel_rfl) ?_ ?_
                           ·refine opV 7 rfl (by rfl) (Am rfl rfl) (dnrm ?_)
                            refine Au 9 (by kernel_rfl) ?_
                            ·refine opK 9 rfl (by decide) (by rfl) AL rfl rfl q6l rfl rfl rfl rfl (by simp only [SP0,SP1,S0,S1,Nat.reduceAdd];rfl) fun _ U8ag q7bv=>?_
                             exact AW (by kernel_rfl) (HJ750 _ _ ⟨A6c,c7c,A9g,c0h,b7ag,(belU ((E3a.trans E5a).trans E5l) U8ag (nlt (E3a.trans E5a).size g6s)),(((n8c.ext E5a).ext E5l).upd U8ag q6l (by decide)),((n1h.ext E5l).upd U8ag q6l (by decide)),(nlt (E3a.trans E5a).size g6s),q7bv,rfl⟩)
                           ·refine opK 9 rfl (by decide) (by rfl) AL rfl rfl q6l rfl rfl rfl rfl (by simp only [SP0,SP1,S0,S1,Nat.reduceAdd];rfl) fun _ U9ag q8bv=>?_
                            refine Au 7 (by kernel_rfl) ?_
                            ·refine opV 7 rfl (by rfl) (Am rfl rfl) (dnrm ?_)
                             exact AW (by kernel_rfl) (HJ750 _ _ ⟨A6c,c7c,A9g,c0h,b7ag,(belU ((E3a.trans E5a).trans E5l) U9ag (nlt (E3a.trans E5a).size g6s)),(((n8c.ext E5a).ext E5l).upd U9ag q6l (by decide)),((n1h.ext E5l).upd U9ag q6l (by decide)),(nlt (E3a.trans E5a).size g6s),q8bv,rfl⟩)
                          ·refine opV 7 rfl (by rfl) (Am rfl rfl) (dnrm ?_)
                           refine Au 6 (by kernel_rfl) ?_
                           ·refine opV 6 rfl (by rfl) (Am rfl rfl) (dnrm ?_)
                            refine Au 9 (by kernel_rfl) ?_
                            ·refine opK 9 rfl (by decide) (by rfl) AL rfl rfl q6l rfl rfl rfl rfl (by simp only [SP0,SP1,S0,S1,Nat.reduceAdd];rfl) fun _ U0ah q9bv=>?_
                             exact AW (by kernel_rfl) (HJ750 _ _ ⟨A6c,c7c,A9g,c0h,b7ag,(belU ((E3a.trans E5a).trans E5l) U0ah (nlt (E3a.trans E5a).size g6s)),(((n8c.ext E5a).ext E5l).upd U0ah q6l (by decide)),((n1h.ext E5l).upd U0ah q6l (by decide)),(nlt (E3a.trans E5a).size g6s),q9bv,rfl⟩)
                       ·refine opA 8 rfl (by rfl) (Aq Bn) fun b1ah _ E7l g7s q8l=>dnrm ?_
                        refine Au 4 (by kernel_rfl) ?_
                        ·refine opC 4 rfl (by rfl) (Ae GP (by rfl)) (Dy x0 (⟨(⟨r1c.Man.Neg,(limbs r1c.Man.Abs)⟩:Ay),r1c.Exp⟩:Al) A1 c2 A6c c7c _ (tbx (E3a.trans E7l) (tbx X8f hT)) ((n3.ext X8f).ext (E3a.trans E7l)) (n8c.ext E7l) r7a h3a8) ?_
                         rintro _ _ E5d ⟨A2ah,c3ah,rfl,n4ah⟩
                         refine dnrm ?_
                         refine Au 5 (by kernel_rfl) ?_
                         ·refine opV 5 rfl (by rfl) (Aa rfl) (dnrm ?_)
                          refine Bi 6 7 (by kernel_rfl) ?_ ?_
                          ·refine opV 6 rfl (by rfl) (Am rfl rfl) (dnrm ?_)
                           refine Bi 7 9 (by kernel_rfl) ?_ ?_
                           ·refine opV 7 rfl (by rfl) (Am rfl rfl) (dnrm ?_)
                            refine Au 9 (by kernel_rfl) ?_
                            ·refine opK 9 rfl (by decide) (by rfl) AL rfl rfl (q8l.ext E5d) rfl rfl rfl rfl (by simp only [SP0,SP1,S0,S1,Nat.reduceAdd];rfl) fun _ U5ah q0bw=>?_
                             exact AW (by kernel_rfl) (HJ750 _ _ ⟨A6c,c7c,A2ah,c3ah,b1ah,(belU ((E3a.trans E7l).trans E5d) U5ah (nlt E3a.size g7s)),(((n8c.ext E7l).ext E5d).upd U5ah (q8l.ext E5d) (by decide)),(n4ah.upd U5ah (q8l.ext E5d) (by decide)),(nlt E3a.size g7s),q0bw,rfl⟩)
                           ·refine opK 9 rfl (by decide) (by rfl) AL rfl rfl (q8l.ext E5d) rfl rfl rfl rfl (by simp only [SP0,SP1,S0,S1,Nat.reduceAdd];rfl) fun _ U6ah q1bw=>?_
                            refine Au 7 (by kernel_rfl) ?_
                            ·refine opV 7 rfl (by rfl) (Am rfl rfl) (dnrm ?_)
                             exact AW (by kernel_rfl) (HJ750 _ _ ⟨A6c,c7c,A2ah,c3ah,b1ah,(belU ((E3a.trans E7l).trans E5d) U6ah (nlt E3a.size g7s)),(((n8c.ext E7l).ext E5d).upd U6ah (q8l.ext E5d) (by decide)),(n4ah.upd U6ah (q8l.ext E5d) (by decide)),(nlt E3a.size g7s),q1bw,rfl⟩)
                          ·refine opV 7 rfl (by rfl) (Am rfl rfl) (dnrm ?_)
                           refine Au 6 (by kernel_rfl) ?_
                           ·refine opV 6 rfl (by rfl) (Am rfl rfl) (dnrm ?_)
                            refine Au 9 (by kernel_rfl) ?_
                            ·refine opK 9 rfl (by decide) (by rfl) AL rfl rfl (q8l.ext E5d) rfl rfl rfl rfl (by simp only [SP0,SP1,S0,S1,Nat.reduceAdd];rfl) fun _ U7ah q2bw=>?_
                             exact AW (by kernel_rfl) (HJ750 _ _ ⟨A6c,c7c,A2ah,c3ah,b1ah,(belU ((E3a.trans E7l).trans E5d) U7ah (nlt E3a.size g7s)),(((n8c.ext E7l).ext E5d).upd U7ah (q8l.ext E5d) (by decide)),(n4ah.upd U7ah (q8l.ext E5d) (by decide)),(nlt E3a.size g7s),q2bw,rfl⟩)
                      ·refine opA 8 rfl (by rfl) (Aq Bn) fun b8ah _ E7o g8s q9l=>dnrm ?_
                       refine Au 3 (by kernel_rfl) ?_
                       ·refine opC 3 rfl (by rfl) (Ae Lv (by simp only [sz,hx0a8,hx2a8];rfl)) (Gh (⟨(⟨x1.Man.Neg,m9a7⟩:Ag),x1.Exp⟩:Af) (⟨(⟨x2.Man.Neg,m1a8⟩:Ag),x2.Exp⟩:Af) A4 c5 A7 c8 _ (tbx E7o (tbx X8f hT)) (n9aq.ext E7o) (n0ar.ext E7o) r1c h1ar) ?_
                        rintro _ _ E2e ⟨A6a3,c7a3,rfl,n8a3⟩
                        refine dnrm ?_
                        refine Au 4 (by kernel_rfl) ?_
                        ·refine opC 4 rfl (by rfl) (Ae GP (by rfl)) (Dy x0 (⟨(⟨r1c.Man.Neg,(limbs r1c.Man.Abs)⟩:Ay),r1c.Exp⟩:Al) A1 c2 A6a3 c7a3 _ (tbx (E7o.trans E2e) (tbx X8f hT)) ((n3.ext X8f).ext (E7o.trans E2e)) n8a3 r7a h3a8) ?_
                         rintro _ _ E6d ⟨A9ah,c0ai,rfl,n1ai⟩
                         refine dnrm ?_
                         refine Au 5 (by kernel_rfl) ?_
                         ·refine opV 5 rfl (by rfl) (Aa rfl) (dnrm ?_)
                          refine Bi 6 7 (by kernel_rfl) ?_ ?_
                          ·refine opV 6 rfl (by rfl) (Am rfl rfl) (dnrm ?_)
                           refine Bi 7 9 (by kernel_rfl) ?_ ?_
                           ·refine opV 7 rfl (by rfl) (Am rfl rfl) (dnrm ?_)
                            refine Au 9 (by kernel_rfl) ?_
                            ·refine opK 9 rfl (by decide) (by rfl) AL rfl rfl ((q9l.ext E2e).ext E6d) rfl rfl rfl rfl (by simp only [SP0,SP1,S0,S1,Nat.reduceAdd];rfl) fun _ U2ai q3bw=>?_
                             exact AW (by kernel_rfl) (HJ750 _ _ ⟨A6a3,c7a3,A9ah,c0ai,b8ah,(belU ((E7o.trans E2e).trans E6d) U2ai g8s),((n8a3.ext E6d).upd U2ai ((q9l.ext E2e).ext E6d) (by decide)),(n1ai.upd U2ai ((q9l.ext E2e).ext E6d) (by decide)),g8s,q3bw,rfl⟩)
                           ·refine opK 9 rfl (by decide) (by rfl) AL rfl rfl ((q9l.ext E2e).ext E6d) rfl rfl rfl rfl (by simp only [SP0,SP1,S0,S1,Nat.reduceAdd];rfl) fun _ U3ai q4bw=>?_
                            refine Au 7 (by kernel_rfl) ?_
                            ·refine opV 7 rfl (by rfl) (Am rfl rfl) (dnrm ?_)
                             exact AW (by kernel_rfl) (HJ750 _ _ ⟨A6a3,c7a3,A9ah,c0ai,b8ah,(belU ((E7o.trans E2e).trans E6d) U3ai g8s),((n8a3.ext E6d).upd U3ai ((q9l.ext E2e).ext E6d) (by decide)),(n1ai.upd U3ai ((q9l.ext E2e).ext E6d) (by decide)),g8s,q4bw,rfl⟩)
                          ·refine opV 7 rfl (by rfl) (Am rfl rfl) (dnrm ?_)
                           refine Au 6 (by kernel_rfl) ?_
                           ·refine opV 6 rfl (by rfl) (Am rfl rfl) (dnrm ?_)
                            refine Au 9 (by kernel_rfl) ?_
                            ·refine opK 9 rfl (by decide) (by rfl) AL rfl rfl ((q9l.ext E2e).ext E6d) rfl rfl rfl rfl (by simp only [SP0,SP1,S0,S1,Nat.reduceAdd];rfl) fun _ U4ai q5bw=>?_
                             exact AW (by kernel_rfl) (HJ750 _ _ ⟨A6a3,c7a3,A9ah,c0ai,b8ah,(belU ((E7o.trans E2e).trans E6d) U4ai g8s),((n8a3.ext E6d).upd U4ai ((q9l.ext E2e).ext E6d) (by decide)),(n1ai.upd U4ai ((q9l.ext E2e).ext E6d) (by decide)),g8s,q5bw,rfl⟩)
end Go.Proofs

