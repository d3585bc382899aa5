import Derived.Test.YtabiobmfelafoaaGreatDoorGen1
namespace Go.Proofs
set_option linter.unusedVariables false
set_option linter.unusedSimpArgs false
set_option maxHeartbeats 4000000
open Go.RowKit Go.Sb Go.Proofs.Sbn
theorem HV (x0:Bool) (w:World) (hT:TB w) (r:Int) (hr:DV x0=some r) :
  Calls Tryz.prog 18 #[.bool x0] w (Ret rep_33 w r):=by
 unfold DV at hr
 go_enter Tryz.func18,Tryz.ntmps18
 refine wp_seq_k fun K1 h1=>Ae<|sV (Ac rfl) ?_
 refine Ad<|h1 _ _<|wp_seq_k fun K2 h2=>wp_seq_k fun K3 h3=>Ae<|sV (Aa rfl) ?_
 refine sb (FD rfl) fun z4 hz4=>?_
 refine nrm ?_
 refine Ad<|h3 _ _ ?_
 rcases bft z4 with e0a | e0a
 ·have p3a:=zP hz4 e0a
  have f4a:=ifP p3a hr
  refine wp_cond_true (Ai (evb rfl e0a))<|wp_seq_k fun K1a h1a=>Ae<|sV (Ac rfl) ?_
  refine Ad<|h1a _ _<|wp_ret ?_
  obtain rfl:=sj f4a
  exact fin rfl (Res.tmp rfl Res.nil) (Ak (Ext.refl _) rfl)
 ·have p5a:=zN hz4 e0a
  have f6a:=ifN p5a hr
  refine wp_cond_false (Ai (evb rfl e0a))<|wp_skip<|h2 _ _<|wp_seq_k fun K2a h2a=>Ae<|sV (Ac rfl) ?_
  refine Ad<|h2a _ _<|wp_ret ?_
  obtain rfl:=sj f6a
  exact fin rfl (Res.tmp rfl Res.nil) (Ak (Ext.refl _) rfl)
theorem c_sorobanref01_Gcd (x0:Nat) (x1:Nat) (A1:Option Addr) (c2:Nat) (A4:Option Addr) (c5:Nat) (w:World) (hT:TB w) (n3:RU w A1 c2 x0) (n6:RU w A4 c5 x1) (r:Nat) (hr:ET x0 x1=some r) :
  Calls Tryz.prog 145 #[.slice A1 (sz x0) c2,.slice A4 (sz x1) c5] w (Ret Jp w r):=by
 unfold ET at hr
 go_enter Tryz.func145,Tryz.ntmps145
 refine wp_seq_k fun K7 h7=>Ae<|sV (Ac rfl) ?_
 refine Ad<|h7 _ _<|wp_seq_k fun K8 h8=>?_
 obtain ⟨m3b,h2d,f3d⟩:=Ab hr
 refine BZ (fun l l' w'=>∃(A1b:Option Addr) (c2b:Nat) (t2a:Nat→Value),Ext w w'∧RU w' A1b c2b m3b∧l'=((((((((((((l.set 0 (.slice A1b (sz m3b) c2b)).set 1 (t2a 0)).set 5 (t2a 1)).set 6 (t2a 2)).set 7 (t2a 3)).set 8 (t2a 4)).set 9 (t2a 5)).set 10 (t2a 6)).set 11 (t2a 7)).set 12 (t2a 8)).set 13 (t2a 9)).set 14 (t2a 10))) ?_ ?_
 ·apply wp_block
  refine AR (fun l n1c l' w'=>∃(v5a:Nat) (v1a:Nat) (A6a:Option Addr) (c7a:Nat) (A3a:Option Addr) (c4a:Nat) (t0a:Nat→Value),Ext w w'∧RU w' A6a c7a v5a∧RU w' A3a c4a v1a∧Cc x0 x1 n1c v5a v1a=some m3b∧l'=((((((((((((l.set 0 (.slice A6a (sz v5a) c7a)).set 1 (.slice A3a (sz v1a) c4a)).set 5 (t0a 0)).set 6 (t0a 1)).set 7 (t0a 2)).set 8 (t0a 3)).set 9 (t0a 4)).set 10 (t0a 5)).set 11 (t0a 6)).set 12 (t0a 7)).set 13 (t0a 8)).set 14 (t0a 9))) 18446744073709551616 ?_ ?_ ?_
  ·exact ⟨x0,x1,A1,c2,A4,c5,(tk [uu,uu,uu,uu,uu,uu,uu,uu,uu,uu]),(Ext.refl _),n3,n6,h2d,(by simp only [S0,S1]<;>rfl)⟩
  ·rintro l' w' ⟨v5a,v1a,A6a,c7a,A3a,c4a,t0a,_,_,_,hz,_⟩
   exact nomatch hz
  ·rintro n1c ih4d l' w1 ⟨v5a,v1a,A6a,c7a,A3a,c4a,t0a,X4b,n2c,n3c,hr5b,hq'⟩ l'' hl
   rw [hq'] at hl
   clear hq'
   simp only [S0,S1] at hl
   subst hl
   unfold Cc at hr5b
   refine Ba<|wp_seq_k fun K4c h4c=>wp_seq_k fun K5c h5c=>Ae<|sV (Aa rfl) ?_
   refine sV (Ax AP rfl) ?_
   refine sb (Eu rfl rfl) fun z8a hz8a=>?_
   refine nrm ?_
   refine Ad<|h5c _ _ ?_
   rcases bft z8a with e9a | e9a
   ·have p5d:=zP hz8a e9a
    have f6d:=ifP p5d hr5b
    refine wp_cond_true (Ai (evb rfl e9a))<|wp_skip<|h4c _ _ ?_
    apply wp_block
    refine wp_seq_k fun K6c h6c=>Ae<|sV (Aa rfl) ?_
    refine sV (Aa rfl) ?_
    obtain ⟨r0b,h7d,f8d⟩:=Ab f6d
    refine sc (Af LH (by rfl)) (DY v5a v1a A6a c7a A3a c4a w1 (tbx X4b hT) n2c n3c r0b h7d) ?_
    rintro _ w2 E7c ⟨A9d,c0e,A6b,c7b,rfl,n3f,n1e⟩
    refine nrm ?_
    have X8c:=xtr X4b E7c
    refine AE JH fun b9c w3 E8b g2e q9b=>?_
    refine nrm ?_
    have g3e:=nlt X8c.size g2e
    have X4e:=xtr X8c E8b
    refine AA IN rfl rfl q9b rfl rfl rfl rfl (by simp only [SP0,SP1,S0,S1,Nat.reduceAdd];rfl) fun w4 U0c q5e=>?_
    have X6e:=belU X4e U0c g3e
    refine Ad<|h6c _ _<|wp_seq_k fun K0d h0d=>Ae<|sV (Aa rfl) ?_
    refine sV (Ac rfl) ?_
    refine Ad<|h0d _ _<|Ae<|sV (Ah (o':=1) JP rfl rfl) ?_
    refine sV (Ag CW rfl (Bx.cell q5e rfl)) ?_
    refine sV (Ac rfl) ?_
    refine Ad ?_
    have n7e:=((n3c.ext E7c).ext E8b).upd U0c q9b (by decide)
    have n8e:=(n1e.ext E8b).upd U0c q9b (by decide)
    exact ih4d _ _ ⟨v1a,r0b.R,A3a,c4a,A6b,c7b,(tk [.pointer (some ⟨b9c,0,none⟩),.slice A3a (sz v1a) c4a,.int .i64 (sz v1a:Int),.bool z8a,.slice A6a (sz v5a) c7a,.slice A3a (sz v1a) c4a,.agg #[.slice A9d (sz r0b.Q) c0e,.slice A6b (sz r0b.R) c7b],.slice A3a (sz v1a) c4a,.pointer (some ⟨b9c,1,none⟩),.slice A6b (sz r0b.R) c7b]),X6e,n7e,n8e,f8d,(by simp only [S0,S1]<;>rfl)⟩
   ·have p9e:=zN hz8a e9a
    have f0f:=ifN p9e hr5b
    refine wp_cond_false (Ai (evb rfl e9a))<|wp_exit ?_
    simp only [Exit.then,Exit.inBlock,↓reduceIte,Nat.reduceEqDiff]
    obtain rfl:=sj f0f
    exact ⟨_,rfl,A6a,c7a,(tk [.slice A3a (sz v1a) c4a,t0a 0,.slice A3a (sz v1a) c4a,.int .i64 (sz v1a:Int),.bool z8a,t0a 4,t0a 5,t0a 6,t0a 7,t0a 8,t0a 9]),X4b,n2c,(by simp only [S0,S1]<;>rfl)⟩
 ·rintro l' w1 ⟨A1b,c2b,t2a,X1f,n2f,hq'⟩ l'' hl
  rw [hq'] at hl
  clear hq'
  simp only [S0,S1] at hl
  subst hl
  refine h8 _ _<|wp_seq_k fun K1d h1d=>Ae<|sV (Aa rfl) ?_
  refine sV (Ac rfl) ?_
  refine Ad<|h1d _ _<|wp_ret ?_
  obtain rfl:=sj f3d
  exact fin rfl (Res.tmp rfl Res.nil) (Ak X1f ⟨A1b,c2b,rfl,n2f⟩)
theorem GM (w:World) (hT:TB w) (r:Nat) (hr:CM=some r) :
  Calls Tryz.prog 146 #[] w (Ret Jp w r):=by
 unfold CM at hr
 go_enter Tryz.func146,Tryz.ntmps146
 refine wp_seq_k fun K1 h1=>Ae<|sV (Ac rfl) ?_
 refine Ad<|h1 _ _<|wp_seq_k fun K2 h2=>Ae<|DI (vals:=[(0,.int .u32 1)]) (cs:=[.int .u32 1]) AP An FK (by rfl) (by decide) (by kernel_rfl) fun b3 w1 E4 g5 q6=>?_
 refine nrm ?_
 have n7:=RL.lit1 q6 (by decide)
 refine sV (Ac rfl) ?_
 refine Ad<|h2 _ _<|wp_ret ?_
 obtain rfl:=sj hr
 exact fin rfl (Res.tmp rfl Res.nil) (Ak E4 ⟨(some ⟨b3,0,none⟩),1,rfl,n7⟩)
theorem c_sorobanref03_Rounded (x0:Nat) (x1:Nat) (x2:Nat) (x3:Bool) (x4:Int) (A1:Option Addr) (c2:Nat) (A4:Option Addr) (c5:Nat) (A7:Option Addr) (c8:Nat) (w:World) (hT:TB w) (n3:RU w A1 c2 x0) (n6:RU w A4 c5 x1) (n9:RU w A7 c8 x2) (r:Nat) (hr:DJ x0 x1 x2 x3 x4=some r) :
  Calls Tryz.prog 212 #[.slice A1 (sz x0) c2,.slice A4 (sz x1) c5,.slice A7 (sz x2) c8,.bool x3,.int .i64 x4] w (Ret Jp w r):=by
 unfold DJ at hr
 go_enter Tryz.func212,Tryz.ntmps212
 refine wp_seq_k fun K6h h6h=>Ae<|sV (Ac rfl) ?_
 refine Ad<|h6h _ _<|wp_seq_k fun K7h h7h=>wp_seq_k fun K8h h8h=>Ae<|sV (Aa rfl) ?_
 refine sV (Ax AP rfl) ?_
 refine sb (BE rfl rfl) fun z8b hz8b=>?_
 refine nrm ?_
 refine Ad<|h8h _ _ ?_
 rcases bft z8b with e3b | e3b
 ·have p7o:=zP hz8b e3b
  have f8o:=ifP p7o hr
  refine wp_cond_true (Ai (evb rfl e3b))<|wp_seq_k fun K9h h9h=>Ae<|sV (Aa rfl) ?_
  refine sV (Ac rfl) ?_
  refine Ad<|h9h _ _<|wp_ret ?_
  obtain rfl:=sj f8o
  exact fin rfl (Res.tmp rfl Res.nil) (Ak (Ext.refl _) ⟨A1,c2,rfl,n3⟩)
 ·have p9o:=zN hz8b e3b
  have f0p:=ifN p9o hr
  refine wp_cond_false (Ai (evb rfl e3b))<|wp_skip<|h7h _ _<|wp_seq_k fun K0i h0i=>Ae<|sV (Aa rfl) ?_
  refine sb (BE rfl rfl) fun z9b hz9b=>?_
  refine nrm ?_
  refine sV (Aa rfl) ?_
  obtain ⟨m1i,h2i,f1p⟩:=Ab f0p
  refine BB 6 (fun l l' w'=>∃(t3i:Value) (t4i:Value),w=w'∧l'=(((l.set 20 t3i).set 21 t4i).set 22 (.bool m1i))) ?_ ?_
  ·intro HJ39
   rcases bft z9b with e5a | e5a
   ·have p2p:=zP hz9b e5a
    have f3p:=ifP p2p h2i
    refine sV (Aa rfl) ?_ (hw:=wgT rfl e5a)
    refine sb (FD rfl) ?_ (hw:=wgT rfl e5a)
    intro z3c hz3c
    refine nrm ?_
    refine sV (Aw (evb rfl e5a) rfl) ?_
    obtain rfl:z3c=decide (¬(x3=true)):=bz hz3c
    obtain rfl:=sj f3p
    exact HJ39 _ _ ⟨(.bool x3),(.bool (decide (¬(x3=true)))),rfl,(by simp only [S0,S1]<;>rfl)⟩
   ·have p4p:=zN hz9b e5a
    have f5p:=ifN p4p h2i
    refine sP ?_ (hw:=wgF rfl e5a)
    refine sP ?_ (hw:=wgF rfl e5a)
    refine sV (AB (evb rfl e5a) rfl) ?_
    obtain rfl:=sj f5p
    exact HJ39 _ _ ⟨uu,uu,rfl,(by simp only [S0,S1]<;>rfl)⟩
  ·rintro l' _ ⟨t3i,t4i,rfl,hq'⟩ l'' hl
   rw [hq'] at hl
   clear hq'
   simp only [S0,S1] at hl
   subst hl
   refine sV (Aa rfl) ?_
   obtain ⟨m6p,h5i,f7p⟩:=Ab f1p
   refine BB 13 (fun l l' w'=>∃(t6i:Value) (t7i:Value) (t8i:Value) (t9i:Value) (t0j:Value),w=w'∧l'=((((((l.set 24 t6i).set 25 t7i).set 26 t8i).set 27 t9i).set 28 t0j).set 29 (.bool m6p))) ?_ ?_
   ·intro HJ77
    rcases bft m1i with e2a | e2a
    ·have p8p:=e2a
     have f9p:=ifP p8p h5i
     refine sP ?_ (hw:=wgF rfl e2a)
     refine sP ?_ (hw:=wgF rfl e2a)
     refine sP ?_ (hw:=wgF rfl e2a)
     refine sP ?_
     refine sP ?_ (hw:=wgF rfl e2a)
     refine sV (Aw (evb rfl e2a) rfl) ?_
     obtain rfl:=sj f9p
     exact HJ77 _ _ ⟨uu,uu,uu,uu,uu,rfl,(by simp only [S0,S1]<;>rfl)⟩
    ·have p0q:=bF e2a
     have f1q:=ifN p0q h5i
     refine sV (Aa rfl) ?_ (hw:=wgT rfl e2a)
     refine sb (BE rfl rfl) ?_ (hw:=wgT rfl e2a)
     intro z8a hz8a
     refine nrm ?_
     refine sV (Aa rfl) ?_ (hw:=wgT rfl e2a)
     obtain ⟨m1j,h2j,f2q⟩:=Ab f1q
     refine BB 12 (fun l l' w'=>∃(t4c:Value),w=w'∧l'=((l.set 27 t4c).set 28 (.bool m1j))) ?_ ?_
     ·intro HJ94
      rcases bft z8a with e7a | e7a
      ·have p3q:=zP hz8a e7a
       have f4q:=ifP p3q h2j
       refine sV (Aa rfl) ?_ (hw:=wgT rfl e7a)
       refine sV (Aw (evb rfl e7a) rfl) ?_ (hw:=wgT rfl e2a)
       obtain rfl:=sj f4q
       exact HJ94 _ _ ⟨(.bool x3),rfl,(by simp only [S0,S1]<;>rfl)⟩
      ·have p5q:=zN hz8a e7a
       have f6q:=ifN p5q h2j
       refine sP ?_ (hw:=wgF rfl e7a)
       refine sV (AB (evb rfl e7a) rfl) ?_ (hw:=wgT rfl e2a)
       obtain rfl:=sj f6q
       exact HJ94 _ _ ⟨uu,rfl,(by simp only [S0,S1]<;>rfl)⟩
     ·rintro l' _ ⟨t4c,rfl,hq'⟩ l'' hl
      rw [hq'] at hl
      clear hq'
      simp only [S0,S1] at hl
      subst hl
      refine sV (AB (evb rfl e2a) rfl) ?_
      obtain rfl:=sj f2q
      exact HJ77 _ _ ⟨(.int .i64 x4),(.bool z8a),(.bool z8a),t4c,(.bool m1j),rfl,(by simp only [S0,S1]<;>rfl)⟩
   ·rintro l' _ ⟨t6i,t7i,t8i,t9i,t0j,rfl,hq'⟩ l'' hl
    rw [hq'] at hl
    clear hq'
    simp only [S0,S1] at hl
    subst hl
    refine sV (Ac rfl) ?_
    refine Ad<|h0i _ _<|wp_seq_k fun K3j h3j=>wp_seq_k fun K4j h4j=>Ae<|sV (Aa rfl) ?_
    refine sb (BE rfl rfl) fun z0c hz0c=>?_
    refine nrm ?_
    refine sV (Aa rfl) ?_
    obtain ⟨m5j,h6j,f7q⟩:=Ab f7p
    refine BB 6 (fun l l' w'=>∃(t7j:Value) (t8j:Value),w=w'∧l'=(((l.set 33 t7j).set 34 t8j).set 35 (.bool m5j))) ?_ ?_
    ·intro HJ115
     rcases bft z0c with e6a | e6a
     ·have p8q:=zP hz0c e6a
      have f9q:=ifP p8q h6j
      refine sP ?_ (hw:=wgF rfl e6a)
      refine sP ?_ (hw:=wgF rfl e6a)
      refine sV (Aw (evb rfl e6a) rfl) ?_
      obtain rfl:=sj f9q
      exact HJ115 _ _ ⟨uu,uu,rfl,(by simp only [S0,S1]<;>rfl)⟩
     ·have p0r:=zN hz0c e6a
      have f1r:=ifN p0r h6j
      refine sV (Aa rfl) ?_ (hw:=wgT rfl e6a)
      refine sb (BE rfl rfl) ?_ (hw:=wgT rfl e6a)
      intro z5c hz5c
      refine nrm ?_
      refine sV (AB (evb rfl e6a) rfl) ?_
      obtain rfl:z5c=decide (x4=2):=bz hz5c
      obtain rfl:=sj f1r
      exact HJ115 _ _ ⟨(.int .i64 x4),(.bool (decide (x4=2))),rfl,(by simp only [S0,S1]<;>rfl)⟩
    ·rintro l' _ ⟨t7j,t8j,rfl,hq'⟩ l'' hl
     rw [hq'] at hl
     clear hq'
     simp only [S0,S1] at hl
     subst hl
     refine Ad<|h4j _ _ ?_
     obtain ⟨m9j,h0k,f1k⟩:=Ab f7q
     refine BZ (fun l l' w'=>∃(t2k:Value) (t3k:Value) (t4k:Value) (t5k:Value) (t6k:Value) (t7k:Value) (t8k:Value) (t9k:Value) (t0l:Value) (t1l:Value) (t2l:Value) (t3l:Value) (t4l:Value) (t5l:Value) (t6l:Value) (t7l:Value) (t8l:Value) (t9l:Value) (t0m:Value) (t1m:Value) (t2m:Value) (t3m:Value) (t4m:Value) (t5m:Value) (t6m:Value) (t7m:Value) (t8m:Value) (t9m:Value),UpdS [] w w'∧l'=(((((((((((((((((((((((((((((l.set 11 (.bool m9j)).set 12 t2k).set 36 t3k).set 37 t4k).set 38 t5k).set 39 t6k).set 40 t7k).set 41 t8k).set 42 t9k).set 43 t0l).set 44 t1l).set 45 t2l).set 46 t3l).set 47 t4l).set 48 t5l).set 49 t6l).set 50 t7l).set 51 t8l).set 52 t9l).set 53 t0m).set 54 t1m).set 55 t2m).set 56 t3m).set 57 t4m).set 58 t5m).set 59 t6m).set 60 t7m).set 61 t8m).set 62 t9m)) ?_ ?_
     ·rcases bft m5j with e4b | e4b
      ·have p2r:=e4b
       have f3r:=ifP p2r h0k
       refine wp_cond_true (Ai (evb rfl e4b))<|wp_seq_k fun K0n h0n=>Ae<|sV (Aa rfl) ?_
       refine sV (Aa rfl) ?_
       obtain ⟨r6c,h4r,f5r⟩:=Ab f3r
       refine sc (Af NK (by rfl)) (FG x1 x1 A4 c5 A4 c5 w hT n6 n6 r6c h4r) ?_
       rintro _ w1 E1c ⟨A1n,c2n,rfl,n6r⟩
       refine nrm ?_
       refine sV (Aa rfl) ?_
       obtain ⟨r5b,h7r,f8r⟩:=Ab f5r
       refine sc (Af MG (by rfl)) (FL r6c x2 A1n c2n A7 c8 w1 (tbx E1c hT) n6r (n9.ext E1c) r5b h7r) ?_
       rintro _ w2 E3n rfl
       refine nrm ?_
       have X9r:=xtr E1c E3n
       refine sV (Ac rfl) ?_
       refine Ad<|h0n _ _<|Ae<|sV (Aa rfl) ?_
       refine sb (Eu rfl rfl) fun z9a hz9a=>?_
       refine nrm ?_
       refine sV (Aa rfl) ?_
       obtain ⟨m4n,h5n,f0s⟩:=Ab f8r
       refine BB 22 (fun l l' w'=>∃(t7c:Value) (t8c:Value) (t9c:Value) (t0d:Value) (t1d:Value) (t2d:Value) (t3d:Value) (t4d:Value) (t5d:Value) (t6d:Value) (t7d:Value) (t8d:Value) (t9d:Value) (t0e:Value) (t1e:Value) (t2e:Value) (t3e:Value) (t4e:Value),w2=w'∧l'=(((((((((((((((((((l.set 44 t7c).set 45 t8c).set 46 t9c).set 47 t0d).set 48 t1d).set 49 t2d).set 50 t3d).set 51 t4d).set 52 t5d).set 53 t6d).set 54 t7d).set 55 t8d).set 56 t9d).set 57 t0e).set 58 t1e).set 59 t2e).set 60 t3e).set 61 t4e).set 62 (.bool m4n))) ?_ ?_
       ·intro HJ1015
        rcases bft z9a with e3a | e3a
        ·have p1s:=zP hz9a e3a
         have f2s:=ifP p1s h5n
         refine sP ?_ (hw:=wgF rfl e3a)
         refine sP ?_ (hw:=wgF rfl e3a)
         refine sP ?_ (hw:=wgF rfl e3a)
         refine sP ?_
         refine sP ?_
         refine sP ?_
         refine sP ?_
         refine sP ?_
         refine sP ?_
         refine sP ?_
         refine sP ?_
         refine sP ?_
         refine sP ?_
         refine sP ?_
         refine sP ?_
         refine sP ?_
         refine sP ?_
         refine sP ?_ (hw:=wgF rfl e3a)
         refine sV (Aw (evb rfl e3a) rfl) ?_
         obtain rfl:=sj f2s
         exact HJ1015 _ _ ⟨uu,uu,uu,uu,uu,uu,uu,uu,uu,uu,uu,uu,uu,uu,uu,uu,uu,uu,rfl,(by simp only [S0,S1]<;>rfl)⟩
        ·have p3s:=zN hz9a e3a
         have f4s:=ifN p3s h5n
         refine sV (Aa rfl) ?_ (hw:=wgT rfl e3a)
         refine sb (BE rfl rfl) ?_ (hw:=wgT rfl e3a)
         intro z0b hz0b
         refine nrm ?_
         refine sV (Aa rfl) ?_ (hw:=wgT rfl e3a)
         obtain ⟨m6n,h7n,f5s⟩:=Ab f4s
         refine BB 21 (fun l l' w'=>∃(t5e:Value) (t6e:Value) (t7e:Value) (t8e:Value) (t9e:Value) (t0f:Value) (t1f:Value) (t2f:Value) (t3f:Value) (t4f:Value) (t5f:Value) (t6f:Value) (t7f:Value) (t8f:Value),w2=w'∧l'=(((((((((((((((l.set 47 t5e).set 48 t6e).set 49 t7e).set 50 t8e).set 51 t9e).set 52 t0f).set 53 t1f).set 54 t2f).set 55 t3f).set 56 t4f).set 57 t5f).set 58 t6f).set 59 t7f).set 60 t8f).set 61 (.bool m6n))) ?_ ?_
         ·intro HJ1157
          rcases bft z0b with e4a | e4a
          ·have p6s:=zP hz0b e4a
           have f7s:=ifP p6s h7n
           refine sV (Aa rfl) ?_ (hw:=wgT rfl e4a)
           refine sb (BE rfl rfl) ?_ (hw:=wgT rfl e4a)
           intro z1b hz1b
           refine nrm ?_
           refine sV (Aa rfl) ?_ (hw:=wgT rfl e4a)
           obtain ⟨m8n,h9n,f8s⟩:=Ab f7s
           refine BB 20 (fun l l' w'=>∃(t9f:Value) (t0g:Value) (t1g:Value) (t2g:Value) (t3g:Value) (t4g:Value) (t5g:Value) (t6g:Value) (t7g:Value) (t8g:Value),w2=w'∧l'=(((((((((((l.set 50 t9f).set 51 t0g).set 52 t1g).set 53 t2g).set 54 t3g).set 55 t4g).set 56 t5g).set 57 t6g).set 58 t7g).set 59 t8g).set 60 (.bool m8n))) ?_ ?_
           ·intro HJ1226
            rcases bft z1b with e0a | e0a
            ·have p9s:=zP hz1b e0a
             have f0t:=ifP p9s h9n
             refine sP ?_ (hw:=wgF rfl e0a)
             refine sP ?_ (hw:=wgF rfl e0a)
             refine sP ?_ (hw:=wgF rfl e0a)
             refine sP ?_ (hw:=wgF rfl e0a)
             refine sP ?_
             refine sP ?_
             refine sP ?_
             refine sP ?_
             refine sP ?_
             refine sP ?_ (hw:=wgF rfl e0a)
             refine sV (Aw (evb rfl e0a) rfl) ?_ (hw:=wgT rfl e4a)
             obtain rfl:=sj f0t
             exact HJ1226 _ _ ⟨uu,uu,uu,uu,uu,uu,uu,uu,uu,uu,rfl,(by simp only [S0,S1]<;>rfl)⟩
            ·have p1t:=zN hz1b e0a
             have f2t:=ifN p1t h9n
             refine sV (Aa rfl) ?_ (hw:=wgT rfl e0a)
             refine sV (Ax AP rfl) ?_ (hw:=wgT rfl e0a)
             refine sb (Eu rfl rfl) ?_ (hw:=wgT rfl e0a)
             intro z2b hz2b
             refine nrm ?_
             refine sV (Aa rfl) ?_ (hw:=wgT rfl e0a)
             obtain ⟨m0o,h1o,f3t⟩:=Ab f2t
             refine BB 19 (fun l l' w'=>∃(t9g:Value) (t0h:Value) (t1h:Value) (t2h:Value) (t3h:Value),w2=w'∧l'=((((((l.set 54 t9g).set 55 t0h).set 56 t1h).set 57 t2h).set 58 t3h).set 59 (.bool m0o))) ?_ ?_
             ·intro HJ1258
              rcases bft z2b with e1a | e1a
              ·have p4t:=zP hz2b e1a
               have f5t:=ifP p4t h1o
               refine sV (Aa rfl) ?_ (hw:=wgT rfl e1a)
               obtain ⟨u6b,h6t,f7t⟩:=Ab f5t
               obtain ⟨bb1267,oo1268,hA8t,ia9t,ib0u,hc1270⟩:=RL.nth (n3.ext X9r) h6t
               refine sV (Ar AP An rfl rfl hA8t ia9t ib0u) ?_ (hw:=wgT rfl e1a)
               refine sV (Ag AN rfl hc1270) ?_ (hw:=wgT rfl e1a)
               refine sV (HH (c:=u6b.tmod 2) (by decide) rfl rfl rfl) ?_ (hw:=wgT rfl e1a)
               refine sb (BE rfl rfl) ?_ (hw:=wgT rfl e1a)
               intro z4h hz4h
               refine nrm ?_
               refine sV (Aw (evb rfl e1a) rfl) ?_ (hw:=wgT rfl e0a)
               obtain rfl:z4h=decide ((u6b.tmod 2)=1):=bz hz4h
               obtain rfl:=sj f7t
               exact HJ1258 _ _ ⟨(.slice A1 (sz x0) c2),(.pointer (some ⟨bb1267,oo1268+(0:Int).toNat,none⟩)),(.int .u32 u6b),(.int .u32 (u6b.tmod 2)),(.bool (decide ((u6b.tmod 2)=1))),rfl,(by simp only [S0,S1]<;>rfl)⟩
              ·have p1u:=zN hz2b e1a
               have f2u:=ifN p1u h1o
               refine sP ?_ (hw:=wgF rfl e1a)
               refine sP ?_ (hw:=wgF rfl e1a)
               refine sP ?_ (hw:=wgF rfl e1a)
               refine sP ?_ (hw:=wgF rfl e1a)
               refine sP ?_ (hw:=wgF rfl e1a)
               refine sV (AB (evb rfl e1a) rfl) ?_ (hw:=wgT rfl e0a)
               obtain rfl:=sj f2u
               exact HJ1258 _ _ ⟨uu,uu,uu,uu,uu,rfl,(by simp only [S0,S1]<;>rfl)⟩
             ·rintro l' _ ⟨t9g,t0h,t1h,t2h,t3h,rfl,hq'⟩ l'' hl
              rw [hq'] at hl
              clear hq'
              simp only [S0,S1] at hl
              subst hl
              refine sV (AB (evb rfl e0a) rfl) ?_ (hw:=wgT rfl e4a)
              obtain rfl:=sj f3t
              exact HJ1226 _ _ ⟨(.slice A1 (sz x0) c2),(.int .i64 (sz x0:Int)),(.bool z2b),(.bool z2b),t9g,t0h,t1h,t2h,t3h,(.bool m0o),rfl,(by simp only [S0,S1]<;>rfl)⟩
           ·rintro l' _ ⟨t9f,t0g,t1g,t2g,t3g,t4g,t5g,t6g,t7g,t8g,rfl,hq'⟩ l'' hl
            rw [hq'] at hl
            clear hq'
            simp only [S0,S1] at hl
            subst hl
            refine sV (Aw (evb rfl e4a) rfl) ?_ (hw:=wgT rfl e3a)
            obtain rfl:=sj f8s
            exact HJ1157 _ _ ⟨(.int .i64 x4),(.bool z1b),(.bool z1b),t9f,t0g,t1g,t2g,t3g,t4g,t5g,t6g,t7g,t8g,(.bool m8n),rfl,(by simp only [S0,S1]<;>rfl)⟩
          ·have p3u:=zN hz0b e4a
           have f4u:=ifN p3u h7n
           refine sP ?_ (hw:=wgF rfl e4a)
           refine sP ?_ (hw:=wgF rfl e4a)
           refine sP ?_ (hw:=wgF rfl e4a)
           refine sP ?_
           refine sP ?_
           refine sP ?_
           refine sP ?_
           refine sP ?_
           refine sP ?_
           refine sP ?_
           refine sP ?_
           refine sP ?_
           refine sP ?_
           refine sP ?_ (hw:=wgF rfl e4a)
           refine sV (AB (evb rfl e4a) rfl) ?_ (hw:=wgT rfl e3a)
           obtain rfl:=sj f4u
           exact HJ1157 _ _ ⟨uu,uu,uu,uu,uu,uu,uu,uu,uu,uu,uu,uu,uu,uu,rfl,(by simp only [S0,S1]<;>rfl)⟩
         ·rintro l' _ ⟨t5e,t6e,t7e,t8e,t9e,t0f,t1f,t2f,t3f,t4f,t5f,t6f,t7f,t8f,rfl,hq'⟩ l'' hl
          rw [hq'] at hl
          clear hq'
          simp only [S0,S1] at hl
          subst hl
          refine sV (AB (evb rfl e3a) rfl) ?_
          obtain rfl:=sj f5s
          exact HJ1015 _ _ ⟨(.int .i64 r5b),(.bool z0b),(.bool z0b),t5e,t6e,t7e,t8e,t9e,t0f,t1f,t2f,t3f,t4f,t5f,t6f,t7f,t8f,(.bool m6n),rfl,(by simp only [S0,S1]<;>rfl)⟩
       ·rintro l' _ ⟨t7c,t8c,t9c,t0d,t1d,t2d,t3d,t4d,t5d,t6d,t7d,t8d,t9d,t0e,t1e,t2e,t3e,t4e,rfl,hq'⟩ l'' hl
        rw [hq'] at hl
        clear hq'
        simp only [S0,S1] at hl
        subst hl
        refine sV (Ac rfl) ?_
        refine Ad ?_
        obtain rfl:=sj f0s
        exact ⟨_,rfl,(.int .i64 r5b),(.slice A4 (sz x1) c5),(.slice A4 (sz x1) c5),(.slice A1n (sz r6c) c2n),(.slice A7 (sz x2) c8),(.int .i64 r5b),(.int .i64 r5b),(.bool z9a),(.bool z9a),t7c,t8c,t9c,t0d,t1d,t2d,t3d,t4d,t5d,t6d,t7d,t8d,t9d,t0e,t1e,t2e,t3e,t4e,(.bool m4n),(((UpdS.refl _ _).ext E1c).ext E3n),(by simp only [S0,S1]<;>rfl)⟩
      ·have p5u:=bF e4b
       have f6u:=ifN p5u h0k
       refine wp_cond_false (Ai (evb rfl e4b))<|wp_skip ?_
       obtain rfl:=sj f6u
       exact ⟨_,rfl,uu,uu,uu,uu,uu,uu,uu,uu,uu,uu,uu,uu,uu,uu,uu,uu,uu,uu,uu,uu,uu,uu,uu,uu,uu,uu,uu,uu,(UpdS.refl _ _),(by simp only [S0,S1]<;>rfl)⟩
     ·rintro l' w1 ⟨t2k,t3k,t4k,t5k,t6k,t7k,t8k,t9k,t0l,t1l,t2l,t3l,t4l,t5l,t6l,t7l,t8l,t9l,t0m,t1m,t2m,t3m,t4m,t5m,t6m,t7m,t8m,t9m,U7u,hq'⟩ l'' hl
      rw [hq'] at hl
      clear hq'
      simp only [S0,S1] at hl
      subst hl
      have X2c:=HU (Ext.refl _) U7u (Nat.le_refl _) al0
      refine h3j _ _<|wp_seq_k fun K2o h2o=>wp_seq_k fun K3o h3o=>Ae<|sV (Aa rfl) ?_
      refine Ad<|h3o _ _ ?_
      rcases bft m9j with e7b | e7b
      ·have p8u:=e7b
       have f9u:=ifP p8u f1k
       refine wp_cond_true (Ai (evb rfl e7b))<|wp_seq_k fun K4o h4o=>Ae<|sV (Aa rfl) ?_
       obtain ⟨r5o,h0v,f1v⟩:=Ab f9u
       refine sc (Af Mg (by rfl)) (GM w1 (tbx X2c hT)  r5o h0v) ?_
       rintro _ w2 E2v ⟨A3v,c4v,rfl,n5v⟩
       refine nrm ?_
       have X5h:=xtr X2c E2v
       obtain ⟨r6v,h7v,f8v⟩:=Ab f1v
       refine sc (Af NK (by rfl)) (FG x0 r5o A1 c2 A3v c4v w2 (tbx X5h hT) (n3.ext X5h) n5v r6v h7v) ?_
       rintro _ w3 E9v ⟨A0w,c1w,rfl,n2w⟩
       refine nrm ?_
       have X3w:=xtr X5h E9v
       refine sV (Ac rfl) ?_
       refine Ad<|h4o _ _<|wp_ret ?_
       obtain rfl:=sj f8v
       exact fin rfl (Res.tmp rfl Res.nil) (Ak X3w ⟨A0w,c1w,rfl,n2w⟩)
      ·have p4w:=bF e7b
       have f5w:=ifN p4w f1k
       refine wp_cond_false (Ai (evb rfl e7b))<|wp_skip<|h2o _ _<|wp_seq_k fun K6o h6o=>Ae<|sV (Aa rfl) ?_
       refine sV (Ac rfl) ?_
       refine Ad<|h6o _ _<|wp_ret ?_
       obtain rfl:=sj f5w
       exact fin rfl (Res.tmp rfl Res.nil) (Ak X2c ⟨A1,c2,rfl,(n3.ext X2c)⟩)
theorem Gw (x0:Nat) (x1:Nat) (x2:Nat) (x3:Bool) (x4:Int) (x5:Int) (A1:Option Addr) (c2:Nat) (A4:Option Addr) (c5:Nat) (A7:Option Addr) (c8:Nat) (w:World) (hT:TB w) (n3:RU w A1 c2 x0) (n6:RU w A4 c5 x1) (n9:RU w A7 c8 x2) (r:Al) (hr:CB x0 x1 x2 x3 x4 x5=some r) :
  Calls Tryz.prog 150 #[.slice A1 (sz x0) c2,.slice A4 (sz x1) c5,.slice A7 (sz x2) c8,.bool x3,.int .i64 x4,.int .i64 x5] w (Ret Kf w r):=by
 unfold CB at hr
 go_enter Tryz.func150,Tryz.ntmps150
 refine wp_seq_k fun K1a h1a=>Ae<|AE FR fun b3d w1 E0a g2b q3b=>?_
 refine nrm ?_
 refine Ad<|h1a _ _<|wp_seq_k fun K2a h2a=>Ae<|sV (Aa rfl) ?_
 refine sV (Aa rfl) ?_
 refine sV (Aa rfl) ?_
 refine sV (Aa rfl) ?_
 refine sV (Aa rfl) ?_
 refine sV (Aa rfl) ?_
 obtain ⟨r3a,h4b,f5b⟩:=Ab hr
 refine sc (Af en_212 (by rfl)) (c_sorobanref03_Rounded x0 x1 x2 x3 x4 A1 c2 A4 c5 A7 c8 w1 (tbx E0a hT) (n3.ext E0a) (n6.ext E0a) (n9.ext E0a) r3a h4b) ?_
 rintro _ w2 E4a ⟨A6b,c7b,rfl,n8b⟩
 refine nrm ?_
 have X5a:=xtr E0a E4a
 obtain ⟨r6a,h9b,f0c⟩:=Ab f5b
 refine sc (Af Md (by rfl)) (FY x3 r3a A6b c7b w2 (tbx X5a hT) n8b r6a h9b) ?_
 rintro _ w3 E7a ⟨A1c,c2c,rfl,n3c⟩
 refine nrm ?_
 have X8a:=xtr X5a E7a
 refine sV (Aa rfl) ?_
 obtain ⟨r4c,h5c,f6c⟩:=Ab f0c
 refine sc (Af OH (by rfl)) (Ip r6a x5 A1c c2c w3 (tbx X8a hT) n3c r4c h5c) ?_
 rintro _ w4 E9a ⟨A7c,c8c,rfl,n9c⟩
 refine nrm ?_
 have X0d:=xtr X8a E9a
 have q0b:=((q3b.ext E4a).ext E7a).ext E9a
 refine AA EI rfl rfl q0b rfl rfl rfl rfl (by simp only [SP0,SP1,S0,S1,Nat.reduceAdd];rfl) fun w5 U1b q1d=>?_
 have X2d:=belU X0d U1b g2b
 refine Ad<|h2a _ _<|wp_ret ?_
 obtain rfl:=sj f6c
 exact fin rfl (Res.cellN rfl BG q1d rfl rfl Res.nil) (Ak X2d ⟨A7c,c8c,rfl,(n9c.upd U1b q0b (by decide))⟩)
theorem c_sorobanref04_FromRat (x0:Ha) (x1:Int) (x2:Int) (A1:Option Addr) (c2:Nat) (A4:Option Addr) (c5:Nat) (w:World) (hT:TB w) (n3:RU w A1 c2 x0.Num.Abs) (n6:RU w A4 c5 x0.Den) (r:Al) (hr:Bn x0 x1 x2=some r) :
  Calls Tryz.prog 59 #[.agg #[.bool x0.Num.Neg,.slice A1 (sz x0.Num.Abs) c2,.slice A4 (sz x0.Den) c5],.int .i64 x1,.int .i64 x2] w (Ret Kf w r):=by
 unfold Bn at hr
 go_enter Tryz.func59,Tryz.ntmps59
 refine wp_seq_k fun K7 h7=>Ae<|Ch rfl rfl fun b8 w1 E9 g5e q6a=>?_
 refine nrm ?_
 refine AE FR fun b9c w2 E3a g0d q8b=>?_
 refine nrm ?_
 have g9b:=nlt E9.size g0d
 have X1d:=xtr E9 E3a
 refine Ad<|h7 _ _<|wp_seq_k fun K2d h2d=>wp_seq_k fun K3d h3d=>Ae<|sV (Ah (o':=0) GF rfl rfl) ?_
 refine sV (Ah (o':=1) Dn rfl rfl) ?_
 refine sV (Ag CW rfl (Bx.cell (q6a.ext E3a) rfl)) ?_
 refine sV (Ax AP rfl) ?_
 refine sb (BE rfl rfl) fun z0c hz0c=>?_
 refine nrm ?_
 refine Ad<|h3d _ _ ?_
 rcases bft z0c with e2b | e2b
 ·have p1j:=zP hz0c e2b
  have f2j:=ifP p1j hr
  refine wp_cond_true (Ai (evb rfl e2b))<|wp_seq_k fun K6e h6e=>Ae<|sV (Bi (vals:=[]) (cells:=[.bool false,.slice none 0 0,.int .i64 0]) (by rfl) (by kernel_rfl)) ?_
  refine AA EI rfl rfl q8b rfl rfl rfl rfl (by simp only [SP0,SP1,S0,S1,Nat.reduceAdd];rfl) fun w3 U3j q4j=>?_
  have F5j:=belU E3a U3j g0d
  have X6j:=xtr E9 F5j
  refine Ad<|h6e _ _<|wp_ret ?_
  obtain rfl:=sj f2j
  exact fin rfl (Res.cellN rfl BG q4j rfl rfl Res.nil) (Ak X6j ⟨none,0,rfl,(RU.nil _)⟩)
 ·have p7j:=zN hz0c e2b
  have f8j:=ifN p7j hr
  refine wp_cond_false (Ai (evb rfl e2b))<|wp_skip<|h2d _ _<|wp_seq_k fun K7e h7e=>EE [] 11 mo rfl fun w3 E8a S4d=>have X5d:=xtr X1d E8a;dA 0 rfl (fun _=>Ah (o':=0) GF rfl rfl) ?_
  refine dA 1 rfl (fun _=>Ah (o':=1) Dn rfl rfl) ?_
  refine dV 2 rfl (fun _ hw=>Ag CW rfl (Bx.cell (((q6a.ext E3a).ext E8a).ext hw) rfl)) S4d ?_
  refine dA 4 rfl (fun _=>Ah (o':=2) GZ rfl rfl) ?_
  refine dV 5 rfl (fun _ hw=>Ag CW rfl (Bx.cell (((q6a.ext E3a).ext E8a).ext hw) rfl)) S4d ?_
  refine dA 8 rfl (fun _=>Aa rfl) ?_
  obtain ⟨r0a,h9j,f0k⟩:=Ab f8j
  refine dc 3 rfl (by kernel_rfl) (by rfl) (Af JJ (by rfl)) (CD x0.Num.Abs A1 c2 w3 (tbx X5d hT) (n3.ext X5d) r0a h9j) ?_
  rintro _ w4 E3b rfl
  refine dnrm ?_
  have X6d:=xtr X5d E3b
  have S1k:=S4d.trans E3b
  obtain ⟨r1a,h2k,f3k⟩:=Ab f0k
  refine dc 6 rfl (by kernel_rfl) (by rfl) (Af JJ (by rfl)) (CD x0.Den A4 c5 w4 (tbx X6d hT) (n6.ext X6d) r1a h2k) ?_
  rintro _ w5 E4b rfl
  refine dnrm ?_
  have X7d:=xtr X6d E4b
  have S8q:=S1k.trans E4b
  refine dA 7 rfl (fun _=>AV (c:=wi64 (r0a - r1a)) rfl rfl rfl) ?_
  refine dA 9 rfl (fun _=>AV (c:=wi64 ((wi64 (r0a - r1a)) - x1)) rfl rfl rfl) ?_
  refine dA 10 rfl (fun _=>Ac rfl) ?_
  refine Dm (by kernel_rfl) ?_
  refine h7e _ _ ?_
  apply wp_block
  refine HQ<|Ba ?_
  apply wp_block
  refine wp_seq_k fun K8e h8e=>Ae<|sV (Ah (o':=0) GF rfl rfl) ?_
  refine sV (Ah (o':=1) Dn rfl rfl) ?_
  have q1c:=(((q6a.ext E3a).ext E8a).ext E3b).ext E4b
  refine sV (Ag CW rfl (Bx.cell q1c rfl)) ?_
  refine sV (Aa rfl) ?_
  refine sV (AV (c:=wi64 (0 - (wi64 ((wi64 (r0a - r1a)) - x1)))) rfl rfl rfl) ?_
  refine sV (JZ rfl rfl) ?_
  obtain ⟨r9e,h4k,f5k⟩:=Ab f3k
  refine sc (Af Jr (by rfl)) (Ds x0.Num.Abs (max 0 (wi64 (0 - (wi64 ((wi64 (r0a - r1a)) - x1))))) A1 c2 w5 (tbx X7d hT) (n3.ext X7d) r9e h4k) ?_
  rintro _ w6 E9a ⟨A6k,c7k,rfl,n8k⟩
  refine nrm ?_
  have X8d:=xtr X7d E9a
  refine sV (Ac rfl) ?_
  refine Ad<|h8e _ _<|wp_seq_k fun K0f h0f=>Ae<|sV (Ah (o':=2) GZ rfl rfl) ?_
  refine sV (Ag CW rfl (Bx.cell (q1c.ext E9a) rfl)) ?_
  refine sV (Aa rfl) ?_
  refine sV (JZ rfl rfl) ?_
  obtain ⟨r9d,h9k,f0l⟩:=Ab f5k
  refine sc (Af Jr (by rfl)) (Ds x0.Den (max 0 (wi64 ((wi64 (r0a - r1a)) - x1))) A4 c5 w6 (tbx X8d hT) (n6.ext X8d) r9d h9k) ?_
  rintro _ w7 E0b ⟨A1f,c2f,rfl,n3f⟩
  refine nrm ?_
  have X4f:=xtr X8d E0b
  refine sV (Ac rfl) ?_
  refine Ad<|h0f _ _<|wp_seq_k fun K5f h5f=>Ae<|sV (Aa rfl) ?_
  refine sV (Aa rfl) ?_
  obtain ⟨r2c,h1l,f2l⟩:=Ab f0l
  refine sc (Af LH (by rfl)) (DY r9e r9d A6k c7k A1f c2f w7 (tbx X4f hT) (n8k.ext E0b) n3f r2c h1l) ?_
  rintro _ w8 E1b ⟨A6f,c7f,A3l,c4l,rfl,n8f,n5l⟩
  refine nrm ?_
  have X9f:=xtr X4f E1b
  refine AE JH fun b9q w9 E6l g0g q7l=>?_
  refine nrm ?_
  have g0r:=nlt X9f.size g0g
  refine AA IN rfl rfl q7l rfl rfl rfl rfl (by simp only [SP0,SP1,S0,S1,Nat.reduceAdd];rfl) fun w5e U8l q0e=>?_
  have F4a:=belU E6l U8l g0g
  have X1g:=xtr X9f F4a
  refine Ad<|h5f _ _<|wp_seq_k fun K2g h2g=>wp_seq_k fun K3g h3g=>Ae<|sV (Ah (o':=0) IZ rfl rfl) ?_
  refine sV (Ag CW rfl (Bx.cell q0e rfl)) ?_
  obtain ⟨r9l,h0m,f4g⟩:=Ab f2l
  refine sc (Af JJ (by rfl)) (CD r2c.Q A6f c7f w5e (tbx X1g hT) (n8f.ext F4a) r9l h0m) ?_
  rintro _ w6a E2a rfl
  refine nrm ?_
  have X5b:=xtr X1g E2a
  refine sV (Aa rfl) ?_
  refine sb (FZ rfl rfl) fun z3c hz3c=>?_
  refine nrm ?_
  refine Ad<|h3g _ _ ?_
  rcases bft z3c with e6b | e6b
  ·have p1m:=zP hz3c e6b
   have f2m:=ifP p1m f4g
   refine wp_cond_true (Ai (evb rfl e6b))<|wp_seq_k fun K5g h5g=>Ae<|sV (Ah (o':=0) IZ rfl rfl) ?_
   refine sV (Ag CW rfl (Bx.cell (q0e.ext E2a) rfl)) ?_
   refine sV (Ah (o':=1) JP rfl rfl) ?_
   refine sV (Ag CW rfl (Bx.cell (q0e.ext E2a) rfl)) ?_
   refine sV (Aa rfl) ?_
   refine sV (Ah (o':=0) GF rfl rfl) ?_
   refine sV (Ah (o':=0) HK rfl rfl) ?_
   have q3m:=((((q1c.ext E9a).ext E0b).ext E1b).ext F4a).ext E2a
   refine sV (Ag HC rfl (Bx.cell q3m rfl)) ?_
   refine sV (Aa rfl) ?_
   refine sV (Aa rfl) ?_
   have n4m:=((n3f.ext E1b).ext F4a).ext E2a
   obtain ⟨r5m,h6m,f7m⟩:=Ab f2m
   refine sc (Af Mh (by rfl)) (Gw r2c.Q r2c.R r9d x0.Num.Neg x2 (wi64 ((wi64 (r0a - r1a)) - x1)) A6f c7f A3l c4l A1f c2f w6a (tbx X5b hT) ((n8f.ext F4a).ext E2a) ((n5l.ext F4a).ext E2a) n4m r5m h6m) ?_
   rintro _ w9c E6g ⟨A8m,c9m,rfl,n0n⟩
   refine nrm ?_
   have X1n:=xtr X5b E6g
   have q7g:=((((((((q8b.ext E8a).ext E3b).ext E4b).ext E9a).ext E0b).ext E1b).ext F4a).ext E2a).ext E6g
   refine AA EI rfl rfl q7g rfl rfl rfl rfl (by simp only [SP0,SP1,S0,S1,Nat.reduceAdd];rfl) fun w3a U8g q2n=>?_
   have X3n:=belU X1n U8g g9b
   refine Ad<|h5g _ _<|wp_ret ?_
   obtain rfl:=sj f7m
   exact fin rfl (Res.cellN rfl BG q2n rfl rfl Res.nil) (Ak X3n ⟨A8m,c9m,rfl,(n0n.upd U8g q7g (by decide))⟩)
  ·have p4n:=zN hz3c e6b
   have f5n:=ifN p4n f4g
   refine wp_cond_false (Ai (evb rfl e6b))<|wp_skip<|h2g _ _<|Ae<|sV (Aa rfl) ?_
   refine sV (AO (c:=wi64 ((wi64 ((wi64 (r0a - r1a)) - x1))+1)) rfl rfl rfl) ?_
   refine sV (Ac rfl) ?_
   refine Ad<|Ba ?_
   apply wp_block
   refine wp_seq_k fun K9g h9g=>Ae<|sV (Ah (o':=0) GF rfl rfl) ?_
   refine sV (Ah (o':=1) Dn rfl rfl) ?_
   have q1e:=((((q1c.ext E9a).ext E0b).ext E1b).ext F4a).ext E2a
   refine sV (Ag CW rfl (Bx.cell q1e rfl)) ?_
   refine sV (Aa rfl) ?_
   refine sV (AV (c:=wi64 (0 - (wi64 ((wi64 ((wi64 (r0a - r1a)) - x1))+1)))) rfl rfl rfl) ?_
   refine sV (JZ rfl rfl) ?_
   obtain ⟨r0h,h6n,f7n⟩:=Ab f5n
   refine sc (Af Jr (by rfl)) (Ds x0.Num.Abs (max 0 (wi64 (0 - (wi64 ((wi64 ((wi64 (r0a - r1a)) - x1))+1))))) A1 c2 w6a (tbx X5b hT) (n3.ext X5b) r0h h6n) ?_
   rintro _ w9c E4c ⟨A8n,c9n,rfl,n0o⟩
   refine nrm ?_
   have X2e:=xtr X5b E4c
   refine sV (Ac rfl) ?_
   refine Ad<|h9g _ _<|wp_seq_k fun K1h h1h=>Ae<|sV (Ah (o':=2) GZ rfl rfl) ?_
   refine sV (Ag CW rfl (Bx.cell (q1e.ext E4c) rfl)) ?_
   refine sV (Aa rfl) ?_
   refine sV (JZ rfl rfl) ?_
   obtain ⟨r3e,h1o,f2o⟩:=Ab f7n
   refine sc (Af Jr (by rfl)) (Ds x0.Den (max 0 (wi64 ((wi64 ((wi64 (r0a - r1a)) - x1))+1))) A4 c5 w9c (tbx X2e hT) (n6.ext X2e) r3e h1o) ?_
   rintro _ w3a E5c ⟨A2h,c3h,rfl,n4h⟩
   refine nrm ?_
   have X5h:=xtr X2e E5c
   refine sV (Ac rfl) ?_
   refine Ad<|h1h _ _<|wp_seq_k fun K6h h6h=>Ae<|sV (Aa rfl) ?_
   refine sV (Aa rfl) ?_
   obtain ⟨r6c,h3o,f4o⟩:=Ab f2o
   refine sc (Af LH (by rfl)) (DY r0h r3e A8n c9n A2h c3h w3a (tbx X5h hT) (n0o.ext E5c) n4h r6c h3o) ?_
   rintro _ w0d E7c ⟨A7h,c8h,A5o,c6o,rfl,n9h,n7o⟩
   refine nrm ?_
   have X0i:=xtr X5h E7c
   refine AE JH fun b1r w8b E8o g1i q9o=>?_
   refine nrm ?_
   have g2r:=nlt X0i.size g1i
   refine AA IN rfl rfl q9o rfl rfl rfl rfl (by simp only [SP0,SP1,S0,S1,Nat.reduceAdd];rfl) fun w9b U0p q4e=>?_
   have F7a:=belU E8o U0p g1i
   have X2i:=xtr X0i F7a
   refine Ad<|h6h _ _<|wp_seq_k fun K3i h3i=>wp_seq_k fun K4i h4i=>Ae<|sV (Ah (o':=0) IZ rfl rfl) ?_
   refine sV (Ag CW rfl (Bx.cell q4e rfl)) ?_
   obtain ⟨r1p,h2p,f5i⟩:=Ab f4o
   refine sc (Af JJ (by rfl)) (CD r6c.Q A7h c8h w9b (tbx X2i hT) (n9h.ext F7a) r1p h2p) ?_
   rintro _ w1d E5a rfl
   refine nrm ?_
   have X6i:=xtr X2i E5a
   refine sV (Aa rfl) ?_
   refine sb (FZ rfl rfl) fun z8c hz8c=>?_
   refine nrm ?_
   refine Ad<|h4i _ _ ?_
   rcases bft z8c with e7b | e7b
   ·have p3p:=zP hz8c e7b
    have f4p:=ifP p3p f5i
    refine wp_cond_true (Ai (evb rfl e7b))<|wp_seq_k fun K7i h7i=>Ae<|sV (Ah (o':=0) IZ rfl rfl) ?_
    refine sV (Ag CW rfl (Bx.cell (q4e.ext E5a) rfl)) ?_
    refine sV (Ah (o':=1) JP rfl rfl) ?_
    refine sV (Ag CW rfl (Bx.cell (q4e.ext E5a) rfl)) ?_
    refine sV (Aa rfl) ?_
    refine sV (Ah (o':=0) GF rfl rfl) ?_
    refine sV (Ah (o':=0) HK rfl rfl) ?_
    have q5p:=((((q1e.ext E4c).ext E5c).ext E7c).ext F7a).ext E5a
    refine sV (Ag HC rfl (Bx.cell q5p rfl)) ?_
    refine sV (Aa rfl) ?_
    refine sV (Aa rfl) ?_
    have n6p:=((n4h.ext E7c).ext F7a).ext E5a
    obtain ⟨r7p,h8p,f9p⟩:=Ab f4p
    refine sc (Af Mh (by rfl)) (Gw r6c.Q r6c.R r3e x0.Num.Neg x2 (wi64 ((wi64 ((wi64 (r0a - r1a)) - x1))+1)) A7h c8h A5o c6o A2h c3h w1d (tbx X6i hT) ((n9h.ext F7a).ext E5a) ((n7o.ext F7a).ext E5a) n6p r7p h8p) ?_
    rintro _ w2d E8i ⟨A0q,c1q,rfl,n2q⟩
    refine nrm ?_
    have X3q:=xtr X6i E8i
    have q9i:=(((((((((((((q8b.ext E8a).ext E3b).ext E4b).ext E9a).ext E0b).ext E1b).ext F4a).ext E2a).ext E4c).ext E5c).ext E7c).ext F7a).ext E5a).ext E8i
    refine AA EI rfl rfl q9i rfl rfl rfl rfl (by simp only [SP0,SP1,S0,S1,Nat.reduceAdd];rfl) fun w3d U0j q4q=>?_
    have X5q:=belU X3q U0j g9b
    refine Ad<|h7i _ _<|wp_ret ?_
    obtain rfl:=sj f9p
    exact fin rfl (Res.cellN rfl BG q4q rfl rfl Res.nil) (Ak X5q ⟨A0q,c1q,rfl,(n2q.upd U0j q9i (by decide))⟩)
   ·have p6q:=zN hz8c e7b
    have f7q:=ifN p6q f5i
    refine wp_cond_false (Ai (evb rfl e7b))<|wp_skip<|h3i _ _<|Ae<|sV (Aa rfl) ?_
    refine sV (AO (c:=wi64 ((wi64 ((wi64 ((wi64 (r0a - r1a)) - x1))+1))+1)) rfl rfl rfl) ?_
    refine sV (Ac rfl) ?_
    refine Ad ?_
    exact nomatch f7q
theorem c_sorobanref04_Round (x0:Al) (x1:Int) (x2:Int) (A1:Option Addr) (c2:Nat) (w:World) (hT:TB w) (n3:RU w A1 c2 x0.Man.Abs) (r:Al) (hr:Bt x0 x1 x2=some r) :
  Calls Tryz.prog 58 #[.agg #[.bool x0.Man.Neg,.slice A1 (sz x0.Man.Abs) c2,.int .i64 x0.Exp],.int .i64 x1,.int .i64 x2] w (Ret Kf w r):=by
 unfold Bt at hr
 go_enter Tryz.func58,Tryz.ntmps58
 refine wp_seq_k fun K4 h4=>Ae<|Ch rfl rfl fun b5 w1 E6 g7 q8=>?_
 refine nrm ?_
 refine AE FR fun b9 w2 E1a g8d q5b=>?_
 refine nrm ?_
 have g6b:=nlt E6.size g8d
 have X7a:=xtr E6 E1a
 refine Ad<|h4 _ _<|wp_seq_k fun K7b h7b=>Ae<|sV (Ah (o':=0) Gr rfl rfl) ?_
 refine sV (Ah (o':=1) Dn rfl rfl) ?_
 refine sV (Ag CW rfl (Bx.cell (q8.ext E1a) rfl)) ?_
 obtain ⟨r2a,h9d,f8b⟩:=Ab hr
 refine sc (Af JJ (by rfl)) (CD x0.Man.Abs A1 c2 w2 (tbx X7a hT) (n3.ext X7a) r2a h9d) ?_
 rintro _ w3 E3a rfl
 refine nrm ?_
 have X8a:=xtr X7a E3a
 refine sV (Aa rfl) ?_
 refine sV (AV (c:=wi64 (r2a - x1)) rfl rfl rfl) ?_
 refine sV (Ac rfl) ?_
 refine Ad<|h7b _ _<|wp_seq_k fun K9b h9b=>wp_seq_k fun K0c h0c=>Ae<|sV (Aa rfl) ?_
 refine sb (FZ rfl rfl) fun z6a hz6a=>?_
 refine nrm ?_
 refine Ad<|h0c _ _ ?_
 rcases bft z6a with e4a | e4a
 ·have p0e:=zP hz6a e4a
  have f1e:=ifP p0e f8b
  refine wp_cond_true (Ai (evb rfl e4a))<|wp_seq_k fun K1c h1c=>Ae<|sV (Ao BG rfl ((q8.ext E1a).ext E3a) rfl) ?_
  refine AA EI rfl rfl (q5b.ext E3a) rfl rfl rfl rfl (by simp only [SP0,SP1,S0,S1,Nat.reduceAdd];rfl) fun w4 U2e q3e=>?_
  have X2c:=belU X8a U2e g6b
  refine Ad<|h1c _ _<|wp_ret ?_
  obtain rfl:=sj f1e
  exact fin rfl (Res.cellN rfl BG q3e rfl rfl Res.nil) (Ak X2c ⟨A1,c2,rfl,(n3.ext X2c)⟩)
 ·have p4e:=zN hz6a e4a
  have f5e:=ifN p4e f8b
  refine wp_cond_false (Ai (evb rfl e4a))<|wp_skip<|h9b _ _<|wp_seq_k fun K3c h3c=>Ae ?_
  obtain ⟨r4c,h6e,f7e⟩:=Ab f5e
  refine sc (Af Mg (by rfl)) (GM w3 (tbx X8a hT)  r4c h6e) ?_
  rintro _ w4 E9a ⟨A8e,c9e,rfl,n0f⟩
  refine nrm ?_
  have X5c:=xtr X8a E9a
  refine sV (Aa rfl) ?_
  obtain ⟨r0b,h1f,f2f⟩:=Ab f7e
  refine sc (Af Jr (by rfl)) (Ds r4c (wi64 (r2a - x1)) A8e c9e w4 (tbx X5c hT) n0f r0b h1f) ?_
  rintro _ w5 E1b ⟨A6c,c7c,rfl,n8c⟩
  refine nrm ?_
  have X2b:=xtr X5c E1b
  refine sV (Ac rfl) ?_
  refine Ad<|h3c _ _<|wp_seq_k fun K9c h9c=>Ae<|sV (Ah (o':=0) Gr rfl rfl) ?_
  refine sV (Ah (o':=1) Dn rfl rfl) ?_
  have q3b:=(((q8.ext E1a).ext E3a).ext E9a).ext E1b
  refine sV (Ag CW rfl (Bx.cell q3b rfl)) ?_
  refine sV (Aa rfl) ?_
  obtain ⟨r4b,h3f,f4f⟩:=Ab f2f
  refine sc (Af LH (by rfl)) (DY x0.Man.Abs r0b A1 c2 A6c c7c w5 (tbx X2b hT) (n3.ext X2b) n8c r4b h3f) ?_
  rintro _ w6 E5a ⟨A5f,c6f,A7f,c8f,rfl,n9f,n0g⟩
  refine nrm ?_
  have X0d:=xtr X2b E5a
  refine AE JH fun b3h w7 E1g g1d q2g=>?_
  refine nrm ?_
  have g4h:=nlt X0d.size g1d
  refine AA IN rfl rfl q2g rfl rfl rfl rfl (by simp only [SP0,SP1,S0,S1,Nat.reduceAdd];rfl) fun w8 U3g q2d=>?_
  have F0a:=belU E1g U3g g1d
  have X3d:=xtr X0d F0a
  refine Ad<|h9c _ _<|wp_seq_k fun K4d h4d=>Ae<|sV (Ah (o':=0) IZ rfl rfl) ?_
  refine sV (Ag CW rfl (Bx.cell q2d rfl)) ?_
  refine sV (Ah (o':=1) JP rfl rfl) ?_
  refine sV (Ag CW rfl (Bx.cell q2d rfl)) ?_
  refine sV (Aa rfl) ?_
  refine sV (Ah (o':=0) Gr rfl rfl) ?_
  refine sV (Ah (o':=0) HK rfl rfl) ?_
  refine sV (Ag HC rfl (Bx.cell ((q3b.ext E5a).ext F0a) rfl)) ?_
  refine sV (Aa rfl) ?_
  refine sV (Ah (o':=2) GH rfl rfl) ?_
  refine sV (Ag Gc rfl (Bx.cell ((q3b.ext E5a).ext F0a) rfl)) ?_
  refine sV (Aa rfl) ?_
  refine sV (AO (c:=wi64 (x0.Exp+(wi64 (r2a - x1)))) rfl rfl rfl) ?_
  obtain ⟨r4g,h5g,f6g⟩:=Ab f4f
  refine sc (Af Mh (by rfl)) (Gw r4b.Q r4b.R r0b x0.Man.Neg x2 (wi64 (x0.Exp+(wi64 (r2a - x1)))) A5f c6f A7f c8f A6c c7c w8 (tbx X3d hT) (n9f.ext F0a) (n0g.ext F0a) ((n8c.ext E5a).ext F0a) r4g h5g) ?_
  rintro _ w9 E5d ⟨A7g,c8g,rfl,n9g⟩
  refine nrm ?_
  have X0h:=xtr X3d E5d
  have q6d:=(((((q5b.ext E3a).ext E9a).ext E1b).ext E5a).ext F0a).ext E5d
  refine AA EI rfl rfl q6d rfl rfl rfl rfl (by simp only [SP0,SP1,S0,S1,Nat.reduceAdd];rfl) fun w1a U7d q1h=>?_
  have X2h:=belU X0h U7d g6b
  refine Ad<|h4d _ _<|wp_ret ?_
  obtain rfl:=sj f6g
  exact fin rfl (Res.cellN rfl BG q1h rfl rfl Res.nil) (Ak X2h ⟨A7g,c8g,rfl,(n9g.upd U7d q6d (by decide))⟩)
theorem c_sorobanlaw04_light (x0:AC) (A1:Option Addr) (c2:Nat) (w:World) (hT:TB w) (n3:RLu w A1 c2 x0.Man.Abs) (r:Bool) (hr:Ep x0=some r) :
  Calls Tryz.prog 44 #[.agg #[.bool x0.Man.Neg,.slice A1 x0.Man.Abs.length c2,.int .i64 x0.Exp]] w (Ret Fe w r):=by
 unfold Ep at hr
 go_enter Tryz.func44,Tryz.ntmps44
 refine wp_seq_k fun K4 h4=>Ae<|Ch rfl rfl fun b5 w1 E6 g7 q8=>?_
 refine nrm ?_
 refine sV (Ac rfl) ?_
 refine Ad<|h4 _ _<|wp_seq_k fun K9 h9=>Ae<|sV (Ah (o':=0) Gr rfl rfl) ?_
 refine sV (Ah (o':=1) Dn rfl rfl) ?_
 refine sV (Ag CW rfl (Bx.cell q8 rfl)) ?_
 refine sV (Ax AP rfl) ?_
 refine sb (FZ rfl rfl) fun z4a hz4a=>?_
 refine nrm ?_
 refine sV (Aa rfl) ?_
 obtain ⟨m2d,h5b,f3d⟩:=Ab hr
 refine BB 20 (fun l l' w'=>∃(t6b:Value) (t7b:Value) (t8b:Value) (t9b:Value) (t0c:Value) (t1c:Value) (t2c:Value) (t3c:Value) (t4c:Value) (t5c:Value) (t6c:Value) (t7c:Value) (t8c:Value),UpdS [] w1 w'∧l'=((((((((((((((l.set 9 t6b).set 10 t7b).set 11 t8b).set 12 t9b).set 13 t0c).set 14 t1c).set 15 t2c).set 16 t3c).set 17 t4c).set 18 t5c).set 19 t6c).set 20 t7c).set 21 t8c).set 22 (.bool m2d))) ?_ ?_
 ·intro HJ85
  rcases bft z4a with e0a | e0a
  ·have p4d:=zP hz4a e0a
   have f5d:=ifP p4d h5b
   refine sV (Ah (o':=2) GH rfl rfl) ?_ (hw:=wgT rfl e0a)
   refine sV (Ag Gc rfl (Bx.cell q8 rfl)) ?_ (hw:=wgT rfl e0a)
   refine sb (Fl rfl rfl) ?_ (hw:=wgT rfl e0a)
   intro z3a hz3a
   refine nrm ?_
   refine sV (Aa rfl) ?_ (hw:=wgT rfl e0a)
   obtain ⟨m5a,h9c,f6d⟩:=Ab f5d
   refine BB 14 (fun l l' w'=>∃(t7a:Value) (t8a:Value) (t9a:Value),w1=w'∧l'=((((l.set 13 t7a).set 14 t8a).set 15 t9a).set 16 (.bool m5a))) ?_ ?_
   ·intro HJ105
    rcases bft z3a with e1a | e1a
    ·have p7d:=zP hz3a e1a
     have f8d:=ifP p7d h9c
     refine sV (Ah (o':=2) GH rfl rfl) ?_ (hw:=wgT rfl e1a)
     refine sV (Ag Gc rfl (Bx.cell q8 rfl)) ?_ (hw:=wgT rfl e1a)
     refine sb (FZ rfl rfl) ?_ (hw:=wgT rfl e1a)
     intro z0b hz0b
     refine nrm ?_
     refine sV (Aw (evb rfl e1a) rfl) ?_ (hw:=wgT rfl e0a)
     obtain rfl:z0b=decide (x0.Exp≤3000):=bz hz0b
     obtain rfl:=sj f8d
     exact HJ105 _ _ ⟨(.pointer (some ⟨b5,2,none⟩)),(.int .i64 x0.Exp),(.bool (decide (x0.Exp≤3000))),rfl,(by simp only [S0,S1]<;>rfl)⟩
    ·have p9d:=zN hz3a e1a
     have f0e:=ifN p9d h9c
     refine sP ?_ (hw:=wgF rfl e1a)
     refine sP ?_ (hw:=wgF rfl e1a)
     refine sP ?_ (hw:=wgF rfl e1a)
     refine sV (AB (evb rfl e1a) rfl) ?_ (hw:=wgT rfl e0a)
     obtain rfl:=sj f0e
     exact HJ105 _ _ ⟨uu,uu,uu,rfl,(by simp only [S0,S1]<;>rfl)⟩
   ·rintro l' _ ⟨t7a,t8a,t9a,rfl,hq'⟩ l'' hl
    rw [hq'] at hl
    clear hq'
    simp only [S0,S1] at hl
    subst hl
    refine sV (Aa rfl) ?_ (hw:=wgT rfl e0a)
    obtain ⟨m0d,h1d,f1e⟩:=Ab f6d
    refine BB 19 (fun l l' w'=>∃(t1b:Value) (t2b:Value) (t3b:Value),UpdS [] w1 w'∧l'=((((l.set 18 t1b).set 19 t2b).set 20 t3b).set 21 (.bool m0d))) ?_ ?_
    ·intro HJ130
     rcases bft m5a with e2a | e2a
     ·have p2e:=e2a
      have f3e:=ifP p2e h1d
      refine sP ?_ (hw:=wgF rfl e2a)
      refine sP ?_ (hw:=wgF rfl e2a)
      refine sP ?_ (hw:=wgF rfl e2a)
      refine sV (Aw (evb rfl e2a) rfl) ?_ (hw:=wgT rfl e0a)
      obtain rfl:=sj f3e
      exact HJ130 _ _ ⟨uu,uu,uu,(UpdS.refl _ _),(by simp only [S0,S1]<;>rfl)⟩
     ·have p4e:=bF e2a
      have f5e:=ifN p4e h1d
      refine sV (Ao BG rfl q8 rfl) ?_ (hw:=wgT rfl e2a)
      obtain ⟨r6a,h6e,f7e⟩:=Ab f5e
      refine sc (Af Oc (by rfl)) (Gm x0 A1 c2 w1 (tbx E6 hT) (n3.ext E6) r6a h6e) ?_ (hw:=wgT rfl e2a)
      rintro _ w2 E8e rfl
      refine nrm ?_
      refine sb (FD rfl) ?_ (hw:=wgT rfl e2a)
      intro z4b hz4b
      refine nrm ?_
      refine sV (AB (evb rfl e2a) rfl) ?_ (hw:=wgT rfl e0a)
      obtain rfl:z4b=decide (¬(r6a=true)):=bz hz4b
      obtain rfl:=sj f7e
      exact HJ130 _ _ ⟨(.agg #[.bool x0.Man.Neg,.slice A1 x0.Man.Abs.length c2,.int .i64 x0.Exp]),(.bool r6a),(.bool (decide (¬(r6a=true)))),((UpdS.refl _ _).ext E8e),(by simp only [S0,S1]<;>rfl)⟩
    ·rintro l' w2 ⟨t1b,t2b,t3b,U9e,hq'⟩ l'' hl
     rw [hq'] at hl
     clear hq'
     simp only [S0,S1] at hl
     subst hl
     refine sV (Aw (evb rfl e0a) rfl) ?_
     obtain rfl:=sj f1e
     exact HJ85 _ _ ⟨(.pointer (some ⟨b5,2,none⟩)),(.int .i64 x0.Exp),(.bool z3a),(.bool z3a),t7a,t8a,t9a,(.bool m5a),(.bool m5a),t1b,t2b,t3b,(.bool m0d),((UpdS.refl _ _).updS U9e al0),(by simp only [S0,S1]<;>rfl)⟩
  ·have p0f:=zN hz4a e0a
   have f1f:=ifN p0f h5b
   refine sP ?_ (hw:=wgF rfl e0a)
   refine sP ?_ (hw:=wgF rfl e0a)
   refine sP ?_ (hw:=wgF rfl e0a)
   refine sP ?_ (hw:=wgF rfl e0a)
   refine sP ?_
   refine sP ?_
   refine sP ?_
   refine sP ?_ (hw:=wgF rfl e0a)
   refine sP ?_ (hw:=wgF rfl e0a)
   refine sP ?_
   refine sP ?_
   refine sP ?_
   refine sP ?_ (hw:=wgF rfl e0a)
   refine sV (AB (evb rfl e0a) rfl) ?_
   obtain rfl:=sj f1f
   exact HJ85 _ _ ⟨uu,uu,uu,uu,uu,uu,uu,uu,uu,uu,uu,uu,uu,(UpdS.refl _ _),(by simp only [S0,S1]<;>rfl)⟩
 ·rintro l' w2 ⟨t6b,t7b,t8b,t9b,t0c,t1c,t2c,t3c,t4c,t5c,t6c,t7c,t8c,U2f,hq'⟩ l'' hl
  rw [hq'] at hl
  clear hq'
  simp only [S0,S1] at hl
  subst hl
  have X3f:=HU E6 U2f (E6).size al0
  refine sV (Ac rfl) ?_
  refine Ad<|h9 _ _<|wp_ret ?_
  obtain rfl:=sj f3d
  exact fin rfl (Res.tmp rfl Res.nil) (Ak X3f rfl)
end Go.Proofs

