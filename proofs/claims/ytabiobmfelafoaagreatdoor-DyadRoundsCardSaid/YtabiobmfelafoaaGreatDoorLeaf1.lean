import Derived.Test.YtabiobmfelafoaaGreatDoorLeafDefs
namespace Go.Proofs.Lf
set_option linter.unusedVariables false
set_option linter.unusedSimpArgs false
set_option maxHeartbeats 4000000
open Go.RowKit Go.Sb Go.Proofs Go.Proofs.Sbn
theorem Fh (x0:List Int) (A1:Option Addr) (c2:Nat) (w:World) (hT:TB w) (n3:RLu w A1 c2 x0) (r:Bool) (hr:Bd x0=some r) :
  Calls Tryz.prog 143 #[.slice A1 x0.length c2] w (Ret Fe w r):=by
 unfold Bd at hr
 go_enter Tryz.func143,Tryz.ntmps143
 refine wp_seq_k fun K4 h4=>Ae<|sV (Ac rfl) ?_
 refine Ad<|h4 _ _<|wp_seq_k fun K5 h5=>Ae<|sV (Aa rfl) ?_
 refine sV (Ax AP rfl) ?_
 refine sb (FZ rfl rfl) fun z6 hz6=>?_
 refine nrm ?_
 refine sV (Aa rfl) ?_
 obtain ⟨m0b,h7a,f1b⟩:=Ab hr
 refine BB 17 (fun l l' w'=>∃(t3a:Nat→Value),w=w'∧l'=(((((((((((((l.set 7 (t3a 0)).set 8 (t3a 1)).set 9 (t3a 2)).set 10 (t3a 3)).set 11 (t3a 4)).set 12 (t3a 5)).set 13 (t3a 6)).set 14 (t3a 7)).set 15 (t3a 8)).set 16 (t3a 9)).set 17 (t3a 10)).set 18 (t3a 11)).set 19 (.bool m0b))) ?_ ?_
 ·intro HJ54
  rcases bft z6 with e1a | e1a
  ·have p2b:=zP hz6 e1a
   have f3b:=ifP p2b h7a
   refine sV (Aa rfl) ?_ (hw:=wgT rfl e1a)
   refine sV (Ax AP rfl) ?_ (hw:=wgT rfl e1a)
   refine sb (BE rfl rfl) ?_ (hw:=wgT rfl e1a)
   intro z4a hz4a
   refine nrm ?_
   refine sV (Aa rfl) ?_ (hw:=wgT rfl e1a)
   obtain ⟨m8a,h9a,f4b⟩:=Ab f3b
   refine BB 16 (fun l l' w'=>∃(t2a:Nat→Value),w=w'∧l'=((((((((l.set 11 (t2a 0)).set 12 (t2a 1)).set 13 (t2a 2)).set 14 (t2a 3)).set 15 (t2a 4)).set 16 (t2a 5)).set 17 (t2a 6)).set 18 (.bool m8a))) ?_ ?_
   ·intro HJ81
    rcases bft z4a with e0a | e0a
    ·have p5b:=zP hz4a e0a
     have f6b:=ifP p5b h9a
     refine sP ?_ (hw:=wgF rfl e0a)
     refine sP ?_ (hw:=wgF rfl e0a)
     refine sP ?_ (hw:=wgF rfl e0a)
     refine sP ?_ (hw:=wgF rfl e0a)
     refine sP ?_ (hw:=wgF rfl e0a)
     refine sP ?_ (hw:=wgF rfl e0a)
     refine sP ?_ (hw:=wgF rfl e0a)
     refine sV (Aw (evb rfl e0a) rfl) ?_ (hw:=wgT rfl e1a)
     obtain rfl:=sj f6b
     exact HJ81 _ _ ⟨(tk [uu,uu,uu,uu,uu,uu,uu]),(by trivial),(by simp only [S0,S1]<;>rfl)⟩
    ·have p7b:=zN hz4a e0a
     have f8b:=ifN p7b h9a
     refine sV (Aa rfl) ?_ (hw:=wgT rfl e0a)
     refine sV (Aa rfl) ?_ (hw:=wgT rfl e0a)
     refine sV (Ax AP rfl) ?_ (hw:=wgT rfl e0a)
     refine sV (AV (c:=wi64 ((x0.length:Int) - 1)) rfl rfl rfl) ?_ (hw:=wgT rfl e0a)
     obtain ⟨u5a,h9b,f0c⟩:=Ab f8b
     obtain ⟨bb90,oo91,hA1c,ia2c,ib3c,hc93⟩:=RL.nth n3 h9b
     refine sV (Ar AP An rfl rfl hA1c ia2c ib3c) ?_ (hw:=wgT rfl e0a)
     refine sV (Ag AN rfl hc93) ?_ (hw:=wgT rfl e0a)
     refine sb (Ik rfl rfl) ?_ (hw:=wgT rfl e0a)
     intro z6a hz6a
     refine nrm ?_
     refine sV (AB (evb rfl e0a) rfl) ?_ (hw:=wgT rfl e1a)
     obtain rfl:z6a=decide (¬u5a=0):=bz hz6a
     obtain rfl:=sj f0c
     exact HJ81 _ _ ⟨(tk [.slice A1 x0.length c2,.slice A1 x0.length c2,.int .i64 (x0.length:Int),.int .i64 (wi64 ((x0.length:Int) - 1)),.pointer (some ⟨bb90,oo91+((wi64 ((x0.length:Int) - 1)):Int).toNat,none⟩),.int .u32 u5a,.bool (decide (¬u5a=0))]),(by trivial),(by simp only [S0,S1]<;>rfl)⟩
   ·rintro l' _ ⟨t2a,rfl,hq'⟩ l'' hl
    rw [hq'] at hl
    clear hq'
    simp only [S0,S1] at hl
    subst hl
    refine sV (Aw (evb rfl e1a) rfl) ?_
    obtain rfl:=sj f4b
    exact HJ54 _ _ ⟨(tk [.slice A1 x0.length c2,.int .i64 (x0.length:Int),.bool z4a,.bool z4a,t2a 0,t2a 1,t2a 2,t2a 3,t2a 4,t2a 5,t2a 6,.bool m8a]),(by trivial),(by simp only [S0,S1]<;>rfl)⟩
  ·have p4c:=zN hz6 e1a
   have f5c:=ifN p4c h7a
   refine sP ?_ (hw:=wgF rfl e1a)
   refine sP ?_ (hw:=wgF rfl e1a)
   refine sP ?_ (hw:=wgF rfl e1a)
   refine sP ?_ (hw:=wgF rfl e1a)
   refine sP ?_
   refine sP ?_
   refine sP ?_
   refine sP ?_
   refine sP ?_
   refine sP ?_
   refine sP ?_
   refine sP ?_ (hw:=wgF rfl e1a)
   refine sV (AB (evb rfl e1a) rfl) ?_
   obtain rfl:=sj f5c
   exact HJ54 _ _ ⟨(tk [uu,uu,uu,uu,uu,uu,uu,uu,uu,uu,uu,uu]),(by trivial),(by simp only [S0,S1]<;>rfl)⟩
 ·rintro l' _ ⟨t3a,rfl,hq'⟩ l'' hl
  rw [hq'] at hl
  clear hq'
  simp only [S0,S1] at hl
  subst hl
  refine sV (Ac rfl) ?_
  refine Ad<|h5 _ _<|wp_ret ?_
  obtain rfl:=sj f1b
  exact fin rfl (Res.tmp rfl Res.nil) (Ak (Ext.refl _) rfl)
theorem BY (x0:List Int) (x1:Int) (A1:Option Addr) (c2:Nat) (w:World) (hT:TB w) (n3:RLu w A1 c2 x0) (r:Int) (hr:Bh x0 x1=some r) :
  Calls Tryz.prog 197 #[.slice A1 x0.length c2,.int .i64 x1] w (Ret Kd w r):=by
 unfold Bh at hr
 go_enter Tryz.func197,Tryz.ntmps197
 refine wp_seq_k fun K4 h4=>Ae<|sV (Ac rfl) ?_
 refine Ad<|h4 _ _<|wp_seq_k fun K5 h5=>wp_seq_k fun K6 h6=>Ae<|sV (Aa rfl) ?_
 refine sV (Aa rfl) ?_
 refine sV (Ax AP rfl) ?_
 refine sb (Fl rfl rfl) fun z7 hz7=>?_
 refine nrm ?_
 refine Ad<|h6 _ _ ?_
 rcases bft z7 with e0a | e0a
 ·have p3a:=zP hz7 e0a
  have f4a:=ifP p3a hr
  refine wp_cond_true (Ai (evb rfl e0a))<|wp_seq_k fun K1a h1a=>Ae<|sV (Ac rfl) ?_
  refine Ad<|h1a _ _<|wp_ret ?_
  obtain rfl:=sj f4a
  exact fin rfl (Res.tmp rfl Res.nil) (Ak (Ext.refl _) rfl)
 ·have p5a:=zN hz7 e0a
  have f6a:=ifN p5a hr
  refine wp_cond_false (Ai (evb rfl e0a))<|wp_skip<|h5 _ _<|wp_seq_k fun K2a h2a=>Ae<|sV (Aa rfl) ?_
  refine sV (Aa rfl) ?_
  obtain ⟨u7a,h8a,f9a⟩:=Ab f6a
  obtain ⟨bb23,oo24,hA0b,ia1b,ib2b,hc26⟩:=RL.nth n3 h8a
  refine sV (Ar AP An rfl rfl hA0b ia1b ib2b) ?_
  refine sV (Ag AN rfl hc26) ?_
  refine sV (AG (c:=wu64 u7a) AH AF rfl rfl) ?_
  refine sV (Ac rfl) ?_
  refine Ad<|h2a _ _<|wp_ret ?_
  obtain rfl:=sj f9a
  exact fin rfl (Res.tmp rfl Res.nil) (Ak (Ext.refl _) rfl)
theorem FM (x0:List Int) (x1:Int) (A1:Option Addr) (c2:Nat) (w:World) (hT:TB w) (n3:RLu w A1 c2 x0) (r:Int) (hr:BJ x0 x1=some r) :
  Calls Tryz.prog 128 #[.slice A1 x0.length c2,.int .i64 x1] w (Ret Kd w r):=by
 unfold BJ at hr
 go_enter Tryz.func128,Tryz.ntmps128
 refine wp_seq_k fun K4 h4=>Ae<|sV (Ac rfl) ?_
 refine Ad<|h4 _ _<|wp_seq_k fun K5 h5=>Ae<|sV (Aa rfl) ?_
 refine sV (Aa rfl) ?_
 refine sV (FP (c:=wi64 (x1.tdiv 32)) (by decide) rfl rfl rfl) ?_
 obtain ⟨r6,h7,f8⟩:=Ab hr
 refine sc (Af Ib (by rfl)) (BY x0 (wi64 (x1.tdiv 32)) A1 c2 w hT n3 r6 h7) ?_
 rintro _ w1 E9 rfl
 refine nrm ?_
 refine sV (Aa rfl) ?_
 refine sV (HH (c:=x1.tmod 32) (by decide) rfl rfl rfl) ?_
 obtain ⟨_,h0a,f1a⟩:=Ab f8
 have gd12:=Ay h0a
 refine sV (Gu (c:=r6.fdiv (2^min ((x1.tmod 32):Int).toNat IntKind.u64.bits)) gd12 rfl rfl rfl) ?_
 refine sV (HH (c:=(r6.fdiv (2^min ((x1.tmod 32):Int).toNat IntKind.u64.bits)).tmod 2) (by decide) rfl rfl rfl) ?_
 refine sV (Ac rfl) ?_
 refine Ad<|h5 _ _<|wp_ret ?_
 obtain rfl:=sj f1a
 exact fin rfl (Res.tmp rfl Res.nil) (Ak E9 rfl)
theorem Fp (x0:List Int) (x1:List Int) (A1:Option Addr) (c2:Nat) (A4:Option Addr) (c5:Nat) (w:World) (hT:TB w) (n3:RLu w A1 c2 x0) (n6:RLu w A4 c5 x1) (r:Bool) (hr:BA x0 x1=some r) :
  Calls Tryz.prog 144 #[.slice A1 x0.length c2,.slice A4 x1.length c5] w (Ret Fe w r):=by
 unfold BA at hr
 go_enter Tryz.func144,Tryz.ntmps144
 refine wp_seq_k fun K7 h7=>Ae<|sV (Ac rfl) ?_
 refine Ad<|h7 _ _<|wp_seq_k fun K8 h8=>wp_seq_k fun K9 h9=>Ae<|sV (Aa rfl) ?_
 refine sV (Ax AP rfl) ?_
 refine sV (Aa rfl) ?_
 refine sV (Ax AP rfl) ?_
 refine sb (Ik rfl rfl) fun z7a hz7a=>?_
 refine nrm ?_
 refine Ad<|h9 _ _ ?_
 rcases bft z7a with e2a | e2a
 ·have p4c:=zP hz7a e2a
  have f5c:=ifP p4c hr
  refine wp_cond_true (Ai (evb rfl e2a))<|wp_seq_k fun K1b h1b=>Ae<|sV (Ac rfl) ?_
  refine Ad<|h1b _ _<|wp_ret ?_
  obtain rfl:=sj f5c
  exact fin rfl (Res.tmp rfl Res.nil) (Ak (Ext.refl _) rfl)
 ·have p6c:=zN hz7a e2a
  have f7c:=ifN p6c hr
  refine wp_cond_false (Ai (evb rfl e2a))<|wp_skip<|h8 _ _<|wp_seq_k fun K2b h2b=>wp_seq_k fun K3b h3b=>Ae<|sV (Ac rfl) ?_
  refine Ad<|h3b _ _ ?_
  apply wp_block
  refine AR (fun l n4b l' w'=>∃(v1a:Int) (t0a:Nat→Value),Ext w w'∧Cg x0 x1 n4b v1a=some r∧l'=((((((((((((((((l.set 5 (.int .i64 v1a)).set 11 (t0a 0)).set 12 (t0a 1)).set 13 (t0a 2)).set 14 (t0a 3)).set 15 (t0a 4)).set 16 (t0a 5)).set 17 (t0a 6)).set 18 (t0a 7)).set 19 (t0a 8)).set 20 (t0a 9)).set 21 (t0a 10)).set 22 (t0a 11)).set 23 (t0a 12)).set 24 (t0a 13)).set 25 (t0a 14))) 18446744073709551616 ?_ ?_ ?_
  ·exact ⟨0,(tk [uu,uu,uu,uu,uu,uu,uu,uu,uu,uu,uu,uu,uu,uu,uu]),(Ext.refl _),f7c,(by simp only [S0,S1]<;>rfl)⟩
  ·rintro l' w' ⟨v1a,t0a,_,hz,_⟩
   exact nomatch hz
  ·rintro n4b ih8c l' w1 ⟨v1a,t0a,U8a,hr9a,hq'⟩ l'' hl
   rw [hq'] at hl
   clear hq'
   simp only [S0,S1] at hl
   subst hl
   unfold Cg at hr9a
   refine Ba<|wp_seq_k fun K5b h5b=>wp_seq_k fun K6b h6b=>Ae<|sV (Aa rfl) ?_
   refine sV (Aa rfl) ?_
   refine sV (Ax AP rfl) ?_
   refine sb (CK rfl rfl) fun z3a hz3a=>?_
   refine nrm ?_
   refine Ad<|h6b _ _ ?_
   rcases bft z3a with e4a | e4a
   ·have p9c:=zP hz3a e4a
    have f0d:=ifP p9c hr9a
    refine wp_cond_true (Ai (evb rfl e4a))<|wp_skip<|h5b _ _<|wp_seq_k fun K7b h7b=>?_
    apply wp_block
    refine wp_seq_k fun K8b h8b=>EE [] 9 mo rfl fun w2 E9b S0c=>have X0b:=xtr U8a E9b;dA 0 rfl (fun _=>Aa rfl) ?_
    refine dA 1 rfl (fun _=>Aa rfl) ?_
    obtain ⟨u1d,h2d,f3d⟩:=Ab f0d
    obtain ⟨bb152,oo153,hA4d,ia5d,ib6d,hc155⟩:=RL.nth (n3.ext X0b) h2d
    refine dA 2 rfl (fun _=>Ar AP An rfl rfl hA4d ia5d ib6d) ?_
    refine dV 3 rfl (fun _ hw=>Ag AN rfl (Cv hc155 hw)) S0c ?_
    refine dA 4 rfl (fun _=>Aa rfl) ?_
    refine dA 5 rfl (fun _=>Aa rfl) ?_
    obtain ⟨u7d,h8d,f1c⟩:=Ab f3d
    obtain ⟨bb161,oo162,hA9d,ia0e,ib1e,hc164⟩:=RL.nth (n6.ext X0b) h8d
    refine dA 6 rfl (fun _=>Ar AP An rfl rfl hA9d ia0e ib1e) ?_
    refine dV 7 rfl (fun _ hw=>Ag AN rfl (Cv hc164 hw)) S0c ?_
    refine dab 8 rfl (by kernel_rfl) (fun _ _ _ h=>h) (by rfl) (fun _=>Ik rfl rfl) fun z5a hz5a=>?_
    refine dnrm ?_
    refine Dm (by kernel_rfl) ?_
    refine h8b _ _ ?_
    rcases bft z5a with e6a | e6a
    ·have p2e:=zP hz5a e6a
     have f3e:=ifP p2e f1c
     refine wp_cond_true (Ai (evb rfl e6a))<|wp_seq_k fun K2c h2c=>Ae<|sV (Ac rfl) ?_
     refine Ad<|h2c _ _<|wp_ret ?_
     obtain rfl:=sj f3e
     exact fin rfl (Res.tmp rfl Res.nil) (Ak X0b rfl)
    ·have p4e:=zN hz5a e6a
     have f5e:=ifN p4e f1c
     refine wp_cond_false (Ai (evb rfl e6a))<|wp_skip<|h7b _ _<|Ae<|sV (Aa rfl) ?_
     refine sV (AO (c:=wi64 (v1a+1)) rfl rfl rfl) ?_
     refine sV (Ac rfl) ?_
     refine Ad ?_
     exact ih8c _ _ ⟨(wi64 (v1a+1)),(tk [.int .i64 v1a,.slice A1 x0.length c2,.int .i64 (x0.length:Int),.bool z3a,.int .i64 v1a,.int .i64 (wi64 (v1a+1)),.slice A1 x0.length c2,.int .i64 v1a,.pointer (some ⟨bb152,oo153+(v1a:Int).toNat,none⟩),.int .u32 u1d,.slice A4 x1.length c5,.int .i64 v1a,.pointer (some ⟨bb161,oo162+(v1a:Int).toNat,none⟩),.int .u32 u7d,.bool z5a]),(U8a.trans E9b),f5e,(by simp only [S0,S1]<;>rfl)⟩
   ·have p6e:=zN hz3a e4a
    have f7e:=ifN p6e hr9a
    refine wp_cond_false (Ai (evb rfl e4a))<|wp_exit ?_
    simp only [Exit.then,Exit.inBlock,↓reduceIte,Nat.reduceEqDiff]
    refine h2b _ _<|wp_seq_k fun K3c h3c=>Ae<|sV (Ac rfl) ?_
    refine Ad<|h3c _ _<|wp_ret ?_
    obtain rfl:=sj f7e
    exact fin rfl (Res.tmp rfl Res.nil) (Ak U8a rfl)
theorem CC (x0:List Int) (A1:Option Addr) (c2:Nat) (w:World) (hT:TB w) (n3:RLu w A1 c2 x0) (r:List Int) (hr:Bm x0=some r) :
  Calls Tryz.prog 210 #[.slice A1 x0.length c2] w (Ret JN w r):=by
 unfold Bm at hr
 go_enter Tryz.func210,Tryz.ntmps210
 refine wp_seq_k fun K4 h4=>Ae<|sV (Ac rfl) ?_
 refine Ad<|h4 _ _<|wp_seq_k fun K5 h5=>Ae<|sV (Aa rfl) ?_
 refine sV (Ax AP rfl) ?_
 refine sV (Ac rfl) ?_
 refine Ad<|h5 _ _<|wp_seq_k fun K6 h6=>?_
 obtain ⟨m7a,h9b,f0c⟩:=Ab hr
 refine BZ (fun l l' w'=>∃(t4a:Nat→Value),w=w'∧l'=(((((((((((((l.set 3 (.int .i64 m7a)).set 6 (t4a 0)).set 7 (t4a 1)).set 8 (t4a 2)).set 9 (t4a 3)).set 10 (t4a 4)).set 11 (t4a 5)).set 12 (t4a 6)).set 13 (t4a 7)).set 14 (t4a 8)).set 15 (t4a 9)).set 16 (t4a 10)).set 17 (t4a 11))) ?_ ?_
 ·apply wp_block
  refine AR (fun l n2b l' w'=>∃(v3a:Int) (t2a:Nat→Value),w=w'∧BN x0 n2b v3a=some m7a∧l'=(((((((((((((l.set 3 (.int .i64 v3a)).set 6 (t2a 0)).set 7 (t2a 1)).set 8 (t2a 2)).set 9 (t2a 3)).set 10 (t2a 4)).set 11 (t2a 5)).set 12 (t2a 6)).set 13 (t2a 7)).set 14 (t2a 8)).set 15 (t2a 9)).set 16 (t2a 10)).set 17 (t2a 11))) 18446744073709551616 ?_ ?_ ?_
  ·exact ⟨(x0.length:Int),(tk [uu,uu,uu,uu,uu,uu,uu,uu,uu,uu,uu,uu]),(by trivial),h9b,(by simp only [S0,S1]<;>rfl)⟩
  ·rintro l' w' ⟨v3a,t2a,_,hz,_⟩
   exact nomatch hz
  ·rintro n2b ih1c l' _ ⟨v3a,t2a,rfl,hr3b,hq'⟩ l'' hl
   rw [hq'] at hl
   clear hq'
   simp only [S0,S1] at hl
   subst hl
   unfold BN at hr3b
   refine Ba<|wp_seq_k fun K4b h4b=>wp_seq_k fun K5b h5b=>Ae<|sV (Aa rfl) ?_
   refine sb (Eu rfl rfl) fun z5a hz5a=>?_
   refine nrm ?_
   refine sV (Aa rfl) ?_
   obtain ⟨m8a,h6b,f7b⟩:=Ab hr3b
   refine BB 10 (fun l l' w'=>∃(t0a:Nat→Value),w=w'∧l'=(((((((l.set 9 (t0a 0)).set 10 (t0a 1)).set 11 (t0a 2)).set 12 (t0a 3)).set 13 (t0a 4)).set 14 (t0a 5)).set 15 (.bool m8a))) ?_ ?_
   ·intro HJ299
    rcases bft z5a with e1a | e1a
    ·have p2c:=zP hz5a e1a
     have f3c:=ifP p2c h6b
     refine sV (Aa rfl) ?_ (hw:=wgT rfl e1a)
     refine sV (Aa rfl) ?_ (hw:=wgT rfl e1a)
     refine sV (AV (c:=wi64 (v3a - 1)) rfl rfl rfl) ?_ (hw:=wgT rfl e1a)
     obtain ⟨u9a,h4c,f5c⟩:=Ab f3c
     obtain ⟨bb308,oo309,hA6c,ia7c,ib8c,hc311⟩:=RL.nth n3 h4c
     refine sV (Ar AP An rfl rfl hA6c ia7c ib8c) ?_ (hw:=wgT rfl e1a)
     refine sV (Ag AN rfl hc311) ?_ (hw:=wgT rfl e1a)
     refine sb (BE rfl rfl) ?_ (hw:=wgT rfl e1a)
     intro z0b hz0b
     refine nrm ?_
     refine sV (Aw (evb rfl e1a) rfl) ?_
     obtain rfl:z0b=decide (u9a=0):=bz hz0b
     obtain rfl:=sj f5c
     exact HJ299 _ _ ⟨(tk [.slice A1 x0.length c2,.int .i64 v3a,.int .i64 (wi64 (v3a - 1)),.pointer (some ⟨bb308,oo309+((wi64 (v3a - 1)):Int).toNat,none⟩),.int .u32 u9a,.bool (decide (u9a=0))]),(by trivial),(by simp only [S0,S1]<;>rfl)⟩
    ·have p9c:=zN hz5a e1a
     have f0d:=ifN p9c h6b
     refine sP ?_ (hw:=wgF rfl e1a)
     refine sP ?_ (hw:=wgF rfl e1a)
     refine sP ?_ (hw:=wgF rfl e1a)
     refine sP ?_ (hw:=wgF rfl e1a)
     refine sP ?_ (hw:=wgF rfl e1a)
     refine sP ?_ (hw:=wgF rfl e1a)
     refine sV (AB (evb rfl e1a) rfl) ?_
     obtain rfl:=sj f0d
     exact HJ299 _ _ ⟨(tk [uu,uu,uu,uu,uu,uu]),(by trivial),(by simp only [S0,S1]<;>rfl)⟩
   ·rintro l' _ ⟨t0a,rfl,hq'⟩ l'' hl
    rw [hq'] at hl
    clear hq'
    simp only [S0,S1] at hl
    subst hl
    refine Ad<|h5b _ _ ?_
    rcases bft m8a with e6a | e6a
    ·have p1d:=e6a
     have f2d:=ifP p1d f7b
     refine wp_cond_true (Ai (evb rfl e6a))<|wp_skip<|h4b _ _ ?_
     apply wp_block
     refine Ae<|sV (Aa rfl) ?_
     refine sV (AV (c:=wi64 (v3a - 1)) rfl rfl rfl) ?_
     refine sV (Ac rfl) ?_
     refine Ad ?_
     exact ih1c _ _ ⟨(wi64 (v3a - 1)),(tk [.int .i64 v3a,.bool z5a,.bool z5a,t0a 0,t0a 1,t0a 2,t0a 3,t0a 4,t0a 5,.bool m8a,.int .i64 v3a,.int .i64 (wi64 (v3a - 1))]),(by trivial),f2d,(by simp only [S0,S1]<;>rfl)⟩
    ·have p3d:=bF e6a
     have f4d:=ifN p3d f7b
     refine wp_cond_false (Ai (evb rfl e6a))<|wp_exit ?_
     simp only [Exit.then,Exit.inBlock,↓reduceIte,Nat.reduceEqDiff]
     obtain rfl:=sj f4d
     exact ⟨_,rfl,(tk [.int .i64 v3a,.bool z5a,.bool z5a,t0a 0,t0a 1,t0a 2,t0a 3,t0a 4,t0a 5,.bool m8a,t2a 10,t2a 11]),(by trivial),(by simp only [S0,S1]<;>rfl)⟩
 ·rintro l' _ ⟨t4a,rfl,hq'⟩ l'' hl
  rw [hq'] at hl
  clear hq'
  simp only [S0,S1] at hl
  subst hl
  refine h6 _ _<|wp_seq_k fun K8b h8b=>Ae<|KF AP CO fun A5d w1 E1b=>?_
  refine nrm ?_
  refine sV (Aa rfl) ?_
  refine sV (Aa rfl) ?_
  obtain ⟨_,h6d,f7d⟩:=Ab f0c
  have gd332:=Ay h6d
  refine KX (lo:=0) (hi:=(m7a:Int).toNat) AP An rfl rfl ⟨.i64,by rw [Int.toNat_of_nonneg (a:=m7a) (by omega)];rfl⟩ (by omega) (by omega) (n3.ext E1b) fun A5e c6e n8d=>?_
  refine nrm ?_
  obtain ⟨_,h9d,f0e⟩:=Ab f7d
  have gd338:=Ay h9d
  refine HN AP CO rfl rfl rfl (OW.nil 179 w.heap.size w1 A5d) n8d gd338 E1b.size fun A1e c2e w2 B341 ow3e=>?_
  refine nrm ?_
  have X4e:=xO E1b B341 (Nat.le_refl _)
  refine sV (Ac rfl) ?_
  refine Ad<|h8b _ _<|wp_ret ?_
  obtain rfl:=sj f0e
  exact fin rfl (Res.tmp rfl Res.nil) (Ak X4e ⟨A1e,c2e,rfl,(OW.rl ow3e)⟩)
theorem Ff (x0:Int) (w:World) (hT:TB w) (r:List Int) (hr:Cn x0=some r) :
  Calls Tryz.prog 179 #[.int .u64 x0] w (Ret JN w r):=by
 unfold Cn at hr
 go_enter Tryz.func179,Tryz.ntmps179
 refine wp_seq_k fun K1 h1=>Ae<|sV (Ac rfl) ?_
 refine Ad<|h1 _ _<|wp_seq_k fun K2 h2=>Ae<|sV (Aa rfl) ?_
 refine sV (AG (c:=wu32 x0) AF AH rfl rfl) ?_
 refine sV (Aa rfl) ?_
 refine sV (Gu (c:=x0.fdiv (2^min (32:Int).toNat IntKind.u64.bits)) (by decide) rfl rfl rfl) ?_
 refine sV (AG (c:=wu32 (x0.fdiv (2^min (32:Int).toNat IntKind.u64.bits))) AF AH rfl rfl) ?_
 refine DI (vals:=[(0,.int .u32 (wu32 x0)),(1,.int .u32 (wu32 (x0.fdiv (2^min (32:Int).toNat IntKind.u64.bits))))]) (cs:=[.int .u32 (wu32 x0),.int .u32 (wu32 (x0.fdiv (2^min (32:Int).toNat IntKind.u64.bits)))]) AP An FK (by rfl) (by decide) (by kernel_rfl) fun b4 w1 E3 g5 q6=>?_
 refine nrm ?_
 have n7:RLu w1 (some ⟨b4,0,none⟩) 2 [(wu32 x0),(wu32 (x0.fdiv (2^min (32:Int).toNat IntKind.u64.bits)))]:=(OW.lit (n0:=0) (n:=2) (xs:=[(wu32 x0),(wu32 (x0.fdiv (2^min (32:Int).toNat IntKind.u64.bits)))]) q6 (Nat.zero_le _) rfl (by decide)).rl
 obtain ⟨r8,h9,f0a⟩:=Ab hr
 refine sc (Af IM (by rfl)) (CC ([(wu32 x0),(wu32 (x0.fdiv (2^min (32:Int).toNat IntKind.u64.bits)))]:List Int) (some ⟨b4,0,none⟩) 2 w1 (tbx E3 hT) n7 r8 h9) ?_
 rintro _ w2 E1a ⟨A2a,c3a,rfl,n4a⟩
 refine nrm ?_
 have X5a:=xtr E3 E1a
 refine sV (Ac rfl) ?_
 refine Ad<|h2 _ _<|wp_ret ?_
 obtain rfl:=sj f0a
 exact fin rfl (Res.tmp rfl Res.nil) (Ak X5a ⟨A2a,c3a,rfl,n4a⟩)
theorem FL (x0:List Int) (x1:List Int) (A1:Option Addr) (c2:Nat) (A4:Option Addr) (c5:Nat) (w:World) (hT:TB w) (n3:RLu w A1 c2 x0) (n6:RLu w A4 c5 x1) (r:Int) (hr:BL x0 x1=some r) :
  Calls Tryz.prog 198 #[.slice A1 x0.length c2,.slice A4 x1.length c5] w (Ret FQ w r):=by
 unfold BL at hr
 go_enter Tryz.func198,Tryz.ntmps198
 refine wp_seq_k fun K7 h7=>Ae<|sV (Ac rfl) ?_
 refine Ad<|h7 _ _<|wp_seq_k fun K8 h8=>wp_seq_k fun K9 h9=>Ae<|sV (Aa rfl) ?_
 refine sV (Ax AP rfl) ?_
 refine sV (Aa rfl) ?_
 refine sV (Ax AP rfl) ?_
 refine sV (JZ rfl rfl) ?_
 refine sV (AV (c:=wi64 ((max (x0.length:Int) (x1.length:Int)) - 1)) rfl rfl rfl) ?_
 refine sV (Ac rfl) ?_
 refine Ad<|h9 _ _ ?_
 apply wp_block
 refine AR (fun l n3b l' w'=>∃(v1a:Int) (t0a:Nat→Value),Ext w w'∧CQ x0 x1 n3b v1a=some r∧l'=(((((((((((((((((((l.set 5 (.int .i64 v1a)).set 12 (t0a 0)).set 13 (t0a 1)).set 14 (t0a 2)).set 15 (t0a 3)).set 16 (t0a 4)).set 17 (t0a 5)).set 18 (t0a 6)).set 19 (t0a 7)).set 20 (t0a 8)).set 21 (t0a 9)).set 22 (t0a 10)).set 23 (t0a 11)).set 24 (t0a 12)).set 25 (t0a 13)).set 26 (t0a 14)).set 27 (t0a 15)).set 28 (t0a 16)).set 29 (t0a 17))) 18446744073709551616 ?_ ?_ ?_
 ·exact ⟨(wi64 ((max (x0.length:Int) (x1.length:Int)) - 1)),(tk [uu,uu,uu,uu,uu,uu,uu,uu,uu,uu,uu,uu,uu,uu,uu,uu,uu,uu]),(Ext.refl _),hr,(by simp only [S0,S1]<;>rfl)⟩
 ·rintro l' w' ⟨v1a,t0a,_,hz,_⟩
  exact nomatch hz
 ·rintro n3b ih3d l' w1 ⟨v1a,t0a,U2a,hr0b,hq'⟩ l'' hl
  rw [hq'] at hl
  clear hq'
  simp only [S0,S1] at hl
  subst hl
  unfold CQ at hr0b
  refine Ba<|wp_seq_k fun K4b h4b=>wp_seq_k fun K5b h5b=>Ae<|sV (Aa rfl) ?_
  refine sb (Fl rfl rfl) fun z3a hz3a=>?_
  refine nrm ?_
  refine Ad<|h5b _ _ ?_
  rcases bft z3a with e4a | e4a
  ·have p4d:=zP hz3a e4a
   have f5d:=ifP p4d hr0b
   refine wp_cond_true (Ai (evb rfl e4a))<|wp_skip<|h4b _ _<|wp_seq_k fun K6b h6b=>?_
   apply wp_block
   refine wp_seq_k fun K7b h7b=>wp_seq_k fun K8b h8b=>Ae<|sV (Aa rfl) ?_
   refine sV (Aa rfl) ?_
   obtain ⟨r9b,h6d,f7d⟩:=Ab f5d
   refine sc (Af Ib (by rfl)) (BY x0 v1a A1 c2 w1 (tbx U2a hT) (n3.ext U2a) r9b h6d) ?_
   rintro _ w2 E0c rfl
   refine nrm ?_
   have X1b:=xtr U2a E0c
   refine sV (Aa rfl) ?_
   refine sV (Aa rfl) ?_
   obtain ⟨r1c,h8d,f2c⟩:=Ab f7d
   refine sc (Af Ib (by rfl)) (BY x1 v1a A4 c5 w2 (tbx X1b hT) (n6.ext X1b) r1c h8d) ?_
   rintro _ w3 E3c rfl
   refine nrm ?_
   have X9a:=xtr X1b E3c
   refine sb (CK rfl rfl) fun z5a hz5a=>?_
   refine nrm ?_
   refine Ad<|h8b _ _ ?_
   rcases bft z5a with e6a | e6a
   ·have p9d:=zP hz5a e6a
    have f0e:=ifP p9d f2c
    refine wp_cond_true (Ai (evb rfl e6a))<|wp_seq_k fun K4c h4c=>Ae<|sV (Ac rfl) ?_
    refine Ad<|h4c _ _<|wp_ret ?_
    obtain rfl:=sj f0e
    exact fin rfl (Res.tmp rfl Res.nil) (Ak X9a rfl)
   ·have p1e:=zN hz5a e6a
    have f2e:=ifN p1e f2c
    refine wp_cond_false (Ai (evb rfl e6a))<|wp_skip<|h7b _ _<|wp_seq_k fun K5c h5c=>Ae<|sV (Aa rfl) ?_
    refine sV (Aa rfl) ?_
    obtain ⟨r6c,h3e,f4e⟩:=Ab f2e
    refine sc (Af Ib (by rfl)) (BY x0 v1a A1 c2 w3 (tbx X9a hT) (n3.ext X9a) r6c h3e) ?_
    rintro _ w4 E7c rfl
    refine nrm ?_
    have X2b:=xtr X9a E7c
    refine sV (Aa rfl) ?_
    refine sV (Aa rfl) ?_
    obtain ⟨r8c,h5e,f9c⟩:=Ab f4e
    refine sc (Af Ib (by rfl)) (BY x1 v1a A4 c5 w4 (tbx X2b hT) (n6.ext X2b) r8c h5e) ?_
    rintro _ w5 E0d rfl
    refine nrm ?_
    have X6e:=xtr X2b E0d
    refine sb (Eu rfl rfl) fun z7a hz7a=>?_
    refine nrm ?_
    refine Ad<|h5c _ _ ?_
    rcases bft z7a with e8a | e8a
    ·have p7e:=zP hz7a e8a
     have f8e:=ifP p7e f9c
     refine wp_cond_true (Ai (evb rfl e8a))<|wp_seq_k fun K1d h1d=>Ae<|sV (Ac rfl) ?_
     refine Ad<|h1d _ _<|wp_ret ?_
     obtain rfl:=sj f8e
     exact fin rfl (Res.tmp rfl Res.nil) (Ak X6e rfl)
    ·have p9e:=zN hz7a e8a
     have f0f:=ifN p9e f9c
     refine wp_cond_false (Ai (evb rfl e8a))<|wp_skip<|h6b _ _<|Ae<|sV (Aa rfl) ?_
     refine sV (AV (c:=wi64 (v1a - 1)) rfl rfl rfl) ?_
     refine sV (Ac rfl) ?_
     refine Ad ?_
     exact ih3d _ _ ⟨(wi64 (v1a - 1)),(tk [.int .i64 v1a,.bool z3a,.int .i64 v1a,.int .i64 (wi64 (v1a - 1)),.slice A1 x0.length c2,.int .i64 v1a,.int .u64 r9b,.slice A4 x1.length c5,.int .i64 v1a,.int .u64 r1c,.bool z5a,.slice A1 x0.length c2,.int .i64 v1a,.int .u64 r6c,.slice A4 x1.length c5,.int .i64 v1a,.int .u64 r8c,.bool z7a]),((((U2a.trans E0c).trans E3c).trans E7c).trans E0d),f0f,(by simp only [S0,S1]<;>rfl)⟩
  ·have p1f:=zN hz3a e4a
   have f2f:=ifN p1f hr0b
   refine wp_cond_false (Ai (evb rfl e4a))<|wp_exit ?_
   simp only [Exit.then,Exit.inBlock,↓reduceIte,Nat.reduceEqDiff]
   refine h8 _ _<|wp_seq_k fun K2d h2d=>Ae<|sV (Ac rfl) ?_
   refine Ad<|h2d _ _<|wp_ret ?_
   obtain rfl:=sj f2f
   exact fin rfl (Res.tmp rfl Res.nil) (Ak U2a rfl)
theorem CD (x0:List Int) (A1:Option Addr) (c2:Nat) (w:World) (hT:TB w) (n3:RLu w A1 c2 x0) (r:Int) (hr:AW x0=some r) :
  Calls Tryz.prog 147 #[.slice A1 x0.length c2] w (Ret FQ w r):=by
 unfold AW at hr
 go_enter Tryz.func147,Tryz.ntmps147
 refine wp_seq_k fun K4 h4=>Ae<|sV (Ac rfl) ?_
 refine Ad<|h4 _ _<|wp_seq_k fun K5 h5=>Ae<|sV (Aa rfl) ?_
 refine sV (Ax AP rfl) ?_
 refine sV (Ac rfl) ?_
 refine Ad<|h5 _ _<|wp_seq_k fun K6 h6=>wp_seq_k fun K7 h7=>Ae<|sV (Aa rfl) ?_
 refine sb (BE rfl rfl) fun z8 hz8=>?_
 refine nrm ?_
 refine Ad<|h7 _ _ ?_
 rcases bft z8 with e5a | e5a
 ·have p8b:=zP hz8 e5a
  have f9b:=ifP p8b hr
  refine wp_cond_true (Ai (evb rfl e5a))<|wp_seq_k fun K8a h8a=>Ae<|sV (Ac rfl) ?_
  refine Ad<|h8a _ _<|wp_ret ?_
  obtain rfl:=sj f9b
  exact fin rfl (Res.tmp rfl Res.nil) (Ak (Ext.refl _) rfl)
 ·have p0c:=zN hz8 e5a
  have f1c:=ifN p0c hr
  refine wp_cond_false (Ai (evb rfl e5a))<|wp_skip<|h6 _ _<|wp_seq_k fun K9a h9a=>Ae<|sV (Aa rfl) ?_
  refine sV (AV (c:=wi64 ((x0.length:Int) - 1)) rfl rfl rfl) ?_
  refine sV (HZ (c:=wi64 (32*(wi64 ((x0.length:Int) - 1)))) rfl rfl rfl) ?_
  refine sV (Ac rfl) ?_
  refine Ad<|h9a _ _<|wp_seq_k fun K0b h0b=>wp_seq_k fun K1b h1b=>Ae<|sV (Aa rfl) ?_
  refine sV (Aa rfl) ?_
  refine sV (AV (c:=wi64 ((x0.length:Int) - 1)) rfl rfl rfl) ?_
  obtain ⟨u2c,h3c,f4c⟩:=Ab f1c
  obtain ⟨bb26,oo27,hA5c,ia6c,ib7c,hc29⟩:=RL.nth n3 h3c
  refine sV (Ar AP An rfl rfl hA5c ia6c ib7c) ?_
  refine sV (Ag AN rfl hc29) ?_
  refine sV (Ac rfl) ?_
  refine Ad<|h1b _ _ ?_
  obtain ⟨m2b,h8c,f9c⟩:=Ab f4c
  refine BZ (fun l l' w'=>∃(t2a:Nat→Value),w=w'∧l'=((((((((l.set 4 (.int .i64 m2b)).set 5 (t2a 0)).set 18 (t2a 1)).set 19 (t2a 2)).set 20 (t2a 3)).set 21 (t2a 4)).set 22 (t2a 5)).set 23 (t2a 6))) ?_ ?_
  ·apply wp_block
   refine AR (fun l n3b l' w'=>∃(v3a:Int) (v1a:Int) (t0a:Nat→Value),w=w'∧Dj x0 n3b v3a v1a=some m2b∧l'=((((((((l.set 4 (.int .i64 v3a)).set 5 (.int .u32 v1a)).set 18 (t0a 0)).set 19 (t0a 1)).set 20 (t0a 2)).set 21 (t0a 3)).set 22 (t0a 4)).set 23 (t0a 5))) 18446744073709551616 ?_ ?_ ?_
   ·exact ⟨(wi64 (32*(wi64 ((x0.length:Int) - 1)))),u2c,(tk [uu,uu,uu,uu,uu,uu]),(by trivial),h8c,(by simp only [S0,S1]<;>rfl)⟩
   ·rintro l' w' ⟨v3a,v1a,t0a,_,hz,_⟩
    exact nomatch hz
   ·rintro n3b ih0d l' _ ⟨v3a,v1a,t0a,rfl,hr7a,hq'⟩ l'' hl
    rw [hq'] at hl
    clear hq'
    simp only [S0,S1] at hl
    subst hl
    unfold Dj at hr7a
    refine Ba<|wp_seq_k fun K4b h4b=>wp_seq_k fun K5b h5b=>Ae<|sV (Aa rfl) ?_
    refine sb (Eu rfl rfl) fun z4a hz4a=>?_
    refine nrm ?_
    refine Ad<|h5b _ _ ?_
    rcases bft z4a with e6a | e6a
    ·have p1d:=zP hz4a e6a
     have f2d:=ifP p1d hr7a
     refine wp_cond_true (Ai (evb rfl e6a))<|wp_skip<|h4b _ _<|wp_seq_k fun K6b h6b=>?_
     apply wp_block
     refine Ae<|sV (Aa rfl) ?_
     refine sV (AO (c:=wi64 (v3a+1)) rfl rfl rfl) ?_
     refine sV (Ac rfl) ?_
     refine Ad<|h6b _ _<|Ae<|sV (Aa rfl) ?_
     refine sV (FP (c:=wu32 (v1a.tdiv 2)) (by decide) rfl rfl rfl) ?_
     refine sV (Ac rfl) ?_
     refine Ad ?_
     exact ih0d _ _ ⟨(wi64 (v3a+1)),(wu32 (v1a.tdiv 2)),(tk [.int .u32 v1a,.bool z4a,.int .u32 v1a,.int .u32 (wu32 (v1a.tdiv 2)),.int .i64 v3a,.int .i64 (wi64 (v3a+1))]),(by trivial),f2d,(by simp only [S0,S1]<;>rfl)⟩
    ·have p3d:=zN hz4a e6a
     have f4d:=ifN p3d hr7a
     refine wp_cond_false (Ai (evb rfl e6a))<|wp_exit ?_
     simp only [Exit.then,Exit.inBlock,↓reduceIte,Nat.reduceEqDiff]
     obtain rfl:=sj f4d
     exact ⟨_,rfl,(tk [.int .u32 v1a,.int .u32 v1a,.bool z4a,t0a 2,t0a 3,t0a 4,t0a 5]),(by trivial),(by simp only [S0,S1]<;>rfl)⟩
  ·rintro l' _ ⟨t2a,rfl,hq'⟩ l'' hl
   rw [hq'] at hl
   clear hq'
   simp only [S0,S1] at hl
   subst hl
   refine h0b _ _<|wp_seq_k fun K7b h7b=>Ae<|sV (Aa rfl) ?_
   refine sV (Ac rfl) ?_
   refine Ad<|h7b _ _<|wp_ret ?_
   obtain rfl:=sj f9c
   exact fin rfl (Res.tmp rfl Res.nil) (Ak (Ext.refl _) rfl)
theorem Gj (x0:List Int) (A1:Option Addr) (c2:Nat) (w:World) (hT:TB w) (n3:RLu w A1 c2 x0) (r:Int) (hr:BF x0=some r) :
  Calls Tryz.prog 153 #[.slice A1 x0.length c2] w (Ret FQ w r):=by
 unfold BF at hr
 go_enter Tryz.func153,Tryz.ntmps153
 refine wp_seq_k fun K4 h4=>Ae<|sV (Ac rfl) ?_
 refine Ad<|h4 _ _<|wp_seq_k fun K5 h5=>Ae<|sV (Ac rfl) ?_
 refine Ad<|h5 _ _<|wp_seq_k fun K6 h6=>?_
 obtain ⟨m1b,h0c,f1c⟩:=Ab hr
 refine BZ (fun l l' w'=>∃(t3a:Nat→Value),Ext w w'∧l'=((((((((((((l.set 3 (.int .i64 m1b)).set 4 (.slice A1 x0.length c2)).set 5 (.int .i64 (x0.length:Int))).set 6 (t3a 0)).set 7 (t3a 1)).set 8 (t3a 2)).set 9 (t3a 3)).set 10 (t3a 4)).set 11 (t3a 5)).set 12 (t3a 6)).set 13 (t3a 7)).set 14 (t3a 8))) ?_ ?_
 ·apply wp_block
  refine AR (fun l n2b l' w'=>∃(v4a:Int) (t0a:Nat→Value),Ext w w'∧BC x0 n2b v4a=some m1b∧l'=((((((((((((l.set 3 (.int .i64 v4a)).set 4 (t0a 0)).set 5 (t0a 1)).set 6 (t0a 2)).set 7 (t0a 3)).set 8 (t0a 4)).set 9 (t0a 5)).set 10 (t0a 6)).set 11 (t0a 7)).set 12 (t0a 8)).set 13 (t0a 9)).set 14 (t0a 10))) 18446744073709551616 ?_ ?_ ?_
  ·exact ⟨0,(tk [uu,uu,uu,uu,uu,uu,uu,uu,uu,uu,uu]),(Ext.refl _),h0c,(by simp only [S0,S1]<;>rfl)⟩
  ·rintro l' w' ⟨v4a,t0a,_,hz,_⟩
   exact nomatch hz
  ·rintro n2b ih2c l' w1 ⟨v4a,t0a,U7a,hr3b,hq'⟩ l'' hl
   rw [hq'] at hl
   clear hq'
   simp only [S0,S1] at hl
   subst hl
   unfold BC at hr3b
   refine Ba<|wp_seq_k fun K4b h4b=>wp_seq_k fun K5b h5b=>Ae<|sV (Aa rfl) ?_
   refine sV (Ax AP rfl) ?_
   refine sb (Eu rfl rfl) fun z5a hz5a=>?_
   refine nrm ?_
   refine sV (Aa rfl) ?_
   obtain ⟨m8a,h6b,f7b⟩:=Ab hr3b
   refine BB 9 (fun l l' w'=>∃(t1a:Nat→Value),Ext w1 w'∧l'=(((((l.set 8 (t1a 0)).set 9 (t1a 1)).set 10 (t1a 2)).set 11 (t1a 3)).set 12 (.bool m8a))) ?_ ?_
   ·intro HJ254
    rcases bft z5a with e2a | e2a
    ·have p3c:=zP hz5a e2a
     have f4c:=ifP p3c h6b
     refine sV (Aa rfl) ?_ (hw:=wgT rfl e2a)
     refine sV (Aa rfl) ?_ (hw:=wgT rfl e2a)
     obtain ⟨r9a,h5c,f6c⟩:=Ab f4c
     refine sc (Af Ms (by rfl)) (FM x0 v4a A1 c2 w1 (tbx U7a hT) (n3.ext U7a) r9a h5c) ?_ (hw:=wgT rfl e2a)
     rintro _ w2 E7c rfl
     refine nrm ?_
     refine sb (BE rfl rfl) ?_ (hw:=wgT rfl e2a)
     intro z0b hz0b
     refine nrm ?_
     refine sV (Aw (evb rfl e2a) rfl) ?_
     obtain rfl:z0b=decide (r9a=0):=bz hz0b
     obtain rfl:=sj f6c
     exact HJ254 _ _ ⟨(tk [.slice A1 x0.length c2,.int .i64 v4a,.int .u64 r9a,.bool (decide (r9a=0))]),E7c,(by simp only [S0,S1]<;>rfl)⟩
    ·have p8c:=zN hz5a e2a
     have f9c:=ifN p8c h6b
     refine sP ?_ (hw:=wgF rfl e2a)
     refine sP ?_ (hw:=wgF rfl e2a)
     refine sP ?_ (hw:=wgF rfl e2a)
     refine sP ?_ (hw:=wgF rfl e2a)
     refine sV (AB (evb rfl e2a) rfl) ?_
     obtain rfl:=sj f9c
     exact HJ254 _ _ ⟨(tk [uu,uu,uu,uu]),(Ext.refl _),(by simp only [S0,S1]<;>rfl)⟩
   ·rintro l' w2 ⟨t1a,U8b,hq'⟩ l'' hl
    rw [hq'] at hl
    clear hq'
    simp only [S0,S1] at hl
    subst hl
    refine Ad<|h5b _ _ ?_
    rcases bft m8a with e6a | e6a
    ·have p0d:=e6a
     have f1d:=ifP p0d f7b
     refine wp_cond_true (Ai (evb rfl e6a))<|wp_skip<|h4b _ _ ?_
     apply wp_block
     refine Ae<|sV (Aa rfl) ?_
     refine sV (AO (c:=wi64 (v4a+1)) rfl rfl rfl) ?_
     refine sV (Ac rfl) ?_
     refine Ad ?_
     exact ih2c _ _ ⟨(wi64 (v4a+1)),(tk [.slice A1 x0.length c2,.int .i64 (x0.length:Int),.bool z5a,.bool z5a,t1a 0,t1a 1,t1a 2,t1a 3,.bool m8a,.int .i64 v4a,.int .i64 (wi64 (v4a+1))]),(U7a.trans U8b),f1d,(by simp only [S0,S1]<;>rfl)⟩
    ·have p2d:=bF e6a
     have f3d:=ifN p2d f7b
     refine wp_cond_false (Ai (evb rfl e6a))<|wp_exit ?_
     simp only [Exit.then,Exit.inBlock,↓reduceIte,Nat.reduceEqDiff]
     obtain rfl:=sj f3d
     exact ⟨_,rfl,(tk [.bool z5a,.bool z5a,t1a 0,t1a 1,t1a 2,t1a 3,.bool m8a,t0a 9,t0a 10]),(U7a.trans U8b),(by simp only [S0,S1]<;>rfl)⟩
 ·rintro l' w1 ⟨t3a,U4d,hq'⟩ l'' hl
  rw [hq'] at hl
  clear hq'
  simp only [S0,S1] at hl
  subst hl
  refine h6 _ _<|wp_seq_k fun K9b h9b=>Ae<|sV (Aa rfl) ?_
  refine sV (Ac rfl) ?_
  refine Ad<|h9b _ _<|wp_ret ?_
  obtain rfl:=sj f1c
  exact fin rfl (Res.tmp rfl Res.nil) (Ak U4d rfl)
theorem FG (x0:List Int) (x1:List Int) (A1:Option Addr) (c2:Nat) (A4:Option Addr) (c5:Nat) (w:World) (hT:TB w) (n3:RLu w A1 c2 x0) (n6:RLu w A4 c5 x1) (r:List Int) (hr:BK x0 x1=some r) :
  Calls Tryz.prog 189 #[.slice A1 x0.length c2,.slice A4 x1.length c5] w (Ret JN w r):=by
 unfold BK at hr
 go_enter Tryz.func189,Tryz.ntmps189
 refine wp_seq_k fun K7 h7=>Ae<|sV (Ac rfl) ?_
 refine Ad<|h7 _ _<|wp_seq_k fun K8 h8=>Ae<|sV (Ac rfl) ?_
 refine Ad<|h8 _ _<|wp_seq_k fun K9 h9=>Ae<|sV (Ac rfl) ?_
 refine Ad<|h9 _ _<|wp_seq_k fun K7b h7b=>wp_seq_k fun K8b h8b=>Ae<|sV (Ac rfl) ?_
 refine Ad<|h8b _ _ ?_
 obtain ⟨m0b,h5d,f6d⟩:=Ab hr
 refine BZ (fun l l' w'=>∃(A2b:Option Addr) (c3b:Nat) (t1a:Nat→Value),Ext w w'∧OW 179 w.heap.size w' A2b m0b.length c3b m0b∧l'=[.slice A1 x0.length c2,.slice A4 x1.length c5,uu,uu,.slice none 0 0,.slice A2b m0b.length c3b,t1a 0,t1a 1,t1a 2,t1a 3,.slice A1 x0.length c2,.int .i64 (x0.length:Int),.slice A4 x1.length c5,.int .i64 (x1.length:Int),.int .i64 (max (x0.length:Int) (x1.length:Int)),t1a 4,t1a 5,t1a 6,t1a 7,t1a 8,t1a 9,t1a 10,t1a 11,t1a 12,t1a 13,t1a 14,t1a 15,t1a 16,t1a 17,t1a 18,t1a 19,t1a 20,t1a 21,t1a 22,uu,uu]) ?_ ?_
 ·apply wp_block
  refine AR (fun l n9b l' w'=>∃(v2a:Int) (v5a:Int) (v6a:List Int) (A7a:Option Addr) (c8a:Nat) (t0a:Nat→Value),Ext w w'∧OW 179 w.heap.size w' A7a v6a.length c8a v6a∧Co x0 x1 n9b v2a v5a v6a=some m0b∧l'=[.slice A1 x0.length c2,.slice A4 x1.length c5,uu,uu,.slice none 0 0,.slice A7a v6a.length c8a,.int .u64 v2a,.int .i64 v5a,t0a 0,t0a 1,t0a 2,t0a 3,t0a 4,t0a 5,t0a 6,t0a 7,t0a 8,t0a 9,t0a 10,t0a 11,t0a 12,t0a 13,t0a 14,t0a 15,t0a 16,t0a 17,t0a 18,t0a 19,t0a 20,t0a 21,t0a 22,t0a 23,t0a 24,t0a 25,uu,uu]) 18446744073709551616 ?_ ?_ ?_
  ·exact ⟨0,0,([]:List Int),none,0,(tk [uu,uu,uu,uu,uu,uu,uu,uu,uu,uu,uu,uu,uu,uu,uu,uu,uu,uu,uu,uu,uu,uu,uu,uu,uu,uu]),(Ext.refl _),(OW.nn (OW.nil 179 w.heap.size w none)),h5d,(by simp only [OW.len (OW.nil 179 w.heap.size w none)]<;>rfl)⟩
  ·rintro l' w' ⟨v2a,v5a,v6a,A7a,c8a,t0a,_,_,hz,_⟩
   exact nomatch hz
  ·rintro n9b ih7d _ w1 ⟨v2a,v5a,v6a,A7a,c8a,t0a,X4b,ow0c,hr5b,rfl⟩ _ rfl
   unfold Co at hr5b
   refine Ba<|wp_seq_k fun K1c h1c=>wp_seq_k fun K2c h2c=>Ae<|sV (Aa rfl) ?_
   refine sV (Aa rfl) ?_
   refine sV (Ax AP rfl) ?_
   refine sV (Aa rfl) ?_
   refine sV (Ax AP rfl) ?_
   refine sV (JZ rfl rfl) ?_
   refine sb (FZ rfl rfl) fun z9a hz9a=>?_
   refine nrm ?_
   refine Ad<|h2c _ _ ?_
   rcases bft z9a with e1b | e1b
   ·have p8d:=zP hz9a e1b
    have f9d:=ifP p8d hr5b
    refine wp_cond_true (Ai (evb rfl e1b))<|wp_skip<|h1c _ _<|wp_seq_k fun K3c h3c=>?_
    apply wp_block
    refine wp_seq_k fun K4c h4c=>Ae<|sV (Aa rfl) ?_
    refine sV (Aa rfl) ?_
    obtain ⟨r3a,h0e,f1e⟩:=Ab f9d
    refine sc (Af Ib (by rfl)) (BY x0 v5a A1 c2 w1 (tbx X4b hT) (n3.ext X4b) r3a h0e) ?_
    rintro _ w2 E5c rfl
    refine nrm ?_
    have X6b:=xtr X4b E5c
    refine sV (Aa rfl) ?_
    refine sV (Aa rfl) ?_
    obtain ⟨r4a,h2e,f3e⟩:=Ab f1e
    refine sc (Af Ib (by rfl)) (BY x1 v5a A4 c5 w2 (tbx X6b hT) (n6.ext X6b) r4a h2e) ?_
    rintro _ w3 E6c rfl
    refine nrm ?_
    have X4e:=xtr X6b E6c
    refine sV (AO (c:=wu64 (r3a+r4a)) rfl rfl rfl) ?_
    refine sV (Aa rfl) ?_
    refine sV (AO (c:=wu64 ((wu64 (r3a+r4a))+v2a)) rfl rfl rfl) ?_
    refine sV (Ac rfl) ?_
    refine Ad<|h4c _ _<|wp_seq_k fun K7c h7c=>Ae<|sV (Aa rfl) ?_
    refine sV (Aa rfl) ?_
    refine sV (AG (c:=wu32 (wu64 ((wu64 (r3a+r4a))+v2a))) AF AH rfl rfl) ?_
    refine DI (vals:=[(0,.int .u32 (wu32 (wu64 ((wu64 (r3a+r4a))+v2a))))]) (cs:=[.int .u32 (wu32 (wu64 ((wu64 (r3a+r4a))+v2a)))]) AP An FK (by rfl) (by decide) (by kernel_rfl) fun b8c w4 E9c g3g q5e=>?_
    refine nrm ?_
    have X0d:=xtr X4e E9c
    have n6e:RLu w4 (some ⟨b8c,0,none⟩) 1 [(wu32 (wu64 ((wu64 (r3a+r4a))+v2a)))]:=(OW.lit (n0:=0) (n:=1) (xs:=[(wu32 (wu64 ((wu64 (r3a+r4a))+v2a)))]) q5e (Nat.zero_le _) rfl (by decide)).rl
    have ow7e:=((ow0c.ext E5c).ext E6c).ext E9c
    obtain ⟨_,h8e,f9e⟩:=Ab f3e
    have gd479:=Ay h8e
    refine HN AP CO rfl rfl rfl ow7e n6e gd479 X0d.size fun A1d c2d w5 B482 ow0f=>?_
    refine nrm ?_
    have X1f:=xO X0d B482 (Nat.le_refl _)
    refine sV (Ac rfl) ?_
    refine Ad<|h7c _ _<|Ae<|sV (Aa rfl) ?_
    refine sV (Gu (c:=(wu64 ((wu64 (r3a+r4a))+v2a)).fdiv (2^min (32:Int).toNat IntKind.u64.bits)) (by decide) rfl rfl rfl) ?_
    refine sV (Ac rfl) ?_
    refine Ad<|h3c _ _<|Ae<|sV (Aa rfl) ?_
    refine sV (AO (c:=wi64 (v5a+1)) rfl rfl rfl) ?_
    refine sV (Ac rfl) ?_
    refine Ad ?_
    exact ih7d _ _ ⟨((wu64 ((wu64 (r3a+r4a))+v2a)).fdiv (2^min (32:Int).toNat IntKind.u64.bits)),(wi64 (v5a+1)),(v6a++([(wu32 (wu64 ((wu64 (r3a+r4a))+v2a)))]:List Int)),A1d,c2d,(tk [.int .u64 (wu64 ((wu64 (r3a+r4a))+v2a)),.int .i64 v5a,.slice A1 x0.length c2,.int .i64 (x0.length:Int),.slice A4 x1.length c5,.int .i64 (x1.length:Int),.int .i64 (max (x0.length:Int) (x1.length:Int)),.bool z9a,.int .i64 v5a,.int .i64 (wi64 (v5a+1)),.slice A1 x0.length c2,.int .i64 v5a,.int .u64 r3a,.slice A4 x1.length c5,.int .i64 v5a,.int .u64 r4a,.int .u64 (wu64 (r3a+r4a)),.int .u64 v2a,.int .u64 (wu64 ((wu64 (r3a+r4a))+v2a)),.slice A7a v6a.length c8a,.int .u64 (wu64 ((wu64 (r3a+r4a))+v2a)),.int .u32 (wu32 (wu64 ((wu64 (r3a+r4a))+v2a))),.slice (some ⟨b8c,0,none⟩) 1 1,.slice A1d (List.length (v6a++([(wu32 (wu64 ((wu64 (r3a+r4a))+v2a)))]:List Int))) c2d,.int .u64 (wu64 ((wu64 (r3a+r4a))+v2a)),.int .u64 ((wu64 ((wu64 (r3a+r4a))+v2a)).fdiv (2^min (32:Int).toNat IntKind.u64.bits))]),X1f,(OW.nn ow0f),f9e,rfl⟩
   ·have p2f:=zN hz9a e1b
    have f3f:=ifN p2f hr5b
    refine wp_cond_false (Ai (evb rfl e1b))<|wp_exit ?_
    simp only [Exit.then,Exit.inBlock,↓reduceIte,Nat.reduceEqDiff]
    obtain rfl:=sj f3f
    exact ⟨_,rfl,A7a,c8a,(tk [.int .u64 v2a,.int .i64 v5a,t0a 0,.int .i64 v5a,.bool z9a,t0a 8,t0a 9,t0a 10,t0a 11,t0a 12,t0a 13,t0a 14,t0a 15,t0a 16,t0a 17,t0a 18,t0a 19,t0a 20,t0a 21,t0a 22,t0a 23,t0a 24,t0a 25]),X4b,(OW.nn ow0c),rfl⟩
 ·rintro _ w1 ⟨A2b,c3b,t1a,X3d,ow4f,rfl⟩ _ rfl
  refine h7b _ _<|wp_seq_k fun K4d h4d=>Ae<|sV (Aa rfl) ?_
  obtain ⟨r5f,h6f,f7f⟩:=Ab f6d
  refine sc (Af IM (by rfl)) (CC m0b A2b c3b w1 (tbx X3d hT) (OW.rl ow4f) r5f h6f) ?_
  rintro _ w2 E8f ⟨A9f,c0g,rfl,n1g⟩
  refine nrm ?_
  have X2g:=xtr X3d E8f
  refine sV (Ac rfl) ?_
  refine Ad<|h4d _ _<|wp_ret ?_
  obtain rfl:=sj f7f
  exact fin rfl (Res.tmp rfl Res.nil) (Ak X2g ⟨A9f,c0g,rfl,n1g⟩)
theorem c_sorobanref01_short (x0:List Int) (x1:Int) (A1:Option Addr) (c2:Nat) (w:World) (hT:TB w) (n3:RLu w A1 c2 x0) (r:Cf) (hr:En x0 x1=some r) :
  Calls Tryz.prog 211 #[.slice A1 x0.length c2,.int .u32 x1] w (Ret LU w r):=by
 unfold En at hr
 go_enter Tryz.func211,Tryz.ntmps211
 refine wp_seq_k fun K4 h4=>Ae<|AE JH fun b5 w1 E6 g7 q8=>?_
 refine nrm ?_
 refine Ad<|h4 _ _<|wp_seq_k fun K9 h9=>Ae<|sV (Aa rfl) ?_
 refine sV (Ax AP rfl) ?_
 obtain ⟨_,h1e,f2e⟩:=Ab hr
 have gd12:=Ay h1e
 refine Gx AP CO rfl rfl gd12 fun A5a w2 E2c ow3e=>?_
 refine nrm ?_
 have X4e:=xtr E6 E2c
 refine sV (Ac rfl) ?_
 refine Ad<|h9 _ _<|wp_seq_k fun K3c h3c=>Ae<|sV (Ac rfl) ?_
 refine Ad<|h3c _ _<|wp_seq_k fun K4c h4c=>wp_seq_k fun K5c h5c=>Ae<|sV (Aa rfl) ?_
 refine sV (Ax AP rfl) ?_
 refine sV (AV (c:=wi64 ((x0.length:Int) - 1)) rfl rfl rfl) ?_
 refine sV (Ac rfl) ?_
 refine Ad<|h5c _ _ ?_
 obtain ⟨m7a,h5e,f6e⟩:=Ab f2e
 refine BZ (fun l l' w'=>∃(t1a:Nat→Value),Ext w w'∧Ext w1 w'∧OW 179 w1.heap.size w' A5a (((x0.length:Int):Int).toNat) (((x0.length:Int):Int).toNat) m7a.2∧l'=[.slice A1 x0.length c2,.int .u32 x1,uu,uu,.pointer (some ⟨b5,0,none⟩),.slice A5a (((x0.length:Int):Int).toNat) (((x0.length:Int):Int).toNat),.int .u64 m7a.1,t1a 0,t1a 1,.slice A1 x0.length c2,.int .i64 (x0.length:Int),.slice A5a (((x0.length:Int):Int).toNat) (((x0.length:Int):Int).toNat),.slice A1 x0.length c2,.int .i64 (x0.length:Int),.int .i64 (wi64 ((x0.length:Int) - 1)),t1a 2,t1a 3,t1a 4,t1a 5,t1a 6,t1a 7,t1a 8,t1a 9,t1a 10,t1a 11,t1a 12,t1a 13,t1a 14,t1a 15,t1a 16,t1a 17,t1a 18,t1a 19,t1a 20,t1a 21,t1a 22,t1a 23,t1a 24,t1a 25,uu,uu,uu,uu,uu]) ?_ ?_
 ·apply wp_block
  refine AR (fun l n6c l' w'=>∃(v2a:Int) (v3a:Int) (v8a:List Int) (t0a:Nat→Value),Ext w w'∧Ext w1 w'∧OW 179 w1.heap.size w' A5a (((x0.length:Int):Int).toNat) (((x0.length:Int):Int).toNat) v8a∧Ca x0 x1 n6c v2a v3a v8a=some m7a∧l'=[.slice A1 x0.length c2,.int .u32 x1,uu,uu,.pointer (some ⟨b5,0,none⟩),.slice A5a (((x0.length:Int):Int).toNat) (((x0.length:Int):Int).toNat),.int .u64 v2a,.int .i64 v3a,t0a 0,.slice A1 x0.length c2,.int .i64 (x0.length:Int),.slice A5a (((x0.length:Int):Int).toNat) (((x0.length:Int):Int).toNat),.slice A1 x0.length c2,.int .i64 (x0.length:Int),.int .i64 (wi64 ((x0.length:Int) - 1)),t0a 1,t0a 2,t0a 3,t0a 4,t0a 5,t0a 6,t0a 7,t0a 8,t0a 9,t0a 10,t0a 11,t0a 12,t0a 13,t0a 14,t0a 15,t0a 16,t0a 17,t0a 18,t0a 19,t0a 20,t0a 21,t0a 22,t0a 23,t0a 24,uu,uu,uu,uu,uu]) 18446744073709551616 ?_ ?_ ?_
  ·exact ⟨0,(wi64 ((x0.length:Int) - 1)),(List.replicate ((x0.length:Int):Int).toNat (0:Int)),(tk [uu,uu,uu,uu,uu,uu,uu,uu,uu,uu,uu,uu,uu,uu,uu,uu,uu,uu,uu,uu,uu,uu,uu,uu,uu]),X4e,E2c,ow3e,h5e,rfl⟩
  ·rintro l' w' ⟨v2a,v3a,v8a,t0a,_,_,_,hz,_⟩
   exact nomatch hz
  ·rintro n6c ih7e _ w3 ⟨v2a,v3a,v8a,t0a,X1b,X7c,ow0b,hr2b,rfl⟩ _ rfl
   unfold Ca at hr2b
   refine Ba<|wp_seq_k fun K8c h8c=>wp_seq_k fun K9c h9c=>Ae<|sV (Aa rfl) ?_
   refine sb (Fl rfl rfl) fun z6a hz6a=>?_
   refine nrm ?_
   refine Ad<|h9c _ _ ?_
   rcases bft z6a with e9a | e9a
   ·have p8e:=zP hz6a e9a
    have f9e:=ifP p8e hr2b
    refine wp_cond_true (Ai (evb rfl e9a))<|wp_skip<|h8c _ _<|wp_seq_k fun K0d h0d=>?_
    apply wp_block
    refine wp_seq_k fun K1d h1d=>Ae<|sV (Aa rfl) ?_
    refine sV (HM (c:=wu64 (v2a*2^min (32:Int).toNat IntKind.u64.bits)) (by decide) rfl rfl rfl) ?_
    refine sV (Aa rfl) ?_
    refine sV (Aa rfl) ?_
    obtain ⟨u4a,h0f,f1f⟩:=Ab f9e
    obtain ⟨bb307,oo308,hA2f,ia3f,ib4f,hc310⟩:=RL.nth (n3.ext X1b) h0f
    refine sV (Ar AP An rfl rfl hA2f ia3f ib4f) ?_
    refine sV (Ag AN rfl hc310) ?_
    refine sV (AG (c:=wu64 u4a) AH AF rfl rfl) ?_
    refine sV (AO (c:=wu64 ((wu64 (v2a*2^min (32:Int).toNat IntKind.u64.bits))+(wu64 u4a))) rfl rfl rfl) ?_
    refine sV (Ac rfl) ?_
    refine Ad<|h1d _ _<|wp_seq_k fun K2d h2d=>Ae<|sV (Aa rfl) ?_
    refine sV (Aa rfl) ?_
    refine sV (Aa rfl) ?_
    refine sV (Aa rfl) ?_
    refine sV (AG (c:=wu64 x1) AH AF rfl rfl) ?_
    obtain ⟨_,h5f,f6f⟩:=Ab f1f
    have gd317:=Ay h5f
    refine sV (FP (c:=wu64 ((wu64 ((wu64 (v2a*2^min (32:Int).toNat IntKind.u64.bits))+(wu64 u4a))).tdiv (wu64 x1))) (decide_eq_true gd317) rfl rfl rfl) ?_
    refine sV (AG (c:=wu32 (wu64 ((wu64 ((wu64 (v2a*2^min (32:Int).toNat IntKind.u64.bits))+(wu64 u4a))).tdiv (wu64 x1)))) AF AH rfl rfl) ?_
    obtain ⟨u9h,h7f,f8f⟩:=Ab f6f
    obtain ⟨bb321,hA3d,hz0i,ia4d,ib5d,hc326⟩:=OW.nthc ow0b h7f
    refine sV (Ar AP An rfl rfl hA3d ia4d ib5d) ?_
    refine JQ An rfl rfl ow0b hA3d ia4d (by rw [OW.len ow0b];exact ib5d) fun w4 B327 U1i ow9f=>?_
    have X0g:=xO X1b B327 E6.size
    have X1g:=xO X7c B327 (Nat.le_refl _)
    refine Ad<|h2d _ _<|Ae<|sV (Aa rfl) ?_
    refine sV (Aa rfl) ?_
    refine sV (AG (c:=wu64 x1) AH AF rfl rfl) ?_
    obtain ⟨_,h2g,f3g⟩:=Ab f8f
    have gd334:=Ay h2g
    refine sV (HH (c:=(wu64 ((wu64 (v2a*2^min (32:Int).toNat IntKind.u64.bits))+(wu64 u4a))).tmod (wu64 x1)) (decide_eq_true gd334) rfl rfl rfl) ?_
    refine sV (Ac rfl) ?_
    refine Ad<|h0d _ _<|Ae<|sV (Aa rfl) ?_
    refine sV (AV (c:=wi64 (v3a - 1)) rfl rfl rfl) ?_
    refine sV (Ac rfl) ?_
    refine Ad ?_
    exact ih7e _ _ ⟨((wu64 ((wu64 (v2a*2^min (32:Int).toNat IntKind.u64.bits))+(wu64 u4a))).tmod (wu64 x1)),(wi64 (v3a - 1)),(List.set v8a (v3a:Int).toNat (wu32 (wu64 ((wu64 ((wu64 (v2a*2^min (32:Int).toNat IntKind.u64.bits))+(wu64 u4a))).tdiv (wu64 x1))))),(tk [.int .u64 (wu64 ((wu64 (v2a*2^min (32:Int).toNat IntKind.u64.bits))+(wu64 u4a))),.int .i64 v3a,.bool z6a,.int .i64 v3a,.int .i64 (wi64 (v3a - 1)),.int .u64 v2a,.int .u64 (wu64 (v2a*2^min (32:Int).toNat IntKind.u64.bits)),.slice A1 x0.length c2,.int .i64 v3a,.pointer (some ⟨bb307,oo308+(v3a:Int).toNat,none⟩),.int .u32 u4a,.int .u64 (wu64 u4a),.int .u64 (wu64 ((wu64 (v2a*2^min (32:Int).toNat IntKind.u64.bits))+(wu64 u4a))),.slice A5a (((x0.length:Int):Int).toNat) (((x0.length:Int):Int).toNat),.int .i64 v3a,.int .u64 (wu64 ((wu64 (v2a*2^min (32:Int).toNat IntKind.u64.bits))+(wu64 u4a))),.int .u32 x1,.int .u64 (wu64 x1),.int .u64 (wu64 ((wu64 ((wu64 (v2a*2^min (32:Int).toNat IntKind.u64.bits))+(wu64 u4a))).tdiv (wu64 x1))),.int .u32 (wu32 (wu64 ((wu64 ((wu64 (v2a*2^min (32:Int).toNat IntKind.u64.bits))+(wu64 u4a))).tdiv (wu64 x1)))),.pointer (some ⟨bb321,0+(v3a:Int).toNat,none⟩),.int .u64 (wu64 ((wu64 (v2a*2^min (32:Int).toNat IntKind.u64.bits))+(wu64 u4a))),.int .u32 x1,.int .u64 (wu64 x1),.int .u64 ((wu64 ((wu64 (v2a*2^min (32:Int).toNat IntKind.u64.bits))+(wu64 u4a))).tmod (wu64 x1))]),X0g,X1g,ow9f,f3g,rfl⟩
   ·have p4g:=zN hz6a e9a
    have f5g:=ifN p4g hr2b
    refine wp_cond_false (Ai (evb rfl e9a))<|wp_exit ?_
    simp only [Exit.then,Exit.inBlock,↓reduceIte,Nat.reduceEqDiff]
    obtain rfl:=sj f5g
    exact ⟨_,rfl,(tk [.int .i64 v3a,t0a 0,.int .i64 v3a,.bool z6a,t0a 3,t0a 4,t0a 5,t0a 6,t0a 7,t0a 8,t0a 9,t0a 10,t0a 11,t0a 12,t0a 13,t0a 14,t0a 15,t0a 16,t0a 17,t0a 18,t0a 19,t0a 20,t0a 21,t0a 22,t0a 23,t0a 24]),X1b,X7c,ow0b,rfl⟩
 ·rintro _ w3 ⟨t1a,X6d,X6g,ow7d,rfl⟩ _ rfl
  refine h4c _ _<|wp_seq_k fun K8d h8d=>Ae<|sV (Aa rfl) ?_
  obtain ⟨r3b,h7g,f8g⟩:=Ab f6e
  refine sc (Af IM (by simp only [OW.len ow7d];rfl)) (CC m7a.2 A5a (((x0.length:Int):Int).toNat) w3 (tbx X6d hT) (OW.rl ow7d) r3b h7g) ?_
  rintro _ w4 E9d ⟨A4b,c5b,rfl,n9g⟩
  refine nrm ?_
  have X0e:=xtr X6d E9d
  have X0h:=xtr X6g E9d
  refine sV (Aa rfl) ?_
  obtain ⟨r6b,h1h,f2h⟩:=Ab f8g
  refine sc (Af LG (by rfl)) (Ff m7a.1 w4 (tbx X0e hT)  r6b h1h) ?_
  rintro _ w5 E7b ⟨A8b,c9b,rfl,n3h⟩
  refine nrm ?_
  have X4h:=xtr X0e E7b
  have X0c:=xtr X0h E7b
  refine sV (Bi (vals:=[(0,.slice A4b r3b.length c5b),(1,.slice A8b r6b.length c9b)]) (cells:=[.slice A4b r3b.length c5b,.slice A8b r6b.length c9b]) (by rfl) (by kernel_rfl)) ?_
  refine AA IN rfl rfl (q8.ext X0c) rfl rfl rfl rfl (by simp only [SP0,SP1,S0,S1,Nat.reduceAdd];rfl) fun w6 U1c q5h=>?_
  have X6h:=belU X4h U1c g7
  refine Ad<|h8d _ _<|wp_ret ?_
  have n7h:=(n9g.ext E7b).upd U1c (q8.ext X0c) (by decide)
  have n8h:=n3h.upd U1c (q8.ext X0c) (by decide)
  obtain rfl:=sj f2h
  exact fin rfl (Res.cellN rfl KP q5h rfl rfl Res.nil) (Ak X6h ⟨A4b,c5b,A8b,c9b,rfl,n7h,n8h⟩)
theorem Ds (x0:List Int) (x1:Int) (A1:Option Addr) (c2:Nat) (w:World) (hT:TB w) (n3:RLu w A1 c2 x0) (r:List Int) (hr:Bj x0 x1=some r) :
  Calls Tryz.prog 148 #[.slice A1 x0.length c2,.int .i64 x1] w (Ret JN w r):=by
 unfold Bj at hr
 go_enter Tryz.func148,Tryz.ntmps148
 refine wp_seq_k fun K4 h4=>Ae<|sV (Ac rfl) ?_
 refine Ad<|h4 _ _<|wp_seq_k fun K5 h5=>wp_seq_k fun K6 h6=>Ae<|sV (Aa rfl) ?_
 refine sV (Ax AP rfl) ?_
 refine sb (BE rfl rfl) fun z7 hz7=>?_
 refine nrm ?_
 refine Ad<|h6 _ _ ?_
 rcases bft z7 with e0b | e0b
 ·have p9d:=zP hz7 e0b
  have f0e:=ifP p9d hr
  refine wp_cond_true (Ai (evb rfl e0b))<|wp_seq_k fun K7b h7b=>Ae<|sV (Aa rfl) ?_
  refine sV (Ac rfl) ?_
  refine Ad<|h7b _ _<|wp_ret ?_
  obtain rfl:=sj f0e
  exact fin rfl (Res.tmp rfl Res.nil) (Ak (Ext.refl _) ⟨A1,c2,rfl,n3⟩)
 ·have p1e:=zN hz7 e0b
  have f2e:=ifN p1e hr
  refine wp_cond_false (Ai (evb rfl e0b))<|wp_skip<|h5 _ _<|wp_seq_k fun K8b h8b=>Ae<|sV (Aa rfl) ?_
  refine sV (FP (c:=wi64 (x1.tdiv 32)) (by decide) rfl rfl rfl) ?_
  refine sV (Aa rfl) ?_
  refine sV (FP (c:=wi64 (x1.tdiv 32)) (by decide) rfl rfl rfl) ?_
  refine sV (Aa rfl) ?_
  refine sV (Ax AP rfl) ?_
  refine sV (AO (c:=wi64 ((wi64 (x1.tdiv 32))+(x0.length:Int))) rfl rfl rfl) ?_
  refine sV (AO (c:=wi64 ((wi64 ((wi64 (x1.tdiv 32))+(x0.length:Int)))+1)) rfl rfl rfl) ?_
  obtain ⟨_,h3e,f4e⟩:=Ab f2e
  have gd22:=Ay h3e
  refine Gx AP CO rfl rfl gd22 fun A2b w1 E5e ow9b=>?_
  refine nrm ?_
  refine sV (Ac rfl) ?_
  refine Ad<|h8b _ _<|wp_seq_k fun K0c h0c=>Ae<|sV (Ac rfl) ?_
  refine Ad<|h0c _ _<|wp_seq_k fun K1c h1c=>wp_seq_k fun K2c h2c=>Ae<|sV (Ac rfl) ?_
  refine Ad<|h2c _ _ ?_
  obtain ⟨m5a,h6e,f7e⟩:=Ab f4e
  refine BZ (fun l l' w'=>∃(A3b:Option Addr) (c4b:Nat) (t1a:Nat→Value),Ext w w'∧OW 179 w.heap.size w' A3b m5a.2.length c4b m5a.2∧l'=[.slice A1 x0.length c2,.int .i64 x1,uu,uu,.slice none 0 0,.slice A3b m5a.2.length c4b,.int .u64 m5a.1,t1a 0,t1a 1,.slice A1 x0.length c2,.int .i64 (x0.length:Int),.bool z7,uu,.int .i64 x1,.int .i64 (wi64 (x1.tdiv 32)),.int .i64 x1,.int .i64 (wi64 (x1.tdiv 32)),.slice A1 x0.length c2,.int .i64 (x0.length:Int),.int .i64 (wi64 ((wi64 (x1.tdiv 32))+(x0.length:Int))),.int .i64 (wi64 ((wi64 ((wi64 (x1.tdiv 32))+(x0.length:Int)))+1)),t1a 2,t1a 3,.slice A1 x0.length c2,.int .i64 (x0.length:Int),t1a 4,t1a 5,t1a 6,t1a 7,t1a 8,t1a 9,t1a 10,t1a 11,t1a 12,t1a 13,t1a 14,t1a 15,t1a 16,t1a 17,t1a 18,t1a 19,t1a 20,t1a 21,t1a 22,t1a 23,uu,uu,uu,uu,uu,uu]) ?_ ?_
  ·apply wp_block
   refine AR (fun l n3c l' w'=>∃(v2a:Int) (v4a:Int) (v6a:List Int) (A7a:Option Addr) (c8a:Nat) (t0a:Nat→Value),Ext w w'∧OW 179 w.heap.size w' A7a v6a.length c8a v6a∧Bs x0 x1 n3c v2a v4a v6a=some m5a∧l'=[.slice A1 x0.length c2,.int .i64 x1,uu,uu,.slice none 0 0,.slice A7a v6a.length c8a,.int .u64 v2a,.int .i64 v4a,t0a 0,.slice A1 x0.length c2,.int .i64 (x0.length:Int),.bool z7,uu,.int .i64 x1,.int .i64 (wi64 (x1.tdiv 32)),.int .i64 x1,.int .i64 (wi64 (x1.tdiv 32)),.slice A1 x0.length c2,.int .i64 (x0.length:Int),.int .i64 (wi64 ((wi64 (x1.tdiv 32))+(x0.length:Int))),.int .i64 (wi64 ((wi64 ((wi64 (x1.tdiv 32))+(x0.length:Int)))+1)),.slice A2b (((wi64 (x1.tdiv 32)):Int).toNat) (((wi64 ((wi64 ((wi64 (x1.tdiv 32))+(x0.length:Int)))+1)):Int).toNat),t0a 1,t0a 2,t0a 3,t0a 4,t0a 5,t0a 6,t0a 7,t0a 8,t0a 9,t0a 10,t0a 11,t0a 12,t0a 13,t0a 14,t0a 15,t0a 16,t0a 17,t0a 18,t0a 19,t0a 20,t0a 21,t0a 22,t0a 23,uu,uu,uu,uu,uu,uu]) 18446744073709551616 ?_ ?_ ?_
   ·exact ⟨0,0,(List.replicate ((wi64 (x1.tdiv 32)):Int).toNat (0:Int)),A2b,(((wi64 ((wi64 ((wi64 (x1.tdiv 32))+(x0.length:Int)))+1)):Int).toNat),(tk [uu,uu,uu,uu,uu,uu,uu,uu,uu,uu,uu,uu,uu,uu,uu,uu,uu,uu,uu,uu,uu,uu,uu,uu]),E5e,(OW.nn ow9b),h6e,(by simp only [OW.len ow9b]<;>rfl)⟩
   ·rintro l' w' ⟨v2a,v4a,v6a,A7a,c8a,t0a,_,_,hz,_⟩
    exact nomatch hz
   ·rintro n3c ih8e _ w2 ⟨v2a,v4a,v6a,A7a,c8a,t0a,X5b,ow4c,hr6b,rfl⟩ _ rfl
    unfold Bs at hr6b
    refine Ba<|wp_seq_k fun K5c h5c=>wp_seq_k fun K6c h6c=>Ae<|sV (Aa rfl) ?_
    refine sV (Aa rfl) ?_
    refine sV (Ax AP rfl) ?_
    refine sb (CK rfl rfl) fun z9a hz9a=>?_
    refine nrm ?_
    refine Ad<|h6c _ _ ?_
    rcases bft z9a with e1b | e1b
    ·have p9e:=zP hz9a e1b
     have f0f:=ifP p9e hr6b
     refine wp_cond_true (Ai (evb rfl e1b))<|wp_skip<|h5c _ _<|wp_seq_k fun K7c h7c=>?_
     apply wp_block
     refine wp_seq_k fun K8c h8c=>Ae<|sV (Aa rfl) ?_
     refine sV (Aa rfl) ?_
     obtain ⟨u3a,h1f,f2f⟩:=Ab f0f
     obtain ⟨bb306,oo307,hA3f,ia4f,ib5f,hc309⟩:=RL.nth (n3.ext X5b) h1f
     refine sV (Ar AP An rfl rfl hA3f ia4f ib5f) ?_
     refine sV (Ag AN rfl hc309) ?_
     refine sV (AG (c:=wu64 u3a) AH AF rfl rfl) ?_
     refine sV (Aa rfl) ?_
     refine sV (HH (c:=x1.tmod 32) (by decide) rfl rfl rfl) ?_
     obtain ⟨_,h6f,f7f⟩:=Ab f2f
     have gd315:=Ay h6f
     refine sV (HM (c:=wu64 ((wu64 u3a)*2^min ((x1.tmod 32):Int).toNat IntKind.u64.bits)) gd315 rfl rfl rfl) ?_
     refine sV (Aa rfl) ?_
     refine sV (AO (c:=wu64 ((wu64 ((wu64 u3a)*2^min ((x1.tmod 32):Int).toNat IntKind.u64.bits))+v2a)) rfl rfl rfl) ?_
     refine sV (Ac rfl) ?_
     refine Ad<|h8c _ _<|wp_seq_k fun K9c h9c=>Ae<|sV (Aa rfl) ?_
     refine sV (Aa rfl) ?_
     refine sV (AG (c:=wu32 (wu64 ((wu64 ((wu64 u3a)*2^min ((x1.tmod 32):Int).toNat IntKind.u64.bits))+v2a))) AF AH rfl rfl) ?_
     refine DI (vals:=[(0,.int .u32 (wu32 (wu64 ((wu64 ((wu64 u3a)*2^min ((x1.tmod 32):Int).toNat IntKind.u64.bits))+v2a))))]) (cs:=[.int .u32 (wu32 (wu64 ((wu64 ((wu64 u3a)*2^min ((x1.tmod 32):Int).toNat IntKind.u64.bits))+v2a)))]) AP An FK (by rfl) (by decide) (by kernel_rfl) fun b0d w3 E1d g4i q8f=>?_
     refine nrm ?_
     have X2d:=xtr X5b E1d
     have n9f:RLu w3 (some ⟨b0d,0,none⟩) 1 [(wu32 (wu64 ((wu64 ((wu64 u3a)*2^min ((x1.tmod 32):Int).toNat IntKind.u64.bits))+v2a)))]:=(OW.lit (n0:=0) (n:=1) (xs:=[(wu32 (wu64 ((wu64 ((wu64 u3a)*2^min ((x1.tmod 32):Int).toNat IntKind.u64.bits))+v2a)))]) q8f (Nat.zero_le _) rfl (by decide)).rl
     obtain ⟨_,h0g,f1g⟩:=Ab f7f
     have gd325:=Ay h0g
     refine HN AP CO rfl rfl rfl (ow4c.ext E1d) n9f gd325 X2d.size fun A3d c4d w4 B328 ow2g=>?_
     refine nrm ?_
     have X3g:=xO X2d B328 (Nat.le_refl _)
     refine sV (Ac rfl) ?_
     refine Ad<|h9c _ _<|Ae<|sV (Aa rfl) ?_
     refine sV (Gu (c:=(wu64 ((wu64 ((wu64 u3a)*2^min ((x1.tmod 32):Int).toNat IntKind.u64.bits))+v2a)).fdiv (2^min (32:Int).toNat IntKind.u64.bits)) (by decide) rfl rfl rfl) ?_
     refine sV (Ac rfl) ?_
     refine Ad<|h7c _ _<|Ae<|sV (Aa rfl) ?_
     refine sV (AO (c:=wi64 (v4a+1)) rfl rfl rfl) ?_
     refine sV (Ac rfl) ?_
     refine Ad ?_
     exact ih8e _ _ ⟨((wu64 ((wu64 ((wu64 u3a)*2^min ((x1.tmod 32):Int).toNat IntKind.u64.bits))+v2a)).fdiv (2^min (32:Int).toNat IntKind.u64.bits)),(wi64 (v4a+1)),(v6a++([(wu32 (wu64 ((wu64 ((wu64 u3a)*2^min ((x1.tmod 32):Int).toNat IntKind.u64.bits))+v2a)))]:List Int)),A3d,c4d,(tk [.int .u64 (wu64 ((wu64 ((wu64 u3a)*2^min ((x1.tmod 32):Int).toNat IntKind.u64.bits))+v2a)),.int .i64 v4a,.slice A1 x0.length c2,.int .i64 (x0.length:Int),.bool z9a,.int .i64 v4a,.int .i64 (wi64 (v4a+1)),.slice A1 x0.length c2,.int .i64 v4a,.pointer (some ⟨bb306,oo307+(v4a:Int).toNat,none⟩),.int .u32 u3a,.int .u64 (wu64 u3a),.int .i64 x1,.int .i64 (x1.tmod 32),.int .u64 (wu64 ((wu64 u3a)*2^min ((x1.tmod 32):Int).toNat IntKind.u64.bits)),.int .u64 v2a,.int .u64 (wu64 ((wu64 ((wu64 u3a)*2^min ((x1.tmod 32):Int).toNat IntKind.u64.bits))+v2a)),.slice A7a v6a.length c8a,.int .u64 (wu64 ((wu64 ((wu64 u3a)*2^min ((x1.tmod 32):Int).toNat IntKind.u64.bits))+v2a)),.int .u32 (wu32 (wu64 ((wu64 ((wu64 u3a)*2^min ((x1.tmod 32):Int).toNat IntKind.u64.bits))+v2a))),.slice (some ⟨b0d,0,none⟩) 1 1,.slice A3d (List.length (v6a++([(wu32 (wu64 ((wu64 ((wu64 u3a)*2^min ((x1.tmod 32):Int).toNat IntKind.u64.bits))+v2a)))]:List Int))) c4d,.int .u64 (wu64 ((wu64 ((wu64 u3a)*2^min ((x1.tmod 32):Int).toNat IntKind.u64.bits))+v2a)),.int .u64 ((wu64 ((wu64 ((wu64 u3a)*2^min ((x1.tmod 32):Int).toNat IntKind.u64.bits))+v2a)).fdiv (2^min (32:Int).toNat IntKind.u64.bits))]),X3g,(OW.nn ow2g),f1g,rfl⟩
    ·have p4g:=zN hz9a e1b
     have f5g:=ifN p4g hr6b
     refine wp_cond_false (Ai (evb rfl e1b))<|wp_exit ?_
     simp only [Exit.then,Exit.inBlock,↓reduceIte,Nat.reduceEqDiff]
     obtain rfl:=sj f5g
     exact ⟨_,rfl,A7a,c8a,(tk [.int .i64 v4a,t0a 0,.slice A2b (((wi64 (x1.tdiv 32)):Int).toNat) (((wi64 ((wi64 ((wi64 (x1.tdiv 32))+(x0.length:Int)))+1)):Int).toNat),.int .i64 v4a,.bool z9a,t0a 5,t0a 6,t0a 7,t0a 8,t0a 9,t0a 10,t0a 11,t0a 12,t0a 13,t0a 14,t0a 15,t0a 16,t0a 17,t0a 18,t0a 19,t0a 20,t0a 21,t0a 22,t0a 23]),X5b,(OW.nn ow4c),rfl⟩
  ·rintro _ w2 ⟨A3b,c4b,t1a,X6g,ow7g,rfl⟩ _ rfl
   refine h1c _ _<|wp_seq_k fun K5d h5d=>Ae<|sV (Aa rfl) ?_
   refine sV (Aa rfl) ?_
   refine sV (AG (c:=wu32 m5a.1) AF AH rfl rfl) ?_
   refine DI (vals:=[(0,.int .u32 (wu32 m5a.1))]) (cs:=[.int .u32 (wu32 m5a.1)]) AP An FK (by rfl) (by decide) (by kernel_rfl) fun b8g w3 E6d g5i q9g=>?_
   refine nrm ?_
   have X7d:=xtr X6g E6d
   have n0h:RLu w3 (some ⟨b8g,0,none⟩) 1 [(wu32 m5a.1)]:=(OW.lit (n0:=0) (n:=1) (xs:=[(wu32 m5a.1)]) q9g (Nat.zero_le _) rfl (by decide)).rl
   obtain ⟨_,h1h,f2h⟩:=Ab f7e
   have gd340:=Ay h1h
   refine HN AP CO rfl rfl rfl (ow7g.ext E6d) n0h gd340 X7d.size fun A3h c4h w4 B343 ow5h=>?_
   refine nrm ?_
   have X8d:=xO X7d B343 (Nat.le_refl _)
   obtain ⟨r6h,h7h,f8h⟩:=Ab f2h
   refine sc (Af IM (by rfl)) (CC (m5a.2++([(wu32 m5a.1)]:List Int)) A3h c4h w4 (tbx X8d hT) (OW.rl ow5h) r6h h7h) ?_
   rintro _ w5 E9h ⟨A0i,c1i,rfl,n2i⟩
   refine nrm ?_
   have X3i:=xtr X8d E9h
   refine sV (Ac rfl) ?_
   refine Ad<|h5d _ _<|wp_ret ?_
   obtain rfl:=sj f8h
   exact fin rfl (Res.tmp rfl Res.nil) (Ak X3i ⟨A0i,c1i,rfl,n2i⟩)
theorem FE (x0:List Int) (x1:Int) (A1:Option Addr) (c2:Nat) (w:World) (hT:TB w) (n3:RLu w A1 c2 x0) (r:List Int) (hr:BM x0 x1=some r) :
  Calls Tryz.prog 154 #[.slice A1 x0.length c2,.int .i64 x1] w (Ret JN w r):=by
 unfold BM at hr
 go_enter Tryz.func154,Tryz.ntmps154
 refine wp_seq_k fun K4 h4=>Ae<|sV (Ac rfl) ?_
 refine Ad<|h4 _ _<|wp_seq_k fun K5 h5=>wp_seq_k fun K6 h6=>Ae<|sV (Aa rfl) ?_
 refine sV (FP (c:=wi64 (x1.tdiv 32)) (by decide) rfl rfl rfl) ?_
 refine sV (Aa rfl) ?_
 refine sV (Ax AP rfl) ?_
 refine sb (Fl rfl rfl) fun z7 hz7=>?_
 refine nrm ?_
 refine Ad<|h6 _ _ ?_
 rcases bft z7 with e9a | e9a
 ·have p6d:=zP hz7 e9a
  have f7d:=ifP p6d hr
  refine wp_cond_true (Ai (evb rfl e9a))<|wp_seq_k fun K7b h7b=>Ae<|sV (Ac rfl) ?_
  refine Ad<|h7b _ _<|wp_ret ?_
  obtain rfl:=sj f7d
  exact fin rfl (Res.tmp rfl Res.nil) (Ak (Ext.refl _) ⟨none,0,rfl,(RL.nil _ _ _)⟩)
 ·have p8d:=zN hz7 e9a
  have f9d:=ifN p8d hr
  refine wp_cond_false (Ai (evb rfl e9a))<|wp_skip<|h5 _ _<|wp_seq_k fun K8b h8b=>Ae<|sV (Ac rfl) ?_
  refine Ad<|h8b _ _<|wp_seq_k fun K9b h9b=>wp_seq_k fun K0c h0c=>Ae<|sV (Aa rfl) ?_
  refine sV (FP (c:=wi64 (x1.tdiv 32)) (by decide) rfl rfl rfl) ?_
  refine sV (Ac rfl) ?_
  refine Ad<|h0c _ _ ?_
  obtain ⟨m0b,h0e,f1e⟩:=Ab f9d
  refine BZ (fun l l' w'=>∃(A2b:Option Addr) (c3b:Nat) (t1a:Nat→Value),Ext w w'∧OW 179 w.heap.size w' A2b m0b.length c3b m0b∧l'=[.slice A1 x0.length c2,.int .i64 x1,uu,uu,.slice none 0 0,.slice A2b m0b.length c3b,t1a 0,t1a 1,.int .i64 x1,.int .i64 (wi64 (x1.tdiv 32)),.slice A1 x0.length c2,.int .i64 (x0.length:Int),.bool z7,.int .i64 x1,.int .i64 (wi64 (x1.tdiv 32)),t1a 2,.slice A1 x0.length c2,.int .i64 (x0.length:Int),t1a 3,t1a 4,t1a 5,t1a 6,t1a 7,t1a 8,t1a 9,t1a 10,t1a 11,t1a 12,t1a 13,t1a 14,t1a 15,t1a 16,t1a 17,t1a 18,t1a 19,t1a 20,t1a 21,t1a 22,uu,uu]) ?_ ?_
  ·apply wp_block
   refine AR (fun l n1c l' w'=>∃(v3a:Int) (v5a:List Int) (A6a:Option Addr) (c7a:Nat) (t0a:Nat→Value),Ext w w'∧OW 179 w.heap.size w' A6a v5a.length c7a v5a∧CN x0 x1 n1c v3a v5a=some m0b∧l'=[.slice A1 x0.length c2,.int .i64 x1,uu,uu,.slice none 0 0,.slice A6a v5a.length c7a,.int .i64 v3a,t0a 0,.int .i64 x1,.int .i64 (wi64 (x1.tdiv 32)),.slice A1 x0.length c2,.int .i64 (x0.length:Int),.bool z7,.int .i64 x1,.int .i64 (wi64 (x1.tdiv 32)),t0a 1,t0a 2,t0a 3,t0a 4,t0a 5,t0a 6,t0a 7,t0a 8,t0a 9,t0a 10,t0a 11,t0a 12,t0a 13,t0a 14,t0a 15,t0a 16,t0a 17,t0a 18,t0a 19,t0a 20,t0a 21,t0a 22,t0a 23,uu,uu]) 18446744073709551616 ?_ ?_ ?_
   ·exact ⟨(wi64 (x1.tdiv 32)),([]:List Int),none,0,(tk [uu,uu,uu,uu,uu,uu,uu,uu,uu,uu,uu,uu,uu,uu,uu,uu,uu,uu,uu,uu,uu,uu,uu,uu]),(Ext.refl _),(OW.nn (OW.nil 179 w.heap.size w none)),h0e,(by simp only [OW.len (OW.nil 179 w.heap.size w none)]<;>rfl)⟩
   ·rintro l' w' ⟨v3a,v5a,A6a,c7a,t0a,_,_,hz,_⟩
    exact nomatch hz
   ·rintro n1c ih2e _ w1 ⟨v3a,v5a,A6a,c7a,t0a,X4b,ow2c,hr5b,rfl⟩ _ rfl
    unfold CN at hr5b
    refine Ba<|wp_seq_k fun K3c h3c=>wp_seq_k fun K4c h4c=>Ae<|sV (Aa rfl) ?_
    refine sV (Aa rfl) ?_
    refine sV (Ax AP rfl) ?_
    refine sb (CK rfl rfl) fun z8a hz8a=>?_
    refine nrm ?_
    refine Ad<|h4c _ _ ?_
    rcases bft z8a with e1b | e1b
    ·have p3e:=zP hz8a e1b
     have f4e:=ifP p3e hr5b
     refine wp_cond_true (Ai (evb rfl e1b))<|wp_skip<|h3c _ _<|wp_seq_k fun K5c h5c=>?_
     apply wp_block
     refine wp_seq_k fun K6c h6c=>Ae<|sV (Aa rfl) ?_
     refine sV (Aa rfl) ?_
     refine sV (AO (c:=wi64 (v3a+1)) rfl rfl rfl) ?_
     obtain ⟨r2a,h5e,f6e⟩:=Ab f4e
     refine sc (Af Ib (by rfl)) (BY x0 (wi64 (v3a+1)) A1 c2 w1 (tbx X4b hT) (n3.ext X4b) r2a h5e) ?_
     rintro _ w2 E7c rfl
     refine nrm ?_
     have X6b:=xtr X4b E7c
     refine sV (HM (c:=wu64 (r2a*2^min (32:Int).toNat IntKind.u64.bits)) (by decide) rfl rfl rfl) ?_
     refine sV (Aa rfl) ?_
     refine sV (Aa rfl) ?_
     obtain ⟨r4a,h7e,f8e⟩:=Ab f6e
     refine sc (Af Ib (by rfl)) (BY x0 v3a A1 c2 w2 (tbx X6b hT) (n3.ext X6b) r4a h7e) ?_
     rintro _ w3 E8c rfl
     refine nrm ?_
     have X9e:=xtr X6b E8c
     refine sV (AO (c:=wu64 ((wu64 (r2a*2^min (32:Int).toNat IntKind.u64.bits))+r4a)) rfl rfl rfl) ?_
     refine sV (Aa rfl) ?_
     refine sV (HH (c:=x1.tmod 32) (by decide) rfl rfl rfl) ?_
     obtain ⟨_,h0f,f1f⟩:=Ab f8e
     have gd496:=Ay h0f
     refine sV (Gu (c:=(wu64 ((wu64 (r2a*2^min (32:Int).toNat IntKind.u64.bits))+r4a)).fdiv (2^min ((x1.tmod 32):Int).toNat IntKind.u64.bits)) gd496 rfl rfl rfl) ?_
     refine sV (Ac rfl) ?_
     refine Ad<|h6c _ _<|Ae<|sV (Aa rfl) ?_
     refine sV (Aa rfl) ?_
     refine sV (AG (c:=wu32 ((wu64 ((wu64 (r2a*2^min (32:Int).toNat IntKind.u64.bits))+r4a)).fdiv (2^min ((x1.tmod 32):Int).toNat IntKind.u64.bits))) AF AH rfl rfl) ?_
     refine DI (vals:=[(0,.int .u32 (wu32 ((wu64 ((wu64 (r2a*2^min (32:Int).toNat IntKind.u64.bits))+r4a)).fdiv (2^min ((x1.tmod 32):Int).toNat IntKind.u64.bits))))]) (cs:=[.int .u32 (wu32 ((wu64 ((wu64 (r2a*2^min (32:Int).toNat IntKind.u64.bits))+r4a)).fdiv (2^min ((x1.tmod 32):Int).toNat IntKind.u64.bits)))]) AP An FK (by rfl) (by decide) (by kernel_rfl) fun b9c w4 E0d g0h q2f=>?_
     refine nrm ?_
     have X1d:=xtr X9e E0d
     have n3f:RLu w4 (some ⟨b9c,0,none⟩) 1 [(wu32 ((wu64 ((wu64 (r2a*2^min (32:Int).toNat IntKind.u64.bits))+r4a)).fdiv (2^min ((x1.tmod 32):Int).toNat IntKind.u64.bits)))]:=(OW.lit (n0:=0) (n:=1) (xs:=[(wu32 ((wu64 ((wu64 (r2a*2^min (32:Int).toNat IntKind.u64.bits))+r4a)).fdiv (2^min ((x1.tmod 32):Int).toNat IntKind.u64.bits)))]) q2f (Nat.zero_le _) rfl (by decide)).rl
     have ow4f:=((ow2c.ext E7c).ext E8c).ext E0d
     obtain ⟨_,h5f,f6f⟩:=Ab f1f
     have gd506:=Ay h5f
     refine HN AP CO rfl rfl rfl ow4f n3f gd506 X1d.size fun A2d c3d w5 B509 ow7f=>?_
     refine nrm ?_
     have X8f:=xO X1d B509 (Nat.le_refl _)
     refine sV (Ac rfl) ?_
     refine Ad<|h5c _ _<|Ae<|sV (Aa rfl) ?_
     refine sV (AO (c:=wi64 (v3a+1)) rfl rfl rfl) ?_
     refine sV (Ac rfl) ?_
     refine Ad ?_
     exact ih2e _ _ ⟨(wi64 (v3a+1)),(v5a++([(wu32 ((wu64 ((wu64 (r2a*2^min (32:Int).toNat IntKind.u64.bits))+r4a)).fdiv (2^min ((x1.tmod 32):Int).toNat IntKind.u64.bits)))]:List Int)),A2d,c3d,(tk [.int .u64 ((wu64 ((wu64 (r2a*2^min (32:Int).toNat IntKind.u64.bits))+r4a)).fdiv (2^min ((x1.tmod 32):Int).toNat IntKind.u64.bits)),.int .i64 v3a,.slice A1 x0.length c2,.int .i64 (x0.length:Int),.bool z8a,.int .i64 v3a,.int .i64 (wi64 (v3a+1)),.slice A1 x0.length c2,.int .i64 v3a,.int .i64 (wi64 (v3a+1)),.int .u64 r2a,.int .u64 (wu64 (r2a*2^min (32:Int).toNat IntKind.u64.bits)),.slice A1 x0.length c2,.int .i64 v3a,.int .u64 r4a,.int .u64 (wu64 ((wu64 (r2a*2^min (32:Int).toNat IntKind.u64.bits))+r4a)),.int .i64 x1,.int .i64 (x1.tmod 32),.int .u64 ((wu64 ((wu64 (r2a*2^min (32:Int).toNat IntKind.u64.bits))+r4a)).fdiv (2^min ((x1.tmod 32):Int).toNat IntKind.u64.bits)),.slice A6a v5a.length c7a,.int .u64 ((wu64 ((wu64 (r2a*2^min (32:Int).toNat IntKind.u64.bits))+r4a)).fdiv (2^min ((x1.tmod 32):Int).toNat IntKind.u64.bits)),.int .u32 (wu32 ((wu64 ((wu64 (r2a*2^min (32:Int).toNat IntKind.u64.bits))+r4a)).fdiv (2^min ((x1.tmod 32):Int).toNat IntKind.u64.bits))),.slice (some ⟨b9c,0,none⟩) 1 1,.slice A2d (List.length (v5a++([(wu32 ((wu64 ((wu64 (r2a*2^min (32:Int).toNat IntKind.u64.bits))+r4a)).fdiv (2^min ((x1.tmod 32):Int).toNat IntKind.u64.bits)))]:List Int))) c3d]),X8f,(OW.nn ow7f),f6f,rfl⟩
    ·have p9f:=zN hz8a e1b
     have f0g:=ifN p9f hr5b
     refine wp_cond_false (Ai (evb rfl e1b))<|wp_exit ?_
     simp only [Exit.then,Exit.inBlock,↓reduceIte,Nat.reduceEqDiff]
     obtain rfl:=sj f0g
     exact ⟨_,rfl,A6a,c7a,(tk [.int .i64 v3a,t0a 0,.int .i64 v3a,.bool z8a,t0a 5,t0a 6,t0a 7,t0a 8,t0a 9,t0a 10,t0a 11,t0a 12,t0a 13,t0a 14,t0a 15,t0a 16,t0a 17,t0a 18,t0a 19,t0a 20,t0a 21,t0a 22,t0a 23]),X4b,(OW.nn ow2c),rfl⟩
  ·rintro _ w1 ⟨A2b,c3b,t1a,X4d,ow1g,rfl⟩ _ rfl
   refine h9b _ _<|wp_seq_k fun K5d h5d=>Ae<|sV (Aa rfl) ?_
   obtain ⟨r2g,h3g,f4g⟩:=Ab f1e
   refine sc (Af IM (by rfl)) (CC m0b A2b c3b w1 (tbx X4d hT) (OW.rl ow1g) r2g h3g) ?_
   rintro _ w2 E5g ⟨A6g,c7g,rfl,n8g⟩
   refine nrm ?_
   have X9g:=xtr X4d E5g
   refine sV (Ac rfl) ?_
   refine Ad<|h5d _ _<|wp_ret ?_
   obtain rfl:=sj f4g
   exact fin rfl (Res.tmp rfl Res.nil) (Ak X9g ⟨A6g,c7g,rfl,n8g⟩)
theorem c_sorobanref01_Trim_o (x0:List Int) (A1:Option Addr) (c2:Nat) (w:World) (hT:TB w) (n3:RLu w A1 c2 x0) (r:List Int) (hr:DU x0=some r) :
  Calls Tryz.prog 210 #[.slice A1 x0.length c2] w (Ret (repo w) w r):=by
 unfold DU at hr
 go_enter Tryz.func210,Tryz.ntmps210
 refine wp_seq_k fun K4 h4=>Ae<|sV (Ac rfl) ?_
 refine Ad<|h4 _ _<|wp_seq_k fun K5 h5=>Ae<|sV (Aa rfl) ?_
 refine sV (Ax AP rfl) ?_
 refine sV (Ac rfl) ?_
 refine Ad<|h5 _ _<|wp_seq_k fun K6 h6=>?_
 obtain ⟨m7a,h0c,f1c⟩:=Ab hr
 refine BZ (fun l l' w'=>∃(t4a:Nat→Value),w=w'∧l'=(((((((((((((l.set 3 (.int .i64 m7a)).set 6 (t4a 0)).set 7 (t4a 1)).set 8 (t4a 2)).set 9 (t4a 3)).set 10 (t4a 4)).set 11 (t4a 5)).set 12 (t4a 6)).set 13 (t4a 7)).set 14 (t4a 8)).set 15 (t4a 9)).set 16 (t4a 10)).set 17 (t4a 11))) ?_ ?_
 ·apply wp_block
  refine AR (fun l n3b l' w'=>∃(v3a:Int) (t2a:Nat→Value),w=w'∧CI x0 n3b v3a=some m7a∧l'=(((((((((((((l.set 3 (.int .i64 v3a)).set 6 (t2a 0)).set 7 (t2a 1)).set 8 (t2a 2)).set 9 (t2a 3)).set 10 (t2a 4)).set 11 (t2a 5)).set 12 (t2a 6)).set 13 (t2a 7)).set 14 (t2a 8)).set 15 (t2a 9)).set 16 (t2a 10)).set 17 (t2a 11))) 18446744073709551616 ?_ ?_ ?_
  ·exact ⟨(x0.length:Int),(tk [uu,uu,uu,uu,uu,uu,uu,uu,uu,uu,uu,uu]),(by trivial),h0c,(by simp only [S0,S1]<;>rfl)⟩
  ·rintro l' w' ⟨v3a,t2a,_,hz,_⟩
   exact nomatch hz
  ·rintro n3b ih2c l' _ ⟨v3a,t2a,rfl,hr4b,hq'⟩ l'' hl
   rw [hq'] at hl
   clear hq'
   simp only [S0,S1] at hl
   subst hl
   unfold CI at hr4b
   refine Ba<|wp_seq_k fun K5b h5b=>wp_seq_k fun K6b h6b=>Ae<|sV (Aa rfl) ?_
   refine sb (Eu rfl rfl) fun z5a hz5a=>?_
   refine nrm ?_
   refine sV (Aa rfl) ?_
   obtain ⟨m8a,h7b,f8b⟩:=Ab hr4b
   refine BB 10 (fun l l' w'=>∃(t0a:Nat→Value),w=w'∧l'=(((((((l.set 9 (t0a 0)).set 10 (t0a 1)).set 11 (t0a 2)).set 12 (t0a 3)).set 13 (t0a 4)).set 14 (t0a 5)).set 15 (.bool m8a))) ?_ ?_
   ·intro HJ299
    rcases bft z5a with e1a | e1a
    ·have p3c:=zP hz5a e1a
     have f4c:=ifP p3c h7b
     refine sV (Aa rfl) ?_ (hw:=wgT rfl e1a)
     refine sV (Aa rfl) ?_ (hw:=wgT rfl e1a)
     refine sV (AV (c:=wi64 (v3a - 1)) rfl rfl rfl) ?_ (hw:=wgT rfl e1a)
     obtain ⟨u9a,h5c,f6c⟩:=Ab f4c
     obtain ⟨bb308,oo309,hA7c,ia8c,ib9c,hc311⟩:=RL.nth n3 h5c
     refine sV (Ar AP An rfl rfl hA7c ia8c ib9c) ?_ (hw:=wgT rfl e1a)
     refine sV (Ag AN rfl hc311) ?_ (hw:=wgT rfl e1a)
     refine sb (BE rfl rfl) ?_ (hw:=wgT rfl e1a)
     intro z0b hz0b
     refine nrm ?_
     refine sV (Aw (evb rfl e1a) rfl) ?_
     obtain rfl:z0b=decide (u9a=0):=bz hz0b
     obtain rfl:=sj f6c
     exact HJ299 _ _ ⟨(tk [.slice A1 x0.length c2,.int .i64 v3a,.int .i64 (wi64 (v3a - 1)),.pointer (some ⟨bb308,oo309+((wi64 (v3a - 1)):Int).toNat,none⟩),.int .u32 u9a,.bool (decide (u9a=0))]),(by trivial),(by simp only [S0,S1]<;>rfl)⟩
    ·have p0d:=zN hz5a e1a
     have f1d:=ifN p0d h7b
     refine sP ?_ (hw:=wgF rfl e1a)
     refine sP ?_ (hw:=wgF rfl e1a)
     refine sP ?_ (hw:=wgF rfl e1a)
     refine sP ?_ (hw:=wgF rfl e1a)
     refine sP ?_ (hw:=wgF rfl e1a)
     refine sP ?_ (hw:=wgF rfl e1a)
     refine sV (AB (evb rfl e1a) rfl) ?_
     obtain rfl:=sj f1d
     exact HJ299 _ _ ⟨(tk [uu,uu,uu,uu,uu,uu]),(by trivial),(by simp only [S0,S1]<;>rfl)⟩
   ·rintro l' _ ⟨t0a,rfl,hq'⟩ l'' hl
    rw [hq'] at hl
    clear hq'
    simp only [S0,S1] at hl
    subst hl
    refine Ad<|h6b _ _ ?_
    rcases bft m8a with e6a | e6a
    ·have p2d:=e6a
     have f3d:=ifP p2d f8b
     refine wp_cond_true (Ai (evb rfl e6a))<|wp_skip<|h5b _ _ ?_
     apply wp_block
     refine Ae<|sV (Aa rfl) ?_
     refine sV (AV (c:=wi64 (v3a - 1)) rfl rfl rfl) ?_
     refine sV (Ac rfl) ?_
     refine Ad ?_
     exact ih2c _ _ ⟨(wi64 (v3a - 1)),(tk [.int .i64 v3a,.bool z5a,.bool z5a,t0a 0,t0a 1,t0a 2,t0a 3,t0a 4,t0a 5,.bool m8a,.int .i64 v3a,.int .i64 (wi64 (v3a - 1))]),(by trivial),f3d,(by simp only [S0,S1]<;>rfl)⟩
    ·have p4d:=bF e6a
     have f5d:=ifN p4d f8b
     refine wp_cond_false (Ai (evb rfl e6a))<|wp_exit ?_
     simp only [Exit.then,Exit.inBlock,↓reduceIte,Nat.reduceEqDiff]
     obtain rfl:=sj f5d
     exact ⟨_,rfl,(tk [.int .i64 v3a,.bool z5a,.bool z5a,t0a 0,t0a 1,t0a 2,t0a 3,t0a 4,t0a 5,.bool m8a,t2a 10,t2a 11]),(by trivial),(by simp only [S0,S1]<;>rfl)⟩
 ·rintro l' _ ⟨t4a,rfl,hq'⟩ l'' hl
  rw [hq'] at hl
  clear hq'
  simp only [S0,S1] at hl
  subst hl
  refine h6 _ _<|wp_seq_k fun K9b h9b=>Ae<|KF AP CO fun A6d w1 E1b=>?_
  refine nrm ?_
  refine sV (Aa rfl) ?_
  refine sV (Aa rfl) ?_
  obtain ⟨_,h7d,f8d⟩:=Ab f1c
  have gd332:=Ay h7d
  refine KX (lo:=0) (hi:=(m7a:Int).toNat) AP An rfl rfl ⟨.i64,by rw [Int.toNat_of_nonneg (a:=m7a) (by omega)];rfl⟩ (by omega) (by omega) (n3.ext E1b) fun A5e c6e n9d=>?_
  refine nrm ?_
  obtain ⟨_,h0e,f1e⟩:=Ab f8d
  have gd338:=Ay h0e
  refine HN AP CO rfl rfl rfl (OW.nil 179 w.heap.size w1 A6d) n9d gd338 E1b.size fun A2e c3e w2 B341 ow2b=>?_
  refine nrm ?_
  have X4e:=xO E1b B341 (Nat.le_refl _)
  refine sV (Ac rfl) ?_
  refine Ad<|h9b _ _<|wp_ret ?_
  obtain rfl:=sj f1e
  exact fin rfl (Res.tmp rfl Res.nil) (Ak X4e ⟨A2e,c3e,(by rw [OW.len ow2b];rfl),(by rw [OW.len ow2b];exact OW.mono ow2b (Nat.le_refl _))⟩)
theorem Hw (x0:List Int) (x1:Int) (A1:Option Addr) (c2:Nat) (w:World) (hT:TB w) (n3:RLu w A1 c2 x0) (r:List Int) (hr:DC x0 x1=some r) :
  Calls Tryz.prog 148 #[.slice A1 x0.length c2,.int .i64 x1] w (Ret (repo w) w r):=by
 unfold DC at hr
 go_enter Tryz.func148,Tryz.ntmps148
 refine wp_seq_k fun K4 h4=>Ae<|sV (Ac rfl) ?_
 refine Ad<|h4 _ _<|wp_seq_k fun K5 h5=>wp_seq_k fun K6 h6=>Ae<|sV (Aa rfl) ?_
 refine sV (Ax AP rfl) ?_
 refine sb (BE rfl rfl) fun z7 hz7=>?_
 refine nrm ?_
 refine Ad<|h6 _ _ ?_
 rcases bft z7 with e0b | e0b
 ·have p1e:=zP hz7 e0b
  have f2e:=ifP p1e hr
  refine wp_cond_true (Ai (evb rfl e0b))<|wp_seq_k fun K9b h9b=>Ae<|sV (Aa rfl) ?_
  refine sV (Ac rfl) ?_
  refine Ad<|h9b _ _<|wp_ret ?_
  exact nomatch f2e
 ·have p3e:=zN hz7 e0b
  have f4e:=ifN p3e hr
  refine wp_cond_false (Ai (evb rfl e0b))<|wp_skip<|h5 _ _<|wp_seq_k fun K0c h0c=>Ae<|sV (Aa rfl) ?_
  refine sV (FP (c:=wi64 (x1.tdiv 32)) (by decide) rfl rfl rfl) ?_
  refine sV (Aa rfl) ?_
  refine sV (FP (c:=wi64 (x1.tdiv 32)) (by decide) rfl rfl rfl) ?_
  refine sV (Aa rfl) ?_
  refine sV (Ax AP rfl) ?_
  refine sV (AO (c:=wi64 ((wi64 (x1.tdiv 32))+(x0.length:Int))) rfl rfl rfl) ?_
  refine sV (AO (c:=wi64 ((wi64 ((wi64 (x1.tdiv 32))+(x0.length:Int)))+1)) rfl rfl rfl) ?_
  obtain ⟨_,h5e,f6e⟩:=Ab f4e
  have gd22:=Ay h5e
  refine Gx AP CO rfl rfl gd22 fun A2b w1 E7e ow1c=>?_
  refine nrm ?_
  refine sV (Ac rfl) ?_
  refine Ad<|h0c _ _<|wp_seq_k fun K2c h2c=>Ae<|sV (Ac rfl) ?_
  refine Ad<|h2c _ _<|wp_seq_k fun K3c h3c=>wp_seq_k fun K4c h4c=>Ae<|sV (Ac rfl) ?_
  refine Ad<|h4c _ _ ?_
  obtain ⟨m5a,h8e,f9e⟩:=Ab f6e
  refine BZ (fun l l' w'=>∃(A3b:Option Addr) (c4b:Nat) (t1a:Nat→Value),Ext w w'∧OW 179 w.heap.size w' A3b m5a.2.length c4b m5a.2∧l'=[.slice A1 x0.length c2,.int .i64 x1,uu,uu,.slice none 0 0,.slice A3b m5a.2.length c4b,.int .u64 m5a.1,t1a 0,t1a 1,.slice A1 x0.length c2,.int .i64 (x0.length:Int),.bool z7,uu,.int .i64 x1,.int .i64 (wi64 (x1.tdiv 32)),.int .i64 x1,.int .i64 (wi64 (x1.tdiv 32)),.slice A1 x0.length c2,.int .i64 (x0.length:Int),.int .i64 (wi64 ((wi64 (x1.tdiv 32))+(x0.length:Int))),.int .i64 (wi64 ((wi64 ((wi64 (x1.tdiv 32))+(x0.length:Int)))+1)),t1a 2,t1a 3,.slice A1 x0.length c2,.int .i64 (x0.length:Int),t1a 4,t1a 5,t1a 6,t1a 7,t1a 8,t1a 9,t1a 10,t1a 11,t1a 12,t1a 13,t1a 14,t1a 15,t1a 16,t1a 17,t1a 18,t1a 19,t1a 20,t1a 21,t1a 22,t1a 23,uu,uu,uu,uu,uu,uu]) ?_ ?_
  ·apply wp_block
   refine AR (fun l n5c l' w'=>∃(v2a:Int) (v4a:Int) (v6a:List Int) (A7a:Option Addr) (c8a:Nat) (t0a:Nat→Value),Ext w w'∧OW 179 w.heap.size w' A7a v6a.length c8a v6a∧Db x0 x1 n5c v2a v4a v6a=some m5a∧l'=[.slice A1 x0.length c2,.int .i64 x1,uu,uu,.slice none 0 0,.slice A7a v6a.length c8a,.int .u64 v2a,.int .i64 v4a,t0a 0,.slice A1 x0.length c2,.int .i64 (x0.length:Int),.bool z7,uu,.int .i64 x1,.int .i64 (wi64 (x1.tdiv 32)),.int .i64 x1,.int .i64 (wi64 (x1.tdiv 32)),.slice A1 x0.length c2,.int .i64 (x0.length:Int),.int .i64 (wi64 ((wi64 (x1.tdiv 32))+(x0.length:Int))),.int .i64 (wi64 ((wi64 ((wi64 (x1.tdiv 32))+(x0.length:Int)))+1)),.slice A2b (((wi64 (x1.tdiv 32)):Int).toNat) (((wi64 ((wi64 ((wi64 (x1.tdiv 32))+(x0.length:Int)))+1)):Int).toNat),t0a 1,t0a 2,t0a 3,t0a 4,t0a 5,t0a 6,t0a 7,t0a 8,t0a 9,t0a 10,t0a 11,t0a 12,t0a 13,t0a 14,t0a 15,t0a 16,t0a 17,t0a 18,t0a 19,t0a 20,t0a 21,t0a 22,t0a 23,uu,uu,uu,uu,uu,uu]) 18446744073709551616 ?_ ?_ ?_
   ·exact ⟨0,0,(List.replicate ((wi64 (x1.tdiv 32)):Int).toNat (0:Int)),A2b,(((wi64 ((wi64 ((wi64 (x1.tdiv 32))+(x0.length:Int)))+1)):Int).toNat),(tk [uu,uu,uu,uu,uu,uu,uu,uu,uu,uu,uu,uu,uu,uu,uu,uu,uu,uu,uu,uu,uu,uu,uu,uu]),E7e,(OW.nn ow1c),h8e,(by simp only [OW.len ow1c]<;>rfl)⟩
   ·rintro l' w' ⟨v2a,v4a,v6a,A7a,c8a,t0a,_,_,hz,_⟩
    exact nomatch hz
   ·rintro n5c ih0f _ w2 ⟨v2a,v4a,v6a,A7a,c8a,t0a,X5b,ow6c,hr6b,rfl⟩ _ rfl
    unfold Db at hr6b
    refine Ba<|wp_seq_k fun K7c h7c=>wp_seq_k fun K8c h8c=>Ae<|sV (Aa rfl) ?_
    refine sV (Aa rfl) ?_
    refine sV (Ax AP rfl) ?_
    refine sb (CK rfl rfl) fun z9a hz9a=>?_
    refine nrm ?_
    refine Ad<|h8c _ _ ?_
    rcases bft z9a with e1b | e1b
    ·have p1f:=zP hz9a e1b
     have f2f:=ifP p1f hr6b
     refine wp_cond_true (Ai (evb rfl e1b))<|wp_skip<|h7c _ _<|wp_seq_k fun K9c h9c=>?_
     apply wp_block
     refine wp_seq_k fun K0d h0d=>Ae<|sV (Aa rfl) ?_
     refine sV (Aa rfl) ?_
     obtain ⟨u3a,h3f,f4f⟩:=Ab f2f
     obtain ⟨bb306,oo307,hA5f,ia6f,ib7f,hc309⟩:=RL.nth (n3.ext X5b) h3f
     refine sV (Ar AP An rfl rfl hA5f ia6f ib7f) ?_
     refine sV (Ag AN rfl hc309) ?_
     refine sV (AG (c:=wu64 u3a) AH AF rfl rfl) ?_
     refine sV (Aa rfl) ?_
     refine sV (HH (c:=x1.tmod 32) (by decide) rfl rfl rfl) ?_
     obtain ⟨_,h8f,f9f⟩:=Ab f4f
     have gd315:=Ay h8f
     refine sV (HM (c:=wu64 ((wu64 u3a)*2^min ((x1.tmod 32):Int).toNat IntKind.u64.bits)) gd315 rfl rfl rfl) ?_
     refine sV (Aa rfl) ?_
     refine sV (AO (c:=wu64 ((wu64 ((wu64 u3a)*2^min ((x1.tmod 32):Int).toNat IntKind.u64.bits))+v2a)) rfl rfl rfl) ?_
     refine sV (Ac rfl) ?_
     refine Ad<|h0d _ _<|wp_seq_k fun K1d h1d=>Ae<|sV (Aa rfl) ?_
     refine sV (Aa rfl) ?_
     refine sV (AG (c:=wu32 (wu64 ((wu64 ((wu64 u3a)*2^min ((x1.tmod 32):Int).toNat IntKind.u64.bits))+v2a))) AF AH rfl rfl) ?_
     refine DI (vals:=[(0,.int .u32 (wu32 (wu64 ((wu64 ((wu64 u3a)*2^min ((x1.tmod 32):Int).toNat IntKind.u64.bits))+v2a))))]) (cs:=[.int .u32 (wu32 (wu64 ((wu64 ((wu64 u3a)*2^min ((x1.tmod 32):Int).toNat IntKind.u64.bits))+v2a)))]) AP An FK (by rfl) (by decide) (by kernel_rfl) fun b2d w3 E3d g4i q0g=>?_
     refine nrm ?_
     have X4d:=xtr X5b E3d
     have n1g:RLu w3 (some ⟨b2d,0,none⟩) 1 [(wu32 (wu64 ((wu64 ((wu64 u3a)*2^min ((x1.tmod 32):Int).toNat IntKind.u64.bits))+v2a)))]:=(OW.lit (n0:=0) (n:=1) (xs:=[(wu32 (wu64 ((wu64 ((wu64 u3a)*2^min ((x1.tmod 32):Int).toNat IntKind.u64.bits))+v2a)))]) q0g (Nat.zero_le _) rfl (by decide)).rl
     obtain ⟨_,h2g,f3g⟩:=Ab f9f
     have gd325:=Ay h2g
     refine HN AP CO rfl rfl rfl (ow6c.ext E3d) n1g gd325 X4d.size fun A5d c6d w4 B328 ow4g=>?_
     refine nrm ?_
     have X5g:=xO X4d B328 (Nat.le_refl _)
     refine sV (Ac rfl) ?_
     refine Ad<|h1d _ _<|Ae<|sV (Aa rfl) ?_
     refine sV (Gu (c:=(wu64 ((wu64 ((wu64 u3a)*2^min ((x1.tmod 32):Int).toNat IntKind.u64.bits))+v2a)).fdiv (2^min (32:Int).toNat IntKind.u64.bits)) (by decide) rfl rfl rfl) ?_
     refine sV (Ac rfl) ?_
     refine Ad<|h9c _ _<|Ae<|sV (Aa rfl) ?_
     refine sV (AO (c:=wi64 (v4a+1)) rfl rfl rfl) ?_
     refine sV (Ac rfl) ?_
     refine Ad ?_
     exact ih0f _ _ ⟨((wu64 ((wu64 ((wu64 u3a)*2^min ((x1.tmod 32):Int).toNat IntKind.u64.bits))+v2a)).fdiv (2^min (32:Int).toNat IntKind.u64.bits)),(wi64 (v4a+1)),(v6a++([(wu32 (wu64 ((wu64 ((wu64 u3a)*2^min ((x1.tmod 32):Int).toNat IntKind.u64.bits))+v2a)))]:List Int)),A5d,c6d,(tk [.int .u64 (wu64 ((wu64 ((wu64 u3a)*2^min ((x1.tmod 32):Int).toNat IntKind.u64.bits))+v2a)),.int .i64 v4a,.slice A1 x0.length c2,.int .i64 (x0.length:Int),.bool z9a,.int .i64 v4a,.int .i64 (wi64 (v4a+1)),.slice A1 x0.length c2,.int .i64 v4a,.pointer (some ⟨bb306,oo307+(v4a:Int).toNat,none⟩),.int .u32 u3a,.int .u64 (wu64 u3a),.int .i64 x1,.int .i64 (x1.tmod 32),.int .u64 (wu64 ((wu64 u3a)*2^min ((x1.tmod 32):Int).toNat IntKind.u64.bits)),.int .u64 v2a,.int .u64 (wu64 ((wu64 ((wu64 u3a)*2^min ((x1.tmod 32):Int).toNat IntKind.u64.bits))+v2a)),.slice A7a v6a.length c8a,.int .u64 (wu64 ((wu64 ((wu64 u3a)*2^min ((x1.tmod 32):Int).toNat IntKind.u64.bits))+v2a)),.int .u32 (wu32 (wu64 ((wu64 ((wu64 u3a)*2^min ((x1.tmod 32):Int).toNat IntKind.u64.bits))+v2a))),.slice (some ⟨b2d,0,none⟩) 1 1,.slice A5d (List.length (v6a++([(wu32 (wu64 ((wu64 ((wu64 u3a)*2^min ((x1.tmod 32):Int).toNat IntKind.u64.bits))+v2a)))]:List Int))) c6d,.int .u64 (wu64 ((wu64 ((wu64 u3a)*2^min ((x1.tmod 32):Int).toNat IntKind.u64.bits))+v2a)),.int .u64 ((wu64 ((wu64 ((wu64 u3a)*2^min ((x1.tmod 32):Int).toNat IntKind.u64.bits))+v2a)).fdiv (2^min (32:Int).toNat IntKind.u64.bits))]),X5g,(OW.nn ow4g),f3g,rfl⟩
    ·have p6g:=zN hz9a e1b
     have f7g:=ifN p6g hr6b
     refine wp_cond_false (Ai (evb rfl e1b))<|wp_exit ?_
     simp only [Exit.then,Exit.inBlock,↓reduceIte,Nat.reduceEqDiff]
     obtain rfl:=sj f7g
     exact ⟨_,rfl,A7a,c8a,(tk [.int .i64 v4a,t0a 0,.slice A2b (((wi64 (x1.tdiv 32)):Int).toNat) (((wi64 ((wi64 ((wi64 (x1.tdiv 32))+(x0.length:Int)))+1)):Int).toNat),.int .i64 v4a,.bool z9a,t0a 5,t0a 6,t0a 7,t0a 8,t0a 9,t0a 10,t0a 11,t0a 12,t0a 13,t0a 14,t0a 15,t0a 16,t0a 17,t0a 18,t0a 19,t0a 20,t0a 21,t0a 22,t0a 23]),X5b,(OW.nn ow6c),rfl⟩
  ·rintro _ w2 ⟨A3b,c4b,t1a,X8g,ow9g,rfl⟩ _ rfl
   refine h3c _ _<|wp_seq_k fun K7d h7d=>Ae<|sV (Aa rfl) ?_
   refine sV (Aa rfl) ?_
   refine sV (AG (c:=wu32 m5a.1) AF AH rfl rfl) ?_
   refine DI (vals:=[(0,.int .u32 (wu32 m5a.1))]) (cs:=[.int .u32 (wu32 m5a.1)]) AP An FK (by rfl) (by decide) (by kernel_rfl) fun b0h w3 E8d g5i q1h=>?_
   refine nrm ?_
   have X9d:=xtr X8g E8d
   have n2h:RLu w3 (some ⟨b0h,0,none⟩) 1 [(wu32 m5a.1)]:=(OW.lit (n0:=0) (n:=1) (xs:=[(wu32 m5a.1)]) q1h (Nat.zero_le _) rfl (by decide)).rl
   obtain ⟨_,h3h,f4h⟩:=Ab f9e
   have gd340:=Ay h3h
   refine HN AP CO rfl rfl rfl (ow9g.ext E8d) n2h gd340 X9d.size fun A5h c6h w4 B343 ow0e=>?_
   refine nrm ?_
   have X7b:=xO X9d B343 (Nat.le_refl _)
   obtain ⟨r7h,h8h,f9h⟩:=Ab f4h
   have hl353:=OW.lt ow0e
   refine sc (Af IM (by rfl)) (c_sorobanref01_Trim_o (m5a.2++([(wu32 m5a.1)]:List Int)) A5h c6h w4 (tbx X7b hT) (OW.rl ow0e) r7h h8h) ?_
   rintro _ w5 E0i ⟨A1i,c2i,rfl,n8b⟩
   refine nrm ?_
   have X3i:=xtr X7b E0i
   refine sV (Ac rfl) ?_
   refine Ad<|h7d _ _<|wp_ret ?_
   obtain rfl:=sj f9h
   exact fin rfl (Res.tmp rfl Res.nil) (Ak X3i ⟨A1i,c2i,(by rw [OW.len n8b];rfl),(by rw [OW.len n8b];exact OW.mono n8b X7b.size)⟩)
theorem Ht (x0:List Int) (A1:Option Addr) (c2:Nat) (w:World) (hT:TB w) (n3:RLu w A1 c2 x0) (r:Bool) (hr:Fb x0=some r) :
  Calls Tryz.prog 208 #[.slice A1 x0.length c2] w (Ret Fe w r):=by
 unfold Fb at hr
 go_enter Tryz.func208,Tryz.ntmps208
 refine wp_seq_k fun K4 h4=>Ae<|sV (Ac rfl) ?_
 refine Ad<|h4 _ _<|wp_seq_k fun K5 h5=>Ae<|sV (Aa rfl) ?_
 refine sV (Ax AP rfl) ?_
 refine sb (FZ rfl rfl) fun z6 hz6=>?_
 refine nrm ?_
 refine sV (Aa rfl) ?_
 obtain ⟨m0b,h7a,f1b⟩:=Ab hr
 refine BB 17 (fun l l' w'=>∃(t3a:Nat→Value),w=w'∧l'=(((((((((((((l.set 7 (t3a 0)).set 8 (t3a 1)).set 9 (t3a 2)).set 10 (t3a 3)).set 11 (t3a 4)).set 12 (t3a 5)).set 13 (t3a 6)).set 14 (t3a 7)).set 15 (t3a 8)).set 16 (t3a 9)).set 17 (t3a 10)).set 18 (t3a 11)).set 19 (.bool m0b))) ?_ ?_
 ·intro HJ54
  rcases bft z6 with e1a | e1a
  ·have p2b:=zP hz6 e1a
   have f3b:=ifP p2b h7a
   refine sV (Aa rfl) ?_ (hw:=wgT rfl e1a)
   refine sV (Ax AP rfl) ?_ (hw:=wgT rfl e1a)
   refine sb (BE rfl rfl) ?_ (hw:=wgT rfl e1a)
   intro z4a hz4a
   refine nrm ?_
   refine sV (Aa rfl) ?_ (hw:=wgT rfl e1a)
   obtain ⟨m8a,h9a,f4b⟩:=Ab f3b
   refine BB 16 (fun l l' w'=>∃(t2a:Nat→Value),w=w'∧l'=((((((((l.set 11 (t2a 0)).set 12 (t2a 1)).set 13 (t2a 2)).set 14 (t2a 3)).set 15 (t2a 4)).set 16 (t2a 5)).set 17 (t2a 6)).set 18 (.bool m8a))) ?_ ?_
   ·intro HJ81
    rcases bft z4a with e0a | e0a
    ·have p5b:=zP hz4a e0a
     have f6b:=ifP p5b h9a
     refine sP ?_ (hw:=wgF rfl e0a)
     refine sP ?_ (hw:=wgF rfl e0a)
     refine sP ?_ (hw:=wgF rfl e0a)
     refine sP ?_ (hw:=wgF rfl e0a)
     refine sP ?_ (hw:=wgF rfl e0a)
     refine sP ?_ (hw:=wgF rfl e0a)
     refine sP ?_ (hw:=wgF rfl e0a)
     refine sV (Aw (evb rfl e0a) rfl) ?_ (hw:=wgT rfl e1a)
     obtain rfl:=sj f6b
     exact HJ81 _ _ ⟨(tk [uu,uu,uu,uu,uu,uu,uu]),(by trivial),(by simp only [S0,S1]<;>rfl)⟩
    ·have p7b:=zN hz4a e0a
     have f8b:=ifN p7b h9a
     refine sV (Aa rfl) ?_ (hw:=wgT rfl e0a)
     refine sV (Aa rfl) ?_ (hw:=wgT rfl e0a)
     refine sV (Ax AP rfl) ?_ (hw:=wgT rfl e0a)
     refine sV (AV (c:=wi64 ((x0.length:Int) - 1)) rfl rfl rfl) ?_ (hw:=wgT rfl e0a)
     obtain ⟨u5a,h9b,f0c⟩:=Ab f8b
     obtain ⟨bb90,oo91,hA1c,ia2c,ib3c,hc93⟩:=RL.nth n3 h9b
     refine sV (Ar AP An rfl rfl hA1c ia2c ib3c) ?_ (hw:=wgT rfl e0a)
     refine sV (Ag AN rfl hc93) ?_ (hw:=wgT rfl e0a)
     refine sb (Ik rfl rfl) ?_ (hw:=wgT rfl e0a)
     intro z6a hz6a
     refine nrm ?_
     refine sV (AB (evb rfl e0a) rfl) ?_ (hw:=wgT rfl e1a)
     obtain rfl:z6a=decide (¬u5a=0):=bz hz6a
     obtain rfl:=sj f0c
     exact HJ81 _ _ ⟨(tk [.slice A1 x0.length c2,.slice A1 x0.length c2,.int .i64 (x0.length:Int),.int .i64 (wi64 ((x0.length:Int) - 1)),.pointer (some ⟨bb90,oo91+((wi64 ((x0.length:Int) - 1)):Int).toNat,none⟩),.int .u32 u5a,.bool (decide (¬u5a=0))]),(by trivial),(by simp only [S0,S1]<;>rfl)⟩
   ·rintro l' _ ⟨t2a,rfl,hq'⟩ l'' hl
    rw [hq'] at hl
    clear hq'
    simp only [S0,S1] at hl
    subst hl
    refine sV (Aw (evb rfl e1a) rfl) ?_
    obtain rfl:=sj f4b
    exact HJ54 _ _ ⟨(tk [.slice A1 x0.length c2,.int .i64 (x0.length:Int),.bool z4a,.bool z4a,t2a 0,t2a 1,t2a 2,t2a 3,t2a 4,t2a 5,t2a 6,.bool m8a]),(by trivial),(by simp only [S0,S1]<;>rfl)⟩
  ·have p4c:=zN hz6 e1a
   have f5c:=ifN p4c h7a
   refine sP ?_ (hw:=wgF rfl e1a)
   refine sP ?_ (hw:=wgF rfl e1a)
   refine sP ?_ (hw:=wgF rfl e1a)
   refine sP ?_ (hw:=wgF rfl e1a)
   refine sP ?_
   refine sP ?_
   refine sP ?_
   refine sP ?_
   refine sP ?_
   refine sP ?_
   refine sP ?_
   refine sP ?_ (hw:=wgF rfl e1a)
   refine sV (AB (evb rfl e1a) rfl) ?_
   obtain rfl:=sj f5c
   exact HJ54 _ _ ⟨(tk [uu,uu,uu,uu,uu,uu,uu,uu,uu,uu,uu,uu]),(by trivial),(by simp only [S0,S1]<;>rfl)⟩
 ·rintro l' _ ⟨t3a,rfl,hq'⟩ l'' hl
  rw [hq'] at hl
  clear hq'
  simp only [S0,S1] at hl
  subst hl
  refine sV (Ac rfl) ?_
  refine Ad<|h5 _ _<|wp_ret ?_
  obtain rfl:=sj f1b
  exact fin rfl (Res.tmp rfl Res.nil) (Ak (Ext.refl _) rfl)
end Go.Proofs.Lf

