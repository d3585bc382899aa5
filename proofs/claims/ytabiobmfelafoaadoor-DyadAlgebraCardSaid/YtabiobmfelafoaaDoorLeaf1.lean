import Derived.Test.YtabiobmfelafoaaDoorLeafDefs
namespace Go.Proofs.Lf
set_option linter.unusedVariables false
set_option linter.unusedSimpArgs false
set_option maxHeartbeats 4000000
open Go.RowKit Go.Sb Go.Proofs Go.Proofs.Sbn
theorem EP (x0:List Int) (A1:Option Addr) (c2:Nat) (w:World) (hT:TB w) (n3:RLu w A1 c2 x0) (r:Bool) (hr:Bp x0=some r) :
  Calls Tryd.prog 105 #[.slice A1 x0.length c2] w (Ret EO w r):=by
 unfold Bp at hr
 go_enter Tryd.func105,Tryd.ntmps105
 refine wp_seq_k fun K4 h4=>Ah<|sV (Ac rfl) ?_
 refine Ad<|h4 _ _<|wp_seq_k fun K5 h5=>Ah<|sV (Aa rfl) ?_
 refine sV (AO CQ rfl) ?_
 refine sb (Gr rfl rfl) fun z6 hz6=>?_
 refine nrm ?_
 refine sV (Aa rfl) ?_
 obtain ⟨m0b,h7a,f1b⟩:=Ab hr
 refine Bh 17 (fun l l' w'=>∃(t3a:Nat→Value),w=w'∧l'=(((((((((((((l.set 7 (t3a 0)).set 8 (t3a 1)).set 9 (t3a 2)).set 10 (t3a 3)).set 11 (t3a 4)).set 12 (t3a 5)).set 13 (t3a 6)).set 14 (t3a 7)).set 15 (t3a 8)).set 16 (t3a 9)).set 17 (t3a 10)).set 18 (t3a 11)).set 19 (.bool m0b))) ?_ ?_
 ·intro HJ54
  rcases bft z6 with e1a | e1a
  ·have p2b:=zP hz6 e1a
   have f3b:=ifP p2b h7a
   refine sV (Aa rfl) ?_ (hw:=wgT rfl e1a)
   refine sV (AO CQ rfl) ?_ (hw:=wgT rfl e1a)
   refine sb (CE rfl rfl) ?_ (hw:=wgT rfl e1a)
   intro z4a hz4a
   refine nrm ?_
   refine sV (Aa rfl) ?_ (hw:=wgT rfl e1a)
   obtain ⟨m8a,h9a,f4b⟩:=Ab f3b
   refine Bh 16 (fun l l' w'=>∃(t2a:Nat→Value),w=w'∧l'=((((((((l.set 11 (t2a 0)).set 12 (t2a 1)).set 13 (t2a 2)).set 14 (t2a 3)).set 15 (t2a 4)).set 16 (t2a 5)).set 17 (t2a 6)).set 18 (.bool m8a))) ?_ ?_
   ·intro HJ81
    rcases bft z4a with e0a | e0a
    ·have p5b:=zP hz4a e0a
     have f6b:=ifP p5b h9a
     refine sP ?_ (hw:=wgF rfl e0a)
     refine sP ?_ (hw:=wgF rfl e0a)
     refine sP ?_ (hw:=wgF rfl e0a)
     refine sP ?_ (hw:=wgF rfl e0a)
     refine sP ?_ (hw:=wgF rfl e0a)
     refine sP ?_ (hw:=wgF rfl e0a)
     refine sP ?_ (hw:=wgF rfl e0a)
     refine sV (Ar (evb rfl e0a) rfl) ?_ (hw:=wgT rfl e1a)
     obtain rfl:=sj f6b
     exact HJ81 _ _ ⟨(tk [uu,uu,uu,uu,uu,uu,uu]),(by trivial),(by simp only [S0,S1]<;>rfl)⟩
    ·have p7b:=zN hz4a e0a
     have f8b:=ifN p7b h9a
     refine sV (Aa rfl) ?_ (hw:=wgT rfl e0a)
     refine sV (Aa rfl) ?_ (hw:=wgT rfl e0a)
     refine sV (AO CQ rfl) ?_ (hw:=wgT rfl e0a)
     refine sV (CB (c:=wi64 ((x0.length:Int) - 1)) rfl rfl rfl) ?_ (hw:=wgT rfl e0a)
     obtain ⟨u5a,h9b,f0c⟩:=Ab f8b
     obtain ⟨bb90,oo91,hA1c,ia2c,ib3c,hc93⟩:=RL.nth n3 h9b
     refine sV (AM CQ AR rfl rfl hA1c ia2c ib3c) ?_ (hw:=wgT rfl e0a)
     refine sV (Aj Cr rfl hc93) ?_ (hw:=wgT rfl e0a)
     refine sb (DY rfl rfl) ?_ (hw:=wgT rfl e0a)
     intro z6a hz6a
     refine nrm ?_
     refine sV (Az (evb rfl e0a) rfl) ?_ (hw:=wgT rfl e1a)
     obtain rfl:z6a=decide (¬u5a=0):=bz hz6a
     obtain rfl:=sj f0c
     exact HJ81 _ _ ⟨(tk [.slice A1 x0.length c2,.slice A1 x0.length c2,.int .i64 (x0.length:Int),.int .i64 (wi64 ((x0.length:Int) - 1)),.pointer (some ⟨bb90,oo91+((wi64 ((x0.length:Int) - 1)):Int).toNat,none⟩),.int .u32 u5a,.bool (decide (¬u5a=0))]),(by trivial),(by simp only [S0,S1]<;>rfl)⟩
   ·rintro l' _ ⟨t2a,rfl,hq'⟩ l'' hl
    rw [hq'] at hl
    clear hq'
    simp only [S0,S1] at hl
    subst hl
    refine sV (Ar (evb rfl e1a) rfl) ?_
    obtain rfl:=sj f4b
    exact HJ54 _ _ ⟨(tk [.slice A1 x0.length c2,.int .i64 (x0.length:Int),.bool z4a,.bool z4a,t2a 0,t2a 1,t2a 2,t2a 3,t2a 4,t2a 5,t2a 6,.bool m8a]),(by trivial),(by simp only [S0,S1]<;>rfl)⟩
  ·have p4c:=zN hz6 e1a
   have f5c:=ifN p4c h7a
   refine sP ?_ (hw:=wgF rfl e1a)
   refine sP ?_ (hw:=wgF rfl e1a)
   refine sP ?_ (hw:=wgF rfl e1a)
   refine sP ?_ (hw:=wgF rfl e1a)
   refine sP ?_
   refine sP ?_
   refine sP ?_
   refine sP ?_
   refine sP ?_
   refine sP ?_
   refine sP ?_
   refine sP ?_ (hw:=wgF rfl e1a)
   refine sV (Az (evb rfl e1a) rfl) ?_
   obtain rfl:=sj f5c
   exact HJ54 _ _ ⟨(tk [uu,uu,uu,uu,uu,uu,uu,uu,uu,uu,uu,uu]),(by trivial),(by simp only [S0,S1]<;>rfl)⟩
 ·rintro l' _ ⟨t3a,rfl,hq'⟩ l'' hl
  rw [hq'] at hl
  clear hq'
  simp only [S0,S1] at hl
  subst hl
  refine sV (Ac rfl) ?_
  refine Ad<|h5 _ _<|wp_ret ?_
  obtain rfl:=sj f1b
  exact fin rfl (Res.tmp rfl Res.nil) (Ap (Ext.refl _) rfl)
theorem Fu (x0:List Int) (x1:Int) (A1:Option Addr) (c2:Nat) (w:World) (hT:TB w) (n3:RLu w A1 c2 x0) (r:Int) (hr:CY x0 x1=some r) :
  Calls Tryd.prog 104 #[.slice A1 x0.length c2,.int .i64 x1] w (Ret Iu w r):=by
 unfold CY at hr
 go_enter Tryd.func104,Tryd.ntmps104
 refine wp_seq_k fun K4 h4=>Ah<|sV (Ac rfl) ?_
 refine Ad<|h4 _ _<|wp_seq_k fun K5 h5=>wp_seq_k fun K6 h6=>Ah<|sV (Aa rfl) ?_
 refine sV (Aa rfl) ?_
 refine sV (AO CQ rfl) ?_
 refine sb (Fz rfl rfl) fun z7 hz7=>?_
 refine nrm ?_
 refine Ad<|h6 _ _ ?_
 rcases bft z7 with e0a | e0a
 ·have p3a:=zP hz7 e0a
  have f4a:=ifP p3a hr
  refine wp_cond_true (Ao (evb rfl e0a))<|wp_seq_k fun K1a h1a=>Ah<|sV (Ac rfl) ?_
  refine Ad<|h1a _ _<|wp_ret ?_
  obtain rfl:=sj f4a
  exact fin rfl (Res.tmp rfl Res.nil) (Ap (Ext.refl _) rfl)
 ·have p5a:=zN hz7 e0a
  have f6a:=ifN p5a hr
  refine wp_cond_false (Ao (evb rfl e0a))<|wp_skip<|h5 _ _<|wp_seq_k fun K2a h2a=>Ah<|sV (Aa rfl) ?_
  refine sV (Aa rfl) ?_
  obtain ⟨u7a,h8a,f9a⟩:=Ab f6a
  obtain ⟨bb23,oo24,hA0b,ia1b,ib2b,hc26⟩:=RL.nth n3 h8a
  refine sV (AM CQ AR rfl rfl hA0b ia1b ib2b) ?_
  refine sV (Aj Cr rfl hc26) ?_
  refine sV (BB (c:=wu64 u7a) Cz Bw rfl rfl) ?_
  refine sV (Ac rfl) ?_
  refine Ad<|h2a _ _<|wp_ret ?_
  obtain rfl:=sj f9a
  exact fin rfl (Res.tmp rfl Res.nil) (Ap (Ext.refl _) rfl)
theorem Et (x0:List Int) (x1:Int) (A1:Option Addr) (c2:Nat) (w:World) (hT:TB w) (n3:RLu w A1 c2 x0) (r:Int) (hr:Bt x0 x1=some r) :
  Calls Tryd.prog 82 #[.slice A1 x0.length c2,.int .i64 x1] w (Ret Iu w r):=by
 unfold Bt at hr
 go_enter Tryd.func82,Tryd.ntmps82
 refine wp_seq_k fun K4 h4=>Ah<|sV (Ac rfl) ?_
 refine Ad<|h4 _ _<|wp_seq_k fun K5 h5=>Ah<|sV (Aa rfl) ?_
 refine sV (Aa rfl) ?_
 refine sV (Hb (c:=wi64 (x1.tdiv 32)) (by decide) rfl rfl rfl) ?_
 obtain ⟨r6,h7,f8⟩:=Ab hr
 refine sc (Ae JI (by rfl)) (Fu x0 (wi64 (x1.tdiv 32)) A1 c2 w hT n3 r6 h7) ?_
 rintro _ w1 E9 rfl
 refine nrm ?_
 refine sV (Aa rfl) ?_
 refine sV (HI (c:=x1.tmod 32) (by decide) rfl rfl rfl) ?_
 obtain ⟨_,h0a,f1a⟩:=Ab f8
 have gd12:=Be h0a
 refine sV (Hw (c:=r6.fdiv (2^min ((x1.tmod 32):Int).toNat IntKind.u64.bits)) gd12 rfl rfl rfl) ?_
 refine sV (HI (c:=(r6.fdiv (2^min ((x1.tmod 32):Int).toNat IntKind.u64.bits)).tmod 2) (by decide) rfl rfl rfl) ?_
 refine sV (Ac rfl) ?_
 refine Ad<|h5 _ _<|wp_ret ?_
 obtain rfl:=sj f1a
 exact fin rfl (Res.tmp rfl Res.nil) (Ap E9 rfl)
theorem Fa (x0:List Int) (x1:List Int) (A1:Option Addr) (c2:Nat) (A4:Option Addr) (c5:Nat) (w:World) (hT:TB w) (n3:RLu w A1 c2 x0) (n6:RLu w A4 c5 x1) (r:Bool) (hr:BD x0 x1=some r) :
  Calls Tryd.prog 74 #[.slice A1 x0.length c2,.slice A4 x1.length c5] w (Ret EO w r):=by
 unfold BD at hr
 go_enter Tryd.func74,Tryd.ntmps74
 refine wp_seq_k fun K7 h7=>Ah<|sV (Ac rfl) ?_
 refine Ad<|h7 _ _<|wp_seq_k fun K8 h8=>wp_seq_k fun K9 h9=>Ah<|sV (Aa rfl) ?_
 refine sV (AO CQ rfl) ?_
 refine sV (Aa rfl) ?_
 refine sV (AO CQ rfl) ?_
 refine sb (DY rfl rfl) fun z7a hz7a=>?_
 refine nrm ?_
 refine Ad<|h9 _ _ ?_
 rcases bft z7a with e2a | e2a
 ·have p4c:=zP hz7a e2a
  have f5c:=ifP p4c hr
  refine wp_cond_true (Ao (evb rfl e2a))<|wp_seq_k fun K1b h1b=>Ah<|sV (Ac rfl) ?_
  refine Ad<|h1b _ _<|wp_ret ?_
  obtain rfl:=sj f5c
  exact fin rfl (Res.tmp rfl Res.nil) (Ap (Ext.refl _) rfl)
 ·have p6c:=zN hz7a e2a
  have f7c:=ifN p6c hr
  refine wp_cond_false (Ao (evb rfl e2a))<|wp_skip<|h8 _ _<|wp_seq_k fun K2b h2b=>wp_seq_k fun K3b h3b=>Ah<|sV (Ac rfl) ?_
  refine Ad<|h3b _ _ ?_
  apply wp_block
  refine Cv (fun l n4b l' w'=>∃(v1a:Int) (t0a:Nat→Value),Ext w w'∧BK x0 x1 n4b v1a=some r∧l'=((((((((((((((((l.set 5 (.int .i64 v1a)).set 11 (t0a 0)).set 12 (t0a 1)).set 13 (t0a 2)).set 14 (t0a 3)).set 15 (t0a 4)).set 16 (t0a 5)).set 17 (t0a 6)).set 18 (t0a 7)).set 19 (t0a 8)).set 20 (t0a 9)).set 21 (t0a 10)).set 22 (t0a 11)).set 23 (t0a 12)).set 24 (t0a 13)).set 25 (t0a 14))) 18446744073709551616 ?_ ?_ ?_
  ·exact ⟨0,(tk [uu,uu,uu,uu,uu,uu,uu,uu,uu,uu,uu,uu,uu,uu,uu]),(Ext.refl _),f7c,(by simp only [S0,S1]<;>rfl)⟩
  ·rintro l' w' ⟨v1a,t0a,_,hz,_⟩
   exact nomatch hz
  ·rintro n4b ih8c l' w1 ⟨v1a,t0a,U8a,hr9a,hq'⟩ l'' hl
   rw [hq'] at hl
   clear hq'
   simp only [S0,S1] at hl
   subst hl
   unfold BK at hr9a
   refine BV<|wp_seq_k fun K5b h5b=>wp_seq_k fun K6b h6b=>Ah<|sV (Aa rfl) ?_
   refine sV (Aa rfl) ?_
   refine sV (AO CQ rfl) ?_
   refine sb (CR rfl rfl) fun z3a hz3a=>?_
   refine nrm ?_
   refine Ad<|h6b _ _ ?_
   rcases bft z3a with e4a | e4a
   ·have p9c:=zP hz3a e4a
    have f0d:=ifP p9c hr9a
    refine wp_cond_true (Ao (evb rfl e4a))<|wp_skip<|h5b _ _<|wp_seq_k fun K7b h7b=>?_
    apply wp_block
    refine wp_seq_k fun K8b h8b=>DD [] 9 mo rfl fun w2 E9b S0c=>have X0b:=xtr U8a E9b;dA 0 rfl (fun _=>Aa rfl) ?_
    refine dA 1 rfl (fun _=>Aa rfl) ?_
    obtain ⟨u1d,h2d,f3d⟩:=Ab f0d
    obtain ⟨bb152,oo153,hA4d,ia5d,ib6d,hc155⟩:=RL.nth (n3.ext X0b) h2d
    refine dA 2 rfl (fun _=>AM CQ AR rfl rfl hA4d ia5d ib6d) ?_
    refine dV 3 rfl (fun _ hw=>Aj Cr rfl (DB hc155 hw)) S0c ?_
    refine dA 4 rfl (fun _=>Aa rfl) ?_
    refine dA 5 rfl (fun _=>Aa rfl) ?_
    obtain ⟨u7d,h8d,f1c⟩:=Ab f3d
    obtain ⟨bb161,oo162,hA9d,ia0e,ib1e,hc164⟩:=RL.nth (n6.ext X0b) h8d
    refine dA 6 rfl (fun _=>AM CQ AR rfl rfl hA9d ia0e ib1e) ?_
    refine dV 7 rfl (fun _ hw=>Aj Cr rfl (DB hc164 hw)) S0c ?_
    refine dab 8 rfl (by kernel_rfl) (fun _ _ _ h=>h) (by rfl) (fun _=>DY rfl rfl) fun z5a hz5a=>?_
    refine dnrm ?_
    refine CC (by kernel_rfl) ?_
    refine h8b _ _ ?_
    rcases bft z5a with e6a | e6a
    ·have p2e:=zP hz5a e6a
     have f3e:=ifP p2e f1c
     refine wp_cond_true (Ao (evb rfl e6a))<|wp_seq_k fun K2c h2c=>Ah<|sV (Ac rfl) ?_
     refine Ad<|h2c _ _<|wp_ret ?_
     obtain rfl:=sj f3e
     exact fin rfl (Res.tmp rfl Res.nil) (Ap X0b rfl)
    ·have p4e:=zN hz5a e6a
     have f5e:=ifN p4e f1c
     refine wp_cond_false (Ao (evb rfl e6a))<|wp_skip<|h7b _ _<|Ah<|sV (Aa rfl) ?_
     refine sV (BH (c:=wi64 (v1a+1)) rfl rfl rfl) ?_
     refine sV (Ac rfl) ?_
     refine Ad ?_
     exact ih8c _ _ ⟨(wi64 (v1a+1)),(tk [.int .i64 v1a,.slice A1 x0.length c2,.int .i64 (x0.length:Int),.bool z3a,.int .i64 v1a,.int .i64 (wi64 (v1a+1)),.slice A1 x0.length c2,.int .i64 v1a,.pointer (some ⟨bb152,oo153+(v1a:Int).toNat,none⟩),.int .u32 u1d,.slice A4 x1.length c5,.int .i64 v1a,.pointer (some ⟨bb161,oo162+(v1a:Int).toNat,none⟩),.int .u32 u7d,.bool z5a]),(U8a.trans E9b),f5e,(by simp only [S0,S1]<;>rfl)⟩
   ·have p6e:=zN hz3a e4a
    have f7e:=ifN p6e hr9a
    refine wp_cond_false (Ao (evb rfl e4a))<|wp_exit ?_
    simp only [Exit.then,Exit.inBlock,↓reduceIte,Nat.reduceEqDiff]
    refine h2b _ _<|wp_seq_k fun K3c h3c=>Ah<|sV (Ac rfl) ?_
    refine Ad<|h3c _ _<|wp_ret ?_
    obtain rfl:=sj f7e
    exact fin rfl (Res.tmp rfl Res.nil) (Ap U8a rfl)
theorem FY (x0:List Int) (A1:Option Addr) (c2:Nat) (w:World) (hT:TB w) (n3:RLu w A1 c2 x0) (r:List Int) (hr:CZ x0=some r) :
  Calls Tryd.prog 102 #[.slice A1 x0.length c2] w (Ret Jr w r):=by
 unfold CZ at hr
 go_enter Tryd.func102,Tryd.ntmps102
 refine wp_seq_k fun K4 h4=>Ah<|sV (Ac rfl) ?_
 refine Ad<|h4 _ _<|wp_seq_k fun K5 h5=>Ah<|sV (Aa rfl) ?_
 refine sV (AO CQ rfl) ?_
 refine sV (Ac rfl) ?_
 refine Ad<|h5 _ _<|wp_seq_k fun K6 h6=>?_
 obtain ⟨m7a,h9b,f0c⟩:=Ab hr
 refine DG (fun l l' w'=>∃(t4a:Nat→Value),w=w'∧l'=(((((((((((((l.set 3 (.int .i64 m7a)).set 6 (t4a 0)).set 7 (t4a 1)).set 8 (t4a 2)).set 9 (t4a 3)).set 10 (t4a 4)).set 11 (t4a 5)).set 12 (t4a 6)).set 13 (t4a 7)).set 14 (t4a 8)).set 15 (t4a 9)).set 16 (t4a 10)).set 17 (t4a 11))) ?_ ?_
 ·apply wp_block
  refine Cv (fun l n2b l' w'=>∃(v3a:Int) (t2a:Nat→Value),w=w'∧Ce x0 n2b v3a=some m7a∧l'=(((((((((((((l.set 3 (.int .i64 v3a)).set 6 (t2a 0)).set 7 (t2a 1)).set 8 (t2a 2)).set 9 (t2a 3)).set 10 (t2a 4)).set 11 (t2a 5)).set 12 (t2a 6)).set 13 (t2a 7)).set 14 (t2a 8)).set 15 (t2a 9)).set 16 (t2a 10)).set 17 (t2a 11))) 18446744073709551616 ?_ ?_ ?_
  ·exact ⟨(x0.length:Int),(tk [uu,uu,uu,uu,uu,uu,uu,uu,uu,uu,uu,uu]),(by trivial),h9b,(by simp only [S0,S1]<;>rfl)⟩
  ·rintro l' w' ⟨v3a,t2a,_,hz,_⟩
   exact nomatch hz
  ·rintro n2b ih1c l' _ ⟨v3a,t2a,rfl,hr3b,hq'⟩ l'' hl
   rw [hq'] at hl
   clear hq'
   simp only [S0,S1] at hl
   subst hl
   unfold Ce at hr3b
   refine BV<|wp_seq_k fun K4b h4b=>wp_seq_k fun K5b h5b=>Ah<|sV (Aa rfl) ?_
   refine sb (Eu rfl rfl) fun z5a hz5a=>?_
   refine nrm ?_
   refine sV (Aa rfl) ?_
   obtain ⟨m8a,h6b,f7b⟩:=Ab hr3b
   refine Bh 10 (fun l l' w'=>∃(t0a:Nat→Value),w=w'∧l'=(((((((l.set 9 (t0a 0)).set 10 (t0a 1)).set 11 (t0a 2)).set 12 (t0a 3)).set 13 (t0a 4)).set 14 (t0a 5)).set 15 (.bool m8a))) ?_ ?_
   ·intro HJ299
    rcases bft z5a with e1a | e1a
    ·have p2c:=zP hz5a e1a
     have f3c:=ifP p2c h6b
     refine sV (Aa rfl) ?_ (hw:=wgT rfl e1a)
     refine sV (Aa rfl) ?_ (hw:=wgT rfl e1a)
     refine sV (CB (c:=wi64 (v3a - 1)) rfl rfl rfl) ?_ (hw:=wgT rfl e1a)
     obtain ⟨u9a,h4c,f5c⟩:=Ab f3c
     obtain ⟨bb308,oo309,hA6c,ia7c,ib8c,hc311⟩:=RL.nth n3 h4c
     refine sV (AM CQ AR rfl rfl hA6c ia7c ib8c) ?_ (hw:=wgT rfl e1a)
     refine sV (Aj Cr rfl hc311) ?_ (hw:=wgT rfl e1a)
     refine sb (CE rfl rfl) ?_ (hw:=wgT rfl e1a)
     intro z0b hz0b
     refine nrm ?_
     refine sV (Ar (evb rfl e1a) rfl) ?_
     obtain rfl:z0b=decide (u9a=0):=bz hz0b
     obtain rfl:=sj f5c
     exact HJ299 _ _ ⟨(tk [.slice A1 x0.length c2,.int .i64 v3a,.int .i64 (wi64 (v3a - 1)),.pointer (some ⟨bb308,oo309+((wi64 (v3a - 1)):Int).toNat,none⟩),.int .u32 u9a,.bool (decide (u9a=0))]),(by trivial),(by simp only [S0,S1]<;>rfl)⟩
    ·have p9c:=zN hz5a e1a
     have f0d:=ifN p9c h6b
     refine sP ?_ (hw:=wgF rfl e1a)
     refine sP ?_ (hw:=wgF rfl e1a)
     refine sP ?_ (hw:=wgF rfl e1a)
     refine sP ?_ (hw:=wgF rfl e1a)
     refine sP ?_ (hw:=wgF rfl e1a)
     refine sP ?_ (hw:=wgF rfl e1a)
     refine sV (Az (evb rfl e1a) rfl) ?_
     obtain rfl:=sj f0d
     exact HJ299 _ _ ⟨(tk [uu,uu,uu,uu,uu,uu]),(by trivial),(by simp only [S0,S1]<;>rfl)⟩
   ·rintro l' _ ⟨t0a,rfl,hq'⟩ l'' hl
    rw [hq'] at hl
    clear hq'
    simp only [S0,S1] at hl
    subst hl
    refine Ad<|h5b _ _ ?_
    rcases bft m8a with e6a | e6a
    ·have p1d:=e6a
     have f2d:=ifP p1d f7b
     refine wp_cond_true (Ao (evb rfl e6a))<|wp_skip<|h4b _ _ ?_
     apply wp_block
     refine Ah<|sV (Aa rfl) ?_
     refine sV (CB (c:=wi64 (v3a - 1)) rfl rfl rfl) ?_
     refine sV (Ac rfl) ?_
     refine Ad ?_
     exact ih1c _ _ ⟨(wi64 (v3a - 1)),(tk [.int .i64 v3a,.bool z5a,.bool z5a,t0a 0,t0a 1,t0a 2,t0a 3,t0a 4,t0a 5,.bool m8a,.int .i64 v3a,.int .i64 (wi64 (v3a - 1))]),(by trivial),f2d,(by simp only [S0,S1]<;>rfl)⟩
    ·have p3d:=bF e6a
     have f4d:=ifN p3d f7b
     refine wp_cond_false (Ao (evb rfl e6a))<|wp_exit ?_
     simp only [Exit.then,Exit.inBlock,↓reduceIte,Nat.reduceEqDiff]
     obtain rfl:=sj f4d
     exact ⟨_,rfl,(tk [.int .i64 v3a,.bool z5a,.bool z5a,t0a 0,t0a 1,t0a 2,t0a 3,t0a 4,t0a 5,.bool m8a,t2a 10,t2a 11]),(by trivial),(by simp only [S0,S1]<;>rfl)⟩
 ·rintro l' _ ⟨t4a,rfl,hq'⟩ l'' hl
  rw [hq'] at hl
  clear hq'
  simp only [S0,S1] at hl
  subst hl
  refine h6 _ _<|wp_seq_k fun K8b h8b=>Ah<|JZ CQ FZ fun A5d w1 E1b=>?_
  refine nrm ?_
  refine sV (Aa rfl) ?_
  refine sV (Aa rfl) ?_
  obtain ⟨_,h6d,f7d⟩:=Ab f0c
  have gd332:=Be h6d
  refine JK (lo:=0) (hi:=(m7a:Int).toNat) CQ AR rfl rfl ⟨.i64,by rw [Int.toNat_of_nonneg (a:=m7a) (by omega)];rfl⟩ (by omega) (by omega) (n3.ext E1b) fun A5e c6e n8d=>?_
  refine nrm ?_
  obtain ⟨_,h9d,f0e⟩:=Ab f7d
  have gd338:=Be h9d
  refine IP CQ FZ rfl rfl rfl (OW.nil 97 w.heap.size w1 A5d) n8d gd338 E1b.size fun A1e c2e w2 B341 ow3e=>?_
  refine nrm ?_
  have X4e:=xO E1b B341 (Nat.le_refl _)
  refine sV (Ac rfl) ?_
  refine Ad<|h8b _ _<|wp_ret ?_
  obtain rfl:=sj f0e
  exact fin rfl (Res.tmp rfl Res.nil) (Ap X4e ⟨A1e,c2e,rfl,(OW.rl ow3e)⟩)
theorem EE (x0:Int) (w:World) (hT:TB w) (r:List Int) (hr:Cf x0=some r) :
  Calls Tryd.prog 69 #[.int .u64 x0] w (Ret Jr w r):=by
 unfold Cf at hr
 go_enter Tryd.func69,Tryd.ntmps69
 refine wp_seq_k fun K1 h1=>Ah<|sV (Ac rfl) ?_
 refine Ad<|h1 _ _<|wp_seq_k fun K2 h2=>Ah<|sV (Aa rfl) ?_
 refine sV (BB (c:=wu32 x0) Bw Cz rfl rfl) ?_
 refine sV (Aa rfl) ?_
 refine sV (Hw (c:=x0.fdiv (2^min (32:Int).toNat IntKind.u64.bits)) (by decide) rfl rfl rfl) ?_
 refine sV (BB (c:=wu32 (x0.fdiv (2^min (32:Int).toNat IntKind.u64.bits))) Bw Cz rfl rfl) ?_
 refine Dw (vals:=[(0,.int .u32 (wu32 x0)),(1,.int .u32 (wu32 (x0.fdiv (2^min (32:Int).toNat IntKind.u64.bits))))]) (cs:=[.int .u32 (wu32 x0),.int .u32 (wu32 (x0.fdiv (2^min (32:Int).toNat IntKind.u64.bits)))]) CQ AR Ho (by rfl) (by decide) (by kernel_rfl) fun b4 w1 E3 g5 q6=>?_
 refine nrm ?_
 have n7:RLu w1 (some ⟨b4,0,none⟩) 2 [(wu32 x0),(wu32 (x0.fdiv (2^min (32:Int).toNat IntKind.u64.bits)))]:=(OW.lit (n0:=0) (n:=2) (xs:=[(wu32 x0),(wu32 (x0.fdiv (2^min (32:Int).toNat IntKind.u64.bits)))]) q6 (Nat.zero_le _) rfl (by decide)).rl
 obtain ⟨r8,h9,f0a⟩:=Ab hr
 refine sc (Ae Ks (by rfl)) (FY ([(wu32 x0),(wu32 (x0.fdiv (2^min (32:Int).toNat IntKind.u64.bits)))]:List Int) (some ⟨b4,0,none⟩) 2 w1 (tbx E3 hT) n7 r8 h9) ?_
 rintro _ w2 E1a ⟨A2a,c3a,rfl,n4a⟩
 refine nrm ?_
 have X5a:=xtr E3 E1a
 refine sV (Ac rfl) ?_
 refine Ad<|h2 _ _<|wp_ret ?_
 obtain rfl:=sj f0a
 exact fin rfl (Res.tmp rfl Res.nil) (Ap X5a ⟨A2a,c3a,rfl,n4a⟩)
theorem EQ (x0:List Int) (A1:Option Addr) (c2:Nat) (w:World) (hT:TB w) (n3:RLu w A1 c2 x0) (r:Int) (hr:Bq x0=some r) :
  Calls Tryd.prog 79 #[.slice A1 x0.length c2] w (Ret FW w r):=by
 unfold Bq at hr
 go_enter Tryd.func79,Tryd.ntmps79
 refine wp_seq_k fun K4 h4=>Ah<|sV (Ac rfl) ?_
 refine Ad<|h4 _ _<|wp_seq_k fun K5 h5=>Ah<|sV (Ac rfl) ?_
 refine Ad<|h5 _ _<|wp_seq_k fun K6 h6=>?_
 obtain ⟨m1b,h0c,f1c⟩:=Ab hr
 refine DG (fun l l' w'=>∃(t3a:Nat→Value),Ext w w'∧l'=((((((((((((l.set 3 (.int .i64 m1b)).set 4 (.slice A1 x0.length c2)).set 5 (.int .i64 (x0.length:Int))).set 6 (t3a 0)).set 7 (t3a 1)).set 8 (t3a 2)).set 9 (t3a 3)).set 10 (t3a 4)).set 11 (t3a 5)).set 12 (t3a 6)).set 13 (t3a 7)).set 14 (t3a 8))) ?_ ?_
 ·apply wp_block
  refine Cv (fun l n2b l' w'=>∃(v4a:Int) (t0a:Nat→Value),Ext w w'∧Bo x0 n2b v4a=some m1b∧l'=((((((((((((l.set 3 (.int .i64 v4a)).set 4 (t0a 0)).set 5 (t0a 1)).set 6 (t0a 2)).set 7 (t0a 3)).set 8 (t0a 4)).set 9 (t0a 5)).set 10 (t0a 6)).set 11 (t0a 7)).set 12 (t0a 8)).set 13 (t0a 9)).set 14 (t0a 10))) 18446744073709551616 ?_ ?_ ?_
  ·exact ⟨0,(tk [uu,uu,uu,uu,uu,uu,uu,uu,uu,uu,uu]),(Ext.refl _),h0c,(by simp only [S0,S1]<;>rfl)⟩
  ·rintro l' w' ⟨v4a,t0a,_,hz,_⟩
   exact nomatch hz
  ·rintro n2b ih2c l' w1 ⟨v4a,t0a,U7a,hr3b,hq'⟩ l'' hl
   rw [hq'] at hl
   clear hq'
   simp only [S0,S1] at hl
   subst hl
   unfold Bo at hr3b
   refine BV<|wp_seq_k fun K4b h4b=>wp_seq_k fun K5b h5b=>Ah<|sV (Aa rfl) ?_
   refine sV (AO CQ rfl) ?_
   refine sb (Eu rfl rfl) fun z5a hz5a=>?_
   refine nrm ?_
   refine sV (Aa rfl) ?_
   obtain ⟨m8a,h6b,f7b⟩:=Ab hr3b
   refine Bh 9 (fun l l' w'=>∃(t1a:Nat→Value),Ext w1 w'∧l'=(((((l.set 8 (t1a 0)).set 9 (t1a 1)).set 10 (t1a 2)).set 11 (t1a 3)).set 12 (.bool m8a))) ?_ ?_
   ·intro HJ254
    rcases bft z5a with e2a | e2a
    ·have p3c:=zP hz5a e2a
     have f4c:=ifP p3c h6b
     refine sV (Aa rfl) ?_ (hw:=wgT rfl e2a)
     refine sV (Aa rfl) ?_ (hw:=wgT rfl e2a)
     obtain ⟨r9a,h5c,f6c⟩:=Ab f4c
     refine sc (Ae Ko (by rfl)) (Et x0 v4a A1 c2 w1 (tbx U7a hT) (n3.ext U7a) r9a h5c) ?_ (hw:=wgT rfl e2a)
     rintro _ w2 E7c rfl
     refine nrm ?_
     refine sb (CE rfl rfl) ?_ (hw:=wgT rfl e2a)
     intro z0b hz0b
     refine nrm ?_
     refine sV (Ar (evb rfl e2a) rfl) ?_
     obtain rfl:z0b=decide (r9a=0):=bz hz0b
     obtain rfl:=sj f6c
     exact HJ254 _ _ ⟨(tk [.slice A1 x0.length c2,.int .i64 v4a,.int .u64 r9a,.bool (decide (r9a=0))]),E7c,(by simp only [S0,S1]<;>rfl)⟩
    ·have p8c:=zN hz5a e2a
     have f9c:=ifN p8c h6b
     refine sP ?_ (hw:=wgF rfl e2a)
     refine sP ?_ (hw:=wgF rfl e2a)
     refine sP ?_ (hw:=wgF rfl e2a)
     refine sP ?_ (hw:=wgF rfl e2a)
     refine sV (Az (evb rfl e2a) rfl) ?_
     obtain rfl:=sj f9c
     exact HJ254 _ _ ⟨(tk [uu,uu,uu,uu]),(Ext.refl _),(by simp only [S0,S1]<;>rfl)⟩
   ·rintro l' w2 ⟨t1a,U8b,hq'⟩ l'' hl
    rw [hq'] at hl
    clear hq'
    simp only [S0,S1] at hl
    subst hl
    refine Ad<|h5b _ _ ?_
    rcases bft m8a with e6a | e6a
    ·have p0d:=e6a
     have f1d:=ifP p0d f7b
     refine wp_cond_true (Ao (evb rfl e6a))<|wp_skip<|h4b _ _ ?_
     apply wp_block
     refine Ah<|sV (Aa rfl) ?_
     refine sV (BH (c:=wi64 (v4a+1)) rfl rfl rfl) ?_
     refine sV (Ac rfl) ?_
     refine Ad ?_
     exact ih2c _ _ ⟨(wi64 (v4a+1)),(tk [.slice A1 x0.length c2,.int .i64 (x0.length:Int),.bool z5a,.bool z5a,t1a 0,t1a 1,t1a 2,t1a 3,.bool m8a,.int .i64 v4a,.int .i64 (wi64 (v4a+1))]),(U7a.trans U8b),f1d,(by simp only [S0,S1]<;>rfl)⟩
    ·have p2d:=bF e6a
     have f3d:=ifN p2d f7b
     refine wp_cond_false (Ao (evb rfl e6a))<|wp_exit ?_
     simp only [Exit.then,Exit.inBlock,↓reduceIte,Nat.reduceEqDiff]
     obtain rfl:=sj f3d
     exact ⟨_,rfl,(tk [.bool z5a,.bool z5a,t1a 0,t1a 1,t1a 2,t1a 3,.bool m8a,t0a 9,t0a 10]),(U7a.trans U8b),(by simp only [S0,S1]<;>rfl)⟩
 ·rintro l' w1 ⟨t3a,U4d,hq'⟩ l'' hl
  rw [hq'] at hl
  clear hq'
  simp only [S0,S1] at hl
  subst hl
  refine h6 _ _<|wp_seq_k fun K9b h9b=>Ah<|sV (Aa rfl) ?_
  refine sV (Ac rfl) ?_
  refine Ad<|h9b _ _<|wp_ret ?_
  obtain rfl:=sj f1c
  exact fin rfl (Res.tmp rfl Res.nil) (Ap U4d rfl)
theorem Fh (x0:List Int) (x1:Int) (A1:Option Addr) (c2:Nat) (w:World) (hT:TB w) (n3:RLu w A1 c2 x0) (r:List Int) (hr:BJ x0 x1=some r) :
  Calls Tryd.prog 80 #[.slice A1 x0.length c2,.int .i64 x1] w (Ret Jr w r):=by
 unfold BJ at hr
 go_enter Tryd.func80,Tryd.ntmps80
 refine wp_seq_k fun K4 h4=>Ah<|sV (Ac rfl) ?_
 refine Ad<|h4 _ _<|wp_seq_k fun K5 h5=>wp_seq_k fun K6 h6=>Ah<|sV (Aa rfl) ?_
 refine sV (Hb (c:=wi64 (x1.tdiv 32)) (by decide) rfl rfl rfl) ?_
 refine sV (Aa rfl) ?_
 refine sV (AO CQ rfl) ?_
 refine sb (Fz rfl rfl) fun z7 hz7=>?_
 refine nrm ?_
 refine Ad<|h6 _ _ ?_
 rcases bft z7 with e9a | e9a
 ·have p6d:=zP hz7 e9a
  have f7d:=ifP p6d hr
  refine wp_cond_true (Ao (evb rfl e9a))<|wp_seq_k fun K7b h7b=>Ah<|sV (Ac rfl) ?_
  refine Ad<|h7b _ _<|wp_ret ?_
  obtain rfl:=sj f7d
  exact fin rfl (Res.tmp rfl Res.nil) (Ap (Ext.refl _) ⟨none,0,rfl,(RL.nil _ _ _)⟩)
 ·have p8d:=zN hz7 e9a
  have f9d:=ifN p8d hr
  refine wp_cond_false (Ao (evb rfl e9a))<|wp_skip<|h5 _ _<|wp_seq_k fun K8b h8b=>Ah<|sV (Ac rfl) ?_
  refine Ad<|h8b _ _<|wp_seq_k fun K9b h9b=>wp_seq_k fun K0c h0c=>Ah<|sV (Aa rfl) ?_
  refine sV (Hb (c:=wi64 (x1.tdiv 32)) (by decide) rfl rfl rfl) ?_
  refine sV (Ac rfl) ?_
  refine Ad<|h0c _ _ ?_
  obtain ⟨m0b,h0e,f1e⟩:=Ab f9d
  refine DG (fun l l' w'=>∃(A2b:Option Addr) (c3b:Nat) (t1a:Nat→Value),Ext w w'∧OW 97 w.heap.size w' A2b m0b.length c3b m0b∧l'=[.slice A1 x0.length c2,.int .i64 x1,uu,uu,.slice none 0 0,.slice A2b m0b.length c3b,t1a 0,t1a 1,.int .i64 x1,.int .i64 (wi64 (x1.tdiv 32)),.slice A1 x0.length c2,.int .i64 (x0.length:Int),.bool z7,.int .i64 x1,.int .i64 (wi64 (x1.tdiv 32)),t1a 2,.slice A1 x0.length c2,.int .i64 (x0.length:Int),t1a 3,t1a 4,t1a 5,t1a 6,t1a 7,t1a 8,t1a 9,t1a 10,t1a 11,t1a 12,t1a 13,t1a 14,t1a 15,t1a 16,t1a 17,t1a 18,t1a 19,t1a 20,t1a 21,t1a 22,uu,uu]) ?_ ?_
  ·apply wp_block
   refine Cv (fun l n1c l' w'=>∃(v3a:Int) (v5a:List Int) (A6a:Option Addr) (c7a:Nat) (t0a:Nat→Value),Ext w w'∧OW 97 w.heap.size w' A6a v5a.length c7a v5a∧Ck x0 x1 n1c v3a v5a=some m0b∧l'=[.slice A1 x0.length c2,.int .i64 x1,uu,uu,.slice none 0 0,.slice A6a v5a.length c7a,.int .i64 v3a,t0a 0,.int .i64 x1,.int .i64 (wi64 (x1.tdiv 32)),.slice A1 x0.length c2,.int .i64 (x0.length:Int),.bool z7,.int .i64 x1,.int .i64 (wi64 (x1.tdiv 32)),t0a 1,t0a 2,t0a 3,t0a 4,t0a 5,t0a 6,t0a 7,t0a 8,t0a 9,t0a 10,t0a 11,t0a 12,t0a 13,t0a 14,t0a 15,t0a 16,t0a 17,t0a 18,t0a 19,t0a 20,t0a 21,t0a 22,t0a 23,uu,uu]) 18446744073709551616 ?_ ?_ ?_
   ·exact ⟨(wi64 (x1.tdiv 32)),([]:List Int),none,0,(tk [uu,uu,uu,uu,uu,uu,uu,uu,uu,uu,uu,uu,uu,uu,uu,uu,uu,uu,uu,uu,uu,uu,uu,uu]),(Ext.refl _),(OW.nn (OW.nil 97 w.heap.size w none)),h0e,(by simp only [OW.len (OW.nil 97 w.heap.size w none)]<;>rfl)⟩
   ·rintro l' w' ⟨v3a,v5a,A6a,c7a,t0a,_,_,hz,_⟩
    exact nomatch hz
   ·rintro n1c ih2e _ w1 ⟨v3a,v5a,A6a,c7a,t0a,X4b,ow2c,hr5b,rfl⟩ _ rfl
    unfold Ck at hr5b
    refine BV<|wp_seq_k fun K3c h3c=>wp_seq_k fun K4c h4c=>Ah<|sV (Aa rfl) ?_
    refine sV (Aa rfl) ?_
    refine sV (AO CQ rfl) ?_
    refine sb (CR rfl rfl) fun z8a hz8a=>?_
    refine nrm ?_
    refine Ad<|h4c _ _ ?_
    rcases bft z8a with e1b | e1b
    ·have p3e:=zP hz8a e1b
     have f4e:=ifP p3e hr5b
     refine wp_cond_true (Ao (evb rfl e1b))<|wp_skip<|h3c _ _<|wp_seq_k fun K5c h5c=>?_
     apply wp_block
     refine wp_seq_k fun K6c h6c=>Ah<|sV (Aa rfl) ?_
     refine sV (Aa rfl) ?_
     refine sV (BH (c:=wi64 (v3a+1)) rfl rfl rfl) ?_
     obtain ⟨r2a,h5e,f6e⟩:=Ab f4e
     refine sc (Ae JI (by rfl)) (Fu x0 (wi64 (v3a+1)) A1 c2 w1 (tbx X4b hT) (n3.ext X4b) r2a h5e) ?_
     rintro _ w2 E7c rfl
     refine nrm ?_
     have X6b:=xtr X4b E7c
     refine sV (IS (c:=wu64 (r2a*2^min (32:Int).toNat IntKind.u64.bits)) (by decide) rfl rfl rfl) ?_
     refine sV (Aa rfl) ?_
     refine sV (Aa rfl) ?_
     obtain ⟨r4a,h7e,f8e⟩:=Ab f6e
     refine sc (Ae JI (by rfl)) (Fu x0 v3a A1 c2 w2 (tbx X6b hT) (n3.ext X6b) r4a h7e) ?_
     rintro _ w3 E8c rfl
     refine nrm ?_
     have X9e:=xtr X6b E8c
     refine sV (BH (c:=wu64 ((wu64 (r2a*2^min (32:Int).toNat IntKind.u64.bits))+r4a)) rfl rfl rfl) ?_
     refine sV (Aa rfl) ?_
     refine sV (HI (c:=x1.tmod 32) (by decide) rfl rfl rfl) ?_
     obtain ⟨_,h0f,f1f⟩:=Ab f8e
     have gd496:=Be h0f
     refine sV (Hw (c:=(wu64 ((wu64 (r2a*2^min (32:Int).toNat IntKind.u64.bits))+r4a)).fdiv (2^min ((x1.tmod 32):Int).toNat IntKind.u64.bits)) gd496 rfl rfl rfl) ?_
     refine sV (Ac rfl) ?_
     refine Ad<|h6c _ _<|Ah<|sV (Aa rfl) ?_
     refine sV (Aa rfl) ?_
     refine sV (BB (c:=wu32 ((wu64 ((wu64 (r2a*2^min (32:Int).toNat IntKind.u64.bits))+r4a)).fdiv (2^min ((x1.tmod 32):Int).toNat IntKind.u64.bits))) Bw Cz rfl rfl) ?_
     refine Dw (vals:=[(0,.int .u32 (wu32 ((wu64 ((wu64 (r2a*2^min (32:Int).toNat IntKind.u64.bits))+r4a)).fdiv (2^min ((x1.tmod 32):Int).toNat IntKind.u64.bits))))]) (cs:=[.int .u32 (wu32 ((wu64 ((wu64 (r2a*2^min (32:Int).toNat IntKind.u64.bits))+r4a)).fdiv (2^min ((x1.tmod 32):Int).toNat IntKind.u64.bits)))]) CQ AR Ho (by rfl) (by decide) (by kernel_rfl) fun b9c w4 E0d g0h q2f=>?_
     refine nrm ?_
     have X1d:=xtr X9e E0d
     have n3f:RLu w4 (some ⟨b9c,0,none⟩) 1 [(wu32 ((wu64 ((wu64 (r2a*2^min (32:Int).toNat IntKind.u64.bits))+r4a)).fdiv (2^min ((x1.tmod 32):Int).toNat IntKind.u64.bits)))]:=(OW.lit (n0:=0) (n:=1) (xs:=[(wu32 ((wu64 ((wu64 (r2a*2^min (32:Int).toNat IntKind.u64.bits))+r4a)).fdiv (2^min ((x1.tmod 32):Int).toNat IntKind.u64.bits)))]) q2f (Nat.zero_le _) rfl (by decide)).rl
     have ow4f:=((ow2c.ext E7c).ext E8c).ext E0d
     obtain ⟨_,h5f,f6f⟩:=Ab f1f
     have gd506:=Be h5f
     refine IP CQ FZ rfl rfl rfl ow4f n3f gd506 X1d.size fun A2d c3d w5 B509 ow7f=>?_
     refine nrm ?_
     have X8f:=xO X1d B509 (Nat.le_refl _)
     refine sV (Ac rfl) ?_
     refine Ad<|h5c _ _<|Ah<|sV (Aa rfl) ?_
     refine sV (BH (c:=wi64 (v3a+1)) rfl rfl rfl) ?_
     refine sV (Ac rfl) ?_
     refine Ad ?_
     exact ih2e _ _ ⟨(wi64 (v3a+1)),(v5a++([(wu32 ((wu64 ((wu64 (r2a*2^min (32:Int).toNat IntKind.u64.bits))+r4a)).fdiv (2^min ((x1.tmod 32):Int).toNat IntKind.u64.bits)))]:List Int)),A2d,c3d,(tk [.int .u64 ((wu64 ((wu64 (r2a*2^min (32:Int).toNat IntKind.u64.bits))+r4a)).fdiv (2^min ((x1.tmod 32):Int).toNat IntKind.u64.bits)),.int .i64 v3a,.slice A1 x0.length c2,.int .i64 (x0.length:Int),.bool z8a,.int .i64 v3a,.int .i64 (wi64 (v3a+1)),.slice A1 x0.length c2,.int .i64 v3a,.int .i64 (wi64 (v3a+1)),.int .u64 r2a,.int .u64 (wu64 (r2a*2^min (32:Int).toNat IntKind.u64.bits)),.slice A1 x0.length c2,.int .i64 v3a,.int .u64 r4a,.int .u64 (wu64 ((wu64 (r2a*2^min (32:Int).toNat IntKind.u64.bits))+r4a)),.int .i64 x1,.int .i64 (x1.tmod 32),.int .u64 ((wu64 ((wu64 (r2a*2^min (32:Int).toNat IntKind.u64.bits))+r4a)).fdiv (2^min ((x1.tmod 32):Int).toNat IntKind.u64.bits)),.slice A6a v5a.length c7a,.int .u64 ((wu64 ((wu64 (r2a*2^min (32:Int).toNat IntKind.u64.bits))+r4a)).fdiv (2^min ((x1.tmod 32):Int).toNat IntKind.u64.bits)),.int .u32 (wu32 ((wu64 ((wu64 (r2a*2^min (32:Int).toNat IntKind.u64.bits))+r4a)).fdiv (2^min ((x1.tmod 32):Int).toNat IntKind.u64.bits))),.slice (some ⟨b9c,0,none⟩) 1 1,.slice A2d (List.length (v5a++([(wu32 ((wu64 ((wu64 (r2a*2^min (32:Int).toNat IntKind.u64.bits))+r4a)).fdiv (2^min ((x1.tmod 32):Int).toNat IntKind.u64.bits)))]:List Int))) c3d]),X8f,(OW.nn ow7f),f6f,rfl⟩
    ·have p9f:=zN hz8a e1b
     have f0g:=ifN p9f hr5b
     refine wp_cond_false (Ao (evb rfl e1b))<|wp_exit ?_
     simp only [Exit.then,Exit.inBlock,↓reduceIte,Nat.reduceEqDiff]
     obtain rfl:=sj f0g
     exact ⟨_,rfl,A6a,c7a,(tk [.int .i64 v3a,t0a 0,.int .i64 v3a,.bool z8a,t0a 5,t0a 6,t0a 7,t0a 8,t0a 9,t0a 10,t0a 11,t0a 12,t0a 13,t0a 14,t0a 15,t0a 16,t0a 17,t0a 18,t0a 19,t0a 20,t0a 21,t0a 22,t0a 23]),X4b,(OW.nn ow2c),rfl⟩
  ·rintro _ w1 ⟨A2b,c3b,t1a,X4d,ow1g,rfl⟩ _ rfl
   refine h9b _ _<|wp_seq_k fun K5d h5d=>Ah<|sV (Aa rfl) ?_
   obtain ⟨r2g,h3g,f4g⟩:=Ab f1e
   refine sc (Ae Ks (by rfl)) (FY m0b A2b c3b w1 (tbx X4d hT) (OW.rl ow1g) r2g h3g) ?_
   rintro _ w2 E5g ⟨A6g,c7g,rfl,n8g⟩
   refine nrm ?_
   have X9g:=xtr X4d E5g
   refine sV (Ac rfl) ?_
   refine Ad<|h5d _ _<|wp_ret ?_
   obtain rfl:=sj f4g
   exact fin rfl (Res.tmp rfl Res.nil) (Ap X9g ⟨A6g,c7g,rfl,n8g⟩)
theorem Hj (x0:List Int) (A1:Option Addr) (c2:Nat) (w:World) (hT:TB w) (n3:RLu w A1 c2 x0) (r:Bool) (hr:EM x0=some r) :
  Calls Tryd.prog 100 #[.slice A1 x0.length c2] w (Ret EO w r):=by
 unfold EM at hr
 go_enter Tryd.func100,Tryd.ntmps100
 refine wp_seq_k fun K4 h4=>Ah<|sV (Ac rfl) ?_
 refine Ad<|h4 _ _<|wp_seq_k fun K5 h5=>Ah<|sV (Aa rfl) ?_
 refine sV (AO CQ rfl) ?_
 refine sb (Gr rfl rfl) fun z6 hz6=>?_
 refine nrm ?_
 refine sV (Aa rfl) ?_
 obtain ⟨m0b,h7a,f1b⟩:=Ab hr
 refine Bh 17 (fun l l' w'=>∃(t3a:Nat→Value),w=w'∧l'=(((((((((((((l.set 7 (t3a 0)).set 8 (t3a 1)).set 9 (t3a 2)).set 10 (t3a 3)).set 11 (t3a 4)).set 12 (t3a 5)).set 13 (t3a 6)).set 14 (t3a 7)).set 15 (t3a 8)).set 16 (t3a 9)).set 17 (t3a 10)).set 18 (t3a 11)).set 19 (.bool m0b))) ?_ ?_
 ·intro HJ54
  rcases bft z6 with e1a | e1a
  ·have p2b:=zP hz6 e1a
   have f3b:=ifP p2b h7a
   refine sV (Aa rfl) ?_ (hw:=wgT rfl e1a)
   refine sV (AO CQ rfl) ?_ (hw:=wgT rfl e1a)
   refine sb (CE rfl rfl) ?_ (hw:=wgT rfl e1a)
   intro z4a hz4a
   refine nrm ?_
   refine sV (Aa rfl) ?_ (hw:=wgT rfl e1a)
   obtain ⟨m8a,h9a,f4b⟩:=Ab f3b
   refine Bh 16 (fun l l' w'=>∃(t2a:Nat→Value),w=w'∧l'=((((((((l.set 11 (t2a 0)).set 12 (t2a 1)).set 13 (t2a 2)).set 14 (t2a 3)).set 15 (t2a 4)).set 16 (t2a 5)).set 17 (t2a 6)).set 18 (.bool m8a))) ?_ ?_
   ·intro HJ81
    rcases bft z4a with e0a | e0a
    ·have p5b:=zP hz4a e0a
     have f6b:=ifP p5b h9a
     refine sP ?_ (hw:=wgF rfl e0a)
     refine sP ?_ (hw:=wgF rfl e0a)
     refine sP ?_ (hw:=wgF rfl e0a)
     refine sP ?_ (hw:=wgF rfl e0a)
     refine sP ?_ (hw:=wgF rfl e0a)
     refine sP ?_ (hw:=wgF rfl e0a)
     refine sP ?_ (hw:=wgF rfl e0a)
     refine sV (Ar (evb rfl e0a) rfl) ?_ (hw:=wgT rfl e1a)
     obtain rfl:=sj f6b
     exact HJ81 _ _ ⟨(tk [uu,uu,uu,uu,uu,uu,uu]),(by trivial),(by simp only [S0,S1]<;>rfl)⟩
    ·have p7b:=zN hz4a e0a
     have f8b:=ifN p7b h9a
     refine sV (Aa rfl) ?_ (hw:=wgT rfl e0a)
     refine sV (Aa rfl) ?_ (hw:=wgT rfl e0a)
     refine sV (AO CQ rfl) ?_ (hw:=wgT rfl e0a)
     refine sV (CB (c:=wi64 ((x0.length:Int) - 1)) rfl rfl rfl) ?_ (hw:=wgT rfl e0a)
     obtain ⟨u5a,h9b,f0c⟩:=Ab f8b
     obtain ⟨bb90,oo91,hA1c,ia2c,ib3c,hc93⟩:=RL.nth n3 h9b
     refine sV (AM CQ AR rfl rfl hA1c ia2c ib3c) ?_ (hw:=wgT rfl e0a)
     refine sV (Aj Cr rfl hc93) ?_ (hw:=wgT rfl e0a)
     refine sb (DY rfl rfl) ?_ (hw:=wgT rfl e0a)
     intro z6a hz6a
     refine nrm ?_
     refine sV (Az (evb rfl e0a) rfl) ?_ (hw:=wgT rfl e1a)
     obtain rfl:z6a=decide (¬u5a=0):=bz hz6a
     obtain rfl:=sj f0c
     exact HJ81 _ _ ⟨(tk [.slice A1 x0.length c2,.slice A1 x0.length c2,.int .i64 (x0.length:Int),.int .i64 (wi64 ((x0.length:Int) - 1)),.pointer (some ⟨bb90,oo91+((wi64 ((x0.length:Int) - 1)):Int).toNat,none⟩),.int .u32 u5a,.bool (decide (¬u5a=0))]),(by trivial),(by simp only [S0,S1]<;>rfl)⟩
   ·rintro l' _ ⟨t2a,rfl,hq'⟩ l'' hl
    rw [hq'] at hl
    clear hq'
    simp only [S0,S1] at hl
    subst hl
    refine sV (Ar (evb rfl e1a) rfl) ?_
    obtain rfl:=sj f4b
    exact HJ54 _ _ ⟨(tk [.slice A1 x0.length c2,.int .i64 (x0.length:Int),.bool z4a,.bool z4a,t2a 0,t2a 1,t2a 2,t2a 3,t2a 4,t2a 5,t2a 6,.bool m8a]),(by trivial),(by simp only [S0,S1]<;>rfl)⟩
  ·have p4c:=zN hz6 e1a
   have f5c:=ifN p4c h7a
   refine sP ?_ (hw:=wgF rfl e1a)
   refine sP ?_ (hw:=wgF rfl e1a)
   refine sP ?_ (hw:=wgF rfl e1a)
   refine sP ?_ (hw:=wgF rfl e1a)
   refine sP ?_
   refine sP ?_
   refine sP ?_
   refine sP ?_
   refine sP ?_
   refine sP ?_
   refine sP ?_
   refine sP ?_ (hw:=wgF rfl e1a)
   refine sV (Az (evb rfl e1a) rfl) ?_
   obtain rfl:=sj f5c
   exact HJ54 _ _ ⟨(tk [uu,uu,uu,uu,uu,uu,uu,uu,uu,uu,uu,uu]),(by trivial),(by simp only [S0,S1]<;>rfl)⟩
 ·rintro l' _ ⟨t3a,rfl,hq'⟩ l'' hl
  rw [hq'] at hl
  clear hq'
  simp only [S0,S1] at hl
  subst hl
  refine sV (Ac rfl) ?_
  refine Ad<|h5 _ _<|wp_ret ?_
  obtain rfl:=sj f1b
  exact fin rfl (Res.tmp rfl Res.nil) (Ap (Ext.refl _) rfl)
end Go.Proofs.Lf

