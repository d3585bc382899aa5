import Derived.Test.YtabiobmfelafoaaGreatDoorLeafDefs
namespace Go.Proofs.Lf
set_option linter.unusedVariables false
set_option linter.unusedSimpArgs false
set_option maxHeartbeats 4000000
open Go.RowKit Go.Sb Go.Proofs Go.Proofs.Sbn
theorem Fq (x0:List Int) (A1:Option Addr) (c2:Nat) (w:World) (hT:TB w) (n3:RLu w A1 c2 x0) (r:Bool) (hr:BD x0=some r) :
  Calls Tryz.prog 143 #[.slice A1 x0.length c2] w (Ret Fw w r):=by
 unfold BD at hr
 go_enter Tryz.func143,Tryz.ntmps143
 refine wp_seq_k fun K4 h4=>Ai<|sV (Ac rfl) ?_
 refine Ad<|h4 _ _<|wp_seq_k fun K5 h5=>Ai<|sV (Ab rfl) ?_
 refine sV (AP Bs rfl) ?_
 refine sb (GX rfl rfl) fun z6 hz6=>?_
 refine nrm ?_
 refine sV (Ab rfl) ?_
 obtain ⟨m0b,h7a,f1b⟩:=Aa hr
 refine BW 17 (fun l l' w'=>∃(t3a:Nat→Value),w=w'∧l'=(((((((((((((l.set 7 (t3a 0)).set 8 (t3a 1)).set 9 (t3a 2)).set 10 (t3a 3)).set 11 (t3a 4)).set 12 (t3a 5)).set 13 (t3a 6)).set 14 (t3a 7)).set 15 (t3a 8)).set 16 (t3a 9)).set 17 (t3a 10)).set 18 (t3a 11)).set 19 (.bool m0b))) ?_ ?_
 ·intro HJ54
  rcases bft z6 with e1a | e1a
  ·have p2b:=zP hz6 e1a
   have f3b:=ifP p2b h7a
   refine sV (Ab rfl) ?_ (hw:=wgT rfl e1a)
   refine sV (AP Bs rfl) ?_ (hw:=wgT rfl e1a)
   refine sb (Cr rfl rfl) ?_ (hw:=wgT rfl e1a)
   intro z4a hz4a
   refine nrm ?_
   refine sV (Ab rfl) ?_ (hw:=wgT rfl e1a)
   obtain ⟨m8a,h9a,f4b⟩:=Aa f3b
   refine BW 16 (fun l l' w'=>∃(t2a:Nat→Value),w=w'∧l'=((((((((l.set 11 (t2a 0)).set 12 (t2a 1)).set 13 (t2a 2)).set 14 (t2a 3)).set 15 (t2a 4)).set 16 (t2a 5)).set 17 (t2a 6)).set 18 (.bool m8a))) ?_ ?_
   ·intro HJ81
    rcases bft z4a with e0a | e0a
    ·have p5b:=zP hz4a e0a
     have f6b:=ifP p5b h9a
     refine sP ?_ (hw:=wgF rfl e0a)
     refine sP ?_ (hw:=wgF rfl e0a)
     refine sP ?_ (hw:=wgF rfl e0a)
     refine sP ?_ (hw:=wgF rfl e0a)
     refine sP ?_ (hw:=wgF rfl e0a)
     refine sP ?_ (hw:=wgF rfl e0a)
     refine sP ?_ (hw:=wgF rfl e0a)
     refine sV (AB (evb rfl e0a) rfl) ?_ (hw:=wgT rfl e1a)
     obtain rfl:=sj f6b
     exact HJ81 _ _ ⟨(tk [uu,uu,uu,uu,uu,uu,uu]),(by trivial),(by simp only [S0,S1]<;>rfl)⟩
    ·have p7b:=zN hz4a e0a
     have f8b:=ifN p7b h9a
     refine sV (Ab rfl) ?_ (hw:=wgT rfl e0a)
     refine sV (Ab rfl) ?_ (hw:=wgT rfl e0a)
     refine sV (AP Bs rfl) ?_ (hw:=wgT rfl e0a)
     refine sV (CE (c:=wi64 ((x0.length:Int) - 1)) rfl rfl rfl) ?_ (hw:=wgT rfl e0a)
     obtain ⟨u5a,h9b,f0c⟩:=Aa f8b
     obtain ⟨bb90,oo91,hA1c,ia2c,ib3c,hc93⟩:=RL.nth n3 h9b
     refine sV (AN Bs AC rfl rfl hA1c ia2c ib3c) ?_ (hw:=wgT rfl e0a)
     refine sV (Aj Bz rfl hc93) ?_ (hw:=wgT rfl e0a)
     refine sb (GF rfl rfl) ?_ (hw:=wgT rfl e0a)
     intro z6a hz6a
     refine nrm ?_
     refine sV (AF (evb rfl e0a) rfl) ?_ (hw:=wgT rfl e1a)
     obtain rfl:z6a=decide (¬u5a=0):=bz hz6a
     obtain rfl:=sj f0c
     exact HJ81 _ _ ⟨(tk [.slice A1 x0.length c2,.slice A1 x0.length c2,.int .i64 (x0.length:Int),.int .i64 (wi64 ((x0.length:Int) - 1)),.pointer (some ⟨bb90,oo91+((wi64 ((x0.length:Int) - 1)):Int).toNat,none⟩),.int .u32 u5a,.bool (decide (¬u5a=0))]),(by trivial),(by simp only [S0,S1]<;>rfl)⟩
   ·rintro l' _ ⟨t2a,rfl,hq'⟩ l'' hl
    rw [hq'] at hl
    clear hq'
    simp only [S0,S1] at hl
    subst hl
    refine sV (AB (evb rfl e1a) rfl) ?_
    obtain rfl:=sj f4b
    exact HJ54 _ _ ⟨(tk [.slice A1 x0.length c2,.int .i64 (x0.length:Int),.bool z4a,.bool z4a,t2a 0,t2a 1,t2a 2,t2a 3,t2a 4,t2a 5,t2a 6,.bool m8a]),(by trivial),(by simp only [S0,S1]<;>rfl)⟩
  ·have p4c:=zN hz6 e1a
   have f5c:=ifN p4c h7a
   refine sP ?_ (hw:=wgF rfl e1a)
   refine sP ?_ (hw:=wgF rfl e1a)
   refine sP ?_ (hw:=wgF rfl e1a)
   refine sP ?_ (hw:=wgF rfl e1a)
   refine sP ?_
   refine sP ?_
   refine sP ?_
   refine sP ?_
   refine sP ?_
   refine sP ?_
   refine sP ?_
   refine sP ?_ (hw:=wgF rfl e1a)
   refine sV (AF (evb rfl e1a) rfl) ?_
   obtain rfl:=sj f5c
   exact HJ54 _ _ ⟨(tk [uu,uu,uu,uu,uu,uu,uu,uu,uu,uu,uu,uu]),(by trivial),(by simp only [S0,S1]<;>rfl)⟩
 ·rintro l' _ ⟨t3a,rfl,hq'⟩ l'' hl
  rw [hq'] at hl
  clear hq'
  simp only [S0,S1] at hl
  subst hl
  refine sV (Ac rfl) ?_
  refine Ad<|h5 _ _<|wp_ret ?_
  obtain rfl:=sj f1b
  exact fin rfl (Res.tmp rfl Res.nil) (An (Ext.refl _) rfl)
theorem BX (x0:List Int) (x1:Int) (A1:Option Addr) (c2:Nat) (w:World) (hT:TB w) (n3:RLu w A1 c2 x0) (r:Int) (hr:Bd x0 x1=some r) :
  Calls Tryz.prog 197 #[.slice A1 x0.length c2,.int .i64 x1] w (Ret Ju w r):=by
 unfold Bd at hr
 go_enter Tryz.func197,Tryz.ntmps197
 refine wp_seq_k fun K4 h4=>Ai<|sV (Ac rfl) ?_
 refine Ad<|h4 _ _<|wp_seq_k fun K5 h5=>wp_seq_k fun K6 h6=>Ai<|sV (Ab rfl) ?_
 refine sV (Ab rfl) ?_
 refine sV (AP Bs rfl) ?_
 refine sb (FK rfl rfl) fun z7 hz7=>?_
 refine nrm ?_
 refine Ad<|h6 _ _ ?_
 rcases bft z7 with e0a | e0a
 ·have p3a:=zP hz7 e0a
  have f4a:=ifP p3a hr
  refine wp_cond_true (Am (evb rfl e0a))<|wp_seq_k fun K1a h1a=>Ai<|sV (Ac rfl) ?_
  refine Ad<|h1a _ _<|wp_ret ?_
  obtain rfl:=sj f4a
  exact fin rfl (Res.tmp rfl Res.nil) (An (Ext.refl _) rfl)
 ·have p5a:=zN hz7 e0a
  have f6a:=ifN p5a hr
  refine wp_cond_false (Am (evb rfl e0a))<|wp_skip<|h5 _ _<|wp_seq_k fun K2a h2a=>Ai<|sV (Ab rfl) ?_
  refine sV (Ab rfl) ?_
  obtain ⟨u7a,h8a,f9a⟩:=Aa f6a
  obtain ⟨bb23,oo24,hA0b,ia1b,ib2b,hc26⟩:=RL.nth n3 h8a
  refine sV (AN Bs AC rfl rfl hA0b ia1b ib2b) ?_
  refine sV (Aj Bz rfl hc26) ?_
  refine sV (Bi (c:=wu64 u7a) Bn Bf rfl rfl) ?_
  refine sV (Ac rfl) ?_
  refine Ad<|h2a _ _<|wp_ret ?_
  obtain rfl:=sj f9a
  exact fin rfl (Res.tmp rfl Res.nil) (An (Ext.refl _) rfl)
theorem EW (x0:List Int) (x1:Int) (A1:Option Addr) (c2:Nat) (w:World) (hT:TB w) (n3:RLu w A1 c2 x0) (r:Int) (hr:BI x0 x1=some r) :
  Calls Tryz.prog 128 #[.slice A1 x0.length c2,.int .i64 x1] w (Ret Ju w r):=by
 unfold BI at hr
 go_enter Tryz.func128,Tryz.ntmps128
 refine wp_seq_k fun K4 h4=>Ai<|sV (Ac rfl) ?_
 refine Ad<|h4 _ _<|wp_seq_k fun K5 h5=>Ai<|sV (Ab rfl) ?_
 refine sV (Ab rfl) ?_
 refine sV (HA (c:=wi64 (x1.tdiv 32)) (by decide) rfl rfl rfl) ?_
 obtain ⟨r6,h7,f8⟩:=Aa hr
 refine sc (Ae Ha (by rfl)) (BX x0 (wi64 (x1.tdiv 32)) A1 c2 w hT n3 r6 h7) ?_
 rintro _ w1 E9 rfl
 refine nrm ?_
 refine sV (Ab rfl) ?_
 refine sV (Ix (c:=x1.tmod 32) (by decide) rfl rfl rfl) ?_
 obtain ⟨_,h0a,f1a⟩:=Aa f8
 have gd12:=AR h0a
 refine sV (Hs (c:=r6.fdiv (2^min ((x1.tmod 32):Int).toNat IntKind.u64.bits)) gd12 rfl rfl rfl) ?_
 refine sV (Ix (c:=(r6.fdiv (2^min ((x1.tmod 32):Int).toNat IntKind.u64.bits)).tmod 2) (by decide) rfl rfl rfl) ?_
 refine sV (Ac rfl) ?_
 refine Ad<|h5 _ _<|wp_ret ?_
 obtain rfl:=sj f1a
 exact fin rfl (Res.tmp rfl Res.nil) (An E9 rfl)
theorem FH (x0:List Int) (x1:List Int) (A1:Option Addr) (c2:Nat) (A4:Option Addr) (c5:Nat) (w:World) (hT:TB w) (n3:RLu w A1 c2 x0) (n6:RLu w A4 c5 x1) (r:Bool) (hr:BR x0 x1=some r) :
  Calls Tryz.prog 144 #[.slice A1 x0.length c2,.slice A4 x1.length c5] w (Ret Fw w r):=by
 unfold BR at hr
 go_enter Tryz.func144,Tryz.ntmps144
 refine wp_seq_k fun K7 h7=>Ai<|sV (Ac rfl) ?_
 refine Ad<|h7 _ _<|wp_seq_k fun K8 h8=>wp_seq_k fun K9 h9=>Ai<|sV (Ab rfl) ?_
 refine sV (AP Bs rfl) ?_
 refine sV (Ab rfl) ?_
 refine sV (AP Bs rfl) ?_
 refine sb (GF rfl rfl) fun z7a hz7a=>?_
 refine nrm ?_
 refine Ad<|h9 _ _ ?_
 rcases bft z7a with e2a | e2a
 ·have p4c:=zP hz7a e2a
  have f5c:=ifP p4c hr
  refine wp_cond_true (Am (evb rfl e2a))<|wp_seq_k fun K1b h1b=>Ai<|sV (Ac rfl) ?_
  refine Ad<|h1b _ _<|wp_ret ?_
  obtain rfl:=sj f5c
  exact fin rfl (Res.tmp rfl Res.nil) (An (Ext.refl _) rfl)
 ·have p6c:=zN hz7a e2a
  have f7c:=ifN p6c hr
  refine wp_cond_false (Am (evb rfl e2a))<|wp_skip<|h8 _ _<|wp_seq_k fun K2b h2b=>wp_seq_k fun K3b h3b=>Ai<|sV (Ac rfl) ?_
  refine Ad<|h3b _ _ ?_
  apply wp_block
  refine BV (fun l n4b l' w'=>∃(v1a:Int) (t0a:Nat→Value),Ext w w'∧Cf x0 x1 n4b v1a=some r∧l'=((((((((((((((((l.set 5 (.int .i64 v1a)).set 11 (t0a 0)).set 12 (t0a 1)).set 13 (t0a 2)).set 14 (t0a 3)).set 15 (t0a 4)).set 16 (t0a 5)).set 17 (t0a 6)).set 18 (t0a 7)).set 19 (t0a 8)).set 20 (t0a 9)).set 21 (t0a 10)).set 22 (t0a 11)).set 23 (t0a 12)).set 24 (t0a 13)).set 25 (t0a 14))) 18446744073709551616 ?_ ?_ ?_
  ·exact ⟨0,(tk [uu,uu,uu,uu,uu,uu,uu,uu,uu,uu,uu,uu,uu,uu,uu]),(Ext.refl _),f7c,(by simp only [S0,S1]<;>rfl)⟩
  ·rintro l' w' ⟨v1a,t0a,_,hz,_⟩
   exact nomatch hz
  ·rintro n4b ih8c l' w1 ⟨v1a,t0a,U8a,hr9a,hq'⟩ l'' hl
   rw [hq'] at hl
   clear hq'
   simp only [S0,S1] at hl
   subst hl
   unfold Cf at hr9a
   refine Ci<|wp_seq_k fun K5b h5b=>wp_seq_k fun K6b h6b=>Ai<|sV (Ab rfl) ?_
   refine sV (Ab rfl) ?_
   refine sV (AP Bs rfl) ?_
   refine sb (Dl rfl rfl) fun z3a hz3a=>?_
   refine nrm ?_
   refine Ad<|h6b _ _ ?_
   rcases bft z3a with e4a | e4a
   ·have p9c:=zP hz3a e4a
    have f0d:=ifP p9c hr9a
    refine wp_cond_true (Am (evb rfl e4a))<|wp_skip<|h5b _ _<|wp_seq_k fun K7b h7b=>?_
    apply wp_block
    refine wp_seq_k fun K8b h8b=>DG [] 9 mo rfl fun w2 E9b S0c=>have X0b:=xtr U8a E9b;dA 0 rfl (fun _=>Ab rfl) ?_
    refine dA 1 rfl (fun _=>Ab rfl) ?_
    obtain ⟨u1d,h2d,f3d⟩:=Aa f0d
    obtain ⟨bb152,oo153,hA4d,ia5d,ib6d,hc155⟩:=RL.nth (n3.ext X0b) h2d
    refine dA 2 rfl (fun _=>AN Bs AC rfl rfl hA4d ia5d ib6d) ?_
    refine dV 3 rfl (fun _ hw=>Aj Bz rfl (DE hc155 hw)) S0c ?_
    refine dA 4 rfl (fun _=>Ab rfl) ?_
    refine dA 5 rfl (fun _=>Ab rfl) ?_
    obtain ⟨u7d,h8d,f1c⟩:=Aa f3d
    obtain ⟨bb161,oo162,hA9d,ia0e,ib1e,hc164⟩:=RL.nth (n6.ext X0b) h8d
    refine dA 6 rfl (fun _=>AN Bs AC rfl rfl hA9d ia0e ib1e) ?_
    refine dV 7 rfl (fun _ hw=>Aj Bz rfl (DE hc164 hw)) S0c ?_
    refine dab 8 rfl (by kernel_rfl) (fun _ _ _ h=>h) (by rfl) (fun _=>GF rfl rfl) fun z5a hz5a=>?_
    refine dnrm ?_
    refine CH (by kernel_rfl) ?_
    refine h8b _ _ ?_
    rcases bft z5a with e6a | e6a
    ·have p2e:=zP hz5a e6a
     have f3e:=ifP p2e f1c
     refine wp_cond_true (Am (evb rfl e6a))<|wp_seq_k fun K2c h2c=>Ai<|sV (Ac rfl) ?_
     refine Ad<|h2c _ _<|wp_ret ?_
     obtain rfl:=sj f3e
     exact fin rfl (Res.tmp rfl Res.nil) (An X0b rfl)
    ·have p4e:=zN hz5a e6a
     have f5e:=ifN p4e f1c
     refine wp_cond_false (Am (evb rfl e6a))<|wp_skip<|h7b _ _<|Ai<|sV (Ab rfl) ?_
     refine sV (Bk (c:=wi64 (v1a+1)) rfl rfl rfl) ?_
     refine sV (Ac rfl) ?_
     refine Ad ?_
     exact ih8c _ _ ⟨(wi64 (v1a+1)),(tk [.int .i64 v1a,.slice A1 x0.length c2,.int .i64 (x0.length:Int),.bool z3a,.int .i64 v1a,.int .i64 (wi64 (v1a+1)),.slice A1 x0.length c2,.int .i64 v1a,.pointer (some ⟨bb152,oo153+(v1a:Int).toNat,none⟩),.int .u32 u1d,.slice A4 x1.length c5,.int .i64 v1a,.pointer (some ⟨bb161,oo162+(v1a:Int).toNat,none⟩),.int .u32 u7d,.bool z5a]),(U8a.trans E9b),f5e,(by simp only [S0,S1]<;>rfl)⟩
   ·have p6e:=zN hz3a e4a
    have f7e:=ifN p6e hr9a
    refine wp_cond_false (Am (evb rfl e4a))<|wp_exit ?_
    simp only [Exit.then,Exit.inBlock,↓reduceIte,Nat.reduceEqDiff]
    refine h2b _ _<|wp_seq_k fun K3c h3c=>Ai<|sV (Ac rfl) ?_
    refine Ad<|h3c _ _<|wp_ret ?_
    obtain rfl:=sj f7e
    exact fin rfl (Res.tmp rfl Res.nil) (An U8a rfl)
theorem DL (x0:List Int) (A1:Option Addr) (c2:Nat) (w:World) (hT:TB w) (n3:RLu w A1 c2 x0) (r:List Int) (hr:BQ x0=some r) :
  Calls Tryz.prog 210 #[.slice A1 x0.length c2] w (Ret HC w r):=by
 unfold BQ at hr
 go_enter Tryz.func210,Tryz.ntmps210
 refine wp_seq_k fun K4 h4=>Ai<|sV (Ac rfl) ?_
 refine Ad<|h4 _ _<|wp_seq_k fun K5 h5=>Ai<|sV (Ab rfl) ?_
 refine sV (AP Bs rfl) ?_
 refine sV (Ac rfl) ?_
 refine Ad<|h5 _ _<|wp_seq_k fun K6 h6=>?_
 obtain ⟨m7a,h9b,f0c⟩:=Aa hr
 refine DA (fun l l' w'=>∃(t4a:Nat→Value),w=w'∧l'=(((((((((((((l.set 3 (.int .i64 m7a)).set 6 (t4a 0)).set 7 (t4a 1)).set 8 (t4a 2)).set 9 (t4a 3)).set 10 (t4a 4)).set 11 (t4a 5)).set 12 (t4a 6)).set 13 (t4a 7)).set 14 (t4a 8)).set 15 (t4a 9)).set 16 (t4a 10)).set 17 (t4a 11))) ?_ ?_
 ·apply wp_block
  refine BV (fun l n2b l' w'=>∃(v3a:Int) (t2a:Nat→Value),w=w'∧CI x0 n2b v3a=some m7a∧l'=(((((((((((((l.set 3 (.int .i64 v3a)).set 6 (t2a 0)).set 7 (t2a 1)).set 8 (t2a 2)).set 9 (t2a 3)).set 10 (t2a 4)).set 11 (t2a 5)).set 12 (t2a 6)).set 13 (t2a 7)).set 14 (t2a 8)).set 15 (t2a 9)).set 16 (t2a 10)).set 17 (t2a 11))) 18446744073709551616 ?_ ?_ ?_
  ·exact ⟨(x0.length:Int),(tk [uu,uu,uu,uu,uu,uu,uu,uu,uu,uu,uu,uu]),(by trivial),h9b,(by simp only [S0,S1]<;>rfl)⟩
  ·rintro l' w' ⟨v3a,t2a,_,hz,_⟩
   exact nomatch hz
  ·rintro n2b ih1c l' _ ⟨v3a,t2a,rfl,hr3b,hq'⟩ l'' hl
   rw [hq'] at hl
   clear hq'
   simp only [S0,S1] at hl
   subst hl
   unfold CI at hr3b
   refine Ci<|wp_seq_k fun K4b h4b=>wp_seq_k fun K5b h5b=>Ai<|sV (Ab rfl) ?_
   refine sb (Fm rfl rfl) fun z5a hz5a=>?_
   refine nrm ?_
   refine sV (Ab rfl) ?_
   obtain ⟨m8a,h6b,f7b⟩:=Aa hr3b
   refine BW 10 (fun l l' w'=>∃(t0a:Nat→Value),w=w'∧l'=(((((((l.set 9 (t0a 0)).set 10 (t0a 1)).set 11 (t0a 2)).set 12 (t0a 3)).set 13 (t0a 4)).set 14 (t0a 5)).set 15 (.bool m8a))) ?_ ?_
   ·intro HJ299
    rcases bft z5a with e1a | e1a
    ·have p2c:=zP hz5a e1a
     have f3c:=ifP p2c h6b
     refine sV (Ab rfl) ?_ (hw:=wgT rfl e1a)
     refine sV (Ab rfl) ?_ (hw:=wgT rfl e1a)
     refine sV (CE (c:=wi64 (v3a - 1)) rfl rfl rfl) ?_ (hw:=wgT rfl e1a)
     obtain ⟨u9a,h4c,f5c⟩:=Aa f3c
     obtain ⟨bb308,oo309,hA6c,ia7c,ib8c,hc311⟩:=RL.nth n3 h4c
     refine sV (AN Bs AC rfl rfl hA6c ia7c ib8c) ?_ (hw:=wgT rfl e1a)
     refine sV (Aj Bz rfl hc311) ?_ (hw:=wgT rfl e1a)
     refine sb (Cr rfl rfl) ?_ (hw:=wgT rfl e1a)
     intro z0b hz0b
     refine nrm ?_
     refine sV (AB (evb rfl e1a) rfl) ?_
     obtain rfl:z0b=decide (u9a=0):=bz hz0b
     obtain rfl:=sj f5c
     exact HJ299 _ _ ⟨(tk [.slice A1 x0.length c2,.int .i64 v3a,.int .i64 (wi64 (v3a - 1)),.pointer (some ⟨bb308,oo309+((wi64 (v3a - 1)):Int).toNat,none⟩),.int .u32 u9a,.bool (decide (u9a=0))]),(by trivial),(by simp only [S0,S1]<;>rfl)⟩
    ·have p9c:=zN hz5a e1a
     have f0d:=ifN p9c h6b
     refine sP ?_ (hw:=wgF rfl e1a)
     refine sP ?_ (hw:=wgF rfl e1a)
     refine sP ?_ (hw:=wgF rfl e1a)
     refine sP ?_ (hw:=wgF rfl e1a)
     refine sP ?_ (hw:=wgF rfl e1a)
     refine sP ?_ (hw:=wgF rfl e1a)
     refine sV (AF (evb rfl e1a) rfl) ?_
     obtain rfl:=sj f0d
     exact HJ299 _ _ ⟨(tk [uu,uu,uu,uu,uu,uu]),(by trivial),(by simp only [S0,S1]<;>rfl)⟩
   ·rintro l' _ ⟨t0a,rfl,hq'⟩ l'' hl
    rw [hq'] at hl
    clear hq'
    simp only [S0,S1] at hl
    subst hl
    refine Ad<|h5b _ _ ?_
    rcases bft m8a with e6a | e6a
    ·have p1d:=e6a
     have f2d:=ifP p1d f7b
     refine wp_cond_true (Am (evb rfl e6a))<|wp_skip<|h4b _ _ ?_
     apply wp_block
     refine Ai<|sV (Ab rfl) ?_
     refine sV (CE (c:=wi64 (v3a - 1)) rfl rfl rfl) ?_
     refine sV (Ac rfl) ?_
     refine Ad ?_
     exact ih1c _ _ ⟨(wi64 (v3a - 1)),(tk [.int .i64 v3a,.bool z5a,.bool z5a,t0a 0,t0a 1,t0a 2,t0a 3,t0a 4,t0a 5,.bool m8a,.int .i64 v3a,.int .i64 (wi64 (v3a - 1))]),(by trivial),f2d,(by simp only [S0,S1]<;>rfl)⟩
    ·have p3d:=bF e6a
     have f4d:=ifN p3d f7b
     refine wp_cond_false (Am (evb rfl e6a))<|wp_exit ?_
     simp only [Exit.then,Exit.inBlock,↓reduceIte,Nat.reduceEqDiff]
     obtain rfl:=sj f4d
     exact ⟨_,rfl,(tk [.int .i64 v3a,.bool z5a,.bool z5a,t0a 0,t0a 1,t0a 2,t0a 3,t0a 4,t0a 5,.bool m8a,t2a 10,t2a 11]),(by trivial),(by simp only [S0,S1]<;>rfl)⟩
 ·rintro l' _ ⟨t4a,rfl,hq'⟩ l'' hl
  rw [hq'] at hl
  clear hq'
  simp only [S0,S1] at hl
  subst hl
  refine h6 _ _<|wp_seq_k fun K8b h8b=>Ai<|Lj Bs Ew fun A5d w1 E1b=>?_
  refine nrm ?_
  refine sV (Ab rfl) ?_
  refine sV (Ab rfl) ?_
  obtain ⟨_,h6d,f7d⟩:=Aa f0c
  have gd332:=AR h6d
  refine KS (lo:=0) (hi:=(m7a:Int).toNat) Bs AC rfl rfl ⟨.i64,by rw [Int.toNat_of_nonneg (a:=m7a) (by omega)];rfl⟩ (by omega) (by omega) (n3.ext E1b) fun A5e c6e n8d=>?_
  refine nrm ?_
  obtain ⟨_,h9d,f0e⟩:=Aa f7d
  have gd338:=AR h9d
  refine Ig Bs Ew rfl rfl rfl (OW.nil 179 w.heap.size w1 A5d) n8d gd338 E1b.size fun A1e c2e w2 B341 ow3e=>?_
  refine nrm ?_
  have X4e:=xO E1b B341 (Nat.le_refl _)
  refine sV (Ac rfl) ?_
  refine Ad<|h8b _ _<|wp_ret ?_
  obtain rfl:=sj f0e
  exact fin rfl (Res.tmp rfl Res.nil) (An X4e ⟨A1e,c2e,rfl,(OW.rl ow3e)⟩)
theorem Fk (x0:Int) (w:World) (hT:TB w) (r:List Int) (hr:CK x0=some r) :
  Calls Tryz.prog 179 #[.int .u64 x0] w (Ret HC w r):=by
 unfold CK at hr
 go_enter Tryz.func179,Tryz.ntmps179
 refine wp_seq_k fun K1 h1=>Ai<|sV (Ac rfl) ?_
 refine Ad<|h1 _ _<|wp_seq_k fun K2 h2=>Ai<|sV (Ab rfl) ?_
 refine sV (Bi (c:=wu32 x0) Bf Bn rfl rfl) ?_
 refine sV (Ab rfl) ?_
 refine sV (Hs (c:=x0.fdiv (2^min (32:Int).toNat IntKind.u64.bits)) (by decide) rfl rfl rfl) ?_
 refine sV (Bi (c:=wu32 (x0.fdiv (2^min (32:Int).toNat IntKind.u64.bits))) Bf Bn rfl rfl) ?_
 refine DC (vals:=[(0,.int .u32 (wu32 x0)),(1,.int .u32 (wu32 (x0.fdiv (2^min (32:Int).toNat IntKind.u64.bits))))]) (cs:=[.int .u32 (wu32 x0),.int .u32 (wu32 (x0.fdiv (2^min (32:Int).toNat IntKind.u64.bits)))]) Bs AC FR (by rfl) (by decide) (by kernel_rfl) fun b4 w1 E3 g5 q6=>?_
 refine nrm ?_
 have n7:RLu w1 (some ⟨b4,0,none⟩) 2 [(wu32 x0),(wu32 (x0.fdiv (2^min (32:Int).toNat IntKind.u64.bits)))]:=(OW.lit (n0:=0) (n:=2) (xs:=[(wu32 x0),(wu32 (x0.fdiv (2^min (32:Int).toNat IntKind.u64.bits)))]) q6 (Nat.zero_le _) rfl (by decide)).rl
 obtain ⟨r8,h9,f0a⟩:=Aa hr
 refine sc (Ae Je (by rfl)) (DL ([(wu32 x0),(wu32 (x0.fdiv (2^min (32:Int).toNat IntKind.u64.bits)))]:List Int) (some ⟨b4,0,none⟩) 2 w1 (tbx E3 hT) n7 r8 h9) ?_
 rintro _ w2 E1a ⟨A2a,c3a,rfl,n4a⟩
 refine nrm ?_
 have X5a:=xtr E3 E1a
 refine sV (Ac rfl) ?_
 refine Ad<|h2 _ _<|wp_ret ?_
 obtain rfl:=sj f0a
 exact fin rfl (Res.tmp rfl Res.nil) (An X5a ⟨A2a,c3a,rfl,n4a⟩)
theorem FU (x0:List Int) (x1:List Int) (A1:Option Addr) (c2:Nat) (A4:Option Addr) (c5:Nat) (w:World) (hT:TB w) (n3:RLu w A1 c2 x0) (n6:RLu w A4 c5 x1) (r:Int) (hr:BL x0 x1=some r) :
  Calls Tryz.prog 198 #[.slice A1 x0.length c2,.slice A4 x1.length c5] w (Ret Gk w r):=by
 unfold BL at hr
 go_enter Tryz.func198,Tryz.ntmps198
 refine wp_seq_k fun K7 h7=>Ai<|sV (Ac rfl) ?_
 refine Ad<|h7 _ _<|wp_seq_k fun K8 h8=>wp_seq_k fun K9 h9=>Ai<|sV (Ab rfl) ?_
 refine sV (AP Bs rfl) ?_
 refine sV (Ab rfl) ?_
 refine sV (AP Bs rfl) ?_
 refine sV (JX rfl rfl) ?_
 refine sV (CE (c:=wi64 ((max (x0.length:Int) (x1.length:Int)) - 1)) rfl rfl rfl) ?_
 refine sV (Ac rfl) ?_
 refine Ad<|h9 _ _ ?_
 apply wp_block
 refine BV (fun l n3b l' w'=>∃(v1a:Int) (t0a:Nat→Value),Ext w w'∧CP x0 x1 n3b v1a=some r∧l'=(((((((((((((((((((l.set 5 (.int .i64 v1a)).set 12 (t0a 0)).set 13 (t0a 1)).set 14 (t0a 2)).set 15 (t0a 3)).set 16 (t0a 4)).set 17 (t0a 5)).set 18 (t0a 6)).set 19 (t0a 7)).set 20 (t0a 8)).set 21 (t0a 9)).set 22 (t0a 10)).set 23 (t0a 11)).set 24 (t0a 12)).set 25 (t0a 13)).set 26 (t0a 14)).set 27 (t0a 15)).set 28 (t0a 16)).set 29 (t0a 17))) 18446744073709551616 ?_ ?_ ?_
 ·exact ⟨(wi64 ((max (x0.length:Int) (x1.length:Int)) - 1)),(tk [uu,uu,uu,uu,uu,uu,uu,uu,uu,uu,uu,uu,uu,uu,uu,uu,uu,uu]),(Ext.refl _),hr,(by simp only [S0,S1]<;>rfl)⟩
 ·rintro l' w' ⟨v1a,t0a,_,hz,_⟩
  exact nomatch hz
 ·rintro n3b ih3d l' w1 ⟨v1a,t0a,U2a,hr0b,hq'⟩ l'' hl
  rw [hq'] at hl
  clear hq'
  simp only [S0,S1] at hl
  subst hl
  unfold CP at hr0b
  refine Ci<|wp_seq_k fun K4b h4b=>wp_seq_k fun K5b h5b=>Ai<|sV (Ab rfl) ?_
  refine sb (FK rfl rfl) fun z3a hz3a=>?_
  refine nrm ?_
  refine Ad<|h5b _ _ ?_
  rcases bft z3a with e4a | e4a
  ·have p4d:=zP hz3a e4a
   have f5d:=ifP p4d hr0b
   refine wp_cond_true (Am (evb rfl e4a))<|wp_skip<|h4b _ _<|wp_seq_k fun K6b h6b=>?_
   apply wp_block
   refine wp_seq_k fun K7b h7b=>wp_seq_k fun K8b h8b=>Ai<|sV (Ab rfl) ?_
   refine sV (Ab rfl) ?_
   obtain ⟨r9b,h6d,f7d⟩:=Aa f5d
   refine sc (Ae Ha (by rfl)) (BX x0 v1a A1 c2 w1 (tbx U2a hT) (n3.ext U2a) r9b h6d) ?_
   rintro _ w2 E0c rfl
   refine nrm ?_
   have X1b:=xtr U2a E0c
   refine sV (Ab rfl) ?_
   refine sV (Ab rfl) ?_
   obtain ⟨r1c,h8d,f2c⟩:=Aa f7d
   refine sc (Ae Ha (by rfl)) (BX x1 v1a A4 c5 w2 (tbx X1b hT) (n6.ext X1b) r1c h8d) ?_
   rintro _ w3 E3c rfl
   refine nrm ?_
   have X9a:=xtr X1b E3c
   refine sb (Dl rfl rfl) fun z5a hz5a=>?_
   refine nrm ?_
   refine Ad<|h8b _ _ ?_
   rcases bft z5a with e6a | e6a
   ·have p9d:=zP hz5a e6a
    have f0e:=ifP p9d f2c
    refine wp_cond_true (Am (evb rfl e6a))<|wp_seq_k fun K4c h4c=>Ai<|sV (Ac rfl) ?_
    refine Ad<|h4c _ _<|wp_ret ?_
    obtain rfl:=sj f0e
    exact fin rfl (Res.tmp rfl Res.nil) (An X9a rfl)
   ·have p1e:=zN hz5a e6a
    have f2e:=ifN p1e f2c
    refine wp_cond_false (Am (evb rfl e6a))<|wp_skip<|h7b _ _<|wp_seq_k fun K5c h5c=>Ai<|sV (Ab rfl) ?_
    refine sV (Ab rfl) ?_
    obtain ⟨r6c,h3e,f4e⟩:=Aa f2e
    refine sc (Ae Ha (by rfl)) (BX x0 v1a A1 c2 w3 (tbx X9a hT) (n3.ext X9a) r6c h3e) ?_
    rintro _ w4 E7c rfl
    refine nrm ?_
    have X2b:=xtr X9a E7c
    refine sV (Ab rfl) ?_
    refine sV (Ab rfl) ?_
    obtain ⟨r8c,h5e,f9c⟩:=Aa f4e
    refine sc (Ae Ha (by rfl)) (BX x1 v1a A4 c5 w4 (tbx X2b hT) (n6.ext X2b) r8c h5e) ?_
    rintro _ w5 E0d rfl
    refine nrm ?_
    have X6e:=xtr X2b E0d
    refine sb (Fm rfl rfl) fun z7a hz7a=>?_
    refine nrm ?_
    refine Ad<|h5c _ _ ?_
    rcases bft z7a with e8a | e8a
    ·have p7e:=zP hz7a e8a
     have f8e:=ifP p7e f9c
     refine wp_cond_true (Am (evb rfl e8a))<|wp_seq_k fun K1d h1d=>Ai<|sV (Ac rfl) ?_
     refine Ad<|h1d _ _<|wp_ret ?_
     obtain rfl:=sj f8e
     exact fin rfl (Res.tmp rfl Res.nil) (An X6e rfl)
    ·have p9e:=zN hz7a e8a
     have f0f:=ifN p9e f9c
     refine wp_cond_false (Am (evb rfl e8a))<|wp_skip<|h6b _ _<|Ai<|sV (Ab rfl) ?_
     refine sV (CE (c:=wi64 (v1a - 1)) rfl rfl rfl) ?_
     refine sV (Ac rfl) ?_
     refine Ad ?_
     exact ih3d _ _ ⟨(wi64 (v1a - 1)),(tk [.int .i64 v1a,.bool z3a,.int .i64 v1a,.int .i64 (wi64 (v1a - 1)),.slice A1 x0.length c2,.int .i64 v1a,.int .u64 r9b,.slice A4 x1.length c5,.int .i64 v1a,.int .u64 r1c,.bool z5a,.slice A1 x0.length c2,.int .i64 v1a,.int .u64 r6c,.slice A4 x1.length c5,.int .i64 v1a,.int .u64 r8c,.bool z7a]),((((U2a.trans E0c).trans E3c).trans E7c).trans E0d),f0f,(by simp only [S0,S1]<;>rfl)⟩
  ·have p1f:=zN hz3a e4a
   have f2f:=ifN p1f hr0b
   refine wp_cond_false (Am (evb rfl e4a))<|wp_exit ?_
   simp only [Exit.then,Exit.inBlock,↓reduceIte,Nat.reduceEqDiff]
   refine h8 _ _<|wp_seq_k fun K2d h2d=>Ai<|sV (Ac rfl) ?_
   refine Ad<|h2d _ _<|wp_ret ?_
   obtain rfl:=sj f2f
   exact fin rfl (Res.tmp rfl Res.nil) (An U2a rfl)
theorem Fp (x0:List Int) (A1:Option Addr) (c2:Nat) (w:World) (hT:TB w) (n3:RLu w A1 c2 x0) (r:Int) (hr:BC x0=some r) :
  Calls Tryz.prog 153 #[.slice A1 x0.length c2] w (Ret Gk w r):=by
 unfold BC at hr
 go_enter Tryz.func153,Tryz.ntmps153
 refine wp_seq_k fun K4 h4=>Ai<|sV (Ac rfl) ?_
 refine Ad<|h4 _ _<|wp_seq_k fun K5 h5=>Ai<|sV (Ac rfl) ?_
 refine Ad<|h5 _ _<|wp_seq_k fun K6 h6=>?_
 obtain ⟨m1b,h0c,f1c⟩:=Aa hr
 refine DA (fun l l' w'=>∃(t3a:Nat→Value),Ext w w'∧l'=((((((((((((l.set 3 (.int .i64 m1b)).set 4 (.slice A1 x0.length c2)).set 5 (.int .i64 (x0.length:Int))).set 6 (t3a 0)).set 7 (t3a 1)).set 8 (t3a 2)).set 9 (t3a 3)).set 10 (t3a 4)).set 11 (t3a 5)).set 12 (t3a 6)).set 13 (t3a 7)).set 14 (t3a 8))) ?_ ?_
 ·apply wp_block
  refine BV (fun l n2b l' w'=>∃(v4a:Int) (t0a:Nat→Value),Ext w w'∧BB x0 n2b v4a=some m1b∧l'=((((((((((((l.set 3 (.int .i64 v4a)).set 4 (t0a 0)).set 5 (t0a 1)).set 6 (t0a 2)).set 7 (t0a 3)).set 8 (t0a 4)).set 9 (t0a 5)).set 10 (t0a 6)).set 11 (t0a 7)).set 12 (t0a 8)).set 13 (t0a 9)).set 14 (t0a 10))) 18446744073709551616 ?_ ?_ ?_
  ·exact ⟨0,(tk [uu,uu,uu,uu,uu,uu,uu,uu,uu,uu,uu]),(Ext.refl _),h0c,(by simp only [S0,S1]<;>rfl)⟩
  ·rintro l' w' ⟨v4a,t0a,_,hz,_⟩
   exact nomatch hz
  ·rintro n2b ih2c l' w1 ⟨v4a,t0a,U7a,hr3b,hq'⟩ l'' hl
   rw [hq'] at hl
   clear hq'
   simp only [S0,S1] at hl
   subst hl
   unfold BB at hr3b
   refine Ci<|wp_seq_k fun K4b h4b=>wp_seq_k fun K5b h5b=>Ai<|sV (Ab rfl) ?_
   refine sV (AP Bs rfl) ?_
   refine sb (Fm rfl rfl) fun z5a hz5a=>?_
   refine nrm ?_
   refine sV (Ab rfl) ?_
   obtain ⟨m8a,h6b,f7b⟩:=Aa hr3b
   refine BW 9 (fun l l' w'=>∃(t1a:Nat→Value),Ext w1 w'∧l'=(((((l.set 8 (t1a 0)).set 9 (t1a 1)).set 10 (t1a 2)).set 11 (t1a 3)).set 12 (.bool m8a))) ?_ ?_
   ·intro HJ254
    rcases bft z5a with e2a | e2a
    ·have p3c:=zP hz5a e2a
     have f4c:=ifP p3c h6b
     refine sV (Ab rfl) ?_ (hw:=wgT rfl e2a)
     refine sV (Ab rfl) ?_ (hw:=wgT rfl e2a)
     obtain ⟨r9a,h5c,f6c⟩:=Aa f4c
     refine sc (Ae KX (by rfl)) (EW x0 v4a A1 c2 w1 (tbx U7a hT) (n3.ext U7a) r9a h5c) ?_ (hw:=wgT rfl e2a)
     rintro _ w2 E7c rfl
     refine nrm ?_
     refine sb (Cr rfl rfl) ?_ (hw:=wgT rfl e2a)
     intro z0b hz0b
     refine nrm ?_
     refine sV (AB (evb rfl e2a) rfl) ?_
     obtain rfl:z0b=decide (r9a=0):=bz hz0b
     obtain rfl:=sj f6c
     exact HJ254 _ _ ⟨(tk [.slice A1 x0.length c2,.int .i64 v4a,.int .u64 r9a,.bool (decide (r9a=0))]),E7c,(by simp only [S0,S1]<;>rfl)⟩
    ·have p8c:=zN hz5a e2a
     have f9c:=ifN p8c h6b
     refine sP ?_ (hw:=wgF rfl e2a)
     refine sP ?_ (hw:=wgF rfl e2a)
     refine sP ?_ (hw:=wgF rfl e2a)
     refine sP ?_ (hw:=wgF rfl e2a)
     refine sV (AF (evb rfl e2a) rfl) ?_
     obtain rfl:=sj f9c
     exact HJ254 _ _ ⟨(tk [uu,uu,uu,uu]),(Ext.refl _),(by simp only [S0,S1]<;>rfl)⟩
   ·rintro l' w2 ⟨t1a,U8b,hq'⟩ l'' hl
    rw [hq'] at hl
    clear hq'
    simp only [S0,S1] at hl
    subst hl
    refine Ad<|h5b _ _ ?_
    rcases bft m8a with e6a | e6a
    ·have p0d:=e6a
     have f1d:=ifP p0d f7b
     refine wp_cond_true (Am (evb rfl e6a))<|wp_skip<|h4b _ _ ?_
     apply wp_block
     refine Ai<|sV (Ab rfl) ?_
     refine sV (Bk (c:=wi64 (v4a+1)) rfl rfl rfl) ?_
     refine sV (Ac rfl) ?_
     refine Ad ?_
     exact ih2c _ _ ⟨(wi64 (v4a+1)),(tk [.slice A1 x0.length c2,.int .i64 (x0.length:Int),.bool z5a,.bool z5a,t1a 0,t1a 1,t1a 2,t1a 3,.bool m8a,.int .i64 v4a,.int .i64 (wi64 (v4a+1))]),(U7a.trans U8b),f1d,(by simp only [S0,S1]<;>rfl)⟩
    ·have p2d:=bF e6a
     have f3d:=ifN p2d f7b
     refine wp_cond_false (Am (evb rfl e6a))<|wp_exit ?_
     simp only [Exit.then,Exit.inBlock,↓reduceIte,Nat.reduceEqDiff]
     obtain rfl:=sj f3d
     exact ⟨_,rfl,(tk [.bool z5a,.bool z5a,t1a 0,t1a 1,t1a 2,t1a 3,.bool m8a,t0a 9,t0a 10]),(U7a.trans U8b),(by simp only [S0,S1]<;>rfl)⟩
 ·rintro l' w1 ⟨t3a,U4d,hq'⟩ l'' hl
  rw [hq'] at hl
  clear hq'
  simp only [S0,S1] at hl
  subst hl
  refine h6 _ _<|wp_seq_k fun K9b h9b=>Ai<|sV (Ab rfl) ?_
  refine sV (Ac rfl) ?_
  refine Ad<|h9b _ _<|wp_ret ?_
  obtain rfl:=sj f1c
  exact fin rfl (Res.tmp rfl Res.nil) (An U4d rfl)
theorem FN (x0:List Int) (x1:List Int) (A1:Option Addr) (c2:Nat) (A4:Option Addr) (c5:Nat) (w:World) (hT:TB w) (n3:RLu w A1 c2 x0) (n6:RLu w A4 c5 x1) (r:List Int) (hr:Bv x0 x1=some r) :
  Calls Tryz.prog 189 #[.slice A1 x0.length c2,.slice A4 x1.length c5] w (Ret HC w r):=by
 unfold Bv at hr
 go_enter Tryz.func189,Tryz.ntmps189
 refine wp_seq_k fun K7 h7=>Ai<|sV (Ac rfl) ?_
 refine Ad<|h7 _ _<|wp_seq_k fun K8 h8=>Ai<|sV (Ac rfl) ?_
 refine Ad<|h8 _ _<|wp_seq_k fun K9 h9=>Ai<|sV (Ac rfl) ?_
 refine Ad<|h9 _ _<|wp_seq_k fun K7b h7b=>wp_seq_k fun K8b h8b=>Ai<|sV (Ac rfl) ?_
 refine Ad<|h8b _ _ ?_
 obtain ⟨m0b,h5d,f6d⟩:=Aa hr
 refine DA (fun l l' w'=>∃(A2b:Option Addr) (c3b:Nat) (t1a:Nat→Value),Ext w w'∧OW 179 w.heap.size w' A2b m0b.length c3b m0b∧l'=[.slice A1 x0.length c2,.slice A4 x1.length c5,uu,uu,.slice none 0 0,.slice A2b m0b.length c3b,t1a 0,t1a 1,t1a 2,t1a 3,.slice A1 x0.length c2,.int .i64 (x0.length:Int),.slice A4 x1.length c5,.int .i64 (x1.length:Int),.int .i64 (max (x0.length:Int) (x1.length:Int)),t1a 4,t1a 5,t1a 6,t1a 7,t1a 8,t1a 9,t1a 10,t1a 11,t1a 12,t1a 13,t1a 14,t1a 15,t1a 16,t1a 17,t1a 18,t1a 19,t1a 20,t1a 21,t1a 22,uu,uu]) ?_ ?_
 ·apply wp_block
  refine BV (fun l n9b l' w'=>∃(v2a:Int) (v5a:Int) (v6a:List Int) (A7a:Option Addr) (c8a:Nat) (t0a:Nat→Value),Ext w w'∧OW 179 w.heap.size w' A7a v6a.length c8a v6a∧Cv x0 x1 n9b v2a v5a v6a=some m0b∧l'=[.slice A1 x0.length c2,.slice A4 x1.length c5,uu,uu,.slice none 0 0,.slice A7a v6a.length c8a,.int .u64 v2a,.int .i64 v5a,t0a 0,t0a 1,t0a 2,t0a 3,t0a 4,t0a 5,t0a 6,t0a 7,t0a 8,t0a 9,t0a 10,t0a 11,t0a 12,t0a 13,t0a 14,t0a 15,t0a 16,t0a 17,t0a 18,t0a 19,t0a 20,t0a 21,t0a 22,t0a 23,t0a 24,t0a 25,uu,uu]) 18446744073709551616 ?_ ?_ ?_
  ·exact ⟨0,0,([]:List Int),none,0,(tk [uu,uu,uu,uu,uu,uu,uu,uu,uu,uu,uu,uu,uu,uu,uu,uu,uu,uu,uu,uu,uu,uu,uu,uu,uu,uu]),(Ext.refl _),(OW.nn (OW.nil 179 w.heap.size w none)),h5d,(by simp only [OW.len (OW.nil 179 w.heap.size w none)]<;>rfl)⟩
  ·rintro l' w' ⟨v2a,v5a,v6a,A7a,c8a,t0a,_,_,hz,_⟩
   exact nomatch hz
  ·rintro n9b ih7d _ w1 ⟨v2a,v5a,v6a,A7a,c8a,t0a,X4b,ow0c,hr5b,rfl⟩ _ rfl
   unfold Cv at hr5b
   refine Ci<|wp_seq_k fun K1c h1c=>wp_seq_k fun K2c h2c=>Ai<|sV (Ab rfl) ?_
   refine sV (Ab rfl) ?_
   refine sV (AP Bs rfl) ?_
   refine sV (Ab rfl) ?_
   refine sV (AP Bs rfl) ?_
   refine sV (JX rfl rfl) ?_
   refine sb (GX rfl rfl) fun z9a hz9a=>?_
   refine nrm ?_
   refine Ad<|h2c _ _ ?_
   rcases bft z9a with e1b | e1b
   ·have p8d:=zP hz9a e1b
    have f9d:=ifP p8d hr5b
    refine wp_cond_true (Am (evb rfl e1b))<|wp_skip<|h1c _ _<|wp_seq_k fun K3c h3c=>?_
    apply wp_block
    refine wp_seq_k fun K4c h4c=>Ai<|sV (Ab rfl) ?_
    refine sV (Ab rfl) ?_
    obtain ⟨r3a,h0e,f1e⟩:=Aa f9d
    refine sc (Ae Ha (by rfl)) (BX x0 v5a A1 c2 w1 (tbx X4b hT) (n3.ext X4b) r3a h0e) ?_
    rintro _ w2 E5c rfl
    refine nrm ?_
    have X6b:=xtr X4b E5c
    refine sV (Ab rfl) ?_
    refine sV (Ab rfl) ?_
    obtain ⟨r4a,h2e,f3e⟩:=Aa f1e
    refine sc (Ae Ha (by rfl)) (BX x1 v5a A4 c5 w2 (tbx X6b hT) (n6.ext X6b) r4a h2e) ?_
    rintro _ w3 E6c rfl
    refine nrm ?_
    have X4e:=xtr X6b E6c
    refine sV (Bk (c:=wu64 (r3a+r4a)) rfl rfl rfl) ?_
    refine sV (Ab rfl) ?_
    refine sV (Bk (c:=wu64 ((wu64 (r3a+r4a))+v2a)) rfl rfl rfl) ?_
    refine sV (Ac rfl) ?_
    refine Ad<|h4c _ _<|wp_seq_k fun K7c h7c=>Ai<|sV (Ab rfl) ?_
    refine sV (Ab rfl) ?_
    refine sV (Bi (c:=wu32 (wu64 ((wu64 (r3a+r4a))+v2a))) Bf Bn rfl rfl) ?_
    refine DC (vals:=[(0,.int .u32 (wu32 (wu64 ((wu64 (r3a+r4a))+v2a))))]) (cs:=[.int .u32 (wu32 (wu64 ((wu64 (r3a+r4a))+v2a)))]) Bs AC FR (by rfl) (by decide) (by kernel_rfl) fun b8c w4 E9c g3g q5e=>?_
    refine nrm ?_
    have X0d:=xtr X4e E9c
    have n6e:RLu w4 (some ⟨b8c,0,none⟩) 1 [(wu32 (wu64 ((wu64 (r3a+r4a))+v2a)))]:=(OW.lit (n0:=0) (n:=1) (xs:=[(wu32 (wu64 ((wu64 (r3a+r4a))+v2a)))]) q5e (Nat.zero_le _) rfl (by decide)).rl
    have ow7e:=((ow0c.ext E5c).ext E6c).ext E9c
    obtain ⟨_,h8e,f9e⟩:=Aa f3e
    have gd479:=AR h8e
    refine Ig Bs Ew rfl rfl rfl ow7e n6e gd479 X0d.size fun A1d c2d w5 B482 ow0f=>?_
    refine nrm ?_
    have X1f:=xO X0d B482 (Nat.le_refl _)
    refine sV (Ac rfl) ?_
    refine Ad<|h7c _ _<|Ai<|sV (Ab rfl) ?_
    refine sV (Hs (c:=(wu64 ((wu64 (r3a+r4a))+v2a)).fdiv (2^min (32:Int).toNat IntKind.u64.bits)) (by decide) rfl rfl rfl) ?_
    refine sV (Ac rfl) ?_
    refine Ad<|h3c _ _<|Ai<|sV (Ab rfl) ?_
    refine sV (Bk (c:=wi64 (v5a+1)) rfl rfl rfl) ?_
    refine sV (Ac rfl) ?_
    refine Ad ?_
    exact ih7d _ _ ⟨((wu64 ((wu64 (r3a+r4a))+v2a)).fdiv (2^min (32:Int).toNat IntKind.u64.bits)),(wi64 (v5a+1)),(v6a++([(wu32 (wu64 ((wu64 (r3a+r4a))+v2a)))]:List Int)),A1d,c2d,(tk [.int .u64 (wu64 ((wu64 (r3a+r4a))+v2a)),.int .i64 v5a,.slice A1 x0.length c2,.int .i64 (x0.length:Int),.slice A4 x1.length c5,.int .i64 (x1.length:Int),.int .i64 (max (x0.length:Int) (x1.length:Int)),.bool z9a,.int .i64 v5a,.int .i64 (wi64 (v5a+1)),.slice A1 x0.length c2,.int .i64 v5a,.int .u64 r3a,.slice A4 x1.length c5,.int .i64 v5a,.int .u64 r4a,.int .u64 (wu64 (r3a+r4a)),.int .u64 v2a,.int .u64 (wu64 ((wu64 (r3a+r4a))+v2a)),.slice A7a v6a.length c8a,.int .u64 (wu64 ((wu64 (r3a+r4a))+v2a)),.int .u32 (wu32 (wu64 ((wu64 (r3a+r4a))+v2a))),.slice (some ⟨b8c,0,none⟩) 1 1,.slice A1d (List.length (v6a++([(wu32 (wu64 ((wu64 (r3a+r4a))+v2a)))]:List Int))) c2d,.int .u64 (wu64 ((wu64 (r3a+r4a))+v2a)),.int .u64 ((wu64 ((wu64 (r3a+r4a))+v2a)).fdiv (2^min (32:Int).toNat IntKind.u64.bits))]),X1f,(OW.nn ow0f),f9e,rfl⟩
   ·have p2f:=zN hz9a e1b
    have f3f:=ifN p2f hr5b
    refine wp_cond_false (Am (evb rfl e1b))<|wp_exit ?_
    simp only [Exit.then,Exit.inBlock,↓reduceIte,Nat.reduceEqDiff]
    obtain rfl:=sj f3f
    exact ⟨_,rfl,A7a,c8a,(tk [.int .u64 v2a,.int .i64 v5a,t0a 0,.int .i64 v5a,.bool z9a,t0a 8,t0a 9,t0a 10,t0a 11,t0a 12,t0a 13,t0a 14,t0a 15,t0a 16,t0a 17,t0a 18,t0a 19,t0a 20,t0a 21,t0a 22,t0a 23,t0a 24,t0a 25]),X4b,(OW.nn ow0c),rfl⟩
 ·rintro _ w1 ⟨A2b,c3b,t1a,X3d,ow4f,rfl⟩ _ rfl
  refine h7b _ _<|wp_seq_k fun K4d h4d=>Ai<|sV (Ab rfl) ?_
  obtain ⟨r5f,h6f,f7f⟩:=Aa f6d
  refine sc (Ae Je (by rfl)) (DL m0b A2b c3b w1 (tbx X3d hT) (OW.rl ow4f) r5f h6f) ?_
  rintro _ w2 E8f ⟨A9f,c0g,rfl,n1g⟩
  refine nrm ?_
  have X2g:=xtr X3d E8f
  refine sV (Ac rfl) ?_
  refine Ad<|h4d _ _<|wp_ret ?_
  obtain rfl:=sj f7f
  exact fin rfl (Res.tmp rfl Res.nil) (An X2g ⟨A9f,c0g,rfl,n1g⟩)
theorem EV (x0:List Int) (x1:List Int) (A1:Option Addr) (c2:Nat) (A4:Option Addr) (c5:Nat) (w:World) (hT:TB w) (n3:RLu w A1 c2 x0) (n6:RLu w A4 c5 x1) (r:List Int) (hr:BN x0 x1=some r) :
  Calls Tryz.prog 199 #[.slice A1 x0.length c2,.slice A4 x1.length c5] w (Ret HC w r):=by
 unfold BN at hr
 go_enter Tryz.func199,Tryz.ntmps199
 refine wp_seq_k fun K7 h7=>Ai<|sV (Ac rfl) ?_
 refine Ad<|h7 _ _<|wp_seq_k fun K8 h8=>Ai<|sV (Ac rfl) ?_
 refine Ad<|h8 _ _<|wp_seq_k fun K9 h9=>Ai<|sV (Ac rfl) ?_
 refine Ad<|h9 _ _<|wp_seq_k fun K7b h7b=>wp_seq_k fun K8b h8b=>Ai<|sV (Ac rfl) ?_
 refine Ad<|h8b _ _ ?_
 obtain ⟨m0b,h5d,f6d⟩:=Aa hr
 refine DA (fun l l' w'=>∃(A2b:Option Addr) (c3b:Nat) (t1a:Nat→Value),Ext w w'∧OW 179 w.heap.size w' A2b m0b.length c3b m0b∧l'=[.slice A1 x0.length c2,.slice A4 x1.length c5,uu,uu,.slice none 0 0,.slice A2b m0b.length c3b,t1a 0,t1a 1,t1a 2,t1a 3,.slice A1 x0.length c2,.int .i64 (x0.length:Int),t1a 4,t1a 5,t1a 6,t1a 7,t1a 8,t1a 9,t1a 10,t1a 11,t1a 12,t1a 13,t1a 14,t1a 15,t1a 16,t1a 17,t1a 18,t1a 19,t1a 20,t1a 21,t1a 22,uu,uu]) ?_ ?_
 ·apply wp_block
  refine BV (fun l n9b l' w'=>∃(v2a:Int) (v5a:Int) (v6a:List Int) (A7a:Option Addr) (c8a:Nat) (t0a:Nat→Value),Ext w w'∧OW 179 w.heap.size w' A7a v6a.length c8a v6a∧Cx x0 x1 n9b v2a v5a v6a=some m0b∧l'=[.slice A1 x0.length c2,.slice A4 x1.length c5,uu,uu,.slice none 0 0,.slice A7a v6a.length c8a,.int .u64 v2a,.int .i64 v5a,t0a 0,t0a 1,t0a 2,t0a 3,t0a 4,t0a 5,t0a 6,t0a 7,t0a 8,t0a 9,t0a 10,t0a 11,t0a 12,t0a 13,t0a 14,t0a 15,t0a 16,t0a 17,t0a 18,t0a 19,t0a 20,t0a 21,t0a 22,uu,uu]) 18446744073709551616 ?_ ?_ ?_
  ·exact ⟨0,0,([]:List Int),none,0,(tk [uu,uu,uu,uu,uu,uu,uu,uu,uu,uu,uu,uu,uu,uu,uu,uu,uu,uu,uu,uu,uu,uu,uu]),(Ext.refl _),(OW.nn (OW.nil 179 w.heap.size w none)),h5d,(by simp only [OW.len (OW.nil 179 w.heap.size w none)]<;>rfl)⟩
  ·rintro l' w' ⟨v2a,v5a,v6a,A7a,c8a,t0a,_,_,hz,_⟩
   exact nomatch hz
  ·rintro n9b ih7d _ w1 ⟨v2a,v5a,v6a,A7a,c8a,t0a,X4b,ow0c,hr5b,rfl⟩ _ rfl
   unfold Cx at hr5b
   refine Ci<|wp_seq_k fun K1c h1c=>wp_seq_k fun K2c h2c=>Ai<|sV (Ab rfl) ?_
   refine sV (Ab rfl) ?_
   refine sV (AP Bs rfl) ?_
   refine sb (Dl rfl rfl) fun z9a hz9a=>?_
   refine nrm ?_
   refine Ad<|h2c _ _ ?_
   rcases bft z9a with e1b | e1b
   ·have p8d:=zP hz9a e1b
    have f9d:=ifP p8d hr5b
    refine wp_cond_true (Am (evb rfl e1b))<|wp_skip<|h1c _ _<|wp_seq_k fun K3c h3c=>?_
    apply wp_block
    refine wp_seq_k fun K4c h4c=>Ai<|sV (Ab rfl) ?_
    refine sV (Ab rfl) ?_
    obtain ⟨r3a,h0e,f1e⟩:=Aa f9d
    refine sc (Ae Ha (by rfl)) (BX x0 v5a A1 c2 w1 (tbx X4b hT) (n3.ext X4b) r3a h0e) ?_
    rintro _ w2 E5c rfl
    refine nrm ?_
    have X6b:=xtr X4b E5c
    refine sV (Ab rfl) ?_
    refine sV (Ab rfl) ?_
    obtain ⟨r4a,h2e,f3e⟩:=Aa f1e
    refine sc (Ae Ha (by rfl)) (BX x1 v5a A4 c5 w2 (tbx X6b hT) (n6.ext X6b) r4a h2e) ?_
    rintro _ w3 E6c rfl
    refine nrm ?_
    have X4e:=xtr X6b E6c
    refine sV (CE (c:=wu64 (r3a - r4a)) rfl rfl rfl) ?_
    refine sV (Ab rfl) ?_
    refine sV (CE (c:=wu64 ((wu64 (r3a - r4a)) - v2a)) rfl rfl rfl) ?_
    refine sV (Ac rfl) ?_
    refine Ad<|h4c _ _<|wp_seq_k fun K7c h7c=>Ai<|sV (Ab rfl) ?_
    refine sV (Ab rfl) ?_
    refine sV (Bi (c:=wu32 (wu64 ((wu64 (r3a - r4a)) - v2a))) Bf Bn rfl rfl) ?_
    refine DC (vals:=[(0,.int .u32 (wu32 (wu64 ((wu64 (r3a - r4a)) - v2a))))]) (cs:=[.int .u32 (wu32 (wu64 ((wu64 (r3a - r4a)) - v2a)))]) Bs AC FR (by rfl) (by decide) (by kernel_rfl) fun b8c w4 E9c g3g q5e=>?_
    refine nrm ?_
    have X0d:=xtr X4e E9c
    have n6e:RLu w4 (some ⟨b8c,0,none⟩) 1 [(wu32 (wu64 ((wu64 (r3a - r4a)) - v2a)))]:=(OW.lit (n0:=0) (n:=1) (xs:=[(wu32 (wu64 ((wu64 (r3a - r4a)) - v2a)))]) q5e (Nat.zero_le _) rfl (by decide)).rl
    have ow7e:=((ow0c.ext E5c).ext E6c).ext E9c
    obtain ⟨_,h8e,f9e⟩:=Aa f3e
    have gd479:=AR h8e
    refine Ig Bs Ew rfl rfl rfl ow7e n6e gd479 X0d.size fun A1d c2d w5 B482 ow0f=>?_
    refine nrm ?_
    have X1f:=xO X0d B482 (Nat.le_refl _)
    refine sV (Ac rfl) ?_
    refine Ad<|h7c _ _<|Ai<|sV (Ab rfl) ?_
    refine sV (Hs (c:=(wu64 ((wu64 (r3a - r4a)) - v2a)).fdiv (2^min (63:Int).toNat IntKind.u64.bits)) (by decide) rfl rfl rfl) ?_
    refine sV (Ac rfl) ?_
    refine Ad<|h3c _ _<|Ai<|sV (Ab rfl) ?_
    refine sV (Bk (c:=wi64 (v5a+1)) rfl rfl rfl) ?_
    refine sV (Ac rfl) ?_
    refine Ad ?_
    exact ih7d _ _ ⟨((wu64 ((wu64 (r3a - r4a)) - v2a)).fdiv (2^min (63:Int).toNat IntKind.u64.bits)),(wi64 (v5a+1)),(v6a++([(wu32 (wu64 ((wu64 (r3a - r4a)) - v2a)))]:List Int)),A1d,c2d,(tk [.int .u64 (wu64 ((wu64 (r3a - r4a)) - v2a)),.int .i64 v5a,.slice A1 x0.length c2,.int .i64 (x0.length:Int),.bool z9a,.int .i64 v5a,.int .i64 (wi64 (v5a+1)),.slice A1 x0.length c2,.int .i64 v5a,.int .u64 r3a,.slice A4 x1.length c5,.int .i64 v5a,.int .u64 r4a,.int .u64 (wu64 (r3a - r4a)),.int .u64 v2a,.int .u64 (wu64 ((wu64 (r3a - r4a)) - v2a)),.slice A7a v6a.length c8a,.int .u64 (wu64 ((wu64 (r3a - r4a)) - v2a)),.int .u32 (wu32 (wu64 ((wu64 (r3a - r4a)) - v2a))),.slice (some ⟨b8c,0,none⟩) 1 1,.slice A1d (List.length (v6a++([(wu32 (wu64 ((wu64 (r3a - r4a)) - v2a)))]:List Int))) c2d,.int .u64 (wu64 ((wu64 (r3a - r4a)) - v2a)),.int .u64 ((wu64 ((wu64 (r3a - r4a)) - v2a)).fdiv (2^min (63:Int).toNat IntKind.u64.bits))]),X1f,(OW.nn ow0f),f9e,rfl⟩
   ·have p2f:=zN hz9a e1b
    have f3f:=ifN p2f hr5b
    refine wp_cond_false (Am (evb rfl e1b))<|wp_exit ?_
    simp only [Exit.then,Exit.inBlock,↓reduceIte,Nat.reduceEqDiff]
    obtain rfl:=sj f3f
    exact ⟨_,rfl,A7a,c8a,(tk [.int .u64 v2a,.int .i64 v5a,t0a 0,.int .i64 v5a,.bool z9a,t0a 5,t0a 6,t0a 7,t0a 8,t0a 9,t0a 10,t0a 11,t0a 12,t0a 13,t0a 14,t0a 15,t0a 16,t0a 17,t0a 18,t0a 19,t0a 20,t0a 21,t0a 22]),X4b,(OW.nn ow0c),rfl⟩
 ·rintro _ w1 ⟨A2b,c3b,t1a,X3d,ow4f,rfl⟩ _ rfl
  refine h7b _ _<|wp_seq_k fun K4d h4d=>Ai<|sV (Ab rfl) ?_
  obtain ⟨r5f,h6f,f7f⟩:=Aa f6d
  refine sc (Ae Je (by rfl)) (DL m0b A2b c3b w1 (tbx X3d hT) (OW.rl ow4f) r5f h6f) ?_
  rintro _ w2 E8f ⟨A9f,c0g,rfl,n1g⟩
  refine nrm ?_
  have X2g:=xtr X3d E8f
  refine sV (Ac rfl) ?_
  refine Ad<|h4d _ _<|wp_ret ?_
  obtain rfl:=sj f7f
  exact fin rfl (Res.tmp rfl Res.nil) (An X2g ⟨A9f,c0g,rfl,n1g⟩)
theorem FQ (x0:List Int) (x1:List Int) (A1:Option Addr) (c2:Nat) (A4:Option Addr) (c5:Nat) (w:World) (hT:TB w) (n3:RLu w A1 c2 x0) (n6:RLu w A4 c5 x1) (r:List Int) (hr:Cc x0 x1=some r) :
  Calls Tryz.prog 200 #[.slice A1 x0.length c2,.slice A4 x1.length c5] w (Ret HC w r):=by
 unfold Cc at hr
 go_enter Tryz.func200,Tryz.ntmps200
 refine wp_seq_k fun K7 h7=>Ai<|sV (Ac rfl) ?_
 refine Ad<|h7 _ _<|wp_seq_k fun K8 h8=>Ai<|sV (Ab rfl) ?_
 refine sV (AP Bs rfl) ?_
 refine sV (Ab rfl) ?_
 refine sV (AP Bs rfl) ?_
 refine sV (Bk (c:=wi64 ((x0.length:Int)+(x1.length:Int))) rfl rfl rfl) ?_
 obtain ⟨_,h9,f5f⟩:=Aa hr
 have gd11:=AR h9
 refine HE Bs Ew rfl rfl gd11 fun A7a w1 E6f ow7f=>?_
 refine nrm ?_
 refine sV (Ac rfl) ?_
 refine Ad<|h8 _ _<|wp_seq_k fun K7c h7c=>wp_seq_k fun K8c h8c=>Ai<|sV (Ac rfl) ?_
 refine Ad<|h8c _ _ ?_
 obtain ⟨m1c,h8f,f9f⟩:=Aa f5f
 refine DA (fun l l' w'=>∃(t4a:Nat→Value),Ext w w'∧OW 179 w.heap.size w' A7a (((wi64 ((x0.length:Int)+(x1.length:Int))):Int).toNat) (((wi64 ((x0.length:Int)+(x1.length:Int))):Int).toNat) m1c∧l'=[.slice A1 x0.length c2,.slice A4 x1.length c5,uu,uu,.slice none 0 0,.slice A7a (((wi64 ((x0.length:Int)+(x1.length:Int))):Int).toNat) (((wi64 ((x0.length:Int)+(x1.length:Int))):Int).toNat),t4a 0,t4a 1,t4a 2,t4a 3,.slice A1 x0.length c2,.int .i64 (x0.length:Int),.slice A4 x1.length c5,.int .i64 (x1.length:Int),.int .i64 (wi64 ((x0.length:Int)+(x1.length:Int))),.slice A7a (((wi64 ((x0.length:Int)+(x1.length:Int))):Int).toNat) (((wi64 ((x0.length:Int)+(x1.length:Int))):Int).toNat),t4a 4,.slice A1 x0.length c2,.int .i64 (x0.length:Int),t4a 5,t4a 6,t4a 7,t4a 8,t4a 9,t4a 10,t4a 11,t4a 12,t4a 13,t4a 14,t4a 15,t4a 16,t4a 17,t4a 18,t4a 19,t4a 20,t4a 21,t4a 22,t4a 23,t4a 24,t4a 25,t4a 26,t4a 27,t4a 28,t4a 29,t4a 30,t4a 31,t4a 32,t4a 33,t4a 34,t4a 35,t4a 36,t4a 37,t4a 38,t4a 39,t4a 40,t4a 41,t4a 42,t4a 43,t4a 44,t4a 45,t4a 46,t4a 47,t4a 48,t4a 49,t4a 50,t4a 51,uu,uu]) ?_ ?_
 ·apply wp_block
  refine BV (fun l n9c l' w'=>∃(v5a:Int) (v5b:List Int) (t0a:Nat→Value),Ext w w'∧OW 179 w.heap.size w' A7a (((wi64 ((x0.length:Int)+(x1.length:Int))):Int).toNat) (((wi64 ((x0.length:Int)+(x1.length:Int))):Int).toNat) v5b∧Cu x0 x1 n9c v5a v5b=some m1c∧l'=[.slice A1 x0.length c2,.slice A4 x1.length c5,uu,uu,.slice none 0 0,.slice A7a (((wi64 ((x0.length:Int)+(x1.length:Int))):Int).toNat) (((wi64 ((x0.length:Int)+(x1.length:Int))):Int).toNat),.int .i64 v5a,t0a 0,t0a 1,t0a 2,.slice A1 x0.length c2,.int .i64 (x0.length:Int),.slice A4 x1.length c5,.int .i64 (x1.length:Int),.int .i64 (wi64 ((x0.length:Int)+(x1.length:Int))),.slice A7a (((wi64 ((x0.length:Int)+(x1.length:Int))):Int).toNat) (((wi64 ((x0.length:Int)+(x1.length:Int))):Int).toNat),t0a 3,t0a 4,t0a 5,t0a 6,t0a 7,t0a 8,t0a 9,t0a 10,t0a 11,t0a 12,t0a 13,t0a 14,t0a 15,t0a 16,t0a 17,t0a 18,t0a 19,t0a 20,t0a 21,t0a 22,t0a 23,t0a 24,t0a 25,t0a 26,t0a 27,t0a 28,t0a 29,t0a 30,t0a 31,t0a 32,t0a 33,t0a 34,t0a 35,t0a 36,t0a 37,t0a 38,t0a 39,t0a 40,t0a 41,t0a 42,t0a 43,t0a 44,t0a 45,t0a 46,t0a 47,t0a 48,t0a 49,t0a 50,t0a 51,t0a 52,uu,uu]) 18446744073709551616 ?_ ?_ ?_
  ·exact ⟨0,(List.replicate ((wi64 ((x0.length:Int)+(x1.length:Int))):Int).toNat (0:Int)),(tk [uu,uu,uu,uu,uu,uu,uu,uu,uu,uu,uu,uu,uu,uu,uu,uu,uu,uu,uu,uu,uu,uu,uu,uu,uu,uu,uu,uu,uu,uu,uu,uu,uu,uu,uu,uu,uu,uu,uu,uu,uu,uu,uu,uu,uu,uu,uu,uu,uu,uu,uu,uu,uu]),E6f,ow7f,h8f,rfl⟩
  ·rintro l' w' ⟨v5a,v5b,t0a,_,_,hz,_⟩
   exact nomatch hz
  ·rintro n9c ih0g _ w2 ⟨v5a,v5b,t0a,X0d,ow1d,hr2c,rfl⟩ _ rfl
   unfold Cu at hr2c
   refine Ci<|wp_seq_k fun K2d h2d=>wp_seq_k fun K3d h3d=>Ai<|sV (Ab rfl) ?_
   refine sV (Ab rfl) ?_
   refine sV (AP Bs rfl) ?_
   refine sb (Dl rfl rfl) fun z2b hz2b=>?_
   refine nrm ?_
   refine Ad<|h3d _ _ ?_
   rcases bft z2b with e6b | e6b
   ·have p1g:=zP hz2b e6b
    have f2g:=ifP p1g hr2c
    refine wp_cond_true (Am (evb rfl e6b))<|wp_skip<|h2d _ _<|wp_seq_k fun K4d h4d=>?_
    obtain ⟨m5d,h3g,f4g⟩:=Aa f2g
    refine DA (fun l l' w'=>∃(t1a:Nat→Value),Ext w w'∧OW 179 w.heap.size w' A7a (((wi64 ((x0.length:Int)+(x1.length:Int))):Int).toNat) (((wi64 ((x0.length:Int)+(x1.length:Int))):Int).toNat) m5d∧l'=[.slice A1 x0.length c2,.slice A4 x1.length c5,uu,uu,.slice none 0 0,.slice A7a (((wi64 ((x0.length:Int)+(x1.length:Int))):Int).toNat) (((wi64 ((x0.length:Int)+(x1.length:Int))):Int).toNat),.int .i64 v5a,t1a 0,t1a 1,t1a 2,.slice A1 x0.length c2,.int .i64 (x0.length:Int),.slice A4 x1.length c5,.int .i64 (x1.length:Int),.int .i64 (wi64 ((x0.length:Int)+(x1.length:Int))),.slice A7a (((wi64 ((x0.length:Int)+(x1.length:Int))):Int).toNat) (((wi64 ((x0.length:Int)+(x1.length:Int))):Int).toNat),.int .i64 v5a,.slice A1 x0.length c2,.int .i64 (x0.length:Int),.bool z2b,t0a 7,t0a 8,t1a 3,.slice A4 x1.length c5,.int .i64 (x1.length:Int),t1a 4,t1a 5,t1a 6,t1a 7,t1a 8,t1a 9,t1a 10,t1a 11,t1a 12,t1a 13,t1a 14,t1a 15,t1a 16,t1a 17,t1a 18,t1a 19,t1a 20,t1a 21,t1a 22,t1a 23,t1a 24,t1a 25,t1a 26,t1a 27,t1a 28,t1a 29,t1a 30,t1a 31,t1a 32,t1a 33,t1a 34,t1a 35,t1a 36,.slice A7a (((wi64 ((x0.length:Int)+(x1.length:Int))):Int).toNat) (((wi64 ((x0.length:Int)+(x1.length:Int))):Int).toNat),.int .i64 v5a,.slice A4 x1.length c5,.int .i64 (x1.length:Int),.int .i64 (wi64 (v5a+(x1.length:Int))),t1a 37,t1a 38,t1a 39,uu,uu]) ?_ ?_
    ·apply wp_block
     refine wp_seq_k fun K6d h6d=>Ai<|sV (Ac rfl) ?_
     refine Ad<|h6d _ _<|wp_seq_k fun K7d h7d=>wp_seq_k fun K8d h8d=>Ai<|sV (Ac rfl) ?_
     refine Ad<|h8d _ _ ?_
     obtain ⟨m3b,h5g,f6g⟩:=Aa h3g
     refine DA (fun l l' w'=>∃(t2a:Nat→Value),Ext w w'∧OW 179 w.heap.size w' A7a (((wi64 ((x0.length:Int)+(x1.length:Int))):Int).toNat) (((wi64 ((x0.length:Int)+(x1.length:Int))):Int).toNat) m3b.2∧l'=[.slice A1 x0.length c2,.slice A4 x1.length c5,uu,uu,.slice none 0 0,.slice A7a (((wi64 ((x0.length:Int)+(x1.length:Int))):Int).toNat) (((wi64 ((x0.length:Int)+(x1.length:Int))):Int).toNat),.int .i64 v5a,.int .u64 m3b.1,t2a 0,t2a 1,.slice A1 x0.length c2,.int .i64 (x0.length:Int),.slice A4 x1.length c5,.int .i64 (x1.length:Int),.int .i64 (wi64 ((x0.length:Int)+(x1.length:Int))),.slice A7a (((wi64 ((x0.length:Int)+(x1.length:Int))):Int).toNat) (((wi64 ((x0.length:Int)+(x1.length:Int))):Int).toNat),.int .i64 v5a,.slice A1 x0.length c2,.int .i64 (x0.length:Int),.bool z2b,t0a 7,t0a 8,t2a 2,.slice A4 x1.length c5,.int .i64 (x1.length:Int),t2a 3,t2a 4,t2a 5,t2a 6,t2a 7,t2a 8,t2a 9,t2a 10,t2a 11,t2a 12,t2a 13,t2a 14,t2a 15,t2a 16,t2a 17,t2a 18,t2a 19,t2a 20,t2a 21,t2a 22,t2a 23,t2a 24,t2a 25,t2a 26,t2a 27,t2a 28,t2a 29,t2a 30,t2a 31,t2a 32,t2a 33,t2a 34,t2a 35,t0a 45,t0a 46,t0a 47,t0a 48,t0a 49,t0a 50,t0a 51,t0a 52,uu,uu]) ?_ ?_
     ·apply wp_block
      refine BV (fun l n9d l' w'=>∃(v0b:Int) (v6a:Int) (v7b:List Int) (t3a:Nat→Value),Ext w w'∧OW 179 w.heap.size w' A7a (((wi64 ((x0.length:Int)+(x1.length:Int))):Int).toNat) (((wi64 ((x0.length:Int)+(x1.length:Int))):Int).toNat) v7b∧Cy x0 x1 v5a n9d v0b v6a v7b=some m3b∧l'=[.slice A1 x0.length c2,.slice A4 x1.length c5,uu,uu,.slice none 0 0,.slice A7a (((wi64 ((x0.length:Int)+(x1.length:Int))):Int).toNat) (((wi64 ((x0.length:Int)+(x1.length:Int))):Int).toNat),.int .i64 v5a,.int .u64 v0b,.int .i64 v6a,t3a 0,.slice A1 x0.length c2,.int .i64 (x0.length:Int),.slice A4 x1.length c5,.int .i64 (x1.length:Int),.int .i64 (wi64 ((x0.length:Int)+(x1.length:Int))),.slice A7a (((wi64 ((x0.length:Int)+(x1.length:Int))):Int).toNat) (((wi64 ((x0.length:Int)+(x1.length:Int))):Int).toNat),.int .i64 v5a,.slice A1 x0.length c2,.int .i64 (x0.length:Int),.bool z2b,t0a 7,t0a 8,t3a 1,t3a 2,t3a 3,t3a 4,t3a 5,t3a 6,t3a 7,t3a 8,t3a 9,t3a 10,t3a 11,t3a 12,t3a 13,t3a 14,t3a 15,t3a 16,t3a 17,t3a 18,t3a 19,t3a 20,t3a 21,t3a 22,t3a 23,t3a 24,t3a 25,t3a 26,t3a 27,t3a 28,t3a 29,t3a 30,t3a 31,t3a 32,t3a 33,t3a 34,t3a 35,t3a 36,t0a 45,t0a 46,t0a 47,t0a 48,t0a 49,t0a 50,t0a 51,t0a 52,uu,uu]) 18446744073709551616 ?_ ?_ ?_
      ·exact ⟨0,0,v5b,(tk [t0a 2,t0a 9,t0a 10,t0a 11,t0a 12,t0a 13,t0a 14,t0a 15,t0a 16,t0a 17,t0a 18,t0a 19,t0a 20,t0a 21,t0a 22,t0a 23,t0a 24,t0a 25,t0a 26,t0a 27,t0a 28,t0a 29,t0a 30,t0a 31,t0a 32,t0a 33,t0a 34,t0a 35,t0a 36,t0a 37,t0a 38,t0a 39,t0a 40,t0a 41,t0a 42,t0a 43,t0a 44]),X0d,ow1d,h5g,rfl⟩
      ·rintro l' w' ⟨v0b,v6a,v7b,t3a,_,_,hz,_⟩
       exact nomatch hz
      ·rintro n9d ih7g _ w3 ⟨v0b,v6a,v7b,t3a,X0e,ow8b,hr3c,rfl⟩ _ rfl
       unfold Cy at hr3c
       refine Ci<|wp_seq_k fun K1e h1e=>wp_seq_k fun K2e h2e=>Ai<|sV (Ab rfl) ?_
       refine sV (Ab rfl) ?_
       refine sV (AP Bs rfl) ?_
       refine sb (Dl rfl rfl) fun z4b hz4b=>?_
       refine nrm ?_
       refine Ad<|h2e _ _ ?_
       rcases bft z4b with e9b | e9b
       ·have p8g:=zP hz4b e9b
        have f9g:=ifP p8g hr3c
        refine wp_cond_true (Am (evb rfl e9b))<|wp_skip<|h1e _ _<|wp_seq_k fun K3e h3e=>?_
        apply wp_block
        refine wp_seq_k fun K4e h4e=>DG [] 22 mo rfl fun w4 E0c S4c=>have X5c:=xtr X0e E0c;dA 0 rfl (fun _=>Ab rfl) ?_
        refine dA 1 rfl (fun _=>Ab rfl) ?_
        obtain ⟨u8a,h0h,f1h⟩:=Aa f9g
        obtain ⟨bb4960,oo4961,hA2h,ia3h,ib4h,hc4963⟩:=RL.nth (n3.ext X5c) h0h
        refine dA 2 rfl (fun _=>AN Bs AC rfl rfl hA2h ia3h ib4h) ?_
        refine dV 3 rfl (fun _ hw=>Aj Bz rfl (DE hc4963 hw)) S4c ?_
        refine dA 4 rfl (fun _=>Bi (c:=wu64 u8a) Bn Bf rfl rfl) ?_
        refine dA 5 rfl (fun _=>Ab rfl) ?_
        refine dA 6 rfl (fun _=>Ab rfl) ?_
        obtain ⟨u9a,h5h,f6h⟩:=Aa f1h
        obtain ⟨bb4969,oo4970,hA7h,ia8h,ib9h,hc4972⟩:=RL.nth (n6.ext X5c) h5h
        refine dA 7 rfl (fun _=>AN Bs AC rfl rfl hA7h ia8h ib9h) ?_
        refine dV 8 rfl (fun _ hw=>Aj Bz rfl (DE hc4972 hw)) S4c ?_
        refine dA 9 rfl (fun _=>Bi (c:=wu64 u9a) Bn Bf rfl rfl) ?_
        refine dA 10 rfl (fun _=>IR (c:=wu64 ((wu64 u8a)*(wu64 u9a))) rfl rfl rfl) ?_
        refine dA 11 rfl (fun _=>Ab rfl) ?_
        refine dA 12 rfl (fun _=>Ab rfl) ?_
        refine dA 13 rfl (fun _=>Ab rfl) ?_
        refine dA 14 rfl (fun _=>Bk (c:=wi64 (v5a+v6a)) rfl rfl rfl) ?_
        obtain ⟨u1b,h0i,f1i⟩:=Aa f6h
        obtain ⟨bb4978,hA2i,hz8k,ia3i,ib4i,hc4983⟩:=OW.nthc (ow8b.ext E0c) h0i
        refine dA 15 rfl (fun _=>AN Bs AC rfl rfl hA2i ia3i ib4i) ?_
        refine dV 16 rfl (fun _ hw=>Aj Bz rfl (DE hc4983 hw)) S4c ?_
        refine dA 17 rfl (fun _=>Bi (c:=wu64 u1b) Bn Bf rfl rfl) ?_
        refine dA 18 rfl (fun _=>Bk (c:=wu64 ((wu64 ((wu64 u8a)*(wu64 u9a)))+(wu64 u1b))) rfl rfl rfl) ?_
        refine dA 19 rfl (fun _=>Ab rfl) ?_
        refine dA 20 rfl (fun _=>Bk (c:=wu64 ((wu64 ((wu64 ((wu64 u8a)*(wu64 u9a)))+(wu64 u1b)))+v0b)) rfl rfl rfl) ?_
        refine dA 21 rfl (fun _=>Ac rfl) ?_
        refine CH (by kernel_rfl) ?_
        refine h4e _ _<|wp_seq_k fun K5e h5e=>Ai<|sV (Ab rfl) ?_
        refine sV (Ab rfl) ?_
        refine sV (Ab rfl) ?_
        refine sV (Bk (c:=wi64 (v5a+v6a)) rfl rfl rfl) ?_
        refine sV (Ab rfl) ?_
        refine sV (Bi (c:=wu32 (wu64 ((wu64 ((wu64 ((wu64 u8a)*(wu64 u9a)))+(wu64 u1b)))+v0b))) Bf Bn rfl rfl) ?_
        obtain ⟨u9k,h5i,f6i⟩:=Aa f1i
        obtain ⟨bb4988,hA6e,hz0l,ia7e,ib8e,hc4993⟩:=OW.nthc (ow8b.ext E0c) h5i
        refine sV (AN Bs AC rfl rfl hA6e ia7e ib8e) ?_
        refine KW AC rfl rfl (ow8b.ext E0c) hA6e ia7e (by rw [OW.len (ow8b.ext E0c)];exact ib8e) fun w5 B4994 U1l ow7i=>?_
        have X8i:=xO X5c B4994 (Nat.le_refl _)
        refine Ad<|h5e _ _<|Ai<|sV (Ab rfl) ?_
        refine sV (Hs (c:=(wu64 ((wu64 ((wu64 ((wu64 u8a)*(wu64 u9a)))+(wu64 u1b)))+v0b)).fdiv (2^min (32:Int).toNat IntKind.u64.bits)) (by decide) rfl rfl rfl) ?_
        refine sV (Ac rfl) ?_
        refine Ad<|h3e _ _<|Ai<|sV (Ab rfl) ?_
        refine sV (Bk (c:=wi64 (v6a+1)) rfl rfl rfl) ?_
        refine sV (Ac rfl) ?_
        refine Ad ?_
        exact ih7g _ _ ⟨((wu64 ((wu64 ((wu64 ((wu64 u8a)*(wu64 u9a)))+(wu64 u1b)))+v0b)).fdiv (2^min (32:Int).toNat IntKind.u64.bits)),(wi64 (v6a+1)),(List.set v7b ((wi64 (v5a+v6a)):Int).toNat (wu32 (wu64 ((wu64 ((wu64 ((wu64 u8a)*(wu64 u9a)))+(wu64 u1b)))+v0b)))),(tk [.int .u64 (wu64 ((wu64 ((wu64 ((wu64 u8a)*(wu64 u9a)))+(wu64 u1b)))+v0b)),.int .i64 v6a,.slice A4 x1.length c5,.int .i64 (x1.length:Int),.bool z4b,.int .i64 v6a,.int .i64 (wi64 (v6a+1)),.slice A1 x0.length c2,.int .i64 v5a,.pointer (some ⟨bb4960,oo4961+(v5a:Int).toNat,none⟩),.int .u32 u8a,.int .u64 (wu64 u8a),.slice A4 x1.length c5,.int .i64 v6a,.pointer (some ⟨bb4969,oo4970+(v6a:Int).toNat,none⟩),.int .u32 u9a,.int .u64 (wu64 u9a),.int .u64 (wu64 ((wu64 u8a)*(wu64 u9a))),.slice A7a (((wi64 ((x0.length:Int)+(x1.length:Int))):Int).toNat) (((wi64 ((x0.length:Int)+(x1.length:Int))):Int).toNat),.int .i64 v5a,.int .i64 v6a,.int .i64 (wi64 (v5a+v6a)),.pointer (some ⟨bb4978,0+((wi64 (v5a+v6a)):Int).toNat,none⟩),.int .u32 u1b,.int .u64 (wu64 u1b),.int .u64 (wu64 ((wu64 ((wu64 u8a)*(wu64 u9a)))+(wu64 u1b))),.int .u64 v0b,.int .u64 (wu64 ((wu64 ((wu64 ((wu64 u8a)*(wu64 u9a)))+(wu64 u1b)))+v0b)),.slice A7a (((wi64 ((x0.length:Int)+(x1.length:Int))):Int).toNat) (((wi64 ((x0.length:Int)+(x1.length:Int))):Int).toNat),.int .i64 v5a,.int .i64 v6a,.int .i64 (wi64 (v5a+v6a)),.int .u64 (wu64 ((wu64 ((wu64 ((wu64 u8a)*(wu64 u9a)))+(wu64 u1b)))+v0b)),.int .u32 (wu32 (wu64 ((wu64 ((wu64 ((wu64 u8a)*(wu64 u9a)))+(wu64 u1b)))+v0b))),.pointer (some ⟨bb4988,0+((wi64 (v5a+v6a)):Int).toNat,none⟩),.int .u64 (wu64 ((wu64 ((wu64 ((wu64 u8a)*(wu64 u9a)))+(wu64 u1b)))+v0b)),.int .u64 ((wu64 ((wu64 ((wu64 ((wu64 u8a)*(wu64 u9a)))+(wu64 u1b)))+v0b)).fdiv (2^min (32:Int).toNat IntKind.u64.bits))]),X8i,ow7i,f6i,rfl⟩
       ·have p9i:=zN hz4b e9b
        have f0j:=ifN p9i hr3c
        refine wp_cond_false (Am (evb rfl e9b))<|wp_exit ?_
        simp only [Exit.then,Exit.inBlock,↓reduceIte,Nat.reduceEqDiff]
        obtain rfl:=sj f0j
        exact ⟨_,rfl,(tk [.int .i64 v6a,t3a 0,.int .i64 v6a,.bool z4b,t3a 5,t3a 6,t3a 7,t3a 8,t3a 9,t3a 10,t3a 11,t3a 12,t3a 13,t3a 14,t3a 15,t3a 16,t3a 17,t3a 18,t3a 19,t3a 20,t3a 21,t3a 22,t3a 23,t3a 24,t3a 25,t3a 26,t3a 27,t3a 28,t3a 29,t3a 30,t3a 31,t3a 32,t3a 33,t3a 34,t3a 35,t3a 36]),X0e,ow8b,rfl⟩
     ·rintro _ w3 ⟨t2a,X1j,ow6c,rfl⟩ _ rfl
      refine h7d _ _<|Ai<|sV (Ab rfl) ?_
      refine sV (Ab rfl) ?_
      refine sV (Ab rfl) ?_
      refine sV (AP Bs rfl) ?_
      refine sV (Bk (c:=wi64 (v5a+(x1.length:Int))) rfl rfl rfl) ?_
      refine sV (Ab rfl) ?_
      refine sV (Bi (c:=wu32 m3b.1) Bf Bn rfl rfl) ?_
      obtain ⟨u2l,h2j,f3j⟩:=Aa f6g
      obtain ⟨bb5001,hA9e,hz3l,ia0f,ib1f,hc5006⟩:=OW.nthc ow6c h2j
      refine sV (AN Bs AC rfl rfl hA9e ia0f ib1f) ?_
      refine KW AC rfl rfl ow6c hA9e ia0f (by rw [OW.len ow6c];exact ib1f) fun w4 B5007 U4l ow4j=>?_
      have X5j:=xO X1j B5007 (Nat.le_refl _)
      refine Ad ?_
      obtain rfl:=sj f3j
      exact ⟨_,rfl,(tk [.int .u64 m3b.1,t2a 0,t2a 1,t2a 2,t2a 3,t2a 4,t2a 5,t2a 6,t2a 7,t2a 8,t2a 9,t2a 10,t2a 11,t2a 12,t2a 13,t2a 14,t2a 15,t2a 16,t2a 17,t2a 18,t2a 19,t2a 20,t2a 21,t2a 22,t2a 23,t2a 24,t2a 25,t2a 26,t2a 27,t2a 28,t2a 29,t2a 30,t2a 31,t2a 32,t2a 33,t2a 34,t2a 35,.int .u64 m3b.1,.int .u32 (wu32 m3b.1),.pointer (some ⟨bb5001,0+((wi64 (v5a+(x1.length:Int))):Int).toNat,none⟩)]),X5j,ow4j,rfl⟩
    ·rintro _ w3 ⟨t1a,X6j,ow7j,rfl⟩ _ rfl
     refine h4d _ _<|Ai<|sV (Ab rfl) ?_
     refine sV (Bk (c:=wi64 (v5a+1)) rfl rfl rfl) ?_
     refine sV (Ac rfl) ?_
     refine Ad ?_
     exact ih0g _ _ ⟨(wi64 (v5a+1)),m5d,(tk [t1a 0,t1a 1,t1a 2,.int .i64 v5a,.slice A1 x0.length c2,.int .i64 (x0.length:Int),.bool z2b,.int .i64 v5a,.int .i64 (wi64 (v5a+1)),t1a 3,.slice A4 x1.length c5,.int .i64 (x1.length:Int),t1a 4,t1a 5,t1a 6,t1a 7,t1a 8,t1a 9,t1a 10,t1a 11,t1a 12,t1a 13,t1a 14,t1a 15,t1a 16,t1a 17,t1a 18,t1a 19,t1a 20,t1a 21,t1a 22,t1a 23,t1a 24,t1a 25,t1a 26,t1a 27,t1a 28,t1a 29,t1a 30,t1a 31,t1a 32,t1a 33,t1a 34,t1a 35,t1a 36,.slice A7a (((wi64 ((x0.length:Int)+(x1.length:Int))):Int).toNat) (((wi64 ((x0.length:Int)+(x1.length:Int))):Int).toNat),.int .i64 v5a,.slice A4 x1.length c5,.int .i64 (x1.length:Int),.int .i64 (wi64 (v5a+(x1.length:Int))),t1a 37,t1a 38,t1a 39]),X6j,ow7j,f4g,rfl⟩
   ·have p8j:=zN hz2b e6b
    have f9j:=ifN p8j hr2c
    refine wp_cond_false (Am (evb rfl e6b))<|wp_exit ?_
    simp only [Exit.then,Exit.inBlock,↓reduceIte,Nat.reduceEqDiff]
    obtain rfl:=sj f9j
    exact ⟨_,rfl,(tk [.int .i64 v5a,t0a 0,t0a 1,t0a 2,.int .i64 v5a,.bool z2b,t0a 7,t0a 8,t0a 9,t0a 10,t0a 11,t0a 12,t0a 13,t0a 14,t0a 15,t0a 16,t0a 17,t0a 18,t0a 19,t0a 20,t0a 21,t0a 22,t0a 23,t0a 24,t0a 25,t0a 26,t0a 27,t0a 28,t0a 29,t0a 30,t0a 31,t0a 32,t0a 33,t0a 34,t0a 35,t0a 36,t0a 37,t0a 38,t0a 39,t0a 40,t0a 41,t0a 42,t0a 43,t0a 44,t0a 45,t0a 46,t0a 47,t0a 48,t0a 49,t0a 50,t0a 51,t0a 52]),X0d,ow1d,rfl⟩
 ·rintro _ w2 ⟨t4a,X2f,ow3f,rfl⟩ _ rfl
  refine h7c _ _<|wp_seq_k fun K4f h4f=>Ai<|sV (Ab rfl) ?_
  obtain ⟨r0k,h1k,f2k⟩:=Aa f9f
  refine sc (Ae Je (by simp only [OW.len ow3f];rfl)) (DL m1c A7a (((wi64 ((x0.length:Int)+(x1.length:Int))):Int).toNat) w2 (tbx X2f hT) (OW.rl ow3f) r0k h1k) ?_
  rintro _ w3 E3k ⟨A4k,c5k,rfl,n6k⟩
  refine nrm ?_
  have X7k:=xtr X2f E3k
  refine sV (Ac rfl) ?_
  refine Ad<|h4f _ _<|wp_ret ?_
  obtain rfl:=sj f2k
  exact fin rfl (Res.tmp rfl Res.nil) (An X7k ⟨A4k,c5k,rfl,n6k⟩)
theorem FY (x0:List Int) (x1:Int) (A1:Option Addr) (c2:Nat) (w:World) (hT:TB w) (n3:RLu w A1 c2 x0) (r:List Int) (hr:Cd x0 x1=some r) :
  Calls Tryz.prog 148 #[.slice A1 x0.length c2,.int .i64 x1] w (Ret HC w r):=by
 unfold Cd at hr
 go_enter Tryz.func148,Tryz.ntmps148
 refine wp_seq_k fun K4 h4=>Ai<|sV (Ac rfl) ?_
 refine Ad<|h4 _ _<|wp_seq_k fun K5 h5=>wp_seq_k fun K6 h6=>Ai<|sV (Ab rfl) ?_
 refine sV (AP Bs rfl) ?_
 refine sb (Cr rfl rfl) fun z7 hz7=>?_
 refine nrm ?_
 refine Ad<|h6 _ _ ?_
 rcases bft z7 with e0b | e0b
 ·have p9d:=zP hz7 e0b
  have f0e:=ifP p9d hr
  refine wp_cond_true (Am (evb rfl e0b))<|wp_seq_k fun K7b h7b=>Ai<|sV (Ab rfl) ?_
  refine sV (Ac rfl) ?_
  refine Ad<|h7b _ _<|wp_ret ?_
  obtain rfl:=sj f0e
  exact fin rfl (Res.tmp rfl Res.nil) (An (Ext.refl _) ⟨A1,c2,rfl,n3⟩)
 ·have p1e:=zN hz7 e0b
  have f2e:=ifN p1e hr
  refine wp_cond_false (Am (evb rfl e0b))<|wp_skip<|h5 _ _<|wp_seq_k fun K8b h8b=>Ai<|sV (Ab rfl) ?_
  refine sV (HA (c:=wi64 (x1.tdiv 32)) (by decide) rfl rfl rfl) ?_
  refine sV (Ab rfl) ?_
  refine sV (HA (c:=wi64 (x1.tdiv 32)) (by decide) rfl rfl rfl) ?_
  refine sV (Ab rfl) ?_
  refine sV (AP Bs rfl) ?_
  refine sV (Bk (c:=wi64 ((wi64 (x1.tdiv 32))+(x0.length:Int))) rfl rfl rfl) ?_
  refine sV (Bk (c:=wi64 ((wi64 ((wi64 (x1.tdiv 32))+(x0.length:Int)))+1)) rfl rfl rfl) ?_
  obtain ⟨_,h3e,f4e⟩:=Aa f2e
  have gd22:=AR h3e
  refine HE Bs Ew rfl rfl gd22 fun A2b w1 E5e ow9b=>?_
  refine nrm ?_
  refine sV (Ac rfl) ?_
  refine Ad<|h8b _ _<|wp_seq_k fun K0c h0c=>Ai<|sV (Ac rfl) ?_
  refine Ad<|h0c _ _<|wp_seq_k fun K1c h1c=>wp_seq_k fun K2c h2c=>Ai<|sV (Ac rfl) ?_
  refine Ad<|h2c _ _ ?_
  obtain ⟨m5a,h6e,f7e⟩:=Aa f4e
  refine DA (fun l l' w'=>∃(A3b:Option Addr) (c4b:Nat) (t1a:Nat→Value),Ext w w'∧OW 179 w.heap.size w' A3b m5a.2.length c4b m5a.2∧l'=[.slice A1 x0.length c2,.int .i64 x1,uu,uu,.slice none 0 0,.slice A3b m5a.2.length c4b,.int .u64 m5a.1,t1a 0,t1a 1,.slice A1 x0.length c2,.int .i64 (x0.length:Int),.bool z7,uu,.int .i64 x1,.int .i64 (wi64 (x1.tdiv 32)),.int .i64 x1,.int .i64 (wi64 (x1.tdiv 32)),.slice A1 x0.length c2,.int .i64 (x0.length:Int),.int .i64 (wi64 ((wi64 (x1.tdiv 32))+(x0.length:Int))),.int .i64 (wi64 ((wi64 ((wi64 (x1.tdiv 32))+(x0.length:Int)))+1)),t1a 2,t1a 3,.slice A1 x0.length c2,.int .i64 (x0.length:Int),t1a 4,t1a 5,t1a 6,t1a 7,t1a 8,t1a 9,t1a 10,t1a 11,t1a 12,t1a 13,t1a 14,t1a 15,t1a 16,t1a 17,t1a 18,t1a 19,t1a 20,t1a 21,t1a 22,t1a 23,uu,uu,uu,uu,uu,uu]) ?_ ?_
  ·apply wp_block
   refine BV (fun l n3c l' w'=>∃(v2a:Int) (v4a:Int) (v6a:List Int) (A7a:Option Addr) (c8a:Nat) (t0a:Nat→Value),Ext w w'∧OW 179 w.heap.size w' A7a v6a.length c8a v6a∧Cw x0 x1 n3c v2a v4a v6a=some m5a∧l'=[.slice A1 x0.length c2,.int .i64 x1,uu,uu,.slice none 0 0,.slice A7a v6a.length c8a,.int .u64 v2a,.int .i64 v4a,t0a 0,.slice A1 x0.length c2,.int .i64 (x0.length:Int),.bool z7,uu,.int .i64 x1,.int .i64 (wi64 (x1.tdiv 32)),.int .i64 x1,.int .i64 (wi64 (x1.tdiv 32)),.slice A1 x0.length c2,.int .i64 (x0.length:Int),.int .i64 (wi64 ((wi64 (x1.tdiv 32))+(x0.length:Int))),.int .i64 (wi64 ((wi64 ((wi64 (x1.tdiv 32))+(x0.length:Int)))+1)),.slice A2b (((wi64 (x1.tdiv 32)):Int).toNat) (((wi64 ((wi64 ((wi64 (x1.tdiv 32))+(x0.length:Int)))+1)):Int).toNat),t0a 1,t0a 2,t0a 3,t0a 4,t0a 5,t0a 6,t0a 7,t0a 8,t0a 9,t0a 10,t0a 11,t0a 12,t0a 13,t0a 14,t0a 15,t0a 16,t0a 17,t0a 18,t0a 19,t0a 20,t0a 21,t0a 22,t0a 23,uu,uu,uu,uu,uu,uu]) 18446744073709551616 ?_ ?_ ?_
   ·exact ⟨0,0,(List.replicate ((wi64 (x1.tdiv 32)):Int).toNat (0:Int)),A2b,(((wi64 ((wi64 ((wi64 (x1.tdiv 32))+(x0.length:Int)))+1)):Int).toNat),(tk [uu,uu,uu,uu,uu,uu,uu,uu,uu,uu,uu,uu,uu,uu,uu,uu,uu,uu,uu,uu,uu,uu,uu,uu]),E5e,(OW.nn ow9b),h6e,(by simp only [OW.len ow9b]<;>rfl)⟩
   ·rintro l' w' ⟨v2a,v4a,v6a,A7a,c8a,t0a,_,_,hz,_⟩
    exact nomatch hz
   ·rintro n3c ih8e _ w2 ⟨v2a,v4a,v6a,A7a,c8a,t0a,X5b,ow4c,hr6b,rfl⟩ _ rfl
    unfold Cw at hr6b
    refine Ci<|wp_seq_k fun K5c h5c=>wp_seq_k fun K6c h6c=>Ai<|sV (Ab rfl) ?_
    refine sV (Ab rfl) ?_
    refine sV (AP Bs rfl) ?_
    refine sb (Dl rfl rfl) fun z9a hz9a=>?_
    refine nrm ?_
    refine Ad<|h6c _ _ ?_
    rcases bft z9a with e1b | e1b
    ·have p9e:=zP hz9a e1b
     have f0f:=ifP p9e hr6b
     refine wp_cond_true (Am (evb rfl e1b))<|wp_skip<|h5c _ _<|wp_seq_k fun K7c h7c=>?_
     apply wp_block
     refine wp_seq_k fun K8c h8c=>Ai<|sV (Ab rfl) ?_
     refine sV (Ab rfl) ?_
     obtain ⟨u3a,h1f,f2f⟩:=Aa f0f
     obtain ⟨bb306,oo307,hA3f,ia4f,ib5f,hc309⟩:=RL.nth (n3.ext X5b) h1f
     refine sV (AN Bs AC rfl rfl hA3f ia4f ib5f) ?_
     refine sV (Aj Bz rfl hc309) ?_
     refine sV (Bi (c:=wu64 u3a) Bn Bf rfl rfl) ?_
     refine sV (Ab rfl) ?_
     refine sV (Ix (c:=x1.tmod 32) (by decide) rfl rfl rfl) ?_
     obtain ⟨_,h6f,f7f⟩:=Aa f2f
     have gd315:=AR h6f
     refine sV (JB (c:=wu64 ((wu64 u3a)*2^min ((x1.tmod 32):Int).toNat IntKind.u64.bits)) gd315 rfl rfl rfl) ?_
     refine sV (Ab rfl) ?_
     refine sV (Bk (c:=wu64 ((wu64 ((wu64 u3a)*2^min ((x1.tmod 32):Int).toNat IntKind.u64.bits))+v2a)) rfl rfl rfl) ?_
     refine sV (Ac rfl) ?_
     refine Ad<|h8c _ _<|wp_seq_k fun K9c h9c=>Ai<|sV (Ab rfl) ?_
     refine sV (Ab rfl) ?_
     refine sV (Bi (c:=wu32 (wu64 ((wu64 ((wu64 u3a)*2^min ((x1.tmod 32):Int).toNat IntKind.u64.bits))+v2a))) Bf Bn rfl rfl) ?_
     refine DC (vals:=[(0,.int .u32 (wu32 (wu64 ((wu64 ((wu64 u3a)*2^min ((x1.tmod 32):Int).toNat IntKind.u64.bits))+v2a))))]) (cs:=[.int .u32 (wu32 (wu64 ((wu64 ((wu64 u3a)*2^min ((x1.tmod 32):Int).toNat IntKind.u64.bits))+v2a)))]) Bs AC FR (by rfl) (by decide) (by kernel_rfl) fun b0d w3 E1d g4i q8f=>?_
     refine nrm ?_
     have X2d:=xtr X5b E1d
     have n9f:RLu w3 (some ⟨b0d,0,none⟩) 1 [(wu32 (wu64 ((wu64 ((wu64 u3a)*2^min ((x1.tmod 32):Int).toNat IntKind.u64.bits))+v2a)))]:=(OW.lit (n0:=0) (n:=1) (xs:=[(wu32 (wu64 ((wu64 ((wu64 u3a)*2^min ((x1.tmod 32):Int).toNat IntKind.u64.bits))+v2a)))]) q8f (Nat.zero_le _) rfl (by decide)).rl
     obtain ⟨_,h0g,f1g⟩:=Aa f7f
     have gd325:=AR h0g
     refine Ig Bs Ew rfl rfl rfl (ow4c.ext E1d) n9f gd325 X2d.size fun A3d c4d w4 B328 ow2g=>?_
     refine nrm ?_
     have X3g:=xO X2d B328 (Nat.le_refl _)
     refine sV (Ac rfl) ?_
     refine Ad<|h9c _ _<|Ai<|sV (Ab rfl) ?_
     refine sV (Hs (c:=(wu64 ((wu64 ((wu64 u3a)*2^min ((x1.tmod 32):Int).toNat IntKind.u64.bits))+v2a)).fdiv (2^min (32:Int).toNat IntKind.u64.bits)) (by decide) rfl rfl rfl) ?_
     refine sV (Ac rfl) ?_
     refine Ad<|h7c _ _<|Ai<|sV (Ab rfl) ?_
     refine sV (Bk (c:=wi64 (v4a+1)) rfl rfl rfl) ?_
     refine sV (Ac rfl) ?_
     refine Ad ?_
     exact ih8e _ _ ⟨((wu64 ((wu64 ((wu64 u3a)*2^min ((x1.tmod 32):Int).toNat IntKind.u64.bits))+v2a)).fdiv (2^min (32:Int).toNat IntKind.u64.bits)),(wi64 (v4a+1)),(v6a++([(wu32 (wu64 ((wu64 ((wu64 u3a)*2^min ((x1.tmod 32):Int).toNat IntKind.u64.bits))+v2a)))]:List Int)),A3d,c4d,(tk [.int .u64 (wu64 ((wu64 ((wu64 u3a)*2^min ((x1.tmod 32):Int).toNat IntKind.u64.bits))+v2a)),.int .i64 v4a,.slice A1 x0.length c2,.int .i64 (x0.length:Int),.bool z9a,.int .i64 v4a,.int .i64 (wi64 (v4a+1)),.slice A1 x0.length c2,.int .i64 v4a,.pointer (some ⟨bb306,oo307+(v4a:Int).toNat,none⟩),.int .u32 u3a,.int .u64 (wu64 u3a),.int .i64 x1,.int .i64 (x1.tmod 32),.int .u64 (wu64 ((wu64 u3a)*2^min ((x1.tmod 32):Int).toNat IntKind.u64.bits)),.int .u64 v2a,.int .u64 (wu64 ((wu64 ((wu64 u3a)*2^min ((x1.tmod 32):Int).toNat IntKind.u64.bits))+v2a)),.slice A7a v6a.length c8a,.int .u64 (wu64 ((wu64 ((wu64 u3a)*2^min ((x1.tmod 32):Int).toNat IntKind.u64.bits))+v2a)),.int .u32 (wu32 (wu64 ((wu64 ((wu64 u3a)*2^min ((x1.tmod 32):Int).toNat IntKind.u64.bits))+v2a))),.slice (some ⟨b0d,0,none⟩) 1 1,.slice A3d (List.length (v6a++([(wu32 (wu64 ((wu64 ((wu64 u3a)*2^min ((x1.tmod 32):Int).toNat IntKind.u64.bits))+v2a)))]:List Int))) c4d,.int .u64 (wu64 ((wu64 ((wu64 u3a)*2^min ((x1.tmod 32):Int).toNat IntKind.u64.bits))+v2a)),.int .u64 ((wu64 ((wu64 ((wu64 u3a)*2^min ((x1.tmod 32):Int).toNat IntKind.u64.bits))+v2a)).fdiv (2^min (32:Int).toNat IntKind.u64.bits))]),X3g,(OW.nn ow2g),f1g,rfl⟩
    ·have p4g:=zN hz9a e1b
     have f5g:=ifN p4g hr6b
     refine wp_cond_false (Am (evb rfl e1b))<|wp_exit ?_
     simp only [Exit.then,Exit.inBlock,↓reduceIte,Nat.reduceEqDiff]
     obtain rfl:=sj f5g
     exact ⟨_,rfl,A7a,c8a,(tk [.int .i64 v4a,t0a 0,.slice A2b (((wi64 (x1.tdiv 32)):Int).toNat) (((wi64 ((wi64 ((wi64 (x1.tdiv 32))+(x0.length:Int)))+1)):Int).toNat),.int .i64 v4a,.bool z9a,t0a 5,t0a 6,t0a 7,t0a 8,t0a 9,t0a 10,t0a 11,t0a 12,t0a 13,t0a 14,t0a 15,t0a 16,t0a 17,t0a 18,t0a 19,t0a 20,t0a 21,t0a 22,t0a 23]),X5b,(OW.nn ow4c),rfl⟩
  ·rintro _ w2 ⟨A3b,c4b,t1a,X6g,ow7g,rfl⟩ _ rfl
   refine h1c _ _<|wp_seq_k fun K5d h5d=>Ai<|sV (Ab rfl) ?_
   refine sV (Ab rfl) ?_
   refine sV (Bi (c:=wu32 m5a.1) Bf Bn rfl rfl) ?_
   refine DC (vals:=[(0,.int .u32 (wu32 m5a.1))]) (cs:=[.int .u32 (wu32 m5a.1)]) Bs AC FR (by rfl) (by decide) (by kernel_rfl) fun b8g w3 E6d g5i q9g=>?_
   refine nrm ?_
   have X7d:=xtr X6g E6d
   have n0h:RLu w3 (some ⟨b8g,0,none⟩) 1 [(wu32 m5a.1)]:=(OW.lit (n0:=0) (n:=1) (xs:=[(wu32 m5a.1)]) q9g (Nat.zero_le _) rfl (by decide)).rl
   obtain ⟨_,h1h,f2h⟩:=Aa f7e
   have gd340:=AR h1h
   refine Ig Bs Ew rfl rfl rfl (ow7g.ext E6d) n0h gd340 X7d.size fun A3h c4h w4 B343 ow5h=>?_
   refine nrm ?_
   have X8d:=xO X7d B343 (Nat.le_refl _)
   obtain ⟨r6h,h7h,f8h⟩:=Aa f2h
   refine sc (Ae Je (by rfl)) (DL (m5a.2++([(wu32 m5a.1)]:List Int)) A3h c4h w4 (tbx X8d hT) (OW.rl ow5h) r6h h7h) ?_
   rintro _ w5 E9h ⟨A0i,c1i,rfl,n2i⟩
   refine nrm ?_
   have X3i:=xtr X8d E9h
   refine sV (Ac rfl) ?_
   refine Ad<|h5d _ _<|wp_ret ?_
   obtain rfl:=sj f8h
   exact fin rfl (Res.tmp rfl Res.nil) (An X3i ⟨A0i,c1i,rfl,n2i⟩)
theorem FP (x0:List Int) (x1:Int) (A1:Option Addr) (c2:Nat) (w:World) (hT:TB w) (n3:RLu w A1 c2 x0) (r:List Int) (hr:Ca x0 x1=some r) :
  Calls Tryz.prog 154 #[.slice A1 x0.length c2,.int .i64 x1] w (Ret HC w r):=by
 unfold Ca at hr
 go_enter Tryz.func154,Tryz.ntmps154
 refine wp_seq_k fun K4 h4=>Ai<|sV (Ac rfl) ?_
 refine Ad<|h4 _ _<|wp_seq_k fun K5 h5=>wp_seq_k fun K6 h6=>Ai<|sV (Ab rfl) ?_
 refine sV (HA (c:=wi64 (x1.tdiv 32)) (by decide) rfl rfl rfl) ?_
 refine sV (Ab rfl) ?_
 refine sV (AP Bs rfl) ?_
 refine sb (FK rfl rfl) fun z7 hz7=>?_
 refine nrm ?_
 refine Ad<|h6 _ _ ?_
 rcases bft z7 with e9a | e9a
 ·have p6d:=zP hz7 e9a
  have f7d:=ifP p6d hr
  refine wp_cond_true (Am (evb rfl e9a))<|wp_seq_k fun K7b h7b=>Ai<|sV (Ac rfl) ?_
  refine Ad<|h7b _ _<|wp_ret ?_
  obtain rfl:=sj f7d
  exact fin rfl (Res.tmp rfl Res.nil) (An (Ext.refl _) ⟨none,0,rfl,(RL.nil _ _ _)⟩)
 ·have p8d:=zN hz7 e9a
  have f9d:=ifN p8d hr
  refine wp_cond_false (Am (evb rfl e9a))<|wp_skip<|h5 _ _<|wp_seq_k fun K8b h8b=>Ai<|sV (Ac rfl) ?_
  refine Ad<|h8b _ _<|wp_seq_k fun K9b h9b=>wp_seq_k fun K0c h0c=>Ai<|sV (Ab rfl) ?_
  refine sV (HA (c:=wi64 (x1.tdiv 32)) (by decide) rfl rfl rfl) ?_
  refine sV (Ac rfl) ?_
  refine Ad<|h0c _ _ ?_
  obtain ⟨m0b,h0e,f1e⟩:=Aa f9d
  refine DA (fun l l' w'=>∃(A2b:Option Addr) (c3b:Nat) (t1a:Nat→Value),Ext w w'∧OW 179 w.heap.size w' A2b m0b.length c3b m0b∧l'=[.slice A1 x0.length c2,.int .i64 x1,uu,uu,.slice none 0 0,.slice A2b m0b.length c3b,t1a 0,t1a 1,.int .i64 x1,.int .i64 (wi64 (x1.tdiv 32)),.slice A1 x0.length c2,.int .i64 (x0.length:Int),.bool z7,.int .i64 x1,.int .i64 (wi64 (x1.tdiv 32)),t1a 2,.slice A1 x0.length c2,.int .i64 (x0.length:Int),t1a 3,t1a 4,t1a 5,t1a 6,t1a 7,t1a 8,t1a 9,t1a 10,t1a 11,t1a 12,t1a 13,t1a 14,t1a 15,t1a 16,t1a 17,t1a 18,t1a 19,t1a 20,t1a 21,t1a 22,uu,uu]) ?_ ?_
  ·apply wp_block
   refine BV (fun l n1c l' w'=>∃(v3a:Int) (v5a:List Int) (A6a:Option Addr) (c7a:Nat) (t0a:Nat→Value),Ext w w'∧OW 179 w.heap.size w' A6a v5a.length c7a v5a∧CN x0 x1 n1c v3a v5a=some m0b∧l'=[.slice A1 x0.length c2,.int .i64 x1,uu,uu,.slice none 0 0,.slice A6a v5a.length c7a,.int .i64 v3a,t0a 0,.int .i64 x1,.int .i64 (wi64 (x1.tdiv 32)),.slice A1 x0.length c2,.int .i64 (x0.length:Int),.bool z7,.int .i64 x1,.int .i64 (wi64 (x1.tdiv 32)),t0a 1,t0a 2,t0a 3,t0a 4,t0a 5,t0a 6,t0a 7,t0a 8,t0a 9,t0a 10,t0a 11,t0a 12,t0a 13,t0a 14,t0a 15,t0a 16,t0a 17,t0a 18,t0a 19,t0a 20,t0a 21,t0a 22,t0a 23,uu,uu]) 18446744073709551616 ?_ ?_ ?_
   ·exact ⟨(wi64 (x1.tdiv 32)),([]:List Int),none,0,(tk [uu,uu,uu,uu,uu,uu,uu,uu,uu,uu,uu,uu,uu,uu,uu,uu,uu,uu,uu,uu,uu,uu,uu,uu]),(Ext.refl _),(OW.nn (OW.nil 179 w.heap.size w none)),h0e,(by simp only [OW.len (OW.nil 179 w.heap.size w none)]<;>rfl)⟩
   ·rintro l' w' ⟨v3a,v5a,A6a,c7a,t0a,_,_,hz,_⟩
    exact nomatch hz
   ·rintro n1c ih2e _ w1 ⟨v3a,v5a,A6a,c7a,t0a,X4b,ow2c,hr5b,rfl⟩ _ rfl
    unfold CN at hr5b
    refine Ci<|wp_seq_k fun K3c h3c=>wp_seq_k fun K4c h4c=>Ai<|sV (Ab rfl) ?_
    refine sV (Ab rfl) ?_
    refine sV (AP Bs rfl) ?_
    refine sb (Dl rfl rfl) fun z8a hz8a=>?_
    refine nrm ?_
    refine Ad<|h4c _ _ ?_
    rcases bft z8a with e1b | e1b
    ·have p3e:=zP hz8a e1b
     have f4e:=ifP p3e hr5b
     refine wp_cond_true (Am (evb rfl e1b))<|wp_skip<|h3c _ _<|wp_seq_k fun K5c h5c=>?_
     apply wp_block
     refine wp_seq_k fun K6c h6c=>Ai<|sV (Ab rfl) ?_
     refine sV (Ab rfl) ?_
     refine sV (Bk (c:=wi64 (v3a+1)) rfl rfl rfl) ?_
     obtain ⟨r2a,h5e,f6e⟩:=Aa f4e
     refine sc (Ae Ha (by rfl)) (BX x0 (wi64 (v3a+1)) A1 c2 w1 (tbx X4b hT) (n3.ext X4b) r2a h5e) ?_
     rintro _ w2 E7c rfl
     refine nrm ?_
     have X6b:=xtr X4b E7c
     refine sV (JB (c:=wu64 (r2a*2^min (32:Int).toNat IntKind.u64.bits)) (by decide) rfl rfl rfl) ?_
     refine sV (Ab rfl) ?_
     refine sV (Ab rfl) ?_
     obtain ⟨r4a,h7e,f8e⟩:=Aa f6e
     refine sc (Ae Ha (by rfl)) (BX x0 v3a A1 c2 w2 (tbx X6b hT) (n3.ext X6b) r4a h7e) ?_
     rintro _ w3 E8c rfl
     refine nrm ?_
     have X9e:=xtr X6b E8c
     refine sV (Bk (c:=wu64 ((wu64 (r2a*2^min (32:Int).toNat IntKind.u64.bits))+r4a)) rfl rfl rfl) ?_
     refine sV (Ab rfl) ?_
     refine sV (Ix (c:=x1.tmod 32) (by decide) rfl rfl rfl) ?_
     obtain ⟨_,h0f,f1f⟩:=Aa f8e
     have gd496:=AR h0f
     refine sV (Hs (c:=(wu64 ((wu64 (r2a*2^min (32:Int).toNat IntKind.u64.bits))+r4a)).fdiv (2^min ((x1.tmod 32):Int).toNat IntKind.u64.bits)) gd496 rfl rfl rfl) ?_
     refine sV (Ac rfl) ?_
     refine Ad<|h6c _ _<|Ai<|sV (Ab rfl) ?_
     refine sV (Ab rfl) ?_
     refine sV (Bi (c:=wu32 ((wu64 ((wu64 (r2a*2^min (32:Int).toNat IntKind.u64.bits))+r4a)).fdiv (2^min ((x1.tmod 32):Int).toNat IntKind.u64.bits))) Bf Bn rfl rfl) ?_
     refine DC (vals:=[(0,.int .u32 (wu32 ((wu64 ((wu64 (r2a*2^min (32:Int).toNat IntKind.u64.bits))+r4a)).fdiv (2^min ((x1.tmod 32):Int).toNat IntKind.u64.bits))))]) (cs:=[.int .u32 (wu32 ((wu64 ((wu64 (r2a*2^min (32:Int).toNat IntKind.u64.bits))+r4a)).fdiv (2^min ((x1.tmod 32):Int).toNat IntKind.u64.bits)))]) Bs AC FR (by rfl) (by decide) (by kernel_rfl) fun b9c w4 E0d g0h q2f=>?_
     refine nrm ?_
     have X1d:=xtr X9e E0d
     have n3f:RLu w4 (some ⟨b9c,0,none⟩) 1 [(wu32 ((wu64 ((wu64 (r2a*2^min (32:Int).toNat IntKind.u64.bits))+r4a)).fdiv (2^min ((x1.tmod 32):Int).toNat IntKind.u64.bits)))]:=(OW.lit (n0:=0) (n:=1) (xs:=[(wu32 ((wu64 ((wu64 (r2a*2^min (32:Int).toNat IntKind.u64.bits))+r4a)).fdiv (2^min ((x1.tmod 32):Int).toNat IntKind.u64.bits)))]) q2f (Nat.zero_le _) rfl (by decide)).rl
     have ow4f:=((ow2c.ext E7c).ext E8c).ext E0d
     obtain ⟨_,h5f,f6f⟩:=Aa f1f
     have gd506:=AR h5f
     refine Ig Bs Ew rfl rfl rfl ow4f n3f gd506 X1d.size fun A2d c3d w5 B509 ow7f=>?_
     refine nrm ?_
     have X8f:=xO X1d B509 (Nat.le_refl _)
     refine sV (Ac rfl) ?_
     refine Ad<|h5c _ _<|Ai<|sV (Ab rfl) ?_
     refine sV (Bk (c:=wi64 (v3a+1)) rfl rfl rfl) ?_
     refine sV (Ac rfl) ?_
     refine Ad ?_
     exact ih2e _ _ ⟨(wi64 (v3a+1)),(v5a++([(wu32 ((wu64 ((wu64 (r2a*2^min (32:Int).toNat IntKind.u64.bits))+r4a)).fdiv (2^min ((x1.tmod 32):Int).toNat IntKind.u64.bits)))]:List Int)),A2d,c3d,(tk [.int .u64 ((wu64 ((wu64 (r2a*2^min (32:Int).toNat IntKind.u64.bits))+r4a)).fdiv (2^min ((x1.tmod 32):Int).toNat IntKind.u64.bits)),.int .i64 v3a,.slice A1 x0.length c2,.int .i64 (x0.length:Int),.bool z8a,.int .i64 v3a,.int .i64 (wi64 (v3a+1)),.slice A1 x0.length c2,.int .i64 v3a,.int .i64 (wi64 (v3a+1)),.int .u64 r2a,.int .u64 (wu64 (r2a*2^min (32:Int).toNat IntKind.u64.bits)),.slice A1 x0.length c2,.int .i64 v3a,.int .u64 r4a,.int .u64 (wu64 ((wu64 (r2a*2^min (32:Int).toNat IntKind.u64.bits))+r4a)),.int .i64 x1,.int .i64 (x1.tmod 32),.int .u64 ((wu64 ((wu64 (r2a*2^min (32:Int).toNat IntKind.u64.bits))+r4a)).fdiv (2^min ((x1.tmod 32):Int).toNat IntKind.u64.bits)),.slice A6a v5a.length c7a,.int .u64 ((wu64 ((wu64 (r2a*2^min (32:Int).toNat IntKind.u64.bits))+r4a)).fdiv (2^min ((x1.tmod 32):Int).toNat IntKind.u64.bits)),.int .u32 (wu32 ((wu64 ((wu64 (r2a*2^min (32:Int).toNat IntKind.u64.bits))+r4a)).fdiv (2^min ((x1.tmod 32):Int).toNat IntKind.u64.bits))),.slice (some ⟨b9c,0,none⟩) 1 1,.slice A2d (List.length (v5a++([(wu32 ((wu64 ((wu64 (r2a*2^min (32:Int).toNat IntKind.u64.bits))+r4a)).fdiv (2^min ((x1.tmod 32):Int).toNat IntKind.u64.bits)))]:List Int))) c3d]),X8f,(OW.nn ow7f),f6f,rfl⟩
    ·have p9f:=zN hz8a e1b
     have f0g:=ifN p9f hr5b
     refine wp_cond_false (Am (evb rfl e1b))<|wp_exit ?_
     simp only [Exit.then,Exit.inBlock,↓reduceIte,Nat.reduceEqDiff]
     obtain rfl:=sj f0g
     exact ⟨_,rfl,A6a,c7a,(tk [.int .i64 v3a,t0a 0,.int .i64 v3a,.bool z8a,t0a 5,t0a 6,t0a 7,t0a 8,t0a 9,t0a 10,t0a 11,t0a 12,t0a 13,t0a 14,t0a 15,t0a 16,t0a 17,t0a 18,t0a 19,t0a 20,t0a 21,t0a 22,t0a 23]),X4b,(OW.nn ow2c),rfl⟩
  ·rintro _ w1 ⟨A2b,c3b,t1a,X4d,ow1g,rfl⟩ _ rfl
   refine h9b _ _<|wp_seq_k fun K5d h5d=>Ai<|sV (Ab rfl) ?_
   obtain ⟨r2g,h3g,f4g⟩:=Aa f1e
   refine sc (Ae Je (by rfl)) (DL m0b A2b c3b w1 (tbx X4d hT) (OW.rl ow1g) r2g h3g) ?_
   rintro _ w2 E5g ⟨A6g,c7g,rfl,n8g⟩
   refine nrm ?_
   have X9g:=xtr X4d E5g
   refine sV (Ac rfl) ?_
   refine Ad<|h5d _ _<|wp_ret ?_
   obtain rfl:=sj f4g
   exact fin rfl (Res.tmp rfl Res.nil) (An X9g ⟨A6g,c7g,rfl,n8g⟩)
theorem Ii (x0:List Int) (A1:Option Addr) (c2:Nat) (w:World) (hT:TB w) (n3:RLu w A1 c2 x0) (r:Bool) (hr:Fu x0=some r) :
  Calls Tryz.prog 208 #[.slice A1 x0.length c2] w (Ret Fw w r):=by
 unfold Fu at hr
 go_enter Tryz.func208,Tryz.ntmps208
 refine wp_seq_k fun K4 h4=>Ai<|sV (Ac rfl) ?_
 refine Ad<|h4 _ _<|wp_seq_k fun K5 h5=>Ai<|sV (Ab rfl) ?_
 refine sV (AP Bs rfl) ?_
 refine sb (GX rfl rfl) fun z6 hz6=>?_
 refine nrm ?_
 refine sV (Ab rfl) ?_
 obtain ⟨m0b,h7a,f1b⟩:=Aa hr
 refine BW 17 (fun l l' w'=>∃(t3a:Nat→Value),w=w'∧l'=(((((((((((((l.set 7 (t3a 0)).set 8 (t3a 1)).set 9 (t3a 2)).set 10 (t3a 3)).set 11 (t3a 4)).set 12 (t3a 5)).set 13 (t3a 6)).set 14 (t3a 7)).set 15 (t3a 8)).set 16 (t3a 9)).set 17 (t3a 10)).set 18 (t3a 11)).set 19 (.bool m0b))) ?_ ?_
 ·intro HJ54
  rcases bft z6 with e1a | e1a
  ·have p2b:=zP hz6 e1a
   have f3b:=ifP p2b h7a
   refine sV (Ab rfl) ?_ (hw:=wgT rfl e1a)
   refine sV (AP Bs rfl) ?_ (hw:=wgT rfl e1a)
   refine sb (Cr rfl rfl) ?_ (hw:=wgT rfl e1a)
   intro z4a hz4a
   refine nrm ?_
   refine sV (Ab rfl) ?_ (hw:=wgT rfl e1a)
   obtain ⟨m8a,h9a,f4b⟩:=Aa f3b
   refine BW 16 (fun l l' w'=>∃(t2a:Nat→Value),w=w'∧l'=((((((((l.set 11 (t2a 0)).set 12 (t2a 1)).set 13 (t2a 2)).set 14 (t2a 3)).set 15 (t2a 4)).set 16 (t2a 5)).set 17 (t2a 6)).set 18 (.bool m8a))) ?_ ?_
   ·intro HJ81
    rcases bft z4a with e0a | e0a
    ·have p5b:=zP hz4a e0a
     have f6b:=ifP p5b h9a
     refine sP ?_ (hw:=wgF rfl e0a)
     refine sP ?_ (hw:=wgF rfl e0a)
     refine sP ?_ (hw:=wgF rfl e0a)
     refine sP ?_ (hw:=wgF rfl e0a)
     refine sP ?_ (hw:=wgF rfl e0a)
     refine sP ?_ (hw:=wgF rfl e0a)
     refine sP ?_ (hw:=wgF rfl e0a)
     refine sV (AB (evb rfl e0a) rfl) ?_ (hw:=wgT rfl e1a)
     obtain rfl:=sj f6b
     exact HJ81 _ _ ⟨(tk [uu,uu,uu,uu,uu,uu,uu]),(by trivial),(by simp only [S0,S1]<;>rfl)⟩
    ·have p7b:=zN hz4a e0a
     have f8b:=ifN p7b h9a
     refine sV (Ab rfl) ?_ (hw:=wgT rfl e0a)
     refine sV (Ab rfl) ?_ (hw:=wgT rfl e0a)
     refine sV (AP Bs rfl) ?_ (hw:=wgT rfl e0a)
     refine sV (CE (c:=wi64 ((x0.length:Int) - 1)) rfl rfl rfl) ?_ (hw:=wgT rfl e0a)
     obtain ⟨u5a,h9b,f0c⟩:=Aa f8b
     obtain ⟨bb90,oo91,hA1c,ia2c,ib3c,hc93⟩:=RL.nth n3 h9b
     refine sV (AN Bs AC rfl rfl hA1c ia2c ib3c) ?_ (hw:=wgT rfl e0a)
     refine sV (Aj Bz rfl hc93) ?_ (hw:=wgT rfl e0a)
     refine sb (GF rfl rfl) ?_ (hw:=wgT rfl e0a)
     intro z6a hz6a
     refine nrm ?_
     refine sV (AF (evb rfl e0a) rfl) ?_ (hw:=wgT rfl e1a)
     obtain rfl:z6a=decide (¬u5a=0):=bz hz6a
     obtain rfl:=sj f0c
     exact HJ81 _ _ ⟨(tk [.slice A1 x0.length c2,.slice A1 x0.length c2,.int .i64 (x0.length:Int),.int .i64 (wi64 ((x0.length:Int) - 1)),.pointer (some ⟨bb90,oo91+((wi64 ((x0.length:Int) - 1)):Int).toNat,none⟩),.int .u32 u5a,.bool (decide (¬u5a=0))]),(by trivial),(by simp only [S0,S1]<;>rfl)⟩
   ·rintro l' _ ⟨t2a,rfl,hq'⟩ l'' hl
    rw [hq'] at hl
    clear hq'
    simp only [S0,S1] at hl
    subst hl
    refine sV (AB (evb rfl e1a) rfl) ?_
    obtain rfl:=sj f4b
    exact HJ54 _ _ ⟨(tk [.slice A1 x0.length c2,.int .i64 (x0.length:Int),.bool z4a,.bool z4a,t2a 0,t2a 1,t2a 2,t2a 3,t2a 4,t2a 5,t2a 6,.bool m8a]),(by trivial),(by simp only [S0,S1]<;>rfl)⟩
  ·have p4c:=zN hz6 e1a
   have f5c:=ifN p4c h7a
   refine sP ?_ (hw:=wgF rfl e1a)
   refine sP ?_ (hw:=wgF rfl e1a)
   refine sP ?_ (hw:=wgF rfl e1a)
   refine sP ?_ (hw:=wgF rfl e1a)
   refine sP ?_
   refine sP ?_
   refine sP ?_
   refine sP ?_
   refine sP ?_
   refine sP ?_
   refine sP ?_
   refine sP ?_ (hw:=wgF rfl e1a)
   refine sV (AF (evb rfl e1a) rfl) ?_
   obtain rfl:=sj f5c
   exact HJ54 _ _ ⟨(tk [uu,uu,uu,uu,uu,uu,uu,uu,uu,uu,uu,uu]),(by trivial),(by simp only [S0,S1]<;>rfl)⟩
 ·rintro l' _ ⟨t3a,rfl,hq'⟩ l'' hl
  rw [hq'] at hl
  clear hq'
  simp only [S0,S1] at hl
  subst hl
  refine sV (Ac rfl) ?_
  refine Ad<|h5 _ _<|wp_ret ?_
  obtain rfl:=sj f1b
  exact fin rfl (Res.tmp rfl Res.nil) (An (Ext.refl _) rfl)
end Go.Proofs.Lf

