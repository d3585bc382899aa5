import Derived.Test.YtabiobmfelafoaaGreatDoorLeafDefs
namespace Go.Proofs.Lf
set_option linter.unusedVariables false
set_option linter.unusedSimpArgs false
set_option maxHeartbeats 4000000
open Go.RowKit Go.Sb Go.Proofs Go.Proofs.Sbn
theorem GC (x0:List Int) (A1:Option Addr) (c2:Nat) (w:World) (hT:TB w) (n3:RLu w A1 c2 x0) (r:Bool) (hr:Bt x0=some r) :
  Calls Tryz.prog 143 #[.slice A1 x0.length c2] w (Ret Fy w r):=by
 unfold Bt at hr
 go_enter Tryz.func143,Tryz.ntmps143
 refine wp_seq_k fun K4 h4=>Af<|sV (Ac rfl) ?_
 refine Ad<|h4 _ _<|wp_seq_k fun K5 h5=>Af<|sV (Aa rfl) ?_
 refine sV (AD CA rfl) ?_
 refine sb (IL rfl rfl) fun z6 hz6=>?_
 refine nrm ?_
 refine sV (Aa rfl) ?_
 obtain ⟨m0b,h7a,f1b⟩:=Ab hr
 refine Ca 17 (fun l l' w'=>∃(t3a:Nat→Value),w=w'∧l'=(((((((((((((l.set 7 (t3a 0)).set 8 (t3a 1)).set 9 (t3a 2)).set 10 (t3a 3)).set 11 (t3a 4)).set 12 (t3a 5)).set 13 (t3a 6)).set 14 (t3a 7)).set 15 (t3a 8)).set 16 (t3a 9)).set 17 (t3a 10)).set 18 (t3a 11)).set 19 (.bool m0b))) ?_ ?_
 ·intro HJ54
  rcases bft z6 with e1a | e1a
  ·have p2b:=zP hz6 e1a
   have f3b:=ifP p2b h7a
   refine sV (Aa rfl) ?_ (hw:=wgT rfl e1a)
   refine sV (AD CA rfl) ?_ (hw:=wgT rfl e1a)
   refine sb (Ce rfl rfl) ?_ (hw:=wgT rfl e1a)
   intro z4a hz4a
   refine nrm ?_
   refine sV (Aa rfl) ?_ (hw:=wgT rfl e1a)
   obtain ⟨m8a,h9a,f4b⟩:=Ab f3b
   refine Ca 16 (fun l l' w'=>∃(t2a:Nat→Value),w=w'∧l'=((((((((l.set 11 (t2a 0)).set 12 (t2a 1)).set 13 (t2a 2)).set 14 (t2a 3)).set 15 (t2a 4)).set 16 (t2a 5)).set 17 (t2a 6)).set 18 (.bool m8a))) ?_ ?_
   ·intro HJ81
    rcases bft z4a with e0a | e0a
    ·have p5b:=zP hz4a e0a
     have f6b:=ifP p5b h9a
     refine sP ?_ (hw:=wgF rfl e0a)
     refine sP ?_ (hw:=wgF rfl e0a)
     refine sP ?_ (hw:=wgF rfl e0a)
     refine sP ?_ (hw:=wgF rfl e0a)
     refine sP ?_ (hw:=wgF rfl e0a)
     refine sP ?_ (hw:=wgF rfl e0a)
     refine sP ?_ (hw:=wgF rfl e0a)
     refine sV (AB (evb rfl e0a) rfl) ?_ (hw:=wgT rfl e1a)
     obtain rfl:=sj f6b
     exact HJ81 _ _ ⟨(tk [uu,uu,uu,uu,uu,uu,uu]),(by trivial),(by simp only [S0,S1]<;>rfl)⟩
    ·have p7b:=zN hz4a e0a
     have f8b:=ifN p7b h9a
     refine sV (Aa rfl) ?_ (hw:=wgT rfl e0a)
     refine sV (Aa rfl) ?_ (hw:=wgT rfl e0a)
     refine sV (AD CA rfl) ?_ (hw:=wgT rfl e0a)
     refine sV (Bv (c:=wi64 ((x0.length:Int) - 1)) rfl rfl rfl) ?_ (hw:=wgT rfl e0a)
     obtain ⟨u5a,h9b,f0c⟩:=Ab f8b
     obtain ⟨bb90,oo91,hA1c,ia2c,ib3c,hc93⟩:=RL.nth n3 h9b
     refine sV (Ay CA As rfl rfl hA1c ia2c ib3c) ?_ (hw:=wgT rfl e0a)
     refine sV (Ag AV rfl hc93) ?_ (hw:=wgT rfl e0a)
     refine sb (Ix rfl rfl) ?_ (hw:=wgT rfl e0a)
     intro z6a hz6a
     refine nrm ?_
     refine sV (AF (evb rfl e0a) rfl) ?_ (hw:=wgT rfl e1a)
     obtain rfl:z6a=decide (¬u5a=0):=bz hz6a
     obtain rfl:=sj f0c
     exact HJ81 _ _ ⟨(tk [.slice A1 x0.length c2,.slice A1 x0.length c2,.int .i64 (x0.length:Int),.int .i64 (wi64 ((x0.length:Int) - 1)),.pointer (some ⟨bb90,oo91+((wi64 ((x0.length:Int) - 1)):Int).toNat,none⟩),.int .u32 u5a,.bool (decide (¬u5a=0))]),(by trivial),(by simp only [S0,S1]<;>rfl)⟩
   ·rintro l' _ ⟨t2a,rfl,hq'⟩ l'' hl
    rw [hq'] at hl
    clear hq'
    simp only [S0,S1] at hl
    subst hl
    refine sV (AB (evb rfl e1a) rfl) ?_
    obtain rfl:=sj f4b
    exact HJ54 _ _ ⟨(tk [.slice A1 x0.length c2,.int .i64 (x0.length:Int),.bool z4a,.bool z4a,t2a 0,t2a 1,t2a 2,t2a 3,t2a 4,t2a 5,t2a 6,.bool m8a]),(by trivial),(by simp only [S0,S1]<;>rfl)⟩
  ·have p4c:=zN hz6 e1a
   have f5c:=ifN p4c h7a
   refine sP ?_ (hw:=wgF rfl e1a)
   refine sP ?_ (hw:=wgF rfl e1a)
   refine sP ?_ (hw:=wgF rfl e1a)
   refine sP ?_ (hw:=wgF rfl e1a)
   refine sP ?_
   refine sP ?_
   refine sP ?_
   refine sP ?_
   refine sP ?_
   refine sP ?_
   refine sP ?_
   refine sP ?_ (hw:=wgF rfl e1a)
   refine sV (AF (evb rfl e1a) rfl) ?_
   obtain rfl:=sj f5c
   exact HJ54 _ _ ⟨(tk [uu,uu,uu,uu,uu,uu,uu,uu,uu,uu,uu,uu]),(by trivial),(by simp only [S0,S1]<;>rfl)⟩
 ·rintro l' _ ⟨t3a,rfl,hq'⟩ l'' hl
  rw [hq'] at hl
  clear hq'
  simp only [S0,S1] at hl
  subst hl
  refine sV (Ac rfl) ?_
  refine Ad<|h5 _ _<|wp_ret ?_
  obtain rfl:=sj f1b
  exact fin rfl (Res.tmp rfl Res.nil) (Ak (Ext.refl _) rfl)
theorem HD (x0:List Int) (x1:Int) (A1:Option Addr) (c2:Nat) (w:World) (hT:TB w) (n3:RLu w A1 c2 x0) (r:Int) (hr:Bf x0 x1=some r) :
  Calls Tryz.prog 197 #[.slice A1 x0.length c2,.int .i64 x1] w (Ret KM w r):=by
 unfold Bf at hr
 go_enter Tryz.func197,Tryz.ntmps197
 refine wp_seq_k fun K4 h4=>Af<|sV (Ac rfl) ?_
 refine Ad<|h4 _ _<|wp_seq_k fun K5 h5=>wp_seq_k fun K6 h6=>Af<|sV (Aa rfl) ?_
 refine sV (Aa rfl) ?_
 refine sV (AD CA rfl) ?_
 refine sb (EP rfl rfl) fun z7 hz7=>?_
 refine nrm ?_
 refine Ad<|h6 _ _ ?_
 rcases bft z7 with e0a | e0a
 ·have p3a:=zP hz7 e0a
  have f4a:=ifP p3a hr
  refine wp_cond_true (Aj (evb rfl e0a))<|wp_seq_k fun K1a h1a=>Af<|sV (Ac rfl) ?_
  refine Ad<|h1a _ _<|wp_ret ?_
  obtain rfl:=sj f4a
  exact fin rfl (Res.tmp rfl Res.nil) (Ak (Ext.refl _) rfl)
 ·have p5a:=zN hz7 e0a
  have f6a:=ifN p5a hr
  refine wp_cond_false (Aj (evb rfl e0a))<|wp_skip<|h5 _ _<|wp_seq_k fun K2a h2a=>Af<|sV (Aa rfl) ?_
  refine sV (Aa rfl) ?_
  obtain ⟨u7a,h8a,f9a⟩:=Ab f6a
  obtain ⟨bb23,oo24,hA0b,ia1b,ib2b,hc26⟩:=RL.nth n3 h8a
  refine sV (Ay CA As rfl rfl hA0b ia1b ib2b) ?_
  refine sV (Ag AV rfl hc26) ?_
  refine sV (AQ (c:=wu64 u7a) AR AO rfl rfl) ?_
  refine sV (Ac rfl) ?_
  refine Ad<|h2a _ _<|wp_ret ?_
  obtain rfl:=sj f9a
  exact fin rfl (Res.tmp rfl Res.nil) (Ak (Ext.refl _) rfl)
theorem Gh (x0:List Int) (x1:Int) (A1:Option Addr) (c2:Nat) (w:World) (hT:TB w) (n3:RLu w A1 c2 x0) (r:Int) (hr:BI x0 x1=some r) :
  Calls Tryz.prog 128 #[.slice A1 x0.length c2,.int .i64 x1] w (Ret KM w r):=by
 unfold BI at hr
 go_enter Tryz.func128,Tryz.ntmps128
 refine wp_seq_k fun K4 h4=>Af<|sV (Ac rfl) ?_
 refine Ad<|h4 _ _<|wp_seq_k fun K5 h5=>Af<|sV (Aa rfl) ?_
 refine sV (Aa rfl) ?_
 refine sV (HK (c:=wi64 (x1.tdiv 32)) (by decide) rfl rfl rfl) ?_
 obtain ⟨r6,h7,f8⟩:=Ab hr
 refine sc (Ae NK (by rfl)) (HD x0 (wi64 (x1.tdiv 32)) A1 c2 w hT n3 r6 h7) ?_
 rintro _ w1 E9 rfl
 refine nrm ?_
 refine sV (Aa rfl) ?_
 refine sV (JD (c:=x1.tmod 32) (by decide) rfl rfl rfl) ?_
 obtain ⟨_,h0a,f1a⟩:=Ab f8
 have gd12:=AJ h0a
 refine sV (IA (c:=r6.fdiv (2^min ((x1.tmod 32):Int).toNat IntKind.u64.bits)) gd12 rfl rfl rfl) ?_
 refine sV (JD (c:=(r6.fdiv (2^min ((x1.tmod 32):Int).toNat IntKind.u64.bits)).tmod 2) (by decide) rfl rfl rfl) ?_
 refine sV (Ac rfl) ?_
 refine Ad<|h5 _ _<|wp_ret ?_
 obtain rfl:=sj f1a
 exact fin rfl (Res.tmp rfl Res.nil) (Ak E9 rfl)
theorem Hd (x0:List Int) (x1:List Int) (A1:Option Addr) (c2:Nat) (A4:Option Addr) (c5:Nat) (w:World) (hT:TB w) (n3:RLu w A1 c2 x0) (n6:RLu w A4 c5 x1) (r:Bool) (hr:AM x0 x1=some r) :
  Calls Tryz.prog 144 #[.slice A1 x0.length c2,.slice A4 x1.length c5] w (Ret Fy w r):=by
 unfold AM at hr
 go_enter Tryz.func144,Tryz.ntmps144
 refine wp_seq_k fun K7 h7=>Af<|sV (Ac rfl) ?_
 refine Ad<|h7 _ _<|wp_seq_k fun K8 h8=>wp_seq_k fun K9 h9=>Af<|sV (Aa rfl) ?_
 refine sV (AD CA rfl) ?_
 refine sV (Aa rfl) ?_
 refine sV (AD CA rfl) ?_
 refine sb (Ix rfl rfl) fun z4a hz4a=>?_
 refine nrm ?_
 refine Ad<|h9 _ _ ?_
 rcases bft z4a with e1a | e1a
 ·have p4c:=zP hz4a e1a
  have f5c:=ifP p4c hr
  refine wp_cond_true (Aj (evb rfl e1a))<|wp_seq_k fun K1b h1b=>Af<|sV (Ac rfl) ?_
  refine Ad<|h1b _ _<|wp_ret ?_
  obtain rfl:=sj f5c
  exact fin rfl (Res.tmp rfl Res.nil) (Ak (Ext.refl _) rfl)
 ·have p6c:=zN hz4a e1a
  have f7c:=ifN p6c hr
  refine wp_cond_false (Aj (evb rfl e1a))<|wp_skip<|h8 _ _<|wp_seq_k fun K2b h2b=>wp_seq_k fun K3b h3b=>Af<|sV (Ac rfl) ?_
  refine Ad<|h3b _ _ ?_
  apply wp_block
  refine BA (fun l n4b l' w'=>∃(v0a:Int),Ext w w'∧Cd x0 x1 n4b v0a=some r∧Fr l' (fun t7a=>.slice A1 x0.length c2::.slice A4 x1.length c5::gp t7a 2 3 (.int .i64 v0a::gp t7a 6 20 []))) 18446744073709551616 ?_ ?_ ?_
  ·exact ⟨0,(Ext.refl _),f7c,(Fr.mk (by kernel_rfl))⟩
  ·rintro l' w' ⟨v0a,_,hz,_⟩
   exact nomatch hz
  ·rintro n4b ih8c _ w1 ⟨v0a,U8a,hr9a,⟨t7a,rfl⟩⟩ l'' hl
   simp only [gp,Nat.reduceAdd] at hl
   subst hl
   unfold Cd at hr9a
   refine Bg<|wp_seq_k fun K5b h5b=>wp_seq_k fun K6b h6b=>Af<|sV (Aa rfl) ?_
   refine sV (Aa rfl) ?_
   refine sV (AD CA rfl) ?_
   refine sb (Cm rfl rfl) fun z5a hz5a=>?_
   refine nrm ?_
   refine Ad<|h6b _ _ ?_
   rcases bft z5a with e2a | e2a
   ·have p9c:=zP hz5a e2a
    have f0d:=ifP p9c hr9a
    refine wp_cond_true (Aj (evb rfl e2a))<|wp_skip<|h5b _ _<|wp_seq_k fun K7b h7b=>?_
    apply wp_block
    refine wp_seq_k fun K8b h8b=>Ei [] 9 mo rfl fun w2 E9b S0c=>have X0b:=xtr U8a E9b;dA 0 rfl (fun _=>Aa rfl) ?_
    refine dA 1 rfl (fun _=>Aa rfl) ?_
    obtain ⟨u6e,h1d,f2d⟩:=Ab f0d
    obtain ⟨bb156,oo157,hA3d,ia4d,ib5d,hc159⟩:=RL.nth (n3.ext X0b) h1d
    refine dA 2 rfl (fun _=>Ay CA As rfl rfl hA3d ia4d ib5d) ?_
    refine dV 3 rfl (fun _ hw=>Ag AV rfl (Dd hc159 hw)) S0c ?_
    refine dA 4 rfl (fun _=>Aa rfl) ?_
    refine dA 5 rfl (fun _=>Aa rfl) ?_
    obtain ⟨u7e,h6d,f1c⟩:=Ab f2d
    obtain ⟨bb165,oo166,hA7d,ia8d,ib9d,hc168⟩:=RL.nth (n6.ext X0b) h6d
    refine dA 6 rfl (fun _=>Ay CA As rfl rfl hA7d ia8d ib9d) ?_
    refine dV 7 rfl (fun _ hw=>Ag AV rfl (Dd hc168 hw)) S0c ?_
    refine dab 8 rfl (by kernel_rfl) (fun _ _ _ h=>h) (by rfl) (fun _=>Ix rfl rfl) fun z6a hz6a=>?_
    refine dnrm ?_
    refine CU (by kernel_rfl) ?_
    refine h8b _ _ ?_
    rcases bft z6a with e3a | e3a
    ·have p0e:=zP hz6a e3a
     have f1e:=ifP p0e f1c
     refine wp_cond_true (Aj (evb rfl e3a))<|wp_seq_k fun K2c h2c=>Af<|sV (Ac rfl) ?_
     refine Ad<|h2c _ _<|wp_ret ?_
     obtain rfl:=sj f1e
     exact fin rfl (Res.tmp rfl Res.nil) (Ak X0b rfl)
    ·have p2e:=zN hz6a e3a
     have f3e:=ifN p2e f1c
     refine wp_cond_false (Aj (evb rfl e3a))<|wp_skip<|h7b _ _<|Af<|sV (Aa rfl) ?_
     refine sV (Bd (c:=wi64 (v0a+1)) rfl rfl rfl) ?_
     refine sV (Ac rfl) ?_
     refine Ad ?_
     exact ih8c _ _ ⟨(wi64 (v0a+1)),(U8a.trans E9b),f3e,(Fr.mk (by kernel_rfl))⟩
   ·have p4e:=zN hz5a e2a
    have f5e:=ifN p4e hr9a
    refine wp_cond_false (Aj (evb rfl e2a))<|wp_exit ?_
    simp only [Exit.then,Exit.inBlock,↓reduceIte,Nat.reduceEqDiff]
    refine h2b _ _<|wp_seq_k fun K3c h3c=>Af<|sV (Ac rfl) ?_
    refine Ad<|h3c _ _<|wp_ret ?_
    obtain rfl:=sj f5e
    exact fin rfl (Res.tmp rfl Res.nil) (Ak U8a rfl)
theorem Iy (x0:List Int) (A1:Option Addr) (c2:Nat) (w:World) (hT:TB w) (n3:RLu w A1 c2 x0) (r:List Int) (hr:Bi x0=some r) :
  Calls Tryz.prog 210 #[.slice A1 x0.length c2] w (Ret MO w r):=by
 unfold Bi at hr
 go_enter Tryz.func210,Tryz.ntmps210
 refine wp_seq_k fun K4 h4=>Af<|sV (Ac rfl) ?_
 refine Ad<|h4 _ _<|wp_seq_k fun K5 h5=>Af<|sV (Aa rfl) ?_
 refine sV (AD CA rfl) ?_
 refine sV (Ac rfl) ?_
 refine Ad<|h5 _ _<|wp_seq_k fun K6 h6=>?_
 obtain ⟨m5a,h0c,f1c⟩:=Ab hr
 refine Di (fun l l' w'=>w=w'∧Fr l' (fun t8a=>.slice A1 x0.length c2::gp t8a 1 2 (.int .i64 m5a::gp t8a 4 19 []))) ?_ ?_
 ·apply wp_block
  refine BA (fun l n2b l' w'=>∃(v2a:Int) (t3a:Nat→Value),w=w'∧BK x0 n2b v2a=some m5a∧Fr l' (fun t6a=>.slice A1 x0.length c2::gp t6a 1 2 (.int .i64 v2a::gp t6a 4 5 ((t3a 0)::(t3a 1)::(t3a 2)::(t3a 3)::(t3a 4)::(t3a 5)::gp t6a 15 8 [])))) 18446744073709551616 ?_ ?_ ?_
  ·exact ⟨(x0.length:Int),(tk [uu,uu,uu,uu,uu,uu]),(by trivial),h0c,(Fr.mk (by kernel_rfl))⟩
  ·rintro l' w' ⟨v2a,t3a,_,hz,_⟩
   exact nomatch hz
  ·rintro n2b ih2c _ _ ⟨v2a,t3a,rfl,hr3b,⟨t6a,rfl⟩⟩ l'' hl
   simp only [gp,Nat.reduceAdd] at hl
   subst hl
   unfold BK at hr3b
   refine Bg<|wp_seq_k fun K4b h4b=>wp_seq_k fun K5b h5b=>Af<|sV (Aa rfl) ?_
   refine sb (Fs rfl rfl) fun z7a hz7a=>?_
   refine nrm ?_
   refine sV (Aa rfl) ?_
   obtain ⟨m6b,h7b,f8b⟩:=Ab hr3b
   refine Ca 10 (fun l l' w'=>∃(t1a:Nat→Value),w=w'∧l'=(((((((l.set 9 (t1a 0)).set 10 (t1a 1)).set 11 (t1a 2)).set 12 (t1a 3)).set 13 (t1a 4)).set 14 (t1a 5)).set 15 (.bool m6b))) ?_ ?_
   ·intro HJ307
    rcases bft z7a with e0a | e0a
    ·have p3c:=zP hz7a e0a
     have f4c:=ifP p3c h7b
     refine sV (Aa rfl) ?_ (hw:=wgT rfl e0a)
     refine sV (Aa rfl) ?_ (hw:=wgT rfl e0a)
     refine sV (Bv (c:=wi64 (v2a - 1)) rfl rfl rfl) ?_ (hw:=wgT rfl e0a)
     obtain ⟨u9a,h5c,f6c⟩:=Ab f4c
     obtain ⟨bb316,oo317,hA7c,ia8c,ib9c,hc319⟩:=RL.nth n3 h5c
     refine sV (Ay CA As rfl rfl hA7c ia8c ib9c) ?_ (hw:=wgT rfl e0a)
     refine sV (Ag AV rfl hc319) ?_ (hw:=wgT rfl e0a)
     refine sb (Ce rfl rfl) ?_ (hw:=wgT rfl e0a)
     intro z0b hz0b
     refine nrm ?_
     refine sV (AB (evb rfl e0a) rfl) ?_
     obtain rfl:z0b=decide (u9a=0):=bz hz0b
     obtain rfl:=sj f6c
     exact HJ307 _ _ ⟨(tk [.slice A1 x0.length c2,.int .i64 v2a,.int .i64 (wi64 (v2a - 1)),.pointer (some ⟨bb316,oo317+((wi64 (v2a - 1)):Int).toNat,none⟩),.int .u32 u9a,.bool (decide (u9a=0))]),(by trivial),(by simp only [S0,S1]<;>rfl)⟩
    ·have p0d:=zN hz7a e0a
     have f1d:=ifN p0d h7b
     refine sP ?_ (hw:=wgF rfl e0a)
     refine sP ?_ (hw:=wgF rfl e0a)
     refine sP ?_ (hw:=wgF rfl e0a)
     refine sP ?_ (hw:=wgF rfl e0a)
     refine sP ?_ (hw:=wgF rfl e0a)
     refine sP ?_ (hw:=wgF rfl e0a)
     refine sV (AF (evb rfl e0a) rfl) ?_
     obtain rfl:=sj f1d
     exact HJ307 _ _ ⟨(tk [uu,uu,uu,uu,uu,uu]),(by trivial),(by simp only [S0,S1]<;>rfl)⟩
   ·rintro l' _ ⟨t1a,rfl,hq'⟩ l'' hl
    rw [hq'] at hl
    clear hq'
    simp only [S0,S1] at hl
    subst hl
    refine Ad<|h5b _ _ ?_
    rcases bft m6b with e4a | e4a
    ·have p2d:=e4a
     have f3d:=ifP p2d f8b
     refine wp_cond_true (Aj (evb rfl e4a))<|wp_skip<|h4b _ _ ?_
     apply wp_block
     refine Af<|sV (Aa rfl) ?_
     refine sV (Bv (c:=wi64 (v2a - 1)) rfl rfl rfl) ?_
     refine sV (Ac rfl) ?_
     refine Ad ?_
     exact ih2c _ _ ⟨(wi64 (v2a - 1)),(tk [t1a 0,t1a 1,t1a 2,t1a 3,t1a 4,t1a 5]),(by trivial),f3d,(Fr.mk (by kernel_rfl))⟩
    ·have p4d:=bF e4a
     have f5d:=ifN p4d f8b
     refine wp_cond_false (Aj (evb rfl e4a))<|wp_exit ?_
     simp only [Exit.then,Exit.inBlock,↓reduceIte,Nat.reduceEqDiff]
     obtain rfl:=sj f5d
     exact ⟨_,rfl,(by trivial),(Fr.mk (by kernel_rfl))⟩
 ·rintro _ _ ⟨rfl,⟨t8a,rfl⟩⟩ l'' hl
  simp only [gp,Nat.reduceAdd] at hl
  subst hl
  refine h6 _ _<|wp_seq_k fun K9b h9b=>Af<|LL CA Ez fun A6d w1 E1b=>?_
  refine nrm ?_
  refine sV (Aa rfl) ?_
  refine sV (Aa rfl) ?_
  obtain ⟨_,h7d,f8d⟩:=Ab f1c
  have gd340:=AJ h7d
  refine MB (lo:=0) (hi:=(m5a:Int).toNat) CA As rfl rfl ⟨.i64,by rw [Int.toNat_of_nonneg (a:=m5a) (by omega)];rfl⟩ (by omega) (by omega) (n3.ext E1b) fun A6e c7e n9d=>?_
  refine nrm ?_
  obtain ⟨_,h0e,f1e⟩:=Ab f8d
  have gd346:=AJ h0e
  refine KS CA Ez rfl rfl rfl (OW.nil 179 w.heap.size w1 A6d) n9d gd346 E1b.size fun A2e c3e w2 B349 ow4e=>?_
  refine nrm ?_
  have X5e:=xO E1b B349 (Nat.le_refl _)
  refine sV (Ac rfl) ?_
  refine Ad<|h9b _ _<|wp_ret ?_
  obtain rfl:=sj f1e
  exact fin rfl (Res.tmp rfl Res.nil) (Ak X5e ⟨A2e,c3e,rfl,(OW.rl ow4e)⟩)
theorem Gz (x0:Int) (w:World) (hT:TB w) (r:List Int) (hr:Cl x0=some r) :
  Calls Tryz.prog 179 #[.int .u64 x0] w (Ret MO w r):=by
 unfold Cl at hr
 go_enter Tryz.func179,Tryz.ntmps179
 refine wp_seq_k fun K1 h1=>Af<|sV (Ac rfl) ?_
 refine Ad<|h1 _ _<|wp_seq_k fun K2 h2=>Af<|sV (Aa rfl) ?_
 refine sV (AQ (c:=wu32 x0) AO AR rfl rfl) ?_
 refine sV (Aa rfl) ?_
 refine sV (IA (c:=x0.fdiv (2^min (32:Int).toNat IntKind.u64.bits)) (by decide) rfl rfl rfl) ?_
 refine sV (AQ (c:=wu32 (x0.fdiv (2^min (32:Int).toNat IntKind.u64.bits))) AO AR rfl rfl) ?_
 refine Ct (vals:=[(0,.int .u32 (wu32 x0)),(1,.int .u32 (wu32 (x0.fdiv (2^min (32:Int).toNat IntKind.u64.bits))))]) (cs:=[.int .u32 (wu32 x0),.int .u32 (wu32 (x0.fdiv (2^min (32:Int).toNat IntKind.u64.bits)))]) CA As Hc (by rfl) (by decide) (by kernel_rfl) fun b4 w1 E3 g5 q6=>?_
 refine nrm ?_
 have n7:RLu w1 (some ⟨b4,0,none⟩) 2 [(wu32 x0),(wu32 (x0.fdiv (2^min (32:Int).toNat IntKind.u64.bits)))]:=(OW.lit (n0:=0) (n:=2) (xs:=[(wu32 x0),(wu32 (x0.fdiv (2^min (32:Int).toNat IntKind.u64.bits)))]) q6 (Nat.zero_le _) rfl (by decide)).rl
 obtain ⟨r8,h9,f0a⟩:=Ab hr
 refine sc (Ae Oz (by rfl)) (Iy ([(wu32 x0),(wu32 (x0.fdiv (2^min (32:Int).toNat IntKind.u64.bits)))]:List Int) (some ⟨b4,0,none⟩) 2 w1 (tbx E3 hT) n7 r8 h9) ?_
 rintro _ w2 E1a ⟨A2a,c3a,rfl,n4a⟩
 refine nrm ?_
 have X5a:=xtr E3 E1a
 refine sV (Ac rfl) ?_
 refine Ad<|h2 _ _<|wp_ret ?_
 obtain rfl:=sj f0a
 exact fin rfl (Res.tmp rfl Res.nil) (Ak X5a ⟨A2a,c3a,rfl,n4a⟩)
theorem GD (x0:List Int) (A1:Option Addr) (c2:Nat) (w:World) (hT:TB w) (n3:RLu w A1 c2 x0) (r:Int) (hr:BC x0=some r) :
  Calls Tryz.prog 153 #[.slice A1 x0.length c2] w (Ret GI w r):=by
 unfold BC at hr
 go_enter Tryz.func153,Tryz.ntmps153
 refine wp_seq_k fun K4 h4=>Af<|sV (Ac rfl) ?_
 refine Ad<|h4 _ _<|wp_seq_k fun K5 h5=>Af<|sV (Ac rfl) ?_
 refine Ad<|h5 _ _<|wp_seq_k fun K6 h6=>?_
 obtain ⟨m1b,h1c,f2c⟩:=Ab hr
 refine Di (fun l l' w'=>Ext w w'∧Fr l' (fun t9a=>gp t9a 0 3 (.int .i64 m1b::gp t9a 4 12 []))) ?_ ?_
 ·apply wp_block
  refine BA (fun l n2b l' w'=>∃(v2a:Int) (t3a:Nat→Value),Ext w w'∧BB x0 n2b v2a=some m1b∧Fr l' (fun t5a=>.slice A1 x0.length c2::gp t5a 1 2 (.int .i64 v2a::gp t5a 4 4 ((t3a 0)::(t3a 1)::(t3a 2)::(t3a 3)::gp t5a 12 4 [])))) 18446744073709551616 ?_ ?_ ?_
  ·exact ⟨0,(tk [uu,uu,uu,uu]),(Ext.refl _),h1c,(Fr.mk (by kernel_rfl))⟩
  ·rintro l' w' ⟨v2a,t3a,_,hz,_⟩
   exact nomatch hz
  ·rintro n2b ih3c _ w1 ⟨v2a,t3a,U6a,hr3b,⟨t5a,rfl⟩⟩ l'' hl
   simp only [gp,Nat.reduceAdd] at hl
   subst hl
   unfold BB at hr3b
   refine Bg<|wp_seq_k fun K4b h4b=>wp_seq_k fun K5b h5b=>Af<|sV (Aa rfl) ?_
   refine sV (AD CA rfl) ?_
   refine sb (Fs rfl rfl) fun z7a hz7a=>?_
   refine nrm ?_
   refine sV (Aa rfl) ?_
   obtain ⟨m6b,h7b,f8b⟩:=Ab hr3b
   refine Ca 9 (fun l l' w'=>∃(t1a:Nat→Value),Ext w1 w'∧l'=(((((l.set 8 (t1a 0)).set 9 (t1a 1)).set 10 (t1a 2)).set 11 (t1a 3)).set 12 (.bool m6b))) ?_ ?_
   ·intro HJ265
    rcases bft z7a with e0a | e0a
    ·have p4c:=zP hz7a e0a
     have f5c:=ifP p4c h7b
     refine sV (Aa rfl) ?_ (hw:=wgT rfl e0a)
     refine sV (Aa rfl) ?_ (hw:=wgT rfl e0a)
     obtain ⟨r8a,h6c,f7c⟩:=Ab f5c
     refine sc (Ae NP (by rfl)) (Gh x0 v2a A1 c2 w1 (tbx U6a hT) (n3.ext U6a) r8a h6c) ?_ (hw:=wgT rfl e0a)
     rintro _ w2 E8c rfl
     refine nrm ?_
     refine sb (Ce rfl rfl) ?_ (hw:=wgT rfl e0a)
     intro z0b hz0b
     refine nrm ?_
     refine sV (AB (evb rfl e0a) rfl) ?_
     obtain rfl:z0b=decide (r8a=0):=bz hz0b
     obtain rfl:=sj f7c
     exact HJ265 _ _ ⟨(tk [.slice A1 x0.length c2,.int .i64 v2a,.int .u64 r8a,.bool (decide (r8a=0))]),E8c,(by simp only [S0,S1]<;>rfl)⟩
    ·have p9c:=zN hz7a e0a
     have f0d:=ifN p9c h7b
     refine sP ?_ (hw:=wgF rfl e0a)
     refine sP ?_ (hw:=wgF rfl e0a)
     refine sP ?_ (hw:=wgF rfl e0a)
     refine sP ?_ (hw:=wgF rfl e0a)
     refine sV (AF (evb rfl e0a) rfl) ?_
     obtain rfl:=sj f0d
     exact HJ265 _ _ ⟨(tk [uu,uu,uu,uu]),(Ext.refl _),(by simp only [S0,S1]<;>rfl)⟩
   ·rintro l' w2 ⟨t1a,U9b,hq'⟩ l'' hl
    rw [hq'] at hl
    clear hq'
    simp only [S0,S1] at hl
    subst hl
    refine Ad<|h5b _ _ ?_
    rcases bft m6b with e4a | e4a
    ·have p1d:=e4a
     have f2d:=ifP p1d f8b
     refine wp_cond_true (Aj (evb rfl e4a))<|wp_skip<|h4b _ _ ?_
     apply wp_block
     refine Af<|sV (Aa rfl) ?_
     refine sV (Bd (c:=wi64 (v2a+1)) rfl rfl rfl) ?_
     refine sV (Ac rfl) ?_
     refine Ad ?_
     exact ih3c _ _ ⟨(wi64 (v2a+1)),(tk [t1a 0,t1a 1,t1a 2,t1a 3]),(U6a.trans U9b),f2d,(Fr.mk (by kernel_rfl))⟩
    ·have p3d:=bF e4a
     have f4d:=ifN p3d f8b
     refine wp_cond_false (Aj (evb rfl e4a))<|wp_exit ?_
     simp only [Exit.then,Exit.inBlock,↓reduceIte,Nat.reduceEqDiff]
     obtain rfl:=sj f4d
     exact ⟨_,rfl,(U6a.trans U9b),(Fr.mk (by kernel_rfl))⟩
 ·rintro _ w1 ⟨U5d,⟨t9a,rfl⟩⟩ l'' hl
  simp only [gp,Nat.reduceAdd] at hl
  subst hl
  refine h6 _ _<|wp_seq_k fun K0c h0c=>Af<|sV (Aa rfl) ?_
  refine sV (Ac rfl) ?_
  refine Ad<|h0c _ _<|wp_ret ?_
  obtain rfl:=sj f2c
  exact fin rfl (Res.tmp rfl Res.nil) (Ak U5d rfl)
theorem Ho (x0:List Int) (x1:Int) (A1:Option Addr) (c2:Nat) (w:World) (hT:TB w) (n3:RLu w A1 c2 x0) (r:List Int) (hr:BG x0 x1=some r) :
  Calls Tryz.prog 154 #[.slice A1 x0.length c2,.int .i64 x1] w (Ret MO w r):=by
 unfold BG at hr
 go_enter Tryz.func154,Tryz.ntmps154
 refine wp_seq_k fun K4 h4=>Af<|sV (Ac rfl) ?_
 refine Ad<|h4 _ _<|wp_seq_k fun K5 h5=>wp_seq_k fun K6 h6=>Af<|sV (Aa rfl) ?_
 refine sV (HK (c:=wi64 (x1.tdiv 32)) (by decide) rfl rfl rfl) ?_
 refine sV (Aa rfl) ?_
 refine sV (AD CA rfl) ?_
 refine sb (EP rfl rfl) fun z7 hz7=>?_
 refine nrm ?_
 refine Ad<|h6 _ _ ?_
 rcases bft z7 with e4a | e4a
 ·have p3d:=zP hz7 e4a
  have f4d:=ifP p3d hr
  refine wp_cond_true (Aj (evb rfl e4a))<|wp_seq_k fun K7b h7b=>Af<|sV (Ac rfl) ?_
  refine Ad<|h7b _ _<|wp_ret ?_
  obtain rfl:=sj f4d
  exact fin rfl (Res.tmp rfl Res.nil) (Ak (Ext.refl _) ⟨none,0,rfl,(RL.nil _ _ _)⟩)
 ·have p5d:=zN hz7 e4a
  have f6d:=ifN p5d hr
  refine wp_cond_false (Aj (evb rfl e4a))<|wp_skip<|h5 _ _<|wp_seq_k fun K8b h8b=>Af<|sV (Ac rfl) ?_
  refine Ad<|h8b _ _<|wp_seq_k fun K9b h9b=>wp_seq_k fun K0c h0c=>Af<|sV (Aa rfl) ?_
  refine sV (HK (c:=wi64 (x1.tdiv 32)) (by decide) rfl rfl rfl) ?_
  refine sV (Ac rfl) ?_
  refine Ad<|h0c _ _ ?_
  obtain ⟨m5a,h7d,f8d⟩:=Ab f6d
  refine Di (fun l l' w'=>∃(A9a:Option Addr) (c0b:Nat),Ext w w'∧OW 179 w.heap.size w' A9a m5a.length c0b m5a∧Fr l' (fun t3b=>gp t3b 0 5 (.slice A9a m5a.length c0b::gp t3b 6 34 []))) ?_ ?_
  ·apply wp_block
   refine BA (fun l n1c l' w'=>∃(v1a:Int) (v3a:List Int) (A6a:Option Addr) (c7a:Nat),Ext w w'∧OW 179 w.heap.size w' A6a v3a.length c7a v3a∧CM x0 x1 n1c v1a v3a=some m5a∧Fr l' (fun t4b=>.slice A1 x0.length c2::.int .i64 x1::gp t4b 2 3 (.slice A6a v3a.length c7a::.int .i64 v1a::gp t4b 7 33 []))) 18446744073709551616 ?_ ?_ ?_
   ·exact ⟨(wi64 (x1.tdiv 32)),([]:List Int),none,0,(Ext.refl _),(OW.nn (OW.nil 179 w.heap.size w none)),h7d,(Fr.mk (by simp only [OW.len (OW.nil 179 w.heap.size w none)];kernel_rfl))⟩
   ·rintro l' w' ⟨v1a,v3a,A6a,c7a,_,_,hz,_⟩
    exact nomatch hz
   ·rintro n1c ih9d _ w1 ⟨v1a,v3a,A6a,c7a,X1b,ow2c,hr5b,⟨t4b,rfl⟩⟩ l'' hl
    simp only [gp,Nat.reduceAdd] at hl
    subst hl
    unfold CM at hr5b
    refine Bg<|wp_seq_k fun K3c h3c=>wp_seq_k fun K4c h4c=>Af<|sV (Aa rfl) ?_
    refine sV (Aa rfl) ?_
    refine sV (AD CA rfl) ?_
    refine sb (Cm rfl rfl) fun z2b hz2b=>?_
    refine nrm ?_
    refine Ad<|h4c _ _ ?_
    rcases bft z2b with e8a | e8a
    ·have p0e:=zP hz2b e8a
     have f1e:=ifP p0e hr5b
     refine wp_cond_true (Aj (evb rfl e8a))<|wp_skip<|h3c _ _<|wp_seq_k fun K5c h5c=>?_
     apply wp_block
     refine wp_seq_k fun K6c h6c=>Af<|sV (Aa rfl) ?_
     refine sV (Aa rfl) ?_
     refine sV (Bd (c:=wi64 (v1a+1)) rfl rfl rfl) ?_
     obtain ⟨r0a,h2e,f3e⟩:=Ab f1e
     refine sc (Ae NK (by rfl)) (HD x0 (wi64 (v1a+1)) A1 c2 w1 (tbx X1b hT) (n3.ext X1b) r0a h2e) ?_
     rintro _ w2 E7c rfl
     refine nrm ?_
     have X6b:=xtr X1b E7c
     refine sV (JI (c:=wu64 (r0a*2^min (32:Int).toNat IntKind.u64.bits)) (by decide) rfl rfl rfl) ?_
     refine sV (Aa rfl) ?_
     refine sV (Aa rfl) ?_
     obtain ⟨r2a,h4e,f5e⟩:=Ab f3e
     refine sc (Ae NK (by rfl)) (HD x0 v1a A1 c2 w2 (tbx X6b hT) (n3.ext X6b) r2a h4e) ?_
     rintro _ w3 E8c rfl
     refine nrm ?_
     have X6e:=xtr X6b E8c
     refine sV (Bd (c:=wu64 ((wu64 (r0a*2^min (32:Int).toNat IntKind.u64.bits))+r2a)) rfl rfl rfl) ?_
     refine sV (Aa rfl) ?_
     refine sV (JD (c:=x1.tmod 32) (by decide) rfl rfl rfl) ?_
     obtain ⟨_,h7e,f8e⟩:=Ab f5e
     have gd526:=AJ h7e
     refine sV (IA (c:=(wu64 ((wu64 (r0a*2^min (32:Int).toNat IntKind.u64.bits))+r2a)).fdiv (2^min ((x1.tmod 32):Int).toNat IntKind.u64.bits)) gd526 rfl rfl rfl) ?_
     refine sV (Ac rfl) ?_
     refine Ad<|h6c _ _<|Af<|sV (Aa rfl) ?_
     refine sV (Aa rfl) ?_
     refine sV (AQ (c:=wu32 ((wu64 ((wu64 (r0a*2^min (32:Int).toNat IntKind.u64.bits))+r2a)).fdiv (2^min ((x1.tmod 32):Int).toNat IntKind.u64.bits))) AO AR rfl rfl) ?_
     refine Ct (vals:=[(0,.int .u32 (wu32 ((wu64 ((wu64 (r0a*2^min (32:Int).toNat IntKind.u64.bits))+r2a)).fdiv (2^min ((x1.tmod 32):Int).toNat IntKind.u64.bits))))]) (cs:=[.int .u32 (wu32 ((wu64 ((wu64 (r0a*2^min (32:Int).toNat IntKind.u64.bits))+r2a)).fdiv (2^min ((x1.tmod 32):Int).toNat IntKind.u64.bits)))]) CA As Hc (by rfl) (by decide) (by kernel_rfl) fun b9e w4 E9c g0h q0f=>?_
     refine nrm ?_
     have X0d:=xtr X6e E9c
     have n1f:RLu w4 (some ⟨b9e,0,none⟩) 1 [(wu32 ((wu64 ((wu64 (r0a*2^min (32:Int).toNat IntKind.u64.bits))+r2a)).fdiv (2^min ((x1.tmod 32):Int).toNat IntKind.u64.bits)))]:=(OW.lit (n0:=0) (n:=1) (xs:=[(wu32 ((wu64 ((wu64 (r0a*2^min (32:Int).toNat IntKind.u64.bits))+r2a)).fdiv (2^min ((x1.tmod 32):Int).toNat IntKind.u64.bits)))]) q0f (Nat.zero_le _) rfl (by decide)).rl
     have ow2f:=((ow2c.ext E7c).ext E8c).ext E9c
     obtain ⟨_,h3f,f4f⟩:=Ab f8e
     have gd536:=AJ h3f
     refine KS CA Ez rfl rfl rfl ow2f n1f gd536 X0d.size fun A5f c6f w5 B539 ow7f=>?_
     refine nrm ?_
     have X8f:=xO X0d B539 (Nat.le_refl _)
     refine sV (Ac rfl) ?_
     refine Ad<|h5c _ _<|Af<|sV (Aa rfl) ?_
     refine sV (Bd (c:=wi64 (v1a+1)) rfl rfl rfl) ?_
     refine sV (Ac rfl) ?_
     refine Ad ?_
     exact ih9d _ _ ⟨(wi64 (v1a+1)),(v3a++([(wu32 ((wu64 ((wu64 (r0a*2^min (32:Int).toNat IntKind.u64.bits))+r2a)).fdiv (2^min ((x1.tmod 32):Int).toNat IntKind.u64.bits)))]:List Int)),A5f,c6f,X8f,(OW.nn ow7f),f4f,(Fr.mk (by kernel_rfl))⟩
    ·have p9f:=zN hz2b e8a
     have f0g:=ifN p9f hr5b
     refine wp_cond_false (Aj (evb rfl e8a))<|wp_exit ?_
     simp only [Exit.then,Exit.inBlock,↓reduceIte,Nat.reduceEqDiff]
     obtain rfl:=sj f0g
     exact ⟨_,rfl,A6a,c7a,X1b,(OW.nn ow2c),(Fr.mk (by kernel_rfl))⟩
  ·rintro _ w1 ⟨A9a,c0b,X1d,ow1g,⟨t3b,rfl⟩⟩ l'' hl
   simp only [gp,Nat.reduceAdd] at hl
   subst hl
   refine h9b _ _<|wp_seq_k fun K2d h2d=>Af<|sV (Aa rfl) ?_
   obtain ⟨r2g,h3g,f4g⟩:=Ab f8d
   refine sc (Ae Oz (by rfl)) (Iy m5a A9a c0b w1 (tbx X1d hT) (OW.rl ow1g) r2g h3g) ?_
   rintro _ w2 E5g ⟨A6g,c7g,rfl,n8g⟩
   refine nrm ?_
   have X9g:=xtr X1d E5g
   refine sV (Ac rfl) ?_
   refine Ad<|h2d _ _<|wp_ret ?_
   obtain rfl:=sj f4g
   exact fin rfl (Res.tmp rfl Res.nil) (Ak X9g ⟨A6g,c7g,rfl,n8g⟩)
theorem Ii (x0:List Int) (A1:Option Addr) (c2:Nat) (w:World) (hT:TB w) (n3:RLu w A1 c2 x0) (r:Bool) (hr:Fo x0=some r) :
  Calls Tryz.prog 208 #[.slice A1 x0.length c2] w (Ret Fy w r):=by
 unfold Fo at hr
 go_enter Tryz.func208,Tryz.ntmps208
 refine wp_seq_k fun K4 h4=>Af<|sV (Ac rfl) ?_
 refine Ad<|h4 _ _<|wp_seq_k fun K5 h5=>Af<|sV (Aa rfl) ?_
 refine sV (AD CA rfl) ?_
 refine sb (IL rfl rfl) fun z6 hz6=>?_
 refine nrm ?_
 refine sV (Aa rfl) ?_
 obtain ⟨m0b,h7a,f1b⟩:=Ab hr
 refine Ca 17 (fun l l' w'=>∃(t3a:Nat→Value),w=w'∧l'=(((((((((((((l.set 7 (t3a 0)).set 8 (t3a 1)).set 9 (t3a 2)).set 10 (t3a 3)).set 11 (t3a 4)).set 12 (t3a 5)).set 13 (t3a 6)).set 14 (t3a 7)).set 15 (t3a 8)).set 16 (t3a 9)).set 17 (t3a 10)).set 18 (t3a 11)).set 19 (.bool m0b))) ?_ ?_
 ·intro HJ54
  rcases bft z6 with e1a | e1a
  ·have p2b:=zP hz6 e1a
   have f3b:=ifP p2b h7a
   refine sV (Aa rfl) ?_ (hw:=wgT rfl e1a)
   refine sV (AD CA rfl) ?_ (hw:=wgT rfl e1a)
   refine sb (Ce rfl rfl) ?_ (hw:=wgT rfl e1a)
   intro z4a hz4a
   refine nrm ?_
   refine sV (Aa rfl) ?_ (hw:=wgT rfl e1a)
   obtain ⟨m8a,h9a,f4b⟩:=Ab f3b
   refine Ca 16 (fun l l' w'=>∃(t2a:Nat→Value),w=w'∧l'=((((((((l.set 11 (t2a 0)).set 12 (t2a 1)).set 13 (t2a 2)).set 14 (t2a 3)).set 15 (t2a 4)).set 16 (t2a 5)).set 17 (t2a 6)).set 18 (.bool m8a))) ?_ ?_
   ·intro HJ81
    rcases bft z4a with e0a | e0a
    ·have p5b:=zP hz4a e0a
     have f6b:=ifP p5b h9a
     refine sP ?_ (hw:=wgF rfl e0a)
     refine sP ?_ (hw:=wgF rfl e0a)
     refine sP ?_ (hw:=wgF rfl e0a)
     refine sP ?_ (hw:=wgF rfl e0a)
     refine sP ?_ (hw:=wgF rfl e0a)
     refine sP ?_ (hw:=wgF rfl e0a)
     refine sP ?_ (hw:=wgF rfl e0a)
     refine sV (AB (evb rfl e0a) rfl) ?_ (hw:=wgT rfl e1a)
     obtain rfl:=sj f6b
     exact HJ81 _ _ ⟨(tk [uu,uu,uu,uu,uu,uu,uu]),(by trivial),(by simp only [S0,S1]<;>rfl)⟩
    ·have p7b:=zN hz4a e0a
     have f8b:=ifN p7b h9a
     refine sV (Aa rfl) ?_ (hw:=wgT rfl e0a)
     refine sV (Aa rfl) ?_ (hw:=wgT rfl e0a)
     refine sV (AD CA rfl) ?_ (hw:=wgT rfl e0a)
     refine sV (Bv (c:=wi64 ((x0.length:Int) - 1)) rfl rfl rfl) ?_ (hw:=wgT rfl e0a)
     obtain ⟨u5a,h9b,f0c⟩:=Ab f8b
     obtain ⟨bb90,oo91,hA1c,ia2c,ib3c,hc93⟩:=RL.nth n3 h9b
     refine sV (Ay CA As rfl rfl hA1c ia2c ib3c) ?_ (hw:=wgT rfl e0a)
     refine sV (Ag AV rfl hc93) ?_ (hw:=wgT rfl e0a)
     refine sb (Ix rfl rfl) ?_ (hw:=wgT rfl e0a)
     intro z6a hz6a
     refine nrm ?_
     refine sV (AF (evb rfl e0a) rfl) ?_ (hw:=wgT rfl e1a)
     obtain rfl:z6a=decide (¬u5a=0):=bz hz6a
     obtain rfl:=sj f0c
     exact HJ81 _ _ ⟨(tk [.slice A1 x0.length c2,.slice A1 x0.length c2,.int .i64 (x0.length:Int),.int .i64 (wi64 ((x0.length:Int) - 1)),.pointer (some ⟨bb90,oo91+((wi64 ((x0.length:Int) - 1)):Int).toNat,none⟩),.int .u32 u5a,.bool (decide (¬u5a=0))]),(by trivial),(by simp only [S0,S1]<;>rfl)⟩
   ·rintro l' _ ⟨t2a,rfl,hq'⟩ l'' hl
    rw [hq'] at hl
    clear hq'
    simp only [S0,S1] at hl
    subst hl
    refine sV (AB (evb rfl e1a) rfl) ?_
    obtain rfl:=sj f4b
    exact HJ54 _ _ ⟨(tk [.slice A1 x0.length c2,.int .i64 (x0.length:Int),.bool z4a,.bool z4a,t2a 0,t2a 1,t2a 2,t2a 3,t2a 4,t2a 5,t2a 6,.bool m8a]),(by trivial),(by simp only [S0,S1]<;>rfl)⟩
  ·have p4c:=zN hz6 e1a
   have f5c:=ifN p4c h7a
   refine sP ?_ (hw:=wgF rfl e1a)
   refine sP ?_ (hw:=wgF rfl e1a)
   refine sP ?_ (hw:=wgF rfl e1a)
   refine sP ?_ (hw:=wgF rfl e1a)
   refine sP ?_
   refine sP ?_
   refine sP ?_
   refine sP ?_
   refine sP ?_
   refine sP ?_
   refine sP ?_
   refine sP ?_ (hw:=wgF rfl e1a)
   refine sV (AF (evb rfl e1a) rfl) ?_
   obtain rfl:=sj f5c
   exact HJ54 _ _ ⟨(tk [uu,uu,uu,uu,uu,uu,uu,uu,uu,uu,uu,uu]),(by trivial),(by simp only [S0,S1]<;>rfl)⟩
 ·rintro l' _ ⟨t3a,rfl,hq'⟩ l'' hl
  rw [hq'] at hl
  clear hq'
  simp only [S0,S1] at hl
  subst hl
  refine sV (Ac rfl) ?_
  refine Ad<|h5 _ _<|wp_ret ?_
  obtain rfl:=sj f1b
  exact fin rfl (Res.tmp rfl Res.nil) (Ak (Ext.refl _) rfl)
end Go.Proofs.Lf

