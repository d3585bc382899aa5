import Derived.Test.YtabiobmfelafoaaGreatDoorLeaf0
namespace Go.Proofs.Lf
set_option linter.unusedVariables false
set_option linter.unusedSimpArgs false
set_option maxHeartbeats 4000000
open Go.RowKit Go.Sb Go.Proofs Go.Proofs.Sbn
set_option maxRecDepth 20000 in
theorem c_wide_digit (x0:List Int) (x1:List Int) (A1:Option Addr) (c2:Nat) (A4:Option Addr) (c5:Nat) (bp0:Nat) (pre ys:List Int) (w:World) (hT:TB w) (q0:WN 179 bp0 pre ys w A1 x0.length c2 x0) (hb0:bp0≠0) (n6:RLu w A4 c5 x1) (ap0:Apart A4 x1 bp0) (r:(Int) × List Int) (hr:Hw x0 x1=some r) :
  Calls Tryz.prog 238 #[.slice A1 x0.length c2,.slice A4 x1.length c5] w (RetW 179 bp0 pre ys x0.length NW w r):=by
 unfold Hw at hr
 refine LQ Tryz.func238 rfl [.slice A1 x0.length c2,.slice A4 x1.length c5,uu,uu,uu,uu,uu,uu,uu,uu,uu,uu,uu,uu,uu,uu,uu,uu,uu,uu,uu,uu,uu,uu,uu,uu,uu,uu,uu,uu,uu,uu,uu,uu,uu,uu,uu,uu,uu,uu,uu,uu,uu,uu,uu,uu,uu,uu,uu,uu,uu,uu,uu,uu,uu,uu,uu,uu,uu,uu,uu,uu,uu,uu,uu,uu,uu,uu,uu,uu,uu,uu,uu,uu,uu,uu,uu,uu,uu,uu,uu,uu,uu,uu,uu,uu,uu,uu,uu,uu,uu,uu,uu,uu,uu,uu,uu,uu,uu,uu,uu,uu,uu,uu,uu,uu,uu,uu,uu,uu,uu,uu,uu,uu,uu,uu,uu,uu,uu,uu,uu,uu,uu,uu,uu,uu,uu,uu,uu,uu,uu,uu,uu,uu,uu,uu,uu,uu,uu,uu,uu,uu,uu,uu,uu,uu,uu,uu,uu,uu,uu,uu,uu,uu,uu,uu,uu,uu,uu,uu,uu,uu,uu,uu,uu,uu,uu,uu,uu,uu,uu,uu,uu,uu,uu] (by kernel_rfl) ?_
 refine wp_seq_k fun K7 h7=>Af<|sV (Ac rfl) ?_
 refine Ad<|h7 _ _<|wp_seq_k fun K8 h8=>Af<|sV (Aa rfl) ?_
 refine sV (AD Ar rfl) ?_
 refine sV (Ac rfl) ?_
 refine Ad<|h8 _ _<|wp_seq_k fun K9 h9=>Ei [] 14 mo rfl fun w1 E9a S8f=>have X6m:=UpdS.ext (UpdS.refl [bp0] w) E9a;dA 0 rfl (fun _=>Aa rfl) ?_
 refine dA 1 rfl (fun _=>Aa rfl) ?_
 obtain ⟨u8b,h7m,f8m⟩:=Ab hr
 obtain ⟨bb16,hA9m,hz4a1,ia0n,ib1n,hc21⟩:=WN.nthc (q0.ext E9a) h7m
 refine dA 2 rfl (fun _=>Ay Ar As rfl rfl hA9m ia0n ib1n) ?_
 refine dV 3 rfl (fun _ hw=>Ag AV rfl (Dd hc21 hw)) S8f ?_
 refine dA 4 rfl (fun _=>AQ (c:=wu64 u8b) AR AO rfl rfl) ?_
 refine dA 5 rfl (fun _=>JI (c:=wu64 ((wu64 u8b)*2^min (32:Int).toNat IntKind.u64.bits)) (by decide) rfl rfl rfl) ?_
 refine dA 6 rfl (fun _=>Aa rfl) ?_
 refine dA 7 rfl (fun _=>Aa rfl) ?_
 refine dA 8 rfl (fun _=>Bv (c:=wi64 ((x1.length:Int) - 1)) rfl rfl rfl) ?_
 obtain ⟨u5c,h2n,f3n⟩:=Ab f8m
 obtain ⟨bb25,hA4n,hz5a1,ia5n,ib6n,hc30⟩:=WN.nthc (q0.ext E9a) h2n
 refine dA 9 rfl (fun _=>Ay Ar As rfl rfl hA4n ia5n ib6n) ?_
 refine dV 10 rfl (fun _ hw=>Ag AV rfl (Dd hc30 hw)) S8f ?_
 refine dA 11 rfl (fun _=>AQ (c:=wu64 u5c) AR AO rfl rfl) ?_
 refine dA 12 rfl (fun _=>Mr rfl rfl) ?_
 refine dA 13 rfl (fun _=>Ac rfl) ?_
 refine CU (by kernel_rfl) ?_
 refine h9 _ _<|wp_seq_k fun K9f h9f=>Ei [] 18 mo rfl fun w2 E2b S0g=>have X7n:=UpdS.ext X6m E2b;dA 0 rfl (fun _=>Aa rfl) ?_
 refine dA 1 rfl (fun _=>Aa rfl) ?_
 refine dA 2 rfl (fun _=>Aa rfl) ?_
 refine dA 3 rfl (fun _=>Bv (c:=wi64 ((x1.length:Int) - 1)) rfl rfl rfl) ?_
 obtain ⟨u0f,h8n,f9n⟩:=Ab f3n
 obtain ⟨bb38,oo39,hA0o,ia1o,ib2o,hc41⟩:=RL.nth ((n6.ext E9a).ext E2b) h8n
 refine dA 4 rfl (fun _=>Ay Ar As rfl rfl hA0o ia1o ib2o) ?_
 refine dV 5 rfl (fun _ hw=>Ag AV rfl (Dd hc41 hw)) S0g ?_
 refine dA 6 rfl (fun _=>AQ (c:=wu64 u0f) AR AO rfl rfl) ?_
 obtain ⟨_,h3o,f4o⟩:=Ab f9n
 have gd46:=AJ h3o
 refine dA 7 rfl (fun _=>HK (c:=wu64 ((bor .u64 (wu64 ((wu64 u8b)*2^min (32:Int).toNat IntKind.u64.bits)) (wu64 u5c)).tdiv (wu64 u0f))) (decide_eq_true gd46) rfl rfl rfl) ?_
 refine dA 8 rfl (fun _=>Aa rfl) ?_
 refine dA 9 rfl (fun _=>Aa rfl) ?_
 refine dA 10 rfl (fun _=>Aa rfl) ?_
 refine dA 11 rfl (fun _=>Bv (c:=wi64 ((x1.length:Int) - 1)) rfl rfl rfl) ?_
 obtain ⟨u1f,h5o,f6o⟩:=Ab f4o
 obtain ⟨bb50,oo51,hA7o,ia8o,ib9o,hc53⟩:=RL.nth ((n6.ext E9a).ext E2b) h5o
 refine dA 12 rfl (fun _=>Ay Ar As rfl rfl hA7o ia8o ib9o) ?_
 refine dV 13 rfl (fun _ hw=>Ag AV rfl (Dd hc53 hw)) S0g ?_
 refine dA 14 rfl (fun _=>AQ (c:=wu64 u1f) AR AO rfl rfl) ?_
 obtain ⟨_,h0p,f1p⟩:=Ab f6o
 have gd58:=AJ h0p
 refine dA 15 rfl (fun _=>JD (c:=(bor .u64 (wu64 ((wu64 u8b)*2^min (32:Int).toNat IntKind.u64.bits)) (wu64 u5c)).tmod (wu64 u1f)) (decide_eq_true gd58) rfl rfl rfl) ?_
 refine dA 16 rfl (fun _=>Ac rfl) ?_
 refine dA 17 rfl (fun _=>Ac rfl) ?_
 refine CU (by kernel_rfl) ?_
 refine h9f _ _<|wp_seq_k fun K1g h1g=>?_
 obtain ⟨m3a,h2p,f3p⟩:=Ab f1p
 refine Di (fun l l' w'=>Ext w2 w'∧Fr l' (fun t0e=>.slice A1 x0.length c2::.slice A4 x1.length c5::gp t0e 2 3 (.int .i64 (x1.length:Int)::gp t0e 6 1 (.int .u64 m3a::gp t0e 8 167 [])))) ?_ ?_
 ·apply wp_block
  refine BA (fun l n2g l' w'=>∃(v7a:Int) (v6a:Int) (t2a:Nat→Value),Ext w2 w'∧EY x0 x1 n2g v7a v6a=some m3a∧Fr l' (fun t6c=>.slice A1 x0.length c2::.slice A4 x1.length c5::gp t6c 2 3 (.int .i64 (x1.length:Int)::gp t6c 6 1 (.int .u64 v7a::.int .u64 v6a::gp t6c 9 43 ((t2a 0)::(t2a 1)::(t2a 2)::(t2a 3)::(t2a 4)::(t2a 5)::(t2a 6)::(t2a 7)::(t2a 8)::(t2a 9)::(t2a 10)::(t2a 11)::(t2a 12)::(t2a 13)::(t2a 14)::(t2a 15)::(t2a 16)::(t2a 17)::gp t6c 70 105 []))))) 18446744073709551616 ?_ ?_ ?_
  ·exact ⟨(wu64 ((bor .u64 (wu64 ((wu64 u8b)*2^min (32:Int).toNat IntKind.u64.bits)) (wu64 u5c)).tdiv (wu64 u0f))),((bor .u64 (wu64 ((wu64 u8b)*2^min (32:Int).toNat IntKind.u64.bits)) (wu64 u5c)).tmod (wu64 u1f)),(tk [uu,uu,uu,uu,uu,uu,uu,uu,uu,uu,uu,uu,uu,uu,uu,uu,uu,uu]),(Ext.refl _),h2p,(Fr.mk (by kernel_rfl))⟩
  ·rintro l' w' ⟨v7a,v6a,t2a,_,hz,_⟩
   exact nomatch hz
  ·rintro n2g ih4p _ w3 ⟨v7a,v6a,t2a,U9b,hr3g,⟨t6c,rfl⟩⟩ l'' hl
   simp only [gp,Nat.reduceAdd] at hl
   subst hl
   unfold EY at hr3g
   refine Bg<|wp_seq_k fun K4g h4g=>wp_seq_k fun K5g h5g=>Ei [] 22 mo rfl fun w4 E0c S6g=>dA 0 rfl (fun _=>Aa rfl) ?_
   refine dab 1 rfl (by kernel_rfl) (fun _ _ _ h=>h) (by rfl) (fun _=>EP rfl rfl) fun z1e hz1e=>?_
   refine dnrm ?_
   refine dA 2 rfl (fun _=>Aa rfl) ?_
   obtain ⟨m7g,h8g,f9g⟩:=Ab hr3g
   refine IP #[true,true,true,true,true,true,true,true,true,true,true,true,true,true,true,true,true,true,true,true,true,true] 0 (fun l l' w'=>∃(t1a:Nat→Value),w4=w'∧l'=(((((((((((((((((((l.set 52 (t1a 0)).set 53 (t1a 1)).set 54 (t1a 2)).set 55 (t1a 3)).set 56 (t1a 4)).set 57 (t1a 5)).set 58 (t1a 6)).set 59 (t1a 7)).set 60 (t1a 8)).set 61 (t1a 9)).set 62 (t1a 10)).set 63 (t1a 11)).set 64 (t1a 12)).set 65 (t1a 13)).set 66 (t1a 14)).set 67 (t1a 15)).set 68 (t1a 16)).set 69 (t1a 17)).set 70 (.bool m7g))) ?_ ?_
   ·intro HJ629
    rcases bft z1e with e0a | e0a
    ·have p5p:=zP hz1e e0a
     have f6p:=ifP p5p h8g
     refine dP 3 rfl ?_ (hw:=wgF rfl e0a)
     refine dP 4 rfl ?_ (hw:=wgF rfl e0a)
     refine dP 5 rfl ?_ (hw:=wgF rfl e0a)
     refine dP 6 rfl ?_ (hw:=wgF rfl e0a)
     refine dP 7 rfl ?_ (hw:=wgF rfl e0a)
     refine dP 8 rfl ?_ (hw:=wgF rfl e0a)
     refine dP 9 rfl ?_ (hw:=wgF rfl e0a)
     refine dP 10 rfl ?_ (hw:=wgF rfl e0a)
     refine dP 11 rfl ?_ (hw:=wgF rfl e0a)
     refine dP 12 rfl ?_ (hw:=wgF rfl e0a)
     refine dP 13 rfl ?_ (hw:=wgF rfl e0a)
     refine dP 14 rfl ?_ (hw:=wgF rfl e0a)
     refine dP 15 rfl ?_ (hw:=wgF rfl e0a)
     refine dP 16 rfl ?_ (hw:=wgF rfl e0a)
     refine dP 17 rfl ?_ (hw:=wgF rfl e0a)
     refine dP 18 rfl ?_ (hw:=wgF rfl e0a)
     refine dP 19 rfl ?_ (hw:=wgF rfl e0a)
     refine dP 20 rfl ?_ (hw:=wgF rfl e0a)
     refine dA 21 rfl (fun _=>AB (evb rfl e0a) rfl) ?_
     obtain rfl:=sj f6p
     exact Et (by kernel_rfl) (HJ629 _ _ ⟨(tk [uu,uu,uu,uu,uu,uu,uu,uu,uu,uu,uu,uu,uu,uu,uu,uu,uu,uu]),(by trivial),(by simp only [S0,S1]<;>rfl)⟩)
    ·have p7p:=zN hz1e e0a
     have f8p:=ifN p7p h8g
     refine dA 3 rfl (fun _=>Aa rfl) ?_ (hw:=wgT rfl e0a)
     refine dA 4 rfl (fun _=>Aa rfl) ?_ (hw:=wgT rfl e0a)
     refine dA 5 rfl (fun _=>Aa rfl) ?_ (hw:=wgT rfl e0a)
     refine dA 6 rfl (fun _=>Bv (c:=wi64 ((x1.length:Int) - 2)) rfl rfl rfl) ?_ (hw:=wgT rfl e0a)
     have n9p:=(((n6.ext E9a).ext E2b).ext U9b).ext E0c
     obtain ⟨u3b,h0q,f1q⟩:=Ab f8p
     obtain ⟨bb639,oo640,hA2q,ia3q,ib4q,hc642⟩:=RL.nth n9p h0q
     refine dA 7 rfl (fun _=>Ay Ar As rfl rfl hA2q ia3q ib4q) ?_ (hw:=wgT rfl e0a)
     refine dV 8 rfl (fun _ hw=>Ag AV rfl (Dd hc642 hw)) S6g ?_ (hw:=wgT rfl e0a)
     refine dA 9 rfl (fun _=>AQ (c:=wu64 u3b) AR AO rfl rfl) ?_ (hw:=wgT rfl e0a)
     refine dA 10 rfl (fun _=>JH (c:=wu64 (v7a*(wu64 u3b))) rfl rfl rfl) ?_ (hw:=wgT rfl e0a)
     refine dA 11 rfl (fun _=>Aa rfl) ?_ (hw:=wgT rfl e0a)
     refine dA 12 rfl (fun _=>JI (c:=wu64 (v6a*2^min (32:Int).toNat IntKind.u64.bits)) (by decide) rfl rfl rfl) ?_ (hw:=wgT rfl e0a)
     refine dA 13 rfl (fun _=>Aa rfl) ?_ (hw:=wgT rfl e0a)
     refine dA 14 rfl (fun _=>Aa rfl) ?_ (hw:=wgT rfl e0a)
     refine dA 15 rfl (fun _=>Bv (c:=wi64 ((x1.length:Int) - 2)) rfl rfl rfl) ?_ (hw:=wgT rfl e0a)
     have ow5q:=(((q0.ext E9a).ext E2b).ext U9b).ext E0c
     obtain ⟨u1c,h6q,f7q⟩:=Ab f1q
     obtain ⟨bb649,hA8q,hz6a1,ia9q,ib0r,hc654⟩:=WN.nthc ow5q h6q
     refine dA 16 rfl (fun _=>Ay Ar As rfl rfl hA8q ia9q ib0r) ?_ (hw:=wgT rfl e0a)
     refine dV 17 rfl (fun _ hw=>Ag AV rfl (Dd hc654 hw)) S6g ?_ (hw:=wgT rfl e0a)
     refine dA 18 rfl (fun _=>AQ (c:=wu64 u1c) AR AO rfl rfl) ?_ (hw:=wgT rfl e0a)
     refine dA 19 rfl (fun _=>Mr rfl rfl) ?_ (hw:=wgT rfl e0a)
     refine dab 20 rfl (by kernel_rfl) (fun _ _ _ h=>h) (wgT rfl e0a) (fun _=>Fs rfl rfl) fun z2f hz2f=>?_
     refine dnrm ?_
     refine dA 21 rfl (fun _=>AF (evb rfl e0a) rfl) ?_
     obtain rfl:z2f=decide ((bor .u64 (wu64 (v6a*2^min (32:Int).toNat IntKind.u64.bits)) (wu64 u1c))<(wu64 (v7a*(wu64 u3b)))):=bz hz2f
     obtain rfl:=sj f7q
     exact Et (by kernel_rfl) (HJ629 _ _ ⟨(tk [.int .u64 v7a,.slice A4 x1.length c5,.int .i64 (x1.length:Int),.int .i64 (wi64 ((x1.length:Int) - 2)),.pointer (some ⟨bb639,oo640+((wi64 ((x1.length:Int) - 2)):Int).toNat,none⟩),.int .u32 u3b,.int .u64 (wu64 u3b),.int .u64 (wu64 (v7a*(wu64 u3b))),.int .u64 v6a,.int .u64 (wu64 (v6a*2^min (32:Int).toNat IntKind.u64.bits)),.slice A1 x0.length c2,.int .i64 (x1.length:Int),.int .i64 (wi64 ((x1.length:Int) - 2)),.pointer (some ⟨bb649,List.length pre+((wi64 ((x1.length:Int) - 2)):Int).toNat,none⟩),.int .u32 u1c,.int .u64 (wu64 u1c),.int .u64 (bor .u64 (wu64 (v6a*2^min (32:Int).toNat IntKind.u64.bits)) (wu64 u1c)),.bool (decide ((bor .u64 (wu64 (v6a*2^min (32:Int).toNat IntKind.u64.bits)) (wu64 u1c))<(wu64 (v7a*(wu64 u3b)))))]),(by trivial),(by simp only [S0,S1]<;>rfl)⟩)
   ·rintro l' _ ⟨t1a,rfl,hq'⟩ l'' hl
    rw [hq'] at hl
    clear hq'
    simp only [S0,S1] at hl
    subst hl
    refine CU (by kernel_rfl) ?_
    refine h5g _ _ ?_
    rcases bft m7g with e7c | e7c
    ·have p1r:=e7c
     have f2r:=ifP p1r f9g
     refine wp_cond_true (Aj (evb rfl e7c))<|wp_skip<|h4g _ _ ?_
     apply wp_block
     refine wp_seq_k fun K0h h0h=>Af<|sV (Aa rfl) ?_
     refine sV (Bv (c:=wu64 (v7a - 1)) rfl rfl rfl) ?_
     refine sV (Ac rfl) ?_
     refine Ad<|h0h _ _<|wp_seq_k fun K1h h1h=>Af<|sV (Aa rfl) ?_
     refine sV (Aa rfl) ?_
     refine sV (Aa rfl) ?_
     refine sV (Bv (c:=wi64 ((x1.length:Int) - 1)) rfl rfl rfl) ?_
     have n3r:=(((n6.ext E9a).ext E2b).ext U9b).ext E0c
     obtain ⟨u3f,h4r,f2h⟩:=Ab f2r
     obtain ⟨bb672,oo673,hA5r,ia6r,ib7r,hc675⟩:=RL.nth n3r h4r
     refine sV (Ay Ar As rfl rfl hA5r ia6r ib7r) ?_
     refine sV (Ag AV rfl hc675) ?_
     refine sV (AQ (c:=wu64 u3f) AR AO rfl rfl) ?_
     refine sV (Bd (c:=wu64 (v6a+(wu64 u3f))) rfl rfl rfl) ?_
     refine sV (Ac rfl) ?_
     refine Ad<|h1h _ _<|wp_seq_k fun K3h h3h=>Af<|sV (Aa rfl) ?_
     refine sb (EP rfl rfl) fun z2e hz2e=>?_
     refine nrm ?_
     refine Ad<|h3h _ _ ?_
     rcases bft z2e with e8c | e8c
     ·have p8r:=zP hz2e e8c
      have f9r:=ifP p8r f2h
      refine wp_cond_true (Aj (evb rfl e8c))<|wp_exit ?_
      simp only [Exit.then,Exit.inBlock,↓reduceIte,Nat.reduceEqDiff]
      obtain rfl:=sj f9r
      exact ⟨_,rfl,(U9b.trans E0c),(Fr.mk (by kernel_rfl))⟩
     ·have p0s:=zN hz2e e8c
      have f1s:=ifN p0s f2h
      refine wp_cond_false (Aj (evb rfl e8c))<|wp_skip ?_
      exact ih4p _ _ ⟨(wu64 (v7a - 1)),(wu64 (v6a+(wu64 u3f))),(tk [t1a 0,t1a 1,t1a 2,t1a 3,t1a 4,t1a 5,t1a 6,t1a 7,t1a 8,t1a 9,t1a 10,t1a 11,t1a 12,t1a 13,t1a 14,t1a 15,t1a 16,t1a 17]),(U9b.trans E0c),f1s,(Fr.mk (by kernel_rfl))⟩
    ·have p2s:=bF e7c
     have f3s:=ifN p2s f9g
     refine wp_cond_false (Aj (evb rfl e7c))<|wp_exit ?_
     simp only [Exit.then,Exit.inBlock,↓reduceIte,Nat.reduceEqDiff]
     obtain rfl:=sj f3s
     exact ⟨_,rfl,(U9b.trans E0c),(Fr.mk (by kernel_rfl))⟩
 ·rintro _ w3 ⟨U4h,⟨t0e,rfl⟩⟩ l'' hl
  simp only [gp,Nat.reduceAdd] at hl
  subst hl
  have X4s:=UpdS.ext X7n U4h
  refine h1g _ _<|wp_seq_k fun K5h h5h=>Af<|sV (Ac rfl) ?_
  refine sV (Ac rfl) ?_
  refine Ad<|h5h _ _<|wp_seq_k fun K6h h6h=>wp_seq_k fun K7h h7h=>Af<|sV (Aa rfl) ?_
  refine sV (AD Ar rfl) ?_
  refine sV (Aa rfl) ?_
  refine Ad<|h7h _ _ ?_
  obtain ⟨m4a,h5s,f6s⟩:=Ab f3p
  refine Di (fun l l' w'=>UpdS [bp0] w w'∧WN 179 bp0 pre ys w' A1 x0.length c2 m4a.2.2∧Fr l' (fun t9c=>.slice A1 x0.length c2::.slice A4 x1.length c5::gp t9c 2 3 (.int .i64 (x1.length:Int)::gp t9c 6 1 (.int .u64 m3a::gp t9c 8 1 (.int .u64 m4a.1::.int .u64 m4a.2.1::gp t9c 11 164 []))))) ?_ ?_
  ·apply wp_block
   refine BA (fun l n8h l' w'=>∃(v1b:Int) (v5a:Int) (v4b:Int) (v0d:List Int),UpdS [bp0] w w'∧WN 179 bp0 pre ys w' A1 x0.length c2 v0d∧Em x0 x1 m3a n8h v1b v5a v4b v0d=some m4a∧Fr l' (fun t2c=>.slice A1 x0.length c2::.slice A4 x1.length c5::gp t2c 2 3 (.int .i64 (x1.length:Int)::gp t2c 6 1 (.int .u64 m3a::gp t2c 8 1 (.int .u64 v1b::.int .u64 v5a::gp t2c 11 72 (.slice A4 x1.length c5::.int .i64 (x1.length:Int)::.int .i64 v4b::gp t2c 86 89 [])))))) 18446744073709551616 ?_ ?_ ?_
   ·have ow7s:=((q0.ext E9a).ext E2b).ext U4h
    exact ⟨0,0,0,x0,X4s,ow7s,h5s,(Fr.mk (by kernel_rfl))⟩
   ·rintro l' w' ⟨v1b,v5a,v4b,v0d,_,_,hz,_⟩
    exact nomatch hz
   ·rintro n8h ih8s _ w4 ⟨v1b,v5a,v4b,v0d,X4f,ow3c,hr5f,⟨t2c,rfl⟩⟩ l'' hl
    simp only [gp,Nat.reduceAdd] at hl
    subst hl
    unfold Em at hr5f
    refine Bg<|wp_seq_k fun K9h h9h=>Af<|sb (Cm rfl rfl) fun z3e hz3e=>?_
    refine nrm ?_
    refine Ad<|h9h _ _<|wp_seq_k fun K0i h0i=>?_
    rcases bft z3e with e1d | e1d
    ·have p9s:=zP hz3e e1d
     have f0t:=ifP p9s hr5f
     refine wp_cond_true (Aj (evb rfl e1d))<|wp_skip<|h0i _ _<|wp_seq_k fun K1i h1i=>?_
     apply wp_block
     refine wp_seq_k fun K2i h2i=>Af<|sV (Aa rfl) ?_
     obtain ⟨u8a,h1t,f2t⟩:=Ab f0t
     obtain ⟨bb1169,oo1170,hA3t,ia4t,ib5t,hc1172⟩:=RL.nth (RL.updW n6 X4f ap0) h1t
     refine sV (Ay Ar As rfl rfl hA3t ia4t ib5t) ?_
     refine sV (Ag AV rfl hc1172) ?_
     refine sV (Ac rfl) ?_
     refine sV (Ac rfl) ?_
     refine Ad<|h2i _ _<|wp_seq_k fun K3i h3i=>Af<|sV (Aa rfl) ?_
     refine sV (Aa rfl) ?_
     refine sV (Aa rfl) ?_
     refine sV (AQ (c:=wu64 u8a) AR AO rfl rfl) ?_
     refine sV (JH (c:=wu64 (m3a*(wu64 u8a))) rfl rfl rfl) ?_
     refine sV (Bd (c:=wu64 (v5a+(wu64 (m3a*(wu64 u8a))))) rfl rfl rfl) ?_
     refine sV (Ac rfl) ?_
     refine Ad<|h3i _ _<|wp_seq_k fun K4i h4i=>Af<|sV (Aa rfl) ?_
     refine sV (AQ (c:=wu32 (wu64 (v5a+(wu64 (m3a*(wu64 u8a)))))) AO AR rfl rfl) ?_
     refine sV (AQ (c:=wu64 (wu32 (wu64 (v5a+(wu64 (m3a*(wu64 u8a))))))) AR AO rfl rfl) ?_
     refine sV (Aa rfl) ?_
     refine sV (Bd (c:=wu64 ((wu64 (wu32 (wu64 (v5a+(wu64 (m3a*(wu64 u8a)))))))+v1b)) rfl rfl rfl) ?_
     refine sV (Ac rfl) ?_
     refine Ad<|h4i _ _<|wp_seq_k fun K5i h5i=>Af<|sV (Aa rfl) ?_
     refine sV (IA (c:=(wu64 (v5a+(wu64 (m3a*(wu64 u8a))))).fdiv (2^min (32:Int).toNat IntKind.u64.bits)) (by decide) rfl rfl rfl) ?_
     refine sV (Ac rfl) ?_
     refine Ad<|h5i _ _<|wp_seq_k fun K6i h6i=>Af<|sV (Ac rfl) ?_
     refine Ad<|h6i _ _<|wp_seq_k fun K7i h7i=>wp_seq_k fun K8i h8i=>Af<|sV (Aa rfl) ?_
     refine sV (Aa rfl) ?_
     obtain ⟨u6t,h7t,f8t⟩:=Ab f2t
     obtain ⟨bb1185,hA9t,hz7a1,ia0u,ib1u,hc1190⟩:=WN.nthc ow3c h7t
     refine sV (Ay Ar As rfl rfl hA9t ia0u ib1u) ?_
     refine sV (Ag AV rfl hc1190) ?_
     refine sV (AQ (c:=wu64 u6t) AR AO rfl rfl) ?_
     refine sV (Aa rfl) ?_
     refine sb (Cm rfl rfl) fun z4e hz4e=>?_
     refine nrm ?_
     refine Ad<|h8i _ _ ?_
     obtain ⟨m9i,h0j,f2u⟩:=Ab f8t
     refine Di (fun l l' w'=>w4=w'∧l'=(l.set 9 (.int .u64 m9i))) ?_ ?_
     ·rcases bft z4e with e2d | e2d
      ·have p3u:=zP hz4e e2d
       have f4u:=ifP p3u h0j
       refine wp_cond_true (Aj (evb rfl e2d))<|Af<|sV (Ac rfl) ?_
       refine Ad ?_
       obtain rfl:=sj f4u
       exact ⟨_,rfl,(by trivial),(by simp only [S0,S1]<;>rfl)⟩
      ·have p5u:=zN hz4e e2d
       have f6u:=ifN p5u h0j
       refine wp_cond_false (Aj (evb rfl e2d))<|wp_skip ?_
       obtain rfl:=sj f6u
       exact ⟨_,rfl,(by trivial),(by simp only [S0,S1]<;>rfl)⟩
     ·rintro l' _ ⟨rfl,hq'⟩ l'' hl
      rw [hq'] at hl
      clear hq'
      simp only [S0,S1] at hl
      subst hl
      refine h7i _ _<|Af<|sV (Aa rfl) ?_
      refine sV (Aa rfl) ?_
      obtain ⟨u1j,h7u,f8u⟩:=Ab f2u
      obtain ⟨bb1211,hA9u,hz8a1,ia0v,ib1v,hc1216⟩:=WN.nthc ow3c h7u
      refine sV (Ay Ar As rfl rfl hA9u ia0v ib1v) ?_
      refine sV (Ag AV rfl hc1216) ?_
      refine sV (Aa rfl) ?_
      refine sV (AQ (c:=wu32 (wu64 ((wu64 (wu32 (wu64 (v5a+(wu64 (m3a*(wu64 u8a)))))))+v1b))) AO AR rfl rfl) ?_
      refine sV (Bv (c:=wu32 (u1j - (wu32 (wu64 ((wu64 (wu32 (wu64 (v5a+(wu64 (m3a*(wu64 u8a)))))))+v1b))))) rfl rfl rfl) ?_
      obtain ⟨u9a1,h2v,f3v⟩:=Ab f8u
      obtain ⟨bb1220,hA2j,hz0a2,ia3j,ib4j,hc1225⟩:=WN.nthc ow3c h2v
      refine sV (Ay Ar As rfl rfl hA2j ia3j ib4j) ?_
      refine Oj As rfl rfl ow3c hA2j ia3j (by rw [WN.len ow3c];exact ib4j) fun w5 U4v ow5v=>?_
      have X6v:=UpdS.tr X4f U4v
      refine Ad<|h1i _ _<|Af<|sV (Bd (c:=wi64 (v4b+1)) rfl rfl rfl) ?_
      refine sV (Aa rfl) ?_
      refine Ad ?_
      exact ih8s _ _ ⟨m9i,((wu64 (v5a+(wu64 (m3a*(wu64 u8a))))).fdiv (2^min (32:Int).toNat IntKind.u64.bits)),(wi64 (v4b+1)),(List.set v0d (v4b:Int).toNat (wu32 (u1j - (wu32 (wu64 ((wu64 (wu32 (wu64 (v5a+(wu64 (m3a*(wu64 u8a)))))))+v1b)))))),X6v,ow5v,f3v,(Fr.mk (by kernel_rfl))⟩
    ·have p7v:=zN hz3e e1d
     have f8v:=ifN p7v hr5f
     refine wp_cond_false (Aj (evb rfl e1d))<|wp_exit ?_
     simp only [Exit.then,Exit.inBlock,↓reduceIte,Nat.reduceEqDiff]
     obtain rfl:=sj f8v
     exact ⟨_,rfl,X4f,ow3c,(Fr.mk (by kernel_rfl))⟩
  ·rintro _ w4 ⟨X9v,ow3d,⟨t9c,rfl⟩⟩ l'' hl
   simp only [gp,Nat.reduceAdd] at hl
   subst hl
   refine h6h _ _<|wp_seq_k fun K5j h5j=>Af<|sV (Aa rfl) ?_
   refine sV (Aa rfl) ?_
   refine sV (Bd (c:=wu64 (m4a.2.1+m4a.1)) rfl rfl rfl) ?_
   refine sV (Ac rfl) ?_
   refine Ad<|h5j _ _<|wp_seq_k fun K6j h6j=>Af<|sV (Aa rfl) ?_
   refine sV (Aa rfl) ?_
   obtain ⟨u0w,h1w,f2w⟩:=Ab f6s
   obtain ⟨bb1235,hA3w,hz1a2,ia4w,ib5w,hc1240⟩:=WN.nthc ow3d h1w
   refine sV (Ay Ar As rfl rfl hA3w ia4w ib5w) ?_
   refine sV (Ag AV rfl hc1240) ?_
   refine sV (AQ (c:=wu64 u0w) AR AO rfl rfl) ?_
   refine sV (Aa rfl) ?_
   refine sb (Cm rfl rfl) fun z5e hz5e=>?_
   refine nrm ?_
   refine sV (Ac rfl) ?_
   refine Ad<|h6j _ _<|wp_seq_k fun K7j h7j=>Af<|sV (Aa rfl) ?_
   refine sV (Aa rfl) ?_
   obtain ⟨u8j,h6w,f7w⟩:=Ab f2w
   obtain ⟨bb1246,hA8w,hz2a2,ia9w,ib0x,hc1251⟩:=WN.nthc ow3d h6w
   refine sV (Ay Ar As rfl rfl hA8w ia9w ib0x) ?_
   refine sV (Ag AV rfl hc1251) ?_
   refine sV (Aa rfl) ?_
   refine sV (AQ (c:=wu32 (wu64 (m4a.2.1+m4a.1))) AO AR rfl rfl) ?_
   refine sV (Bv (c:=wu32 (u8j - (wu32 (wu64 (m4a.2.1+m4a.1))))) rfl rfl rfl) ?_
   obtain ⟨u3a2,h1x,f2x⟩:=Ab f7w
   obtain ⟨bb1255,hA9j,hz4a2,ia0k,ib1k,hc1260⟩:=WN.nthc ow3d h1x
   refine sV (Ay Ar As rfl rfl hA9j ia0k ib1k) ?_
   refine Oj As rfl rfl ow3d hA9j ia0k (by rw [WN.len ow3d];exact ib1k) fun w5 U3x ow2k=>?_
   have X3k:=UpdS.tr X9v U3x
   refine Ad<|h7j _ _<|wp_seq_k fun K4k h4k=>wp_seq_k fun K5k h5k=>Af<|sV (Aa rfl) ?_
   refine Ad<|h5k _ _ ?_
   obtain ⟨m6e,h6k,f4x⟩:=Ab f2x
   refine Di (fun l l' w'=>UpdS [bp0] w w'∧WN 179 bp0 pre ys w' A1 x0.length c2 m6e.2.2∧Fr l' (fun t7e=>gp t7e 0 7 (.int .u64 m6e.1::gp t7e 8 2 (.int .u64 m6e.2.1::gp t7e 11 164 [])))) ?_ ?_
   ·rcases bft z5e with e4d | e4d
    ·have p5x:=zP hz5e e4d
     have f6x:=ifP p5x h6k
     refine wp_cond_true (Aj (evb rfl e4d))<|wp_seq_k fun K7k h7k=>Af<|sV (Aa rfl) ?_
     refine sV (Bv (c:=wu64 (m3a - 1)) rfl rfl rfl) ?_
     refine sV (Ac rfl) ?_
     refine Ad<|h7k _ _<|wp_seq_k fun K8k h8k=>Af<|sV (Ac rfl) ?_
     refine Ad<|h8k _ _<|wp_seq_k fun K9k h9k=>wp_seq_k fun K0l h0l=>Af<|sV (Aa rfl) ?_
     refine sV (AD Ar rfl) ?_
     refine sV (Aa rfl) ?_
     refine Ad<|h0l _ _ ?_
     obtain ⟨m5d,h7x,f8x⟩:=Ab f6x
     refine Di (fun l l' w'=>UpdS [bp0] w w'∧WN 179 bp0 pre ys w' A1 x0.length c2 m5d.2∧Fr l' (fun t6d=>.slice A1 x0.length c2::gp t6d 1 4 (.int .i64 (x1.length:Int)::gp t6d 6 1 (.int .u64 (wu64 (m3a - 1))::gp t6d 8 2 (.int .u64 m5d.1::gp t6d 11 164 []))))) ?_ ?_
     ·apply wp_block
      refine BA (fun l n1l l' w'=>∃(v0b:Int) (v5b:Int) (v7d:List Int),UpdS [bp0] w w'∧WN 179 bp0 pre ys w' A1 x0.length c2 v7d∧Ek x0 x1 n1l v0b v5b v7d=some m5d∧Fr l' (fun t4c=>.slice A1 x0.length c2::gp t4c 1 4 (.int .i64 (x1.length:Int)::gp t4c 6 1 (.int .u64 (wu64 (m3a - 1))::gp t4c 8 2 (.int .u64 v0b::gp t4c 11 129 (.slice A4 x1.length c5::.int .i64 (x1.length:Int)::.int .i64 v5b::gp t4c 143 32 [])))))) 18446744073709551616 ?_ ?_ ?_
      ·exact ⟨0,0,(List.set m4a.2.2 ((x1.length:Int):Int).toNat (wu32 (u8j - (wu32 (wu64 (m4a.2.1+m4a.1)))))),X3k,ow2k,h7x,(Fr.mk (by kernel_rfl))⟩
      ·rintro l' w' ⟨v0b,v5b,v7d,_,_,hz,_⟩
       exact nomatch hz
      ·rintro n1l ih9x _ w6 ⟨v0b,v5b,v7d,X6f,ow8d,hr7f,⟨t4c,rfl⟩⟩ l'' hl
       simp only [gp,Nat.reduceAdd] at hl
       subst hl
       unfold Ek at hr7f
       refine Bg<|wp_seq_k fun K2l h2l=>Af<|sb (Cm rfl rfl) fun z8e hz8e=>?_
       refine nrm ?_
       refine Ad<|h2l _ _<|wp_seq_k fun K3l h3l=>?_
       rcases bft z8e with e9d | e9d
       ·have p0y:=zP hz8e e9d
        have f1y:=ifP p0y hr7f
        refine wp_cond_true (Aj (evb rfl e9d))<|wp_skip<|h3l _ _<|wp_seq_k fun K4l h4l=>?_
        apply wp_block
        refine wp_seq_k fun K5l h5l=>Af<|sV (Aa rfl) ?_
        obtain ⟨u6b,h2y,f3y⟩:=Ab f1y
        obtain ⟨bb1977,oo1978,hA4y,ia5y,ib6y,hc1980⟩:=RL.nth (RL.updW n6 X6f ap0) h2y
        refine sV (Ay Ar As rfl rfl hA4y ia5y ib6y) ?_
        refine sV (Ag AV rfl hc1980) ?_
        refine sV (Ac rfl) ?_
        refine sV (Ac rfl) ?_
        refine Ad<|h5l _ _<|wp_seq_k fun K6l h6l=>Af<|sV (Aa rfl) ?_
        refine sV (Aa rfl) ?_
        refine sV (Aa rfl) ?_
        obtain ⟨u7b,h7y,f8y⟩:=Ab f3y
        obtain ⟨bb1988,hA9y,hz5a2,ia0z,ib1z,hc1993⟩:=WN.nthc ow8d h7y
        refine sV (Ay Ar As rfl rfl hA9y ia0z ib1z) ?_
        refine sV (Ag AV rfl hc1993) ?_
        refine sV (AQ (c:=wu64 u7b) AR AO rfl rfl) ?_
        refine sV (Aa rfl) ?_
        refine sV (AQ (c:=wu64 u6b) AR AO rfl rfl) ?_
        refine sV (Bd (c:=wu64 ((wu64 u7b)+(wu64 u6b))) rfl rfl rfl) ?_
        refine sV (Bd (c:=wu64 (v0b+(wu64 ((wu64 u7b)+(wu64 u6b))))) rfl rfl rfl) ?_
        refine sV (Ac rfl) ?_
        refine Ad<|h6l _ _<|wp_seq_k fun K7l h7l=>Af<|sV (Aa rfl) ?_
        refine sV (Aa rfl) ?_
        refine sV (Aa rfl) ?_
        refine sV (AQ (c:=wu32 (wu64 (v0b+(wu64 ((wu64 u7b)+(wu64 u6b)))))) AO AR rfl rfl) ?_
        obtain ⟨u6a2,h2z,f3z⟩:=Ab f8y
        obtain ⟨bb1998,hA8l,hz7a2,ia9l,ib0m,hc2003⟩:=WN.nthc ow8d h2z
        refine sV (Ay Ar As rfl rfl hA8l ia9l ib0m) ?_
        refine Oj As rfl rfl ow8d hA8l ia9l (by rw [WN.len ow8d];exact ib0m) fun w7 U4z ow5z=>?_
        have X6z:=UpdS.tr X6f U4z
        refine Ad<|h7l _ _<|Af<|sV (Aa rfl) ?_
        refine sV (IA (c:=(wu64 (v0b+(wu64 ((wu64 u7b)+(wu64 u6b))))).fdiv (2^min (32:Int).toNat IntKind.u64.bits)) (by decide) rfl rfl rfl) ?_
        refine sV (Ac rfl) ?_
        refine Ad<|h4l _ _<|Af<|sV (Bd (c:=wi64 (v5b+1)) rfl rfl rfl) ?_
        refine sV (Aa rfl) ?_
        refine Ad ?_
        exact ih9x _ _ ⟨((wu64 (v0b+(wu64 ((wu64 u7b)+(wu64 u6b))))).fdiv (2^min (32:Int).toNat IntKind.u64.bits)),(wi64 (v5b+1)),(List.set v7d (v5b:Int).toNat (wu32 (wu64 (v0b+(wu64 ((wu64 u7b)+(wu64 u6b))))))),X6z,ow5z,f3z,(Fr.mk (by kernel_rfl))⟩
       ·have p7z:=zN hz8e e9d
        have f8z:=ifN p7z hr7f
        refine wp_cond_false (Aj (evb rfl e9d))<|wp_exit ?_
        simp only [Exit.then,Exit.inBlock,↓reduceIte,Nat.reduceEqDiff]
        obtain rfl:=sj f8z
        exact ⟨_,rfl,X6f,ow8d,(Fr.mk (by kernel_rfl))⟩
     ·rintro _ w6 ⟨X9z,ow9e,⟨t6d,rfl⟩⟩ l'' hl
      simp only [gp,Nat.reduceAdd] at hl
      subst hl
      refine h9k _ _<|Af<|sV (Aa rfl) ?_
      refine sV (Aa rfl) ?_
      obtain ⟨u0a0,h1a0,f2a0⟩:=Ab f8x
      obtain ⟨bb2011,hA3a0,hz8a2,ia4a0,ib5a0,hc2016⟩:=WN.nthc ow9e h1a0
      refine sV (Ay Ar As rfl rfl hA3a0 ia4a0 ib5a0) ?_
      refine sV (Ag AV rfl hc2016) ?_
      refine sV (Aa rfl) ?_
      refine sV (AQ (c:=wu32 m5d.1) AO AR rfl rfl) ?_
      refine sV (Bd (c:=wu32 (u0a0+(wu32 m5d.1))) rfl rfl rfl) ?_
      obtain ⟨u9a2,h6a0,f7a0⟩:=Ab f2a0
      obtain ⟨bb2020,hA1m,hz0a3,ia2m,ib3m,hc2025⟩:=WN.nthc ow9e h6a0
      refine sV (Ay Ar As rfl rfl hA1m ia2m ib3m) ?_
      refine Oj As rfl rfl ow9e hA1m ia2m (by rw [WN.len ow9e];exact ib3m) fun w7 U8a0 ow9a0=>?_
      have X0a1:=UpdS.tr X9z U8a0
      refine Ad ?_
      obtain rfl:=sj f7a0
      exact ⟨_,rfl,X0a1,ow9a0,(Fr.mk (by kernel_rfl))⟩
    ·have p1a1:=zN hz5e e4d
     have f2a1:=ifN p1a1 h6k
     refine wp_cond_false (Aj (evb rfl e4d))<|wp_skip ?_
     obtain rfl:=sj f2a1
     exact ⟨_,rfl,X3k,ow2k,(Fr.mk (by kernel_rfl))⟩
   ·rintro _ w6 ⟨X3a1,ow4m,⟨t7e,rfl⟩⟩ l'' hl
    simp only [gp,Nat.reduceAdd] at hl
    subst hl
    refine h4k _ _<|wp_seq_k fun K5m h5m=>Af<|sV (Aa rfl) ?_
    refine sV (AQ (c:=wu32 m6e.1) AO AR rfl rfl) ?_
    refine sV (Ac rfl) ?_
    refine Ad<|h5m _ _<|wp_ret ?_
    obtain rfl:=sj f4x
    exact fin rfl (Res.tmp rfl Res.nil) ⟨X3a1,WN.len ow4m,WN.bx ow4m,_,rfl,rfl⟩
theorem Ht (x0:List Int) (x1:List Int) (A1:Option Addr) (c2:Nat) (A4:Option Addr) (c5:Nat) (w:World) (hT:TB w) (n3:RLu w A1 c2 x0) (n6:RLu w A4 c5 x1) (r:List Int × List Int) (hr:CN x0 x1=some r) :
  Calls Tryz.prog 186 #[.slice A1 x0.length c2,.slice A4 x1.length c5] w (Ret KG w r):=by
 unfold CN at hr
 go_enter Tryz.func186,Tryz.ntmps186
 refine wp_seq_k fun K7 h7=>Af<|sV (Ac rfl) ?_
 refine sV (Ac rfl) ?_
 refine Ad<|h7 _ _<|wp_seq_k fun K8 h8=>wp_seq_k fun K9 h9=>Af<|sV (Aa rfl) ?_
 refine sV (Aa rfl) ?_
 obtain ⟨r3b,h0c,f1c⟩:=Ab hr
 refine sc (Ae Mc (by rfl)) (FK x0 x1 A1 c2 A4 c5 w hT n3 n6 r3b h0c) ?_
 rintro _ w1 E2a rfl
 refine nrm ?_
 refine sb (Cm rfl rfl) fun z4b hz4b=>?_
 refine nrm ?_
 refine Ad<|h9 _ _ ?_
 rcases bft z4b with e6a | e6a
 ·have p6h:=zP hz4b e6a
  have f7h:=ifP p6h f1c
  refine wp_cond_true (Aj (evb rfl e6a))<|wp_seq_k fun K7d h7d=>Af<|sV (Aa rfl) ?_
  refine sV (Ac rfl) ?_
  refine sV (Ac rfl) ?_
  refine Ad<|h7d _ _<|wp_ret ?_
  obtain rfl:=sj f7h
  exact fin rfl (Res.tmp rfl (Res.tmp rfl Res.nil)) (Ak E2a ⟨none,0,A1,c2,rfl,(RL.nil _ _ _),(n3.ext E2a)⟩)
 ·have p8h:=zN hz4b e6a
  have f8d:=ifN p8h f1c
  refine wp_cond_false (Aj (evb rfl e6a))<|wp_skip<|h8 _ _<|wp_seq_k fun K9d h9d=>wp_seq_k fun K0e h0e=>Af<|sV (Aa rfl) ?_
  refine sV (AD Ar rfl) ?_
  refine sb (Ce rfl rfl) fun z5b hz5b=>?_
  refine nrm ?_
  refine Ad<|h0e _ _ ?_
  rcases bft z5b with e7a | e7a
  ·have p9h:=zP hz5b e7a
   have f0i:=ifP p9h f8d
   refine wp_cond_true (Aj (evb rfl e7a))<|wp_seq_k fun K1e h1e=>Af<|sV (Aa rfl) ?_
   refine sV (Aa rfl) ?_
   obtain ⟨u1i,h2i,f3i⟩:=Ab f0i
   obtain ⟨bb545,oo546,hA4i,ia5i,ib6i,hc548⟩:=RL.nth (n6.ext E2a) h2i
   refine sV (Ay Ar As rfl rfl hA4i ia5i ib6i) ?_
   refine sV (Ag AV rfl hc548) ?_
   obtain ⟨r7i,h8i,f9i⟩:=Ab f3i
   refine sc (Ae en_237 (by rfl)) (c_wide_Nat_short x0 u1i A1 c2 w1 (tbx E2a hT) (n3.ext E2a) r7i h8i) ?_
   rintro _ w2 E0j ⟨A1j,c2j,A3j,c4j,rfl,n5j,n6j⟩
   refine nrm ?_
   have X7j:=xtr E2a E0j
   refine sV (Ap rfl rfl) ?_
   refine sV (Ap rfl rfl) ?_
   refine sV (Ac rfl) ?_
   refine sV (Ac rfl) ?_
   refine Ad<|h1e _ _<|wp_ret ?_
   obtain rfl:=sj f9i
   exact fin rfl (Res.tmp rfl (Res.tmp rfl Res.nil)) (Ak X7j ⟨A1j,c2j,A3j,c4j,rfl,n5j,n6j⟩)
  ·have p8j:=zN hz5b e7a
   have f9j:=ifN p8j f8d
   refine wp_cond_false (Aj (evb rfl e7a))<|wp_skip<|h9d _ _<|wp_seq_k fun K2e h2e=>Af<|sV (Aa rfl) ?_
   refine sV (Aa rfl) ?_
   refine sV (AD Ar rfl) ?_
   refine sV (Bv (c:=wi64 ((x1.length:Int) - 1)) rfl rfl rfl) ?_
   obtain ⟨u0k,h1k,f64⟩:=Ab f9j
   obtain ⟨bb65,oo66,hA2k,ia3k,ib4k,hc68⟩:=RL.nth (n6.ext E2a) h1k
   refine sV (Ay Ar As rfl rfl hA2k ia3k ib4k) ?_
   refine sV (Ag AV rfl hc68) ?_
   obtain ⟨r5a,h5k,f6k⟩:=Ab f64
   refine sc (Ae Nq (by rfl)) (ET u0k w1 (tbx E2a hT)  r5a h5k) ?_
   rintro _ w2 E7k rfl
   refine nrm ?_
   have X2c:=xtr E2a E7k
   refine sV (Ac rfl) ?_
   refine Ad<|h2e _ _<|wp_seq_k fun K3e h3e=>Af<|sV (Aa rfl) ?_
   refine sV (Aa rfl) ?_
   obtain ⟨r0a,h8k,f9k⟩:=Ab f6k
   refine sc (Ae Jz (by rfl)) (Db x1 r5a A4 c5 w2 (tbx X2c hT) (n6.ext X2c) r0a h8k) ?_
   rintro _ w3 E0l ⟨A4e,c5e,rfl,n6e⟩
   refine nrm ?_
   have X6b:=xtr X2c E0l
   refine sV (Ac rfl) ?_
   refine Ad<|h3e _ _<|wp_seq_k fun K7e h7e=>Af<|sV (Aa rfl) ?_
   refine sV (AD Ar rfl) ?_
   refine sV (Bd (c:=wi64 ((x0.length:Int)+1)) rfl rfl rfl) ?_
   obtain ⟨_,h1l,f2l⟩:=Ab f9k
   have gd89:=AJ h1l
   refine Iv Ar Ez rfl rfl gd89 fun A7b w4 E8e ow3l=>?_
   refine nrm ?_
   have X3c:=xtr X6b E8e
   refine sV (Ac rfl) ?_
   refine Ad<|h7e _ _<|wp_seq_k fun K9e h9e=>Af<|sV (Aa rfl) ?_
   refine sV (Aa rfl) ?_
   refine sV (Aa rfl) ?_
   obtain ⟨r4c,h4l,f5l⟩:=Ab f2l
   refine sc (Ae Jz (by rfl)) (Db x0 r5a A1 c2 w4 (tbx X3c hT) (n3.ext X3c) r4c h4l) ?_
   rintro _ w5 E5c ⟨A3r,c4r,rfl,n6l⟩
   refine nrm ?_
   have X7l:=xtr X3c E5c
   have X8l:=xtr E8e E5c
   refine ON Ar As rfl rfl (ow3l.ext E5c) n6l fun w6 B105 ow0f=>?_
   refine nrm ?_
   have X1f:=xO X7l B105 X6b.size
   have X2f:=xO X8l B105 (Nat.le_refl _)
   refine Ad<|h9e _ _<|wp_seq_k fun K3f h3f=>Af<|sV (Aa rfl) ?_
   refine sV (AD Ar rfl) ?_
   refine sV (Ac rfl) ?_
   refine Ad<|h3f _ _<|wp_seq_k fun K4f h4f=>Af<|sV (Aa rfl) ?_
   refine sV (AD Ar rfl) ?_
   refine sV (Aa rfl) ?_
   refine sV (Bv (c:=wi64 ((((((wi64 ((x0.length:Int)+1)):Int).toNat):Nat):Int) - (r0a.length:Int))) rfl rfl rfl) ?_
   obtain ⟨_,h9l,f0m⟩:=Ab f5l
   have gd117:=AJ h9l
   have hl118:=OW.lt ow0f
   refine Iv Ar Ez rfl rfl gd117 fun A8a w7 E6c ow1m=>?_
   refine nrm ?_
   have X2m:=xtr X1f E6c
   have X3m:=xtr X2f E6c
   refine sV (Ac rfl) ?_
   refine Ad<|h4f _ _<|wp_seq_k fun K5f h5f=>wp_seq_k fun K6f h6f=>Af<|sV (Aa rfl) ?_
   refine sV (AD Ar rfl) ?_
   refine sV (Aa rfl) ?_
   refine sV (Bv (c:=wi64 ((((((wi64 ((x0.length:Int)+1)):Int).toNat):Nat):Int) - (r0a.length:Int))) rfl rfl rfl) ?_
   refine sV (Bv (c:=wi64 ((wi64 ((((((wi64 ((x0.length:Int)+1)):Int).toNat):Nat):Int) - (r0a.length:Int))) - 1)) rfl rfl rfl) ?_
   refine sV (Ac rfl) ?_
   refine Ad<|h6f _ _ ?_
   obtain ⟨m9a,h4m,f5m⟩:=Ab f0m
   refine Di (fun l l' w'=>Ext w w'∧Ext w3 w'∧OW 179 w6.heap.size w' A8a (((wi64 ((((((wi64 ((x0.length:Int)+1)):Int).toNat):Nat):Int) - (r0a.length:Int))):Int).toNat) (((wi64 ((((((wi64 ((x0.length:Int)+1)):Int).toNat):Nat):Int) - (r0a.length:Int))):Int).toNat) m9a.1∧OW 179 w3.heap.size w' A7b (((wi64 ((x0.length:Int)+1)):Int).toNat) (((wi64 ((x0.length:Int)+1)):Int).toNat) m9a.2∧Fr l' (fun t8b=>gp t8b 0 6 (.int .i64 r5a::gp t8b 7 1 (.slice A7b (((wi64 ((x0.length:Int)+1)):Int).toNat) (((wi64 ((x0.length:Int)+1)):Int).toNat)::.int .i64 (r0a.length:Int)::.slice A8a (((wi64 ((((((wi64 ((x0.length:Int)+1)):Int).toNat):Nat):Int) - (r0a.length:Int))):Int).toNat) (((wi64 ((((((wi64 ((x0.length:Int)+1)):Int).toNat):Nat):Int) - (r0a.length:Int))):Int).toNat)::gp t8b 11 71 [])))) ?_ ?_
   ·apply wp_block
    refine BA (fun l n7f l' w'=>∃(v1a:Int) (v0b:List Int) (v3a:List Int),Ext w w'∧Ext w3 w'∧OW 179 w6.heap.size w' A8a (((wi64 ((((((wi64 ((x0.length:Int)+1)):Int).toNat):Nat):Int) - (r0a.length:Int))):Int).toNat) (((wi64 ((((((wi64 ((x0.length:Int)+1)):Int).toNat):Nat):Int) - (r0a.length:Int))):Int).toNat) v0b∧OW 179 w3.heap.size w' A7b (((wi64 ((x0.length:Int)+1)):Int).toNat) (((wi64 ((x0.length:Int)+1)):Int).toNat) v3a∧DX x0 x1 r0a n7f v1a v0b v3a=some m9a∧Fr l' (fun t7c=>gp t7c 0 6 (.int .i64 r5a::.slice A4e r0a.length c5e::.slice A7b (((wi64 ((x0.length:Int)+1)):Int).toNat) (((wi64 ((x0.length:Int)+1)):Int).toNat)::.int .i64 (r0a.length:Int)::.slice A8a (((wi64 ((((((wi64 ((x0.length:Int)+1)):Int).toNat):Nat):Int) - (r0a.length:Int))):Int).toNat) (((wi64 ((((((wi64 ((x0.length:Int)+1)):Int).toNat):Nat):Int) - (r0a.length:Int))):Int).toNat)::.int .i64 v1a::gp t7c 12 70 []))) 18446744073709551616 ?_ ?_ ?_
    ·exact ⟨(wi64 ((wi64 ((((((wi64 ((x0.length:Int)+1)):Int).toNat):Nat):Int) - (r0a.length:Int))) - 1)),(List.replicate ((wi64 ((((((wi64 ((x0.length:Int)+1)):Int).toNat):Nat):Int) - (r0a.length:Int))):Int).toNat (0:Int)),((r4c).take (List.length (List.replicate ((wi64 ((x0.length:Int)+1)):Int).toNat (0:Int)))++(List.replicate ((wi64 ((x0.length:Int)+1)):Int).toNat (0:Int)).drop r4c.length),X2m,X3m,ow1m,(ow0f.ext E6c),h4m,(Fr.mk (by kernel_rfl))⟩
    ·rintro l' w' ⟨v1a,v0b,v3a,_,_,_,_,hz,_⟩
     exact nomatch hz
    ·rintro n7f ih6m _ w8 ⟨v1a,v0b,v3a,X8c,X9c,ow8f,ow4a,hr0d,⟨t7c,rfl⟩⟩ l'' hl
     simp only [gp,Nat.reduceAdd] at hl
     subst hl
     unfold DX at hr0d
     refine Bg<|wp_seq_k fun K9f h9f=>wp_seq_k fun K0g h0g=>Af<|sV (Aa rfl) ?_
     refine sb (EP rfl rfl) fun z9b hz9b=>?_
     refine nrm ?_
     refine Ad<|h0g _ _ ?_
     rcases bft z9b with e1b | e1b
     ·have p7m:=zP hz9b e1b
      have f8m:=ifP p7m hr0d
      refine wp_cond_true (Aj (evb rfl e1b))<|wp_skip<|h9f _ _<|wp_seq_k fun K1g h1g=>?_
      apply wp_block
      refine Af<|sV (Aa rfl) ?_
      refine sV (Aa rfl) ?_
      refine sV (Aa rfl) ?_
      refine sV (Aa rfl) ?_
      refine sV (Aa rfl) ?_
      refine sV (Aa rfl) ?_
      refine sV (Bd (c:=wi64 (v1a+(r0a.length:Int))) rfl rfl rfl) ?_
      refine sV (Bd (c:=wi64 ((wi64 (v1a+(r0a.length:Int)))+1)) rfl rfl rfl) ?_
      obtain ⟨_,h9m,f0n⟩:=Ab f8m
      have gd465:=AJ h9m
      obtain ⟨b2g,ys467,hA3g,hz1n,g1d,q4g,bk472⟩:=OW.win (lo:=(v1a:Int).toNat) (hi:=((wi64 ((wi64 (v1a+(r0a.length:Int)))+1)):Int).toNat) ow4a (by omega) (by rw [←OW.len ow4a];omega)
      refine swin (lo:=(v1a:Int).toNat) (hi:=((wi64 ((wi64 (v1a+(r0a.length:Int)))+1)):Int).toNat) Ar As rfl ⟨.i64,by rw [Int.toNat_of_nonneg (a:=v1a) (by omega)];rfl⟩ ⟨.i64,by rw [Int.toNat_of_nonneg (a:=(wi64 ((wi64 (v1a+(r0a.length:Int)))+1))) (by omega)];rfl⟩ (by omega) (by rw [←OW.len ow4a];omega) ow4a hA3g ?_
      refine nrm ?_
      refine sV (Aa rfl) ?_
      obtain ⟨r2d,h2n,f3n⟩:=Ab f0n
      refine scK (Ae en_238 (by rfl)) (c_wide_digit ((List.drop ((v1a:Int).toNat) v3a).take ((((wi64 ((wi64 (v1a+(r0a.length:Int)))+1)):Int).toNat) - ((v1a:Int).toNat))) r0a (some ⟨b2g,List.length ((v3a).take ((v1a:Int).toNat)),none⟩) ((((wi64 ((x0.length:Int)+1)):Int).toNat) - ((v1a:Int).toNat)) A4e c5e b2g ((v3a).take ((v1a:Int).toNat)) ys467 w8 (tbx X8c hT) ⟨rfl,rfl,q4g,by have:=OW.cap ow4a;simp only [List.length_take,List.length_drop];omega,by have:=(OW.rl ow4a).2.1;omega⟩  (TB.nz (tbx X6b hT) g1d) (n6e.ext X9c) (apartB n6e g1d) r2d h2n) ?_
      rintro _ w9 ⟨U5g,hl478,q4n,_,rfl,rfl⟩
      refine ⟨_,rfl,?_⟩
      refine nrm ?_
      have B480:=UpdS.below U5g g1d q4g.lt
      have ow5n:=bk472 _ _ (by rw [hl478];simp only [List.length_take,List.length_drop];omega) q4n
      have X6n:=xO X8c B480 X6b.size
      have X7n:=xO X9c B480 (Nat.le_refl _)
      have ow3d:=OW.updO ow8f U5g (hl118 _ hA3g hz1n)
      obtain ⟨u5r,h8n,f9n⟩:=Ab f3n
      obtain ⟨bb488,hA6g,hz6r,ia7g,ib8g,hc493⟩:=OW.nthc ow3d h8n
      refine sV (Ay Ar As rfl rfl hA6g ia7g ib8g) ?_
      refine Mp As rfl rfl ow3d hA6g ia7g (by rw [OW.len ow3d];exact ib8g) fun w3b B494 U7r ow0o=>?_
      have X1o:=xO X6n B494 X1f.size
      have X2o:=xO X7n B494 X2f.size
      have ow3o:=OW.bel2 ow5n B494 hl118
      refine Ad<|h1g _ _<|Af<|sV (Aa rfl) ?_
      refine sV (Bv (c:=wi64 (v1a - 1)) rfl rfl rfl) ?_
      refine sV (Ac rfl) ?_
      refine Ad ?_
      exact ih6m _ _ ⟨(wi64 (v1a - 1)),(List.set v0b (v1a:Int).toNat r2d.1),(((v3a).take ((v1a:Int).toNat))++r2d.2++((v3a).drop (((wi64 ((wi64 (v1a+(r0a.length:Int)))+1)):Int).toNat))),X1o,X2o,ow0o,ow3o,f9n,(Fr.mk (by kernel_rfl))⟩
     ·have p4o:=zN hz9b e1b
      have f5o:=ifN p4o hr0d
      refine wp_cond_false (Aj (evb rfl e1b))<|wp_exit ?_
      simp only [Exit.then,Exit.inBlock,↓reduceIte,Nat.reduceEqDiff]
      obtain rfl:=sj f5o
      exact ⟨_,rfl,X8c,X9c,ow8f,ow4a,(Fr.mk (by kernel_rfl))⟩
   ·rintro _ w8 ⟨X6o,X8r,ow9g,ow0h,⟨t8b,rfl⟩⟩ l'' hl
    simp only [gp,Nat.reduceAdd] at hl
    subst hl
    refine h5f _ _<|wp_seq_k fun K1h h1h=>Ei [] 10 mo rfl fun w9 E2b S7o=>have X2h:=xtr X6o E2b;dA 0 rfl (fun _=>Aa rfl) ?_
    refine dA 2 rfl (fun _=>Aa rfl) ?_
    refine dA 3 rfl (fun _=>Aa rfl) ?_
    obtain ⟨_,h8o,f9o⟩:=Ab f5m
    have gd507:=AJ h8o
    refine dslice 4 rfl (lo:=0) (hi:=((r0a.length:Int):Int).toNat) Ar As (by rw [OW.len (ow0h.ext E2b)];rfl) rfl ⟨.i64,by rw [Int.toNat_of_nonneg (a:=(r0a.length:Int)) (by omega)];rfl⟩ (by omega) (by omega) (OW.rl (ow0h.ext E2b)) fun A0p c1p n2p=>?_
    refine dnrm ?_
    refine dA 6 rfl (fun _=>Aa rfl) ?_
    obtain ⟨r3p,h4p,f5p⟩:=Ab f9o
    refine dc 1 rfl (by kernel_rfl) (by rfl) (Ae Ju (by simp only [OW.len (ow9g.ext E2b)];rfl)) (Dm m9a.1 A8a (((wi64 ((((((wi64 ((x0.length:Int)+1)):Int).toNat):Nat):Int) - (r0a.length:Int))):Int).toNat) w9 (tbx X2h hT) (OW.rl (ow9g.ext E2b)) r3p h4p) ?_
    rintro _ w3b E4d ⟨A6p,c7p,rfl,n8p⟩
    refine dnrm ?_
    have X3h:=xtr X2h E4d
    have S9p:=S7o.trans E4d
    obtain ⟨r4h,h0q,f1q⟩:=Ab f5p
    refine dc 5 rfl (by kernel_rfl) (by rfl) (Ae Ju (by rfl)) (Dm ((List.drop 0 m9a.2).take ((((r0a.length:Int):Int).toNat) - 0)) A0p c1p w3b (tbx X3h hT) (n2p.ext E4d) r4h h0q) ?_
    rintro _ w0c E5d ⟨A2q,c3q,rfl,n4q⟩
    refine dnrm ?_
    have X5h:=xtr X3h E5d
    have S5q:=S9p.trans E5d
    obtain ⟨r6q,h7q,f8q⟩:=Ab f1q
    refine dc 7 rfl (by kernel_rfl) (by rfl) (Ae Mj (by rfl)) (FT r4h r5a A2q c3q w0c (tbx X5h hT) n4q r6q h7q) ?_
    rintro _ w1c E6d ⟨A9q,c0r,rfl,n1r⟩
    refine dnrm ?_
    have X2r:=xtr X5h E6d
    have S9r:=S5q.trans E6d
    refine dA 8 rfl (fun _=>Ac rfl) ?_
    refine dA 9 rfl (fun _=>Ac rfl) ?_
    refine CU (by kernel_rfl) ?_
    refine h1h _ _<|wp_ret ?_
    obtain rfl:=sj f8q
    exact fin rfl (Res.tmp rfl (Res.tmp rfl Res.nil)) (Ak X2r ⟨A6p,c7p,A9q,c0r,rfl,((n8p.ext E5d).ext E6d),n1r⟩)
end Go.Proofs.Lf

