import Derived.Test.YtabiobmfelafoaaGreatDoorLeaf0
namespace Go.Proofs.Lf
set_option linter.unusedVariables false
set_option linter.unusedSimpArgs false
set_option maxHeartbeats 4000000
open Go.RowKit Go.Sb Go.Proofs Go.Proofs.Sbn
set_option maxRecDepth 20000 in
theorem c_wide_digit (x0:List Int) (x1:List Int) (A1:Option Addr) (c2:Nat) (A4:Option Addr) (c5:Nat) (bp0:Nat) (pre ys:List Int) (w:World) (hT:TB w) (q0:WN 179 bp0 pre ys w A1 x0.length c2 x0) (hb0:bp0≠0) (n6:RLu w A4 c5 x1) (ap0:Apart A4 x1 bp0) (r:(Int) × List Int) (hr:Ix x0 x1=some r) :
  Calls Tryz.prog 238 #[.slice A1 x0.length c2,.slice A4 x1.length c5] w (RetW 179 bp0 pre ys x0.length Py w r):=by
 unfold Ix at hr
 refine Mp Tryz.func238 rfl [.slice A1 x0.length c2,.slice A4 x1.length c5,uu,uu,uu,uu,uu,uu,uu,uu,uu,uu,uu,uu,uu,uu,uu,uu,uu,uu,uu,uu,uu,uu,uu,uu,uu,uu,uu,uu,uu,uu,uu,uu,uu,uu,uu,uu,uu,uu,uu,uu,uu,uu,uu,uu,uu,uu,uu,uu,uu,uu,uu,uu,uu,uu,uu,uu,uu,uu,uu,uu,uu,uu,uu,uu,uu,uu,uu,uu,uu,uu,uu,uu,uu,uu,uu,uu,uu,uu,uu,uu,uu,uu,uu,uu,uu,uu,uu,uu,uu,uu,uu,uu,uu,uu,uu,uu,uu,uu,uu,uu,uu,uu,uu,uu,uu,uu,uu,uu,uu,uu,uu,uu,uu,uu,uu,uu,uu,uu,uu,uu,uu,uu,uu,uu,uu,uu,uu,uu,uu,uu,uu,uu,uu,uu,uu,uu,uu,uu,uu,uu,uu,uu,uu,uu,uu,uu,uu,uu,uu,uu,uu,uu,uu,uu,uu,uu,uu,uu,uu,uu,uu,uu,uu,uu,uu,uu,uu,uu,uu,uu,uu,uu,uu] (by kernel_rfl) ?_
 refine wp_seq_k fun _ h7=>Ae<|sV (Ac rfl) ?_
 refine wh h7<|wp_seq_k fun _ h8=>Ae<|sV3 (Aa rfl) (Ax Aq rfl) (Ac rfl) ?_
 refine wh h8<|wp_seq_k fun _ h9=>Dn [] 14 mo rfl fun w1 E9a S0f=>have X4i:=UpdS.ext (UpdS.refl [bp0] w) E9a;dA 0 rfl (fun _=>Aa rfl) ?_
 refine dA 1 rfl (fun _=>Aa rfl) ?_
 obtain ⟨u8b,h5i,f6i⟩:=Ab hr
 obtain ⟨bb16,hA7i,hz0a0,ia8i,ib9i,hc21⟩:=WN.nthc (q0.ext E9a) h5i
 refine dA 2 rfl (fun _=>As Aq An rfl rfl hA7i ia8i ib9i) ?_
 refine dV 3 rfl (fun _ hw=>Af AQ rfl (CA hc21 hw)) S0f ?_
 refine dA 4 rfl (fun _=>AE (c:=wu64 u8b) AF AD rfl rfl) ?_
 refine dA 5 rfl (fun _=>JF (c:=wu64 ((wu64 u8b)*2^min (32:Int).toNat IntKind.u64.bits)) (by decide) rfl rfl rfl) ?_
 refine dA 6 rfl (fun _=>Aa rfl) ?_
 refine dA 7 rfl (fun _=>Aa rfl) ?_
 refine dA 8 rfl (fun _=>Ba (c:=wi64 ((x1.length:Int) - 1)) rfl rfl rfl) ?_
 obtain ⟨u5c,h0j,f1j⟩:=Ab f6i
 obtain ⟨bb25,hA2j,hz1a0,ia3j,ib4j,hc30⟩:=WN.nthc (q0.ext E9a) h0j
 refine dA 9 rfl (fun _=>As Aq An rfl rfl hA2j ia3j ib4j) ?_
 refine dV 10 rfl (fun _ hw=>Af AQ rfl (CA hc30 hw)) S0f ?_
 refine dA 11 rfl (fun _=>AE (c:=wu64 u5c) AF AD rfl rfl) ?_
 refine dA 12 rfl (fun _=>Nt rfl rfl) ?_
 refine dA 13 rfl (fun _=>Ac rfl) ?_
 refine Cn (by kernel_rfl) ?_
 refine h9 _ _<|wp_seq_k fun _ h5j=>Dn [] 18 mo rfl fun w2 E2b S1f=>have X6j:=UpdS.ext X4i E2b;dA 0 rfl (fun _=>Aa rfl) ?_
 refine dA 1 rfl (fun _=>Aa rfl) ?_
 refine dA 2 rfl (fun _=>Aa rfl) ?_
 refine dA 3 rfl (fun _=>Ba (c:=wi64 ((x1.length:Int) - 1)) rfl rfl rfl) ?_
 obtain ⟨u8d,h7j,f8j⟩:=Ab f1j
 obtain ⟨bb38,oo39,hA9j,ia0k,ib1k,hc41⟩:=RL.nth ((n6.ext E9a).ext E2b) h7j
 refine dA 4 rfl (fun _=>As Aq An rfl rfl hA9j ia0k ib1k) ?_
 refine dV 5 rfl (fun _ hw=>Af AQ rfl (CA hc41 hw)) S1f ?_
 refine dA 6 rfl (fun _=>AE (c:=wu64 u8d) AF AD rfl rfl) ?_
 obtain ⟨_,h2k,f3k⟩:=Ab f8j
 have gd46:=Az h2k
 refine dA 7 rfl (fun _=>Hj (c:=wu64 ((bor .u64 (wu64 ((wu64 u8b)*2^min (32:Int).toNat IntKind.u64.bits)) (wu64 u5c)).tdiv (wu64 u8d))) (decide_eq_true gd46) rfl rfl rfl) ?_
 refine dA 8 rfl (fun _=>Aa rfl) ?_
 refine dA 9 rfl (fun _=>Aa rfl) ?_
 refine dA 10 rfl (fun _=>Aa rfl) ?_
 refine dA 11 rfl (fun _=>Ba (c:=wi64 ((x1.length:Int) - 1)) rfl rfl rfl) ?_
 obtain ⟨u9d,h4k,f5k⟩:=Ab f3k
 obtain ⟨bb50,oo51,hA6k,ia7k,ib8k,hc53⟩:=RL.nth ((n6.ext E9a).ext E2b) h4k
 refine dA 12 rfl (fun _=>As Aq An rfl rfl hA6k ia7k ib8k) ?_
 refine dV 13 rfl (fun _ hw=>Af AQ rfl (CA hc53 hw)) S1f ?_
 refine dA 14 rfl (fun _=>AE (c:=wu64 u9d) AF AD rfl rfl) ?_
 obtain ⟨_,h9k,f0l⟩:=Ab f5k
 have gd58:=Az h9k
 refine dA 15 rfl (fun _=>Jr (c:=(bor .u64 (wu64 ((wu64 u8b)*2^min (32:Int).toNat IntKind.u64.bits)) (wu64 u5c)).tmod (wu64 u9d)) (decide_eq_true gd58) rfl rfl rfl) ?_
 refine dA 16 rfl (fun _=>Ac rfl) ?_
 refine dA 17 rfl (fun _=>Ac rfl) ?_
 refine Cn (by kernel_rfl) ?_
 refine h5j _ _<|wp_seq_k fun _ h1l=>?_
 obtain ⟨m3a,h2l,f3l⟩:=Ab f0l
 refine BX (fun l l' w'=>Ext w2 w'∧Fr l' (fun t4d=>.slice A1 x0.length c2::.slice A4 x1.length c5::gp t4d 2 3 (.int .i64 (x1.length:Int)::gp t4d 6 1 (.int .u64 m3a::gp t4d 8 167 [])))) ?_ ?_
 ·apply wp_block
  refine AP (fun l n2f l' w'=>∃(v7a:Int) (v6a:Int) (t2a:Nat→Value),Ext w2 w'∧FU x0 x1 n2f v7a v6a=some m3a∧Fr l' (fun t6c=>.slice A1 x0.length c2::.slice A4 x1.length c5::gp t6c 2 3 (.int .i64 (x1.length:Int)::gp t6c 6 1 (.int .u64 v7a::.int .u64 v6a::gp t6c 9 43 ((t2a 0)::(t2a 1)::(t2a 2)::(t2a 3)::(t2a 4)::(t2a 5)::(t2a 6)::(t2a 7)::(t2a 8)::(t2a 9)::(t2a 10)::(t2a 11)::(t2a 12)::(t2a 13)::(t2a 14)::(t2a 15)::(t2a 16)::(t2a 17)::gp t6c 70 105 []))))) 18446744073709551616 ?_ ?_ ?_
  ·exact ⟨(wu64 ((bor .u64 (wu64 ((wu64 u8b)*2^min (32:Int).toNat IntKind.u64.bits)) (wu64 u5c)).tdiv (wu64 u8d))),((bor .u64 (wu64 ((wu64 u8b)*2^min (32:Int).toNat IntKind.u64.bits)) (wu64 u5c)).tmod (wu64 u9d)),(tk [uu,uu,uu,uu,uu,uu,uu,uu,uu,uu,uu,uu,uu,uu,uu,uu,uu,uu]),(Ext.refl _),h2l,(Fr.mk (by kernel_rfl))⟩
  ·rintro l' w' ⟨v7a,v6a,t2a,_,hz,_⟩
   exact nomatch hz
  ·rintro n2f ih4l _ w3 ⟨v7a,v6a,t2a,U9b,hr3f,⟨t6c,rfl⟩⟩ l'' hl
   simp only [gp,Nat.reduceAdd] at hl
   subst hl
   unfold FU at hr3f
   refine AV<|wp_seq_k fun _ h5l=>wp_seq_k fun _ h6l=>Dn [] 22 mo rfl fun w4 E0c S4f=>dA 0 rfl (fun _=>Aa rfl) ?_
   refine dab 1 rfl (by kernel_rfl) (fun _ _ _ h=>h) (by rfl) (fun _=>Fu rfl rfl) fun z5f hz5f=>?_
   refine dnrm ?_
   refine dA 2 rfl (fun _=>Aa rfl) ?_
   obtain ⟨m7l,h8l,f9l⟩:=Ab hr3f
   refine IN #[true,true,true,true,true,true,true,true,true,true,true,true,true,true,true,true,true,true,true,true,true,true] 0 (fun l l' w'=>∃(t1a:Nat→Value),w4=w'∧l'=(((((((((((((((((((l.set 52 (t1a 0)).set 53 (t1a 1)).set 54 (t1a 2)).set 55 (t1a 3)).set 56 (t1a 4)).set 57 (t1a 5)).set 58 (t1a 6)).set 59 (t1a 7)).set 60 (t1a 8)).set 61 (t1a 9)).set 62 (t1a 10)).set 63 (t1a 11)).set 64 (t1a 12)).set 65 (t1a 13)).set 66 (t1a 14)).set 67 (t1a 15)).set 68 (t1a 16)).set 69 (t1a 17)).set 70 (.bool m7l))) ?_ ?_
   ·intro HJ629
    rcases zi hz5f h8l with ⟨e0a,_,f0m⟩ | ⟨e0a,_,f1m⟩
    ·refine dP 3 rfl ?_ (hw:=wgF rfl e0a)
     refine dP 4 rfl ?_ (hw:=wgF rfl e0a)
     refine dP 5 rfl ?_ (hw:=wgF rfl e0a)
     refine dP 6 rfl ?_ (hw:=wgF rfl e0a)
     refine dP 7 rfl ?_ (hw:=wgF rfl e0a)
     refine dP 8 rfl ?_ (hw:=wgF rfl e0a)
     refine dP 9 rfl ?_ (hw:=wgF rfl e0a)
     refine dP 10 rfl ?_ (hw:=wgF rfl e0a)
     refine dP 11 rfl ?_ (hw:=wgF rfl e0a)
     refine dP 12 rfl ?_ (hw:=wgF rfl e0a)
     refine dP 13 rfl ?_ (hw:=wgF rfl e0a)
     refine dP 14 rfl ?_ (hw:=wgF rfl e0a)
     refine dP 15 rfl ?_ (hw:=wgF rfl e0a)
     refine dP 16 rfl ?_ (hw:=wgF rfl e0a)
     refine dP 17 rfl ?_ (hw:=wgF rfl e0a)
     refine dP 18 rfl ?_ (hw:=wgF rfl e0a)
     refine dP 19 rfl ?_ (hw:=wgF rfl e0a)
     refine dP 20 rfl ?_ (hw:=wgF rfl e0a)
     refine dA 21 rfl (fun _=>Ar (evb rfl e0a) rfl) ?_
     obtain rfl:=sj f0m
     exact EL (by kernel_rfl) (HJ629 _ _ ⟨(tk [uu,uu,uu,uu,uu,uu,uu,uu,uu,uu,uu,uu,uu,uu,uu,uu,uu,uu]),(by trivial),(by simp only [S0,S1]<;>rfl)⟩)
    ·refine dA 3 rfl (fun _=>Aa rfl) ?_ (hw:=wgT rfl e0a)
     refine dA 4 rfl (fun _=>Aa rfl) ?_ (hw:=wgT rfl e0a)
     refine dA 5 rfl (fun _=>Aa rfl) ?_ (hw:=wgT rfl e0a)
     refine dA 6 rfl (fun _=>Ba (c:=wi64 ((x1.length:Int) - 2)) rfl rfl rfl) ?_ (hw:=wgT rfl e0a)
     have n2m:=(((n6.ext E9a).ext E2b).ext U9b).ext E0c
     obtain ⟨u3b,h3m,f4m⟩:=Ab f1m
     obtain ⟨bb639,oo640,hA5m,ia6m,ib7m,hc642⟩:=RL.nth n2m h3m
     refine dA 7 rfl (fun _=>As Aq An rfl rfl hA5m ia6m ib7m) ?_ (hw:=wgT rfl e0a)
     refine dV 8 rfl (fun _ hw=>Af AQ rfl (CA hc642 hw)) S4f ?_ (hw:=wgT rfl e0a)
     refine dA 9 rfl (fun _=>AE (c:=wu64 u3b) AF AD rfl rfl) ?_ (hw:=wgT rfl e0a)
     refine dA 10 rfl (fun _=>Jq (c:=wu64 (v7a*(wu64 u3b))) rfl rfl rfl) ?_ (hw:=wgT rfl e0a)
     refine dA 11 rfl (fun _=>Aa rfl) ?_ (hw:=wgT rfl e0a)
     refine dA 12 rfl (fun _=>JF (c:=wu64 (v6a*2^min (32:Int).toNat IntKind.u64.bits)) (by decide) rfl rfl rfl) ?_ (hw:=wgT rfl e0a)
     refine dA 13 rfl (fun _=>Aa rfl) ?_ (hw:=wgT rfl e0a)
     refine dA 14 rfl (fun _=>Aa rfl) ?_ (hw:=wgT rfl e0a)
     refine dA 15 rfl (fun _=>Ba (c:=wi64 ((x1.length:Int) - 2)) rfl rfl rfl) ?_ (hw:=wgT rfl e0a)
     have ow8m:=(((q0.ext E9a).ext E2b).ext U9b).ext E0c
     obtain ⟨u1c,h9m,f0n⟩:=Ab f4m
     obtain ⟨bb649,hA1n,hz2a0,ia2n,ib3n,hc654⟩:=WN.nthc ow8m h9m
     refine dA 16 rfl (fun _=>As Aq An rfl rfl hA1n ia2n ib3n) ?_ (hw:=wgT rfl e0a)
     refine dV 17 rfl (fun _ hw=>Af AQ rfl (CA hc654 hw)) S4f ?_ (hw:=wgT rfl e0a)
     refine dA 18 rfl (fun _=>AE (c:=wu64 u1c) AF AD rfl rfl) ?_ (hw:=wgT rfl e0a)
     refine dA 19 rfl (fun _=>Nt rfl rfl) ?_ (hw:=wgT rfl e0a)
     refine dab 20 rfl (by kernel_rfl) (fun _ _ _ h=>h) (wgT rfl e0a) (fun _=>EX rfl rfl) fun z0e hz0e=>?_
     refine dnrm ?_
     refine dA 21 rfl (fun _=>Aw (evb rfl e0a) rfl) ?_
     obtain rfl:z0e=decide ((bor .u64 (wu64 (v6a*2^min (32:Int).toNat IntKind.u64.bits)) (wu64 u1c))<(wu64 (v7a*(wu64 u3b)))):=bz hz0e
     obtain rfl:=sj f0n
     exact EL (by kernel_rfl) (HJ629 _ _ ⟨(tk [.int .u64 v7a,.slice A4 x1.length c5,.int .i64 (x1.length:Int),.int .i64 (wi64 ((x1.length:Int) - 2)),.pointer (some ⟨bb639,oo640+((wi64 ((x1.length:Int) - 2)):Int).toNat,none⟩),.int .u32 u3b,.int .u64 (wu64 u3b),.int .u64 (wu64 (v7a*(wu64 u3b))),.int .u64 v6a,.int .u64 (wu64 (v6a*2^min (32:Int).toNat IntKind.u64.bits)),.slice A1 x0.length c2,.int .i64 (x1.length:Int),.int .i64 (wi64 ((x1.length:Int) - 2)),.pointer (some ⟨bb649,List.length pre+((wi64 ((x1.length:Int) - 2)):Int).toNat,none⟩),.int .u32 u1c,.int .u64 (wu64 u1c),.int .u64 (bor .u64 (wu64 (v6a*2^min (32:Int).toNat IntKind.u64.bits)) (wu64 u1c)),.bool (decide ((bor .u64 (wu64 (v6a*2^min (32:Int).toNat IntKind.u64.bits)) (wu64 u1c))<(wu64 (v7a*(wu64 u3b)))))]),(by trivial),(by simp only [S0,S1]<;>rfl)⟩)
   ·rintro l' _ ⟨t1a,rfl,hq'⟩ l'' hl
    rw [hq'] at hl
    clear hq'
    simp only [S0,S1] at hl
    subst hl
    refine Cn (by kernel_rfl) ?_
    refine h6l _ _ ?_
    rcases zb f9l with ⟨e1e,f4n⟩ | ⟨e1e,f5n⟩
    ·refine wp_cond_true (Ai (evb rfl e1e))<|wp_skip<|h5l _ _ ?_
     apply wp_block
     refine wp_seq_k fun _ h6n=>Ae<|sV3 (Aa rfl) (Ba (c:=wu64 (v7a - 1)) rfl rfl rfl) (Ac rfl) ?_
     refine wh h6n<|wp_seq_k fun _ h7n=>Ae<|sV3 (Aa rfl) (Aa rfl) (Aa rfl) ?_
     refine sV (Ba (c:=wi64 ((x1.length:Int) - 1)) rfl rfl rfl) ?_
     have n8n:=(((n6.ext E9a).ext E2b).ext U9b).ext E0c
     obtain ⟨u2e,h9n,f0o⟩:=Ab f4n
     obtain ⟨bb672,oo673,hA1o,ia2o,ib3o,hc675⟩:=RL.nth n8n h9n
     refine sV3 (As Aq An rfl rfl hA1o ia2o ib3o) (Af AQ rfl hc675) (AE (c:=wu64 u2e) AF AD rfl rfl) ?_
     refine sV2 (AM (c:=wu64 (v6a+(wu64 u2e))) rfl rfl rfl) (Ac rfl) ?_
     refine wh h7n<|wp_seq_k fun _ h4o=>Ae<|sV (Aa rfl) ?_
     refine sb (Fu rfl rfl) fun z6f hz6f=>?_
     refine nrm ?_
     refine wh h4o ?_
     rcases zi hz6f f0o with ⟨e3e,_,f5o⟩ | ⟨e3e,_,f6o⟩
     ·refine wp_cond_true (Ai (evb rfl e3e))<|wp_exit ?_
      simp only [Exit.then,Exit.inBlock,↓reduceIte,Nat.reduceEqDiff]
      obtain rfl:=sj f5o
      exact ⟨_,rfl,(U9b.trans E0c),(Fr.mk (by kernel_rfl))⟩
     ·refine wp_cond_false (Ai (evb rfl e3e))<|wp_skip ?_
      exact ih4l _ _ ⟨(wu64 (v7a - 1)),(wu64 (v6a+(wu64 u2e))),(tk [t1a 0,t1a 1,t1a 2,t1a 3,t1a 4,t1a 5,t1a 6,t1a 7,t1a 8,t1a 9,t1a 10,t1a 11,t1a 12,t1a 13,t1a 14,t1a 15,t1a 16,t1a 17]),(U9b.trans E0c),f6o,(Fr.mk (by kernel_rfl))⟩
    ·refine wp_cond_false (Ai (evb rfl e1e))<|wp_exit ?_
     simp only [Exit.then,Exit.inBlock,↓reduceIte,Nat.reduceEqDiff]
     obtain rfl:=sj f5n
     exact ⟨_,rfl,(U9b.trans E0c),(Fr.mk (by kernel_rfl))⟩
 ·rintro _ w3 ⟨U7f,⟨t4d,rfl⟩⟩ l'' hl
  simp only [gp,Nat.reduceAdd] at hl
  subst hl
  have X7o:=UpdS.ext X6j U7f
  refine h1l _ _<|wp_seq_k fun _ h8o=>Ae<|sV2 (Ac rfl) (Ac rfl) ?_
  refine wh h8o<|wp_seq_k fun _ h9o=>wp_seq_k fun _ h0p=>Ae<|sV3 (Aa rfl) (Ax Aq rfl) (Aa rfl) ?_
  refine wh h0p ?_
  obtain ⟨m4a,h1p,f2p⟩:=Ab f3l
  refine BX (fun l l' w'=>UpdS [bp0] w w'∧WN 179 bp0 pre ys w' A1 x0.length c2 m4a.2.2∧Fr l' (fun t7c=>.slice A1 x0.length c2::.slice A4 x1.length c5::gp t7c 2 3 (.int .i64 (x1.length:Int)::gp t7c 6 1 (.int .u64 m3a::gp t7c 8 1 (.int .u64 m4a.1::.int .u64 m4a.2.1::gp t7c 11 164 []))))) ?_ ?_
  ·apply wp_block
   refine AP (fun l n8f l' w'=>∃(v1b:Int) (v5a:Int) (v4b:Int) (v8c:List Int),UpdS [bp0] w w'∧WN 179 bp0 pre ys w' A1 x0.length c2 v8c∧Ff x0 x1 m3a n8f v1b v5a v4b v8c=some m4a∧Fr l' (fun t2c=>.slice A1 x0.length c2::.slice A4 x1.length c5::gp t2c 2 3 (.int .i64 (x1.length:Int)::gp t2c 6 1 (.int .u64 m3a::gp t2c 8 1 (.int .u64 v1b::.int .u64 v5a::gp t2c 11 72 (.slice A4 x1.length c5::.int .i64 (x1.length:Int)::.int .i64 v4b::gp t2c 86 89 [])))))) 18446744073709551616 ?_ ?_ ?_
   ·have ow3p:=((q0.ext E9a).ext E2b).ext U7f
    exact ⟨0,0,0,x0,X7o,ow3p,h1p,(Fr.mk (by kernel_rfl))⟩
   ·rintro l' w' ⟨v1b,v5a,v4b,v8c,_,_,hz,_⟩
    exact nomatch hz
   ·rintro n8f ih4p _ w4 ⟨v1b,v5a,v4b,v8c,X4e,ow3c,hr9f,⟨t2c,rfl⟩⟩ l'' hl
    simp only [gp,Nat.reduceAdd] at hl
    subst hl
    unfold Ff at hr9f
    refine AV<|wp_seq_k fun _ h5p=>Ae<|sb (Cj rfl rfl) fun z0g hz0g=>?_
    refine nrm ?_
    refine wh h5p<|wp_seq_k fun _ h6p=>?_
    rcases zi hz0g hr9f with ⟨e5e,_,f7p⟩ | ⟨e5e,_,f8p⟩
    ·refine wp_cond_true (Ai (evb rfl e5e))<|wp_skip<|h6p _ _<|wp_seq_k fun _ h9p=>?_
     apply wp_block
     refine wp_seq_k fun _ h0q=>Ae<|sV (Aa rfl) ?_
     obtain ⟨u8a,h1q,f2q⟩:=Ab f7p
     obtain ⟨bb1169,oo1170,hA3q,ia4q,ib5q,hc1172⟩:=RL.nth (RL.updW n6 X4e ap0) h1q
     refine sV3 (As Aq An rfl rfl hA3q ia4q ib5q) (Af AQ rfl hc1172) (Ac rfl) ?_
     refine sV (Ac rfl) ?_
     refine wh h0q<|wp_seq_k fun _ h6q=>Ae<|sV3 (Aa rfl) (Aa rfl) (Aa rfl) ?_
     refine sV3 (AE (c:=wu64 u8a) AF AD rfl rfl) (Jq (c:=wu64 (m3a*(wu64 u8a))) rfl rfl rfl) (AM (c:=wu64 (v5a+(wu64 (m3a*(wu64 u8a))))) rfl rfl rfl) ?_
     refine sV (Ac rfl) ?_
     refine wh h6q<|wp_seq_k fun _ h7q=>Ae<|sV3 (Aa rfl) (AE (c:=wu32 (wu64 (v5a+(wu64 (m3a*(wu64 u8a)))))) AD AF rfl rfl) (AE (c:=wu64 (wu32 (wu64 (v5a+(wu64 (m3a*(wu64 u8a))))))) AF AD rfl rfl) ?_
     refine sV3 (Aa rfl) (AM (c:=wu64 ((wu64 (wu32 (wu64 (v5a+(wu64 (m3a*(wu64 u8a)))))))+v1b)) rfl rfl rfl) (Ac rfl) ?_
     refine wh h7q<|wp_seq_k fun _ h8q=>Ae<|sV2 (Aa rfl) (GS (c:=(wu64 (v5a+(wu64 (m3a*(wu64 u8a))))).fdiv (2^min (32:Int).toNat IntKind.u64.bits)) (by decide) rfl rfl rfl) ?_
     refine sV (Ac rfl) ?_
     refine wh h8q<|wp_seq_k fun _ h9q=>Ae<|sV (Ac rfl) ?_
     refine wh h9q<|wp_seq_k fun _ h0r=>wp_seq_k fun _ h1r=>Ae<|sV2 (Aa rfl) (Aa rfl) ?_
     obtain ⟨u2r,h3r,f4r⟩:=Ab f2q
     obtain ⟨bb1185,hA5r,hz3a0,ia6r,ib7r,hc1190⟩:=WN.nthc ow3c h3r
     refine sV3 (As Aq An rfl rfl hA5r ia6r ib7r) (Af AQ rfl hc1190) (AE (c:=wu64 u2r) AF AD rfl rfl) ?_
     refine sV (Aa rfl) ?_
     refine sb (Cj rfl rfl) fun z1g hz1g=>?_
     refine nrm ?_
     refine wh h1r ?_
     obtain ⟨m2g,h8r,f9r⟩:=Ab f4r
     refine BX (fun l l' w'=>w4=w'∧l'=(l.set 9 (.int .u64 m2g))) ?_ ?_
     ·rcases zi hz1g h8r with ⟨e6e,_,f0s⟩ | ⟨e6e,_,f1s⟩
      ·refine wp_cond_true (Ai (evb rfl e6e))<|Ae<|sV (Ac rfl) ?_
       refine AG ?_
       obtain rfl:=sj f0s
       exact ⟨_,rfl,(by trivial),(by simp only [S0,S1]<;>rfl)⟩
      ·refine wp_cond_false (Ai (evb rfl e6e))<|wp_skip ?_
       obtain rfl:=sj f1s
       exact ⟨_,rfl,(by trivial),(by simp only [S0,S1]<;>rfl)⟩
     ·rintro l' _ ⟨rfl,hq'⟩ l'' hl
      rw [hq'] at hl
      clear hq'
      simp only [S0,S1] at hl
      subst hl
      refine h0r _ _<|Ae<|sV2 (Aa rfl) (Aa rfl) ?_
      obtain ⟨u3g,h2s,f3s⟩:=Ab f9r
      obtain ⟨bb1211,hA4s,hz4a0,ia5s,ib6s,hc1216⟩:=WN.nthc ow3c h2s
      refine sV3 (As Aq An rfl rfl hA4s ia5s ib6s) (Af AQ rfl hc1216) (Aa rfl) ?_
      refine sV2 (AE (c:=wu32 (wu64 ((wu64 (wu32 (wu64 (v5a+(wu64 (m3a*(wu64 u8a)))))))+v1b))) AD AF rfl rfl) (Ba (c:=wu32 (u3g - (wu32 (wu64 ((wu64 (wu32 (wu64 (v5a+(wu64 (m3a*(wu64 u8a)))))))+v1b))))) rfl rfl rfl) ?_
      obtain ⟨u5a0,h7s,f8s⟩:=Ab f3s
      obtain ⟨bb1220,hA4g,hz6a0,ia5g,ib6g,hc1225⟩:=WN.nthc ow3c h7s
      refine sV (As Aq An rfl rfl hA4g ia5g ib6g) ?_
      refine PP An rfl rfl ow3c hA4g ia5g (by rw [WN.len ow3c];exact ib6g) fun w5 U9s ow0t=>?_
      have X1t:=UpdS.tr X4e U9s
      refine wh h9p<|Ae<|sV2 (AM (c:=wi64 (v4b+1)) rfl rfl rfl) (Aa rfl) ?_
      refine AG ?_
      exact ih4p _ _ ⟨m2g,((wu64 (v5a+(wu64 (m3a*(wu64 u8a))))).fdiv (2^min (32:Int).toNat IntKind.u64.bits)),(wi64 (v4b+1)),(List.set v8c (v4b:Int).toNat (wu32 (u3g - (wu32 (wu64 ((wu64 (wu32 (wu64 (v5a+(wu64 (m3a*(wu64 u8a)))))))+v1b)))))),X1t,ow0t,f8s,(Fr.mk (by kernel_rfl))⟩
    ·refine wp_cond_false (Ai (evb rfl e5e))<|wp_exit ?_
     simp only [Exit.then,Exit.inBlock,↓reduceIte,Nat.reduceEqDiff]
     obtain rfl:=sj f8p
     exact ⟨_,rfl,X4e,ow3c,(Fr.mk (by kernel_rfl))⟩
  ·rintro _ w4 ⟨X2t,ow9c,⟨t7c,rfl⟩⟩ l'' hl
   simp only [gp,Nat.reduceAdd] at hl
   subst hl
   refine h9o _ _<|wp_seq_k fun _ h3t=>Ae<|sV3 (Aa rfl) (Aa rfl) (AM (c:=wu64 (m4a.2.1+m4a.1)) rfl rfl rfl) ?_
   refine sV (Ac rfl) ?_
   refine wh h3t<|wp_seq_k fun _ h4t=>Ae<|sV2 (Aa rfl) (Aa rfl) ?_
   obtain ⟨u5t,h6t,f7t⟩:=Ab f2p
   obtain ⟨bb1235,hA8t,hz7a0,ia9t,ib0u,hc1240⟩:=WN.nthc ow9c h6t
   refine sV3 (As Aq An rfl rfl hA8t ia9t ib0u) (Af AQ rfl hc1240) (AE (c:=wu64 u5t) AF AD rfl rfl) ?_
   refine sV (Aa rfl) ?_
   refine sb (Cj rfl rfl) fun z7g hz7g=>?_
   refine nrm ?_
   refine sV (Ac rfl) ?_
   refine wh h4t<|wp_seq_k fun _ h1u=>Ae<|sV2 (Aa rfl) (Aa rfl) ?_
   obtain ⟨u8g,h2u,f3u⟩:=Ab f7t
   obtain ⟨bb1246,hA4u,hz8a0,ia5u,ib6u,hc1251⟩:=WN.nthc ow9c h2u
   refine sV3 (As Aq An rfl rfl hA4u ia5u ib6u) (Af AQ rfl hc1251) (Aa rfl) ?_
   refine sV2 (AE (c:=wu32 (wu64 (m4a.2.1+m4a.1))) AD AF rfl rfl) (Ba (c:=wu32 (u8g - (wu32 (wu64 (m4a.2.1+m4a.1))))) rfl rfl rfl) ?_
   obtain ⟨u9a0,h7u,f8u⟩:=Ab f3u
   obtain ⟨bb1255,hA9g,hz0a1,ia0h,ib1h,hc1260⟩:=WN.nthc ow9c h7u
   refine sV (As Aq An rfl rfl hA9g ia0h ib1h) ?_
   refine PP An rfl rfl ow9c hA9g ia0h (by rw [WN.len ow9c];exact ib1h) fun w5 U9u ow2h=>?_
   have X3h:=UpdS.tr X2t U9u
   refine wh h1u<|wp_seq_k fun _ h0v=>wp_seq_k fun _ h1v=>Ae<|sV (Aa rfl) ?_
   refine wh h1v ?_
   obtain ⟨m5d,h2v,f3v⟩:=Ab f8u
   refine BX (fun l l' w'=>UpdS [bp0] w w'∧WN 179 bp0 pre ys w' A1 x0.length c2 m5d.2.2∧Fr l' (fun t6d=>gp t6d 0 7 (.int .u64 m5d.1::gp t6d 8 2 (.int .u64 m5d.2.1::gp t6d 11 164 [])))) ?_ ?_
   ·rcases zi hz7g h2v with ⟨e7e,_,f4v⟩ | ⟨e7e,_,f5v⟩
    ·refine wp_cond_true (Ai (evb rfl e7e))<|wp_seq_k fun _ h6v=>Ae<|sV3 (Aa rfl) (Ba (c:=wu64 (m3a - 1)) rfl rfl rfl) (Ac rfl) ?_
     refine wh h6v<|wp_seq_k fun _ h7v=>Ae<|sV (Ac rfl) ?_
     refine wh h7v<|wp_seq_k fun _ h8v=>wp_seq_k fun _ h9v=>Ae<|sV3 (Aa rfl) (Ax Aq rfl) (Aa rfl) ?_
     refine wh h9v ?_
     obtain ⟨m0d,h0w,f1w⟩:=Ab f4v
     refine BX (fun l l' w'=>UpdS [bp0] w w'∧WN 179 bp0 pre ys w' A1 x0.length c2 m0d.2∧Fr l' (fun t1d=>.slice A1 x0.length c2::gp t1d 1 4 (.int .i64 (x1.length:Int)::gp t1d 6 1 (.int .u64 (wu64 (m3a - 1))::gp t1d 8 2 (.int .u64 m0d.1::gp t1d 11 164 []))))) ?_ ?_
     ·apply wp_block
      refine AP (fun l n4h l' w'=>∃(v0b:Int) (v5b:Int) (v2d:List Int),UpdS [bp0] w w'∧WN 179 bp0 pre ys w' A1 x0.length c2 v2d∧Ft x0 x1 n4h v0b v5b v2d=some m0d∧Fr l' (fun t4c=>.slice A1 x0.length c2::gp t4c 1 4 (.int .i64 (x1.length:Int)::gp t4c 6 1 (.int .u64 (wu64 (m3a - 1))::gp t4c 8 2 (.int .u64 v0b::gp t4c 11 129 (.slice A4 x1.length c5::.int .i64 (x1.length:Int)::.int .i64 v5b::gp t4c 143 32 [])))))) 18446744073709551616 ?_ ?_ ?_
      ·exact ⟨0,0,(List.set m4a.2.2 ((x1.length:Int):Int).toNat (wu32 (u8g - (wu32 (wu64 (m4a.2.1+m4a.1)))))),X3h,ow2h,h0w,(Fr.mk (by kernel_rfl))⟩
      ·rintro l' w' ⟨v0b,v5b,v2d,_,_,hz,_⟩
       exact nomatch hz
      ·rintro n4h ih2w _ w6 ⟨v0b,v5b,v2d,X8e,ow3d,hr5h,⟨t4c,rfl⟩⟩ l'' hl
       simp only [gp,Nat.reduceAdd] at hl
       subst hl
       unfold Ft at hr5h
       refine AV<|wp_seq_k fun _ h3w=>Ae<|sb (Cj rfl rfl) fun z6h hz6h=>?_
       refine nrm ?_
       refine wh h3w<|wp_seq_k fun _ h4w=>?_
       rcases zi hz6h hr5h with ⟨e9e,_,f5w⟩ | ⟨e9e,_,f6w⟩
       ·refine wp_cond_true (Ai (evb rfl e9e))<|wp_skip<|h4w _ _<|wp_seq_k fun _ h7w=>?_
        apply wp_block
        refine wp_seq_k fun _ h8w=>Ae<|sV (Aa rfl) ?_
        obtain ⟨u6b,h9w,f0x⟩:=Ab f5w
        obtain ⟨bb1977,oo1978,hA1x,ia2x,ib3x,hc1980⟩:=RL.nth (RL.updW n6 X8e ap0) h9w
        refine sV3 (As Aq An rfl rfl hA1x ia2x ib3x) (Af AQ rfl hc1980) (Ac rfl) ?_
        refine sV (Ac rfl) ?_
        refine wh h8w<|wp_seq_k fun _ h4x=>Ae<|sV3 (Aa rfl) (Aa rfl) (Aa rfl) ?_
        obtain ⟨u7b,h5x,f6x⟩:=Ab f0x
        obtain ⟨bb1988,hA7x,hz1a1,ia8x,ib9x,hc1993⟩:=WN.nthc ow3d h5x
        refine sV3 (As Aq An rfl rfl hA7x ia8x ib9x) (Af AQ rfl hc1993) (AE (c:=wu64 u7b) AF AD rfl rfl) ?_
        refine sV3 (Aa rfl) (AE (c:=wu64 u6b) AF AD rfl rfl) (AM (c:=wu64 ((wu64 u7b)+(wu64 u6b))) rfl rfl rfl) ?_
        refine sV2 (AM (c:=wu64 (v0b+(wu64 ((wu64 u7b)+(wu64 u6b))))) rfl rfl rfl) (Ac rfl) ?_
        refine wh h4x<|wp_seq_k fun _ h0y=>Ae<|sV3 (Aa rfl) (Aa rfl) (Aa rfl) ?_
        refine sV (AE (c:=wu32 (wu64 (v0b+(wu64 ((wu64 u7b)+(wu64 u6b)))))) AD AF rfl rfl) ?_
        obtain ⟨u2a1,h1y,f2y⟩:=Ab f6x
        obtain ⟨bb1998,hA7h,hz3a1,ia8h,ib9h,hc2003⟩:=WN.nthc ow3d h1y
        refine sV (As Aq An rfl rfl hA7h ia8h ib9h) ?_
        refine PP An rfl rfl ow3d hA7h ia8h (by rw [WN.len ow3d];exact ib9h) fun w7 U3y ow4y=>?_
        have X5y:=UpdS.tr X8e U3y
        refine wh h0y<|Ae<|sV2 (Aa rfl) (GS (c:=(wu64 (v0b+(wu64 ((wu64 u7b)+(wu64 u6b))))).fdiv (2^min (32:Int).toNat IntKind.u64.bits)) (by decide) rfl rfl rfl) ?_
        refine sV (Ac rfl) ?_
        refine wh h7w<|Ae<|sV2 (AM (c:=wi64 (v5b+1)) rfl rfl rfl) (Aa rfl) ?_
        refine AG ?_
        exact ih2w _ _ ⟨((wu64 (v0b+(wu64 ((wu64 u7b)+(wu64 u6b))))).fdiv (2^min (32:Int).toNat IntKind.u64.bits)),(wi64 (v5b+1)),(List.set v2d (v5b:Int).toNat (wu32 (wu64 (v0b+(wu64 ((wu64 u7b)+(wu64 u6b))))))),X5y,ow4y,f2y,(Fr.mk (by kernel_rfl))⟩
       ·refine wp_cond_false (Ai (evb rfl e9e))<|wp_exit ?_
        simp only [Exit.then,Exit.inBlock,↓reduceIte,Nat.reduceEqDiff]
        obtain rfl:=sj f6w
        exact ⟨_,rfl,X8e,ow3d,(Fr.mk (by kernel_rfl))⟩
     ·rintro _ w6 ⟨X6y,ow7d,⟨t1d,rfl⟩⟩ l'' hl
      simp only [gp,Nat.reduceAdd] at hl
      subst hl
      refine h8v _ _<|Ae<|sV2 (Aa rfl) (Aa rfl) ?_
      obtain ⟨u7y,h8y,f9y⟩:=Ab f1w
      obtain ⟨bb2011,hA0z,hz4a1,ia1z,ib2z,hc2016⟩:=WN.nthc ow7d h8y
      refine sV3 (As Aq An rfl rfl hA0z ia1z ib2z) (Af AQ rfl hc2016) (Aa rfl) ?_
      refine sV2 (AE (c:=wu32 m0d.1) AD AF rfl rfl) (AM (c:=wu32 (u7y+(wu32 m0d.1))) rfl rfl rfl) ?_
      obtain ⟨u5a1,h3z,f4z⟩:=Ab f9y
      obtain ⟨bb2020,hA0i,hz6a1,ia1i,ib2i,hc2025⟩:=WN.nthc ow7d h3z
      refine sV (As Aq An rfl rfl hA0i ia1i ib2i) ?_
      refine PP An rfl rfl ow7d hA0i ia1i (by rw [WN.len ow7d];exact ib2i) fun w7 U5z ow6z=>?_
      have X7z:=UpdS.tr X6y U5z
      refine AG ?_
      obtain rfl:=sj f4z
      exact ⟨_,rfl,X7z,ow6z,(Fr.mk (by kernel_rfl))⟩
    ·refine wp_cond_false (Ai (evb rfl e7e))<|wp_skip ?_
     obtain rfl:=sj f5v
     exact ⟨_,rfl,X3h,ow2h,(Fr.mk (by kernel_rfl))⟩
   ·rintro _ w6 ⟨X8z,ow3i,⟨t6d,rfl⟩⟩ l'' hl
    simp only [gp,Nat.reduceAdd] at hl
    subst hl
    refine h0v _ _<|wp_seq_k fun _ h9z=>Ae<|sV3 (Aa rfl) (AE (c:=wu32 m5d.1) AD AF rfl rfl) (Ac rfl) ?_
    refine wh h9z<|wp_ret ?_
    obtain rfl:=sj f3v
    exact fin rfl (Res.tmp rfl Res.nil) ⟨X8z,WN.len ow3i,WN.bx ow3i,_,rfl,rfl⟩
theorem Iy (x0:List Int) (x1:List Int) (A1:Option Addr) (c2:Nat) (A4:Option Addr) (c5:Nat) (w:World) (hT:TB w) (n3:RLu w A1 c2 x0) (n6:RLu w A4 c5 x1) (r:List Int × List Int) (hr:Dv x0 x1=some r) :
  Calls Tryz.prog 186 #[.slice A1 x0.length c2,.slice A4 x1.length c5] w (Ret Mm w r):=by
 unfold Dv at hr
 go_enter Tryz.func186,Tryz.ntmps186
 refine wp_seq_k fun _ h7=>Ae<|sV2 (Ac rfl) (Ac rfl) ?_
 refine wh h7<|wp_seq_k fun _ h8=>wp_seq_k fun _ h9=>Ae<|sV2 (Aa rfl) (Aa rfl) ?_
 obtain ⟨r0b,h4b,f2d⟩:=Ab hr
 refine sc (Ad Nd (by rfl)) (GF x0 x1 A1 c2 A4 c5 w hT n3 n6 r0b h4b) ?_
 rintro _ w1 E2a rfl
 refine nrm ?_
 refine sb (Cj rfl rfl) fun z3d hz3d=>?_
 refine nrm ?_
 refine wh h9 ?_
 rcases zi hz3d f2d with ⟨e5b,_,f9f⟩ | ⟨e5b,_,f0g⟩
 ·refine wp_cond_true (Ai (evb rfl e5b))<|wp_seq_k fun _ h1g=>Ae<|sV3 (Aa rfl) (Ac rfl) (Ac rfl) ?_
  refine wh h1g<|wp_ret ?_
  obtain rfl:=sj f9f
  exact fin rfl (Res.tmp rfl (Res.tmp rfl Res.nil)) (Aj E2a ⟨none,0,A1,c2,rfl,(RL.nil _ _ _),(n3.ext E2a)⟩)
 ·refine wp_cond_false (Ai (evb rfl e5b))<|wp_skip<|h8 _ _<|wp_seq_k fun _ h2g=>wp_seq_k fun _ h3g=>Ae<|sV2 (Aa rfl) (Ax Aq rfl) ?_
  refine sb (Bl rfl rfl) fun z4d hz4d=>?_
  refine nrm ?_
  refine wh h3g ?_
  rcases zi hz4d f0g with ⟨e6b,_,f4g⟩ | ⟨e6b,_,f5g⟩
  ·refine wp_cond_true (Ai (evb rfl e6b))<|wp_seq_k fun _ h6g=>Ae<|sV2 (Aa rfl) (Aa rfl) ?_
   obtain ⟨u7g,h8g,f9g⟩:=Ab f4g
   obtain ⟨bb545,oo546,hA0h,ia1h,ib2h,hc548⟩:=RL.nth (n6.ext E2a) h8g
   refine sV2 (As Aq An rfl rfl hA0h ia1h ib2h) (Af AQ rfl hc548) ?_
   obtain ⟨r3h,h4h,f5h⟩:=Ab f9g
   refine sc (Ad en_237 (by rfl)) (c_wide_Nat_short x0 u7g A1 c2 w1 (tbx E2a hT) (n3.ext E2a) r3h h4h) ?_
   rintro _ w2 E6h ⟨A7h,c8h,A9h,c0i,rfl,n1i,n2i⟩
   refine nrm ?_
   have X3i:=xtr E2a E6h
   refine sV3 (Av rfl rfl) (Av rfl rfl) (Ac rfl) ?_
   refine sV (Ac rfl) ?_
   refine wh h6g<|wp_ret ?_
   obtain rfl:=sj f5h
   exact fin rfl (Res.tmp rfl (Res.tmp rfl Res.nil)) (Aj X3i ⟨A7h,c8h,A9h,c0i,rfl,n1i,n2i⟩)
  ·refine wp_cond_false (Ai (evb rfl e6b))<|wp_skip<|h2g _ _<|wp_seq_k fun _ h4i=>Ae<|sV3 (Aa rfl) (Aa rfl) (Ax Aq rfl) ?_
   refine sV (Ba (c:=wi64 ((x1.length:Int) - 1)) rfl rfl rfl) ?_
   obtain ⟨u5i,h6i,f64⟩:=Ab f5g
   obtain ⟨bb65,oo66,hA7i,ia8i,ib9i,hc68⟩:=RL.nth (n6.ext E2a) h6i
   refine sV2 (As Aq An rfl rfl hA7i ia8i ib9i) (Af AQ rfl hc68) ?_
   obtain ⟨r5a,h0j,f1j⟩:=Ab f64
   refine sc (Ad OZ (by rfl)) (FR u5i w1 (tbx E2a hT)  r5a h0j) ?_
   rintro _ w2 E2j rfl
   refine nrm ?_
   have X7b:=xtr E2a E2j
   refine sV (Ac rfl) ?_
   refine wh h4i<|wp_seq_k fun _ h3j=>Ae<|sV2 (Aa rfl) (Aa rfl) ?_
   obtain ⟨r0a,h4j,f5j⟩:=Ab f1j
   refine sc (Ad KG (by rfl)) (DT x1 r5a A4 c5 w2 (tbx X7b hT) (n6.ext X7b) r0a h4j) ?_
   rintro _ w3 E6j ⟨A5d,c6d,rfl,n7d⟩
   refine nrm ?_
   have X1b:=xtr X7b E6j
   refine sV (Ac rfl) ?_
   refine wh h3j<|wp_seq_k fun _ h7j=>Ae<|sV3 (Aa rfl) (Ax Aq rfl) (AM (c:=wi64 ((x0.length:Int)+1)) rfl rfl rfl) ?_
   obtain ⟨_,h8j,f9j⟩:=Ab f5j
   have gd89:=Az h8j
   refine GV Aq CJ rfl rfl gd89 fun A2b w4 E8d ow0k=>?_
   refine nrm ?_
   have X8b:=xtr X1b E8d
   refine sV (Ac rfl) ?_
   refine wh h7j<|wp_seq_k fun _ h1k=>Ae<|sV3 (Aa rfl) (Aa rfl) (Aa rfl) ?_
   obtain ⟨r9b,h2k,f3k⟩:=Ab f9j
   refine sc (Ad KG (by rfl)) (DT x0 r5a A1 c2 w4 (tbx X8b hT) (n3.ext X8b) r9b h2k) ?_
   rintro _ w5 E0c ⟨A7q,c8q,rfl,n4k⟩
   refine nrm ?_
   have X5k:=xtr X8b E0c
   have X6k:=xtr E8d E0c
   refine QJ Aq An rfl rfl (ow0k.ext E0c) n4k fun w6 B105 ow9d=>?_
   refine nrm ?_
   have X0e:=xO X5k B105 X1b.size
   have X1e:=xO X6k B105 (Nat.le_refl _)
   refine wh h1k<|wp_seq_k fun _ h7k=>Ae<|sV3 (Aa rfl) (Ax Aq rfl) (Ac rfl) ?_
   refine wh h7k<|wp_seq_k fun _ h8k=>Ae<|sV3 (Aa rfl) (Ax Aq rfl) (Aa rfl) ?_
   refine sV (Ba (c:=wi64 ((((((wi64 ((x0.length:Int)+1)):Int).toNat):Nat):Int) - (r0a.length:Int))) rfl rfl rfl) ?_
   obtain ⟨_,h9k,f0l⟩:=Ab f3k
   have gd117:=Az h9k
   have hl118:=OW.lt ow9d
   refine GV Aq CJ rfl rfl gd117 fun A6a w7 E1c ow1l=>?_
   refine nrm ?_
   have X2l:=xtr X0e E1c
   have X3l:=xtr X1e E1c
   refine sV (Ac rfl) ?_
   refine wh h8k<|wp_seq_k fun _ h4l=>wp_seq_k fun _ h5l=>Ae<|sV3 (Aa rfl) (Ax Aq rfl) (Aa rfl) ?_
   refine sV3 (Ba (c:=wi64 ((((((wi64 ((x0.length:Int)+1)):Int).toNat):Nat):Int) - (r0a.length:Int))) rfl rfl rfl) (Ba (c:=wi64 ((wi64 ((((((wi64 ((x0.length:Int)+1)):Int).toNat):Nat):Int) - (r0a.length:Int))) - 1)) rfl rfl rfl) (Ac rfl) ?_
   refine wh h5l ?_
   obtain ⟨m7a,h6l,f7l⟩:=Ab f0l
   refine BX (fun l l' w'=>Ext w w'∧Ext w3 w'∧OW 179 w6.heap.size w' A6a (((wi64 ((((((wi64 ((x0.length:Int)+1)):Int).toNat):Nat):Int) - (r0a.length:Int))):Int).toNat) (((wi64 ((((((wi64 ((x0.length:Int)+1)):Int).toNat):Nat):Int) - (r0a.length:Int))):Int).toNat) m7a.1∧OW 179 w3.heap.size w' A2b (((wi64 ((x0.length:Int)+1)):Int).toNat) (((wi64 ((x0.length:Int)+1)):Int).toNat) m7a.2∧Fr l' (fun t3b=>gp t3b 0 6 (.int .i64 r5a::gp t3b 7 1 (.slice A2b (((wi64 ((x0.length:Int)+1)):Int).toNat) (((wi64 ((x0.length:Int)+1)):Int).toNat)::.int .i64 (r0a.length:Int)::.slice A6a (((wi64 ((((((wi64 ((x0.length:Int)+1)):Int).toNat):Nat):Int) - (r0a.length:Int))):Int).toNat) (((wi64 ((((((wi64 ((x0.length:Int)+1)):Int).toNat):Nat):Int) - (r0a.length:Int))):Int).toNat)::gp t3b 11 71 [])))) ?_ ?_
   ·apply wp_block
    refine AP (fun l n2e l' w'=>∃(v1a:Int) (v8a:List Int) (v3a:List Int),Ext w w'∧Ext w3 w'∧OW 179 w6.heap.size w' A6a (((wi64 ((((((wi64 ((x0.length:Int)+1)):Int).toNat):Nat):Int) - (r0a.length:Int))):Int).toNat) (((wi64 ((((((wi64 ((x0.length:Int)+1)):Int).toNat):Nat):Int) - (r0a.length:Int))):Int).toNat) v8a∧OW 179 w3.heap.size w' A2b (((wi64 ((x0.length:Int)+1)):Int).toNat) (((wi64 ((x0.length:Int)+1)):Int).toNat) v3a∧EW x0 x1 r0a n2e v1a v8a v3a=some m7a∧Fr l' (fun t2c=>gp t2c 0 6 (.int .i64 r5a::.slice A5d r0a.length c6d::.slice A2b (((wi64 ((x0.length:Int)+1)):Int).toNat) (((wi64 ((x0.length:Int)+1)):Int).toNat)::.int .i64 (r0a.length:Int)::.slice A6a (((wi64 ((((((wi64 ((x0.length:Int)+1)):Int).toNat):Nat):Int) - (r0a.length:Int))):Int).toNat) (((wi64 ((((((wi64 ((x0.length:Int)+1)):Int).toNat):Nat):Int) - (r0a.length:Int))):Int).toNat)::.int .i64 v1a::gp t2c 12 70 []))) 18446744073709551616 ?_ ?_ ?_
    ·exact ⟨(wi64 ((wi64 ((((((wi64 ((x0.length:Int)+1)):Int).toNat):Nat):Int) - (r0a.length:Int))) - 1)),(List.replicate ((wi64 ((((((wi64 ((x0.length:Int)+1)):Int).toNat):Nat):Int) - (r0a.length:Int))):Int).toNat (0:Int)),((r9b).take (List.length (List.replicate ((wi64 ((x0.length:Int)+1)):Int).toNat (0:Int)))++(List.replicate ((wi64 ((x0.length:Int)+1)):Int).toNat (0:Int)).drop r9b.length),X2l,X3l,ow1l,(ow9d.ext E1c),h6l,(Fr.mk (by kernel_rfl))⟩
    ·rintro l' w' ⟨v1a,v8a,v3a,_,_,_,_,hz,_⟩
     exact nomatch hz
    ·rintro n2e ih8l _ w8 ⟨v1a,v8a,v3a,X3c,X4c,ow3e,ow4a,hr4e,⟨t2c,rfl⟩⟩ l'' hl
     simp only [gp,Nat.reduceAdd] at hl
     subst hl
     unfold EW at hr4e
     refine AV<|wp_seq_k fun _ h9l=>wp_seq_k fun _ h0m=>Ae<|sV (Aa rfl) ?_
     refine sb (Fu rfl rfl) fun z5e hz5e=>?_
     refine nrm ?_
     refine wh h0m ?_
     rcases zi hz5e hr4e with ⟨e5c,_,f1m⟩ | ⟨e5c,_,f2m⟩
     ·refine wp_cond_true (Ai (evb rfl e5c))<|wp_skip<|h9l _ _<|wp_seq_k fun _ h3m=>?_
      apply wp_block
      refine Ae<|sV3 (Aa rfl) (Aa rfl) (Aa rfl) ?_
      refine sV3 (Aa rfl) (Aa rfl) (Aa rfl) ?_
      refine sV2 (AM (c:=wi64 (v1a+(r0a.length:Int))) rfl rfl rfl) (AM (c:=wi64 ((wi64 (v1a+(r0a.length:Int)))+1)) rfl rfl rfl) ?_
      obtain ⟨_,h4m,f5m⟩:=Ab f1m
      have gd465:=Az h4m
      obtain ⟨b6e,ys467,hA7e,hz6m,g6c,q8e,bk472⟩:=OW.win (lo:=(v1a:Int).toNat) (hi:=((wi64 ((wi64 (v1a+(r0a.length:Int)))+1)):Int).toNat) ow4a (by omega) (by rw [←OW.len ow4a];omega)
      refine swin (lo:=(v1a:Int).toNat) (hi:=((wi64 ((wi64 (v1a+(r0a.length:Int)))+1)):Int).toNat) Aq An rfl ⟨.i64,by rw [Int.toNat_of_nonneg (a:=v1a) (by omega)];rfl⟩ ⟨.i64,by rw [Int.toNat_of_nonneg (a:=(wi64 ((wi64 (v1a+(r0a.length:Int)))+1))) (by omega)];rfl⟩ (by omega) (by rw [←OW.len ow4a];omega) ow4a hA7e ?_
      refine nrm ?_
      refine sV (Aa rfl) ?_
      obtain ⟨r7c,h7m,f8m⟩:=Ab f5m
      refine scK (Ad en_238 (by rfl)) (c_wide_digit ((List.drop ((v1a:Int).toNat) v3a).take ((((wi64 ((wi64 (v1a+(r0a.length:Int)))+1)):Int).toNat) - ((v1a:Int).toNat))) r0a (some ⟨b6e,List.length ((v3a).take ((v1a:Int).toNat)),none⟩) ((((wi64 ((x0.length:Int)+1)):Int).toNat) - ((v1a:Int).toNat)) A5d c6d b6e ((v3a).take ((v1a:Int).toNat)) ys467 w8 (tbx X3c hT) ⟨rfl,rfl,q8e,by have:=OW.cap ow4a;simp only [List.length_take,List.length_drop];omega,by have:=(OW.rl ow4a).2.1;omega⟩  (TB.nz (tbx X1b hT) g6c) (n7d.ext X4c) (apartB n7d g6c) r7c h7m) ?_
      rintro _ w9 ⟨U9e,hl478,q9m,_,rfl,rfl⟩
      refine ⟨_,rfl,?_⟩
      refine nrm ?_
      have B480:=UpdS.below U9e g6c q8e.lt
      have ow0n:=bk472 _ _ (by rw [hl478];simp only [List.length_take,List.length_drop];omega) q9m
      have X1n:=xO X3c B480 X1b.size
      have X2n:=xO X4c B480 (Nat.le_refl _)
      have ow8c:=OW.updO ow3e U9e (hl118 _ hA7e hz6m)
      obtain ⟨u9q,h3n,f4n⟩:=Ab f8m
      obtain ⟨bb488,hA0f,hz0r,ia1f,ib2f,hc493⟩:=OW.nthc ow8c h3n
      refine sV (As Aq An rfl rfl hA0f ia1f ib2f) ?_
      refine KP An rfl rfl ow8c hA0f ia1f (by rw [OW.len ow8c];exact ib2f) fun w0b B494 U1r ow5n=>?_
      have X6n:=xO X1n B494 X0e.size
      have X7n:=xO X2n B494 X1e.size
      have ow8n:=OW.bel2 ow0n B494 hl118
      refine wh h3m<|Ae<|sV3 (Aa rfl) (Ba (c:=wi64 (v1a - 1)) rfl rfl rfl) (Ac rfl) ?_
      refine AG ?_
      exact ih8l _ _ ⟨(wi64 (v1a - 1)),(List.set v8a (v1a:Int).toNat r7c.1),(((v3a).take ((v1a:Int).toNat))++r7c.2++((v3a).drop (((wi64 ((wi64 (v1a+(r0a.length:Int)))+1)):Int).toNat))),X6n,X7n,ow5n,ow8n,f4n,(Fr.mk (by kernel_rfl))⟩
     ·refine wp_cond_false (Ai (evb rfl e5c))<|wp_exit ?_
      simp only [Exit.then,Exit.inBlock,↓reduceIte,Nat.reduceEqDiff]
      obtain rfl:=sj f2m
      exact ⟨_,rfl,X3c,X4c,ow3e,ow4a,(Fr.mk (by kernel_rfl))⟩
   ·rintro _ w8 ⟨X9n,X2r,ow3f,ow4f,⟨t3b,rfl⟩⟩ l'' hl
    simp only [gp,Nat.reduceAdd] at hl
    subst hl
    refine h4l _ _<|wp_seq_k fun _ h0o=>Dn [] 10 mo rfl fun w9 E9a S1o=>have X5f:=xtr X9n E9a;dA 0 rfl (fun _=>Aa rfl) ?_
    refine dA 2 rfl (fun _=>Aa rfl) ?_
    refine dA 3 rfl (fun _=>Aa rfl) ?_
    obtain ⟨_,h2o,f3o⟩:=Ab f7l
    have gd507:=Az h2o
    refine dslice 4 rfl (lo:=0) (hi:=((r0a.length:Int):Int).toNat) Aq An (by rw [OW.len (ow4f.ext E9a)];rfl) rfl ⟨.i64,by rw [Int.toNat_of_nonneg (a:=(r0a.length:Int)) (by omega)];rfl⟩ (by omega) (by omega) (OW.rl (ow4f.ext E9a)) fun A4o c5o n6o=>?_
    refine dnrm ?_
    refine dA 6 rfl (fun _=>Aa rfl) ?_
    obtain ⟨r7o,h8o,f9o⟩:=Ab f3o
    refine dc 1 rfl (by kernel_rfl) (by rfl) (Ad KH (by simp only [OW.len (ow3f.ext E9a)];rfl)) (DV m7a.1 A6a (((wi64 ((((((wi64 ((x0.length:Int)+1)):Int).toNat):Nat):Int) - (r0a.length:Int))):Int).toNat) w9 (tbx X5f hT) (OW.rl (ow3f.ext E9a)) r7o h8o) ?_
    rintro _ w0b E9c ⟨A0p,c1p,rfl,n2p⟩
    refine dnrm ?_
    have X6f:=xtr X5f E9c
    have S3p:=S1o.trans E9c
    obtain ⟨r7f,h4p,f5p⟩:=Ab f9o
    refine dc 5 rfl (by kernel_rfl) (by rfl) (Ad KH (by rfl)) (DV ((List.drop 0 m7a.2).take ((((r0a.length:Int):Int).toNat) - 0)) A4o c5o w0b (tbx X6f hT) (n6o.ext E9c) r7f h4p) ?_
    rintro _ w4b E0d ⟨A6p,c7p,rfl,n8p⟩
    refine dnrm ?_
    have X8f:=xtr X6f E0d
    have S9p:=S3p.trans E0d
    obtain ⟨r0q,h1q,f2q⟩:=Ab f5p
    refine dc 7 rfl (by kernel_rfl) (by rfl) (Ad MV (by rfl)) (GG r7f r5a A6p c7p w4b (tbx X8f hT) n8p r0q h1q) ?_
    rintro _ w2d E1d ⟨A3q,c4q,rfl,n5q⟩
    refine dnrm ?_
    have X6q:=xtr X8f E1d
    have S3r:=S9p.trans E1d
    refine dA 8 rfl (fun _=>Ac rfl) ?_
    refine dA 9 rfl (fun _=>Ac rfl) ?_
    refine Cn (by kernel_rfl) ?_
    refine h0o _ _<|wp_ret ?_
    obtain rfl:=sj f2q
    exact fin rfl (Res.tmp rfl (Res.tmp rfl Res.nil)) (Aj X6q ⟨A0p,c1p,A3q,c4q,rfl,((n2p.ext E0d).ext E1d),n5q⟩)
end Go.Proofs.Lf

