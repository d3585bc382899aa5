import Derived.Test.YtabiobmfelafoaaGreatDoorLeaf0
namespace Go.Proofs.Lf
set_option linter.unusedVariables false
set_option linter.unusedSimpArgs false
set_option maxHeartbeats 4000000
open Go.RowKit Go.Sb Go.Proofs Go.Proofs.Sbn
set_option maxRecDepth 20000 in
theorem c_wide_digit (x0:List Int) (x1:List Int) (A1:Option Addr) (c2:Nat) (A4:Option Addr) (c5:Nat) (bp0:Nat) (pre ys:List Int) (w:World) (hT:TB w) (q0:WN 179 bp0 pre ys w A1 x0.length c2 x0) (hb0:bp0≠0) (n6:RLu w A4 c5 x1) (ap0:Apart A4 x1 bp0) (r:(Int) × List Int) (hr:Jd x0 x1=some r) :
  Calls Tryz.prog 238 #[.slice A1 x0.length c2,.slice A4 x1.length c5] w (RetW 179 bp0 pre ys x0.length Qd w r):=by
 unfold Jd at hr
 refine Ns Tryz.func238 rfl [.slice A1 x0.length c2,.slice A4 x1.length c5,uu,uu,uu,uu,uu,uu,uu,uu,uu,uu,uu,uu,uu,uu,uu,uu,uu,uu,uu,uu,uu,uu,uu,uu,uu,uu,uu,uu,uu,uu,uu,uu,uu,uu,uu,uu,uu,uu,uu,uu,uu,uu,uu,uu,uu,uu,uu,uu,uu,uu,uu,uu,uu,uu,uu,uu,uu,uu,uu,uu,uu,uu,uu,uu,uu,uu,uu,uu,uu,uu,uu,uu,uu,uu,uu,uu,uu,uu,uu,uu,uu,uu,uu,uu,uu,uu,uu,uu,uu,uu,uu,uu,uu,uu,uu,uu,uu,uu,uu,uu,uu,uu,uu,uu,uu,uu,uu,uu,uu,uu,uu,uu,uu,uu,uu,uu,uu,uu,uu,uu,uu,uu,uu,uu,uu,uu,uu,uu,uu,uu,uu,uu,uu,uu,uu,uu,uu,uu,uu,uu,uu,uu,uu,uu,uu,uu,uu,uu,uu,uu,uu,uu,uu,uu,uu,uu,uu,uu,uu,uu,uu,uu,uu,uu,uu,uu,uu,uu,uu,uu,uu,uu,uu] (by kernel_rfl) ?_
 refine wp_seq_k fun _ h7=>Af<|sV (Ab rfl) ?_
 refine wh h7<|wp_seq_k fun _ h8=>Af<|sV3 (Aa rfl) (AG As rfl) (Ab rfl) ?_
 refine wh h8<|wp_seq_k fun _ h9=>DK [] 14 mo rfl fun w1 E9a S0f=>have X4i:=UpdS.ext (UpdS.refl [bp0] w) E9a;dA 0 rfl (fun _=>Aa rfl) ?_
 refine dA 1 rfl (fun _=>Aa rfl) ?_
 obtain ⟨u8b,h5i,f6i⟩:=Ac hr
 obtain ⟨bb16,hA7i,hz0a0,ia8i,ib9i,hc21⟩:=WN.nthc (q0.ext E9a) h5i
 refine dA 2 rfl (fun _=>AD As Au rfl rfl hA7i ia8i ib9i) ?_
 refine dV 3 rfl (fun _ hw=>Ai Bg rfl (DZ hc21 hw)) S0f ?_
 refine dA 4 rfl (fun _=>Ba (c:=wu64 u8b) Bd AW rfl rfl) ?_
 refine dA 5 rfl (fun _=>Ll (c:=wu64 ((wu64 u8b)*2^min (32:Int).toNat IntKind.u64.bits)) (by decide) rfl rfl rfl) ?_
 refine dA 6 rfl (fun _=>Aa rfl) ?_
 refine dA 7 rfl (fun _=>Aa rfl) ?_
 refine dA 8 rfl (fun _=>BA (c:=wi64 ((x1.length:Int) - 1)) rfl rfl rfl) ?_
 obtain ⟨u5c,h0j,f1j⟩:=Ac f6i
 obtain ⟨bb25,hA2j,hz1a0,ia3j,ib4j,hc30⟩:=WN.nthc (q0.ext E9a) h0j
 refine dA 9 rfl (fun _=>AD As Au rfl rfl hA2j ia3j ib4j) ?_
 refine dV 10 rfl (fun _ hw=>Ai Bg rfl (DZ hc30 hw)) S0f ?_
 refine dA 11 rfl (fun _=>Ba (c:=wu64 u5c) Bd AW rfl rfl) ?_
 refine dA 12 rfl (fun _=>NN rfl rfl) ?_
 refine dA 13 rfl (fun _=>Ab rfl) ?_
 refine CE (by kernel_rfl) ?_
 refine h9 _ _<|wp_seq_k fun _ h5j=>DK [] 18 mo rfl fun w2 E2b S1f=>have X6j:=UpdS.ext X4i E2b;dA 0 rfl (fun _=>Aa rfl) ?_
 refine dA 1 rfl (fun _=>Aa rfl) ?_
 refine dA 2 rfl (fun _=>Aa rfl) ?_
 refine dA 3 rfl (fun _=>BA (c:=wi64 ((x1.length:Int) - 1)) rfl rfl rfl) ?_
 obtain ⟨u8d,h7j,f8j⟩:=Ac f1j
 obtain ⟨bb38,oo39,hA9j,ia0k,ib1k,hc41⟩:=RL.nth ((n6.ext E9a).ext E2b) h7j
 refine dA 4 rfl (fun _=>AD As Au rfl rfl hA9j ia0k ib1k) ?_
 refine dV 5 rfl (fun _ hw=>Ai Bg rfl (DZ hc41 hw)) S1f ?_
 refine dA 6 rfl (fun _=>Ba (c:=wu64 u8d) Bd AW rfl rfl) ?_
 obtain ⟨_,h2k,f3k⟩:=Ac f8j
 have gd46:=AN h2k
 refine dA 7 rfl (fun _=>Jj (c:=wu64 ((bor .u64 (wu64 ((wu64 u8b)*2^min (32:Int).toNat IntKind.u64.bits)) (wu64 u5c)).tdiv (wu64 u8d))) (decide_eq_true gd46) rfl rfl rfl) ?_
 refine dA 8 rfl (fun _=>Aa rfl) ?_
 refine dA 9 rfl (fun _=>Aa rfl) ?_
 refine dA 10 rfl (fun _=>Aa rfl) ?_
 refine dA 11 rfl (fun _=>BA (c:=wi64 ((x1.length:Int) - 1)) rfl rfl rfl) ?_
 obtain ⟨u9d,h4k,f5k⟩:=Ac f3k
 obtain ⟨bb50,oo51,hA6k,ia7k,ib8k,hc53⟩:=RL.nth ((n6.ext E9a).ext E2b) h4k
 refine dA 12 rfl (fun _=>AD As Au rfl rfl hA6k ia7k ib8k) ?_
 refine dV 13 rfl (fun _ hw=>Ai Bg rfl (DZ hc53 hw)) S1f ?_
 refine dA 14 rfl (fun _=>Ba (c:=wu64 u9d) Bd AW rfl rfl) ?_
 obtain ⟨_,h9k,f0l⟩:=Ac f5k
 have gd58:=AN h9k
 refine dA 15 rfl (fun _=>Le (c:=(bor .u64 (wu64 ((wu64 u8b)*2^min (32:Int).toNat IntKind.u64.bits)) (wu64 u5c)).tmod (wu64 u9d)) (decide_eq_true gd58) rfl rfl rfl) ?_
 refine dA 16 rfl (fun _=>Ab rfl) ?_
 refine dA 17 rfl (fun _=>Ab rfl) ?_
 refine CE (by kernel_rfl) ?_
 refine h5j _ _<|wp_seq_k fun _ h1l=>?_
 obtain ⟨m3a,h2l,f3l⟩:=Ac f0l
 refine Dm (fun l l' w'=>Ext w2 w'∧Fr l' (fun t4d=>.slice A1 x0.length c2::.slice A4 x1.length c5::gp t4d 2 3 (.int .i64 (x1.length:Int)::gp t4d 6 1 (.int .u64 m3a::gp t4d 8 167 [])))) ?_ ?_
 ·apply wp_block
  refine BI (fun l n2f l' w'=>∃(v7a:Int) (v6a:Int) (t2a:Nat→Value),Ext w2 w'∧Gb x0 x1 n2f v7a v6a=some m3a∧Fr l' (fun t6c=>.slice A1 x0.length c2::.slice A4 x1.length c5::gp t6c 2 3 (.int .i64 (x1.length:Int)::gp t6c 6 1 (.int .u64 v7a::.int .u64 v6a::gp t6c 9 43 ((t2a 0)::(t2a 1)::(t2a 2)::(t2a 3)::(t2a 4)::(t2a 5)::(t2a 6)::(t2a 7)::(t2a 8)::(t2a 9)::(t2a 10)::(t2a 11)::(t2a 12)::(t2a 13)::(t2a 14)::(t2a 15)::(t2a 16)::(t2a 17)::gp t6c 70 105 []))))) 18446744073709551616 ?_ ?_ ?_
  ·exact ⟨(wu64 ((bor .u64 (wu64 ((wu64 u8b)*2^min (32:Int).toNat IntKind.u64.bits)) (wu64 u5c)).tdiv (wu64 u8d))),((bor .u64 (wu64 ((wu64 u8b)*2^min (32:Int).toNat IntKind.u64.bits)) (wu64 u5c)).tmod (wu64 u9d)),(tk [uu,uu,uu,uu,uu,uu,uu,uu,uu,uu,uu,uu,uu,uu,uu,uu,uu,uu]),(Ext.refl _),h2l,(Fr.mk (by kernel_rfl))⟩
  ·rintro l' w' ⟨v7a,v6a,t2a,_,hz,_⟩
   exact nomatch hz
  ·rintro n2f ih4l _ w3 ⟨v7a,v6a,t2a,U9b,hr3f,⟨t6c,rfl⟩⟩ l'' hl
   simp only [gp,Nat.reduceAdd] at hl
   subst hl
   unfold Gb at hr3f
   refine Bk<|wp_seq_k fun _ h5l=>wp_seq_k fun _ h6l=>DK [] 22 mo rfl fun w4 E0c S4f=>dA 0 rfl (fun _=>Aa rfl) ?_
   refine dab 1 rfl (by kernel_rfl) (fun _ _ _ h=>h) (by rfl) (fun _=>FP rfl rfl) fun z5f hz5f=>?_
   refine dnrm ?_
   refine dA 2 rfl (fun _=>Aa rfl) ?_
   obtain ⟨m7l,h8l,f9l⟩:=Ac hr3f
   refine JQ #[true,true,true,true,true,true,true,true,true,true,true,true,true,true,true,true,true,true,true,true,true,true] 0 (fun l l' w'=>∃(t1a:Nat→Value),w4=w'∧l'=(((((((((((((((((((l.set 52 (t1a 0)).set 53 (t1a 1)).set 54 (t1a 2)).set 55 (t1a 3)).set 56 (t1a 4)).set 57 (t1a 5)).set 58 (t1a 6)).set 59 (t1a 7)).set 60 (t1a 8)).set 61 (t1a 9)).set 62 (t1a 10)).set 63 (t1a 11)).set 64 (t1a 12)).set 65 (t1a 13)).set 66 (t1a 14)).set 67 (t1a 15)).set 68 (t1a 16)).set 69 (t1a 17)).set 70 (.bool m7l))) ?_ ?_
   ·intro HJ629
    rcases zi hz5f h8l with ⟨e0a,_,f0m⟩ | ⟨e0a,_,f1m⟩
    ·refine dP 3 rfl ?_ (hw:=wgF rfl e0a)
     refine dP 4 rfl ?_ (hw:=wgF rfl e0a)
     refine dP 5 rfl ?_ (hw:=wgF rfl e0a)
     refine dP 6 rfl ?_ (hw:=wgF rfl e0a)
     refine dP 7 rfl ?_ (hw:=wgF rfl e0a)
     refine dP 8 rfl ?_ (hw:=wgF rfl e0a)
     refine dP 9 rfl ?_ (hw:=wgF rfl e0a)
     refine dP 10 rfl ?_ (hw:=wgF rfl e0a)
     refine dP 11 rfl ?_ (hw:=wgF rfl e0a)
     refine dP 12 rfl ?_ (hw:=wgF rfl e0a)
     refine dP 13 rfl ?_ (hw:=wgF rfl e0a)
     refine dP 14 rfl ?_ (hw:=wgF rfl e0a)
     refine dP 15 rfl ?_ (hw:=wgF rfl e0a)
     refine dP 16 rfl ?_ (hw:=wgF rfl e0a)
     refine dP 17 rfl ?_ (hw:=wgF rfl e0a)
     refine dP 18 rfl ?_ (hw:=wgF rfl e0a)
     refine dP 19 rfl ?_ (hw:=wgF rfl e0a)
     refine dP 20 rfl ?_ (hw:=wgF rfl e0a)
     refine dA 21 rfl (fun _=>AA (evb rfl e0a) rfl) ?_
     obtain rfl:=sj f0m
     exact Cm (by kernel_rfl) (HJ629 _ _ ⟨(tk [uu,uu,uu,uu,uu,uu,uu,uu,uu,uu,uu,uu,uu,uu,uu,uu,uu,uu]),(by trivial),(by kernel_rfl)⟩)
    ·refine dA 3 rfl (fun _=>Aa rfl) ?_ (hw:=wgT rfl e0a)
     refine dA 4 rfl (fun _=>Aa rfl) ?_ (hw:=wgT rfl e0a)
     refine dA 5 rfl (fun _=>Aa rfl) ?_ (hw:=wgT rfl e0a)
     refine dA 6 rfl (fun _=>BA (c:=wi64 ((x1.length:Int) - 2)) rfl rfl rfl) ?_ (hw:=wgT rfl e0a)
     have n2m:=(((n6.ext E9a).ext E2b).ext U9b).ext E0c
     obtain ⟨u3b,h3m,f4m⟩:=Ac f1m
     obtain ⟨bb639,oo640,hA5m,ia6m,ib7m,hc642⟩:=RL.nth n2m h3m
     refine dA 7 rfl (fun _=>AD As Au rfl rfl hA5m ia6m ib7m) ?_ (hw:=wgT rfl e0a)
     refine dV 8 rfl (fun _ hw=>Ai Bg rfl (DZ hc642 hw)) S4f ?_ (hw:=wgT rfl e0a)
     refine dA 9 rfl (fun _=>Ba (c:=wu64 u3b) Bd AW rfl rfl) ?_ (hw:=wgT rfl e0a)
     refine dA 10 rfl (fun _=>Lg (c:=wu64 (v7a*(wu64 u3b))) rfl rfl rfl) ?_ (hw:=wgT rfl e0a)
     refine dA 11 rfl (fun _=>Aa rfl) ?_ (hw:=wgT rfl e0a)
     refine dA 12 rfl (fun _=>Ll (c:=wu64 (v6a*2^min (32:Int).toNat IntKind.u64.bits)) (by decide) rfl rfl rfl) ?_ (hw:=wgT rfl e0a)
     refine dA 13 rfl (fun _=>Aa rfl) ?_ (hw:=wgT rfl e0a)
     refine dA 14 rfl (fun _=>Aa rfl) ?_ (hw:=wgT rfl e0a)
     refine dA 15 rfl (fun _=>BA (c:=wi64 ((x1.length:Int) - 2)) rfl rfl rfl) ?_ (hw:=wgT rfl e0a)
     have ow8m:=(((q0.ext E9a).ext E2b).ext U9b).ext E0c
     obtain ⟨u1c,h9m,f0n⟩:=Ac f4m
     obtain ⟨bb649,hA1n,hz2a0,ia2n,ib3n,hc654⟩:=WN.nthc ow8m h9m
     refine dA 16 rfl (fun _=>AD As Au rfl rfl hA1n ia2n ib3n) ?_ (hw:=wgT rfl e0a)
     refine dV 17 rfl (fun _ hw=>Ai Bg rfl (DZ hc654 hw)) S4f ?_ (hw:=wgT rfl e0a)
     refine dA 18 rfl (fun _=>Ba (c:=wu64 u1c) Bd AW rfl rfl) ?_ (hw:=wgT rfl e0a)
     refine dA 19 rfl (fun _=>NN rfl rfl) ?_ (hw:=wgT rfl e0a)
     refine dab 20 rfl (by kernel_rfl) (fun _ _ _ h=>h) (wgT rfl e0a) (fun _=>Gm rfl rfl) fun z0e hz0e=>?_
     refine dnrm ?_
     refine dA 21 rfl (fun _=>AC (evb rfl e0a) rfl) ?_
     obtain rfl:z0e=decide ((bor .u64 (wu64 (v6a*2^min (32:Int).toNat IntKind.u64.bits)) (wu64 u1c))<(wu64 (v7a*(wu64 u3b)))):=bz hz0e
     obtain rfl:=sj f0n
     exact Cm (by kernel_rfl) (HJ629 _ _ ⟨(tk [.int .u64 v7a,.slice A4 x1.length c5,.int .i64 (x1.length:Int),.int .i64 (wi64 ((x1.length:Int) - 2)),.pointer (some ⟨bb639,oo640+((wi64 ((x1.length:Int) - 2)):Int).toNat,none⟩),.int .u32 u3b,.int .u64 (wu64 u3b),.int .u64 (wu64 (v7a*(wu64 u3b))),.int .u64 v6a,.int .u64 (wu64 (v6a*2^min (32:Int).toNat IntKind.u64.bits)),.slice A1 x0.length c2,.int .i64 (x1.length:Int),.int .i64 (wi64 ((x1.length:Int) - 2)),.pointer (some ⟨bb649,List.length pre+((wi64 ((x1.length:Int) - 2)):Int).toNat,none⟩),.int .u32 u1c,.int .u64 (wu64 u1c),.int .u64 (bor .u64 (wu64 (v6a*2^min (32:Int).toNat IntKind.u64.bits)) (wu64 u1c)),.bool (decide ((bor .u64 (wu64 (v6a*2^min (32:Int).toNat IntKind.u64.bits)) (wu64 u1c))<(wu64 (v7a*(wu64 u3b)))))]),(by trivial),(by kernel_rfl)⟩)
   ·rintro l' _ ⟨t1a,rfl,hq'⟩ l'' hl
    rw [hq'] at hl
    clear hq'
    simp only [S0,S1] at hl
    subst hl
    refine CE (by kernel_rfl) ?_
    refine h6l _ _ ?_
    rcases zb f9l with ⟨e1e,f4n⟩ | ⟨e1e,f5n⟩
    ·refine wp_cond_true (Ak (evb rfl e1e))<|wp_skip<|h5l _ _ ?_
     apply wp_block
     refine wp_seq_k fun _ h6n=>Af<|sV3 (Aa rfl) (BA (c:=wu64 (v7a - 1)) rfl rfl rfl) (Ab rfl) ?_
     refine wh h6n<|wp_seq_k fun _ h7n=>Af<|sV3 (Aa rfl) (Aa rfl) (Aa rfl) ?_
     refine sV (BA (c:=wi64 ((x1.length:Int) - 1)) rfl rfl rfl) ?_
     have n8n:=(((n6.ext E9a).ext E2b).ext U9b).ext E0c
     obtain ⟨u2e,h9n,f0o⟩:=Ac f4n
     obtain ⟨bb672,oo673,hA1o,ia2o,ib3o,hc675⟩:=RL.nth n8n h9n
     refine sV3 (AD As Au rfl rfl hA1o ia2o ib3o) (Ai Bg rfl hc675) (Ba (c:=wu64 u2e) Bd AW rfl rfl) ?_
     refine sV2 (Bj (c:=wu64 (v6a+(wu64 u2e))) rfl rfl rfl) (Ab rfl) ?_
     refine wh h7n<|wp_seq_k fun _ h4o=>Af<|sV (Aa rfl) ?_
     refine sb (FP rfl rfl) fun z6f hz6f=>?_
     refine nrm ?_
     refine wh h4o ?_
     rcases zi hz6f f0o with ⟨e3e,_,f5o⟩ | ⟨e3e,_,f6o⟩
     ·refine wp_cond_true (Ak (evb rfl e3e))<|wp_exit ?_
      simp only [Exit.then,Exit.inBlock,↓reduceIte,Nat.reduceEqDiff]
      obtain rfl:=sj f5o
      exact ⟨_,rfl,(U9b.trans E0c),(Fr.mk (by kernel_rfl))⟩
     ·refine wp_cond_false (Ak (evb rfl e3e))<|wp_skip ?_
      exact ih4l _ _ ⟨(wu64 (v7a - 1)),(wu64 (v6a+(wu64 u2e))),(tk [t1a 0,t1a 1,t1a 2,t1a 3,t1a 4,t1a 5,t1a 6,t1a 7,t1a 8,t1a 9,t1a 10,t1a 11,t1a 12,t1a 13,t1a 14,t1a 15,t1a 16,t1a 17]),(U9b.trans E0c),f6o,(Fr.mk (by kernel_rfl))⟩
    ·refine wp_cond_false (Ak (evb rfl e1e))<|wp_exit ?_
     simp only [Exit.then,Exit.inBlock,↓reduceIte,Nat.reduceEqDiff]
     obtain rfl:=sj f5n
     exact ⟨_,rfl,(U9b.trans E0c),(Fr.mk (by kernel_rfl))⟩
 ·rintro _ w3 ⟨U7f,⟨t4d,rfl⟩⟩ l'' hl
  simp only [gp,Nat.reduceAdd] at hl
  subst hl
  have X7o:=UpdS.ext X6j U7f
  refine h1l _ _<|wp_seq_k fun _ h8o=>Af<|sV2 (Ab rfl) (Ab rfl) ?_
  refine wh h8o<|wp_seq_k fun _ h9o=>wp_seq_k fun _ h0p=>Af<|sV3 (Aa rfl) (AG As rfl) (Aa rfl) ?_
  refine wh h0p ?_
  obtain ⟨m4a,h1p,f2p⟩:=Ac f3l
  refine Dm (fun l l' w'=>UpdS [bp0] w w'∧WN 179 bp0 pre ys w' A1 x0.length c2 m4a.2.2∧Fr l' (fun t7c=>.slice A1 x0.length c2::.slice A4 x1.length c5::gp t7c 2 3 (.int .i64 (x1.length:Int)::gp t7c 6 1 (.int .u64 m3a::gp t7c 8 1 (.int .u64 m4a.1::.int .u64 m4a.2.1::gp t7c 11 164 []))))) ?_ ?_
  ·apply wp_block
   refine BI (fun l n8f l' w'=>∃(v1b:Int) (v5a:Int) (v4b:Int) (v8c:List Int),UpdS [bp0] w w'∧WN 179 bp0 pre ys w' A1 x0.length c2 v8c∧Fs x0 x1 m3a n8f v1b v5a v4b v8c=some m4a∧Fr l' (fun t2c=>.slice A1 x0.length c2::.slice A4 x1.length c5::gp t2c 2 3 (.int .i64 (x1.length:Int)::gp t2c 6 1 (.int .u64 m3a::gp t2c 8 1 (.int .u64 v1b::.int .u64 v5a::gp t2c 11 72 (.slice A4 x1.length c5::.int .i64 (x1.length:Int)::.int .i64 v4b::gp t2c 86 89 [])))))) 18446744073709551616 ?_ ?_ ?_
   ·have ow3p:=((q0.ext E9a).ext E2b).ext U7f
    exact ⟨0,0,0,x0,X7o,ow3p,h1p,(Fr.mk (by kernel_rfl))⟩
   ·rintro l' w' ⟨v1b,v5a,v4b,v8c,_,_,hz,_⟩
    exact nomatch hz
   ·rintro n8f ih4p _ w4 ⟨v1b,v5a,v4b,v8c,X4e,ow3c,hr9f,⟨t2c,rfl⟩⟩ l'' hl
    simp only [gp,Nat.reduceAdd] at hl
    subst hl
    unfold Fs at hr9f
    refine Bk<|wp_seq_k fun _ h5p=>Af<|sb (Cn rfl rfl) fun z0g hz0g=>?_
    refine nrm ?_
    refine wh h5p<|wp_seq_k fun _ h6p=>?_
    rcases zi hz0g hr9f with ⟨e5e,_,f7p⟩ | ⟨e5e,_,f8p⟩
    ·refine wp_cond_true (Ak (evb rfl e5e))<|wp_skip<|h6p _ _<|wp_seq_k fun _ h9p=>?_
     apply wp_block
     refine wp_seq_k fun _ h0q=>Af<|sV (Aa rfl) ?_
     obtain ⟨u8a,h1q,f2q⟩:=Ac f7p
     obtain ⟨bb1169,oo1170,hA3q,ia4q,ib5q,hc1172⟩:=RL.nth (RL.updW n6 X4e ap0) h1q
     refine sV3 (AD As Au rfl rfl hA3q ia4q ib5q) (Ai Bg rfl hc1172) (Ab rfl) ?_
     refine sV (Ab rfl) ?_
     refine wh h0q<|wp_seq_k fun _ h6q=>Af<|sV3 (Aa rfl) (Aa rfl) (Aa rfl) ?_
     refine sV3 (Ba (c:=wu64 u8a) Bd AW rfl rfl) (Lg (c:=wu64 (m3a*(wu64 u8a))) rfl rfl rfl) (Bj (c:=wu64 (v5a+(wu64 (m3a*(wu64 u8a))))) rfl rfl rfl) ?_
     refine sV (Ab rfl) ?_
     refine wh h6q<|wp_seq_k fun _ h7q=>Af<|sV3 (Aa rfl) (Ba (c:=wu32 (wu64 (v5a+(wu64 (m3a*(wu64 u8a)))))) AW Bd rfl rfl) (Ba (c:=wu64 (wu32 (wu64 (v5a+(wu64 (m3a*(wu64 u8a))))))) Bd AW rfl rfl) ?_
     refine sV3 (Aa rfl) (Bj (c:=wu64 ((wu64 (wu32 (wu64 (v5a+(wu64 (m3a*(wu64 u8a)))))))+v1b)) rfl rfl rfl) (Ab rfl) ?_
     refine wh h7q<|wp_seq_k fun _ h8q=>Af<|sV2 (Aa rfl) (Jl (c:=(wu64 (v5a+(wu64 (m3a*(wu64 u8a))))).fdiv (2^min (32:Int).toNat IntKind.u64.bits)) (by decide) rfl rfl rfl) ?_
     refine sV (Ab rfl) ?_
     refine wh h8q<|wp_seq_k fun _ h9q=>Af<|sV (Ab rfl) ?_
     refine wh h9q<|wp_seq_k fun _ h0r=>wp_seq_k fun _ h1r=>Af<|sV2 (Aa rfl) (Aa rfl) ?_
     obtain ⟨u2r,h3r,f4r⟩:=Ac f2q
     obtain ⟨bb1185,hA5r,hz3a0,ia6r,ib7r,hc1190⟩:=WN.nthc ow3c h3r
     refine sV3 (AD As Au rfl rfl hA5r ia6r ib7r) (Ai Bg rfl hc1190) (Ba (c:=wu64 u2r) Bd AW rfl rfl) ?_
     refine sV (Aa rfl) ?_
     refine sb (Cn rfl rfl) fun z1g hz1g=>?_
     refine nrm ?_
     refine wh h1r ?_
     obtain ⟨m2g,h8r,f9r⟩:=Ac f4r
     refine Dm (fun l l' w'=>w4=w'∧l'=(l.set 9 (.int .u64 m2g))) ?_ ?_
     ·rcases zi hz1g h8r with ⟨e6e,_,f0s⟩ | ⟨e6e,_,f1s⟩
      ·refine wp_cond_true (Ak (evb rfl e6e))<|Af<|sV (Ab rfl) ?_
       refine AK ?_
       obtain rfl:=sj f0s
       exact ⟨_,rfl,(by trivial),(by kernel_rfl)⟩
      ·refine wp_cond_false (Ak (evb rfl e6e))<|wp_skip ?_
       obtain rfl:=sj f1s
       exact ⟨_,rfl,(by trivial),(by kernel_rfl)⟩
     ·rintro l' _ ⟨rfl,hq'⟩ l'' hl
      rw [hq'] at hl
      clear hq'
      simp only [S0,S1] at hl
      subst hl
      refine h0r _ _<|Af<|sV2 (Aa rfl) (Aa rfl) ?_
      obtain ⟨u3g,h2s,f3s⟩:=Ac f9r
      obtain ⟨bb1211,hA4s,hz4a0,ia5s,ib6s,hc1216⟩:=WN.nthc ow3c h2s
      refine sV3 (AD As Au rfl rfl hA4s ia5s ib6s) (Ai Bg rfl hc1216) (Aa rfl) ?_
      refine sV2 (Ba (c:=wu32 (wu64 ((wu64 (wu32 (wu64 (v5a+(wu64 (m3a*(wu64 u8a)))))))+v1b))) AW Bd rfl rfl) (BA (c:=wu32 (u3g - (wu32 (wu64 ((wu64 (wu32 (wu64 (v5a+(wu64 (m3a*(wu64 u8a)))))))+v1b))))) rfl rfl rfl) ?_
      obtain ⟨u5a0,h7s,f8s⟩:=Ac f3s
      obtain ⟨bb1220,hA4g,hz6a0,ia5g,ib6g,hc1225⟩:=WN.nthc ow3c h7s
      refine sV (AD As Au rfl rfl hA4g ia5g ib6g) ?_
      refine Qu Au rfl rfl ow3c hA4g ia5g (by rw [WN.len ow3c];exact ib6g) fun w5 U9s ow0t=>?_
      have X1t:=UpdS.tr X4e U9s
      refine wh h9p<|Af<|sV2 (Bj (c:=wi64 (v4b+1)) rfl rfl rfl) (Aa rfl) ?_
      refine AK ?_
      exact ih4p _ _ ⟨m2g,((wu64 (v5a+(wu64 (m3a*(wu64 u8a))))).fdiv (2^min (32:Int).toNat IntKind.u64.bits)),(wi64 (v4b+1)),(List.set v8c (v4b:Int).toNat (wu32 (u3g - (wu32 (wu64 ((wu64 (wu32 (wu64 (v5a+(wu64 (m3a*(wu64 u8a)))))))+v1b)))))),X1t,ow0t,f8s,(Fr.mk (by kernel_rfl))⟩
    ·refine wp_cond_false (Ak (evb rfl e5e))<|wp_exit ?_
     simp only [Exit.then,Exit.inBlock,↓reduceIte,Nat.reduceEqDiff]
     obtain rfl:=sj f8p
     exact ⟨_,rfl,X4e,ow3c,(Fr.mk (by kernel_rfl))⟩
  ·rintro _ w4 ⟨X2t,ow9c,⟨t7c,rfl⟩⟩ l'' hl
   simp only [gp,Nat.reduceAdd] at hl
   subst hl
   refine h9o _ _<|wp_seq_k fun _ h3t=>Af<|sV3 (Aa rfl) (Aa rfl) (Bj (c:=wu64 (m4a.2.1+m4a.1)) rfl rfl rfl) ?_
   refine sV (Ab rfl) ?_
   refine wh h3t<|wp_seq_k fun _ h4t=>Af<|sV2 (Aa rfl) (Aa rfl) ?_
   obtain ⟨u5t,h6t,f7t⟩:=Ac f2p
   obtain ⟨bb1235,hA8t,hz7a0,ia9t,ib0u,hc1240⟩:=WN.nthc ow9c h6t
   refine sV3 (AD As Au rfl rfl hA8t ia9t ib0u) (Ai Bg rfl hc1240) (Ba (c:=wu64 u5t) Bd AW rfl rfl) ?_
   refine sV (Aa rfl) ?_
   refine sb (Cn rfl rfl) fun z7g hz7g=>?_
   refine nrm ?_
   refine sV (Ab rfl) ?_
   refine wh h4t<|wp_seq_k fun _ h1u=>Af<|sV2 (Aa rfl) (Aa rfl) ?_
   obtain ⟨u8g,h2u,f3u⟩:=Ac f7t
   obtain ⟨bb1246,hA4u,hz8a0,ia5u,ib6u,hc1251⟩:=WN.nthc ow9c h2u
   refine sV3 (AD As Au rfl rfl hA4u ia5u ib6u) (Ai Bg rfl hc1251) (Aa rfl) ?_
   refine sV2 (Ba (c:=wu32 (wu64 (m4a.2.1+m4a.1))) AW Bd rfl rfl) (BA (c:=wu32 (u8g - (wu32 (wu64 (m4a.2.1+m4a.1))))) rfl rfl rfl) ?_
   obtain ⟨u9a0,h7u,f8u⟩:=Ac f3u
   obtain ⟨bb1255,hA9g,hz0a1,ia0h,ib1h,hc1260⟩:=WN.nthc ow9c h7u
   refine sV (AD As Au rfl rfl hA9g ia0h ib1h) ?_
   refine Qu Au rfl rfl ow9c hA9g ia0h (by rw [WN.len ow9c];exact ib1h) fun w5 U9u ow2h=>?_
   have X3h:=UpdS.tr X2t U9u
   refine wh h1u<|wp_seq_k fun _ h0v=>wp_seq_k fun _ h1v=>Af<|sV (Aa rfl) ?_
   refine wh h1v ?_
   obtain ⟨m5d,h2v,f3v⟩:=Ac f8u
   refine Dm (fun l l' w'=>UpdS [bp0] w w'∧WN 179 bp0 pre ys w' A1 x0.length c2 m5d.2.2∧Fr l' (fun t6d=>gp t6d 0 7 (.int .u64 m5d.1::gp t6d 8 2 (.int .u64 m5d.2.1::gp t6d 11 164 [])))) ?_ ?_
   ·rcases zi hz7g h2v with ⟨e7e,_,f4v⟩ | ⟨e7e,_,f5v⟩
    ·refine wp_cond_true (Ak (evb rfl e7e))<|wp_seq_k fun _ h6v=>Af<|sV3 (Aa rfl) (BA (c:=wu64 (m3a - 1)) rfl rfl rfl) (Ab rfl) ?_
     refine wh h6v<|wp_seq_k fun _ h7v=>Af<|sV (Ab rfl) ?_
     refine wh h7v<|wp_seq_k fun _ h8v=>wp_seq_k fun _ h9v=>Af<|sV3 (Aa rfl) (AG As rfl) (Aa rfl) ?_
     refine wh h9v ?_
     obtain ⟨m0d,h0w,f1w⟩:=Ac f4v
     refine Dm (fun l l' w'=>UpdS [bp0] w w'∧WN 179 bp0 pre ys w' A1 x0.length c2 m0d.2∧Fr l' (fun t1d=>.slice A1 x0.length c2::gp t1d 1 4 (.int .i64 (x1.length:Int)::gp t1d 6 1 (.int .u64 (wu64 (m3a - 1))::gp t1d 8 2 (.int .u64 m0d.1::gp t1d 11 164 []))))) ?_ ?_
     ·apply wp_block
      refine BI (fun l n4h l' w'=>∃(v0b:Int) (v5b:Int) (v2d:List Int),UpdS [bp0] w w'∧WN 179 bp0 pre ys w' A1 x0.length c2 v2d∧Fp x0 x1 n4h v0b v5b v2d=some m0d∧Fr l' (fun t4c=>.slice A1 x0.length c2::gp t4c 1 4 (.int .i64 (x1.length:Int)::gp t4c 6 1 (.int .u64 (wu64 (m3a - 1))::gp t4c 8 2 (.int .u64 v0b::gp t4c 11 129 (.slice A4 x1.length c5::.int .i64 (x1.length:Int)::.int .i64 v5b::gp t4c 143 32 [])))))) 18446744073709551616 ?_ ?_ ?_
      ·exact ⟨0,0,(List.set m4a.2.2 ((x1.length:Int):Int).toNat (wu32 (u8g - (wu32 (wu64 (m4a.2.1+m4a.1)))))),X3h,ow2h,h0w,(Fr.mk (by kernel_rfl))⟩
      ·rintro l' w' ⟨v0b,v5b,v2d,_,_,hz,_⟩
       exact nomatch hz
      ·rintro n4h ih2w _ w6 ⟨v0b,v5b,v2d,X8e,ow3d,hr5h,⟨t4c,rfl⟩⟩ l'' hl
       simp only [gp,Nat.reduceAdd] at hl
       subst hl
       unfold Fp at hr5h
       refine Bk<|wp_seq_k fun _ h3w=>Af<|sb (Cn rfl rfl) fun z6h hz6h=>?_
       refine nrm ?_
       refine wh h3w<|wp_seq_k fun _ h4w=>?_
       rcases zi hz6h hr5h with ⟨e9e,_,f5w⟩ | ⟨e9e,_,f6w⟩
       ·refine wp_cond_true (Ak (evb rfl e9e))<|wp_skip<|h4w _ _<|wp_seq_k fun _ h7w=>?_
        apply wp_block
        refine wp_seq_k fun _ h8w=>Af<|sV (Aa rfl) ?_
        obtain ⟨u6b,h9w,f0x⟩:=Ac f5w
        obtain ⟨bb1977,oo1978,hA1x,ia2x,ib3x,hc1980⟩:=RL.nth (RL.updW n6 X8e ap0) h9w
        refine sV3 (AD As Au rfl rfl hA1x ia2x ib3x) (Ai Bg rfl hc1980) (Ab rfl) ?_
        refine sV (Ab rfl) ?_
        refine wh h8w<|wp_seq_k fun _ h4x=>Af<|sV3 (Aa rfl) (Aa rfl) (Aa rfl) ?_
        obtain ⟨u7b,h5x,f6x⟩:=Ac f0x
        obtain ⟨bb1988,hA7x,hz1a1,ia8x,ib9x,hc1993⟩:=WN.nthc ow3d h5x
        refine sV3 (AD As Au rfl rfl hA7x ia8x ib9x) (Ai Bg rfl hc1993) (Ba (c:=wu64 u7b) Bd AW rfl rfl) ?_
        refine sV3 (Aa rfl) (Ba (c:=wu64 u6b) Bd AW rfl rfl) (Bj (c:=wu64 ((wu64 u7b)+(wu64 u6b))) rfl rfl rfl) ?_
        refine sV2 (Bj (c:=wu64 (v0b+(wu64 ((wu64 u7b)+(wu64 u6b))))) rfl rfl rfl) (Ab rfl) ?_
        refine wh h4x<|wp_seq_k fun _ h0y=>Af<|sV3 (Aa rfl) (Aa rfl) (Aa rfl) ?_
        refine sV (Ba (c:=wu32 (wu64 (v0b+(wu64 ((wu64 u7b)+(wu64 u6b)))))) AW Bd rfl rfl) ?_
        obtain ⟨u2a1,h1y,f2y⟩:=Ac f6x
        obtain ⟨bb1998,hA7h,hz3a1,ia8h,ib9h,hc2003⟩:=WN.nthc ow3d h1y
        refine sV (AD As Au rfl rfl hA7h ia8h ib9h) ?_
        refine Qu Au rfl rfl ow3d hA7h ia8h (by rw [WN.len ow3d];exact ib9h) fun w7 U3y ow4y=>?_
        have X5y:=UpdS.tr X8e U3y
        refine wh h0y<|Af<|sV2 (Aa rfl) (Jl (c:=(wu64 (v0b+(wu64 ((wu64 u7b)+(wu64 u6b))))).fdiv (2^min (32:Int).toNat IntKind.u64.bits)) (by decide) rfl rfl rfl) ?_
        refine sV (Ab rfl) ?_
        refine wh h7w<|Af<|sV2 (Bj (c:=wi64 (v5b+1)) rfl rfl rfl) (Aa rfl) ?_
        refine AK ?_
        exact ih2w _ _ ⟨((wu64 (v0b+(wu64 ((wu64 u7b)+(wu64 u6b))))).fdiv (2^min (32:Int).toNat IntKind.u64.bits)),(wi64 (v5b+1)),(List.set v2d (v5b:Int).toNat (wu32 (wu64 (v0b+(wu64 ((wu64 u7b)+(wu64 u6b))))))),X5y,ow4y,f2y,(Fr.mk (by kernel_rfl))⟩
       ·refine wp_cond_false (Ak (evb rfl e9e))<|wp_exit ?_
        simp only [Exit.then,Exit.inBlock,↓reduceIte,Nat.reduceEqDiff]
        obtain rfl:=sj f6w
        exact ⟨_,rfl,X8e,ow3d,(Fr.mk (by kernel_rfl))⟩
     ·rintro _ w6 ⟨X6y,ow7d,⟨t1d,rfl⟩⟩ l'' hl
      simp only [gp,Nat.reduceAdd] at hl
      subst hl
      refine h8v _ _<|Af<|sV2 (Aa rfl) (Aa rfl) ?_
      obtain ⟨u7y,h8y,f9y⟩:=Ac f1w
      obtain ⟨bb2011,hA0z,hz4a1,ia1z,ib2z,hc2016⟩:=WN.nthc ow7d h8y
      refine sV3 (AD As Au rfl rfl hA0z ia1z ib2z) (Ai Bg rfl hc2016) (Aa rfl) ?_
      refine sV2 (Ba (c:=wu32 m0d.1) AW Bd rfl rfl) (Bj (c:=wu32 (u7y+(wu32 m0d.1))) rfl rfl rfl) ?_
      obtain ⟨u5a1,h3z,f4z⟩:=Ac f9y
      obtain ⟨bb2020,hA0i,hz6a1,ia1i,ib2i,hc2025⟩:=WN.nthc ow7d h3z
      refine sV (AD As Au rfl rfl hA0i ia1i ib2i) ?_
      refine Qu Au rfl rfl ow7d hA0i ia1i (by rw [WN.len ow7d];exact ib2i) fun w7 U5z ow6z=>?_
      have X7z:=UpdS.tr X6y U5z
      refine AK ?_
      obtain rfl:=sj f4z
      exact ⟨_,rfl,X7z,ow6z,(Fr.mk (by kernel_rfl))⟩
    ·refine wp_cond_false (Ak (evb rfl e7e))<|wp_skip ?_
     obtain rfl:=sj f5v
     exact ⟨_,rfl,X3h,ow2h,(Fr.mk (by kernel_rfl))⟩
   ·rintro _ w6 ⟨X8z,ow3i,⟨t6d,rfl⟩⟩ l'' hl
    simp only [gp,Nat.reduceAdd] at hl
    subst hl
    refine h0v _ _<|wp_seq_k fun _ h9z=>Af<|sV3 (Aa rfl) (Ba (c:=wu32 m5d.1) AW Bd rfl rfl) (Ab rfl) ?_
    refine wh h9z<|wp_ret ?_
    exact CV f3v rfl (Res.tmp rfl Res.nil) ⟨X8z,WN.len ow3i,WN.bx ow3i,_,rfl,rfl⟩
theorem IQ (x0:List Int) (x1:List Int) (A1:Option Addr) (c2:Nat) (A4:Option Addr) (c5:Nat) (w:World) (hT:TB w) (n3:RLu w A1 c2 x0) (n6:RLu w A4 c5 x1) (r:List Int × List Int) (hr:Dy x0 x1=some r) :
  Calls Tryz.prog 186 #[.slice A1 x0.length c2,.slice A4 x1.length c5] w (Ret MA w r):=by
 unfold Dy at hr
 go_enter Tryz.func186,Tryz.ntmps186
 refine wp_seq_k fun _ h7=>Af<|sV2 (Ab rfl) (Ab rfl) ?_
 refine wh h7<|wp_seq_k fun _ h8=>wp_seq_k fun _ h9=>Af<|sV2 (Aa rfl) (Aa rfl) ?_
 refine scr hr (Ad NB (by rfl)) (GP x0 x1 A1 c2 A4 c5 w hT n3 n6) fun r3b f0d w1 E2a=>?_
 refine sb (Cn rfl rfl) fun z1d hz1d=>?_
 refine nrm ?_
 refine wh h9 ?_
 rcases zi hz1d f0d with ⟨e4b,_,f7f⟩ | ⟨e4b,_,f8f⟩
 ·refine wp_cond_true (Ak (evb rfl e4b))<|wp_seq_k fun _ h9f=>Af<|sV3 (Aa rfl) (Ab rfl) (Ab rfl) ?_
  refine wh h9f<|wp_ret ?_
  exact CV f7f rfl (Res.tmp rfl (Res.tmp rfl Res.nil)) (Av E2a ⟨none,0,A1,c2,rfl,(RL.nil _ _ _),(n3.ext E2a)⟩)
 ·refine wp_cond_false (Ak (evb rfl e4b))<|wp_skip<|h8 _ _<|wp_seq_k fun _ h0g=>wp_seq_k fun _ h1g=>Af<|sV2 (Aa rfl) (AG As rfl) ?_
  refine sb (CG rfl rfl) fun z2d hz2d=>?_
  refine nrm ?_
  refine wh h1g ?_
  rcases zi hz2d f8f with ⟨e5b,_,f2g⟩ | ⟨e5b,_,f3g⟩
  ·refine wp_cond_true (Ak (evb rfl e5b))<|wp_seq_k fun _ h4g=>Af<|sV2 (Aa rfl) (Aa rfl) ?_
   obtain ⟨u5g,h6g,f7g⟩:=Ac f2g
   obtain ⟨bb545,oo546,hA8g,ia9g,ib0h,hc548⟩:=RL.nth (n6.ext E2a) h6g
   refine sV2 (AD As Au rfl rfl hA8g ia9g ib0h) (Ai Bg rfl hc548) ?_
   obtain ⟨r1h,h2h,f3h⟩:=Ac f7g
   refine sc (Ad en_237 (by rfl)) (c_wide_Nat_short x0 u5g A1 c2 w1 (tbx E2a hT) (n3.ext E2a) r1h h2h) ?_
   rintro _ w2 E4h ⟨A5h,c6h,A7h,c8h,rfl,n9h,n0i⟩
   refine nrm ?_
   have X1i:=xtr E2a E4h
   refine sV3 (Aj rfl rfl) (Aj rfl rfl) (Ab rfl) ?_
   refine sV (Ab rfl) ?_
   refine wh h4g<|wp_ret ?_
   exact CV f3h rfl (Res.tmp rfl (Res.tmp rfl Res.nil)) (Av X1i ⟨A5h,c6h,A7h,c8h,rfl,n9h,n0i⟩)
  ·refine wp_cond_false (Ak (evb rfl e5b))<|wp_skip<|h0g _ _<|wp_seq_k fun _ h2i=>Af<|sV3 (Aa rfl) (Aa rfl) (AG As rfl) ?_
   refine sV (BA (c:=wi64 ((x1.length:Int) - 1)) rfl rfl rfl) ?_
   obtain ⟨u3i,h4i,f64⟩:=Ac f3g
   obtain ⟨bb65,oo66,hA5i,ia6i,ib7i,hc68⟩:=RL.nth (n6.ext E2a) h4i
   refine sV2 (AD As Au rfl rfl hA5i ia6i ib7i) (Ai Bg rfl hc68) ?_
   refine scr f64 (Ad Pr (by rfl)) (FX u3i w1 (tbx E2a hT)) fun r5a f8i w2 E9i=>?_
   have X6b:=xtr E2a E9i
   refine sV (Ab rfl) ?_
   refine wh h2i<|wp_seq_k fun _ h0j=>Af<|sV2 (Aa rfl) (Aa rfl) ?_
   refine scn f8i (Ad Kj (by rfl)) (CX x1 r5a A4 c5 w2 (tbx X6b hT) (n6.ext X6b)) fun r0a f1j w3 A3d c4d E2j n5d=>?_
   have X0b:=xtr X6b E2j
   refine sV (Ab rfl) ?_
   refine wh h0j<|wp_seq_k fun _ h3j=>Af<|sV3 (Aa rfl) (AG As rfl) (Bj (c:=wi64 ((x0.length:Int)+1)) rfl rfl rfl) ?_
   obtain ⟨_,h4j,f5j⟩:=Ac f1j
   have gd89:=AN h4j
   refine Ja As Fa rfl rfl gd89 fun A1b w4 E6d ow6j=>?_
   refine nrm ?_
   have X7b:=xtr X0b E6d
   refine sV (Ab rfl) ?_
   refine wh h3j<|wp_seq_k fun _ h7j=>Af<|sV3 (Aa rfl) (Aa rfl) (Aa rfl) ?_
   refine scn f5j (Ad Kj (by rfl)) (CX x0 r5a A1 c2 w4 (tbx X7b hT) (n3.ext X7b)) fun r7d f8j w5 A9p c0q E8b n9j=>?_
   have X0k:=xtr X7b E8b
   have X1k:=xtr E6d E8b
   refine Rm As Au rfl rfl (ow6j.ext E8b) n9j fun w6 B105 ow8d=>?_
   refine nrm ?_
   have X9d:=xO X0k B105 X0b.size
   have X0e:=xO X1k B105 (Nat.le_refl _)
   refine wh h7j<|wp_seq_k fun _ h2k=>Af<|sV3 (Aa rfl) (AG As rfl) (Ab rfl) ?_
   refine wh h2k<|wp_seq_k fun _ h3k=>Af<|sV3 (Aa rfl) (AG As rfl) (Aa rfl) ?_
   refine sV (BA (c:=wi64 ((((((wi64 ((x0.length:Int)+1)):Int).toNat):Nat):Int) - (r0a.length:Int))) rfl rfl rfl) ?_
   obtain ⟨_,h4k,f5k⟩:=Ac f8j
   have gd117:=AN h4k
   have hl118:=OW.lt ow8d
   refine Ja As Fa rfl rfl gd117 fun A6a w7 E9b ow6k=>?_
   refine nrm ?_
   have X7k:=xtr X9d E9b
   have X8k:=xtr X0e E9b
   refine sV (Ab rfl) ?_
   refine wh h3k<|wp_seq_k fun _ h9k=>wp_seq_k fun _ h0l=>Af<|sV3 (Aa rfl) (AG As rfl) (Aa rfl) ?_
   refine sV3 (BA (c:=wi64 ((((((wi64 ((x0.length:Int)+1)):Int).toNat):Nat):Int) - (r0a.length:Int))) rfl rfl rfl) (BA (c:=wi64 ((wi64 ((((((wi64 ((x0.length:Int)+1)):Int).toNat):Nat):Int) - (r0a.length:Int))) - 1)) rfl rfl rfl) (Ab rfl) ?_
   refine wh h0l ?_
   obtain ⟨m7a,h1l,f2l⟩:=Ac f5k
   refine Dm (fun l l' w'=>Ext w w'∧Ext w3 w'∧OW 179 w6.heap.size w' A6a (((wi64 ((((((wi64 ((x0.length:Int)+1)):Int).toNat):Nat):Int) - (r0a.length:Int))):Int).toNat) (((wi64 ((((((wi64 ((x0.length:Int)+1)):Int).toNat):Nat):Int) - (r0a.length:Int))):Int).toNat) m7a.1∧OW 179 w3.heap.size w' A1b (((wi64 ((x0.length:Int)+1)):Int).toNat) (((wi64 ((x0.length:Int)+1)):Int).toNat) m7a.2∧Fr l' (fun t2b=>gp t2b 0 6 (.int .i64 r5a::gp t2b 7 1 (.slice A1b (((wi64 ((x0.length:Int)+1)):Int).toNat) (((wi64 ((x0.length:Int)+1)):Int).toNat)::.int .i64 (r0a.length:Int)::.slice A6a (((wi64 ((((((wi64 ((x0.length:Int)+1)):Int).toNat):Nat):Int) - (r0a.length:Int))):Int).toNat) (((wi64 ((((((wi64 ((x0.length:Int)+1)):Int).toNat):Nat):Int) - (r0a.length:Int))):Int).toNat)::gp t2b 11 71 [])))) ?_ ?_
   ·apply wp_block
    refine BI (fun l n1e l' w'=>∃(v1a:Int) (v8a:List Int) (v3a:List Int),Ext w w'∧Ext w3 w'∧OW 179 w6.heap.size w' A6a (((wi64 ((((((wi64 ((x0.length:Int)+1)):Int).toNat):Nat):Int) - (r0a.length:Int))):Int).toNat) (((wi64 ((((((wi64 ((x0.length:Int)+1)):Int).toNat):Nat):Int) - (r0a.length:Int))):Int).toNat) v8a∧OW 179 w3.heap.size w' A1b (((wi64 ((x0.length:Int)+1)):Int).toNat) (((wi64 ((x0.length:Int)+1)):Int).toNat) v3a∧EW x0 x1 r0a n1e v1a v8a v3a=some m7a∧Fr l' (fun t0c=>gp t0c 0 6 (.int .i64 r5a::.slice A3d r0a.length c4d::.slice A1b (((wi64 ((x0.length:Int)+1)):Int).toNat) (((wi64 ((x0.length:Int)+1)):Int).toNat)::.int .i64 (r0a.length:Int)::.slice A6a (((wi64 ((((((wi64 ((x0.length:Int)+1)):Int).toNat):Nat):Int) - (r0a.length:Int))):Int).toNat) (((wi64 ((((((wi64 ((x0.length:Int)+1)):Int).toNat):Nat):Int) - (r0a.length:Int))):Int).toNat)::.int .i64 v1a::gp t0c 12 70 []))) 18446744073709551616 ?_ ?_ ?_
    ·exact ⟨(wi64 ((wi64 ((((((wi64 ((x0.length:Int)+1)):Int).toNat):Nat):Int) - (r0a.length:Int))) - 1)),(List.replicate ((wi64 ((((((wi64 ((x0.length:Int)+1)):Int).toNat):Nat):Int) - (r0a.length:Int))):Int).toNat (0:Int)),((r7d).take (List.length (List.replicate ((wi64 ((x0.length:Int)+1)):Int).toNat (0:Int)))++(List.replicate ((wi64 ((x0.length:Int)+1)):Int).toNat (0:Int)).drop r7d.length),X7k,X8k,ow6k,(ow8d.ext E9b),h1l,(Fr.mk (by kernel_rfl))⟩
    ·rintro l' w' ⟨v1a,v8a,v3a,_,_,_,_,hz,_⟩
     exact nomatch hz
    ·rintro n1e ih3l _ w8 ⟨v1a,v8a,v3a,X1c,X2c,ow2e,ow4a,hr3e,⟨t0c,rfl⟩⟩ l'' hl
     simp only [gp,Nat.reduceAdd] at hl
     subst hl
     unfold EW at hr3e
     refine Bk<|wp_seq_k fun _ h4l=>wp_seq_k fun _ h5l=>Af<|sV (Aa rfl) ?_
     refine sb (FP rfl rfl) fun z4e hz4e=>?_
     refine nrm ?_
     refine wh h5l ?_
     rcases zi hz4e hr3e with ⟨e3c,_,f6l⟩ | ⟨e3c,_,f7l⟩
     ·refine wp_cond_true (Ak (evb rfl e3c))<|wp_skip<|h4l _ _<|wp_seq_k fun _ h8l=>?_
      apply wp_block
      refine Af<|sV3 (Aa rfl) (Aa rfl) (Aa rfl) ?_
      refine sV3 (Aa rfl) (Aa rfl) (Aa rfl) ?_
      refine sV2 (Bj (c:=wi64 (v1a+(r0a.length:Int))) rfl rfl rfl) (Bj (c:=wi64 ((wi64 (v1a+(r0a.length:Int)))+1)) rfl rfl rfl) ?_
      obtain ⟨_,h9l,f0m⟩:=Ac f6l
      have gd465:=AN h9l
      obtain ⟨b5e,ys467,hA6e,hz1m,g4c,q7e,bk472⟩:=OW.win (lo:=(v1a:Int).toNat) (hi:=((wi64 ((wi64 (v1a+(r0a.length:Int)))+1)):Int).toNat) ow4a (by omega) (by rw [←OW.len ow4a];omega)
      refine swin (lo:=(v1a:Int).toNat) (hi:=((wi64 ((wi64 (v1a+(r0a.length:Int)))+1)):Int).toNat) As Au rfl ⟨.i64,by rw [Int.toNat_of_nonneg (a:=v1a) (by omega)];rfl⟩ ⟨.i64,by rw [Int.toNat_of_nonneg (a:=(wi64 ((wi64 (v1a+(r0a.length:Int)))+1))) (by omega)];rfl⟩ (by omega) (by rw [←OW.len ow4a];omega) ow4a hA6e ?_
      refine nrm ?_
      refine sV (Aa rfl) ?_
      obtain ⟨r5c,h2m,f3m⟩:=Ac f0m
      refine scK (Ad en_238 (by rfl)) (c_wide_digit ((List.drop ((v1a:Int).toNat) v3a).take ((((wi64 ((wi64 (v1a+(r0a.length:Int)))+1)):Int).toNat) - ((v1a:Int).toNat))) r0a (some ⟨b5e,List.length ((v3a).take ((v1a:Int).toNat)),none⟩) ((((wi64 ((x0.length:Int)+1)):Int).toNat) - ((v1a:Int).toNat)) A3d c4d b5e ((v3a).take ((v1a:Int).toNat)) ys467 w8 (tbx X1c hT) ⟨rfl,rfl,q7e,by have:=OW.cap ow4a;simp only [List.length_take,List.length_drop];omega,by have:=(OW.rl ow4a).2.1;omega⟩  (TB.nz (tbx X0b hT) g4c) (n5d.ext X2c) (apartB n5d g4c) r5c h2m) ?_
      rintro _ w9 ⟨U8e,hl478,q4m,_,rfl,rfl⟩
      refine ⟨_,rfl,?_⟩
      refine nrm ?_
      have B480:=UpdS.below U8e g4c q7e.lt
      have ow5m:=bk472 _ _ (by rw [hl478];simp only [List.length_take,List.length_drop];omega) q4m
      have X6m:=xO X1c B480 X0b.size
      have X7m:=xO X2c B480 (Nat.le_refl _)
      have ow6c:=OW.updO ow2e U8e (hl118 _ hA6e hz1m)
      obtain ⟨u1q,h8m,f9m⟩:=Ac f3m
      obtain ⟨bb488,hA9e,hz2q,ia0f,ib1f,hc493⟩:=OW.nthc ow6c h8m
      refine sV (AD As Au rfl rfl hA9e ia0f ib1f) ?_
      refine Nf Au rfl rfl ow6c hA9e ia0f (by rw [OW.len ow6c];exact ib1f) fun w3b B494 U3q ow0n=>?_
      have X1n:=xO X6m B494 X9d.size
      have X2n:=xO X7m B494 X0e.size
      have ow3n:=OW.bel2 ow5m B494 hl118
      refine wh h8l<|Af<|sV3 (Aa rfl) (BA (c:=wi64 (v1a - 1)) rfl rfl rfl) (Ab rfl) ?_
      refine AK ?_
      exact ih3l _ _ ⟨(wi64 (v1a - 1)),(List.set v8a (v1a:Int).toNat r5c.1),(((v3a).take ((v1a:Int).toNat))++r5c.2++((v3a).drop (((wi64 ((wi64 (v1a+(r0a.length:Int)))+1)):Int).toNat))),X1n,X2n,ow0n,ow3n,f9m,(Fr.mk (by kernel_rfl))⟩
     ·refine wp_cond_false (Ak (evb rfl e3c))<|wp_exit ?_
      simp only [Exit.then,Exit.inBlock,↓reduceIte,Nat.reduceEqDiff]
      obtain rfl:=sj f7l
      exact ⟨_,rfl,X1c,X2c,ow2e,ow4a,(Fr.mk (by kernel_rfl))⟩
   ·rintro _ w8 ⟨X4n,X4q,ow2f,ow3f,⟨t2b,rfl⟩⟩ l'' hl
    simp only [gp,Nat.reduceAdd] at hl
    subst hl
    refine h9k _ _<|wp_seq_k fun _ h5n=>DK [] 10 mo rfl fun w9 E9a S6n=>have X4f:=xtr X4n E9a;dA 0 rfl (fun _=>Aa rfl) ?_
    refine dA 2 rfl (fun _=>Aa rfl) ?_
    refine dA 3 rfl (fun _=>Aa rfl) ?_
    obtain ⟨_,h7n,f8n⟩:=Ac f2l
    have gd507:=AN h7n
    refine dslice 4 rfl (lo:=0) (hi:=((r0a.length:Int):Int).toNat) As Au (by rw [OW.len (ow3f.ext E9a)];rfl) rfl ⟨.i64,by rw [Int.toNat_of_nonneg (a:=(r0a.length:Int)) (by omega)];rfl⟩ (by omega) (by omega) (OW.rl (ow3f.ext E9a)) fun A9n c0o n1o=>?_
    refine dnrm ?_
    refine dA 6 rfl (fun _=>Aa rfl) ?_
    refine dcn f8n 1 rfl (by rfl) (Ad KU (by simp only [OW.len (ow2f.ext E9a)];rfl)) (Ec m7a.1 A6a (((wi64 ((((((wi64 ((x0.length:Int)+1)):Int).toNat):Nat):Int) - (r0a.length:Int))):Int).toNat) w9 (tbx X4f hT) (OW.rl (ow2f.ext E9a))) fun r5q f2o w3b A3o c4o E7c n5o=>?_
    have X5f:=xtr X4f E7c
    have S6o:=S6n.trans E7c
    refine dcn f2o 5 rfl (by rfl) (Ad KU (by rfl)) (Ec ((List.drop 0 m7a.2).take ((((r0a.length:Int):Int).toNat) - 0)) A9n c0o w3b (tbx X5f hT) (n1o.ext E7c)) fun r7o f8o w9o A0p c1p E8c n2p=>?_
    have X6f:=xtr X5f E8c
    have S3p:=S6o.trans E8c
    refine dcn f8o 7 rfl (by rfl) (Ad NE (by rfl)) (GM r7o r5a A0p c1p w9o (tbx X6f hT) n2p) fun r6q f4p w0d A5p c6p E9c n7p=>?_
    have X8p:=xtr X6f E9c
    have S7q:=S3p.trans E9c
    refine dA 8 rfl (fun _=>Ab rfl) ?_
    refine dA 9 rfl (fun _=>Ab rfl) ?_
    refine CE (by kernel_rfl) ?_
    refine h5n _ _<|wp_ret ?_
    exact CV f4p rfl (Res.tmp rfl (Res.tmp rfl Res.nil)) (Av X8p ⟨A3o,c4o,A5p,c6p,rfl,((n5o.ext E8c).ext E9c),n7p⟩)
end Go.Proofs.Lf

