import Derived.Test.YtabiobmfelafoaaGreatDoorLeaf0
namespace Go.Proofs.Lf
set_option linter.unusedVariables false
set_option linter.unusedSimpArgs false
set_option maxHeartbeats 4000000
open Go.RowKit Go.Sb Go.Proofs Go.Proofs.Sbn
set_option maxRecDepth 20000 in
theorem c_wide_digit (x0:List Int) (x1:List Int) (A1:OA) (c2:Nat) (A4:OA) (c5:Nat) (bp0:Nat) (pre ys:List Int) (w:World) (hT:TB w) (q0:WN 179 bp0 pre ys w A1 x0.length c2 x0) (hb0:bp0≠0) (n6:RLu w A4 c5 x1) (ap0:Apart A4 x1 bp0) (r:(Int) × List Int) (hr:Jf x0 x1=some r) :
  Calls Tryz.prog 238 #[.slice A1 x0.length c2,.slice A4 x1.length c5] w (RetW 179 bp0 pre ys x0.length QX w r):=by
 unfold Jf at hr
 refine Na Tryz.func238 rfl 173 ?_
 refine ws fun h7=>Ah<|sV (Ab rfl) ?_
 refine nx h7 fun h8=>sV3 (Aa rfl) (AD Au rfl) (Ab rfl) ?_
 refine wh h8<|ws fun h9=>DT [] 14 mo rfl fun w1 E6b S1f=>have X5i:=UpdS.ext (UpdS.refl [bp0] w) E6b;dA 0 rfl (fun _=>Aa rfl) ?_
 refine dA 1 rfl (fun _=>Aa rfl) ?_
 obtain ⟨u7b,h6i,f7i⟩:=Ad hr
 obtain ⟨bb16,hA8i,hz1a0,ia9i,ib0j,hc21⟩:=WN.nthc (q0.ext E6b) h6i
 refine dA 2 rfl (fun _=>AA Au Av rfl rfl hA8i ia9i ib0j) ?_
 refine dV 3 rfl (fun _ hw=>Ag AZ rfl (DS hc21 hw)) S1f ?_
 refine dA2 4 5 rfl rfl (fun _=>AO (c:=wu64 u7b) AQ AN rfl rfl) (fun _=>LQ (c:=wu64 ((wu64 u7b)*2^min (32:Int).toNat IntKind.u64.bits)) (by decide) rfl rfl rfl) ?_
 refine dA2 6 7 rfl rfl (fun _=>Aa rfl) (fun _=>Aa rfl) ?_
 refine dA 8 rfl (fun _=>Bt (c:=wi64 ((x1.length:Int) - 1)) rfl rfl rfl) ?_
 obtain ⟨u4c,h1j,f2j⟩:=Ad f7i
 obtain ⟨bb25,hA3j,hz2a0,ia4j,ib5j,hc30⟩:=WN.nthc (q0.ext E6b) h1j
 refine dA 9 rfl (fun _=>AA Au Av rfl rfl hA3j ia4j ib5j) ?_
 refine dV 10 rfl (fun _ hw=>Ag AZ rfl (DS hc30 hw)) S1f ?_
 refine dA2 11 12 rfl rfl (fun _=>AO (c:=wu64 u4c) AQ AN rfl rfl) (fun _=>Oq rfl rfl) ?_
 refine dA 13 rfl (fun _=>Ab rfl) ?_
 refine Cx (by kernel_rfl) ?_
 refine h9 _ _<|ws fun h6j=>DT [] 18 mo rfl fun w2 E3d S2f=>have X7j:=UpdS.ext X5i E3d;dA 0 rfl (fun _=>Aa rfl) ?_
 refine dA2 1 2 rfl rfl (fun _=>Aa rfl) (fun _=>Aa rfl) ?_
 refine dA 3 rfl (fun _=>Bt (c:=wi64 ((x1.length:Int) - 1)) rfl rfl rfl) ?_
 obtain ⟨u9d,h8j,f9j⟩:=Ad f2j
 have q4d:=(n6.ext E6b).ext E3d
 obtain ⟨bb38,oo39,hA0k,ia1k,ib2k,hc41⟩:=RL.nth q4d h8j
 refine dA 4 rfl (fun _=>AA Au Av rfl rfl hA0k ia1k ib2k) ?_
 refine dV 5 rfl (fun _ hw=>Ag AZ rfl (DS hc41 hw)) S2f ?_
 refine dA 6 rfl (fun _=>AO (c:=wu64 u9d) AQ AN rfl rfl) ?_
 obtain ⟨_,h3k,f4k⟩:=Ad f9j
 have gd46:=AI h3k
 refine dA2 7 8 rfl rfl (fun _=>Ji (c:=wu64 ((bor .u64 (wu64 ((wu64 u7b)*2^min (32:Int).toNat IntKind.u64.bits)) (wu64 u4c)).tdiv (wu64 u9d))) (decide_eq_true gd46) rfl rfl rfl) (fun _=>Aa rfl) ?_
 refine dA2 9 10 rfl rfl (fun _=>Aa rfl) (fun _=>Aa rfl) ?_
 refine dA 11 rfl (fun _=>Bt (c:=wi64 ((x1.length:Int) - 1)) rfl rfl rfl) ?_
 obtain ⟨u0e,h5k,f6k⟩:=Ad f4k
 obtain ⟨bb50,oo51,hA7k,ia8k,ib9k,hc53⟩:=RL.nth q4d h5k
 refine dA 12 rfl (fun _=>AA Au Av rfl rfl hA7k ia8k ib9k) ?_
 refine dV 13 rfl (fun _ hw=>Ag AZ rfl (DS hc53 hw)) S2f ?_
 refine dA 14 rfl (fun _=>AO (c:=wu64 u0e) AQ AN rfl rfl) ?_
 obtain ⟨_,h0l,f1l⟩:=Ad f6k
 have gd58:=AI h0l
 refine dA2 15 16 rfl rfl (fun _=>LD (c:=(bor .u64 (wu64 ((wu64 u7b)*2^min (32:Int).toNat IntKind.u64.bits)) (wu64 u4c)).tmod (wu64 u0e)) (decide_eq_true gd58) rfl rfl rfl) (fun _=>Ab rfl) ?_
 refine dA 17 rfl (fun _=>Ab rfl) ?_
 refine Cx (by kernel_rfl) ?_
 refine h6j _ _<|ws fun h2l=>?_
 obtain ⟨m3a,h3l,f4l⟩:=Ad f1l
 refine CG (fun l l' w'=>Ext w2 w'∧Fr l' (fun t5d=>.slice A1 x0.length c2::.slice A4 x1.length c5::gp t5d 2 3 (.int .i64 (x1.length:Int)::gp t5d 6 1 (.int .u64 m3a::gp t5d 8 167 [])))) ?_ ?_
 ·apply wp_block
  refine Bp (fun l n3f l' w'=>∃(v7a:Int) (v6a:Int) (t2a:Nat→Value),Ext w2 w'∧Gn x0 x1 n3f v7a v6a=some m3a∧Fr l' (fun t5c=>.slice A1 x0.length c2::.slice A4 x1.length c5::gp t5c 2 3 (.int .i64 (x1.length:Int)::gp t5c 6 1 (.int .u64 v7a::.int .u64 v6a::gp t5c 9 43 ((t2a 0)::(t2a 1)::(t2a 2)::(t2a 3)::(t2a 4)::(t2a 5)::(t2a 6)::(t2a 7)::(t2a 8)::(t2a 9)::(t2a 10)::(t2a 11)::(t2a 12)::(t2a 13)::(t2a 14)::(t2a 15)::(t2a 16)::(t2a 17)::gp t5c 70 105 []))))) 18446744073709551616 ?_ ?_ ?_
  ·exact ⟨(wu64 ((bor .u64 (wu64 ((wu64 u7b)*2^min (32:Int).toNat IntKind.u64.bits)) (wu64 u4c)).tdiv (wu64 u9d))),((bor .u64 (wu64 ((wu64 u7b)*2^min (32:Int).toNat IntKind.u64.bits)) (wu64 u4c)).tmod (wu64 u0e)),(tk [uu,uu,uu,uu,uu,uu,uu,uu,uu,uu,uu,uu,uu,uu,uu,uu,uu,uu]),(Ext.refl _),h3l,(Fr.mk (by kernel_rfl))⟩
  ·rintro l' w' ⟨v7a,v6a,t2a,_,hz,_⟩
   exact nomatch hz
  ·rintro n3f ih5l _ w3 ⟨v7a,v6a,t2a,U8b,hr4f,⟨t5c,rfl⟩⟩ l'' hl
   simp only [gp,Nat.reduceAdd] at hl
   subst hl
   unfold Gn at hr4f
   refine AW<|ws fun h6l=>ws fun h7l=>DT [] 22 mo rfl fun w4 E9b S5f=>dA 0 rfl (fun _=>Aa rfl) ?_
   refine dab 1 rfl (by kernel_rfl) (fun _ _ _ h=>h) (by rfl) (fun _=>Hb rfl rfl) fun z6f hz6f=>?_
   refine dnrm ?_
   refine dA 2 rfl (fun _=>Aa rfl) ?_
   obtain ⟨m8l,h9l,f0m⟩:=Ad hr4f
   refine Kn (tb 22 4194303) 0 (fun l l' w'=>∃(t1a:Nat→Value),w4=w'∧l'=(((((((((((((((((((l.set 52 (t1a 0)).set 53 (t1a 1)).set 54 (t1a 2)).set 55 (t1a 3)).set 56 (t1a 4)).set 57 (t1a 5)).set 58 (t1a 6)).set 59 (t1a 7)).set 60 (t1a 8)).set 61 (t1a 9)).set 62 (t1a 10)).set 63 (t1a 11)).set 64 (t1a 12)).set 65 (t1a 13)).set 66 (t1a 14)).set 67 (t1a 15)).set 68 (t1a 16)).set 69 (t1a 17)).set 70 (.bool m8l))) ?_ ?_
   ·intro HJ629
    rcases zi hz6f h9l with ⟨e0a,_,f1m⟩ | ⟨e0a,_,f2m⟩
    ·refine dP 3 rfl ?_ (hw:=wgF rfl e0a)
     refine dP 4 rfl ?_ (hw:=wgF rfl e0a)
     refine dP 5 rfl ?_ (hw:=wgF rfl e0a)
     refine dP 6 rfl ?_ (hw:=wgF rfl e0a)
     refine dP 7 rfl ?_ (hw:=wgF rfl e0a)
     refine dP 8 rfl ?_ (hw:=wgF rfl e0a)
     refine dP 9 rfl ?_ (hw:=wgF rfl e0a)
     refine dP 10 rfl ?_ (hw:=wgF rfl e0a)
     refine dP 11 rfl ?_ (hw:=wgF rfl e0a)
     refine dP 12 rfl ?_ (hw:=wgF rfl e0a)
     refine dP 13 rfl ?_ (hw:=wgF rfl e0a)
     refine dP 14 rfl ?_ (hw:=wgF rfl e0a)
     refine dP 15 rfl ?_ (hw:=wgF rfl e0a)
     refine dP 16 rfl ?_ (hw:=wgF rfl e0a)
     refine dP 17 rfl ?_ (hw:=wgF rfl e0a)
     refine dP 18 rfl ?_ (hw:=wgF rfl e0a)
     refine dP 19 rfl ?_ (hw:=wgF rfl e0a)
     refine dP 20 rfl ?_ (hw:=wgF rfl e0a)
     refine dA 21 rfl (fun _=>Az (evb rfl e0a) rfl) ?_
     obtain rfl:=sj f1m
     exact dls (HJ629 _ _ ⟨(tk [uu,uu,uu,uu,uu,uu,uu,uu,uu,uu,uu,uu,uu,uu,uu,uu,uu,uu]),(by trivial),(by kernel_rfl)⟩)
    ·refine dA 3 rfl (fun _=>Aa rfl) ?_ (hw:=wgT rfl e0a)
     refine dA 4 rfl (fun _=>Aa rfl) ?_ (hw:=wgT rfl e0a)
     refine dA 5 rfl (fun _=>Aa rfl) ?_ (hw:=wgT rfl e0a)
     refine dA 6 rfl (fun _=>Bt (c:=wi64 ((x1.length:Int) - 2)) rfl rfl rfl) ?_ (hw:=wgT rfl e0a)
     have n3m:=(q4d.ext U8b).ext E9b
     obtain ⟨u1b,h4m,f5m⟩:=Ad f2m
     obtain ⟨bb639,oo640,hA6m,ia7m,ib8m,hc642⟩:=RL.nth n3m h4m
     refine dA 7 rfl (fun _=>AA Au Av rfl rfl hA6m ia7m ib8m) ?_ (hw:=wgT rfl e0a)
     refine dV 8 rfl (fun _ hw=>Ag AZ rfl (DS hc642 hw)) S5f ?_ (hw:=wgT rfl e0a)
     refine dA 9 rfl (fun _=>AO (c:=wu64 u1b) AQ AN rfl rfl) ?_ (hw:=wgT rfl e0a)
     refine dA 10 rfl (fun _=>KS (c:=wu64 (v7a*(wu64 u1b))) rfl rfl rfl) ?_ (hw:=wgT rfl e0a)
     refine dA 11 rfl (fun _=>Aa rfl) ?_ (hw:=wgT rfl e0a)
     refine dA 12 rfl (fun _=>LQ (c:=wu64 (v6a*2^min (32:Int).toNat IntKind.u64.bits)) (by decide) rfl rfl rfl) ?_ (hw:=wgT rfl e0a)
     refine dA 13 rfl (fun _=>Aa rfl) ?_ (hw:=wgT rfl e0a)
     refine dA 14 rfl (fun _=>Aa rfl) ?_ (hw:=wgT rfl e0a)
     refine dA 15 rfl (fun _=>Bt (c:=wi64 ((x1.length:Int) - 2)) rfl rfl rfl) ?_ (hw:=wgT rfl e0a)
     have ow9m:=(((q0.ext E6b).ext E3d).ext U8b).ext E9b
     obtain ⟨u0c,h0n,f1n⟩:=Ad f5m
     obtain ⟨bb649,hA2n,hz3a0,ia3n,ib4n,hc654⟩:=WN.nthc ow9m h0n
     refine dA 16 rfl (fun _=>AA Au Av rfl rfl hA2n ia3n ib4n) ?_ (hw:=wgT rfl e0a)
     refine dV 17 rfl (fun _ hw=>Ag AZ rfl (DS hc654 hw)) S5f ?_ (hw:=wgT rfl e0a)
     refine dA 18 rfl (fun _=>AO (c:=wu64 u0c) AQ AN rfl rfl) ?_ (hw:=wgT rfl e0a)
     refine dA 19 rfl (fun _=>Oq rfl rfl) ?_ (hw:=wgT rfl e0a)
     refine dab 20 rfl (by kernel_rfl) (fun _ _ _ h=>h) (wgT rfl e0a) (fun _=>Eh rfl rfl) fun z1e hz1e=>?_
     refine dnrm ?_
     refine dA 21 rfl (fun _=>AE (evb rfl e0a) rfl) ?_
     obtain rfl:z1e=decide ((bor .u64 (wu64 (v6a*2^min (32:Int).toNat IntKind.u64.bits)) (wu64 u0c))<(wu64 (v7a*(wu64 u1b)))):=bz hz1e
     obtain rfl:=sj f1n
     exact dls (HJ629 _ _ ⟨(tk [.int .u64 v7a,.slice A4 x1.length c5,.int .i64 (x1.length:Int),.int .i64 (wi64 ((x1.length:Int) - 2)),.pointer (some ⟨bb639,oo640+((wi64 ((x1.length:Int) - 2)):Int).toNat,none⟩),.int .u32 u1b,.int .u64 (wu64 u1b),.int .u64 (wu64 (v7a*(wu64 u1b))),.int .u64 v6a,.int .u64 (wu64 (v6a*2^min (32:Int).toNat IntKind.u64.bits)),.slice A1 x0.length c2,.int .i64 (x1.length:Int),.int .i64 (wi64 ((x1.length:Int) - 2)),.pointer (some ⟨bb649,List.length pre+((wi64 ((x1.length:Int) - 2)):Int).toNat,none⟩),.int .u32 u0c,.int .u64 (wu64 u0c),.int .u64 (bor .u64 (wu64 (v6a*2^min (32:Int).toNat IntKind.u64.bits)) (wu64 u0c)),.bool (decide ((bor .u64 (wu64 (v6a*2^min (32:Int).toNat IntKind.u64.bits)) (wu64 u0c))<(wu64 (v7a*(wu64 u1b)))))]),(by trivial),(by kernel_rfl)⟩)
   ·rintro l' _ ⟨t1a,rfl,rfl⟩ l'' hl
    simp only [S0,S1] at hl;subst hl
    refine Cx (by kernel_rfl) ?_
    refine h7l _ _ ?_
    rcases zb f0m with ⟨e2e,f5n⟩ | ⟨e2e,f6n⟩
    ·refine ct e2e<|wp_skip<|h6l _ _ ?_
     apply wp_block
     refine ws fun h7n=>Ah<|sV3 (Aa rfl) (Bt (c:=wu64 (v7a - 1)) rfl rfl rfl) (Ab rfl) ?_
     refine nx h7n fun h8n=>sV3 (Aa rfl) (Aa rfl) (Aa rfl) ?_
     refine sV (Bt (c:=wi64 ((x1.length:Int) - 1)) rfl rfl rfl) ?_
     have n9n:=(q4d.ext U8b).ext E9b
     obtain ⟨u3e,h0o,f1o⟩:=Ad f5n
     obtain ⟨bb672,oo673,hA2o,ia3o,ib4o,hc675⟩:=RL.nth n9n h0o
     refine sV3 (AA Au Av rfl rfl hA2o ia3o ib4o) (Ag AZ rfl hc675) (AO (c:=wu64 u3e) AQ AN rfl rfl) ?_
     refine sV2 (AV (c:=wu64 (v6a+(wu64 u3e))) rfl rfl rfl) (Ab rfl) ?_
     refine nx h8n fun h5o=>sV (Aa rfl) ?_
     refine sbl (Hb rfl rfl) fun z7f hz7f=>?_
     refine wh h5o ?_
     rcases zi hz7f f1o with ⟨e4e,_,f6o⟩ | ⟨e4e,_,f7o⟩
     ·refine ct e4e<|wp_exit ?_
      simp only [Exit.then,Exit.inBlock,↓reduceIte,Nat.reduceEqDiff]
      obtain rfl:=sj f6o
      exact ⟨_,rfl,(U8b.trans E9b),(Fr.mk (by kernel_rfl))⟩
     ·refine cf e4e<|wp_skip ?_
      exact ih5l _ _ ⟨(wu64 (v7a - 1)),(wu64 (v6a+(wu64 u3e))),(tk [t1a 0,t1a 1,t1a 2,t1a 3,t1a 4,t1a 5,t1a 6,t1a 7,t1a 8,t1a 9,t1a 10,t1a 11,t1a 12,t1a 13,t1a 14,t1a 15,t1a 16,t1a 17]),(U8b.trans E9b),f7o,(Fr.mk (by kernel_rfl))⟩
    ·refine cf e2e<|wp_exit ?_
     simp only [Exit.then,Exit.inBlock,↓reduceIte,Nat.reduceEqDiff]
     obtain rfl:=sj f6n
     exact ⟨_,rfl,(U8b.trans E9b),(Fr.mk (by kernel_rfl))⟩
 ·rintro _ w3 ⟨U8f,⟨t5d,rfl⟩⟩ l'' hl
  simp only [gp,Nat.reduceAdd] at hl
  subst hl
  have X8o:=UpdS.ext X7j U8f
  refine h2l _ _<|ws fun h9o=>Ah<|sV2 (Ab rfl) (Ab rfl) ?_
  refine wh h9o<|ws fun h0p=>ws fun h1p=>Ah<|sV3 (Aa rfl) (AD Au rfl) (Aa rfl) ?_
  refine wh h1p ?_
  obtain ⟨m4a,h2p,f3p⟩:=Ad f4l
  refine CG (fun l l' w'=>UpdS [bp0] w w'∧WN 179 bp0 pre ys w' A1 x0.length c2 m4a.2.2∧Fr l' (fun t6c=>.slice A1 x0.length c2::.slice A4 x1.length c5::gp t6c 2 3 (.int .i64 (x1.length:Int)::gp t6c 6 1 (.int .u64 m3a::gp t6c 8 1 (.int .u64 m4a.1::.int .u64 m4a.2.1::gp t6c 11 164 []))))) ?_ ?_
  ·apply wp_block
   refine Bp (fun l n9f l' w'=>∃(v0b:Int) (v5a:Int) (v2b:Int) (v7c:List Int),UpdS [bp0] w w'∧WN 179 bp0 pre ys w' A1 x0.length c2 v7c∧Fw x0 x1 m3a n9f v0b v5a v2b v7c=some m4a∧Fr l' (fun t1c=>.slice A1 x0.length c2::.slice A4 x1.length c5::gp t1c 2 3 (.int .i64 (x1.length:Int)::gp t1c 6 1 (.int .u64 m3a::gp t1c 8 1 (.int .u64 v0b::.int .u64 v5a::gp t1c 11 72 (.slice A4 x1.length c5::.int .i64 (x1.length:Int)::.int .i64 v2b::gp t1c 86 89 [])))))) 18446744073709551616 ?_ ?_ ?_
   ·have ow4p:=((q0.ext E6b).ext E3d).ext U8f
    exact ⟨0,0,0,x0,X8o,ow4p,h2p,(Fr.mk (by kernel_rfl))⟩
   ·rintro l' w' ⟨v0b,v5a,v2b,v7c,_,_,hz,_⟩
    exact nomatch hz
   ·rintro n9f ih5p _ w4 ⟨v0b,v5a,v2b,v7c,X5e,ow2c,hr0g,⟨t1c,rfl⟩⟩ l'' hl
    simp only [gp,Nat.reduceAdd] at hl
    subst hl
    unfold Fw at hr0g
    refine AW<|ws fun h6p=>Ah<|sbl (Bv rfl rfl) fun z1g hz1g=>?_
    refine wh h6p<|ws fun h7p=>?_
    rcases zi hz1g hr0g with ⟨e6e,_,f8p⟩ | ⟨e6e,_,f9p⟩
    ·refine ct e6e<|wp_skip<|h7p _ _<|ws fun h0q=>?_
     apply wp_block
     refine ws fun h1q=>Ah<|sV (Aa rfl) ?_
     obtain ⟨u8a,h2q,f3q⟩:=Ad f8p
     obtain ⟨bb1169,oo1170,hA4q,ia5q,ib6q,hc1172⟩:=RL.nth (RL.updW n6 X5e ap0) h2q
     refine sV3 (AA Au Av rfl rfl hA4q ia5q ib6q) (Ag AZ rfl hc1172) (Ab rfl) ?_
     refine sV (Ab rfl) ?_
     refine nx h1q fun h7q=>sV3 (Aa rfl) (Aa rfl) (Aa rfl) ?_
     refine sV3 (AO (c:=wu64 u8a) AQ AN rfl rfl) (KS (c:=wu64 (m3a*(wu64 u8a))) rfl rfl rfl) (AV (c:=wu64 (v5a+(wu64 (m3a*(wu64 u8a))))) rfl rfl rfl) ?_
     refine sV (Ab rfl) ?_
     refine nx h7q fun h8q=>sV3 (Aa rfl) (AO (c:=wu32 (wu64 (v5a+(wu64 (m3a*(wu64 u8a)))))) AN AQ rfl rfl) (AO (c:=wu64 (wu32 (wu64 (v5a+(wu64 (m3a*(wu64 u8a))))))) AQ AN rfl rfl) ?_
     refine sV3 (Aa rfl) (AV (c:=wu64 ((wu64 (wu32 (wu64 (v5a+(wu64 (m3a*(wu64 u8a)))))))+v0b)) rfl rfl rfl) (Ab rfl) ?_
     refine nx h8q fun h9q=>sV2 (Aa rfl) (IX (c:=(wu64 (v5a+(wu64 (m3a*(wu64 u8a))))).fdiv (2^min (32:Int).toNat IntKind.u64.bits)) (by decide) rfl rfl rfl) ?_
     refine sV (Ab rfl) ?_
     refine nx h9q fun h0r=>sV (Ab rfl) ?_
     refine wh h0r<|ws fun h1r=>ws fun h2r=>Ah<|sV2 (Aa rfl) (Aa rfl) ?_
     obtain ⟨u3r,h4r,f5r⟩:=Ad f3q
     obtain ⟨bb1185,hA6r,hz4a0,ia7r,ib8r,hc1190⟩:=WN.nthc ow2c h4r
     refine sV3 (AA Au Av rfl rfl hA6r ia7r ib8r) (Ag AZ rfl hc1190) (AO (c:=wu64 u3r) AQ AN rfl rfl) ?_
     refine sV (Aa rfl) ?_
     refine sbl (Bv rfl rfl) fun z2g hz2g=>?_
     refine wh h2r ?_
     obtain ⟨m3g,h9r,f0s⟩:=Ad f5r
     refine CG (fun l l' w'=>w4=w'∧l'=(l.set 9 (.int .u64 m3g))) ?_ ?_
     ·rcases zi hz2g h9r with ⟨e7e,_,f1s⟩ | ⟨e7e,_,f2s⟩
      ·refine ct e7e<|Ah<|sV (Ab rfl) ?_
       refine AF ?_
       obtain rfl:=sj f1s
       exact ⟨_,rfl,(by trivial),(by kernel_rfl)⟩
      ·refine cf e7e<|wp_skip ?_
       obtain rfl:=sj f2s
       exact ⟨_,rfl,(by trivial),(by kernel_rfl)⟩
     ·rintro l' _ ⟨rfl,rfl⟩ l'' hl
      simp only [S0,S1] at hl;subst hl
      refine h1r _ _<|Ah<|sV2 (Aa rfl) (Aa rfl) ?_
      obtain ⟨u4g,h3s,f4s⟩:=Ad f0s
      obtain ⟨bb1211,hA5s,hz5a0,ia6s,ib7s,hc1216⟩:=WN.nthc ow2c h3s
      refine sV3 (AA Au Av rfl rfl hA5s ia6s ib7s) (Ag AZ rfl hc1216) (Aa rfl) ?_
      refine sV2 (AO (c:=wu32 (wu64 ((wu64 (wu32 (wu64 (v5a+(wu64 (m3a*(wu64 u8a)))))))+v0b))) AN AQ rfl rfl) (Bt (c:=wu32 (u4g - (wu32 (wu64 ((wu64 (wu32 (wu64 (v5a+(wu64 (m3a*(wu64 u8a)))))))+v0b))))) rfl rfl rfl) ?_
      obtain ⟨u6a0,h8s,f9s⟩:=Ad f4s
      obtain ⟨bb1220,hA5g,hz7a0,ia6g,ib7g,hc1225⟩:=WN.nthc ow2c h8s
      refine sV (AA Au Av rfl rfl hA5g ia6g ib7g) ?_
      refine Rb Av rfl rfl ow2c hA5g ia6g (by rw [WN.len ow2c];exact ib7g) fun w5 U0t ow1t=>?_
      have X2t:=UpdS.tr X5e U0t
      refine wh h0q<|Ah<|sV2 (AV (c:=wi64 (v2b+1)) rfl rfl rfl) (Aa rfl) ?_
      refine AF ?_
      exact ih5p _ _ ⟨m3g,((wu64 (v5a+(wu64 (m3a*(wu64 u8a))))).fdiv (2^min (32:Int).toNat IntKind.u64.bits)),(wi64 (v2b+1)),(List.set v7c (v2b:Int).toNat (wu32 (u4g - (wu32 (wu64 ((wu64 (wu32 (wu64 (v5a+(wu64 (m3a*(wu64 u8a)))))))+v0b)))))),X2t,ow1t,f9s,(Fr.mk (by kernel_rfl))⟩
    ·refine cf e6e<|wp_exit ?_
     simp only [Exit.then,Exit.inBlock,↓reduceIte,Nat.reduceEqDiff]
     obtain rfl:=sj f9p
     exact ⟨_,rfl,X5e,ow2c,(Fr.mk (by kernel_rfl))⟩
  ·rintro _ w4 ⟨X3t,ow8c,⟨t6c,rfl⟩⟩ l'' hl
   simp only [gp,Nat.reduceAdd] at hl
   subst hl
   refine h0p _ _<|ws fun h4t=>Ah<|sV3 (Aa rfl) (Aa rfl) (AV (c:=wu64 (m4a.2.1+m4a.1)) rfl rfl rfl) ?_
   refine sV (Ab rfl) ?_
   refine nx h4t fun h5t=>sV2 (Aa rfl) (Aa rfl) ?_
   obtain ⟨u6t,h7t,f8t⟩:=Ad f3p
   obtain ⟨bb1235,hA9t,hz8a0,ia0u,ib1u,hc1240⟩:=WN.nthc ow8c h7t
   refine sV3 (AA Au Av rfl rfl hA9t ia0u ib1u) (Ag AZ rfl hc1240) (AO (c:=wu64 u6t) AQ AN rfl rfl) ?_
   refine sV (Aa rfl) ?_
   refine sbl (Bv rfl rfl) fun z8g hz8g=>?_
   refine sV (Ab rfl) ?_
   refine nx h5t fun h2u=>sV2 (Aa rfl) (Aa rfl) ?_
   obtain ⟨u9g,h3u,f4u⟩:=Ad f8t
   obtain ⟨bb1246,hA5u,hz9a0,ia6u,ib7u,hc1251⟩:=WN.nthc ow8c h3u
   refine sV3 (AA Au Av rfl rfl hA5u ia6u ib7u) (Ag AZ rfl hc1251) (Aa rfl) ?_
   refine sV2 (AO (c:=wu32 (wu64 (m4a.2.1+m4a.1))) AN AQ rfl rfl) (Bt (c:=wu32 (u9g - (wu32 (wu64 (m4a.2.1+m4a.1))))) rfl rfl rfl) ?_
   obtain ⟨u0a1,h8u,f9u⟩:=Ad f4u
   obtain ⟨bb1255,hA0h,hz1a1,ia1h,ib2h,hc1260⟩:=WN.nthc ow8c h8u
   refine sV (AA Au Av rfl rfl hA0h ia1h ib2h) ?_
   refine Rb Av rfl rfl ow8c hA0h ia1h (by rw [WN.len ow8c];exact ib2h) fun w5 U0v ow3h=>?_
   have X4h:=UpdS.tr X3t U0v
   refine wh h2u<|ws fun h1v=>ws fun h2v=>Ah<|sV (Aa rfl) ?_
   refine wh h2v ?_
   obtain ⟨m6d,h3v,f4v⟩:=Ad f9u
   refine CG (fun l l' w'=>UpdS [bp0] w w'∧WN 179 bp0 pre ys w' A1 x0.length c2 m6d.2.2∧Fr l' (fun t7d=>gp t7d 0 7 (.int .u64 m6d.1::gp t7d 8 2 (.int .u64 m6d.2.1::gp t7d 11 164 [])))) ?_ ?_
   ·rcases zi hz8g h3v with ⟨e8e,_,f5v⟩ | ⟨e8e,_,f6v⟩
    ·refine ct e8e<|ws fun h7v=>Ah<|sV3 (Aa rfl) (Bt (c:=wu64 (m3a - 1)) rfl rfl rfl) (Ab rfl) ?_
     refine nx h7v fun h8v=>sV (Ab rfl) ?_
     refine wh h8v<|ws fun h9v=>ws fun h0w=>Ah<|sV3 (Aa rfl) (AD Au rfl) (Aa rfl) ?_
     refine wh h0w ?_
     obtain ⟨m9c,h1w,f2w⟩:=Ad f5v
     refine CG (fun l l' w'=>UpdS [bp0] w w'∧WN 179 bp0 pre ys w' A1 x0.length c2 m9c.2∧Fr l' (fun t0d=>.slice A1 x0.length c2::gp t0d 1 4 (.int .i64 (x1.length:Int)::gp t0d 6 1 (.int .u64 (wu64 (m3a - 1))::gp t0d 8 2 (.int .u64 m9c.1::gp t0d 11 164 []))))) ?_ ?_
     ·apply wp_block
      refine Bp (fun l n5h l' w'=>∃(v9a:Int) (v3b:Int) (v1d:List Int),UpdS [bp0] w w'∧WN 179 bp0 pre ys w' A1 x0.length c2 v1d∧Fs x0 x1 n5h v9a v3b v1d=some m9c∧Fr l' (fun t3c=>.slice A1 x0.length c2::gp t3c 1 4 (.int .i64 (x1.length:Int)::gp t3c 6 1 (.int .u64 (wu64 (m3a - 1))::gp t3c 8 2 (.int .u64 v9a::gp t3c 11 129 (.slice A4 x1.length c5::.int .i64 (x1.length:Int)::.int .i64 v3b::gp t3c 143 32 [])))))) 18446744073709551616 ?_ ?_ ?_
      ·exact ⟨0,0,(List.set m4a.2.2 ((x1.length:Int):Int).toNat (wu32 (u9g - (wu32 (wu64 (m4a.2.1+m4a.1)))))),X4h,ow3h,h1w,(Fr.mk (by kernel_rfl))⟩
      ·rintro l' w' ⟨v9a,v3b,v1d,_,_,hz,_⟩
       exact nomatch hz
      ·rintro n5h ih3w _ w6 ⟨v9a,v3b,v1d,X9e,ow2d,hr6h,⟨t3c,rfl⟩⟩ l'' hl
       simp only [gp,Nat.reduceAdd] at hl
       subst hl
       unfold Fs at hr6h
       refine AW<|ws fun h4w=>Ah<|sbl (Bv rfl rfl) fun z7h hz7h=>?_
       refine wh h4w<|ws fun h5w=>?_
       rcases zi hz7h hr6h with ⟨e0f,_,f6w⟩ | ⟨e0f,_,f7w⟩
       ·refine ct e0f<|wp_skip<|h5w _ _<|ws fun h8w=>?_
        apply wp_block
        refine ws fun h9w=>Ah<|sV (Aa rfl) ?_
        obtain ⟨u4b,h0x,f1x⟩:=Ad f6w
        obtain ⟨bb1977,oo1978,hA2x,ia3x,ib4x,hc1980⟩:=RL.nth (RL.updW n6 X9e ap0) h0x
        refine sV3 (AA Au Av rfl rfl hA2x ia3x ib4x) (Ag AZ rfl hc1980) (Ab rfl) ?_
        refine sV (Ab rfl) ?_
        refine nx h9w fun h5x=>sV3 (Aa rfl) (Aa rfl) (Aa rfl) ?_
        obtain ⟨u5b,h6x,f7x⟩:=Ad f1x
        obtain ⟨bb1988,hA8x,hz2a1,ia9x,ib0y,hc1993⟩:=WN.nthc ow2d h6x
        refine sV3 (AA Au Av rfl rfl hA8x ia9x ib0y) (Ag AZ rfl hc1993) (AO (c:=wu64 u5b) AQ AN rfl rfl) ?_
        refine sV3 (Aa rfl) (AO (c:=wu64 u4b) AQ AN rfl rfl) (AV (c:=wu64 ((wu64 u5b)+(wu64 u4b))) rfl rfl rfl) ?_
        refine sV2 (AV (c:=wu64 (v9a+(wu64 ((wu64 u5b)+(wu64 u4b))))) rfl rfl rfl) (Ab rfl) ?_
        refine nx h5x fun h1y=>sV3 (Aa rfl) (Aa rfl) (Aa rfl) ?_
        refine sV (AO (c:=wu32 (wu64 (v9a+(wu64 ((wu64 u5b)+(wu64 u4b)))))) AN AQ rfl rfl) ?_
        obtain ⟨u3a1,h2y,f3y⟩:=Ad f7x
        obtain ⟨bb1998,hA8h,hz4a1,ia9h,ib0i,hc2003⟩:=WN.nthc ow2d h2y
        refine sV (AA Au Av rfl rfl hA8h ia9h ib0i) ?_
        refine Rb Av rfl rfl ow2d hA8h ia9h (by rw [WN.len ow2d];exact ib0i) fun w7 U4y ow5y=>?_
        have X6y:=UpdS.tr X9e U4y
        refine wh h1y<|Ah<|sV2 (Aa rfl) (IX (c:=(wu64 (v9a+(wu64 ((wu64 u5b)+(wu64 u4b))))).fdiv (2^min (32:Int).toNat IntKind.u64.bits)) (by decide) rfl rfl rfl) ?_
        refine sV (Ab rfl) ?_
        refine wh h8w<|Ah<|sV2 (AV (c:=wi64 (v3b+1)) rfl rfl rfl) (Aa rfl) ?_
        refine AF ?_
        exact ih3w _ _ ⟨((wu64 (v9a+(wu64 ((wu64 u5b)+(wu64 u4b))))).fdiv (2^min (32:Int).toNat IntKind.u64.bits)),(wi64 (v3b+1)),(List.set v1d (v3b:Int).toNat (wu32 (wu64 (v9a+(wu64 ((wu64 u5b)+(wu64 u4b))))))),X6y,ow5y,f3y,(Fr.mk (by kernel_rfl))⟩
       ·refine cf e0f<|wp_exit ?_
        simp only [Exit.then,Exit.inBlock,↓reduceIte,Nat.reduceEqDiff]
        obtain rfl:=sj f7w
        exact ⟨_,rfl,X9e,ow2d,(Fr.mk (by kernel_rfl))⟩
     ·rintro _ w6 ⟨X7y,ow8d,⟨t0d,rfl⟩⟩ l'' hl
      simp only [gp,Nat.reduceAdd] at hl
      subst hl
      refine h9v _ _<|Ah<|sV2 (Aa rfl) (Aa rfl) ?_
      obtain ⟨u8y,h9y,f0z⟩:=Ad f2w
      obtain ⟨bb2011,hA1z,hz5a1,ia2z,ib3z,hc2016⟩:=WN.nthc ow8d h9y
      refine sV3 (AA Au Av rfl rfl hA1z ia2z ib3z) (Ag AZ rfl hc2016) (Aa rfl) ?_
      refine sV2 (AO (c:=wu32 m9c.1) AN AQ rfl rfl) (AV (c:=wu32 (u8y+(wu32 m9c.1))) rfl rfl rfl) ?_
      obtain ⟨u6a1,h4z,f5z⟩:=Ad f0z
      obtain ⟨bb2020,hA1i,hz7a1,ia2i,ib3i,hc2025⟩:=WN.nthc ow8d h4z
      refine sV (AA Au Av rfl rfl hA1i ia2i ib3i) ?_
      refine Rb Av rfl rfl ow8d hA1i ia2i (by rw [WN.len ow8d];exact ib3i) fun w7 U6z ow7z=>?_
      have X8z:=UpdS.tr X7y U6z
      refine AF ?_
      obtain rfl:=sj f5z
      exact ⟨_,rfl,X8z,ow7z,(Fr.mk (by kernel_rfl))⟩
    ·refine cf e8e<|wp_skip ?_
     obtain rfl:=sj f6v
     exact ⟨_,rfl,X4h,ow3h,(Fr.mk (by kernel_rfl))⟩
   ·rintro _ w6 ⟨X9z,ow4i,⟨t7d,rfl⟩⟩ l'' hl
    simp only [gp,Nat.reduceAdd] at hl
    subst hl
    refine h1v _ _<|ws fun h0a0=>Ah<|sV3 (Aa rfl) (AO (c:=wu32 m6d.1) AN AQ rfl rfl) (Ab rfl) ?_
    refine wh h0a0<|wp_ret ?_
    exact Gd f4v rfl (Res.tmp rfl Res.nil) ⟨X9z,WN.len ow4i,WN.bx ow4i,_,rfl,rfl⟩
theorem Jb (x0:List Int) (x1:List Int) (A1:OA) (c2:Nat) (A4:OA) (c5:Nat) (w:World) (hT:TB w) (n3:RLu w A1 c2 x0) (n6:RLu w A4 c5 x1) (r:List Int × List Int) (hr:Dp x0 x1=some r) :
  Calls Tryz.prog 186 #[.slice A1 x0.length c2,.slice A4 x1.length c5] w (Ret MP w r):=by
 unfold Dp at hr
 go_enter Tryz.func186,Tryz.ntmps186
 refine ws fun h7=>Ah<|sV2 (Ab rfl) (Ab rfl) ?_
 refine wh h7<|ws fun h8=>ws fun h9=>Ah<|sV2 (Aa rfl) (Aa rfl) ?_
 refine scr hr (Ac NX (by rfl)) (GZ x0 x1 A1 c2 A4 c5 w hT n3 n6) fun r3b f0d w1 E2a=>?_
 refine sbl (Bv rfl rfl) fun z1d hz1d=>?_
 refine wh h9 ?_
 rcases zi hz1d f0d with ⟨e4b,_,f7f⟩ | ⟨e4b,_,f8f⟩
 ·refine ct e4b<|ws fun h9f=>Ah<|sV3 (Aa rfl) (Ab rfl) (Ab rfl) ?_
  refine wh h9f<|wp_ret ?_
  exact Gd f7f rfl (Res.tmp rfl (Res.tmp rfl Res.nil)) (AJ E2a ⟨none,0,A1,c2,rfl,(RL.nil _ _ _),(n3.ext E2a)⟩)
 ·refine cf e4b<|wp_skip<|h8 _ _<|ws fun h0g=>ws fun h1g=>Ah<|sV2 (Aa rfl) (AD Au rfl) ?_
  refine sbl (Cy rfl rfl) fun z2d hz2d=>?_
  refine wh h1g ?_
  rcases zi hz2d f8f with ⟨e5b,_,f2g⟩ | ⟨e5b,_,f3g⟩
  ·refine ct e5b<|ws fun h4g=>Ah<|sV2 (Aa rfl) (Aa rfl) ?_
   obtain ⟨u5g,h6g,f7g⟩:=Ad f2g
   obtain ⟨bb545,oo546,hA8g,ia9g,ib0h,hc548⟩:=RL.nth (n6.ext E2a) h6g
   refine sV2 (AA Au Av rfl rfl hA8g ia9g ib0h) (Ag AZ rfl hc548) ?_
   obtain ⟨r1h,h2h,f3h⟩:=Ad f7g
   refine sc (Ac en_237 (by rfl)) (c_wide_Nat_short x0 u5g A1 c2 w1 (tbx E2a hT) (n3.ext E2a) r1h h2h) ?_
   rintro _ w2 E4h ⟨A5h,c6h,A7h,c8h,rfl,n9h,n0i⟩
   refine nrm ?_
   have X1i:=xtr E2a E4h
   refine sV3 (Ai rfl rfl) (Ai rfl rfl) (Ab rfl) ?_
   refine sV (Ab rfl) ?_
   refine wh h4g<|wp_ret ?_
   exact Gd f3h rfl (Res.tmp rfl (Res.tmp rfl Res.nil)) (AJ X1i ⟨A5h,c6h,A7h,c8h,rfl,n9h,n0i⟩)
  ·refine cf e5b<|wp_skip<|h0g _ _<|ws fun h2i=>Ah<|sV3 (Aa rfl) (Aa rfl) (AD Au rfl) ?_
   refine sV (Bt (c:=wi64 ((x1.length:Int) - 1)) rfl rfl rfl) ?_
   obtain ⟨u3i,h4i,f64⟩:=Ad f3g
   obtain ⟨bb65,oo66,hA5i,ia6i,ib7i,hc68⟩:=RL.nth (n6.ext E2a) h4i
   refine sV2 (AA Au Av rfl rfl hA5i ia6i ib7i) (Ag AZ rfl hc68) ?_
   refine scr f64 (Ac Qn (by rfl)) (Gh u3i w1 (tbx E2a hT)) fun r5a f8i w2 E9i=>?_
   have X6b:=xtr E2a E9i
   refine sV (Ab rfl) ?_
   refine nx h2i fun h0j=>sV2 (Aa rfl) (Aa rfl) ?_
   refine scn f8i (Ac Ko (by rfl)) (CL x1 r5a A4 c5 w2 (tbx X6b hT) (n6.ext X6b)) fun r0a f1j w3 A3d c4d E2j n5d=>?_
   have X0b:=xtr X6b E2j
   refine sV (Ab rfl) ?_
   refine nx h0j fun h3j=>sV3 (Aa rfl) (AD Au rfl) (AV (c:=wi64 ((x0.length:Int)+1)) rfl rfl rfl) ?_
   obtain ⟨_,h4j,f5j⟩:=Ad f1j
   have gd89:=AI h4j
   refine IH Au ER rfl rfl gd89 fun A1b w4 E6d ow6j=>?_
   refine nrm ?_
   have X7b:=xtr X0b E6d
   refine sV (Ab rfl) ?_
   refine nx h3j fun h7j=>sV3 (Aa rfl) (Aa rfl) (Aa rfl) ?_
   refine scn f5j (Ac Ko (by rfl)) (CL x0 r5a A1 c2 w4 (tbx X7b hT) (n3.ext X7b)) fun r7d f8j w5 A9p c0q E8b n9j=>?_
   have X0k:=xtr X7b E8b
   have X1k:=xtr E6d E8b
   refine RH Au Av rfl rfl (ow6j.ext E8b) n9j fun w6 B105 ow8d=>?_
   refine nrm ?_
   have X9d:=xO X0k B105 X0b.size
   have X0e:=xO X1k B105 (Nat.le_refl _)
   refine nx h7j fun h2k=>sV3 (Aa rfl) (AD Au rfl) (Ab rfl) ?_
   refine nx h2k fun h3k=>sV3 (Aa rfl) (AD Au rfl) (Aa rfl) ?_
   refine sV (Bt (c:=wi64 ((((((wi64 ((x0.length:Int)+1)):Int).toNat):Nat):Int) - (r0a.length:Int))) rfl rfl rfl) ?_
   obtain ⟨_,h4k,f5k⟩:=Ad f8j
   have gd117:=AI h4k
   have hl118:=OW.lt ow8d
   refine IH Au ER rfl rfl gd117 fun A6a w7 E9b ow6k=>?_
   refine nrm ?_
   have X7k:=xtr X9d E9b
   have X8k:=xtr X0e E9b
   refine sV (Ab rfl) ?_
   refine wh h3k<|ws fun h9k=>ws fun h0l=>Ah<|sV3 (Aa rfl) (AD Au rfl) (Aa rfl) ?_
   refine sV3 (Bt (c:=wi64 ((((((wi64 ((x0.length:Int)+1)):Int).toNat):Nat):Int) - (r0a.length:Int))) rfl rfl rfl) (Bt (c:=wi64 ((wi64 ((((((wi64 ((x0.length:Int)+1)):Int).toNat):Nat):Int) - (r0a.length:Int))) - 1)) rfl rfl rfl) (Ab rfl) ?_
   refine wh h0l ?_
   obtain ⟨m7a,h1l,f2l⟩:=Ad f5k
   refine CG (fun l l' w'=>Ext w w'∧Ext w3 w'∧OW 179 w6.heap.size w' A6a (((wi64 ((((((wi64 ((x0.length:Int)+1)):Int).toNat):Nat):Int) - (r0a.length:Int))):Int).toNat) (((wi64 ((((((wi64 ((x0.length:Int)+1)):Int).toNat):Nat):Int) - (r0a.length:Int))):Int).toNat) m7a.1∧OW 179 w3.heap.size w' A1b (((wi64 ((x0.length:Int)+1)):Int).toNat) (((wi64 ((x0.length:Int)+1)):Int).toNat) m7a.2∧Fr l' (fun t2b=>gp t2b 0 6 (.int .i64 r5a::gp t2b 7 1 (.slice A1b (((wi64 ((x0.length:Int)+1)):Int).toNat) (((wi64 ((x0.length:Int)+1)):Int).toNat)::.int .i64 (r0a.length:Int)::.slice A6a (((wi64 ((((((wi64 ((x0.length:Int)+1)):Int).toNat):Nat):Int) - (r0a.length:Int))):Int).toNat) (((wi64 ((((((wi64 ((x0.length:Int)+1)):Int).toNat):Nat):Int) - (r0a.length:Int))):Int).toNat)::gp t2b 11 71 [])))) ?_ ?_
   ·apply wp_block
    refine Bp (fun l n1e l' w'=>∃(v1a:Int) (v8a:List Int) (v3a:List Int),Ext w w'∧Ext w3 w'∧OW 179 w6.heap.size w' A6a (((wi64 ((((((wi64 ((x0.length:Int)+1)):Int).toNat):Nat):Int) - (r0a.length:Int))):Int).toNat) (((wi64 ((((((wi64 ((x0.length:Int)+1)):Int).toNat):Nat):Int) - (r0a.length:Int))):Int).toNat) v8a∧OW 179 w3.heap.size w' A1b (((wi64 ((x0.length:Int)+1)):Int).toNat) (((wi64 ((x0.length:Int)+1)):Int).toNat) v3a∧Fh x0 x1 r0a n1e v1a v8a v3a=some m7a∧Fr l' (fun t0c=>gp t0c 0 6 (.int .i64 r5a::.slice A3d r0a.length c4d::.slice A1b (((wi64 ((x0.length:Int)+1)):Int).toNat) (((wi64 ((x0.length:Int)+1)):Int).toNat)::.int .i64 (r0a.length:Int)::.slice A6a (((wi64 ((((((wi64 ((x0.length:Int)+1)):Int).toNat):Nat):Int) - (r0a.length:Int))):Int).toNat) (((wi64 ((((((wi64 ((x0.length:Int)+1)):Int).toNat):Nat):Int) - (r0a.length:Int))):Int).toNat)::.int .i64 v1a::gp t0c 12 70 []))) 18446744073709551616 ?_ ?_ ?_
    ·exact ⟨(wi64 ((wi64 ((((((wi64 ((x0.length:Int)+1)):Int).toNat):Nat):Int) - (r0a.length:Int))) - 1)),(List.replicate ((wi64 ((((((wi64 ((x0.length:Int)+1)):Int).toNat):Nat):Int) - (r0a.length:Int))):Int).toNat (0:Int)),((r7d).take (List.length (List.replicate ((wi64 ((x0.length:Int)+1)):Int).toNat (0:Int)))++(List.replicate ((wi64 ((x0.length:Int)+1)):Int).toNat (0:Int)).drop r7d.length),X7k,X8k,ow6k,(ow8d.ext E9b),h1l,(Fr.mk (by kernel_rfl))⟩
    ·rintro l' w' ⟨v1a,v8a,v3a,_,_,_,_,hz,_⟩
     exact nomatch hz
    ·rintro n1e ih3l _ w8 ⟨v1a,v8a,v3a,X1c,X2c,ow2e,ow4a,hr3e,⟨t0c,rfl⟩⟩ l'' hl
     simp only [gp,Nat.reduceAdd] at hl
     subst hl
     unfold Fh at hr3e
     refine AW<|ws fun h4l=>ws fun h5l=>Ah<|sV (Aa rfl) ?_
     refine sbl (Hb rfl rfl) fun z4e hz4e=>?_
     refine wh h5l ?_
     rcases zi hz4e hr3e with ⟨e3c,_,f6l⟩ | ⟨e3c,_,f7l⟩
     ·refine ct e3c<|wp_skip<|h4l _ _<|ws fun h8l=>?_
      apply wp_block
      refine Ah<|sV3 (Aa rfl) (Aa rfl) (Aa rfl) ?_
      refine sV3 (Aa rfl) (Aa rfl) (Aa rfl) ?_
      refine sV2 (AV (c:=wi64 (v1a+(r0a.length:Int))) rfl rfl rfl) (AV (c:=wi64 ((wi64 (v1a+(r0a.length:Int)))+1)) rfl rfl rfl) ?_
      obtain ⟨_,h9l,f0m⟩:=Ad f6l
      have gd465:=AI h9l
      obtain ⟨b5e,ys467,hA6e,hz1m,g4c,q7e,bk472⟩:=OW.win (lo:=(v1a:Int).toNat) (hi:=((wi64 ((wi64 (v1a+(r0a.length:Int)))+1)):Int).toNat) ow4a (by omega) (by rw [←OW.len ow4a];omega)
      refine swin (lo:=(v1a:Int).toNat) (hi:=((wi64 ((wi64 (v1a+(r0a.length:Int)))+1)):Int).toNat) Au Av rfl ⟨.i64,by rw [Int.toNat_of_nonneg (a:=v1a) (by omega)];rfl⟩ ⟨.i64,by rw [Int.toNat_of_nonneg (a:=(wi64 ((wi64 (v1a+(r0a.length:Int)))+1))) (by omega)];rfl⟩ (by omega) (by rw [←OW.len ow4a];omega) ow4a hA6e ?_
      refine nrm ?_
      refine sV (Aa rfl) ?_
      obtain ⟨r5c,h2m,f3m⟩:=Ad f0m
      refine scK (Ac en_238 (by rfl)) (c_wide_digit ((List.drop ((v1a:Int).toNat) v3a).take ((((wi64 ((wi64 (v1a+(r0a.length:Int)))+1)):Int).toNat) - ((v1a:Int).toNat))) r0a (some ⟨b5e,List.length ((v3a).take ((v1a:Int).toNat)),none⟩) ((((wi64 ((x0.length:Int)+1)):Int).toNat) - ((v1a:Int).toNat)) A3d c4d b5e ((v3a).take ((v1a:Int).toNat)) ys467 w8 (tbx X1c hT) ⟨rfl,rfl,q7e,by have:=OW.cap ow4a;simp only [List.length_take,List.length_drop];omega,by have:=(OW.rl ow4a).2.1;omega⟩  (TB.nz (tbx X0b hT) g4c) (n5d.ext X2c) (apartB n5d g4c) r5c h2m) ?_
      rintro _ w9 ⟨U8e,hl478,q4m,_,rfl,rfl⟩
      refine ⟨_,rfl,?_⟩
      refine nrm ?_
      have B480:=UpdS.below U8e g4c q7e.lt
      have ow5m:=bk472 _ _ (by rw [hl478];simp only [List.length_take,List.length_drop];omega) q4m
      have X6m:=xO X1c B480 X0b.size
      have X7m:=xO X2c B480 (Nat.le_refl _)
      have ow6c:=OW.updO ow2e U8e (hl118 _ hA6e hz1m)
      obtain ⟨u1q,h8m,f9m⟩:=Ad f3m
      obtain ⟨bb488,hA9e,hz2q,ia0f,ib1f,hc493⟩:=OW.nthc ow6c h8m
      refine sV (AA Au Av rfl rfl hA9e ia0f ib1f) ?_
      refine MW Av rfl rfl ow6c hA9e ia0f (by rw [OW.len ow6c];exact ib1f) fun w3b B494 U3q ow0n=>?_
      have X1n:=xO X6m B494 X9d.size
      have X2n:=xO X7m B494 X0e.size
      have ow3n:=OW.bel2 ow5m B494 hl118
      refine wh h8l<|Ah<|sV3 (Aa rfl) (Bt (c:=wi64 (v1a - 1)) rfl rfl rfl) (Ab rfl) ?_
      refine AF ?_
      exact ih3l _ _ ⟨(wi64 (v1a - 1)),(List.set v8a (v1a:Int).toNat r5c.1),(((v3a).take ((v1a:Int).toNat))++r5c.2++((v3a).drop (((wi64 ((wi64 (v1a+(r0a.length:Int)))+1)):Int).toNat))),X1n,X2n,ow0n,ow3n,f9m,(Fr.mk (by kernel_rfl))⟩
     ·refine cf e3c<|wp_exit ?_
      simp only [Exit.then,Exit.inBlock,↓reduceIte,Nat.reduceEqDiff]
      obtain rfl:=sj f7l
      exact ⟨_,rfl,X1c,X2c,ow2e,ow4a,(Fr.mk (by kernel_rfl))⟩
   ·rintro _ w8 ⟨X4n,X4q,ow2f,ow3f,⟨t2b,rfl⟩⟩ l'' hl
    simp only [gp,Nat.reduceAdd] at hl
    subst hl
    refine h9k _ _<|ws fun h5n=>DT [] 10 mo rfl fun w9 E9a S6n=>have X4f:=xtr X4n E9a;dA 0 rfl (fun _=>Aa rfl) ?_
    refine dA2 2 3 rfl rfl (fun _=>Aa rfl) (fun _=>Aa rfl) ?_
    obtain ⟨_,h7n,f8n⟩:=Ad f2l
    have gd507:=AI h7n
    refine dslice 4 rfl (lo:=0) (hi:=((r0a.length:Int):Int).toNat) Au Av (by rw [OW.len (ow3f.ext E9a)];rfl) rfl ⟨.i64,by rw [Int.toNat_of_nonneg (a:=(r0a.length:Int)) (by omega)];rfl⟩ (by omega) (by omega) (OW.rl (ow3f.ext E9a)) fun A9n c0o n1o=>?_
    refine dnrm ?_
    refine dA 6 rfl (fun _=>Aa rfl) ?_
    refine dcn f8n 1 rfl (by rfl) (Ac Lm (by simp only [OW.len (ow2f.ext E9a)];rfl)) (DX m7a.1 A6a (((wi64 ((((((wi64 ((x0.length:Int)+1)):Int).toNat):Nat):Int) - (r0a.length:Int))):Int).toNat) w9 (tbx X4f hT) (OW.rl (ow2f.ext E9a))) fun r5q f2o w3b A3o c4o E7c n5o=>?_
    have X5f:=xtr X4f E7c
    have S6o:=S6n.trans E7c
    refine dcn f2o 5 rfl (by rfl) (Ac Lm (by rfl)) (DX ((List.drop 0 m7a.2).take ((((r0a.length:Int):Int).toNat) - 0)) A9n c0o w3b (tbx X5f hT) (n1o.ext E7c)) fun r7o f8o w9o A0p c1p E8c n2p=>?_
    have X6f:=xtr X5f E8c
    have S3p:=S6o.trans E8c
    refine dcn f8o 7 rfl (by rfl) (Ac Oa (by rfl)) (Hc r7o r5a A0p c1p w9o (tbx X6f hT) n2p) fun r6q f4p w0d A5p c6p E9c n7p=>?_
    have X8p:=xtr X6f E9c
    have S7q:=S3p.trans E9c
    refine dA2 8 9 rfl rfl (fun _=>Ab rfl) (fun _=>Ab rfl) ?_
    refine Cx (by kernel_rfl) ?_
    refine h5n _ _<|wp_ret ?_
    exact Gd f4p rfl (Res.tmp rfl (Res.tmp rfl Res.nil)) (AJ X8p ⟨A3o,c4o,A5p,c6p,rfl,((n5o.ext E8c).ext E9c),n7p⟩)
end Go.Proofs.Lf

