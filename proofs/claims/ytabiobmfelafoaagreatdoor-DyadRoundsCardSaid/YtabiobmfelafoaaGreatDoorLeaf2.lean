import Derived.Test.YtabiobmfelafoaaGreatDoorLeaf0
namespace Go.Proofs.Lf
set_option linter.unusedVariables false
set_option linter.unusedSimpArgs false
set_option maxHeartbeats 4000000
open Go.RowKit Go.Sb Go.Proofs Go.Proofs.Sbn
set_option maxRecDepth 20000 in
theorem c_wide_digit (x0:List Int) (x1:List Int) (A1:Option Addr) (c2:Nat) (A4:Option Addr) (c5:Nat) (bp0:Nat) (pre ys:List Int) (w:World) (hT:TB w) (q0:WN 179 bp0 pre ys w A1 x0.length c2 x0) (hb0:bp0≠0) (n6:RLu w A4 c5 x1) (ap0:Apart A4 x1 bp0) (r:(Int) × List Int) (hr:Hb x0 x1=some r) :
  Calls Tryz.prog 238 #[.slice A1 x0.length c2,.slice A4 x1.length c5] w (RetW 179 bp0 pre ys x0.length Nb w r):=by
 unfold Hb at hr
 refine KU Tryz.func238 rfl [.slice A1 x0.length c2,.slice A4 x1.length c5,uu,uu,uu,uu,uu,uu,uu,uu,uu,uu,uu,uu,uu,uu,uu,uu,uu,uu,uu,uu,uu,uu,uu,uu,uu,uu,uu,uu,uu,uu,uu,uu,uu,uu,uu,uu,uu,uu,uu,uu,uu,uu,uu,uu,uu,uu,uu,uu,uu,uu,uu,uu,uu,uu,uu,uu,uu,uu,uu,uu,uu,uu,uu,uu,uu,uu,uu,uu,uu,uu,uu,uu,uu,uu,uu,uu,uu,uu,uu,uu,uu,uu,uu,uu,uu,uu,uu,uu,uu,uu,uu,uu,uu,uu,uu,uu,uu,uu,uu,uu,uu,uu,uu,uu,uu,uu,uu,uu,uu,uu,uu,uu,uu,uu,uu,uu,uu,uu,uu,uu,uu,uu,uu,uu,uu,uu,uu,uu,uu,uu,uu,uu,uu,uu,uu,uu,uu,uu,uu,uu,uu,uu,uu,uu,uu,uu,uu,uu,uu,uu,uu,uu,uu,uu,uu,uu,uu,uu,uu,uu,uu,uu,uu,uu,uu,uu,uu,uu,uu,uu,uu,uu,uu] (by kernel_rfl) ?_
 refine wp_seq_k fun K7 h7=>Ae<|sV (Ac rfl) ?_
 refine Ad<|h7 _ _<|wp_seq_k fun K8 h8=>Ae<|sV (Aa rfl) ?_
 refine sV (Ax Aq rfl) ?_
 refine sV (Ac rfl) ?_
 refine Ad<|h8 _ _<|wp_seq_k fun K9 h9=>EE [] 14 mo rfl fun w1 E8c S3g=>have X8m:=UpdS.ext (UpdS.refl [bp0] w) E8c;dA 0 rfl (fun _=>Aa rfl) ?_
 refine dA 1 rfl (fun _=>Aa rfl) ?_
 obtain ⟨u4a,h9m,f0n⟩:=Ab hr
 obtain ⟨bb16,hA1n,hz3a1,ia2n,ib3n,hc21⟩:=WN.nthc (q0.ext E8c) h9m
 refine dA 2 rfl (fun _=>Ar Aq An rfl rfl hA1n ia2n ib3n) ?_
 refine dV 3 rfl (fun _ hw=>Ag AN rfl (Cv hc21 hw)) S3g ?_
 refine dA 4 rfl (fun _=>AG (c:=wu64 u4a) AH AF rfl rfl) ?_
 refine dA 5 rfl (fun _=>HM (c:=wu64 ((wu64 u4a)*2^min (32:Int).toNat IntKind.u64.bits)) (by decide) rfl rfl rfl) ?_
 refine dA 6 rfl (fun _=>Aa rfl) ?_
 refine dA 7 rfl (fun _=>Aa rfl) ?_
 refine dA 8 rfl (fun _=>AV (c:=wi64 ((x1.length:Int) - 1)) rfl rfl rfl) ?_
 obtain ⟨u5a,h4n,f5n⟩:=Ab f0n
 obtain ⟨bb25,hA6n,hz4a1,ia7n,ib8n,hc30⟩:=WN.nthc (q0.ext E8c) h4n
 refine dA 9 rfl (fun _=>Ar Aq An rfl rfl hA6n ia7n ib8n) ?_
 refine dV 10 rfl (fun _ hw=>Ag AN rfl (Cv hc30 hw)) S3g ?_
 refine dA 11 rfl (fun _=>AG (c:=wu64 u5a) AH AF rfl rfl) ?_
 refine dA 12 rfl (fun _=>Lg rfl rfl) ?_
 refine dA 13 rfl (fun _=>Ac rfl) ?_
 refine Dm (by kernel_rfl) ?_
 refine h9 _ _<|wp_seq_k fun K4g h4g=>EE [] 18 mo rfl fun w2 E1d S5g=>have X9n:=UpdS.ext X8m E1d;dA 0 rfl (fun _=>Aa rfl) ?_
 refine dA 1 rfl (fun _=>Aa rfl) ?_
 refine dA 2 rfl (fun _=>Aa rfl) ?_
 refine dA 3 rfl (fun _=>AV (c:=wi64 ((x1.length:Int) - 1)) rfl rfl rfl) ?_
 obtain ⟨u5b,h0o,f1o⟩:=Ab f5n
 obtain ⟨bb38,oo39,hA2o,ia3o,ib4o,hc41⟩:=RL.nth ((n6.ext E8c).ext E1d) h0o
 refine dA 4 rfl (fun _=>Ar Aq An rfl rfl hA2o ia3o ib4o) ?_
 refine dV 5 rfl (fun _ hw=>Ag AN rfl (Cv hc41 hw)) S5g ?_
 refine dA 6 rfl (fun _=>AG (c:=wu64 u5b) AH AF rfl rfl) ?_
 obtain ⟨_,h5o,f6o⟩:=Ab f1o
 have gd46:=Ay h5o
 refine dA 7 rfl (fun _=>FP (c:=wu64 ((bor .u64 (wu64 ((wu64 u4a)*2^min (32:Int).toNat IntKind.u64.bits)) (wu64 u5a)).tdiv (wu64 u5b))) (decide_eq_true gd46) rfl rfl rfl) ?_
 refine dA 8 rfl (fun _=>Aa rfl) ?_
 refine dA 9 rfl (fun _=>Aa rfl) ?_
 refine dA 10 rfl (fun _=>Aa rfl) ?_
 refine dA 11 rfl (fun _=>AV (c:=wi64 ((x1.length:Int) - 1)) rfl rfl rfl) ?_
 obtain ⟨u6b,h7o,f8o⟩:=Ab f6o
 obtain ⟨bb50,oo51,hA9o,ia0p,ib1p,hc53⟩:=RL.nth ((n6.ext E8c).ext E1d) h7o
 refine dA 12 rfl (fun _=>Ar Aq An rfl rfl hA9o ia0p ib1p) ?_
 refine dV 13 rfl (fun _ hw=>Ag AN rfl (Cv hc53 hw)) S5g ?_
 refine dA 14 rfl (fun _=>AG (c:=wu64 u6b) AH AF rfl rfl) ?_
 obtain ⟨_,h2p,f3p⟩:=Ab f8o
 have gd58:=Ay h2p
 refine dA 15 rfl (fun _=>HH (c:=(bor .u64 (wu64 ((wu64 u4a)*2^min (32:Int).toNat IntKind.u64.bits)) (wu64 u5a)).tmod (wu64 u6b)) (decide_eq_true gd58) rfl rfl rfl) ?_
 refine dA 16 rfl (fun _=>Ac rfl) ?_
 refine dA 17 rfl (fun _=>Ac rfl) ?_
 refine Dm (by kernel_rfl) ?_
 refine h4g _ _<|wp_seq_k fun K6g h6g=>?_
 obtain ⟨m1b,h4p,f5p⟩:=Ab f3p
 refine BZ (fun l l' w'=>∃(t0a:Nat→Value),Ext w2 w'∧l'=[.slice A1 x0.length c2,.slice A4 x1.length c5,uu,uu,.int .u32 0,.int .i64 (x1.length:Int),.int .u64 (bor .u64 (wu64 ((wu64 u4a)*2^min (32:Int).toNat IntKind.u64.bits)) (wu64 u5a)),.int .u64 m1b,t0a 0,uu,uu,uu,uu,uu,uu,uu,uu,uu,.slice A4 x1.length c5,.int .i64 (x1.length:Int),.slice A1 x0.length c2,.int .i64 (x1.length:Int),.pointer (some ⟨bb16,List.length pre+((x1.length:Int):Int).toNat,none⟩),.int .u32 u4a,.int .u64 (wu64 u4a),.int .u64 (wu64 ((wu64 u4a)*2^min (32:Int).toNat IntKind.u64.bits)),.slice A1 x0.length c2,.int .i64 (x1.length:Int),.int .i64 (wi64 ((x1.length:Int) - 1)),.pointer (some ⟨bb25,List.length pre+((wi64 ((x1.length:Int) - 1)):Int).toNat,none⟩),.int .u32 u5a,.int .u64 (wu64 u5a),.int .u64 (bor .u64 (wu64 ((wu64 u4a)*2^min (32:Int).toNat IntKind.u64.bits)) (wu64 u5a)),.int .u64 (bor .u64 (wu64 ((wu64 u4a)*2^min (32:Int).toNat IntKind.u64.bits)) (wu64 u5a)),.slice A4 x1.length c5,.int .i64 (x1.length:Int),.int .i64 (wi64 ((x1.length:Int) - 1)),.pointer (some ⟨bb38,oo39+((wi64 ((x1.length:Int) - 1)):Int).toNat,none⟩),.int .u32 u5b,.int .u64 (wu64 u5b),.int .u64 (wu64 ((bor .u64 (wu64 ((wu64 u4a)*2^min (32:Int).toNat IntKind.u64.bits)) (wu64 u5a)).tdiv (wu64 u5b))),.int .u64 (bor .u64 (wu64 ((wu64 u4a)*2^min (32:Int).toNat IntKind.u64.bits)) (wu64 u5a)),.slice A4 x1.length c5,.int .i64 (x1.length:Int),.int .i64 (wi64 ((x1.length:Int) - 1)),.pointer (some ⟨bb50,oo51+((wi64 ((x1.length:Int) - 1)):Int).toNat,none⟩),.int .u32 u6b,.int .u64 (wu64 u6b),.int .u64 ((bor .u64 (wu64 ((wu64 u4a)*2^min (32:Int).toNat IntKind.u64.bits)) (wu64 u5a)).tmod (wu64 u6b)),t0a 1,t0a 2,t0a 3,t0a 4,t0a 5,t0a 6,t0a 7,t0a 8,t0a 9,t0a 10,t0a 11,t0a 12,t0a 13,t0a 14,t0a 15,t0a 16,t0a 17,t0a 18,t0a 19,t0a 20,t0a 21,t0a 22,t0a 23,t0a 24,t0a 25,t0a 26,t0a 27,t0a 28,t0a 29,t0a 30,t0a 31,t0a 32,t0a 33,t0a 34,uu,uu,uu,uu,uu,uu,uu,uu,uu,uu,uu,uu,uu,uu,uu,uu,uu,uu,uu,uu,uu,uu,uu,uu,uu,uu,uu,uu,uu,uu,uu,uu,uu,uu,uu,uu,uu,uu,uu,uu,uu,uu,uu,uu,uu,uu,uu,uu,uu,uu,uu,uu,uu,uu,uu,uu,uu,uu,uu,uu,uu,uu,uu,uu,uu,uu,uu,uu,uu,uu,uu,uu,uu,uu,uu,uu,uu,uu,uu,uu,uu,uu,uu,uu,uu,uu,uu,uu,uu,uu,uu,uu]) ?_ ?_
 ·apply wp_block
  refine AR (fun l n7g l' w'=>∃(v8b:Int) (v7b:Int) (t9a:Nat→Value),Ext w2 w'∧EU x0 x1 n7g v8b v7b=some m1b∧l'=[.slice A1 x0.length c2,.slice A4 x1.length c5,uu,uu,.int .u32 0,.int .i64 (x1.length:Int),.int .u64 (bor .u64 (wu64 ((wu64 u4a)*2^min (32:Int).toNat IntKind.u64.bits)) (wu64 u5a)),.int .u64 v8b,.int .u64 v7b,uu,uu,uu,uu,uu,uu,uu,uu,uu,.slice A4 x1.length c5,.int .i64 (x1.length:Int),.slice A1 x0.length c2,.int .i64 (x1.length:Int),.pointer (some ⟨bb16,List.length pre+((x1.length:Int):Int).toNat,none⟩),.int .u32 u4a,.int .u64 (wu64 u4a),.int .u64 (wu64 ((wu64 u4a)*2^min (32:Int).toNat IntKind.u64.bits)),.slice A1 x0.length c2,.int .i64 (x1.length:Int),.int .i64 (wi64 ((x1.length:Int) - 1)),.pointer (some ⟨bb25,List.length pre+((wi64 ((x1.length:Int) - 1)):Int).toNat,none⟩),.int .u32 u5a,.int .u64 (wu64 u5a),.int .u64 (bor .u64 (wu64 ((wu64 u4a)*2^min (32:Int).toNat IntKind.u64.bits)) (wu64 u5a)),.int .u64 (bor .u64 (wu64 ((wu64 u4a)*2^min (32:Int).toNat IntKind.u64.bits)) (wu64 u5a)),.slice A4 x1.length c5,.int .i64 (x1.length:Int),.int .i64 (wi64 ((x1.length:Int) - 1)),.pointer (some ⟨bb38,oo39+((wi64 ((x1.length:Int) - 1)):Int).toNat,none⟩),.int .u32 u5b,.int .u64 (wu64 u5b),.int .u64 (wu64 ((bor .u64 (wu64 ((wu64 u4a)*2^min (32:Int).toNat IntKind.u64.bits)) (wu64 u5a)).tdiv (wu64 u5b))),.int .u64 (bor .u64 (wu64 ((wu64 u4a)*2^min (32:Int).toNat IntKind.u64.bits)) (wu64 u5a)),.slice A4 x1.length c5,.int .i64 (x1.length:Int),.int .i64 (wi64 ((x1.length:Int) - 1)),.pointer (some ⟨bb50,oo51+((wi64 ((x1.length:Int) - 1)):Int).toNat,none⟩),.int .u32 u6b,.int .u64 (wu64 u6b),.int .u64 ((bor .u64 (wu64 ((wu64 u4a)*2^min (32:Int).toNat IntKind.u64.bits)) (wu64 u5a)).tmod (wu64 u6b)),t9a 0,t9a 1,t9a 2,t9a 3,t9a 4,t9a 5,t9a 6,t9a 7,t9a 8,t9a 9,t9a 10,t9a 11,t9a 12,t9a 13,t9a 14,t9a 15,t9a 16,t9a 17,t9a 18,t9a 19,t9a 20,t9a 21,t9a 22,t9a 23,t9a 24,t9a 25,t9a 26,t9a 27,t9a 28,t9a 29,t9a 30,t9a 31,t9a 32,t9a 33,uu,uu,uu,uu,uu,uu,uu,uu,uu,uu,uu,uu,uu,uu,uu,uu,uu,uu,uu,uu,uu,uu,uu,uu,uu,uu,uu,uu,uu,uu,uu,uu,uu,uu,uu,uu,uu,uu,uu,uu,uu,uu,uu,uu,uu,uu,uu,uu,uu,uu,uu,uu,uu,uu,uu,uu,uu,uu,uu,uu,uu,uu,uu,uu,uu,uu,uu,uu,uu,uu,uu,uu,uu,uu,uu,uu,uu,uu,uu,uu,uu,uu,uu,uu,uu,uu,uu,uu,uu,uu,uu,uu]) 18446744073709551616 ?_ ?_ ?_
  ·exact ⟨(wu64 ((bor .u64 (wu64 ((wu64 u4a)*2^min (32:Int).toNat IntKind.u64.bits)) (wu64 u5a)).tdiv (wu64 u5b))),((bor .u64 (wu64 ((wu64 u4a)*2^min (32:Int).toNat IntKind.u64.bits)) (wu64 u5a)).tmod (wu64 u6b)),(tk [uu,uu,uu,uu,uu,uu,uu,uu,uu,uu,uu,uu,uu,uu,uu,uu,uu,uu,uu,uu,uu,uu,uu,uu,uu,uu,uu,uu,uu,uu,uu,uu,uu,uu]),(Ext.refl _),h4p,rfl⟩
  ·rintro l' w' ⟨v8b,v7b,t9a,_,hz,_⟩
   exact nomatch hz
  ·rintro n7g ih6p _ w3 ⟨v8b,v7b,t9a,U4d,hr8g,rfl⟩ _ rfl
   unfold EU at hr8g
   refine Ba<|wp_seq_k fun K9g h9g=>wp_seq_k fun K0h h0h=>EE [] 22 mo rfl fun w4 E5d S1h=>dA 0 rfl (fun _=>Aa rfl) ?_
   refine dab 1 rfl (by kernel_rfl) (fun _ _ _ h=>h) (by rfl) (fun _=>Fl rfl rfl) fun z7c hz7c=>?_
   refine dnrm ?_
   refine dA 2 rfl (fun _=>Aa rfl) ?_
   obtain ⟨m1e,h2h,f3h⟩:=Ab hr8g
   refine IC #[true,true,true,true,true,true,true,true,true,true,true,true,true,true,true,true,true,true,true,true,true,true] 0 (fun l l' w'=>∃(t2a:Nat→Value),w4=w'∧l'=(((((((((((((((((((l.set 52 (t2a 0)).set 53 (t2a 1)).set 54 (t2a 2)).set 55 (t2a 3)).set 56 (t2a 4)).set 57 (t2a 5)).set 58 (t2a 6)).set 59 (t2a 7)).set 60 (t2a 8)).set 61 (t2a 9)).set 62 (t2a 10)).set 63 (t2a 11)).set 64 (t2a 12)).set 65 (t2a 13)).set 66 (t2a 14)).set 67 (t2a 15)).set 68 (t2a 16)).set 69 (t2a 17)).set 70 (.bool m1e))) ?_ ?_
   ·intro HJ616
    rcases bft z7c with e0b | e0b
    ·have p7p:=zP hz7c e0b
     have f8p:=ifP p7p h2h
     refine dP 3 rfl ?_ (hw:=wgF rfl e0b)
     refine dP 4 rfl ?_ (hw:=wgF rfl e0b)
     refine dP 5 rfl ?_ (hw:=wgF rfl e0b)
     refine dP 6 rfl ?_ (hw:=wgF rfl e0b)
     refine dP 7 rfl ?_ (hw:=wgF rfl e0b)
     refine dP 8 rfl ?_ (hw:=wgF rfl e0b)
     refine dP 9 rfl ?_ (hw:=wgF rfl e0b)
     refine dP 10 rfl ?_ (hw:=wgF rfl e0b)
     refine dP 11 rfl ?_ (hw:=wgF rfl e0b)
     refine dP 12 rfl ?_ (hw:=wgF rfl e0b)
     refine dP 13 rfl ?_ (hw:=wgF rfl e0b)
     refine dP 14 rfl ?_ (hw:=wgF rfl e0b)
     refine dP 15 rfl ?_ (hw:=wgF rfl e0b)
     refine dP 16 rfl ?_ (hw:=wgF rfl e0b)
     refine dP 17 rfl ?_ (hw:=wgF rfl e0b)
     refine dP 18 rfl ?_ (hw:=wgF rfl e0b)
     refine dP 19 rfl ?_ (hw:=wgF rfl e0b)
     refine dP 20 rfl ?_ (hw:=wgF rfl e0b)
     refine dA 21 rfl (fun _=>Aw (evb rfl e0b) rfl) ?_
     obtain rfl:=sj f8p
     exact EP (by kernel_rfl) (HJ616 _ _ ⟨(tk [uu,uu,uu,uu,uu,uu,uu,uu,uu,uu,uu,uu,uu,uu,uu,uu,uu,uu]),(by trivial),(by simp only [S0,S1]<;>rfl)⟩)
    ·have p9p:=zN hz7c e0b
     have f0q:=ifN p9p h2h
     refine dA 3 rfl (fun _=>Aa rfl) ?_ (hw:=wgT rfl e0b)
     refine dA 4 rfl (fun _=>Aa rfl) ?_ (hw:=wgT rfl e0b)
     refine dA 5 rfl (fun _=>Aa rfl) ?_ (hw:=wgT rfl e0b)
     refine dA 6 rfl (fun _=>AV (c:=wi64 ((x1.length:Int) - 2)) rfl rfl rfl) ?_ (hw:=wgT rfl e0b)
     have n1q:=(((n6.ext E8c).ext E1d).ext U4d).ext E5d
     obtain ⟨u2d,h2q,f3q⟩:=Ab f0q
     obtain ⟨bb626,oo627,hA4q,ia5q,ib6q,hc629⟩:=RL.nth n1q h2q
     refine dA 7 rfl (fun _=>Ar Aq An rfl rfl hA4q ia5q ib6q) ?_ (hw:=wgT rfl e0b)
     refine dV 8 rfl (fun _ hw=>Ag AN rfl (Cv hc629 hw)) S1h ?_ (hw:=wgT rfl e0b)
     refine dA 9 rfl (fun _=>AG (c:=wu64 u2d) AH AF rfl rfl) ?_ (hw:=wgT rfl e0b)
     refine dA 10 rfl (fun _=>HZ (c:=wu64 (v8b*(wu64 u2d))) rfl rfl rfl) ?_ (hw:=wgT rfl e0b)
     refine dA 11 rfl (fun _=>Aa rfl) ?_ (hw:=wgT rfl e0b)
     refine dA 12 rfl (fun _=>HM (c:=wu64 (v7b*2^min (32:Int).toNat IntKind.u64.bits)) (by decide) rfl rfl rfl) ?_ (hw:=wgT rfl e0b)
     refine dA 13 rfl (fun _=>Aa rfl) ?_ (hw:=wgT rfl e0b)
     refine dA 14 rfl (fun _=>Aa rfl) ?_ (hw:=wgT rfl e0b)
     refine dA 15 rfl (fun _=>AV (c:=wi64 ((x1.length:Int) - 2)) rfl rfl rfl) ?_ (hw:=wgT rfl e0b)
     have ow7q:=(((q0.ext E8c).ext E1d).ext U4d).ext E5d
     obtain ⟨u6d,h8q,f9q⟩:=Ab f3q
     obtain ⟨bb636,hA0r,hz5a1,ia1r,ib2r,hc641⟩:=WN.nthc ow7q h8q
     refine dA 16 rfl (fun _=>Ar Aq An rfl rfl hA0r ia1r ib2r) ?_ (hw:=wgT rfl e0b)
     refine dV 17 rfl (fun _ hw=>Ag AN rfl (Cv hc641 hw)) S1h ?_ (hw:=wgT rfl e0b)
     refine dA 18 rfl (fun _=>AG (c:=wu64 u6d) AH AF rfl rfl) ?_ (hw:=wgT rfl e0b)
     refine dA 19 rfl (fun _=>Lg rfl rfl) ?_ (hw:=wgT rfl e0b)
     refine dab 20 rfl (by kernel_rfl) (fun _ _ _ h=>h) (wgT rfl e0b) (fun _=>Eu rfl rfl) fun z6f hz6f=>?_
     refine dnrm ?_
     refine dA 21 rfl (fun _=>AB (evb rfl e0b) rfl) ?_
     obtain rfl:z6f=decide ((bor .u64 (wu64 (v7b*2^min (32:Int).toNat IntKind.u64.bits)) (wu64 u6d))<(wu64 (v8b*(wu64 u2d)))):=bz hz6f
     obtain rfl:=sj f9q
     exact EP (by kernel_rfl) (HJ616 _ _ ⟨(tk [.int .u64 v8b,.slice A4 x1.length c5,.int .i64 (x1.length:Int),.int .i64 (wi64 ((x1.length:Int) - 2)),.pointer (some ⟨bb626,oo627+((wi64 ((x1.length:Int) - 2)):Int).toNat,none⟩),.int .u32 u2d,.int .u64 (wu64 u2d),.int .u64 (wu64 (v8b*(wu64 u2d))),.int .u64 v7b,.int .u64 (wu64 (v7b*2^min (32:Int).toNat IntKind.u64.bits)),.slice A1 x0.length c2,.int .i64 (x1.length:Int),.int .i64 (wi64 ((x1.length:Int) - 2)),.pointer (some ⟨bb636,List.length pre+((wi64 ((x1.length:Int) - 2)):Int).toNat,none⟩),.int .u32 u6d,.int .u64 (wu64 u6d),.int .u64 (bor .u64 (wu64 (v7b*2^min (32:Int).toNat IntKind.u64.bits)) (wu64 u6d)),.bool (decide ((bor .u64 (wu64 (v7b*2^min (32:Int).toNat IntKind.u64.bits)) (wu64 u6d))<(wu64 (v8b*(wu64 u2d)))))]),(by trivial),(by simp only [S0,S1]<;>rfl)⟩)
   ·rintro l' _ ⟨t2a,rfl,hq'⟩ l'' hl
    rw [hq'] at hl
    clear hq'
    simp only [S0,S1] at hl
    subst hl
    refine Dm (by kernel_rfl) ?_
    refine h0h _ _ ?_
    rcases bft m1e with e2e | e2e
    ·have p3r:=e2e
     have f4r:=ifP p3r f3h
     refine wp_cond_true (Ai (evb rfl e2e))<|wp_skip<|h9g _ _ ?_
     apply wp_block
     refine wp_seq_k fun K4h h4h=>Ae<|sV (Aa rfl) ?_
     refine sV (AV (c:=wu64 (v8b - 1)) rfl rfl rfl) ?_
     refine sV (Ac rfl) ?_
     refine Ad<|h4h _ _<|wp_seq_k fun K5h h5h=>Ae<|sV (Aa rfl) ?_
     refine sV (Aa rfl) ?_
     refine sV (Aa rfl) ?_
     refine sV (AV (c:=wi64 ((x1.length:Int) - 1)) rfl rfl rfl) ?_
     have n5r:=(((n6.ext E8c).ext E1d).ext U4d).ext E5d
     obtain ⟨u6c,h6r,f6h⟩:=Ab f4r
     obtain ⟨bb659,oo660,hA7r,ia8r,ib9r,hc662⟩:=RL.nth n5r h6r
     refine sV (Ar Aq An rfl rfl hA7r ia8r ib9r) ?_
     refine sV (Ag AN rfl hc662) ?_
     refine sV (AG (c:=wu64 u6c) AH AF rfl rfl) ?_
     refine sV (AO (c:=wu64 (v7b+(wu64 u6c))) rfl rfl rfl) ?_
     refine sV (Ac rfl) ?_
     refine Ad<|h5h _ _<|wp_seq_k fun K7h h7h=>Ae<|sV (Aa rfl) ?_
     refine sb (Fl rfl rfl) fun z7d hz7d=>?_
     refine nrm ?_
     refine Ad<|h7h _ _ ?_
     rcases bft z7d with e3e | e3e
     ·have p0s:=zP hz7d e3e
      have f1s:=ifP p0s f6h
      refine wp_cond_true (Ai (evb rfl e3e))<|wp_exit ?_
      simp only [Exit.then,Exit.inBlock,↓reduceIte,Nat.reduceEqDiff]
      obtain rfl:=sj f1s
      exact ⟨_,rfl,(tk [.int .u64 (wu64 (v7b+(wu64 u6c))),.int .u64 v8b,.bool z7c,.bool z7c,t2a 0,t2a 1,t2a 2,t2a 3,t2a 4,t2a 5,t2a 6,t2a 7,t2a 8,t2a 9,t2a 10,t2a 11,t2a 12,t2a 13,t2a 14,t2a 15,t2a 16,t2a 17,.bool m1e,.int .u64 v8b,.int .u64 (wu64 (v8b - 1)),.int .u64 v7b,.slice A4 x1.length c5,.int .i64 (x1.length:Int),.int .i64 (wi64 ((x1.length:Int) - 1)),.pointer (some ⟨bb659,oo660+((wi64 ((x1.length:Int) - 1)):Int).toNat,none⟩),.int .u32 u6c,.int .u64 (wu64 u6c),.int .u64 (wu64 (v7b+(wu64 u6c))),.int .u64 (wu64 (v7b+(wu64 u6c))),.bool z7d]),(U4d.trans E5d),rfl⟩
     ·have p2s:=zN hz7d e3e
      have f3s:=ifN p2s f6h
      refine wp_cond_false (Ai (evb rfl e3e))<|wp_skip ?_
      exact ih6p _ _ ⟨(wu64 (v8b - 1)),(wu64 (v7b+(wu64 u6c))),(tk [.int .u64 v8b,.bool z7c,.bool z7c,t2a 0,t2a 1,t2a 2,t2a 3,t2a 4,t2a 5,t2a 6,t2a 7,t2a 8,t2a 9,t2a 10,t2a 11,t2a 12,t2a 13,t2a 14,t2a 15,t2a 16,t2a 17,.bool m1e,.int .u64 v8b,.int .u64 (wu64 (v8b - 1)),.int .u64 v7b,.slice A4 x1.length c5,.int .i64 (x1.length:Int),.int .i64 (wi64 ((x1.length:Int) - 1)),.pointer (some ⟨bb659,oo660+((wi64 ((x1.length:Int) - 1)):Int).toNat,none⟩),.int .u32 u6c,.int .u64 (wu64 u6c),.int .u64 (wu64 (v7b+(wu64 u6c))),.int .u64 (wu64 (v7b+(wu64 u6c))),.bool z7d]),(U4d.trans E5d),f3s,rfl⟩
    ·have p4s:=bF e2e
     have f5s:=ifN p4s f3h
     refine wp_cond_false (Ai (evb rfl e2e))<|wp_exit ?_
     simp only [Exit.then,Exit.inBlock,↓reduceIte,Nat.reduceEqDiff]
     obtain rfl:=sj f5s
     exact ⟨_,rfl,(tk [.int .u64 v7b,.int .u64 v8b,.bool z7c,.bool z7c,t2a 0,t2a 1,t2a 2,t2a 3,t2a 4,t2a 5,t2a 6,t2a 7,t2a 8,t2a 9,t2a 10,t2a 11,t2a 12,t2a 13,t2a 14,t2a 15,t2a 16,t2a 17,.bool m1e,t9a 22,t9a 23,t9a 24,t9a 25,t9a 26,t9a 27,t9a 28,t9a 29,t9a 30,t9a 31,t9a 32,t9a 33]),(U4d.trans E5d),rfl⟩
 ·rintro _ w3 ⟨t0a,U8h,rfl⟩ _ rfl
  have X6s:=UpdS.ext X9n U8h
  refine h6g _ _<|wp_seq_k fun K9h h9h=>Ae<|sV (Ac rfl) ?_
  refine sV (Ac rfl) ?_
  refine Ad<|h9h _ _<|wp_seq_k fun K0i h0i=>wp_seq_k fun K1i h1i=>Ae<|sV (Aa rfl) ?_
  refine sV (Ax Aq rfl) ?_
  refine sV (Aa rfl) ?_
  refine Ad<|h1i _ _ ?_
  obtain ⟨m6a,h7s,f8s⟩:=Ab f5p
  refine BZ (fun l l' w'=>∃(t1a:Nat→Value),UpdS [bp0] w w'∧WN 179 bp0 pre ys w' A1 x0.length c2 m6a.2.2∧l'=[.slice A1 x0.length c2,.slice A4 x1.length c5,uu,uu,.int .u32 0,.int .i64 (x1.length:Int),.int .u64 (bor .u64 (wu64 ((wu64 u4a)*2^min (32:Int).toNat IntKind.u64.bits)) (wu64 u5a)),.int .u64 m1b,t0a 0,.int .u64 m6a.1,.int .u64 m6a.2.1,t1a 0,t1a 1,t1a 2,uu,uu,uu,uu,.slice A4 x1.length c5,.int .i64 (x1.length:Int),.slice A1 x0.length c2,.int .i64 (x1.length:Int),.pointer (some ⟨bb16,List.length pre+((x1.length:Int):Int).toNat,none⟩),.int .u32 u4a,.int .u64 (wu64 u4a),.int .u64 (wu64 ((wu64 u4a)*2^min (32:Int).toNat IntKind.u64.bits)),.slice A1 x0.length c2,.int .i64 (x1.length:Int),.int .i64 (wi64 ((x1.length:Int) - 1)),.pointer (some ⟨bb25,List.length pre+((wi64 ((x1.length:Int) - 1)):Int).toNat,none⟩),.int .u32 u5a,.int .u64 (wu64 u5a),.int .u64 (bor .u64 (wu64 ((wu64 u4a)*2^min (32:Int).toNat IntKind.u64.bits)) (wu64 u5a)),.int .u64 (bor .u64 (wu64 ((wu64 u4a)*2^min (32:Int).toNat IntKind.u64.bits)) (wu64 u5a)),.slice A4 x1.length c5,.int .i64 (x1.length:Int),.int .i64 (wi64 ((x1.length:Int) - 1)),.pointer (some ⟨bb38,oo39+((wi64 ((x1.length:Int) - 1)):Int).toNat,none⟩),.int .u32 u5b,.int .u64 (wu64 u5b),.int .u64 (wu64 ((bor .u64 (wu64 ((wu64 u4a)*2^min (32:Int).toNat IntKind.u64.bits)) (wu64 u5a)).tdiv (wu64 u5b))),.int .u64 (bor .u64 (wu64 ((wu64 u4a)*2^min (32:Int).toNat IntKind.u64.bits)) (wu64 u5a)),.slice A4 x1.length c5,.int .i64 (x1.length:Int),.int .i64 (wi64 ((x1.length:Int) - 1)),.pointer (some ⟨bb50,oo51+((wi64 ((x1.length:Int) - 1)):Int).toNat,none⟩),.int .u32 u6b,.int .u64 (wu64 u6b),.int .u64 ((bor .u64 (wu64 ((wu64 u4a)*2^min (32:Int).toNat IntKind.u64.bits)) (wu64 u5a)).tmod (wu64 u6b)),t0a 1,t0a 2,t0a 3,t0a 4,t0a 5,t0a 6,t0a 7,t0a 8,t0a 9,t0a 10,t0a 11,t0a 12,t0a 13,t0a 14,t0a 15,t0a 16,t0a 17,t0a 18,t0a 19,t0a 20,t0a 21,t0a 22,t0a 23,t0a 24,t0a 25,t0a 26,t0a 27,t0a 28,t0a 29,t0a 30,t0a 31,t0a 32,t0a 33,t0a 34,.slice A4 x1.length c5,.int .i64 (x1.length:Int),t1a 3,t1a 4,t1a 5,t1a 6,t1a 7,t1a 8,t1a 9,t1a 10,t1a 11,t1a 12,t1a 13,t1a 14,t1a 15,t1a 16,t1a 17,t1a 18,t1a 19,t1a 20,t1a 21,t1a 22,t1a 23,t1a 24,t1a 25,t1a 26,t1a 27,t1a 28,t1a 29,t1a 30,t1a 31,t1a 32,t1a 33,t1a 34,t1a 35,t1a 36,uu,uu,uu,uu,uu,uu,uu,uu,uu,uu,uu,uu,uu,uu,uu,uu,uu,uu,uu,uu,uu,uu,uu,uu,uu,uu,uu,uu,uu,uu,uu,uu,uu,uu,uu,uu,uu,uu,uu,uu,uu,uu,uu,uu,uu,uu,uu,uu,uu,uu,uu,uu,uu,uu,uu,uu]) ?_ ?_
  ·apply wp_block
   refine AR (fun l n2i l' w'=>∃(v2c:Int) (v4b:Int) (v9b:Int) (v4e:List Int) (t3a:Nat→Value),UpdS [bp0] w w'∧WN 179 bp0 pre ys w' A1 x0.length c2 v4e∧Eh x0 x1 m1b n2i v2c v4b v9b v4e=some m6a∧l'=[.slice A1 x0.length c2,.slice A4 x1.length c5,uu,uu,.int .u32 0,.int .i64 (x1.length:Int),.int .u64 (bor .u64 (wu64 ((wu64 u4a)*2^min (32:Int).toNat IntKind.u64.bits)) (wu64 u5a)),.int .u64 m1b,t0a 0,.int .u64 v2c,.int .u64 v4b,t3a 0,t3a 1,t3a 2,uu,uu,uu,uu,.slice A4 x1.length c5,.int .i64 (x1.length:Int),.slice A1 x0.length c2,.int .i64 (x1.length:Int),.pointer (some ⟨bb16,List.length pre+((x1.length:Int):Int).toNat,none⟩),.int .u32 u4a,.int .u64 (wu64 u4a),.int .u64 (wu64 ((wu64 u4a)*2^min (32:Int).toNat IntKind.u64.bits)),.slice A1 x0.length c2,.int .i64 (x1.length:Int),.int .i64 (wi64 ((x1.length:Int) - 1)),.pointer (some ⟨bb25,List.length pre+((wi64 ((x1.length:Int) - 1)):Int).toNat,none⟩),.int .u32 u5a,.int .u64 (wu64 u5a),.int .u64 (bor .u64 (wu64 ((wu64 u4a)*2^min (32:Int).toNat IntKind.u64.bits)) (wu64 u5a)),.int .u64 (bor .u64 (wu64 ((wu64 u4a)*2^min (32:Int).toNat IntKind.u64.bits)) (wu64 u5a)),.slice A4 x1.length c5,.int .i64 (x1.length:Int),.int .i64 (wi64 ((x1.length:Int) - 1)),.pointer (some ⟨bb38,oo39+((wi64 ((x1.length:Int) - 1)):Int).toNat,none⟩),.int .u32 u5b,.int .u64 (wu64 u5b),.int .u64 (wu64 ((bor .u64 (wu64 ((wu64 u4a)*2^min (32:Int).toNat IntKind.u64.bits)) (wu64 u5a)).tdiv (wu64 u5b))),.int .u64 (bor .u64 (wu64 ((wu64 u4a)*2^min (32:Int).toNat IntKind.u64.bits)) (wu64 u5a)),.slice A4 x1.length c5,.int .i64 (x1.length:Int),.int .i64 (wi64 ((x1.length:Int) - 1)),.pointer (some ⟨bb50,oo51+((wi64 ((x1.length:Int) - 1)):Int).toNat,none⟩),.int .u32 u6b,.int .u64 (wu64 u6b),.int .u64 ((bor .u64 (wu64 ((wu64 u4a)*2^min (32:Int).toNat IntKind.u64.bits)) (wu64 u5a)).tmod (wu64 u6b)),t0a 1,t0a 2,t0a 3,t0a 4,t0a 5,t0a 6,t0a 7,t0a 8,t0a 9,t0a 10,t0a 11,t0a 12,t0a 13,t0a 14,t0a 15,t0a 16,t0a 17,t0a 18,t0a 19,t0a 20,t0a 21,t0a 22,t0a 23,t0a 24,t0a 25,t0a 26,t0a 27,t0a 28,t0a 29,t0a 30,t0a 31,t0a 32,t0a 33,t0a 34,.slice A4 x1.length c5,.int .i64 (x1.length:Int),.int .i64 v9b,t3a 3,t3a 4,t3a 5,t3a 6,t3a 7,t3a 8,t3a 9,t3a 10,t3a 11,t3a 12,t3a 13,t3a 14,t3a 15,t3a 16,t3a 17,t3a 18,t3a 19,t3a 20,t3a 21,t3a 22,t3a 23,t3a 24,t3a 25,t3a 26,t3a 27,t3a 28,t3a 29,t3a 30,t3a 31,t3a 32,t3a 33,t3a 34,t3a 35,uu,uu,uu,uu,uu,uu,uu,uu,uu,uu,uu,uu,uu,uu,uu,uu,uu,uu,uu,uu,uu,uu,uu,uu,uu,uu,uu,uu,uu,uu,uu,uu,uu,uu,uu,uu,uu,uu,uu,uu,uu,uu,uu,uu,uu,uu,uu,uu,uu,uu,uu,uu,uu,uu,uu,uu]) 18446744073709551616 ?_ ?_ ?_
   ·have ow9s:=((q0.ext E8c).ext E1d).ext U8h
    exact ⟨0,0,0,x0,(tk [uu,uu,uu,uu,uu,uu,uu,uu,uu,uu,uu,uu,uu,uu,uu,uu,uu,uu,uu,uu,uu,uu,uu,uu,uu,uu,uu,uu,uu,uu,uu,uu,uu,uu,uu,uu]),X6s,ow9s,h7s,rfl⟩
   ·rintro l' w' ⟨v2c,v4b,v9b,v4e,t3a,_,_,hz,_⟩
    exact nomatch hz
   ·rintro n2i ih0t _ w4 ⟨v2c,v4b,v9b,v4e,t3a,X7f,ow8d,hr8f,rfl⟩ _ rfl
    unfold Eh at hr8f
    refine Ba<|wp_seq_k fun K3i h3i=>Ae<|sb (CK rfl rfl) fun z9d hz9d=>?_
    refine nrm ?_
    refine Ad<|h3i _ _<|wp_seq_k fun K4i h4i=>?_
    rcases bft z9d with e5e | e5e
    ·have p1t:=zP hz9d e5e
     have f2t:=ifP p1t hr8f
     refine wp_cond_true (Ai (evb rfl e5e))<|wp_skip<|h4i _ _<|wp_seq_k fun K5i h5i=>?_
     apply wp_block
     refine wp_seq_k fun K6i h6i=>Ae<|sV (Aa rfl) ?_
     obtain ⟨u3b,h3t,f4t⟩:=Ab f2t
     obtain ⟨bb1131,oo1132,hA5t,ia6t,ib7t,hc1134⟩:=RL.nth (RL.updW n6 X7f ap0) h3t
     refine sV (Ar Aq An rfl rfl hA5t ia6t ib7t) ?_
     refine sV (Ag AN rfl hc1134) ?_
     refine sV (Ac rfl) ?_
     refine sV (Ac rfl) ?_
     refine Ad<|h6i _ _<|wp_seq_k fun K7i h7i=>Ae<|sV (Aa rfl) ?_
     refine sV (Aa rfl) ?_
     refine sV (Aa rfl) ?_
     refine sV (AG (c:=wu64 u3b) AH AF rfl rfl) ?_
     refine sV (HZ (c:=wu64 (m1b*(wu64 u3b))) rfl rfl rfl) ?_
     refine sV (AO (c:=wu64 (v4b+(wu64 (m1b*(wu64 u3b))))) rfl rfl rfl) ?_
     refine sV (Ac rfl) ?_
     refine Ad<|h7i _ _<|wp_seq_k fun K8i h8i=>Ae<|sV (Aa rfl) ?_
     refine sV (AG (c:=wu32 (wu64 (v4b+(wu64 (m1b*(wu64 u3b)))))) AF AH rfl rfl) ?_
     refine sV (AG (c:=wu64 (wu32 (wu64 (v4b+(wu64 (m1b*(wu64 u3b))))))) AH AF rfl rfl) ?_
     refine sV (Aa rfl) ?_
     refine sV (AO (c:=wu64 ((wu64 (wu32 (wu64 (v4b+(wu64 (m1b*(wu64 u3b)))))))+v2c)) rfl rfl rfl) ?_
     refine sV (Ac rfl) ?_
     refine Ad<|h8i _ _<|wp_seq_k fun K9i h9i=>Ae<|sV (Aa rfl) ?_
     refine sV (Gu (c:=(wu64 (v4b+(wu64 (m1b*(wu64 u3b))))).fdiv (2^min (32:Int).toNat IntKind.u64.bits)) (by decide) rfl rfl rfl) ?_
     refine sV (Ac rfl) ?_
     refine Ad<|h9i _ _<|wp_seq_k fun K0j h0j=>Ae<|sV (Ac rfl) ?_
     refine Ad<|h0j _ _<|wp_seq_k fun K1j h1j=>wp_seq_k fun K2j h2j=>Ae<|sV (Aa rfl) ?_
     refine sV (Aa rfl) ?_
     obtain ⟨u9f,h8t,f9t⟩:=Ab f4t
     obtain ⟨bb1147,hA0u,hz6a1,ia1u,ib2u,hc1152⟩:=WN.nthc ow8d h8t
     refine sV (Ar Aq An rfl rfl hA0u ia1u ib2u) ?_
     refine sV (Ag AN rfl hc1152) ?_
     refine sV (AG (c:=wu64 u9f) AH AF rfl rfl) ?_
     refine sV (Aa rfl) ?_
     refine sb (CK rfl rfl) fun z6e hz6e=>?_
     refine nrm ?_
     refine Ad<|h2j _ _ ?_
     obtain ⟨m3j,h4j,f3u⟩:=Ab f9t
     refine BZ (fun l l' w'=>w4=w'∧l'=(l.set 9 (.int .u64 m3j))) ?_ ?_
     ·rcases bft z6e with e7e | e7e
      ·have p4u:=zP hz6e e7e
       have f5u:=ifP p4u h4j
       refine wp_cond_true (Ai (evb rfl e7e))<|Ae<|sV (Ac rfl) ?_
       refine Ad ?_
       obtain rfl:=sj f5u
       exact ⟨_,rfl,(by trivial),(by simp only [S0,S1]<;>rfl)⟩
      ·have p6u:=zN hz6e e7e
       have f7u:=ifN p6u h4j
       refine wp_cond_false (Ai (evb rfl e7e))<|wp_skip ?_
       obtain rfl:=sj f7u
       exact ⟨_,rfl,(by trivial),(by simp only [S0,S1]<;>rfl)⟩
     ·rintro l' _ ⟨rfl,hq'⟩ l'' hl
      rw [hq'] at hl
      clear hq'
      simp only [S0,S1] at hl
      subst hl
      refine h1j _ _<|Ae<|sV (Aa rfl) ?_
      refine sV (Aa rfl) ?_
      obtain ⟨u3f,h8u,f9u⟩:=Ab f3u
      obtain ⟨bb1172,hA0v,hz7a1,ia1v,ib2v,hc1177⟩:=WN.nthc ow8d h8u
      refine sV (Ar Aq An rfl rfl hA0v ia1v ib2v) ?_
      refine sV (Ag AN rfl hc1177) ?_
      refine sV (Aa rfl) ?_
      refine sV (AG (c:=wu32 (wu64 ((wu64 (wu32 (wu64 (v4b+(wu64 (m1b*(wu64 u3b)))))))+v2c))) AF AH rfl rfl) ?_
      refine sV (AV (c:=wu32 (u3f - (wu32 (wu64 ((wu64 (wu32 (wu64 (v4b+(wu64 (m1b*(wu64 u3b)))))))+v2c))))) rfl rfl rfl) ?_
      obtain ⟨u8a1,h3v,f4v⟩:=Ab f9u
      obtain ⟨bb1181,hA5j,hz9a1,ia6j,ib7j,hc1186⟩:=WN.nthc ow8d h3v
      refine sV (Ar Aq An rfl rfl hA5j ia6j ib7j) ?_
      refine Nd An rfl rfl ow8d hA5j ia6j (by rw [WN.len ow8d];exact ib7j) fun w5 U5v ow6v=>?_
      have X7v:=UpdS.tr X7f U5v
      refine Ad<|h5i _ _<|Ae<|sV (AO (c:=wi64 (v9b+1)) rfl rfl rfl) ?_
      refine sV (Aa rfl) ?_
      refine Ad ?_
      exact ih0t _ _ ⟨m3j,((wu64 (v4b+(wu64 (m1b*(wu64 u3b))))).fdiv (2^min (32:Int).toNat IntKind.u64.bits)),(wi64 (v9b+1)),(List.set v4e (v9b:Int).toNat (wu32 (u3f - (wu32 (wu64 ((wu64 (wu32 (wu64 (v4b+(wu64 (m1b*(wu64 u3b)))))))+v2c)))))),(tk [.int .i64 v9b,.int .u32 u3b,.int .u64 (wu64 ((wu64 (wu32 (wu64 (v4b+(wu64 (m1b*(wu64 u3b)))))))+v2c)),.bool z9d,.int .i64 v9b,.pointer (some ⟨bb1131,oo1132+(v9b:Int).toNat,none⟩),.int .u32 u3b,.int .u64 v4b,.int .u64 m1b,.int .u32 u3b,.int .u64 (wu64 u3b),.int .u64 (wu64 (m1b*(wu64 u3b))),.int .u64 (wu64 (v4b+(wu64 (m1b*(wu64 u3b))))),.int .u64 (wu64 (v4b+(wu64 (m1b*(wu64 u3b))))),.int .u32 (wu32 (wu64 (v4b+(wu64 (m1b*(wu64 u3b)))))),.int .u64 (wu64 (wu32 (wu64 (v4b+(wu64 (m1b*(wu64 u3b))))))),.int .u64 v2c,.int .u64 (wu64 ((wu64 (wu32 (wu64 (v4b+(wu64 (m1b*(wu64 u3b)))))))+v2c)),.int .u64 (wu64 (v4b+(wu64 (m1b*(wu64 u3b))))),.int .u64 ((wu64 (v4b+(wu64 (m1b*(wu64 u3b))))).fdiv (2^min (32:Int).toNat IntKind.u64.bits)),.slice A1 x0.length c2,.int .i64 v9b,.pointer (some ⟨bb1147,List.length pre+(v9b:Int).toNat,none⟩),.int .u32 u9f,.int .u64 (wu64 u9f),.int .u64 (wu64 ((wu64 (wu32 (wu64 (v4b+(wu64 (m1b*(wu64 u3b)))))))+v2c)),.bool z6e,.slice A1 x0.length c2,.int .i64 v9b,.pointer (some ⟨bb1172,List.length pre+(v9b:Int).toNat,none⟩),.int .u32 u3f,.int .u64 (wu64 ((wu64 (wu32 (wu64 (v4b+(wu64 (m1b*(wu64 u3b)))))))+v2c)),.int .u32 (wu32 (wu64 ((wu64 (wu32 (wu64 (v4b+(wu64 (m1b*(wu64 u3b)))))))+v2c))),.int .u32 (wu32 (u3f - (wu32 (wu64 ((wu64 (wu32 (wu64 (v4b+(wu64 (m1b*(wu64 u3b)))))))+v2c))))),.pointer (some ⟨bb1181,List.length pre+(v9b:Int).toNat,none⟩),.int .i64 (wi64 (v9b+1))]),X7v,ow6v,f4v,rfl⟩
    ·have p8v:=zN hz9d e5e
     have f9v:=ifN p8v hr8f
     refine wp_cond_false (Ai (evb rfl e5e))<|wp_exit ?_
     simp only [Exit.then,Exit.inBlock,↓reduceIte,Nat.reduceEqDiff]
     obtain rfl:=sj f9v
     exact ⟨_,rfl,(tk [t3a 0,t3a 1,t3a 2,.int .i64 v9b,.bool z9d,t3a 4,t3a 5,t3a 6,t3a 7,t3a 8,t3a 9,t3a 10,t3a 11,t3a 12,t3a 13,t3a 14,t3a 15,t3a 16,t3a 17,t3a 18,t3a 19,t3a 20,t3a 21,t3a 22,t3a 23,t3a 24,t3a 25,t3a 26,t3a 27,t3a 28,t3a 29,t3a 30,t3a 31,t3a 32,t3a 33,t3a 34,t3a 35]),X7f,ow8d,rfl⟩
  ·rintro _ w4 ⟨t1a,X0w,ow8e,rfl⟩ _ rfl
   refine h0i _ _<|wp_seq_k fun K8j h8j=>Ae<|sV (Aa rfl) ?_
   refine sV (Aa rfl) ?_
   refine sV (AO (c:=wu64 (m6a.2.1+m6a.1)) rfl rfl rfl) ?_
   refine sV (Ac rfl) ?_
   refine Ad<|h8j _ _<|wp_seq_k fun K9j h9j=>Ae<|sV (Aa rfl) ?_
   refine sV (Aa rfl) ?_
   obtain ⟨u3d,h1w,f2w⟩:=Ab f8s
   obtain ⟨bb1196,hA3w,hz0a2,ia4w,ib5w,hc1201⟩:=WN.nthc ow8e h1w
   refine sV (Ar Aq An rfl rfl hA3w ia4w ib5w) ?_
   refine sV (Ag AN rfl hc1201) ?_
   refine sV (AG (c:=wu64 u3d) AH AF rfl rfl) ?_
   refine sV (Aa rfl) ?_
   refine sb (CK rfl rfl) fun z5c hz5c=>?_
   refine nrm ?_
   refine sV (Ac rfl) ?_
   refine Ad<|h9j _ _<|wp_seq_k fun K0k h0k=>Ae<|sV (Aa rfl) ?_
   refine sV (Aa rfl) ?_
   obtain ⟨u9c,h6w,f7w⟩:=Ab f2w
   obtain ⟨bb1207,hA8w,hz1a2,ia9w,ib0x,hc1212⟩:=WN.nthc ow8e h6w
   refine sV (Ar Aq An rfl rfl hA8w ia9w ib0x) ?_
   refine sV (Ag AN rfl hc1212) ?_
   refine sV (Aa rfl) ?_
   refine sV (AG (c:=wu32 (wu64 (m6a.2.1+m6a.1))) AF AH rfl rfl) ?_
   refine sV (AV (c:=wu32 (u9c - (wu32 (wu64 (m6a.2.1+m6a.1))))) rfl rfl rfl) ?_
   obtain ⟨u2a2,h1x,f2x⟩:=Ab f7w
   obtain ⟨bb1216,hA1k,hz3a2,ia2k,ib3k,hc1221⟩:=WN.nthc ow8e h1x
   refine sV (Ar Aq An rfl rfl hA1k ia2k ib3k) ?_
   refine Nd An rfl rfl ow8e hA1k ia2k (by rw [WN.len ow8e];exact ib3k) fun w5 U3x ow4k=>?_
   have X5k:=UpdS.tr X0w U3x
   refine Ad<|h0k _ _<|wp_seq_k fun K6k h6k=>wp_seq_k fun K7k h7k=>Ae<|sV (Aa rfl) ?_
   refine Ad<|h7k _ _ ?_
   obtain ⟨m4f,h8k,f4x⟩:=Ab f2x
   refine BZ (fun l l' w'=>∃(t2b:Nat→Value),UpdS [bp0] w w'∧WN 179 bp0 pre ys w' A1 x0.length c2 m4f.2.2∧l'=[.slice A1 x0.length c2,.slice A4 x1.length c5,uu,uu,.int .u32 0,.int .i64 (x1.length:Int),.int .u64 (bor .u64 (wu64 ((wu64 u4a)*2^min (32:Int).toNat IntKind.u64.bits)) (wu64 u5a)),.int .u64 m4f.1,t0a 0,.int .u64 m6a.1,.int .u64 m4f.2.1,t1a 0,t1a 1,t1a 2,.int .u64 (wu64 (m6a.2.1+m6a.1)),.bool z5c,t2b 0,t2b 1,.slice A4 x1.length c5,.int .i64 (x1.length:Int),.slice A1 x0.length c2,.int .i64 (x1.length:Int),.pointer (some ⟨bb16,List.length pre+((x1.length:Int):Int).toNat,none⟩),.int .u32 u4a,.int .u64 (wu64 u4a),.int .u64 (wu64 ((wu64 u4a)*2^min (32:Int).toNat IntKind.u64.bits)),.slice A1 x0.length c2,.int .i64 (x1.length:Int),.int .i64 (wi64 ((x1.length:Int) - 1)),.pointer (some ⟨bb25,List.length pre+((wi64 ((x1.length:Int) - 1)):Int).toNat,none⟩),.int .u32 u5a,.int .u64 (wu64 u5a),.int .u64 (bor .u64 (wu64 ((wu64 u4a)*2^min (32:Int).toNat IntKind.u64.bits)) (wu64 u5a)),.int .u64 (bor .u64 (wu64 ((wu64 u4a)*2^min (32:Int).toNat IntKind.u64.bits)) (wu64 u5a)),.slice A4 x1.length c5,.int .i64 (x1.length:Int),.int .i64 (wi64 ((x1.length:Int) - 1)),.pointer (some ⟨bb38,oo39+((wi64 ((x1.length:Int) - 1)):Int).toNat,none⟩),.int .u32 u5b,.int .u64 (wu64 u5b),.int .u64 (wu64 ((bor .u64 (wu64 ((wu64 u4a)*2^min (32:Int).toNat IntKind.u64.bits)) (wu64 u5a)).tdiv (wu64 u5b))),.int .u64 (bor .u64 (wu64 ((wu64 u4a)*2^min (32:Int).toNat IntKind.u64.bits)) (wu64 u5a)),.slice A4 x1.length c5,.int .i64 (x1.length:Int),.int .i64 (wi64 ((x1.length:Int) - 1)),.pointer (some ⟨bb50,oo51+((wi64 ((x1.length:Int) - 1)):Int).toNat,none⟩),.int .u32 u6b,.int .u64 (wu64 u6b),.int .u64 ((bor .u64 (wu64 ((wu64 u4a)*2^min (32:Int).toNat IntKind.u64.bits)) (wu64 u5a)).tmod (wu64 u6b)),t0a 1,t0a 2,t0a 3,t0a 4,t0a 5,t0a 6,t0a 7,t0a 8,t0a 9,t0a 10,t0a 11,t0a 12,t0a 13,t0a 14,t0a 15,t0a 16,t0a 17,t0a 18,t0a 19,t0a 20,t0a 21,t0a 22,t0a 23,t0a 24,t0a 25,t0a 26,t0a 27,t0a 28,t0a 29,t0a 30,t0a 31,t0a 32,t0a 33,t0a 34,.slice A4 x1.length c5,.int .i64 (x1.length:Int),t1a 3,t1a 4,t1a 5,t1a 6,t1a 7,t1a 8,t1a 9,t1a 10,t1a 11,t1a 12,t1a 13,t1a 14,t1a 15,t1a 16,t1a 17,t1a 18,t1a 19,t1a 20,t1a 21,t1a 22,t1a 23,t1a 24,t1a 25,t1a 26,t1a 27,t1a 28,t1a 29,t1a 30,t1a 31,t1a 32,t1a 33,t1a 34,t1a 35,t1a 36,.int .u64 m6a.2.1,.int .u64 m6a.1,.int .u64 (wu64 (m6a.2.1+m6a.1)),.slice A1 x0.length c2,.int .i64 (x1.length:Int),.pointer (some ⟨bb1196,List.length pre+((x1.length:Int):Int).toNat,none⟩),.int .u32 u3d,.int .u64 (wu64 u3d),.int .u64 (wu64 (m6a.2.1+m6a.1)),.bool z5c,.slice A1 x0.length c2,.int .i64 (x1.length:Int),.pointer (some ⟨bb1207,List.length pre+((x1.length:Int):Int).toNat,none⟩),.int .u32 u9c,.int .u64 (wu64 (m6a.2.1+m6a.1)),.int .u32 (wu32 (wu64 (m6a.2.1+m6a.1))),.int .u32 (wu32 (u9c - (wu32 (wu64 (m6a.2.1+m6a.1))))),.pointer (some ⟨bb1216,List.length pre+((x1.length:Int):Int).toNat,none⟩),.bool z5c,t2b 2,t2b 3,t2b 4,t2b 5,t2b 6,t2b 7,t2b 8,t2b 9,t2b 10,t2b 11,t2b 12,t2b 13,t2b 14,t2b 15,t2b 16,t2b 17,t2b 18,t2b 19,t2b 20,t2b 21,t2b 22,t2b 23,t2b 24,t2b 25,t2b 26,t2b 27,t2b 28,t2b 29,t2b 30,t2b 31,t2b 32,t2b 33,t2b 34,t2b 35,t2b 36,uu,uu]) ?_ ?_
   ·rcases bft z5c with e9e | e9e
    ·have p5x:=zP hz5c e9e
     have f6x:=ifP p5x h8k
     refine wp_cond_true (Ai (evb rfl e9e))<|wp_seq_k fun K9k h9k=>Ae<|sV (Aa rfl) ?_
     refine sV (AV (c:=wu64 (m1b - 1)) rfl rfl rfl) ?_
     refine sV (Ac rfl) ?_
     refine Ad<|h9k _ _<|wp_seq_k fun K0l h0l=>Ae<|sV (Ac rfl) ?_
     refine Ad<|h0l _ _<|wp_seq_k fun K1l h1l=>wp_seq_k fun K2l h2l=>Ae<|sV (Aa rfl) ?_
     refine sV (Ax Aq rfl) ?_
     refine sV (Aa rfl) ?_
     refine Ad<|h2l _ _ ?_
     obtain ⟨m0d,h7x,f8x⟩:=Ab f6x
     refine BZ (fun l l' w'=>∃(t7a:Nat→Value),UpdS [bp0] w w'∧WN 179 bp0 pre ys w' A1 x0.length c2 m0d.2∧l'=[.slice A1 x0.length c2,.slice A4 x1.length c5,uu,uu,.int .u32 0,.int .i64 (x1.length:Int),.int .u64 (bor .u64 (wu64 ((wu64 u4a)*2^min (32:Int).toNat IntKind.u64.bits)) (wu64 u5a)),.int .u64 (wu64 (m1b - 1)),t0a 0,.int .u64 m6a.1,.int .u64 m0d.1,t1a 0,t1a 1,t1a 2,.int .u64 (wu64 (m6a.2.1+m6a.1)),.bool z5c,t7a 0,t7a 1,.slice A4 x1.length c5,.int .i64 (x1.length:Int),.slice A1 x0.length c2,.int .i64 (x1.length:Int),.pointer (some ⟨bb16,List.length pre+((x1.length:Int):Int).toNat,none⟩),.int .u32 u4a,.int .u64 (wu64 u4a),.int .u64 (wu64 ((wu64 u4a)*2^min (32:Int).toNat IntKind.u64.bits)),.slice A1 x0.length c2,.int .i64 (x1.length:Int),.int .i64 (wi64 ((x1.length:Int) - 1)),.pointer (some ⟨bb25,List.length pre+((wi64 ((x1.length:Int) - 1)):Int).toNat,none⟩),.int .u32 u5a,.int .u64 (wu64 u5a),.int .u64 (bor .u64 (wu64 ((wu64 u4a)*2^min (32:Int).toNat IntKind.u64.bits)) (wu64 u5a)),.int .u64 (bor .u64 (wu64 ((wu64 u4a)*2^min (32:Int).toNat IntKind.u64.bits)) (wu64 u5a)),.slice A4 x1.length c5,.int .i64 (x1.length:Int),.int .i64 (wi64 ((x1.length:Int) - 1)),.pointer (some ⟨bb38,oo39+((wi64 ((x1.length:Int) - 1)):Int).toNat,none⟩),.int .u32 u5b,.int .u64 (wu64 u5b),.int .u64 (wu64 ((bor .u64 (wu64 ((wu64 u4a)*2^min (32:Int).toNat IntKind.u64.bits)) (wu64 u5a)).tdiv (wu64 u5b))),.int .u64 (bor .u64 (wu64 ((wu64 u4a)*2^min (32:Int).toNat IntKind.u64.bits)) (wu64 u5a)),.slice A4 x1.length c5,.int .i64 (x1.length:Int),.int .i64 (wi64 ((x1.length:Int) - 1)),.pointer (some ⟨bb50,oo51+((wi64 ((x1.length:Int) - 1)):Int).toNat,none⟩),.int .u32 u6b,.int .u64 (wu64 u6b),.int .u64 ((bor .u64 (wu64 ((wu64 u4a)*2^min (32:Int).toNat IntKind.u64.bits)) (wu64 u5a)).tmod (wu64 u6b)),t0a 1,t0a 2,t0a 3,t0a 4,t0a 5,t0a 6,t0a 7,t0a 8,t0a 9,t0a 10,t0a 11,t0a 12,t0a 13,t0a 14,t0a 15,t0a 16,t0a 17,t0a 18,t0a 19,t0a 20,t0a 21,t0a 22,t0a 23,t0a 24,t0a 25,t0a 26,t0a 27,t0a 28,t0a 29,t0a 30,t0a 31,t0a 32,t0a 33,t0a 34,.slice A4 x1.length c5,.int .i64 (x1.length:Int),t1a 3,t1a 4,t1a 5,t1a 6,t1a 7,t1a 8,t1a 9,t1a 10,t1a 11,t1a 12,t1a 13,t1a 14,t1a 15,t1a 16,t1a 17,t1a 18,t1a 19,t1a 20,t1a 21,t1a 22,t1a 23,t1a 24,t1a 25,t1a 26,t1a 27,t1a 28,t1a 29,t1a 30,t1a 31,t1a 32,t1a 33,t1a 34,t1a 35,t1a 36,.int .u64 m6a.2.1,.int .u64 m6a.1,.int .u64 (wu64 (m6a.2.1+m6a.1)),.slice A1 x0.length c2,.int .i64 (x1.length:Int),.pointer (some ⟨bb1196,List.length pre+((x1.length:Int):Int).toNat,none⟩),.int .u32 u3d,.int .u64 (wu64 u3d),.int .u64 (wu64 (m6a.2.1+m6a.1)),.bool z5c,.slice A1 x0.length c2,.int .i64 (x1.length:Int),.pointer (some ⟨bb1207,List.length pre+((x1.length:Int):Int).toNat,none⟩),.int .u32 u9c,.int .u64 (wu64 (m6a.2.1+m6a.1)),.int .u32 (wu32 (wu64 (m6a.2.1+m6a.1))),.int .u32 (wu32 (u9c - (wu32 (wu64 (m6a.2.1+m6a.1))))),.pointer (some ⟨bb1216,List.length pre+((x1.length:Int):Int).toNat,none⟩),.bool z5c,.int .u64 m1b,.int .u64 (wu64 (m1b - 1)),.slice A4 x1.length c5,.int .i64 (x1.length:Int),t7a 2,t7a 3,t7a 4,t7a 5,t7a 6,t7a 7,t7a 8,t7a 9,t7a 10,t7a 11,t7a 12,t7a 13,t7a 14,t7a 15,t7a 16,t7a 17,t7a 18,t7a 19,t7a 20,t7a 21,t7a 22,t7a 23,t7a 24,uu,uu,uu,uu,uu,uu,uu,uu,uu,uu]) ?_ ?_
     ·apply wp_block
      refine AR (fun l n3l l' w'=>∃(v3c:Int) (v1c:Int) (v0f:List Int) (t8a:Nat→Value),UpdS [bp0] w w'∧WN 179 bp0 pre ys w' A1 x0.length c2 v0f∧Eg x0 x1 n3l v3c v1c v0f=some m0d∧l'=[.slice A1 x0.length c2,.slice A4 x1.length c5,uu,uu,.int .u32 0,.int .i64 (x1.length:Int),.int .u64 (bor .u64 (wu64 ((wu64 u4a)*2^min (32:Int).toNat IntKind.u64.bits)) (wu64 u5a)),.int .u64 (wu64 (m1b - 1)),t0a 0,.int .u64 m6a.1,.int .u64 v3c,t1a 0,t1a 1,t1a 2,.int .u64 (wu64 (m6a.2.1+m6a.1)),.bool z5c,t8a 0,t8a 1,.slice A4 x1.length c5,.int .i64 (x1.length:Int),.slice A1 x0.length c2,.int .i64 (x1.length:Int),.pointer (some ⟨bb16,List.length pre+((x1.length:Int):Int).toNat,none⟩),.int .u32 u4a,.int .u64 (wu64 u4a),.int .u64 (wu64 ((wu64 u4a)*2^min (32:Int).toNat IntKind.u64.bits)),.slice A1 x0.length c2,.int .i64 (x1.length:Int),.int .i64 (wi64 ((x1.length:Int) - 1)),.pointer (some ⟨bb25,List.length pre+((wi64 ((x1.length:Int) - 1)):Int).toNat,none⟩),.int .u32 u5a,.int .u64 (wu64 u5a),.int .u64 (bor .u64 (wu64 ((wu64 u4a)*2^min (32:Int).toNat IntKind.u64.bits)) (wu64 u5a)),.int .u64 (bor .u64 (wu64 ((wu64 u4a)*2^min (32:Int).toNat IntKind.u64.bits)) (wu64 u5a)),.slice A4 x1.length c5,.int .i64 (x1.length:Int),.int .i64 (wi64 ((x1.length:Int) - 1)),.pointer (some ⟨bb38,oo39+((wi64 ((x1.length:Int) - 1)):Int).toNat,none⟩),.int .u32 u5b,.int .u64 (wu64 u5b),.int .u64 (wu64 ((bor .u64 (wu64 ((wu64 u4a)*2^min (32:Int).toNat IntKind.u64.bits)) (wu64 u5a)).tdiv (wu64 u5b))),.int .u64 (bor .u64 (wu64 ((wu64 u4a)*2^min (32:Int).toNat IntKind.u64.bits)) (wu64 u5a)),.slice A4 x1.length c5,.int .i64 (x1.length:Int),.int .i64 (wi64 ((x1.length:Int) - 1)),.pointer (some ⟨bb50,oo51+((wi64 ((x1.length:Int) - 1)):Int).toNat,none⟩),.int .u32 u6b,.int .u64 (wu64 u6b),.int .u64 ((bor .u64 (wu64 ((wu64 u4a)*2^min (32:Int).toNat IntKind.u64.bits)) (wu64 u5a)).tmod (wu64 u6b)),t0a 1,t0a 2,t0a 3,t0a 4,t0a 5,t0a 6,t0a 7,t0a 8,t0a 9,t0a 10,t0a 11,t0a 12,t0a 13,t0a 14,t0a 15,t0a 16,t0a 17,t0a 18,t0a 19,t0a 20,t0a 21,t0a 22,t0a 23,t0a 24,t0a 25,t0a 26,t0a 27,t0a 28,t0a 29,t0a 30,t0a 31,t0a 32,t0a 33,t0a 34,.slice A4 x1.length c5,.int .i64 (x1.length:Int),t1a 3,t1a 4,t1a 5,t1a 6,t1a 7,t1a 8,t1a 9,t1a 10,t1a 11,t1a 12,t1a 13,t1a 14,t1a 15,t1a 16,t1a 17,t1a 18,t1a 19,t1a 20,t1a 21,t1a 22,t1a 23,t1a 24,t1a 25,t1a 26,t1a 27,t1a 28,t1a 29,t1a 30,t1a 31,t1a 32,t1a 33,t1a 34,t1a 35,t1a 36,.int .u64 m6a.2.1,.int .u64 m6a.1,.int .u64 (wu64 (m6a.2.1+m6a.1)),.slice A1 x0.length c2,.int .i64 (x1.length:Int),.pointer (some ⟨bb1196,List.length pre+((x1.length:Int):Int).toNat,none⟩),.int .u32 u3d,.int .u64 (wu64 u3d),.int .u64 (wu64 (m6a.2.1+m6a.1)),.bool z5c,.slice A1 x0.length c2,.int .i64 (x1.length:Int),.pointer (some ⟨bb1207,List.length pre+((x1.length:Int):Int).toNat,none⟩),.int .u32 u9c,.int .u64 (wu64 (m6a.2.1+m6a.1)),.int .u32 (wu32 (wu64 (m6a.2.1+m6a.1))),.int .u32 (wu32 (u9c - (wu32 (wu64 (m6a.2.1+m6a.1))))),.pointer (some ⟨bb1216,List.length pre+((x1.length:Int):Int).toNat,none⟩),.bool z5c,.int .u64 m1b,.int .u64 (wu64 (m1b - 1)),.slice A4 x1.length c5,.int .i64 (x1.length:Int),.int .i64 v1c,t8a 2,t8a 3,t8a 4,t8a 5,t8a 6,t8a 7,t8a 8,t8a 9,t8a 10,t8a 11,t8a 12,t8a 13,t8a 14,t8a 15,t8a 16,t8a 17,t8a 18,t8a 19,t8a 20,t8a 21,t8a 22,t8a 23,uu,uu,uu,uu,uu,uu,uu,uu,uu,uu]) 18446744073709551616 ?_ ?_ ?_
      ·exact ⟨0,0,(List.set m6a.2.2 ((x1.length:Int):Int).toNat (wu32 (u9c - (wu32 (wu64 (m6a.2.1+m6a.1)))))),(tk [uu,uu,uu,uu,uu,uu,uu,uu,uu,uu,uu,uu,uu,uu,uu,uu,uu,uu,uu,uu,uu,uu,uu,uu]),X5k,ow4k,h7x,rfl⟩
      ·rintro l' w' ⟨v3c,v1c,v0f,t8a,_,_,hz,_⟩
       exact nomatch hz
      ·rintro n3l ih9x _ w6 ⟨v3c,v1c,v0f,t8a,X0g,ow1f,hr1g,rfl⟩ _ rfl
       unfold Eg at hr1g
       refine Ba<|wp_seq_k fun K4l h4l=>Ae<|sb (CK rfl rfl) fun z0e hz0e=>?_
       refine nrm ?_
       refine Ad<|h4l _ _<|wp_seq_k fun K5l h5l=>?_
       rcases bft z0e with e2f | e2f
       ·have p0y:=zP hz0e e2f
        have f1y:=ifP p0y hr1g
        refine wp_cond_true (Ai (evb rfl e2f))<|wp_skip<|h5l _ _<|wp_seq_k fun K6l h6l=>?_
        apply wp_block
        refine wp_seq_k fun K7l h7l=>Ae<|sV (Aa rfl) ?_
        obtain ⟨u0c,h2y,f3y⟩:=Ab f1y
        obtain ⟨bb1898,oo1899,hA4y,ia5y,ib6y,hc1901⟩:=RL.nth (RL.updW n6 X0g ap0) h2y
        refine sV (Ar Aq An rfl rfl hA4y ia5y ib6y) ?_
        refine sV (Ag AN rfl hc1901) ?_
        refine sV (Ac rfl) ?_
        refine sV (Ac rfl) ?_
        refine Ad<|h7l _ _<|wp_seq_k fun K8l h8l=>Ae<|sV (Aa rfl) ?_
        refine sV (Aa rfl) ?_
        refine sV (Aa rfl) ?_
        obtain ⟨u4c,h7y,f8y⟩:=Ab f3y
        obtain ⟨bb1909,hA9y,hz4a2,ia0z,ib1z,hc1914⟩:=WN.nthc ow1f h7y
        refine sV (Ar Aq An rfl rfl hA9y ia0z ib1z) ?_
        refine sV (Ag AN rfl hc1914) ?_
        refine sV (AG (c:=wu64 u4c) AH AF rfl rfl) ?_
        refine sV (Aa rfl) ?_
        refine sV (AG (c:=wu64 u0c) AH AF rfl rfl) ?_
        refine sV (AO (c:=wu64 ((wu64 u4c)+(wu64 u0c))) rfl rfl rfl) ?_
        refine sV (AO (c:=wu64 (v3c+(wu64 ((wu64 u4c)+(wu64 u0c))))) rfl rfl rfl) ?_
        refine sV (Ac rfl) ?_
        refine Ad<|h8l _ _<|wp_seq_k fun K9l h9l=>Ae<|sV (Aa rfl) ?_
        refine sV (Aa rfl) ?_
        refine sV (Aa rfl) ?_
        refine sV (AG (c:=wu32 (wu64 (v3c+(wu64 ((wu64 u4c)+(wu64 u0c)))))) AF AH rfl rfl) ?_
        obtain ⟨u5a2,h2z,f3z⟩:=Ab f8y
        obtain ⟨bb1919,hA0m,hz6a2,ia1m,ib2m,hc1924⟩:=WN.nthc ow1f h2z
        refine sV (Ar Aq An rfl rfl hA0m ia1m ib2m) ?_
        refine Nd An rfl rfl ow1f hA0m ia1m (by rw [WN.len ow1f];exact ib2m) fun w7 U4z ow5z=>?_
        have X6z:=UpdS.tr X0g U4z
        refine Ad<|h9l _ _<|Ae<|sV (Aa rfl) ?_
        refine sV (Gu (c:=(wu64 (v3c+(wu64 ((wu64 u4c)+(wu64 u0c))))).fdiv (2^min (32:Int).toNat IntKind.u64.bits)) (by decide) rfl rfl rfl) ?_
        refine sV (Ac rfl) ?_
        refine Ad<|h6l _ _<|Ae<|sV (AO (c:=wi64 (v1c+1)) rfl rfl rfl) ?_
        refine sV (Aa rfl) ?_
        refine Ad ?_
        exact ih9x _ _ ⟨((wu64 (v3c+(wu64 ((wu64 u4c)+(wu64 u0c))))).fdiv (2^min (32:Int).toNat IntKind.u64.bits)),(wi64 (v1c+1)),(List.set v0f (v1c:Int).toNat (wu32 (wu64 (v3c+(wu64 ((wu64 u4c)+(wu64 u0c))))))),(tk [.int .i64 v1c,.int .u32 u0c,.bool z0e,.int .i64 v1c,.pointer (some ⟨bb1898,oo1899+(v1c:Int).toNat,none⟩),.int .u32 u0c,.int .u64 v3c,.slice A1 x0.length c2,.int .i64 v1c,.pointer (some ⟨bb1909,List.length pre+(v1c:Int).toNat,none⟩),.int .u32 u4c,.int .u64 (wu64 u4c),.int .u32 u0c,.int .u64 (wu64 u0c),.int .u64 (wu64 ((wu64 u4c)+(wu64 u0c))),.int .u64 (wu64 (v3c+(wu64 ((wu64 u4c)+(wu64 u0c))))),.slice A1 x0.length c2,.int .i64 v1c,.int .u64 (wu64 (v3c+(wu64 ((wu64 u4c)+(wu64 u0c))))),.int .u32 (wu32 (wu64 (v3c+(wu64 ((wu64 u4c)+(wu64 u0c)))))),.pointer (some ⟨bb1919,List.length pre+(v1c:Int).toNat,none⟩),.int .u64 (wu64 (v3c+(wu64 ((wu64 u4c)+(wu64 u0c))))),.int .u64 ((wu64 (v3c+(wu64 ((wu64 u4c)+(wu64 u0c))))).fdiv (2^min (32:Int).toNat IntKind.u64.bits)),.int .i64 (wi64 (v1c+1))]),X6z,ow5z,f3z,rfl⟩
       ·have p7z:=zN hz0e e2f
        have f8z:=ifN p7z hr1g
        refine wp_cond_false (Ai (evb rfl e2f))<|wp_exit ?_
        simp only [Exit.then,Exit.inBlock,↓reduceIte,Nat.reduceEqDiff]
        obtain rfl:=sj f8z
        exact ⟨_,rfl,(tk [t8a 0,t8a 1,.int .i64 v1c,.bool z0e,t8a 3,t8a 4,t8a 5,t8a 6,t8a 7,t8a 8,t8a 9,t8a 10,t8a 11,t8a 12,t8a 13,t8a 14,t8a 15,t8a 16,t8a 17,t8a 18,t8a 19,t8a 20,t8a 21,t8a 22,t8a 23]),X0g,ow1f,rfl⟩
     ·rintro _ w6 ⟨t7a,X9z,ow5f,rfl⟩ _ rfl
      refine h1l _ _<|Ae<|sV (Aa rfl) ?_
      refine sV (Aa rfl) ?_
      obtain ⟨u2g,h0a0,f1a0⟩:=Ab f8x
      obtain ⟨bb1932,hA2a0,hz7a2,ia3a0,ib4a0,hc1937⟩:=WN.nthc ow5f h0a0
      refine sV (Ar Aq An rfl rfl hA2a0 ia3a0 ib4a0) ?_
      refine sV (Ag AN rfl hc1937) ?_
      refine sV (Aa rfl) ?_
      refine sV (AG (c:=wu32 m0d.1) AF AH rfl rfl) ?_
      refine sV (AO (c:=wu32 (u2g+(wu32 m0d.1))) rfl rfl rfl) ?_
      obtain ⟨u8a2,h5a0,f6a0⟩:=Ab f1a0
      obtain ⟨bb1941,hA3m,hz9a2,ia4m,ib5m,hc1946⟩:=WN.nthc ow5f h5a0
      refine sV (Ar Aq An rfl rfl hA3m ia4m ib5m) ?_
      refine Nd An rfl rfl ow5f hA3m ia4m (by rw [WN.len ow5f];exact ib5m) fun w7 U7a0 ow8a0=>?_
      have X9a0:=UpdS.tr X9z U7a0
      refine Ad ?_
      obtain rfl:=sj f6a0
      exact ⟨_,rfl,(tk [t7a 0,t7a 1,.int .u64 m1b,.int .u64 (wu64 (m1b - 1)),.slice A4 x1.length c5,.int .i64 (x1.length:Int),t7a 2,t7a 3,t7a 4,t7a 5,t7a 6,t7a 7,t7a 8,t7a 9,t7a 10,t7a 11,t7a 12,t7a 13,t7a 14,t7a 15,t7a 16,t7a 17,t7a 18,t7a 19,t7a 20,t7a 21,t7a 22,t7a 23,t7a 24,.slice A1 x0.length c2,.int .i64 (x1.length:Int),.pointer (some ⟨bb1932,List.length pre+((x1.length:Int):Int).toNat,none⟩),.int .u32 u2g,.int .u64 m0d.1,.int .u32 (wu32 m0d.1),.int .u32 (wu32 (u2g+(wu32 m0d.1))),.pointer (some ⟨bb1941,List.length pre+((x1.length:Int):Int).toNat,none⟩)]),X9a0,ow8a0,rfl⟩
    ·have p0a1:=zN hz5c e9e
     have f1a1:=ifN p0a1 h8k
     refine wp_cond_false (Ai (evb rfl e9e))<|wp_skip ?_
     obtain rfl:=sj f1a1
     exact ⟨_,rfl,(tk [uu,uu,uu,uu,uu,uu,uu,uu,uu,uu,uu,uu,uu,uu,uu,uu,uu,uu,uu,uu,uu,uu,uu,uu,uu,uu,uu,uu,uu,uu,uu,uu,uu,uu,uu,uu,uu]),X5k,ow4k,rfl⟩
   ·rintro _ w6 ⟨t2b,X2a1,ow6m,rfl⟩ _ rfl
    refine h6k _ _<|wp_seq_k fun K7m h7m=>Ae<|sV (Aa rfl) ?_
    refine sV (AG (c:=wu32 m4f.1) AF AH rfl rfl) ?_
    refine sV (Ac rfl) ?_
    refine Ad<|h7m _ _<|wp_ret ?_
    obtain rfl:=sj f4x
    exact fin rfl (Res.tmp rfl Res.nil) ⟨X2a1,WN.len ow6m,WN.bx ow6m,_,rfl,rfl⟩
theorem GV (x0:List Int) (x1:List Int) (A1:Option Addr) (c2:Nat) (A4:Option Addr) (c5:Nat) (w:World) (hT:TB w) (n3:RLu w A1 c2 x0) (n6:RLu w A4 c5 x1) (r:List Int × List Int) (hr:CV x0 x1=some r) :
  Calls Tryz.prog 186 #[.slice A1 x0.length c2,.slice A4 x1.length c5] w (Ret JX w r):=by
 unfold CV at hr
 go_enter Tryz.func186,Tryz.ntmps186
 refine wp_seq_k fun K7 h7=>Ae<|sV (Ac rfl) ?_
 refine sV (Ac rfl) ?_
 refine Ad<|h7 _ _<|wp_seq_k fun K8 h8=>wp_seq_k fun K9 h9=>Ae<|sV (Aa rfl) ?_
 refine sV (Aa rfl) ?_
 obtain ⟨r4b,h1c,f2c⟩:=Ab hr
 refine sc (Af KO (by rfl)) (FB x0 x1 A1 c2 A4 c5 w hT n3 n6 r4b h1c) ?_
 rintro _ w1 E5a rfl
 refine nrm ?_
 refine sb (CK rfl rfl) fun z5b hz5b=>?_
 refine nrm ?_
 refine Ad<|h9 _ _ ?_
 rcases bft z5b with e8a | e8a
 ·have p6h:=zP hz5b e8a
  have f7h:=ifP p6h f2c
  refine wp_cond_true (Ai (evb rfl e8a))<|wp_seq_k fun K8d h8d=>Ae<|sV (Aa rfl) ?_
  refine sV (Ac rfl) ?_
  refine sV (Ac rfl) ?_
  refine Ad<|h8d _ _<|wp_ret ?_
  obtain rfl:=sj f7h
  exact fin rfl (Res.tmp rfl (Res.tmp rfl Res.nil)) (Ak E5a ⟨none,0,A1,c2,rfl,(RL.nil _ _ _),(n3.ext E5a)⟩)
 ·have p8h:=zN hz5b e8a
  have f9d:=ifN p8h f2c
  refine wp_cond_false (Ai (evb rfl e8a))<|wp_skip<|h8 _ _<|wp_seq_k fun K0e h0e=>wp_seq_k fun K1e h1e=>Ae<|sV (Aa rfl) ?_
  refine sV (Ax Aq rfl) ?_
  refine sb (BE rfl rfl) fun z6b hz6b=>?_
  refine nrm ?_
  refine Ad<|h1e _ _ ?_
  rcases bft z6b with e9a | e9a
  ·have p9h:=zP hz6b e9a
   have f0i:=ifP p9h f9d
   refine wp_cond_true (Ai (evb rfl e9a))<|wp_seq_k fun K2e h2e=>Ae<|sV (Aa rfl) ?_
   refine sV (Aa rfl) ?_
   obtain ⟨u1i,h2i,f3i⟩:=Ab f0i
   obtain ⟨bb521,oo522,hA4i,ia5i,ib6i,hc524⟩:=RL.nth (n6.ext E5a) h2i
   refine sV (Ar Aq An rfl rfl hA4i ia5i ib6i) ?_
   refine sV (Ag AN rfl hc524) ?_
   obtain ⟨r7i,h8i,f9i⟩:=Ab f3i
   refine sc (Af en_237 (by rfl)) (c_wide_Nat_short x0 u1i A1 c2 w1 (tbx E5a hT) (n3.ext E5a) r7i h8i) ?_
   rintro _ w2 E0j ⟨A1j,c2j,A3j,c4j,rfl,n5j,n6j⟩
   refine nrm ?_
   have X7j:=xtr E5a E0j
   refine sV (AK rfl rfl) ?_
   refine sV (AK rfl rfl) ?_
   refine sV (Ac rfl) ?_
   refine sV (Ac rfl) ?_
   refine Ad<|h2e _ _<|wp_ret ?_
   obtain rfl:=sj f9i
   exact fin rfl (Res.tmp rfl (Res.tmp rfl Res.nil)) (Ak X7j ⟨A1j,c2j,A3j,c4j,rfl,n5j,n6j⟩)
  ·have p8j:=zN hz6b e9a
   have f9j:=ifN p8j f9d
   refine wp_cond_false (Ai (evb rfl e9a))<|wp_skip<|h0e _ _<|wp_seq_k fun K3e h3e=>Ae<|sV (Aa rfl) ?_
   refine sV (Aa rfl) ?_
   refine sV (Ax Aq rfl) ?_
   refine sV (AV (c:=wi64 ((x1.length:Int) - 1)) rfl rfl rfl) ?_
   obtain ⟨u0k,h1k,f64⟩:=Ab f9j
   obtain ⟨bb65,oo66,hA2k,ia3k,ib4k,hc68⟩:=RL.nth (n6.ext E5a) h1k
   refine sV (Ar Aq An rfl rfl hA2k ia3k ib4k) ?_
   refine sV (Ag AN rfl hc68) ?_
   obtain ⟨r7b,h5k,f6k⟩:=Ab f64
   refine sc (Af Mk (by rfl)) (ER u0k w1 (tbx E5a hT)  r7b h5k) ?_
   rintro _ w2 E7k rfl
   refine nrm ?_
   have X3c:=xtr E5a E7k
   refine sV (Ac rfl) ?_
   refine Ad<|h3e _ _<|wp_seq_k fun K4e h4e=>Ae<|sV (Aa rfl) ?_
   refine sV (Aa rfl) ?_
   obtain ⟨r2a,h8k,f9k⟩:=Ab f6k
   refine sc (Af IR (by rfl)) (Dk x1 r7b A4 c5 w2 (tbx X3c hT) (n6.ext X3c) r2a h8k) ?_
   rintro _ w3 E0l ⟨A5e,c6e,rfl,n7e⟩
   refine nrm ?_
   have X8b:=xtr X3c E0l
   refine sV (Ac rfl) ?_
   refine Ad<|h4e _ _<|wp_seq_k fun K8e h8e=>Ae<|sV (Aa rfl) ?_
   refine sV (Ax Aq rfl) ?_
   refine sV (AO (c:=wi64 ((x0.length:Int)+1)) rfl rfl rfl) ?_
   obtain ⟨_,h1l,f2l⟩:=Ab f9k
   have gd89:=Ay h1l
   refine Gx Aq CO rfl rfl gd89 fun A4c w4 E9e ow3l=>?_
   refine nrm ?_
   have X5c:=xtr X8b E9e
   refine sV (Ac rfl) ?_
   refine Ad<|h8e _ _<|wp_seq_k fun K0f h0f=>Ae<|sV (Aa rfl) ?_
   refine sV (Aa rfl) ?_
   refine sV (Aa rfl) ?_
   obtain ⟨r6c,h4l,f5l⟩:=Ab f2l
   refine sc (Af IR (by rfl)) (Dk x0 r7b A1 c2 w4 (tbx X5c hT) (n3.ext X5c) r6c h4l) ?_
   rintro _ w5 E7c ⟨A3r,c4r,rfl,n6l⟩
   refine nrm ?_
   have X7l:=xtr X5c E7c
   have X8l:=xtr E9e E7c
   refine NA Aq An rfl rfl (ow3l.ext E7c) n6l fun w6 B105 ow1f=>?_
   refine nrm ?_
   have X2f:=xO X7l B105 X8b.size
   have X3f:=xO X8l B105 (Nat.le_refl _)
   refine Ad<|h0f _ _<|wp_seq_k fun K4f h4f=>Ae<|sV (Aa rfl) ?_
   refine sV (Ax Aq rfl) ?_
   refine sV (Ac rfl) ?_
   refine Ad<|h4f _ _<|wp_seq_k fun K5f h5f=>Ae<|sV (Aa rfl) ?_
   refine sV (Ax Aq rfl) ?_
   refine sV (Aa rfl) ?_
   refine sV (AV (c:=wi64 ((((((wi64 ((x0.length:Int)+1)):Int).toNat):Nat):Int) - (r2a.length:Int))) rfl rfl rfl) ?_
   obtain ⟨_,h9l,f0m⟩:=Ab f5l
   have gd117:=Ay h9l
   have hl118:=OW.lt ow1f
   refine Gx Aq CO rfl rfl gd117 fun A9b w7 E8c ow1m=>?_
   refine nrm ?_
   have X2m:=xtr X2f E8c
   have X3m:=xtr X3f E8c
   refine sV (Ac rfl) ?_
   refine Ad<|h5f _ _<|wp_seq_k fun K6f h6f=>wp_seq_k fun K7f h7f=>Ae<|sV (Aa rfl) ?_
   refine sV (Ax Aq rfl) ?_
   refine sV (Aa rfl) ?_
   refine sV (AV (c:=wi64 ((((((wi64 ((x0.length:Int)+1)):Int).toNat):Nat):Int) - (r2a.length:Int))) rfl rfl rfl) ?_
   refine sV (AV (c:=wi64 ((wi64 ((((((wi64 ((x0.length:Int)+1)):Int).toNat):Nat):Int) - (r2a.length:Int))) - 1)) rfl rfl rfl) ?_
   refine sV (Ac rfl) ?_
   refine Ad<|h7f _ _ ?_
   obtain ⟨m0b,h4m,f5m⟩:=Ab f0m
   refine BZ (fun l l' w'=>∃(t3a:Nat→Value),Ext w w'∧Ext w3 w'∧OW 179 w6.heap.size w' A9b (((wi64 ((((((wi64 ((x0.length:Int)+1)):Int).toNat):Nat):Int) - (r2a.length:Int))):Int).toNat) (((wi64 ((((((wi64 ((x0.length:Int)+1)):Int).toNat):Nat):Int) - (r2a.length:Int))):Int).toNat) m0b.1∧OW 179 w3.heap.size w' A4c (((wi64 ((x0.length:Int)+1)):Int).toNat) (((wi64 ((x0.length:Int)+1)):Int).toNat) m0b.2∧l'=(((((((((((((((((l.set 11 (t3a 0)).set 58 (t3a 1)).set 59 (t3a 2)).set 60 (t3a 3)).set 61 (t3a 4)).set 62 (t3a 5)).set 63 (t3a 6)).set 64 (t3a 7)).set 65 (t3a 8)).set 66 (t3a 9)).set 67 (t3a 10)).set 68 (t3a 11)).set 69 (t3a 12)).set 70 (t3a 13)).set 71 (t3a 14)).set 72 (t3a 15)).set 73 (t3a 16))) ?_ ?_
   ·apply wp_block
    refine AR (fun l n8f l' w'=>∃(v0a:Int) (v1b:List Int) (v4a:List Int) (t1a:Nat→Value),Ext w w'∧Ext w3 w'∧OW 179 w6.heap.size w' A9b (((wi64 ((((((wi64 ((x0.length:Int)+1)):Int).toNat):Nat):Int) - (r2a.length:Int))):Int).toNat) (((wi64 ((((((wi64 ((x0.length:Int)+1)):Int).toNat):Nat):Int) - (r2a.length:Int))):Int).toNat) v1b∧OW 179 w3.heap.size w' A4c (((wi64 ((x0.length:Int)+1)):Int).toNat) (((wi64 ((x0.length:Int)+1)):Int).toNat) v4a∧DW x0 x1 r2a n8f v0a v1b v4a=some m0b∧l'=(((((((((((((((((l.set 11 (.int .i64 v0a)).set 58 (t1a 0)).set 59 (t1a 1)).set 60 (t1a 2)).set 61 (t1a 3)).set 62 (t1a 4)).set 63 (t1a 5)).set 64 (t1a 6)).set 65 (t1a 7)).set 66 (t1a 8)).set 67 (t1a 9)).set 68 (t1a 10)).set 69 (t1a 11)).set 70 (t1a 12)).set 71 (t1a 13)).set 72 (t1a 14)).set 73 (t1a 15))) 18446744073709551616 ?_ ?_ ?_
    ·exact ⟨(wi64 ((wi64 ((((((wi64 ((x0.length:Int)+1)):Int).toNat):Nat):Int) - (r2a.length:Int))) - 1)),(List.replicate ((wi64 ((((((wi64 ((x0.length:Int)+1)):Int).toNat):Nat):Int) - (r2a.length:Int))):Int).toNat (0:Int)),((r6c).take (List.length (List.replicate ((wi64 ((x0.length:Int)+1)):Int).toNat (0:Int)))++(List.replicate ((wi64 ((x0.length:Int)+1)):Int).toNat (0:Int)).drop r6c.length),(tk [uu,uu,uu,uu,uu,uu,uu,uu,uu,uu,uu,uu,uu,uu,uu,uu]),X2m,X3m,ow1m,(ow1f.ext E8c),h4m,(by simp only [S0,S1]<;>rfl)⟩
    ·rintro l' w' ⟨v0a,v1b,v4a,t1a,_,_,_,_,hz,_⟩
     exact nomatch hz
    ·rintro n8f ih6m l' w8 ⟨v0a,v1b,v4a,t1a,X9c,X0d,ow9f,ow6a,hr1d,hq'⟩ l'' hl
     rw [hq'] at hl
     clear hq'
     simp only [S0,S1] at hl
     subst hl
     unfold DW at hr1d
     refine Ba<|wp_seq_k fun K0g h0g=>wp_seq_k fun K1g h1g=>Ae<|sV (Aa rfl) ?_
     refine sb (Fl rfl rfl) fun z7a hz7a=>?_
     refine nrm ?_
     refine Ad<|h1g _ _ ?_
     rcases bft z7a with e2b | e2b
     ·have p7m:=zP hz7a e2b
      have f8m:=ifP p7m hr1d
      refine wp_cond_true (Ai (evb rfl e2b))<|wp_skip<|h0g _ _<|wp_seq_k fun K2g h2g=>?_
      apply wp_block
      refine Ae<|sV (Aa rfl) ?_
      refine sV (Aa rfl) ?_
      refine sV (Aa rfl) ?_
      refine sV (Aa rfl) ?_
      refine sV (Aa rfl) ?_
      refine sV (Aa rfl) ?_
      refine sV (AO (c:=wi64 (v0a+(r2a.length:Int))) rfl rfl rfl) ?_
      refine sV (AO (c:=wi64 ((wi64 (v0a+(r2a.length:Int)))+1)) rfl rfl rfl) ?_
      obtain ⟨_,h9m,f0n⟩:=Ab f8m
      have gd441:=Ay h9m
      obtain ⟨b2d,ys443,hA3g,hz1n,g3d,q4g,bk448⟩:=OW.win (lo:=(v0a:Int).toNat) (hi:=((wi64 ((wi64 (v0a+(r2a.length:Int)))+1)):Int).toNat) ow6a (by omega) (by rw [←OW.len ow6a];omega)
      refine swin (lo:=(v0a:Int).toNat) (hi:=((wi64 ((wi64 (v0a+(r2a.length:Int)))+1)):Int).toNat) Aq An rfl ⟨.i64,by rw [Int.toNat_of_nonneg (a:=v0a) (by omega)];rfl⟩ ⟨.i64,by rw [Int.toNat_of_nonneg (a:=(wi64 ((wi64 (v0a+(r2a.length:Int)))+1))) (by omega)];rfl⟩ (by omega) (by rw [←OW.len ow6a];omega) ow6a hA3g ?_
      refine nrm ?_
      refine sV (Aa rfl) ?_
      obtain ⟨r0c,h2n,f3n⟩:=Ab f0n
      refine scK (Af en_238 (by rfl)) (c_wide_digit ((List.drop ((v0a:Int).toNat) v4a).take ((((wi64 ((wi64 (v0a+(r2a.length:Int)))+1)):Int).toNat) - ((v0a:Int).toNat))) r2a (some ⟨b2d,List.length ((v4a).take ((v0a:Int).toNat)),none⟩) ((((wi64 ((x0.length:Int)+1)):Int).toNat) - ((v0a:Int).toNat)) A5e c6e b2d ((v4a).take ((v0a:Int).toNat)) ys443 w8 (tbx X9c hT) ⟨rfl,rfl,q4g,by have:=OW.cap ow6a;simp only [List.length_take,List.length_drop];omega,by have:=(OW.rl ow6a).2.1;omega⟩  (TB.nz (tbx X8b hT) g3d) (n7e.ext X0d) (apartB n7e g3d) r0c h2n) ?_
      rintro _ w9 ⟨U5g,hl454,q4n,_,rfl,rfl⟩
      refine ⟨_,rfl,?_⟩
      refine nrm ?_
      have B456:=UpdS.below U5g g3d q4g.lt
      have ow5n:=bk448 _ _ (by rw [hl454];simp only [List.length_take,List.length_drop];omega) q4n
      have X6n:=xO X9c B456 X8b.size
      have X7n:=xO X0d B456 (Nat.le_refl _)
      have ow4d:=OW.updO ow9f U5g (hl118 _ hA3g hz1n)
      obtain ⟨u5r,h8n,f9n⟩:=Ab f3n
      obtain ⟨bb464,hA6g,hz6r,ia7g,ib8g,hc469⟩:=OW.nthc ow4d h8n
      refine sV (Ar Aq An rfl rfl hA6g ia7g ib8g) ?_
      refine JQ An rfl rfl ow4d hA6g ia7g (by rw [OW.len ow4d];exact ib8g) fun w4b B470 U7r ow0o=>?_
      have X1o:=xO X6n B470 X2f.size
      have X2o:=xO X7n B470 X3f.size
      have ow3o:=OW.bel2 ow5n B470 hl118
      refine Ad<|h2g _ _<|Ae<|sV (Aa rfl) ?_
      refine sV (AV (c:=wi64 (v0a - 1)) rfl rfl rfl) ?_
      refine sV (Ac rfl) ?_
      refine Ad ?_
      exact ih6m _ _ ⟨(wi64 (v0a - 1)),(List.set v1b (v0a:Int).toNat r0c.1),(((v4a).take ((v0a:Int).toNat))++r0c.2++((v4a).drop (((wi64 ((wi64 (v0a+(r2a.length:Int)))+1)):Int).toNat))),(tk [.int .i64 v0a,.bool z7a,.int .i64 v0a,.int .i64 (wi64 (v0a - 1)),.slice A9b (((wi64 ((((((wi64 ((x0.length:Int)+1)):Int).toNat):Nat):Int) - (r2a.length:Int))):Int).toNat) (((wi64 ((((((wi64 ((x0.length:Int)+1)):Int).toNat):Nat):Int) - (r2a.length:Int))):Int).toNat),.int .i64 v0a,.slice A4c (((wi64 ((x0.length:Int)+1)):Int).toNat) (((wi64 ((x0.length:Int)+1)):Int).toNat),.int .i64 v0a,.int .i64 v0a,.int .i64 (r2a.length:Int),.int .i64 (wi64 (v0a+(r2a.length:Int))),.int .i64 (wi64 ((wi64 (v0a+(r2a.length:Int)))+1)),.slice (some ⟨b2d,List.length ((v4a).take ((v0a:Int).toNat)),none⟩) (List.length ((List.drop ((v0a:Int).toNat) v4a).take ((((wi64 ((wi64 (v0a+(r2a.length:Int)))+1)):Int).toNat) - ((v0a:Int).toNat)))) ((((wi64 ((x0.length:Int)+1)):Int).toNat) - ((v0a:Int).toNat)),.slice A5e r2a.length c6e,.int .u32 r0c.1,.pointer (some ⟨bb464,0+(v0a:Int).toNat,none⟩)]),X1o,X2o,ow0o,ow3o,f9n,(by simp only [S0,S1]<;>rfl)⟩
     ·have p4o:=zN hz7a e2b
      have f5o:=ifN p4o hr1d
      refine wp_cond_false (Ai (evb rfl e2b))<|wp_exit ?_
      simp only [Exit.then,Exit.inBlock,↓reduceIte,Nat.reduceEqDiff]
      obtain rfl:=sj f5o
      exact ⟨_,rfl,(tk [.int .i64 v0a,.int .i64 v0a,.bool z7a,t1a 2,t1a 3,t1a 4,t1a 5,t1a 6,t1a 7,t1a 8,t1a 9,t1a 10,t1a 11,t1a 12,t1a 13,t1a 14,t1a 15]),X9c,X0d,ow9f,ow6a,(by simp only [S0,S1]<;>rfl)⟩
   ·rintro l' w8 ⟨t3a,X6o,X8r,ow9g,ow0h,hq'⟩ l'' hl
    rw [hq'] at hl
    clear hq'
    simp only [S0,S1] at hl
    subst hl
    refine h6f _ _<|wp_seq_k fun K1h h1h=>EE [] 10 mo rfl fun w9 E3b S7o=>have X2h:=xtr X6o E3b;dA 0 rfl (fun _=>Aa rfl) ?_
    refine dA 2 rfl (fun _=>Aa rfl) ?_
    refine dA 3 rfl (fun _=>Aa rfl) ?_
    obtain ⟨_,h8o,f9o⟩:=Ab f5m
    have gd483:=Ay h8o
    refine dslice 4 rfl (lo:=0) (hi:=((r2a.length:Int):Int).toNat) Aq An (by rw [OW.len (ow0h.ext E3b)];rfl) rfl ⟨.i64,by rw [Int.toNat_of_nonneg (a:=(r2a.length:Int)) (by omega)];rfl⟩ (by omega) (by omega) (OW.rl (ow0h.ext E3b)) fun A0p c1p n2p=>?_
    refine dnrm ?_
    refine dA 6 rfl (fun _=>Aa rfl) ?_
    obtain ⟨r3p,h4p,f5p⟩:=Ab f9o
    refine dc 1 rfl (by kernel_rfl) (by rfl) (Af IG (by simp only [OW.len (ow9g.ext E3b)];rfl)) (Dp m0b.1 A9b (((wi64 ((((((wi64 ((x0.length:Int)+1)):Int).toNat):Nat):Int) - (r2a.length:Int))):Int).toNat) w9 (tbx X2h hT) (OW.rl (ow9g.ext E3b)) r3p h4p) ?_
    rintro _ w4b E5d ⟨A6p,c7p,rfl,n8p⟩
    refine dnrm ?_
    have X3h:=xtr X2h E5d
    have S9p:=S7o.trans E5d
    obtain ⟨r4h,h0q,f1q⟩:=Ab f5p
    refine dc 5 rfl (by kernel_rfl) (by rfl) (Af IG (by rfl)) (Dp ((List.drop 0 m0b.2).take ((((r2a.length:Int):Int).toNat) - 0)) A0p c1p w4b (tbx X3h hT) (n2p.ext E5d) r4h h0q) ?_
    rintro _ w1c E6d ⟨A2q,c3q,rfl,n4q⟩
    refine dnrm ?_
    have X5h:=xtr X3h E6d
    have S5q:=S9p.trans E6d
    obtain ⟨r6q,h7q,f8q⟩:=Ab f1q
    refine dc 7 rfl (by kernel_rfl) (by rfl) (Af KZ (by rfl)) (Fs r4h r7b A2q c3q w1c (tbx X5h hT) n4q r6q h7q) ?_
    rintro _ w2c E7d ⟨A9q,c0r,rfl,n1r⟩
    refine dnrm ?_
    have X2r:=xtr X5h E7d
    have S9r:=S5q.trans E7d
    refine dA 8 rfl (fun _=>Ac rfl) ?_
    refine dA 9 rfl (fun _=>Ac rfl) ?_
    refine Dm (by kernel_rfl) ?_
    refine h1h _ _<|wp_ret ?_
    obtain rfl:=sj f8q
    exact fin rfl (Res.tmp rfl (Res.tmp rfl Res.nil)) (Ak X2r ⟨A6p,c7p,A9q,c0r,rfl,((n8p.ext E6d).ext E7d),n1r⟩)
end Go.Proofs.Lf

