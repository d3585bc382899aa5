import Derived.Test.YtabiobmfelafoaaGreatDoorLeaf1
namespace Go.Proofs.Lf
set_option linter.unusedVariables false
set_option linter.unusedSimpArgs false
set_option maxHeartbeats 4000000
open Go.RowKit Go.Sb Go.Proofs Go.Proofs.Sbn
set_option maxRecDepth 20000 in
theorem DH (x0:List Int) (x1:List Int) (A1:OA) (c2:Nat) (A4:OA) (c5:Nat) (w:World) (hT:TB w) (n3:RLu w A1 c2 x0) (n6:RLu w A4 c5 x1) (r:CP) (hr:Bd x0 x1=some r) :
  Calls Tryz.prog 149 #[.slice A1 x0.length c2,.slice A4 x1.length c5] w (Ret OB w r):=by
 unfold Bd at hr
 refine LB Tryz.func149 rfl 174 ?_
 refine ws fun h7=>Ai<|sal LL fun b8 w1 E9 g9b q2c=>?_
 refine wh h7<|ws fun h3c=>ws fun h7f=>Ai<|sV2 (Aa rfl) (Az AJ rfl) ?_
 refine sbl (BD rfl rfl) fun z8f hz8f=>?_
 refine wh h7f ?_
 rcases zi hz8f hr with ⟨e9f,_,f9q⟩ | ⟨e9f,_,f0r⟩
 ·refine ct e9f<|ws fun h1r=>Ai<|sV2 (Aa rfl) (Aa rfl) ?_
  obtain ⟨u2r,h3r,f4r⟩:=Ac f9q
  obtain ⟨bb72213,oo72214,hA5r,ia6r,ib7r,hc72216⟩:=RL.nth (n6.ext E9) h3r
  refine sV2 (As AJ Ao rfl rfl hA5r ia6r ib7r) (Ah AP rfl hc72216) ?_
  obtain ⟨r8r,h9r,f0s⟩:=Ac f4r
  refine sc (Ad en_211 (by rfl)) (c_sorobanref01_short x0 u2r A1 c2 w1 (tbx E9 hT) (n3.ext E9) r8r h9r) ?_
  rintro _ w2 E9j ⟨A1s,c2s,A3s,c4s,rfl,n5s,n6s⟩
  refine nrm ?_
  have X7s:=xtr E9 E9j
  have q8d:=q2c.ext E9j
  refine ss KC q8d fun w3 U0g q8s=>?_
  have X2d:=belU X7s U0g g9b
  refine wh h1r<|wp_ret ?_
  have n9d:=n5s.upd U0g q8d (by decide)
  have n8d:=n6s.upd U0g q8d (by decide)
  exact Ej f0s MW q8s X2d ⟨A1s,c2s,A3s,c4s,rfl,n9d,n8d⟩
 ·refine cf e9f<|wp_skip<|h3c _ _<|ws fun h9s=>ws fun h0t=>Ai<|sV2 (Aa rfl) (Aa rfl) ?_
  refine scr f0r (Ad Mw (by rfl)) (EA x0 x1 A1 c2 A4 c5 w1 (tbx E9 hT) (n3.ext E9) (n6.ext E9)) fun r4af f1t w2 E1g=>?_
  have X3d:=xtr E9 E1g
  refine sbl (Cu rfl rfl) fun z0k hz0k=>?_
  refine wh h0t ?_
  rcases zi hz0k f1t with ⟨e2g,_,f2t⟩ | ⟨e2g,_,f3t⟩
  ·refine ct e2g<|ws fun h4t=>Ai<|sV (Aa rfl) ?_
   refine scn f2t (Ad JM (by rfl)) (Cr x0 A1 c2 w2 (tbx X3d hT) (n3.ext X3d)) fun r1k f5t w3 A3g c4g E2k n6t=>?_
   have X7t:=xtr X3d E2k
   refine sV (AR (vals:=[(1,.slice A3g r1k.length c4g)]) (cells:=[.slice none 0 0,.slice A3g r1k.length c4g]) (by rfl) (by kernel_rfl)) ?_
   have q3k:=(q2c.ext E1g).ext E2k
   refine ss KC q3k fun w4 U4k q8t=>?_
   have X9t:=belU X7t U4k g9b
   refine wh h4t<|wp_ret ?_
   have n0u:=n6t.upd U4k q3k (by decide)
   exact Ej f5t MW q8t X9t ⟨none,0,A3g,c4g,rfl,(RL.nil _ _ _),n0u⟩
  ·refine cf e2g<|wp_skip<|h9s _ _<|ws fun h1u=>Ai<|sV3 (Aa rfl) (Az AJ rfl) (Ab rfl) ?_
   refine nx h1u fun h2u=>sV3 (Aa rfl) (JF (c:=wi64 (32*(x1.length:Int))) rfl rfl rfl) (Aa rfl) ?_
   refine scr f3t (Ad LO (by rfl)) (Du x1 A4 c5 w2 (tbx X3d hT) (n6.ext X3d)) fun r1b f3u w3 E5k=>?_
   have X5g:=xtr X3d E5k
   refine sV2 (Bc (c:=wi64 ((wi64 (32*(x1.length:Int))) - r1b)) rfl rfl rfl) (Ab rfl) ?_
   refine nx h2u fun h4u=>sV2 (Aa rfl) (Aa rfl) ?_
   refine scn f3u (Ad JR (by rfl)) (Jm x1 (wi64 ((wi64 (32*(x1.length:Int))) - r1b)) A4 c5 w3 (tbx X5g hT) (n6.ext X5g)) fun r0a f5u w4 A2a c3a E0e n6k=>?_
   have X4d:=xtr X5g E0e
   refine sV (Ab rfl) ?_
   refine nx h4u fun h6u=>sV2 (Aa rfl) (Aa rfl) ?_
   obtain ⟨r7k,h7u,f8u⟩:=Ac f5u
   have hl105:=OW.lt n6k
   refine sc (Ad JR (by rfl)) (Jm x0 (wi64 ((wi64 (32*(x1.length:Int))) - r1b)) A1 c2 w4 (tbx X4d hT) (n3.ext X4d) r7k h7u) ?_
   rintro _ w5 E1f ⟨A9u,c0v,rfl,n1v⟩
   refine nrm ?_
   have X2v:=xtr X4d E1f
   have X3v:=xtr E0e E1f
   refine sV (Ab rfl) ?_
   refine wh h6u<|ws fun h4v=>?_
   obtain ⟨m4a,h5v,f6v⟩:=Ac f8u
   refine BJ (fun l l' w'=>∃(A5a:OA) (c6a:Nat),Ext w w'∧Ext w3 w'∧Ext w4 w'∧OW 179 w4.heap.size w' A5a m4a.length c6a m4a∧OW 179 w3.heap.size w' A2a r0a.length c3a r0a∧Fr l' (fun t6g=>.slice A1 x0.length c2::gp t6g 1 3 (.pointer (some ⟨b8,0,none⟩)::.int .i64 (x1.length:Int)::.int .i64 (wi64 ((wi64 (32*(x1.length:Int))) - r1b))::.slice A2a r0a.length c3a::.slice A5a m4a.length c6a::gp t6g 9 167 []))) ?_ ?_
   ·apply wp_block
    refine AV (fun l n8k l' w'=>∃(v4c:List Int) (A1e:OA) (c2e:Nat),Ext w w'∧Ext w3 w'∧Ext w4 w'∧OW 179 w4.heap.size w' A1e v4c.length c2e v4c∧OW 179 w3.heap.size w' A2a r0a.length c3a r0a∧DJ x0 x1 n8k v4c=some m4a∧Fr l' (fun t7g=>.slice A1 x0.length c2::gp t7g 1 3 (.pointer (some ⟨b8,0,none⟩)::.int .i64 (x1.length:Int)::.int .i64 (wi64 ((wi64 (32*(x1.length:Int))) - r1b))::.slice A2a r0a.length c3a::.slice A1e v4c.length c2e::gp t7g 9 167 []))) 18446744073709551616 ?_ ?_ ?_
    ·exact ⟨r7k,A9u,c0v,X2v,X3v,E1f,(OW.nn n1v),(n6k.ext E1f),h5v,(Fr.mk (by kernel_rfl))⟩
    ·rintro l' w' ⟨v4c,A1e,c2e,_,_,_,_,_,hz,_⟩
     exact nomatch hz
    ·rintro n8k ih7v _ w6 ⟨v4c,A1e,c2e,X9k,X0l,X1l,ow2l,ow3l,hr4l,⟨t7g,rfl⟩⟩ l'' hl
     simp only [gp,Nat.reduceAdd] at hl
     subst hl
     unfold DJ at hr4l
     refine AW<|ws fun h8v=>ws fun h9v=>Ai<|sV3 (Aa rfl) (Az AJ rfl) (Aa rfl) ?_
     refine sV (Az AJ rfl) ?_
     refine sbl (GL rfl rfl) fun z5l hz5l=>?_
     refine wh h9v ?_
     rcases zi hz5l hr4l with ⟨e8g,_,f0w⟩ | ⟨e8g,_,f1w⟩
     ·refine ct e8g<|wp_skip<|h8v _ _ ?_
      apply wp_block
      refine Ai<|sV (Aa rfl) ?_
      refine DY (vals:=[(0,.int .u32 0)]) (cs:=[.int .u32 0]) AJ Ao GY (by rfl) (by decide) (by kernel_rfl) fun b2w w7 E3e g5af q3w=>?_
      refine nrm ?_
      have X4w:=xtr X9k E3e
      have X5w:=xtr X0l E3e
      have X6l:=xtr X1l E3e
      have n6w:RLu w7 (some ⟨b2w,0,none⟩) 1 [0]:=(OW.lit (n0:=0) (n:=1) (xs:=[0]) q3w (Nat.zero_le _) rfl (by decide)).rl
      obtain ⟨_,h7w,f8w⟩:=Ac f0w
      have gd378:=AC h7w
      refine JE AJ Dw rfl rfl rfl (ow2l.ext E3e) n6w gd378 X6l.size fun A9w c0x w8 B381 ow1x=>?_
      refine nrm ?_
      have X2x:=xO X4w B381 X4d.size
      have X3x:=xO X5w B381 E0e.size
      have X4x:=xO X6l B381 (Nat.le_refl _)
      have ow5x:=OW.bel2 (ow3l.ext E3e) B381 hl105
      refine sV (Ab rfl) ?_
      refine AE ?_
      exact ih7v _ _ ⟨(v4c++([0]:List Int)),A9w,c0x,X2x,X3x,X4x,(OW.nn ow1x),ow5x,f8w,(Fr.mk (by kernel_rfl))⟩
     ·refine cf e8g<|wp_exit ?_
      simp only [Exit.then,Exit.inBlock,↓reduceIte,Nat.reduceEqDiff]
      obtain rfl:=sj f1w
      exact ⟨_,rfl,A1e,c2e,X9k,X0l,X1l,(OW.nn ow2l),ow3l,(Fr.mk (by kernel_rfl))⟩
   ·rintro _ w6 ⟨A5a,c6a,X7l,X8l,X9l,ow0m,ow1m,⟨t6g,rfl⟩⟩ l'' hl
    simp only [gp,Nat.reduceAdd] at hl
    subst hl
    refine h4v _ _<|ws fun h6x=>Ai<|sV3 (Aa rfl) (Az AJ rfl) (Aa rfl) ?_
    refine sV2 (Bc (c:=wi64 ((x0.length:Int) - (x1.length:Int))) rfl rfl rfl) (AL (c:=wi64 ((wi64 ((x0.length:Int) - (x1.length:Int)))+1)) rfl rfl rfl) ?_
    obtain ⟨_,h7x,f8x⟩:=Ac f6v
    have gd390:=AC h7x
    have hl391:=OW.lt ow1m
    have hl392:=OW.lt ow0m
    refine HE AJ Dw rfl rfl gd390 fun A7a w7 E4e ow9x=>?_
    refine nrm ?_
    have X0y:=xtr X7l E4e
    have X1y:=xtr X8l E4e
    have X2y:=xtr X9l E4e
    refine sV (Ab rfl) ?_
    refine wh h6x<|ws fun h3y=>ws fun h4y=>Ai<|sV3 (Aa rfl) (Az AJ rfl) (Aa rfl) ?_
    refine sV2 (Bc (c:=wi64 ((x0.length:Int) - (x1.length:Int))) rfl rfl rfl) (Ab rfl) ?_
    refine wh h4y ?_
    obtain ⟨m5e,h5y,f6y⟩:=Ac f8x
    refine BJ (fun l l' w'=>Ext w w'∧Ext w3 w'∧Ext w4 w'∧OW 179 w4.heap.size w' A5a m4a.length c6a m5e.1∧OW 179 w6.heap.size w' A7a (((wi64 ((wi64 ((x0.length:Int) - (x1.length:Int)))+1)):Int).toNat) (((wi64 ((wi64 ((x0.length:Int) - (x1.length:Int)))+1)):Int).toNat) m5e.2∧OW 179 w3.heap.size w' A2a r0a.length c3a r0a∧Fr l' (fun t6e=>gp t6e 0 4 (.pointer (some ⟨b8,0,none⟩)::gp t6e 5 1 (.int .i64 (wi64 ((wi64 (32*(x1.length:Int))) - r1b))::gp t6e 7 1 (.slice A5a m4a.length c6a::.slice A7a (((wi64 ((wi64 ((x0.length:Int) - (x1.length:Int)))+1)):Int).toNat) (((wi64 ((wi64 ((x0.length:Int) - (x1.length:Int)))+1)):Int).toNat)::gp t6e 10 166 []))))) ?_ ?_
    ·apply wp_block
     refine AV (fun l n2m l' w'=>∃(v1a:Int) (v7e:List Int) (v4b:List Int),Ext w w'∧Ext w3 w'∧Ext w4 w'∧OW 179 w4.heap.size w' A5a m4a.length c6a v7e∧OW 179 w6.heap.size w' A7a (((wi64 ((wi64 ((x0.length:Int) - (x1.length:Int)))+1)):Int).toNat) (((wi64 ((wi64 ((x0.length:Int) - (x1.length:Int)))+1)):Int).toNat) v4b∧OW 179 w3.heap.size w' A2a r0a.length c3a r0a∧DF x0 x1 r0a n2m v1a v7e v4b=some m5e∧Fr l' (fun t9g=>gp t9g 0 4 (.pointer (some ⟨b8,0,none⟩)::.int .i64 (x1.length:Int)::.int .i64 (wi64 ((wi64 (32*(x1.length:Int))) - r1b))::.slice A2a r0a.length c3a::.slice A5a m4a.length c6a::.slice A7a (((wi64 ((wi64 ((x0.length:Int) - (x1.length:Int)))+1)):Int).toNat) (((wi64 ((wi64 ((x0.length:Int) - (x1.length:Int)))+1)):Int).toNat)::.int .i64 v1a::gp t9g 11 165 []))) 18446744073709551616 ?_ ?_ ?_
     ·exact ⟨(wi64 ((x0.length:Int) - (x1.length:Int))),m4a,(List.replicate ((wi64 ((wi64 ((x0.length:Int) - (x1.length:Int)))+1)):Int).toNat (0:Int)),X0y,X1y,X2y,(ow0m.ext E4e),ow9x,(ow1m.ext E4e),h5y,(Fr.mk (by kernel_rfl))⟩
     ·rintro l' w' ⟨v1a,v7e,v4b,_,_,_,_,_,_,hz,_⟩
      exact nomatch hz
     ·rintro n2m ih7y _ w8 ⟨v1a,v7e,v4b,X3m,X4m,X5m,ow6m,ow7m,ow0h,hr8m,⟨t9g,rfl⟩⟩ l'' hl
      simp only [gp,Nat.reduceAdd] at hl
      subst hl
      unfold DF at hr8m
      refine AW<|ws fun h8y=>ws fun h9y=>Ai<|sV (Aa rfl) ?_
      refine sbl (Gp rfl rfl) fun z9m hz9m=>?_
      refine wh h9y ?_
      rcases zi hz9m hr8m with ⟨e1h,_,f0z⟩ | ⟨e1h,_,f1z⟩
      ·refine ct e1h<|wp_skip<|h8y _ _<|ws fun h2z=>?_
       obtain ⟨m2f,h3z,f4z⟩:=Ac f0z
       refine BJ (fun l l' w'=>Ext w w'∧Ext w3 w'∧Ext w4 w'∧OW 179 w4.heap.size w' A5a m4a.length c6a m2f.1∧OW 179 w6.heap.size w' A7a (((wi64 ((wi64 ((x0.length:Int) - (x1.length:Int)))+1)):Int).toNat) (((wi64 ((wi64 ((x0.length:Int) - (x1.length:Int)))+1)):Int).toNat) m2f.2∧OW 179 w3.heap.size w' A2a r0a.length c3a r0a∧Fr l' (fun t2h=>gp t2h 0 4 (.pointer (some ⟨b8,0,none⟩)::.int .i64 (x1.length:Int)::.int .i64 (wi64 ((wi64 (32*(x1.length:Int))) - r1b))::.slice A2a r0a.length c3a::.slice A5a m4a.length c6a::.slice A7a (((wi64 ((wi64 ((x0.length:Int) - (x1.length:Int)))+1)):Int).toNat) (((wi64 ((wi64 ((x0.length:Int) - (x1.length:Int)))+1)):Int).toNat)::.int .i64 v1a::gp t2h 11 165 []))) ?_ ?_
       ·apply wp_block
        refine ws fun h5z=>DD [] 26 mo rfl fun w9 E5c S3h=>have X6z:=xtr X3m E5c;have X7z:=xtr X4m E5c;have X8z:=xtr X5m E5c;dA 0 rfl (fun _=>Aa rfl) ?_
        refine dA2 1 2 rfl rfl (fun _=>Aa rfl) (fun _=>Aa rfl) ?_
        refine dA 3 rfl (fun _=>AL (c:=wi64 (v1a+(x1.length:Int))) rfl rfl rfl) ?_
        obtain ⟨u8a,h9z,f0a0⟩:=Ac h3z
        have q9d:=ow6m.ext E5c
        obtain ⟨bb66212,hA1a0,hz6af,ia2a0,ib3a0,hc66217⟩:=OW.nthc q9d h9z
        refine dA 4 rfl (fun _=>As AJ Ao rfl rfl hA1a0 ia2a0 ib3a0) ?_
        refine dV 5 rfl (fun _ hw=>Ah AP rfl (CN hc66217 hw)) S3h ?_
        refine dA2 6 7 rfl rfl (fun _=>AF (c:=wu64 u8a) AG AD rfl rfl) (fun _=>JQ (c:=wu64 ((wu64 u8a)*2^min (32:Int).toNat IntKind.u64.bits)) (by decide) rfl rfl rfl) ?_
        refine dA2 8 9 rfl rfl (fun _=>Aa rfl) (fun _=>Aa rfl) ?_
        refine dA2 10 11 rfl rfl (fun _=>Aa rfl) (fun _=>AL (c:=wi64 (v1a+(x1.length:Int))) rfl rfl rfl) ?_
        refine dA 12 rfl (fun _=>Bc (c:=wi64 ((wi64 (v1a+(x1.length:Int))) - 1)) rfl rfl rfl) ?_
        obtain ⟨u9a,h4a0,f5a0⟩:=Ac f0a0
        obtain ⟨bb66221,hA6a0,hz7af,ia7a0,ib8a0,hc66226⟩:=OW.nthc q9d h4a0
        refine dA 13 rfl (fun _=>As AJ Ao rfl rfl hA6a0 ia7a0 ib8a0) ?_
        refine dV 14 rfl (fun _ hw=>Ah AP rfl (CN hc66226 hw)) S3h ?_
        refine dA2 15 16 rfl rfl (fun _=>AF (c:=wu64 u9a) AG AD rfl rfl) (fun _=>AL (c:=wu64 ((wu64 ((wu64 u8a)*2^min (32:Int).toNat IntKind.u64.bits))+(wu64 u9a))) rfl rfl rfl) ?_
        refine dA2 17 18 rfl rfl (fun _=>Aa rfl) (fun _=>Aa rfl) ?_
        refine dA 19 rfl (fun _=>Bc (c:=wi64 ((x1.length:Int) - 1)) rfl rfl rfl) ?_
        obtain ⟨u0b,h9a0,f0a1⟩:=Ac f5a0
        obtain ⟨bb66230,hA1a1,hz8af,ia2a1,ib3a1,hc66235⟩:=OW.nthc (ow0h.ext E5c) h9a0
        refine dA 20 rfl (fun _=>As AJ Ao rfl rfl hA1a1 ia2a1 ib3a1) ?_
        refine dV 21 rfl (fun _ hw=>Ah AP rfl (CN hc66235 hw)) S3h ?_
        refine dA 22 rfl (fun _=>AF (c:=wu64 u0b) AG AD rfl rfl) ?_
        obtain ⟨_,h4a1,f5a1⟩:=Ac f0a1
        have gd66238:=AC h4a1
        refine dA2 23 24 rfl rfl (fun _=>Ht (c:=wu64 ((wu64 ((wu64 ((wu64 u8a)*2^min (32:Int).toNat IntKind.u64.bits))+(wu64 u9a))).tdiv (wu64 u0b))) (decide_eq_true gd66238) rfl rfl rfl) (fun _=>NF rfl rfl) ?_
        refine dA 25 rfl (fun _=>Ab rfl) ?_
        refine CI (by kernel_rfl) ?_
        refine h5z _ _<|ws fun h6a1=>Ai<|sV (Ab rfl) ?_
        refine nx h6a1 fun h7a1=>sV (Ab rfl) ?_
        refine wh h7a1<|ws fun h8a1=>ws fun h9a1=>Ai<|sV (Ab rfl) ?_
        refine wh h9a1 ?_
        obtain ⟨m6c,h0a2,f1a2⟩:=Ac f5a1
        refine BJ (fun l l' w'=>Ext w w'∧Ext w3 w'∧Ext w4 w'∧OW 179 w4.heap.size w' A5a m4a.length c6a m6c.2.2∧OW 179 w6.heap.size w' A7a (((wi64 ((wi64 ((x0.length:Int) - (x1.length:Int)))+1)):Int).toNat) (((wi64 ((wi64 ((x0.length:Int) - (x1.length:Int)))+1)):Int).toNat) v4b∧OW 179 w3.heap.size w' A2a r0a.length c3a r0a∧Fr l' (fun t4h=>gp t4h 0 4 (.pointer (some ⟨b8,0,none⟩)::.int .i64 (x1.length:Int)::.int .i64 (wi64 ((wi64 (32*(x1.length:Int))) - r1b))::.slice A2a r0a.length c3a::.slice A5a m4a.length c6a::.slice A7a (((wi64 ((wi64 ((x0.length:Int) - (x1.length:Int)))+1)):Int).toNat) (((wi64 ((wi64 ((x0.length:Int) - (x1.length:Int)))+1)):Int).toNat)::.int .i64 v1a::.int .u64 (min (wu64 ((wu64 ((wu64 ((wu64 u8a)*2^min (32:Int).toNat IntKind.u64.bits))+(wu64 u9a))).tdiv (wu64 u0b))) 4294967295)::.int .u64 m6c.1::.int .u64 m6c.2.1::gp t4h 14 162 []))) ?_ ?_
        ·apply wp_block
         refine AV (fun l n0n l' w'=>∃(v2b:Int) (v7b:Int) (v5b:Int) (v8e:List Int),Ext w w'∧Ext w3 w'∧Ext w4 w'∧OW 179 w4.heap.size w' A5a m4a.length c6a v8e∧OW 179 w6.heap.size w' A7a (((wi64 ((wi64 ((x0.length:Int) - (x1.length:Int)))+1)):Int).toNat) (((wi64 ((wi64 ((x0.length:Int) - (x1.length:Int)))+1)):Int).toNat) v4b∧OW 179 w3.heap.size w' A2a r0a.length c3a r0a∧Db x0 x1 r0a v1a u8a u9a u0b n0n v2b v7b v5b v8e=some m6c∧Fr l' (fun t5h=>gp t5h 0 4 (.pointer (some ⟨b8,0,none⟩)::.int .i64 (x1.length:Int)::.int .i64 (wi64 ((wi64 (32*(x1.length:Int))) - r1b))::.slice A2a r0a.length c3a::.slice A5a m4a.length c6a::.slice A7a (((wi64 ((wi64 ((x0.length:Int) - (x1.length:Int)))+1)):Int).toNat) (((wi64 ((wi64 ((x0.length:Int) - (x1.length:Int)))+1)):Int).toNat)::.int .i64 v1a::.int .u64 (min (wu64 ((wu64 ((wu64 ((wu64 u8a)*2^min (32:Int).toNat IntKind.u64.bits))+(wu64 u9a))).tdiv (wu64 u0b))) 4294967295)::.int .u64 v2b::.int .u64 v7b::.int .i64 v5b::gp t5h 15 161 []))) 18446744073709551616 ?_ ?_ ?_
         ·exact ⟨0,0,0,v7e,X6z,X7z,X8z,q9d,(ow7m.ext E5c),(ow0h.ext E5c),h0a2,(Fr.mk (by kernel_rfl))⟩
         ·rintro l' w' ⟨v2b,v7b,v5b,v8e,_,_,_,_,_,_,hz,_⟩
          exact nomatch hz
         ·rintro n0n ih2a2 _ w9b ⟨v2b,v7b,v5b,v8e,X6h,X1n,X2n,ow3n,ow4n,ow7h,hr5n,⟨t5h,rfl⟩⟩ l'' hl
          simp only [gp,Nat.reduceAdd] at hl
          subst hl
          unfold Db at hr5n
          refine AW<|ws fun h3a2=>ws fun h4a2=>Ai<|sV2 (Aa rfl) (Aa rfl) ?_
          refine sbl (GL rfl rfl) fun z6n hz6n=>?_
          refine wh h4a2 ?_
          rcases zi hz6n hr5n with ⟨e8h,_,f5a2⟩ | ⟨e8h,_,f6a2⟩
          ·refine ct e8h<|wp_skip<|h3a2 _ _<|ws fun h7a2=>?_
           apply wp_block
           refine ws fun h8a2=>Ai<|sV2 (Aa rfl) (Aa rfl) ?_
           refine scr f5a2 (Ad Ja (by rfl)) (BS r0a v5b A2a c3a w9b (tbx X6h hT) (OW.rl ow7h)) fun r3b f9a2 w2c E5d=>?_
           have X0a3:=xtr X6h E5d
           have X1a3:=xtr X1n E5d
           have X2a3:=xtr X2n E5d
           refine sV3 (Aa rfl) (JF (c:=wu64 (r3b*(min (wu64 ((wu64 ((wu64 ((wu64 u8a)*2^min (32:Int).toNat IntKind.u64.bits))+(wu64 u9a))).tdiv (wu64 u0b))) 4294967295))) rfl rfl rfl) (Aa rfl) ?_
           refine sV2 (AL (c:=wu64 ((wu64 (r3b*(min (wu64 ((wu64 ((wu64 ((wu64 u8a)*2^min (32:Int).toNat IntKind.u64.bits))+(wu64 u9a))).tdiv (wu64 u0b))) 4294967295)))+v2b)) rfl rfl rfl) (Ab rfl) ?_
           refine nx h8a2 fun h3a3=>sV2 (Aa rfl) (HA (c:=(wu64 ((wu64 (r3b*(min (wu64 ((wu64 ((wu64 ((wu64 u8a)*2^min (32:Int).toNat IntKind.u64.bits))+(wu64 u9a))).tdiv (wu64 u0b))) 4294967295)))+v2b)).fdiv (2^min (32:Int).toNat IntKind.u64.bits)) (by decide) rfl rfl rfl) ?_
           refine sV (Ab rfl) ?_
           refine nx h3a3 fun h4a3=>sV3 (Aa rfl) (Aa rfl) (Aa rfl) ?_
           refine sV (AL (c:=wi64 (v1a+v5b)) rfl rfl rfl) ?_
           obtain ⟨u7c,h5a3,f6a3⟩:=Ac f9a2
           have q2d:=ow3n.ext E5d
           obtain ⟨bb66618,hA7a3,hz9af,ia8a3,ib9a3,hc66623⟩:=OW.nthc q2d h5a3
           refine sV3 (As AJ Ao rfl rfl hA7a3 ia8a3 ib9a3) (Ah AP rfl hc66623) (AF (c:=wu64 u7c) AG AD rfl rfl) ?_
           refine sV3 (Aa rfl) (AF (c:=wu32 (wu64 ((wu64 (r3b*(min (wu64 ((wu64 ((wu64 ((wu64 u8a)*2^min (32:Int).toNat IntKind.u64.bits))+(wu64 u9a))).tdiv (wu64 u0b))) 4294967295)))+v2b))) AD AG rfl rfl) (AF (c:=wu64 (wu32 (wu64 ((wu64 (r3b*(min (wu64 ((wu64 ((wu64 ((wu64 u8a)*2^min (32:Int).toNat IntKind.u64.bits))+(wu64 u9a))).tdiv (wu64 u0b))) 4294967295)))+v2b)))) AG AD rfl rfl) ?_
           refine sV3 (Bc (c:=wu64 ((wu64 u7c) - (wu64 (wu32 (wu64 ((wu64 (r3b*(min (wu64 ((wu64 ((wu64 ((wu64 u8a)*2^min (32:Int).toNat IntKind.u64.bits))+(wu64 u9a))).tdiv (wu64 u0b))) 4294967295)))+v2b)))))) rfl rfl rfl) (Aa rfl) (Bc (c:=wu64 ((wu64 ((wu64 u7c) - (wu64 (wu32 (wu64 ((wu64 (r3b*(min (wu64 ((wu64 ((wu64 ((wu64 u8a)*2^min (32:Int).toNat IntKind.u64.bits))+(wu64 u9a))).tdiv (wu64 u0b))) 4294967295)))+v2b)))))) - v7b)) rfl rfl rfl) ?_
           refine sV (Ab rfl) ?_
           refine nx h4a3 fun h0a4=>sV3 (Aa rfl) (Aa rfl) (Aa rfl) ?_
           refine sV3 (AL (c:=wi64 (v1a+v5b)) rfl rfl rfl) (Aa rfl) (AF (c:=wu32 (wu64 ((wu64 ((wu64 u7c) - (wu64 (wu32 (wu64 ((wu64 (r3b*(min (wu64 ((wu64 ((wu64 ((wu64 u8a)*2^min (32:Int).toNat IntKind.u64.bits))+(wu64 u9a))).tdiv (wu64 u0b))) 4294967295)))+v2b)))))) - v7b))) AD AG rfl rfl) ?_
           obtain ⟨u0ag,h1a4,f2a4⟩:=Ac f6a3
           obtain ⟨bb66628,hA9h,hz3a4,ia7n,ib8n,hc66633⟩:=OW.nthc q2d h1a4
           refine sV (As AJ Ao rfl rfl hA9h ia7n ib8n) ?_
           refine LC Ao rfl rfl q2d hA9h ia7n (by rw [OW.len q2d];exact ib8n) fun w3c B66634 U4a4 ow5a4=>?_
           have X6a4:=xO X0a3 B66634 X4d.size
           have X7a4:=xO X1a3 B66634 E0e.size
           have X8a4:=xO X2a3 B66634 (Nat.le_refl _)
           have ow9a4:=OW.bel2 (ow7h.ext E5d) B66634 hl105
           have ow0a5:=OW.updO (ow4n.ext E5d) U4a4 (hl392 _ hA9h hz3a4)
           refine wh h0a4<|Ai<|sV2 (Aa rfl) (HA (c:=(wu64 ((wu64 ((wu64 u7c) - (wu64 (wu32 (wu64 ((wu64 (r3b*(min (wu64 ((wu64 ((wu64 ((wu64 u8a)*2^min (32:Int).toNat IntKind.u64.bits))+(wu64 u9a))).tdiv (wu64 u0b))) 4294967295)))+v2b)))))) - v7b)).fdiv (2^min (63:Int).toNat IntKind.u64.bits)) (by decide) rfl rfl rfl) ?_
           refine sV (Ab rfl) ?_
           refine wh h7a2<|Ai<|sV3 (Aa rfl) (AL (c:=wi64 (v5b+1)) rfl rfl rfl) (Ab rfl) ?_
           refine AE ?_
           exact ih2a2 _ _ ⟨((wu64 ((wu64 (r3b*(min (wu64 ((wu64 ((wu64 ((wu64 u8a)*2^min (32:Int).toNat IntKind.u64.bits))+(wu64 u9a))).tdiv (wu64 u0b))) 4294967295)))+v2b)).fdiv (2^min (32:Int).toNat IntKind.u64.bits)),((wu64 ((wu64 ((wu64 u7c) - (wu64 (wu32 (wu64 ((wu64 (r3b*(min (wu64 ((wu64 ((wu64 ((wu64 u8a)*2^min (32:Int).toNat IntKind.u64.bits))+(wu64 u9a))).tdiv (wu64 u0b))) 4294967295)))+v2b)))))) - v7b)).fdiv (2^min (63:Int).toNat IntKind.u64.bits)),(wi64 (v5b+1)),(List.set v8e ((wi64 (v1a+v5b)):Int).toNat (wu32 (wu64 ((wu64 ((wu64 u7c) - (wu64 (wu32 (wu64 ((wu64 (r3b*(min (wu64 ((wu64 ((wu64 ((wu64 u8a)*2^min (32:Int).toNat IntKind.u64.bits))+(wu64 u9a))).tdiv (wu64 u0b))) 4294967295)))+v2b)))))) - v7b)))),X6a4,X7a4,X8a4,ow5a4,ow0a5,ow9a4,f2a4,(Fr.mk (by kernel_rfl))⟩
          ·refine cf e8h<|wp_exit ?_
           simp only [Exit.then,Exit.inBlock,↓reduceIte,Nat.reduceEqDiff]
           obtain rfl:=sj f6a2
           exact ⟨_,rfl,X6h,X1n,X2n,ow3n,ow4n,ow7h,(Fr.mk (by kernel_rfl))⟩
        ·rintro _ w9b ⟨X1a5,X2a5,X3a5,ow4a5,ow5a5,ow6a5,⟨t4h,rfl⟩⟩ l'' hl
         simp only [gp,Nat.reduceAdd] at hl
         subst hl
         refine h8a1 _ _<|ws fun h7a5=>?_
         obtain ⟨m6d,h8a5,f9a5⟩:=Ac f1a2
         refine BJ (fun l l' w'=>Ext w w'∧Ext w3 w'∧Ext w4 w'∧OW 179 w4.heap.size w' A5a m4a.length c6a m6d.2.2.2∧OW 179 w6.heap.size w' A7a (((wi64 ((wi64 ((x0.length:Int) - (x1.length:Int)))+1)):Int).toNat) (((wi64 ((wi64 ((x0.length:Int) - (x1.length:Int)))+1)):Int).toNat) v4b∧OW 179 w3.heap.size w' A2a r0a.length c3a r0a∧Fr l' (fun t0i=>gp t0i 0 4 (.pointer (some ⟨b8,0,none⟩)::.int .i64 (x1.length:Int)::.int .i64 (wi64 ((wi64 (32*(x1.length:Int))) - r1b))::.slice A2a r0a.length c3a::.slice A5a m4a.length c6a::.slice A7a (((wi64 ((wi64 ((x0.length:Int) - (x1.length:Int)))+1)):Int).toNat) (((wi64 ((wi64 ((x0.length:Int) - (x1.length:Int)))+1)):Int).toNat)::.int .i64 v1a::.int .u64 m6d.1::.int .u64 m6d.2.1::.int .u64 m6d.2.2.1::gp t0i 14 162 []))) ?_ ?_
         ·apply wp_block
          refine AV (fun l n9n l' w'=>∃(v8c:Int) (v3f:Int) (v9c:Int) (v9e:List Int),Ext w w'∧Ext w3 w'∧Ext w4 w'∧OW 179 w4.heap.size w' A5a m4a.length c6a v9e∧OW 179 w6.heap.size w' A7a (((wi64 ((wi64 ((x0.length:Int) - (x1.length:Int)))+1)):Int).toNat) (((wi64 ((wi64 ((x0.length:Int) - (x1.length:Int)))+1)):Int).toNat) v4b∧OW 179 w3.heap.size w' A2a r0a.length c3a r0a∧DE x0 x1 r0a v1a n9n v8c v3f v9c v9e=some m6d∧Fr l' (fun t1i=>gp t1i 0 4 (.pointer (some ⟨b8,0,none⟩)::.int .i64 (x1.length:Int)::.int .i64 (wi64 ((wi64 (32*(x1.length:Int))) - r1b))::.slice A2a r0a.length c3a::.slice A5a m4a.length c6a::.slice A7a (((wi64 ((wi64 ((x0.length:Int) - (x1.length:Int)))+1)):Int).toNat) (((wi64 ((wi64 ((x0.length:Int) - (x1.length:Int)))+1)):Int).toNat)::.int .i64 v1a::.int .u64 v8c::.int .u64 v3f::.int .u64 v9c::gp t1i 14 162 []))) 18446744073709551616 ?_ ?_ ?_
          ·exact ⟨(min (wu64 ((wu64 ((wu64 ((wu64 u8a)*2^min (32:Int).toNat IntKind.u64.bits))+(wu64 u9a))).tdiv (wu64 u0b))) 4294967295),m6c.1,m6c.2.1,m6c.2.2,X1a5,X2a5,X3a5,ow4a5,ow5a5,ow6a5,h8a5,(Fr.mk (by kernel_rfl))⟩
          ·rintro l' w' ⟨v8c,v3f,v9c,v9e,_,_,_,_,_,_,hz,_⟩
           exact nomatch hz
          ·rintro n9n ih0a6 _ w2c ⟨v8c,v3f,v9c,v9e,X0o,X1o,X2o,ow3o,ow4o,ow5o,hr6o,⟨t1i,rfl⟩⟩ l'' hl
           simp only [gp,Nat.reduceAdd] at hl
           subst hl
           unfold DE at hr6o
           refine AW<|ws fun h1a6=>ws fun h2a6=>Ai<|sV (Aa rfl) ?_
           refine sbl (ES rfl rfl) fun z7o hz7o=>?_
           refine wh h2a6 ?_
           rcases zi hz7o hr6o with ⟨e2i,_,f3a6⟩ | ⟨e2i,_,f4a6⟩
           ·refine ct e2i<|wp_skip<|h1a6 _ _ ?_
            obtain ⟨m0c,h5a6,f6a6⟩:=Ac f3a6
            refine BJ (fun l l' w'=>Ext w w'∧Ext w3 w'∧Ext w4 w'∧OW 179 w4.heap.size w' A5a m4a.length c6a m0c.2.2.2∧OW 179 w6.heap.size w' A7a (((wi64 ((wi64 ((x0.length:Int) - (x1.length:Int)))+1)):Int).toNat) (((wi64 ((wi64 ((x0.length:Int) - (x1.length:Int)))+1)):Int).toNat) v4b∧OW 179 w3.heap.size w' A2a r0a.length c3a r0a∧Fr l' (fun t3i=>gp t3i 0 4 (.pointer (some ⟨b8,0,none⟩)::.int .i64 (x1.length:Int)::.int .i64 (wi64 ((wi64 (32*(x1.length:Int))) - r1b))::.slice A2a r0a.length c3a::.slice A5a m4a.length c6a::.slice A7a (((wi64 ((wi64 ((x0.length:Int) - (x1.length:Int)))+1)):Int).toNat) (((wi64 ((wi64 ((x0.length:Int) - (x1.length:Int)))+1)):Int).toNat)::.int .i64 v1a::.int .u64 m0c.1::.int .u64 m0c.2.1::.int .u64 m0c.2.2.1::gp t3i 14 162 []))) ?_ ?_
            ·apply wp_block
             refine ws fun h7a6=>Ai<|sV3 (Aa rfl) (Bc (c:=wu64 (v8c - 1)) rfl rfl rfl) (Ab rfl) ?_
             refine nx h7a6 fun h8a6=>sV (Ab rfl) ?_
             refine wh h8a6<|ws fun h9a6=>ws fun h0a7=>Ai<|sV (Ab rfl) ?_
             refine wh h0a7 ?_
             obtain ⟨m4f,h1a7,f2a7⟩:=Ac h5a6
             refine BJ (fun l l' w'=>Ext w w'∧Ext w3 w'∧Ext w4 w'∧OW 179 w4.heap.size w' A5a m4a.length c6a m4f.2∧OW 179 w6.heap.size w' A7a (((wi64 ((wi64 ((x0.length:Int) - (x1.length:Int)))+1)):Int).toNat) (((wi64 ((wi64 ((x0.length:Int) - (x1.length:Int)))+1)):Int).toNat) v4b∧OW 179 w3.heap.size w' A2a r0a.length c3a r0a∧Fr l' (fun t4i=>gp t4i 0 4 (.pointer (some ⟨b8,0,none⟩)::.int .i64 (x1.length:Int)::.int .i64 (wi64 ((wi64 (32*(x1.length:Int))) - r1b))::.slice A2a r0a.length c3a::.slice A5a m4a.length c6a::.slice A7a (((wi64 ((wi64 ((x0.length:Int) - (x1.length:Int)))+1)):Int).toNat) (((wi64 ((wi64 ((x0.length:Int) - (x1.length:Int)))+1)):Int).toNat)::.int .i64 v1a::.int .u64 (wu64 (v8c - 1))::.int .u64 m4f.1::.int .u64 v9c::gp t4i 14 162 []))) ?_ ?_
             ·apply wp_block
              refine AV (fun l n8o l' w'=>∃(v8b:Int) (v6b:Int) (v0f:List Int),Ext w w'∧Ext w3 w'∧Ext w4 w'∧OW 179 w4.heap.size w' A5a m4a.length c6a v0f∧OW 179 w6.heap.size w' A7a (((wi64 ((wi64 ((x0.length:Int) - (x1.length:Int)))+1)):Int).toNat) (((wi64 ((wi64 ((x0.length:Int) - (x1.length:Int)))+1)):Int).toNat) v4b∧OW 179 w3.heap.size w' A2a r0a.length c3a r0a∧Dc x0 x1 r0a v1a n8o v8b v6b v0f=some m4f∧Fr l' (fun t5f=>gp t5f 0 4 (.pointer (some ⟨b8,0,none⟩)::.int .i64 (x1.length:Int)::.int .i64 (wi64 ((wi64 (32*(x1.length:Int))) - r1b))::.slice A2a r0a.length c3a::.slice A5a m4a.length c6a::.slice A7a (((wi64 ((wi64 ((x0.length:Int) - (x1.length:Int)))+1)):Int).toNat) (((wi64 ((wi64 ((x0.length:Int) - (x1.length:Int)))+1)):Int).toNat)::.int .i64 v1a::.int .u64 (wu64 (v8c - 1))::.int .u64 v8b::.int .u64 v9c::gp t5f 14 3 (.int .i64 v6b::gp t5f 18 158 [])))) 18446744073709551616 ?_ ?_ ?_
              ·exact ⟨0,0,v9e,X0o,X1o,X2o,ow3o,ow4o,ow5o,h1a7,(Fr.mk (by kernel_rfl))⟩
              ·rintro l' w' ⟨v8b,v6b,v0f,_,_,_,_,_,_,hz,_⟩
               exact nomatch hz
              ·rintro n8o ih3a7 _ w3c ⟨v8b,v6b,v0f,X9o,X0p,X1p,ow5i,ow2p,ow6i,hr3p,⟨t5f,rfl⟩⟩ l'' hl
               simp only [gp,Nat.reduceAdd] at hl
               subst hl
               unfold Dc at hr3p
               refine AW<|ws fun h4a7=>ws fun h5a7=>Ai<|sV2 (Aa rfl) (Aa rfl) ?_
               refine sbl (GL rfl rfl) fun z4p hz4p=>?_
               refine wh h5a7 ?_
               rcases zi hz4p hr3p with ⟨e7i,_,f6a7⟩ | ⟨e7i,_,f7a7⟩
               ·refine ct e7i<|wp_skip<|h4a7 _ _<|ws fun h8a7=>?_
                apply wp_block
                refine ws fun h9a7=>DD [] 14 mo rfl fun w7f E1c S5p=>have X6p:=xtr X9o E1c;have X0a8:=xtr X0p E1c;have X1a8:=xtr X1p E1c;dA 0 rfl (fun _=>Aa rfl) ?_
                refine dA2 1 2 rfl rfl (fun _=>Aa rfl) (fun _=>Aa rfl) ?_
                refine dA 3 rfl (fun _=>AL (c:=wi64 (v1a+v6b)) rfl rfl rfl) ?_
                obtain ⟨u0d,h2a8,f3a8⟩:=Ac f6a7
                obtain ⟨bb72107,hA4a8,hz1ag,ia5a8,ib6a8,hc72112⟩:=OW.nthc (ow5i.ext E1c) h2a8
                refine dA 4 rfl (fun _=>As AJ Ao rfl rfl hA4a8 ia5a8 ib6a8) ?_
                refine dV 5 rfl (fun _ hw=>Ah AP rfl (CN hc72112 hw)) S5p ?_
                refine dA2 6 7 rfl rfl (fun _=>AF (c:=wu64 u0d) AG AD rfl rfl) (fun _=>Aa rfl) ?_
                refine dA2 8 11 rfl rfl (fun _=>Aa rfl) (fun _=>Aa rfl) ?_
                refine dcr f3a8 9 rfl (by rfl) (Ad Ja (by rfl)) (BS r0a v6b A2a c3a w7f (tbx X6p hT) (OW.rl (ow6i.ext E1c))) fun r7d f7a8 w8f E1d=>?_
                have X8a8:=xtr X6p E1d
                have X9a8:=xtr X0a8 E1d
                have X0a9:=xtr X1a8 E1d
                have S2ag:=S5p.trans E1d
                refine dA2 10 12 rfl rfl (fun _=>AL (c:=wu64 ((wu64 u0d)+r7d)) rfl rfl rfl) (fun _=>AL (c:=wu64 ((wu64 ((wu64 u0d)+r7d))+v8b)) rfl rfl rfl) ?_
                refine dA 13 rfl (fun _=>Ab rfl) ?_
                refine CI (by kernel_rfl) ?_
                refine h9a7 _ _<|ws fun h1a9=>Ai<|sV3 (Aa rfl) (Aa rfl) (Aa rfl) ?_
                refine sV3 (AL (c:=wi64 (v1a+v6b)) rfl rfl rfl) (Aa rfl) (AF (c:=wu32 (wu64 ((wu64 ((wu64 u0d)+r7d))+v8b))) AD AG rfl rfl) ?_
                have ow8i:=(ow5i.ext E1c).ext E1d
                obtain ⟨u3ag,h2a9,f3a9⟩:=Ac f7a8
                obtain ⟨bb72126,hA9i,hz4a9,ia7p,ib8p,hc72131⟩:=OW.nthc ow8i h2a9
                refine sV (As AJ Ao rfl rfl hA9i ia7p ib8p) ?_
                refine LC Ao rfl rfl ow8i hA9i ia7p (by rw [OW.len ow8i];exact ib8p) fun w4ag B72132 U5a9 ow6a9=>?_
                have ow7a9:=(ow6i.ext E1c).ext E1d
                have ow8a9:=(ow2p.ext E1c).ext E1d
                have X9a9:=xO X8a8 B72132 X4d.size
                have X0aa:=xO X9a8 B72132 E0e.size
                have X1aa:=xO X0a9 B72132 (Nat.le_refl _)
                have ow2aa:=OW.bel2 ow7a9 B72132 hl105
                have ow3aa:=OW.updO ow8a9 U5a9 (hl392 _ hA9i hz4a9)
                refine wh h1a9<|Ai<|sV2 (Aa rfl) (HA (c:=(wu64 ((wu64 ((wu64 u0d)+r7d))+v8b)).fdiv (2^min (32:Int).toNat IntKind.u64.bits)) (by decide) rfl rfl rfl) ?_
                refine sV (Ab rfl) ?_
                refine wh h8a7<|Ai<|sV3 (Aa rfl) (AL (c:=wi64 (v6b+1)) rfl rfl rfl) (Ab rfl) ?_
                refine AE ?_
                exact ih3a7 _ _ ⟨((wu64 ((wu64 ((wu64 u0d)+r7d))+v8b)).fdiv (2^min (32:Int).toNat IntKind.u64.bits)),(wi64 (v6b+1)),(List.set v0f ((wi64 (v1a+v6b)):Int).toNat (wu32 (wu64 ((wu64 ((wu64 u0d)+r7d))+v8b)))),X9a9,X0aa,X1aa,ow6a9,ow3aa,ow2aa,f3a9,(Fr.mk (by kernel_rfl))⟩
               ·refine cf e7i<|wp_exit ?_
                simp only [Exit.then,Exit.inBlock,↓reduceIte,Nat.reduceEqDiff]
                obtain rfl:=sj f7a7
                exact ⟨_,rfl,X9o,X0p,X1p,ow5i,ow2p,ow6i,(Fr.mk (by kernel_rfl))⟩
             ·rintro _ w3c ⟨X4aa,X5aa,X6aa,ow7aa,ow8aa,ow9aa,⟨t4i,rfl⟩⟩ l'' hl
              simp only [gp,Nat.reduceAdd] at hl
              subst hl
              refine h9a6 _ _<|Ai<|sV3 (Aa rfl) (Aa rfl) (Bc (c:=wu64 (v9c - m4f.1)) rfl rfl rfl) ?_
              refine sV (Ab rfl) ?_
              refine AE ?_
              obtain rfl:=sj f2a7
              exact ⟨_,rfl,X4aa,X5aa,X6aa,ow7aa,ow8aa,ow9aa,(Fr.mk (by kernel_rfl))⟩
            ·rintro _ w3c ⟨X0ab,X1ab,X2ab,ow3ab,ow4ab,ow5ab,⟨t3i,rfl⟩⟩ l'' hl
             simp only [gp,Nat.reduceAdd] at hl
             subst hl
             exact ih0a6 _ _ ⟨m0c.1,m0c.2.1,m0c.2.2.1,m0c.2.2.2,X0ab,X1ab,X2ab,ow3ab,ow4ab,ow5ab,f6a6,(Fr.mk (by kernel_rfl))⟩
           ·refine cf e2i<|wp_exit ?_
            simp only [Exit.then,Exit.inBlock,↓reduceIte,Nat.reduceEqDiff]
            obtain rfl:=sj f4a6
            exact ⟨_,rfl,X0o,X1o,X2o,ow3o,ow4o,ow5o,(Fr.mk (by kernel_rfl))⟩
         ·rintro _ w2c ⟨X6ab,X7ab,X8ab,ow9ab,ow0j,ow0ac,⟨t0i,rfl⟩⟩ l'' hl
          simp only [gp,Nat.reduceAdd] at hl
          subst hl
          refine h7a5 _ _<|Ai<|sV3 (Aa rfl) (Aa rfl) (Aa rfl) ?_
          refine sV (AF (c:=wu32 m6d.1) AD AG rfl rfl) ?_
          obtain ⟨u5ag,h1ac,f2ac⟩:=Ac f9a5
          obtain ⟨bb72145,hA9p,hz6ag,ia0q,ib1q,hc72150⟩:=OW.nthc ow0j h1ac
          refine sV (As AJ Ao rfl rfl hA9p ia0q ib1q) ?_
          refine LC Ao rfl rfl ow0j hA9p ia0q (by rw [OW.len ow0j];exact ib1q) fun w3c B72151 U7ag ow3ac=>?_
          have X4ac:=xO X6ab B72151 X7l.size
          have X5ac:=xO X7ab B72151 X8l.size
          have X6ac:=xO X8ab B72151 X9l.size
          have ow7ac:=OW.bel2 ow0ac B72151 hl391
          have ow8ac:=OW.bel2 ow9ab B72151 hl392
          refine AE ?_
          obtain rfl:=sj f2ac
          exact ⟨_,rfl,X4ac,X5ac,X6ac,ow8ac,ow3ac,ow7ac,(Fr.mk (by kernel_rfl))⟩
       ·rintro _ w9 ⟨X9ac,X0ad,X1ad,ow2ad,ow3ad,ow4ad,⟨t2h,rfl⟩⟩ l'' hl
        simp only [gp,Nat.reduceAdd] at hl
        subst hl
        refine h2z _ _<|Ai<|sV3 (Aa rfl) (Bc (c:=wi64 (v1a - 1)) rfl rfl rfl) (Ab rfl) ?_
        refine AE ?_
        exact ih7y _ _ ⟨(wi64 (v1a - 1)),m2f.1,m2f.2,X9ac,X0ad,X1ad,ow2ad,ow3ad,ow4ad,f4z,(Fr.mk (by kernel_rfl))⟩
      ·refine cf e1h<|wp_exit ?_
       simp only [Exit.then,Exit.inBlock,↓reduceIte,Nat.reduceEqDiff]
       obtain rfl:=sj f1z
       exact ⟨_,rfl,X3m,X4m,X5m,ow6m,ow7m,ow0h,(Fr.mk (by kernel_rfl))⟩
    ·rintro _ w8 ⟨X2q,X5ad,X8ag,ow3q,ow4q,ow9ag,⟨t6e,rfl⟩⟩ l'' hl
     simp only [gp,Nat.reduceAdd] at hl
     subst hl
     refine h3y _ _<|ws fun h6ad=>Ai<|sV (Aa rfl) ?_
     refine scn f6y (Ad JM (by simp only [OW.len ow4q];rfl)) (Cr m5e.2 A7a (((wi64 ((wi64 ((x0.length:Int) - (x1.length:Int)))+1)):Int).toNat) w8 (tbx X2q hT) (OW.rl ow4q)) fun r5q f7ad w9 A1j c2j E6f n8ad=>?_
     have X6q:=xtr X2q E6f
     have X9ad:=xtr X5ad E6f
     refine sV (Aa rfl) ?_
     refine scn f7ad (Ad JM (by simp only [OW.len (ow3q.ext E6f)];rfl)) (Cr m5e.1 A5a c6a w9 (tbx X6q hT) (OW.rl (ow3q.ext E6f))) fun r0ae f1ae w9b A2ae c3ae E3j n4ae=>?_
     have X7q:=xtr X6q E3j
     have X5ae:=xtr X9ad E3j
     refine sV (Aa rfl) ?_
     refine scn f1ae (Ad Pd (by rfl)) (Hh r0ae (wi64 ((wi64 (32*(x1.length:Int))) - r1b)) A2ae c3ae w9b (tbx X7q hT) n4ae) fun r8q f6ae w2c A4j c5j E6j n7ae=>?_
     have X8ae:=xtr X7q E6j
     have X9ae:=xtr X5ae E6j
     refine sV (AR (vals:=[(0,.slice A1j r5q.length c2j),(1,.slice A4j r8q.length c5j)]) (cells:=[.slice A1j r5q.length c2j,.slice A4j r8q.length c5j]) (by rfl) (by kernel_rfl)) ?_
     have n7j:=((q2c.ext E1g).ext E5k).ext X9ae
     refine ss KC n7j fun w3c U8j q0af=>?_
     have X1af:=belU X8ae U8j g9b
     refine wh h6ad<|wp_ret ?_
     have n2af:=((n8ad.ext E3j).ext E6j).upd U8j n7j (by decide)
     have n3af:=n7ae.upd U8j n7j (by decide)
     exact Ej f6ae MW q0af X1af ⟨A1j,c2j,A4j,c5j,rfl,n2af,n3af⟩
end Go.Proofs.Lf

