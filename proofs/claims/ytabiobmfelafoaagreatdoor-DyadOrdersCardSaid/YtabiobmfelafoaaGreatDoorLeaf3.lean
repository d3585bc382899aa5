import Derived.Test.YtabiobmfelafoaaGreatDoorLeaf1
namespace Go.Proofs.Lf
set_option linter.unusedVariables false
set_option linter.unusedSimpArgs false
set_option maxHeartbeats 4000000
open Go.RowKit Go.Sb Go.Proofs Go.Proofs.Sbn
set_option maxRecDepth 20000 in
theorem EU (x0:List Int) (x1:List Int) (A1:Option Addr) (c2:Nat) (A4:Option Addr) (c5:Nat) (w:World) (hT:TB w) (n3:RLu w A1 c2 x0) (n6:RLu w A4 c5 x1) (r:CD) (hr:Bi x0 x1=some r) :
  Calls Tryz.prog 149 #[.slice A1 x0.length c2,.slice A4 x1.length c5] w (Ret Oy w r):=by
 unfold Bi at hr
 refine Mp Tryz.func149 rfl [.slice A1 x0.length c2,.slice A4 x1.length c5,uu,uu,uu,uu,uu,uu,uu,uu,uu,uu,uu,uu,uu,uu,uu,uu,uu,uu,uu,uu,uu,uu,uu,uu,uu,uu,uu,uu,uu,uu,uu,uu,uu,uu,uu,uu,uu,uu,uu,uu,uu,uu,uu,uu,uu,uu,uu,uu,uu,uu,uu,uu,uu,uu,uu,uu,uu,uu,uu,uu,uu,uu,uu,uu,uu,uu,uu,uu,uu,uu,uu,uu,uu,uu,uu,uu,uu,uu,uu,uu,uu,uu,uu,uu,uu,uu,uu,uu,uu,uu,uu,uu,uu,uu,uu,uu,uu,uu,uu,uu,uu,uu,uu,uu,uu,uu,uu,uu,uu,uu,uu,uu,uu,uu,uu,uu,uu,uu,uu,uu,uu,uu,uu,uu,uu,uu,uu,uu,uu,uu,uu,uu,uu,uu,uu,uu,uu,uu,uu,uu,uu,uu,uu,uu,uu,uu,uu,uu,uu,uu,uu,uu,uu,uu,uu,uu,uu,uu,uu,uu,uu,uu,uu,uu,uu,uu,uu,uu,uu,uu,uu,uu,uu,uu] (by kernel_rfl) ?_
 refine wp_seq_k fun _ h7=>Ae<|AA Np fun b8 w1 E9 g2c q5b=>?_
 refine nrm ?_
 refine wh h7<|wp_seq_k fun _ h5c=>wp_seq_k fun _ h8f=>Ae<|sV2 (Aa rfl) (Ax AH rfl) ?_
 refine sb (Bl rfl rfl) fun z9f hz9f=>?_
 refine nrm ?_
 refine wh h8f ?_
 rcases zi hz9f hr with ⟨e0g,_,f6q⟩ | ⟨e0g,_,f7q⟩
 ·refine wp_cond_true (Ai (evb rfl e0g))<|wp_seq_k fun _ h8q=>Ae<|sV2 (Aa rfl) (Aa rfl) ?_
  obtain ⟨u9q,h0r,f1r⟩:=Ab f6q
  obtain ⟨bb72213,oo72214,hA2r,ia3r,ib4r,hc72216⟩:=RL.nth (n6.ext E9) h0r
  refine sV2 (As AH An rfl rfl hA2r ia3r ib4r) (Af AQ rfl hc72216) ?_
  obtain ⟨r5r,h6r,f7r⟩:=Ab f1r
  refine sc (Ad en_211 (by rfl)) (c_sorobanref01_short x0 u9q A1 c2 w1 (tbx E9 hT) (n3.ext E9) r5r h6r) ?_
  rintro _ w2 E9e ⟨A8r,c9r,A0s,c1s,rfl,n2s,n3s⟩
  refine nrm ?_
  have X4s:=xtr E9 E9e
  refine ss LQ (q5b.ext E9e) fun w3 U1g q5s=>?_
  have X6s:=belU X4s U1g g2c
  refine wh h8q<|wp_ret ?_
  have n7s:=n2s.upd U1g (q5b.ext E9e) (by decide)
  have n8s:=n3s.upd U1g (q5b.ext E9e) (by decide)
  obtain rfl:=sj f7r
  exact fin rfl (Res.cellN rfl No q5s rfl rfl Res.nil) (Aj X6s ⟨A8r,c9r,A0s,c1s,rfl,n7s,n8s⟩)
 ·refine wp_cond_false (Ai (evb rfl e0g))<|wp_skip<|h5c _ _<|wp_seq_k fun _ h9s=>wp_seq_k fun _ h0t=>Ae<|sV2 (Aa rfl) (Aa rfl) ?_
  obtain ⟨r1t,h2t,f3t⟩:=Ab f7q
  refine sc (Ad Mw (by rfl)) (Ed x0 x1 A1 c2 A4 c5 w1 (tbx E9 hT) (n3.ext E9) (n6.ext E9) r1t h2t) ?_
  rintro _ w2 E0f rfl
  refine nrm ?_
  have X4d:=xtr E9 E0f
  refine sb (Cj rfl rfl) fun z3k hz3k=>?_
  refine nrm ?_
  refine wh h0t ?_
  rcases zi hz3k f3t with ⟨e2g,_,f4t⟩ | ⟨e2g,_,f5t⟩
  ·refine wp_cond_true (Ai (evb rfl e2g))<|wp_seq_k fun _ h6t=>Ae<|sV (Aa rfl) ?_
   obtain ⟨r3g,h7t,f8t⟩:=Ab f4t
   refine sc (Ad JK (by rfl)) (Ce x0 A1 c2 w2 (tbx X4d hT) (n3.ext X4d) r3g h7t) ?_
   rintro _ w3 E4g ⟨A5g,c6g,rfl,n9t⟩
   refine nrm ?_
   have X0u:=xtr X4d E4g
   refine sV (Bb (vals:=[(1,.slice A5g r3g.length c6g)]) (cells:=[.slice none 0 0,.slice A5g r3g.length c6g]) (by rfl) (by kernel_rfl)) ?_
   refine ss LQ ((q5b.ext E0f).ext E4g) fun w4 U4k q1u=>?_
   have X2u:=belU X0u U4k g2c
   refine wh h6t<|wp_ret ?_
   have n3u:=n9t.upd U4k ((q5b.ext E0f).ext E4g) (by decide)
   obtain rfl:=sj f8t
   exact fin rfl (Res.cellN rfl No q1u rfl rfl Res.nil) (Aj X2u ⟨none,0,A5g,c6g,rfl,(RL.nil _ _ _),n3u⟩)
  ·refine wp_cond_false (Ai (evb rfl e2g))<|wp_skip<|h9s _ _<|wp_seq_k fun _ h4u=>Ae<|sV3 (Aa rfl) (Ax AH rfl) (Ac rfl) ?_
   refine wh h4u<|wp_seq_k fun _ h5u=>Ae<|sV3 (Aa rfl) (Jq (c:=wi64 (32*(x1.length:Int))) rfl rfl rfl) (Aa rfl) ?_
   obtain ⟨r1b,h6u,f7u⟩:=Ab f5t
   refine sc (Ad OX (by rfl)) (GE x1 A4 c5 w2 (tbx X4d hT) (n6.ext X4d) r1b h6u) ?_
   rintro _ w3 E5k rfl
   refine nrm ?_
   have X7g:=xtr X4d E5k
   refine sV2 (Ba (c:=wi64 ((wi64 (32*(x1.length:Int))) - r1b)) rfl rfl rfl) (Ac rfl) ?_
   refine wh h5u<|wp_seq_k fun _ h8u=>Ae<|sV2 (Aa rfl) (Aa rfl) ?_
   obtain ⟨r0a,h9u,f0v⟩:=Ab f7u
   refine sc (Ad Mz (by rfl)) (Jb x1 (wi64 ((wi64 (32*(x1.length:Int))) - r1b)) A4 c5 w3 (tbx X7g hT) (n6.ext X7g) r0a h9u) ?_
   rintro _ w4 E7d ⟨A2a,c3a,rfl,n6k⟩
   refine nrm ?_
   have X5d:=xtr X7g E7d
   refine sV (Ac rfl) ?_
   refine wh h8u<|wp_seq_k fun _ h1v=>Ae<|sV2 (Aa rfl) (Aa rfl) ?_
   obtain ⟨r7k,h2v,f3v⟩:=Ab f0v
   have hl105:=OW.lt n6k
   refine sc (Ad Mz (by rfl)) (Jb x0 (wi64 ((wi64 (32*(x1.length:Int))) - r1b)) A1 c2 w4 (tbx X5d hT) (n3.ext X5d) r7k h2v) ?_
   rintro _ w5 E1f ⟨A4v,c5v,rfl,n6v⟩
   refine nrm ?_
   have X7v:=xtr X5d E1f
   have X8v:=xtr E7d E1f
   refine sV (Ac rfl) ?_
   refine wh h1v<|wp_seq_k fun _ h9v=>?_
   obtain ⟨m4a,h0w,f1w⟩:=Ab f3v
   refine BX (fun l l' w'=>∃(A5a:Option Addr) (c6a:Nat),Ext w w'∧Ext w3 w'∧Ext w4 w'∧OW 179 w4.heap.size w' A5a m4a.length c6a m4a∧OW 179 w3.heap.size w' A2a r0a.length c3a r0a∧Fr l' (fun t8g=>.slice A1 x0.length c2::gp t8g 1 3 (.pointer (some ⟨b8,0,none⟩)::.int .i64 (x1.length:Int)::.int .i64 (wi64 ((wi64 (32*(x1.length:Int))) - r1b))::.slice A2a r0a.length c3a::.slice A5a m4a.length c6a::gp t8g 9 167 []))) ?_ ?_
   ·apply wp_block
    refine AP (fun l n8k l' w'=>∃(v6c:List Int) (A8d:Option Addr) (c9d:Nat),Ext w w'∧Ext w3 w'∧Ext w4 w'∧OW 179 w4.heap.size w' A8d v6c.length c9d v6c∧OW 179 w3.heap.size w' A2a r0a.length c3a r0a∧Dr x0 x1 n8k v6c=some m4a∧Fr l' (fun t9g=>.slice A1 x0.length c2::gp t9g 1 3 (.pointer (some ⟨b8,0,none⟩)::.int .i64 (x1.length:Int)::.int .i64 (wi64 ((wi64 (32*(x1.length:Int))) - r1b))::.slice A2a r0a.length c3a::.slice A8d v6c.length c9d::gp t9g 9 167 []))) 18446744073709551616 ?_ ?_ ?_
    ·exact ⟨r7k,A4v,c5v,X7v,X8v,E1f,(OW.nn n6v),(n6k.ext E1f),h0w,(Fr.mk (by kernel_rfl))⟩
    ·rintro l' w' ⟨v6c,A8d,c9d,_,_,_,_,_,hz,_⟩
     exact nomatch hz
    ·rintro n8k ih2w _ w6 ⟨v6c,A8d,c9d,X9k,X0l,X1l,ow2l,ow3l,hr4l,⟨t9g,rfl⟩⟩ l'' hl
     simp only [gp,Nat.reduceAdd] at hl
     subst hl
     unfold Dr at hr4l
     refine AV<|wp_seq_k fun _ h3w=>wp_seq_k fun _ h4w=>Ae<|sV3 (Aa rfl) (Ax AH rfl) (Aa rfl) ?_
     refine sV (Ax AH rfl) ?_
     refine sb (Ie rfl rfl) fun z5l hz5l=>?_
     refine nrm ?_
     refine wh h4w ?_
     rcases zi hz5l hr4l with ⟨e0h,_,f5w⟩ | ⟨e0h,_,f6w⟩
     ·refine wp_cond_true (Ai (evb rfl e0h))<|wp_skip<|h3w _ _ ?_
      apply wp_block
      refine Ae<|sV (Aa rfl) ?_
      refine Cv (vals:=[(0,.int .u32 0)]) (cs:=[.int .u32 0]) AH An Ge (by rfl) (by decide) (by kernel_rfl) fun b7w w7 E0e g3ag q8w=>?_
      refine nrm ?_
      have X9w:=xtr X9k E0e
      have X0x:=xtr X0l E0e
      have X6l:=xtr X1l E0e
      have n1x:RLu w7 (some ⟨b7w,0,none⟩) 1 [0]:=(OW.lit (n0:=0) (n:=1) (xs:=[0]) q8w (Nat.zero_le _) rfl (by decide)).rl
      obtain ⟨_,h2x,f3x⟩:=Ab f5w
      have gd378:=Az h2x
      refine Jf AH CJ rfl rfl rfl (ow2l.ext E0e) n1x gd378 X6l.size fun A4x c5x w8 B381 ow6x=>?_
      refine nrm ?_
      have X7x:=xO X9w B381 X5d.size
      have X8x:=xO X0x B381 E7d.size
      have X9x:=xO X6l B381 (Nat.le_refl _)
      have ow0y:=OW.bel2 (ow3l.ext E0e) B381 hl105
      refine sV (Ac rfl) ?_
      refine AG ?_
      exact ih2w _ _ ⟨(v6c++([0]:List Int)),A4x,c5x,X7x,X8x,X9x,(OW.nn ow6x),ow0y,f3x,(Fr.mk (by kernel_rfl))⟩
     ·refine wp_cond_false (Ai (evb rfl e0h))<|wp_exit ?_
      simp only [Exit.then,Exit.inBlock,↓reduceIte,Nat.reduceEqDiff]
      obtain rfl:=sj f6w
      exact ⟨_,rfl,A8d,c9d,X9k,X0l,X1l,(OW.nn ow2l),ow3l,(Fr.mk (by kernel_rfl))⟩
   ·rintro _ w6 ⟨A5a,c6a,X7l,X8l,X9l,ow0m,ow1m,⟨t8g,rfl⟩⟩ l'' hl
    simp only [gp,Nat.reduceAdd] at hl
    subst hl
    refine h9v _ _<|wp_seq_k fun _ h1y=>Ae<|sV3 (Aa rfl) (Ax AH rfl) (Aa rfl) ?_
    refine sV2 (Ba (c:=wi64 ((x0.length:Int) - (x1.length:Int))) rfl rfl rfl) (AM (c:=wi64 ((wi64 ((x0.length:Int) - (x1.length:Int)))+1)) rfl rfl rfl) ?_
    obtain ⟨_,h2y,f3y⟩:=Ab f1w
    have gd390:=Az h2y
    have hl391:=OW.lt ow1m
    have hl392:=OW.lt ow0m
    refine GV AH CJ rfl rfl gd390 fun A7a w7 E1e ow4y=>?_
    refine nrm ?_
    have X5y:=xtr X7l E1e
    have X6y:=xtr X8l E1e
    have X7y:=xtr X9l E1e
    refine sV (Ac rfl) ?_
    refine wh h1y<|wp_seq_k fun _ h8y=>wp_seq_k fun _ h9y=>Ae<|sV3 (Aa rfl) (Ax AH rfl) (Aa rfl) ?_
    refine sV2 (Ba (c:=wi64 ((x0.length:Int) - (x1.length:Int))) rfl rfl rfl) (Ac rfl) ?_
    refine wh h9y ?_
    obtain ⟨m2e,h0z,f1z⟩:=Ab f3y
    refine BX (fun l l' w'=>Ext w w'∧Ext w3 w'∧Ext w4 w'∧OW 179 w4.heap.size w' A5a m4a.length c6a m2e.1∧OW 179 w6.heap.size w' A7a (((wi64 ((wi64 ((x0.length:Int) - (x1.length:Int)))+1)):Int).toNat) (((wi64 ((wi64 ((x0.length:Int) - (x1.length:Int)))+1)):Int).toNat) m2e.2∧OW 179 w3.heap.size w' A2a r0a.length c3a r0a∧Fr l' (fun t3e=>gp t3e 0 4 (.pointer (some ⟨b8,0,none⟩)::gp t3e 5 1 (.int .i64 (wi64 ((wi64 (32*(x1.length:Int))) - r1b))::gp t3e 7 1 (.slice A5a m4a.length c6a::.slice A7a (((wi64 ((wi64 ((x0.length:Int) - (x1.length:Int)))+1)):Int).toNat) (((wi64 ((wi64 ((x0.length:Int) - (x1.length:Int)))+1)):Int).toNat)::gp t3e 10 166 []))))) ?_ ?_
    ·apply wp_block
     refine AP (fun l n2m l' w'=>∃(v1a:Int) (v4e:List Int) (v4b:List Int),Ext w w'∧Ext w3 w'∧Ext w4 w'∧OW 179 w4.heap.size w' A5a m4a.length c6a v4e∧OW 179 w6.heap.size w' A7a (((wi64 ((wi64 ((x0.length:Int) - (x1.length:Int)))+1)):Int).toNat) (((wi64 ((wi64 ((x0.length:Int) - (x1.length:Int)))+1)):Int).toNat) v4b∧OW 179 w3.heap.size w' A2a r0a.length c3a r0a∧Dt x0 x1 r0a n2m v1a v4e v4b=some m2e∧Fr l' (fun t1h=>gp t1h 0 4 (.pointer (some ⟨b8,0,none⟩)::.int .i64 (x1.length:Int)::.int .i64 (wi64 ((wi64 (32*(x1.length:Int))) - r1b))::.slice A2a r0a.length c3a::.slice A5a m4a.length c6a::.slice A7a (((wi64 ((wi64 ((x0.length:Int) - (x1.length:Int)))+1)):Int).toNat) (((wi64 ((wi64 ((x0.length:Int) - (x1.length:Int)))+1)):Int).toNat)::.int .i64 v1a::gp t1h 11 165 []))) 18446744073709551616 ?_ ?_ ?_
     ·exact ⟨(wi64 ((x0.length:Int) - (x1.length:Int))),m4a,(List.replicate ((wi64 ((wi64 ((x0.length:Int) - (x1.length:Int)))+1)):Int).toNat (0:Int)),X5y,X6y,X7y,(ow0m.ext E1e),ow4y,(ow1m.ext E1e),h0z,(Fr.mk (by kernel_rfl))⟩
     ·rintro l' w' ⟨v1a,v4e,v4b,_,_,_,_,_,_,hz,_⟩
      exact nomatch hz
     ·rintro n2m ih2z _ w8 ⟨v1a,v4e,v4b,X3m,X4m,X5m,ow2f,ow6m,ow2h,hr7m,⟨t1h,rfl⟩⟩ l'' hl
      simp only [gp,Nat.reduceAdd] at hl
      subst hl
      unfold Dt at hr7m
      refine AV<|wp_seq_k fun _ h3z=>wp_seq_k fun _ h4z=>Ae<|sV (Aa rfl) ?_
      refine sb (Fu rfl rfl) fun z8m hz8m=>?_
      refine nrm ?_
      refine wh h4z ?_
      rcases zi hz8m hr7m with ⟨e3h,_,f5z⟩ | ⟨e3h,_,f6z⟩
      ·refine wp_cond_true (Ai (evb rfl e3h))<|wp_skip<|h3z _ _<|wp_seq_k fun _ h7z=>?_
       obtain ⟨m3f,h8z,f9z⟩:=Ab f5z
       refine BX (fun l l' w'=>Ext w w'∧Ext w3 w'∧Ext w4 w'∧OW 179 w4.heap.size w' A5a m4a.length c6a m3f.1∧OW 179 w6.heap.size w' A7a (((wi64 ((wi64 ((x0.length:Int) - (x1.length:Int)))+1)):Int).toNat) (((wi64 ((wi64 ((x0.length:Int) - (x1.length:Int)))+1)):Int).toNat) m3f.2∧OW 179 w3.heap.size w' A2a r0a.length c3a r0a∧Fr l' (fun t4h=>gp t4h 0 4 (.pointer (some ⟨b8,0,none⟩)::.int .i64 (x1.length:Int)::.int .i64 (wi64 ((wi64 (32*(x1.length:Int))) - r1b))::.slice A2a r0a.length c3a::.slice A5a m4a.length c6a::.slice A7a (((wi64 ((wi64 ((x0.length:Int) - (x1.length:Int)))+1)):Int).toNat) (((wi64 ((wi64 ((x0.length:Int) - (x1.length:Int)))+1)):Int).toNat)::.int .i64 v1a::gp t4h 11 165 []))) ?_ ?_
       ·apply wp_block
        refine wp_seq_k fun _ h0a0=>Dn [] 26 mo rfl fun w9 E8b S5h=>have X1a0:=xtr X3m E8b;have X2a0:=xtr X4m E8b;have X3a0:=xtr X5m E8b;dA 0 rfl (fun _=>Aa rfl) ?_
        refine dA 1 rfl (fun _=>Aa rfl) ?_
        refine dA 2 rfl (fun _=>Aa rfl) ?_
        refine dA 3 rfl (fun _=>AM (c:=wi64 (v1a+(x1.length:Int))) rfl rfl rfl) ?_
        obtain ⟨u8a,h4a0,f5a0⟩:=Ab h8z
        obtain ⟨bb66212,hA6a0,hz4ag,ia7a0,ib8a0,hc66217⟩:=OW.nthc (ow2f.ext E8b) h4a0
        refine dA 4 rfl (fun _=>As AH An rfl rfl hA6a0 ia7a0 ib8a0) ?_
        refine dV 5 rfl (fun _ hw=>Af AQ rfl (CA hc66217 hw)) S5h ?_
        refine dA 6 rfl (fun _=>AE (c:=wu64 u8a) AF AD rfl rfl) ?_
        refine dA 7 rfl (fun _=>JF (c:=wu64 ((wu64 u8a)*2^min (32:Int).toNat IntKind.u64.bits)) (by decide) rfl rfl rfl) ?_
        refine dA 8 rfl (fun _=>Aa rfl) ?_
        refine dA 9 rfl (fun _=>Aa rfl) ?_
        refine dA 10 rfl (fun _=>Aa rfl) ?_
        refine dA 11 rfl (fun _=>AM (c:=wi64 (v1a+(x1.length:Int))) rfl rfl rfl) ?_
        refine dA 12 rfl (fun _=>Ba (c:=wi64 ((wi64 (v1a+(x1.length:Int))) - 1)) rfl rfl rfl) ?_
        obtain ⟨u9a,h9a0,f0a1⟩:=Ab f5a0
        obtain ⟨bb66221,hA1a1,hz5ag,ia2a1,ib3a1,hc66226⟩:=OW.nthc (ow2f.ext E8b) h9a0
        refine dA 13 rfl (fun _=>As AH An rfl rfl hA1a1 ia2a1 ib3a1) ?_
        refine dV 14 rfl (fun _ hw=>Af AQ rfl (CA hc66226 hw)) S5h ?_
        refine dA 15 rfl (fun _=>AE (c:=wu64 u9a) AF AD rfl rfl) ?_
        refine dA 16 rfl (fun _=>AM (c:=wu64 ((wu64 ((wu64 u8a)*2^min (32:Int).toNat IntKind.u64.bits))+(wu64 u9a))) rfl rfl rfl) ?_
        refine dA 17 rfl (fun _=>Aa rfl) ?_
        refine dA 18 rfl (fun _=>Aa rfl) ?_
        refine dA 19 rfl (fun _=>Ba (c:=wi64 ((x1.length:Int) - 1)) rfl rfl rfl) ?_
        obtain ⟨u0b,h4a1,f5a1⟩:=Ab f0a1
        obtain ⟨bb66230,hA6a1,hz6ag,ia7a1,ib8a1,hc66235⟩:=OW.nthc (ow2h.ext E8b) h4a1
        refine dA 20 rfl (fun _=>As AH An rfl rfl hA6a1 ia7a1 ib8a1) ?_
        refine dV 21 rfl (fun _ hw=>Af AQ rfl (CA hc66235 hw)) S5h ?_
        refine dA 22 rfl (fun _=>AE (c:=wu64 u0b) AF AD rfl rfl) ?_
        obtain ⟨_,h9a1,f0a2⟩:=Ab f5a1
        have gd66238:=Az h9a1
        refine dA 23 rfl (fun _=>Hj (c:=wu64 ((wu64 ((wu64 ((wu64 u8a)*2^min (32:Int).toNat IntKind.u64.bits))+(wu64 u9a))).tdiv (wu64 u0b))) (decide_eq_true gd66238) rfl rfl rfl) ?_
        refine dA 24 rfl (fun _=>Oc rfl rfl) ?_
        refine dA 25 rfl (fun _=>Ac rfl) ?_
        refine Cn (by kernel_rfl) ?_
        refine h0a0 _ _<|wp_seq_k fun _ h1a2=>Ae<|sV (Ac rfl) ?_
        refine wh h1a2<|wp_seq_k fun _ h2a2=>Ae<|sV (Ac rfl) ?_
        refine wh h2a2<|wp_seq_k fun _ h3a2=>wp_seq_k fun _ h4a2=>Ae<|sV (Ac rfl) ?_
        refine wh h4a2 ?_
        obtain ⟨m7c,h5a2,f6a2⟩:=Ab f0a2
        refine BX (fun l l' w'=>Ext w w'∧Ext w3 w'∧Ext w4 w'∧OW 179 w4.heap.size w' A5a m4a.length c6a m7c.2.2∧OW 179 w6.heap.size w' A7a (((wi64 ((wi64 ((x0.length:Int) - (x1.length:Int)))+1)):Int).toNat) (((wi64 ((wi64 ((x0.length:Int) - (x1.length:Int)))+1)):Int).toNat) v4b∧OW 179 w3.heap.size w' A2a r0a.length c3a r0a∧Fr l' (fun t6h=>gp t6h 0 4 (.pointer (some ⟨b8,0,none⟩)::.int .i64 (x1.length:Int)::.int .i64 (wi64 ((wi64 (32*(x1.length:Int))) - r1b))::.slice A2a r0a.length c3a::.slice A5a m4a.length c6a::.slice A7a (((wi64 ((wi64 ((x0.length:Int) - (x1.length:Int)))+1)):Int).toNat) (((wi64 ((wi64 ((x0.length:Int) - (x1.length:Int)))+1)):Int).toNat)::.int .i64 v1a::.int .u64 (min (wu64 ((wu64 ((wu64 ((wu64 u8a)*2^min (32:Int).toNat IntKind.u64.bits))+(wu64 u9a))).tdiv (wu64 u0b))) 4294967295)::.int .u64 m7c.1::.int .u64 m7c.2.1::gp t6h 14 162 []))) ?_ ?_
        ·apply wp_block
         refine AP (fun l n9m l' w'=>∃(v2b:Int) (v9b:Int) (v6b:Int) (v5e:List Int),Ext w w'∧Ext w3 w'∧Ext w4 w'∧OW 179 w4.heap.size w' A5a m4a.length c6a v5e∧OW 179 w6.heap.size w' A7a (((wi64 ((wi64 ((x0.length:Int) - (x1.length:Int)))+1)):Int).toNat) (((wi64 ((wi64 ((x0.length:Int) - (x1.length:Int)))+1)):Int).toNat) v4b∧OW 179 w3.heap.size w' A2a r0a.length c3a r0a∧CO x0 x1 r0a v1a u8a u9a u0b n9m v2b v9b v6b v5e=some m7c∧Fr l' (fun t7h=>gp t7h 0 4 (.pointer (some ⟨b8,0,none⟩)::.int .i64 (x1.length:Int)::.int .i64 (wi64 ((wi64 (32*(x1.length:Int))) - r1b))::.slice A2a r0a.length c3a::.slice A5a m4a.length c6a::.slice A7a (((wi64 ((wi64 ((x0.length:Int) - (x1.length:Int)))+1)):Int).toNat) (((wi64 ((wi64 ((x0.length:Int) - (x1.length:Int)))+1)):Int).toNat)::.int .i64 v1a::.int .u64 (min (wu64 ((wu64 ((wu64 ((wu64 u8a)*2^min (32:Int).toNat IntKind.u64.bits))+(wu64 u9a))).tdiv (wu64 u0b))) 4294967295)::.int .u64 v2b::.int .u64 v9b::.int .i64 v6b::gp t7h 15 161 []))) 18446744073709551616 ?_ ?_ ?_
         ·exact ⟨0,0,0,v4e,X1a0,X2a0,X3a0,(ow2f.ext E8b),(ow6m.ext E8b),(ow2h.ext E8b),h5a2,(Fr.mk (by kernel_rfl))⟩
         ·rintro l' w' ⟨v2b,v9b,v6b,v5e,_,_,_,_,_,_,hz,_⟩
          exact nomatch hz
         ·rintro n9m ih7a2 _ w2c ⟨v2b,v9b,v6b,v5e,X8h,X0n,X1n,ow6e,ow2n,ow9h,hr3n,⟨t7h,rfl⟩⟩ l'' hl
          simp only [gp,Nat.reduceAdd] at hl
          subst hl
          unfold CO at hr3n
          refine AV<|wp_seq_k fun _ h8a2=>wp_seq_k fun _ h9a2=>Ae<|sV2 (Aa rfl) (Aa rfl) ?_
          refine sb (Ie rfl rfl) fun z4n hz4n=>?_
          refine nrm ?_
          refine wh h9a2 ?_
          rcases zi hz4n hr3n with ⟨e0i,_,f0a3⟩ | ⟨e0i,_,f1a3⟩
          ·refine wp_cond_true (Ai (evb rfl e0i))<|wp_skip<|h8a2 _ _<|wp_seq_k fun _ h2a3=>?_
           apply wp_block
           refine wp_seq_k fun _ h3a3=>Ae<|sV2 (Aa rfl) (Aa rfl) ?_
           obtain ⟨r3b,h4a3,f5a3⟩:=Ab f0a3
           refine sc (Ad IM (by rfl)) (BI r0a v6b A2a c3a w2c (tbx X8h hT) (OW.rl ow9h) r3b h4a3) ?_
           rintro _ w5b E0c rfl
           refine nrm ?_
           have X6a3:=xtr X8h E0c
           have X7a3:=xtr X0n E0c
           have X8a3:=xtr X1n E0c
           refine sV3 (Aa rfl) (Jq (c:=wu64 (r3b*(min (wu64 ((wu64 ((wu64 ((wu64 u8a)*2^min (32:Int).toNat IntKind.u64.bits))+(wu64 u9a))).tdiv (wu64 u0b))) 4294967295))) rfl rfl rfl) (Aa rfl) ?_
           refine sV2 (AM (c:=wu64 ((wu64 (r3b*(min (wu64 ((wu64 ((wu64 ((wu64 u8a)*2^min (32:Int).toNat IntKind.u64.bits))+(wu64 u9a))).tdiv (wu64 u0b))) 4294967295)))+v2b)) rfl rfl rfl) (Ac rfl) ?_
           refine wh h3a3<|wp_seq_k fun _ h9a3=>Ae<|sV2 (Aa rfl) (GS (c:=(wu64 ((wu64 (r3b*(min (wu64 ((wu64 ((wu64 ((wu64 u8a)*2^min (32:Int).toNat IntKind.u64.bits))+(wu64 u9a))).tdiv (wu64 u0b))) 4294967295)))+v2b)).fdiv (2^min (32:Int).toNat IntKind.u64.bits)) (by decide) rfl rfl rfl) ?_
           refine sV (Ac rfl) ?_
           refine wh h9a3<|wp_seq_k fun _ h0a4=>Ae<|sV3 (Aa rfl) (Aa rfl) (Aa rfl) ?_
           refine sV (AM (c:=wi64 (v1a+v6b)) rfl rfl rfl) ?_
           obtain ⟨u8c,h1a4,f2a4⟩:=Ab f5a3
           obtain ⟨bb66618,hA3a4,hz7ag,ia4a4,ib5a4,hc66623⟩:=OW.nthc (ow6e.ext E0c) h1a4
           refine sV3 (As AH An rfl rfl hA3a4 ia4a4 ib5a4) (Af AQ rfl hc66623) (AE (c:=wu64 u8c) AF AD rfl rfl) ?_
           refine sV3 (Aa rfl) (AE (c:=wu32 (wu64 ((wu64 (r3b*(min (wu64 ((wu64 ((wu64 ((wu64 u8a)*2^min (32:Int).toNat IntKind.u64.bits))+(wu64 u9a))).tdiv (wu64 u0b))) 4294967295)))+v2b))) AD AF rfl rfl) (AE (c:=wu64 (wu32 (wu64 ((wu64 (r3b*(min (wu64 ((wu64 ((wu64 ((wu64 u8a)*2^min (32:Int).toNat IntKind.u64.bits))+(wu64 u9a))).tdiv (wu64 u0b))) 4294967295)))+v2b)))) AF AD rfl rfl) ?_
           refine sV3 (Ba (c:=wu64 ((wu64 u8c) - (wu64 (wu32 (wu64 ((wu64 (r3b*(min (wu64 ((wu64 ((wu64 ((wu64 u8a)*2^min (32:Int).toNat IntKind.u64.bits))+(wu64 u9a))).tdiv (wu64 u0b))) 4294967295)))+v2b)))))) rfl rfl rfl) (Aa rfl) (Ba (c:=wu64 ((wu64 ((wu64 u8c) - (wu64 (wu32 (wu64 ((wu64 (r3b*(min (wu64 ((wu64 ((wu64 ((wu64 u8a)*2^min (32:Int).toNat IntKind.u64.bits))+(wu64 u9a))).tdiv (wu64 u0b))) 4294967295)))+v2b)))))) - v9b)) rfl rfl rfl) ?_
           refine sV (Ac rfl) ?_
           refine wh h0a4<|wp_seq_k fun _ h6a4=>Ae<|sV3 (Aa rfl) (Aa rfl) (Aa rfl) ?_
           refine sV3 (AM (c:=wi64 (v1a+v6b)) rfl rfl rfl) (Aa rfl) (AE (c:=wu32 (wu64 ((wu64 ((wu64 u8c) - (wu64 (wu32 (wu64 ((wu64 (r3b*(min (wu64 ((wu64 ((wu64 ((wu64 u8a)*2^min (32:Int).toNat IntKind.u64.bits))+(wu64 u9a))).tdiv (wu64 u0b))) 4294967295)))+v2b)))))) - v9b))) AD AF rfl rfl) ?_
           obtain ⟨u8ag,h7a4,f8a4⟩:=Ab f2a4
           obtain ⟨bb66628,hA1i,hz9a4,ia5n,ib6n,hc66633⟩:=OW.nthc (ow6e.ext E0c) h7a4
           refine sV (As AH An rfl rfl hA1i ia5n ib6n) ?_
           refine KP An rfl rfl (ow6e.ext E0c) hA1i ia5n (by rw [OW.len (ow6e.ext E0c)];exact ib6n) fun w5c B66634 U0a5 ow1a5=>?_
           have X2a5:=xO X6a3 B66634 X5d.size
           have X3a5:=xO X7a3 B66634 E7d.size
           have X4a5:=xO X8a3 B66634 (Nat.le_refl _)
           have ow5a5:=OW.bel2 (ow9h.ext E0c) B66634 hl105
           have ow6a5:=OW.updO (ow2n.ext E0c) U0a5 (hl392 _ hA1i hz9a4)
           refine wh h6a4<|Ae<|sV2 (Aa rfl) (GS (c:=(wu64 ((wu64 ((wu64 u8c) - (wu64 (wu32 (wu64 ((wu64 (r3b*(min (wu64 ((wu64 ((wu64 ((wu64 u8a)*2^min (32:Int).toNat IntKind.u64.bits))+(wu64 u9a))).tdiv (wu64 u0b))) 4294967295)))+v2b)))))) - v9b)).fdiv (2^min (63:Int).toNat IntKind.u64.bits)) (by decide) rfl rfl rfl) ?_
           refine sV (Ac rfl) ?_
           refine wh h2a3<|Ae<|sV3 (Aa rfl) (AM (c:=wi64 (v6b+1)) rfl rfl rfl) (Ac rfl) ?_
           refine AG ?_
           exact ih7a2 _ _ ⟨((wu64 ((wu64 (r3b*(min (wu64 ((wu64 ((wu64 ((wu64 u8a)*2^min (32:Int).toNat IntKind.u64.bits))+(wu64 u9a))).tdiv (wu64 u0b))) 4294967295)))+v2b)).fdiv (2^min (32:Int).toNat IntKind.u64.bits)),((wu64 ((wu64 ((wu64 u8c) - (wu64 (wu32 (wu64 ((wu64 (r3b*(min (wu64 ((wu64 ((wu64 ((wu64 u8a)*2^min (32:Int).toNat IntKind.u64.bits))+(wu64 u9a))).tdiv (wu64 u0b))) 4294967295)))+v2b)))))) - v9b)).fdiv (2^min (63:Int).toNat IntKind.u64.bits)),(wi64 (v6b+1)),(List.set v5e ((wi64 (v1a+v6b)):Int).toNat (wu32 (wu64 ((wu64 ((wu64 u8c) - (wu64 (wu32 (wu64 ((wu64 (r3b*(min (wu64 ((wu64 ((wu64 ((wu64 u8a)*2^min (32:Int).toNat IntKind.u64.bits))+(wu64 u9a))).tdiv (wu64 u0b))) 4294967295)))+v2b)))))) - v9b)))),X2a5,X3a5,X4a5,ow1a5,ow6a5,ow5a5,f8a4,(Fr.mk (by kernel_rfl))⟩
          ·refine wp_cond_false (Ai (evb rfl e0i))<|wp_exit ?_
           simp only [Exit.then,Exit.inBlock,↓reduceIte,Nat.reduceEqDiff]
           obtain rfl:=sj f1a3
           exact ⟨_,rfl,X8h,X0n,X1n,ow6e,ow2n,ow9h,(Fr.mk (by kernel_rfl))⟩
        ·rintro _ w2c ⟨X7a5,X8a5,X9a5,ow0a6,ow1a6,ow2a6,⟨t6h,rfl⟩⟩ l'' hl
         simp only [gp,Nat.reduceAdd] at hl
         subst hl
         refine h3a2 _ _<|wp_seq_k fun _ h3a6=>?_
         obtain ⟨m6d,h4a6,f5a6⟩:=Ab f6a2
         refine BX (fun l l' w'=>Ext w w'∧Ext w3 w'∧Ext w4 w'∧OW 179 w4.heap.size w' A5a m4a.length c6a m6d.2.2.2∧OW 179 w6.heap.size w' A7a (((wi64 ((wi64 ((x0.length:Int) - (x1.length:Int)))+1)):Int).toNat) (((wi64 ((wi64 ((x0.length:Int) - (x1.length:Int)))+1)):Int).toNat) v4b∧OW 179 w3.heap.size w' A2a r0a.length c3a r0a∧Fr l' (fun t2i=>gp t2i 0 4 (.pointer (some ⟨b8,0,none⟩)::.int .i64 (x1.length:Int)::.int .i64 (wi64 ((wi64 (32*(x1.length:Int))) - r1b))::.slice A2a r0a.length c3a::.slice A5a m4a.length c6a::.slice A7a (((wi64 ((wi64 ((x0.length:Int) - (x1.length:Int)))+1)):Int).toNat) (((wi64 ((wi64 ((x0.length:Int) - (x1.length:Int)))+1)):Int).toNat)::.int .i64 v1a::.int .u64 m6d.1::.int .u64 m6d.2.1::.int .u64 m6d.2.2.1::gp t2i 14 162 []))) ?_ ?_
         ·apply wp_block
          refine AP (fun l n7n l' w'=>∃(v9c:Int) (v4f:Int) (v0d:Int) (v7e:List Int),Ext w w'∧Ext w3 w'∧Ext w4 w'∧OW 179 w4.heap.size w' A5a m4a.length c6a v7e∧OW 179 w6.heap.size w' A7a (((wi64 ((wi64 ((x0.length:Int) - (x1.length:Int)))+1)):Int).toNat) (((wi64 ((wi64 ((x0.length:Int) - (x1.length:Int)))+1)):Int).toNat) v4b∧OW 179 w3.heap.size w' A2a r0a.length c3a r0a∧DA x0 x1 r0a v1a n7n v9c v4f v0d v7e=some m6d∧Fr l' (fun t3i=>gp t3i 0 4 (.pointer (some ⟨b8,0,none⟩)::.int .i64 (x1.length:Int)::.int .i64 (wi64 ((wi64 (32*(x1.length:Int))) - r1b))::.slice A2a r0a.length c3a::.slice A5a m4a.length c6a::.slice A7a (((wi64 ((wi64 ((x0.length:Int) - (x1.length:Int)))+1)):Int).toNat) (((wi64 ((wi64 ((x0.length:Int) - (x1.length:Int)))+1)):Int).toNat)::.int .i64 v1a::.int .u64 v9c::.int .u64 v4f::.int .u64 v0d::gp t3i 14 162 []))) 18446744073709551616 ?_ ?_ ?_
          ·exact ⟨(min (wu64 ((wu64 ((wu64 ((wu64 u8a)*2^min (32:Int).toNat IntKind.u64.bits))+(wu64 u9a))).tdiv (wu64 u0b))) 4294967295),m7c.1,m7c.2.1,m7c.2.2,X7a5,X8a5,X9a5,ow0a6,ow1a6,ow2a6,h4a6,(Fr.mk (by kernel_rfl))⟩
          ·rintro l' w' ⟨v9c,v4f,v0d,v7e,_,_,_,_,_,_,hz,_⟩
           exact nomatch hz
          ·rintro n7n ih6a6 _ w5b ⟨v9c,v4f,v0d,v7e,X8n,X9n,X0o,ow1o,ow2o,ow3o,hr4o,⟨t3i,rfl⟩⟩ l'' hl
           simp only [gp,Nat.reduceAdd] at hl
           subst hl
           unfold DA at hr4o
           refine AV<|wp_seq_k fun _ h7a6=>wp_seq_k fun _ h8a6=>Ae<|sV (Aa rfl) ?_
           refine sb (EX rfl rfl) fun z5o hz5o=>?_
           refine nrm ?_
           refine wh h8a6 ?_
           rcases zi hz5o hr4o with ⟨e4i,_,f9a6⟩ | ⟨e4i,_,f0a7⟩
           ·refine wp_cond_true (Ai (evb rfl e4i))<|wp_skip<|h7a6 _ _ ?_
            obtain ⟨m3c,h1a7,f2a7⟩:=Ab f9a6
            refine BX (fun l l' w'=>Ext w w'∧Ext w3 w'∧Ext w4 w'∧OW 179 w4.heap.size w' A5a m4a.length c6a m3c.2.2.2∧OW 179 w6.heap.size w' A7a (((wi64 ((wi64 ((x0.length:Int) - (x1.length:Int)))+1)):Int).toNat) (((wi64 ((wi64 ((x0.length:Int) - (x1.length:Int)))+1)):Int).toNat) v4b∧OW 179 w3.heap.size w' A2a r0a.length c3a r0a∧Fr l' (fun t5i=>gp t5i 0 4 (.pointer (some ⟨b8,0,none⟩)::.int .i64 (x1.length:Int)::.int .i64 (wi64 ((wi64 (32*(x1.length:Int))) - r1b))::.slice A2a r0a.length c3a::.slice A5a m4a.length c6a::.slice A7a (((wi64 ((wi64 ((x0.length:Int) - (x1.length:Int)))+1)):Int).toNat) (((wi64 ((wi64 ((x0.length:Int) - (x1.length:Int)))+1)):Int).toNat)::.int .i64 v1a::.int .u64 m3c.1::.int .u64 m3c.2.1::.int .u64 m3c.2.2.1::gp t5i 14 162 []))) ?_ ?_
            ·apply wp_block
             refine wp_seq_k fun _ h3a7=>Ae<|sV3 (Aa rfl) (Ba (c:=wu64 (v9c - 1)) rfl rfl rfl) (Ac rfl) ?_
             refine wh h3a7<|wp_seq_k fun _ h4a7=>Ae<|sV (Ac rfl) ?_
             refine wh h4a7<|wp_seq_k fun _ h5a7=>wp_seq_k fun _ h6a7=>Ae<|sV (Ac rfl) ?_
             refine wh h6a7 ?_
             obtain ⟨m5f,h7a7,f8a7⟩:=Ab h1a7
             refine BX (fun l l' w'=>Ext w w'∧Ext w3 w'∧Ext w4 w'∧OW 179 w4.heap.size w' A5a m4a.length c6a m5f.2∧OW 179 w6.heap.size w' A7a (((wi64 ((wi64 ((x0.length:Int) - (x1.length:Int)))+1)):Int).toNat) (((wi64 ((wi64 ((x0.length:Int) - (x1.length:Int)))+1)):Int).toNat) v4b∧OW 179 w3.heap.size w' A2a r0a.length c3a r0a∧Fr l' (fun t6i=>gp t6i 0 4 (.pointer (some ⟨b8,0,none⟩)::.int .i64 (x1.length:Int)::.int .i64 (wi64 ((wi64 (32*(x1.length:Int))) - r1b))::.slice A2a r0a.length c3a::.slice A5a m4a.length c6a::.slice A7a (((wi64 ((wi64 ((x0.length:Int) - (x1.length:Int)))+1)):Int).toNat) (((wi64 ((wi64 ((x0.length:Int) - (x1.length:Int)))+1)):Int).toNat)::.int .i64 v1a::.int .u64 (wu64 (v9c - 1))::.int .u64 m5f.1::.int .u64 v0d::gp t6i 14 162 []))) ?_ ?_
             ·apply wp_block
              refine AP (fun l n6o l' w'=>∃(v1c:Int) (v7b:Int) (v8e:List Int),Ext w w'∧Ext w3 w'∧Ext w4 w'∧OW 179 w4.heap.size w' A5a m4a.length c6a v8e∧OW 179 w6.heap.size w' A7a (((wi64 ((wi64 ((x0.length:Int) - (x1.length:Int)))+1)):Int).toNat) (((wi64 ((wi64 ((x0.length:Int) - (x1.length:Int)))+1)):Int).toNat) v4b∧OW 179 w3.heap.size w' A2a r0a.length c3a r0a∧CQ x0 x1 r0a v1a n6o v1c v7b v8e=some m5f∧Fr l' (fun t6f=>gp t6f 0 4 (.pointer (some ⟨b8,0,none⟩)::.int .i64 (x1.length:Int)::.int .i64 (wi64 ((wi64 (32*(x1.length:Int))) - r1b))::.slice A2a r0a.length c3a::.slice A5a m4a.length c6a::.slice A7a (((wi64 ((wi64 ((x0.length:Int) - (x1.length:Int)))+1)):Int).toNat) (((wi64 ((wi64 ((x0.length:Int) - (x1.length:Int)))+1)):Int).toNat)::.int .i64 v1a::.int .u64 (wu64 (v9c - 1))::.int .u64 v1c::.int .u64 v0d::gp t6f 14 3 (.int .i64 v7b::gp t6f 18 158 [])))) 18446744073709551616 ?_ ?_ ?_
              ·exact ⟨0,0,v7e,X8n,X9n,X0o,ow1o,ow2o,ow3o,h7a7,(Fr.mk (by kernel_rfl))⟩
              ·rintro l' w' ⟨v1c,v7b,v8e,_,_,_,_,_,_,hz,_⟩
               exact nomatch hz
              ·rintro n6o ih9a7 _ w5c ⟨v1c,v7b,v8e,X7o,X8o,X9o,ow7i,ow0p,ow8i,hr1p,⟨t6f,rfl⟩⟩ l'' hl
               simp only [gp,Nat.reduceAdd] at hl
               subst hl
               unfold CQ at hr1p
               refine AV<|wp_seq_k fun _ h0a8=>wp_seq_k fun _ h1a8=>Ae<|sV2 (Aa rfl) (Aa rfl) ?_
               refine sb (Ie rfl rfl) fun z2p hz2p=>?_
               refine nrm ?_
               refine wh h1a8 ?_
               rcases zi hz2p hr1p with ⟨e9i,_,f2a8⟩ | ⟨e9i,_,f3a8⟩
               ·refine wp_cond_true (Ai (evb rfl e9i))<|wp_skip<|h0a8 _ _<|wp_seq_k fun _ h4a8=>?_
                apply wp_block
                refine wp_seq_k fun _ h5a8=>Dn [] 14 mo rfl fun w8f E4c S3p=>have X4p:=xtr X7o E4c;have X6a8:=xtr X8o E4c;have X7a8:=xtr X9o E4c;dA 0 rfl (fun _=>Aa rfl) ?_
                refine dA 1 rfl (fun _=>Aa rfl) ?_
                refine dA 2 rfl (fun _=>Aa rfl) ?_
                refine dA 3 rfl (fun _=>AM (c:=wi64 (v1a+v7b)) rfl rfl rfl) ?_
                obtain ⟨u1d,h8a8,f9a8⟩:=Ab f2a8
                obtain ⟨bb72107,hA0a9,hz9ag,ia1a9,ib2a9,hc72112⟩:=OW.nthc (ow7i.ext E4c) h8a8
                refine dA 4 rfl (fun _=>As AH An rfl rfl hA0a9 ia1a9 ib2a9) ?_
                refine dV 5 rfl (fun _ hw=>Af AQ rfl (CA hc72112 hw)) S3p ?_
                refine dA 6 rfl (fun _=>AE (c:=wu64 u1d) AF AD rfl rfl) ?_
                refine dA 7 rfl (fun _=>Aa rfl) ?_
                refine dA 8 rfl (fun _=>Aa rfl) ?_
                refine dA 11 rfl (fun _=>Aa rfl) ?_
                obtain ⟨r2d,h3a9,f4a9⟩:=Ab f9a8
                refine dc 9 rfl (by kernel_rfl) (by rfl) (Ad IM (by rfl)) (BI r0a v7b A2a c3a w8f (tbx X4p hT) (OW.rl (ow8i.ext E4c)) r2d h3a9) ?_
                rintro _ w9f E3d rfl
                refine dnrm ?_
                have X5a9:=xtr X4p E3d
                have X6a9:=xtr X6a8 E3d
                have X7a9:=xtr X7a8 E3d
                have S0ah:=S3p.trans E3d
                refine dA 10 rfl (fun _=>AM (c:=wu64 ((wu64 u1d)+r2d)) rfl rfl rfl) ?_
                refine dA 12 rfl (fun _=>AM (c:=wu64 ((wu64 ((wu64 u1d)+r2d))+v1c)) rfl rfl rfl) ?_
                refine dA 13 rfl (fun _=>Ac rfl) ?_
                refine Cn (by kernel_rfl) ?_
                refine h5a8 _ _<|wp_seq_k fun _ h8a9=>Ae<|sV3 (Aa rfl) (Aa rfl) (Aa rfl) ?_
                refine sV3 (AM (c:=wi64 (v1a+v7b)) rfl rfl rfl) (Aa rfl) (AE (c:=wu32 (wu64 ((wu64 ((wu64 u1d)+r2d))+v1c))) AD AF rfl rfl) ?_
                have ow0j:=(ow7i.ext E4c).ext E3d
                obtain ⟨u1ah,h9a9,f0aa⟩:=Ab f4a9
                obtain ⟨bb72126,hA1j,hz1aa,ia5p,ib6p,hc72131⟩:=OW.nthc ow0j h9a9
                refine sV (As AH An rfl rfl hA1j ia5p ib6p) ?_
                refine KP An rfl rfl ow0j hA1j ia5p (by rw [OW.len ow0j];exact ib6p) fun w2ah B72132 U2aa ow3aa=>?_
                have ow4aa:=(ow8i.ext E4c).ext E3d
                have ow5aa:=(ow0p.ext E4c).ext E3d
                have X6aa:=xO X5a9 B72132 X5d.size
                have X7aa:=xO X6a9 B72132 E7d.size
                have X8aa:=xO X7a9 B72132 (Nat.le_refl _)
                have ow9aa:=OW.bel2 ow4aa B72132 hl105
                have ow0ab:=OW.updO ow5aa U2aa (hl392 _ hA1j hz1aa)
                refine wh h8a9<|Ae<|sV2 (Aa rfl) (GS (c:=(wu64 ((wu64 ((wu64 u1d)+r2d))+v1c)).fdiv (2^min (32:Int).toNat IntKind.u64.bits)) (by decide) rfl rfl rfl) ?_
                refine sV (Ac rfl) ?_
                refine wh h4a8<|Ae<|sV3 (Aa rfl) (AM (c:=wi64 (v7b+1)) rfl rfl rfl) (Ac rfl) ?_
                refine AG ?_
                exact ih9a7 _ _ ⟨((wu64 ((wu64 ((wu64 u1d)+r2d))+v1c)).fdiv (2^min (32:Int).toNat IntKind.u64.bits)),(wi64 (v7b+1)),(List.set v8e ((wi64 (v1a+v7b)):Int).toNat (wu32 (wu64 ((wu64 ((wu64 u1d)+r2d))+v1c)))),X6aa,X7aa,X8aa,ow3aa,ow0ab,ow9aa,f0aa,(Fr.mk (by kernel_rfl))⟩
               ·refine wp_cond_false (Ai (evb rfl e9i))<|wp_exit ?_
                simp only [Exit.then,Exit.inBlock,↓reduceIte,Nat.reduceEqDiff]
                obtain rfl:=sj f3a8
                exact ⟨_,rfl,X7o,X8o,X9o,ow7i,ow0p,ow8i,(Fr.mk (by kernel_rfl))⟩
             ·rintro _ w5c ⟨X1ab,X2ab,X3ab,ow4ab,ow5ab,ow6ab,⟨t6i,rfl⟩⟩ l'' hl
              simp only [gp,Nat.reduceAdd] at hl
              subst hl
              refine h5a7 _ _<|Ae<|sV3 (Aa rfl) (Aa rfl) (Ba (c:=wu64 (v0d - m5f.1)) rfl rfl rfl) ?_
              refine sV (Ac rfl) ?_
              refine AG ?_
              obtain rfl:=sj f8a7
              exact ⟨_,rfl,X1ab,X2ab,X3ab,ow4ab,ow5ab,ow6ab,(Fr.mk (by kernel_rfl))⟩
            ·rintro _ w5c ⟨X7ab,X8ab,X9ab,ow0ac,ow1ac,ow2ac,⟨t5i,rfl⟩⟩ l'' hl
             simp only [gp,Nat.reduceAdd] at hl
             subst hl
             exact ih6a6 _ _ ⟨m3c.1,m3c.2.1,m3c.2.2.1,m3c.2.2.2,X7ab,X8ab,X9ab,ow0ac,ow1ac,ow2ac,f2a7,(Fr.mk (by kernel_rfl))⟩
           ·refine wp_cond_false (Ai (evb rfl e4i))<|wp_exit ?_
            simp only [Exit.then,Exit.inBlock,↓reduceIte,Nat.reduceEqDiff]
            obtain rfl:=sj f0a7
            exact ⟨_,rfl,X8n,X9n,X0o,ow1o,ow2o,ow3o,(Fr.mk (by kernel_rfl))⟩
         ·rintro _ w5b ⟨X3ac,X4ac,X5ac,ow6ac,ow2j,ow7ac,⟨t2i,rfl⟩⟩ l'' hl
          simp only [gp,Nat.reduceAdd] at hl
          subst hl
          refine h3a6 _ _<|Ae<|sV3 (Aa rfl) (Aa rfl) (Aa rfl) ?_
          refine sV (AE (c:=wu32 m6d.1) AD AF rfl rfl) ?_
          obtain ⟨u3ah,h8ac,f9ac⟩:=Ab f5a6
          obtain ⟨bb72145,hA7p,hz4ah,ia8p,ib9p,hc72150⟩:=OW.nthc ow2j h8ac
          refine sV (As AH An rfl rfl hA7p ia8p ib9p) ?_
          refine KP An rfl rfl ow2j hA7p ia8p (by rw [OW.len ow2j];exact ib9p) fun w5c B72151 U5ah ow0ad=>?_
          have X1ad:=xO X3ac B72151 X7l.size
          have X2ad:=xO X4ac B72151 X8l.size
          have X3ad:=xO X5ac B72151 X9l.size
          have ow4ad:=OW.bel2 ow7ac B72151 hl391
          have ow5ad:=OW.bel2 ow6ac B72151 hl392
          refine AG ?_
          obtain rfl:=sj f9ac
          exact ⟨_,rfl,X1ad,X2ad,X3ad,ow5ad,ow0ad,ow4ad,(Fr.mk (by kernel_rfl))⟩
       ·rintro _ w9 ⟨X6ad,X7ad,X8ad,ow9ad,ow0ae,ow1ae,⟨t4h,rfl⟩⟩ l'' hl
        simp only [gp,Nat.reduceAdd] at hl
        subst hl
        refine h7z _ _<|Ae<|sV3 (Aa rfl) (Ba (c:=wi64 (v1a - 1)) rfl rfl rfl) (Ac rfl) ?_
        refine AG ?_
        exact ih2z _ _ ⟨(wi64 (v1a - 1)),m3f.1,m3f.2,X6ad,X7ad,X8ad,ow9ad,ow0ae,ow1ae,f9z,(Fr.mk (by kernel_rfl))⟩
      ·refine wp_cond_false (Ai (evb rfl e3h))<|wp_exit ?_
       simp only [Exit.then,Exit.inBlock,↓reduceIte,Nat.reduceEqDiff]
       obtain rfl:=sj f6z
       exact ⟨_,rfl,X3m,X4m,X5m,ow2f,ow6m,ow2h,(Fr.mk (by kernel_rfl))⟩
    ·rintro _ w8 ⟨X0q,X2ae,X6ah,ow1q,ow2q,ow7ah,⟨t3e,rfl⟩⟩ l'' hl
     simp only [gp,Nat.reduceAdd] at hl
     subst hl
     refine h8y _ _<|wp_seq_k fun _ h3ae=>Ae<|sV (Aa rfl) ?_
     obtain ⟨r3j,h4ae,f5ae⟩:=Ab f1z
     refine sc (Ad JK (by simp only [OW.len ow2q];rfl)) (Ce m2e.2 A7a (((wi64 ((wi64 ((x0.length:Int) - (x1.length:Int)))+1)):Int).toNat) w8 (tbx X0q hT) (OW.rl ow2q) r3j h4ae) ?_
     rintro _ w9 E7f ⟨A4j,c5j,rfl,n6ae⟩
     refine nrm ?_
     have X3q:=xtr X0q E7f
     have X7ae:=xtr X2ae E7f
     refine sV (Aa rfl) ?_
     obtain ⟨r4q,h8ae,f9ae⟩:=Ab f5ae
     refine sc (Ad JK (by simp only [OW.len (ow1q.ext E7f)];rfl)) (Ce m2e.1 A5a c6a w9 (tbx X3q hT) (OW.rl (ow1q.ext E7f)) r4q h8ae) ?_
     rintro _ w2c E6j ⟨A0af,c1af,rfl,n2af⟩
     refine nrm ?_
     have X5q:=xtr X3q E6j
     have X3af:=xtr X7ae E6j
     refine sV (Aa rfl) ?_
     obtain ⟨r7j,h4af,f5af⟩:=Ab f9ae
     refine sc (Ad OG (by rfl)) (Hd r4q (wi64 ((wi64 (32*(x1.length:Int))) - r1b)) A0af c1af w2c (tbx X5q hT) n2af r7j h4af) ?_
     rintro _ w5b E8j ⟨A9j,c0k,rfl,n6af⟩
     refine nrm ?_
     have X7af:=xtr X5q E8j
     have X8af:=xtr X3af E8j
     refine sV (Bb (vals:=[(0,.slice A4j r3j.length c5j),(1,.slice A9j r7j.length c0k)]) (cells:=[.slice A4j r3j.length c5j,.slice A9j r7j.length c0k]) (by rfl) (by kernel_rfl)) ?_
     have n1k:=((q5b.ext E0f).ext E5k).ext X8af
     refine ss LQ n1k fun w5c U2k q9af=>?_
     have X0ag:=belU X7af U2k g2c
     refine wh h3ae<|wp_ret ?_
     have n1ag:=((n6ae.ext E6j).ext E8j).upd U2k n1k (by decide)
     have n2ag:=n6af.upd U2k n1k (by decide)
     obtain rfl:=sj f5af
     exact fin rfl (Res.cellN rfl No q9af rfl rfl Res.nil) (Aj X0ag ⟨A4j,c5j,A9j,c0k,rfl,n1ag,n2ag⟩)
end Go.Proofs.Lf

