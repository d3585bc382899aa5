import Derived.Test.YtabiobmfelafoaaGreatDoorLeaf0
import Derived.Test.YtabiobmfelafoaaGreatDoorLeaf1
namespace Go.Proofs.Lf
set_option linter.unusedVariables false
set_option linter.unusedSimpArgs false
set_option maxHeartbeats 4000000
open Go.RowKit Go.Sb Go.Proofs Go.Proofs.Sbn
open Go.Proofs.Tryz
theorem Lv:Ent prog 257:=ent func257 (by kernel_rfl) rfl
def Kx (w:World) (r:List Int) (v:Value):Prop:=∃(A1:OA) (c1:Nat),v = .slice A1 r.length c1∧RLu w A1 c1 r
def Fa (x0:List Int):Nat→List Int→Option (List Int)
 | 0,_=>none
 | n1a+1,v0a=>
 (if 0<(v0a.length:Int) then (nth v0a (wi64 ((v0a.length:Int) - 1))).bind fun u2a=>
 some (decide (u2a=0)) else some (false)).bind fun m3a=>
 if m3a=true then (gd (0≤(0:Int)∧(0:Int)≤(wi64 ((v0a.length:Int) - 1))∧(wi64 ((v0a.length:Int) - 1))≤(v0a.length:Int))).bind fun _=>
 Fa x0 n1a ((List.drop 0 v0a).take ((((wi64 ((v0a.length:Int) - 1)):Int).toNat) - 0)) else some (v0a)
def BQ (x0:List Int):Option (List Int):=
 (Fa x0 18446744073709551616 x0).bind fun m0a=>
 some m0a
def DH (x0:List Int) (x1:Int):Nat→Int→Int→List Int→Option (Int × List Int)
 | 0,_,_,_=>none
 | n4a+1,v1a,v0a,v2a=>
 if v0a<(x0.length:Int) then (nth x0 v0a).bind fun u3a=>
 (gd (0≤(x1.tmod 32))).bind fun _=>
 (nth v2a (wi64 ((wi64 (x1.tdiv 32))+v0a))).bind fun u5a=>
 DH x0 x1 n4a ((bor .u64 v1a (wu64 ((wu64 u3a)*2^min ((x1.tmod 32):Int).toNat IntKind.u64.bits))).fdiv (2^min (32:Int).toNat IntKind.u64.bits)) (wi64 (v0a+1)) (List.set v2a ((wi64 ((wi64 (x1.tdiv 32))+v0a)):Int).toNat (wu32 (bor .u64 v1a (wu64 ((wu64 u3a)*2^min ((x1.tmod 32):Int).toNat IntKind.u64.bits))))) else some (v1a,v2a)
def DZ (x0:List Int) (x1:Int):Option (List Int):=
 if (x0.length:Int)=0 then some ([]:List Int) else (gd (0≤((wi64 ((wi64 ((wi64 (x1.tdiv 32))+(x0.length:Int)))+1)):Int)∧((wi64 ((wi64 ((wi64 (x1.tdiv 32))+(x0.length:Int)))+1)):Int)≤((wi64 ((wi64 ((wi64 (x1.tdiv 32))+(x0.length:Int)))+1)):Int)∧((wi64 ((wi64 ((wi64 (x1.tdiv 32))+(x0.length:Int)))+1)):Int)≤70368744177664)).bind fun _=>
 (DH x0 x1 18446744073709551616 0 0 (List.replicate ((wi64 ((wi64 ((wi64 (x1.tdiv 32))+(x0.length:Int)))+1)):Int).toNat (0:Int))).bind fun m0a=>
 (nth m0a.2 (wi64 ((((((wi64 ((wi64 ((wi64 (x1.tdiv 32))+(x0.length:Int)))+1)):Int).toNat):Nat):Int) - 1))).bind fun u2a=>
 (BQ (List.set m0a.2 ((wi64 ((((((wi64 ((wi64 ((wi64 (x1.tdiv 32))+(x0.length:Int)))+1)):Int).toNat):Nat):Int) - 1)):Int).toNat (wu32 m0a.1))).bind fun r1a=>
 some r1a
theorem DE (x0:List Int) (A1:OA) (c2:Nat) (w:World) (hT:TB w) (n3:RLu w A1 c2 x0) (r:List Int) (hr:BQ x0=some r) :
  Calls prog 257 #[.slice A1 x0.length c2] w (Ret Kx w r):=by
 unfold BQ at hr
 go_enter func257,ntmps257
 refine ws fun h4=>Ah<|sV (Ab rfl) ?_
 refine wh h4<|ws fun h5=>?_
 obtain ⟨m8a,h8b,f9b⟩:=Ad hr
 refine CG (fun l l' w'=>∃(A6a:OA) (c7a:Nat),w=w'∧RLu w' A6a c7a m8a∧Fr l' (fun t4b=>.slice A6a m8a.length c7a::gp t4b 1 20 [])) ?_ ?_
 ·apply wp_block
  refine Bp (fun l n5b l' w'=>∃(v1a:List Int) (A4a:OA) (c5a:Nat) (t3a:Nat→Value),w=w'∧RLu w' A4a c5a v1a∧Fa x0 n5b v1a=some m8a∧Fr l' (fun t9a=>.slice A4a v1a.length c5a::gp t9a 1 6 ((t3a 0)::(t3a 1)::(t3a 2)::(t3a 3)::(t3a 4)::(t3a 5)::(t3a 6)::gp t9a 14 7 []))) 18446744073709551616 ?_ ?_ ?_
  ·exact ⟨x0,A1,c2,(tk [uu,uu,uu,uu,uu,uu,uu]),(by trivial),n3,h8b,(Fr.mk (by kernel_rfl))⟩
  ·rintro l' w' ⟨v1a,A4a,c5a,t3a,_,_,hz,_⟩
   exact nomatch hz
  ·rintro n5b ih0c _ _ ⟨v1a,A4a,c5a,t3a,rfl,n0b,hr6b,⟨t9a,rfl⟩⟩ l'' hl
   simp only [gp,Nat.reduceAdd] at hl
   subst hl
   unfold Fa at hr6b
   refine AW<|ws fun h1c=>ws fun h2c=>Ah<|sV2 (Aa rfl) (AD AG rfl) ?_
   refine sbl (Eh rfl rfl) fun z7b hz7b=>?_
   refine sV (Aa rfl) ?_
   obtain ⟨m3c,h4c,f5c⟩:=Ad hr6b
   refine BH 12 (fun l l' w'=>∃(t2a:Nat→Value),w=w'∧l'=((((((((l.set 7 (t2a 0)).set 8 (t2a 1)).set 9 (t2a 2)).set 10 (t2a 3)).set 11 (t2a 4)).set 12 (t2a 5)).set 13 (t2a 6)).set 14 (.bool m3c))) ?_ ?_
   ·intro HJ360
    rcases zi hz7b h4c with ⟨e0a,_,f6c⟩ | ⟨e0a,_,f7c⟩
    ·refine sV (Aa rfl) ?_ (hw:=wgT rfl e0a)
     refine sV (Aa rfl) ?_ (hw:=wgT rfl e0a)
     refine sV (AD AG rfl) ?_ (hw:=wgT rfl e0a)
     refine sV (Bt (c:=wi64 ((v1a.length:Int) - 1)) rfl rfl rfl) ?_ (hw:=wgT rfl e0a)
     obtain ⟨u1b,h8c,f9c⟩:=Ad f6c
     obtain ⟨bb369,oo370,hA0d,ia1d,ib2d,hc372⟩:=RL.nth n0b h8c
     refine sV (AA AG Av rfl rfl hA0d ia1d ib2d) ?_ (hw:=wgT rfl e0a)
     refine sV (Ag AZ rfl hc372) ?_ (hw:=wgT rfl e0a)
     refine sbl (Cy rfl rfl) (fun z2b hz2b=>?_) (hw:=wgT rfl e0a)
     refine sV (Az (evb rfl e0a) rfl) ?_
     obtain rfl:z2b=decide (u1b=0):=bz hz2b
     obtain rfl:=sj f9c
     exact HJ360 _ _ ⟨(tk [.slice A4a v1a.length c5a,.slice A4a v1a.length c5a,.int .i64 (v1a.length:Int),.int .i64 (wi64 ((v1a.length:Int) - 1)),.pointer (some ⟨bb369,oo370+((wi64 ((v1a.length:Int) - 1)):Int).toNat,none⟩),.int .u32 u1b,.bool (decide (u1b=0))]),(by trivial),(by kernel_rfl)⟩
    ·refine sQ rfl e0a ?_
     refine sQ rfl e0a ?_
     refine sQ rfl e0a ?_
     refine sQ rfl e0a ?_
     refine sQ rfl e0a ?_
     refine sQ rfl e0a ?_
     refine sQ rfl e0a ?_
     refine sV (AE (evb rfl e0a) rfl) ?_
     obtain rfl:=sj f7c
     exact HJ360 _ _ ⟨(tk [uu,uu,uu,uu,uu,uu,uu]),(by trivial),(by kernel_rfl)⟩
   ·rintro l' _ ⟨t2a,rfl,rfl⟩ l'' hl
    simp only [S0,S1] at hl;subst hl
    refine wh h2c ?_
    rcases zb f5c with ⟨e3b,f3d⟩ | ⟨e3b,f4d⟩
    ·refine ct e3b<|wp_skip<|h1c _ _ ?_
     apply wp_block
     refine Ah<|sV3 (Aa rfl) (Aa rfl) (AD AG rfl) ?_
     refine sV (Bt (c:=wi64 ((v1a.length:Int) - 1)) rfl rfl rfl) ?_
     obtain ⟨_,h5d,f6d⟩:=Ad f3d
     have gd389:=AI h5d
     refine Pj (lo:=0) (hi:=((wi64 ((v1a.length:Int) - 1)):Int).toNat) AG Av rfl rfl ⟨.i64,by rw [Int.toNat_of_nonneg (a:=(wi64 ((v1a.length:Int) - 1))) (by omega)];rfl⟩ (by omega) (by omega) n0b fun A7d c8d n9d=>?_
     refine nrm ?_
     refine sV (Ab rfl) ?_
     refine AF ?_
     exact ih0c _ _ ⟨((List.drop 0 v1a).take ((((wi64 ((v1a.length:Int) - 1)):Int).toNat) - 0)),A7d,c8d,(tk [t2a 0,t2a 1,t2a 2,t2a 3,t2a 4,t2a 5,t2a 6]),(by trivial),n9d,f6d,(Fr.mk (by kernel_rfl))⟩
    ·refine cf e3b<|wp_exit ?_
     simp only [Exit.then,Exit.inBlock,↓reduceIte,Nat.reduceEqDiff]
     obtain rfl:=sj f4d
     exact ⟨_,rfl,A4a,c5a,(by trivial),n0b,(Fr.mk (by kernel_rfl))⟩
 ·rintro _ _ ⟨A6a,c7a,rfl,n0e,⟨t4b,rfl⟩⟩ l'' hl
  simp only [gp,Nat.reduceAdd] at hl
  subst hl
  refine h5 _ _<|ws fun h1e=>Ah<|sV2 (Aa rfl) (Ab rfl) ?_
  refine wh h1e<|wp_ret ?_
  exact Bn f9b (Ext.refl _) ⟨A6a,c7a,rfl,n0e⟩
theorem IA (x0:List Int) (x1:Int) (A1:OA) (c2:Nat) (w:World) (hT:TB w) (n3:RLu w A1 c2 x0) (r:List Int) (hr:DZ x0 x1=some r) :
  Calls prog 226 #[.slice A1 x0.length c2,.int .i64 x1] w (Ret Kx w r):=by
 unfold DZ at hr
 go_enter func226,ntmps226
 refine ws fun h4=>Ah<|sV (Ab rfl) ?_
 refine wh h4<|ws fun h5=>ws fun h6=>Ah<|sV2 (Aa rfl) (AD AG rfl) ?_
 refine sbl (Cy rfl rfl) fun z7 hz7=>?_
 refine wh h6 ?_
 rcases zi hz7 hr with ⟨e8a,_,f4c⟩ | ⟨e8a,_,f5c⟩
 ·refine ct e8a<|ws fun h6c=>Ah<|sV (Ab rfl) ?_
  refine wh h6c<|wp_ret ?_
  exact Bn f4c (Ext.refl _) ⟨none,0,rfl,(RL.nil _ _ _)⟩
 ·refine cf e8a<|wp_skip<|h5 _ _<|ws fun h7c=>Ah<|sV2 (Aa rfl) (Ji (c:=wi64 (x1.tdiv 32)) (by decide) rfl rfl rfl) ?_
  refine sV3 (Aa rfl) (AD AG rfl) (AV (c:=wi64 ((wi64 (x1.tdiv 32))+(x0.length:Int))) rfl rfl rfl) ?_
  refine sV (AV (c:=wi64 ((wi64 ((wi64 (x1.tdiv 32))+(x0.length:Int)))+1)) rfl rfl rfl) ?_
  obtain ⟨_,h8c,f9c⟩:=Ad f5c
  have gd22:=AI h8c
  refine IH AG ER rfl rfl gd22 fun A4a w1 E0d ow1d=>?_
  refine nrm ?_
  refine sV (Ab rfl) ?_
  refine nx h7c fun h2d=>sV (Ab rfl) ?_
  refine wh h2d<|ws fun h3d=>ws fun h4d=>Ah<|sV3 (Aa rfl) (AD AG rfl) (Aa rfl) ?_
  refine wh h4d ?_
  obtain ⟨m2a,h5d,f6d⟩:=Ad f9c
  refine CG (fun l l' w'=>Ext w w'∧OW 179 w.heap.size w' A4a (((wi64 ((wi64 ((wi64 (x1.tdiv 32))+(x0.length:Int)))+1)):Int).toNat) (((wi64 ((wi64 ((wi64 (x1.tdiv 32))+(x0.length:Int)))+1)):Int).toNat) m2a.2∧Fr l' (fun t9a=>gp t9a 0 5 (.slice A4a (((wi64 ((wi64 ((wi64 (x1.tdiv 32))+(x0.length:Int)))+1)):Int).toNat) (((wi64 ((wi64 ((wi64 (x1.tdiv 32))+(x0.length:Int)))+1)):Int).toNat)::.int .u64 m2a.1::gp t9a 7 46 []))) ?_ ?_
  ·apply wp_block
   refine Bp (fun l n3b l' w'=>∃(v0a:Int) (v1a:Int) (v5a:List Int),Ext w w'∧OW 179 w.heap.size w' A4a (((wi64 ((wi64 ((wi64 (x1.tdiv 32))+(x0.length:Int)))+1)):Int).toNat) (((wi64 ((wi64 ((wi64 (x1.tdiv 32))+(x0.length:Int)))+1)):Int).toNat) v5a∧DH x0 x1 n3b v0a v1a v5a=some m2a∧Fr l' (fun t6a=>gp t6a 0 1 (.int .i64 x1::gp t6a 2 3 (.slice A4a (((wi64 ((wi64 ((wi64 (x1.tdiv 32))+(x0.length:Int)))+1)):Int).toNat) (((wi64 ((wi64 ((wi64 (x1.tdiv 32))+(x0.length:Int)))+1)):Int).toNat)::.int .u64 v0a::gp t6a 7 12 (.slice A1 x0.length c2::.int .i64 (x0.length:Int)::.int .i64 v1a::gp t6a 22 31 []))))) 18446744073709551616 ?_ ?_ ?_
   ·exact ⟨0,0,(List.replicate ((wi64 ((wi64 ((wi64 (x1.tdiv 32))+(x0.length:Int)))+1)):Int).toNat (0:Int)),E0d,ow1d,h5d,(Fr.mk (by kernel_rfl))⟩
   ·rintro l' w' ⟨v0a,v1a,v5a,_,_,hz,_⟩
    exact nomatch hz
   ·rintro n3b ih7d _ w2 ⟨v0a,v1a,v5a,X0b,ow7a,hr4b,⟨t6a,rfl⟩⟩ l'' hl
    simp only [gp,Nat.reduceAdd] at hl
    subst hl
    unfold DH at hr4b
    refine AW<|ws fun h8d=>Ah<|sbl (Bv rfl rfl) fun z5b hz5b=>?_
    refine wh h8d<|ws fun h9d=>?_
    rcases zi hz5b hr4b with ⟨e1b,_,f0e⟩ | ⟨e1b,_,f1e⟩
    ·refine ct e1b<|wp_skip<|h9d _ _<|ws fun h2e=>?_
     apply wp_block
     refine ws fun h3e=>Ah<|sV (Aa rfl) ?_
     obtain ⟨u3a,h4e,f5e⟩:=Ad f0e
     obtain ⟨bb314,oo315,hA6e,ia7e,ib8e,hc317⟩:=RL.nth (n3.ext X0b) h4e
     refine sV3 (AA AG Av rfl rfl hA6e ia7e ib8e) (Ag AZ rfl hc317) (Ab rfl) ?_
     refine sV (Ab rfl) ?_
     refine nx h3e fun h9e=>sV3 (Aa rfl) (Aa rfl) (AO (c:=wu64 u3a) AQ AN rfl rfl) ?_
     refine sV2 (Aa rfl) (LD (c:=x1.tmod 32) (by decide) rfl rfl rfl) ?_
     obtain ⟨_,h0f,f1f⟩:=Ad f5e
     have gd324:=AI h0f
     refine sV3 (LQ (c:=wu64 ((wu64 u3a)*2^min ((x1.tmod 32):Int).toNat IntKind.u64.bits)) gd324 rfl rfl rfl) (Oq rfl rfl) (Ab rfl) ?_
     refine nx h9e fun h2f=>sV3 (Aa rfl) (Aa rfl) (Ji (c:=wi64 (x1.tdiv 32)) (by decide) rfl rfl rfl) ?_
     refine sV3 (Aa rfl) (AV (c:=wi64 ((wi64 (x1.tdiv 32))+v1a)) rfl rfl rfl) (Aa rfl) ?_
     refine sV (AO (c:=wu32 (bor .u64 v0a (wu64 ((wu64 u3a)*2^min ((x1.tmod 32):Int).toNat IntKind.u64.bits)))) AN AQ rfl rfl) ?_
     obtain ⟨u8g,h3f,f4f⟩:=Ad f1f
     obtain ⟨bb329,hA6b,hz9g,ia7b,ib8b,hc334⟩:=OW.nthc ow7a h3f
     refine sV (AA AG Av rfl rfl hA6b ia7b ib8b) ?_
     refine MW Av rfl rfl ow7a hA6b ia7b (by rw [OW.len ow7a];exact ib8b) fun w3 B335 U0h ow5f=>?_
     have X6f:=xO X0b B335 (Nat.le_refl _)
     refine wh h2f<|Ah<|sV2 (Aa rfl) (IX (c:=(bor .u64 v0a (wu64 ((wu64 u3a)*2^min ((x1.tmod 32):Int).toNat IntKind.u64.bits))).fdiv (2^min (32:Int).toNat IntKind.u64.bits)) (by decide) rfl rfl rfl) ?_
     refine sV (Ab rfl) ?_
     refine wh h2e<|Ah<|sV2 (AV (c:=wi64 (v1a+1)) rfl rfl rfl) (Aa rfl) ?_
     refine AF ?_
     exact ih7d _ _ ⟨((bor .u64 v0a (wu64 ((wu64 u3a)*2^min ((x1.tmod 32):Int).toNat IntKind.u64.bits))).fdiv (2^min (32:Int).toNat IntKind.u64.bits)),(wi64 (v1a+1)),(List.set v5a ((wi64 ((wi64 (x1.tdiv 32))+v1a)):Int).toNat (wu32 (bor .u64 v0a (wu64 ((wu64 u3a)*2^min ((x1.tmod 32):Int).toNat IntKind.u64.bits))))),X6f,ow5f,f4f,(Fr.mk (by kernel_rfl))⟩
    ·refine cf e1b<|wp_exit ?_
     simp only [Exit.then,Exit.inBlock,↓reduceIte,Nat.reduceEqDiff]
     obtain rfl:=sj f1e
     exact ⟨_,rfl,X0b,ow7a,(Fr.mk (by kernel_rfl))⟩
  ·rintro _ w2 ⟨X7f,ow2b,⟨t9a,rfl⟩⟩ l'' hl
   simp only [gp,Nat.reduceAdd] at hl
   subst hl
   refine h3d _ _<|ws fun h8f=>Ah<|sV3 (Aa rfl) (Aa rfl) (AD AG rfl) ?_
   refine sV3 (Bt (c:=wi64 ((((((wi64 ((wi64 ((wi64 (x1.tdiv 32))+(x0.length:Int)))+1)):Int).toNat):Nat):Int) - 1)) rfl rfl rfl) (Aa rfl) (AO (c:=wu32 m2a.1) AN AQ rfl rfl) ?_
   obtain ⟨u1h,h9f,f0g⟩:=Ad f6d
   obtain ⟨bb343,hA9b,hz2h,ia0c,ib1c,hc348⟩:=OW.nthc ow2b h9f
   refine sV (AA AG Av rfl rfl hA9b ia0c ib1c) ?_
   refine MW Av rfl rfl ow2b hA9b ia0c (by rw [OW.len ow2b];exact ib1c) fun w3 B349 U3h ow2c=>?_
   have X3c:=xO X7f B349 (Nat.le_refl _)
   refine nx h8f fun h1g=>sV (Aa rfl) ?_
   refine scn f0g (Ac Lv (by simp only [OW.len ow2c];rfl)) (DE (List.set m2a.2 ((wi64 ((((((wi64 ((wi64 ((wi64 (x1.tdiv 32))+(x0.length:Int)))+1)):Int).toNat):Nat):Int) - 1)):Int).toNat (wu32 m2a.1)) A4a (((wi64 ((wi64 ((wi64 (x1.tdiv 32))+(x0.length:Int)))+1)):Int).toNat) w3 (tbx X3c hT) (OW.rl ow2c)) fun r4h f2g w4 A3g c4g E5g n6g=>?_
   have X7g:=xtr X3c E5g
   refine sV (Ab rfl) ?_
   refine wh h1g<|wp_ret ?_
   exact Bn f2g X7g ⟨A3g,c4g,rfl,n6g⟩
end Go.Proofs.Lf

