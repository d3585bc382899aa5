import Derived.Test.YtabiobmfelafoaaGreatDoorLeaf0
import Derived.Test.YtabiobmfelafoaaGreatDoorLeaf1
namespace Go.Proofs.Lf
set_option linter.unusedVariables false
set_option linter.unusedSimpArgs false
set_option maxHeartbeats 4000000
open Go.RowKit Go.Sb Go.Proofs Go.Proofs.Sbn
theorem Lc:Ent Tryz.prog 257:=ent Tryz.func257 (by kernel_rfl) rfl
def KI (w:World) (r:List Int) (v:Value):Prop:=∃(A1:Option Addr) (c1:Nat),v = .slice A1 r.length c1∧RLu w A1 c1 r
def DY (x0:List Int):Nat→List Int→Option (List Int)
 | 0,_=>none
 | n1a+1,v0a=>
 (if 0<(v0a.length:Int) then (nth v0a (wi64 ((v0a.length:Int) - 1))).bind fun u2a=>
 some (decide (u2a=0)) else some (false)).bind fun m3a=>
 if m3a=true then (gd (0≤(0:Int)∧(0:Int)≤(wi64 ((v0a.length:Int) - 1))∧(wi64 ((v0a.length:Int) - 1))≤(v0a.length:Int))).bind fun _=>
 DY x0 n1a ((List.drop 0 v0a).take ((((wi64 ((v0a.length:Int) - 1)):Int).toNat) - 0)) else some (v0a)
def Cw (x0:List Int):Option (List Int):=
 (DY x0 18446744073709551616 x0).bind fun m0a=>
 some m0a
def CZ (x0:List Int) (x1:Int):Nat→Int→Int→List Int→Option (Int × List Int)
 | 0,_,_,_=>none
 | n4a+1,v1a,v0a,v2a=>
 if v0a<(x0.length:Int) then (nth x0 v0a).bind fun u3a=>
 (gd (0≤(x1.tmod 32))).bind fun _=>
 (nth v2a (wi64 ((wi64 (x1.tdiv 32))+v0a))).bind fun u5a=>
 CZ x0 x1 n4a ((bor .u64 v1a (wu64 ((wu64 u3a)*2^min ((x1.tmod 32):Int).toNat IntKind.u64.bits))).fdiv (2^min (32:Int).toNat IntKind.u64.bits)) (wi64 (v0a+1)) (List.set v2a ((wi64 ((wi64 (x1.tdiv 32))+v0a)):Int).toNat (wu32 (bor .u64 v1a (wu64 ((wu64 u3a)*2^min ((x1.tmod 32):Int).toNat IntKind.u64.bits))))) else some (v1a,v2a)
def Cr (x0:List Int) (x1:Int):Option (List Int):=
 if (x0.length:Int)=0 then some ([]:List Int) else (gd (0≤((wi64 ((wi64 ((wi64 (x1.tdiv 32))+(x0.length:Int)))+1)):Int)∧((wi64 ((wi64 ((wi64 (x1.tdiv 32))+(x0.length:Int)))+1)):Int)≤((wi64 ((wi64 ((wi64 (x1.tdiv 32))+(x0.length:Int)))+1)):Int)∧((wi64 ((wi64 ((wi64 (x1.tdiv 32))+(x0.length:Int)))+1)):Int)≤70368744177664)).bind fun _=>
 (CZ x0 x1 18446744073709551616 0 0 (List.replicate ((wi64 ((wi64 ((wi64 (x1.tdiv 32))+(x0.length:Int)))+1)):Int).toNat (0:Int))).bind fun m0a=>
 (nth m0a.2 (wi64 ((((((wi64 ((wi64 ((wi64 (x1.tdiv 32))+(x0.length:Int)))+1)):Int).toNat):Nat):Int) - 1))).bind fun u2a=>
 (Cw (List.set m0a.2 ((wi64 ((((((wi64 ((wi64 ((wi64 (x1.tdiv 32))+(x0.length:Int)))+1)):Int).toNat):Nat):Int) - 1)):Int).toNat (wu32 m0a.1))).bind fun r1a=>
 some r1a
theorem EM (x0:List Int) (A1:Option Addr) (c2:Nat) (w:World) (hT:TB w) (n3:RLu w A1 c2 x0) (r:List Int) (hr:Cw x0=some r) :
  Calls Tryz.prog 257 #[.slice A1 x0.length c2] w (Ret KI w r):=by
 unfold Cw at hr
 go_enter Tryz.func257,Tryz.ntmps257
 refine wp_seq_k fun K4 h4=>Af<|sV (Ac rfl) ?_
 refine Ad<|h4 _ _<|wp_seq_k fun K5 h5=>?_
 obtain ⟨m0b,h4c,f5c⟩:=Ab hr
 refine Di (fun l l' w'=>∃(A7a:Option Addr) (c8a:Nat),w=w'∧RLu w' A7a c8a m0b∧Fr l' (fun t5b=>.slice A7a m0b.length c8a::gp t5b 1 20 [])) ?_ ?_
 ·apply wp_block
  refine BA (fun l n6b l' w'=>∃(v1a:List Int) (A4a:Option Addr) (c5a:Nat) (t3a:Nat→Value),w=w'∧RLu w' A4a c5a v1a∧DY x0 n6b v1a=some m0b∧Fr l' (fun t1b=>.slice A4a v1a.length c5a::gp t1b 1 6 ((t3a 0)::(t3a 1)::(t3a 2)::(t3a 3)::(t3a 4)::(t3a 5)::(t3a 6)::gp t1b 14 7 []))) 18446744073709551616 ?_ ?_ ?_
  ·exact ⟨x0,A1,c2,(tk [uu,uu,uu,uu,uu,uu,uu]),(by trivial),n3,h4c,(Fr.mk (by kernel_rfl))⟩
  ·rintro l' w' ⟨v1a,A4a,c5a,t3a,_,_,hz,_⟩
   exact nomatch hz
  ·rintro n6b ih6c _ _ ⟨v1a,A4a,c5a,t3a,rfl,n2b,hr7b,⟨t1b,rfl⟩⟩ l'' hl
   simp only [gp,Nat.reduceAdd] at hl
   subst hl
   unfold DY at hr7b
   refine Bg<|wp_seq_k fun K8b h8b=>wp_seq_k fun K9b h9b=>Af<|sV (Aa rfl) ?_
   refine sV (AD AP rfl) ?_
   refine sb (Fs rfl rfl) fun z9a hz9a=>?_
   refine nrm ?_
   refine sV (Aa rfl) ?_
   obtain ⟨m0c,h1c,f2c⟩:=Ab hr7b
   refine Ca 12 (fun l l' w'=>∃(t2a:Nat→Value),w=w'∧l'=((((((((l.set 7 (t2a 0)).set 8 (t2a 1)).set 9 (t2a 2)).set 10 (t2a 3)).set 11 (t2a 4)).set 12 (t2a 5)).set 13 (t2a 6)).set 14 (.bool m0c))) ?_ ?_
   ·intro HJ360
    rcases bft z9a with e0a | e0a
    ·have p7c:=zP hz9a e0a
     have f8c:=ifP p7c h1c
     refine sV (Aa rfl) ?_ (hw:=wgT rfl e0a)
     refine sV (Aa rfl) ?_ (hw:=wgT rfl e0a)
     refine sV (AD AP rfl) ?_ (hw:=wgT rfl e0a)
     refine sV (Bv (c:=wi64 ((v1a.length:Int) - 1)) rfl rfl rfl) ?_ (hw:=wgT rfl e0a)
     obtain ⟨u3b,h9c,f0d⟩:=Ab f8c
     obtain ⟨bb369,oo370,hA1d,ia2d,ib3d,hc372⟩:=RL.nth n2b h9c
     refine sV (Ay AP As rfl rfl hA1d ia2d ib3d) ?_ (hw:=wgT rfl e0a)
     refine sV (Ag AV rfl hc372) ?_ (hw:=wgT rfl e0a)
     refine sb (Ce rfl rfl) ?_ (hw:=wgT rfl e0a)
     intro z4b hz4b
     refine nrm ?_
     refine sV (AB (evb rfl e0a) rfl) ?_
     obtain rfl:z4b=decide (u3b=0):=bz hz4b
     obtain rfl:=sj f0d
     exact HJ360 _ _ ⟨(tk [.slice A4a v1a.length c5a,.slice A4a v1a.length c5a,.int .i64 (v1a.length:Int),.int .i64 (wi64 ((v1a.length:Int) - 1)),.pointer (some ⟨bb369,oo370+((wi64 ((v1a.length:Int) - 1)):Int).toNat,none⟩),.int .u32 u3b,.bool (decide (u3b=0))]),(by trivial),(by simp only [S0,S1]<;>rfl)⟩
    ·have p4d:=zN hz9a e0a
     have f5d:=ifN p4d h1c
     refine sP ?_ (hw:=wgF rfl e0a)
     refine sP ?_ (hw:=wgF rfl e0a)
     refine sP ?_ (hw:=wgF rfl e0a)
     refine sP ?_ (hw:=wgF rfl e0a)
     refine sP ?_ (hw:=wgF rfl e0a)
     refine sP ?_ (hw:=wgF rfl e0a)
     refine sP ?_ (hw:=wgF rfl e0a)
     refine sV (AF (evb rfl e0a) rfl) ?_
     obtain rfl:=sj f5d
     exact HJ360 _ _ ⟨(tk [uu,uu,uu,uu,uu,uu,uu]),(by trivial),(by simp only [S0,S1]<;>rfl)⟩
   ·rintro l' _ ⟨t2a,rfl,hq'⟩ l'' hl
    rw [hq'] at hl
    clear hq'
    simp only [S0,S1] at hl
    subst hl
    refine Ad<|h9b _ _ ?_
    rcases bft m0c with e6a | e6a
    ·have p6d:=e6a
     have f7d:=ifP p6d f2c
     refine wp_cond_true (Aj (evb rfl e6a))<|wp_skip<|h8b _ _ ?_
     apply wp_block
     refine Af<|sV (Aa rfl) ?_
     refine sV (Aa rfl) ?_
     refine sV (AD AP rfl) ?_
     refine sV (Bv (c:=wi64 ((v1a.length:Int) - 1)) rfl rfl rfl) ?_
     obtain ⟨_,h8d,f9d⟩:=Ab f7d
     have gd389:=AJ h8d
     refine MB (lo:=0) (hi:=((wi64 ((v1a.length:Int) - 1)):Int).toNat) AP As rfl rfl ⟨.i64,by rw [Int.toNat_of_nonneg (a:=(wi64 ((v1a.length:Int) - 1))) (by omega)];rfl⟩ (by omega) (by omega) n2b fun A0e c1e n2e=>?_
     refine nrm ?_
     refine sV (Ac rfl) ?_
     refine Ad ?_
     exact ih6c _ _ ⟨((List.drop 0 v1a).take ((((wi64 ((v1a.length:Int) - 1)):Int).toNat) - 0)),A0e,c1e,(tk [t2a 0,t2a 1,t2a 2,t2a 3,t2a 4,t2a 5,t2a 6]),(by trivial),n2e,f9d,(Fr.mk (by kernel_rfl))⟩
    ·have p3e:=bF e6a
     have f4e:=ifN p3e f2c
     refine wp_cond_false (Aj (evb rfl e6a))<|wp_exit ?_
     simp only [Exit.then,Exit.inBlock,↓reduceIte,Nat.reduceEqDiff]
     obtain rfl:=sj f4e
     exact ⟨_,rfl,A4a,c5a,(by trivial),n2b,(Fr.mk (by kernel_rfl))⟩
 ·rintro _ _ ⟨A7a,c8a,rfl,n5e,⟨t5b,rfl⟩⟩ l'' hl
  simp only [gp,Nat.reduceAdd] at hl
  subst hl
  refine h5 _ _<|wp_seq_k fun K3c h3c=>Af<|sV (Aa rfl) ?_
  refine sV (Ac rfl) ?_
  refine Ad<|h3c _ _<|wp_ret ?_
  obtain rfl:=sj f5c
  exact fin rfl (Res.tmp rfl Res.nil) (Ak (Ext.refl _) ⟨A7a,c8a,rfl,n5e⟩)
theorem Gi (x0:List Int) (x1:Int) (A1:Option Addr) (c2:Nat) (w:World) (hT:TB w) (n3:RLu w A1 c2 x0) (r:List Int) (hr:Cr x0 x1=some r) :
  Calls Tryz.prog 226 #[.slice A1 x0.length c2,.int .i64 x1] w (Ret KI w r):=by
 unfold Cr at hr
 go_enter Tryz.func226,Tryz.ntmps226
 refine wp_seq_k fun K4 h4=>Af<|sV (Ac rfl) ?_
 refine Ad<|h4 _ _<|wp_seq_k fun K5 h5=>wp_seq_k fun K6 h6=>Af<|sV (Aa rfl) ?_
 refine sV (AD AP rfl) ?_
 refine sb (Ce rfl rfl) fun z7 hz7=>?_
 refine nrm ?_
 refine Ad<|h6 _ _ ?_
 rcases bft z7 with e4a | e4a
 ·have p7d:=zP hz7 e4a
  have f8d:=ifP p7d hr
  refine wp_cond_true (Aj (evb rfl e4a))<|wp_seq_k fun K5b h5b=>Af<|sV (Ac rfl) ?_
  refine Ad<|h5b _ _<|wp_ret ?_
  obtain rfl:=sj f8d
  exact fin rfl (Res.tmp rfl Res.nil) (Ak (Ext.refl _) ⟨none,0,rfl,(RL.nil _ _ _)⟩)
 ·have p9d:=zN hz7 e4a
  have f0e:=ifN p9d hr
  refine wp_cond_false (Aj (evb rfl e4a))<|wp_skip<|h5 _ _<|wp_seq_k fun K6b h6b=>Af<|sV (Aa rfl) ?_
  refine sV (HK (c:=wi64 (x1.tdiv 32)) (by decide) rfl rfl rfl) ?_
  refine sV (Aa rfl) ?_
  refine sV (AD AP rfl) ?_
  refine sV (Bd (c:=wi64 ((wi64 (x1.tdiv 32))+(x0.length:Int))) rfl rfl rfl) ?_
  refine sV (Bd (c:=wi64 ((wi64 ((wi64 (x1.tdiv 32))+(x0.length:Int)))+1)) rfl rfl rfl) ?_
  obtain ⟨_,h1e,f2e⟩:=Ab f0e
  have gd22:=AJ h1e
  refine Iv AP Ez rfl rfl gd22 fun A5a w1 E3e ow4e=>?_
  refine nrm ?_
  refine sV (Ac rfl) ?_
  refine Ad<|h6b _ _<|wp_seq_k fun K7b h7b=>Af<|sV (Ac rfl) ?_
  refine Ad<|h7b _ _<|wp_seq_k fun K8b h8b=>wp_seq_k fun K9b h9b=>Af<|sV (Aa rfl) ?_
  refine sV (AD AP rfl) ?_
  refine sV (Aa rfl) ?_
  refine Ad<|h9b _ _ ?_
  obtain ⟨m2a,h5e,f6e⟩:=Ab f2e
  refine Di (fun l l' w'=>Ext w w'∧OW 179 w.heap.size w' A5a (((wi64 ((wi64 ((wi64 (x1.tdiv 32))+(x0.length:Int)))+1)):Int).toNat) (((wi64 ((wi64 ((wi64 (x1.tdiv 32))+(x0.length:Int)))+1)):Int).toNat) m2a.2∧Fr l' (fun t1b=>gp t1b 0 5 (.slice A5a (((wi64 ((wi64 ((wi64 (x1.tdiv 32))+(x0.length:Int)))+1)):Int).toNat) (((wi64 ((wi64 ((wi64 (x1.tdiv 32))+(x0.length:Int)))+1)):Int).toNat)::.int .u64 m2a.1::gp t1b 7 46 []))) ?_ ?_
  ·apply wp_block
   refine BA (fun l n0c l' w'=>∃(v0a:Int) (v1a:Int) (v6a:List Int),Ext w w'∧OW 179 w.heap.size w' A5a (((wi64 ((wi64 ((wi64 (x1.tdiv 32))+(x0.length:Int)))+1)):Int).toNat) (((wi64 ((wi64 ((wi64 (x1.tdiv 32))+(x0.length:Int)))+1)):Int).toNat) v6a∧CZ x0 x1 n0c v0a v1a v6a=some m2a∧Fr l' (fun t7a=>gp t7a 0 1 (.int .i64 x1::gp t7a 2 3 (.slice A5a (((wi64 ((wi64 ((wi64 (x1.tdiv 32))+(x0.length:Int)))+1)):Int).toNat) (((wi64 ((wi64 ((wi64 (x1.tdiv 32))+(x0.length:Int)))+1)):Int).toNat)::.int .u64 v0a::gp t7a 7 12 (.slice A1 x0.length c2::.int .i64 (x0.length:Int)::.int .i64 v1a::gp t7a 22 31 []))))) 18446744073709551616 ?_ ?_ ?_
   ·exact ⟨0,0,(List.replicate ((wi64 ((wi64 ((wi64 (x1.tdiv 32))+(x0.length:Int)))+1)):Int).toNat (0:Int)),E3e,ow4e,h5e,(Fr.mk (by kernel_rfl))⟩
   ·rintro l' w' ⟨v0a,v1a,v6a,_,_,hz,_⟩
    exact nomatch hz
   ·rintro n0c ih7e _ w2 ⟨v0a,v1a,v6a,X2b,ow9a,hr3b,⟨t7a,rfl⟩⟩ l'' hl
    simp only [gp,Nat.reduceAdd] at hl
    subst hl
    unfold CZ at hr3b
    refine Bg<|wp_seq_k fun K1c h1c=>Af<|sb (Cm rfl rfl) fun z0b hz0b=>?_
    refine nrm ?_
    refine Ad<|h1c _ _<|wp_seq_k fun K2c h2c=>?_
    rcases bft z0b with e8a | e8a
    ·have p8e:=zP hz0b e8a
     have f9e:=ifP p8e hr3b
     refine wp_cond_true (Aj (evb rfl e8a))<|wp_skip<|h2c _ _<|wp_seq_k fun K3c h3c=>?_
     apply wp_block
     refine wp_seq_k fun K4c h4c=>Af<|sV (Aa rfl) ?_
     obtain ⟨u3a,h0f,f1f⟩:=Ab f9e
     obtain ⟨bb314,oo315,hA2f,ia3f,ib4f,hc317⟩:=RL.nth (n3.ext X2b) h0f
     refine sV (Ay AP As rfl rfl hA2f ia3f ib4f) ?_
     refine sV (Ag AV rfl hc317) ?_
     refine sV (Ac rfl) ?_
     refine sV (Ac rfl) ?_
     refine Ad<|h4c _ _<|wp_seq_k fun K5c h5c=>Af<|sV (Aa rfl) ?_
     refine sV (Aa rfl) ?_
     refine sV (AQ (c:=wu64 u3a) AR AO rfl rfl) ?_
     refine sV (Aa rfl) ?_
     refine sV (JD (c:=x1.tmod 32) (by decide) rfl rfl rfl) ?_
     obtain ⟨_,h5f,f6f⟩:=Ab f1f
     have gd324:=AJ h5f
     refine sV (JI (c:=wu64 ((wu64 u3a)*2^min ((x1.tmod 32):Int).toNat IntKind.u64.bits)) gd324 rfl rfl rfl) ?_
     refine sV (Mr rfl rfl) ?_
     refine sV (Ac rfl) ?_
     refine Ad<|h5c _ _<|wp_seq_k fun K6c h6c=>Af<|sV (Aa rfl) ?_
     refine sV (Aa rfl) ?_
     refine sV (HK (c:=wi64 (x1.tdiv 32)) (by decide) rfl rfl rfl) ?_
     refine sV (Aa rfl) ?_
     refine sV (Bd (c:=wi64 ((wi64 (x1.tdiv 32))+v1a)) rfl rfl rfl) ?_
     refine sV (Aa rfl) ?_
     refine sV (AQ (c:=wu32 (bor .u64 v0a (wu64 ((wu64 u3a)*2^min ((x1.tmod 32):Int).toNat IntKind.u64.bits)))) AO AR rfl rfl) ?_
     obtain ⟨u4h,h7f,f8f⟩:=Ab f6f
     obtain ⟨bb329,hA7c,hz5h,ia8c,ib9c,hc334⟩:=OW.nthc ow9a h7f
     refine sV (Ay AP As rfl rfl hA7c ia8c ib9c) ?_
     refine Mp As rfl rfl ow9a hA7c ia8c (by rw [OW.len ow9a];exact ib9c) fun w3 B335 U6h ow9f=>?_
     have X0g:=xO X2b B335 (Nat.le_refl _)
     refine Ad<|h6c _ _<|Af<|sV (Aa rfl) ?_
     refine sV (IA (c:=(bor .u64 v0a (wu64 ((wu64 u3a)*2^min ((x1.tmod 32):Int).toNat IntKind.u64.bits))).fdiv (2^min (32:Int).toNat IntKind.u64.bits)) (by decide) rfl rfl rfl) ?_
     refine sV (Ac rfl) ?_
     refine Ad<|h3c _ _<|Af<|sV (Bd (c:=wi64 (v1a+1)) rfl rfl rfl) ?_
     refine sV (Aa rfl) ?_
     refine Ad ?_
     exact ih7e _ _ ⟨((bor .u64 v0a (wu64 ((wu64 u3a)*2^min ((x1.tmod 32):Int).toNat IntKind.u64.bits))).fdiv (2^min (32:Int).toNat IntKind.u64.bits)),(wi64 (v1a+1)),(List.set v6a ((wi64 ((wi64 (x1.tdiv 32))+v1a)):Int).toNat (wu32 (bor .u64 v0a (wu64 ((wu64 u3a)*2^min ((x1.tmod 32):Int).toNat IntKind.u64.bits))))),X0g,ow9f,f8f,(Fr.mk (by kernel_rfl))⟩
    ·have p1g:=zN hz0b e8a
     have f2g:=ifN p1g hr3b
     refine wp_cond_false (Aj (evb rfl e8a))<|wp_exit ?_
     simp only [Exit.then,Exit.inBlock,↓reduceIte,Nat.reduceEqDiff]
     obtain rfl:=sj f2g
     exact ⟨_,rfl,X2b,ow9a,(Fr.mk (by kernel_rfl))⟩
  ·rintro _ w2 ⟨X3g,ow4b,⟨t1b,rfl⟩⟩ l'' hl
   simp only [gp,Nat.reduceAdd] at hl
   subst hl
   refine h8b _ _<|wp_seq_k fun K0d h0d=>Af<|sV (Aa rfl) ?_
   refine sV (Aa rfl) ?_
   refine sV (AD AP rfl) ?_
   refine sV (Bv (c:=wi64 ((((((wi64 ((wi64 ((wi64 (x1.tdiv 32))+(x0.length:Int)))+1)):Int).toNat):Nat):Int) - 1)) rfl rfl rfl) ?_
   refine sV (Aa rfl) ?_
   refine sV (AQ (c:=wu32 m2a.1) AO AR rfl rfl) ?_
   obtain ⟨u7h,h4g,f5g⟩:=Ab f6e
   obtain ⟨bb343,hA1d,hz8h,ia2d,ib3d,hc348⟩:=OW.nthc ow4b h4g
   refine sV (Ay AP As rfl rfl hA1d ia2d ib3d) ?_
   refine Mp As rfl rfl ow4b hA1d ia2d (by rw [OW.len ow4b];exact ib3d) fun w3 B349 U9h ow4d=>?_
   have X5d:=xO X3g B349 (Nat.le_refl _)
   refine Ad<|h0d _ _<|wp_seq_k fun K6d h6d=>Af<|sV (Aa rfl) ?_
   obtain ⟨r6g,h7g,f8g⟩:=Ab f5g
   refine sc (Ae Lc (by simp only [OW.len ow4d];rfl)) (EM (List.set m2a.2 ((wi64 ((((((wi64 ((wi64 ((wi64 (x1.tdiv 32))+(x0.length:Int)))+1)):Int).toNat):Nat):Int) - 1)):Int).toNat (wu32 m2a.1)) A5a (((wi64 ((wi64 ((wi64 (x1.tdiv 32))+(x0.length:Int)))+1)):Int).toNat) w3 (tbx X5d hT) (OW.rl ow4d) r6g h7g) ?_
   rintro _ w4 E9g ⟨A0h,c1h,rfl,n2h⟩
   refine nrm ?_
   have X3h:=xtr X5d E9g
   refine sV (Ac rfl) ?_
   refine Ad<|h6d _ _<|wp_ret ?_
   obtain rfl:=sj f8g
   exact fin rfl (Res.tmp rfl Res.nil) (Ak X3h ⟨A0h,c1h,rfl,n2h⟩)
end Go.Proofs.Lf

