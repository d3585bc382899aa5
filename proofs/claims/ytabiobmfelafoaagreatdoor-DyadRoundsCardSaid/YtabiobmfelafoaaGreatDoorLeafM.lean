import Derived.Test.YtabiobmfelafoaaGreatDoorLeaf0
import Derived.Test.YtabiobmfelafoaaGreatDoorLeaf1
namespace Go.Proofs.Lf
set_option linter.unusedVariables false
set_option linter.unusedSimpArgs false
set_option maxHeartbeats 4000000
open Go.RowKit Go.Sb Go.Proofs Go.Proofs.Sbn
theorem Kl:Ent Tryz.prog 257:=ent Tryz.func257 (by kernel_rfl) rfl
def JV (w:World) (r:List Int) (v:Value):Prop:=∃(A1:Option Addr) (c1:Nat),v = .slice A1 r.length c1∧RLu w A1 c1 r
def DZ (x0:List Int):Nat→List Int→Option (List Int)
 | 0,_=>none
 | n1a+1,v0a=>
 (if 0<(v0a.length:Int) then (nth v0a (wi64 ((v0a.length:Int) - 1))).bind fun u2a=>
 some (decide (u2a=0)) else some (false)).bind fun m3a=>
 if m3a=true then (gd (0≤(0:Int)∧(0:Int)≤(wi64 ((v0a.length:Int) - 1))∧(wi64 ((v0a.length:Int) - 1))≤(v0a.length:Int))).bind fun _=>
 DZ x0 n1a ((List.drop 0 v0a).take ((((wi64 ((v0a.length:Int) - 1)):Int).toNat) - 0)) else some (v0a)
def Cy (x0:List Int):Option (List Int):=
 (DZ x0 18446744073709551616 x0).bind fun m0a=>
 some m0a
def Dh (x0:List Int) (x1:Int):Nat→Int→Int→List Int→Option (Int × List Int)
 | 0,_,_,_=>none
 | n4a+1,v1a,v0a,v2a=>
 if v0a<(x0.length:Int) then (nth x0 v0a).bind fun u3a=>
 (gd (0≤(x1.tmod 32))).bind fun _=>
 (nth v2a (wi64 ((wi64 (x1.tdiv 32))+v0a))).bind fun u5a=>
 Dh x0 x1 n4a ((bor .u64 v1a (wu64 ((wu64 u3a)*2^min ((x1.tmod 32):Int).toNat IntKind.u64.bits))).fdiv (2^min (32:Int).toNat IntKind.u64.bits)) (wi64 (v0a+1)) (List.set v2a ((wi64 ((wi64 (x1.tdiv 32))+v0a)):Int).toNat (wu32 (bor .u64 v1a (wu64 ((wu64 u3a)*2^min ((x1.tmod 32):Int).toNat IntKind.u64.bits))))) else some (v1a,v2a)
def Dq (x0:List Int) (x1:Int):Option (List Int):=
 if (x0.length:Int)=0 then some ([]:List Int) else (gd (0≤((wi64 ((wi64 ((wi64 (x1.tdiv 32))+(x0.length:Int)))+1)):Int)∧((wi64 ((wi64 ((wi64 (x1.tdiv 32))+(x0.length:Int)))+1)):Int)≤((wi64 ((wi64 ((wi64 (x1.tdiv 32))+(x0.length:Int)))+1)):Int)∧((wi64 ((wi64 ((wi64 (x1.tdiv 32))+(x0.length:Int)))+1)):Int)≤70368744177664)).bind fun _=>
 (Dh x0 x1 18446744073709551616 0 0 (List.replicate ((wi64 ((wi64 ((wi64 (x1.tdiv 32))+(x0.length:Int)))+1)):Int).toNat (0:Int))).bind fun m0a=>
 (nth m0a.2 (wi64 ((((((wi64 ((wi64 ((wi64 (x1.tdiv 32))+(x0.length:Int)))+1)):Int).toNat):Nat):Int) - 1))).bind fun u2a=>
 (Cy (List.set m0a.2 ((wi64 ((((((wi64 ((wi64 ((wi64 (x1.tdiv 32))+(x0.length:Int)))+1)):Int).toNat):Nat):Int) - 1)):Int).toNat (wu32 m0a.1))).bind fun r1a=>
 some r1a
theorem EM (x0:List Int) (A1:Option Addr) (c2:Nat) (w:World) (hT:TB w) (n3:RLu w A1 c2 x0) (r:List Int) (hr:Cy x0=some r) :
  Calls Tryz.prog 257 #[.slice A1 x0.length c2] w (Ret JV w r):=by
 unfold Cy at hr
 go_enter Tryz.func257,Tryz.ntmps257
 refine wp_seq_k fun K4 h4=>Ae<|sV (Ac rfl) ?_
 refine Ad<|h4 _ _<|wp_seq_k fun K5 h5=>?_
 obtain ⟨m2b,h5c,f6c⟩:=Ab hr
 refine BZ (fun l l' w'=>∃(A9a:Option Addr) (c0b:Nat) (t4a:Nat→Value),w=w'∧RLu w' A9a c0b m2b∧l'=((((((((((((((((((l.set 0 (.slice A9a m2b.length c0b)).set 3 (t4a 0)).set 4 (t4a 1)).set 5 (t4a 2)).set 6 (t4a 3)).set 7 (t4a 4)).set 8 (t4a 5)).set 9 (t4a 6)).set 10 (t4a 7)).set 11 (t4a 8)).set 12 (t4a 9)).set 13 (t4a 10)).set 14 (t4a 11)).set 15 (t4a 12)).set 16 (t4a 13)).set 17 (t4a 14)).set 18 (t4a 15)).set 19 (t4a 16))) ?_ ?_
 ·apply wp_block
  refine AR (fun l n6b l' w'=>∃(v0a:List Int) (A5a:Option Addr) (c6a:Nat) (t1a:Nat→Value),w=w'∧RLu w' A5a c6a v0a∧DZ x0 n6b v0a=some m2b∧l'=((((((((((((((((((l.set 0 (.slice A5a v0a.length c6a)).set 3 (t1a 0)).set 4 (t1a 1)).set 5 (t1a 2)).set 6 (t1a 3)).set 7 (t1a 4)).set 8 (t1a 5)).set 9 (t1a 6)).set 10 (t1a 7)).set 11 (t1a 8)).set 12 (t1a 9)).set 13 (t1a 10)).set 14 (t1a 11)).set 15 (t1a 12)).set 16 (t1a 13)).set 17 (t1a 14)).set 18 (t1a 15)).set 19 (t1a 16))) 18446744073709551616 ?_ ?_ ?_
  ·exact ⟨x0,A1,c2,(tk [uu,uu,uu,uu,uu,uu,uu,uu,uu,uu,uu,uu,uu,uu,uu,uu,uu]),(by trivial),n3,h5c,(by simp only [S0,S1]<;>rfl)⟩
  ·rintro l' w' ⟨v0a,A5a,c6a,t1a,_,_,hz,_⟩
   exact nomatch hz
  ·rintro n6b ih7c l' _ ⟨v0a,A5a,c6a,t1a,rfl,n3b,hr7b,hq'⟩ l'' hl
   rw [hq'] at hl
   clear hq'
   simp only [S0,S1] at hl
   subst hl
   unfold DZ at hr7b
   refine Ba<|wp_seq_k fun K8b h8b=>wp_seq_k fun K9b h9b=>Ae<|sV (Aa rfl) ?_
   refine sV (Ax AU rfl) ?_
   refine sb (Eu rfl rfl) fun z7a hz7a=>?_
   refine nrm ?_
   refine sV (Aa rfl) ?_
   obtain ⟨m1b,h0c,f1c⟩:=Ab hr7b
   refine BB 12 (fun l l' w'=>∃(t2a:Nat→Value),w=w'∧l'=((((((((l.set 7 (t2a 0)).set 8 (t2a 1)).set 9 (t2a 2)).set 10 (t2a 3)).set 11 (t2a 4)).set 12 (t2a 5)).set 13 (t2a 6)).set 14 (.bool m1b))) ?_ ?_
   ·intro HJ343
    rcases bft z7a with e3a | e3a
    ·have p8c:=zP hz7a e3a
     have f9c:=ifP p8c h0c
     refine sV (Aa rfl) ?_ (hw:=wgT rfl e3a)
     refine sV (Aa rfl) ?_ (hw:=wgT rfl e3a)
     refine sV (Ax AU rfl) ?_ (hw:=wgT rfl e3a)
     refine sV (AV (c:=wi64 ((v0a.length:Int) - 1)) rfl rfl rfl) ?_ (hw:=wgT rfl e3a)
     obtain ⟨u4b,h0d,f1d⟩:=Ab f9c
     obtain ⟨bb352,oo353,hA2d,ia3d,ib4d,hc355⟩:=RL.nth n3b h0d
     refine sV (Ar AU An rfl rfl hA2d ia3d ib4d) ?_ (hw:=wgT rfl e3a)
     refine sV (Ag AN rfl hc355) ?_ (hw:=wgT rfl e3a)
     refine sb (BE rfl rfl) ?_ (hw:=wgT rfl e3a)
     intro z5b hz5b
     refine nrm ?_
     refine sV (Aw (evb rfl e3a) rfl) ?_
     obtain rfl:z5b=decide (u4b=0):=bz hz5b
     obtain rfl:=sj f1d
     exact HJ343 _ _ ⟨(tk [.slice A5a v0a.length c6a,.slice A5a v0a.length c6a,.int .i64 (v0a.length:Int),.int .i64 (wi64 ((v0a.length:Int) - 1)),.pointer (some ⟨bb352,oo353+((wi64 ((v0a.length:Int) - 1)):Int).toNat,none⟩),.int .u32 u4b,.bool (decide (u4b=0))]),(by trivial),(by simp only [S0,S1]<;>rfl)⟩
    ·have p5d:=zN hz7a e3a
     have f6d:=ifN p5d h0c
     refine sP ?_ (hw:=wgF rfl e3a)
     refine sP ?_ (hw:=wgF rfl e3a)
     refine sP ?_ (hw:=wgF rfl e3a)
     refine sP ?_ (hw:=wgF rfl e3a)
     refine sP ?_ (hw:=wgF rfl e3a)
     refine sP ?_ (hw:=wgF rfl e3a)
     refine sP ?_ (hw:=wgF rfl e3a)
     refine sV (AB (evb rfl e3a) rfl) ?_
     obtain rfl:=sj f6d
     exact HJ343 _ _ ⟨(tk [uu,uu,uu,uu,uu,uu,uu]),(by trivial),(by simp only [S0,S1]<;>rfl)⟩
   ·rintro l' _ ⟨t2a,rfl,hq'⟩ l'' hl
    rw [hq'] at hl
    clear hq'
    simp only [S0,S1] at hl
    subst hl
    refine Ad<|h9b _ _ ?_
    rcases bft m1b with e8a | e8a
    ·have p7d:=e8a
     have f8d:=ifP p7d f1c
     refine wp_cond_true (Ai (evb rfl e8a))<|wp_skip<|h8b _ _ ?_
     apply wp_block
     refine Ae<|sV (Aa rfl) ?_
     refine sV (Aa rfl) ?_
     refine sV (Ax AU rfl) ?_
     refine sV (AV (c:=wi64 ((v0a.length:Int) - 1)) rfl rfl rfl) ?_
     obtain ⟨_,h9d,f0e⟩:=Ab f8d
     have gd372:=Ay h9d
     refine KX (lo:=0) (hi:=((wi64 ((v0a.length:Int) - 1)):Int).toNat) AU An rfl rfl ⟨.i64,by rw [Int.toNat_of_nonneg (a:=(wi64 ((v0a.length:Int) - 1))) (by omega)];rfl⟩ (by omega) (by omega) n3b fun A2c c3c n1e=>?_
     refine nrm ?_
     refine sV (Ac rfl) ?_
     refine Ad ?_
     exact ih7c _ _ ⟨((List.drop 0 v0a).take ((((wi64 ((v0a.length:Int) - 1)):Int).toNat) - 0)),A2c,c3c,(tk [.slice A5a v0a.length c6a,.int .i64 (v0a.length:Int),.bool z7a,.bool z7a,t2a 0,t2a 1,t2a 2,t2a 3,t2a 4,t2a 5,t2a 6,.bool m1b,.slice A5a v0a.length c6a,.slice A5a v0a.length c6a,.int .i64 (v0a.length:Int),.int .i64 (wi64 ((v0a.length:Int) - 1)),.slice A2c (List.length ((List.drop 0 v0a).take ((((wi64 ((v0a.length:Int) - 1)):Int).toNat) - 0))) c3c]),(by trivial),n1e,f0e,(by simp only [S0,S1]<;>rfl)⟩
    ·have p2e:=bF e8a
     have f3e:=ifN p2e f1c
     refine wp_cond_false (Ai (evb rfl e8a))<|wp_exit ?_
     simp only [Exit.then,Exit.inBlock,↓reduceIte,Nat.reduceEqDiff]
     obtain rfl:=sj f3e
     exact ⟨_,rfl,A5a,c6a,(tk [.slice A5a v0a.length c6a,.int .i64 (v0a.length:Int),.bool z7a,.bool z7a,t2a 0,t2a 1,t2a 2,t2a 3,t2a 4,t2a 5,t2a 6,.bool m1b,t1a 12,t1a 13,t1a 14,t1a 15,t1a 16]),(by trivial),n3b,(by simp only [S0,S1]<;>rfl)⟩
 ·rintro l' _ ⟨A9a,c0b,t4a,rfl,n4e,hq'⟩ l'' hl
  rw [hq'] at hl
  clear hq'
  simp only [S0,S1] at hl
  subst hl
  refine h5 _ _<|wp_seq_k fun K4c h4c=>Ae<|sV (Aa rfl) ?_
  refine sV (Ac rfl) ?_
  refine Ad<|h4c _ _<|wp_ret ?_
  obtain rfl:=sj f6c
  exact fin rfl (Res.tmp rfl Res.nil) (Ak (Ext.refl _) ⟨A9a,c0b,rfl,n4e⟩)
theorem GG (x0:List Int) (x1:Int) (A1:Option Addr) (c2:Nat) (w:World) (hT:TB w) (n3:RLu w A1 c2 x0) (r:List Int) (hr:Dq x0 x1=some r) :
  Calls Tryz.prog 226 #[.slice A1 x0.length c2,.int .i64 x1] w (Ret JV w r):=by
 unfold Dq at hr
 go_enter Tryz.func226,Tryz.ntmps226
 refine wp_seq_k fun K4 h4=>Ae<|sV (Ac rfl) ?_
 refine Ad<|h4 _ _<|wp_seq_k fun K5 h5=>wp_seq_k fun K6 h6=>Ae<|sV (Aa rfl) ?_
 refine sV (Ax AU rfl) ?_
 refine sb (BE rfl rfl) fun z7 hz7=>?_
 refine nrm ?_
 refine Ad<|h6 _ _ ?_
 rcases bft z7 with e8a | e8a
 ·have p7d:=zP hz7 e8a
  have f8d:=ifP p7d hr
  refine wp_cond_true (Ai (evb rfl e8a))<|wp_seq_k fun K5b h5b=>Ae<|sV (Ac rfl) ?_
  refine Ad<|h5b _ _<|wp_ret ?_
  obtain rfl:=sj f8d
  exact fin rfl (Res.tmp rfl Res.nil) (Ak (Ext.refl _) ⟨none,0,rfl,(RL.nil _ _ _)⟩)
 ·have p9d:=zN hz7 e8a
  have f0e:=ifN p9d hr
  refine wp_cond_false (Ai (evb rfl e8a))<|wp_skip<|h5 _ _<|wp_seq_k fun K6b h6b=>Ae<|sV (Aa rfl) ?_
  refine sV (FP (c:=wi64 (x1.tdiv 32)) (by decide) rfl rfl rfl) ?_
  refine sV (Aa rfl) ?_
  refine sV (Ax AU rfl) ?_
  refine sV (AO (c:=wi64 ((wi64 (x1.tdiv 32))+(x0.length:Int))) rfl rfl rfl) ?_
  refine sV (AO (c:=wi64 ((wi64 ((wi64 (x1.tdiv 32))+(x0.length:Int)))+1)) rfl rfl rfl) ?_
  obtain ⟨_,h1e,f2e⟩:=Ab f0e
  have gd22:=Ay h1e
  refine Gx AU CO rfl rfl gd22 fun A5a w1 E3e ow4e=>?_
  refine nrm ?_
  refine sV (Ac rfl) ?_
  refine Ad<|h6b _ _<|wp_seq_k fun K7b h7b=>Ae<|sV (Ac rfl) ?_
  refine Ad<|h7b _ _<|wp_seq_k fun K8b h8b=>wp_seq_k fun K9b h9b=>Ae<|sV (Aa rfl) ?_
  refine sV (Ax AU rfl) ?_
  refine sV (Aa rfl) ?_
  refine Ad<|h9b _ _ ?_
  obtain ⟨m6a,h5e,f6e⟩:=Ab f2e
  refine BZ (fun l l' w'=>∃(t1a:Nat→Value),Ext w w'∧OW 179 w.heap.size w' A5a (((wi64 ((wi64 ((wi64 (x1.tdiv 32))+(x0.length:Int)))+1)):Int).toNat) (((wi64 ((wi64 ((wi64 (x1.tdiv 32))+(x0.length:Int)))+1)):Int).toNat) m6a.2∧l'=[.slice A1 x0.length c2,.int .i64 x1,uu,uu,.slice none 0 0,.slice A5a (((wi64 ((wi64 ((wi64 (x1.tdiv 32))+(x0.length:Int)))+1)):Int).toNat) (((wi64 ((wi64 ((wi64 (x1.tdiv 32))+(x0.length:Int)))+1)):Int).toNat),.int .u64 m6a.1,t1a 0,t1a 1,.slice A1 x0.length c2,.int .i64 (x0.length:Int),.bool z7,.int .i64 x1,.int .i64 (wi64 (x1.tdiv 32)),.slice A1 x0.length c2,.int .i64 (x0.length:Int),.int .i64 (wi64 ((wi64 (x1.tdiv 32))+(x0.length:Int))),.int .i64 (wi64 ((wi64 ((wi64 (x1.tdiv 32))+(x0.length:Int)))+1)),.slice A5a (((wi64 ((wi64 ((wi64 (x1.tdiv 32))+(x0.length:Int)))+1)):Int).toNat) (((wi64 ((wi64 ((wi64 (x1.tdiv 32))+(x0.length:Int)))+1)):Int).toNat),.slice A1 x0.length c2,.int .i64 (x0.length:Int),t1a 2,t1a 3,t1a 4,t1a 5,t1a 6,t1a 7,t1a 8,t1a 9,t1a 10,t1a 11,t1a 12,t1a 13,t1a 14,t1a 15,t1a 16,t1a 17,t1a 18,t1a 19,t1a 20,t1a 21,t1a 22,t1a 23,t1a 24,uu,uu,uu,uu,uu,uu,uu,uu,uu]) ?_ ?_
  ·apply wp_block
   refine AR (fun l n0c l' w'=>∃(v4a:Int) (v2a:Int) (v9a:List Int) (t0a:Nat→Value),Ext w w'∧OW 179 w.heap.size w' A5a (((wi64 ((wi64 ((wi64 (x1.tdiv 32))+(x0.length:Int)))+1)):Int).toNat) (((wi64 ((wi64 ((wi64 (x1.tdiv 32))+(x0.length:Int)))+1)):Int).toNat) v9a∧Dh x0 x1 n0c v4a v2a v9a=some m6a∧l'=[.slice A1 x0.length c2,.int .i64 x1,uu,uu,.slice none 0 0,.slice A5a (((wi64 ((wi64 ((wi64 (x1.tdiv 32))+(x0.length:Int)))+1)):Int).toNat) (((wi64 ((wi64 ((wi64 (x1.tdiv 32))+(x0.length:Int)))+1)):Int).toNat),.int .u64 v4a,t0a 0,t0a 1,.slice A1 x0.length c2,.int .i64 (x0.length:Int),.bool z7,.int .i64 x1,.int .i64 (wi64 (x1.tdiv 32)),.slice A1 x0.length c2,.int .i64 (x0.length:Int),.int .i64 (wi64 ((wi64 (x1.tdiv 32))+(x0.length:Int))),.int .i64 (wi64 ((wi64 ((wi64 (x1.tdiv 32))+(x0.length:Int)))+1)),.slice A5a (((wi64 ((wi64 ((wi64 (x1.tdiv 32))+(x0.length:Int)))+1)):Int).toNat) (((wi64 ((wi64 ((wi64 (x1.tdiv 32))+(x0.length:Int)))+1)):Int).toNat),.slice A1 x0.length c2,.int .i64 (x0.length:Int),.int .i64 v2a,t0a 2,t0a 3,t0a 4,t0a 5,t0a 6,t0a 7,t0a 8,t0a 9,t0a 10,t0a 11,t0a 12,t0a 13,t0a 14,t0a 15,t0a 16,t0a 17,t0a 18,t0a 19,t0a 20,t0a 21,t0a 22,t0a 23,uu,uu,uu,uu,uu,uu,uu,uu,uu]) 18446744073709551616 ?_ ?_ ?_
   ·exact ⟨0,0,(List.replicate ((wi64 ((wi64 ((wi64 (x1.tdiv 32))+(x0.length:Int)))+1)):Int).toNat (0:Int)),(tk [uu,uu,uu,uu,uu,uu,uu,uu,uu,uu,uu,uu,uu,uu,uu,uu,uu,uu,uu,uu,uu,uu,uu,uu]),E3e,ow4e,h5e,rfl⟩
   ·rintro l' w' ⟨v4a,v2a,v9a,t0a,_,_,hz,_⟩
    exact nomatch hz
   ·rintro n0c ih7e _ w2 ⟨v4a,v2a,v9a,t0a,X2b,ow1b,hr3b,rfl⟩ _ rfl
    unfold Dh at hr3b
    refine Ba<|wp_seq_k fun K1c h1c=>Ae<|sb (CK rfl rfl) fun z7a hz7a=>?_
    refine nrm ?_
    refine Ad<|h1c _ _<|wp_seq_k fun K2c h2c=>?_
    rcases bft z7a with e0b | e0b
    ·have p8e:=zP hz7a e0b
     have f9e:=ifP p8e hr3b
     refine wp_cond_true (Ai (evb rfl e0b))<|wp_skip<|h2c _ _<|wp_seq_k fun K3c h3c=>?_
     apply wp_block
     refine wp_seq_k fun K4c h4c=>Ae<|sV (Aa rfl) ?_
     obtain ⟨u3a,h0f,f1f⟩:=Ab f9e
     obtain ⟨bb296,oo297,hA2f,ia3f,ib4f,hc299⟩:=RL.nth (n3.ext X2b) h0f
     refine sV (Ar AU An rfl rfl hA2f ia3f ib4f) ?_
     refine sV (Ag AN rfl hc299) ?_
     refine sV (Ac rfl) ?_
     refine sV (Ac rfl) ?_
     refine Ad<|h4c _ _<|wp_seq_k fun K5c h5c=>Ae<|sV (Aa rfl) ?_
     refine sV (Aa rfl) ?_
     refine sV (AG (c:=wu64 u3a) AH AF rfl rfl) ?_
     refine sV (Aa rfl) ?_
     refine sV (HH (c:=x1.tmod 32) (by decide) rfl rfl rfl) ?_
     obtain ⟨_,h5f,f6f⟩:=Ab f1f
     have gd306:=Ay h5f
     refine sV (HM (c:=wu64 ((wu64 u3a)*2^min ((x1.tmod 32):Int).toNat IntKind.u64.bits)) gd306 rfl rfl rfl) ?_
     refine sV (Lg rfl rfl) ?_
     refine sV (Ac rfl) ?_
     refine Ad<|h5c _ _<|wp_seq_k fun K6c h6c=>Ae<|sV (Aa rfl) ?_
     refine sV (Aa rfl) ?_
     refine sV (FP (c:=wi64 (x1.tdiv 32)) (by decide) rfl rfl rfl) ?_
     refine sV (Aa rfl) ?_
     refine sV (AO (c:=wi64 ((wi64 (x1.tdiv 32))+v2a)) rfl rfl rfl) ?_
     refine sV (Aa rfl) ?_
     refine sV (AG (c:=wu32 (bor .u64 v4a (wu64 ((wu64 u3a)*2^min ((x1.tmod 32):Int).toNat IntKind.u64.bits)))) AF AH rfl rfl) ?_
     obtain ⟨u4h,h7f,f8f⟩:=Ab f6f
     obtain ⟨bb311,hA7c,hz5h,ia8c,ib9c,hc316⟩:=OW.nthc ow1b h7f
     refine sV (Ar AU An rfl rfl hA7c ia8c ib9c) ?_
     refine JQ An rfl rfl ow1b hA7c ia8c (by rw [OW.len ow1b];exact ib9c) fun w3 B317 U6h ow9f=>?_
     have X0g:=xO X2b B317 (Nat.le_refl _)
     refine Ad<|h6c _ _<|Ae<|sV (Aa rfl) ?_
     refine sV (Gu (c:=(bor .u64 v4a (wu64 ((wu64 u3a)*2^min ((x1.tmod 32):Int).toNat IntKind.u64.bits))).fdiv (2^min (32:Int).toNat IntKind.u64.bits)) (by decide) rfl rfl rfl) ?_
     refine sV (Ac rfl) ?_
     refine Ad<|h3c _ _<|Ae<|sV (AO (c:=wi64 (v2a+1)) rfl rfl rfl) ?_
     refine sV (Aa rfl) ?_
     refine Ad ?_
     exact ih7e _ _ ⟨((bor .u64 v4a (wu64 ((wu64 u3a)*2^min ((x1.tmod 32):Int).toNat IntKind.u64.bits))).fdiv (2^min (32:Int).toNat IntKind.u64.bits)),(wi64 (v2a+1)),(List.set v9a ((wi64 ((wi64 (x1.tdiv 32))+v2a)):Int).toNat (wu32 (bor .u64 v4a (wu64 ((wu64 u3a)*2^min ((x1.tmod 32):Int).toNat IntKind.u64.bits))))),(tk [.int .i64 v2a,.int .u32 u3a,.bool z7a,.int .i64 v2a,.pointer (some ⟨bb296,oo297+(v2a:Int).toNat,none⟩),.int .u32 u3a,.int .u64 v4a,.int .u32 u3a,.int .u64 (wu64 u3a),.int .i64 x1,.int .i64 (x1.tmod 32),.int .u64 (wu64 ((wu64 u3a)*2^min ((x1.tmod 32):Int).toNat IntKind.u64.bits)),.int .u64 (bor .u64 v4a (wu64 ((wu64 u3a)*2^min ((x1.tmod 32):Int).toNat IntKind.u64.bits))),.slice A5a (((wi64 ((wi64 ((wi64 (x1.tdiv 32))+(x0.length:Int)))+1)):Int).toNat) (((wi64 ((wi64 ((wi64 (x1.tdiv 32))+(x0.length:Int)))+1)):Int).toNat),.int .i64 x1,.int .i64 (wi64 (x1.tdiv 32)),.int .i64 v2a,.int .i64 (wi64 ((wi64 (x1.tdiv 32))+v2a)),.int .u64 (bor .u64 v4a (wu64 ((wu64 u3a)*2^min ((x1.tmod 32):Int).toNat IntKind.u64.bits))),.int .u32 (wu32 (bor .u64 v4a (wu64 ((wu64 u3a)*2^min ((x1.tmod 32):Int).toNat IntKind.u64.bits)))),.pointer (some ⟨bb311,0+((wi64 ((wi64 (x1.tdiv 32))+v2a)):Int).toNat,none⟩),.int .u64 (bor .u64 v4a (wu64 ((wu64 u3a)*2^min ((x1.tmod 32):Int).toNat IntKind.u64.bits))),.int .u64 ((bor .u64 v4a (wu64 ((wu64 u3a)*2^min ((x1.tmod 32):Int).toNat IntKind.u64.bits))).fdiv (2^min (32:Int).toNat IntKind.u64.bits)),.int .i64 (wi64 (v2a+1))]),X0g,ow9f,f8f,rfl⟩
    ·have p1g:=zN hz7a e0b
     have f2g:=ifN p1g hr3b
     refine wp_cond_false (Ai (evb rfl e0b))<|wp_exit ?_
     simp only [Exit.then,Exit.inBlock,↓reduceIte,Nat.reduceEqDiff]
     obtain rfl:=sj f2g
     exact ⟨_,rfl,(tk [t0a 0,t0a 1,.int .i64 v2a,.bool z7a,t0a 3,t0a 4,t0a 5,t0a 6,t0a 7,t0a 8,t0a 9,t0a 10,t0a 11,t0a 12,t0a 13,t0a 14,t0a 15,t0a 16,t0a 17,t0a 18,t0a 19,t0a 20,t0a 21,t0a 22,t0a 23]),X2b,ow1b,rfl⟩
  ·rintro _ w2 ⟨t1a,X3g,ow4b,rfl⟩ _ rfl
   refine h8b _ _<|wp_seq_k fun K0d h0d=>Ae<|sV (Aa rfl) ?_
   refine sV (Aa rfl) ?_
   refine sV (Ax AU rfl) ?_
   refine sV (AV (c:=wi64 ((((((wi64 ((wi64 ((wi64 (x1.tdiv 32))+(x0.length:Int)))+1)):Int).toNat):Nat):Int) - 1)) rfl rfl rfl) ?_
   refine sV (Aa rfl) ?_
   refine sV (AG (c:=wu32 m6a.1) AF AH rfl rfl) ?_
   obtain ⟨u7h,h4g,f5g⟩:=Ab f6e
   obtain ⟨bb325,hA1d,hz8h,ia2d,ib3d,hc330⟩:=OW.nthc ow4b h4g
   refine sV (Ar AU An rfl rfl hA1d ia2d ib3d) ?_
   refine JQ An rfl rfl ow4b hA1d ia2d (by rw [OW.len ow4b];exact ib3d) fun w3 B331 U9h ow4d=>?_
   have X5d:=xO X3g B331 (Nat.le_refl _)
   refine Ad<|h0d _ _<|wp_seq_k fun K6d h6d=>Ae<|sV (Aa rfl) ?_
   obtain ⟨r6g,h7g,f8g⟩:=Ab f5g
   refine sc (Af Kl (by simp only [OW.len ow4d];rfl)) (EM (List.set m6a.2 ((wi64 ((((((wi64 ((wi64 ((wi64 (x1.tdiv 32))+(x0.length:Int)))+1)):Int).toNat):Nat):Int) - 1)):Int).toNat (wu32 m6a.1)) A5a (((wi64 ((wi64 ((wi64 (x1.tdiv 32))+(x0.length:Int)))+1)):Int).toNat) w3 (tbx X5d hT) (OW.rl ow4d) r6g h7g) ?_
   rintro _ w4 E9g ⟨A0h,c1h,rfl,n2h⟩
   refine nrm ?_
   have X3h:=xtr X5d E9g
   refine sV (Ac rfl) ?_
   refine Ad<|h6d _ _<|wp_ret ?_
   obtain rfl:=sj f8g
   exact fin rfl (Res.tmp rfl Res.nil) (Ak X3h ⟨A0h,c1h,rfl,n2h⟩)
end Go.Proofs.Lf

