import Derived.Test.YtabiobmfelafoaaGreatDoorLeafG
import Derived.Test.YtabiobmfelafoaaGreatDoorLeaf2
namespace Go.Proofs.Lf
set_option linter.unusedVariables false
set_option linter.unusedSimpArgs false
set_option maxHeartbeats 4000000
open Go.RowKit Go.Sb Go.Proofs Go.Proofs.Sbn
def Ev (x0:List Int) (x1:List Int) (v3906:Int) (u4308:Int):Nat→Int→Int→List Int→Option (Int × List Int)
 | 0,_,_,_=>none
 | n4601+1,v4612,v4613,v4614=>
 if v4613<((List.length x1:Int)) then (nth x1 v4613).bind fun u4632=>
 (nth v4614 ((wi64 (v3906+v4613)))).bind fun u4643=>
 (nth v4614 ((wi64 (v3906+v4613)))).bind fun u4653=>
 Ev x0 x1 v3906 u4308 n4601 ((wu64 (v4612+((wu64 (((wu64 (((wu64 u4308))*((wu64 u4632)))))+((wu64 u4643))))))).fdiv (2^min (32:Int).toNat IntKind.u64.bits)) (wi64 (v4613+1)) (List.set v4614 ((wi64 (v3906+v4613)):Int).toNat (wu32 ((wu64 (v4612+((wu64 (((wu64 (((wu64 u4308))*((wu64 u4632)))))+((wu64 u4643)))))))))) else some (v4612,v4614)
def Es (x0:List Int) (x1:List Int):Nat→Int→List Int→Option (List Int)
 | 0,_,_=>none
 | n3896+1,v3906,v3907=>
 if v3906<((List.length x0:Int)) then ((nth x0 v3906).bind fun u4308=>
 (Ev x0 x1 v3906 u4308 18446744073709551616 0 0 v3907).bind fun m4488=>
 (nth m4488.2 ((wi64 (v3906+((List.length x1:Int)))))).bind fun u4666=>
 some ((List.set m4488.2 ((wi64 (v3906+((List.length x1:Int)))):Int).toNat (wu32 m4488.1)))).bind fun m4296=>
 Es x0 x1 n3896 (wi64 (v3906+1)) m4296 else some (v3907)
def CD (x0:List Int) (x1:List Int):Option (List Int):=
 (gd (0≤((wi64 (((List.length x0:Int))+((List.length x1:Int)))):Int)∧((wi64 (((List.length x0:Int))+((List.length x1:Int)))):Int)≤((wi64 (((List.length x0:Int))+((List.length x1:Int)))):Int)∧((wi64 (((List.length x0:Int))+((List.length x1:Int)))):Int)≤70368744177664)).bind fun _=>
 (Es x0 x1 18446744073709551616 0 (List.replicate ((wi64 (((List.length x0:Int))+((List.length x1:Int)))):Int).toNat (0:Int))).bind fun m2343=>
 (BQ m2343).bind fun r4680=>
 some r4680
theorem ID (x0:List Int) (x1:List Int) (A1:Option Addr) (c2:Nat) (A4:Option Addr) (c5:Nat) (w:World) (hT:TB w) (n3:RLu w A1 c2 x0) (n6:RLu w A4 c5 x1) (r:List Int) (hr:CD x0 x1=some r) :
  Calls Tryz.prog 294 #[.slice A1 (List.length x0) c2,.slice A4 (List.length x1) c5] w (Ret Kx w r):=by
 unfold CD at hr
 go_enter Tryz.func294,Tryz.ntmps294
 refine wp_seq_k ?_
 intro K7 h7
 refine Ah ?_
 refine sV (Ab rfl) ?_
 refine AF ?_
 refine h7 _ _ ?_
 refine wp_seq_k ?_
 intro K8 h8
 refine Ah ?_
 refine sV (Aa rfl) ?_
 refine sV (AD AG rfl) ?_
 refine sV (Aa rfl) ?_
 refine sV (AD AG rfl) ?_
 refine sV (AV (c:=wi64 (((List.length x0:Int))+((List.length x1:Int)))) rfl rfl rfl) ?_
 obtain ⟨_,h9,f10⟩:=Ad hr
 have gd11:=AI h9
 refine IH AG ER rfl rfl gd11 ?_
 intro A12 w1 E13 ow14
 refine nrm ?_
 refine sV (Ab rfl) ?_
 refine AF ?_
 refine h8 _ _ ?_
 refine wp_seq_k ?_
 intro K16 h16
 refine wp_seq_k ?_
 intro K17 h17
 refine Ah ?_
 refine sV (Aa rfl) ?_
 refine sV (AD AG rfl) ?_
 refine sV (Aa rfl) ?_
 refine AF ?_
 refine h17 _ _ ?_
 obtain ⟨m2343,h2344,f2345⟩:=Ad f10
 refine CG (fun l l' w'=>Ext w w'∧OW 179 w.heap.size w' A12 (((wi64 (((List.length x0:Int))+((List.length x1:Int)))):Int).toNat) (((wi64 (((List.length x0:Int))+((List.length x1:Int)))):Int).toNat) m2343∧Fr l' (fun t2350=>gp t2350 0 5 (.slice A12 ((((wi64 (((List.length x0:Int))+((List.length x1:Int)))):Int).toNat)) (((wi64 (((List.length x0:Int))+((List.length x1:Int)))):Int).toNat)::gp t2350 6 61 []))) ?_ ?_
 ·apply wp_block
  refine Bp (fun l n3896 l' w'=>∃(v3906:Int) (v3907:List Int),Ext w w'∧OW 179 w.heap.size w' A12 (((wi64 (((List.length x0:Int))+((List.length x1:Int)))):Int).toNat) (((wi64 (((List.length x0:Int))+((List.length x1:Int)))):Int).toNat) v3907∧Es x0 x1 n3896 v3906 v3907=some m2343∧Fr l' (fun t3905=>gp t3905 0 1 (.slice A4 (List.length x1) c5::gp t3905 2 3 (.slice A12 ((((wi64 (((List.length x0:Int))+((List.length x1:Int)))):Int).toNat)) (((wi64 (((List.length x0:Int))+((List.length x1:Int)))):Int).toNat)::gp t3905 6 11 (.slice A1 (List.length x0) c2::.int .i64 ((List.length x0:Int))::.int .i64 v3906::gp t3905 20 47 []))))) 18446744073709551616 ?_ ?_ ?_
  ·exact ⟨0,(List.replicate ((wi64 (((List.length x0:Int))+((List.length x1:Int)))):Int).toNat (0:Int)),E13,ow14,h2344,(Fr.mk (by kernel_rfl))⟩
  ·rintro l' w' ⟨v3906,v3907,_,_,hz,_⟩
   exact nomatch hz
  ·rintro n3896 ih3897 _ w2 ⟨v3906,v3907,X3908,ow3909,hr3898,⟨t3905,rfl⟩⟩ l'' hl
   simp only [gp,Nat.reduceAdd] at hl
   subst hl
   unfold Es at hr3898
   refine AW ?_
   refine wp_seq_k ?_
   intro K3910 h3910
   refine Ah ?_
   refine sb (Bv rfl rfl) ?_
   intro z3911 hz3911
   refine nrm ?_
   refine AF ?_
   refine h3910 _ _ ?_
   refine wp_seq_k ?_
   intro K3912 h3912
   rcases Bool.eq_false_or_eq_true z3911 with e3918 | e3918
   ·have p3921:=zP hz3911 e3918
    have f3922:=ifP p3921 hr3898
    refine wp_cond_true (CF (evb rfl e3918)) ?_
    refine wp_skip ?_
    refine h3912 _ _ ?_
    refine wp_seq_k ?_
    intro K3923 h3923
    obtain ⟨m4296,h4297,f4298⟩:=Ad f3922
    refine CG (fun l l' w'=>Ext w w'∧OW 179 w.heap.size w' A12 (((wi64 (((List.length x0:Int))+((List.length x1:Int)))):Int).toNat) (((wi64 (((List.length x0:Int))+((List.length x1:Int)))):Int).toNat) m4296∧Fr l' (fun t4303=>gp t4303 0 1 (.slice A4 (List.length x1) c5::gp t4303 2 3 (.slice A12 ((((wi64 (((List.length x0:Int))+((List.length x1:Int)))):Int).toNat)) (((wi64 (((List.length x0:Int))+((List.length x1:Int)))):Int).toNat)::gp t4303 6 11 (.slice A1 (List.length x0) c2::.int .i64 ((List.length x0:Int))::.int .i64 v3906::gp t4303 20 47 []))))) ?_ ?_
    ·apply wp_block
     refine wp_seq_k ?_
     intro K4307 h4307
     refine Ah ?_
     refine sV (Aa rfl) ?_
     obtain ⟨u4308,h4309,f4310⟩:=Ad h4297
     obtain ⟨bb4311,oo4312,hA4313,ia4315,ib4316,hc4314⟩:=RL.nth (n3.ext X3908) h4309
     refine sV (AA AG Av rfl rfl hA4313 ia4315 ib4316) ?_
     refine sV (Ag AZ rfl hc4314) ?_
     refine sV (Ab rfl) ?_
     refine sV (Ab rfl) ?_
     refine AF ?_
     refine h4307 _ _ ?_
     refine wp_seq_k ?_
     intro K4318 h4318
     refine Ah ?_
     refine sV (Ab rfl) ?_
     refine AF ?_
     refine h4318 _ _ ?_
     refine wp_seq_k ?_
     intro K4319 h4319
     refine wp_seq_k ?_
     intro K4320 h4320
     refine Ah ?_
     refine sV (Aa rfl) ?_
     refine sV (AD AG rfl) ?_
     refine sV (Aa rfl) ?_
     refine AF ?_
     refine h4320 _ _ ?_
     obtain ⟨m4488,h4489,f4490⟩:=Ad f4310
     refine CG (fun l l' w'=>Ext w w'∧OW 179 w.heap.size w' A12 (((wi64 (((List.length x0:Int))+((List.length x1:Int)))):Int).toNat) (((wi64 (((List.length x0:Int))+((List.length x1:Int)))):Int).toNat) m4488.2∧Fr l' (fun t4495=>gp t4495 0 1 (.slice A4 (List.length x1) c5::gp t4495 2 3 (.slice A12 ((((wi64 (((List.length x0:Int))+((List.length x1:Int)))):Int).toNat)) (((wi64 (((List.length x0:Int))+((List.length x1:Int)))):Int).toNat)::.int .i64 v3906::gp t4495 7 1 (.int .u64 m4488.1::gp t4495 9 8 (.slice A1 (List.length x0) c2::.int .i64 ((List.length x0:Int))::.int .i64 v3906::gp t4495 20 47 [])))))) ?_ ?_
     ·apply wp_block
      refine Bp (fun l n4601 l' w'=>∃(v4612:Int) (v4613:Int) (v4614:List Int),Ext w w'∧OW 179 w.heap.size w' A12 (((wi64 (((List.length x0:Int))+((List.length x1:Int)))):Int).toNat) (((wi64 (((List.length x0:Int))+((List.length x1:Int)))):Int).toNat) v4614∧Ev x0 x1 v3906 u4308 n4601 v4612 v4613 v4614=some m4488∧Fr l' (fun t4611=>gp t4611 0 1 (.slice A4 (List.length x1) c5::gp t4611 2 3 (.slice A12 ((((wi64 (((List.length x0:Int))+((List.length x1:Int)))):Int).toNat)) (((wi64 (((List.length x0:Int))+((List.length x1:Int)))):Int).toNat)::.int .i64 v3906::.int .u32 u4308::.int .u64 v4612::gp t4611 9 8 (.slice A1 (List.length x0) c2::.int .i64 ((List.length x0:Int))::.int .i64 v3906::gp t4611 20 4 (.slice A4 (List.length x1) c5::.int .i64 ((List.length x1:Int))::.int .i64 v4613::gp t4611 27 40 [])))))) 18446744073709551616 ?_ ?_ ?_
      ·exact ⟨0,0,v3907,X3908,ow3909,h4489,(Fr.mk (by kernel_rfl))⟩
      ·rintro l' w' ⟨v4612,v4613,v4614,_,_,hz,_⟩
       exact nomatch hz
      ·rintro n4601 ih4602 _ w3 ⟨v4612,v4613,v4614,X4615,ow4616,hr4603,⟨t4611,rfl⟩⟩ l'' hl
       simp only [gp,Nat.reduceAdd] at hl
       subst hl
       unfold Ev at hr4603
       refine AW ?_
       refine wp_seq_k ?_
       intro K4617 h4617
       refine Ah ?_
       refine sb (Bv rfl rfl) ?_
       intro z4618 hz4618
       refine nrm ?_
       refine AF ?_
       refine h4617 _ _ ?_
       refine wp_seq_k ?_
       intro K4619 h4619
       rcases Bool.eq_false_or_eq_true z4618 with e4625 | e4625
       ·have p4628:=zP hz4618 e4625
        have f4629:=ifP p4628 hr4603
        refine wp_cond_true (CF (evb rfl e4625)) ?_
        refine wp_skip ?_
        refine h4619 _ _ ?_
        refine wp_seq_k ?_
        intro K4630 h4630
        apply wp_block
        refine wp_seq_k ?_
        intro K4631 h4631
        refine Ah ?_
        refine sV (Aa rfl) ?_
        obtain ⟨u4632,h4633,f4634⟩:=Ad f4629
        obtain ⟨bb4635,oo4636,hA4637,ia4639,ib4640,hc4638⟩:=RL.nth (n6.ext X4615) h4633
        refine sV (AA AG Av rfl rfl hA4637 ia4639 ib4640) ?_
        refine sV (Ag AZ rfl hc4638) ?_
        refine sV (Ab rfl) ?_
        refine sV (Ab rfl) ?_
        refine AF ?_
        refine h4631 _ _ ?_
        refine wp_seq_k ?_
        intro K4642 h4642
        refine Ah ?_
        refine sV (Aa rfl) ?_
        refine sV (Aa rfl) ?_
        refine sV (AO (c:=wu64 u4308) AQ AN rfl rfl) ?_
        refine sV (Aa rfl) ?_
        refine sV (AO (c:=wu64 u4632) AQ AN rfl rfl) ?_
        refine sV (KS (c:=wu64 (((wu64 u4308))*((wu64 u4632)))) rfl rfl rfl) ?_
        refine sV (Aa rfl) ?_
        refine sV (Aa rfl) ?_
        refine sV (Aa rfl) ?_
        refine sV (AV (c:=wi64 (v3906+v4613)) rfl rfl rfl) ?_
        obtain ⟨u4643,h4644,f4645⟩:=Ad f4634
        obtain ⟨bb4646,hA4647,hz4648,ia4649,ib4650,hc4651⟩:=OW.nthc ow4616 h4644
        refine sV (AA AG Av rfl rfl hA4647 ia4649 ib4650) ?_
        refine sV (Ag AZ rfl hc4651) ?_
        refine sV (AO (c:=wu64 u4643) AQ AN rfl rfl) ?_
        refine sV (AV (c:=wu64 (((wu64 (((wu64 u4308))*((wu64 u4632)))))+((wu64 u4643)))) rfl rfl rfl) ?_
        refine sV (AV (c:=wu64 (v4612+((wu64 (((wu64 (((wu64 u4308))*((wu64 u4632)))))+((wu64 u4643))))))) rfl rfl rfl) ?_
        refine sV (Ab rfl) ?_
        refine AF ?_
        refine h4642 _ _ ?_
        refine wp_seq_k ?_
        intro K4652 h4652
        refine Ah ?_
        refine sV (Aa rfl) ?_
        refine sV (Aa rfl) ?_
        refine sV (Aa rfl) ?_
        refine sV (AV (c:=wi64 (v3906+v4613)) rfl rfl rfl) ?_
        refine sV (Aa rfl) ?_
        refine sV (AO (c:=wu32 ((wu64 (v4612+((wu64 (((wu64 (((wu64 u4308))*((wu64 u4632)))))+((wu64 u4643))))))))) AN AQ rfl rfl) ?_
        obtain ⟨u4653,h4654,f4655⟩:=Ad f4645
        obtain ⟨bb4656,hA4657,hz4658,ia4659,ib4660,hc4661⟩:=OW.nthc ow4616 h4654
        refine sV (AA AG Av rfl rfl hA4657 ia4659 ib4660) ?_
        refine MW Av rfl rfl ow4616 hA4657 ia4659 (by rw [OW.len ow4616];exact ib4660) ?_
        intro w4 B4662 U4663 ow4664
        have X4665:=xO X4615 B4662 (Nat.le_refl _)
        refine AF ?_
        refine h4652 _ _ ?_
        refine Ah ?_
        refine sV (Aa rfl) ?_
        refine sV (IX (c:=(wu64 (v4612+((wu64 (((wu64 (((wu64 u4308))*((wu64 u4632)))))+((wu64 u4643))))))).fdiv (2^min (32:Int).toNat IntKind.u64.bits)) (by decide) rfl rfl rfl) ?_
        refine sV (Ab rfl) ?_
        refine AF ?_
        refine h4630 _ _ ?_
        refine Ah ?_
        refine sV (AV (c:=wi64 (v4613+1)) rfl rfl rfl) ?_
        refine sV (Aa rfl) ?_
        refine AF ?_
        exact ih4602 _ _ ⟨((wu64 (v4612+((wu64 (((wu64 (((wu64 u4308))*((wu64 u4632)))))+((wu64 u4643))))))).fdiv (2^min (32:Int).toNat IntKind.u64.bits)),(wi64 (v4613+1)),(List.set v4614 ((wi64 (v3906+v4613)):Int).toNat (wu32 ((wu64 (v4612+((wu64 (((wu64 (((wu64 u4308))*((wu64 u4632)))))+((wu64 u4643)))))))))),X4665,ow4664,f4655,(Fr.mk (by kernel_rfl))⟩
       ·have p4626:=zN hz4618 e4625
        have f4627:=ifN p4626 hr4603
        refine wp_cond_false (CF (evb rfl e4625)) ?_
        refine wp_exit ?_
        simp only [Exit.then,Exit.inBlock,↓reduceIte,Nat.reduceEqDiff]
        obtain rfl:=Option.some.inj f4627
        exact ⟨_,rfl,X4615,ow4616,(Fr.mk (by kernel_rfl))⟩
     ·rintro _ w3 ⟨X4496,ow4497,⟨t4495,rfl⟩⟩ l'' hl
      simp only [gp,Nat.reduceAdd] at hl
      subst hl
      refine h4319 _ _ ?_
      refine Ah ?_
      refine sV (Aa rfl) ?_
      refine sV (Aa rfl) ?_
      refine sV (Aa rfl) ?_
      refine sV (AD AG rfl) ?_
      refine sV (AV (c:=wi64 (v3906+((List.length x1:Int)))) rfl rfl rfl) ?_
      refine sV (Aa rfl) ?_
      refine sV (AO (c:=wu32 m4488.1) AN AQ rfl rfl) ?_
      obtain ⟨u4666,h4667,f4668⟩:=Ad f4490
      obtain ⟨bb4669,hA4670,hz4671,ia4672,ib4673,hc4674⟩:=OW.nthc ow4497 h4667
      refine sV (AA AG Av rfl rfl hA4670 ia4672 ib4673) ?_
      refine MW Av rfl rfl ow4497 hA4670 ia4672 (by rw [OW.len ow4497];exact ib4673) ?_
      intro w4 B4675 U4676 ow4677
      have X4678:=xO X4496 B4675 (Nat.le_refl _)
      refine AF ?_
      obtain rfl:=Option.some.inj f4668
      exact ⟨_,rfl,X4678,ow4677,(Fr.mk (by kernel_rfl))⟩
    ·rintro _ w3 ⟨X4304,ow4305,⟨t4303,rfl⟩⟩ l'' hl
     simp only [gp,Nat.reduceAdd] at hl
     subst hl
     refine h3923 _ _ ?_
     refine Ah ?_
     refine sV (AV (c:=wi64 (v3906+1)) rfl rfl rfl) ?_
     refine sV (Aa rfl) ?_
     refine AF ?_
     exact ih3897 _ _ ⟨(wi64 (v3906+1)),m4296,X4304,ow4305,f4298,(Fr.mk (by kernel_rfl))⟩
   ·have p3919:=zN hz3911 e3918
    have f3920:=ifN p3919 hr3898
    refine wp_cond_false (CF (evb rfl e3918)) ?_
    refine wp_exit ?_
    simp only [Exit.then,Exit.inBlock,↓reduceIte,Nat.reduceEqDiff]
    obtain rfl:=Option.some.inj f3920
    exact ⟨_,rfl,X3908,ow3909,(Fr.mk (by kernel_rfl))⟩
 ·rintro _ w2 ⟨X2351,ow2352,⟨t2350,rfl⟩⟩ l'' hl
  simp only [gp,Nat.reduceAdd] at hl
  subst hl
  refine h16 _ _ ?_
  refine wp_seq_k ?_
  intro K4679 h4679
  refine Ah ?_
  refine sV (Aa rfl) ?_
  obtain ⟨r4680,h4681,f4682⟩:=Ad f2345
  refine sc (Ac Lv (by simp only [OW.len ow2352];rfl)) (DE m2343 A12 (((wi64 (((List.length x0:Int))+((List.length x1:Int)))):Int).toNat) w2 (TB.ext X2351 hT) (OW.rl ow2352) r4680 h4681) ?_
  rintro _ w3 E4683 ⟨A4684,c4685,rfl,n4686⟩
  refine nrm ?_
  have X4687:=Ext.trans X2351 E4683
  refine sV (Ab rfl) ?_
  refine AF ?_
  refine h4679 _ _ ?_
  refine wp_ret ?_
  obtain rfl:=Option.some.inj f4682
  exact fin rfl (Res.tmp rfl Res.nil) (AJ X4687 ⟨A4684,c4685,rfl,n4686⟩)
end Go.Proofs.Lf
