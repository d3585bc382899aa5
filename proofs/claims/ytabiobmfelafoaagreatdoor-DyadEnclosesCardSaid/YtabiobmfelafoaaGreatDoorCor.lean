import Derived.Test.YtabiobmfelafoaaGreatDoorProg
import Derived.Test.YtabiobmfelafoaaGreatDoorJD
namespace Go.Proofs
set_option linter.unusedVariables false
open Go.RowKit Go.Sb Go.Proofs.Sbn
theorem CM:fieldAt Tryz.prog 121 0=some 0:=by kernel_rfl
theorem Aw:agg Tryz.prog 119 3=true:=by kernel_rfl
theorem Da:fieldAt Tryz.prog 121 1=some 3:=by kernel_rfl
def encs (a0 a1 a2 a3 a4 a5 b0 b1 b2 b3 b4 b5:Value):Nat→Array Value
 | 0=>#[.agg #[a0,a1,a2],.agg #[b0,b1,b2]]
 | 1=>#[.agg #[a0,a1,a2],.agg #[b3,b4,b5]]
 | 2=>#[.agg #[a3,a4,a5],.agg #[b0,b1,b2]]
 | _=>#[.agg #[a3,a4,a5],.agg #[b3,b4,b5]]
theorem Sh (a0 a1 a2 a3 a4 a5 b0 b1 b2 b3 b4 b5:Value) (ba bb:Nat) (I:Nat→World→Prop) (hb:∀i W,I i W→Bx W ba 121 [a0,a1,a2,a3,a4,a5]∧Bx W bb 121 [b0,b1,b2,b3,b4,b5]) :
  QK Tryz.prog 183 #[.pointer (some ⟨ba,0,none⟩),.pointer (some ⟨bb,0,none⟩)] 4 (encs a0 a1 a2 a3 a4 a5 b0 b1 b2 b3 b4 b5) I:=by
 intro l J w0 hI hj0 hY
 replace hb:=fun {i W} (h:J i W)=>hb i W (hI i W h)
 show CallsIn _ _ _ _ #[.func (.yield l) #[] #[],.pointer (some ⟨ba,0,none⟩),.pointer (some ⟨bb,0,none⟩)] _ _
 refine QV Tryz.func183 rfl [.func (.yield l) #[] #[],.pointer (some ⟨ba,0,none⟩),.pointer (some ⟨bb,0,none⟩),undef,undef,undef,undef,undef,undef,undef,undef,undef,undef,undef,undef,undef,undef,undef,undef,undef,undef,undef,undef,undef,undef,undef,undef,undef,undef,undef,undef,undef,undef,undef] (by simp [Tryz.ntmps183]) ?_
 refine wpIn_region_lit ?_
 refine iv (v:=.func (.yield l) #[] #[]) (by rfl) (Aa rfl) (by simp only [S0,S1];rfl) ?_
 refine iv (by rfl) (Af (o':=0) CM rfl rfl) (by simp only [S0,S1];rfl) ?_
 refine iv (v:=.agg #[a0,a1,a2]) (by rfl) (HJ Aw rfl (hb hj0).1 (by simp only [List.drop_zero,List.take_succ_cons,List.take_zero]<;>rfl) rfl) (by simp only [S0,S1];rfl) ?_
 refine iv (by rfl) (Af (o':=0) CM rfl rfl) (by simp only [S0,S1];rfl) ?_
 refine iv (v:=.agg #[b0,b1,b2]) (by rfl) (HJ Aw rfl (hb hj0).2 (by simp only [List.drop_zero,List.take_succ_cons,List.take_zero]<;>rfl) rfl) (by simp only [S0,S1];rfl) ?_
 refine iy (J:=J 1) (by rfl) rfl (args:=[.agg #[a0,a1,a2],.agg #[b0,b1,b2]]) rfl (by simp only [S0,S1];rfl) (hY 0 _ (by decide) hj0) ?_
 intro w1 hj1
 refine iv (v:=.bool true) (by rfl) (Aa rfl) (by simp only [S0,S1];rfl) ?_
 refine iv (v:=.func (.yield l) #[] #[]) (by rfl) (Aa rfl) (by simp only [S0,S1];rfl) ?_
 refine iv (by rfl) (Af (o':=0) CM rfl rfl) (by simp only [S0,S1];rfl) ?_
 refine iv (v:=.agg #[a0,a1,a2]) (by rfl) (HJ Aw rfl (hb hj1).1 (by simp only [List.drop_zero,List.take_succ_cons,List.take_zero]<;>rfl) rfl) (by simp only [S0,S1];rfl) ?_
 refine iv (by rfl) (Af (o':=3) Da rfl rfl) (by simp only [S0,S1];rfl) ?_
 refine iv (v:=.agg #[b3,b4,b5]) (by rfl) (HJ Aw rfl (hb hj1).2 (by simp only [List.drop_succ_cons,List.drop_zero,List.take_succ_cons,List.take_zero]<;>rfl) rfl) (by simp only [S0,S1];rfl) ?_
 refine iy (J:=J 2) (by rfl) rfl (args:=[.agg #[a0,a1,a2],.agg #[b3,b4,b5]]) rfl (by simp only [S0,S1];rfl) (hY 1 _ (by decide) hj1) ?_
 intro w2 hj2
 refine iv (v:=.bool true) (by rfl) (Az rfl rfl) (by simp only [S0,S1];rfl) ?_
 refine iv (v:=.bool true) (by rfl) (Aa rfl) (by simp only [S0,S1];rfl) ?_
 refine iv (v:=.func (.yield l) #[] #[]) (by rfl) (Aa rfl) (by simp only [S0,S1];rfl) ?_
 refine iv (by rfl) (Af (o':=3) Da rfl rfl) (by simp only [S0,S1];rfl) ?_
 refine iv (v:=.agg #[a3,a4,a5]) (by rfl) (HJ Aw rfl (hb hj2).1 (by simp only [List.drop_succ_cons,List.drop_zero,List.take_succ_cons,List.take_zero]<;>rfl) rfl) (by simp only [S0,S1];rfl) ?_
 refine iv (by rfl) (Af (o':=0) CM rfl rfl) (by simp only [S0,S1];rfl) ?_
 refine iv (v:=.agg #[b0,b1,b2]) (by rfl) (HJ Aw rfl (hb hj2).2 (by simp only [List.drop_zero,List.take_succ_cons,List.take_zero]<;>rfl) rfl) (by simp only [S0,S1];rfl) ?_
 refine iy (J:=J 3) (by rfl) rfl (args:=[.agg #[a3,a4,a5],.agg #[b0,b1,b2]]) rfl (by simp only [S0,S1];rfl) (hY 2 _ (by decide) hj2) ?_
 intro w3 hj3
 refine iv (v:=.bool true) (by rfl) (Az rfl rfl) (by simp only [S0,S1];rfl) ?_
 refine iv (v:=.bool true) (by rfl) (Aa rfl) (by simp only [S0,S1];rfl) ?_
 refine iv (v:=.func (.yield l) #[] #[]) (by rfl) (Aa rfl) (by simp only [S0,S1];rfl) ?_
 refine iv (by rfl) (Af (o':=3) Da rfl rfl) (by simp only [S0,S1];rfl) ?_
 refine iv (v:=.agg #[a3,a4,a5]) (by rfl) (HJ Aw rfl (hb hj3).1 (by simp only [List.drop_succ_cons,List.drop_zero,List.take_succ_cons,List.take_zero]<;>rfl) rfl) (by simp only [S0,S1];rfl) ?_
 refine iv (by rfl) (Af (o':=3) Da rfl rfl) (by simp only [S0,S1];rfl) ?_
 refine iv (v:=.agg #[b3,b4,b5]) (by rfl) (HJ Aw rfl (hb hj3).2 (by simp only [List.drop_succ_cons,List.drop_zero,List.take_succ_cons,List.take_zero]<;>rfl) rfl) (by simp only [S0,S1];rfl) ?_
 refine iy (J:=J 4) (by rfl) rfl (args:=[.agg #[a3,a4,a5],.agg #[b3,b4,b5]]) rfl (by simp only [S0,S1];rfl) (hY 3 _ (by decide) hj3) ?_
 intro w4 hj4
 refine iv (v:=.bool true) (by rfl) (Az rfl rfl) (by simp only [S0,S1];rfl) ?_
 apply wpListIn_nil
 exact ⟨_,FE (rs:=[]) rfl Res.nil,⟨_,rfl⟩,hj4⟩
theorem Ma (a0 a1 a2 a3 a4 a5 b0 b1 b2 b3 b4 b5:Value) (w:World):Calls Tryz.prog 104 #[.agg #[a0,a1,a2,a3,a4,a5],.agg #[b0,b1,b2,b3,b4,b5]] w fun e w'=>Ext w w'∧∃b b',w.heap.size≤b∧w.heap.size≤b'∧b≠b'∧Bx w' b 121 [a0,a1,a2,a3,a4,a5]∧Bx w' b' 121 [b0,b1,b2,b3,b4,b5]∧e = .returned (.func (.func 183) #[] #[.pointer (some ⟨b,0,none⟩),.pointer (some ⟨b',0,none⟩)]):=by
 go_enter Tryz.func104,Tryz.ntmps104
 refine wp_seq_k ?_
 intro K1 h1
 refine Ah ?_
 refine Rr rfl rfl ?_
 intro b w1 E1 g1 q1
 refine nrm ?_
 refine Rr rfl rfl ?_
 intro b' w2 E2 g2 q2
 refine nrm ?_
 refine sV (Ab rfl) ?_
 refine AF ?_
 refine h1 _ _ ?_
 refine wp_seq_k ?_
 intro K2 h2
 refine Ah ?_
 refine sV (ME (vs:=[.pointer (some ⟨b,0,none⟩),.pointer (some ⟨b',0,none⟩)]) rfl) ?_
 refine sV (Ab rfl) ?_
 refine AF ?_
 refine h2 _ _ ?_
 refine wp_ret ?_
 exact fin rfl (Res.tmp rfl Res.nil) ⟨E1.trans E2,b,b',g1,Nat.le_trans E1.size g2,Bx.ne q1 g2,q1.ext E2,q2,rfl⟩
end Go.Proofs
