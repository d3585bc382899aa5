/- Proved: DyadTight (the ends of sums of spans are the rounded sums of ends, and the greatest product is the rounded product of two ends) answers true and never panics. Conditions: none; for every two spans and every number of bits. -/
import Derived.Test.YtabiobmfelafoaaDoorCards
import Derived.Test.YtabiobmfelafoaaDoorTie
import Derived.Test.YtabiobmfelafoaaDoorFR0
import Derived.Test.YtabiobmfelafoaaDoorFT0
import Derived.Test.YtabiobmfelafoaaDoorFT1
import Derived.LaidMore
import Derived.Test.YtabiobmfelafoaaDoorGen3
import Derived.Test.YtabiobmfelafoaaDoorPD
namespace Go.Proofs.YtabiobmfelafoaaDoor.Tight
set_option linter.unusedVariables false
set_option linter.unusedSimpArgs false
set_option maxRecDepth 100000
open Go.ChangeShapes Go.WideShapes Go.ChangeAt Go.RowKit Go.Proofs.Fr
theorem table {W:World} (h:laidMetH Tryd.prog Rows.dyadTightRow.laid W):Go.Sb.TB W:=by
 have h':laidMet Tryd.prog Rows.dyadTightRow.laid W:=by
  rw [MakeChecks.laidMetH_plain _ _ _ (by kernel_rfl)] at h
  exact h
 have ht:=Lib.tabIs_of_head (rest:=[]) (k:=.u8) (zs:=[0,1,28,2,29,14,24,3,30,22,20,15,25,17,4,8,31,27,13,23,21,19,16,7,26,12,18,6,11,5,10,9]) gTab gTabType Tryd.underlying138 Tryd.underlying5 (by kernel_rfl) (by kernel_rfl) h'
 intro j hj
 have h1:=ht.cell gTab j hj
 have h2:∀j,j<32→(([0,1,28,2,29,14,24,3,30,22,20,15,25,17,4,8,31,27,13,23,21,19,16,7,26,12,18,6,11,5,10,9]:List Int).getD j 0)=((Lib.deBruijn32tab.getD j 0:Nat):Int):=by decide
 rw [h1,h2 j hj]
theorem contract (H:Type) (enc:TypeId × Value→H) (W:World) (base:Nat) (args:Array Value) (ds gs:List (DataW H)) (before:List MemPlace)
  (hval:∀(j:Nat) t v,Tryd.f5.params[j]? = some t→args[j]? = some v→Value.okWide Tryd.prog W .any base t v)
  (hW:DataW.Whole enc Tryd.prog Tryd.f5.params.toList Rows.dyadTightSpec.vars false W args.toList ds gs before) (hL:laidMetH Tryd.prog Rows.dyadTightRow.laid W) :
  Calls Tryd.prog 5 args W fun e W'=>∃v,e = .returned v∧Rows.dyadTightSpec.post enc Tryd.prog Tryd.f5 false true false false W args v W':=by
 have hW':=hW
 obtain ⟨p,q,hA0,hV,rfl,hfz,hnd⟩:=hW
 have hA:DataW.TrodAll enc Tryd.prog W 0 (fun _=>true) true Tryd.f5.params.toList args.toList ds p:=hA0
 rw [Tryd.params5] at hA hval
 obtain ⟨v0,vs0,d0,ds0,p0,q0,hargs,rfl,rfl,h0,r0⟩:=trodAll_cons hA
 obtain ⟨v1,vs1,d1,ds1,p1,q1,rfl,rfl,rfl,h1,r1⟩:=trodAll_cons r0
 obtain ⟨v2,vs2,d2,ds2,p2,q2,rfl,rfl,rfl,h2,r2⟩:=trodAll_cons r1
 obtain ⟨rfl,rfl,rfl⟩:=trodAll_nil r2
 obtain rfl:args = #[v0,v1,v2]:=by cases args;simp_all
 obtain ⟨rfl,rfl⟩:=trodVars_none hV
 obtain ⟨x0,A0,c0,B0,k0,rfl,⟨w0,g0,e0⟩,y0,i0,f0⟩:=Jx (hval 0 41 v0 rfl rfl) h0
 obtain ⟨x1,A1,c1,B1,k1,rfl,⟨w1,g1,e1⟩,y1,i1,f1⟩:=Jx (hval 1 41 v1 rfl rfl) h1
 obtain ⟨x2,rfl,rfl,rfl,w2⟩:=open_int Tryd.underlying3 (hval 2 3 v2 rfl rfl) h2
 clear hA0
 have lt0:∀x ∈ p0,x.block<W.heap.size:=by obtain ⟨m,hm⟩:=h0;exact DataW.trod_lt m _ _ _ hm
 have lt1:∀x ∈ p1,x.block<W.heap.size:=by obtain ⟨m,hm⟩:=h1;exact DataW.trod_lt m _ _ _ hm
 refine (c_sorobanlaw04_DyadTight x0 x1 x2 A0 c0 B0 k0 A1 c1 B1 k1 W (table hL) w0 y0 w1 y1 true (Pq.lawTight x0 x1 x2 g0 i0 g1 i1)).mono fun e W' he=>?_
 obtain ⟨bel,v,he,hv⟩:=he
 unfold EZ at hv
 subst he hv
 exact ⟨_,rfl,_,_,_,[],_,[],hW',trodAll_mk1 (shut_bool Tryd.underlying4 _),trodAll_cons_mk (Below.trod KH (by kernel_rfl) (of_decide_eq_true (by kernel_rfl)) h0 bel lt0) (trodAll_cons_mk (Below.trod KH (by kernel_rfl) (of_decide_eq_true (by kernel_rfl)) h1 bel lt1) (trodAll_cons_mk (shut_int Tryd.underlying3 w2) trodAll_mk0)),rfl,bel.frame _,fun h=>by cases h⟩
noncomputable def laidWorld (os:Os):World:=World.doorLaid Tryd.prog 400 os
def wit:Array Value:=#[.agg #[.bool false,.slice none 0 0,.int .i64 0,.bool false,.slice none 0 0,.int .i64 0],.agg #[.bool false,.slice none 0 0,.int .i64 0,.bool false,.slice none 0 0,.int .i64 0],.int .i64 0]
theorem laid_met (os:Os):laidMet Tryd.prog Rows.dyadTightRow.laid ((laidWorld os).forCall (fun _ _=>0) ⟨#[],wit,[]⟩).memory:=
 laidMet_of_run' 8 (by kernel_rfl) (by kernel_rfl)
theorem reads (os:Os) {H:Type} (enc:TypeId × Value→H):∃places,DataW.whole enc Tryd.prog ((laidWorld os).forCall (fun _ _=>0) ⟨#[],wit,[]⟩).memory Tryd.f5.params.toList Rows.dyadTightSpec.vars false wit.toList 8=some ([.agg [.agg [.agg [.lit (.bool false),.nil],.lit (.int .i64 0)],.agg [.agg [.lit (.bool false),.nil],.lit (.int .i64 0)]],.agg [.agg [.agg [.lit (.bool false),.nil],.lit (.int .i64 0)],.agg [.agg [.lit (.bool false),.nil],.lit (.int .i64 0)]],.lit (.int .i64 0)],[],places):=
 ⟨[],by kernel_rfl⟩
theorem lifted (os:Os) (started:os.Started) (H:Type) (enc:TypeId × Value→H) (F:Stop.Interp) :
  ReturnsInHanded {} Tryd.checked os 5 .any ((OpenSpec.ofChange Rows.dyadTightSpec).preRow enc Tryd.prog Tryd.f5 Rows.dyadTightRow.domain false Rows.dyadTightRow.laid) (((OpenSpec.ofChange Rows.dyadTightSpec).at F).post enc Tryd.prog Tryd.f5 false true false false):=by
 obtain ⟨places,hx⟩:=reads os enc
 refine returnsInHanded_of_row (C:=Tryd.checked) (s:=OpenSpec.ofChange Rows.dyadTightSpec) own started (by kernel_rfl) Tryd.func5
  (witness_row_at (enc:=enc) (C:=Tryd.checked) false (laidWorld os) wit rfl (by kernel_rfl) (by kernel_rfl) (by kernel_rfl)
   (OpenSpec.preRow_of_cond 8 hx (by kernel_rfl) (fun k hk=>by cases hk) (by kernel_rfl) (laid_met os))) ?_
 intro W base args ds gs before hval hW _ _ _ hL _ _
 exact contract H enc W base args ds gs before hval hW hL
theorem said:Rows.DyadTightSaid:=
 OpenClaim.holds_of_cond 5 Tryd.f5 rfl rfl rfl rfl rfl rfl rfl ⟨rfl,rfl,rfl,rfl,rfl⟩ rfl rfl rfl rfl rfl fnm Tryd.func5 closed inst wrap
  (fun os started H enc _ F=>by rw [OpenClaim.pre_eq_preRow];exact lifted os started H enc F)
theorem plain (f : FuncId) (fn : Func) (hf : Tryd.pinned.checked.prog.funcNamed "soroban/sorobanlaw04.DyadTight" = some f) (hfn : Tryd.pinned.checked.prog.funcs[f]? = some fn) :
  true=Tryd.pinned.checked.prog.looks []∧∀(j:Nat) t,fn.params[j]? = some t→Tryd.pinned.checked.prog.wantsStandIn t=false:=by
 obtain rfl:f=5:=(Option.some.inj (fnm.symm.trans hf)).symm
 obtain rfl:fn=Tryd.f5:=(Option.some.inj (Tryd.func5.symm.trans hfn)).symm
 refine ⟨by kernel_rfl,fun j t ht=>?_⟩
 rw [Tryd.params5] at ht
 have hm:t ∈ [41,41,3]:=by simpa using Array.mem_of_getElem? ht
 have hall:([41,41,3].all fun u=>!Tryd.prog.wantsStandIn u)=true:=by kernel_rfl
 exact (show Tryd.prog.wantsStandIn t=false by simpa using List.all_eq_true.1 hall t hm)
theorem card:Rows.DyadTightCardSaid:=
 Claim7.holds_tied_plain_at .later [] _ _ _ _ said (fun _ h=>by cases h) (by kernel_rfl) (fun _ h=>by cases h) dyadTight_row_tie rfl ⟨rfl,rfl⟩ (by kernel_rfl) rfl plain (by kernel_rfl)
end Go.Proofs.YtabiobmfelafoaaDoor.Tight
namespace Go.Proofs.YtabiobmfelafoaaDoor
theorem dyadTight_holds:Rows.DyadTightCardSaid:=Tight.card
#print axioms dyadTight_holds
end Go.Proofs.YtabiobmfelafoaaDoor
