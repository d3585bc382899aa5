/- For every two rational numbers of at most 20 elements, a span of a few elements, and two numbers of bits up to 500: the spans around the numbers, made wider by the span, have what the operations say of the numbers. No condition. -/
import Derived.Test.YtabiobmfelafoaaGreatDoorCards
import Derived.Test.YtabiobmfelafoaaGreatDoorTie
import Derived.Test.YtabiobmfelafoaaGreatDoorFR0
import Derived.Test.YtabiobmfelafoaaGreatDoorFEn0
import Derived.Test.YtabiobmfelafoaaGreatDoorFEn1
import Derived.LaidMore
import Derived.Test.YtabiobmfelafoaaGreatDoorGen7
import Derived.Test.YtabiobmfelafoaaGreatDoorPE
namespace Go.Proofs.YtabiobmfelafoaaGreatDoor.Enc
set_option linter.unusedVariables false
set_option linter.unusedSimpArgs false
set_option maxRecDepth 100000
open Go.ChangeShapes Go.WideShapes Go.ChangeAt Go.RowKit Go.Proofs.Fr
theorem table {W:World} (h:laidMetH Tryz.prog Rows.dyadEnclosesRow.laid W):Go.Sb.TB W:=by
 have h':laidMet Tryz.prog Rows.dyadEnclosesRow.laid W:=by
  rw [MakeChecks.laidMetH_plain _ _ _ (by kernel_rfl)] at h
  exact h
 have ht:=Lib.tabIs_of_head (rest:=[]) (k:=.u8) (zs:=[0,1,28,2,29,14,24,3,30,22,20,15,25,17,4,8,31,27,13,23,21,19,16,7,26,12,18,6,11,5,10,9]) gTab gTabType Tryz.underlying272 Tryz.underlying5 (by kernel_rfl) (by kernel_rfl) h'
 intro j hj
 have h1:=ht.cell gTab j hj
 have h2:∀j,j<32→(([0,1,28,2,29,14,24,3,30,22,20,15,25,17,4,8,31,27,13,23,21,19,16,7,26,12,18,6,11,5,10,9]:List Int).getD j 0)=((Lib.deBruijn32tab.getD j 0:Nat):Int):=by decide
 rw [h1,h2 j hj]
theorem contract (H:Type) (enc:TypeId × Value→H) (W:World) (base:Nat) (args:Array Value) (ds gs:List (DataW H)) (before:List MemPlace)
  (hval:∀(j:Nat) t v,Tryz.f13.params[j]? = some t→args[j]? = some v→Value.okWide Tryz.prog W .any base t v)
  (hW:DataW.Whole enc Tryz.prog Tryz.f13.params.toList Rows.dyadEnclosesSpec.vars false W args.toList ds gs before) (hL:laidMetH Tryz.prog Rows.dyadEnclosesRow.laid W) :
  Calls Tryz.prog 13 args W fun e W'=>∃v,e = .returned v∧Rows.dyadEnclosesSpec.post enc Tryz.prog Tryz.f13 false true false false W args v W':=by
 have hW':=hW
 obtain ⟨p,q,hA0,hV,rfl,hfz,hnd⟩:=hW
 have hA:DataW.TrodAll enc Tryz.prog W 0 (fun _=>true) true Tryz.f13.params.toList args.toList ds p:=hA0
 rw [Tryz.params13] at hA hval
 obtain ⟨v0,vs0,d0,ds0,p0,q0,hargs,rfl,rfl,h0,r0⟩:=trodAll_cons hA
 obtain ⟨v1,vs1,d1,ds1,p1,q1,rfl,rfl,rfl,h1,r1⟩:=trodAll_cons r0
 obtain ⟨v2,vs2,d2,ds2,p2,q2,rfl,rfl,rfl,h2,r2⟩:=trodAll_cons r1
 obtain ⟨v3,vs3,d3,ds3,p3,q3,rfl,rfl,rfl,h3,r3⟩:=trodAll_cons r2
 obtain ⟨v4,vs4,d4,ds4,p4,q4,rfl,rfl,rfl,h4,r4⟩:=trodAll_cons r3
 obtain ⟨rfl,rfl,rfl⟩:=trodAll_nil r4
 obtain rfl:args = #[v0,v1,v2,v3,v4]:=by cases args;simp_all
 obtain ⟨rfl,rfl⟩:=trodVars_none hV
 obtain ⟨x0,A0,c0,B0,k0,rfl,⟨w0,g0⟩,y0,i0⟩:=PS (hval 0 65 v0 rfl rfl) h0
 obtain ⟨x1,A1,c1,B1,k1,rfl,⟨w1,g1⟩,y1,i1⟩:=PS (hval 1 65 v1 rfl rfl) h1
 obtain ⟨x2,A2,c2,B2,k2,rfl,⟨w2,g2,e2⟩,y2,i2,f2⟩:=open_span (hval 2 29 v2 rfl rfl) h2
 obtain ⟨x3,rfl,rfl,rfl,w3⟩:=open_int Tryz.underlying3 (hval 3 3 v3 rfl rfl) h3
 obtain ⟨x4,rfl,rfl,rfl,w4⟩:=open_int Tryz.underlying3 (hval 4 3 v4 rfl rfl) h4
 clear hA0
 have lt0:∀x ∈ p0,x.block<W.heap.size:=by obtain ⟨m,hm⟩:=h0;exact DataW.trod_lt m _ _ _ hm
 have lt1:∀x ∈ p1,x.block<W.heap.size:=by obtain ⟨m,hm⟩:=h1;exact DataW.trod_lt m _ _ _ hm
 have lt2:∀x ∈ p2,x.block<W.heap.size:=by obtain ⟨m,hm⟩:=h2;exact DataW.trod_lt m _ _ _ hm
 refine (c_sorobanlaw04_DyadEncloses x0 x1 x2 x3 x4 A0 c0 B0 k0 A1 c1 B1 k1 A2 c2 B2 k2 W (table hL) w0 y0 w1 y1 w2 y2 true (Pq.lawEncloses x0 x1 x2 x3 x4 g0 i0 g1 i1 g2 i2)).mono fun e W' he=>?_
 obtain ⟨bel,v,he,hv⟩:=he
 unfold Gi at hv
 subst he hv
 exact ⟨_,rfl,_,_,_,[],_,[],hW',trodAll_mk1 (shut_bool Tryz.underlying4 _),trodAll_cons_mk (Below.trod Pl (by kernel_rfl) (of_decide_eq_true (by kernel_rfl)) h0 bel lt0) (trodAll_cons_mk (Below.trod Pl (by kernel_rfl) (of_decide_eq_true (by kernel_rfl)) h1 bel lt1) (trodAll_cons_mk (Below.trod Pl (by kernel_rfl) (of_decide_eq_true (by kernel_rfl)) h2 bel lt2) (trodAll_cons_mk (shut_int Tryz.underlying3 w3) (trodAll_cons_mk (shut_int Tryz.underlying3 w4) trodAll_mk0)))),rfl,bel.frame _,fun h=>by cases h⟩
noncomputable def laidWorld (os:Os):World:=World.doorLaid Tryz.prog 400 os
def wit:Array Value:=#[.agg #[.bool false,.slice none 0 0,.slice none 0 0],.agg #[.bool false,.slice none 0 0,.slice none 0 0],.agg #[.bool false,.slice none 0 0,.int .i64 0,.bool false,.slice none 0 0,.int .i64 0],.int .i64 0,.int .i64 0]
theorem laid_met (os:Os):laidMet Tryz.prog Rows.dyadEnclosesRow.laid ((laidWorld os).forCall (fun _ _=>0) ⟨#[],wit,[]⟩).memory:=
 laidMet_of_run' 8 (by kernel_rfl) (by kernel_rfl)
theorem reads (os:Os) {H:Type} (enc:TypeId × Value→H):∃places,DataW.whole enc Tryz.prog ((laidWorld os).forCall (fun _ _=>0) ⟨#[],wit,[]⟩).memory Tryz.f13.params.toList Rows.dyadEnclosesSpec.vars false wit.toList 8=some ([.agg [.agg [.lit (.bool false),.nil],.nil],.agg [.agg [.lit (.bool false),.nil],.nil],.agg [.agg [.agg [.lit (.bool false),.nil],.lit (.int .i64 0)],.agg [.agg [.lit (.bool false),.nil],.lit (.int .i64 0)]],.lit (.int .i64 0),.lit (.int .i64 0)],[],places):=
 ⟨[],by kernel_rfl⟩
theorem lifted (os:Os) (started:os.Started) (H:Type) (enc:TypeId × Value→H) (F:Stop.Interp) :
  ReturnsInHanded {} Tryz.checked os 13 .any ((OpenSpec.ofChange Rows.dyadEnclosesSpec).preRow enc Tryz.prog Tryz.f13 Rows.dyadEnclosesRow.domain false Rows.dyadEnclosesRow.laid) (((OpenSpec.ofChange Rows.dyadEnclosesSpec).at F).post enc Tryz.prog Tryz.f13 false true false false):=by
 obtain ⟨places,hx⟩:=reads os enc
 refine returnsInHanded_of_row (C:=Tryz.checked) (s:=OpenSpec.ofChange Rows.dyadEnclosesSpec) own started (by kernel_rfl) Tryz.func13
  (witness_row_at (enc:=enc) (C:=Tryz.checked) false (laidWorld os) wit rfl (by kernel_rfl) (by kernel_rfl) (by kernel_rfl)
   (OpenSpec.preRow_of_cond 8 hx (by kernel_rfl) (fun k hk=>by cases hk) (by kernel_rfl) (laid_met os))) ?_
 intro W base args ds gs before hval hW _ _ _ hL _ _
 exact contract H enc W base args ds gs before hval hW hL
theorem said:Rows.DyadEnclosesSaid:=
 OpenClaim.holds_of_cond 13 Tryz.f13 rfl rfl rfl rfl rfl rfl rfl ⟨rfl,rfl,rfl,rfl,rfl⟩ rfl rfl rfl rfl rfl fnm Tryz.func13 closed inst wrap
  (fun os started H enc _ F=>by rw [OpenClaim.pre_eq_preRow];exact lifted os started H enc F)
theorem plain (f : FuncId) (fn : Func) (hf : Tryz.pinned.checked.prog.funcNamed "soroban/sorobanlaw04.DyadEncloses" = some f) (hfn : Tryz.pinned.checked.prog.funcs[f]? = some fn) :
  true=Tryz.pinned.checked.prog.looks []∧∀(j:Nat) t,fn.params[j]? = some t→Tryz.pinned.checked.prog.wantsStandIn t=false:=by
 obtain rfl:f=13:=(Option.some.inj (fnm.symm.trans hf)).symm
 obtain rfl:fn=Tryz.f13:=(Option.some.inj (Tryz.func13.symm.trans hfn)).symm
 refine ⟨by kernel_rfl,fun j t ht=>?_⟩
 rw [Tryz.params13] at ht
 have hm:t ∈ [65,65,29,3,3]:=by simpa using Array.mem_of_getElem? ht
 have hall:([65,65,29,3,3].all fun u=>!Tryz.prog.wantsStandIn u)=true:=by kernel_rfl
 exact (show Tryz.prog.wantsStandIn t=false by simpa using List.all_eq_true.1 hall t hm)
theorem card:Rows.DyadEnclosesCardSaid:=
 Claim7.holds_tied_plain_at .later [] _ _ _ _ said (fun _ h=>by cases h) (by kernel_rfl) (fun _ h=>by cases h) dyadEncloses_row_tie rfl ⟨rfl,rfl⟩ (by kernel_rfl) rfl plain (by kernel_rfl)
end Go.Proofs.YtabiobmfelafoaaGreatDoor.Enc
namespace Go.Proofs.YtabiobmfelafoaaGreatDoor
theorem dyadEncloses_holds:Rows.DyadEnclosesCardSaid:=Enc.card
#print axioms dyadEncloses_holds
end Go.Proofs.YtabiobmfelafoaaGreatDoor
