import Derived.Test.YtabiobmfelafoaaGreatDoorRW
import Derived.Shelf.Small.Bits
import Derived.Test.YtabiobmfelafoaaGreatDoorProg
namespace Go.Proofs.Lf
set_option linter.unusedVariables false
set_option maxHeartbeats 4000000
open Go.Shelf Go.RowKit Go.Sb Go.Proofs Go.Proofs.Sbn
open Go.Proofs.Tryz
def lays128_ren:Go.Shelf.Ren:=⟨fun | 128=>264 | n=>n,fun | 51=>179 | 3=>3 | 4=>4 | 46=>220 | 5=>5 | 9=>9 | n=>n,fun | n=>n⟩
theorem lays128:Go.Proofs.Lays.n128 prog lays128_ren:={
 mixed:=by kernel_rfl
 f128:=func264.trans (congrArg some (by kernel_rfl))
 t3:=Tryz.underlying3
 a3:=Tryz.isAgg3
 z3:=Tryz.sizeOf3
 v3:=Tryz.zeroValue3
 t4:=Tryz.underlying4
 a4:=Tryz.isAgg4
 z4:=Tryz.sizeOf4
 v4:=Tryz.zeroValue4
 t5:=Tryz.underlying5
 a5:=Tryz.isAgg5
 z5:=Tryz.sizeOf5
 v5:=Tryz.zeroValue5
 t9:=Tryz.underlying9
 a9:=Tryz.isAgg9
 z9:=Tryz.sizeOf9
 v9:=Tryz.zeroValue9
 t46:=Tryz.underlying220
 a46:=Tryz.isAgg220
 z46:=Tryz.sizeOf220
 v46:=Tryz.zeroValue220
 t51:=Tryz.underlying179
 a51:=Tryz.isAgg179
 z51:=Tryz.sizeOf179
 v51:=Tryz.zeroValue179 }
def lays133_ren:Go.Shelf.Ren:=⟨fun | 133=>235 | 128=>264 | n=>n,fun | 51=>179 | 3=>3 | 4=>4 | 46=>220 | 5=>5 | 9=>9 | n=>n,fun | n=>n⟩
theorem lays133:Go.Proofs.Lays.n133 prog lays133_ren:={
 mixed:=by kernel_rfl
 f128:=func264.trans (congrArg some (by kernel_rfl))
 f133:=func235.trans (congrArg some (by kernel_rfl))
 t3:=Tryz.underlying3
 a3:=Tryz.isAgg3
 z3:=Tryz.sizeOf3
 v3:=Tryz.zeroValue3
 t4:=Tryz.underlying4
 a4:=Tryz.isAgg4
 z4:=Tryz.sizeOf4
 v4:=Tryz.zeroValue4
 t5:=Tryz.underlying5
 a5:=Tryz.isAgg5
 z5:=Tryz.sizeOf5
 v5:=Tryz.zeroValue5
 t9:=Tryz.underlying9
 a9:=Tryz.isAgg9
 z9:=Tryz.sizeOf9
 v9:=Tryz.zeroValue9
 t46:=Tryz.underlying220
 a46:=Tryz.isAgg220
 z46:=Tryz.sizeOf220
 v46:=Tryz.zeroValue220
 t51:=Tryz.underlying179
 a51:=Tryz.isAgg179
 z51:=Tryz.sizeOf179
 v51:=Tryz.zeroValue179 }
def lays28_ren:Go.Shelf.Ren:=⟨fun | 28=>245 | n=>n,fun | 0=>0 | 3=>3 | 4=>4 | 5=>5 | 25=>220 | 27=>179 | 53=>272 | n=>n,fun | n=>n⟩
theorem lays28:Go.Proofs.Lays7.n28 prog lays28_ren:={
 mixed:=by kernel_rfl
 f28:=func245.trans (congrArg some (by kernel_rfl))
 t0:=Tryz.underlying0
 a0:=Tryz.isAgg0
 z0:=Tryz.sizeOf0
 v0:=Tryz.zeroValue0
 t3:=Tryz.underlying3
 a3:=Tryz.isAgg3
 z3:=Tryz.sizeOf3
 v3:=Tryz.zeroValue3
 t4:=Tryz.underlying4
 a4:=Tryz.isAgg4
 z4:=Tryz.sizeOf4
 v4:=Tryz.zeroValue4
 t5:=Tryz.underlying5
 a5:=Tryz.isAgg5
 z5:=Tryz.sizeOf5
 v5:=Tryz.zeroValue5
 t25:=Tryz.underlying220
 a25:=Tryz.isAgg220
 z25:=Tryz.sizeOf220
 v25:=Tryz.zeroValue220
 t27:=Tryz.underlying179
 a27:=Tryz.isAgg179
 z27:=Tryz.sizeOf179
 v27:=Tryz.zeroValue179
 t53:=Tryz.underlying272
 a53:=Tryz.isAgg272
 z53:=Tryz.sizeOf272
 v53:=Tryz.zeroValue272
 i0:=by kernel_rfl
 i3:=by kernel_rfl
 i4:=by kernel_rfl
 i5:=by kernel_rfl
 i25:=by kernel_rfl
 i27:=by kernel_rfl
 i53:=by kernel_rfl
 g0:=by kernel_rfl }
def HY (_w:World) (r:Int) (v:Value):Prop:=v = .int .i64 r
theorem CH:prog.underlying 23=some (.slice 179):=by kernel_rfl
theorem ER:KJ prog 179=true:=by kernel_rfl
theorem Au:prog.underlying 115=some (.slice 179):=by kernel_rfl
theorem AG:prog.underlying 228=some (.slice 179):=by kernel_rfl
theorem OV {P:Program} {l:List Value} {w:World} {t e ty2:Nat} {x:Operand} {n c:Nat} (ht:P.underlying t=some (.slice e)) (hx:evo l x=some (.slice none n c)):Does P l (.binOp .eql t x (.const (.slice none 0 0)) ty2) (.bool true) w w:=fun ρ he _ _ _ _ _=>by
 have h1:ρ (.const (.slice none 0 0)) = .slice none 0 0:=he _ _ rfl
 have h3:∀d,(Op.equalIn (d+1) t (.slice none n c) (.slice none 0 0)).run P w = .ok true w:=fun d=>by simp [Op.equalIn,run_underlying ht]
 have h2:(Op.equal t (.slice none n c) (.slice none 0 0)).run P w = .ok true w:=h3 9999
 simp [execOp,he _ _ hx,h1,eqGuard,binOp,h2]
theorem Pa {P:Program} {l:List Value} {w:World} {t e ty2:Nat} {x:Operand} {n c:Nat} {a:Addr} (ht:P.underlying t=some (.slice e)) (hx:evo l x=some (.slice (some a) n c)):Does P l (.binOp .eql t x (.const (.slice none 0 0)) ty2) (.bool false) w w:=fun ρ he _ _ _ _ _=>by
 have h1:ρ (.const (.slice none 0 0)) = .slice none 0 0:=he _ _ rfl
 have h3:∀d,(Op.equalIn (d+1) t (.slice (some a) n c) (.slice none 0 0)).run P w = .ok false w:=fun d=>by simp [Op.equalIn,run_underlying ht]
 have h2:(Op.equal t (.slice (some a) n c) (.slice none 0 0)).run P w = .ok false w:=h3 9999
 simp [execOp,he _ _ hx,h1,eqGuard,binOp,h2]
def HH (x:Int):Option Int:=(gd (0≤x∧x≤4294967295)).bind fun _=>some (Lib.bitLen x.toNat:Int)
def Bf (x:Int):Option Int:=(gd (0≤x∧x≤4294967295)).bind fun _=>some (32 - (Lib.bitLen x.toNat:Int))
def Ey (x:Int):Option Int:=(gd (0≤x∧x<4294967296)).bind fun _=>some (Lib.ctz 32 x.toNat:Int)
theorem c_math_bits_Len32 (x0:Int) (w:World) (hT:TB w) (r:Int) (hr:HH x0=some r):Calls prog 264 #[.int .u32 x0] w (Ret HY w r):=by
 unfold HH at hr
 obtain ⟨_,h,hr⟩:=Ad hr
 have h:=AI h
 obtain rfl:=Option.some.inj hr
 refine (Any.bits_Len32 lays128 x0 w h.1 h.2).mono ?_
 rintro e w' ⟨rfl,rfl⟩
 exact AJ (Ext.refl _) rfl
theorem Gh (x0:Int) (w:World) (hT:TB w) (r:Int) (hr:Bf x0=some r):Calls prog 235 #[.int .u32 x0] w (Ret HY w r):=by
 unfold Bf at hr
 obtain ⟨_,h,hr⟩:=Ad hr
 have h:=AI h
 obtain rfl:=Option.some.inj hr
 refine (Any.bits_LeadingZeros32 lays133 x0 w h.1 h.2).mono ?_
 rintro e w' ⟨rfl,rfl⟩
 exact AJ (Ext.refl _) rfl
theorem c_math_bits_TrailingZeros32 (x0:Int) (w:World) (hT:TB w) (r:Int) (hr:Ey x0=some r):Calls prog 245 #[.int .u32 x0] w (Ret HY w r):=by
 unfold Ey at hr
 obtain ⟨_,h,hr⟩:=Ad hr
 have h:=AI h
 obtain rfl:=Option.some.inj hr
 obtain ⟨m,rfl⟩:∃m:Nat,x0=m:=⟨x0.toNat,by omega⟩
 refine (Any7.bits_TrailingZeros32 lays28 m (by omega) w (fun _=>hT)).mono ?_
 rintro e w' ⟨rfl,rfl⟩
 exact AJ (Ext.refl _) rfl
def GQ (x:List Int):Option (List Int):=(gd (List.length x≤35184372088832)).bind fun _=>some x
theorem c_slices_Clone_api_Nat_o (x0:List Int) (A1:Option Addr) (c1:Nat) (w:World) (hT:TB w) (n1:RL .u32 179 w A1 c1 x0) (r:List Int) (hr:GQ x0=some r) :
  Calls prog 157 #[.slice A1 (List.length x0) c1] w (Ret (repo w) w r):=by
 unfold GQ at hr
 obtain ⟨_,h,hr⟩:=Ad hr
 have h:=AI h
 obtain rfl:=Option.some.inj hr
 cases A1 with
 | none=>
  have hx:x0=[]:=by
   rcases x0 with _ | ⟨a,l⟩
   ·rfl
   ·obtain ⟨b,off,_,_,hA,_⟩:=n1.2.2 (by simp)
    cases hA
  subst hx
  go_enter func157,ntmps157
  refine wp_seq_k ?_
  intro K1 h1
  refine Ah ?_
  refine sV (Ab rfl) ?_
  refine AF ?_
  refine h1 _ _ ?_
  refine wp_seq_k ?_
  intro K2 h2
  refine wp_seq_k ?_
  intro K3 h3
  refine Ah ?_
  refine sV (Aa rfl) ?_
  refine sV (OV (CH) rfl) ?_
  refine AF ?_
  refine h3 _ _ ?_
  refine wp_cond_true (CF (evb rfl rfl)) ?_
  refine wp_seq_k ?_
  intro K4 h4
  refine Ah ?_
  refine sV (Ab rfl) ?_
  refine AF ?_
  refine h4 _ _ ?_
  refine wp_ret ?_
  exact fin rfl (Res.tmp rfl Res.nil) (AJ (Ext.refl _) ⟨none,0,rfl,OW.nil _ _ _ _⟩)
 | some a=>
  go_enter func157,ntmps157
  refine wp_seq_k ?_
  intro K1 h1
  refine Ah ?_
  refine sV (Ab rfl) ?_
  refine AF ?_
  refine h1 _ _ ?_
  refine wp_seq_k ?_
  intro K2 h2
  refine wp_seq_k ?_
  intro K3 h3
  refine Ah ?_
  refine sV (Aa rfl) ?_
  refine sV (Pa (CH) rfl) ?_
  refine AF ?_
  refine h3 _ _ ?_
  refine wp_cond_false (CF (evb rfl rfl)) ?_
  refine wp_skip ?_
  refine h2 _ _ ?_
  refine wp_seq_k ?_
  intro K5 h5
  refine Ah ?_
  refine NK CH ER ?_
  intro A2 w1 E1
  refine nrm ?_
  refine sV (Aa rfl) ?_
  refine MV CH ER rfl rfl rfl (OW.nil 179 w.heap.size w1 A2) (n1.ext E1) (by simpa using h) E1.size ?_
  intro A3 c3 w2 B2 o2
  refine nrm ?_
  refine sV (Ab rfl) ?_
  refine AF ?_
  refine h5 _ _ ?_
  refine wp_ret ?_
  exact fin rfl (Res.tmp rfl Res.nil) (AJ (xO E1 B2 (Nat.le_refl _)) ⟨A3,c3,rfl,o2⟩)
def DF (x:List Int):Option (List Int):=(gd (List.length x≤35184372088832)).bind fun _=>some x
theorem Ip (x0:List Int) (A1:Option Addr) (c1:Nat) (w:World) (hT:TB w) (n1:RL .u32 179 w A1 c1 x0) (r:List Int) (hr:DF x0=some r) :
  Calls prog 201 #[.slice A1 (List.length x0) c1] w (Ret (repo w) w r):=by
 unfold DF at hr
 obtain ⟨_,h,hr⟩:=Ad hr
 have h:=AI h
 obtain rfl:=Option.some.inj hr
 cases A1 with
 | none=>
  have hx:x0=[]:=by
   rcases x0 with _ | ⟨a,l⟩
   ·rfl
   ·obtain ⟨b,off,_,_,hA,_⟩:=n1.2.2 (by simp)
    cases hA
  subst hx
  go_enter func201,ntmps201
  refine wp_seq_k ?_
  intro K1 h1
  refine Ah ?_
  refine sV (Ab rfl) ?_
  refine AF ?_
  refine h1 _ _ ?_
  refine wp_seq_k ?_
  intro K2 h2
  refine wp_seq_k ?_
  intro K3 h3
  refine Ah ?_
  refine sV (Aa rfl) ?_
  refine sV (OV (Au) rfl) ?_
  refine AF ?_
  refine h3 _ _ ?_
  refine wp_cond_true (CF (evb rfl rfl)) ?_
  refine wp_seq_k ?_
  intro K4 h4
  refine Ah ?_
  refine sV (Ab rfl) ?_
  refine AF ?_
  refine h4 _ _ ?_
  refine wp_ret ?_
  exact fin rfl (Res.tmp rfl Res.nil) (AJ (Ext.refl _) ⟨none,0,rfl,OW.nil _ _ _ _⟩)
 | some a=>
  go_enter func201,ntmps201
  refine wp_seq_k ?_
  intro K1 h1
  refine Ah ?_
  refine sV (Ab rfl) ?_
  refine AF ?_
  refine h1 _ _ ?_
  refine wp_seq_k ?_
  intro K2 h2
  refine wp_seq_k ?_
  intro K3 h3
  refine Ah ?_
  refine sV (Aa rfl) ?_
  refine sV (Pa (Au) rfl) ?_
  refine AF ?_
  refine h3 _ _ ?_
  refine wp_cond_false (CF (evb rfl rfl)) ?_
  refine wp_skip ?_
  refine h2 _ _ ?_
  refine wp_seq_k ?_
  intro K5 h5
  refine Ah ?_
  refine NK Au ER ?_
  intro A2 w1 E1
  refine nrm ?_
  refine sV (Aa rfl) ?_
  refine MV Au ER rfl rfl rfl (OW.nil 179 w.heap.size w1 A2) (n1.ext E1) (by simpa using h) E1.size ?_
  intro A3 c3 w2 B2 o2
  refine nrm ?_
  refine sV (Ab rfl) ?_
  refine AF ?_
  refine h5 _ _ ?_
  refine wp_ret ?_
  exact fin rfl (Res.tmp rfl Res.nil) (AJ (xO E1 B2 (Nat.le_refl _)) ⟨A3,c3,rfl,o2⟩)
def Gk (x:List Int):Option (List Int):=(gd (List.length x≤35184372088832)).bind fun _=>some x
theorem c_slices_Clone_nat_limbs_o (x0:List Int) (A1:Option Addr) (c1:Nat) (w:World) (hT:TB w) (n1:RL .u32 179 w A1 c1 x0) (r:List Int) (hr:Gk x0=some r) :
  Calls prog 256 #[.slice A1 (List.length x0) c1] w (Ret (repo w) w r):=by
 unfold Gk at hr
 obtain ⟨_,h,hr⟩:=Ad hr
 have h:=AI h
 obtain rfl:=Option.some.inj hr
 cases A1 with
 | none=>
  have hx:x0=[]:=by
   rcases x0 with _ | ⟨a,l⟩
   ·rfl
   ·obtain ⟨b,off,_,_,hA,_⟩:=n1.2.2 (by simp)
    cases hA
  subst hx
  go_enter func256,ntmps256
  refine wp_seq_k ?_
  intro K1 h1
  refine Ah ?_
  refine sV (Ab rfl) ?_
  refine AF ?_
  refine h1 _ _ ?_
  refine wp_seq_k ?_
  intro K2 h2
  refine wp_seq_k ?_
  intro K3 h3
  refine Ah ?_
  refine sV (Aa rfl) ?_
  refine sV (OV (AG) rfl) ?_
  refine AF ?_
  refine h3 _ _ ?_
  refine wp_cond_true (CF (evb rfl rfl)) ?_
  refine wp_seq_k ?_
  intro K4 h4
  refine Ah ?_
  refine sV (Ab rfl) ?_
  refine AF ?_
  refine h4 _ _ ?_
  refine wp_ret ?_
  exact fin rfl (Res.tmp rfl Res.nil) (AJ (Ext.refl _) ⟨none,0,rfl,OW.nil _ _ _ _⟩)
 | some a=>
  go_enter func256,ntmps256
  refine wp_seq_k ?_
  intro K1 h1
  refine Ah ?_
  refine sV (Ab rfl) ?_
  refine AF ?_
  refine h1 _ _ ?_
  refine wp_seq_k ?_
  intro K2 h2
  refine wp_seq_k ?_
  intro K3 h3
  refine Ah ?_
  refine sV (Aa rfl) ?_
  refine sV (Pa (AG) rfl) ?_
  refine AF ?_
  refine h3 _ _ ?_
  refine wp_cond_false (CF (evb rfl rfl)) ?_
  refine wp_skip ?_
  refine h2 _ _ ?_
  refine wp_seq_k ?_
  intro K5 h5
  refine Ah ?_
  refine NK AG ER ?_
  intro A2 w1 E1
  refine nrm ?_
  refine sV (Aa rfl) ?_
  refine MV AG ER rfl rfl rfl (OW.nil 179 w.heap.size w1 A2) (n1.ext E1) (by simpa using h) E1.size ?_
  intro A3 c3 w2 B2 o2
  refine nrm ?_
  refine sV (Ab rfl) ?_
  refine AF ?_
  refine h5 _ _ ?_
  refine wp_ret ?_
  exact fin rfl (Res.tmp rfl Res.nil) (AJ (xO E1 B2 (Nat.le_refl _)) ⟨A3,c3,rfl,o2⟩)
end Go.Proofs.Lf
