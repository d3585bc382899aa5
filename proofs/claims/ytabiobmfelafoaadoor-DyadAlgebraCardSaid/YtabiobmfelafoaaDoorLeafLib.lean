import Derived.Test.YtabiobmfelafoaaDoorRow
import Derived.Shelf.Small.Bits
import Derived.Test.YtabiobmfelafoaaDoorProg
namespace Go.Proofs.Lf
set_option linter.unusedVariables false
set_option maxHeartbeats 4000000
open Go.Shelf Go.RowKit Go.Sb Go.Proofs Go.Proofs.Sbn
def lays133_ren:Go.Shelf.Ren:=⟨fun | 133=>106 | 128=>111 | n=>n,fun | 51=>97 | 3=>3 | 4=>4 | 46=>131 | 5=>5 | 9=>9 | n=>n,fun | n=>n⟩
theorem lays133:Go.Proofs.Lays.n133 Tryd.prog lays133_ren:={
 mixed:=by kernel_rfl
 f128:=Tryd.func111.trans (congrArg some (by kernel_rfl))
 f133:=Tryd.func106.trans (congrArg some (by kernel_rfl))
 t3:=Tryd.underlying3
 a3:=Tryd.isAgg3
 z3:=Tryd.sizeOf3
 v3:=Tryd.zeroValue3
 t4:=Tryd.underlying4
 a4:=Tryd.isAgg4
 z4:=Tryd.sizeOf4
 v4:=Tryd.zeroValue4
 t5:=Tryd.underlying5
 a5:=Tryd.isAgg5
 z5:=Tryd.sizeOf5
 v5:=Tryd.zeroValue5
 t9:=Tryd.underlying9
 a9:=Tryd.isAgg9
 z9:=Tryd.sizeOf9
 v9:=Tryd.zeroValue9
 t46:=Tryd.underlying131
 a46:=Tryd.isAgg131
 z46:=Tryd.sizeOf131
 v46:=Tryd.zeroValue131
 t51:=Tryd.underlying97
 a51:=Tryd.isAgg97
 z51:=Tryd.sizeOf97
 v51:=Tryd.zeroValue97 }
def lays28_ren:Go.Shelf.Ren:=⟨fun | 28=>110 | n=>n,fun | 0=>0 | 3=>3 | 4=>4 | 5=>5 | 25=>131 | 27=>97 | 53=>138 | n=>n,fun | n=>n⟩
theorem lays28:Go.Proofs.Lays7.n28 Tryd.prog lays28_ren:={
 mixed:=by kernel_rfl
 f28:=Tryd.func110.trans (congrArg some (by kernel_rfl))
 t0:=Tryd.underlying0
 a0:=Tryd.isAgg0
 z0:=Tryd.sizeOf0
 v0:=Tryd.zeroValue0
 t3:=Tryd.underlying3
 a3:=Tryd.isAgg3
 z3:=Tryd.sizeOf3
 v3:=Tryd.zeroValue3
 t4:=Tryd.underlying4
 a4:=Tryd.isAgg4
 z4:=Tryd.sizeOf4
 v4:=Tryd.zeroValue4
 t5:=Tryd.underlying5
 a5:=Tryd.isAgg5
 z5:=Tryd.sizeOf5
 v5:=Tryd.zeroValue5
 t25:=Tryd.underlying131
 a25:=Tryd.isAgg131
 z25:=Tryd.sizeOf131
 v25:=Tryd.zeroValue131
 t27:=Tryd.underlying97
 a27:=Tryd.isAgg97
 z27:=Tryd.sizeOf97
 v27:=Tryd.zeroValue97
 t53:=Tryd.underlying138
 a53:=Tryd.isAgg138
 z53:=Tryd.sizeOf138
 v53:=Tryd.zeroValue138
 i0:=by kernel_rfl
 i3:=by kernel_rfl
 i4:=by kernel_rfl
 i5:=by kernel_rfl
 i25:=by kernel_rfl
 i27:=by kernel_rfl
 i53:=by kernel_rfl
 g0:=by kernel_rfl }
def FW (_w:World) (r:Int) (v:Value):Prop:=v = .int .i64 r
theorem AB:Tryd.prog.underlying 59=some (.slice 97):=by kernel_rfl
theorem FZ:Gs Tryd.prog 97=true:=by kernel_rfl
theorem d_snilT {P:Program} {l:List Value} {w:World} {t e ty2:Nat} {x:Operand} {n c:Nat} (ht:P.underlying t=some (.slice e)) (hx:evo l x=some (.slice none n c)):Does P l (.binOp .eql t x (.const (.slice none 0 0)) ty2) (.bool true) w w:=fun ρ he _ _ _ _ _=>by
 have h1:ρ (.const (.slice none 0 0)) = .slice none 0 0:=he _ _ rfl
 have h3:∀d,(Op.equalIn (d+1) t (.slice none n c) (.slice none 0 0)).run P w = .ok true w:=fun d=>by simp [Op.equalIn,run_underlying ht]
 have h2:(Op.equal t (.slice none n c) (.slice none 0 0)).run P w = .ok true w:=h3 9999
 simp [execOp,he _ _ hx,h1,eqGuard,binOp,h2]
theorem d_snilF {P:Program} {l:List Value} {w:World} {t e ty2:Nat} {x:Operand} {n c:Nat} {a:Addr} (ht:P.underlying t=some (.slice e)) (hx:evo l x=some (.slice (some a) n c)):Does P l (.binOp .eql t x (.const (.slice none 0 0)) ty2) (.bool false) w w:=fun ρ he _ _ _ _ _=>by
 have h1:ρ (.const (.slice none 0 0)) = .slice none 0 0:=he _ _ rfl
 have h3:∀d,(Op.equalIn (d+1) t (.slice (some a) n c) (.slice none 0 0)).run P w = .ok false w:=fun d=>by simp [Op.equalIn,run_underlying ht]
 have h2:(Op.equal t (.slice (some a) n c) (.slice none 0 0)).run P w = .ok false w:=h3 9999
 simp [execOp,he _ _ hx,h1,eqGuard,binOp,h2]
def Bu (x:Int):Option Int:=(gd (0≤x∧x≤4294967295)).bind fun _=>some (32 - (Lib.bitLen x.toNat:Int))
def CP (x:Int):Option Int:=(gd (0≤x∧x<4294967296)).bind fun _=>some (Lib.ctz 32 x.toNat:Int)
theorem ER (x0:Int) (w:World) (hT:TB w) (r:Int) (hr:Bu x0=some r):Calls Tryd.prog 106 #[.int .u32 x0] w (Ret FW w r):=by
 unfold Bu at hr
 obtain ⟨_,h,hr⟩:=Ab hr
 have h:=Be h
 obtain rfl:=Option.some.inj hr
 refine (Any.bits_LeadingZeros32 lays133 x0 w h.1 h.2).mono ?_
 rintro e w' ⟨rfl,rfl⟩
 exact Ap (Ext.refl _) rfl
theorem c_math_bits_TrailingZeros32 (x0:Int) (w:World) (hT:TB w) (r:Int) (hr:CP x0=some r):Calls Tryd.prog 110 #[.int .u32 x0] w (Ret FW w r):=by
 unfold CP at hr
 obtain ⟨_,h,hr⟩:=Ab hr
 have h:=Be h
 obtain rfl:=Option.some.inj hr
 obtain ⟨m,rfl⟩:∃m:Nat,x0=m:=⟨x0.toNat,by omega⟩
 refine (Any7.bits_TrailingZeros32 lays28 m (by omega) w (fun _=>hT)).mono ?_
 rintro e w' ⟨rfl,rfl⟩
 exact Ap (Ext.refl _) rfl
def Cw (x:List Int):Option (List Int):=(gd (List.length x≤35184372088832)).bind fun _=>some x
theorem EY (x0:List Int) (A1:Option Addr) (c1:Nat) (w:World) (hT:TB w) (n1:RL .u32 97 w A1 c1 x0) (r:List Int) (hr:Cw x0=some r) :
  Calls Tryd.prog 77 #[.slice A1 (List.length x0) c1] w (Ret (repo w) w r):=by
 unfold Cw at hr
 obtain ⟨_,h,hr⟩:=Ab hr
 have h:=Be h
 obtain rfl:=Option.some.inj hr
 cases A1 with
 | none=>
  have hx:x0=[]:=by
   rcases x0 with _ | ⟨a,l⟩
   ·rfl
   ·obtain ⟨b,off,_,_,hA,_⟩:=n1.2.2 (by simp)
    cases hA
  subst hx
  go_enter Tryd.func77,Tryd.ntmps77
  refine wp_seq_k ?_
  intro K1 h1
  refine Ah ?_
  refine sV (Ac rfl) ?_
  refine Ad ?_
  refine h1 _ _ ?_
  refine wp_seq_k ?_
  intro K2 h2
  refine wp_seq_k ?_
  intro K3 h3
  refine Ah ?_
  refine sV (Aa rfl) ?_
  refine sV (d_snilT (AB) rfl) ?_
  refine Ad ?_
  refine h3 _ _ ?_
  refine wp_cond_true (Ao (evb rfl rfl)) ?_
  refine wp_seq_k ?_
  intro K4 h4
  refine Ah ?_
  refine sV (Ac rfl) ?_
  refine Ad ?_
  refine h4 _ _ ?_
  refine wp_ret ?_
  exact fin rfl (Res.tmp rfl Res.nil) (Ap (Ext.refl _) ⟨none,0,rfl,OW.nil _ _ _ _⟩)
 | some a=>
  go_enter Tryd.func77,Tryd.ntmps77
  refine wp_seq_k ?_
  intro K1 h1
  refine Ah ?_
  refine sV (Ac rfl) ?_
  refine Ad ?_
  refine h1 _ _ ?_
  refine wp_seq_k ?_
  intro K2 h2
  refine wp_seq_k ?_
  intro K3 h3
  refine Ah ?_
  refine sV (Aa rfl) ?_
  refine sV (d_snilF (AB) rfl) ?_
  refine Ad ?_
  refine h3 _ _ ?_
  refine wp_cond_false (Ao (evb rfl rfl)) ?_
  refine wp_skip ?_
  refine h2 _ _ ?_
  refine wp_seq_k ?_
  intro K5 h5
  refine Ah ?_
  refine JZ AB FZ ?_
  intro A2 w1 E1
  refine nrm ?_
  refine sV (Aa rfl) ?_
  refine IP AB FZ rfl rfl rfl (OW.nil 97 w.heap.size w1 A2) (n1.ext E1) (by simpa using h) E1.size ?_
  intro A3 c3 w2 B2 o2
  refine nrm ?_
  refine sV (Ac rfl) ?_
  refine Ad ?_
  refine h5 _ _ ?_
  refine wp_ret ?_
  exact fin rfl (Res.tmp rfl Res.nil) (Ap (xO E1 B2 (Nat.le_refl _)) ⟨A3,c3,rfl,o2⟩)
end Go.Proofs.Lf
