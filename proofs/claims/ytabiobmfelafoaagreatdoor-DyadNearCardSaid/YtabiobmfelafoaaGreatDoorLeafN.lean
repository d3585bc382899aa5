import Derived.Test.YtabiobmfelafoaaGreatDoorGenBase
import Derived.Test.YtabiobmfelafoaaGreatDoorLeaf2
import Derived.Test.YtabiobmfelafoaaGreatDoorLeaf3
namespace Go.Proofs
set_option linter.unusedVariables false
set_option linter.unusedSimpArgs false
set_option maxHeartbeats 4000000
open Go.RowKit Go.Sb Go.Proofs.Sbn
namespace Lf
theorem szl {n k m:Nat} (h:sz n<k) (hk:k≤m):(limbs n).length<m:=Nat.lt_of_lt_of_le h hk
theorem toR {p:Option (List Int)} {a b:Nat} (h:p=some (limbs a)) (e:a=b):p=some (limbs b):=by rw [h,e]
theorem len_mono {a b:Nat} (h:a≤b):(limbs a).length≤(limbs b).length:=by
 have h1:=(Ct (n:=b) (k:=(limbs b).length)).1 (Nat.le_refl _)
 exact Ct.2 (Nat.lt_of_le_of_lt h h1)
end Lf
theorem FL (x0:List Int) (A1:Option Addr) (c1:Nat) (w:World) (hT:TB w) (n1:RLu w A1 c1 x0) (r:Bool) (hr:BJ x0=some r):Calls Tryz.prog 143 #[.slice A1 x0.length c1] w (Ret Fe w r):=(Lf.FL x0 A1 c1 w hT n1 r hr).mono fun _ _ h=>h
theorem Fp (x0:List Int) (x1:Int) (A1:Option Addr) (c1:Nat) (w:World) (hT:TB w) (n1:RLu w A1 c1 x0) (r:Int) (hr:BO x0 x1=some r):Calls Tryz.prog 128 #[.slice A1 x0.length c1,.int .i64 x1] w (Ret JR w r):=(Lf.Fp x0 x1 A1 c1 w hT n1 r hr).mono fun _ _ h=>h
theorem FD (x0:Int)  (w:World) (hT:TB w)  (r:Nat) (hr:Cm x0=some r):Calls Tryz.prog 179 #[.int .u64 x0] w (Ret My w r):=by
 unfold Cm at hr
 obtain ⟨_,h,hr⟩:=Ab hr
 have h:=Br h
 obtain rfl:=sj hr
 exact (Lf.FD x0  w hT  _ (by obtain ⟨m,rfl⟩:∃m:Nat,x0=m:=⟨x0.toNat,by omega⟩;rw [Lf.rOf m (by omega)];rfl)).mono fun _ _ h=>h
theorem IG (x0:List Int) (A1:Option Addr) (c1:Nat) (w:World) (hT:TB w) (n1:RLu w A1 c1 x0) (r:Bool) (hr:FR x0=some r):Calls Tryz.prog 208 #[.slice A1 x0.length c1] w (Ret Fe w r):=(Lf.IG x0 A1 c1 w hT n1 r hr).mono fun _ _ h=>h
theorem GO (x0:Nat) (A1:Option Addr) (c1:Nat) (w:World) (hT:TB w) (n1:RU w A1 c1 x0) (r:Int) (hr:Cv x0=some r):Calls Tryz.prog 213 #[.slice A1 (sz x0) c1] w (Ret GV w r):=by
 unfold Cv at hr
 obtain ⟨_,h,hr⟩:=Ab hr
 have h:=Br h
 obtain rfl:=sj hr
 exact (Lf.GO (limbs x0) A1 c1 w hT n1 _ (Lf.wZeros x0 (by omega))).mono fun _ _ h=>h
theorem Fa (x0:Nat) (x1:Int) (A1:Option Addr) (c1:Nat) (w:World) (hT:TB w) (n1:RU w A1 c1 x0) (r:Nat) (hr:Cl x0 x1=some r):Calls Tryz.prog 204 #[.slice A1 (sz x0) c1,.int .i64 x1] w (Ret IJ w r):=by
 unfold Cl at hr
 obtain ⟨_,h,hr⟩:=Ab hr
 have h:=Br h
 obtain rfl:=sj hr
 exact (Lf.Fa (limbs x0) x1 A1 c1 w hT n1 _ (by obtain ⟨m,rfl⟩:∃m:Nat,x1=m:=⟨x1.toNat,by omega⟩;rw [Lf.wShr (AJ x0) m (Lf.szl h.1 (by decide)) (by omega),AP];rfl)).mono fun _ _ h=>h
theorem c_slices_Clone_wide_Nat (x0:Nat) (A1:Option Addr) (c1:Nat) (w:World) (hT:TB w) (n1:RU w A1 c1 x0) (r:Nat) (hr:Cz x0=some r):Calls Tryz.prog 201 #[.slice A1 (sz x0) c1] w (Ret IJ w r):=by
 unfold Cz at hr
 obtain ⟨_,h,hr⟩:=Ab hr
 have h:=Br h
 obtain rfl:=sj hr
 refine (Lf.FZ (limbs x0) A1 c1 w hT n1 (limbs x0) (by unfold Lf.CU;rw [Lf.gdB (by unfold sz at h;omega)])).mono fun e w' he=>?_
 obtain ⟨h1,v,h2,A,c,h3,h4⟩:=he
 exact ⟨h1,v,h2,A,c,h3,h4.rl⟩
theorem FJ (x0:Nat) (A1:Option Addr) (c1:Nat) (w:World) (hT:TB w) (n1:RU w A1 c1 x0) (r:Int) (hr:BI x0=some r):Calls Tryz.prog 153 #[.slice A1 (sz x0) c1] w (Ret GV w r):=by
 unfold BI at hr
 obtain ⟨_,h,hr⟩:=Ab hr
 have h:=Br h
 obtain rfl:=sj hr
 exact (Lf.FJ (limbs x0) A1 c1 w hT n1 _ (Lf.rZeros x0 (by omega))).mono fun _ _ h=>h
theorem Gm (x0:Nat) (x1:Int) (A1:Option Addr) (c1:Nat) (w:World) (hT:TB w) (n1:RU w A1 c1 x0) (r:Nat) (hr:BN x0 x1=some r):Calls Tryz.prog 154 #[.slice A1 (sz x0) c1,.int .i64 x1] w (Ret My w r):=by
 unfold BN at hr
 obtain ⟨_,h,hr⟩:=Ab hr
 have h:=Br h
 obtain rfl:=sj hr
 exact (Lf.Gm (limbs x0) x1 A1 c1 w hT n1 _ (by obtain ⟨m,rfl⟩:∃m:Nat,x1=m:=⟨x1.toNat,by omega⟩;rw [Lf.rShr (AJ x0) m (Lf.szl h.1 (by decide)) (by omega),AP];rfl)).mono fun _ _ h=>h
theorem DG (x0:Nat) (A1:Option Addr) (c1:Nat) (w:World) (hT:TB w) (n1:RU w A1 c1 x0) (r:Int) (hr:Bq x0=some r):Calls Tryz.prog 184 #[.slice A1 (sz x0) c1] w (Ret GV w r):=by
 unfold Bq at hr
 obtain ⟨_,h,hr⟩:=Ab hr
 have h:=Br h
 obtain rfl:=sj hr
 exact (Lf.DG (limbs x0) A1 c1 w hT n1 _ (Lf.wBits x0 (by omega))).mono fun _ _ h=>h
theorem Da (x0:Nat) (x1:Int) (A1:Option Addr) (c1:Nat) (w:World) (hT:TB w) (n1:RU w A1 c1 x0) (r:Nat) (hr:Bs x0 x1=some r):Calls Tryz.prog 185 #[.slice A1 (sz x0) c1,.int .i64 x1] w (Ret IJ w r):=by
 unfold Bs at hr
 obtain ⟨_,h,hr⟩:=Ab hr
 have h:=Br h
 obtain rfl:=sj hr
 exact (Lf.Da (limbs x0) x1 A1 c1 w hT n1 _ (by obtain ⟨m,rfl⟩:∃m:Nat,x1=m:=⟨x1.toNat,by omega⟩;rw [Lf.wShl (AJ x0) m (Lf.szl h.1 (by decide)) (by omega),AP];rfl)).mono fun _ _ h=>h
theorem EW (x0:Nat) (x1:Nat) (A1:Option Addr) (c1:Nat) (A2:Option Addr) (c2:Nat) (w:World) (hT:TB w) (n1:RU w A1 c1 x0) (n2:RU w A2 c2 x1) (r:Nat) (hr:Ck x0 x1=some r):Calls Tryz.prog 191 #[.slice A1 (sz x0) c1,.slice A2 (sz x1) c2] w (Ret IJ w r):=by
 unfold Ck at hr
 obtain ⟨_,h,hr⟩:=Ab hr
 have h:=Br h
 obtain rfl:=sj hr
 exact (Lf.EW (limbs x0) (limbs x1) A1 c1 A2 c2 w hT n1 n2 _ (Lf.toR (Lf.wSub (AJ x0) (AJ x1) (Lf.szl h.1 (by decide)) (Lf.len_mono h.2.2) (by rw [AP,AP];exact h.2.2)) (by rw [AP,AP]))).mono fun _ _ h=>h
theorem ES (x0:Nat) (x1:Nat) (A1:Option Addr) (c1:Nat) (A2:Option Addr) (c2:Nat) (w:World) (hT:TB w) (n1:RU w A1 c1 x0) (n2:RU w A2 c2 x1) (r:Int) (hr:Cj x0 x1=some r):Calls Tryz.prog 205 #[.slice A1 (sz x0) c1,.slice A2 (sz x1) c2] w (Ret GV w r):=by
 unfold Cj at hr
 obtain ⟨_,h,hr⟩:=Ab hr
 have h:=Br h
 obtain rfl:=sj hr
 exact (Lf.ES (limbs x0) (limbs x1) A1 c1 A2 c2 w hT n1 n2 _ (Lf.wCmp x0 x1 (by omega) (by omega))).mono fun _ _ h=>h
theorem FI (x0:Nat) (x1:Nat) (A1:Option Addr) (c1:Nat) (A2:Option Addr) (c2:Nat) (w:World) (hT:TB w) (n1:RU w A1 c1 x0) (n2:RU w A2 c2 x1) (r:Nat) (hr:Cr x0 x1=some r):Calls Tryz.prog 207 #[.slice A1 (sz x0) c1,.slice A2 (sz x1) c2] w (Ret IJ w r):=by
 unfold Cr at hr
 obtain ⟨_,h,hr⟩:=Ab hr
 have h:=Br h
 obtain rfl:=sj hr
 exact (Lf.FI (limbs x0) (limbs x1) A1 c1 A2 c2 w hT n1 n2 _ (Lf.toR (Lf.wAdd (AJ x0) (AJ x1) (Lf.szl h.1 (by decide)) (Lf.szl h.2 (by decide))) (by rw [AP,AP]))).mono fun _ _ h=>h
theorem GE (x0:Nat) (x1:Nat) (A1:Option Addr) (c1:Nat) (A2:Option Addr) (c2:Nat) (w:World) (hT:TB w) (n1:RU w A1 c1 x0) (n2:RU w A2 c2 x1) (r:Nat) (hr:CE x0 x1=some r):Calls Tryz.prog 241 #[.slice A1 (sz x0) c1,.slice A2 (sz x1) c2] w (Ret IJ w r):=by
 unfold CE at hr
 obtain ⟨_,h,hr⟩:=Ab hr
 have h:=Br h
 obtain rfl:=sj hr
 exact (Lf.GE (limbs x0) (limbs x1) A1 c1 A2 c2 w hT n1 n2 _ (Lf.toR (Lf.wMul (AJ x0) (AJ x1) (by have:=h.1;have:=h.2;unfold sz at *;omega)) (by rw [AP,AP]))).mono fun _ _ h=>h
theorem Gc (x0:List Int) (x1:List Int) (A1:Option Addr) (c1:Nat) (A2:Option Addr) (c2:Nat) (w:World) (hT:TB w) (n1:RLu w A1 c1 x0) (n2:RLu w A2 c2 x1) (r:Bool) (hr:BT x0 x1=some r):Calls Tryz.prog 144 #[.slice A1 x0.length c1,.slice A2 x1.length c2] w (Ret Fe w r):=(Lf.Gc x0 x1 A1 c1 A2 c2 w hT n1 n2 r hr).mono fun _ _ h=>h
theorem Gz (x0:Nat) (x1:Nat) (A1:Option Addr) (c1:Nat) (A2:Option Addr) (c2:Nat) (w:World) (hT:TB w) (n1:RU w A1 c1 x0) (n2:RU w A2 c2 x1) (r:Nat × Nat) (hr:CI x0 x1=some r):Calls Tryz.prog 186 #[.slice A1 (sz x0) c1,.slice A2 (sz x1) c2] w (Ret JF w r):=by
 unfold CI at hr
 obtain ⟨_,h,hr⟩:=Ab hr
 have h:=Br h
 obtain rfl:=sj hr
 exact (Lf.Gz (limbs x0) (limbs x1) A1 c1 A2 c2 w hT n1 n2 _ (Lf.wDiv x0 x1 h.2.2 h.1 h.2.1)).mono fun _ _ h=>h
end Go.Proofs

