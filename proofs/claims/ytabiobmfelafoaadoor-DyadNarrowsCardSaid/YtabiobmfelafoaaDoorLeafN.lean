import Derived.Test.YtabiobmfelafoaaDoorGenBase
import Derived.Test.YtabiobmfelafoaaDoorLeaf2
import Derived.Test.YtabiobmfelafoaaDoorLeaf3
namespace Go.Proofs
set_option linter.unusedVariables false
set_option linter.unusedSimpArgs false
set_option maxHeartbeats 4000000
open Go.RowKit Go.Sb Go.Proofs.Sbn
namespace Lf
theorem szl {n k m:Nat} (h:sz n<k) (hk:k≤m):(limbs n).length<m:=Nat.lt_of_lt_of_le h hk
theorem toR {p:Option (List Int)} {a b:Nat} (h:p=some (limbs a)) (e:a=b):p=some (limbs b):=by rw [h,e]
theorem len_mono {a b:Nat} (h:a≤b):(limbs a).length≤(limbs b).length:=by
 have h1:=(CR (n:=b) (k:=(limbs b).length)).1 (Nat.le_refl _)
 exact CR.2 (Nat.lt_of_le_of_lt h h1)
end Lf
theorem Fj (x0:List Int) (A1:Option Addr) (c1:Nat) (w:World) (hT:TB w) (n1:RLu w A1 c1 x0) (r:Bool) (hr:Bo x0=some r):Calls Tryd.prog 105 #[.slice A1 x0.length c1] w (Ret Fi w r):=(Lf.Fj x0 A1 c1 w hT n1 r hr).mono fun _ _ h=>h
theorem EN (x0:List Int) (x1:Int) (A1:Option Addr) (c1:Nat) (w:World) (hT:TB w) (n1:RLu w A1 c1 x0) (r:Int) (hr:Bt x0 x1=some r):Calls Tryd.prog 82 #[.slice A1 x0.length c1,.int .i64 x1] w (Ret Jf w r):=(Lf.EN x0 x1 A1 c1 w hT n1 r hr).mono fun _ _ h=>h
theorem HB (x0:List Int) (A1:Option Addr) (c1:Nat) (w:World) (hT:TB w) (n1:RLu w A1 c1 x0) (r:Bool) (hr:Fh x0=some r):Calls Tryd.prog 100 #[.slice A1 x0.length c1] w (Ret Fi w r):=(Lf.HB x0 A1 c1 w hT n1 r hr).mono fun _ _ h=>h
theorem CS (x0:Nat) (A1:Option Addr) (c1:Nat) (w:World) (hT:TB w) (n1:RU w A1 c1 x0) (r:Int) (hr:Bc x0=some r):Calls Tryd.prog 87 #[.slice A1 (sz x0) c1] w (Ret Gr w r):=by
 unfold Bc at hr
 obtain ⟨_,h,hr⟩:=Ab hr
 have h:=Bf h
 obtain rfl:=sj hr
 exact (Lf.CS (limbs x0) A1 c1 w hT n1 _ (Lf.wBits x0 (by omega))).mono fun _ _ h=>h
theorem BT (x0:Nat) (x1:Int) (A1:Option Addr) (c1:Nat) (w:World) (hT:TB w) (n1:RU w A1 c1 x0) (r:Nat) (hr:AV x0 x1=some r):Calls Tryd.prog 88 #[.slice A1 (sz x0) c1,.int .i64 x1] w (Ret IJ w r):=by
 unfold AV at hr
 obtain ⟨_,h,hr⟩:=Ab hr
 have h:=Bf h
 obtain rfl:=sj hr
 exact (Lf.BT (limbs x0) x1 A1 c1 w hT n1 _ (by obtain ⟨m,rfl⟩:∃m:Nat,x1=m:=⟨x1.toNat,by omega⟩;rw [Lf.wShl (AN x0) m (Lf.szl h.1 (by decide)) (by omega),Bb];rfl)).mono fun _ _ h=>h
theorem Ff (x0:Nat) (x1:Nat) (A1:Option Addr) (c1:Nat) (A2:Option Addr) (c2:Nat) (w:World) (hT:TB w) (n1:RU w A1 c1 x0) (n2:RU w A2 c2 x1) (r:Nat) (hr:BW x0 x1=some r):Calls Tryd.prog 98 #[.slice A1 (sz x0) c1,.slice A2 (sz x1) c2] w (Ret IJ w r):=by
 unfold BW at hr
 obtain ⟨_,h,hr⟩:=Ab hr
 have h:=Bf h
 obtain rfl:=sj hr
 exact (Lf.Ff (limbs x0) (limbs x1) A1 c1 A2 c2 w hT n1 n2 _ (Lf.toR (Lf.wAdd (AN x0) (AN x1) (Lf.szl h.1 (by decide)) (Lf.szl h.2 (by decide))) (by rw [Bb,Bb]))).mono fun _ _ h=>h
theorem EF (x0:Nat) (x1:Nat) (A1:Option Addr) (c1:Nat) (A2:Option Addr) (c2:Nat) (w:World) (hT:TB w) (n1:RU w A1 c1 x0) (n2:RU w A2 c2 x1) (r:Int) (hr:BI x0 x1=some r):Calls Tryd.prog 96 #[.slice A1 (sz x0) c1,.slice A2 (sz x1) c2] w (Ret Gr w r):=by
 unfold BI at hr
 obtain ⟨_,h,hr⟩:=Ab hr
 have h:=Bf h
 obtain rfl:=sj hr
 exact (Lf.EF (limbs x0) (limbs x1) A1 c1 A2 c2 w hT n1 n2 _ (Lf.wCmp x0 x1 (by omega) (by omega))).mono fun _ _ h=>h
theorem Ei (x0:Nat) (x1:Nat) (A1:Option Addr) (c1:Nat) (A2:Option Addr) (c2:Nat) (w:World) (hT:TB w) (n1:RU w A1 c1 x0) (n2:RU w A2 c2 x1) (r:Nat) (hr:BB x0 x1=some r):Calls Tryd.prog 89 #[.slice A1 (sz x0) c1,.slice A2 (sz x1) c2] w (Ret IJ w r):=by
 unfold BB at hr
 obtain ⟨_,h,hr⟩:=Ab hr
 have h:=Bf h
 obtain rfl:=sj hr
 exact (Lf.Ei (limbs x0) (limbs x1) A1 c1 A2 c2 w hT n1 n2 _ (Lf.toR (Lf.wSub (AN x0) (AN x1) (Lf.szl h.1 (by decide)) (Lf.len_mono h.2.2) (by rw [Bb,Bb];exact h.2.2)) (by rw [Bb,Bb]))).mono fun _ _ h=>h
theorem FW (x0:Nat) (A1:Option Addr) (c1:Nat) (w:World) (hT:TB w) (n1:RU w A1 c1 x0) (r:Int) (hr:BZ x0=some r):Calls Tryd.prog 101 #[.slice A1 (sz x0) c1] w (Ret Gr w r):=by
 unfold BZ at hr
 obtain ⟨_,h,hr⟩:=Ab hr
 have h:=Bf h
 obtain rfl:=sj hr
 exact (Lf.FW (limbs x0) A1 c1 w hT n1 _ (Lf.wZeros x0 (by omega))).mono fun _ _ h=>h
theorem EE (x0:Nat) (x1:Int) (A1:Option Addr) (c1:Nat) (w:World) (hT:TB w) (n1:RU w A1 c1 x0) (r:Nat) (hr:BH x0 x1=some r):Calls Tryd.prog 95 #[.slice A1 (sz x0) c1,.int .i64 x1] w (Ret IJ w r):=by
 unfold BH at hr
 obtain ⟨_,h,hr⟩:=Ab hr
 have h:=Bf h
 obtain rfl:=sj hr
 exact (Lf.EE (limbs x0) x1 A1 c1 w hT n1 _ (by obtain ⟨m,rfl⟩:∃m:Nat,x1=m:=⟨x1.toNat,by omega⟩;rw [Lf.wShr (AN x0) m (Lf.szl h.1 (by decide)) (by omega),Bb];rfl)).mono fun _ _ h=>h
theorem EY (x0:Int)  (w:World) (hT:TB w)  (r:Nat) (hr:Ch x0=some r):Calls Tryd.prog 69 #[.int .u64 x0] w (Ret Mn w r):=by
 unfold Ch at hr
 obtain ⟨_,h,hr⟩:=Ab hr
 have h:=Bf h
 obtain rfl:=sj hr
 exact (Lf.EY x0  w hT  _ (by obtain ⟨m,rfl⟩:∃m:Nat,x0=m:=⟨x0.toNat,by omega⟩;rw [Lf.rOf m (by omega)];rfl)).mono fun _ _ h=>h
theorem c_slices_Clone_wide_Nat (x0:Nat) (A1:Option Addr) (c1:Nat) (w:World) (hT:TB w) (n1:RU w A1 c1 x0) (r:Nat) (hr:Cj x0=some r):Calls Tryd.prog 77 #[.slice A1 (sz x0) c1] w (Ret IJ w r):=by
 unfold Cj at hr
 obtain ⟨_,h,hr⟩:=Ab hr
 have h:=Bf h
 obtain rfl:=sj hr
 refine (Lf.Fs (limbs x0) A1 c1 w hT n1 (limbs x0) (by unfold Lf.CG;rw [Lf.gdB (by unfold sz at h;omega)])).mono fun e w' he=>?_
 obtain ⟨h1,v,h2,A,c,h3,h4⟩:=he
 exact ⟨h1,v,h2,A,c,h3,h4.rl⟩
theorem Fg (x0:Nat) (A1:Option Addr) (c1:Nat) (w:World) (hT:TB w) (n1:RU w A1 c1 x0) (r:Int) (hr:Bn x0=some r):Calls Tryd.prog 79 #[.slice A1 (sz x0) c1] w (Ret Gr w r):=by
 unfold Bn at hr
 obtain ⟨_,h,hr⟩:=Ab hr
 have h:=Bf h
 obtain rfl:=sj hr
 exact (Lf.Fg (limbs x0) A1 c1 w hT n1 _ (Lf.rZeros x0 (by omega))).mono fun _ _ h=>h
theorem FA (x0:Nat) (x1:Int) (A1:Option Addr) (c1:Nat) (w:World) (hT:TB w) (n1:RU w A1 c1 x0) (r:Nat) (hr:BC x0 x1=some r):Calls Tryd.prog 80 #[.slice A1 (sz x0) c1,.int .i64 x1] w (Ret Mn w r):=by
 unfold BC at hr
 obtain ⟨_,h,hr⟩:=Ab hr
 have h:=Bf h
 obtain rfl:=sj hr
 exact (Lf.FA (limbs x0) x1 A1 c1 w hT n1 _ (by obtain ⟨m,rfl⟩:∃m:Nat,x1=m:=⟨x1.toNat,by omega⟩;rw [Lf.rShr (AN x0) m (Lf.szl h.1 (by decide)) (by omega),Bb];rfl)).mono fun _ _ h=>h
theorem FL (x0:Nat) (x1:Nat) (A1:Option Addr) (c1:Nat) (A2:Option Addr) (c2:Nat) (w:World) (hT:TB w) (n1:RU w A1 c1 x0) (n2:RU w A2 c2 x1) (r:Nat) (hr:Cm x0 x1=some r):Calls Tryd.prog 103 #[.slice A1 (sz x0) c1,.slice A2 (sz x1) c2] w (Ret IJ w r):=by
 unfold Cm at hr
 obtain ⟨_,h,hr⟩:=Ab hr
 have h:=Bf h
 obtain rfl:=sj hr
 exact (Lf.FL (limbs x0) (limbs x1) A1 c1 A2 c2 w hT n1 n2 _ (Lf.toR (Lf.wMul (AN x0) (AN x1) (by have:=h.1;have:=h.2;unfold sz at *;omega)) (by rw [Bb,Bb]))).mono fun _ _ h=>h
theorem Fu (x0:List Int) (x1:List Int) (A1:Option Addr) (c1:Nat) (A2:Option Addr) (c2:Nat) (w:World) (hT:TB w) (n1:RLu w A1 c1 x0) (n2:RLu w A2 c2 x1) (r:Bool) (hr:Ds x0 x1=some r):Calls Tryd.prog 74 #[.slice A1 x0.length c1,.slice A2 x1.length c2] w (Ret Fi w r):=(Lf.Fu x0 x1 A1 c1 A2 c2 w hT n1 n2 r hr).mono fun _ _ h=>h
theorem FN (x0:Nat) (x1:Nat) (A1:Option Addr) (c1:Nat) (A2:Option Addr) (c2:Nat) (w:World) (hT:TB w) (n1:RU w A1 c1 x0) (n2:RU w A2 c2 x1) (r:Nat × Nat) (hr:Ct x0 x1=some r):Calls Tryd.prog 92 #[.slice A1 (sz x0) c1,.slice A2 (sz x1) c2] w (Ret JP w r):=by
 unfold Ct at hr
 obtain ⟨_,h,hr⟩:=Ab hr
 have h:=Bf h
 obtain rfl:=sj hr
 exact (Lf.FN (limbs x0) (limbs x1) A1 c1 A2 c2 w hT n1 n2 _ (Lf.wDiv x0 x1 h.2.2 h.1 h.2.1)).mono fun _ _ h=>h
end Go.Proofs

