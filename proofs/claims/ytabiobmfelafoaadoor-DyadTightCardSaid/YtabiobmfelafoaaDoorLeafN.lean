import Derived.Test.YtabiobmfelafoaaDoorGenBase
import Derived.Test.YtabiobmfelafoaaDoorLeaf2
import Derived.Test.YtabiobmfelafoaaDoorLeaf3
namespace Go.Proofs
set_option linter.unusedVariables false
set_option linter.unusedSimpArgs false
set_option maxHeartbeats 4000000
open Go.RowKit Go.Sb Go.Proofs.Sbn
namespace Lf
theorem szl {n k m:Nat} (h:sz n<k) (hk:k≤m):(limbs n).length<m:=Nat.lt_of_lt_of_le h hk
theorem toR {p:Option (List Int)} {a b:Nat} (h:p=some (limbs a)) (e:a=b):p=some (limbs b):=by rw [h,e]
theorem len_mono {a b:Nat} (h:a≤b):(limbs a).length≤(limbs b).length:=by
 have h1:=(CQ (n:=b) (k:=(limbs b).length)).1 (Nat.le_refl _)
 exact CQ.2 (Nat.lt_of_le_of_lt h h1)
end Lf
theorem ER (x0:List Int) (A1:Option Addr) (c1:Nat) (w:World) (hT:TB w) (n1:RLu w A1 c1 x0) (r:Bool) (hr:Bt x0=some r):Calls Tryd.prog 105 #[.slice A1 x0.length c1] w (Ret EZ w r):=(Lf.ER x0 A1 c1 w hT n1 r hr).mono fun _ _ h=>h
theorem EG (x0:List Int) (x1:Int) (A1:Option Addr) (c1:Nat) (w:World) (hT:TB w) (n1:RLu w A1 c1 x0) (r:Int) (hr:Bz x0 x1=some r):Calls Tryd.prog 82 #[.slice A1 x0.length c1,.int .i64 x1] w (Ret IF w r):=(Lf.EG x0 x1 A1 c1 w hT n1 r hr).mono fun _ _ h=>h
theorem Hk (x0:List Int) (A1:Option Addr) (c1:Nat) (w:World) (hT:TB w) (n1:RLu w A1 c1 x0) (r:Bool) (hr:EW x0=some r):Calls Tryd.prog 100 #[.slice A1 x0.length c1] w (Ret EZ w r):=(Lf.Hk x0 A1 c1 w hT n1 r hr).mono fun _ _ h=>h
theorem CO (x0:Nat) (A1:Option Addr) (c1:Nat) (w:World) (hT:TB w) (n1:RU w A1 c1 x0) (r:Int) (hr:Be x0=some r):Calls Tryd.prog 87 #[.slice A1 (sz x0) c1] w (Ret Gr w r):=by
 unfold Be at hr
 obtain ⟨_,h,hr⟩:=Ab hr
 have h:=Bg h
 obtain rfl:=sj hr
 exact (Lf.CO (limbs x0) A1 c1 w hT n1 _ (Lf.wBits x0 (by omega))).mono fun _ _ h=>h
theorem Cc (x0:Nat) (x1:Int) (A1:Option Addr) (c1:Nat) (w:World) (hT:TB w) (n1:RU w A1 c1 x0) (r:Nat) (hr:Ba x0 x1=some r):Calls Tryd.prog 88 #[.slice A1 (sz x0) c1,.int .i64 x1] w (Ret Ib w r):=by
 unfold Ba at hr
 obtain ⟨_,h,hr⟩:=Ab hr
 have h:=Bg h
 obtain rfl:=sj hr
 exact (Lf.Cc (limbs x0) x1 A1 c1 w hT n1 _ (by obtain ⟨m,rfl⟩:∃m:Nat,x1=m:=⟨x1.toNat,by omega⟩;rw [Lf.wShl (AK x0) m (Lf.szl h.1 (by decide)) (by omega),AZ];rfl)).mono fun _ _ h=>h
theorem EY (x0:Nat) (x1:Nat) (A1:Option Addr) (c1:Nat) (A2:Option Addr) (c2:Nat) (w:World) (hT:TB w) (n1:RU w A1 c1 x0) (n2:RU w A2 c2 x1) (r:Nat) (hr:Ca x0 x1=some r):Calls Tryd.prog 98 #[.slice A1 (sz x0) c1,.slice A2 (sz x1) c2] w (Ret Ib w r):=by
 unfold Ca at hr
 obtain ⟨_,h,hr⟩:=Ab hr
 have h:=Bg h
 obtain rfl:=sj hr
 exact (Lf.EY (limbs x0) (limbs x1) A1 c1 A2 c2 w hT n1 n2 _ (Lf.toR (Lf.wAdd (AK x0) (AK x1) (Lf.szl h.1 (by decide)) (Lf.szl h.2 (by decide))) (by rw [AZ,AZ]))).mono fun _ _ h=>h
theorem Ez (x0:Nat) (x1:Nat) (A1:Option Addr) (c1:Nat) (A2:Option Addr) (c2:Nat) (w:World) (hT:TB w) (n1:RU w A1 c1 x0) (n2:RU w A2 c2 x1) (r:Int) (hr:BV x0 x1=some r):Calls Tryd.prog 96 #[.slice A1 (sz x0) c1,.slice A2 (sz x1) c2] w (Ret Gr w r):=by
 unfold BV at hr
 obtain ⟨_,h,hr⟩:=Ab hr
 have h:=Bg h
 obtain rfl:=sj hr
 exact (Lf.Ez (limbs x0) (limbs x1) A1 c1 A2 c2 w hT n1 n2 _ (Lf.wCmp x0 x1 (by omega) (by omega))).mono fun _ _ h=>h
theorem DT (x0:Nat) (x1:Nat) (A1:Option Addr) (c1:Nat) (A2:Option Addr) (c2:Nat) (w:World) (hT:TB w) (n1:RU w A1 c1 x0) (n2:RU w A2 c2 x1) (r:Nat) (hr:BM x0 x1=some r):Calls Tryd.prog 89 #[.slice A1 (sz x0) c1,.slice A2 (sz x1) c2] w (Ret Ib w r):=by
 unfold BM at hr
 obtain ⟨_,h,hr⟩:=Ab hr
 have h:=Bg h
 obtain rfl:=sj hr
 exact (Lf.DT (limbs x0) (limbs x1) A1 c1 A2 c2 w hT n1 n2 _ (Lf.toR (Lf.wSub (AK x0) (AK x1) (Lf.szl h.1 (by decide)) (Lf.len_mono h.2.2) (by rw [AZ,AZ];exact h.2.2)) (by rw [AZ,AZ]))).mono fun _ _ h=>h
theorem FW (x0:Nat) (A1:Option Addr) (c1:Nat) (w:World) (hT:TB w) (n1:RU w A1 c1 x0) (r:Int) (hr:Cg x0=some r):Calls Tryd.prog 101 #[.slice A1 (sz x0) c1] w (Ret Gr w r):=by
 unfold Cg at hr
 obtain ⟨_,h,hr⟩:=Ab hr
 have h:=Bg h
 obtain rfl:=sj hr
 exact (Lf.FW (limbs x0) A1 c1 w hT n1 _ (Lf.wZeros x0 (by omega))).mono fun _ _ h=>h
theorem Et (x0:Nat) (x1:Int) (A1:Option Addr) (c1:Nat) (w:World) (hT:TB w) (n1:RU w A1 c1 x0) (r:Nat) (hr:BS x0 x1=some r):Calls Tryd.prog 95 #[.slice A1 (sz x0) c1,.int .i64 x1] w (Ret Ib w r):=by
 unfold BS at hr
 obtain ⟨_,h,hr⟩:=Ab hr
 have h:=Bg h
 obtain rfl:=sj hr
 exact (Lf.Et (limbs x0) x1 A1 c1 w hT n1 _ (by obtain ⟨m,rfl⟩:∃m:Nat,x1=m:=⟨x1.toNat,by omega⟩;rw [Lf.wShr (AK x0) m (Lf.szl h.1 (by decide)) (by omega),AZ];rfl)).mono fun _ _ h=>h
theorem EP (x0:Int)  (w:World) (hT:TB w)  (r:Nat) (hr:Cm x0=some r):Calls Tryd.prog 69 #[.int .u64 x0] w (Ret KO w r):=by
 unfold Cm at hr
 obtain ⟨_,h,hr⟩:=Ab hr
 have h:=Bg h
 obtain rfl:=sj hr
 exact (Lf.EP x0  w hT  _ (by obtain ⟨m,rfl⟩:∃m:Nat,x0=m:=⟨x0.toNat,by omega⟩;rw [Lf.rOf m (by omega)];rfl)).mono fun _ _ h=>h
theorem c_slices_Clone_wide_Nat (x0:Nat) (A1:Option Addr) (c1:Nat) (w:World) (hT:TB w) (n1:RU w A1 c1 x0) (r:Nat) (hr:Cn x0=some r):Calls Tryd.prog 77 #[.slice A1 (sz x0) c1] w (Ret Ib w r):=by
 unfold Cn at hr
 obtain ⟨_,h,hr⟩:=Ab hr
 have h:=Bg h
 obtain rfl:=sj hr
 refine (Lf.Fk (limbs x0) A1 c1 w hT n1 (limbs x0) (by unfold Lf.CI;rw [Lf.gdB (by unfold sz at h;omega)])).mono fun e w' he=>?_
 obtain ⟨h1,v,h2,A,c,h3,h4⟩:=he
 exact ⟨h1,v,h2,A,c,h3,h4.rl⟩
theorem EU (x0:Nat) (A1:Option Addr) (c1:Nat) (w:World) (hT:TB w) (n1:RU w A1 c1 x0) (r:Int) (hr:Br x0=some r):Calls Tryd.prog 79 #[.slice A1 (sz x0) c1] w (Ret Gr w r):=by
 unfold Br at hr
 obtain ⟨_,h,hr⟩:=Ab hr
 have h:=Bg h
 obtain rfl:=sj hr
 exact (Lf.EU (limbs x0) A1 c1 w hT n1 _ (Lf.rZeros x0 (by omega))).mono fun _ _ h=>h
theorem Fx (x0:Nat) (x1:Int) (A1:Option Addr) (c1:Nat) (w:World) (hT:TB w) (n1:RU w A1 c1 x0) (r:Nat) (hr:BN x0 x1=some r):Calls Tryd.prog 80 #[.slice A1 (sz x0) c1,.int .i64 x1] w (Ret KO w r):=by
 unfold BN at hr
 obtain ⟨_,h,hr⟩:=Ab hr
 have h:=Bg h
 obtain rfl:=sj hr
 exact (Lf.Fx (limbs x0) x1 A1 c1 w hT n1 _ (by obtain ⟨m,rfl⟩:∃m:Nat,x1=m:=⟨x1.toNat,by omega⟩;rw [Lf.rShr (AK x0) m (Lf.szl h.1 (by decide)) (by omega),AZ];rfl)).mono fun _ _ h=>h
theorem FK (x0:Nat) (x1:Nat) (A1:Option Addr) (c1:Nat) (A2:Option Addr) (c2:Nat) (w:World) (hT:TB w) (n1:RU w A1 c1 x0) (n2:RU w A2 c2 x1) (r:Nat) (hr:Ct x0 x1=some r):Calls Tryd.prog 103 #[.slice A1 (sz x0) c1,.slice A2 (sz x1) c2] w (Ret Ib w r):=by
 unfold Ct at hr
 obtain ⟨_,h,hr⟩:=Ab hr
 have h:=Bg h
 obtain rfl:=sj hr
 exact (Lf.FK (limbs x0) (limbs x1) A1 c1 A2 c2 w hT n1 n2 _ (Lf.toR (Lf.wMul (AK x0) (AK x1) (by have:=h.1;have:=h.2;unfold sz at *;omega)) (by rw [AZ,AZ]))).mono fun _ _ h=>h
theorem Fo (x0:List Int) (x1:List Int) (A1:Option Addr) (c1:Nat) (A2:Option Addr) (c2:Nat) (w:World) (hT:TB w) (n1:RLu w A1 c1 x0) (n2:RLu w A2 c2 x1) (r:Bool) (hr:BG x0 x1=some r):Calls Tryd.prog 74 #[.slice A1 x0.length c1,.slice A2 x1.length c2] w (Ret EZ w r):=(Lf.Fo x0 x1 A1 c1 A2 c2 w hT n1 n2 r hr).mono fun _ _ h=>h
theorem FH (x0:Nat) (x1:Nat) (A1:Option Addr) (c1:Nat) (A2:Option Addr) (c2:Nat) (w:World) (hT:TB w) (n1:RU w A1 c1 x0) (n2:RU w A2 c2 x1) (r:Nat × Nat) (hr:Cy x0 x1=some r):Calls Tryd.prog 92 #[.slice A1 (sz x0) c1,.slice A2 (sz x1) c2] w (Ret Jl w r):=by
 unfold Cy at hr
 obtain ⟨_,h,hr⟩:=Ab hr
 have h:=Bg h
 obtain rfl:=sj hr
 exact (Lf.FH (limbs x0) (limbs x1) A1 c1 A2 c2 w hT n1 n2 _ (Lf.wDiv x0 x1 h.2.2 h.1 h.2.1)).mono fun _ _ h=>h
end Go.Proofs

