import Derived.Test.YtabiobmfelafoaaGreatDoorGenBase
import Derived.Test.YtabiobmfelafoaaGreatDoorLeaf2
import Derived.Test.YtabiobmfelafoaaGreatDoorLeaf3
namespace Go.Proofs
set_option linter.unusedVariables false
set_option linter.unusedSimpArgs false
set_option maxHeartbeats 4000000
open Go.RowKit Go.Sb Go.Proofs.Sbn
namespace Lf
theorem szl {n k m:Nat} (h:sz n<k) (hk:k≤m):(limbs n).length<m:=Nat.lt_of_lt_of_le h hk
theorem toR {p:Option (List Int)} {a b:Nat} (h:p=some (limbs a)) (e:a=b):p=some (limbs b):=by rw [h,e]
theorem len_mono {a b:Nat} (h:a≤b):(limbs a).length≤(limbs b).length:=by
 have h1:=(CL (n:=b) (k:=(limbs b).length)).1 (Nat.le_refl _)
 exact CL.2 (Nat.lt_of_le_of_lt h h1)
end Lf
theorem Gs (x0:List Int) (A1:Option Addr) (c1:Nat) (w:World) (hT:TB w) (n1:RLu w A1 c1 x0) (r:Bool) (hr:BG x0=some r):Calls Tryz.prog 143 #[.slice A1 x0.length c1] w (Ret FW w r):=(Lf.Gs x0 A1 c1 w hT n1 r hr).mono fun _ _ h=>h
theorem FP (x0:List Int) (x1:Int) (A1:Option Addr) (c1:Nat) (w:World) (hT:TB w) (n1:RLu w A1 c1 x0) (r:Int) (hr:BP x0 x1=some r):Calls Tryz.prog 128 #[.slice A1 x0.length c1,.int .i64 x1] w (Ret Kb w r):=(Lf.FP x0 x1 A1 c1 w hT n1 r hr).mono fun _ _ h=>h
theorem Fu (x0:Int)  (w:World) (hT:TB w)  (r:Nat) (hr:Cy x0=some r):Calls Tryz.prog 179 #[.int .u64 x0] w (Ret IX w r):=by
 unfold Cy at hr
 obtain ⟨_,h,hr⟩:=Ab hr
 have h:=AG h
 obtain rfl:=sj hr
 exact (Lf.Fu x0  w hT  _ (by obtain ⟨m,rfl⟩:∃m:Nat,x0=m:=⟨x0.toNat,by omega⟩;rw [Lf.rOf m (by omega)];rfl)).mono fun _ _ h=>h
theorem IW (x0:List Int) (A1:Option Addr) (c1:Nat) (w:World) (hT:TB w) (n1:RLu w A1 c1 x0) (r:Bool) (hr:Gt x0=some r):Calls Tryz.prog 208 #[.slice A1 x0.length c1] w (Ret FW w r):=(Lf.IW x0 A1 c1 w hT n1 r hr).mono fun _ _ h=>h
theorem Hm (x0:Nat) (A1:Option Addr) (c1:Nat) (w:World) (hT:TB w) (n1:RU w A1 c1 x0) (r:Int) (hr:CQ x0=some r):Calls Tryz.prog 213 #[.slice A1 (sz x0) c1] w (Ret Gx w r):=by
 unfold CQ at hr
 obtain ⟨_,h,hr⟩:=Ab hr
 have h:=AG h
 obtain rfl:=sj hr
 exact (Lf.Hm (limbs x0) A1 c1 w hT n1 _ (Lf.wZeros x0 (by omega))).mono fun _ _ h=>h
theorem FE (x0:Nat) (x1:Int) (A1:Option Addr) (c1:Nat) (w:World) (hT:TB w) (n1:RU w A1 c1 x0) (r:Nat) (hr:Cv x0 x1=some r):Calls Tryz.prog 204 #[.slice A1 (sz x0) c1,.int .i64 x1] w (Ret Jj w r):=by
 unfold Cv at hr
 obtain ⟨_,h,hr⟩:=Ab hr
 have h:=AG h
 obtain rfl:=sj hr
 exact (Lf.FE (limbs x0) x1 A1 c1 w hT n1 _ (by obtain ⟨m,rfl⟩:∃m:Nat,x1=m:=⟨x1.toNat,by omega⟩;rw [Lf.wShr (Ay x0) m (Lf.szl h.1 (by decide)) (by omega),AB];rfl)).mono fun _ _ h=>h
theorem c_slices_Clone_wide_Nat (x0:Nat) (A1:Option Addr) (c1:Nat) (w:World) (hT:TB w) (n1:RU w A1 c1 x0) (r:Nat) (hr:CV x0=some r):Calls Tryz.prog 201 #[.slice A1 (sz x0) c1] w (Ret Jj w r):=by
 unfold CV at hr
 obtain ⟨_,h,hr⟩:=Ab hr
 have h:=AG h
 obtain rfl:=sj hr
 refine (Lf.Gy (limbs x0) A1 c1 w hT n1 (limbs x0) (by unfold Lf.Du;rw [Lf.gdB (by unfold sz at h;omega)])).mono fun e w' he=>?_
 obtain ⟨h1,v,h2,A,c,h3,h4⟩:=he
 exact ⟨h1,v,h2,A,c,h3,h4.rl⟩
theorem Gk (x0:Nat) (A1:Option Addr) (c1:Nat) (w:World) (hT:TB w) (n1:RU w A1 c1 x0) (r:Int) (hr:BH x0=some r):Calls Tryz.prog 153 #[.slice A1 (sz x0) c1] w (Ret Gx w r):=by
 unfold BH at hr
 obtain ⟨_,h,hr⟩:=Ab hr
 have h:=AG h
 obtain rfl:=sj hr
 exact (Lf.Gk (limbs x0) A1 c1 w hT n1 _ (Lf.rZeros x0 (by omega))).mono fun _ _ h=>h
theorem FV (x0:Nat) (x1:Int) (A1:Option Addr) (c1:Nat) (w:World) (hT:TB w) (n1:RU w A1 c1 x0) (r:Nat) (hr:BR x0 x1=some r):Calls Tryz.prog 154 #[.slice A1 (sz x0) c1,.int .i64 x1] w (Ret IX w r):=by
 unfold BR at hr
 obtain ⟨_,h,hr⟩:=Ab hr
 have h:=AG h
 obtain rfl:=sj hr
 exact (Lf.FV (limbs x0) x1 A1 c1 w hT n1 _ (by obtain ⟨m,rfl⟩:∃m:Nat,x1=m:=⟨x1.toNat,by omega⟩;rw [Lf.rShr (Ay x0) m (Lf.szl h.1 (by decide)) (by omega),AB];rfl)).mono fun _ _ h=>h
theorem DE (x0:Nat) (A1:Option Addr) (c1:Nat) (w:World) (hT:TB w) (n1:RU w A1 c1 x0) (r:Int) (hr:Bt x0=some r):Calls Tryz.prog 184 #[.slice A1 (sz x0) c1] w (Ret Gx w r):=by
 unfold Bt at hr
 obtain ⟨_,h,hr⟩:=Ab hr
 have h:=AG h
 obtain rfl:=sj hr
 exact (Lf.DE (limbs x0) A1 c1 w hT n1 _ (Lf.wBits x0 (by omega))).mono fun _ _ h=>h
theorem CJ (x0:Nat) (x1:Int) (A1:Option Addr) (c1:Nat) (w:World) (hT:TB w) (n1:RU w A1 c1 x0) (r:Nat) (hr:Br x0 x1=some r):Calls Tryz.prog 185 #[.slice A1 (sz x0) c1,.int .i64 x1] w (Ret Jj w r):=by
 unfold Br at hr
 obtain ⟨_,h,hr⟩:=Ab hr
 have h:=AG h
 obtain rfl:=sj hr
 exact (Lf.CJ (limbs x0) x1 A1 c1 w hT n1 _ (by obtain ⟨m,rfl⟩:∃m:Nat,x1=m:=⟨x1.toNat,by omega⟩;rw [Lf.wShl (Ay x0) m (Lf.szl h.1 (by decide)) (by omega),AB];rfl)).mono fun _ _ h=>h
theorem Fg (x0:Nat) (x1:Nat) (A1:Option Addr) (c1:Nat) (A2:Option Addr) (c2:Nat) (w:World) (hT:TB w) (n1:RU w A1 c1 x0) (n2:RU w A2 c2 x1) (r:Nat) (hr:Cc x0 x1=some r):Calls Tryz.prog 191 #[.slice A1 (sz x0) c1,.slice A2 (sz x1) c2] w (Ret Jj w r):=by
 unfold Cc at hr
 obtain ⟨_,h,hr⟩:=Ab hr
 have h:=AG h
 obtain rfl:=sj hr
 exact (Lf.Fg (limbs x0) (limbs x1) A1 c1 A2 c2 w hT n1 n2 _ (Lf.toR (Lf.wSub (Ay x0) (Ay x1) (Lf.szl h.1 (by decide)) (Lf.len_mono h.2.2) (by rw [AB,AB];exact h.2.2)) (by rw [AB,AB]))).mono fun _ _ h=>h
theorem FM (x0:Nat) (x1:Nat) (A1:Option Addr) (c1:Nat) (A2:Option Addr) (c2:Nat) (w:World) (hT:TB w) (n1:RU w A1 c1 x0) (n2:RU w A2 c2 x1) (r:Int) (hr:Cx x0 x1=some r):Calls Tryz.prog 205 #[.slice A1 (sz x0) c1,.slice A2 (sz x1) c2] w (Ret Gx w r):=by
 unfold Cx at hr
 obtain ⟨_,h,hr⟩:=Ab hr
 have h:=AG h
 obtain rfl:=sj hr
 exact (Lf.FM (limbs x0) (limbs x1) A1 c1 A2 c2 w hT n1 n2 _ (Lf.wCmp x0 x1 (by omega) (by omega))).mono fun _ _ h=>h
theorem Gn (x0:Nat) (x1:Nat) (A1:Option Addr) (c1:Nat) (A2:Option Addr) (c2:Nat) (w:World) (hT:TB w) (n1:RU w A1 c1 x0) (n2:RU w A2 c2 x1) (r:Nat) (hr:CK x0 x1=some r):Calls Tryz.prog 207 #[.slice A1 (sz x0) c1,.slice A2 (sz x1) c2] w (Ret Jj w r):=by
 unfold CK at hr
 obtain ⟨_,h,hr⟩:=Ab hr
 have h:=AG h
 obtain rfl:=sj hr
 exact (Lf.Gn (limbs x0) (limbs x1) A1 c1 A2 c2 w hT n1 n2 _ (Lf.toR (Lf.wAdd (Ay x0) (Ay x1) (Lf.szl h.1 (by decide)) (Lf.szl h.2 (by decide))) (by rw [AB,AB]))).mono fun _ _ h=>h
theorem GV (x0:Nat) (x1:Nat) (A1:Option Addr) (c1:Nat) (A2:Option Addr) (c2:Nat) (w:World) (hT:TB w) (n1:RU w A1 c1 x0) (n2:RU w A2 c2 x1) (r:Nat) (hr:Da x0 x1=some r):Calls Tryz.prog 241 #[.slice A1 (sz x0) c1,.slice A2 (sz x1) c2] w (Ret Jj w r):=by
 unfold Da at hr
 obtain ⟨_,h,hr⟩:=Ab hr
 have h:=AG h
 obtain rfl:=sj hr
 exact (Lf.GV (limbs x0) (limbs x1) A1 c1 A2 c2 w hT n1 n2 _ (Lf.toR (Lf.wMul (Ay x0) (Ay x1) (by have:=h.1;have:=h.2;unfold sz at *;omega)) (by rw [AB,AB]))).mono fun _ _ h=>h
theorem GA (x0:List Int) (x1:List Int) (A1:Option Addr) (c1:Nat) (A2:Option Addr) (c2:Nat) (w:World) (hT:TB w) (n1:RLu w A1 c1 x0) (n2:RLu w A2 c2 x1) (r:Bool) (hr:BW x0 x1=some r):Calls Tryz.prog 144 #[.slice A1 x0.length c1,.slice A2 x1.length c2] w (Ret FW w r):=(Lf.GA x0 x1 A1 c1 A2 c2 w hT n1 n2 r hr).mono fun _ _ h=>h
theorem GR (x0:Nat) (x1:Nat) (A1:Option Addr) (c1:Nat) (A2:Option Addr) (c2:Nat) (w:World) (hT:TB w) (n1:RU w A1 c1 x0) (n2:RU w A2 c2 x1) (r:Nat × Nat) (hr:Dc x0 x1=some r):Calls Tryz.prog 186 #[.slice A1 (sz x0) c1,.slice A2 (sz x1) c2] w (Ret JU w r):=by
 unfold Dc at hr
 obtain ⟨_,h,hr⟩:=Ab hr
 have h:=AG h
 obtain rfl:=sj hr
 exact (Lf.GR (limbs x0) (limbs x1) A1 c1 A2 c2 w hT n1 n2 _ (Lf.wDiv x0 x1 h.2.2 h.1 h.2.1)).mono fun _ _ h=>h
theorem FO (x0:Nat) (x1:Int) (A1:Option Addr) (c1:Nat) (w:World) (hT:TB w) (n1:RU w A1 c1 x0) (r:Nat) (hr:BQ x0 x1=some r):Calls Tryz.prog 148 #[.slice A1 (sz x0) c1,.int .i64 x1] w (Ret IX w r):=by
 unfold BQ at hr
 obtain ⟨_,h,hr⟩:=Ab hr
 have h:=AG h
 obtain rfl:=sj hr
 exact (Lf.FO (limbs x0) x1 A1 c1 w hT n1 _ (by obtain ⟨m,rfl⟩:∃m:Nat,x1=m:=⟨x1.toNat,by omega⟩;rw [Lf.rShl (Ay x0) m (Lf.szl h.1 (by decide)) (by omega) (by rw [AB]),AB];rfl)).mono fun _ _ h=>h
theorem Fc (x0:Nat) (x1:Nat) (A1:Option Addr) (c1:Nat) (A2:Option Addr) (c2:Nat) (w:World) (hT:TB w) (n1:RU w A1 c1 x0) (n2:RU w A2 c2 x1) (r:Nat) (hr:BC x0 x1=some r):Calls Tryz.prog 189 #[.slice A1 (sz x0) c1,.slice A2 (sz x1) c2] w (Ret IX w r):=by
 unfold BC at hr
 obtain ⟨_,h,hr⟩:=Ab hr
 have h:=AG h
 obtain rfl:=sj hr
 exact (Lf.Fc (limbs x0) (limbs x1) A1 c1 A2 c2 w hT n1 n2 _ (Lf.toR (Lf.rAdd (Ay x0) (Ay x1) (Lf.szl h.1 (by decide)) (Lf.szl h.2 (by decide))) (by rw [AB,AB]))).mono fun _ _ h=>h
theorem Fb (x0:Nat) (x1:Nat) (A1:Option Addr) (c1:Nat) (A2:Option Addr) (c2:Nat) (w:World) (hT:TB w) (n1:RU w A1 c1 x0) (n2:RU w A2 c2 x1) (r:Int) (hr:BB x0 x1=some r):Calls Tryz.prog 198 #[.slice A1 (sz x0) c1,.slice A2 (sz x1) c2] w (Ret Gx w r):=by
 unfold BB at hr
 obtain ⟨_,h,hr⟩:=Ab hr
 have h:=AG h
 obtain rfl:=sj hr
 exact (Lf.Fb (limbs x0) (limbs x1) A1 c1 A2 c2 w hT n1 n2 _ (by rw [Lf.rCmp (Ay x0) (Ay x1) (Lf.szl h.1 (by decide)) (Lf.szl h.2 (by decide)),AB,AB])).mono fun _ _ h=>h
theorem FS (x0:Nat) (x1:Nat) (A1:Option Addr) (c1:Nat) (A2:Option Addr) (c2:Nat) (w:World) (hT:TB w) (n1:RU w A1 c1 x0) (n2:RU w A2 c2 x1) (r:Nat) (hr:BN x0 x1=some r):Calls Tryz.prog 199 #[.slice A1 (sz x0) c1,.slice A2 (sz x1) c2] w (Ret IX w r):=by
 unfold BN at hr
 obtain ⟨_,h,hr⟩:=Ab hr
 have h:=AG h
 obtain rfl:=sj hr
 exact (Lf.FS (limbs x0) (limbs x1) A1 c1 A2 c2 w hT n1 n2 _ (Lf.toR (Lf.rSub (Ay x0) (Ay x1) (Lf.szl h.1 (by decide)) (Lf.len_mono h.2.2) (by rw [AB,AB];exact h.2.2)) (by rw [AB,AB]))).mono fun _ _ h=>h
theorem GJ (x0:Nat) (x1:Nat) (A1:Option Addr) (c1:Nat) (A2:Option Addr) (c2:Nat) (w:World) (hT:TB w) (n1:RU w A1 c1 x0) (n2:RU w A2 c2 x1) (r:Ga) (hr:Cl x0 x1=some r):Calls Tryz.prog 149 #[.slice A1 (sz x0) c1,.slice A2 (sz x1) c2] w (Ret rep_171 w r):=by
 unfold Cl at hr
 obtain ⟨_,h,hr⟩:=Ab hr
 have h:=AG h
 obtain rfl:=sj hr
 exact (Lf.GJ (limbs x0) (limbs x1) A1 c1 A2 c2 w hT n1 n2 _ (Lf.rDiv x0 x1 h.2.2 h.1 h.2.1)).mono fun _ _ h=>h
theorem GI (x0:Nat) (x1:Nat) (A1:Option Addr) (c1:Nat) (A2:Option Addr) (c2:Nat) (w:World) (hT:TB w) (n1:RU w A1 c1 x0) (n2:RU w A2 c2 x1) (r:Nat) (hr:Ck x0 x1=some r):Calls Tryz.prog 200 #[.slice A1 (sz x0) c1,.slice A2 (sz x1) c2] w (Ret IX w r):=by
 unfold Ck at hr
 obtain ⟨_,h,hr⟩:=Ab hr
 have h:=AG h
 obtain rfl:=sj hr
 exact (Lf.GI (limbs x0) (limbs x1) A1 c1 A2 c2 w hT n1 n2 _ (Lf.toR (Lf.rMul (Ay x0) (Ay x1) (by have:=h.1;have:=h.2;unfold sz at *;omega)) (by rw [AB,AB]))).mono fun _ _ h=>h
theorem FD (x0:Nat) (A1:Option Addr) (c1:Nat) (w:World) (hT:TB w) (n1:RU w A1 c1 x0) (r:Int) (hr:BE x0=some r):Calls Tryz.prog 147 #[.slice A1 (sz x0) c1] w (Ret Gx w r):=by
 unfold BE at hr
 obtain ⟨_,h,hr⟩:=Ab hr
 have h:=AG h
 obtain rfl:=sj hr
 exact (Lf.FD (limbs x0) A1 c1 w hT n1 _ (Lf.rBits x0 (by omega))).mono fun _ _ h=>h
end Go.Proofs

