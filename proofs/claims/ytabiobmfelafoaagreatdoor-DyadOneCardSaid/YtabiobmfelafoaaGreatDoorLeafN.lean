import Derived.Test.YtabiobmfelafoaaGreatDoorGenBase
import Derived.Test.YtabiobmfelafoaaGreatDoorLeaf2
import Derived.Test.YtabiobmfelafoaaGreatDoorLeaf3
namespace Go.Proofs
set_option linter.unusedVariables false
set_option linter.unusedSimpArgs false
set_option maxHeartbeats 4000000
open Go.RowKit Go.Sb Go.Proofs.Sbn
namespace Lf
theorem szl {n k m:Nat} (h:sz n<k) (hk:k≤m):(limbs n).length<m:=Nat.lt_of_lt_of_le h hk
theorem toR {p:Option (List Int)} {a b:Nat} (h:p=some (limbs a)) (e:a=b):p=some (limbs b):=by rw [h,e]
theorem len_mono {a b:Nat} (h:a≤b):(limbs a).length≤(limbs b).length:=by
 have h1:=(BN (n:=b) (k:=(limbs b).length)).1 (Nat.le_refl _)
 exact BN.2 (Nat.lt_of_le_of_lt h h1)
end Lf
theorem GC (x0:List Int) (A1:Option Addr) (c1:Nat) (w:World) (hT:TB w) (n1:RLu w A1 c1 x0) (r:Bool) (hr:Bt x0=some r):Calls Tryz.prog 143 #[.slice A1 x0.length c1] w (Ret Fy w r):=(Lf.GC x0 A1 c1 w hT n1 r hr).mono fun _ _ h=>h
theorem Gh (x0:List Int) (x1:Int) (A1:Option Addr) (c1:Nat) (w:World) (hT:TB w) (n1:RLu w A1 c1 x0) (r:Int) (hr:BI x0 x1=some r):Calls Tryz.prog 128 #[.slice A1 x0.length c1,.int .i64 x1] w (Ret KM w r):=(Lf.Gh x0 x1 A1 c1 w hT n1 r hr).mono fun _ _ h=>h
theorem Gz (x0:Int)  (w:World) (hT:TB w)  (r:Nat) (hr:Cl x0=some r):Calls Tryz.prog 179 #[.int .u64 x0] w (Ret LU w r):=by
 unfold Cl at hr
 obtain ⟨_,h,hr⟩:=Ab hr
 have h:=AJ h
 obtain rfl:=sj hr
 exact (Lf.Gz x0  w hT  _ (by obtain ⟨m,rfl⟩:∃m:Nat,x0=m:=⟨x0.toNat,by omega⟩;rw [Lf.rOf m (by omega)];rfl)).mono fun _ _ h=>h
theorem Ii (x0:List Int) (A1:Option Addr) (c1:Nat) (w:World) (hT:TB w) (n1:RLu w A1 c1 x0) (r:Bool) (hr:Fo x0=some r):Calls Tryz.prog 208 #[.slice A1 x0.length c1] w (Ret Fy w r):=(Lf.Ii x0 A1 c1 w hT n1 r hr).mono fun _ _ h=>h
theorem HQ (x0:Nat) (A1:Option Addr) (c1:Nat) (w:World) (hT:TB w) (n1:RU w A1 c1 x0) (r:Int) (hr:Cv x0=some r):Calls Tryz.prog 213 #[.slice A1 (sz x0) c1] w (Ret GI w r):=by
 unfold Cv at hr
 obtain ⟨_,h,hr⟩:=Ab hr
 have h:=AJ h
 obtain rfl:=sj hr
 exact (Lf.HQ (limbs x0) A1 c1 w hT n1 _ (Lf.wZeros x0 (by omega))).mono fun _ _ h=>h
theorem FT (x0:Nat) (x1:Int) (A1:Option Addr) (c1:Nat) (w:World) (hT:TB w) (n1:RU w A1 c1 x0) (r:Nat) (hr:Ch x0 x1=some r):Calls Tryz.prog 204 #[.slice A1 (sz x0) c1,.int .i64 x1] w (Ret Kk w r):=by
 unfold Ch at hr
 obtain ⟨_,h,hr⟩:=Ab hr
 have h:=AJ h
 obtain rfl:=sj hr
 exact (Lf.FT (limbs x0) x1 A1 c1 w hT n1 _ (by obtain ⟨m,rfl⟩:∃m:Nat,x1=m:=⟨x1.toNat,by omega⟩;rw [Lf.wShr (Ao x0) m (Lf.szl h.1 (by decide)) (by omega),Az];rfl)).mono fun _ _ h=>h
theorem c_slices_Clone_wide_Nat (x0:Nat) (A1:Option Addr) (c1:Nat) (w:World) (hT:TB w) (n1:RU w A1 c1 x0) (r:Nat) (hr:CE x0=some r):Calls Tryz.prog 201 #[.slice A1 (sz x0) c1] w (Ret Kk w r):=by
 unfold CE at hr
 obtain ⟨_,h,hr⟩:=Ab hr
 have h:=AJ h
 obtain rfl:=sj hr
 refine (Lf.GZ (limbs x0) A1 c1 w hT n1 (limbs x0) (by unfold Lf.CW;rw [Lf.gdB (by unfold sz at h;omega)])).mono fun e w' he=>?_
 obtain ⟨h1,v,h2,A,c,h3,h4⟩:=he
 exact ⟨h1,v,h2,A,c,h3,h4.rl⟩
theorem GD (x0:Nat) (A1:Option Addr) (c1:Nat) (w:World) (hT:TB w) (n1:RU w A1 c1 x0) (r:Int) (hr:BC x0=some r):Calls Tryz.prog 153 #[.slice A1 (sz x0) c1] w (Ret GI w r):=by
 unfold BC at hr
 obtain ⟨_,h,hr⟩:=Ab hr
 have h:=AJ h
 obtain rfl:=sj hr
 exact (Lf.GD (limbs x0) A1 c1 w hT n1 _ (Lf.rZeros x0 (by omega))).mono fun _ _ h=>h
theorem Ho (x0:Nat) (x1:Int) (A1:Option Addr) (c1:Nat) (w:World) (hT:TB w) (n1:RU w A1 c1 x0) (r:Nat) (hr:BG x0 x1=some r):Calls Tryz.prog 154 #[.slice A1 (sz x0) c1,.int .i64 x1] w (Ret LU w r):=by
 unfold BG at hr
 obtain ⟨_,h,hr⟩:=Ab hr
 have h:=AJ h
 obtain rfl:=sj hr
 exact (Lf.Ho (limbs x0) x1 A1 c1 w hT n1 _ (by obtain ⟨m,rfl⟩:∃m:Nat,x1=m:=⟨x1.toNat,by omega⟩;rw [Lf.rShr (Ao x0) m (Lf.szl h.1 (by decide)) (by omega),Az];rfl)).mono fun _ _ h=>h
theorem DP (x0:Nat) (A1:Option Addr) (c1:Nat) (w:World) (hT:TB w) (n1:RU w A1 c1 x0) (r:Int) (hr:Bm x0=some r):Calls Tryz.prog 184 #[.slice A1 (sz x0) c1] w (Ret GI w r):=by
 unfold Bm at hr
 obtain ⟨_,h,hr⟩:=Ab hr
 have h:=AJ h
 obtain rfl:=sj hr
 exact (Lf.DP (limbs x0) A1 c1 w hT n1 _ (Lf.wBits x0 (by omega))).mono fun _ _ h=>h
theorem Db (x0:Nat) (x1:Int) (A1:Option Addr) (c1:Nat) (w:World) (hT:TB w) (n1:RU w A1 c1 x0) (r:Nat) (hr:Bp x0 x1=some r):Calls Tryz.prog 185 #[.slice A1 (sz x0) c1,.int .i64 x1] w (Ret Kk w r):=by
 unfold Bp at hr
 obtain ⟨_,h,hr⟩:=Ab hr
 have h:=AJ h
 obtain rfl:=sj hr
 exact (Lf.Db (limbs x0) x1 A1 c1 w hT n1 _ (by obtain ⟨m,rfl⟩:∃m:Nat,x1=m:=⟨x1.toNat,by omega⟩;rw [Lf.wShl (Ao x0) m (Lf.szl h.1 (by decide)) (by omega),Az];rfl)).mono fun _ _ h=>h
theorem FI (x0:Nat) (x1:Nat) (A1:Option Addr) (c1:Nat) (A2:Option Addr) (c2:Nat) (w:World) (hT:TB w) (n1:RU w A1 c1 x0) (n2:RU w A2 c2 x1) (r:Nat) (hr:Cg x0 x1=some r):Calls Tryz.prog 191 #[.slice A1 (sz x0) c1,.slice A2 (sz x1) c2] w (Ret Kk w r):=by
 unfold Cg at hr
 obtain ⟨_,h,hr⟩:=Ab hr
 have h:=AJ h
 obtain rfl:=sj hr
 exact (Lf.FI (limbs x0) (limbs x1) A1 c1 A2 c2 w hT n1 n2 _ (Lf.toR (Lf.wSub (Ao x0) (Ao x1) (Lf.szl h.1 (by decide)) (Lf.len_mono h.2.2) (by rw [Az,Az];exact h.2.2)) (by rw [Az,Az]))).mono fun _ _ h=>h
theorem FK (x0:Nat) (x1:Nat) (A1:Option Addr) (c1:Nat) (A2:Option Addr) (c2:Nat) (w:World) (hT:TB w) (n1:RU w A1 c1 x0) (n2:RU w A2 c2 x1) (r:Int) (hr:Cf x0 x1=some r):Calls Tryz.prog 205 #[.slice A1 (sz x0) c1,.slice A2 (sz x1) c2] w (Ret GI w r):=by
 unfold Cf at hr
 obtain ⟨_,h,hr⟩:=Ab hr
 have h:=AJ h
 obtain rfl:=sj hr
 exact (Lf.FK (limbs x0) (limbs x1) A1 c1 A2 c2 w hT n1 n2 _ (Lf.wCmp x0 x1 (by omega) (by omega))).mono fun _ _ h=>h
theorem GH (x0:Nat) (x1:Nat) (A1:Option Addr) (c1:Nat) (A2:Option Addr) (c2:Nat) (w:World) (hT:TB w) (n1:RU w A1 c1 x0) (n2:RU w A2 c2 x1) (r:Nat) (hr:Cq x0 x1=some r):Calls Tryz.prog 207 #[.slice A1 (sz x0) c1,.slice A2 (sz x1) c2] w (Ret Kk w r):=by
 unfold Cq at hr
 obtain ⟨_,h,hr⟩:=Ab hr
 have h:=AJ h
 obtain rfl:=sj hr
 exact (Lf.GH (limbs x0) (limbs x1) A1 c1 A2 c2 w hT n1 n2 _ (Lf.toR (Lf.wAdd (Ao x0) (Ao x1) (Lf.szl h.1 (by decide)) (Lf.szl h.2 (by decide))) (by rw [Az,Az]))).mono fun _ _ h=>h
theorem Hx (x0:Nat) (x1:Nat) (A1:Option Addr) (c1:Nat) (A2:Option Addr) (c2:Nat) (w:World) (hT:TB w) (n1:RU w A1 c1 x0) (n2:RU w A2 c2 x1) (r:Nat) (hr:CL x0 x1=some r):Calls Tryz.prog 241 #[.slice A1 (sz x0) c1,.slice A2 (sz x1) c2] w (Ret Kk w r):=by
 unfold CL at hr
 obtain ⟨_,h,hr⟩:=Ab hr
 have h:=AJ h
 obtain rfl:=sj hr
 exact (Lf.Hx (limbs x0) (limbs x1) A1 c1 A2 c2 w hT n1 n2 _ (Lf.toR (Lf.wMul (Ao x0) (Ao x1) (by have:=h.1;have:=h.2;unfold sz at *;omega)) (by rw [Az,Az]))).mono fun _ _ h=>h
theorem Hd (x0:List Int) (x1:List Int) (A1:Option Addr) (c1:Nat) (A2:Option Addr) (c2:Nat) (w:World) (hT:TB w) (n1:RLu w A1 c1 x0) (n2:RLu w A2 c2 x1) (r:Bool) (hr:AM x0 x1=some r):Calls Tryz.prog 144 #[.slice A1 x0.length c1,.slice A2 x1.length c2] w (Ret Fy w r):=(Lf.Hd x0 x1 A1 c1 A2 c2 w hT n1 n2 r hr).mono fun _ _ h=>h
theorem Ht (x0:Nat) (x1:Nat) (A1:Option Addr) (c1:Nat) (A2:Option Addr) (c2:Nat) (w:World) (hT:TB w) (n1:RU w A1 c1 x0) (n2:RU w A2 c2 x1) (r:Nat × Nat) (hr:CN x0 x1=some r):Calls Tryz.prog 186 #[.slice A1 (sz x0) c1,.slice A2 (sz x1) c2] w (Ret LA w r):=by
 unfold CN at hr
 obtain ⟨_,h,hr⟩:=Ab hr
 have h:=AJ h
 obtain rfl:=sj hr
 exact (Lf.Ht (limbs x0) (limbs x1) A1 c1 A2 c2 w hT n1 n2 _ (Lf.wDiv x0 x1 h.2.2 h.1 h.2.1)).mono fun _ _ h=>h
theorem Gi (x0:Nat) (x1:Int) (A1:Option Addr) (c1:Nat) (w:World) (hT:TB w) (n1:RU w A1 c1 x0) (r:Nat) (hr:Cr x0 x1=some r):Calls Tryz.prog 226 #[.slice A1 (sz x0) c1,.int .i64 x1] w (Ret JA w r):=by
 unfold Cr at hr
 obtain ⟨_,h,hr⟩:=Ab hr
 have h:=AJ h
 obtain rfl:=sj hr
 exact (Lf.Gi (limbs x0) x1 A1 c1 w hT n1 _ (by obtain ⟨m,rfl⟩:∃m:Nat,x1=m:=⟨x1.toNat,by omega⟩;rw [Lf.nShl (Ao x0) m (Lf.szl h.1 (by decide)) (by omega),Az];rfl)).mono fun _ _ h=>h
theorem c_slices_Clone_nat_limbs (x0:Nat) (A1:Option Addr) (c1:Nat) (w:World) (hT:TB w) (n1:RU w A1 c1 x0) (r:Nat) (hr:Ec x0=some r):Calls Tryz.prog 256 #[.slice A1 (sz x0) c1] w (Ret JA w r):=by
 unfold Ec at hr
 obtain ⟨_,h,hr⟩:=Ab hr
 have h:=AJ h
 obtain rfl:=sj hr
 refine (Lf.c_slices_Clone_nat_limbs_o (limbs x0) A1 c1 w hT n1 (limbs x0) (by unfold Lf.EV;rw [Lf.gdB (by unfold sz at h;omega)])).mono fun e w' he=>?_
 obtain ⟨h1,v,h2,A,c,h3,h4⟩:=he
 exact ⟨h1,v,h2,A,c,h3,h4.rl⟩
theorem Hg (x0:Nat) (x1:Int) (A1:Option Addr) (c1:Nat) (w:World) (hT:TB w) (n1:RU w A1 c1 x0) (r:Nat) (hr:Dk x0 x1=some r):Calls Tryz.prog 249 #[.slice A1 (sz x0) c1,.int .i64 x1] w (Ret JA w r):=by
 unfold Dk at hr
 obtain ⟨_,h,hr⟩:=Ab hr
 have h:=AJ h
 obtain rfl:=sj hr
 exact (Lf.Hg (limbs x0) x1 A1 c1 w hT n1 _ (by obtain ⟨m,rfl⟩:∃m:Nat,x1=m:=⟨x1.toNat,by omega⟩;rw [Lf.nShr x0 m h.1 (by omega)];rfl)).mono fun _ _ h=>h
theorem Hj (x0:Nat) (x1:Nat) (A1:Option Addr) (c1:Nat) (A2:Option Addr) (c2:Nat) (w:World) (hT:TB w) (n1:RU w A1 c1 x0) (n2:RU w A2 c2 x1) (r:Int) (hr:DQ x0 x1=some r):Calls Tryz.prog 251 #[.slice A1 (sz x0) c1,.slice A2 (sz x1) c2] w (Ret GI w r):=by
 unfold DQ at hr
 obtain ⟨_,h,hr⟩:=Ab hr
 have h:=AJ h
 obtain rfl:=sj hr
 exact (Lf.Hj (limbs x0) (limbs x1) A1 c1 A2 c2 w hT n1 n2 _ (Lf.nCmp x0 x1)).mono fun _ _ h=>h
theorem c_nat_limbs_sub (x0:Nat) (x1:Nat) (A1:Option Addr) (c1:Nat) (A2:Option Addr) (c2:Nat) (w:World) (hT:TB w) (n1:RU w A1 c1 x0) (n2:RU w A2 c2 x1) (r:Nat) (hr:Iu x0 x1=some r):Calls Tryz.prog 252 #[.slice A1 (sz x0) c1,.slice A2 (sz x1) c2] w (Ret JA w r):=by
 unfold Iu at hr
 obtain ⟨_,h,hr⟩:=Ab hr
 exact (AJ h).elim
theorem c_nat_limbs_add (x0:Nat) (x1:Nat) (A1:Option Addr) (c1:Nat) (A2:Option Addr) (c2:Nat) (w:World) (hT:TB w) (n1:RU w A1 c1 x0) (n2:RU w A2 c2 x1) (r:Nat) (hr:Ir x0 x1=some r):Calls Tryz.prog 253 #[.slice A1 (sz x0) c1,.slice A2 (sz x1) c2] w (Ret JA w r):=by
 unfold Ir at hr
 obtain ⟨_,h,hr⟩:=Ab hr
 exact (AJ h).elim
theorem Ga (x0:Nat) (A1:Option Addr) (c1:Nat) (w:World) (hT:TB w) (n1:RU w A1 c1 x0) (r:Nat) (hr:BU x0=some r):Calls Tryz.prog 157 #[.slice A1 (sz x0) c1] w (Ret LU w r):=by
 unfold BU at hr
 obtain ⟨_,h,hr⟩:=Ab hr
 have h:=AJ h
 obtain rfl:=sj hr
 refine (Lf.c_slices_Clone_api_Nat_o (limbs x0) A1 c1 w hT n1 (limbs x0) (by unfold Lf.FC;rw [Lf.gdB (by unfold sz at h;omega)])).mono fun e w' he=>?_
 obtain ⟨h1,v,h2,A,c,h3,h4⟩:=he
 exact ⟨h1,v,h2,A,c,h3,h4.rl⟩
theorem HU (x0:Nat) (x1:Nat) (A1:Option Addr) (c1:Nat) (A2:Option Addr) (c2:Nat) (w:World) (hT:TB w) (n1:RU w A1 c1 x0) (n2:RU w A2 c2 x1) (r:Nat × Nat) (hr:BM x0 x1=some r):Calls Tryz.prog 244 #[.slice A1 (sz x0) c1,.slice A2 (sz x1) c2] w (Ret rep_228_228 w r):=by
 unfold BM at hr
 obtain ⟨_,h,hr⟩:=Ab hr
 have h:=AJ h
 obtain rfl:=sj hr
 exact (Lf.HU (limbs x0) (limbs x1) A1 c1 A2 c2 w hT n1 n2 _ (Lf.nLong x0 x1 h.2.2 h.1 h.2.1)).mono fun _ _ h=>h
end Go.Proofs

