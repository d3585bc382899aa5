import Derived.Test.YtabiobmfelafoaaGreatDoorGenBase
import Derived.Test.YtabiobmfelafoaaGreatDoorLeaf2
import Derived.Test.YtabiobmfelafoaaGreatDoorLeaf3
namespace Go.Proofs
set_option linter.unusedVariables false
set_option linter.unusedSimpArgs false
set_option maxHeartbeats 4000000
open Go.RowKit Go.Sb Go.Proofs.Sbn
namespace Lf
theorem szl {n k m:Nat} (h:sz n<k) (hk:k≤m):(limbs n).length<m:=Nat.lt_of_lt_of_le h hk
theorem toR {p:Option (List Int)} {a b:Nat} (h:p=some (limbs a)) (e:a=b):p=some (limbs b):=by rw [h,e]
theorem len_mono {a b:Nat} (h:a≤b):(limbs a).length≤(limbs b).length:=by
 have h1:=(BL (n:=b) (k:=(limbs b).length)).1 (Nat.le_refl _)
 exact BL.2 (Nat.lt_of_le_of_lt h h1)
end Lf
theorem Gu (x0:List Int) (A1:Option Addr) (c1:Nat) (w:World) (hT:TB w) (n1:RLu w A1 c1 x0) (r:Bool) (hr:Bk x0=some r):Calls Tryz.prog 143 #[.slice A1 x0.length c1] w (Ret Gq w r):=(Lf.Gu x0 A1 c1 w hT n1 r hr).mono fun _ _ h=>h
theorem Ha (x0:List Int) (x1:Int) (A1:Option Addr) (c1:Nat) (w:World) (hT:TB w) (n1:RLu w A1 c1 x0) (r:Int) (hr:Ca x0 x1=some r):Calls Tryz.prog 128 #[.slice A1 x0.length c1,.int .i64 x1] w (Ret Ma w r):=(Lf.Ha x0 x1 A1 c1 w hT n1 r hr).mono fun _ _ h=>h
theorem Gl (x0:Int)  (w:World) (hT:TB w)  (r:Nat) (hr:CM x0=some r):Calls Tryz.prog 179 #[.int .u64 x0] w (Ret Jn w r):=by
 unfold CM at hr
 obtain ⟨_,h,hr⟩:=Ab hr
 have h:=Az h
 obtain rfl:=sj hr
 exact (Lf.Gl x0  w hT  _ (by obtain ⟨m,rfl⟩:∃m:Nat,x0=m:=⟨x0.toNat,by omega⟩;rw [Lf.rOf m (by omega)];rfl)).mono fun _ _ h=>h
theorem Ja (x0:List Int) (A1:Option Addr) (c1:Nat) (w:World) (hT:TB w) (n1:RLu w A1 c1 x0) (r:Bool) (hr:Gs x0=some r):Calls Tryz.prog 208 #[.slice A1 x0.length c1] w (Ret Gq w r):=(Lf.Ja x0 A1 c1 w hT n1 r hr).mono fun _ _ h=>h
theorem IQ (x0:Nat) (A1:Option Addr) (c1:Nat) (w:World) (hT:TB w) (n1:RU w A1 c1 x0) (r:Int) (hr:Db x0=some r):Calls Tryz.prog 213 #[.slice A1 (sz x0) c1] w (Ret Fy w r):=by
 unfold Db at hr
 obtain ⟨_,h,hr⟩:=Ab hr
 have h:=Az h
 obtain rfl:=sj hr
 exact (Lf.IQ (limbs x0) A1 c1 w hT n1 _ (Lf.wZeros x0 (by omega))).mono fun _ _ h=>h
theorem GG (x0:Nat) (x1:Int) (A1:Option Addr) (c1:Nat) (w:World) (hT:TB w) (n1:RU w A1 c1 x0) (r:Nat) (hr:CK x0 x1=some r):Calls Tryz.prog 204 #[.slice A1 (sz x0) c1,.int .i64 x1] w (Ret Lw w r):=by
 unfold CK at hr
 obtain ⟨_,h,hr⟩:=Ab hr
 have h:=Az h
 obtain rfl:=sj hr
 exact (Lf.GG (limbs x0) x1 A1 c1 w hT n1 _ (by obtain ⟨m,rfl⟩:∃m:Nat,x1=m:=⟨x1.toNat,by omega⟩;rw [Lf.wShr (Ao x0) m (Lf.szl h.1 (by decide)) (by omega),Au];rfl)).mono fun _ _ h=>h
theorem c_slices_Clone_wide_Nat (x0:Nat) (A1:Option Addr) (c1:Nat) (w:World) (hT:TB w) (n1:RU w A1 c1 x0) (r:Nat) (hr:Dk x0=some r):Calls Tryz.prog 201 #[.slice A1 (sz x0) c1] w (Ret Lw w r):=by
 unfold Dk at hr
 obtain ⟨_,h,hr⟩:=Ab hr
 have h:=Az h
 obtain rfl:=sj hr
 refine (Lf.HP (limbs x0) A1 c1 w hT n1 (limbs x0) (by unfold Lf.DK;rw [Lf.gdB (by unfold sz at h;omega)])).mono fun e w' he=>?_
 obtain ⟨h1,v,h2,A,c,h3,h4⟩:=he
 exact ⟨h1,v,h2,A,c,h3,h4.rl⟩
theorem HD (x0:Nat) (A1:Option Addr) (c1:Nat) (w:World) (hT:TB w) (n1:RU w A1 c1 x0) (r:Int) (hr:BS x0=some r):Calls Tryz.prog 153 #[.slice A1 (sz x0) c1] w (Ret Fy w r):=by
 unfold BS at hr
 obtain ⟨_,h,hr⟩:=Ab hr
 have h:=Az h
 obtain rfl:=sj hr
 exact (Lf.HD (limbs x0) A1 c1 w hT n1 _ (Lf.rZeros x0 (by omega))).mono fun _ _ h=>h
theorem Hd (x0:Nat) (x1:Int) (A1:Option Addr) (c1:Nat) (w:World) (hT:TB w) (n1:RU w A1 c1 x0) (r:Nat) (hr:BZ x0 x1=some r):Calls Tryz.prog 154 #[.slice A1 (sz x0) c1,.int .i64 x1] w (Ret Jn w r):=by
 unfold BZ at hr
 obtain ⟨_,h,hr⟩:=Ab hr
 have h:=Az h
 obtain rfl:=sj hr
 exact (Lf.Hd (limbs x0) x1 A1 c1 w hT n1 _ (by obtain ⟨m,rfl⟩:∃m:Nat,x1=m:=⟨x1.toNat,by omega⟩;rw [Lf.rShr (Ao x0) m (Lf.szl h.1 (by decide)) (by omega),Au];rfl)).mono fun _ _ h=>h
theorem EF (x0:Nat) (A1:Option Addr) (c1:Nat) (w:World) (hT:TB w) (n1:RU w A1 c1 x0) (r:Int) (hr:BA x0=some r):Calls Tryz.prog 184 #[.slice A1 (sz x0) c1] w (Ret Fy w r):=by
 unfold BA at hr
 obtain ⟨_,h,hr⟩:=Ab hr
 have h:=Az h
 obtain rfl:=sj hr
 exact (Lf.EF (limbs x0) A1 c1 w hT n1 _ (Lf.wBits x0 (by omega))).mono fun _ _ h=>h
theorem DT (x0:Nat) (x1:Int) (A1:Option Addr) (c1:Nat) (w:World) (hT:TB w) (n1:RU w A1 c1 x0) (r:Nat) (hr:BD x0 x1=some r):Calls Tryz.prog 185 #[.slice A1 (sz x0) c1,.int .i64 x1] w (Ret Lw w r):=by
 unfold BD at hr
 obtain ⟨_,h,hr⟩:=Ab hr
 have h:=Az h
 obtain rfl:=sj hr
 exact (Lf.DT (limbs x0) x1 A1 c1 w hT n1 _ (by obtain ⟨m,rfl⟩:∃m:Nat,x1=m:=⟨x1.toNat,by omega⟩;rw [Lf.wShl (Ao x0) m (Lf.szl h.1 (by decide)) (by omega),Au];rfl)).mono fun _ _ h=>h
theorem GM (x0:Nat) (x1:Nat) (A1:Option Addr) (c1:Nat) (A2:Option Addr) (c2:Nat) (w:World) (hT:TB w) (n1:RU w A1 c1 x0) (n2:RU w A2 c2 x1) (r:Nat) (hr:CH x0 x1=some r):Calls Tryz.prog 191 #[.slice A1 (sz x0) c1,.slice A2 (sz x1) c2] w (Ret Lw w r):=by
 unfold CH at hr
 obtain ⟨_,h,hr⟩:=Ab hr
 have h:=Az h
 obtain rfl:=sj hr
 exact (Lf.GM (limbs x0) (limbs x1) A1 c1 A2 c2 w hT n1 n2 _ (Lf.toR (Lf.wSub (Ao x0) (Ao x1) (Lf.szl h.1 (by decide)) (Lf.len_mono h.2.2) (by rw [Au,Au];exact h.2.2)) (by rw [Au,Au]))).mono fun _ _ h=>h
theorem GF (x0:Nat) (x1:Nat) (A1:Option Addr) (c1:Nat) (A2:Option Addr) (c2:Nat) (w:World) (hT:TB w) (n1:RU w A1 c1 x0) (n2:RU w A2 c2 x1) (r:Int) (hr:CI x0 x1=some r):Calls Tryz.prog 205 #[.slice A1 (sz x0) c1,.slice A2 (sz x1) c2] w (Ret Fy w r):=by
 unfold CI at hr
 obtain ⟨_,h,hr⟩:=Ab hr
 have h:=Az h
 obtain rfl:=sj hr
 exact (Lf.GF (limbs x0) (limbs x1) A1 c1 A2 c2 w hT n1 n2 _ (Lf.wCmp x0 x1 (by omega) (by omega))).mono fun _ _ h=>h
theorem HB (x0:Nat) (x1:Nat) (A1:Option Addr) (c1:Nat) (A2:Option Addr) (c2:Nat) (w:World) (hT:TB w) (n1:RU w A1 c1 x0) (n2:RU w A2 c2 x1) (r:Nat) (hr:Da x0 x1=some r):Calls Tryz.prog 207 #[.slice A1 (sz x0) c1,.slice A2 (sz x1) c2] w (Ret Lw w r):=by
 unfold Da at hr
 obtain ⟨_,h,hr⟩:=Ab hr
 have h:=Az h
 obtain rfl:=sj hr
 exact (Lf.HB (limbs x0) (limbs x1) A1 c1 A2 c2 w hT n1 n2 _ (Lf.toR (Lf.wAdd (Ao x0) (Ao x1) (Lf.szl h.1 (by decide)) (Lf.szl h.2 (by decide))) (by rw [Au,Au]))).mono fun _ _ h=>h
theorem Iv (x0:Nat) (x1:Nat) (A1:Option Addr) (c1:Nat) (A2:Option Addr) (c2:Nat) (w:World) (hT:TB w) (n1:RU w A1 c1 x0) (n2:RU w A2 c2 x1) (r:Nat) (hr:DB x0 x1=some r):Calls Tryz.prog 241 #[.slice A1 (sz x0) c1,.slice A2 (sz x1) c2] w (Ret Lw w r):=by
 unfold DB at hr
 obtain ⟨_,h,hr⟩:=Ab hr
 have h:=Az h
 obtain rfl:=sj hr
 exact (Lf.Iv (limbs x0) (limbs x1) A1 c1 A2 c2 w hT n1 n2 _ (Lf.toR (Lf.wMul (Ao x0) (Ao x1) (by have:=h.1;have:=h.2;unfold sz at *;omega)) (by rw [Au,Au]))).mono fun _ _ h=>h
theorem Fx (x0:List Int) (x1:List Int) (A1:Option Addr) (c1:Nat) (A2:Option Addr) (c2:Nat) (w:World) (hT:TB w) (n1:RLu w A1 c1 x0) (n2:RLu w A2 c2 x1) (r:Bool) (hr:Bc x0 x1=some r):Calls Tryz.prog 144 #[.slice A1 x0.length c1,.slice A2 x1.length c2] w (Ret Gq w r):=(Lf.Fx x0 x1 A1 c1 A2 c2 w hT n1 n2 r hr).mono fun _ _ h=>h
theorem Iy (x0:Nat) (x1:Nat) (A1:Option Addr) (c1:Nat) (A2:Option Addr) (c2:Nat) (w:World) (hT:TB w) (n1:RU w A1 c1 x0) (n2:RU w A2 c2 x1) (r:Nat × Nat) (hr:Dv x0 x1=some r):Calls Tryz.prog 186 #[.slice A1 (sz x0) c1,.slice A2 (sz x1) c2] w (Ret MI w r):=by
 unfold Dv at hr
 obtain ⟨_,h,hr⟩:=Ab hr
 have h:=Az h
 obtain rfl:=sj hr
 exact (Lf.Iy (limbs x0) (limbs x1) A1 c1 A2 c2 w hT n1 n2 _ (Lf.wDiv x0 x1 h.2.2 h.1 h.2.1)).mono fun _ _ h=>h
theorem FQ (x0:Nat) (x1:Int) (A1:Option Addr) (c1:Nat) (w:World) (hT:TB w) (n1:RU w A1 c1 x0) (r:Nat) (hr:Br x0 x1=some r):Calls Tryz.prog 148 #[.slice A1 (sz x0) c1,.int .i64 x1] w (Ret Jn w r):=by
 unfold Br at hr
 obtain ⟨_,h,hr⟩:=Ab hr
 have h:=Az h
 obtain rfl:=sj hr
 exact (Lf.FQ (limbs x0) x1 A1 c1 w hT n1 _ (by obtain ⟨m,rfl⟩:∃m:Nat,x1=m:=⟨x1.toNat,by omega⟩;rw [Lf.rShl (Ao x0) m (Lf.szl h.1 (by decide)) (by omega) (by rw [Au]),Au];rfl)).mono fun _ _ h=>h
theorem FW (x0:Nat) (x1:Nat) (A1:Option Addr) (c1:Nat) (A2:Option Addr) (c2:Nat) (w:World) (hT:TB w) (n1:RU w A1 c1 x0) (n2:RU w A2 c2 x1) (r:Nat) (hr:Bw x0 x1=some r):Calls Tryz.prog 189 #[.slice A1 (sz x0) c1,.slice A2 (sz x1) c2] w (Ret Jn w r):=by
 unfold Bw at hr
 obtain ⟨_,h,hr⟩:=Ab hr
 have h:=Az h
 obtain rfl:=sj hr
 exact (Lf.FW (limbs x0) (limbs x1) A1 c1 A2 c2 w hT n1 n2 _ (Lf.toR (Lf.rAdd (Ao x0) (Ao x1) (Lf.szl h.1 (by decide)) (Lf.szl h.2 (by decide))) (by rw [Au,Au]))).mono fun _ _ h=>h
theorem Ed (x0:Nat) (x1:Nat) (A1:Option Addr) (c1:Nat) (A2:Option Addr) (c2:Nat) (w:World) (hT:TB w) (n1:RU w A1 c1 x0) (n2:RU w A2 c2 x1) (r:Int) (hr:Bs x0 x1=some r):Calls Tryz.prog 198 #[.slice A1 (sz x0) c1,.slice A2 (sz x1) c2] w (Ret Fy w r):=by
 unfold Bs at hr
 obtain ⟨_,h,hr⟩:=Ab hr
 have h:=Az h
 obtain rfl:=sj hr
 exact (Lf.Ed (limbs x0) (limbs x1) A1 c1 A2 c2 w hT n1 n2 _ (by rw [Lf.rCmp (Ao x0) (Ao x1) (Lf.szl h.1 (by decide)) (Lf.szl h.2 (by decide)),Au,Au])).mono fun _ _ h=>h
theorem Hb (x0:Nat) (x1:Nat) (A1:Option Addr) (c1:Nat) (A2:Option Addr) (c2:Nat) (w:World) (hT:TB w) (n1:RU w A1 c1 x0) (n2:RU w A2 c2 x1) (r:Nat) (hr:BY x0 x1=some r):Calls Tryz.prog 199 #[.slice A1 (sz x0) c1,.slice A2 (sz x1) c2] w (Ret Jn w r):=by
 unfold BY at hr
 obtain ⟨_,h,hr⟩:=Ab hr
 have h:=Az h
 obtain rfl:=sj hr
 exact (Lf.Hb (limbs x0) (limbs x1) A1 c1 A2 c2 w hT n1 n2 _ (Lf.toR (Lf.rSub (Ao x0) (Ao x1) (Lf.szl h.1 (by decide)) (Lf.len_mono h.2.2) (by rw [Au,Au];exact h.2.2)) (by rw [Au,Au]))).mono fun _ _ h=>h
theorem EU (x0:Nat) (x1:Nat) (A1:Option Addr) (c1:Nat) (A2:Option Addr) (c2:Nat) (w:World) (hT:TB w) (n1:RU w A1 c1 x0) (n2:RU w A2 c2 x1) (r:Hq) (hr:Bi x0 x1=some r):Calls Tryz.prog 149 #[.slice A1 (sz x0) c1,.slice A2 (sz x1) c2] w (Ret rep_171 w r):=by
 unfold Bi at hr
 obtain ⟨_,h,hr⟩:=Ab hr
 have h:=Az h
 obtain rfl:=sj hr
 exact (Lf.EU (limbs x0) (limbs x1) A1 c1 A2 c2 w hT n1 n2 _ (Lf.rDiv x0 x1 h.2.2 h.1 h.2.1)).mono fun _ _ h=>h
theorem HZ (x0:Nat) (x1:Nat) (A1:Option Addr) (c1:Nat) (A2:Option Addr) (c2:Nat) (w:World) (hT:TB w) (n1:RU w A1 c1 x0) (n2:RU w A2 c2 x1) (r:Nat) (hr:Cy x0 x1=some r):Calls Tryz.prog 200 #[.slice A1 (sz x0) c1,.slice A2 (sz x1) c2] w (Ret Jn w r):=by
 unfold Cy at hr
 obtain ⟨_,h,hr⟩:=Ab hr
 have h:=Az h
 obtain rfl:=sj hr
 exact (Lf.HZ (limbs x0) (limbs x1) A1 c1 A2 c2 w hT n1 n2 _ (Lf.toR (Lf.rMul (Ao x0) (Ao x1) (by have:=h.1;have:=h.2;unfold sz at *;omega)) (by rw [Au,Au]))).mono fun _ _ h=>h
theorem GE (x0:Nat) (A1:Option Addr) (c1:Nat) (w:World) (hT:TB w) (n1:RU w A1 c1 x0) (r:Int) (hr:BN x0=some r):Calls Tryz.prog 147 #[.slice A1 (sz x0) c1] w (Ret Fy w r):=by
 unfold BN at hr
 obtain ⟨_,h,hr⟩:=Ab hr
 have h:=Az h
 obtain rfl:=sj hr
 exact (Lf.GE (limbs x0) A1 c1 w hT n1 _ (Lf.rBits x0 (by omega))).mono fun _ _ h=>h
theorem Hh (x0:Nat) (x1:Int) (A1:Option Addr) (c1:Nat) (w:World) (hT:TB w) (n1:RU w A1 c1 x0) (r:Nat) (hr:CX x0 x1=some r):Calls Tryz.prog 226 #[.slice A1 (sz x0) c1,.int .i64 x1] w (Ret KC w r):=by
 unfold CX at hr
 obtain ⟨_,h,hr⟩:=Ab hr
 have h:=Az h
 obtain rfl:=sj hr
 exact (Lf.Hh (limbs x0) x1 A1 c1 w hT n1 _ (by obtain ⟨m,rfl⟩:∃m:Nat,x1=m:=⟨x1.toNat,by omega⟩;rw [Lf.nShl (Ao x0) m (Lf.szl h.1 (by decide)) (by omega),Au];rfl)).mono fun _ _ h=>h
theorem c_slices_Clone_nat_limbs (x0:Nat) (A1:Option Addr) (c1:Nat) (w:World) (hT:TB w) (n1:RU w A1 c1 x0) (r:Nat) (hr:Fb x0=some r):Calls Tryz.prog 256 #[.slice A1 (sz x0) c1] w (Ret KC w r):=by
 unfold Fb at hr
 obtain ⟨_,h,hr⟩:=Ab hr
 have h:=Az h
 obtain rfl:=sj hr
 refine (Lf.c_slices_Clone_nat_limbs_o (limbs x0) A1 c1 w hT n1 (limbs x0) (by unfold Lf.FX;rw [Lf.gdB (by unfold sz at h;omega)])).mono fun e w' he=>?_
 obtain ⟨h1,v,h2,A,c,h3,h4⟩:=he
 exact ⟨h1,v,h2,A,c,h3,h4.rl⟩
theorem HW (x0:Nat) (x1:Int) (A1:Option Addr) (c1:Nat) (w:World) (hT:TB w) (n1:RU w A1 c1 x0) (r:Nat) (hr:DD x0 x1=some r):Calls Tryz.prog 249 #[.slice A1 (sz x0) c1,.int .i64 x1] w (Ret KC w r):=by
 unfold DD at hr
 obtain ⟨_,h,hr⟩:=Ab hr
 have h:=Az h
 obtain rfl:=sj hr
 exact (Lf.HW (limbs x0) x1 A1 c1 w hT n1 _ (by obtain ⟨m,rfl⟩:∃m:Nat,x1=m:=⟨x1.toNat,by omega⟩;rw [Lf.nShr x0 m h.1 (by omega)];rfl)).mono fun _ _ h=>h
theorem HX (x0:Nat) (x1:Nat) (A1:Option Addr) (c1:Nat) (A2:Option Addr) (c2:Nat) (w:World) (hT:TB w) (n1:RU w A1 c1 x0) (n2:RU w A2 c2 x1) (r:Int) (hr:DX x0 x1=some r):Calls Tryz.prog 251 #[.slice A1 (sz x0) c1,.slice A2 (sz x1) c2] w (Ret Fy w r):=by
 unfold DX at hr
 obtain ⟨_,h,hr⟩:=Ab hr
 have h:=Az h
 obtain rfl:=sj hr
 exact (Lf.HX (limbs x0) (limbs x1) A1 c1 A2 c2 w hT n1 n2 _ (Lf.nCmp x0 x1)).mono fun _ _ h=>h
theorem Jl (x0:Nat) (x1:Nat) (A1:Option Addr) (c1:Nat) (A2:Option Addr) (c2:Nat) (w:World) (hT:TB w) (n1:RU w A1 c1 x0) (n2:RU w A2 c2 x1) (r:Nat) (hr:DW x0 x1=some r):Calls Tryz.prog 252 #[.slice A1 (sz x0) c1,.slice A2 (sz x1) c2] w (Ret KC w r):=by
 unfold DW at hr
 obtain ⟨_,h,hr⟩:=Ab hr
 have h:=Az h
 obtain rfl:=sj hr
 exact (Lf.Jl (limbs x0) (limbs x1) A1 c1 A2 c2 w hT n1 n2 _ (Lf.nSub x0 x1 h.1 h.2.2)).mono fun _ _ h=>h
theorem Jk (x0:Nat) (x1:Nat) (A1:Option Addr) (c1:Nat) (A2:Option Addr) (c2:Nat) (w:World) (hT:TB w) (n1:RU w A1 c1 x0) (n2:RU w A2 c2 x1) (r:Nat) (hr:DY x0 x1=some r):Calls Tryz.prog 253 #[.slice A1 (sz x0) c1,.slice A2 (sz x1) c2] w (Ret KC w r):=by
 unfold DY at hr
 obtain ⟨_,h,hr⟩:=Ab hr
 have h:=Az h
 obtain rfl:=sj hr
 exact (Lf.Jk (limbs x0) (limbs x1) A1 c1 A2 c2 w hT n1 n2 _ (Lf.nAdd x0 x1 h.1 h.2)).mono fun _ _ h=>h
theorem Iq (x0:Nat) (A1:Option Addr) (c1:Nat) (w:World) (hT:TB w) (n1:RU w A1 c1 x0) (r:Nat) (hr:Cu x0=some r):Calls Tryz.prog 157 #[.slice A1 (sz x0) c1] w (Ret Jn w r):=by
 unfold Cu at hr
 obtain ⟨_,h,hr⟩:=Ab hr
 have h:=Az h
 obtain rfl:=sj hr
 refine (Lf.c_slices_Clone_api_Nat_o (limbs x0) A1 c1 w hT n1 (limbs x0) (by unfold Lf.GB;rw [Lf.gdB (by unfold sz at h;omega)])).mono fun e w' he=>?_
 obtain ⟨h1,v,h2,A,c,h3,h4⟩:=he
 exact ⟨h1,v,h2,A,c,h3,h4.rl⟩
theorem IK (x0:Nat) (x1:Nat) (A1:Option Addr) (c1:Nat) (A2:Option Addr) (c2:Nat) (w:World) (hT:TB w) (n1:RU w A1 c1 x0) (n2:RU w A2 c2 x1) (r:Nat × Nat) (hr:Cm x0 x1=some r):Calls Tryz.prog 244 #[.slice A1 (sz x0) c1,.slice A2 (sz x1) c2] w (Ret rep_228_228 w r):=by
 unfold Cm at hr
 obtain ⟨_,h,hr⟩:=Ab hr
 have h:=Az h
 obtain rfl:=sj hr
 exact (Lf.IK (limbs x0) (limbs x1) A1 c1 A2 c2 w hT n1 n2 _ (Lf.nLong x0 x1 h.2.2 h.1 h.2.1)).mono fun _ _ h=>h
end Go.Proofs

