import Derived.Test.YtabiobmfelafoaaGreatDoorGenBase
import Derived.Test.YtabiobmfelafoaaGreatDoorLeaf2
import Derived.Test.YtabiobmfelafoaaGreatDoorLeaf3
namespace Go.Proofs
set_option linter.unusedVariables false
set_option linter.unusedSimpArgs false
set_option maxHeartbeats 4000000
open Go.RowKit Go.Sb Go.Proofs.Sbn
namespace Lf
theorem szl {n k m:Nat} (h:sz n<k) (hk:k≤m):(limbs n).length<m:=Nat.lt_of_lt_of_le h hk
theorem toR {p:Option (List Int)} {a b:Nat} (h:p=some (limbs a)) (e:a=b):p=some (limbs b):=by rw [h,e]
theorem len_mono {a b:Nat} (h:a≤b):(limbs a).length≤(limbs b).length:=by
 have h1:=(BU (n:=b) (k:=(limbs b).length)).1 (Nat.le_refl _)
 exact BU.2 (Nat.lt_of_le_of_lt h h1)
end Lf
theorem Fh (x0:List Int) (A1:Option Addr) (c1:Nat) (w:World) (hT:TB w) (n1:RLu w A1 c1 x0) (r:Bool) (hr:Bd x0=some r):Calls Tryz.prog 143 #[.slice A1 x0.length c1] w (Ret Fe w r):=(Lf.Fh x0 A1 c1 w hT n1 r hr).mono fun _ _ h=>h
theorem FM (x0:List Int) (x1:Int) (A1:Option Addr) (c1:Nat) (w:World) (hT:TB w) (n1:RLu w A1 c1 x0) (r:Int) (hr:BJ x0 x1=some r):Calls Tryz.prog 128 #[.slice A1 x0.length c1,.int .i64 x1] w (Ret Kd w r):=(Lf.FM x0 x1 A1 c1 w hT n1 r hr).mono fun _ _ h=>h
theorem Ff (x0:Int)  (w:World) (hT:TB w)  (r:Nat) (hr:Cn x0=some r):Calls Tryz.prog 179 #[.int .u64 x0] w (Ret Jp w r):=by
 unfold Cn at hr
 obtain ⟨_,h,hr⟩:=Ab hr
 have h:=Ay h
 obtain rfl:=sj hr
 exact (Lf.Ff x0  w hT  _ (by obtain ⟨m,rfl⟩:∃m:Nat,x0=m:=⟨x0.toNat,by omega⟩;rw [Lf.rOf m (by omega)];rfl)).mono fun _ _ h=>h
theorem Ht (x0:List Int) (A1:Option Addr) (c1:Nat) (w:World) (hT:TB w) (n1:RLu w A1 c1 x0) (r:Bool) (hr:Fb x0=some r):Calls Tryz.prog 208 #[.slice A1 x0.length c1] w (Ret Fe w r):=(Lf.Ht x0 A1 c1 w hT n1 r hr).mono fun _ _ h=>h
theorem Hm (x0:Nat) (A1:Option Addr) (c1:Nat) (w:World) (hT:TB w) (n1:RU w A1 c1 x0) (r:Int) (hr:Cx x0=some r):Calls Tryz.prog 213 #[.slice A1 (sz x0) c1] w (Ret FQ w r):=by
 unfold Cx at hr
 obtain ⟨_,h,hr⟩:=Ab hr
 have h:=Ay h
 obtain rfl:=sj hr
 exact (Lf.Hm (limbs x0) A1 c1 w hT n1 _ (Lf.wZeros x0 (by omega))).mono fun _ _ h=>h
theorem Fs (x0:Nat) (x1:Int) (A1:Option Addr) (c1:Nat) (w:World) (hT:TB w) (n1:RU w A1 c1 x0) (r:Nat) (hr:Cj x0 x1=some r):Calls Tryz.prog 204 #[.slice A1 (sz x0) c1,.int .i64 x1] w (Ret Js w r):=by
 unfold Cj at hr
 obtain ⟨_,h,hr⟩:=Ab hr
 have h:=Ay h
 obtain rfl:=sj hr
 exact (Lf.Fs (limbs x0) x1 A1 c1 w hT n1 _ (by obtain ⟨m,rfl⟩:∃m:Nat,x1=m:=⟨x1.toNat,by omega⟩;rw [Lf.wShr (Ap x0) m (Lf.szl h.1 (by decide)) (by omega),Au];rfl)).mono fun _ _ h=>h
theorem c_slices_Clone_wide_Nat (x0:Nat) (A1:Option Addr) (c1:Nat) (w:World) (hT:TB w) (n1:RU w A1 c1 x0) (r:Nat) (hr:CJ x0=some r):Calls Tryz.prog 201 #[.slice A1 (sz x0) c1] w (Ret Js w r):=by
 unfold CJ at hr
 obtain ⟨_,h,hr⟩:=Ab hr
 have h:=Ay h
 obtain rfl:=sj hr
 refine (Lf.Gv (limbs x0) A1 c1 w hT n1 (limbs x0) (by unfold Lf.Dc;rw [Lf.gdB (by unfold sz at h;omega)])).mono fun e w' he=>?_
 obtain ⟨h1,v,h2,A,c,h3,h4⟩:=he
 exact ⟨h1,v,h2,A,c,h3,h4.rl⟩
theorem Gj (x0:Nat) (A1:Option Addr) (c1:Nat) (w:World) (hT:TB w) (n1:RU w A1 c1 x0) (r:Int) (hr:BF x0=some r):Calls Tryz.prog 153 #[.slice A1 (sz x0) c1] w (Ret FQ w r):=by
 unfold BF at hr
 obtain ⟨_,h,hr⟩:=Ab hr
 have h:=Ay h
 obtain rfl:=sj hr
 exact (Lf.Gj (limbs x0) A1 c1 w hT n1 _ (Lf.rZeros x0 (by omega))).mono fun _ _ h=>h
theorem FE (x0:Nat) (x1:Int) (A1:Option Addr) (c1:Nat) (w:World) (hT:TB w) (n1:RU w A1 c1 x0) (r:Nat) (hr:BM x0 x1=some r):Calls Tryz.prog 154 #[.slice A1 (sz x0) c1,.int .i64 x1] w (Ret Jp w r):=by
 unfold BM at hr
 obtain ⟨_,h,hr⟩:=Ab hr
 have h:=Ay h
 obtain rfl:=sj hr
 exact (Lf.FE (limbs x0) x1 A1 c1 w hT n1 _ (by obtain ⟨m,rfl⟩:∃m:Nat,x1=m:=⟨x1.toNat,by omega⟩;rw [Lf.rShr (Ap x0) m (Lf.szl h.1 (by decide)) (by omega),Au];rfl)).mono fun _ _ h=>h
theorem DO (x0:Nat) (A1:Option Addr) (c1:Nat) (w:World) (hT:TB w) (n1:RU w A1 c1 x0) (r:Int) (hr:Bz x0=some r):Calls Tryz.prog 184 #[.slice A1 (sz x0) c1] w (Ret FQ w r):=by
 unfold Bz at hr
 obtain ⟨_,h,hr⟩:=Ab hr
 have h:=Ay h
 obtain rfl:=sj hr
 exact (Lf.DO (limbs x0) A1 c1 w hT n1 _ (Lf.wBits x0 (by omega))).mono fun _ _ h=>h
theorem Dk (x0:Nat) (x1:Int) (A1:Option Addr) (c1:Nat) (w:World) (hT:TB w) (n1:RU w A1 c1 x0) (r:Nat) (hr:Br x0 x1=some r):Calls Tryz.prog 185 #[.slice A1 (sz x0) c1,.int .i64 x1] w (Ret Js w r):=by
 unfold Br at hr
 obtain ⟨_,h,hr⟩:=Ab hr
 have h:=Ay h
 obtain rfl:=sj hr
 exact (Lf.Dk (limbs x0) x1 A1 c1 w hT n1 _ (by obtain ⟨m,rfl⟩:∃m:Nat,x1=m:=⟨x1.toNat,by omega⟩;rw [Lf.wShl (Ap x0) m (Lf.szl h.1 (by decide)) (by omega),Au];rfl)).mono fun _ _ h=>h
theorem Fx (x0:Nat) (x1:Nat) (A1:Option Addr) (c1:Nat) (A2:Option Addr) (c2:Nat) (w:World) (hT:TB w) (n1:RU w A1 c1 x0) (n2:RU w A2 c2 x1) (r:Nat) (hr:Cm x0 x1=some r):Calls Tryz.prog 191 #[.slice A1 (sz x0) c1,.slice A2 (sz x1) c2] w (Ret Js w r):=by
 unfold Cm at hr
 obtain ⟨_,h,hr⟩:=Ab hr
 have h:=Ay h
 obtain rfl:=sj hr
 exact (Lf.Fx (limbs x0) (limbs x1) A1 c1 A2 c2 w hT n1 n2 _ (Lf.toR (Lf.wSub (Ap x0) (Ap x1) (Lf.szl h.1 (by decide)) (Lf.len_mono h.2.2) (by rw [Au,Au];exact h.2.2)) (by rw [Au,Au]))).mono fun _ _ h=>h
theorem FB (x0:Nat) (x1:Nat) (A1:Option Addr) (c1:Nat) (A2:Option Addr) (c2:Nat) (w:World) (hT:TB w) (n1:RU w A1 c1 x0) (n2:RU w A2 c2 x1) (r:Int) (hr:Ck x0 x1=some r):Calls Tryz.prog 205 #[.slice A1 (sz x0) c1,.slice A2 (sz x1) c2] w (Ret FQ w r):=by
 unfold Ck at hr
 obtain ⟨_,h,hr⟩:=Ab hr
 have h:=Ay h
 obtain rfl:=sj hr
 exact (Lf.FB (limbs x0) (limbs x1) A1 c1 A2 c2 w hT n1 n2 _ (Lf.wCmp x0 x1 (by omega) (by omega))).mono fun _ _ h=>h
theorem Gl (x0:Nat) (x1:Nat) (A1:Option Addr) (c1:Nat) (A2:Option Addr) (c2:Nat) (w:World) (hT:TB w) (n1:RU w A1 c1 x0) (n2:RU w A2 c2 x1) (r:Nat) (hr:Cw x0 x1=some r):Calls Tryz.prog 207 #[.slice A1 (sz x0) c1,.slice A2 (sz x1) c2] w (Ret Js w r):=by
 unfold Cw at hr
 obtain ⟨_,h,hr⟩:=Ab hr
 have h:=Ay h
 obtain rfl:=sj hr
 exact (Lf.Gl (limbs x0) (limbs x1) A1 c1 A2 c2 w hT n1 n2 _ (Lf.toR (Lf.wAdd (Ap x0) (Ap x1) (Lf.szl h.1 (by decide)) (Lf.szl h.2 (by decide))) (by rw [Au,Au]))).mono fun _ _ h=>h
theorem GU (x0:Nat) (x1:Nat) (A1:Option Addr) (c1:Nat) (A2:Option Addr) (c2:Nat) (w:World) (hT:TB w) (n1:RU w A1 c1 x0) (n2:RU w A2 c2 x1) (r:Nat) (hr:CU x0 x1=some r):Calls Tryz.prog 241 #[.slice A1 (sz x0) c1,.slice A2 (sz x1) c2] w (Ret Js w r):=by
 unfold CU at hr
 obtain ⟨_,h,hr⟩:=Ab hr
 have h:=Ay h
 obtain rfl:=sj hr
 exact (Lf.GU (limbs x0) (limbs x1) A1 c1 A2 c2 w hT n1 n2 _ (Lf.toR (Lf.wMul (Ap x0) (Ap x1) (by have:=h.1;have:=h.2;unfold sz at *;omega)) (by rw [Au,Au]))).mono fun _ _ h=>h
theorem Fp (x0:List Int) (x1:List Int) (A1:Option Addr) (c1:Nat) (A2:Option Addr) (c2:Nat) (w:World) (hT:TB w) (n1:RLu w A1 c1 x0) (n2:RLu w A2 c2 x1) (r:Bool) (hr:BA x0 x1=some r):Calls Tryz.prog 144 #[.slice A1 x0.length c1,.slice A2 x1.length c2] w (Ret Fe w r):=(Lf.Fp x0 x1 A1 c1 A2 c2 w hT n1 n2 r hr).mono fun _ _ h=>h
theorem GV (x0:Nat) (x1:Nat) (A1:Option Addr) (c1:Nat) (A2:Option Addr) (c2:Nat) (w:World) (hT:TB w) (n1:RU w A1 c1 x0) (n2:RU w A2 c2 x1) (r:Nat × Nat) (hr:CV x0 x1=some r):Calls Tryz.prog 186 #[.slice A1 (sz x0) c1,.slice A2 (sz x1) c2] w (Ret Kt w r):=by
 unfold CV at hr
 obtain ⟨_,h,hr⟩:=Ab hr
 have h:=Ay h
 obtain rfl:=sj hr
 exact (Lf.GV (limbs x0) (limbs x1) A1 c1 A2 c2 w hT n1 n2 _ (Lf.wDiv x0 x1 h.2.2 h.1 h.2.1)).mono fun _ _ h=>h
theorem Ds (x0:Nat) (x1:Int) (A1:Option Addr) (c1:Nat) (w:World) (hT:TB w) (n1:RU w A1 c1 x0) (r:Nat) (hr:Bj x0 x1=some r):Calls Tryz.prog 148 #[.slice A1 (sz x0) c1,.int .i64 x1] w (Ret Jp w r):=by
 unfold Bj at hr
 obtain ⟨_,h,hr⟩:=Ab hr
 have h:=Ay h
 obtain rfl:=sj hr
 exact (Lf.Ds (limbs x0) x1 A1 c1 w hT n1 _ (by obtain ⟨m,rfl⟩:∃m:Nat,x1=m:=⟨x1.toNat,by omega⟩;rw [Lf.rShl (Ap x0) m (Lf.szl h.1 (by decide)) (by omega) (by rw [Au]),Au];rfl)).mono fun _ _ h=>h
theorem FG (x0:Nat) (x1:Nat) (A1:Option Addr) (c1:Nat) (A2:Option Addr) (c2:Nat) (w:World) (hT:TB w) (n1:RU w A1 c1 x0) (n2:RU w A2 c2 x1) (r:Nat) (hr:BK x0 x1=some r):Calls Tryz.prog 189 #[.slice A1 (sz x0) c1,.slice A2 (sz x1) c2] w (Ret Jp w r):=by
 unfold BK at hr
 obtain ⟨_,h,hr⟩:=Ab hr
 have h:=Ay h
 obtain rfl:=sj hr
 exact (Lf.FG (limbs x0) (limbs x1) A1 c1 A2 c2 w hT n1 n2 _ (Lf.toR (Lf.rAdd (Ap x0) (Ap x1) (Lf.szl h.1 (by decide)) (Lf.szl h.2 (by decide))) (by rw [Au,Au]))).mono fun _ _ h=>h
theorem FL (x0:Nat) (x1:Nat) (A1:Option Addr) (c1:Nat) (A2:Option Addr) (c2:Nat) (w:World) (hT:TB w) (n1:RU w A1 c1 x0) (n2:RU w A2 c2 x1) (r:Int) (hr:BL x0 x1=some r):Calls Tryz.prog 198 #[.slice A1 (sz x0) c1,.slice A2 (sz x1) c2] w (Ret FQ w r):=by
 unfold BL at hr
 obtain ⟨_,h,hr⟩:=Ab hr
 have h:=Ay h
 obtain rfl:=sj hr
 exact (Lf.FL (limbs x0) (limbs x1) A1 c1 A2 c2 w hT n1 n2 _ (by rw [Lf.rCmp (Ap x0) (Ap x1) (Lf.szl h.1 (by decide)) (Lf.szl h.2 (by decide)),Au,Au])).mono fun _ _ h=>h
theorem DY (x0:Nat) (x1:Nat) (A1:Option Addr) (c1:Nat) (A2:Option Addr) (c2:Nat) (w:World) (hT:TB w) (n1:RU w A1 c1 x0) (n2:RU w A2 c2 x1) (r:FW) (hr:Bc x0 x1=some r):Calls Tryz.prog 149 #[.slice A1 (sz x0) c1,.slice A2 (sz x1) c2] w (Ret rep_171 w r):=by
 unfold Bc at hr
 obtain ⟨_,h,hr⟩:=Ab hr
 have h:=Ay h
 obtain rfl:=sj hr
 exact (Lf.DY (limbs x0) (limbs x1) A1 c1 A2 c2 w hT n1 n2 _ (Lf.rDiv x0 x1 h.2.2 h.1 h.2.1)).mono fun _ _ h=>h
theorem CD (x0:Nat) (A1:Option Addr) (c1:Nat) (w:World) (hT:TB w) (n1:RU w A1 c1 x0) (r:Int) (hr:AW x0=some r):Calls Tryz.prog 147 #[.slice A1 (sz x0) c1] w (Ret FQ w r):=by
 unfold AW at hr
 obtain ⟨_,h,hr⟩:=Ab hr
 have h:=Ay h
 obtain rfl:=sj hr
 exact (Lf.CD (limbs x0) A1 c1 w hT n1 _ (Lf.rBits x0 (by omega))).mono fun _ _ h=>h
theorem GG (x0:Nat) (x1:Int) (A1:Option Addr) (c1:Nat) (w:World) (hT:TB w) (n1:RU w A1 c1 x0) (r:Nat) (hr:Dq x0 x1=some r):Calls Tryz.prog 226 #[.slice A1 (sz x0) c1,.int .i64 x1] w (Ret KH w r):=by
 unfold Dq at hr
 obtain ⟨_,h,hr⟩:=Ab hr
 have h:=Ay h
 obtain rfl:=sj hr
 exact (Lf.GG (limbs x0) x1 A1 c1 w hT n1 _ (by obtain ⟨m,rfl⟩:∃m:Nat,x1=m:=⟨x1.toNat,by omega⟩;rw [Lf.nShl (Ap x0) m (Lf.szl h.1 (by decide)) (by omega),Au];rfl)).mono fun _ _ h=>h
theorem c_slices_Clone_nat_limbs (x0:Nat) (A1:Option Addr) (c1:Nat) (w:World) (hT:TB w) (n1:RU w A1 c1 x0) (r:Nat) (hr:Ee x0=some r):Calls Tryz.prog 256 #[.slice A1 (sz x0) c1] w (Ret KH w r):=by
 unfold Ee at hr
 obtain ⟨_,h,hr⟩:=Ab hr
 have h:=Ay h
 obtain rfl:=sj hr
 refine (Lf.c_slices_Clone_nat_limbs_o (limbs x0) A1 c1 w hT n1 (limbs x0) (by unfold Lf.ES;rw [Lf.gdB (by unfold sz at h;omega)])).mono fun e w' he=>?_
 obtain ⟨h1,v,h2,A,c,h3,h4⟩:=he
 exact ⟨h1,v,h2,A,c,h3,h4.rl⟩
theorem HA (x0:Nat) (x1:Int) (A1:Option Addr) (c1:Nat) (w:World) (hT:TB w) (n1:RU w A1 c1 x0) (r:Nat) (hr:DP x0 x1=some r):Calls Tryz.prog 249 #[.slice A1 (sz x0) c1,.int .i64 x1] w (Ret KH w r):=by
 unfold DP at hr
 obtain ⟨_,h,hr⟩:=Ab hr
 have h:=Ay h
 obtain rfl:=sj hr
 exact (Lf.HA (limbs x0) x1 A1 c1 w hT n1 _ (by obtain ⟨m,rfl⟩:∃m:Nat,x1=m:=⟨x1.toNat,by omega⟩;rw [Lf.nShr x0 m h.1 (by omega)];rfl)).mono fun _ _ h=>h
theorem HB (x0:Nat) (x1:Nat) (A1:Option Addr) (c1:Nat) (A2:Option Addr) (c2:Nat) (w:World) (hT:TB w) (n1:RU w A1 c1 x0) (n2:RU w A2 c2 x1) (r:Int) (hr:Ex x0 x1=some r):Calls Tryz.prog 251 #[.slice A1 (sz x0) c1,.slice A2 (sz x1) c2] w (Ret FQ w r):=by
 unfold Ex at hr
 obtain ⟨_,h,hr⟩:=Ab hr
 have h:=Ay h
 obtain rfl:=sj hr
 exact (Lf.HB (limbs x0) (limbs x1) A1 c1 A2 c2 w hT n1 n2 _ (Lf.nCmp x0 x1)).mono fun _ _ h=>h
theorem Hj (x0:Nat) (x1:Nat) (A1:Option Addr) (c1:Nat) (A2:Option Addr) (c2:Nat) (w:World) (hT:TB w) (n1:RU w A1 c1 x0) (n2:RU w A2 c2 x1) (r:Nat × Nat) (hr:BV x0 x1=some r):Calls Tryz.prog 244 #[.slice A1 (sz x0) c1,.slice A2 (sz x1) c2] w (Ret rep_228_228 w r):=by
 unfold BV at hr
 obtain ⟨_,h,hr⟩:=Ab hr
 have h:=Ay h
 obtain rfl:=sj hr
 exact (Lf.Hj (limbs x0) (limbs x1) A1 c1 A2 c2 w hT n1 n2 _ (Lf.nLong x0 x1 h.2.2 h.1 h.2.1)).mono fun _ _ h=>h
end Go.Proofs

