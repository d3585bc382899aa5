import Derived.Test.YtabiobmfelafoaaGreatDoorGenBase
import Derived.Test.YtabiobmfelafoaaGreatDoorLeaf2
import Derived.Test.YtabiobmfelafoaaGreatDoorLeaf3
namespace Go.Proofs
set_option linter.unusedVariables false
set_option linter.unusedSimpArgs false
set_option maxHeartbeats 4000000
open Go.RowKit Go.Sb Go.Proofs.Sbn
namespace Lf
theorem szl {n k m:Nat} (h:sz n<k) (hk:k≤m):(limbs n).length<m:=Nat.lt_of_lt_of_le h hk
theorem toR {p:Option (List Int)} {a b:Nat} (h:p=some (limbs a)) (e:a=b):p=some (limbs b):=by rw [h,e]
theorem len_mono {a b:Nat} (h:a≤b):(limbs a).length≤(limbs b).length:=by
 have h1:=(BQ (n:=b) (k:=(limbs b).length)).1 (Nat.le_refl _)
 exact BQ.2 (Nat.lt_of_le_of_lt h h1)
end Lf
theorem HL (x0:List Int) (A1:Option Addr) (c1:Nat) (w:World) (hT:TB w) (n1:RLu w A1 c1 x0) (r:Bool) (hr:BJ x0=some r):Calls Tryz.prog 143 #[.slice A1 x0.length c1] w (Ret FN w r):=(Lf.HL x0 A1 c1 w hT n1 r hr).mono fun _ _ h=>h
theorem Ha (x0:List Int) (x1:Int) (A1:Option Addr) (c1:Nat) (w:World) (hT:TB w) (n1:RLu w A1 c1 x0) (r:Int) (hr:Ce x0 x1=some r):Calls Tryz.prog 128 #[.slice A1 x0.length c1,.int .i64 x1] w (Ret ME w r):=(Lf.Ha x0 x1 A1 c1 w hT n1 r hr).mono fun _ _ h=>h
theorem HG (x0:Int)  (w:World) (hT:TB w)  (r:Nat) (hr:CQ x0=some r):Calls Tryz.prog 179 #[.int .u64 x0] w (Ret NJ w r):=by
 unfold CQ at hr
 obtain ⟨_,h,hr⟩:=Ac hr
 have h:=AN h
 obtain rfl:=sj hr
 exact (Lf.HG x0  w hT  _ (by obtain ⟨m,rfl⟩:∃m:Nat,x0=m:=⟨x0.toNat,by omega⟩;rw [Lf.rOf m (by omega)];rfl)).mono fun _ _ h=>h
theorem JH (x0:List Int) (A1:Option Addr) (c1:Nat) (w:World) (hT:TB w) (n1:RLu w A1 c1 x0) (r:Bool) (hr:Gv x0=some r):Calls Tryz.prog 208 #[.slice A1 x0.length c1] w (Ret FN w r):=(Lf.JH x0 A1 c1 w hT n1 r hr).mono fun _ _ h=>h
theorem Jq (x0:Nat) (A1:Option Addr) (c1:Nat) (w:World) (hT:TB w) (n1:RU w A1 c1 x0) (r:Int) (hr:De x0=some r):Calls Tryz.prog 213 #[.slice A1 (sz x0) c1] w (Ret HO w r):=by
 unfold De at hr
 obtain ⟨_,h,hr⟩:=Ac hr
 have h:=AN h
 obtain rfl:=sj hr
 exact (Lf.Jq (limbs x0) A1 c1 w hT n1 _ (Lf.wZeros x0 (by omega))).mono fun _ _ h=>h
theorem GM (x0:Nat) (x1:Int) (A1:Option Addr) (c1:Nat) (w:World) (hT:TB w) (n1:RU w A1 c1 x0) (r:Nat) (hr:CL x0 x1=some r):Calls Tryz.prog 204 #[.slice A1 (sz x0) c1,.int .i64 x1] w (Ret LX w r):=by
 unfold CL at hr
 obtain ⟨_,h,hr⟩:=Ac hr
 have h:=AN h
 obtain rfl:=sj hr
 exact (Lf.GM (limbs x0) x1 A1 c1 w hT n1 _ (by obtain ⟨m,rfl⟩:∃m:Nat,x1=m:=⟨x1.toNat,by omega⟩;rw [Lf.wShr (Ar x0) m (Lf.szl h.1 (by decide)) (by omega),AB];rfl)).mono fun _ _ h=>h
theorem c_slices_Clone_wide_Nat (x0:Nat) (A1:Option Addr) (c1:Nat) (w:World) (hT:TB w) (n1:RU w A1 c1 x0) (r:Nat) (hr:Dr x0=some r):Calls Tryz.prog 201 #[.slice A1 (sz x0) c1] w (Ret LX w r):=by
 unfold Dr at hr
 obtain ⟨_,h,hr⟩:=Ac hr
 have h:=AN h
 obtain rfl:=sj hr
 refine (Lf.Il (limbs x0) A1 c1 w hT n1 (limbs x0) (by unfold Lf.DJ;rw [Lf.gdB (by unfold sz at h;omega)])).mono fun e w' he=>?_
 obtain ⟨h1,v,h2,A,c,h3,h4⟩:=he
 exact ⟨h1,v,h2,A,c,h3,h4.rl⟩
theorem HQ (x0:Nat) (A1:Option Addr) (c1:Nat) (w:World) (hT:TB w) (n1:RU w A1 c1 x0) (r:Int) (hr:BV x0=some r):Calls Tryz.prog 153 #[.slice A1 (sz x0) c1] w (Ret HO w r):=by
 unfold BV at hr
 obtain ⟨_,h,hr⟩:=Ac hr
 have h:=AN h
 obtain rfl:=sj hr
 exact (Lf.HQ (limbs x0) A1 c1 w hT n1 _ (Lf.rZeros x0 (by omega))).mono fun _ _ h=>h
theorem IE (x0:Nat) (x1:Int) (A1:Option Addr) (c1:Nat) (w:World) (hT:TB w) (n1:RU w A1 c1 x0) (r:Nat) (hr:Cf x0 x1=some r):Calls Tryz.prog 154 #[.slice A1 (sz x0) c1,.int .i64 x1] w (Ret NJ w r):=by
 unfold Cf at hr
 obtain ⟨_,h,hr⟩:=Ac hr
 have h:=AN h
 obtain rfl:=sj hr
 exact (Lf.IE (limbs x0) x1 A1 c1 w hT n1 _ (by obtain ⟨m,rfl⟩:∃m:Nat,x1=m:=⟨x1.toNat,by omega⟩;rw [Lf.rShr (Ar x0) m (Lf.szl h.1 (by decide)) (by omega),AB];rfl)).mono fun _ _ h=>h
theorem Ef (x0:Nat) (A1:Option Addr) (c1:Nat) (w:World) (hT:TB w) (n1:RU w A1 c1 x0) (r:Int) (hr:BF x0=some r):Calls Tryz.prog 184 #[.slice A1 (sz x0) c1] w (Ret HO w r):=by
 unfold BF at hr
 obtain ⟨_,h,hr⟩:=Ac hr
 have h:=AN h
 obtain rfl:=sj hr
 exact (Lf.Ef (limbs x0) A1 c1 w hT n1 _ (Lf.wBits x0 (by omega))).mono fun _ _ h=>h
theorem CX (x0:Nat) (x1:Int) (A1:Option Addr) (c1:Nat) (w:World) (hT:TB w) (n1:RU w A1 c1 x0) (r:Nat) (hr:Bz x0 x1=some r):Calls Tryz.prog 185 #[.slice A1 (sz x0) c1,.int .i64 x1] w (Ret LX w r):=by
 unfold Bz at hr
 obtain ⟨_,h,hr⟩:=Ac hr
 have h:=AN h
 obtain rfl:=sj hr
 exact (Lf.CX (limbs x0) x1 A1 c1 w hT n1 _ (by obtain ⟨m,rfl⟩:∃m:Nat,x1=m:=⟨x1.toNat,by omega⟩;rw [Lf.wShl (Ar x0) m (Lf.szl h.1 (by decide)) (by omega),AB];rfl)).mono fun _ _ h=>h
theorem FY (x0:Nat) (x1:Nat) (A1:Option Addr) (c1:Nat) (A2:Option Addr) (c2:Nat) (w:World) (hT:TB w) (n1:RU w A1 c1 x0) (n2:RU w A2 c2 x1) (r:Nat) (hr:CC x0 x1=some r):Calls Tryz.prog 191 #[.slice A1 (sz x0) c1,.slice A2 (sz x1) c2] w (Ret LX w r):=by
 unfold CC at hr
 obtain ⟨_,h,hr⟩:=Ac hr
 have h:=AN h
 obtain rfl:=sj hr
 exact (Lf.FY (limbs x0) (limbs x1) A1 c1 A2 c2 w hT n1 n2 _ (Lf.toR (Lf.wSub (Ar x0) (Ar x1) (Lf.szl h.1 (by decide)) (Lf.len_mono h.2.2) (by rw [AB,AB];exact h.2.2)) (by rw [AB,AB]))).mono fun _ _ h=>h
theorem GP (x0:Nat) (x1:Nat) (A1:Option Addr) (c1:Nat) (A2:Option Addr) (c2:Nat) (w:World) (hT:TB w) (n1:RU w A1 c1 x0) (n2:RU w A2 c2 x1) (r:Int) (hr:CJ x0 x1=some r):Calls Tryz.prog 205 #[.slice A1 (sz x0) c1,.slice A2 (sz x1) c2] w (Ret HO w r):=by
 unfold CJ at hr
 obtain ⟨_,h,hr⟩:=Ac hr
 have h:=AN h
 obtain rfl:=sj hr
 exact (Lf.GP (limbs x0) (limbs x1) A1 c1 A2 c2 w hT n1 n2 _ (Lf.wCmp x0 x1 (by omega) (by omega))).mono fun _ _ h=>h
theorem HW (x0:Nat) (x1:Nat) (A1:Option Addr) (c1:Nat) (A2:Option Addr) (c2:Nat) (w:World) (hT:TB w) (n1:RU w A1 c1 x0) (n2:RU w A2 c2 x1) (r:Nat) (hr:Db x0 x1=some r):Calls Tryz.prog 207 #[.slice A1 (sz x0) c1,.slice A2 (sz x1) c2] w (Ret LX w r):=by
 unfold Db at hr
 obtain ⟨_,h,hr⟩:=Ac hr
 have h:=AN h
 obtain rfl:=sj hr
 exact (Lf.HW (limbs x0) (limbs x1) A1 c1 A2 c2 w hT n1 n2 _ (Lf.toR (Lf.wAdd (Ar x0) (Ar x1) (Lf.szl h.1 (by decide)) (Lf.szl h.2 (by decide))) (by rw [AB,AB]))).mono fun _ _ h=>h
theorem IW (x0:Nat) (x1:Nat) (A1:Option Addr) (c1:Nat) (A2:Option Addr) (c2:Nat) (w:World) (hT:TB w) (n1:RU w A1 c1 x0) (n2:RU w A2 c2 x1) (r:Nat) (hr:Du x0 x1=some r):Calls Tryz.prog 241 #[.slice A1 (sz x0) c1,.slice A2 (sz x1) c2] w (Ret LX w r):=by
 unfold Du at hr
 obtain ⟨_,h,hr⟩:=Ac hr
 have h:=AN h
 obtain rfl:=sj hr
 exact (Lf.IW (limbs x0) (limbs x1) A1 c1 A2 c2 w hT n1 n2 _ (Lf.toR (Lf.wMul (Ar x0) (Ar x1) (by have:=h.1;have:=h.2;unfold sz at *;omega)) (by rw [AB,AB]))).mono fun _ _ h=>h
theorem Iu (x0:List Int) (x1:List Int) (A1:Option Addr) (c1:Nat) (A2:Option Addr) (c2:Nat) (w:World) (hT:TB w) (n1:RLu w A1 c1 x0) (n2:RLu w A2 c2 x1) (r:Bool) (hr:AV x0 x1=some r):Calls Tryz.prog 144 #[.slice A1 x0.length c1,.slice A2 x1.length c2] w (Ret FN w r):=(Lf.Iu x0 x1 A1 c1 A2 c2 w hT n1 n2 r hr).mono fun _ _ h=>h
theorem IQ (x0:Nat) (x1:Nat) (A1:Option Addr) (c1:Nat) (A2:Option Addr) (c2:Nat) (w:World) (hT:TB w) (n1:RU w A1 c1 x0) (n2:RU w A2 c2 x1) (r:Nat × Nat) (hr:Dy x0 x1=some r):Calls Tryz.prog 186 #[.slice A1 (sz x0) c1,.slice A2 (sz x1) c2] w (Ret Nc w r):=by
 unfold Dy at hr
 obtain ⟨_,h,hr⟩:=Ac hr
 have h:=AN h
 obtain rfl:=sj hr
 exact (Lf.IQ (limbs x0) (limbs x1) A1 c1 A2 c2 w hT n1 n2 _ (Lf.wDiv x0 x1 h.2.2 h.1 h.2.1)).mono fun _ _ h=>h
theorem Hm (x0:Nat) (x1:Int) (A1:Option Addr) (c1:Nat) (w:World) (hT:TB w) (n1:RU w A1 c1 x0) (r:Nat) (hr:CW x0 x1=some r):Calls Tryz.prog 226 #[.slice A1 (sz x0) c1,.int .i64 x1] w (Ret KO w r):=by
 unfold CW at hr
 obtain ⟨_,h,hr⟩:=Ac hr
 have h:=AN h
 obtain rfl:=sj hr
 exact (Lf.Hm (limbs x0) x1 A1 c1 w hT n1 _ (by obtain ⟨m,rfl⟩:∃m:Nat,x1=m:=⟨x1.toNat,by omega⟩;rw [Lf.nShl (Ar x0) m (Lf.szl h.1 (by decide)) (by omega),AB];rfl)).mono fun _ _ h=>h
theorem c_slices_Clone_nat_limbs (x0:Nat) (A1:Option Addr) (c1:Nat) (w:World) (hT:TB w) (n1:RU w A1 c1 x0) (r:Nat) (hr:Fi x0=some r):Calls Tryz.prog 256 #[.slice A1 (sz x0) c1] w (Ret KO w r):=by
 unfold Fi at hr
 obtain ⟨_,h,hr⟩:=Ac hr
 have h:=AN h
 obtain rfl:=sj hr
 refine (Lf.c_slices_Clone_nat_limbs_o (limbs x0) A1 c1 w hT n1 (limbs x0) (by unfold Lf.Ga;rw [Lf.gdB (by unfold sz at h;omega)])).mono fun e w' he=>?_
 obtain ⟨h1,v,h2,A,c,h3,h4⟩:=he
 exact ⟨h1,v,h2,A,c,h3,h4.rl⟩
theorem ID (x0:Nat) (x1:Int) (A1:Option Addr) (c1:Nat) (w:World) (hT:TB w) (n1:RU w A1 c1 x0) (r:Nat) (hr:Ea x0 x1=some r):Calls Tryz.prog 249 #[.slice A1 (sz x0) c1,.int .i64 x1] w (Ret KO w r):=by
 unfold Ea at hr
 obtain ⟨_,h,hr⟩:=Ac hr
 have h:=AN h
 obtain rfl:=sj hr
 exact (Lf.ID (limbs x0) x1 A1 c1 w hT n1 _ (by obtain ⟨m,rfl⟩:∃m:Nat,x1=m:=⟨x1.toNat,by omega⟩;rw [Lf.nShr x0 m h.1 (by omega)];rfl)).mono fun _ _ h=>h
theorem IA (x0:Nat) (x1:Nat) (A1:Option Addr) (c1:Nat) (A2:Option Addr) (c2:Nat) (w:World) (hT:TB w) (n1:RU w A1 c1 x0) (n2:RU w A2 c2 x1) (r:Int) (hr:EP x0 x1=some r):Calls Tryz.prog 251 #[.slice A1 (sz x0) c1,.slice A2 (sz x1) c2] w (Ret HO w r):=by
 unfold EP at hr
 obtain ⟨_,h,hr⟩:=Ac hr
 have h:=AN h
 obtain rfl:=sj hr
 exact (Lf.IA (limbs x0) (limbs x1) A1 c1 A2 c2 w hT n1 n2 _ (Lf.nCmp x0 x1)).mono fun _ _ h=>h
theorem JN (x0:Nat) (x1:Nat) (A1:Option Addr) (c1:Nat) (A2:Option Addr) (c2:Nat) (w:World) (hT:TB w) (n1:RU w A1 c1 x0) (n2:RU w A2 c2 x1) (r:Nat) (hr:EQ x0 x1=some r):Calls Tryz.prog 252 #[.slice A1 (sz x0) c1,.slice A2 (sz x1) c2] w (Ret KO w r):=by
 unfold EQ at hr
 obtain ⟨_,h,hr⟩:=Ac hr
 have h:=AN h
 obtain rfl:=sj hr
 exact (Lf.JN (limbs x0) (limbs x1) A1 c1 A2 c2 w hT n1 n2 _ (Lf.nSub x0 x1 h.1 h.2.2)).mono fun _ _ h=>h
theorem JP (x0:Nat) (x1:Nat) (A1:Option Addr) (c1:Nat) (A2:Option Addr) (c2:Nat) (w:World) (hT:TB w) (n1:RU w A1 c1 x0) (n2:RU w A2 c2 x1) (r:Nat) (hr:EO x0 x1=some r):Calls Tryz.prog 253 #[.slice A1 (sz x0) c1,.slice A2 (sz x1) c2] w (Ret KO w r):=by
 unfold EO at hr
 obtain ⟨_,h,hr⟩:=Ac hr
 have h:=AN h
 obtain rfl:=sj hr
 exact (Lf.JP (limbs x0) (limbs x1) A1 c1 A2 c2 w hT n1 n2 _ (Lf.nAdd x0 x1 h.1 h.2)).mono fun _ _ h=>h
theorem Hc (x0:Nat) (A1:Option Addr) (c1:Nat) (w:World) (hT:TB w) (n1:RU w A1 c1 x0) (r:Nat) (hr:Ct x0=some r):Calls Tryz.prog 157 #[.slice A1 (sz x0) c1] w (Ret NJ w r):=by
 unfold Ct at hr
 obtain ⟨_,h,hr⟩:=Ac hr
 have h:=AN h
 obtain rfl:=sj hr
 refine (Lf.c_slices_Clone_api_Nat_o (limbs x0) A1 c1 w hT n1 (limbs x0) (by unfold Lf.GG;rw [Lf.gdB (by unfold sz at h;omega)])).mono fun e w' he=>?_
 obtain ⟨h1,v,h2,A,c,h3,h4⟩:=he
 exact ⟨h1,v,h2,A,c,h3,h4.rl⟩
theorem Jr (x0:Nat) (x1:Nat) (A1:Option Addr) (c1:Nat) (A2:Option Addr) (c2:Nat) (w:World) (hT:TB w) (n1:RU w A1 c1 x0) (n2:RU w A2 c2 x1) (r:Nat × Nat) (hr:Cr x0 x1=some r):Calls Tryz.prog 244 #[.slice A1 (sz x0) c1,.slice A2 (sz x1) c2] w (Ret rep_228_228 w r):=by
 unfold Cr at hr
 obtain ⟨_,h,hr⟩:=Ac hr
 have h:=AN h
 obtain rfl:=sj hr
 exact (Lf.Jr (limbs x0) (limbs x1) A1 c1 A2 c2 w hT n1 n2 _ (Lf.nLong x0 x1 h.2.2 h.1 h.2.1)).mono fun _ _ h=>h
end Go.Proofs

