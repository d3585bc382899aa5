import Derived.Test.YtabiobmfelafoaaGreatDoorGenBase
import Derived.Test.YtabiobmfelafoaaGreatDoorLeaf2
import Derived.Test.YtabiobmfelafoaaGreatDoorLeaf3
namespace Go.Proofs
set_option linter.unusedVariables false
set_option linter.unusedSimpArgs false
set_option maxHeartbeats 4000000
open Go.RowKit Go.Sb Go.Proofs.Sbn
open Go.Proofs.Tryz
namespace Lf
theorem szl {n k m:Nat} (h:sz n<k) (hk:k≤m):(limbs n).length<m:=Nat.lt_of_lt_of_le h hk
theorem toR {p:Option (List Int)} {a b:Nat} (h:p=some (limbs a)) (e:a=b):p=some (limbs b):=by rw [h,e]
theorem len_mono {a b:Nat} (h:a≤b):(limbs a).length≤(limbs b).length:=by
 have h1:=(CB (n:=b) (k:=(limbs b).length)).1 (Nat.le_refl _)
 exact CB.2 (Nat.lt_of_le_of_lt h h1)
end Lf
theorem GF (x0:List Int) (A1:Option Addr) (c1:Nat) (w:World) (hT:TB w) (n1:RLu w A1 c1 x0) (r:Bool) (hr:Bu x0=some r):Calls prog 143 #[.slice A1 x0.length c1] w (Ret Gc w r):=(Lf.GF x0 A1 c1 w hT n1 r hr).mono fun _ _ h=>h
theorem Hg (x0:List Int) (x1:Int) (A1:Option Addr) (c1:Nat) (w:World) (hT:TB w) (n1:RLu w A1 c1 x0) (r:Int) (hr:Ck x0 x1=some r):Calls prog 128 #[.slice A1 x0.length c1,.int .i64 x1] w (Ret Mg w r):=(Lf.Hg x0 x1 A1 c1 w hT n1 r hr).mono fun _ _ h=>h
theorem GG (x0:Int)  (w:World) (hT:TB w)  (r:Nat) (hr:CW x0=some r):Calls prog 179 #[.int .u64 x0] w (Ret Kj w r):=by
 unfold CW at hr
 obtain ⟨_,h,hr⟩:=Ac hr
 have h:=AC h
 obtain rfl:=sj hr
 exact (Lf.GG x0  w hT  _ (by obtain ⟨m,rfl⟩:∃m:Nat,x0=m:=⟨x0.toNat,by omega⟩;rw [Lf.rOf m (by omega)];rfl)).mono fun _ _ h=>h
theorem Jj (x0:List Int) (A1:Option Addr) (c1:Nat) (w:World) (hT:TB w) (n1:RLu w A1 c1 x0) (r:Bool) (hr:GA x0=some r):Calls prog 208 #[.slice A1 x0.length c1] w (Ret Gc w r):=(Lf.Jj x0 A1 c1 w hT n1 r hr).mono fun _ _ h=>h
theorem IZ (x0:Nat) (A1:Option Addr) (c1:Nat) (w:World) (hT:TB w) (n1:RU w A1 c1 x0) (r:Int) (hr:Dn x0=some r):Calls prog 213 #[.slice A1 (sz x0) c1] w (Ret Gl w r):=by
 unfold Dn at hr
 obtain ⟨_,h,hr⟩:=Ac hr
 have h:=AC h
 obtain rfl:=sj hr
 exact (Lf.IZ (limbs x0) A1 c1 w hT n1 _ (Lf.wZeros x0 (by omega))).mono fun _ _ h=>h
theorem GW (x0:Nat) (x1:Int) (A1:Option Addr) (c1:Nat) (w:World) (hT:TB w) (n1:RU w A1 c1 x0) (r:Nat) (hr:CU x0 x1=some r):Calls prog 204 #[.slice A1 (sz x0) c1,.int .i64 x1] w (Ret LA w r):=by
 unfold CU at hr
 obtain ⟨_,h,hr⟩:=Ac hr
 have h:=AC h
 obtain rfl:=sj hr
 exact (Lf.GW (limbs x0) x1 A1 c1 w hT n1 _ (by obtain ⟨m,rfl⟩:∃m:Nat,x1=m:=⟨x1.toNat,by omega⟩;rw [Lf.wShr (Ap x0) m (Lf.szl h.1 (by decide)) (by omega),Ax];rfl)).mono fun _ _ h=>h
theorem c_slices_Clone_wide_Nat (x0:Nat) (A1:Option Addr) (c1:Nat) (w:World) (hT:TB w) (n1:RU w A1 c1 x0) (r:Nat) (hr:Dz x0=some r):Calls prog 201 #[.slice A1 (sz x0) c1] w (Ret LA w r):=by
 unfold Dz at hr
 obtain ⟨_,h,hr⟩:=Ac hr
 have h:=AC h
 obtain rfl:=sj hr
 refine (Lf.HY (limbs x0) A1 c1 w hT n1 (limbs x0) (by unfold Lf.Eb;rw [Lf.gdB (by unfold sz at h;omega)])).mono fun e w' he=>?_
 obtain ⟨h1,v,h2,A,c,h3,h4⟩:=he
 exact ⟨h1,v,h2,A,c,h3,h4.rl⟩
theorem HK (x0:Nat) (A1:Option Addr) (c1:Nat) (w:World) (hT:TB w) (n1:RU w A1 c1 x0) (r:Int) (hr:Ce x0=some r):Calls prog 153 #[.slice A1 (sz x0) c1] w (Ret Gl w r):=by
 unfold Ce at hr
 obtain ⟨_,h,hr⟩:=Ac hr
 have h:=AC h
 obtain rfl:=sj hr
 exact (Lf.HK (limbs x0) A1 c1 w hT n1 _ (Lf.rZeros x0 (by omega))).mono fun _ _ h=>h
theorem Hh (x0:Nat) (x1:Int) (A1:Option Addr) (c1:Nat) (w:World) (hT:TB w) (n1:RU w A1 c1 x0) (r:Nat) (hr:Cj x0 x1=some r):Calls prog 154 #[.slice A1 (sz x0) c1,.int .i64 x1] w (Ret Kj w r):=by
 unfold Cj at hr
 obtain ⟨_,h,hr⟩:=Ac hr
 have h:=AC h
 obtain rfl:=sj hr
 exact (Lf.Hh (limbs x0) x1 A1 c1 w hT n1 _ (by obtain ⟨m,rfl⟩:∃m:Nat,x1=m:=⟨x1.toNat,by omega⟩;rw [Lf.rShr (Ap x0) m (Lf.szl h.1 (by decide)) (by omega),Ax];rfl)).mono fun _ _ h=>h
theorem Fg (x0:Nat) (A1:Option Addr) (c1:Nat) (w:World) (hT:TB w) (n1:RU w A1 c1 x0) (r:Int) (hr:BW x0=some r):Calls prog 184 #[.slice A1 (sz x0) c1] w (Ret Gl w r):=by
 unfold BW at hr
 obtain ⟨_,h,hr⟩:=Ac hr
 have h:=AC h
 obtain rfl:=sj hr
 exact (Lf.Fg (limbs x0) A1 c1 w hT n1 _ (Lf.wBits x0 (by omega))).mono fun _ _ h=>h
theorem Es (x0:Nat) (x1:Int) (A1:Option Addr) (c1:Nat) (w:World) (hT:TB w) (n1:RU w A1 c1 x0) (r:Nat) (hr:BP x0 x1=some r):Calls prog 185 #[.slice A1 (sz x0) c1,.int .i64 x1] w (Ret LA w r):=by
 unfold BP at hr
 obtain ⟨_,h,hr⟩:=Ac hr
 have h:=AC h
 obtain rfl:=sj hr
 exact (Lf.Es (limbs x0) x1 A1 c1 w hT n1 _ (by obtain ⟨m,rfl⟩:∃m:Nat,x1=m:=⟨x1.toNat,by omega⟩;rw [Lf.wShl (Ap x0) m (Lf.szl h.1 (by decide)) (by omega),Ax];rfl)).mono fun _ _ h=>h
theorem GS (x0:Nat) (x1:Nat) (A1:Option Addr) (c1:Nat) (A2:Option Addr) (c2:Nat) (w:World) (hT:TB w) (n1:RU w A1 c1 x0) (n2:RU w A2 c2 x1) (r:Nat) (hr:CS x0 x1=some r):Calls prog 191 #[.slice A1 (sz x0) c1,.slice A2 (sz x1) c2] w (Ret LA w r):=by
 unfold CS at hr
 obtain ⟨_,h,hr⟩:=Ac hr
 have h:=AC h
 obtain rfl:=sj hr
 exact (Lf.GS (limbs x0) (limbs x1) A1 c1 A2 c2 w hT n1 n2 _ (Lf.toR (Lf.wSub (Ap x0) (Ap x1) (Lf.szl h.1 (by decide)) (Lf.len_mono h.2.2) (by rw [Ax,Ax];exact h.2.2)) (by rw [Ax,Ax]))).mono fun _ _ h=>h
theorem Ha (x0:Nat) (x1:Nat) (A1:Option Addr) (c1:Nat) (A2:Option Addr) (c2:Nat) (w:World) (hT:TB w) (n1:RU w A1 c1 x0) (n2:RU w A2 c2 x1) (r:Int) (hr:CR x0 x1=some r):Calls prog 205 #[.slice A1 (sz x0) c1,.slice A2 (sz x1) c2] w (Ret Gl w r):=by
 unfold CR at hr
 obtain ⟨_,h,hr⟩:=Ac hr
 have h:=AC h
 obtain rfl:=sj hr
 exact (Lf.Ha (limbs x0) (limbs x1) A1 c1 A2 c2 w hT n1 n2 _ (Lf.wCmp x0 x1 (by omega) (by omega))).mono fun _ _ h=>h
theorem HO (x0:Nat) (x1:Nat) (A1:Option Addr) (c1:Nat) (A2:Option Addr) (c2:Nat) (w:World) (hT:TB w) (n1:RU w A1 c1 x0) (n2:RU w A2 c2 x1) (r:Nat) (hr:Dk x0 x1=some r):Calls prog 207 #[.slice A1 (sz x0) c1,.slice A2 (sz x1) c2] w (Ret LA w r):=by
 unfold Dk at hr
 obtain ⟨_,h,hr⟩:=Ac hr
 have h:=AC h
 obtain rfl:=sj hr
 exact (Lf.HO (limbs x0) (limbs x1) A1 c1 A2 c2 w hT n1 n2 _ (Lf.toR (Lf.wAdd (Ap x0) (Ap x1) (Lf.szl h.1 (by decide)) (Lf.szl h.2 (by decide))) (by rw [Ax,Ax]))).mono fun _ _ h=>h
theorem IM (x0:Nat) (x1:Nat) (A1:Option Addr) (c1:Nat) (A2:Option Addr) (c2:Nat) (w:World) (hT:TB w) (n1:RU w A1 c1 x0) (n2:RU w A2 c2 x1) (r:Nat) (hr:DL x0 x1=some r):Calls prog 241 #[.slice A1 (sz x0) c1,.slice A2 (sz x1) c2] w (Ret LA w r):=by
 unfold DL at hr
 obtain ⟨_,h,hr⟩:=Ac hr
 have h:=AC h
 obtain rfl:=sj hr
 exact (Lf.IM (limbs x0) (limbs x1) A1 c1 A2 c2 w hT n1 n2 _ (Lf.toR (Lf.wMul (Ap x0) (Ap x1) (by have:=h.1;have:=h.2;unfold sz at *;omega)) (by rw [Ax,Ax]))).mono fun _ _ h=>h
theorem FZ (x0:List Int) (x1:List Int) (A1:Option Addr) (c1:Nat) (A2:Option Addr) (c2:Nat) (w:World) (hT:TB w) (n1:RLu w A1 c1 x0) (n2:RLu w A2 c2 x1) (r:Bool) (hr:Bm x0 x1=some r):Calls prog 144 #[.slice A1 x0.length c1,.slice A2 x1.length c2] w (Ret Gc w r):=(Lf.FZ x0 x1 A1 c1 A2 c2 w hT n1 n2 r hr).mono fun _ _ h=>h
theorem IH (x0:Nat) (x1:Nat) (A1:Option Addr) (c1:Nat) (A2:Option Addr) (c2:Nat) (w:World) (hT:TB w) (n1:RU w A1 c1 x0) (n2:RU w A2 c2 x1) (r:Nat × Nat) (hr:DG x0 x1=some r):Calls prog 186 #[.slice A1 (sz x0) c1,.slice A2 (sz x1) c2] w (Ret MJ w r):=by
 unfold DG at hr
 obtain ⟨_,h,hr⟩:=Ac hr
 have h:=AC h
 obtain rfl:=sj hr
 exact (Lf.IH (limbs x0) (limbs x1) A1 c1 A2 c2 w hT n1 n2 _ (Lf.wDiv x0 x1 h.2.2 h.1 h.2.1)).mono fun _ _ h=>h
theorem CJ (x0:Nat) (x1:Int) (A1:Option Addr) (c1:Nat) (w:World) (hT:TB w) (n1:RU w A1 c1 x0) (r:Nat) (hr:AU x0 x1=some r):Calls prog 148 #[.slice A1 (sz x0) c1,.int .i64 x1] w (Ret Kj w r):=by
 unfold AU at hr
 obtain ⟨_,h,hr⟩:=Ac hr
 have h:=AC h
 obtain rfl:=sj hr
 exact (Lf.CJ (limbs x0) x1 A1 c1 w hT n1 _ (by obtain ⟨m,rfl⟩:∃m:Nat,x1=m:=⟨x1.toNat,by omega⟩;rw [Lf.rShl (Ap x0) m (Lf.szl h.1 (by decide)) (by omega) (by rw [Ax]),Ax];rfl)).mono fun _ _ h=>h
theorem Gs (x0:Nat) (x1:Nat) (A1:Option Addr) (c1:Nat) (A2:Option Addr) (c2:Nat) (w:World) (hT:TB w) (n1:RU w A1 c1 x0) (n2:RU w A2 c2 x1) (r:Nat) (hr:BU x0 x1=some r):Calls prog 189 #[.slice A1 (sz x0) c1,.slice A2 (sz x1) c2] w (Ret Kj w r):=by
 unfold BU at hr
 obtain ⟨_,h,hr⟩:=Ac hr
 have h:=AC h
 obtain rfl:=sj hr
 exact (Lf.Gs (limbs x0) (limbs x1) A1 c1 A2 c2 w hT n1 n2 _ (Lf.toR (Lf.rAdd (Ap x0) (Ap x1) (Lf.szl h.1 (by decide)) (Lf.szl h.2 (by decide))) (by rw [Ax,Ax]))).mono fun _ _ h=>h
theorem EA (x0:Nat) (x1:Nat) (A1:Option Addr) (c1:Nat) (A2:Option Addr) (c2:Nat) (w:World) (hT:TB w) (n1:RU w A1 c1 x0) (n2:RU w A2 c2 x1) (r:Int) (hr:Bz x0 x1=some r):Calls prog 198 #[.slice A1 (sz x0) c1,.slice A2 (sz x1) c2] w (Ret Gl w r):=by
 unfold Bz at hr
 obtain ⟨_,h,hr⟩:=Ac hr
 have h:=AC h
 obtain rfl:=sj hr
 exact (Lf.EA (limbs x0) (limbs x1) A1 c1 A2 c2 w hT n1 n2 _ (by rw [Lf.rCmp (Ap x0) (Ap x1) (Lf.szl h.1 (by decide)) (Lf.szl h.2 (by decide)),Ax,Ax])).mono fun _ _ h=>h
theorem Hn (x0:Nat) (x1:Nat) (A1:Option Addr) (c1:Nat) (A2:Option Addr) (c2:Nat) (w:World) (hT:TB w) (n1:RU w A1 c1 x0) (n2:RU w A2 c2 x1) (r:Nat) (hr:Ci x0 x1=some r):Calls prog 199 #[.slice A1 (sz x0) c1,.slice A2 (sz x1) c2] w (Ret Kj w r):=by
 unfold Ci at hr
 obtain ⟨_,h,hr⟩:=Ac hr
 have h:=AC h
 obtain rfl:=sj hr
 exact (Lf.Hn (limbs x0) (limbs x1) A1 c1 A2 c2 w hT n1 n2 _ (Lf.toR (Lf.rSub (Ap x0) (Ap x1) (Lf.szl h.1 (by decide)) (Lf.len_mono h.2.2) (by rw [Ax,Ax];exact h.2.2)) (by rw [Ax,Ax]))).mono fun _ _ h=>h
theorem DH (x0:Nat) (x1:Nat) (A1:Option Addr) (c1:Nat) (A2:Option Addr) (c2:Nat) (w:World) (hT:TB w) (n1:RU w A1 c1 x0) (n2:RU w A2 c2 x1) (r:Hw) (hr:Bd x0 x1=some r):Calls prog 149 #[.slice A1 (sz x0) c1,.slice A2 (sz x1) c2] w (Ret rep_171 w r):=by
 unfold Bd at hr
 obtain ⟨_,h,hr⟩:=Ac hr
 have h:=AC h
 obtain rfl:=sj hr
 exact (Lf.DH (limbs x0) (limbs x1) A1 c1 A2 c2 w hT n1 n2 _ (Lf.rDiv x0 x1 h.2.2 h.1 h.2.1)).mono fun _ _ h=>h
theorem Iu (x0:Nat) (x1:Nat) (A1:Option Addr) (c1:Nat) (A2:Option Addr) (c2:Nat) (w:World) (hT:TB w) (n1:RU w A1 c1 x0) (n2:RU w A2 c2 x1) (r:Nat) (hr:CK x0 x1=some r):Calls prog 200 #[.slice A1 (sz x0) c1,.slice A2 (sz x1) c2] w (Ret Kj w r):=by
 unfold CK at hr
 obtain ⟨_,h,hr⟩:=Ac hr
 have h:=AC h
 obtain rfl:=sj hr
 exact (Lf.Iu (limbs x0) (limbs x1) A1 c1 A2 c2 w hT n1 n2 _ (Lf.toR (Lf.rMul (Ap x0) (Ap x1) (by have:=h.1;have:=h.2;unfold sz at *;omega)) (by rw [Ax,Ax]))).mono fun _ _ h=>h
theorem Du (x0:Nat) (A1:Option Addr) (c1:Nat) (w:World) (hT:TB w) (n1:RU w A1 c1 x0) (r:Int) (hr:Bn x0=some r):Calls prog 147 #[.slice A1 (sz x0) c1] w (Ret Gl w r):=by
 unfold Bn at hr
 obtain ⟨_,h,hr⟩:=Ac hr
 have h:=AC h
 obtain rfl:=sj hr
 exact (Lf.Du (limbs x0) A1 c1 w hT n1 _ (Lf.rBits x0 (by omega))).mono fun _ _ h=>h
theorem Ij (x0:Nat) (x1:Int) (A1:Option Addr) (c1:Nat) (w:World) (hT:TB w) (n1:RU w A1 c1 x0) (r:Nat) (hr:Ew x0 x1=some r):Calls prog 226 #[.slice A1 (sz x0) c1,.int .i64 x1] w (Ret MS w r):=by
 unfold Ew at hr
 obtain ⟨_,h,hr⟩:=Ac hr
 have h:=AC h
 obtain rfl:=sj hr
 exact (Lf.Ij (limbs x0) x1 A1 c1 w hT n1 _ (by obtain ⟨m,rfl⟩:∃m:Nat,x1=m:=⟨x1.toNat,by omega⟩;rw [Lf.nShl (Ap x0) m (Lf.szl h.1 (by decide)) (by omega),Ax];rfl)).mono fun _ _ h=>h
theorem c_slices_Clone_nat_limbs (x0:Nat) (A1:Option Addr) (c1:Nat) (w:World) (hT:TB w) (n1:RU w A1 c1 x0) (r:Nat) (hr:FF x0=some r):Calls prog 256 #[.slice A1 (sz x0) c1] w (Ret MS w r):=by
 unfold FF at hr
 obtain ⟨_,h,hr⟩:=Ac hr
 have h:=AC h
 obtain rfl:=sj hr
 refine (Lf.c_slices_Clone_nat_limbs_o (limbs x0) A1 c1 w hT n1 (limbs x0) (by unfold Lf.Gr;rw [Lf.gdB (by unfold sz at h;omega)])).mono fun e w' he=>?_
 obtain ⟨h1,v,h2,A,c,h3,h4⟩:=he
 exact ⟨h1,v,h2,A,c,h3,h4.rl⟩
theorem Jv (x0:Nat) (x1:Int) (A1:Option Addr) (c1:Nat) (w:World) (hT:TB w) (n1:RU w A1 c1 x0) (r:Nat) (hr:Fh x0 x1=some r):Calls prog 249 #[.slice A1 (sz x0) c1,.int .i64 x1] w (Ret MS w r):=by
 unfold Fh at hr
 obtain ⟨_,h,hr⟩:=Ac hr
 have h:=AC h
 obtain rfl:=sj hr
 exact (Lf.Jv (limbs x0) x1 A1 c1 w hT n1 _ (by obtain ⟨m,rfl⟩:∃m:Nat,x1=m:=⟨x1.toNat,by omega⟩;rw [Lf.nShr x0 m h.1 (by omega)];rfl)).mono fun _ _ h=>h
theorem JB (x0:Nat) (x1:Nat) (A1:Option Addr) (c1:Nat) (A2:Option Addr) (c2:Nat) (w:World) (hT:TB w) (n1:RU w A1 c1 x0) (n2:RU w A2 c2 x1) (r:Int) (hr:FX x0 x1=some r):Calls prog 251 #[.slice A1 (sz x0) c1,.slice A2 (sz x1) c2] w (Ret Gl w r):=by
 unfold FX at hr
 obtain ⟨_,h,hr⟩:=Ac hr
 have h:=AC h
 obtain rfl:=sj hr
 exact (Lf.JB (limbs x0) (limbs x1) A1 c1 A2 c2 w hT n1 n2 _ (Lf.nCmp x0 x1)).mono fun _ _ h=>h
theorem IX (x0:Nat) (x1:Nat) (A1:Option Addr) (c1:Nat) (A2:Option Addr) (c2:Nat) (w:World) (hT:TB w) (n1:RU w A1 c1 x0) (n2:RU w A2 c2 x1) (r:Nat × Nat) (hr:Cz x0 x1=some r):Calls prog 244 #[.slice A1 (sz x0) c1,.slice A2 (sz x1) c2] w (Ret rep_228_228 w r):=by
 unfold Cz at hr
 obtain ⟨_,h,hr⟩:=Ac hr
 have h:=AC h
 obtain rfl:=sj hr
 exact (Lf.IX (limbs x0) (limbs x1) A1 c1 A2 c2 w hT n1 n2 _ (Lf.nLong x0 x1 h.2.2 h.1 h.2.1)).mono fun _ _ h=>h
end Go.Proofs

