import Derived.Test.YtabiobmfelafoaaGreatDoorGenBase
import Derived.Test.YtabiobmfelafoaaGreatDoorLeaf2
import Derived.Test.YtabiobmfelafoaaGreatDoorLeaf3
namespace Go.Proofs
set_option linter.unusedVariables false
set_option linter.unusedSimpArgs false
set_option maxHeartbeats 4000000
open Go.RowKit Go.Sb Go.Proofs.Sbn
namespace Lf
theorem szl {n k m:Nat} (h:sz n<k) (hk:k≤m):(limbs n).length<m:=Nat.lt_of_lt_of_le h hk
theorem toR {p:Option (List Int)} {a b:Nat} (h:p=some (limbs a)) (e:a=b):p=some (limbs b):=by rw [h,e]
theorem len_mono {a b:Nat} (h:a≤b):(limbs a).length≤(limbs b).length:=by
 have h1:=(Dg (n:=b) (k:=(limbs b).length)).1 (Nat.le_refl _)
 exact Dg.2 (Nat.lt_of_le_of_lt h h1)
end Lf
theorem Fq (x0:List Int) (A1:Option Addr) (c1:Nat) (w:World) (hT:TB w) (n1:RLu w A1 c1 x0) (r:Bool) (hr:BD x0=some r):Calls Tryz.prog 143 #[.slice A1 x0.length c1] w (Ret Fw w r):=(Lf.Fq x0 A1 c1 w hT n1 r hr).mono fun _ _ h=>h
theorem EW (x0:List Int) (x1:Int) (A1:Option Addr) (c1:Nat) (w:World) (hT:TB w) (n1:RLu w A1 c1 x0) (r:Int) (hr:BI x0 x1=some r):Calls Tryz.prog 128 #[.slice A1 x0.length c1,.int .i64 x1] w (Ret Ju w r):=(Lf.EW x0 x1 A1 c1 w hT n1 r hr).mono fun _ _ h=>h
theorem Fk (x0:Int)  (w:World) (hT:TB w)  (r:Nat) (hr:CK x0=some r):Calls Tryz.prog 179 #[.int .u64 x0] w (Ret IV w r):=by
 unfold CK at hr
 obtain ⟨_,h,hr⟩:=Aa hr
 have h:=AR h
 obtain rfl:=sj hr
 exact (Lf.Fk x0  w hT  _ (by obtain ⟨m,rfl⟩:∃m:Nat,x0=m:=⟨x0.toNat,by omega⟩;rw [Lf.rOf m (by omega)];rfl)).mono fun _ _ h=>h
theorem Ii (x0:List Int) (A1:Option Addr) (c1:Nat) (w:World) (hT:TB w) (n1:RLu w A1 c1 x0) (r:Bool) (hr:Fu x0=some r):Calls Tryz.prog 208 #[.slice A1 x0.length c1] w (Ret Fw w r):=(Lf.Ii x0 A1 c1 w hT n1 r hr).mono fun _ _ h=>h
theorem Gz (x0:Nat) (A1:Option Addr) (c1:Nat) (w:World) (hT:TB w) (n1:RU w A1 c1 x0) (r:Int) (hr:CD x0=some r):Calls Tryz.prog 213 #[.slice A1 (sz x0) c1] w (Ret Gk w r):=by
 unfold CD at hr
 obtain ⟨_,h,hr⟩:=Aa hr
 have h:=AR h
 obtain rfl:=sj hr
 exact (Lf.Gz (limbs x0) A1 c1 w hT n1 _ (Lf.wZeros x0 (by omega))).mono fun _ _ h=>h
theorem ER (x0:Nat) (x1:Int) (A1:Option Addr) (c1:Nat) (w:World) (hT:TB w) (n1:RU w A1 c1 x0) (r:Nat) (hr:Cm x0 x1=some r):Calls Tryz.prog 204 #[.slice A1 (sz x0) c1,.int .i64 x1] w (Ret It w r):=by
 unfold Cm at hr
 obtain ⟨_,h,hr⟩:=Aa hr
 have h:=AR h
 obtain rfl:=sj hr
 exact (Lf.ER (limbs x0) x1 A1 c1 w hT n1 _ (by obtain ⟨m,rfl⟩:∃m:Nat,x1=m:=⟨x1.toNat,by omega⟩;rw [Lf.wShr (AL x0) m (Lf.szl h.1 (by decide)) (by omega),AM];rfl)).mono fun _ _ h=>h
theorem c_slices_Clone_wide_Nat (x0:Nat) (A1:Option Addr) (c1:Nat) (w:World) (hT:TB w) (n1:RU w A1 c1 x0) (r:Nat) (hr:CL x0=some r):Calls Tryz.prog 201 #[.slice A1 (sz x0) c1] w (Ret It w r):=by
 unfold CL at hr
 obtain ⟨_,h,hr⟩:=Aa hr
 have h:=AR h
 obtain rfl:=sj hr
 refine (Lf.FG (limbs x0) A1 c1 w hT n1 (limbs x0) (by unfold Lf.CY;rw [Lf.gdB (by unfold sz at h;omega)])).mono fun e w' he=>?_
 obtain ⟨h1,v,h2,A,c,h3,h4⟩:=he
 exact ⟨h1,v,h2,A,c,h3,h4.rl⟩
theorem Fp (x0:Nat) (A1:Option Addr) (c1:Nat) (w:World) (hT:TB w) (n1:RU w A1 c1 x0) (r:Int) (hr:BC x0=some r):Calls Tryz.prog 153 #[.slice A1 (sz x0) c1] w (Ret Gk w r):=by
 unfold BC at hr
 obtain ⟨_,h,hr⟩:=Aa hr
 have h:=AR h
 obtain rfl:=sj hr
 exact (Lf.Fp (limbs x0) A1 c1 w hT n1 _ (Lf.rZeros x0 (by omega))).mono fun _ _ h=>h
theorem FP (x0:Nat) (x1:Int) (A1:Option Addr) (c1:Nat) (w:World) (hT:TB w) (n1:RU w A1 c1 x0) (r:Nat) (hr:Ca x0 x1=some r):Calls Tryz.prog 154 #[.slice A1 (sz x0) c1,.int .i64 x1] w (Ret IV w r):=by
 unfold Ca at hr
 obtain ⟨_,h,hr⟩:=Aa hr
 have h:=AR h
 obtain rfl:=sj hr
 exact (Lf.FP (limbs x0) x1 A1 c1 w hT n1 _ (by obtain ⟨m,rfl⟩:∃m:Nat,x1=m:=⟨x1.toNat,by omega⟩;rw [Lf.rShr (AL x0) m (Lf.szl h.1 (by decide)) (by omega),AM];rfl)).mono fun _ _ h=>h
theorem DN (x0:Nat) (A1:Option Addr) (c1:Nat) (w:World) (hT:TB w) (n1:RU w A1 c1 x0) (r:Int) (hr:Bw x0=some r):Calls Tryz.prog 184 #[.slice A1 (sz x0) c1] w (Ret Gk w r):=by
 unfold Bw at hr
 obtain ⟨_,h,hr⟩:=Aa hr
 have h:=AR h
 obtain rfl:=sj hr
 exact (Lf.DN (limbs x0) A1 c1 w hT n1 _ (Lf.wBits x0 (by omega))).mono fun _ _ h=>h
theorem De (x0:Nat) (x1:Int) (A1:Option Addr) (c1:Nat) (w:World) (hT:TB w) (n1:RU w A1 c1 x0) (r:Nat) (hr:Bq x0 x1=some r):Calls Tryz.prog 185 #[.slice A1 (sz x0) c1,.int .i64 x1] w (Ret It w r):=by
 unfold Bq at hr
 obtain ⟨_,h,hr⟩:=Aa hr
 have h:=AR h
 obtain rfl:=sj hr
 exact (Lf.De (limbs x0) x1 A1 c1 w hT n1 _ (by obtain ⟨m,rfl⟩:∃m:Nat,x1=m:=⟨x1.toNat,by omega⟩;rw [Lf.wShl (AL x0) m (Lf.szl h.1 (by decide)) (by omega),AM];rfl)).mono fun _ _ h=>h
theorem EK (x0:Nat) (x1:Nat) (A1:Option Addr) (c1:Nat) (A2:Option Addr) (c2:Nat) (w:World) (hT:TB w) (n1:RU w A1 c1 x0) (n2:RU w A2 c2 x1) (r:Nat) (hr:Co x0 x1=some r):Calls Tryz.prog 191 #[.slice A1 (sz x0) c1,.slice A2 (sz x1) c2] w (Ret It w r):=by
 unfold Co at hr
 obtain ⟨_,h,hr⟩:=Aa hr
 have h:=AR h
 obtain rfl:=sj hr
 exact (Lf.EK (limbs x0) (limbs x1) A1 c1 A2 c2 w hT n1 n2 _ (Lf.toR (Lf.wSub (AL x0) (AL x1) (Lf.szl h.1 (by decide)) (Lf.len_mono h.2.2) (by rw [AM,AM];exact h.2.2)) (by rw [AM,AM]))).mono fun _ _ h=>h
theorem EN (x0:Nat) (x1:Nat) (A1:Option Addr) (c1:Nat) (A2:Option Addr) (c2:Nat) (w:World) (hT:TB w) (n1:RU w A1 c1 x0) (n2:RU w A2 c2 x1) (r:Int) (hr:Cn x0 x1=some r):Calls Tryz.prog 205 #[.slice A1 (sz x0) c1,.slice A2 (sz x1) c2] w (Ret Gk w r):=by
 unfold Cn at hr
 obtain ⟨_,h,hr⟩:=Aa hr
 have h:=AR h
 obtain rfl:=sj hr
 exact (Lf.EN (limbs x0) (limbs x1) A1 c1 A2 c2 w hT n1 n2 _ (Lf.wCmp x0 x1 (by omega) (by omega))).mono fun _ _ h=>h
theorem Fs (x0:Nat) (x1:Nat) (A1:Option Addr) (c1:Nat) (A2:Option Addr) (c2:Nat) (w:World) (hT:TB w) (n1:RU w A1 c1 x0) (n2:RU w A2 c2 x1) (r:Nat) (hr:CC x0 x1=some r):Calls Tryz.prog 207 #[.slice A1 (sz x0) c1,.slice A2 (sz x1) c2] w (Ret It w r):=by
 unfold CC at hr
 obtain ⟨_,h,hr⟩:=Aa hr
 have h:=AR h
 obtain rfl:=sj hr
 exact (Lf.Fs (limbs x0) (limbs x1) A1 c1 A2 c2 w hT n1 n2 _ (Lf.toR (Lf.wAdd (AL x0) (AL x1) (Lf.szl h.1 (by decide)) (Lf.szl h.2 (by decide))) (by rw [AM,AM]))).mono fun _ _ h=>h
theorem Gu (x0:Nat) (x1:Nat) (A1:Option Addr) (c1:Nat) (A2:Option Addr) (c2:Nat) (w:World) (hT:TB w) (n1:RU w A1 c1 x0) (n2:RU w A2 c2 x1) (r:Nat) (hr:CS x0 x1=some r):Calls Tryz.prog 241 #[.slice A1 (sz x0) c1,.slice A2 (sz x1) c2] w (Ret It w r):=by
 unfold CS at hr
 obtain ⟨_,h,hr⟩:=Aa hr
 have h:=AR h
 obtain rfl:=sj hr
 exact (Lf.Gu (limbs x0) (limbs x1) A1 c1 A2 c2 w hT n1 n2 _ (Lf.toR (Lf.wMul (AL x0) (AL x1) (by have:=h.1;have:=h.2;unfold sz at *;omega)) (by rw [AM,AM]))).mono fun _ _ h=>h
theorem FH (x0:List Int) (x1:List Int) (A1:Option Addr) (c1:Nat) (A2:Option Addr) (c2:Nat) (w:World) (hT:TB w) (n1:RLu w A1 c1 x0) (n2:RLu w A2 c2 x1) (r:Bool) (hr:BR x0 x1=some r):Calls Tryz.prog 144 #[.slice A1 x0.length c1,.slice A2 x1.length c2] w (Ret Fw w r):=(Lf.FH x0 x1 A1 c1 A2 c2 w hT n1 n2 r hr).mono fun _ _ h=>h
theorem Gr (x0:Nat) (x1:Nat) (A1:Option Addr) (c1:Nat) (A2:Option Addr) (c2:Nat) (w:World) (hT:TB w) (n1:RU w A1 c1 x0) (n2:RU w A2 c2 x1) (r:Nat × Nat) (hr:CR x0 x1=some r):Calls Tryz.prog 186 #[.slice A1 (sz x0) c1,.slice A2 (sz x1) c2] w (Ret Jn w r):=by
 unfold CR at hr
 obtain ⟨_,h,hr⟩:=Aa hr
 have h:=AR h
 obtain rfl:=sj hr
 exact (Lf.Gr (limbs x0) (limbs x1) A1 c1 A2 c2 w hT n1 n2 _ (Lf.wDiv x0 x1 h.2.2 h.1 h.2.1)).mono fun _ _ h=>h
theorem FY (x0:Nat) (x1:Int) (A1:Option Addr) (c1:Nat) (w:World) (hT:TB w) (n1:RU w A1 c1 x0) (r:Nat) (hr:Cd x0 x1=some r):Calls Tryz.prog 148 #[.slice A1 (sz x0) c1,.int .i64 x1] w (Ret IV w r):=by
 unfold Cd at hr
 obtain ⟨_,h,hr⟩:=Aa hr
 have h:=AR h
 obtain rfl:=sj hr
 exact (Lf.FY (limbs x0) x1 A1 c1 w hT n1 _ (by obtain ⟨m,rfl⟩:∃m:Nat,x1=m:=⟨x1.toNat,by omega⟩;rw [Lf.rShl (AL x0) m (Lf.szl h.1 (by decide)) (by omega) (by rw [AM]),AM];rfl)).mono fun _ _ h=>h
theorem FN (x0:Nat) (x1:Nat) (A1:Option Addr) (c1:Nat) (A2:Option Addr) (c2:Nat) (w:World) (hT:TB w) (n1:RU w A1 c1 x0) (n2:RU w A2 c2 x1) (r:Nat) (hr:Bv x0 x1=some r):Calls Tryz.prog 189 #[.slice A1 (sz x0) c1,.slice A2 (sz x1) c2] w (Ret IV w r):=by
 unfold Bv at hr
 obtain ⟨_,h,hr⟩:=Aa hr
 have h:=AR h
 obtain rfl:=sj hr
 exact (Lf.FN (limbs x0) (limbs x1) A1 c1 A2 c2 w hT n1 n2 _ (Lf.toR (Lf.rAdd (AL x0) (AL x1) (Lf.szl h.1 (by decide)) (Lf.szl h.2 (by decide))) (by rw [AM,AM]))).mono fun _ _ h=>h
theorem FU (x0:Nat) (x1:Nat) (A1:Option Addr) (c1:Nat) (A2:Option Addr) (c2:Nat) (w:World) (hT:TB w) (n1:RU w A1 c1 x0) (n2:RU w A2 c2 x1) (r:Int) (hr:BL x0 x1=some r):Calls Tryz.prog 198 #[.slice A1 (sz x0) c1,.slice A2 (sz x1) c2] w (Ret Gk w r):=by
 unfold BL at hr
 obtain ⟨_,h,hr⟩:=Aa hr
 have h:=AR h
 obtain rfl:=sj hr
 exact (Lf.FU (limbs x0) (limbs x1) A1 c1 A2 c2 w hT n1 n2 _ (by rw [Lf.rCmp (AL x0) (AL x1) (Lf.szl h.1 (by decide)) (Lf.szl h.2 (by decide)),AM,AM])).mono fun _ _ h=>h
theorem EV (x0:Nat) (x1:Nat) (A1:Option Addr) (c1:Nat) (A2:Option Addr) (c2:Nat) (w:World) (hT:TB w) (n1:RU w A1 c1 x0) (n2:RU w A2 c2 x1) (r:Nat) (hr:BN x0 x1=some r):Calls Tryz.prog 199 #[.slice A1 (sz x0) c1,.slice A2 (sz x1) c2] w (Ret IV w r):=by
 unfold BN at hr
 obtain ⟨_,h,hr⟩:=Aa hr
 have h:=AR h
 obtain rfl:=sj hr
 exact (Lf.EV (limbs x0) (limbs x1) A1 c1 A2 c2 w hT n1 n2 _ (Lf.toR (Lf.rSub (AL x0) (AL x1) (Lf.szl h.1 (by decide)) (Lf.len_mono h.2.2) (by rw [AM,AM];exact h.2.2)) (by rw [AM,AM]))).mono fun _ _ h=>h
theorem FQ (x0:Nat) (x1:Nat) (A1:Option Addr) (c1:Nat) (A2:Option Addr) (c2:Nat) (w:World) (hT:TB w) (n1:RU w A1 c1 x0) (n2:RU w A2 c2 x1) (r:Nat) (hr:Cc x0 x1=some r):Calls Tryz.prog 200 #[.slice A1 (sz x0) c1,.slice A2 (sz x1) c2] w (Ret IV w r):=by
 unfold Cc at hr
 obtain ⟨_,h,hr⟩:=Aa hr
 have h:=AR h
 obtain rfl:=sj hr
 exact (Lf.FQ (limbs x0) (limbs x1) A1 c1 A2 c2 w hT n1 n2 _ (Lf.toR (Lf.rMul (AL x0) (AL x1) (by have:=h.1;have:=h.2;unfold sz at *;omega)) (by rw [AM,AM]))).mono fun _ _ h=>h
end Go.Proofs

