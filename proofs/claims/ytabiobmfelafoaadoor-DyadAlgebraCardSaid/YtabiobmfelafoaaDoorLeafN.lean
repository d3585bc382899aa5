import Derived.Test.YtabiobmfelafoaaDoorGenBase
import Derived.Test.YtabiobmfelafoaaDoorLeaf2
import Derived.Test.YtabiobmfelafoaaDoorLeaf3
namespace Go.Proofs
set_option linter.unusedVariables false
set_option linter.unusedSimpArgs false
set_option maxHeartbeats 4000000
open Go.RowKit Go.Sb Go.Proofs.Sbn
namespace Lf
theorem szl {n k m:Nat} (h:sz n<k) (hk:k≤m):(limbs n).length<m:=Nat.lt_of_lt_of_le h hk
theorem toR {p:Option (List Int)} {a b:Nat} (h:p=some (limbs a)) (e:a=b):p=some (limbs b):=by rw [h,e]
theorem len_mono {a b:Nat} (h:a≤b):(limbs a).length≤(limbs b).length:=by
 have h1:=(CG (n:=b) (k:=(limbs b).length)).1 (Nat.le_refl _)
 exact CG.2 (Nat.lt_of_le_of_lt h h1)
end Lf
theorem EP (x0:List Int) (A1:Option Addr) (c1:Nat) (w:World) (hT:TB w) (n1:RLu w A1 c1 x0) (r:Bool) (hr:Bp x0=some r):Calls Tryd.prog 105 #[.slice A1 x0.length c1] w (Ret EO w r):=(Lf.EP x0 A1 c1 w hT n1 r hr).mono fun _ _ h=>h
theorem Et (x0:List Int) (x1:Int) (A1:Option Addr) (c1:Nat) (w:World) (hT:TB w) (n1:RLu w A1 c1 x0) (r:Int) (hr:Bt x0 x1=some r):Calls Tryd.prog 82 #[.slice A1 x0.length c1,.int .i64 x1] w (Ret Iu w r):=(Lf.Et x0 x1 A1 c1 w hT n1 r hr).mono fun _ _ h=>h
theorem Hj (x0:List Int) (A1:Option Addr) (c1:Nat) (w:World) (hT:TB w) (n1:RLu w A1 c1 x0) (r:Bool) (hr:EM x0=some r):Calls Tryd.prog 100 #[.slice A1 x0.length c1] w (Ret EO w r):=(Lf.Hj x0 A1 c1 w hT n1 r hr).mono fun _ _ h=>h
theorem Da (x0:Nat) (A1:Option Addr) (c1:Nat) (w:World) (hT:TB w) (n1:RU w A1 c1 x0) (r:Int) (hr:Bk x0=some r):Calls Tryd.prog 87 #[.slice A1 (sz x0) c1] w (Ret FW w r):=by
 unfold Bk at hr
 obtain ⟨_,h,hr⟩:=Ab hr
 have h:=Be h
 obtain rfl:=sj hr
 exact (Lf.Da (limbs x0) A1 c1 w hT n1 _ (Lf.wBits x0 (by omega))).mono fun _ _ h=>h
theorem CD (x0:Nat) (x1:Int) (A1:Option Addr) (c1:Nat) (w:World) (hT:TB w) (n1:RU w A1 c1 x0) (r:Nat) (hr:Bf x0 x1=some r):Calls Tryd.prog 88 #[.slice A1 (sz x0) c1,.int .i64 x1] w (Ret HZ w r):=by
 unfold Bf at hr
 obtain ⟨_,h,hr⟩:=Ab hr
 have h:=Be h
 obtain rfl:=sj hr
 exact (Lf.CD (limbs x0) x1 A1 c1 w hT n1 _ (by obtain ⟨m,rfl⟩:∃m:Nat,x1=m:=⟨x1.toNat,by omega⟩;rw [Lf.wShl (AP x0) m (Lf.szl h.1 (by decide)) (by omega),AZ];rfl)).mono fun _ _ h=>h
theorem EH (x0:Nat) (x1:Nat) (A1:Option Addr) (c1:Nat) (A2:Option Addr) (c2:Nat) (w:World) (hT:TB w) (n1:RU w A1 c1 x0) (n2:RU w A2 c2 x1) (r:Nat) (hr:Ca x0 x1=some r):Calls Tryd.prog 98 #[.slice A1 (sz x0) c1,.slice A2 (sz x1) c2] w (Ret HZ w r):=by
 unfold Ca at hr
 obtain ⟨_,h,hr⟩:=Ab hr
 have h:=Be h
 obtain rfl:=sj hr
 exact (Lf.EH (limbs x0) (limbs x1) A1 c1 A2 c2 w hT n1 n2 _ (Lf.toR (Lf.wAdd (AP x0) (AP x1) (Lf.szl h.1 (by decide)) (Lf.szl h.2 (by decide))) (by rw [AZ,AZ]))).mono fun _ _ h=>h
theorem Em (x0:Nat) (x1:Nat) (A1:Option Addr) (c1:Nat) (A2:Option Addr) (c2:Nat) (w:World) (hT:TB w) (n1:RU w A1 c1 x0) (n2:RU w A2 c2 x1) (r:Int) (hr:BN x0 x1=some r):Calls Tryd.prog 96 #[.slice A1 (sz x0) c1,.slice A2 (sz x1) c2] w (Ret FW w r):=by
 unfold BN at hr
 obtain ⟨_,h,hr⟩:=Ab hr
 have h:=Be h
 obtain rfl:=sj hr
 exact (Lf.Em (limbs x0) (limbs x1) A1 c1 A2 c2 w hT n1 n2 _ (Lf.wCmp x0 x1 (by omega) (by omega))).mono fun _ _ h=>h
theorem Eh (x0:Nat) (x1:Nat) (A1:Option Addr) (c1:Nat) (A2:Option Addr) (c2:Nat) (w:World) (hT:TB w) (n1:RU w A1 c1 x0) (n2:RU w A2 c2 x1) (r:Nat) (hr:BP x0 x1=some r):Calls Tryd.prog 89 #[.slice A1 (sz x0) c1,.slice A2 (sz x1) c2] w (Ret HZ w r):=by
 unfold BP at hr
 obtain ⟨_,h,hr⟩:=Ab hr
 have h:=Be h
 obtain rfl:=sj hr
 exact (Lf.Eh (limbs x0) (limbs x1) A1 c1 A2 c2 w hT n1 n2 _ (Lf.toR (Lf.wSub (AP x0) (AP x1) (Lf.szl h.1 (by decide)) (Lf.len_mono h.2.2) (by rw [AZ,AZ];exact h.2.2)) (by rw [AZ,AZ]))).mono fun _ _ h=>h
theorem FI (x0:Nat) (A1:Option Addr) (c1:Nat) (w:World) (hT:TB w) (n1:RU w A1 c1 x0) (r:Int) (hr:Cc x0=some r):Calls Tryd.prog 101 #[.slice A1 (sz x0) c1] w (Ret FW w r):=by
 unfold Cc at hr
 obtain ⟨_,h,hr⟩:=Ab hr
 have h:=Be h
 obtain rfl:=sj hr
 exact (Lf.FI (limbs x0) A1 c1 w hT n1 _ (Lf.wZeros x0 (by omega))).mono fun _ _ h=>h
theorem Ek (x0:Nat) (x1:Int) (A1:Option Addr) (c1:Nat) (w:World) (hT:TB w) (n1:RU w A1 c1 x0) (r:Nat) (hr:BS x0 x1=some r):Calls Tryd.prog 95 #[.slice A1 (sz x0) c1,.int .i64 x1] w (Ret HZ w r):=by
 unfold BS at hr
 obtain ⟨_,h,hr⟩:=Ab hr
 have h:=Be h
 obtain rfl:=sj hr
 exact (Lf.Ek (limbs x0) x1 A1 c1 w hT n1 _ (by obtain ⟨m,rfl⟩:∃m:Nat,x1=m:=⟨x1.toNat,by omega⟩;rw [Lf.wShr (AP x0) m (Lf.szl h.1 (by decide)) (by omega),AZ];rfl)).mono fun _ _ h=>h
theorem EE (x0:Int)  (w:World) (hT:TB w)  (r:Nat) (hr:Cf x0=some r):Calls Tryd.prog 69 #[.int .u64 x0] w (Ret KA w r):=by
 unfold Cf at hr
 obtain ⟨_,h,hr⟩:=Ab hr
 have h:=Be h
 obtain rfl:=sj hr
 exact (Lf.EE x0  w hT  _ (by obtain ⟨m,rfl⟩:∃m:Nat,x0=m:=⟨x0.toNat,by omega⟩;rw [Lf.rOf m (by omega)];rfl)).mono fun _ _ h=>h
theorem c_slices_Clone_wide_Nat (x0:Nat) (A1:Option Addr) (c1:Nat) (w:World) (hT:TB w) (n1:RU w A1 c1 x0) (r:Nat) (hr:Ch x0=some r):Calls Tryd.prog 77 #[.slice A1 (sz x0) c1] w (Ret HZ w r):=by
 unfold Ch at hr
 obtain ⟨_,h,hr⟩:=Ab hr
 have h:=Be h
 obtain rfl:=sj hr
 refine (Lf.EY (limbs x0) A1 c1 w hT n1 (limbs x0) (by unfold Lf.Cw;rw [Lf.gdB (by unfold sz at h;omega)])).mono fun e w' he=>?_
 obtain ⟨h1,v,h2,A,c,h3,h4⟩:=he
 exact ⟨h1,v,h2,A,c,h3,h4.rl⟩
theorem EQ (x0:Nat) (A1:Option Addr) (c1:Nat) (w:World) (hT:TB w) (n1:RU w A1 c1 x0) (r:Int) (hr:Bq x0=some r):Calls Tryd.prog 79 #[.slice A1 (sz x0) c1] w (Ret FW w r):=by
 unfold Bq at hr
 obtain ⟨_,h,hr⟩:=Ab hr
 have h:=Be h
 obtain rfl:=sj hr
 exact (Lf.EQ (limbs x0) A1 c1 w hT n1 _ (Lf.rZeros x0 (by omega))).mono fun _ _ h=>h
theorem Fh (x0:Nat) (x1:Int) (A1:Option Addr) (c1:Nat) (w:World) (hT:TB w) (n1:RU w A1 c1 x0) (r:Nat) (hr:BJ x0 x1=some r):Calls Tryd.prog 80 #[.slice A1 (sz x0) c1,.int .i64 x1] w (Ret KA w r):=by
 unfold BJ at hr
 obtain ⟨_,h,hr⟩:=Ab hr
 have h:=Be h
 obtain rfl:=sj hr
 exact (Lf.Fh (limbs x0) x1 A1 c1 w hT n1 _ (by obtain ⟨m,rfl⟩:∃m:Nat,x1=m:=⟨x1.toNat,by omega⟩;rw [Lf.rShr (AP x0) m (Lf.szl h.1 (by decide)) (by omega),AZ];rfl)).mono fun _ _ h=>h
theorem FC (x0:Nat) (x1:Nat) (A1:Option Addr) (c1:Nat) (A2:Option Addr) (c2:Nat) (w:World) (hT:TB w) (n1:RU w A1 c1 x0) (n2:RU w A2 c2 x1) (r:Nat) (hr:Cj x0 x1=some r):Calls Tryd.prog 103 #[.slice A1 (sz x0) c1,.slice A2 (sz x1) c2] w (Ret HZ w r):=by
 unfold Cj at hr
 obtain ⟨_,h,hr⟩:=Ab hr
 have h:=Be h
 obtain rfl:=sj hr
 exact (Lf.FC (limbs x0) (limbs x1) A1 c1 A2 c2 w hT n1 n2 _ (Lf.toR (Lf.wMul (AP x0) (AP x1) (by have:=h.1;have:=h.2;unfold sz at *;omega)) (by rw [AZ,AZ]))).mono fun _ _ h=>h
theorem Fa (x0:List Int) (x1:List Int) (A1:Option Addr) (c1:Nat) (A2:Option Addr) (c2:Nat) (w:World) (hT:TB w) (n1:RLu w A1 c1 x0) (n2:RLu w A2 c2 x1) (r:Bool) (hr:BD x0 x1=some r):Calls Tryd.prog 74 #[.slice A1 x0.length c1,.slice A2 x1.length c2] w (Ret EO w r):=(Lf.Fa x0 x1 A1 c1 A2 c2 w hT n1 n2 r hr).mono fun _ _ h=>h
theorem FB (x0:Nat) (x1:Nat) (A1:Option Addr) (c1:Nat) (A2:Option Addr) (c2:Nat) (w:World) (hT:TB w) (n1:RU w A1 c1 x0) (n2:RU w A2 c2 x1) (r:Nat × Nat) (hr:Cq x0 x1=some r):Calls Tryd.prog 92 #[.slice A1 (sz x0) c1,.slice A2 (sz x1) c2] w (Ret IV w r):=by
 unfold Cq at hr
 obtain ⟨_,h,hr⟩:=Ab hr
 have h:=Be h
 obtain rfl:=sj hr
 exact (Lf.FB (limbs x0) (limbs x1) A1 c1 A2 c2 w hT n1 n2 _ (Lf.wDiv x0 x1 h.2.2 h.1 h.2.1)).mono fun _ _ h=>h
end Go.Proofs

