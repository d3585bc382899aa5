import Derived.Test.YtabiobmfelafoaaGreatDoorGenBase
import Derived.Test.YtabiobmfelafoaaGreatDoorLeaf2
import Derived.Test.YtabiobmfelafoaaGreatDoorLeaf3
namespace Go.Proofs
set_option linter.unusedVariables false
set_option linter.unusedSimpArgs false
set_option maxHeartbeats 4000000
open Go.RowKit Go.Sb Go.Proofs.Sbn
namespace Lf
theorem szl {n k m:Nat} (h:sz n<k) (hk:k≤m):(limbs n).length<m:=Nat.lt_of_lt_of_le h hk
theorem toR {p:Option (List Int)} {a b:Nat} (h:p=some (limbs a)) (e:a=b):p=some (limbs b):=by rw [h,e]
theorem len_mono {a b:Nat} (h:a≤b):(limbs a).length≤(limbs b).length:=by
 have h1:=(CP (n:=b) (k:=(limbs b).length)).1 (Nat.le_refl _)
 exact CP.2 (Nat.lt_of_le_of_lt h h1)
end Lf
theorem GF (x0:List Int) (A1:Option Addr) (c1:Nat) (w:World) (hT:TB w) (n1:RLu w A1 c1 x0) (r:Bool) (hr:BT x0=some r):Calls Tryz.prog 143 #[.slice A1 x0.length c1] w (Ret Gl w r):=(Lf.GF x0 A1 c1 w hT n1 r hr).mono fun _ _ h=>h
theorem Gc (x0:List Int) (x1:Int) (A1:Option Addr) (c1:Nat) (w:World) (hT:TB w) (n1:RLu w A1 c1 x0) (r:Int) (hr:BZ x0 x1=some r):Calls Tryz.prog 128 #[.slice A1 x0.length c1,.int .i64 x1] w (Ret Kt w r):=(Lf.Gc x0 x1 A1 c1 w hT n1 r hr).mono fun _ _ h=>h
theorem Fz (x0:Int)  (w:World) (hT:TB w)  (r:Nat) (hr:CA x0=some r):Calls Tryz.prog 179 #[.int .u64 x0] w (Ret IR w r):=by
 unfold CA at hr
 obtain ⟨_,h,hr⟩:=Ab hr
 have h:=AI h
 obtain rfl:=sj hr
 exact (Lf.Fz x0  w hT  _ (by obtain ⟨m,rfl⟩:∃m:Nat,x0=m:=⟨x0.toNat,by omega⟩;rw [Lf.rOf m (by omega)];rfl)).mono fun _ _ h=>h
theorem Jb (x0:List Int) (A1:Option Addr) (c1:Nat) (w:World) (hT:TB w) (n1:RLu w A1 c1 x0) (r:Bool) (hr:GG x0=some r):Calls Tryz.prog 208 #[.slice A1 x0.length c1] w (Ret Gl w r):=(Lf.Jb x0 A1 c1 w hT n1 r hr).mono fun _ _ h=>h
theorem Hv (x0:Nat) (A1:Option Addr) (c1:Nat) (w:World) (hT:TB w) (n1:RU w A1 c1 x0) (r:Int) (hr:CR x0=some r):Calls Tryz.prog 213 #[.slice A1 (sz x0) c1] w (Ret Gg w r):=by
 unfold CR at hr
 obtain ⟨_,h,hr⟩:=Ab hr
 have h:=AI h
 obtain rfl:=sj hr
 exact (Lf.Hv (limbs x0) A1 c1 w hT n1 _ (Lf.wZeros x0 (by omega))).mono fun _ _ h=>h
theorem FP (x0:Nat) (x1:Int) (A1:Option Addr) (c1:Nat) (w:World) (hT:TB w) (n1:RU w A1 c1 x0) (r:Nat) (hr:Cy x0 x1=some r):Calls Tryz.prog 204 #[.slice A1 (sz x0) c1,.int .i64 x1] w (Ret Js w r):=by
 unfold Cy at hr
 obtain ⟨_,h,hr⟩:=Ab hr
 have h:=AI h
 obtain rfl:=sj hr
 exact (Lf.FP (limbs x0) x1 A1 c1 w hT n1 _ (by obtain ⟨m,rfl⟩:∃m:Nat,x1=m:=⟨x1.toNat,by omega⟩;rw [Lf.wShr (Aw x0) m (Lf.szl h.1 (by decide)) (by omega),AA];rfl)).mono fun _ _ h=>h
theorem c_slices_Clone_wide_Nat (x0:Nat) (A1:Option Addr) (c1:Nat) (w:World) (hT:TB w) (n1:RU w A1 c1 x0) (r:Nat) (hr:CW x0=some r):Calls Tryz.prog 201 #[.slice A1 (sz x0) c1] w (Ret Js w r):=by
 unfold CW at hr
 obtain ⟨_,h,hr⟩:=Ab hr
 have h:=AI h
 obtain rfl:=sj hr
 refine (Lf.GN (limbs x0) A1 c1 w hT n1 (limbs x0) (by unfold Lf.DA;rw [Lf.gdB (by unfold sz at h;omega)])).mono fun e w' he=>?_
 obtain ⟨h1,v,h2,A,c,h3,h4⟩:=he
 exact ⟨h1,v,h2,A,c,h3,h4.rl⟩
theorem GA (x0:Nat) (A1:Option Addr) (c1:Nat) (w:World) (hT:TB w) (n1:RU w A1 c1 x0) (r:Int) (hr:BS x0=some r):Calls Tryz.prog 153 #[.slice A1 (sz x0) c1] w (Ret Gg w r):=by
 unfold BS at hr
 obtain ⟨_,h,hr⟩:=Ab hr
 have h:=AI h
 obtain rfl:=sj hr
 exact (Lf.GA (limbs x0) A1 c1 w hT n1 _ (Lf.rZeros x0 (by omega))).mono fun _ _ h=>h
theorem Ge (x0:Nat) (x1:Int) (A1:Option Addr) (c1:Nat) (w:World) (hT:TB w) (n1:RU w A1 c1 x0) (r:Nat) (hr:BV x0 x1=some r):Calls Tryz.prog 154 #[.slice A1 (sz x0) c1,.int .i64 x1] w (Ret IR w r):=by
 unfold BV at hr
 obtain ⟨_,h,hr⟩:=Ab hr
 have h:=AI h
 obtain rfl:=sj hr
 exact (Lf.Ge (limbs x0) x1 A1 c1 w hT n1 _ (by obtain ⟨m,rfl⟩:∃m:Nat,x1=m:=⟨x1.toNat,by omega⟩;rw [Lf.rShr (Aw x0) m (Lf.szl h.1 (by decide)) (by omega),AA];rfl)).mono fun _ _ h=>h
theorem Er (x0:Nat) (A1:Option Addr) (c1:Nat) (w:World) (hT:TB w) (n1:RU w A1 c1 x0) (r:Int) (hr:BI x0=some r):Calls Tryz.prog 184 #[.slice A1 (sz x0) c1] w (Ret Gg w r):=by
 unfold BI at hr
 obtain ⟨_,h,hr⟩:=Ab hr
 have h:=AI h
 obtain rfl:=sj hr
 exact (Lf.Er (limbs x0) A1 c1 w hT n1 _ (Lf.wBits x0 (by omega))).mono fun _ _ h=>h
theorem DK (x0:Nat) (x1:Int) (A1:Option Addr) (c1:Nat) (w:World) (hT:TB w) (n1:RU w A1 c1 x0) (r:Nat) (hr:Bz x0 x1=some r):Calls Tryz.prog 185 #[.slice A1 (sz x0) c1,.int .i64 x1] w (Ret Js w r):=by
 unfold Bz at hr
 obtain ⟨_,h,hr⟩:=Ab hr
 have h:=AI h
 obtain rfl:=sj hr
 exact (Lf.DK (limbs x0) x1 A1 c1 w hT n1 _ (by obtain ⟨m,rfl⟩:∃m:Nat,x1=m:=⟨x1.toNat,by omega⟩;rw [Lf.wShl (Aw x0) m (Lf.szl h.1 (by decide)) (by omega),AA];rfl)).mono fun _ _ h=>h
theorem FM (x0:Nat) (x1:Nat) (A1:Option Addr) (c1:Nat) (A2:Option Addr) (c2:Nat) (w:World) (hT:TB w) (n1:RU w A1 c1 x0) (n2:RU w A2 c2 x1) (r:Nat) (hr:Cx x0 x1=some r):Calls Tryz.prog 191 #[.slice A1 (sz x0) c1,.slice A2 (sz x1) c2] w (Ret Js w r):=by
 unfold Cx at hr
 obtain ⟨_,h,hr⟩:=Ab hr
 have h:=AI h
 obtain rfl:=sj hr
 exact (Lf.FM (limbs x0) (limbs x1) A1 c1 A2 c2 w hT n1 n2 _ (Lf.toR (Lf.wSub (Aw x0) (Aw x1) (Lf.szl h.1 (by decide)) (Lf.len_mono h.2.2) (by rw [AA,AA];exact h.2.2)) (by rw [AA,AA]))).mono fun _ _ h=>h
theorem FK (x0:Nat) (x1:Nat) (A1:Option Addr) (c1:Nat) (A2:Option Addr) (c2:Nat) (w:World) (hT:TB w) (n1:RU w A1 c1 x0) (n2:RU w A2 c2 x1) (r:Int) (hr:Cw x0 x1=some r):Calls Tryz.prog 205 #[.slice A1 (sz x0) c1,.slice A2 (sz x1) c2] w (Ret Gg w r):=by
 unfold Cw at hr
 obtain ⟨_,h,hr⟩:=Ab hr
 have h:=AI h
 obtain rfl:=sj hr
 exact (Lf.FK (limbs x0) (limbs x1) A1 c1 A2 c2 w hT n1 n2 _ (Lf.wCmp x0 x1 (by omega) (by omega))).mono fun _ _ h=>h
theorem GC (x0:Nat) (x1:Nat) (A1:Option Addr) (c1:Nat) (A2:Option Addr) (c2:Nat) (w:World) (hT:TB w) (n1:RU w A1 c1 x0) (n2:RU w A2 c2 x1) (r:Nat) (hr:CQ x0 x1=some r):Calls Tryz.prog 207 #[.slice A1 (sz x0) c1,.slice A2 (sz x1) c2] w (Ret Js w r):=by
 unfold CQ at hr
 obtain ⟨_,h,hr⟩:=Ab hr
 have h:=AI h
 obtain rfl:=sj hr
 exact (Lf.GC (limbs x0) (limbs x1) A1 c1 A2 c2 w hT n1 n2 _ (Lf.toR (Lf.wAdd (Aw x0) (Aw x1) (Lf.szl h.1 (by decide)) (Lf.szl h.2 (by decide))) (by rw [AA,AA]))).mono fun _ _ h=>h
theorem Ho (x0:Nat) (x1:Nat) (A1:Option Addr) (c1:Nat) (A2:Option Addr) (c2:Nat) (w:World) (hT:TB w) (n1:RU w A1 c1 x0) (n2:RU w A2 c2 x1) (r:Nat) (hr:Dc x0 x1=some r):Calls Tryz.prog 241 #[.slice A1 (sz x0) c1,.slice A2 (sz x1) c2] w (Ret Js w r):=by
 unfold Dc at hr
 obtain ⟨_,h,hr⟩:=Ab hr
 have h:=AI h
 obtain rfl:=sj hr
 exact (Lf.Ho (limbs x0) (limbs x1) A1 c1 A2 c2 w hT n1 n2 _ (Lf.toR (Lf.wMul (Aw x0) (Aw x1) (by have:=h.1;have:=h.2;unfold sz at *;omega)) (by rw [AA,AA]))).mono fun _ _ h=>h
theorem Fb (x0:List Int) (x1:List Int) (A1:Option Addr) (c1:Nat) (A2:Option Addr) (c2:Nat) (w:World) (hT:TB w) (n1:RLu w A1 c1 x0) (n2:RLu w A2 c2 x1) (r:Bool) (hr:Bw x0 x1=some r):Calls Tryz.prog 144 #[.slice A1 x0.length c1,.slice A2 x1.length c2] w (Ret Gl w r):=(Lf.Fb x0 x1 A1 c1 A2 c2 w hT n1 n2 r hr).mono fun _ _ h=>h
theorem Hh (x0:Nat) (x1:Nat) (A1:Option Addr) (c1:Nat) (A2:Option Addr) (c2:Nat) (w:World) (hT:TB w) (n1:RU w A1 c1 x0) (n2:RU w A2 c2 x1) (r:Nat × Nat) (hr:Dk x0 x1=some r):Calls Tryz.prog 186 #[.slice A1 (sz x0) c1,.slice A2 (sz x1) c2] w (Ret Kp w r):=by
 unfold Dk at hr
 obtain ⟨_,h,hr⟩:=Ab hr
 have h:=AI h
 obtain rfl:=sj hr
 exact (Lf.Hh (limbs x0) (limbs x1) A1 c1 A2 c2 w hT n1 n2 _ (Lf.wDiv x0 x1 h.2.2 h.1 h.2.1)).mono fun _ _ h=>h
theorem BJ (x0:Nat) (x1:Int) (A1:Option Addr) (c1:Nat) (w:World) (hT:TB w) (n1:RU w A1 c1 x0) (r:Nat) (hr:AJ x0 x1=some r):Calls Tryz.prog 148 #[.slice A1 (sz x0) c1,.int .i64 x1] w (Ret IR w r):=by
 unfold AJ at hr
 obtain ⟨_,h,hr⟩:=Ab hr
 have h:=AI h
 obtain rfl:=sj hr
 exact (Lf.BJ (limbs x0) x1 A1 c1 w hT n1 _ (by obtain ⟨m,rfl⟩:∃m:Nat,x1=m:=⟨x1.toNat,by omega⟩;rw [Lf.rShl (Aw x0) m (Lf.szl h.1 (by decide)) (by omega) (by rw [AA]),AA];rfl)).mono fun _ _ h=>h
theorem DQ (x0:Nat) (x1:Nat) (A1:Option Addr) (c1:Nat) (A2:Option Addr) (c2:Nat) (w:World) (hT:TB w) (n1:RU w A1 c1 x0) (n2:RU w A2 c2 x1) (r:Nat) (hr:Bb x0 x1=some r):Calls Tryz.prog 189 #[.slice A1 (sz x0) c1,.slice A2 (sz x1) c2] w (Ret IR w r):=by
 unfold Bb at hr
 obtain ⟨_,h,hr⟩:=Ab hr
 have h:=AI h
 obtain rfl:=sj hr
 exact (Lf.DQ (limbs x0) (limbs x1) A1 c1 A2 c2 w hT n1 n2 _ (Lf.toR (Lf.rAdd (Aw x0) (Aw x1) (Lf.szl h.1 (by decide)) (Lf.szl h.2 (by decide))) (by rw [AA,AA]))).mono fun _ _ h=>h
theorem CN (x0:Nat) (x1:Nat) (A1:Option Addr) (c1:Nat) (A2:Option Addr) (c2:Nat) (w:World) (hT:TB w) (n1:RU w A1 c1 x0) (n2:RU w A2 c2 x1) (r:Int) (hr:Ba x0 x1=some r):Calls Tryz.prog 198 #[.slice A1 (sz x0) c1,.slice A2 (sz x1) c2] w (Ret Gg w r):=by
 unfold Ba at hr
 obtain ⟨_,h,hr⟩:=Ab hr
 have h:=AI h
 obtain rfl:=sj hr
 exact (Lf.CN (limbs x0) (limbs x1) A1 c1 A2 c2 w hT n1 n2 _ (by rw [Lf.rCmp (Aw x0) (Aw x1) (Lf.szl h.1 (by decide)) (Lf.szl h.2 (by decide)),AA,AA])).mono fun _ _ h=>h
theorem EB (x0:Nat) (x1:Nat) (A1:Option Addr) (c1:Nat) (A2:Option Addr) (c2:Nat) (w:World) (hT:TB w) (n1:RU w A1 c1 x0) (n2:RU w A2 c2 x1) (r:Nat) (hr:Bv x0 x1=some r):Calls Tryz.prog 199 #[.slice A1 (sz x0) c1,.slice A2 (sz x1) c2] w (Ret IR w r):=by
 unfold Bv at hr
 obtain ⟨_,h,hr⟩:=Ab hr
 have h:=AI h
 obtain rfl:=sj hr
 exact (Lf.EB (limbs x0) (limbs x1) A1 c1 A2 c2 w hT n1 n2 _ (Lf.toR (Lf.rSub (Aw x0) (Aw x1) (Lf.szl h.1 (by decide)) (Lf.len_mono h.2.2) (by rw [AA,AA];exact h.2.2)) (by rw [AA,AA]))).mono fun _ _ h=>h
theorem Dm (x0:Nat) (x1:Nat) (A1:Option Addr) (c1:Nat) (A2:Option Addr) (c2:Nat) (w:World) (hT:TB w) (n1:RU w A1 c1 x0) (n2:RU w A2 c2 x1) (r:Cp) (hr:AU x0 x1=some r):Calls Tryz.prog 149 #[.slice A1 (sz x0) c1,.slice A2 (sz x1) c2] w (Ret MV w r):=by
 unfold AU at hr
 obtain ⟨_,h,hr⟩:=Ab hr
 have h:=AI h
 obtain rfl:=sj hr
 exact (Lf.Dm (limbs x0) (limbs x1) A1 c1 A2 c2 w hT n1 n2 _ (Lf.rDiv x0 x1 h.2.2 h.1 h.2.1)).mono fun _ _ h=>h
theorem Fi (x0:Nat) (x1:Nat) (A1:Option Addr) (c1:Nat) (A2:Option Addr) (c2:Nat) (w:World) (hT:TB w) (n1:RU w A1 c1 x0) (n2:RU w A2 c2 x1) (r:Nat) (hr:BH x0 x1=some r):Calls Tryz.prog 200 #[.slice A1 (sz x0) c1,.slice A2 (sz x1) c2] w (Ret IR w r):=by
 unfold BH at hr
 obtain ⟨_,h,hr⟩:=Ab hr
 have h:=AI h
 obtain rfl:=sj hr
 exact (Lf.Fi (limbs x0) (limbs x1) A1 c1 A2 c2 w hT n1 n2 _ (Lf.toR (Lf.rMul (Aw x0) (Aw x1) (by have:=h.1;have:=h.2;unfold sz at *;omega)) (by rw [AA,AA]))).mono fun _ _ h=>h
theorem Ce (x0:Nat) (A1:Option Addr) (c1:Nat) (w:World) (hT:TB w) (n1:RU w A1 c1 x0) (r:Int) (hr:AM x0=some r):Calls Tryz.prog 147 #[.slice A1 (sz x0) c1] w (Ret Gg w r):=by
 unfold AM at hr
 obtain ⟨_,h,hr⟩:=Ab hr
 have h:=AI h
 obtain rfl:=sj hr
 exact (Lf.Ce (limbs x0) A1 c1 w hT n1 _ (Lf.rBits x0 (by omega))).mono fun _ _ h=>h
end Go.Proofs

