import Derived.Test.YtabiobmfelafoaaGreatDoorGenBase
import Derived.Test.YtabiobmfelafoaaGreatDoorLeaf2
import Derived.Test.YtabiobmfelafoaaGreatDoorLeaf3
namespace Go.Proofs
set_option linter.unusedVariables false
set_option linter.unusedSimpArgs false
set_option maxHeartbeats 4000000
open Go.RowKit Go.Sb Go.Proofs.Sbn
namespace Lf
theorem szl {n k m:Nat} (h:sz n<k) (hk:k≤m):(limbs n).length<m:=Nat.lt_of_lt_of_le h hk
theorem toR {p:Option (List Int)} {a b:Nat} (h:p=some (limbs a)) (e:a=b):p=some (limbs b):=by rw [h,e]
theorem len_mono {a b:Nat} (h:a≤b):(limbs a).length≤(limbs b).length:=by
 have h1:=(Cy (n:=b) (k:=(limbs b).length)).1 (Nat.le_refl _)
 exact Cy.2 (Nat.lt_of_le_of_lt h h1)
end Lf
theorem Gq (x0:List Int) (A1:Option Addr) (c1:Nat) (w:World) (hT:TB w) (n1:RLu w A1 c1 x0) (r:Bool) (hr:Bm x0=some r):Calls Tryz.prog 143 #[.slice A1 x0.length c1] w (Ret Ff w r):=(Lf.Gq x0 A1 c1 w hT n1 r hr).mono fun _ _ h=>h
theorem FF (x0:List Int) (x1:Int) (A1:Option Addr) (c1:Nat) (w:World) (hT:TB w) (n1:RLu w A1 c1 x0) (r:Int) (hr:BL x0 x1=some r):Calls Tryz.prog 128 #[.slice A1 x0.length c1,.int .i64 x1] w (Ret KJ w r):=(Lf.FF x0 x1 A1 c1 w hT n1 r hr).mono fun _ _ h=>h
theorem EW (x0:Int)  (w:World) (hT:TB w)  (r:Nat) (hr:Cl x0=some r):Calls Tryz.prog 179 #[.int .u64 x0] w (Ret Iq w r):=by
 unfold Cl at hr
 obtain ⟨_,h,hr⟩:=Ab hr
 have h:=AA h
 obtain rfl:=sj hr
 exact (Lf.EW x0  w hT  _ (by obtain ⟨m,rfl⟩:∃m:Nat,x0=m:=⟨x0.toNat,by omega⟩;rw [Lf.rOf m (by omega)];rfl)).mono fun _ _ h=>h
theorem Ie (x0:List Int) (A1:Option Addr) (c1:Nat) (w:World) (hT:TB w) (n1:RLu w A1 c1 x0) (r:Bool) (hr:FA x0=some r):Calls Tryz.prog 208 #[.slice A1 x0.length c1] w (Ret Ff w r):=(Lf.Ie x0 A1 c1 w hT n1 r hr).mono fun _ _ h=>h
theorem Hk (x0:Nat) (A1:Option Addr) (c1:Nat) (w:World) (hT:TB w) (n1:RU w A1 c1 x0) (r:Int) (hr:CC x0=some r):Calls Tryz.prog 213 #[.slice A1 (sz x0) c1] w (Ret Gc w r):=by
 unfold CC at hr
 obtain ⟨_,h,hr⟩:=Ab hr
 have h:=AA h
 obtain rfl:=sj hr
 exact (Lf.Hk (limbs x0) A1 c1 w hT n1 _ (Lf.wZeros x0 (by omega))).mono fun _ _ h=>h
theorem Fq (x0:Nat) (x1:Int) (A1:Option Addr) (c1:Nat) (w:World) (hT:TB w) (n1:RU w A1 c1 x0) (r:Nat) (hr:Ck x0 x1=some r):Calls Tryz.prog 204 #[.slice A1 (sz x0) c1,.int .i64 x1] w (Ret JB w r):=by
 unfold Ck at hr
 obtain ⟨_,h,hr⟩:=Ab hr
 have h:=AA h
 obtain rfl:=sj hr
 exact (Lf.Fq (limbs x0) x1 A1 c1 w hT n1 _ (by obtain ⟨m,rfl⟩:∃m:Nat,x1=m:=⟨x1.toNat,by omega⟩;rw [Lf.wShr (Aq x0) m (Lf.szl h.1 (by decide)) (by omega),Az];rfl)).mono fun _ _ h=>h
theorem c_slices_Clone_wide_Nat (x0:Nat) (A1:Option Addr) (c1:Nat) (w:World) (hT:TB w) (n1:RU w A1 c1 x0) (r:Nat) (hr:CL x0=some r):Calls Tryz.prog 201 #[.slice A1 (sz x0) c1] w (Ret JB w r):=by
 unfold CL at hr
 obtain ⟨_,h,hr⟩:=Ab hr
 have h:=AA h
 obtain rfl:=sj hr
 refine (Lf.GA (limbs x0) A1 c1 w hT n1 (limbs x0) (by unfold Lf.Dg;rw [Lf.gdB (by unfold sz at h;omega)])).mono fun e w' he=>?_
 obtain ⟨h1,v,h2,A,c,h3,h4⟩:=he
 exact ⟨h1,v,h2,A,c,h3,h4.rl⟩
theorem Gm (x0:Nat) (A1:Option Addr) (c1:Nat) (w:World) (hT:TB w) (n1:RU w A1 c1 x0) (r:Int) (hr:BG x0=some r):Calls Tryz.prog 153 #[.slice A1 (sz x0) c1] w (Ret Gc w r):=by
 unfold BG at hr
 obtain ⟨_,h,hr⟩:=Ab hr
 have h:=AA h
 obtain rfl:=sj hr
 exact (Lf.Gm (limbs x0) A1 c1 w hT n1 _ (Lf.rZeros x0 (by omega))).mono fun _ _ h=>h
theorem FC (x0:Nat) (x1:Int) (A1:Option Addr) (c1:Nat) (w:World) (hT:TB w) (n1:RU w A1 c1 x0) (r:Nat) (hr:BJ x0 x1=some r):Calls Tryz.prog 154 #[.slice A1 (sz x0) c1,.int .i64 x1] w (Ret Iq w r):=by
 unfold BJ at hr
 obtain ⟨_,h,hr⟩:=Ab hr
 have h:=AA h
 obtain rfl:=sj hr
 exact (Lf.FC (limbs x0) x1 A1 c1 w hT n1 _ (by obtain ⟨m,rfl⟩:∃m:Nat,x1=m:=⟨x1.toNat,by omega⟩;rw [Lf.rShr (Aq x0) m (Lf.szl h.1 (by decide)) (by omega),Az];rfl)).mono fun _ _ h=>h
theorem DS (x0:Nat) (A1:Option Addr) (c1:Nat) (w:World) (hT:TB w) (n1:RU w A1 c1 x0) (r:Int) (hr:Bz x0=some r):Calls Tryz.prog 184 #[.slice A1 (sz x0) c1] w (Ret Gc w r):=by
 unfold Bz at hr
 obtain ⟨_,h,hr⟩:=Ab hr
 have h:=AA h
 obtain rfl:=sj hr
 exact (Lf.DS (limbs x0) A1 c1 w hT n1 _ (Lf.wBits x0 (by omega))).mono fun _ _ h=>h
theorem Dr (x0:Nat) (x1:Int) (A1:Option Addr) (c1:Nat) (w:World) (hT:TB w) (n1:RU w A1 c1 x0) (r:Nat) (hr:Bp x0 x1=some r):Calls Tryz.prog 185 #[.slice A1 (sz x0) c1,.int .i64 x1] w (Ret JB w r):=by
 unfold Bp at hr
 obtain ⟨_,h,hr⟩:=Ab hr
 have h:=AA h
 obtain rfl:=sj hr
 exact (Lf.Dr (limbs x0) x1 A1 c1 w hT n1 _ (by obtain ⟨m,rfl⟩:∃m:Nat,x1=m:=⟨x1.toNat,by omega⟩;rw [Lf.wShl (Aq x0) m (Lf.szl h.1 (by decide)) (by omega),Az];rfl)).mono fun _ _ h=>h
theorem Fv (x0:Nat) (x1:Nat) (A1:Option Addr) (c1:Nat) (A2:Option Addr) (c2:Nat) (w:World) (hT:TB w) (n1:RU w A1 c1 x0) (n2:RU w A2 c2 x1) (r:Nat) (hr:Cj x0 x1=some r):Calls Tryz.prog 191 #[.slice A1 (sz x0) c1,.slice A2 (sz x1) c2] w (Ret JB w r):=by
 unfold Cj at hr
 obtain ⟨_,h,hr⟩:=Ab hr
 have h:=AA h
 obtain rfl:=sj hr
 exact (Lf.Fv (limbs x0) (limbs x1) A1 c1 A2 c2 w hT n1 n2 _ (Lf.toR (Lf.wSub (Aq x0) (Aq x1) (Lf.szl h.1 (by decide)) (Lf.len_mono h.2.2) (by rw [Az,Az];exact h.2.2)) (by rw [Az,Az]))).mono fun _ _ h=>h
theorem Fy (x0:Nat) (x1:Nat) (A1:Option Addr) (c1:Nat) (A2:Option Addr) (c2:Nat) (w:World) (hT:TB w) (n1:RU w A1 c1 x0) (n2:RU w A2 c2 x1) (r:Int) (hr:Ci x0 x1=some r):Calls Tryz.prog 205 #[.slice A1 (sz x0) c1,.slice A2 (sz x1) c2] w (Ret Gc w r):=by
 unfold Ci at hr
 obtain ⟨_,h,hr⟩:=Ab hr
 have h:=AA h
 obtain rfl:=sj hr
 exact (Lf.Fy (limbs x0) (limbs x1) A1 c1 A2 c2 w hT n1 n2 _ (Lf.wCmp x0 x1 (by omega) (by omega))).mono fun _ _ h=>h
theorem Gl (x0:Nat) (x1:Nat) (A1:Option Addr) (c1:Nat) (A2:Option Addr) (c2:Nat) (w:World) (hT:TB w) (n1:RU w A1 c1 x0) (n2:RU w A2 c2 x1) (r:Nat) (hr:Cx x0 x1=some r):Calls Tryz.prog 207 #[.slice A1 (sz x0) c1,.slice A2 (sz x1) c2] w (Ret JB w r):=by
 unfold Cx at hr
 obtain ⟨_,h,hr⟩:=Ab hr
 have h:=AA h
 obtain rfl:=sj hr
 exact (Lf.Gl (limbs x0) (limbs x1) A1 c1 A2 c2 w hT n1 n2 _ (Lf.toR (Lf.wAdd (Aq x0) (Aq x1) (Lf.szl h.1 (by decide)) (Lf.szl h.2 (by decide))) (by rw [Az,Az]))).mono fun _ _ h=>h
theorem GW (x0:Nat) (x1:Nat) (A1:Option Addr) (c1:Nat) (A2:Option Addr) (c2:Nat) (w:World) (hT:TB w) (n1:RU w A1 c1 x0) (n2:RU w A2 c2 x1) (r:Nat) (hr:CQ x0 x1=some r):Calls Tryz.prog 241 #[.slice A1 (sz x0) c1,.slice A2 (sz x1) c2] w (Ret JB w r):=by
 unfold CQ at hr
 obtain ⟨_,h,hr⟩:=Ab hr
 have h:=AA h
 obtain rfl:=sj hr
 exact (Lf.GW (limbs x0) (limbs x1) A1 c1 A2 c2 w hT n1 n2 _ (Lf.toR (Lf.wMul (Aq x0) (Aq x1) (by have:=h.1;have:=h.2;unfold sz at *;omega)) (by rw [Az,Az]))).mono fun _ _ h=>h
theorem Ez (x0:List Int) (x1:List Int) (A1:Option Addr) (c1:Nat) (A2:Option Addr) (c2:Nat) (w:World) (hT:TB w) (n1:RLu w A1 c1 x0) (n2:RLu w A2 c2 x1) (r:Bool) (hr:AN x0 x1=some r):Calls Tryz.prog 144 #[.slice A1 x0.length c1,.slice A2 x1.length c2] w (Ret Ff w r):=(Lf.Ez x0 x1 A1 c1 A2 c2 w hT n1 n2 r hr).mono fun _ _ h=>h
theorem Ha (x0:Nat) (x1:Nat) (A1:Option Addr) (c1:Nat) (A2:Option Addr) (c2:Nat) (w:World) (hT:TB w) (n1:RU w A1 c1 x0) (n2:RU w A2 c2 x1) (r:Nat × Nat) (hr:CV x0 x1=some r):Calls Tryz.prog 186 #[.slice A1 (sz x0) c1,.slice A2 (sz x1) c2] w (Ret Ks w r):=by
 unfold CV at hr
 obtain ⟨_,h,hr⟩:=Ab hr
 have h:=AA h
 obtain rfl:=sj hr
 exact (Lf.Ha (limbs x0) (limbs x1) A1 c1 A2 c2 w hT n1 n2 _ (Lf.wDiv x0 x1 h.2.2 h.1 h.2.1)).mono fun _ _ h=>h
theorem EG (x0:Nat) (x1:Int) (A1:Option Addr) (c1:Nat) (w:World) (hT:TB w) (n1:RU w A1 c1 x0) (r:Nat) (hr:Be x0 x1=some r):Calls Tryz.prog 148 #[.slice A1 (sz x0) c1,.int .i64 x1] w (Ret Iq w r):=by
 unfold Be at hr
 obtain ⟨_,h,hr⟩:=Ab hr
 have h:=AA h
 obtain rfl:=sj hr
 exact (Lf.EG (limbs x0) x1 A1 c1 w hT n1 _ (by obtain ⟨m,rfl⟩:∃m:Nat,x1=m:=⟨x1.toNat,by omega⟩;rw [Lf.rShl (Aq x0) m (Lf.szl h.1 (by decide)) (by omega) (by rw [Az]),Az];rfl)).mono fun _ _ h=>h
theorem GJ (x0:Nat) (x1:Nat) (A1:Option Addr) (c1:Nat) (A2:Option Addr) (c2:Nat) (w:World) (hT:TB w) (n1:RU w A1 c1 x0) (n2:RU w A2 c2 x1) (r:Nat) (hr:Bv x0 x1=some r):Calls Tryz.prog 189 #[.slice A1 (sz x0) c1,.slice A2 (sz x1) c2] w (Ret Iq w r):=by
 unfold Bv at hr
 obtain ⟨_,h,hr⟩:=Ab hr
 have h:=AA h
 obtain rfl:=sj hr
 exact (Lf.GJ (limbs x0) (limbs x1) A1 c1 A2 c2 w hT n1 n2 _ (Lf.toR (Lf.rAdd (Aq x0) (Aq x1) (Lf.szl h.1 (by decide)) (Lf.szl h.2 (by decide))) (by rw [Az,Az]))).mono fun _ _ h=>h
theorem FH (x0:Nat) (x1:Nat) (A1:Option Addr) (c1:Nat) (A2:Option Addr) (c2:Nat) (w:World) (hT:TB w) (n1:RU w A1 c1 x0) (n2:RU w A2 c2 x1) (r:Int) (hr:Bu x0 x1=some r):Calls Tryz.prog 198 #[.slice A1 (sz x0) c1,.slice A2 (sz x1) c2] w (Ret Gc w r):=by
 unfold Bu at hr
 obtain ⟨_,h,hr⟩:=Ab hr
 have h:=AA h
 obtain rfl:=sj hr
 exact (Lf.FH (limbs x0) (limbs x1) A1 c1 A2 c2 w hT n1 n2 _ (by rw [Lf.rCmp (Aq x0) (Aq x1) (Lf.szl h.1 (by decide)) (Lf.szl h.2 (by decide)),Az,Az])).mono fun _ _ h=>h
theorem FI (x0:Nat) (x1:Nat) (A1:Option Addr) (c1:Nat) (A2:Option Addr) (c2:Nat) (w:World) (hT:TB w) (n1:RU w A1 c1 x0) (n2:RU w A2 c2 x1) (r:Nat) (hr:BK x0 x1=some r):Calls Tryz.prog 199 #[.slice A1 (sz x0) c1,.slice A2 (sz x1) c2] w (Ret Iq w r):=by
 unfold BK at hr
 obtain ⟨_,h,hr⟩:=Ab hr
 have h:=AA h
 obtain rfl:=sj hr
 exact (Lf.FI (limbs x0) (limbs x1) A1 c1 A2 c2 w hT n1 n2 _ (Lf.toR (Lf.rSub (Aq x0) (Aq x1) (Lf.szl h.1 (by decide)) (Lf.len_mono h.2.2) (by rw [Az,Az];exact h.2.2)) (by rw [Az,Az]))).mono fun _ _ h=>h
theorem EL (x0:Nat) (x1:Nat) (A1:Option Addr) (c1:Nat) (A2:Option Addr) (c2:Nat) (w:World) (hT:TB w) (n1:RU w A1 c1 x0) (n2:RU w A2 c2 x1) (r:FW) (hr:Bd x0 x1=some r):Calls Tryz.prog 149 #[.slice A1 (sz x0) c1,.slice A2 (sz x1) c2] w (Ret rep_171 w r):=by
 unfold Bd at hr
 obtain ⟨_,h,hr⟩:=Ab hr
 have h:=AA h
 obtain rfl:=sj hr
 exact (Lf.EL (limbs x0) (limbs x1) A1 c1 A2 c2 w hT n1 n2 _ (Lf.rDiv x0 x1 h.2.2 h.1 h.2.1)).mono fun _ _ h=>h
theorem GD (x0:Nat) (A1:Option Addr) (c1:Nat) (w:World) (hT:TB w) (n1:RU w A1 c1 x0) (r:Int) (hr:BR x0=some r):Calls Tryz.prog 147 #[.slice A1 (sz x0) c1] w (Ret Gc w r):=by
 unfold BR at hr
 obtain ⟨_,h,hr⟩:=Ab hr
 have h:=AA h
 obtain rfl:=sj hr
 exact (Lf.GD (limbs x0) A1 c1 w hT n1 _ (Lf.rBits x0 (by omega))).mono fun _ _ h=>h
theorem Hz (x0:Nat) (x1:Int) (A1:Option Addr) (c1:Nat) (w:World) (hT:TB w) (n1:RU w A1 c1 x0) (r:Nat) (hr:Ds x0 x1=some r):Calls Tryz.prog 226 #[.slice A1 (sz x0) c1,.int .i64 x1] w (Ret MY w r):=by
 unfold Ds at hr
 obtain ⟨_,h,hr⟩:=Ab hr
 have h:=AA h
 obtain rfl:=sj hr
 exact (Lf.Hz (limbs x0) x1 A1 c1 w hT n1 _ (by obtain ⟨m,rfl⟩:∃m:Nat,x1=m:=⟨x1.toNat,by omega⟩;rw [Lf.nShl (Aq x0) m (Lf.szl h.1 (by decide)) (by omega),Az];rfl)).mono fun _ _ h=>h
theorem c_slices_Clone_nat_limbs (x0:Nat) (A1:Option Addr) (c1:Nat) (w:World) (hT:TB w) (n1:RU w A1 c1 x0) (r:Nat) (hr:Eh x0=some r):Calls Tryz.prog 256 #[.slice A1 (sz x0) c1] w (Ret MY w r):=by
 unfold Eh at hr
 obtain ⟨_,h,hr⟩:=Ab hr
 have h:=AA h
 obtain rfl:=sj hr
 refine (Lf.c_slices_Clone_nat_limbs_o (limbs x0) A1 c1 w hT n1 (limbs x0) (by unfold Lf.EH;rw [Lf.gdB (by unfold sz at h;omega)])).mono fun e w' he=>?_
 obtain ⟨h1,v,h2,A,c,h3,h4⟩:=he
 exact ⟨h1,v,h2,A,c,h3,h4.rl⟩
theorem Lp (x0:Nat) (x1:Int) (A1:Option Addr) (c1:Nat) (w:World) (hT:TB w) (n1:RU w A1 c1 x0) (r:Nat × Int) (hr:JA x0 x1=some r):Calls Tryz.prog 219 #[.slice A1 (sz x0) c1,.int .i64 x1] w (Ret Jy w r):=by
 unfold JA at hr
 obtain ⟨_,h,hr⟩:=Ab hr
 exact (AA h).elim
theorem c_nat_Sub (x0:Nat) (x1:Nat) (A1:Option Addr) (c1:Nat) (A2:Option Addr) (c2:Nat) (w:World) (hT:TB w) (n1:RU w A1 c1 x0) (n2:RU w A2 c2 x1) (r:Nat × Int) (hr:Kp x0 x1=some r):Calls Tryz.prog 220 #[.slice A1 (sz x0) c1,.slice A2 (sz x1) c2] w (Ret Jy w r):=by
 unfold Kp at hr
 obtain ⟨_,h,hr⟩:=Ab hr
 exact (AA h).elim
theorem c_nat_Add (x0:Nat) (x1:Nat) (A1:Option Addr) (c1:Nat) (A2:Option Addr) (c2:Nat) (w:World) (hT:TB w) (n1:RU w A1 c1 x0) (n2:RU w A2 c2 x1) (r:Nat × Int) (hr:Ke x0 x1=some r):Calls Tryz.prog 221 #[.slice A1 (sz x0) c1,.slice A2 (sz x1) c2] w (Ret Jy w r):=by
 unfold Ke at hr
 obtain ⟨_,h,hr⟩:=Ab hr
 exact (AA h).elim
theorem FE (x0:Nat) (A1:Option Addr) (c1:Nat) (w:World) (hT:TB w) (n1:RU w A1 c1 x0) (r:Nat) (hr:BX x0=some r):Calls Tryz.prog 157 #[.slice A1 (sz x0) c1] w (Ret Iq w r):=by
 unfold BX at hr
 obtain ⟨_,h,hr⟩:=Ab hr
 have h:=AA h
 obtain rfl:=sj hr
 refine (Lf.c_slices_Clone_api_Nat_o (limbs x0) A1 c1 w hT n1 (limbs x0) (by unfold Lf.Fc;rw [Lf.gdB (by unfold sz at h;omega)])).mono fun e w' he=>?_
 obtain ⟨h1,v,h2,A,c,h3,h4⟩:=he
 exact ⟨h1,v,h2,A,c,h3,h4.rl⟩
end Go.Proofs

