import Derived.Test.YtabiobmfelafoaaGreatDoorGenBase
import Derived.Test.YtabiobmfelafoaaGreatDoorLeaf2
import Derived.Test.YtabiobmfelafoaaGreatDoorLeaf3
namespace Go.Proofs
set_option linter.unusedVariables false
set_option linter.unusedSimpArgs false
set_option maxHeartbeats 4000000
open Go.RowKit Go.Sb Go.Proofs.Sbn
open Go.Proofs.Tryz
namespace Lf
theorem szl {n k m:Nat} (h:sz n<k) (hk:k≤m):(limbs n).length<m:=Nat.lt_of_lt_of_le h hk
theorem toR {p:Option (List Int)} {a b:Nat} (h:p=some (limbs a)) (e:a=b):p=some (limbs b):=by rw [h,e]
theorem len_mono {a b:Nat} (h:a≤b):(limbs a).length≤(limbs b).length:=by
 have h1:=(BF (n:=b) (k:=(limbs b).length)).1 (Nat.le_refl _)
 exact BF.2 (Nat.lt_of_le_of_lt h h1)
end Lf
theorem HV (x0:List Int) (A1:Option Addr) (c1:Nat) (w:World) (hT:TB w) (n1:RLu w A1 c1 x0) (r:Bool) (hr:Bw x0=some r):Calls prog 143 #[.slice A1 x0.length c1] w (Ret Gi w r):=(Lf.HV x0 A1 c1 w hT n1 r hr).mono fun _ _ h=>h
theorem Hs (x0:List Int) (x1:Int) (A1:Option Addr) (c1:Nat) (w:World) (hT:TB w) (n1:RLu w A1 c1 x0) (r:Int) (hr:BV x0 x1=some r):Calls prog 128 #[.slice A1 x0.length c1,.int .i64 x1] w (Ret MY w r):=(Lf.Hs x0 x1 A1 c1 w hT n1 r hr).mono fun _ _ h=>h
theorem HL (x0:Int)  (w:World) (hT:TB w)  (r:Nat) (hr:CA x0=some r):Calls prog 179 #[.int .u64 x0] w (Ret Nw w r):=by
 unfold CA at hr
 obtain ⟨_,h,hr⟩:=Ad hr
 have h:=AI h
 obtain rfl:=sj hr
 exact (Lf.HL x0  w hT  _ (by obtain ⟨m,rfl⟩:∃m:Nat,x0=m:=⟨x0.toNat,by omega⟩;rw [Lf.rOf m (by omega)];rfl)).mono fun _ _ h=>h
theorem JE (x0:List Int) (A1:Option Addr) (c1:Nat) (w:World) (hT:TB w) (n1:RLu w A1 c1 x0) (r:Bool) (hr:GI x0=some r):Calls prog 208 #[.slice A1 x0.length c1] w (Ret Gi w r):=(Lf.JE x0 A1 c1 w hT n1 r hr).mono fun _ _ h=>h
theorem Jt (x0:Nat) (A1:Option Addr) (c1:Nat) (w:World) (hT:TB w) (n1:RU w A1 c1 x0) (r:Int) (hr:CS x0=some r):Calls prog 213 #[.slice A1 (sz x0) c1] w (Ret HY w r):=by
 unfold CS at hr
 obtain ⟨_,h,hr⟩:=Ad hr
 have h:=AI h
 obtain rfl:=sj hr
 exact (Lf.Jt (limbs x0) A1 c1 w hT n1 _ (Lf.wZeros x0 (by omega))).mono fun _ _ h=>h
theorem Hc (x0:Nat) (x1:Int) (A1:Option Addr) (c1:Nat) (w:World) (hT:TB w) (n1:RU w A1 c1 x0) (r:Nat) (hr:Ct x0 x1=some r):Calls prog 204 #[.slice A1 (sz x0) c1,.int .i64 x1] w (Ret Mr w r):=by
 unfold Ct at hr
 obtain ⟨_,h,hr⟩:=Ad hr
 have h:=AI h
 obtain rfl:=sj hr
 exact (Lf.Hc (limbs x0) x1 A1 c1 w hT n1 _ (by obtain ⟨m,rfl⟩:∃m:Nat,x1=m:=⟨x1.toNat,by omega⟩;rw [Lf.wShr (As x0) m (Lf.szl h.1 (by decide)) (by omega),Ax];rfl)).mono fun _ _ h=>h
theorem c_slices_Clone_wide_Nat (x0:Nat) (A1:Option Addr) (c1:Nat) (w:World) (hT:TB w) (n1:RU w A1 c1 x0) (r:Nat) (hr:Dh x0=some r):Calls prog 201 #[.slice A1 (sz x0) c1] w (Ret Mr w r):=by
 unfold Dh at hr
 obtain ⟨_,h,hr⟩:=Ad hr
 have h:=AI h
 obtain rfl:=sj hr
 refine (Lf.Ip (limbs x0) A1 c1 w hT n1 (limbs x0) (by unfold Lf.DF;rw [Lf.gdB (by unfold sz at h;omega)])).mono fun e w' he=>?_
 obtain ⟨h1,v,h2,A,c,h3,h4⟩:=he
 exact ⟨h1,v,h2,A,c,h3,h4.rl⟩
theorem HO (x0:Nat) (A1:Option Addr) (c1:Nat) (w:World) (hT:TB w) (n1:RU w A1 c1 x0) (r:Int) (hr:BO x0=some r):Calls prog 153 #[.slice A1 (sz x0) c1] w (Ret HY w r):=by
 unfold BO at hr
 obtain ⟨_,h,hr⟩:=Ad hr
 have h:=AI h
 obtain rfl:=sj hr
 exact (Lf.HO (limbs x0) A1 c1 w hT n1 _ (Lf.rZeros x0 (by omega))).mono fun _ _ h=>h
theorem IC (x0:Nat) (x1:Int) (A1:Option Addr) (c1:Nat) (w:World) (hT:TB w) (n1:RU w A1 c1 x0) (r:Nat) (hr:BW x0 x1=some r):Calls prog 154 #[.slice A1 (sz x0) c1,.int .i64 x1] w (Ret Nw w r):=by
 unfold BW at hr
 obtain ⟨_,h,hr⟩:=Ad hr
 have h:=AI h
 obtain rfl:=sj hr
 exact (Lf.IC (limbs x0) x1 A1 c1 w hT n1 _ (by obtain ⟨m,rfl⟩:∃m:Nat,x1=m:=⟨x1.toNat,by omega⟩;rw [Lf.rShr (As x0) m (Lf.szl h.1 (by decide)) (by omega),Ax];rfl)).mono fun _ _ h=>h
theorem DY (x0:Nat) (A1:Option Addr) (c1:Nat) (w:World) (hT:TB w) (n1:RU w A1 c1 x0) (r:Int) (hr:Bu x0=some r):Calls prog 184 #[.slice A1 (sz x0) c1] w (Ret HY w r):=by
 unfold Bu at hr
 obtain ⟨_,h,hr⟩:=Ad hr
 have h:=AI h
 obtain rfl:=sj hr
 exact (Lf.DY (limbs x0) A1 c1 w hT n1 _ (Lf.wBits x0 (by omega))).mono fun _ _ h=>h
theorem CL (x0:Nat) (x1:Int) (A1:Option Addr) (c1:Nat) (w:World) (hT:TB w) (n1:RU w A1 c1 x0) (r:Nat) (hr:Bq x0 x1=some r):Calls prog 185 #[.slice A1 (sz x0) c1,.int .i64 x1] w (Ret Mr w r):=by
 unfold Bq at hr
 obtain ⟨_,h,hr⟩:=Ad hr
 have h:=AI h
 obtain rfl:=sj hr
 exact (Lf.CL (limbs x0) x1 A1 c1 w hT n1 _ (by obtain ⟨m,rfl⟩:∃m:Nat,x1=m:=⟨x1.toNat,by omega⟩;rw [Lf.wShl (As x0) m (Lf.szl h.1 (by decide)) (by omega),Ax];rfl)).mono fun _ _ h=>h
theorem Gq (x0:Nat) (x1:Nat) (A1:Option Addr) (c1:Nat) (A2:Option Addr) (c2:Nat) (w:World) (hT:TB w) (n1:RU w A1 c1 x0) (n2:RU w A2 c2 x1) (r:Nat) (hr:Ch x0 x1=some r):Calls prog 191 #[.slice A1 (sz x0) c1,.slice A2 (sz x1) c2] w (Ret Mr w r):=by
 unfold Ch at hr
 obtain ⟨_,h,hr⟩:=Ad hr
 have h:=AI h
 obtain rfl:=sj hr
 exact (Lf.Gq (limbs x0) (limbs x1) A1 c1 A2 c2 w hT n1 n2 _ (Lf.toR (Lf.wSub (As x0) (As x1) (Lf.szl h.1 (by decide)) (Lf.len_mono h.2.2) (by rw [Ax,Ax];exact h.2.2)) (by rw [Ax,Ax]))).mono fun _ _ h=>h
theorem GZ (x0:Nat) (x1:Nat) (A1:Option Addr) (c1:Nat) (A2:Option Addr) (c2:Nat) (w:World) (hT:TB w) (n1:RU w A1 c1 x0) (n2:RU w A2 c2 x1) (r:Int) (hr:Cv x0 x1=some r):Calls prog 205 #[.slice A1 (sz x0) c1,.slice A2 (sz x1) c2] w (Ret HY w r):=by
 unfold Cv at hr
 obtain ⟨_,h,hr⟩:=Ad hr
 have h:=AI h
 obtain rfl:=sj hr
 exact (Lf.GZ (limbs x0) (limbs x1) A1 c1 A2 c2 w hT n1 n2 _ (Lf.wCmp x0 x1 (by omega) (by omega))).mono fun _ _ h=>h
theorem HN (x0:Nat) (x1:Nat) (A1:Option Addr) (c1:Nat) (A2:Option Addr) (c2:Nat) (w:World) (hT:TB w) (n1:RU w A1 c1 x0) (n2:RU w A2 c2 x1) (r:Nat) (hr:CJ x0 x1=some r):Calls prog 207 #[.slice A1 (sz x0) c1,.slice A2 (sz x1) c2] w (Ret Mr w r):=by
 unfold CJ at hr
 obtain ⟨_,h,hr⟩:=Ad hr
 have h:=AI h
 obtain rfl:=sj hr
 exact (Lf.HN (limbs x0) (limbs x1) A1 c1 A2 c2 w hT n1 n2 _ (Lf.toR (Lf.wAdd (As x0) (As x1) (Lf.szl h.1 (by decide)) (Lf.szl h.2 (by decide))) (by rw [Ax,Ax]))).mono fun _ _ h=>h
theorem IR (x0:Nat) (x1:Nat) (A1:Option Addr) (c1:Nat) (A2:Option Addr) (c2:Nat) (w:World) (hT:TB w) (n1:RU w A1 c1 x0) (n2:RU w A2 c2 x1) (r:Nat) (hr:Ds x0 x1=some r):Calls prog 241 #[.slice A1 (sz x0) c1,.slice A2 (sz x1) c2] w (Ret Mr w r):=by
 unfold Ds at hr
 obtain ⟨_,h,hr⟩:=Ad hr
 have h:=AI h
 obtain rfl:=sj hr
 exact (Lf.IR (limbs x0) (limbs x1) A1 c1 A2 c2 w hT n1 n2 _ (Lf.toR (Lf.wMul (As x0) (As x1) (by have:=h.1;have:=h.2;unfold sz at *;omega)) (by rw [Ax,Ax]))).mono fun _ _ h=>h
theorem Iq (x0:List Int) (x1:List Int) (A1:Option Addr) (c1:Nat) (A2:Option Addr) (c2:Nat) (w:World) (hT:TB w) (n1:RLu w A1 c1 x0) (n2:RLu w A2 c2 x1) (r:Bool) (hr:Ca x0 x1=some r):Calls prog 144 #[.slice A1 x0.length c1,.slice A2 x1.length c2] w (Ret Gi w r):=(Lf.Iq x0 x1 A1 c1 A2 c2 w hT n1 n2 r hr).mono fun _ _ h=>h
theorem Jb (x0:Nat) (x1:Nat) (A1:Option Addr) (c1:Nat) (A2:Option Addr) (c2:Nat) (w:World) (hT:TB w) (n1:RU w A1 c1 x0) (n2:RU w A2 c2 x1) (r:Nat × Nat) (hr:Dp x0 x1=some r):Calls prog 186 #[.slice A1 (sz x0) c1,.slice A2 (sz x1) c2] w (Ret NG w r):=by
 unfold Dp at hr
 obtain ⟨_,h,hr⟩:=Ad hr
 have h:=AI h
 obtain rfl:=sj hr
 exact (Lf.Jb (limbs x0) (limbs x1) A1 c1 A2 c2 w hT n1 n2 _ (Lf.wDiv x0 x1 h.2.2 h.1 h.2.1)).mono fun _ _ h=>h
theorem IA (x0:Nat) (x1:Int) (A1:Option Addr) (c1:Nat) (w:World) (hT:TB w) (n1:RU w A1 c1 x0) (r:Nat) (hr:DZ x0 x1=some r):Calls prog 226 #[.slice A1 (sz x0) c1,.int .i64 x1] w (Ret JB w r):=by
 unfold DZ at hr
 obtain ⟨_,h,hr⟩:=Ad hr
 have h:=AI h
 obtain rfl:=sj hr
 exact (Lf.IA (limbs x0) x1 A1 c1 w hT n1 _ (by obtain ⟨m,rfl⟩:∃m:Nat,x1=m:=⟨x1.toNat,by omega⟩;rw [Lf.nShl (As x0) m (Lf.szl h.1 (by decide)) (by omega),Ax];rfl)).mono fun _ _ h=>h
theorem c_slices_Clone_nat_limbs (x0:Nat) (A1:Option Addr) (c1:Nat) (w:World) (hT:TB w) (n1:RU w A1 c1 x0) (r:Nat) (hr:Fk x0=some r):Calls prog 256 #[.slice A1 (sz x0) c1] w (Ret JB w r):=by
 unfold Fk at hr
 obtain ⟨_,h,hr⟩:=Ad hr
 have h:=AI h
 obtain rfl:=sj hr
 refine (Lf.c_slices_Clone_nat_limbs_o (limbs x0) A1 c1 w hT n1 (limbs x0) (by unfold Lf.Gk;rw [Lf.gdB (by unfold sz at h;omega)])).mono fun e w' he=>?_
 obtain ⟨h1,v,h2,A,c,h3,h4⟩:=he
 exact ⟨h1,v,h2,A,c,h3,h4.rl⟩
theorem JR (x0:Nat) (x1:Int) (A1:Option Addr) (c1:Nat) (w:World) (hT:TB w) (n1:RU w A1 c1 x0) (r:Nat) (hr:EL x0 x1=some r):Calls prog 249 #[.slice A1 (sz x0) c1,.int .i64 x1] w (Ret JB w r):=by
 unfold EL at hr
 obtain ⟨_,h,hr⟩:=Ad hr
 have h:=AI h
 obtain rfl:=sj hr
 exact (Lf.JR (limbs x0) x1 A1 c1 w hT n1 _ (by obtain ⟨m,rfl⟩:∃m:Nat,x1=m:=⟨x1.toNat,by omega⟩;rw [Lf.nShr x0 m h.1 (by omega)];rfl)).mono fun _ _ h=>h
theorem Hz (x0:Nat) (x1:Nat) (A1:Option Addr) (c1:Nat) (A2:Option Addr) (c2:Nat) (w:World) (hT:TB w) (n1:RU w A1 c1 x0) (n2:RU w A2 c2 x1) (r:Int) (hr:CQ x0 x1=some r):Calls prog 251 #[.slice A1 (sz x0) c1,.slice A2 (sz x1) c2] w (Ret HY w r):=by
 unfold CQ at hr
 obtain ⟨_,h,hr⟩:=Ad hr
 have h:=AI h
 obtain rfl:=sj hr
 exact (Lf.Hz (limbs x0) (limbs x1) A1 c1 A2 c2 w hT n1 n2 _ (Lf.nCmp x0 x1)).mono fun _ _ h=>h
theorem Kb (x0:Nat) (x1:Nat) (A1:Option Addr) (c1:Nat) (A2:Option Addr) (c2:Nat) (w:World) (hT:TB w) (n1:RU w A1 c1 x0) (n2:RU w A2 c2 x1) (r:Nat) (hr:DV x0 x1=some r):Calls prog 252 #[.slice A1 (sz x0) c1,.slice A2 (sz x1) c2] w (Ret JB w r):=by
 unfold DV at hr
 obtain ⟨_,h,hr⟩:=Ad hr
 have h:=AI h
 obtain rfl:=sj hr
 exact (Lf.Kb (limbs x0) (limbs x1) A1 c1 A2 c2 w hT n1 n2 _ (Lf.nSub x0 x1 h.1 h.2.2)).mono fun _ _ h=>h
theorem Ka (x0:Nat) (x1:Nat) (A1:Option Addr) (c1:Nat) (A2:Option Addr) (c2:Nat) (w:World) (hT:TB w) (n1:RU w A1 c1 x0) (n2:RU w A2 c2 x1) (r:Nat) (hr:DW x0 x1=some r):Calls prog 253 #[.slice A1 (sz x0) c1,.slice A2 (sz x1) c2] w (Ret JB w r):=by
 unfold DW at hr
 obtain ⟨_,h,hr⟩:=Ad hr
 have h:=AI h
 obtain rfl:=sj hr
 exact (Lf.Ka (limbs x0) (limbs x1) A1 c1 A2 c2 w hT n1 n2 _ (Lf.nAdd x0 x1 h.1 h.2)).mono fun _ _ h=>h
theorem c_slices_Clone_api_Nat (x0:Nat) (A1:Option Addr) (c1:Nat) (w:World) (hT:TB w) (n1:RU w A1 c1 x0) (r:Nat) (hr:FU x0=some r):Calls prog 157 #[.slice A1 (sz x0) c1] w (Ret Nw w r):=by
 unfold FU at hr
 obtain ⟨_,h,hr⟩:=Ad hr
 have h:=AI h
 obtain rfl:=sj hr
 refine (Lf.c_slices_Clone_api_Nat_o (limbs x0) A1 c1 w hT n1 (limbs x0) (by unfold Lf.GQ;rw [Lf.gdB (by unfold sz at h;omega)])).mono fun e w' he=>?_
 obtain ⟨h1,v,h2,A,c,h3,h4⟩:=he
 exact ⟨h1,v,h2,A,c,h3,h4.rl⟩
theorem Ie (x0:Nat) (x1:Nat) (A1:Option Addr) (c1:Nat) (A2:Option Addr) (c2:Nat) (w:World) (hT:TB w) (n1:RU w A1 c1 x0) (n2:RU w A2 c2 x1) (r:Nat × Nat) (hr:BP x0 x1=some r):Calls prog 244 #[.slice A1 (sz x0) c1,.slice A2 (sz x1) c2] w (Ret Mh w r):=by
 unfold BP at hr
 obtain ⟨_,h,hr⟩:=Ad hr
 have h:=AI h
 obtain rfl:=sj hr
 exact (Lf.Ie (limbs x0) (limbs x1) A1 c1 A2 c2 w hT n1 n2 _ (Lf.nLong x0 x1 h.2.2 h.1 h.2.1)).mono fun _ _ h=>h
theorem ID (x0:Nat) (x1:Nat) (A1:Option Addr) (c1:Nat) (A2:Option Addr) (c2:Nat) (w:World) (hT:TB w) (n1:RU w A1 c1 x0) (n2:RU w A2 c2 x1) (r:Nat) (hr:CD x0 x1=some r):Calls prog 294 #[.slice A1 (sz x0) c1,.slice A2 (sz x1) c2] w (Ret JB w r):=by
 unfold CD at hr
 obtain ⟨_,h,hr⟩:=Ad hr
 have h:=AI h
 obtain rfl:=sj hr
 exact (Lf.ID (limbs x0) (limbs x1) A1 c1 A2 c2 w hT n1 n2 _ (Lf.nSchool x0 x1 h.1 h.2)).mono fun _ _ h=>h
end Go.Proofs

