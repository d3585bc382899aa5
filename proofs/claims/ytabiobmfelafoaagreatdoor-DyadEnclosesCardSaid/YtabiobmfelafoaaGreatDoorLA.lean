import Derived.Test.YtabiobmfelafoaaGreatDoorLeafDefs
import Derived.Test.YtabiobmfelafoaaGreatDoorLeafM
namespace Go.Proofs.Lf
set_option linter.unusedVariables false
set_option linter.unusedSimpArgs false
open Go.RowKit Go.Sb Go.Proofs Go.Proofs.Sbn
def B:Nat:=4294967296
theorem B32:B=2^32:=by unfold B;decide
def el (xs:List Int) (k:Nat):Nat:=(xs.getD k 0).toNat
theorem Br {xs:List Int} (h:Dig xs) (k:Nat):el xs k<B:=by
 unfold el
 rcases Nat.lt_or_ge k xs.length with hk | hk
 ·have:=h (xs.getD k 0) (by simp [hk])
  unfold B;omega
 ·simp [B,List.getD,hk]
theorem Nz {xs:List Int} {k:Nat} (h:xs.length≤k):el xs k=0:=by simp [el,List.getD,h]
theorem Pf {xs:List Int} (h:Dig xs) (k:Nat):((el xs k:Nat):Int)=xs.getD k 0:=by
 unfold el
 rcases Nat.lt_or_ge k xs.length with hk | hk
 ·have:=h (xs.getD k 0) (by simp [hk])
  omega
 ·simp [List.getD,hk]
theorem Bd {xs:List Int} (h:Dig xs) {k:Nat} (hk:k<xs.length):nth xs (k:Int)=some ((el xs k:Nat):Int):=by
 unfold nth
 rw [if_pos (by omega),Pf h]
 simp
theorem AK (xs:List Int) (k:Nat):val (xs.drop k)=el xs k+B*val (xs.drop (k+1)):=by
 rcases Nat.lt_or_ge k xs.length with hk | hk
 ·rw [List.drop_eq_getElem_cons hk]
  simp [val,el,hk,B]
 ·rw [List.drop_eq_nil_of_le hk,List.drop_eq_nil_of_le (by omega),Nz hk]
  simp [val]
theorem AB {xs:List Int} {k:Nat} (h:xs.length≤k):val (xs.drop k)=0:=by rw [List.drop_eq_nil_of_le h];rfl
theorem val_take_succ (xs:List Int) (k:Nat) (h:k<xs.length):val (xs.take (k+1))=val (xs.take k)+B^k*el xs k:=by
 rw [List.take_succ_eq_append_getElem h,HR]
 simp [val,el,h,B,Nat.min_eq_left (Nat.le_of_lt h)]
theorem Ir (xs:List Int) (x:Nat):val (xs++[(x:Int)])=val xs+B^xs.length*x:=by rw [HR];simp [val,B]
theorem Iw {xs:List Int} {x:Nat} (h:Dig xs) (hx:x<B):Dig (xs++[(x:Int)]):=by
 rw [Hp]
 exact ⟨h,by intro y hy;simp at hy;subst hy;unfold B at hx;omega⟩
theorem GH (n:Nat):Dig (List.replicate n (0:Int)):=by
 intro x hx;rw [List.mem_replicate] at hx;omega
theorem Mk (n:Nat):val (List.replicate n (0:Int))=0:=by
 induction n with
 | zero=>rfl
 | succ n ih=>rw [List.replicate_succ,val,ih];rfl
theorem Fm {xs:List Int} {x:Nat} (h:Dig xs) (hx:x<B) (k:Nat):Dig (xs.set k (x:Int)):=by
 intro y hy
 rcases List.mem_or_eq_of_mem_set hy with h1 | rfl
 ·exact h y h1
 ·unfold B at hx;omega
theorem It {xs:List Int} (h:Dig xs) (k:Nat):Dig (xs.take k):=fun y hy=>h y (List.mem_of_mem_take hy)
theorem HB {xs:List Int} (h:Dig xs) (k:Nat):Dig (xs.drop k):=fun y hy=>h y (List.mem_of_mem_drop hy)
theorem IE {xs:List Int} (k j x:Nat) (hk:k<xs.length):el (xs.set k (x:Int)) j=if j=k then x else el xs j:=by
 unfold el
 by_cases h:j=k
 ·subst h;rw [if_pos rfl];simp [hk]
 ·rw [if_neg h]
  simp [List.getD,List.getElem?_set,Ne.symm h]
theorem Gc (xs:List Int) (k:Nat) (h:k<xs.length):val xs=val (xs.take k)+B^k*(el xs k+B*val (xs.drop (k+1))):=by
 rw [←AK]
 conv=>lhs;rw [←List.take_append_drop k xs]
 rw [HR]
 simp [Nat.min_eq_left (Nat.le_of_lt h),B]
theorem Hy (xs:List Int) (k:Nat) (h:k≤xs.length):val xs=val (xs.take k)+B^k*val (xs.drop k):=by
 conv=>lhs;rw [←List.take_append_drop k xs]
 rw [HR]
 simp [Nat.min_eq_left h,B]
theorem w64 {x:Int} (h0 : -9223372036854775808≤x) (h1:x<9223372036854775808):wi64 x=x:=by show IntKind.i64.wrap x=x;rw [IntKind.wrap_i64];omega
theorem w64n {x:Int} {n:Nat} (h:x=n) (h1:n<9223372036854775808):wi64 x=(n:Int):=by rw [h,w64 (by omega) (by omega)]
theorem u64 {x:Int} {n:Nat} (h:x=n) (h1:n<18446744073709551616):wu64 x=(n:Int):=by show IntKind.u64.wrap x=_;rw [h,IntKind.wrap_u64];omega
theorem u64add (a b:Nat) (h:a+b<18446744073709551616):wu64 ((a:Int)+(b:Int))=((a+b:Nat):Int):=u64 (by omega) h
theorem u64c (a:Nat) (h:a<18446744073709551616):wu64 (a:Int)=(a:Int):=u64 rfl h
theorem u64mul (a b:Nat) (h:a*b<18446744073709551616):wu64 ((a:Int)*(b:Int))=((a*b:Nat):Int):=u64 (by rw [Int.natCast_mul]) h
theorem u32 (n:Nat):wu32 (n:Int)=((n%B:Nat):Int):=by show IntKind.u32.wrap _=_;rw [IntKind.wrap_u32];simp [B]
theorem u32' {x:Int} {n:Nat} (h:x=n):wu32 x=((n%B:Nat):Int):=by rw [h,u32]
theorem sh32 (n:Nat):(n:Int).fdiv (2^min (32:Int).toNat IntKind.u64.bits)=((n/B:Nat):Int):=by
 rw [show (2:Int)^min (32:Int).toNat IntKind.u64.bits=4294967296 by decide,Int.fdiv_eq_ediv_of_nonneg _ (by decide)]
 simp [B]
theorem ml32 (x:Int):x*2^min (32:Int).toNat IntKind.u64.bits=x*4294967296:=by
 rw [show (2:Int)^min (32:Int).toNat IntKind.u64.bits=4294967296 by decide]
theorem ml32n (x:Nat):(x:Int)*2^min (32:Int).toNat IntKind.u64.bits=((x*B:Nat):Int):=by
 rw [ml32]
 unfold B
 omega
theorem gdT {p:Prop} [Decidable p] (h:p):gd p=some ():=by unfold gd;rw [if_pos h]
theorem gdB {α:Type} {p:Prop} [Decidable p] (h:p) (f:Unit→Option α):(gd p).bind f=f ():=by rw [gdT h];rfl
theorem sB {α β:Type} (a:α) (f:α→Option β):(some a).bind f=f a:=rfl
theorem Oi {xs:List Int} {m:Nat} (hd:Dig xs) (hm:xs.length=m+1) (h0:el xs m≠0):Sx xs:=by
 refine ⟨hd,fun y hy=>?_⟩
 rintro rfl
 apply h0
 rw [List.getLast?_eq_getElem?,hm,Nat.add_sub_cancel] at hy
 simp [el,List.getD,hy]
theorem Pc {xs:List Int} {k j:Nat} (h:j<k):el (xs.take k) j=el xs j:=by
 unfold el
 simp [List.getD,List.getElem?_take_of_lt h]
theorem wTrim_l (x0:List Int):∀(m n:Nat) (xs:List Int),xs.length=m→m<n→m≤4294967296→Dig xs→Db x0 n xs=some (limbs (val xs)):=by
 intro m
 induction m with
 | zero=>
  intro n xs hm hn _ hd
  obtain ⟨n,rfl⟩:∃j,n=j+1:=⟨n - 1,by omega⟩
  obtain rfl:=List.eq_nil_of_length_eq_zero hm
  unfold Db
  rw [if_neg (by simp),sB,if_neg (by simp),show val []=0 from rfl,BE]
 | succ m ih=>
  intro n xs hm hn hle hd
  obtain ⟨n,rfl⟩:∃j,n=j+1:=⟨n - 1,by omega⟩
  have e1:wi64 ((List.length xs:Int) - 1)=(m:Int):=w64n (by omega) (by omega)
  unfold Db
  rw [if_pos (by omega),e1,Bd hd (by omega),sB,sB]
  by_cases hz:el xs m=0
  ·rw [if_pos (by simp [hz]),gdB (by omega)]
   simp only [List.drop_zero,Int.toNat_natCast,Nat.sub_zero]
   rw [ih n _ (by simp;omega) (by omega) (by omega) (It hd m)]
   have:val xs=val (xs.take m):=by
    rw [Gc xs m (by omega),hz,AB (by omega)];simp
   rw [this]
  ·rw [if_neg (by simp;omega)]
   congr 1
   exact (Nk (Oi hd hm hz)).symm
theorem wTrim {xs:List Int} (hd:Dig xs) (hl:xs.length≤4294967296):BG xs=some (limbs (val xs)):=by
 unfold BG
 rw [wTrim_l xs _ _ xs rfl (by omega) hl hd]
 rfl
theorem rTrim_l (x0:List Int) (hd:Dig x0) (hl:x0.length≤4294967296):∀(m n:Nat),m<n→m≤x0.length→val (x0.drop m)=0→∃j:Nat,BX x0 n (m:Int)=some (j:Int)∧j≤x0.length∧x0.take j=limbs (val x0):=by
 intro m
 induction m with
 | zero=>
  intro n hn hm hz
  obtain ⟨n,rfl⟩:∃j,n=j+1:=⟨n - 1,by omega⟩
  refine ⟨0,?_,by omega,?_⟩
  ·unfold BX
   rw [if_neg (by simp),sB,if_neg (by simp)]
  rw [List.drop_zero] at hz
  rw [hz,BE];rfl
 | succ m ih=>
  intro n hn hm hz
  obtain ⟨n,rfl⟩:∃j,n=j+1:=⟨n - 1,by omega⟩
  have e1:wi64 (((m+1:Nat):Int) - 1)=(m:Int):=w64n (by omega) (by omega)
  unfold BX
  rw [if_pos (by omega),e1,Bd hd (by omega),sB,sB]
  by_cases h0:el x0 m=0
  ·rw [if_pos (by simp [h0])]
   exact ih n (by omega) (by omega) (by rw [AK,h0,hz];rfl)
  ·rw [if_neg (by simp;omega)]
   refine ⟨m+1,rfl,hm,?_⟩
   have e2:val x0=val (x0.take (m+1)):=by rw [Hy x0 (m+1) hm,hz,Nat.mul_zero,Nat.add_zero]
   rw [e2]
   refine (Nk (Oi (m:=m) (It hd _) (by simp;omega) ?_)).symm
   rw [Pc (by omega)]
   exact h0
theorem rTrim {xs:List Int} (hd:Dig xs) (hl:xs.length≤4294967296):Bk xs=some (limbs (val xs)):=by
 obtain ⟨j,h1,h2,h3⟩:=rTrim_l xs hd hl xs.length 18446744073709551616 (by omega) (Nat.le_refl _) (AB (Nat.le_refl _))
 unfold Bk
 rw [h1,sB,gdB (by omega)]
 simp only [List.drop_zero,Int.toNat_natCast,Nat.sub_zero,List.nil_append,List.length_nil,Nat.zero_add,h3]
 rw [gdB]
 rw [←h3];simp;omega
theorem pl1T (x0:List Int):∀n v,FH x0 n v=BX x0 n v:=by
 intro n
 induction n with
 | zero=>intro v;rfl
 | succ n ih=>intro v;unfold FH BX;simp only [ih]
theorem rTrim_o {xs:List Int} (hd:Dig xs) (hl:xs.length≤4294967296):HE xs=some (limbs (val xs)):=by
 rw [←rTrim hd hl]
 unfold HE Bk
 rw [pl1T]
theorem Mo (n:Nat) (h:n<18446744073709551616):Dig [wu32 (n:Int),wu32 ((n:Int).fdiv (2^min (32:Int).toNat IntKind.u64.bits))]∧val [wu32 (n:Int),wu32 ((n:Int).fdiv (2^min (32:Int).toNat IntKind.u64.bits))]=n:=by
 rw [sh32,u32,u32]
 constructor
 ·intro y hy;simp [B] at hy;omega
 ·simp [val,B];omega
theorem wOf (n:Nat) (h:n<18446744073709551616):La (n:Int)=some (limbs n):=by
 unfold La
 rw [wTrim (Mo n h).1 (by simp),(Mo n h).2];rfl
theorem rOf (n:Nat) (h:n<18446744073709551616):CA (n:Int)=some (limbs n):=by
 unfold CA
 rw [rTrim (Mo n h).1 (by simp),(Mo n h).2];rfl
theorem rat {xs:List Int} (hd:Dig xs) (k:Nat):Bi xs (k:Int)=some ((el xs k:Nat):Int):=by
 have hlt:=Br hd k
 unfold Bi
 by_cases h:xs.length≤k
 ·rw [if_pos (by omega),Nz h];rfl
 ·rw [if_neg (by omega),Bd hd (by omega),sB,u64 rfl (by unfold B at hlt;omega)]
theorem wAdd_l (x0 x1 a b:List Int) (ha:Dig a) (hb:Dig b) (hl:b.length≤a.length) (hs:a.length≤4294967296):∀(d k n c:Nat) (out:List Int),a.length=k+d→d<n→c≤1→out.length=k→Dig out→
  ∃(c':Nat) (out':List Int),DB x0 x1 (a,b) n (c:Int) (k:Int) out=some ((c':Int),out')∧c'≤1∧out'.length=a.length∧Dig out'∧val out' + B^a.length*c'=val out+B^k*(c+val (a.drop k)+val (b.drop k)):=by
 intro d
 induction d with
 | zero=>
  intro k n c out hk hn hc ho hd
  obtain ⟨n,rfl⟩:∃j,n=j+1:=⟨n - 1,by omega⟩
  unfold DB
  rw [if_neg (by simp;omega)]
  exact ⟨c,out,rfl,hc,by omega,hd,by rw [AB (by omega),AB (by omega),show a.length=k by omega];simp⟩
 | succ d ih=>
  intro k n c out hk hn hc ho hd
  obtain ⟨n,rfl⟩:∃j,n=j+1:=⟨n - 1,by omega⟩
  have h1:=Br ha k
  have h2:=Br hb k
  unfold B at h1 h2
  have hm:∀f:Int→Option (Int × List Int),(if (k:Int)<((List.length b:Int)) then (nth b (k:Int)).bind fun u712=>some ((wu64 (((wu64 ((c:Int)+((wu64 ((el a k:Nat):Int))))))+((wu64 u712))))) else some ((wu64 ((c:Int)+((wu64 ((el a k:Nat):Int))))))).bind f=f ((c+el a k+el b k:Nat):Int):=by
   intro f
   rw [u64 (n:=el a k) rfl (by omega),u64 (n:=c+el a k) (by omega) (by omega)]
   by_cases hk2:k<b.length
   ·rw [if_pos (by omega),Bd hb hk2,sB,sB,u64 (n:=el b k) rfl (by omega),u64 (n:=c+el a k+el b k) (by omega) (by omega)]
   ·have h3:=Nz (xs:=b) (k:=k) (by omega)
    rw [if_neg (by omega),sB,h3,Nat.add_zero]
  unfold DB
  rw [if_pos (by simp;omega)]
  simp only
  rw [Bd ha (by omega),sB,hm,gdB (by simp;omega),u32,sh32,w64n (n:=k+1) (by omega) (by omega)]
  obtain ⟨c',out',h3,h4,h5,h6,h7⟩:=ih (k+1) n ((c+el a k+el b k)/B) (out++[((((c+el a k+el b k)%B:Nat)):Int)]) (by omega) (by omega) (by unfold B;omega) (by simp;omega) (Iw hd (Nat.mod_lt _ (by decide)))
  refine ⟨c',out',h3,h4,h5,h6,?_⟩
  rw [h7,Ir,AK a k,AK b k,ho]
  have h8:=Nat.div_add_mod (c+el a k+el b k) B
  generalize (c+el a k+el b k)/B=q at h8 ⊢
  generalize (c+el a k+el b k)%B=r at h8 ⊢
  grind
theorem wAdd {a b:List Int} (ha:Dig a) (hb:Dig b) (hla:a.length<4294967296) (hlb:b.length<4294967296):CJ a b=some (limbs (val a+val b)):=by
 have key:∀x y:List Int,Dig x→Dig y→y.length≤x.length→x.length<4294967296→(gd (0≤(0:Int)∧(0:Int)≤((wi64 (((List.length (x,y).1:Int))+1)):Int)∧((wi64 (((List.length (x,y).1:Int))+1)):Int)≤70368744177664)).bind (fun _=>
 (DB a b (x,y) 18446744073709551616 0 0 (List.replicate (0:Int).toNat (0:Int))).bind fun m371=>
 (gd (List.length m371.2+List.length ([(wu32 m371.1)]:List Int)≤35184372088832)).bind fun _=>
 (BG ((m371.2++([(wu32 m371.1)]:List Int)))).bind fun r752=>
 some r752)=some (limbs (val x+val y)):=by
  intro x y hx hy hl hs
  obtain ⟨c',out',h3,h4,h5,h6,h7⟩:=wAdd_l a b x y hx hy hl (by omega) x.length 0 18446744073709551616 0 [] (by omega) (by omega) (by omega) rfl MQ
  rw [w64n (n:=x.length+1) (by simp) (by omega),gdB (by omega)]
  rw [show (List.replicate (0:Int).toNat (0:Int))=[] from rfl]
  have h3':DB a b (x,y) 18446744073709551616 0 0 []=some ((c':Int),out'):=h3
  rw [h3',sB]
  simp only
  rw [gdB (by simp;omega),u32,Nat.mod_eq_of_lt (by unfold B;omega),wTrim (Iw h6 (by unfold B;omega)) (by simp;omega),sB,Ir,h5,h7]
  simp [val]
 unfold CJ
 by_cases h:a.length<b.length
 ·rw [if_pos (by omega),sB,key b a hb ha (by omega) hlb,Nat.add_comm]
 ·rw [if_neg (by omega),sB,key a b ha hb (by omega) hla]
theorem IS {xs:List Int} (hd:Dig xs) (k x:Nat) (hk:k<xs.length):val (xs.set k (x:Int))+B^k*el xs k=val xs+B^k*x:=by
 have h1:=Gc (xs.set k (x:Int)) k (by simpa using hk)
 have h2:=Gc xs k hk
 rw [IE k k x hk,if_pos rfl] at h1
 have e1:(xs.set k (x:Int)).take k=xs.take k:=by rw [List.take_set_of_le (Nat.le_refl _)]
 have e2:(xs.set k (x:Int)).drop (k+1)=xs.drop (k+1):=by rw [List.drop_set_of_lt (by omega)]
 rw [e1,e2] at h1
 rw [h1,h2,Nat.mul_add,Nat.mul_add]
 omega
theorem setn (xs:List Int) (k x:Nat):List.set xs ((k:Int)).toNat (x:Int)=xs.set k (x:Int):=by rw [Int.toNat_natCast]
theorem rAdd_l (a b:List Int) (ha:Dig a) (hb:Dig b) (m:Nat) (hm:m=max a.length b.length) (hs:m<4294967296):∀(d k n c:Nat) (out:List Int),m+1=k+d→d<n→c≤1→out.length=k→Dig out→
  ∃(c':Nat) (out':List Int),Ew a b n (c:Int) (k:Int) out=some out'∧out'.length=m+1∧Dig out'∧val out' + B^(m+1)*c'=val out+B^k*(c+val (a.drop k)+val (b.drop k)):=by
 intro d
 induction d with
 | zero=>
  intro k n c out hk hn hc ho hd
  obtain ⟨n,rfl⟩:∃j,n=j+1:=⟨n - 1,by omega⟩
  unfold Ew
  rw [if_neg (by omega)]
  exact ⟨c,out,rfl,by omega,hd,by rw [AB (by omega),AB (by omega),hk,Nat.add_zero,Nat.add_zero]⟩
 | succ d ih=>
  intro k n c out hk hn hc ho hd
  obtain ⟨n,rfl⟩:∃j,n=j+1:=⟨n - 1,by omega⟩
  have h1:=Br ha k
  have h2:=Br hb k
  unfold B at h1 h2
  unfold Ew
  rw [if_pos (by omega),rat ha,sB,rat hb,sB,u64add (el a k) (el b k) (by omega),u64add (el a k+el b k) c (by omega),gdB (by simp;omega),u32,sh32,w64n (n:=k+1) (by omega) (by omega)]
  obtain ⟨c',out',h3,h5,h6,h7⟩:=ih (k+1) n ((el a k+el b k+c)/B) (out++[((((el a k+el b k+c)%B:Nat)):Int)]) (by omega) (by omega) (by unfold B;omega) (by simp;omega) (Iw hd (Nat.mod_lt _ (by decide)))
  refine ⟨c',out',h3,h5,h6,?_⟩
  rw [h7,Ir,AK a k,AK b k,ho]
  have h8:=Nat.div_add_mod (el a k+el b k+c) B
  generalize (el a k+el b k+c)/B=q at h8 ⊢
  generalize (el a k+el b k+c)%B=r at h8 ⊢
  grind
theorem LX (k:Nat):0<B^k:=Nat.pow_pos (by decide)
theorem Lq {a b:Nat} (h:a≤b):B^a≤B^b:=Nat.pow_le_pow_right (by decide) h
theorem pow_succ' (k:Nat):B^(k+1)=B^k*B:=Nat.pow_succ ..
theorem EJ {xs:List Int} (h:Dig xs):val xs<B^xs.length:=PZ h
theorem Py {x c L v:Nat} (h:x+L*c=v) (hv:v<L):c=0:=by
 rcases Nat.eq_zero_or_pos c with h0 | h0
 ·exact h0
 ·have:=Nat.mul_le_mul_left L h0
  omega
theorem rAdd {a b:List Int} (ha:Dig a) (hb:Dig b) (hla:a.length<4294967295) (hlb:b.length<4294967295):Ef a b=some (limbs (val a+val b)):=by
 obtain ⟨c',out',h3,h5,h6,h7⟩:=rAdd_l a b ha hb _ rfl (by omega) (max a.length b.length+1) 0 18446744073709551616 0 [] (by omega) (by omega) (by omega) rfl MQ
 have h3':Ew a b 18446744073709551616 0 0 []=some out':=h3
 rw [show val []=0 from rfl,Nat.pow_zero,List.drop_zero,List.drop_zero,Nat.zero_add,Nat.zero_add,Nat.one_mul] at h7
 have hA:=Nat.lt_of_lt_of_le (EJ ha) (Lq (show a.length≤max a.length b.length by omega))
 have hB:=Nat.lt_of_lt_of_le (EJ hb) (Lq (show b.length≤max a.length b.length by omega))
 have hc:=Py h7 (by rw [pow_succ'];generalize B^max a.length b.length=P at hA hB;unfold B;omega)
 rw [hc,Nat.mul_zero,Nat.add_zero] at h7
 unfold Ef
 rw [h3',sB,rTrim h6 (by omega),sB,h7]
theorem wSub_l (x0 b r9:List Int) (hb:Dig b) (hs:r9.length<4294967296) (hl:b.length≤r9.length):∀(d k n c:Nat) (out:List Int),r9.length=k+d→d<n→c≤1→out.length=r9.length→Dig out→
  ∃(c':Nat) (out':List Int),Eu x0 b r9 n (c:Int) (k:Int) out=some out'∧out'.length=r9.length∧Dig out'∧val out' + B^k*(c+val (b.drop k))=val out+B^r9.length*c':=by
 intro d
 induction d with
 | zero=>
  intro k n c out hk hn hc ho hd
  obtain ⟨n,rfl⟩:∃j,n=j+1:=⟨n - 1,by omega⟩
  unfold Eu
  rw [if_neg (by omega)]
  exact ⟨c,out,rfl,by omega,hd,by rw [AB (by omega),hk,Nat.add_zero,Nat.add_zero]⟩
 | succ d ih=>
  intro k n c out hk hn hc ho hd
  obtain ⟨n,rfl⟩:∃j,n=j+1:=⟨n - 1,by omega⟩
  have h1:=Br hd k
  have h2:=Br hb k
  unfold B at h1 h2
  have hm:∀f:Int→Option (List Int),(if (k:Int)<((List.length b:Int)) then (nth b (k:Int)).bind fun u768=>some ((wu64 ((c:Int)+((wu64 u768))))) else some (c:Int)).bind f=f ((c+el b k:Nat):Int):=by
   intro f
   by_cases hk2:k<b.length
   ·rw [if_pos (by omega),Bd hb hk2,sB,sB,u64 (n:=el b k) rfl (by omega),u64 (n:=c+el b k) (by omega) (by omega)]
   ·have h3:=Nz (xs:=b) (k:=k) (by omega)
    rw [if_neg (by omega),sB,h3,Nat.add_zero]
  have hc2:∀f:Int→Option (List Int),(if ((el out k:Nat):Int)<((c+el b k:Nat):Int) then some (1:Int) else some (0:Int)).bind f=f (((if el out k<c+el b k then 1 else 0:Nat)):Int):=by
   intro f
   by_cases h:el out k<c+el b k
   ·rw [if_pos (by omega),if_pos h];rfl
   ·rw [if_neg (by omega),if_neg h];rfl
  have hr:wu32 (wu64 (((el out k:Nat):Int) - ((c+el b k:Nat):Int)))=(((el out k+2*B - (c+el b k))%B:Nat):Int):=by
   show IntKind.u32.wrap (IntKind.u64.wrap _)=_
   rw [IntKind.wrap_u64,IntKind.wrap_u32]
   unfold B
   omega
  unfold Eu
  rw [if_pos (by omega),hm,Bd hd (by omega),sB,sB,u64 (n:=el out k) rfl (by omega),hc2,hr,w64n (n:=k+1) (by omega) (by omega),setn]
  obtain ⟨c',out',h3,h5,h6,h7⟩:=ih (k+1) n (if el out k<c+el b k then 1 else 0) (out.set k (((el out k+2*B - (c+el b k))%B:Nat):Int)) (by omega) (by omega) (by split<;>omega) (by simp;omega) (Fm hd (Nat.mod_lt _ (by decide)) k)
  refine ⟨c',out',h3,h5,h6,?_⟩
  have h8:=IS hd k ((el out k+2*B - (c+el b k))%B) (by omega)
  have h9:el out k+B*(if el out k<c+el b k then 1 else 0)=(el out k+2*B - (c+el b k))%B+(c+el b k):=by
   unfold B
   split<;>omega
  rw [AK b k,pow_succ'] at *
  generalize (if el out k<c+el b k then 1 else 0)=c1 at h7 h9
  generalize (el out k+2*B - (c+el b k))%B=r at h7 h8 h9
  generalize val (out.set k (r:Int))=V at h7 h8
  generalize B^k=P at h7 h8 ⊢
  generalize B^r9.length=L at h7 ⊢
  grind
theorem wSub {a b:List Int} (ha:Dig a) (hb:Dig b) (hla:a.length<4294967296) (hl:b.length≤a.length) (hv:val b≤val a):Ch a b=some (limbs (val a - val b)):=by
 obtain ⟨c',out',h3,h5,h6,h7⟩:=wSub_l a b a hb (by omega) hl a.length 0 18446744073709551616 0 a (by omega) (by omega) (by omega) rfl ha
 have h3':Eu a b a 18446744073709551616 0 0 a=some out':=h3
 have hlt:=EJ h6
 rw [h5] at hlt
 rw [Nat.pow_zero,List.drop_zero,Nat.zero_add,Nat.one_mul] at h7
 have hc:c'=0:=by
  rcases Nat.eq_zero_or_pos c' with h0 | h0
  ·exact h0
  ·have:=Nat.mul_le_mul_left (B^a.length) h0
   omega
 rw [hc,Nat.mul_zero,Nat.add_zero] at h7
 unfold Ch DF
 rw [gdB (by omega),sB,h3',sB,wTrim h6 (by omega),sB,show val out'=val a - val b by omega]
theorem sh63 (n:Nat):(n:Int).fdiv (2^min (63:Int).toNat IntKind.u64.bits)=((n/9223372036854775808:Nat):Int):=by
 rw [show (2:Int)^min (63:Int).toNat IntKind.u64.bits=9223372036854775808 by decide,Int.fdiv_eq_ediv_of_nonneg _ (by decide)]
 simp
theorem Mn (xs:List Int) (k:Nat) (h:xs.length≤k):val xs=val (xs.take k):=by rw [List.take_of_length_le h]
theorem Dl {xs:List Int} (k:Nat):val (xs.take (k+1))=val (xs.take k)+B^k*el xs k:=by
 rcases Nat.lt_or_ge k xs.length with h | h
 ·exact val_take_succ xs k h
 ·rw [List.take_of_length_le (by omega),List.take_of_length_le h,Nz h,Nat.mul_zero,Nat.add_zero]
theorem CW {xs:List Int} (h:Dig xs) (k:Nat):val (xs.take k)<B^k:=Nat.lt_of_lt_of_le (EJ (It h k)) (Lq (by simp;omega))
def sgnc (a b:Nat):Int:=if a<b then -1 else if b<a then 1 else 0
theorem RD {P x y r s:Nat} (hr:r<P) (hs:s<P) (h:x<y):r+P*x<s+P*y:=by
 have:=Nat.mul_le_mul_left P h
 rw [Nat.mul_succ] at this
 omega
theorem Nr {a b:List Int} (ha:Dig a) (hb:Dig b) (k:Nat) (h:el a k=el b k):sgnc (val (a.take (k+1))) (val (b.take (k+1)))=sgnc (val (a.take k)) (val (b.take k)):=by
 rw [Dl,Dl,h]
 unfold sgnc
 simp only [Nat.add_lt_add_iff_right]
theorem LZ {a b:List Int} (ha:Dig a) (hb:Dig b) (k:Nat):(el a k<el b k→sgnc (val (a.take (k+1))) (val (b.take (k+1))) = -1)∧(el b k<el a k→sgnc (val (a.take (k+1))) (val (b.take (k+1)))=1):=by
 rw [Dl,Dl]
 have h1:=CW ha k
 have h2:=CW hb k
 constructor
 ·intro h
  have:=RD h1 h2 h
  unfold sgnc;rw [if_pos this]
 ·intro h
  have:=RD h2 h1 h
  unfold sgnc;rw [if_neg (by omega),if_pos this]
theorem wCmp_l (a b:List Int) (ha:Dig a) (hb:Dig b) (hab:a.length=b.length) (hs:a.length<4294967296):∀(k n:Nat),k<n→k≤a.length→EY a b n ((k:Int) - 1)=some (sgnc (val (a.take k)) (val (b.take k))):=by
 intro k
 induction k with
 | zero=>
  intro n hn _
  obtain ⟨n,rfl⟩:∃j,n=j+1:=⟨n - 1,by omega⟩
  unfold EY
  rw [if_neg (by omega)]
  simp [sgnc,val]
 | succ k ih=>
  intro n hn hk
  obtain ⟨n,rfl⟩:∃j,n=j+1:=⟨n - 1,by omega⟩
  unfold EY
  rw [show (((k+1:Nat):Int) - 1)=(k:Int) by omega,if_pos (by omega),Bd ha (by omega),sB,Bd hb (by omega),sB]
  by_cases h:el a k=el b k
  ·rw [if_neg (by omega),w64 (by omega) (by omega),ih n (by omega) (by omega),Nr ha hb k h]
  ·rw [if_pos (by omega),sB,sB]
   rcases Nat.lt_or_gt_of_ne h with h1 | h1
   ·rw [if_pos (by omega),(LZ ha hb k).1 h1]
   ·rw [if_neg (by omega),(LZ ha hb k).2 h1]
theorem CC {a b:Nat} (h:sz a<sz b):a<b:=by
 have h1:=(BF (n:=a) (k:=sz a)).1 (Nat.le_refl _)
 rcases Nat.lt_or_ge a b with h2 | h2
 ·exact h2
 ·have h3:sz b≤sz a:=(BF (n:=b) (k:=sz a)).2 (Nat.lt_of_le_of_lt h2 h1)
  omega
def cmpw (a b:Nat):Int:=if sz a=sz b then sgnc a b else (sz a:Int) - sz b
theorem wCmp (a b:Nat) (ha:sz a<4294967296) (hb:sz b<4294967296):Cv (limbs a) (limbs b)=some (cmpw a b):=by
 unfold Cv cmpw
 by_cases h:sz a=sz b
 ·have h':(limbs a).length=(limbs b).length:=h
  have h2:=wCmp_l (limbs a) (limbs b) (As a) (As b) h ha (limbs a).length 18446744073709551616 (by unfold sz at ha;omega) (Nat.le_refl _)
  rw [←Mn _ _ (Nat.le_refl _),←Mn (limbs b) _ (by omega),Ax,Ax] at h2
  rw [if_neg (by omega),w64 (by omega) (by unfold sz at ha;omega),h2,if_pos h]
 ·have h':¬(limbs a).length=(limbs b).length:=h
  have ha':(limbs a).length<4294967296:=ha
  have hb':(limbs b).length<4294967296:=hb
  rw [if_pos (by omega),w64 (by omega) (by omega),if_neg h]
theorem IT {a b:Nat} : (cmpw a b<0↔a<b):=by
 unfold cmpw sgnc
 by_cases h:sz a=sz b
 ·rw [if_pos h];split
  ·omega
  ·split<;>omega
 ·rw [if_neg h]
  rcases Nat.lt_or_gt_of_ne h with h1 | h1
  ·have:=CC h1;omega
  ·have:=CC h1;omega
theorem cmpw_pos {a b:Nat} : (0<cmpw a b↔b<a):=by
 unfold cmpw sgnc
 by_cases h:sz a=sz b
 ·rw [if_pos h];split
  ·omega
  ·split<;>omega
 ·rw [if_neg h]
  rcases Nat.lt_or_gt_of_ne h with h1 | h1
  ·have:=CC h1;omega
  ·have:=CC h1;omega
theorem rCmp_l (a b:List Int) (ha:Dig a) (hb:Dig b) (hs:a.length<4294967296∧b.length<4294967296):∀(k n:Nat),k<n→k≤max a.length b.length→Fx a b n ((k:Int) - 1)=some (sgnc (val (a.take k)) (val (b.take k))):=by
 intro k
 induction k with
 | zero=>
  intro n hn _
  obtain ⟨n,rfl⟩:∃j,n=j+1:=⟨n - 1,by omega⟩
  unfold Fx
  rw [if_neg (by omega)]
  simp [sgnc,val]
 | succ k ih=>
  intro n hn hk
  obtain ⟨n,rfl⟩:∃j,n=j+1:=⟨n - 1,by omega⟩
  unfold Fx
  rw [show (((k+1:Nat):Int) - 1)=(k:Int) by omega,if_pos (by omega),rat ha,sB,rat hb,sB]
  by_cases h1:el a k<el b k
  ·rw [if_pos (by omega),(LZ ha hb k).1 h1]
  ·rw [if_neg (by omega),sB,sB]
   by_cases h2:el b k<el a k
   ·rw [if_pos (by omega),(LZ ha hb k).2 h2]
   ·rw [if_neg (by omega),w64 (by omega) (by omega),ih n (by omega) (by omega),Nr ha hb k (by omega)]
theorem rCmp {a b:List Int} (ha:Dig a) (hb:Dig b) (hla:a.length<4294967296) (hlb:b.length<4294967296):Ee a b=some (sgnc (val a) (val b)):=by
 unfold Ee
 have h:=rCmp_l a b ha hb ⟨hla,hlb⟩ (max a.length b.length) 18446744073709551616 (by omega) (Nat.le_refl _)
 rw [←Mn a _ (by omega),←Mn b _ (by omega)] at h
 rw [w64 (by omega) (by omega),←h]
 congr 1
 omega
theorem Mf {a b c d:Nat} (ha:a<B) (hb:b<B) (hc:c<B) (hd:d<B):c+(a*b+d)<18446744073709551616:=by
 unfold B at *
 have:=Nat.mul_le_mul (Nat.le_sub_one_of_lt ha) (Nat.le_sub_one_of_lt hb)
 omega
theorem NN {a b c d:Nat} (ha:a<B) (hb:b<B) (hc:c<B) (hd:d<B):(c+(a*b+d))/B<B:=by
 rw [Nat.div_lt_iff_lt_mul (by decide)]
 have:=Mf ha hb hc hd
 unfold B;omega
theorem wMul_l2 (x0 b:List Int) (hb:Dig b) (i u:Nat) (hu:u<B) (hs:i+b.length<4294967296):∀(d j n c:Nat) (out:List Int),b.length=j+d→d<n→c<B→i+b.length≤out.length→Dig out→
  ∃(c':Nat) (out':List Int),CU x0 b (i:Int) (u:Int) n (c:Int) (j:Int) out=some ((c':Int),out')∧c' < B∧out'.length=out.length∧Dig out'∧(∀p,i+b.length≤p→el out' p=el out p)∧val out' + B^(i+b.length)*c'=val out+B^(i+j)*(c+u*val (b.drop j)):=by
 intro d
 induction d with
 | zero=>
  intro j n c out hk hn hc ho hd
  obtain ⟨n,rfl⟩:∃j,n=j+1:=⟨n - 1,by omega⟩
  unfold CU
  rw [if_neg (by omega)]
  exact ⟨c,out,rfl,hc,rfl,hd,fun _ _=>rfl,by rw [AB (by omega),hk,Nat.add_zero,Nat.mul_zero,Nat.add_zero]⟩
 | succ d ih=>
  intro j n c out hk hn hc ho hd
  obtain ⟨n,rfl⟩:∃j,n=j+1:=⟨n - 1,by omega⟩
  have h1:=Br hd (i+j)
  have h2:=Br hb j
  have h3:=Mf hu h2 hc h1
  have h4:=NN hu h2 hc h1
  have h5:u*el b j<18446744073709551616:=by omega
  unfold CU
  rw [if_pos (by omega),Bd hb (by omega),sB,w64n (n:=i+j) (by omega) (by omega),Bd hd (by omega),sB,sB]
  rw [u64c u (by unfold B at hu;omega),u64c (el b j) (by unfold B at h2;omega),u64mul u (el b j) h5,u64c (el out (i+j)) (by unfold B at h1;omega),u64add (u*el b j) (el out (i+j)) (by omega),u64add c (u*el b j+el out (i+j)) h3,sh32,u32,setn,w64n (n:=j+1) (by omega) (by omega)]
  obtain ⟨c',out',h6,h7,h8,h9,h10,h11⟩:=ih (j+1) n ((c+(u*el b j+el out (i+j)))/B) (out.set (i+j) (((c+(u*el b j+el out (i+j)))%B:Nat):Int)) (by omega) (by omega) h4 (by simp;omega) (Fm hd (Nat.mod_lt _ (by decide)) _)
  refine ⟨c',out',h6,h7,by rw [h8];simp,h9,fun p hp=>?_,?_⟩
  ·rw [h10 p hp,IE _ _ _ (by omega),if_neg (by omega)]
  ·have h12:=IS hd (i+j) ((c+(u*el b j+el out (i+j)))%B) (by omega)
   have h13:=Nat.div_add_mod (c+(u*el b j+el out (i+j))) B
   rw [show i+(j+1)=i+j+1 by omega,pow_succ'] at h11
   rw [AK b j]
   generalize (c+(u*el b j+el out (i+j)))/B=q at h11 h13
   generalize (c+(u*el b j+el out (i+j)))%B=r at h11 h12 h13
   generalize val (out.set (i+j) (r:Int))=V at h11 h12
   generalize B^(i+j)=P at h11 h12 ⊢
   generalize B^(i+b.length)=L at h11 ⊢
   grind
theorem QJ (a b:List Int) (ha:Dig a) (hb:Dig b) (hs:a.length+b.length<4294967296):∀(d k n:Nat) (out:List Int),a.length=k+d→d<n→out.length=a.length+b.length→Dig out→(∀p,k+b.length≤p→el out p=0)→
  ∃(out':List Int),Cw a b n (k:Int) out=some out'∧out'.length=out.length∧Dig out'∧val out'=val out+B^k*(val (a.drop k)*val b):=by
 intro d
 induction d with
 | zero=>
  intro k n out hk hn ho hd hz
  obtain ⟨n,rfl⟩:∃j,n=j+1:=⟨n - 1,by omega⟩
  unfold Cw
  rw [if_neg (by omega)]
  exact ⟨out,rfl,rfl,hd,by rw [AB (by omega),Nat.zero_mul,Nat.mul_zero,Nat.add_zero]⟩
 | succ d ih=>
  intro k n out hk hn ho hd hz
  obtain ⟨n,rfl⟩:∃j,n=j+1:=⟨n - 1,by omega⟩
  unfold Cw
  obtain ⟨c',o1,h6,h7,h8,h9,h10,h11⟩:=wMul_l2 a b hb k (el a k) (Br ha k) (by omega) b.length 0 18446744073709551616 0 out (by omega) (by omega) (by decide) (by omega) hd
  have h6':CU a b (k:Int) ((el a k:Nat):Int) 18446744073709551616 0 0 out=some ((c':Int),o1):=h6
  rw [if_pos (by omega),Bd ha (by omega),sB,h6',sB]
  simp only
  rw [w64n (n:=k+b.length) (by omega) (by omega),Bd h9 (by omega),sB,sB,u32,Nat.mod_eq_of_lt h7,setn,w64n (n:=k+1) (by omega) (by omega)]
  have h12:=IS h9 (k+b.length) c' (by omega)
  rw [h10 _ (Nat.le_refl _),hz _ (Nat.le_refl _),Nat.mul_zero,Nat.add_zero] at h12
  obtain ⟨out',g1,g2,g3,g4⟩:=ih (k+1) n (o1.set (k+b.length) (c':Int)) (by omega) (by omega) (by simp;omega) (Fm h9 h7 _) (fun p hp=>by
   rw [IE _ _ _ (by omega),if_neg (by omega),h10 p (by omega),hz p (by omega)])
  refine ⟨out',g1,by rw [g2];simp [h8],g3,?_⟩
  rw [g4,h12,h11,Nat.add_zero,List.drop_zero,AK a k,pow_succ']
  generalize B^k=P
  grind
theorem wMul {a b:List Int} (ha:Dig a) (hb:Dig b) (hs:a.length+b.length<4294967296):Ds a b=some (limbs (val a*val b)):=by
 obtain ⟨out',g1,g2,g3,g4⟩:=QJ a b ha hb hs a.length 0 18446744073709551616 (List.replicate (a.length+b.length) 0) (by omega) (by omega) (by simp) (GH _) (fun p _=>by simp [el,List.getD,List.getElem?_replicate];split<;>simp)
 have g1':Cw a b 18446744073709551616 0 (List.replicate (a.length+b.length) 0)=some out':=g1
 unfold Ds
 rw [w64n (n:=a.length+b.length) (by omega) (by omega),gdB (by omega),Int.toNat_natCast,g1',sB,wTrim g3 (by rw [g2];simp;omega),sB,g4,Mk,Nat.pow_zero,List.drop_zero,Nat.zero_add,Nat.one_mul]
theorem rSame_l (a b:List Int) (ha:Dig a) (hb:Dig b) (hab:a.length=b.length) (hs:a.length<4294967296):∀(d k n:Nat),a.length=k+d→d<n→Cm a b n (k:Int)=some (decide (val (a.drop k)=val (b.drop k))):=by
 intro d
 induction d with
 | zero=>
  intro k n hk hn
  obtain ⟨n,rfl⟩:∃j,n=j+1:=⟨n - 1,by omega⟩
  unfold Cm
  rw [if_neg (by omega),AB (by omega),AB (by omega)]
  rfl
 | succ d ih=>
  intro k n hk hn
  obtain ⟨n,rfl⟩:∃j,n=j+1:=⟨n - 1,by omega⟩
  unfold Cm
  rw [if_pos (by omega),Bd ha (by omega),sB,Bd hb (by omega),sB]
  have h1:=Br ha k
  have h2:=Br hb k
  rw [AK a k,AK b k]
  by_cases h:el a k=el b k
  ·rw [if_neg (by omega),w64n (n:=k+1) (by omega) (by omega),ih (k+1) n (by omega) (by omega),h]
   congr 1
   rw [decide_eq_decide]
   unfold B;omega
  ·rw [if_pos (by omega)]
   congr 1
   symm
   rw [decide_eq_false_iff_not]
   unfold B at *;omega
theorem rSame {a b:List Int} (ha:Dig a) (hb:Dig b) (hs:a.length<4294967296):Ca a b=some (decide (a.length=b.length∧val a=val b)):=by
 unfold Ca
 by_cases h:a.length=b.length
 ·have h2:=rSame_l a b ha hb h hs a.length 0 18446744073709551616 (by omega) (by omega)
  have h2':Cm a b 18446744073709551616 0=some (decide (val (a.drop 0)=val (b.drop 0))):=h2
  rw [if_neg (by omega),h2',List.drop_zero,List.drop_zero]
  congr 1
  rw [decide_eq_decide]
  simp [h]
 ·rw [if_pos (by omega)]
  congr 1
  symm
  rw [decide_eq_false_iff_not]
  exact fun h2=>h h2.1
theorem OZ {a:List Int} (ha:Dig a):Bw a=some (decide (a.length≤1024∧limbs (val a)=a)):=by
 unfold Bw
 by_cases h1:a.length≤1024
 ·rw [if_pos (by omega)]
  by_cases h2:a.length=0
  ·obtain rfl:=List.eq_nil_of_length_eq_zero h2
   rfl
  ·obtain ⟨m,hm⟩:∃m,a.length=m+1:=⟨a.length - 1,by omega⟩
   rw [if_neg (by omega),w64n (n:=m) (by omega) (by omega),Bd ha (by omega),sB,sB,sB]
   congr 1
   rw [decide_eq_decide]
   constructor
   ·intro h;exact ⟨h1,Nk (Oi ha hm (by omega))⟩
   ·intro h hz
    have h3:=NC (val a)
    rw [h.2] at h3
    have h4:=h3.2 (a.getD m 0) (by rw [List.getLast?_eq_getElem?,hm,Nat.add_sub_cancel];simp [List.getD,show m<a.length by omega])
    rw [Pf ha] at hz
    exact h4 hz
 ·rw [if_neg (by omega),sB]
  congr 1
  symm
  rw [decide_eq_false_iff_not]
  exact fun h2=>h1 h2.1
def bl (n:Nat):Nat:=if n=0 then 0 else n.log2+1
theorem Eb {n k:Nat} : bl n≤k↔n<2^k:=by
 unfold bl
 by_cases h:n=0
 ·subst h;simp [Nat.pow_pos]
 ·rw [if_neg h,←Nat.log2_lt h];omega
theorem lt_bl (n:Nat):n<2^bl n:=Eb.1 (Nat.le_refl _)
theorem RC {n k:Nat} (h1:2^k≤n) (h2:n<2^(k+1)):bl n=k+1:=by
 have h3:=Eb.2 h2
 rcases Nat.lt_or_ge (bl n) (k+1) with h | h
 ·have:=Eb.1 (show bl n≤k by omega);omega
 ·omega
theorem FG:bl 0=0:=rfl
theorem NT {n:Nat} (h:n≠0):∃k,bl n=k+1∧2^k≤n∧n<2^(k+1):=by
 refine ⟨n.log2,by unfold bl;rw [if_neg h],Nat.log2_self_le h,Nat.lt_log2_self⟩
theorem QO {n:Nat} (h:n≠0):bl n=1+bl (n/2):=by
 obtain ⟨k,h1,h2,h3⟩:=NT h
 rw [h1]
 rcases Nat.eq_zero_or_pos k with rfl | hk
 ·have:n/2=0:=by omega
  rw [this,FG]
 ·obtain ⟨j,rfl⟩:∃j,k=j+1:=⟨k - 1,by omega⟩
  rw [Nat.pow_succ] at h2 h3
  rw [RC (n:=n/2) (k:=j) (by omega) (by omega)]
  omega
theorem Mp (x:Nat) (h:x<18446744073709551616):Lib.bitLen x=bl x:=by
 induction x using Nat.strongRecOn with
 | _ x ih=>
  by_cases h0:x=0
  ·subst h0;rfl
  ·rw [Lib.bitLen_half x h0 h,QO h0,ih _ (by omega) (by omega)]
theorem bl_top {lo k t:Nat} (h:lo<B^k) (ht:t≠0):bl (lo+B^k*t)=32*k+bl t:=by
 obtain ⟨j,h1,h2,h3⟩:=NT ht
 have e:B^k=2^(32*k):=by rw [Nat.pow_mul,B32]
 rw [h1]
 refine RC (k:=32*k+j) ?_ ?_
 ·rw [Nat.pow_add,←e]
  have:=Nat.mul_le_mul_left (B^k) h2
  omega
 ·rw [Nat.add_assoc,Nat.pow_add,←e]
  have:=Nat.mul_le_mul_left (B^k) (show t+1≤2^(j+1) by omega)
  rw [Nat.mul_add,Nat.mul_one] at this
  omega
theorem HQ {n m:Nat} (h:(limbs n).length=m+1):bl n=32*m+bl (el (limbs n) m)∧el (limbs n) m≠0:=by
 have hc:=NC n
 have h0:el (limbs n) m≠0:=by
  intro hz
  have h4:=hc.2 ((limbs n).getD m 0) (by rw [List.getLast?_eq_getElem?,h,Nat.add_sub_cancel];simp [List.getD,show m<(limbs n).length by omega])
  rw [←Pf hc.1,hz] at h4
  exact h4 rfl
 refine ⟨?_,h0⟩
 conv=>lhs;rw [←Ax n]
 rw [Gc (limbs n) m (by omega),AB (by omega),Nat.mul_zero,Nat.add_zero]
 exact bl_top (CW hc.1 m) h0
theorem GS {n:Nat} (h:(limbs n).length=0):n=0:=MM.1 (List.eq_nil_of_length_eq_zero h)
theorem wBits (n:Nat) (h:sz n<4294967296):Bu (limbs n)=some ((bl n:Nat):Int):=by
 have h':(limbs n).length<4294967296:=h
 unfold Bu
 by_cases h0:(limbs n).length=0
 ·rw [if_pos (by omega),GS h0];rfl
 ·obtain ⟨m,hm⟩:∃m,(limbs n).length=m+1:=⟨(limbs n).length - 1,by omega⟩
  obtain ⟨h1,h2⟩:=HQ hm
  have h3:=Br (As n) m
  unfold B at h3
  have h4:bl (el (limbs n) m)≤32:=Eb.2 (by omega)
  rw [if_neg (by omega),w64n (n:=m) (by omega) (by omega),Bd (As n) (by omega),sB]
  unfold Bf
  rw [gdB (by omega),sB,Int.toNat_natCast,Mp _ (by omega),w64n (x:=32*((limbs n).length:Int)) (n:=32*(m+1)) (by omega) (by omega),w64n (n:=bl n) (by omega) (by omega)]
theorem rBits_l (x0:List Int):∀(x n b:Nat),bl x<n→x<4294967296→b+bl x<4611686018427387904→Gu x0 n (b:Int) (x:Int)=some ((b+bl x:Nat):Int):=by
 intro x
 induction x using Nat.strongRecOn with
 | _ x ih=>
  intro n b hn hx hb
  obtain ⟨n,rfl⟩:∃j,n=j+1:=⟨n - 1,by omega⟩
  unfold Gu
  by_cases h0:x=0
  ·subst h0;rw [if_neg (by omega),FG,Nat.add_zero]
  ·have h1:=QO h0
   have e:wu32 (((x:Nat):Int).tdiv 2)=((x/2:Nat):Int):=by
    rw [show ((x:Nat):Int).tdiv 2=((x/2:Nat):Int) from rfl,u32,Nat.mod_eq_of_lt (by unfold B;omega)]
   rw [if_pos (by omega),w64n (n:=b+1) (by omega) (by omega),e,ih (x/2) (by omega) n (b+1) (by omega) (by omega) (by omega)]
   congr 2
   omega
theorem SM (n:Nat) (h:sz n<4294967296):BZ (limbs n)=some ((bl n:Nat):Int):=by
 have h':(limbs n).length<4294967296:=h
 unfold BZ
 by_cases h0:(limbs n).length=0
 ·rw [if_pos (by omega),GS h0];rfl
 ·obtain ⟨m,hm⟩:∃m,(limbs n).length=m+1:=⟨(limbs n).length - 1,by omega⟩
  obtain ⟨h1,h2⟩:=HQ hm
  have h3:=Br (As n) m
  unfold B at h3
  have h4:bl (el (limbs n) m)≤32:=Eb.2 (by omega)
  rw [if_neg (by omega),w64n (n:=m) (by omega) (by omega),Bd (As n) (by omega),sB,w64n (n:=32*m) (by omega) (by omega),rBits_l (limbs n) _ _ _ (by omega) (by omega) (by omega),sB,h1]
theorem KF {xs:List Int} (h:Dig xs) (q:Nat):val xs/B^q=val (xs.drop q):=by
 rcases Nat.lt_or_ge q xs.length with hq | hq
 ·rw [Hy xs q (by omega),Nat.add_mul_div_left _ _ (LX q),Nat.div_eq_of_lt (CW h q),Nat.zero_add]
 ·rw [AB hq,Nat.div_eq_of_lt (Nat.lt_of_lt_of_le (EJ h) (Lq hq))]
theorem Qe (e V s:Nat) (hs:s≤32):(e+B*V)/2^s=e/2^s+2^(32 - s)*V:=by
 have hB:B=2^s*2^(32 - s):=by rw [←Nat.pow_add,show s+(32 - s)=32 by omega,B32]
 rw [hB,Nat.mul_assoc,Nat.add_mul_div_left _ _ (Nat.pow_pos (by decide))]
theorem pow32 (i:Nat):2^i=B^(i/32)*2^(i%32):=by
 have:B^(i/32)=2^(32*(i/32)):=by rw [Nat.pow_mul,B32]
 rw [this,←Nat.pow_add,Nat.div_add_mod]
theorem val_div2 {xs:List Int} (h:Dig xs) (i:Nat):val xs/2^i=el xs (i/32)/2^(i%32)+2^(32 - i%32)*val (xs.drop (i/32+1)):=by
 rw [pow32 i,←Nat.div_div_eq_div_mul,KF h,AK,Qe _ _ _ (by omega)]
theorem val_bit {xs:List Int} (h:Dig xs) (i:Nat):val xs/2^i%2=el xs (i/32)/2^(i%32)%2:=by
 rw [val_div2 h,show 32 - i%32=(31 - i%32)+1 by omega,Nat.pow_succ,Nat.mul_assoc,Nat.mul_left_comm,Nat.add_mul_mod_self_left]
theorem tm32 (i:Nat):((i:Int).tmod 32)=((i%32:Nat):Int):=rfl
theorem td32 (i:Nat):((i:Int).tdiv 32)=((i/32:Nat):Int):=rfl
theorem shN (x s:Nat) (hs:s<64):(x:Int).fdiv (2^min (s:Int).toNat IntKind.u64.bits)=((x/2^s:Nat):Int):=by
 rw [Int.toNat_natCast,show min s IntKind.u64.bits=s from Nat.min_eq_left (by show s≤64;omega),Int.fdiv_eq_ediv_of_nonneg _ (by exact_mod_cast Nat.zero_le _)]
 norm_cast
theorem rBit {xs:List Int} (h:Dig xs) (i:Nat) (hi:i<9223372036854775808):BV xs (i:Int)=some ((val xs/2^i%2:Nat):Int):=by
 unfold BV
 rw [td32,w64n (n:=i/32) rfl (by omega),rat h,sB,tm32,gdB (by omega),shN _ _ (by omega),val_bit h]
 rfl
def tz (n:Nat):Nat:=if n=0 then 0 else Lib.ctzFrom (bl n) n
theorem Hn {n:Nat} (h:n≠0):∃m,n=2^tz n*(2*m+1)∧tz n<bl n:=by
 unfold tz
 rw [if_neg h]
 exact Lib.ctzFrom_spec _ _ (by omega) (lt_bl n)
theorem odd_unique {a b m k:Nat} (h:2^a*(2*m+1)=2^b*(2*k+1)):a=b:=by
 rcases Nat.lt_trichotomy a b with h1 | h1 | h1
 ·obtain ⟨d,rfl⟩:∃d,b=a+(d+1):=⟨b - a - 1,by omega⟩
  rw [Nat.pow_add,Nat.mul_assoc] at h
  have:=Nat.eq_of_mul_eq_mul_left (Nat.pow_pos (by decide)) h
  rw [Nat.pow_succ,Nat.mul_right_comm] at this
  omega
 ·exact h1
 ·obtain ⟨d,rfl⟩:∃d,a=b+(d+1):=⟨a - b - 1,by omega⟩
  rw [Nat.pow_add,Nat.mul_assoc] at h
  have:=Nat.eq_of_mul_eq_mul_left (Nat.pow_pos (by decide)) h
  rw [Nat.pow_succ,Nat.mul_right_comm] at this
  omega
theorem QG {n k m:Nat} (h:n=2^k*(2*m+1)):tz n=k:=by
 have h0:n≠0:=by
  rw [h];exact Nat.mul_ne_zero (Nat.ne_of_gt (Nat.pow_pos (by decide))) (by omega)
 obtain ⟨j,hj,_⟩:=Hn h0
 exact odd_unique (hj.symm.trans h)
theorem bit_low {n k m i:Nat} (h:n=2^k*(2*m+1)) (hi:i<k):n/2^i%2=0:=by
 obtain ⟨d,rfl⟩:∃d,k=i+(d+1):=⟨k - i - 1,by omega⟩
 rw [h,Nat.pow_add,Nat.mul_assoc,Nat.mul_div_cancel_left _ (Nat.pow_pos (by decide)),Nat.pow_succ,Nat.mul_right_comm,Nat.mul_mod_left]
theorem bit_at {n k m:Nat} (h:n=2^k*(2*m+1)):n/2^k%2=1:=by
 rw [h,Nat.mul_div_cancel_left _ (Nat.pow_pos (by decide))];omega
theorem rZeros_l (xs:List Int) (hd:Dig xs) (hl:xs.length≠0) (k m:Nat) (hk:k<9223372036854775807) (h:val xs=2^k*(2*m+1)):∀(d i n:Nat),k=i+d→d<n→BL xs n (i:Int)=some (k:Int):=by
 intro d
 induction d with
 | zero=>
  intro i n hi hn
  obtain ⟨n,rfl⟩:∃j,n=j+1:=⟨n - 1,by omega⟩
  obtain rfl:k=i:=by omega
  unfold BL
  rw [if_pos (by omega),rBit hd _ (by omega),sB,sB,bit_at h,if_neg (by decide)]
 | succ d ih=>
  intro i n hi hn
  obtain ⟨n,rfl⟩:∃j,n=j+1:=⟨n - 1,by omega⟩
  unfold BL
  rw [if_pos (by omega),rBit hd _ (by omega),sB,sB,bit_low h (by omega),if_pos (by decide),w64n (n:=i+1) (by omega) (by omega),ih (i+1) n (by omega) (by omega)]
theorem Fi {n k:Nat} (h:sz n≤k):bl n≤32*k:=by
 rw [Eb,Nat.pow_mul]
 exact BF.1 h
theorem rZeros (n:Nat) (h:sz n<4294967296):BO (limbs n)=some ((tz n:Nat):Int):=by
 unfold BO
 by_cases h0:n=0
 ·subst h0
  rw [BE]
  unfold BL
  rw [if_neg (by simp),sB,if_neg (by simp)]
  rfl
 ·obtain ⟨m,hm,ht⟩:=Hn h0
  have h1:=Fi (k:=4294967296) (by omega:sz n≤4294967296)
  have h2:=rZeros_l (limbs n) (As n) (fun e=>h0 (GS e)) (tz n) m (by omega) (by rw [Ax];exact hm) (tz n) 0 18446744073709551616 (by omega) (by omega)
  have h2':BL (limbs n) 18446744073709551616 0=some ((tz n:Nat):Int):=h2
  rw [h2',sB]
theorem wZeros_l (xs:List Int) (hd:Dig xs) (hs:xs.length<4294967296):∀(d i n:Nat),xs.length=i+d→d<n→val (xs.drop i)≠0→val (xs.take i)=0→∃j:Nat,Dq xs n (i:Int)=some (j:Int)∧j<xs.length∧el xs j≠0∧val (xs.take j)=0:=by
 intro d
 induction d with
 | zero=>
  intro i n hi hn hz ht
  rw [AB (by omega)] at hz
  exact absurd rfl hz
 | succ d ih=>
  intro i n hi hn hz ht
  obtain ⟨n,rfl⟩:∃j,n=j+1:=⟨n - 1,by omega⟩
  unfold Dq
  rw [if_pos (by omega),Bd hd (by omega),sB,sB]
  by_cases h0:el xs i=0
  ·rw [if_pos (by simp [h0]),w64n (n:=i+1) (by omega) (by omega)]
   refine ih (i+1) n (by omega) (by omega) (fun h=>hz ?_) ?_
   ·rw [AK,h0,h];rfl
   ·rw [Dl,ht,h0];rfl
  ·rw [if_neg (by simp;omega)]
   exact ⟨i,rfl,by omega,h0,ht⟩
theorem wZeros (n:Nat) (h:sz n<4294967296):CS (limbs n)=some ((tz n:Nat):Int):=by
 have h':(limbs n).length<4294967296:=h
 have hd:=As n
 unfold CS
 by_cases h0:n=0
 ·subst h0
  rw [BE]
  unfold Dq
  rw [if_neg (by simp),sB,if_neg (by simp),sB,if_pos (by simp)]
  rfl
 ·obtain ⟨j,h1,h2,h3,h4⟩:=wZeros_l (limbs n) hd h' (limbs n).length 0 18446744073709551616 (by omega) (by omega) (by rw [List.drop_zero,Ax];exact h0) rfl
  have h1':Dq (limbs n) 18446744073709551616 0=some (j:Int):=h1
  have h5:=Br hd j
  unfold B at h5
  have h6:Lib.ctz 32 (el (limbs n) j)=tz (el (limbs n) j)∧tz (el (limbs n) j)<32∧∃m,el (limbs n) j=2^tz (el (limbs n) j)*(2*m+1):=by
   obtain ⟨m,hm,hk⟩:=Lib.ctzFrom_spec 32 (el (limbs n) j) (by omega) (by omega)
   have e:Lib.ctz 32 (el (limbs n) j)=Lib.ctzFrom 32 (el (limbs n) j):=by simp [Lib.ctz,h3]
   have e2:=QG hm
   rw [e,e2]
   exact ⟨rfl,hk,m,hm⟩
  obtain ⟨h6,h7,m,h8⟩:=h6
  rw [h1',sB,if_neg (by omega),Bd hd h2,sB]
  unfold Ey
  rw [gdB (by omega),sB,Int.toNat_natCast,h6,w64n (x:=32*(j:Int)) (n:=32*j) (by omega) (by omega),w64n (n:=32*j+tz (el (limbs n) j)) (by omega) (by omega)]
  congr 2
  symm
  refine QG (m:=m+2^(31 - tz (el (limbs n) j))*val ((limbs n).drop (j+1))) ?_
  have e3:=Gc (limbs n) j h2
  rw [Ax,h4,Nat.zero_add] at e3
  conv=>lhs;rw [e3]
  rw [Nat.pow_add,Nat.pow_mul,Nat.mul_assoc]
  congr 1
  conv=>lhs;rw [h8]
  have hB:B=2^tz (el (limbs n) j)*(2*2^(31 - tz (el (limbs n) j))):=by
   rw [←Nat.pow_succ',←Nat.pow_add,show tz (el (limbs n) j)+(31 - tz (el (limbs n) j)+1)=32 by omega,B32]
  rw [hB]
  generalize 2^tz (el (limbs n) j)=P
  generalize 2^(31 - tz (el (limbs n) j))=Q
  grind
theorem LV {x s c:Nat} (h:c<2^s):c ||| (x*2^s)=x*2^s+c:=by
 rw [Nat.or_comm,Nat.mul_comm,←Nat.two_pow_add_eq_or_of_lt h]
theorem bor64 (a b:Nat) (ha:a<18446744073709551616) (hb:b<18446744073709551616):bor .u64 (a:Int) (b:Int)=((a ||| b:Nat):Int):=by
 unfold bor
 have e1:BitVec.ofInt IntKind.u64.bits (a:Int)=BitVec.ofNat 64 a:=rfl
 have e2:BitVec.ofInt IntKind.u64.bits (b:Int)=BitVec.ofNat 64 b:=rfl
 rw [e1,e2]
 have e3:((BitVec.ofNat 64 a) ||| (BitVec.ofNat 64 b)).toNat=a ||| b:=by
  rw [BitVec.toNat_or,BitVec.toNat_ofNat,BitVec.toNat_ofNat,Nat.mod_eq_of_lt ha,Nat.mod_eq_of_lt hb]
 have e4:a ||| b<2^64:=Nat.or_lt_two_pow ha hb
 show wu64 ((((BitVec.ofNat 64 a) ||| (BitVec.ofNat 64 b)).toNat:Nat):Int)=_
 rw [e3,u64c _ e4]
theorem bor32 (a b:Nat) (ha:a<B) (hb:b<B):bor .u32 (a:Int) (b:Int)=((a ||| b:Nat):Int):=by
 unfold B at ha hb
 unfold bor
 have e1:BitVec.ofInt IntKind.u32.bits (a:Int)=BitVec.ofNat 32 a:=rfl
 have e2:BitVec.ofInt IntKind.u32.bits (b:Int)=BitVec.ofNat 32 b:=rfl
 rw [e1,e2]
 have e3:((BitVec.ofNat 32 a) ||| (BitVec.ofNat 32 b)).toNat=a ||| b:=by
  rw [BitVec.toNat_or,BitVec.toNat_ofNat,BitVec.toNat_ofNat,Nat.mod_eq_of_lt ha,Nat.mod_eq_of_lt hb]
 have e4:a ||| b<2^32:=Nat.or_lt_two_pow ha hb
 show wu32 ((((BitVec.ofNat 32 a) ||| (BitVec.ofNat 32 b)).toNat:Nat):Int)=_
 rw [e3,u32,Nat.mod_eq_of_lt (by unfold B;omega)]
theorem mlN (x s:Nat) (hs:s<64):(x:Int)*2^min (s:Int).toNat IntKind.u64.bits=((x*2^s:Nat):Int):=by
 rw [Int.toNat_natCast,show min s IntKind.u64.bits=s from Nat.min_eq_left (by show s≤64;omega)]
 norm_cast
theorem mlN32 (x s:Nat) (hs:s≤32):(x:Int)*2^min (s:Int).toNat IntKind.u32.bits=((x*2^s:Nat):Int):=by
 rw [Int.toNat_natCast,show min s IntKind.u32.bits=s from Nat.min_eq_left (by show s≤32;omega)]
 norm_cast
theorem shN32 (x s:Nat) (hs:s≤32):(x:Int).fdiv (2^min (s:Int).toNat IntKind.u32.bits)=((x/2^s:Nat):Int):=by
 rw [Int.toNat_natCast,show min s IntKind.u32.bits=s from Nat.min_eq_left (by show s≤32;omega),Int.fdiv_eq_ediv_of_nonneg _ (by exact_mod_cast Nat.zero_le _)]
 norm_cast
theorem Nc {s:Nat} (hs:s≤32):B=2^s*2^(32 - s):=by rw [←Nat.pow_add,show s+(32 - s)=32 by omega,B32]
theorem Rf {x c s:Nat} (hx:x<B) (hc:c<2^s) (hs:s<32):x*2^s+c<18446744073709551616∧(x*2^s+c)/B<2^s:=by
 have h1:=Nat.mul_le_mul_right (2^s) (show x+1≤B from hx)
 rw [Nat.add_mul,Nat.one_mul] at h1
 have h2:2^s≤2^31:=Nat.pow_le_pow_right (by decide) (by omega)
 constructor
 ·have:=Nat.mul_le_mul_left B h2
  unfold B at this h1
  omega
 ·rw [Nat.div_lt_iff_lt_mul (by decide)]
  rw [Nat.mul_comm B] at h1
  omega
theorem Sj (a:List Int) (ha:Dig a) (i:Nat) (hs:a.length<4294967296) (q:Nat) (hq:q+a.length<1099511627776):∀(d k n c:Nat) (out:List Int),a.length=k+d→d<n→c<2^(i%32)→out.length=q+k→Dig out→
  ∃(c':Nat) (out':List Int),Ce a (i:Int) n (c:Int) (k:Int) out=some ((c':Int),out')∧c' < B∧out'.length=q+a.length∧Dig out'∧val out' + B^(q+a.length)*c'=val out+B^(q+k)*(c+2^(i%32)*val (a.drop k)):=by
 intro d
 induction d with
 | zero=>
  intro k n c out hk hn hc ho hd
  obtain ⟨n,rfl⟩:∃j,n=j+1:=⟨n - 1,by omega⟩
  unfold Ce
  rw [if_neg (by omega)]
  exact ⟨c,out,rfl,Nat.lt_trans hc (by show 2^(i%32)<2^32;exact Nat.pow_lt_pow_right (by decide) (by omega)),by omega,hd,by rw [AB (by omega),hk,Nat.add_zero,Nat.mul_zero,Nat.add_zero]⟩
 | succ d ih=>
  intro k n c out hk hn hc ho hd
  obtain ⟨n,rfl⟩:∃j,n=j+1:=⟨n - 1,by omega⟩
  have h1:=Br ha k
  obtain ⟨h2,h3⟩:=Rf h1 hc (Nat.mod_lt i (by decide))
  have e1:bor .u64 (c:Int) (wu64 (wu64 ((el a k:Nat):Int)*2^min ((i:Int).tmod 32).toNat IntKind.u64.bits))=((el a k*2^(i%32)+c:Nat):Int):=by
   rw [tm32,u64c (el a k) (by unfold B at h1;omega),mlN _ _ (by omega),u64c _ (by omega),bor64 _ _ (by omega) (by omega),LV hc]
  unfold Ce
  rw [if_pos (by omega),Bd ha (by omega),sB,e1,tm32,gdB (by omega),u32,sh32,gdB (by simp;omega),w64n (n:=k+1) (by omega) (by omega)]
  obtain ⟨c',out',h5,h6,h7,h8,h9⟩:=ih (k+1) n ((el a k*2^(i%32)+c)/B) (out++[(((el a k*2^(i%32)+c)%B:Nat):Int)]) (by omega) (by omega) h3 (by simp;omega) (Iw hd (Nat.mod_lt _ (by decide)))
  refine ⟨c',out',h5,h6,h7,h8,?_⟩
  rw [h9,Ir,AK a k,ho,show q+(k+1)=q+k+1 by omega,pow_succ']
  have h10:=Nat.div_add_mod (el a k*2^(i%32)+c) B
  generalize (el a k*2^(i%32)+c)/B=x at h10 ⊢
  generalize (el a k*2^(i%32)+c)%B=r at h10 ⊢
  generalize 2^(i%32)=S at h10 ⊢
  generalize B^(q+k)=P
  grind
theorem rShl_l (a:List Int) (ha:Dig a) (i:Nat) (hs:a.length<4294967296) (q:Nat) (hq:q+a.length<1099511627776):∀(d k n c:Nat) (out:List Int),a.length=k+d→d<n→c<2^(i%32)→out.length=q+k→Dig out→
  ∃(c':Nat) (out':List Int),CB a (i:Int) n (c:Int) (k:Int) out=some ((c':Int),out')∧c' < B∧out'.length=q+a.length∧Dig out'∧val out' + B^(q+a.length)*c'=val out+B^(q+k)*(c+2^(i%32)*val (a.drop k)):=by
 intro d
 induction d with
 | zero=>
  intro k n c out hk hn hc ho hd
  obtain ⟨n,rfl⟩:∃j,n=j+1:=⟨n - 1,by omega⟩
  unfold CB
  rw [if_neg (by omega)]
  exact ⟨c,out,rfl,Nat.lt_trans hc (by show 2^(i%32)<2^32;exact Nat.pow_lt_pow_right (by decide) (by omega)),by omega,hd,by rw [AB (by omega),hk,Nat.add_zero,Nat.mul_zero,Nat.add_zero]⟩
 | succ d ih=>
  intro k n c out hk hn hc ho hd
  obtain ⟨n,rfl⟩:∃j,n=j+1:=⟨n - 1,by omega⟩
  have h1:=Br ha k
  obtain ⟨h2,h3⟩:=Rf h1 hc (Nat.mod_lt i (by decide))
  have e1:wu64 (wu64 (wu64 ((el a k:Nat):Int)*2^min ((i:Int).tmod 32).toNat IntKind.u64.bits)+(c:Int))=((el a k*2^(i%32)+c:Nat):Int):=by
   rw [tm32,u64c (el a k) (by unfold B at h1;omega),mlN _ _ (by omega),u64c _ (by omega),u64add _ c h2]
  unfold CB
  rw [if_pos (by omega),Bd ha (by omega),sB,e1,tm32,gdB (by omega),u32,sh32,gdB (by simp;omega),w64n (n:=k+1) (by omega) (by omega)]
  obtain ⟨c',out',h5,h6,h7,h8,h9⟩:=ih (k+1) n ((el a k*2^(i%32)+c)/B) (out++[(((el a k*2^(i%32)+c)%B:Nat):Int)]) (by omega) (by omega) h3 (by simp;omega) (Iw hd (Nat.mod_lt _ (by decide)))
  refine ⟨c',out',h5,h6,h7,h8,?_⟩
  rw [h9,Ir,AK a k,ho,show q+(k+1)=q+k+1 by omega,pow_succ']
  have h10:=Nat.div_add_mod (el a k*2^(i%32)+c) B
  generalize (el a k*2^(i%32)+c)/B=x at h10 ⊢
  generalize (el a k*2^(i%32)+c)%B=r at h10 ⊢
  generalize 2^(i%32)=S at h10 ⊢
  generalize B^(q+k)=P
  grind
theorem OL {a:List Int} {i c' v:Nat} (h:v+B^(i/32+a.length)*c'=0+B^(i/32+0)*(0+2^(i%32)*val (a.drop 0))):v+B^(i/32+a.length)*c'=val a*2^i:=by
 rw [h,pow32 i,List.drop_zero,Nat.zero_add,Nat.zero_add,Nat.add_zero,←Nat.mul_assoc,Nat.mul_comm]
theorem wShl {a:List Int} (ha:Dig a) (i:Nat) (hs:a.length<2147483648) (hi:i<68719476736):Bq a (i:Int)=some (limbs (val a*2^i)):=by
 unfold Bq
 by_cases h0:a.length=0
 ·obtain rfl:=List.eq_nil_of_length_eq_zero h0
  rw [if_pos (by simp),show val []=0 from rfl,Nat.zero_mul,BE]
 ·obtain ⟨c',out',h1,h2,h3,h4,h5⟩:=Sj a ha i (by omega) (i/32) (by omega) a.length 0 18446744073709551616 0 (List.replicate (i/32) 0) (by omega) (by omega) (Nat.pow_pos (by decide)) (by simp) (GH _)
  have h1':Ce a (i:Int) 18446744073709551616 0 0 (List.replicate (i/32) 0)=some ((c':Int),out'):=h1
  rw [Mk] at h5
  rw [if_neg (by omega),td32,w64n (x:=((i/32:Nat):Int)) (n:=i/32) rfl (by omega),w64n (x:=((i/32:Nat):Int)+(a.length:Int)) (n:=i/32+a.length) (by omega) (by omega),w64n (n:=i/32+a.length+1) (by omega) (by omega),gdB (by omega),Int.toNat_natCast,h1',sB]
  simp only
  rw [gdB (by simp;omega),u32,Nat.mod_eq_of_lt h2,wTrim (Iw h4 h2) (by simp;omega),sB,Ir,h3,OL h5]
theorem pl1S (x0:List Int) (x1:Int):∀n c k out,FR x0 x1 n c k out=CB x0 x1 n c k out:=by
 intro n
 induction n with
 | zero=>intro c k out;rfl
 | succ n ih=>intro c k out;unfold FR CB;simp only [ih]
theorem Sw {a:List Int} (ha:Dig a) (i:Nat) (hs:a.length<2147483648) (hi:i<68719476736) (h0:a.length≠0):GG a (i:Int)=some (limbs (val a*2^i)):=by
 unfold GG
 obtain ⟨c',out',h1,h2,h3,h4,h5⟩:=rShl_l a ha i (by omega) (i/32) (by omega) a.length 0 18446744073709551616 0 (List.replicate (i/32) 0) (by omega) (by omega) (Nat.pow_pos (by decide)) (by simp) (GH _)
 have h1':CB a (i:Int) 18446744073709551616 0 0 (List.replicate (i/32) 0)=some ((c':Int),out'):=h1
 rw [Mk] at h5
 rw [if_neg (by omega),td32,w64n (x:=((i/32:Nat):Int)) (n:=i/32) rfl (by omega),w64n (x:=((i/32:Nat):Int)+(a.length:Int)) (n:=i/32+a.length) (by omega) (by omega),w64n (n:=i/32+a.length+1) (by omega) (by omega),gdB (by omega),Int.toNat_natCast,pl1S,h1',sB]
 simp only
 rw [gdB (by simp;omega),u32,Nat.mod_eq_of_lt h2,rTrim_o (Iw h4 h2) (by simp;omega),sB,Ir,h3,OL h5]
def mv (a:List Int) (s k:Nat):Nat:=el a k/2^s+2^(32 - s)*(el a (k+1)%2^s)
theorem Sv {a:List Int} (ha:Dig a) {s:Nat} (hs:s<32) (k:Nat):mv a s k<B:=by
 have h1:=Br ha k
 have hB:=Nc (s:=s) (by omega)
 have h2:el a k/2^s<2^(32 - s):=by
  rw [Nat.div_lt_iff_lt_mul (Nat.pow_pos (by decide)),Nat.mul_comm,←hB];exact h1
 have h3:el a (k+1)%2^s<2^s:=Nat.mod_lt _ (Nat.pow_pos (by decide))
 unfold mv
 have h4:=Nat.mul_le_mul_left (2^(32 - s)) h3
 rw [Nat.mul_succ,Nat.mul_comm _ (2^s),←hB] at h4
 omega
theorem OO {a:List Int} {s:Nat} (hs:s≤32) (k:Nat):val (a.drop k)/2^s=mv a s k+B*(val (a.drop (k+1))/2^s):=by
 have hB:=Nc (s:=s) hs
 rw [AK a k,Qe _ _ _ hs]
 unfold mv
 have h1:val (a.drop (k+1))%2^s=el a (k+1)%2^s:=by
  rw [AK a (k+1),hB,Nat.mul_assoc,Nat.add_mul_mod_self_left]
 have h2:=Nat.div_add_mod (val (a.drop (k+1))) (2^s)
 rw [h1] at h2
 generalize val (a.drop (k+1))/2^s=D at h2 ⊢
 generalize el a (k+1)%2^s=M at h2 ⊢
 rw [←h2,hB]
 generalize 2^s=S
 generalize 2^(32 - s)=T
 grind
theorem rShr_l (a:List Int) (ha:Dig a) (i:Nat) (hs:a.length<4294967296):∀(d k n:Nat) (out:List Int),a.length=k+d→d<n→out.length≤k→Dig out→
  ∃(out':List Int),Dm a (i:Int) n (k:Int) out=some out'∧out'.length≤a.length∧Dig out'∧val out'=val out+B^out.length*(val (a.drop k)/2^(i%32)):=by
 intro d
 induction d with
 | zero=>
  intro k n out hk hn ho hd
  obtain ⟨n,rfl⟩:∃j,n=j+1:=⟨n - 1,by omega⟩
  unfold Dm
  rw [if_neg (by omega)]
  exact ⟨out,rfl,by omega,hd,by rw [AB (by omega),Nat.zero_div,Nat.mul_zero,Nat.add_zero]⟩
 | succ d ih=>
  intro k n out hk hn ho hd
  obtain ⟨n,rfl⟩:∃j,n=j+1:=⟨n - 1,by omega⟩
  have h1:=Br ha k
  have h2:=Br ha (k+1)
  have h3:=Sv ha (Nat.mod_lt i (by decide:32 > 0)) k
  have e1:wu32 ((wu64 (wu64 (((el a (k+1):Nat):Int)*2^min (32:Int).toNat IntKind.u64.bits)+((el a k:Nat):Int))).fdiv (2^min ((i:Int).tmod 32).toNat IntKind.u64.bits))=((mv a (i%32) k:Nat):Int):=by
   rw [ml32n,u64c _ (by unfold B at h2 ⊢;omega),u64add _ _ (by unfold B at h1 h2 ⊢;omega),tm32,shN _ _ (by omega),u32]
   congr 1
   rw [Nat.mul_comm,Nat.add_comm,Qe _ _ _ (by omega)]
   have hB:=Nc (s:=i%32) (by omega)
   have h4:=Nat.div_add_mod (el a (k+1)) (2^(i%32))
   have h5:el a k/2^(i%32)+2^(32 - i%32)*el a (k+1)=mv a (i%32) k+B*(el a (k+1)/2^(i%32)):=by
    unfold mv
    generalize el a (k+1)/2^(i%32)=D at h4 ⊢
    generalize el a (k+1)%2^(i%32)=M at h4 ⊢
    rw [←h4,hB]
    generalize 2^(i%32)=S
    generalize 2^(32 - i%32)=T
    grind
   rw [h5,Nat.add_mul_mod_self_left,Nat.mod_eq_of_lt h3]
  unfold Dm
  rw [if_pos (by omega),w64n (n:=k+1) (by omega) (by omega),rat ha,sB,rat ha,sB,e1,tm32,gdB (by omega),gdB (by simp;omega)]
  obtain ⟨out',h5,h7,h8,h9⟩:=ih (k+1) n (out++[((mv a (i%32) k:Nat):Int)]) (by omega) (by omega) (by simp;omega) (Iw hd h3)
  refine ⟨out',h5,h7,h8,?_⟩
  rw [h9,Ir,OO (by omega) k,List.length_append,List.length_singleton,pow_succ']
  generalize B^out.length=P
  grind
theorem rShr {a:List Int} (ha:Dig a) (i:Nat) (hs:a.length<4294967296) (hi:i<9223372036854775808):BW a (i:Int)=some (limbs (val a/2^i)):=by
 unfold BW
 rw [td32,w64n (x:=((i/32:Nat):Int)) (n:=i/32) rfl (by omega)]
 have e:val a/2^i=val (a.drop (i/32))/2^(i%32):=by rw [pow32 i,←Nat.div_div_eq_div_mul,KF ha]
 by_cases h:a.length≤i/32
 ·rw [if_pos (by omega),e,AB h,Nat.zero_div,BE]
 ·obtain ⟨out',h5,h7,h8,h9⟩:=rShr_l a ha i hs (a.length - i/32) (i/32) 18446744073709551616 [] (by omega) (by omega) (by simp) MQ
  rw [if_neg (by omega),h5,sB,rTrim h8 (by omega),sB,h9,e]
  simp [val]
theorem wShr_l (a:List Int) (x:List Int) (i:Nat) (ha:Dig a) (hs:a.length<4294967296) (hx:((List.drop (((wi64 ((i:Int).tdiv 32)):Int).toNat) x).take ((List.length x) - (((wi64 ((i:Int).tdiv 32)):Int).toNat)))=a):∀(d k n:Nat) (out:List Int),a.length=k+d→d<n→out.length=a.length→Dig out→
  ∃(out':List Int),Ek x (i:Int) n (k:Int) out=some out'∧out'.length=a.length∧Dig out'∧val out'=val (out.take k)+B^k*(val (a.drop k)/2^(i%32)):=by
 intro d
 induction d with
 | zero=>
  intro k n out hk hn ho hd
  obtain ⟨n,rfl⟩:∃j,n=j+1:=⟨n - 1,by omega⟩
  unfold Ek
  rw [hx,if_neg (by omega)]
  exact ⟨out,rfl,by omega,hd,by rw [AB (by omega),Nat.zero_div,Nat.mul_zero,Nat.add_zero,List.take_of_length_le (by omega)]⟩
 | succ d ih=>
  intro k n out hk hn ho hd
  obtain ⟨n,rfl⟩:∃j,n=j+1:=⟨n - 1,by omega⟩
  have h1:=Br ha k
  have h2:=Br ha (k+1)
  have hm:i%32<32:=Nat.mod_lt i (by decide)
  have h3:=Sv ha hm k
  have hB:=Nc (s:=i%32) (by omega)
  have h4:el a k/2^(i%32)<2^(32 - i%32):=by
   rw [Nat.div_lt_iff_lt_mul (Nat.pow_pos (by decide)),Nat.mul_comm,←hB];exact h1
  have h5:el a k/2^(i%32)<B:=Nat.lt_of_le_of_lt (Nat.div_le_self _ _) h1
  have hgo:∀f:List Int→Option (List Int),((if (wi64 ((k:Int)+1))<((List.length a:Int)) then some ((decide (0<(((i:Int).tmod 32))))) else some (false)).bind fun m1146=>
    (if m1146=true then (nth (List.set out ((k:Int)).toNat ((((el a k:Nat):Int)).fdiv (2^min ((i:Int).tmod 32).toNat IntKind.u32.bits))) (k:Int)).bind fun u1230=>
     (nth a ((wi64 ((k:Int)+1)))).bind fun u1239=>
     (gd (0≤((wi64 (32 - (((i:Int).tmod 32))))))).bind fun _=>
     (nth (List.set out ((k:Int)).toNat ((((el a k:Nat):Int)).fdiv (2^min ((i:Int).tmod 32).toNat IntKind.u32.bits))) (k:Int)).bind fun u1251=>
     some ((List.set (List.set out ((k:Int)).toNat ((((el a k:Nat):Int)).fdiv (2^min ((i:Int).tmod 32).toNat IntKind.u32.bits))) ((k:Int)).toNat (bor .u32 u1230 ((wu32 (u1239*2^min ((wi64 (32 - (((i:Int).tmod 32)))):Int).toNat IntKind.u32.bits)))))) else some ((List.set out ((k:Int)).toNat ((((el a k:Nat):Int)).fdiv (2^min ((i:Int).tmod 32).toNat IntKind.u32.bits))))).bind f)=f (out.set k ((mv a (i%32) k:Nat):Int)):=by
   intro f
   rw [tm32,shN32 _ _ (by omega),setn,w64n (n:=k+1) (by omega) (by omega)]
   have hd1:=Fm hd h5 k
   by_cases hk1:k+1<a.length
   ·rw [if_pos (by omega),sB]
    by_cases hz:i%32=0
    ·rw [if_neg (by simp [hz]),sB]
     congr 2
     unfold mv
     rw [hz,Nat.pow_zero,Nat.mod_one,Nat.mul_zero,Nat.add_zero]
    ·have e1:wu32 (((el a (k+1):Nat):Int)*2^min ((wi64 (32 - (((i%32:Nat):Int)))):Int).toNat IntKind.u32.bits)=((2^(32 - i%32)*(el a (k+1)%2^(i%32)):Nat):Int):=by
      rw [w64n (n:=32 - i%32) (by omega) (by omega),mlN32 _ _ (by omega),u32]
      congr 1
      rw [hB,Nat.mul_comm (el a (k+1)),Nat.mul_comm (2^(i%32)),Nat.mul_mod_mul_left]
     have e2:2^(32 - i%32)*(el a (k+1)%2^(i%32))<B:=Nat.lt_of_le_of_lt (Nat.le_add_left _ _) h3
     rw [if_pos (by simp;omega),Bd hd1 (by simp;omega),sB,Bd ha hk1,sB,gdB (by rw [w64n (n:=32 - i%32) (by omega) (by omega)];omega),sB,sB,e1,IE _ _ _ (by omega),if_pos rfl,bor32 _ _ h5 e2,Nat.mul_comm (2^(32 - i%32)),LV h4,setn,List.set_set]
     unfold mv
     rw [Nat.mul_comm (2^(32 - i%32)),Nat.add_comm]
   ·rw [if_neg (by omega),sB,if_neg (by decide),sB]
    congr 2
    unfold mv
    rw [Nz (k:=k+1) (by omega),Nat.zero_mod,Nat.mul_zero,Nat.add_zero]
  unfold Ek
  rw [hx,if_pos (by omega),Bd ha (by omega),sB,gdB (by rw [tm32];omega),Bd hd (by omega),sB]
  rw [hgo]
  rw [w64n (n:=k+1) (by omega) (by omega)]
  obtain ⟨out',h6,h7,h8,h9⟩:=ih (k+1) n (out.set k ((mv a (i%32) k:Nat):Int)) (by omega) (by omega) (by simp;omega) (Fm hd h3 k)
  refine ⟨out',h6,h7,h8,?_⟩
  rw [h9,Dl,List.take_set_of_le (Nat.le_refl _),IE _ _ _ (by omega),if_pos rfl,OO (by omega) k,pow_succ']
  generalize B^k=P
  grind
theorem wShr {a:List Int} (ha:Dig a) (i:Nat) (hs:a.length<4294967296) (hi:i<9223372036854775808):Ct a (i:Int)=some (limbs (val a/2^i)):=by
 have e:val a/2^i=val (a.drop (i/32))/2^(i%32):=by rw [pow32 i,←Nat.div_div_eq_div_mul,KF ha]
 unfold Ct
 have hx:((List.drop (((wi64 ((i:Int).tdiv 32)):Int).toNat) a).take ((List.length a) - (((wi64 ((i:Int).tdiv 32)):Int).toNat)))=a.drop (i/32):=by
  rw [td32,w64n (x:=((i/32:Nat):Int)) (n:=i/32) rfl (by omega),Int.toNat_natCast]
  exact List.take_of_length_le (by simp)
 rw [hx,td32,w64n (x:=((i/32:Nat):Int)) (n:=i/32) rfl (by omega)]
 by_cases h:a.length≤i/32
 ·rw [if_pos (by omega),e,AB h,Nat.zero_div,BE]
 ·obtain ⟨out',h5,h7,h8,h9⟩:=wShr_l (a.drop (i/32)) a i (HB ha _) (by simp;omega) hx (a.drop (i/32)).length 0 18446744073709551616 (List.replicate (a.drop (i/32)).length 0) (by omega) (by simp;omega) (by simp) (GH _)
  have h5':Ek a (i:Int) 18446744073709551616 0 (List.replicate (a.drop (i/32)).length 0)=some out':=h5
  rw [if_neg (by omega),gdB (by omega),gdB (by simp;omega),Int.toNat_natCast,h5',sB,wTrim h8 (by rw [h7];simp;omega),sB,h9,e]
  simp [val]
theorem Ni {r x b:Nat} (hr:r<b) (hx:x<B) (hb:b<B):r*B+x<18446744073709551616∧(r*B+x)/b<B∧(r*B+x)%b<b:=by
 have h0:0<b:=by omega
 refine ⟨by unfold B at *;omega,?_,Nat.mod_lt _ h0⟩
 rw [Nat.div_lt_iff_lt_mul h0]
 have:=Nat.mul_le_mul_right B (show r+1≤b from hr)
 rw [Nat.add_mul,Nat.one_mul,Nat.mul_comm b] at this
 omega
theorem NS {k b r a o q r1 Q' r' V X:Nat} (h1:b*q+r1=r*B+a) (h2:r1*B^k+V=b*Q' + r') (h3:o=Q' + B^k*(q+B*X)) :
  r*B^(k+1)+(V+B^k*a)=b*(Q' + B^k*q)+r'∧o=(Q' + B^k*q)+B^(k+1)*X:=by
 rw [pow_succ']
 generalize B^k=P at *
 constructor<;>grind
theorem PQ (a:List Int) (ha:Dig a) (hs:a.length<4294967296) (b:Nat) (hb:b<B):∀(k n r:Nat) (out:List Int),k<n→k≤a.length→r<b→out.length=a.length→Dig out→
  ∃(r' Q:Nat) (out':List Int),BU a (b:Int) n (r:Int) ((k:Int) - 1) out=some ((r':Int),out')∧r' < b∧out'.length=a.length∧Dig out'∧r*B^k+val (a.take k)=b*Q+r'∧val out'=Q+B^k*val (out.drop k):=by
 intro k
 induction k with
 | zero=>
  intro n r out hn hk hr ho hd
  obtain ⟨n,rfl⟩:∃j,n=j+1:=⟨n - 1,by omega⟩
  unfold BU
  rw [if_neg (by omega)]
  exact ⟨r,0,out,rfl,hr,ho,hd,by simp [val],by simp⟩
 | succ k ih=>
  intro n r out hn hk hr ho hd
  obtain ⟨n,rfl⟩:∃j,n=j+1:=⟨n - 1,by omega⟩
  have h1:=Br ha k
  obtain ⟨h2,h3,h4⟩:=Ni hr h1 hb
  have e1:bor .u64 (wu64 ((r:Int)*2^min (32:Int).toNat IntKind.u64.bits)) (wu64 ((el a k:Nat):Int))=((r*B+el a k:Nat):Int):=by
   rw [ml32n,u64c _ (by omega),u64c _ (by unfold B at h1;omega),bor64 _ _ (by omega) (by unfold B at h1;omega)]
   congr 1
   rw [Nat.or_comm]
   exact LV (s:=32) h1
  have eb:wu64 (b:Int)=(b:Int):=u64c b (by unfold B at hb;omega)
  have eq:(((r*B+el a k:Nat):Int)).tdiv (b:Int)=(((r*B+el a k)/b:Nat):Int):=rfl
  have em:(((r*B+el a k:Nat):Int)).tmod (b:Int)=(((r*B+el a k)%b:Nat):Int):=rfl
  unfold BU
  rw [show (((k+1:Nat):Int) - 1)=(k:Int) by omega,if_pos (by omega),Bd ha (by omega),sB,eb,gdB (by omega),gdB (by omega),Bd hd (by omega),sB,e1,eq,em,u64c ((r*B+el a k)/b) (by unfold B at h3 ⊢;omega),u32,Nat.mod_eq_of_lt h3,setn,w64 (by omega) (by omega)]
  obtain ⟨r',Q,out',g1,g2,g3,g4,g5,g6⟩:=ih n ((r*B+el a k)%b) (out.set k (((r*B+el a k)/b:Nat):Int)) (by omega) (by omega) h4 (by simp;omega) (Fm hd h3 k)
  rw [AK,IE _ _ _ (by omega),if_pos rfl,List.drop_set_of_lt (by omega)] at g6
  obtain ⟨g7,g8⟩:=NS (Nat.div_add_mod _ _) g5 g6
  exact ⟨r',_,out',g1,g2,g3,g4,by rw [Dl];exact g7,g8⟩
theorem NQ {a b Q r:Nat} (h:a=b*Q+r) (hr:r<b):Q=a/b∧r=a%b:=by
 have h0:0<b:=by omega
 subst h
 rw [Nat.mul_add_div h0,Nat.div_eq_of_lt hr,Nat.mul_add_mod,Nat.mod_eq_of_lt hr]
 omega
theorem wshort {a:List Int} (ha:Dig a) (hs:a.length<4294967296) (b:Nat) (hb:b<B) (h0:b≠0):GY a (b:Int)=some (limbs (val a/b),limbs (val a%b)):=by
 obtain ⟨r',Q,out',g1,g2,g3,g4,g5,g6⟩:=PQ a ha hs b hb a.length 18446744073709551616 0 (List.replicate a.length 0) (by omega) (Nat.le_refl _) (by omega) (by simp) (GH _)
 have g1':BU a (b:Int) 18446744073709551616 0 ((a.length:Int) - 1) (List.replicate a.length 0)=some ((r':Int),out'):=g1
 rw [Nat.zero_mul,Nat.zero_add,List.take_of_length_le (Nat.le_refl _)] at g5
 rw [AB (by simp),Nat.mul_zero,Nat.add_zero] at g6
 obtain ⟨g7,g8⟩:=NQ g5 g2
 unfold GY
 rw [gdB (by omega),w64 (by omega) (by omega),Int.toNat_natCast,g1',sB]
 simp only
 rw [wTrim g4 (by omega),sB,wOf r' (by unfold B at hb;omega),sB,g6,g7,g8]
theorem rshort_l (a:List Int) (ha:Dig a) (hs:a.length<4294967296) (b:Nat) (hb:b<B):∀(k n r:Nat) (out:List Int),k<n→k≤a.length→r<b→out.length=a.length→Dig out→
  ∃(r' Q:Nat) (out':List Int),Dz a (b:Int) n (r:Int) ((k:Int) - 1) out=some ((r':Int),out')∧r' < b∧out'.length=a.length∧Dig out'∧r*B^k+val (a.take k)=b*Q+r'∧val out'=Q+B^k*val (out.drop k):=by
 intro k
 induction k with
 | zero=>
  intro n r out hn hk hr ho hd
  obtain ⟨n,rfl⟩:∃j,n=j+1:=⟨n - 1,by omega⟩
  unfold Dz
  rw [if_neg (by omega)]
  exact ⟨r,0,out,rfl,hr,ho,hd,by simp [val],by simp⟩
 | succ k ih=>
  intro n r out hn hk hr ho hd
  obtain ⟨n,rfl⟩:∃j,n=j+1:=⟨n - 1,by omega⟩
  have h1:=Br ha k
  obtain ⟨h2,h3,h4⟩:=Ni hr h1 hb
  have e1:wu64 (wu64 ((r:Int)*2^min (32:Int).toNat IntKind.u64.bits)+wu64 ((el a k:Nat):Int))=((r*B+el a k:Nat):Int):=by
   rw [ml32n,u64c (r*B) (by omega),u64c (el a k) (by unfold B at h1;omega),u64add _ _ h2]
  have eb:wu64 (b:Int)=(b:Int):=u64c b (by unfold B at hb;omega)
  have eq:(((r*B+el a k:Nat):Int)).tdiv (b:Int)=(((r*B+el a k)/b:Nat):Int):=rfl
  have em:(((r*B+el a k:Nat):Int)).tmod (b:Int)=(((r*B+el a k)%b:Nat):Int):=rfl
  unfold Dz
  rw [show (((k+1:Nat):Int) - 1)=(k:Int) by omega,if_pos (by omega),Bd ha (by omega),sB,eb,gdB (by omega),Bd hd (by omega),sB,gdB (by omega),e1,eq,em,u64c ((r*B+el a k)/b) (by unfold B at h3 ⊢;omega),u32,Nat.mod_eq_of_lt h3,setn,w64 (by omega) (by omega)]
  obtain ⟨r',Q,out',g1,g2,g3,g4,g5,g6⟩:=ih n ((r*B+el a k)%b) (out.set k (((r*B+el a k)/b:Nat):Int)) (by omega) (by omega) h4 (by simp;omega) (Fm hd h3 k)
  rw [AK,IE _ _ _ (by omega),if_pos rfl,List.drop_set_of_lt (by omega)] at g6
  obtain ⟨g7,g8⟩:=NS (Nat.div_add_mod _ _) g5 g6
  exact ⟨r',_,out',g1,g2,g3,g4,by rw [Dl];exact g7,g8⟩
theorem rshort {a:List Int} (ha:Dig a) (hs:a.length<4294967296) (b:Nat) (hb:b<B) (h0:b≠0):HZ a (b:Int)=some ⟨limbs (val a/b),limbs (val a%b)⟩:=by
 obtain ⟨r',Q,out',g1,g2,g3,g4,g5,g6⟩:=rshort_l a ha hs b hb a.length 18446744073709551616 0 (List.replicate a.length 0) (by omega) (Nat.le_refl _) (by omega) (by simp) (GH _)
 have g1':Dz a (b:Int) 18446744073709551616 0 ((a.length:Int) - 1) (List.replicate a.length 0)=some ((r':Int),out'):=g1
 rw [Nat.zero_mul,Nat.zero_add,List.take_of_length_le (Nat.le_refl _)] at g5
 rw [AB (by simp),Nat.mul_zero,Nat.add_zero] at g6
 obtain ⟨g7,g8⟩:=NQ g5 g2
 unfold HZ
 rw [gdB (by omega),w64 (by omega) (by omega),Int.toNat_natCast,g1',sB]
 simp only
 rw [rTrim g4 (by omega),sB,rOf r' (by unfold B at hb;omega),sB,g6,g7,g8]
theorem MU {U V q top v1 lu lv P:Nat} (hU:U=top*P+lu) (hV:V=v1*P+lv) (hlu:lu<P) (hq:q*V≤U):q*v1≤top:=by
 have hP:0<P:=by omega
 have h1:q*v1*P≤top*P+lu:=by
  rw [←hU]
  refine Nat.le_trans ?_ hq
  rw [hV,Nat.mul_add,Nat.mul_assoc]
  exact Nat.le_add_right _ _
 have h2:q*v1*P<(top+1)*P:=by rw [Nat.add_mul,Nat.one_mul];omega
 exact Nat.le_of_lt_succ (Nat.lt_of_mul_lt_mul_right h2)
theorem OB {U V g rest top v1 v2 u2 lu lv P:Nat} (hU:U=(top*B+u2)*P+lu) (hV:V=(v1*B+v2)*P+lv) (hlu:lu<P) (ht:g*v1+rest=top) (hq:g*V≤U):g*v2≤rest*B+u2:=by
 have h1:=MU hU hV hlu hq
 subst ht
 have e1:g*(v1*B+v2)=g*v1*B+g*v2:=by rw [Nat.mul_add,Nat.mul_assoc]
 have e2:(g*v1+rest)*B=g*v1*B+rest*B:=by rw [Nat.add_mul]
 omega
theorem PL {U V g rest top v1 v2 u2 lu lv P:Nat} (hU:U=(top*B+u2)*P+lu) (hV:V=(v1*B+v2)*P+lv) (hlv:lv<P) (hg:g<B) (hv:B*P≤V) (ht:g*v1+rest=top) (h:g*v2≤rest*B+u2):g*V<U+V:=by
 subst ht
 have e1:g*(v1*B+v2)≤(g*v1+rest)*B+u2:=by
  rw [Nat.mul_add,Nat.add_mul,←Nat.mul_assoc];omega
 have e2:=Nat.mul_le_mul_right P e1
 have e3:g*V=g*(v1*B+v2)*P+g*lv:=by rw [hV,Nat.mul_add,Nat.mul_assoc]
 have e4:g*lv≤B*lv:=Nat.mul_le_mul_right _ (by omega)
 have e5:B*lv<B*P:=Nat.mul_lt_mul_of_pos_left hlv (by decide)
 omega
theorem PD {U V g rest top v1 lu lv P:Nat} (hU:U=top*P+lu) (hV:V=v1*P+lv) (hlv:lv<P) (hg:g≤B) (ht:g*v1+rest=top) (h:B≤rest):g*V≤U:=by
 subst ht
 have e3:g*V=g*v1*P+g*lv:=by rw [hV,Nat.mul_add,Nat.mul_assoc]
 have e4:g*lv≤B*lv:=Nat.mul_le_mul_right _ hg
 have e5:B*lv<B*P:=Nat.mul_lt_mul_of_pos_left hlv (by decide)
 have e6:=Nat.mul_le_mul_right P h
 rw [hU,Nat.add_mul]
 omega
theorem Ly {xs:List Int} {n:Nat} (h:xs.length=n+2):val xs=(el xs (n+1)*B+el xs n)*B^n+val (xs.take n):=by
 rw [Gc xs n (by omega),AK xs (n+1),AB (by omega)]
 generalize B^n=P
 grind
theorem wguess_l (u v:List Int) (hu:Dig u) (hv:Dig v) (n:Nat) (hn:v.length=n+2) (hl:u.length=n+3) (hs:v.length<4294967296) (htop:2147483648≤el v (n+1)) (top:Nat) (htp:top=el u (n+2)*B+el u (n+1)) (q:Nat) (hq1:q*val v≤val u) (hq2:val u<(q+1)*val v) (hqB:q<B) :
  ∀(k g r:Nat),g<q+k→q≤g→g≤B+1→r<B→g*el v (n+1)+r=top→∃g':Nat,Gn u v k (g:Int) (r:Int)=some (g':Int)∧q≤g'∧g'≤q+1∧g' < B:=by
 have hv1:=Br hv (n+1)
 have hv2:=Br hv n
 have hu2:=Br hu n
 have hV:val v=(el v (n+1)*B+el v n)*B^n+val (v.take n):=Ly hn
 have hU:val u=(top*B+el u n)*B^n+val (u.take n):=by
  rw [htp,Gc u n (by omega),AK u (n+1),AK u (n+2),AB (by omega)]
  generalize B^n=P
  grind
 have hlv:=CW hv n
 have hlu:=CW hu n
 have hVB:B*B^n≤val v:=by
  rw [hV,Nat.add_mul]
  have:=Nat.mul_le_mul_right (B*B^n) (show 1≤el v (n+1) by omega)
  rw [Nat.one_mul,←Nat.mul_assoc] at this
  omega
 intro k
 induction k with
 | zero=>intro g r hk hqg;omega
 | succ k ih=>
  intro g r hk hqg hgB hr ht
  have hgo:q<g→∃g':Nat,((nth v ((n+1:Nat):Int)).bind fun u921=>
    if 4294967296≤((wu64 ((r:Int)+((wu64 u921))))) then some ((wu64 ((g:Int) - 1))) else Gn u v k (wu64 ((g:Int) - 1)) (wu64 ((r:Int)+((wu64 u921)))))=some (g':Int)∧q≤g'∧g'≤q+1∧g' < B:=by
   intro hlt
   obtain ⟨g1,rfl⟩:∃j,g=j+1:=⟨g - 1,by omega⟩
   have e1:wu64 (((g1+1:Nat):Int) - 1)=(g1:Int):=u64 (by omega) (by unfold B at hgB;omega)
   have e2:g1*el v (n+1)+(r+el v (n+1))=top:=by rw [←ht,Nat.add_mul];omega
   rw [Bd hv (by omega),sB,u64c (el v (n+1)) (by unfold B at hv1;omega),u64add r (el v (n+1)) (by unfold B at hr hv1;omega),e1]
   by_cases hbr:B≤r+el v (n+1)
   ·rw [if_pos (by unfold B at hbr;omega)]
    have hU':val u=top*(B*B^n)+(el u n*B^n+val (u.take n)):=by rw [hU];generalize B^n=P;grind
    have hV':val v=el v (n+1)*(B*B^n)+(el v n*B^n+val (v.take n)):=by rw [hV];generalize B^n=P;grind
    have hlv':el v n*B^n+val (v.take n)<B*B^n:=by
     have:=Nat.mul_le_mul_right (B^n) (show el v n+1≤B from hv2)
     rw [Nat.add_mul,Nat.one_mul] at this
     omega
    have h1:=PD (g:=g1) (rest:=r+el v (n+1)) hU' hV' hlv' (by omega) e2 hbr
    have h2:g1<q+1:=Nat.lt_of_mul_lt_mul_right (Nat.lt_of_le_of_lt h1 hq2)
    exact ⟨g1,rfl,by omega,by omega,by omega⟩
   ·rw [if_neg (by unfold B at hbr;omega)]
    exact ih g1 (r+el v (n+1)) (by omega) (by omega) (by omega) (by omega) e2
  have el1:wi64 ((List.length v:Int) - 1)=((n+1:Nat):Int):=w64n (by omega) (by omega)
  have el2:wi64 ((List.length v:Int) - 2)=(n:Int):=w64n (by omega) (by omega)
  unfold Gn
  rw [el1,el2]
  by_cases hc1:B≤g
  ·rw [if_pos (by unfold B at hc1;omega),sB,if_pos rfl]
   exact hgo (by omega)
  ·have h3:g*el v n<18446744073709551616:=by
    have:=Nat.mul_le_mul (show g≤4294967295 by unfold B at hc1;omega) (show el v n≤4294967295 by unfold B at hv2;omega)
    omega
   have e3:bor .u64 (wu64 ((r:Int)*2^min (32:Int).toNat IntKind.u64.bits)) (wu64 ((el u n:Nat):Int))=((r*B+el u n:Nat):Int):=by
    rw [ml32n,u64c (r*B) (by unfold B at hr ⊢;omega),u64c (el u n) (by unfold B at hu2;omega),bor64 _ _ (by unfold B at hr ⊢;omega) (by unfold B at hu2;omega),Nat.or_comm,B32]
    congr 1
    exact LV (s:=32) (by unfold B at hu2;omega)
   rw [if_neg (by unfold B at hc1;omega),Bd hv (by omega),sB,Bd hu (by omega),sB,sB,e3,u64c (el v n) (by unfold B at hv2;omega),u64mul g (el v n) h3]
   by_cases hc2:r*B+el u n<g*el v n
   ·rw [if_pos (by simp only [decide_eq_true_eq];omega)]
    refine hgo ?_
    rcases Nat.lt_or_ge q g with h | h
    ·exact h
    ·obtain rfl:g=q:=by omega
     have:=OB (rest:=r) hU hV hlu ht hq1
     omega
   ·rw [if_neg (by simp only [decide_eq_true_eq];omega)]
    have h4:=PL (rest:=r) hU hV hlv (by omega) hVB ht (by omega)
    refine ⟨g,rfl,hqg,?_,by omega⟩
    have h5:g*val v<(q+2)*val v:=by
     rw [show q+2=q+1+1 by omega,Nat.add_mul (q+1),Nat.one_mul]
     omega
    have:=Nat.lt_of_mul_lt_mul_right h5
    omega
theorem wsubm_l (x0 v:List Int) (hv:Dig v) (hs:v.length<4294967296) (g:Nat) (hg:g<B):∀(d k n b c:Nat) (u:List Int),v.length=k+d→d<n→b≤1→c<B→v.length<u.length→Dig u→
  ∃(b' c':Nat) (u':List Int),Fw x0 v (g:Int) n (b:Int) (c:Int) (k:Int) u=some ((b':Int),(c':Int),u')∧b'≤1∧c' < B∧u'.length=u.length∧Dig u'∧val u' + B^k*(b+c+g*val (v.drop k))=val u+B^v.length*(b' + c'):=by
 intro d
 induction d with
 | zero=>
  intro k n b c u hk hn hb hc hl hd
  obtain ⟨n,rfl⟩:∃j,n=j+1:=⟨n - 1,by omega⟩
  unfold Fw
  rw [if_neg (by omega)]
  exact ⟨b,c,u,rfl,hb,hc,rfl,hd,by rw [AB (by omega),hk,Nat.add_zero,Nat.mul_zero,Nat.add_zero]⟩
 | succ d ih=>
  intro k n b c u hk hn hb hc hl hd
  obtain ⟨n,rfl⟩:∃j,n=j+1:=⟨n - 1,by omega⟩
  have h1:=Br hd k
  have h2:=Br hv k
  have h3:=Mf hg h2 hc (by decide:0<B)
  have h4:=NN hg h2 hc (by decide:0<B)
  rw [Nat.add_zero] at h3 h4
  have h5:(c+g*el v k)%B<B:=Nat.mod_lt _ (by decide)
  have ey:wu64 (wu64 (wu32 (wu64 ((c:Int)+wu64 ((g:Int)*wu64 ((el v k:Nat):Int)))))+(b:Int))=(((c+g*el v k)%B+b:Nat):Int):=by
   rw [u64c (el v k) (by unfold B at h2;omega),u64mul g (el v k) (by omega),u64add c (g*el v k) h3,u32,u64c ((c+g*el v k)%B) (by unfold B at h5 ⊢;omega),u64add _ _ (by unfold B at h5 ⊢;omega)]
  have ec:(wu64 ((c:Int)+wu64 ((g:Int)*wu64 ((el v k:Nat):Int)))).fdiv (2^min (32:Int).toNat IntKind.u64.bits)=(((c+g*el v k)/B:Nat):Int):=by
   rw [u64c (el v k) (by unfold B at h2;omega),u64mul g (el v k) (by omega),u64add c (g*el v k) h3,sh32]
  have hc2:∀f:Int→Option (Int × Int × List Int),(if ((el u k:Nat):Int)<(((c+g*el v k)%B+b:Nat):Int) then some (1:Int) else some (0:Int)).bind f=f (((if el u k<(c+g*el v k)%B+b then 1 else 0:Nat)):Int):=by
   intro f
   by_cases h:el u k<(c+g*el v k)%B+b
   ·rw [if_pos (by omega),if_pos h];rfl
   ·rw [if_neg (by omega),if_neg h];rfl
  have hr:wu32 (((el u k:Nat):Int) - wu32 ((((c+g*el v k)%B+b:Nat):Int)))=(((el u k+2*B - ((c+g*el v k)%B+b))%B:Nat):Int):=by
   show IntKind.u32.wrap (_ - IntKind.u32.wrap _)=_
   rw [IntKind.wrap_u32,IntKind.wrap_u32]
   unfold B at *
   omega
  unfold Fw
  rw [if_pos (by omega),Bd hv (by omega),sB,Bd hd (by omega),sB,ey,ec,u64c (el u k) (by unfold B at h1;omega),hc2,sB,sB,hr,w64n (n:=k+1) (by omega) (by omega),setn]
  obtain ⟨b',c',u',g3,g4,g5,g6,g7,g8⟩:=ih (k+1) n (if el u k<(c+g*el v k)%B+b then 1 else 0) ((c+g*el v k)/B) (u.set k (((el u k+2*B - ((c+g*el v k)%B+b))%B:Nat):Int)) (by omega) (by omega) (by split<;>omega) h4 (by simp;omega) (Fm hd (Nat.mod_lt _ (by decide)) k)
  refine ⟨b',c',u',g3,g4,g5,by rw [g6];simp,g7,?_⟩
  have h8:=IS hd k ((el u k+2*B - ((c+g*el v k)%B+b))%B) (by omega)
  have h9:el u k+B*(if el u k<(c+g*el v k)%B+b then 1 else 0)=(el u k+2*B - ((c+g*el v k)%B+b))%B+((c+g*el v k)%B+b):=by
   unfold B at *
   split<;>omega
  have h10:=Nat.div_add_mod (c+g*el v k) B
  rw [AK v k]
  rw [pow_succ'] at g8
  generalize (if el u k<(c+g*el v k)%B+b then 1 else 0)=b1 at g8 h9
  generalize (el u k+2*B - ((c+g*el v k)%B+b))%B=r at g8 h8 h9
  generalize (c+g*el v k)%B=lo at h9 h10
  generalize (c+g*el v k)/B=hi at g8 h10
  generalize val (u.set k (r:Int))=V at g8 h8
  generalize B^k=P at g8 h8 ⊢
  generalize B^v.length=L at g8 ⊢
  grind
theorem wback_l (x0 v:List Int) (hv:Dig v) (hs:v.length<4294967296):∀(d k n c:Nat) (u:List Int),v.length=k+d→d<n→c≤1→v.length<u.length→Dig u→
  ∃(c':Nat) (u':List Int),Fs x0 v n (c:Int) (k:Int) u=some ((c':Int),u')∧c'≤1∧u'.length=u.length∧Dig u'∧val u' + B^v.length*c'=val u+B^k*(c+val (v.drop k)):=by
 intro d
 induction d with
 | zero=>
  intro k n c u hk hn hc hl hd
  obtain ⟨n,rfl⟩:∃j,n=j+1:=⟨n - 1,by omega⟩
  unfold Fs
  rw [if_neg (by omega)]
  exact ⟨c,u,rfl,hc,rfl,hd,by rw [AB (by omega),hk,Nat.add_zero,Nat.add_zero]⟩
 | succ d ih=>
  intro k n c u hk hn hc hl hd
  obtain ⟨n,rfl⟩:∃j,n=j+1:=⟨n - 1,by omega⟩
  have h1:=Br hd k
  have h2:=Br hv k
  have e1:wu64 ((c:Int)+wu64 (wu64 ((el u k:Nat):Int)+wu64 ((el v k:Nat):Int)))=((c+(el u k+el v k):Nat):Int):=by
   rw [u64c (el u k) (by unfold B at h1;omega),u64c (el v k) (by unfold B at h2;omega),u64add (el u k) (el v k) (by unfold B at h1 h2;omega),u64add c (el u k+el v k) (by unfold B at h1 h2;omega)]
  unfold Fs
  rw [if_pos (by omega),Bd hv (by omega),sB,Bd hd (by omega),sB,sB,e1,sh32,u32,w64n (n:=k+1) (by omega) (by omega),setn]
  obtain ⟨c',u',g3,g4,g5,g6,g7⟩:=ih (k+1) n ((c+(el u k+el v k))/B) (u.set k (((c+(el u k+el v k))%B:Nat):Int)) (by omega) (by omega) (by unfold B at *;omega) (by simp;omega) (Fm hd (Nat.mod_lt _ (by decide)) k)
  refine ⟨c',u',g3,g4,by rw [g5];simp,g6,?_⟩
  have h8:=IS hd k ((c+(el u k+el v k))%B) (by omega)
  have h10:=Nat.div_add_mod (c+(el u k+el v k)) B
  rw [AK v k]
  rw [pow_succ'] at g7
  generalize (c+(el u k+el v k))%B=lo at g7 h8 h10
  generalize (c+(el u k+el v k))/B=hi at g7 h10
  generalize val (u.set k (lo:Int))=V at g7 h8
  generalize B^k=P at g7 h8 ⊢
  generalize B^v.length=L at g7 ⊢
  grind
theorem wdigit {u v:List Int} (hu:Dig u) (hv:Dig v) (n:Nat) (hn:v.length=n+2) (hl:u.length=n+3) (hs:v.length<4294967296) (htop:2147483648≤el v (n+1)) (hlt:val u<B*val v) :
  ∃u',Jf u v=some (((val u/val v:Nat):Int),u')∧u'.length=u.length∧Dig u'∧val u'=val u%val v:=by
 have hv1:=Br hv (n+1)
 have hu1:=Br hu (n+1)
 have hu0:=Br hu (n+2)
 have hVpos:0<val v:=by
  rcases Nat.eq_zero_or_pos (val v) with h | h
  ·rw [h] at hlt;omega
  ·exact h
 have hqB:val u/val v<B:=(Nat.div_lt_iff_lt_mul hVpos).2 hlt
 have hq1:val u/val v*val v≤val u:=Nat.div_mul_le_self _ _
 have hq2:val u<(val u/val v+1)*val v:=by
  have:=Nat.lt_div_mul_add (a:=val u) hVpos
  rw [Nat.add_mul,Nat.one_mul];exact this
 have htv:el u (n+2)≤el v (n+1):=by
  rcases Nat.lt_or_ge (el v (n+1)) (el u (n+2)) with h | h
  ·have h1:val v<(el v (n+1)+1)*(B*B^n):=by
    rw [Ly hn]
    have h2:=CW hv n
    have h3:=Nat.mul_le_mul_right (B^n) (show el v n+1≤B from Br hv n)
    rw [Nat.add_mul,Nat.one_mul] at h3
    rw [Nat.add_mul,Nat.add_mul,Nat.one_mul,Nat.mul_assoc]
    omega
   have h2:el u (n+2)*(B*(B*B^n))≤val u:=by
    rw [Gc u n (by omega),AK u (n+1),AK u (n+2),AB (by omega)]
    generalize B^n=P
    have e:val (u.take n)+P*(el u n+B*(el u (n+1)+B*(el u (n+2)+B*0)))=el u (n+2)*(B*(B*P))+(val (u.take n)+P*el u n+P*B*el u (n+1)):=by grind
    omega
   have h3:=Nat.mul_le_mul_right (B*(B*B^n)) h
   have h4:=Nat.mul_lt_mul_of_pos_left h1 (show 0<B by decide)
   have e:B*((el v (n+1)+1)*(B*B^n))=(el v (n+1)).succ*(B*(B*B^n)):=by generalize B^n=P;grind
   omega
  ·exact h
 have hg0:(el u (n+2)*B+el u (n+1))/el v (n+1)≤B+1:=by
  have h1:(el u (n+2)*B+el u (n+1))<(B+2)*el v (n+1):=by
   have h2:=Nat.mul_le_mul_right B htv
   have e:(B+2)*el v (n+1)=el v (n+1)*B+2*el v (n+1):=by grind
   unfold B at *;omega
  have:=(Nat.div_lt_iff_lt_mul (show 0<el v (n+1) by omega)).2 h1
  omega
 have hqg:val u/val v≤(el u (n+2)*B+el u (n+1))/el v (n+1):=by
  rw [Nat.le_div_iff_mul_le (by omega)]
  have hU':val u=(el u (n+2)*B+el u (n+1))*(B*B^n)+(el u n*B^n+val (u.take n)):=by
   rw [Gc u n (by omega),AK u (n+1),AK u (n+2),AB (by omega)]
   generalize B^n=P
   grind
  have hV':val v=el v (n+1)*(B*B^n)+(el v n*B^n+val (v.take n)):=by rw [Ly hn];generalize B^n=P;grind
  refine MU hU' hV' ?_ hq1
  have h2:=CW hu n
  have h3:=Nat.mul_le_mul_right (B^n) (show el u n+1≤B from Br hu n)
  rw [Nat.add_mul,Nat.one_mul] at h3
  omega
 obtain ⟨g,g1,g2,g3,g4⟩:=wguess_l u v hu hv n hn hl hs htop _ rfl (val u/val v) hq1 hq2 hqB 18446744073709551616 ((el u (n+2)*B+el u (n+1))/el v (n+1)) ((el u (n+2)*B+el u (n+1))%el v (n+1)) (Nat.lt_of_lt_of_le (Nat.lt_of_le_of_lt hg0 (by unfold B;omega)) (Nat.le_add_left _ _)) hqg hg0 (Nat.lt_trans (Nat.mod_lt _ (by omega)) hv1) (by rw [Nat.mul_comm];exact Nat.div_add_mod _ _)
 obtain ⟨b',c',o1,k1,k2,k3,k4,k5,k6⟩:=wsubm_l u v hv hs g g4 v.length 0 18446744073709551616 0 0 u (by omega) (by omega) (by omega) (by decide) (by omega) hu
 have k1':Fw u v (g:Int) 18446744073709551616 0 0 0 u=some ((b':Int),(c':Int),o1):=k1
 rw [Nat.pow_zero,Nat.one_mul,List.drop_zero,Nat.zero_add] at k6
 have et:bor .u64 (wu64 (wu64 ((el u (n+2):Nat):Int)*2^min (32:Int).toNat IntKind.u64.bits)) (wu64 ((el u (n+1):Nat):Int))=((el u (n+2)*B+el u (n+1):Nat):Int):=by
  rw [u64c (el u (n+2)) (by unfold B at hu0;omega),ml32n,u64c (el u (n+2)*B) (by unfold B at hu0 ⊢;omega),u64c (el u (n+1)) (by unfold B at hu1;omega),bor64 _ _ (by unfold B at hu0 ⊢;omega) (by unfold B at hu1;omega),Nat.or_comm,B32]
  congr 1
  exact LV (s:=32) (by unfold B at hu1;omega)
 have ev:wu64 ((el v (n+1):Nat):Int)=((el v (n+1):Nat):Int):=u64c _ (by unfold B at hv1;omega)
 have eq:wu64 ((((el u (n+2)*B+el u (n+1):Nat)):Int).tdiv ((el v (n+1):Nat):Int))=(((el u (n+2)*B+el u (n+1))/el v (n+1):Nat):Int):=u64 rfl (by unfold B at *;omega)
 have em:(((el u (n+2)*B+el u (n+1):Nat)):Int).tmod ((el v (n+1):Nat):Int)=(((el u (n+2)*B+el u (n+1))%el v (n+1):Nat):Int):=rfl
 have el1:wi64 ((List.length v:Int) - 1)=((n+1:Nat):Int):=w64n (by omega) (by omega)
 have elv:(List.length v:Int)=((n+2:Nat):Int):=by omega
 have ho1:=Br k5 (n+2)
 have ey:wu64 ((c':Int)+(b':Int))=((c' + b':Nat):Int):=u64add c' b' (by unfold B at k3;omega)
 have hr:wu32 (((el o1 (n+2):Nat):Int) - wu32 (((c' + b':Nat):Int)))=(((el o1 (n+2)+2*B - (c' + b'))%B:Nat):Int):=by
  show IntKind.u32.wrap (_ - IntKind.u32.wrap _)=_
  rw [IntKind.wrap_u32,IntKind.wrap_u32]
  unfold B at *
  omega
 have ks:=IS k5 (n+2) ((el o1 (n+2)+2*B - (c' + b'))%B) (by omega)
 have kd:=Fm k5 (Nat.mod_lt (el o1 (n+2)+2*B - (c' + b')) (show 0<B by decide)) (n+2)
 have kl:val (o1.set (n+2) (((el o1 (n+2)+2*B - (c' + b'))%B:Nat):Int))<B^(n+3):=by
  have:=EJ kd
  rw [List.length_set,k4,hl] at this
  exact this
 unfold Jf
 rw [el1,elv,Bd hu (by omega),sB,Bd hu (by omega),sB,Bd hv (by omega),sB,ev,gdB (by omega),sB,ev,gdB (by omega),et,eq,em,g1,sB,k1',sB]
 simp only
 rw [Bd k5 (by omega),sB,sB,sB,ey,hr,setn,u64c (el o1 (n+2)) (by unfold B at ho1;omega)]
 rw [hn] at k6
 have hdm:=Nat.div_add_mod (val u) (val v)
 by_cases hsh:el o1 (n+2)<c' + b'
 ·
  have h9:el o1 (n+2)+B=(el o1 (n+2)+2*B - (c' + b'))%B+(c' + b'):=by unfold B at *;omega
  generalize (el o1 (n+2)+2*B - (c' + b'))%B=r at *
  obtain ⟨c3,o2,j1,j2,j3,j4,j5⟩:=wback_l u v hv hs v.length 0 18446744073709551616 0 (o1.set (n+2) (r:Int)) (by omega) (by omega) (by omega) (by simp;omega) kd
  have j1':Fs u v 18446744073709551616 0 0 (o1.set (n+2) (r:Int))=some ((c3:Int),o2):=j1
  rw [Nat.pow_zero,Nat.one_mul,List.drop_zero,Nat.zero_add,hn] at j5
  have ho2:=Br j4 (n+2)
  have hlo2:o2.length=n+3:=by rw [j3,List.length_set];omega
  have hr3:wu32 (((el o2 (n+2):Nat):Int)+wu32 ((c3:Nat):Int))=(((el o2 (n+2)+c3)%B:Nat):Int):=by
   rw [u32,Nat.mod_eq_of_lt (by unfold B;omega)]
   exact u32' (by omega)
  have jd:=Fm j4 (Nat.mod_lt (el o2 (n+2)+c3) (show 0<B by decide)) (n+2)
  have js:=IS j4 (n+2) ((el o2 (n+2)+c3)%B) (by omega)
  have jl:=EJ jd
  rw [List.length_set,hlo2] at jl
  have hgq:val u<g*val v:=by
   rw [show n+3=n+2+1 by omega,pow_succ'] at kl
   generalize B^(n+2)=P at *
   have:val (o1.set (n+2) (r:Int))+g*val v=val u+P*B:=by grind
   omega
  have hg1:g=val u/val v+1:=by
   rcases Nat.lt_or_ge (val u/val v) g with h | h
   ·omega
   ·have:=Nat.mul_le_mul_right (val v) h;omega
  have e6:wu64 ((g:Int) - 1)=((val u/val v:Nat):Int):=u64 (by omega) (by unfold B at hqB;omega)
  rw [if_pos (by omega),j1',sB]
  simp only
  rw [Bd j4 (by omega),sB,sB,hr3,setn,e6,sB]
  refine ⟨_,by rw [u32,Nat.mod_eq_of_lt hqB],by simp;omega,jd,?_⟩
  have hx:el o2 (n+2)+c3=(el o2 (n+2)+c3)%B+B*((el o2 (n+2)+c3)/B):=(Nat.mod_add_div _ _).symm
  have hz:(el o2 (n+2)+c3)/B≤1:=by unfold B at *;omega
  have hgv:g*val v=val u/val v*val v+val v:=by rw [hg1,Nat.add_mul,Nat.one_mul]
  generalize (el o2 (n+2)+c3)/B=z at hx hz
  generalize (el o2 (n+2)+c3)%B=y at *
  rw [show n+3=n+2+1 by omega,pow_succ'] at jl
  rw [Nat.mul_comm] at hdm
  generalize B^(n+2)=P at *
  have e7:val (o2.set (n+2) (y:Int))+P*B*z=val u%val v+P*B:=by grind
  rcases Nat.eq_zero_or_pos z with h | h
  ·subst h;omega
  ·obtain rfl:z=1:=by omega
   omega
 ·have h9:el o1 (n+2)=(el o1 (n+2)+2*B - (c' + b'))%B+(c' + b'):=by unfold B at *;omega
  generalize (el o1 (n+2)+2*B - (c' + b'))%B=r at *
  rw [if_neg (by omega),sB]
  have e8:val (o1.set (n+2) (r:Int))+g*val v=val u:=by
   generalize B^(n+2)=P at *
   grind
  have hg1:g=val u/val v:=by
   have h:=Nat.lt_of_mul_lt_mul_right (a:=val v) (show g*val v<(val u/val v+1)*val v by omega)
   omega
  refine ⟨_,by rw [u32,Nat.mod_eq_of_lt g4,hg1],by simp;omega,kd,?_⟩
  rw [Nat.mul_comm] at hdm
  rw [hg1] at e8
  omega
theorem Jc {xs:List Int} (h:Dig xs) {k:Nat} (hv:val xs<B^k):val (xs.take k)=val xs∧val (xs.drop k)=0:=by
 rcases Nat.lt_or_ge k xs.length with hk | hk
 ·have e:=Hy xs k (by omega)
  have h0:val (xs.drop k)=0:=by
   rcases Nat.eq_zero_or_pos (val (xs.drop k)) with h1 | h1
   ·exact h1
   ·have:=Nat.mul_le_mul_left (B^k) h1
    omega
  rw [h0,Nat.mul_zero,Nat.add_zero] at e
  exact ⟨e.symm,h0⟩
 ·rw [List.take_of_length_le hk,List.drop_eq_nil_of_le hk];exact ⟨rfl,rfl⟩
theorem wdiv_l (x0 x1 v:List Int) (hv:Dig v) (n:Nat) (hn:v.length=n+2) (hs:v.length<4294967296) (htop:2147483648≤el v (n+1)):∀(k f:Nat) (qs u:List Int),k<f→k≤qs.length→k+v.length≤u.length→u.length<4294967297→Dig qs→Dig u→val (u.drop k)<val v→
  ∃(Q:Nat) (qs' u':List Int),Fh x0 x1 v f ((k:Int) - 1) qs u=some (qs',u')∧qs'.length=qs.length∧u'.length=u.length∧Dig qs'∧Dig u'∧val u=val v*Q+val u'∧val u' < val v∧val qs'=Q+B^k*val (qs.drop k):=by
 intro k
 induction k with
 | zero=>
  intro f qs u hf hq hl hlu hdq hdu hlt
  obtain ⟨f,rfl⟩:∃j,f=j+1:=⟨f - 1,by omega⟩
  unfold Fh
  rw [if_neg (by omega)]
  rw [List.drop_zero] at hlt
  exact ⟨0,qs,u,rfl,rfl,rfl,hdq,hdu,by simp,hlt,by simp⟩
 | succ k ih=>
  intro f qs u hf hq hl hlu hdq hdu hlt
  obtain ⟨f,rfl⟩:∃j,f=j+1:=⟨f - 1,by omega⟩
  have ehi:wi64 (wi64 ((k:Int)+(List.length v:Int))+1)=((k+v.length+1:Nat):Int):=by
   rw [w64n (x:=(k:Int)+(List.length v:Int)) (n:=k+v.length) (by omega) (by omega),w64n (n:=k+v.length+1) (by omega) (by omega)]
  have hwd:Dig ((u.drop k).take (n+3)):=It (HB hdu k) _
  have hwl:((u.drop k).take (n+3)).length=n+3:=by simp;omega
  have hdr:val (u.drop k)<B*val v:=by
   rw [AK]
   have h1:=Br hdu k
   have h2:=Nat.mul_le_mul_left B (show val (u.drop (k+1))+1≤val v from hlt)
   rw [Nat.mul_add,Nat.mul_one] at h2
   omega
  have hvb:=EJ hv
  rw [hn] at hvb
  have hw3:val (u.drop k)<B^(n+3):=by
   rw [show n+3=n+2+1 by omega,pow_succ',Nat.mul_comm]
   exact Nat.lt_trans hdr (Nat.mul_lt_mul_of_pos_left hvb (by decide))
  obtain ⟨hw1,hw2⟩:=Jc (HB hdu k) hw3
  obtain ⟨r,g1,g2,g3,g4⟩:=wdigit hwd hv n hn hwl hs htop (by rw [hw1];exact hdr)
  rw [hw1] at g1 g4
  have hVpos:0<val v:=by omega
  have hqB:val (u.drop k)/val v<B:=(Nat.div_lt_iff_lt_mul hVpos).2 hdr
  have hdu1:Dig (u.take k++r++u.drop (k+v.length+1)):=by
   rw [Hp,Hp]
   exact ⟨⟨It hdu k,g3⟩,HB hdu _⟩
  have hlk:(u.take k).length=k:=by simp;omega
  have hdrop:(u.take k++r++u.drop (k+v.length+1)).drop k=r++u.drop (k+v.length+1):=by
   rw [List.append_assoc,List.drop_append_of_le_length (by omega),List.drop_eq_nil_of_le (by omega),List.nil_append]
  have hz:val (u.drop (k+v.length+1))=0:=by
   rw [List.drop_drop] at hw2
   rw [show k+v.length+1=k+(n+3) by omega]
   exact hw2
  have hval1:val ((u.take k++r++u.drop (k+v.length+1)).drop k)=val (u.drop k)%val v:=by
   rw [hdrop,HR,hz,Nat.mul_zero,Nat.add_zero,g4]
  obtain ⟨Q,qs',u',j1,j2,j3,j4,j5,j6,j7,j8⟩:=ih f (qs.set k ((val (u.drop k)/val v:Nat):Int)) (u.take k++r++u.drop (k+v.length+1)) (by omega) (by simp;omega) (by simp;omega) (by simp;omega) (Fm hdq hqB k) hdu1 (by rw [hval1];exact Nat.mod_lt _ hVpos)
  unfold Fh
  rw [show (((k+1:Nat):Int) - 1)=(k:Int) by omega,if_pos (by omega),ehi,gdB (by omega),Int.toNat_natCast,Int.toNat_natCast,show k+v.length+1 - k=n+3 by omega,g1,sB,Bd hdq (by omega),sB]
  simp only
  rw [w64 (by omega) (by omega),j1]
  refine ⟨Q+B^k*(val (u.drop k)/val v),qs',u',rfl,by rw [j2];simp,by rw [j3];simp;omega,j4,j5,?_,j7,?_⟩
  ·have e1:val (u.take k++r++u.drop (k+v.length+1))=val (u.take k)+B^k*(val (u.drop k)%val v):=by
    rw [Hy _ k (by simp;omega),hval1]
    congr 2
    rw [List.append_assoc,List.take_append_of_le_length (by omega),List.take_of_length_le (by omega)]
   rw [e1] at j6
   rw [Hy u k (by omega)]
   have hdm:=Nat.div_add_mod (val (u.drop k)) (val v)
   generalize val (u.drop k)/val v=q at *
   generalize val (u.drop k)%val v=m at *
   generalize B^k=P at *
   grind
  ·rw [j8,AK,IE _ _ _ (by omega),if_pos rfl,List.drop_set_of_lt (by omega),pow_succ']
   generalize B^k=P
   grind
theorem Qa {a b S Q R:Nat} (hS:0<S) (h:a*S=b*S*Q+R) (hR:R<b*S):Q=a/b∧R/S=a%b:=by
 have hb:0<b:=by
  rcases Nat.eq_zero_or_pos b with h0 | h0
  ·subst h0;simp at hR
  ·exact h0
 have hd:=Nat.div_add_mod a b
 have hm:=Nat.mod_lt a hb
 have h1:b*S*Q+R=b*S*(a/b)+(a%b)*S:=by
  rw [←h]
  conv=>lhs;rw [←hd]
  rw [Nat.add_mul,Nat.mul_right_comm]
 have h2:a%b*S<b*S:=Nat.mul_lt_mul_of_pos_right hm hS
 obtain ⟨e1,e2⟩:=NQ (a:=b*S*Q+R) (b:=b*S) (Q:=Q) (r:=R) rfl hR
 obtain ⟨e3,e4⟩:=NQ (a:=b*S*Q+R) (b:=b*S) (Q:=a/b) (r:=a%b*S) h1 h2
 refine ⟨by rw [e1,←e3],?_⟩
 rw [e2,←e4,Nat.mul_div_cancel _ hS]
theorem Le {n s:Nat} (h:n≠0):bl (n*2^s)=bl n+s:=by
 obtain ⟨k,h1,h2,h3⟩:=NT h
 rw [h1,RC (n:=n*2^s) (k:=k+s)]
 ·omega
 ·rw [Nat.pow_add];exact Nat.mul_le_mul_right _ h2
 ·rw [show k+s+1=k+1+s by omega,Nat.pow_add];exact Nat.mul_lt_mul_of_pos_right h3 (Nat.pow_pos (by decide))
theorem EF {n k:Nat} (h:bl n≤32*k):sz n≤k:=by
 rw [Eb,Nat.pow_mul] at h
 exact BF.2 h
theorem Nj {b n:Nat} (hb:(limbs b).length=n+1):(limbs (b*2^(32 - bl (el (limbs b) n)))).length=n+1∧2147483648≤el (limbs (b*2^(32 - bl (el (limbs b) n)))) n:=by
 obtain ⟨h1,h2⟩:=HQ hb
 have h3:=Br (As b) n
 have h4:bl (el (limbs b) n)≤32:=Eb.2 (by rw [←B32];exact h3)
 have hb0:b≠0:=by rintro rfl;rw [BE] at hb;simp at hb
 have h5:bl (b*2^(32 - bl (el (limbs b) n)))=32*(n+1):=by rw [Le hb0,h1];omega
 have h6:sz (b*2^(32 - bl (el (limbs b) n)))≤n+1:=EF (by omega)
 have h7:(limbs (b*2^(32 - bl (el (limbs b) n)))).length=n+1:=by
  rcases Nat.lt_or_ge (limbs (b*2^(32 - bl (el (limbs b) n)))).length (n+1) with h | h
  ·have:=Fi (n:=b*2^(32 - bl (el (limbs b) n))) (k:=n) (by unfold sz;omega)
   omega
  ·unfold sz at h6;omega
 refine ⟨h7,?_⟩
 obtain ⟨h8,h9⟩:=HQ h7
 rw [h5] at h8
 obtain ⟨k,h10,h11,h12⟩:=NT h9
 have:k=31:=by omega
 subst this
 exact h11
theorem QN (xs:List Int) (m:Nat) (h:xs.length≤m):(xs.take (List.length (List.replicate m (0:Int)))++(List.replicate m (0:Int)).drop (List.length xs)).length=m∧val (xs.take (List.length (List.replicate m (0:Int)))++(List.replicate m (0:Int)).drop (List.length xs))=val xs:=by
 rw [List.length_replicate,List.take_of_length_le h,List.drop_replicate,HR,Mk]
 refine ⟨by simp;omega,by simp⟩
theorem wDiv (a b:Nat) (hb:b≠0) (ha:sz a<1073741824) (hbs:sz b<1073741824):Dp (limbs a) (limbs b)=some (limbs (a/b),limbs (a%b)):=by
 have ha':(limbs a).length<1073741824:=ha
 have hb':(limbs b).length<1073741824:=hbs
 unfold Dp
 rw [wCmp a b (by omega) (by omega),sB]
 by_cases hlt:a<b
 ·rw [if_pos (IT.2 hlt),Nat.div_eq_of_lt hlt,Nat.mod_eq_of_lt hlt,BE]
 rw [if_neg (fun h=>hlt (IT.1 h))]
 have hb0:(limbs b).length≠0:=fun h=>hb (GS h)
 have hab:(limbs b).length≤(limbs a).length:=by
  rcases Nat.lt_or_ge (limbs a).length (limbs b).length with h | h
  ·exact absurd (CC (a:=a) (b:=b) h) hlt
  ·exact h
 by_cases h1:(limbs b).length=1
 ·obtain ⟨h2,h3⟩:=HQ (n:=b) (m:=0) h1
  have e:b=el (limbs b) 0:=by
   conv=>lhs;rw [←Ax b,←List.drop_zero (l:=limbs b),AK,AB (by omega),Nat.mul_zero,Nat.add_zero]
  rw [if_pos (by omega)]
  have e0:nth (limbs b) 0=some ((el (limbs b) 0:Nat):Int):=Bd (As b) (k:=0) (by omega)
  rw [e0,sB,wshort (As a) (by omega) _ (Br (As b) 0) h3,sB,Ax,←e]
 ·obtain ⟨n,hn⟩:∃n,(limbs b).length=n+2:=⟨(limbs b).length - 2,by omega⟩
  have h3:=Br (As b) (n+1)
  have h4:bl (el (limbs b) (n+1))≤32:=Eb.2 (by rw [←B32];exact h3)
  obtain ⟨h5,h6⟩:=Nj (b:=b) (n:=n+1) hn
  have hLZ:Bf ((el (limbs b) (n+1):Nat):Int)=some ((32 - bl (el (limbs b) (n+1)):Nat):Int):=by
   unfold Bf
   rw [gdB (by unfold B at h3;omega),Int.toNat_natCast,Mp _ (by unfold B at h3;omega)]
   congr 1
   omega
  rw [if_neg (by omega),w64n (n:=n+1) (by omega) (by omega),Bd (As b) (by omega),sB,hLZ,sB]
  generalize hsd:32 - bl (el (limbs b) (n+1))=s at *
  have hs:s≤32:=by omega
  rw [wShl (As b) s (by omega) (by omega),sB,Ax,wShl (As a) s (by omega) (by omega),Ax]
  have hla:(limbs (a*2^s)).length≤(limbs a).length+1:=by
   rcases Nat.eq_zero_or_pos a with h0 | h0
   ·omega
   ·refine EF ?_
    rw [Le (by omega)]
    have:=Fi (n:=a) (k:=(limbs a).length) (Nat.le_refl _)
    omega
  obtain ⟨hp1,hp2⟩:=QN (limbs (a*2^s)) ((limbs a).length+1) hla
  rw [w64n (x:=(((limbs a).length:Int)+1)) (n:=(limbs a).length+1) (by omega) (by omega),gdB (by omega),sB,Int.toNat_natCast,h5,w64n (x:=((((limbs a).length+1:Nat):Int)) - ((n+1+1:Nat):Int)) (n:=(limbs a).length - (n+1)) (by omega) (by omega),gdB (by omega),Int.toNat_natCast]
  have hpd:Dig ((limbs (a*2^s)).take (List.length (List.replicate ((limbs a).length+1) (0:Int)))++(List.replicate ((limbs a).length+1) (0:Int)).drop (List.length (limbs (a*2^s)))):=by
   rw [Hp]
   exact ⟨It (As _) _,HB (GH _) _⟩
  generalize hU:((limbs (a*2^s)).take (List.length (List.replicate ((limbs a).length+1) (0:Int)))++(List.replicate ((limbs a).length+1) (0:Int)).drop (List.length (limbs (a*2^s))))=U at *
  rw [Ax] at hp2
  have hvv:=Ax (b*2^s)
  have hV1:val (limbs (b*2^s))<B^(n+2):=by have:=EJ (As (b*2^s));rw [h5] at this;exact this
  have hfirst:val (U.drop ((limbs a).length - (n+1)))<val (limbs (b*2^s)):=by
   rw [←KF hpd,hp2,hvv,Nat.div_lt_iff_lt_mul (LX _)]
   have hA:=EJ (As a)
   rw [Ax] at hA
   have hB1:B^(n+1)≤b:=by
    have:=HQ hn
    rcases Nat.lt_or_ge b (B^(n+1)) with h | h
    ·have h7:(limbs b).length≤n+1:=BF.2 h
     omega
    ·exact h
   have e1:B^(limbs a).length=B^(n+1)*B^((limbs a).length - (n+1)):=by rw [←Nat.pow_add];congr 1;omega
   have h7:a<b*B^((limbs a).length - (n+1)):=by
    rw [e1] at hA
    exact Nat.lt_of_lt_of_le hA (Nat.mul_le_mul_right _ hB1)
   rw [Nat.mul_right_comm]
   exact Nat.mul_lt_mul_of_pos_right h7 (Nat.pow_pos (by decide))
  obtain ⟨Q,qs',u',j1,j2,j3,j4,j5,j6,j7,j8⟩:=wdiv_l (limbs a) (limbs b) (limbs (b*2^s)) (As _) n (by omega) (by omega) h6 ((limbs a).length - (n+1)) 18446744073709551616 (List.replicate ((limbs a).length - (n+1)) 0) U (by omega) (by simp) (by omega) (by omega) (GH _) hpd hfirst
  rw [w64 (by omega) (by omega),j1,sB]
  simp only
  rw [AB (by simp),Nat.mul_zero,Nat.add_zero] at j8
  rw [hp2,hvv] at j6
  rw [hvv] at j7
  obtain ⟨e1,e2⟩:=Qa (Nat.pow_pos (by decide)) j6 j7
  rw [gdB (by omega),wTrim j4 (by rw [j2];simp;omega),sB,j8,e1]
  simp only [List.drop_zero,Int.toNat_natCast,Nat.sub_zero]
  have h8:val u' < B^(n+1+1):=by rw [hvv] at hV1;exact Nat.lt_trans j7 hV1
  rw [wTrim (It j5 _) (by simp;omega),sB,(Jc j5 h8).1,wShr (As _) s (by
   have:=BF (n:=val u') (k:=n+2)
   have h9:=this.2 h8
   omega) (by omega),sB,Ax,e2]
theorem rpad_l (a b:List Int) (hs:a.length<4294967296):∀(d f:Nat) (u:List Int),a.length+1=u.length+d→d<f→Dig u→∃u',FD a b f u=some u'∧u'.length=a.length+1∧Dig u'∧val u'=val u:=by
 intro d
 induction d with
 | zero=>
  intro f u hu hf hd
  obtain ⟨f,rfl⟩:∃j,f=j+1:=⟨f - 1,by omega⟩
  unfold FD
  rw [if_neg (by omega)]
  exact ⟨u,rfl,by omega,hd,rfl⟩
 | succ d ih=>
  intro f u hu hf hd
  obtain ⟨f,rfl⟩:∃j,f=j+1:=⟨f - 1,by omega⟩
  have hd1:Dig (u++[0]):=Iw (x:=0) hd (by decide)
  obtain ⟨u',h1,h2,h3,h4⟩:=ih f (u++[0]) (by simp;omega) (by omega) hd1
  unfold FD
  rw [if_pos (by omega),gdB (by simp;omega)]
  have h5:val (u++[0])=val u:=by have:=Ir u 0;rw [Nat.mul_zero,Nat.add_zero] at this;exact this
  exact ⟨u',h1,h2,h3,by rw [h4,h5]⟩
theorem rsubm_l (a b v:List Int) (hv:Dig v) (hs:v.length<2147483648) (j g:Nat) (hg:g<B) (x y z:Int) (hE:(min ((wu64 ((wu64 (((wu64 (((wu64 x))*2^min (32:Int).toNat IntKind.u64.bits)))+((wu64 y)))).tdiv ((wu64 z))))) 4294967295)=(g:Int)) (hb:b.length=v.length) (hj:j<2147483648) :
  ∀(d k n c w:Nat) (u:List Int),v.length+1=k+d→d<n→w≤1→c<B→j+v.length+1≤u.length→Dig u→
  ∃(c' w':Nat) (u':List Int),Eo a b v (j:Int) x y z n (c:Int) (w:Int) (k:Int) u=some ((c':Int),(w':Int),u')∧w'≤1∧(c'=0∨(k=v.length+1∧c'=c))∧u'.length=u.length∧Dig u'∧(∀p,j+v.length+1≤p→el u' p=el u p)∧val u' + B^(j+k)*(w+c+g*val (v.drop k))=val u+B^(j+v.length+1)*(w' + c'):=by
 intro d
 induction d with
 | zero=>
  intro k n c w u hk hn hw hc hl hd
  obtain ⟨n,rfl⟩:∃j,n=j+1:=⟨n - 1,by omega⟩
  unfold Eo
  rw [if_neg (by omega)]
  exact ⟨c,w,u,rfl,hw,.inr ⟨by omega,rfl⟩,rfl,hd,fun _ _=>rfl,by rw [AB (by omega),show j+k=j+v.length+1 by omega,Nat.mul_zero,Nat.add_zero (w+c)]⟩
 | succ d ih=>
  intro k n c w u hk hn hw hc hl hd
  obtain ⟨n,rfl⟩:∃j,n=j+1:=⟨n - 1,by omega⟩
  have h1:=Br hd (j+k)
  have h2:=Br hv k
  have h3:=Mf h2 hg hc (by decide:0<B)
  have h4:=NN h2 hg hc (by decide:0<B)
  rw [Nat.add_zero] at h3 h4
  have h5:(c+el v k*g)%B<B:=Nat.mod_lt _ (by decide)
  have ep:wu64 (wu64 (((el v k:Nat):Int)*(g:Int))+(c:Int))=((c+el v k*g:Nat):Int):=by
   rw [u64mul _ _ (by omega),u64add _ _ (by omega),Nat.add_comm]
  have er:wu64 (wu64 (((el u (j+k):Nat):Int) - wu64 (wu32 ((c+el v k*g:Nat):Int))) - (w:Int))=(((el u (j+k)+18446744073709551616 - ((c+el v k*g)%B+w))%18446744073709551616:Nat):Int):=by
   rw [u32,u64c ((c+el v k*g)%B) (by unfold B at h5 ⊢;omega)]
   show IntKind.u64.wrap (IntKind.u64.wrap _ - _)=_
   rw [IntKind.wrap_u64,IntKind.wrap_u64]
   unfold B at h1 h5 ⊢
   omega
  unfold Eo
  rw [if_pos (by omega),rat hv,sB,w64n (n:=j+k) (by omega) (by omega),Bd hd (by omega),sB,sB,hE,ep,u64c (el u (j+k)) (by unfold B at h1;omega),er,sh32,sh63,u32,setn,w64n (n:=k+1) (by omega) (by omega)]
  obtain ⟨c',w',u',g3,g4,g5,g6,g7,g8,g9⟩:=ih (k+1) n ((c+el v k*g)/B) ((el u (j+k)+18446744073709551616 - ((c+el v k*g)%B+w))%18446744073709551616/9223372036854775808) (u.set (j+k) (((el u (j+k)+18446744073709551616 - ((c+el v k*g)%B+w))%18446744073709551616%B:Nat):Int)) (by omega) (by omega) (by omega) h4 (by simp;omega) (Fm hd (Nat.mod_lt _ (by decide)) _)
  refine ⟨c',w',u',g3,g4,.inl ?_,by rw [g6];simp,g7,fun p hp=>?_,?_⟩
  ·rcases g5 with g5 | ⟨g5,g5'⟩
   ·exact g5
   ·rw [g5',Nz (by omega),Nat.zero_mul,Nat.add_zero,Nat.div_eq_of_lt hc]
  ·rw [g8 p hp,IE _ _ _ (by omega),if_neg (by omega)]
  ·have h8:=IS hd (j+k) ((el u (j+k)+18446744073709551616 - ((c+el v k*g)%B+w))%18446744073709551616%B) (by omega)
   have h9:el u (j+k)+B*((el u (j+k)+18446744073709551616 - ((c+el v k*g)%B+w))%18446744073709551616/9223372036854775808)=(el u (j+k)+18446744073709551616 - ((c+el v k*g)%B+w))%18446744073709551616%B+((c+el v k*g)%B+w):=by
    unfold B at *
    omega
   have h10:=Nat.div_add_mod (c+el v k*g) B
   rw [AK v k]
   rw [show j+(k+1)=j+k+1 by omega,pow_succ' (j+k)] at g9
   generalize (el u (j+k)+18446744073709551616 - ((c+el v k*g)%B+w))%18446744073709551616/9223372036854775808=b1 at g9 h9
   generalize (el u (j+k)+18446744073709551616 - ((c+el v k*g)%B+w))%18446744073709551616%B=r at g9 h8 h9
   generalize (c+el v k*g)%B=lo at h9 h10
   generalize (c+el v k*g)/B=hi at g9 h10
   generalize val (u.set (j+k) (r:Int))=V at g9 h8
   generalize B^(j+k)=P at g9 h8 ⊢
   generalize B^(j+v.length+1)=L at g9 ⊢
   grind
theorem rback_l (a b v:List Int) (hv:Dig v) (hs:v.length<2147483648) (j:Nat) (hb:b.length=v.length) (hj:j<2147483648):∀(d k n c:Nat) (u:List Int),v.length+1=k+d→d<n→c≤1→j+v.length+1≤u.length→Dig u→
  ∃(c':Nat) (u':List Int),Et a b v (j:Int) n (c:Int) (k:Int) u=some ((c':Int),u')∧c'≤1∧u'.length=u.length∧Dig u'∧(∀p,j+v.length+1≤p→el u' p=el u p)∧val u' + B^(j+v.length+1)*c'=val u+B^(j+k)*(c+val (v.drop k)):=by
 intro d
 induction d with
 | zero=>
  intro k n c u hk hn hc hl hd
  obtain ⟨n,rfl⟩:∃j,n=j+1:=⟨n - 1,by omega⟩
  unfold Et
  rw [if_neg (by omega)]
  exact ⟨c,u,rfl,hc,rfl,hd,fun _ _=>rfl,by rw [AB (by omega),show j+k=j+v.length+1 by omega,Nat.add_zero c]⟩
 | succ d ih=>
  intro k n c u hk hn hc hl hd
  obtain ⟨n,rfl⟩:∃j,n=j+1:=⟨n - 1,by omega⟩
  have h1:=Br hd (j+k)
  have h2:=Br hv k
  have e1:wu64 (wu64 (wu64 ((el u (j+k):Nat):Int)+((el v k:Nat):Int))+(c:Int))=((el u (j+k)+el v k+c:Nat):Int):=by
   rw [u64c (el u (j+k)) (by unfold B at h1;omega),u64add (el u (j+k)) (el v k) (by unfold B at h1 h2;omega),u64add (el u (j+k)+el v k) c (by unfold B at h1 h2;omega)]
  unfold Et
  rw [if_pos (by omega),w64n (n:=j+k) (by omega) (by omega),Bd hd (by omega),sB,rat hv,sB,sB,e1,sh32,u32,w64n (n:=k+1) (by omega) (by omega),setn]
  obtain ⟨c',u',g3,g4,g5,g6,g7,g8⟩:=ih (k+1) n ((el u (j+k)+el v k+c)/B) (u.set (j+k) (((el u (j+k)+el v k+c)%B:Nat):Int)) (by omega) (by omega) (by unfold B at *;omega) (by simp;omega) (Fm hd (Nat.mod_lt _ (by decide)) _)
  refine ⟨c',u',g3,g4,by rw [g5];simp,g6,fun p hp=>?_,?_⟩
  ·rw [g7 p hp,IE _ _ _ (by omega),if_neg (by omega)]
  ·have h8:=IS hd (j+k) ((el u (j+k)+el v k+c)%B) (by omega)
   have h10:=Nat.div_add_mod (el u (j+k)+el v k+c) B
   rw [AK v k]
   rw [show j+(k+1)=j+k+1 by omega,pow_succ' (j+k)] at g8
   generalize (el u (j+k)+el v k+c)%B=lo at g8 h8 h10
   generalize (el u (j+k)+el v k+c)/B=hi at g8 h10
   generalize val (u.set (j+k) (lo:Int))=V at g8 h8
   generalize B^(j+k)=P at g8 h8 ⊢
   generalize B^(j+v.length+1)=L at g8 ⊢
   generalize val (v.drop (k+1))=X at g8 ⊢
   generalize el u (j+k)=x1 at h8 h10
   generalize el v k=y1 at h10 ⊢
   clear ih g3 g4 g5 g6 g7 e1 h1 h2 hs hv hd hl hk hn hc
   grind
theorem val_lt_of_zero {u:List Int} (hd:Dig u) {m:Nat} (hz:∀p,m≤p→el u p=0):val u<B^m:=by
 have h:∀d k,u.length=k+d→m≤k→val (u.drop k)=0:=by
  intro d
  induction d with
  | zero=>intro k hk _;exact AB (by omega)
  | succ d ih=>intro k hk hm;rw [AK,hz k hm,ih (k+1) (by omega) (by omega),Nat.mul_zero]
 rcases Nat.lt_or_ge m u.length with hm | hm
 ·have e:=Hy u m (by omega)
  rw [h (u.length - m) m (by omega) (Nat.le_refl _),Nat.mul_zero,Nat.add_zero] at e
  rw [e]
  exact CW hd m
 ·exact Nat.lt_of_lt_of_le (EJ hd) (Lq hm)
theorem radj_l (a b v:List Int) (hv:Dig v) (hs:v.length<2147483648) (j:Nat) (hb:b.length=v.length) (hj:j<2147483648) (U0 low W q:Nat) (hU0:U0=low+B^j*W) (hlow:low<B^j) (hq1:q*val v≤W) (hq2:W<(q+1)*val v) :
  ∀(n h c w:Nat) (u:List Int),h<q+n→q≤h→h<18446744073709551616→w≤1→j+v.length+1≤u.length→Dig u→(∀p,j+v.length+1≤p→el u p=0)→val u+B^j*(h*val v)=U0+B^(j+v.length+1)*w→
  ∃(c' w':Int) (u':List Int),Fq a b v (j:Int) n (h:Int) (c:Int) (w:Int) u=some ((q:Int),c',w',u')∧u'.length=u.length∧Dig u'∧(∀p,j+v.length+1≤p→el u' p=0)∧val u' + B^j*(q*val v)=U0:=by
 intro n
 induction n with
 | zero=>intro h c w u h1 h2;omega
 | succ n ih=>
  intro h c w u hf hqh hh hw hl hd hz hval
  have hlt:=val_lt_of_zero hd hz
  unfold Fq
  rcases Nat.eq_zero_or_pos w with h0 | h0
  ·subst h0
   rw [if_neg (by omega)]
   rw [Nat.mul_zero,Nat.add_zero] at hval
   have hle:h≤q:=by
    have h1:B^j*(h*val v)<B^j*(W+1):=by rw [Nat.mul_add,Nat.mul_one];omega
    have h2:=Nat.lt_of_mul_lt_mul_left h1
    have h3:=Nat.lt_of_mul_lt_mul_right (a:=val v) (show h*val v<(q+1)*val v by omega)
    omega
   obtain rfl:h=q:=by omega
   exact ⟨_,_,u,rfl,rfl,hd,hz,hval⟩
  ·obtain rfl:w=1:=by omega
   have hgt:q<h:=by
    rcases Nat.lt_or_ge q h with h1 | h1
    ·exact h1
    ·have h2:=Nat.le_trans (Nat.mul_le_mul_right (val v) h1) hq1
     have h3:=Nat.mul_le_mul_left (B^j) h2
     omega
   obtain ⟨h1,rfl⟩:∃m,h=m+1:=⟨h - 1,by omega⟩
   obtain ⟨c3,u1,g1,g2,g3,g4,g5,g6⟩:=rback_l a b v hv hs j hb hj (v.length+1) 0 18446744073709551616 0 u (by omega) (by omega) (by omega) hl hd
   have g1':Et a b v (j:Int) 18446744073709551616 0 0 u=some ((c3:Int),u1):=g1
   rw [List.drop_zero,Nat.zero_add,Nat.add_zero] at g6
   have e1:wu64 (((h1+1:Nat):Int) - 1)=(h1:Int):=u64 (by omega) (by omega)
   have e2:wu64 (((1:Nat):Int) - (c3:Int))=((1 - c3:Nat):Int):=u64 (by omega) (by omega)
   obtain ⟨c',w',u',k1,k2,k3,k4,k5⟩:=ih h1 c3 (1 - c3) u1 (by omega) (by omega) (by omega) (by omega) (by omega) g4 (fun p hp=>by rw [g5 p hp,hz p hp]) (by
    rw [Nat.add_mul,Nat.one_mul] at hval
    generalize B^(j+v.length+1)=L at *
    generalize B^j=P at *
    have:c3=0∨c3=1:=by omega
    rcases this with rfl | rfl<;>grind)
   rw [if_pos (by omega),g1',sB,sB]
   simp only
   rw [e1,e2,k1]
   exact ⟨c',w',u',rfl,by omega,k3,k4,k5⟩
theorem tdiv_n (a b:Nat):((a:Int)).tdiv (b:Int)=((a/b:Nat):Int):=rfl
theorem min_n (a b:Nat):min (a:Int) (b:Int)=((min a b:Nat):Int):=by omega
theorem rE (x y z:Nat) (hx:x<B) (hy:y<B) (hz:z<B):(min ((wu64 ((wu64 (((wu64 (((wu64 (x:Int)))*2^min (32:Int).toNat IntKind.u64.bits)))+((wu64 (y:Int))))).tdiv ((wu64 (z:Int)))))) 4294967295)=((min ((x*B+y)/z) 4294967295:Nat):Int):=by
 have h1:x*B+y<18446744073709551616:=by unfold B at *;omega
 have h2:(x*B+y)/z<18446744073709551616:=Nat.lt_of_le_of_lt (Nat.div_le_self _ _) h1
 rw [u64c x (by unfold B at hx;omega),ml32n,u64c (x*B) (by omega),u64c y (by unfold B at hy;omega),u64add _ _ h1,u64c z (by unfold B at hz;omega),tdiv_n,u64c _ h2]
 exact min_n _ _
theorem rg (t q:Nat) (hq:q<B) (h:q≤t):min t 4294967295<B∧q≤min t 4294967295∧min t 4294967295<18446744073709551616:=by
 unfold B at *;omega
theorem ru2 {u2 P q V U0 low W m:Nat} (h1:u2+P*(q*V)=U0) (h2:U0=low+P*W) (h3:V*q+m=W):u2=low+P*m:=by
 subst h2 h3
 rw [Nat.mul_add,Nat.mul_comm V q] at h1
 omega
theorem rQ {u low P q V m u2 Q u':Nat} (h1:u=low+P*(V*q+m)) (h2:u2=low+P*m) (h3:u2=V*Q+u'):u=V*(Q+P*q)+u':=by
 rw [Nat.mul_add,←Nat.mul_assoc,Nat.mul_comm P V,Nat.mul_assoc] at h1
 rw [Nat.mul_add]
 omega
theorem rQ2 {x Q P q X:Nat} (h:x=Q+P*(q+B*X)):x=(Q+P*q)+P*B*X:=by
 rw [Nat.mul_add,←Nat.mul_assoc] at h
 omega
theorem rz {u:List Int} (hd:Dig u) {m:Nat} (h:val (u.drop m)=0):∀p,m≤p→el u p=0:=by
 have:∀d,val (u.drop (m+d))=0:=by
  intro d
  induction d with
  | zero=>exact h
  | succ d ihd=>
   rw [AK] at ihd
   rw [←Nat.add_assoc]
   rcases Nat.eq_zero_or_pos (val (u.drop (m+d+1))) with h | h
   ·exact h
   ·have:=Nat.mul_le_mul_left B h;unfold B at *;omega
 intro p hp
 have h:=this (p - m)
 rw [show m+(p - m)=p by omega,AK] at h
 omega
theorem rdiv_l (a b v:List Int) (hv:Dig v) (n:Nat) (hn:v.length=n+2) (hs:v.length<2147483648) (hb:b.length=v.length) (htop:2147483648≤el v (n+1)):∀(k f:Nat) (qs u:List Int),k<f→k≤qs.length→k+v.length≤u.length→k<2147483648→u.length<4294967297→Dig qs→Dig u→val (u.drop k)<val v→
  ∃(Q:Nat) (qs' u':List Int),Ft a b v f ((k:Int) - 1) u qs=some (u',qs')∧qs'.length=qs.length∧u'.length=u.length∧Dig qs'∧Dig u'∧val u=val v*Q+val u'∧val u' < val v∧val qs'=Q+B^k*val (qs.drop k):=by
 intro k
 induction k with
 | zero=>
  intro f qs u hf hq hl hk hlu hdq hdu hlt
  obtain ⟨f,rfl⟩:∃j,f=j+1:=⟨f - 1,by omega⟩
  unfold Ft
  rw [if_neg (by omega)]
  rw [List.drop_zero] at hlt
  exact ⟨0,qs,u,rfl,rfl,rfl,hdq,hdu,by simp,hlt,by simp⟩
 | succ k ih=>
  intro f qs u hf hq hl hk hlu hdq hdu hlt
  obtain ⟨f,rfl⟩:∃j,f=j+1:=⟨f - 1,by omega⟩
  have hVpos:0<val v:=by omega
  have hdr:val (u.drop k)<B*val v:=by
   rw [AK]
   have h1:=Br hdu k
   have h2:=Nat.mul_le_mul_left B (show val (u.drop (k+1))+1≤val v from hlt)
   rw [Nat.mul_add,Nat.mul_one] at h2
   omega
  have hvb:=EJ hv
  rw [hn] at hvb
  have hw3:val (u.drop k)<B^(n+3):=by
   rw [show n+3=n+2+1 by omega,pow_succ',Nat.mul_comm]
   exact Nat.lt_trans hdr (Nat.mul_lt_mul_of_pos_left hvb (by decide))
  obtain ⟨hw1,hw2⟩:=Jc (HB hdu k) hw3
  have hqB:val (u.drop k)/val v<B:=(Nat.div_lt_iff_lt_mul hVpos).2 hdr
  have hq1:val (u.drop k)/val v*val v≤val (u.drop k):=Nat.div_mul_le_self _ _
  have hq2:val (u.drop k)<(val (u.drop k)/val v+1)*val v:=by
   have:=Nat.lt_div_mul_add (a:=val (u.drop k)) hVpos
   rw [Nat.add_mul,Nat.one_mul];exact this
  have hz:∀p,k+v.length+1≤p→el u p=0:=by
   rw [List.drop_drop] at hw2
   intro p hp
   exact rz hdu hw2 p (by omega)
  have hx0:=Br hdu (k+(n+2))
  have hx1:=Br hdu (k+(n+1))
  have hv1:=Br hv (n+1)
  have hW:val (u.drop k)=(el u (k+(n+2))*B+el u (k+(n+1)))*(B*B^n)+val ((u.drop k).take (n+1)):=by
   have hl3:((u.drop k).take (n+3)).length=n+3:=by simp;omega
   rw [←hw1,Gc _ (n+1) (by omega),AK _ (n+1+1),AB (by omega),Pc (by omega),Pc (by omega),List.take_take,Nat.min_eq_left (by omega)]
   have e1:el (u.drop k) (n+1)=el u (k+(n+1)):=by simp [el,List.getD]
   have e2:el (u.drop k) (n+1+1)=el u (k+(n+2)):=by simp [el,List.getD]
   rw [e1,e2,pow_succ']
   generalize B^n=P
   grind
  have hV':val v=el v (n+1)*(B*B^n)+(el v n*B^n+val (v.take n)):=by rw [Ly hn];generalize B^n=P;grind
  have hqg:val (u.drop k)/val v≤(el u (k+(n+2))*B+el u (k+(n+1)))/el v (n+1):=by
   rw [Nat.le_div_iff_mul_le (by omega)]
   refine MU hW hV' ?_ hq1
   have:=CW (HB hdu k) (n+1)
   rw [pow_succ',Nat.mul_comm] at this
   exact this
  have hE:=rE (el u (k+(n+2))) (el u (k+(n+1))) (el v (n+1)) hx0 hx1 hv1
  obtain ⟨hgB,hqg',hg64⟩:=rg _ _ hqB hqg
  generalize hgd:min ((el u (k+(n+2))*B+el u (k+(n+1)))/el v (n+1)) 4294967295=g at hE hgB hqg' hg64
  obtain ⟨c',w',u1,j1,j2,j3,j4,j5,j6,j7⟩:=rsubm_l a b v hv hs k g hgB _ _ _ hE hb (by omega) (v.length+1) 0 18446744073709551616 0 0 u (by omega) (by omega) (by omega) (by decide) (by omega) hdu
  have hc0:c'=0:=by rcases j3 with h | ⟨h,_⟩<;>omega
  subst hc0
  have j1':Eo a b v (k:Int) ((el u (k+(n+2)):Nat):Int) ((el u (k+(n+1)):Nat):Int) ((el v (n+1):Nat):Int) 18446744073709551616 0 0 0 u=some (0,(w':Int),u1):=j1
  rw [List.drop_zero,Nat.zero_add,Nat.add_zero,Nat.add_zero] at j7
  have hUs:=Hy u k (by omega)
  obtain ⟨c2,w2,u2,k1,k2,k3,k4,k5⟩:=radj_l a b v hv hs k hb (by omega) (val u) (val (u.take k)) (val (u.drop k)) (val (u.drop k)/val v) hUs (CW hdu k) hq1 hq2 18446744073709551616 g 0 w' u1 (Nat.lt_of_lt_of_le hg64 (Nat.le_add_left _ _)) hqg' hg64 j2 (by omega) j5 (fun p hp=>by rw [j6 p hp,hz p hp]) j7
  have k1':Fq a b v (k:Int) 18446744073709551616 (g:Int) 0 (w':Int) u1=some ((((val (u.drop k)/val v:Nat)):Int),c2,w2,u2):=k1
  have hdm:=Nat.div_add_mod (val (u.drop k)) (val v)
  have hu2:val u2=val (u.take k)+B^k*(val (u.drop k)%val v):=ru2 k5 hUs hdm
  have hdrop:val (u2.drop k)=val (u.drop k)%val v:=by
   rw [←KF k3,hu2,Nat.add_mul_div_left _ _ (LX k),Nat.div_eq_of_lt (CW hdu k),Nat.zero_add]
  obtain ⟨Q,qs',u',i1,i2,i3,i4,i5,i6,i7,i8⟩:=ih f (qs.set k ((val (u.drop k)/val v:Nat):Int)) u2 (by omega) (by simp;omega) (by omega) (by omega) (by omega) (Fm hdq hqB k) k3 (by rw [hdrop];exact Nat.mod_lt _ hVpos)
  unfold Ft
  rw [show (((k+1:Nat):Int) - 1)=(k:Int) by omega,if_pos (by omega),hb,w64n (x:=(k:Int)+(List.length v:Int)) (n:=k+(n+2)) (by omega) (by omega),Bd hdu (by omega),sB,w64n (x:=((k+(n+2):Nat):Int) - 1) (n:=k+(n+1)) (by omega) (by omega),Bd hdu (by omega),sB,w64n (x:=(List.length v:Int) - 1) (n:=n+1) (by omega) (by omega),Bd hv (by omega),sB,gdB (by rw [u64c (el v (n+1)) (by unfold B at hv1;omega)];omega),j1',sB]
  simp only
  rw [hE,k1',sB]
  simp only
  rw [Bd hdq (by omega),sB,sB]
  simp only
  rw [u32,Nat.mod_eq_of_lt hqB,setn,w64 (by omega) (by omega),i1]
  refine ⟨Q+B^k*(val (u.drop k)/val v),qs',u',rfl,by rw [i2];simp,by omega,i4,i5,?_,i7,?_⟩
  ·rw [←hdm] at hUs
   exact rQ hUs hu2 i6
  ·rw [AK,IE _ _ _ (by omega),if_pos rfl,List.drop_set_of_lt (by omega)] at i8
   rw [pow_succ']
   exact rQ2 i8
theorem rDiv (a b:Nat) (hb:b≠0) (ha:sz a<1073741824) (hbs:sz b<1073741824):Ck (limbs a) (limbs b)=some ⟨limbs (a/b),limbs (a%b)⟩:=by
 have ha':(limbs a).length<1073741824:=ha
 have hb':(limbs b).length<1073741824:=hbs
 have hb0:(limbs b).length≠0:=fun h=>hb (GS h)
 unfold Ck
 by_cases h1:(limbs b).length=1
 ·obtain ⟨h2,h3⟩:=HQ (n:=b) (m:=0) h1
  have e:b=el (limbs b) 0:=by
   conv=>lhs;rw [←Ax b,←List.drop_zero (l:=limbs b),AK,AB (by omega),Nat.mul_zero,Nat.add_zero]
  have e0:nth (limbs b) 0=some ((el (limbs b) 0:Nat):Int):=Bd (As b) (k:=0) (by omega)
  rw [if_pos (by omega),e0,sB,rshort (As a) (by omega) _ (Br (As b) 0) h3,sB,Ax,←e]
 rw [if_neg (by omega),rCmp (As a) (As b) (by omega) (by omega),sB,Ax,Ax]
 by_cases hlt:a<b
 ·rw [if_pos (by unfold sgnc;rw [if_pos hlt];decide),rTrim (As a) (by omega),sB,Ax,Nat.div_eq_of_lt hlt,Nat.mod_eq_of_lt hlt,BE]
 rw [if_neg (by unfold sgnc;rw [if_neg hlt];split<;>decide)]
 have hab:(limbs b).length≤(limbs a).length:=by
  rcases Nat.lt_or_ge (limbs a).length (limbs b).length with h | h
  ·exact absurd (CC (a:=a) (b:=b) h) hlt
  ·exact h
 obtain ⟨n,hn⟩:∃n,(limbs b).length=n+2:=⟨(limbs b).length - 2,by omega⟩
 have h3:=Br (As b) (n+1)
 have h4:bl (el (limbs b) (n+1))≤32:=Eb.2 (by rw [←B32];exact h3)
 obtain ⟨h5,h6⟩:=Nj (b:=b) (n:=n+1) hn
 obtain ⟨h7,_⟩:=HQ hn
 rw [SM b (by omega),sB,w64n (x:=32*((limbs b).length:Int)) (n:=32*(n+2)) (by omega) (by omega),w64n (n:=32 - bl (el (limbs b) (n+1))) (by omega) (by omega)]
 generalize hsd:32 - bl (el (limbs b) (n+1))=s at *
 have hs:s≤32:=by omega
 rw [Sw (As b) s (by omega) (by omega) hb0,sB,Ax,Sw (As a) s (by omega) (by omega) (by omega),sB,Ax]
 have hla:(limbs (a*2^s)).length≤(limbs a).length+1:=by
  rcases Nat.eq_zero_or_pos a with h0 | h0
  ·omega
  ·refine EF ?_
   rw [Le (by omega)]
   have:=Fi (n:=a) (k:=(limbs a).length) (Nat.le_refl _)
   omega
 obtain ⟨U,hp0,hp1,hpd,hp2⟩:=rpad_l (limbs a) (limbs b) (by omega) ((limbs a).length+1 - (limbs (a*2^s)).length) 18446744073709551616 (limbs (a*2^s)) (by omega) (by omega) (As _)
 rw [hp0,sB,w64n (x:=((limbs a).length:Int) - ((limbs b).length:Int)) (n:=(limbs a).length - (n+2)) (by omega) (by omega),w64n (n:=(limbs a).length - (n+1)) (by omega) (by omega),gdB (by omega),Int.toNat_natCast]
 rw [Ax] at hp2
 have hvv:=Ax (b*2^s)
 have hV1:val (limbs (b*2^s))<B^(n+2):=by have:=EJ (As (b*2^s));rw [h5] at this;exact this
 have hfirst:val (U.drop ((limbs a).length - (n+1)))<val (limbs (b*2^s)):=by
  rw [←KF hpd,hp2,hvv,Nat.div_lt_iff_lt_mul (LX _)]
  have hA:=EJ (As a)
  rw [Ax] at hA
  have hB1:B^(n+1)≤b:=by
   rcases Nat.lt_or_ge b (B^(n+1)) with h | h
   ·have h7:(limbs b).length≤n+1:=BF.2 h
    omega
   ·exact h
  have e1:B^(limbs a).length=B^(n+1)*B^((limbs a).length - (n+1)):=by rw [←Nat.pow_add];congr 1;omega
  have h7:a<b*B^((limbs a).length - (n+1)):=by
   rw [e1] at hA
   exact Nat.lt_of_lt_of_le hA (Nat.mul_le_mul_right _ hB1)
  rw [Nat.mul_right_comm]
  exact Nat.mul_lt_mul_of_pos_right h7 (Nat.pow_pos (by decide))
 obtain ⟨Q,qs',u',j1,j2,j3,j4,j5,j6,j7,j8⟩:=rdiv_l (limbs a) (limbs b) (limbs (b*2^s)) (As _) n (by omega) (by omega) (by omega) h6 ((limbs a).length - (n+1)) 18446744073709551616 (List.replicate ((limbs a).length - (n+1)) 0) U (by omega) (by simp) (by omega) (by omega) (by omega) (GH _) hpd hfirst
 rw [show (((limbs a).length - (n+2):Nat):Int)=(((limbs a).length - (n+1):Nat):Int) - 1 by omega,j1,sB]
 simp only
 rw [AB (by simp),Nat.mul_zero,Nat.add_zero] at j8
 rw [hp2,hvv] at j6
 rw [hvv] at j7
 obtain ⟨e1,e2⟩:=Qa (Nat.pow_pos (by decide)) j6 j7
 rw [rTrim j4 (by rw [j2];simp;omega),sB,j8,e1,rTrim j5 (by omega),sB]
 have h8:val u' < B^(n+2):=by rw [hvv] at hV1;exact Nat.lt_trans j7 hV1
 rw [rShr (As _) s (by
  have h9:=(BF (n:=val u') (k:=n+2)).2 h8
  omega) (by omega),sB,Ax,e2]
theorem nTrim_l (x:List Int):∀(n:Nat) (l:List Int),Fa x n l=Db x n l:=by
 intro n
 induction n with
 | zero=>intro l;rfl
 | succ n ih=>
  intro l
  unfold Fa Db
  simp only [ih]
theorem nTrim {xs:List Int} (hd:Dig xs) (hl:xs.length≤4294967296):BQ xs=some (limbs (val xs)):=by
 rw [←wTrim hd hl]
 unfold BQ BG
 rw [nTrim_l]
theorem QC (pre:List Int) (d j:Nat) (hj:j=pre.length):nth (pre++List.replicate (d+1) 0) (j:Int)=some 0:=by
 subst hj
 unfold nth
 rw [if_pos (by simp;omega)]
 simp [List.getD_eq_getElem?_getD,List.replicate_succ]
theorem QR (pre:List Int) (d j:Nat) (v:Int) (hj:j=pre.length):(pre++List.replicate (d+1) 0).set j v=(pre++[v])++List.replicate d 0:=by
 subst hj
 simp [List.set_append,List.replicate_succ]
theorem nShl_l (a:List Int) (i q:Nat) (hqi:q=i/32) (hq:q+a.length<1099511627776):∀(d k n:Nat) (c:Int) (pre:List Int),a.length=k+d→pre.length=q+k→
  DH a (i:Int) n c (k:Int) (pre++List.replicate (d+1) 0)=(Ce a (i:Int) n c (k:Int) pre).bind fun m=>some (m.1,m.2++[0]):=by
 intro d
 induction d with
 | zero=>
  intro k n c pre hk hp
  cases n with
  | zero=>rfl
  | succ n=>
   unfold DH Ce
   rw [if_neg (by omega),if_neg (by omega)]
   rfl
 | succ d ih=>
  intro k n c pre hk hp
  cases n with
  | zero=>rfl
  | succ n=>
   unfold DH Ce
   rw [if_pos (by omega),if_pos (by omega)]
   cases h:nth a (k:Int) with
   | none=>rfl
   | some u=>
    rw [sB,sB,tm32,gdB (by omega),gdB (by omega),td32,w64n (x:=((i/32:Nat):Int)) (n:=i/32) rfl (by omega),w64n (x:=((i/32:Nat):Int)+(k:Int)) (n:=q+k) (by omega) (by omega),QC pre (d+1) (q+k) hp.symm,sB,gdB (by simp;omega),show ((q+k:Nat):Int).toNat=q+k from rfl,QR pre (d+1) (q+k) _ hp.symm,w64n (x:=(k:Int)+1) (n:=k+1) (by omega) (by omega)]
    exact ih (k+1) n _ (pre++[_]) (by omega) (by simp;omega)
theorem nShl {a:List Int} (ha:Dig a) (i:Nat) (hs:a.length<2147483648) (hi:i<34359738368):DZ a (i:Int)=some (limbs (val a*2^i)):=by
 unfold DZ
 by_cases h0:a.length=0
 ·obtain rfl:=List.eq_nil_of_length_eq_zero h0
  rw [if_pos (by simp),show val []=0 from rfl,Nat.zero_mul,BE]
 ·obtain ⟨c',out',h1,h2,h3,h4,h5⟩:=Sj a ha i (by omega) (i/32) (by omega) a.length 0 18446744073709551616 0 (List.replicate (i/32) 0) (by omega) (by omega) (Nat.pow_pos (by decide)) (by simp) (GH _)
  have h6:=nShl_l a i (i/32) rfl (by omega) a.length 0 18446744073709551616 0 (List.replicate (i/32) 0) (by omega) (by simp)
  have h1':Ce a (i:Int) 18446744073709551616 0 ((0:Nat):Int) (List.replicate (i/32) 0)=some ((c':Int),out'):=h1
  rw [h1',sB,List.replicate_append_replicate] at h6
  have h6':DH a (i:Int) 18446744073709551616 0 0 (List.replicate (i/32+a.length+1) 0)=some ((c':Int),out'++[0]):=h6
  rw [Mk] at h5
  rw [if_neg (by omega),td32,w64n (x:=((i/32:Nat):Int)) (n:=i/32) rfl (by omega),w64n (x:=((i/32:Nat):Int)+(a.length:Int)) (n:=i/32+a.length) (by omega) (by omega),w64n (n:=i/32+a.length+1) (by omega) (by omega),gdB (by omega),Int.toNat_natCast,h6',sB,w64n (x:=((i/32+a.length+1:Nat):Int) - 1) (n:=i/32+a.length) (by omega) (by omega)]
  simp only
  rw [show out'++[(0:Int)]=out'++List.replicate (0+1) 0 from rfl,QC out' 0 (i/32+a.length) h3.symm,sB,show ((i/32+a.length:Nat):Int).toNat=i/32+a.length from rfl,QR out' 0 _ _ h3.symm,u32,Nat.mod_eq_of_lt h2,List.replicate_zero,List.append_nil,nTrim (Iw h4 h2) (by simp;omega),sB,Ir,h3,OL h5]
end Go.Proofs.Lf
