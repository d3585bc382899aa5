import Derived.Test.YtabiobmfelafoaaGreatDoorLeafM
namespace Go.Sb
open Go.RowKit
section
variable {P:Program} {ops:Array Oper} {Q:Exit→Act→World→Prop} {w w':World} {rest:List Oper} {l:List Value} {n:Nat}
variable {ty d:Nat} {pos:String} {af:Array Edge} {gd:Option (Nat × Bool)}
theorem iy2 {g:Operand} {r:Nat} {os:List Operand} {args:List Value} {ts:Array Nat} {J J':World→Prop} (hw:Region.wanted ⟨some d,.call { callee:=.value g,args:=os.toArray,argTypes:=ts },ty,pos,af,gd⟩ (yielded ops l.toArray)=true)
  (hg:evo l g=some (.func (.yield r) #[] #[])) (ha:os.map (evo l)=args.map some)
  (hY:YieldAt Fence.wide (n - 1) P r args.toArray w fun e W'=>(e = .returned (.bool true)∧J W')∨(e = .returned (.bool false)∧J' W'))
  (h:∀w',J w'→wpListIn Fence.wide n P ops Q rest ⟨(l.set d (.bool true)).toArray,[]⟩ w') (h':∀w',J' w'→wpListIn Fence.wide n P ops Q rest ⟨(l.set d (.bool false)).toArray,[]⟩ w') :
  wpListIn Fence.wide n P ops Q (⟨some d,.call { callee:=.value g,args:=os.toArray,argTypes:=ts },ty,pos,af,gd⟩::rest) ⟨l.toArray,[]⟩ w:=by
 unfold wpListIn
 simp only [hw,if_true]
 refine ⟨fun _ _=>trivial,?_⟩
 show Oper.uponIn _ _ _ _ _ _ _ ((Oper.semAt none _ _).run P w)
 rw [Oper.semAt_none]
 obtain ⟨fn,tmps,assign,body,hy,hR⟩:=hY
 have hm:=MG (l:=l) (ρ:=(Act.mk l.toArray []).eval) (fun _ _=>CF) ha
 have h0:(Act.mk l.toArray []).eval g = .func (.yield r) #[] #[]:=CF hg
 have hrun:(execOp (Act.mk l.toArray []).eval ⟨some d,.call { callee:=.value g,args:=os.toArray,argTypes:=ts },ty,pos,af,gd⟩).run P w = .ok (.round r fn tmps assign body) w:=by
  generalize (Act.mk l.toArray []).eval=ρ at hm h0 ⊢
  simp [execOp,resolve,h0,Deferred.ofValue,invoke,hm,hy]
 rw [hrun,Oper.uponIn_round]
 refine ⟨fun hx=>by simp [Fence.wide] at hx,hR.mono ?_⟩
 rintro e W' (⟨rfl,hj⟩ | ⟨rfl,hj⟩)
 ·show wpListIn Fence.wide n P ops Q rest ((Act.mk l.toArray []).put (some d) (.bool true)) W'
  rw [Fy]
  exact h _ hj
 ·show wpListIn Fence.wide n P ops Q rest ((Act.mk l.toArray []).put (some d) (.bool false)) W'
  rw [Fy]
  exact h' _ hj
end
end Go.Sb
namespace Go.Proofs.Lf
set_option linter.unusedVariables false
set_option linter.unusedSimpArgs false
set_option maxHeartbeats 4000000
open Go.RowKit Go.Sb Go.Proofs Go.Proofs.Sbn
theorem w64b {x:Int} (h0 : -9223372036854775808≤x) (h1:x<9223372036854775808):wi64 x=x:=by show IntKind.i64.wrap x=x;rw [IntKind.wrap_i64];omega
theorem flb:Mu Tryz.prog 228=true:=by kernel_rfl
def prs (n:Nat):Nat→List (Fin n)
 | 0=>[]
 | k+1=>if h:k<n then prs n k++[⟨n - 1 - k,by omega⟩] else prs n k
theorem LR {n k:Nat} (h:k<n):prs n (k+1)=prs n k++[⟨n - 1 - k,by omega⟩]:=dif_pos h
theorem QH {n:Nat} : ∀k,k≤n→(prs n k).length=k
 | 0,_=>rfl
 | k+1,h=>by rw [LR (by omega),List.length_append,QH k (by omega)];rfl
def enc2 (x:List Int) (j:Fin x.length):Array Value:=#[.int .i64 (j.val:Int),.int .u32 (x.getD j.val 0)]
theorem it_back (x0:List Int) (A:Option Addr) (c b1:Nat) (w0:World) (hb:Bx w0 b1 228 [.slice A (List.length x0) c]) (hr:RLu w0 A c x0) (hlen:x0.length≤9223372036854775807) :
  SeqStopsK Fence.wide 0 Tryz.prog 285 #[.pointer (some ⟨b1,0,none⟩)] (enc2 x0) (Below w0.heap.size) (fun xs=>xs=prs x0.length x0.length) (fun pre=>∃k,k<x0.length∧pre=prs x0.length (k+1)) x0.length w0:=by
 intro l J Jx W hB _ _ hY hj0
 have hE:Ext w0 W:=hB
 show CallsIn _ _ _ _ #[.func (.yield l) #[] #[],.pointer (some ⟨b1,0,none⟩)] _ _
 refine QV Tryz.func285 rfl [.func (.yield l) #[] #[],.pointer (some ⟨b1,0,none⟩),undef,undef,undef,undef,undef,undef,undef,undef,undef,undef,undef,undef,undef,undef,undef,undef,undef] (by simp [Tryz.ntmps285]) ?_
 refine wpIn_wide.2 ?_
 refine wp_seq_k ?_
 intro K h
 refine Ah ?_
 refine sV (Ag flb rfl (Bx.cell (hb.ext hE) rfl)) ?_
 refine sV (AD AG rfl) ?_
 refine sV (Bt (c:=(x0.length:Int) - 1) rfl rfl (w64b (by omega) (by omega))) ?_
 refine sV (Ab rfl) ?_
 refine AF ?_
 refine h _ _ ?_
 apply wp_block
 refine PP (fun n l' w'=>∃(k:Nat) (t:Nat→Value),k≤x0.length∧n=x0.length - k+1∧Ext w0 w'∧J (prs x0.length k) w'∧l'=[.func (.yield l) #[] #[],.pointer (some ⟨b1,0,none⟩),undef,.int .i64 ((x0.length:Int) - 1 - k),t 0,t 1,t 2,t 3,t 4,t 5,t 6,t 7,t 8,t 9,t 10,t 11,t 12,t 13,t 14]) (x0.length+1)
  ⟨0,(tk [.slice A (List.length x0) c,.int .i64 (x0.length:Int),.int .i64 ((x0.length:Int) - 1),undef,undef,undef,undef,undef,undef,undef,undef,undef,undef,undef,undef]),by omega,by omega,hE,hj0,by rw [show (x0.length:Int) - 1 - ((0:Nat):Int)=(x0.length:Int) - 1 by omega];rfl⟩ ?_ ?_
 ·rintro l' w' ⟨k,t,_,h0,_⟩
  omega
 ·rintro n ih l' w1 ⟨k,t,hk,hn,hE1,hj,rfl⟩
  refine AW ?_
  refine wp_seq_k ?_
  intro K1 h1
  refine wp_seq_k ?_
  intro K2 h2
  refine Ah ?_
  refine sV (Aa rfl) ?_
  refine sb (Hb rfl rfl) ?_
  intro z hz
  refine nrm ?_
  refine AF ?_
  refine h2 _ _ ?_
  rcases Bool.eq_false_or_eq_true z with e | e
  ·have hlt:k<x0.length:=by have:=hz.1 e;omega
   refine wp_cond_true (CF (evb rfl e)) ?_
   refine wp_skip ?_
   refine h1 _ _ ?_
   refine wp_seq_k ?_
   intro K3 h3
   apply wp_block
   refine wp_seq_k ?_
   intro K4 h4
   refine (wpIn_wide (n:=0)).1 ?_
   refine wpIn_region_lit ?_
   have ei:(x0.length:Int) - 1 - k=((x0.length - 1 - k:Nat):Int):=by omega
   rw [ei]
   have hnth:nth x0 ((x0.length - 1 - k:Nat):Int)=some (x0.getD (x0.length - 1 - k) 0):=by
    unfold nth
    rw [if_pos ⟨by omega,by omega⟩,Int.toNat_natCast]
   obtain ⟨bb,oo,hA,ia,ib,hc⟩:=RL.nth (hr.ext hE1) hnth
   refine iv (v:=.func (.yield l) #[] #[]) (by rfl) (Aa rfl) (by simp only [S0,S1];rfl) ?_
   refine iv (by rfl) (Aa rfl) (by simp only [S0,S1];rfl) ?_
   refine iv (by rfl) (Ag flb rfl (Bx.cell (hb.ext hE1) rfl)) (by simp only [S0,S1];rfl) ?_
   refine iv (by rfl) (Aa rfl) (by simp only [S0,S1];rfl) ?_
   refine iv (by rfl) (AA AG Av rfl rfl hA ia ib) (by simp only [S0,S1];rfl) ?_
   refine iv (by rfl) (Ag AZ rfl hc) (by simp only [S0,S1];rfl) ?_
   refine iy2 (by rfl) rfl (args:=[.int .i64 ((x0.length - 1 - k:Nat):Int),.int .u32 (x0.getD (x0.length - 1 - k) 0)]) rfl (hY (prs x0.length k) ⟨x0.length - 1 - k,by omega⟩ w1 hj (by rw [QH k (by omega)];exact hlt)) ?_ ?_
   ·rintro w2 ⟨hj2,hk2⟩
    have hE2:Ext w0 w2:=Below.trans hE1 hk2
    refine iv (by rfl) (Np rfl rfl rfl) rfl ?_
    refine wpListIn_nil ?_
    refine h4 _ _ ?_
    refine wp_cond_false (CF (evb rfl rfl)) ?_
    refine wp_skip ?_
    refine h3 _ _ ?_
    refine Ah ?_
    refine sV (Aa rfl) ?_
    refine sV (Bt (c:=(x0.length:Int) - 1 - (k+1:Nat)) rfl rfl (by show wi64 _=_;rw [w64b (by omega) (by omega)];omega)) ?_
    refine sV (Ab rfl) ?_
    refine AF ?_
    refine ih _ _ ⟨k+1,(tk [t 0,t 1,t 2,.int .i64 ((x0.length - 1 - k:Nat):Int),.bool z,.int .i64 ((x0.length - 1 - k:Nat):Int),.int .i64 ((x0.length:Int) - 1 - (k+1:Nat)),.func (.yield l) #[] #[],.int .i64 ((x0.length - 1 - k:Nat):Int),.slice A (List.length x0) c,.int .i64 ((x0.length - 1 - k:Nat):Int),.pointer (some ⟨bb,oo+((x0.length - 1 - k:Nat):Int).toNat,none⟩),.int .u32 (x0.getD (x0.length - 1 - k) 0),.bool true,.bool false]),by omega,by omega,hE2,by rw [LR hlt];exact hj2,rfl⟩
   ·rintro w2 hj2
    refine iv (by rfl) (Np rfl rfl rfl) rfl ?_
    refine wpListIn_nil ?_
    refine h4 _ _ ?_
    refine wp_cond_true (CF (evb rfl rfl)) ?_
    refine wp_ret ?_
    exact ⟨_,FE (rs:=[]) rfl Res.nil,⟨_,rfl⟩,.inr ⟨_,⟨k,hlt,(LR hlt).symm⟩,hj2⟩⟩
  ·have hke:k=x0.length:=by
    have:¬(0≤(x0.length:Int) - 1 - k):=fun h=>by rw [hz.2 h] at e;cases e
    omega
   subst hke
   refine wp_cond_false (CF (evb rfl e)) ?_
   refine wp_exit ?_
   simp only [Exit.then,Exit.inBlock,↓reduceIte,Nat.reduceEqDiff]
   exact ⟨_,FE (rs:=[]) rfl Res.nil,⟨_,rfl⟩,.inl ⟨_,rfl,hj⟩⟩
theorem en_285:Ent Tryz.prog 285:=ent Tryz.func285 (by kernel_rfl) rfl
theorem en_273:Ent Tryz.prog 273:=ent Tryz.func273 (by kernel_rfl) rfl
theorem ztc:Ik Tryz.prog 3 [.int .i64 0]:=FP (by kernel_rfl)
theorem flc:Mu Tryz.prog 3=true:=by kernel_rfl
theorem szc:Ep Tryz.prog 3 1=true:=by kernel_rfl
theorem c_back (A:Option Addr) (n c:Nat) (w:World):Calls Tryz.prog 273 #[.slice A n c] w fun e w'=>Ext w w'∧∃b,w.heap.size≤b∧Bx w' b 228 [.slice A n c]∧e = .returned (.func (.func 285) #[] #[.pointer (some ⟨b,0,none⟩)]):=by
 go_enter Tryz.func273,Tryz.ntmps273
 refine wp_seq_k ?_
 intro K1 h1
 refine Ah ?_
 refine Rr rfl rfl ?_
 intro b w1 E1 g1 q1
 refine nrm ?_
 refine sV (Ab rfl) ?_
 refine AF ?_
 refine h1 _ _ ?_
 refine wp_seq_k ?_
 intro K2 h2
 refine Ah ?_
 refine sV (ME (vs:=[.pointer (some ⟨b,0,none⟩)]) rfl) ?_
 refine sV (Ab rfl) ?_
 refine AF ?_
 refine h2 _ _ ?_
 refine wp_ret ?_
 exact fin rfl (Res.tmp rfl Res.nil) ⟨E1,b,g1,q1,rfl⟩
def cmpl (x y:List Int):Nat→Int
 | 0=>0
 | k+1=>if x.getD k 0<y.getD k 0 then -1 else if y.getD k 0<x.getD k 0 then 1 else cmpl x y k
def CQ (x0 x1:List Int):Option Int:=
 some (if x0.length<x1.length then -1 else if x1.length<x0.length then 1 else cmpl x0 x1 x0.length)
theorem Pm {n:Nat} : ∀k,k≤n→∀j:Fin n,n - k≤j.val→j ∈ prs n k
 | 0,_,j,h=>by have:=j.isLt;omega
 | k+1,hk,j,h=>by
  rw [LR (by omega),List.mem_append]
  by_cases hj:j.val=n - 1 - k
  ·exact .inr (List.mem_singleton.2 (Fin.ext hj))
  ·exact .inl (Pm k (by omega) j (by omega))
theorem PM (x y:List Int) (m k:Nat) (hk:k≤m) (h:∀i,m - k≤i→i<m→x.getD i 0=y.getD i 0):cmpl x y m=cmpl x y (m - k):=by
 induction k with
 | zero=>rfl
 | succ k ih=>
  rw [ih (by omega) (fun i h1 h2=>h i (by omega) h2)]
  obtain ⟨j,hj⟩:∃j,m - k=j+1:=⟨m - k - 1,by omega⟩
  have he:=h j (by omega) (by omega)
  rw [hj,show m - (k+1)=j by omega]
  show (if x.getD j 0<y.getD j 0 then -1 else if y.getD j 0<x.getD j 0 then 1 else cmpl x y j)=_
  rw [he,if_neg (by omega),if_neg (by omega)]
theorem cmpl_all (x y:List Int) (hall:∀j ∈ prs x.length x.length,x.getD j.val 0=y.getD j.val 0):∀m,m≤x.length→cmpl x y m=0:=by
 intro m hm
 rw [PM x y m m (Nat.le_refl _) (fun i _ hi=>hall ⟨i,by omega⟩ (Pm _ (Nat.le_refl _) _ (by simp))),Nat.sub_self]
 rfl
theorem cmpl_at (x y:List Int) (k:Nat) (hk:k<x.length) (hall:∀j ∈ prs x.length k,x.getD j.val 0=y.getD j.val 0) (hne:x.getD (x.length - 1 - k) 0≠y.getD (x.length - 1 - k) 0) :
  cmpl x y x.length=if x.getD (x.length - 1 - k) 0<y.getD (x.length - 1 - k) 0 then -1 else 1:=by
 rw [PM x y x.length k (by omega) (fun i h1 h2=>hall ⟨i,h2⟩ (Pm k (by omega) _ h1))]
 obtain ⟨j,hj⟩:∃j,x.length - k=j+1:=⟨x.length - k - 1,by omega⟩
 have e:x.length - 1 - k=j:=by omega
 rw [e] at hne ⊢
 rw [hj]
 show (if x.getD j 0<y.getD j 0 then -1 else if y.getD j 0<x.getD j 0 then 1 else cmpl x y j)=_
 split
 ·rfl
 ·rw [if_pos (by omega)]
theorem Px {B:Nat} {W W':World} {row:Option Nat} {b t:Nat} {cs:List Value} (hg:W.grownBy W' row) (hr:∀r,row=some r→B≤r∧∃o:Obj,W.heap[r]? = some o∧o.isCells=false) (h:Bx W b t cs):Bx W' b t cs:=
 (grownBy_keeps_cells hg (fun r e=>(hr r e).2) h rfl).trans h
theorem updOthers {b t:Nat} {cs:List Value} {W W':World} (u:Upd b W W') (h:Bx W b t cs):KeepsOthers W W':=
 ⟨by rw [u.size];exact Nat.le_refl _,fun k o hk ho=>(u.block k (fun e=>by
  subst e
  unfold Bx at h
  rw [h] at hk;cases hk
  cases ho)).trans hk⟩
theorem Hz (x0 x1:List Int) (A1:Option Addr) (c2:Nat) (A4:Option Addr) (c5:Nat) (w:World) (hT:TB w) (n3:RLu w A1 c2 x0) (n6:RLu w A4 c5 x1) (r:Int) (hr:CQ x0 x1=some r) :
  Calls Tryz.prog 251 #[.slice A1 (List.length x0) c2,.slice A4 (List.length x1) c5] w (Ret HY w r):=by
 obtain rfl:=Option.some.inj hr
 have l0:x0.length≤9223372036854775807:=by obtain ⟨h1,h2,_⟩:=n3;omega
 refine RR Tryz.func251 rfl [.slice A1 (List.length x0) c2,.slice A4 (List.length x1) c5,undef,undef,undef,undef,undef,undef,undef,undef,undef,undef,undef,undef,undef,undef,undef,undef,undef,undef,undef,undef,undef,undef,undef,undef,undef,undef,undef,undef,undef,undef,undef,undef,undef,undef,undef] (by simp [Tryz.ntmps251]) ?_
 refine wp_seq_k ?_
 intro K1 h1
 refine Ah ?_
 refine Rr rfl rfl ?_
 intro b1 w1 E1 g1 q1
 refine nrm ?_
 refine RZ ztc ?_
 intro b2 w2 E2 g2 q2
 refine nrm ?_
 refine AF ?_
 refine h1 _ _ ?_
 have q1':=q1.ext E2
 have hne:b1≠b2:=Bx.ne q1 g2
 have X2:Ext w w2:=E1.trans E2
 have g2':w.heap.size≤b2:=Nat.le_trans E1.size g2
 refine wp_seq_k ?_
 intro K2 h2
 apply wp_block
 refine wp_seq_k ?_
 intro K3 h3
 refine Ah ?_
 refine sV (Aa rfl) ?_
 refine sV (AD AG rfl) ?_
 refine sV (Ag flb rfl (Bx.cell q1' rfl)) ?_
 refine sV (AD AG rfl) ?_
 refine sb (Bv rfl rfl) ?_
 intro z hz
 refine nrm ?_
 refine sV (Ab rfl) ?_
 refine AF ?_
 refine h3 _ _ ?_
 rcases Bool.eq_false_or_eq_true z with e | e
 ·have hlt:x0.length<x1.length:=by have:=hz.1 e;omega
  rw [if_pos hlt]
  refine wp_cond_true (CF (evb rfl e)) ?_
  refine wp_seq_k ?_
  intro K4 h4
  refine Ah ?_
  refine Ns szc rfl rfl q2 rfl rfl rfl rfl (by simp only [SP0,SP1,S0,S1,Nat.reduceAdd];rfl) ?_
  intro w3 U3 q3
  refine AF ?_
  refine h4 _ _ ?_
  refine wp_ret ?_
  exact ⟨_,FE rfl (Res.cell1 rfl flc (Bx.cell q3 rfl) Res.nil),AJ (belU X2 U3 g2') rfl⟩
 have hge:¬x0.length<x1.length:=fun h=>by rw [hz.2 (by omega)] at e;cases e
 rw [if_neg hge]
 refine wp_cond_false (CF (evb rfl e)) ?_
 refine wp_seq_k ?_
 intro K4 h4
 refine Ah ?_
 refine sV (Aa rfl) ?_
 refine sV (AD AG rfl) ?_
 refine sV (Ag flb rfl (Bx.cell q1' rfl)) ?_
 refine sV (AD AG rfl) ?_
 refine sb (Eh rfl rfl) ?_
 intro z' hz'
 refine nrm ?_
 refine sV (Ab rfl) ?_
 refine AF ?_
 refine h4 _ _ ?_
 rcases Bool.eq_false_or_eq_true z' with e' | e'
 ·have hlt:x1.length<x0.length:=by have:=hz'.1 e';omega
  rw [if_pos hlt]
  refine wp_cond_true (CF (evb rfl e')) ?_
  refine wp_seq_k ?_
  intro K5 h5
  refine Ah ?_
  refine Ns szc rfl rfl q2 rfl rfl rfl rfl (by simp only [SP0,SP1,S0,S1,Nat.reduceAdd];rfl) ?_
  intro w3 U3 q3
  refine AF ?_
  refine h5 _ _ ?_
  refine wp_ret ?_
  exact ⟨_,FE rfl (Res.cell1 rfl flc (Bx.cell q3 rfl) Res.nil),AJ (belU X2 U3 g2') rfl⟩
 have hge':¬x1.length<x0.length:=fun h=>by rw [hz'.2 (by omega)] at e';cases e'
 have hlen:x1.length=x0.length:=by omega
 rw [if_neg hge']
 refine wp_cond_false (CF (evb rfl e')) ?_
 refine wp_skip ?_
 refine h2 _ _ ?_
 refine wp_seq_k ?_
 intro K6 h6
 refine wp_seq_k ?_
 intro K5 h5
 refine Ah ?_
 refine sV (Aa rfl) ?_
 refine scK (Ac en_273 (by rfl)) (c_back A1 (List.length x0) c2 w2) ?_
 rintro _ w3 ⟨E3,b3,g3,q3,rfl⟩
 refine ⟨_,rfl,?_⟩
 refine nrm ?_
 refine AF ?_
 refine h5 _ _ ?_
 have X3:Ext w w3:=X2.trans E3
 apply wp_block
 refine (wpIn_wide (n:=1)).1 ?_
 refine wpIn_rangeFunc_ownF rfl (Nat.le_refl 1) rfl trivial en_285 (it_back x0 A1 c2 b3 w3 q3 (n3.ext X3) l0) (fun h k=>belowK_t h k) (belowK_b (Nat.le_refl _)) (Below.refl _ _) (fun x=>rfl)
  (fun pre W=>(∀j ∈ pre,x0.getD j.val 0=x1.getD j.val 0)∧Ext w W∧Bx W b1 228 [.slice A4 (List.length x1) c5]∧Bx W b2 3 [.int .i64 0])
  (fun c pre W=>c = .ret∧Ext w W∧∃(in_:List (Fin x0.length)) (j:Fin x0.length),pre=in_++[j]∧(∀i ∈ in_,x0.getD i.val 0=x1.getD i.val 0)∧x0.getD j.val 0≠x1.getD j.val 0∧Bx W b2 3 [.int .i64 (if x0.getD j.val 0<x1.getD j.val 0 then -1 else 1)]) ?_ ?_ ?_ (fun x=>⟨([.slice A1 (List.length x0) c2,.slice A4 (List.length x1) c5,undef,.pointer (some ⟨b1,0,none⟩),.pointer (some ⟨b2,0,none⟩),.int .i64 (x.val:Int),.int .u32 (x0.getD x.val 0),.bool z,.slice A1 (List.length x0) c2,.int .i64 (List.length x0:Int),.slice A4 (List.length x1) c5,.int .i64 (List.length x1:Int),.bool z,.bool z',.slice A1 (List.length x0) c2,.int .i64 (List.length x0:Int),.slice A4 (List.length x1) c5,.int .i64 (List.length x1:Int),.bool z',.slice A1 (List.length x0) c2,.func (.func 285) #[] #[.pointer (some ⟨b3,0,none⟩)],.int .i64 (x.val:Int),.int .u32 (x0.getD x.val 0),undef,undef,undef,undef,undef,undef,undef,undef,undef,undef,undef,undef,undef,undef]:List Value).toArray,[]⟩) ?_ ?_ ?_ ?_
 ·rintro pre W W' row ⟨hp,hX,hq1,hq2⟩ hg hr
  exact ⟨hp,ownFrom_below (Nat.le_refl _) X3.size pre W W' row hX hg hr,Px hg hr hq1,Px hg hr hq2⟩
 ·rintro c pre W W' row ⟨hc,hX,in_,j,h1,h2,h3,hq2⟩ hg hr
  exact ⟨hc,ownFrom_below (Nat.le_refl _) X3.size pre W W' row hX hg hr,in_,j,h1,h2,h3,Px hg hr hq2⟩
 ·exact ⟨fun j hj=>(by cases hj),X3,q1'.ext E3,q2.ext E3⟩
 ·intro l x W K hK
  refine LS (actPQ rfl rfl) ?_
  refine wpIn_seq_k ?_
  intro K8 h8
  refine IQ (by rfl) (fun ⟨_,_,h⟩=>h) ?_
  refine sV (Ab rfl) ?_
  refine AF ?_
  refine h8 _ _ ?_
  refine IQ (by rfl) (fun ⟨_,_,h⟩=>h) ?_
  refine sV (Ab rfl) ?_
  refine AF ?_
  exact hK
 ·rintro l pre x W ⟨hpre,hX,hq1,hq2⟩ _
  have hnth:nth x1 (x.val:Int)=some (x1.getD x.val 0):=by
   have:=x.isLt
   unfold nth
   rw [if_pos ⟨by omega,by omega⟩,Int.toNat_natCast]
  obtain ⟨bb,oo,hA,ia,ib,hc⟩:=RL.nth (n6.ext hX) hnth
  apply wpIn_block
  apply wpIn_block
  refine wpIn_seq_k ?_
  intro K8 h8
  refine IQ (by rfl) (fun ⟨_,_,h⟩=>h) ?_
  refine sV (Aa rfl) ?_
  refine sV (Ag flb rfl (Bx.cell hq1 rfl)) ?_
  refine sV (Aa rfl) ?_
  refine sV (AA AG Av rfl rfl hA ia ib) ?_
  refine sV (Ag AZ rfl hc) ?_
  refine sb (Bv rfl rfl) ?_
  intro y hy
  refine nrm ?_
  refine sV (Ab rfl) ?_
  refine AF ?_
  refine h8 _ _ ?_
  rcases Bool.eq_false_or_eq_true y with ey | ey
  ·have hlt:=hy.1 ey
   refine wpIn_cond_true (CF (evb rfl ey)) ?_
   refine wpIn_seq_k ?_
   intro K9 h9
   refine IQ (by rfl) (fun ⟨_,_,h⟩=>h) ?_
   refine Ns szc rfl rfl hq2 rfl rfl rfl rfl (by simp only [SP0,SP1,S0,S1,Nat.reduceAdd];rfl) ?_
   intro w4 U4 q4
   refine AF ?_
   refine h9 _ _ ?_
   refine wpIn_ret ?_
   exact ⟨updOthers U4 hq2,rfl,belU hX U4 g2',pre,x,rfl,hpre,by omega,by rw [if_pos hlt];exact q4⟩
  ·have hnl:¬x0.getD x.val 0<x1.getD x.val 0:=fun h=>by rw [hy.2 h] at ey;cases ey
   refine wpIn_cond_false (CF (evb rfl ey)) ?_
   refine wpIn_seq_k ?_
   intro K9 h9
   refine IQ (by rfl) (fun ⟨_,_,h⟩=>h) ?_
   refine sV (Aa rfl) ?_
   refine sV (Ag flb rfl (Bx.cell hq1 rfl)) ?_
   refine sV (Aa rfl) ?_
   refine sV (AA AG Av rfl rfl hA ia ib) ?_
   refine sV (Ag AZ rfl hc) ?_
   refine sb (Eh rfl rfl) ?_
   intro y' hy'
   refine nrm ?_
   refine sV (Ab rfl) ?_
   refine AF ?_
   refine h9 _ _ ?_
   rcases Bool.eq_false_or_eq_true y' with ey' | ey'
   ·have hlt:=hy'.1 ey'
    refine wpIn_cond_true (CF (evb rfl ey')) ?_
    refine wpIn_seq_k ?_
    intro K10 h10
    refine IQ (by rfl) (fun ⟨_,_,h⟩=>h) ?_
    refine Ns szc rfl rfl hq2 rfl rfl rfl rfl (by simp only [SP0,SP1,S0,S1,Nat.reduceAdd];rfl) ?_
    intro w4 U4 q4
    refine AF ?_
    refine h10 _ _ ?_
    refine wpIn_ret ?_
    exact ⟨updOthers U4 hq2,rfl,belU hX U4 g2',pre,x,rfl,hpre,by omega,by rw [if_neg hnl];exact q4⟩
   ·have hnl':¬x1.getD x.val 0<x0.getD x.val 0:=fun h=>by rw [hy'.2 h] at ey';cases ey'
    refine wpIn_cond_false (CF (evb rfl ey')) ?_
    refine wpIn_skip ?_
    refine ⟨KeepsOthers.refl _,Below.refl _ _,?_,hX,hq1,hq2⟩
    intro j hj
    rcases List.mem_append.1 hj with h | h
    ·exact hpre j h
    ·rw [List.mem_singleton] at h;subst h;omega
 ·rintro D xs W hD rfl ⟨hall,hX,_,hq2⟩ hmk
  simp only [Exit.then,Exit.inBlock]
  have hz:cmpl x0 x1 x0.length=0:=cmpl_all x0 x1 hall x0.length (Nat.le_refl _)
  refine h6 _ _ ?_
  rw [hz]
  refine wp_seq_k ?_
  intro K7 h7
  refine Ah ?_
  refine Ns szc rfl rfl hq2 rfl rfl rfl rfl (by simp only [SP0,SP1,S0,S1,Nat.reduceAdd];rfl) ?_
  intro w4 U4 q4
  refine AF ?_
  refine h7 _ _ ?_
  refine wp_ret ?_
  have hmk':w4.heap[D]? = some (.deferred (some [])):=(updOthers U4 hq2).same _ _ hmk rfl
  have hD':w.heap.size≤D:=Nat.le_trans X3.size hD
  have Q4:=Quiet.put (n0:=w.heap.size) (.deferred none) hmk' hD' rfl
  have X4:=belU hX U4 g2'
  exact Sz hmk' rfl (Res.cell1 rfl flc (Bx.cell (q4.quiet Q4) rfl) Res.nil) (AJ (belQ X4 Q4 X4.size) (by rw [if_neg hge,if_neg hge'];rfl))
 ·rintro D c pre W hD ⟨k,hk,rfl⟩ ⟨rfl,hX,in_,j,hin,hall,hne',hq2⟩ hmk
  refine wpIn_ret ?_
  simp only [Exit.then,Exit.inBlock]
  rw [LR hk] at hin
  obtain ⟨rfl,hj⟩:=List.append_inj' hin rfl
  obtain rfl:=(List.cons.inj hj).1
  have hz:cmpl x0 x1 x0.length=if x0.getD (x0.length - 1 - k) 0<x1.getD (x0.length - 1 - k) 0 then -1 else 1:=cmpl_at x0 x1 k hk hall hne'
  rw [hz]
  have hD':w.heap.size≤D:=Nat.le_trans X3.size hD
  have Q4:=Quiet.put (n0:=w.heap.size) (.deferred none) hmk hD' rfl
  exact Sz hmk rfl (Res.cell1 rfl flc (Bx.cell (hq2.quiet Q4) rfl) Res.nil) (AJ (belQ hX Q4 hX.size) (by rw [if_neg hge,if_neg hge'];rfl))
end Go.Proofs.Lf
