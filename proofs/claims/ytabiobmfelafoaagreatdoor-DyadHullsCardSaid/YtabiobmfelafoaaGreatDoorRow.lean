import Derived.Test.YtabiobmfelafoaaGreatDoorOwn
namespace Go.Sb
set_option linter.unusedSimpArgs false
open Go.RowKit Go.Proofs.Sbn
open Go.Proofs.YtabiobmfelafoaaGreatDoorW.PrintLast
def OW (t n0:Nat) (w:World) (A:Option Addr) (n c:Nat) (xs:List Int):Prop:=
 xs.length=n∧((c=0∧xs=[])∨∃b ys,A=some ⟨b,0,none⟩∧n0≤b∧Bx w b t (us (xs++ys))∧(xs++ys).length=c∧c≤9223372036854775807)
theorem OW.nil (t n0:Nat) (w:World) (A:Option Addr):OW t n0 w A 0 0 []:=⟨rfl,.inl ⟨rfl,rfl⟩⟩
section
variable {t n0 n c:Nat} {w w':World} {A:Option Addr} {xs:List Int}
theorem OW.len (h:OW t n0 w A n c xs):xs.length=n:=h.1
theorem OW.nn (h:OW t n0 w A n c xs):OW t n0 w A xs.length c xs:=⟨rfl,h.2⟩
theorem OW.rl (h:OW t n0 w A n c xs):RL .u32 t w A c xs:=by
 rcases h.2 with ⟨rfl,rfl⟩ | ⟨b,ys,rfl,hb,hx,hl,hc⟩
 ·exact ⟨Nat.le_refl _,by omega,fun h=>(h rfl).elim⟩
 ·refine ⟨by simp at hl;omega,hc,fun _=>⟨b,0,_,_,rfl,.of hx,fun i hi=>?_⟩⟩
  simp [us,hi,List.getElem?_append_left]
theorem OW.ext (h:OW t n0 w A n c xs) (e:Ext w w'):OW t n0 w' A n c xs:=by
 obtain ⟨h0,h⟩:=h
 rcases h with h | ⟨b,ys,rfl,hb,hx,hl,hc⟩
 ·exact ⟨h0,.inl h⟩
 ·exact ⟨h0,.inr ⟨b,ys,rfl,hb,hx.ext e,hl,hc⟩⟩
theorem OW.mono {n1:Nat} (h:OW t n0 w A n c xs) (h1:n1≤n0):OW t n1 w A n c xs:=by
 obtain ⟨h0,h⟩:=h
 rcases h with h | ⟨b,ys,rfl,hb,hx,hl,hc⟩
 ·exact ⟨h0,.inl h⟩
 ·exact ⟨h0,.inr ⟨b,ys,rfl,Nat.le_trans h1 hb,hx,hl,hc⟩⟩
abbrev LtA (A:Option Addr) (c n1:Nat):Prop:=∀b,A=some ⟨b,0,none⟩→c≠0→b<n1
theorem OW.lt (h:OW t n0 w A n c xs):LtA A c w.heap.size:=fun b hA hc=>by
 rcases h.2 with ⟨h1,_⟩ | ⟨b',ys,hA',_,hx,_⟩
 ·exact absurd h1 hc
 ·rw [hA] at hA';cases hA';exact hx.lt
theorem OW.bel2 {n1:Nat} (h:OW t n0 w A n c xs) (e:Below n1 w w') (hl:LtA A c n1):OW t n0 w' A n c xs:=by
 obtain ⟨h0,h⟩:=h
 rcases h with h | ⟨b,ys,rfl,hb,hx,hl',hc⟩
 ·exact ⟨h0,.inl h⟩
 ·by_cases hz:c=0
  ·exact ⟨h0,.inl ⟨hz,by subst hz;simp at hl';exact hl'.1⟩⟩
  ·exact ⟨h0,.inr ⟨b,ys,rfl,hb,(e.block b (hl b rfl hz)).trans hx,hl',hc⟩⟩
theorem OW.updO {b:Nat} (h:OW t n0 w A n c xs) (u:UpdS [b] w w') (hb:b<n0):OW t n0 w' A n c xs:=by
 obtain ⟨h0,h⟩:=h
 rcases h with h | ⟨b',ys,rfl,hb',hx,hl',hc⟩
 ·exact ⟨h0,.inl h⟩
 ·exact ⟨h0,.inr ⟨b',ys,rfl,hb',hx.updS u (by simp;omega),hl',hc⟩⟩
theorem OW.nth {i:Int} (h:OW t n0 w A n c xs) (h0:0≤i) (h1:i<xs.length):∃b,A=some ⟨b,0,none⟩∧c≠0:=by
 rcases h.2 with ⟨_,rfl⟩ | ⟨b,ys,hA,hb,_,hl,_⟩
 ·simp at h1;omega
 ·exact ⟨b,hA,by simp at hl;omega⟩
end
def tk (l:List Value) (i:Nat):Value:=l.getD i undef
def gp (t:Nat→Value) (i:Nat):Nat→List Value→List Value
 | 0,r=>r
 | n+1,r=>t i::gp t (i+1) n r
def Fr (l:List Value) (F:(Nat→Value)→List Value):Prop:=∃t,l=F t
theorem Fr.mk {l:List Value} {F:(Nat→Value)→List Value} (h:l=F (tk l)):Fr l F:=⟨_,h⟩
theorem xO {n0:Nat} {a b c:World} (h:Ext a b) (k:Below n0 b c) (hn:a.heap.size≤n0):Ext a c:=Below.trans h (k.mono hn)
theorem OW.lit {t n0 n:Nat} {w:World} {b:Nat} {xs:List Int} (h:Bx w b t (us xs)) (hb:n0≤b) (hl:xs.length=n) (hc:n≤9223372036854775807):OW t n0 w (some ⟨b,0,none⟩) n n xs:=
 ⟨hl,.inr ⟨b,[],rfl,hb,by simpa using h,by simpa using hl,hc⟩⟩
theorem MQ (xs ys:List Int):us (xs++ys)=us xs++us ys:=by simp [us]
theorem RL.cells {t:Nat} {w:World} {A:Option Addr} {c:Nat} {xs:List Int} (h:RL .u32 t w A c xs) (hne:xs≠[]):∃a:Addr,A=some a∧∀j u,(us xs)[j]? = some u→w.cell? (a.add j)=some u:=by
 obtain ⟨b,off,cs,fr,hA,hb,hc⟩:=h.2.2 hne
 refine ⟨_,hA,fun j u hu=>?_⟩
 have hj:j<xs.length:=by
  have:=(List.getElem?_eq_some_iff.1 hu).1
  simpa [us] using this
 rw [JX,hb.cell,hc j hj]
 rw [us_get hj] at hu
 exact hu
theorem zc_us (n:Nat):Builtin.zeroCells (Value.int .u32 0).cells n=(us (List.replicate n 0)).toArray:=by
 apply Array.ext
 ·simp [Builtin.zeroCells,Value.cells,us]
 ·intro i h1 h2
  simp [Builtin.zeroCells,Value.cells,us,Nat.mod_one]
theorem RA (xs:List Int):∀u ∈ us xs,u.oneCell'=true:=by
 intro u hu
 simp only [us,List.mem_map] at hu
 obtain ⟨v,_,rfl⟩:=hu
 rfl
section
variable {P:Program} {w w':World} {l:List Value} {x y:Operand} {t e:Nat}
theorem run_appO {n0 ty n:Nat} {A A2:Option Addr} {c c2:Nat} {xs zs:List Int} (ht:P.underlying t=some (.slice e)) (hu:Kk P e=true)
  (hO':OW e n0 w A n c xs) (hR:RL .u32 e w A2 c2 zs) (hb:xs.length+zs.length≤35184372088832) (hn0:n0≤w.heap.size) :
  ∃A' c' w',(Builtin.append_ #[t,t] ty #[.slice A xs.length c,.slice A2 zs.length c2]).run P w = .ok (.slice A' (xs.length+zs.length) c') w'∧Below n0 w w'∧OW e n0 w' A' (xs++zs).length c' (xs++zs):=by
 obtain ⟨i,hi,hs,hby,hz⟩:=Mh hu
 have hO:=hO'.2
 rcases List.eq_nil_or_concat zs with rfl | ⟨zs',z',hzs⟩
 ·
  refine ⟨A,c,w,?_,Below.refl _ _,by simpa using ⟨rfl,hO⟩⟩
  have hle:xs.length≤c:=hO'.rl.1
  cases A with
  | none=>cases A2<;>simp [Builtin.append_,run_underlying ht,sizeOf,typeInfo,hi,Builtin.lenOf,Builtin.firstCells,loadCells,loadCellsFrom,hle,hs]
  | some a=>cases A2<;>simp [Builtin.append_,run_underlying ht,sizeOf,typeInfo,hi,Builtin.lenOf,Builtin.firstCells,loadCells,loadCellsFrom,hle,hs,storeCells]
 have hne:zs≠[]:=by rw [hzs];simp
 have hlz:0<zs.length:=by rw [hzs];simp
 obtain ⟨a2,rfl,hc2⟩:=hR.cells hne
 have grown:∀(old:Nat),Below n0 w (w.drew.alloc (.cells ((us xs).toArray++(us zs).toArray++Builtin.zeroCells (Value.int .u32 0).cells (grownCap w (xs.length+zs.length) old e - (xs.length+zs.length))) e))∧
   OW e n0 (w.drew.alloc (.cells ((us xs).toArray++(us zs).toArray++Builtin.zeroCells (Value.int .u32 0).cells (grownCap w (xs.length+zs.length) old e - (xs.length+zs.length))) e)) (some ⟨w.heap.size,0,none⟩) (xs++zs).length (grownCap w (xs.length+zs.length) old e) (xs++zs):=by
  intro old
  have hge:=grownCap_ge w (xs.length+zs.length) old e
  have hcm:grownCap w (xs.length+zs.length) old e≤maxLen:=grownCap_le_maxLen w (xs.length+zs.length) old e (by simp only [maxLen];omega)
  refine ⟨((Below.refl n0 w).drew).alloc hn0 _,rfl,.inr ⟨w.heap.size,List.replicate (grownCap w (xs.length+zs.length) old e - (xs.length+zs.length)) 0,rfl,hn0,?_,?_,by simpa [maxLen] using hcm⟩⟩
  ·have:=Bx.new w.drew e (us (xs++zs++List.replicate (grownCap w (xs.length+zs.length) old e - (xs.length+zs.length)) 0))
   rw [zc_us]
   have e1:(us xs).toArray++(us zs).toArray++(us (List.replicate (grownCap w (xs.length+zs.length) old e - (xs.length+zs.length)) 0)).toArray=(us (xs++zs++List.replicate (grownCap w (xs.length+zs.length) old e - (xs.length+zs.length)) 0)).toArray:=by
    rw [MQ,MQ];simp
   rw [e1]
   exact this
  ·simp only [List.length_append,List.length_replicate];omega
 have hfit:∀old,old<xs.length+zs.length→Builtin.nextslicecap (xs.length+zs.length) old*i.bytes≤281474976710656:=fun old ho=>growslice_fits ho (by rw [hby];omega)
 by_cases hroom:xs.length+zs.length≤c
 ·rcases hO with ⟨rfl,rfl⟩ | ⟨b,ys,rfl,hb0,hx,hl,hc⟩
  ·simp only [List.length_nil,Nat.le_zero_eq] at hroom;omega
  ·have hy:zs.length≤ys.length:=by simp at hl;omega
   have hr:=run_append_room (P:=P) w t ty e i ht hi b xs.length c (us (xs++ys)).toArray hx a2 zs.length c2 (us zs) (by simp [us,hs]) hc2 (RA zs) hroom (by simp [us,hs];omega)
   refine ⟨_,_,_,hr,?_,rfl,.inr ⟨b,ys.drop zs.length,rfl,hb0,?_,?_,hc⟩⟩
   ·exact ⟨rfl,rfl,rfl,by simp,fun k hk=>setRow_other w b k _ (by omega)⟩
   ·have e1:List.take (xs.length*i.size) (us (xs++ys)).toArray.toList++us zs++List.drop (xs.length*i.size+(us zs).length) (us (xs++ys)).toArray.toList=us (xs++zs++ys.drop zs.length):=by
     rw [hs,Nat.mul_one,MQ,MQ,MQ]
     simp only [us,List.length_map]
     rw [List.take_append_of_le_length (by simp),List.take_of_length_le (by simp)]
     rw [List.drop_append,List.drop_eq_nil_of_le (by simp),List.map_drop]
     simp
    rw [e1]
    exact Bx.set hx
   ·simp at hl ⊢;omega
 ·have hr:∃A0,A=A0∧(A0=none→xs=[]∧c=0):=by
   refine ⟨A,rfl,fun hA=>?_⟩
   rcases hO with ⟨h1,h2⟩ | ⟨b,ys,h1,_⟩
   ·exact ⟨h2,h1⟩
   ·rw [hA] at h1;cases h1
  cases A with
  | none=>
   obtain ⟨A0,rfl,hA⟩:=hr
   obtain ⟨rfl,rfl⟩:=hA rfl
   have hr:=run_append_nil (P:=P) w t ty e i (.int .u32 0) ht hi hz a2 zs.length c2 (us zs) (by simp [us,hs]) hc2 hlz (by have:=hb;simp only [List.length_nil] at this;omega) (by rw [hby];simp at hb;omega)
   have hg:=grown 0
   have hl0:([]:List Int).length+zs.length=zs.length:=by simp
   have hu0:(us []).toArray++(us zs).toArray=(us zs).toArray:=by simp [us]
   rw [hl0,hu0] at hg
   rw [hl0]
   exact ⟨_,_,_,hr,hg.1,hg.2⟩
  | some a1=>
   have holds:∀j v,(us xs)[j]? = some v→w.cell? (a1.add j)=some v:=by
    intro j v hj
    have hne':xs≠[]:=by rintro rfl;simp [us] at hj
    obtain ⟨a,ha,hcc⟩:=hO'.rl.cells hne'
    cases ha
    exact hcc j v hj
   have hr:=run_append_grow (P:=P) w t ty e i (.int .u32 0) ht hi hz a1 xs.length c (us xs) (by simp [us,hs]) holds a2 zs.length c2 (us zs) (by simp [us,hs]) hc2 (by omega) (by omega) (hfit c (by omega))
   exact ⟨_,_,_,hr,(grown c).1,(grown c).2⟩
end
section
variable {P:Program} {ops:Array Oper} {Q:Exit→Act→World→Prop} {w w':World} {rest:List Oper} {l l':List Value} {ds:List Deferred}
variable {op:Op} {ty d:Nat} {pos:String} {af:Array Edge} {gd:Option (Nat × Bool)} {v:Value} {x y:Operand} {t e:Nat}
theorem Ja {n c:Int} (ht:P.underlying t=some (.slice e)) (hu:Kk P e=true) (hx:evo l x=some (.int .i64 n)) (hy:evo l y=some (.int .i64 c)) (hg:0≤n∧n≤c∧c≤70368744177664)
  (h:∀A w',Ext w w'→OW e w.heap.size w' A n.toNat c.toNat (List.replicate n.toNat 0)→WL P ops Q rest (l.set d (.slice A n.toNat c.toNat)) ds w')
  (hw:Region.wanted ⟨some d,.makeSlice t x y,ty,pos,af,gd⟩ (yielded ops l.toArray)=true:=by rfl) :
  WL P ops Q (⟨some d,.makeSlice t x y,ty,pos,af,gd⟩::rest) l ds w:=by
 refine sv (d_makeS ht hu hx hy hg.1 hg.2.1 hg.2.2) (h _ _ (Ext.alloc _ _) ⟨by simp,.inr ⟨w.heap.size,List.replicate (c.toNat - n.toNat) 0,rfl,Nat.le_refl _,?_,?_,by omega⟩⟩) hw
 ·rw [List.replicate_append_replicate,show n.toNat+(c.toNat - n.toNat)=c.toNat by omega]
  exact Bx.new _ _ _
 ·simp;omega
theorem MC {n0 n m:Nat} {A A2:Option Addr} {c c2:Nat} {xs zs:List Int} (ht:P.underlying t=some (.slice e)) (hu:Kk P e=true)
  (hx:evo l x=some (.slice A n c)) (hy:evo l y=some (.slice A2 m c2)) (hm:m=zs.length)
  (hO:OW e n0 w A n c xs) (hR:RL .u32 e w A2 c2 zs) (hb:xs.length+zs.length≤35184372088832) (hn0:n0≤w.heap.size)
  (h:∀A' c' w',Below n0 w w'→OW e n0 w' A' (xs++zs).length c' (xs++zs)→WL P ops Q rest (l.set d (.slice A' (xs++zs).length c')) ds w')
  (hw:Region.wanted ⟨some d,.call { callee:=.builtin .append,args:=#[x,y],argTypes:=#[t,t] },ty,pos,af,gd⟩ (yielded ops l.toArray)=true:=by rfl) :
  WL P ops Q (⟨some d,.call { callee:=.builtin .append,args:=#[x,y],argTypes:=#[t,t] },ty,pos,af,gd⟩::rest) l ds w:=by
 obtain rfl:=hO.1
 subst hm
 obtain ⟨A',c',w',hr,h1,h2⟩:=run_appO (P:=P) (ty:=ty) ht hu hO hR hb hn0
 rw [show xs.length+zs.length=(xs++zs).length by simp] at hr
 refine sv (w':=w') (fun ρ he _ ty' _ _ _=>?_) (h A' c' w' h1 h2) hw
 have hr':(Builtin.append_ #[t,t] ty' #[.slice A xs.length c,.slice A2 zs.length c2]).run P w = .ok (.slice A' (xs++zs).length c') w':=hr
 simp [execOp,resolve,invoke,builtin,he _ _ hx,he _ _ hy,hr',Result.andThen]
theorem Nf {n0 b n:Nat} {A:Option Addr} {c:Nat} {xs:List Int} {i u:Int} (ht:Ex P e 1=true) (hx:evo l x=some (.pointer (some ⟨b,0+i.toNat,none⟩))) (hy:evo l y=some (.int .u32 u))
  (hO:OW e n0 w A n c xs) (hA:A=some ⟨b,0,none⟩) (h0:0≤i) (h1:i<xs.length)
  (h:∀w',Below n0 w w'→UpdS [b] w w'→OW e n0 w' A n c (xs.set i.toNat u)→WL P ops Q rest l ds w') (hw:Region.wanted ⟨none,.store e x y,ty,pos,af,gd⟩ (yielded ops l.toArray)=true:=by rfl) :
  WL P ops Q (⟨none,.store e x y,ty,pos,af,gd⟩::rest) l ds w:=by
 subst hA
 obtain ⟨hn,hO⟩:=hO
 rcases hO with ⟨_,rfl⟩ | ⟨b',ys,hA,hb,hx',hl,hc⟩
 ·simp at h1;omega
 ·cases hA
  have hlt:i.toNat<xs.length:=by omega
  refine sk hw (My (vs:=[.int .u32 u]) ht hx hy hx' rfl rfl (by simp [us];omega) rfl) (h _ ?_ ((UpdS.refl _ _).upd (Upd.setRow _ _ _) (.inl (by simp))) ⟨by simpa using hn,.inr ⟨b,ys,rfl,hb,?_,by simpa using hl,hc⟩⟩)
  ·exact ⟨rfl,rfl,rfl,by simp,fun k hk=>setRow_other w b k _ (by omega)⟩
  ·have e1:spl (us (xs++ys)) (0+i.toNat) [Value.int .u32 u]=us (xs.set i.toNat u++ys):=by
    simp only [Nat.zero_add,SP1,SP0,PD]
    rw [List.set_append_left _ _ hlt]
   rw [e1]
   exact Bx.set hx'
theorem OW.nthc {t n0 n c:Nat} {A:Option Addr} {xs:List Int} {i u:Int} (h:OW t n0 w A n c xs) (hn:Go.Proofs.Sbn.nth xs i=some u) :
  ∃b,A=some ⟨b,0,none⟩∧c≠0∧0≤i∧i<n∧w.cell? ⟨b,0+i.toNat,none⟩=some (.int .u32 u):=by
 obtain ⟨b,off,hA,h0,h1,hc⟩:=h.rl.nth hn
 obtain ⟨b',hA',hz⟩:=h.nth h0 h1
 rw [hA'] at hA
 have he:=Option.some.inj hA
 simp only [Addr.mk.injEq] at he
 obtain ⟨rfl,rfl,_⟩:=he
 exact ⟨_,hA',hz,h0,by rw [←h.1];exact h1,hc⟩
theorem OW.cap {t n0 n c:Nat} {A:Option Addr} {xs:List Int} (h:OW t n0 w A n c xs):xs.length≤c:=h.rl.1
theorem Nk (ht:P.underlying t=some (.slice e)) (hu:Kk P e=true)
  (h:∀A w',Ext w w'→WL P ops Q rest (l.set d (.slice A 0 0)) ds w') (hw:Region.wanted ⟨some d,.buildSlice t 0 #[],ty,pos,af,gd⟩ (yielded ops l.toArray)=true:=by rfl) :
  WL P ops Q (⟨some d,.buildSlice t 0 #[],ty,pos,af,gd⟩::rest) l ds w:=by
 obtain ⟨i,hi,hs,hby,hz⟩:=Mh hu
 refine sv (v:=.slice (some ⟨w.heap.size,0,none⟩) 0 0) (w':=w.alloc (.cells #[] e)) (fun ρ he _ _ _ _ _=>?_) (h _ _ (Ext.alloc _ _)) hw
 simp [execOp,Instr.buildSlice,run_underlying ht,sizeOf,typeInfo,hi,hs,Instr.fill,newRow]
 congr 2
 apply Array.ext<;>simp
theorem Rm {n0 n ts:Nat} {A A2:Option Addr} {c c2:Nat} {xs zs:List Int} (ht:P.underlying t=some (.slice e)) (hs:Ex P e 1=true)
  (hx:evo l x=some (.slice A n c)) (hy:evo l y=some (.slice A2 zs.length c2)) (hO:OW e n0 w A n c xs) (hR:RL .u32 e w A2 c2 zs)
  (h:∀w',Below n0 w w'→OW e n0 w' A n c (zs.take xs.length++xs.drop zs.length)→WL P ops Q rest (l.set d (.int .i64 ((Nat.min zs.length n:Nat):Int))) ds w')
  (hw:Region.wanted ⟨some d,.call { callee:=.builtin .copy,args:=#[x,y],argTypes:=#[t,ts] },ty,pos,af,gd⟩ (yielded ops l.toArray)=true:=by rfl) :
  WL P ops Q (⟨some d,.call { callee:=.builtin .copy,args:=#[x,y],argTypes:=#[t,ts] },ty,pos,af,gd⟩::rest) l ds w:=by
 have hs':(P.info? e).map (·.size)=some 1:=by unfold Ex at hs;simpa using hs
 have key:∃w',(∀ty',(Builtin.copy_ #[t,ts] ty' #[.slice A n c,.slice A2 zs.length c2]).run P w = .ok (.int .i64 ((Nat.min zs.length n:Nat):Int)) w')∧Below n0 w w'∧OW e n0 w' A n c (zs.take xs.length++xs.drop zs.length):=by
  obtain ⟨hn,hO'⟩:=hO
  by_cases hz:Nat.min zs.length n=0
  ·refine ⟨w,fun ty'=>?_,Below.refl _ _,?_⟩
   ·rw [hz]
    exact run_copy_none w t ts ty' e A A2 n c zs.length c2 ht hs' hz
   ·have:zs.take xs.length++xs.drop zs.length=xs:=by
     rcases Nat.eq_zero_or_pos zs.length with h0 | h0
     ·rw [List.eq_nil_of_length_eq_zero h0];simp
     ·have:xs.length=0:=by rw [hn];have hz':min zs.length n=0:=hz;omega
      rw [List.eq_nil_of_length_eq_zero this];simp
    rw [this]
    exact ⟨hn,hO'⟩
  ·have hzp:0<zs.length∧0<n:=by have hz':¬min zs.length n=0:=hz;omega
   rcases hO' with ⟨_,rfl⟩ | ⟨b,ys,rfl,hb,hB,hl,hc⟩
   ·simp at hn;omega
   ·obtain ⟨a2,rfl,hcell⟩:=hR.cells (by intro e;simp [e] at hzp)
    have hlen:(zs.take xs.length).length=Nat.min zs.length n:=by rw [List.length_take,hn,Nat.min_comm]
    have hlen':(us (zs.take xs.length)).length=Nat.min zs.length n:=by simpa [us] using hlen
    have hmn:Nat.min zs.length n≤n:=Nat.min_le_right _ _
    have hmz:Nat.min zs.length n≤zs.length:=Nat.min_le_left _ _
    refine ⟨_,fun ty'=>?_,?_,?_,.inr ⟨b,ys,rfl,hb,Bx.set (cs':=us (zs.take xs.length++xs.drop zs.length++ys)) hB,?_,hc⟩⟩
    ·have hr:=run_copy_row (P:=P) w t ts ty' e b 0 n c a2 zs.length c2 (us (xs++ys)).toArray e (us (zs.take xs.length)) ht hs' hB hlen'
      (fun j v hj=>hcell j v (by
       have hj2:=(List.getElem?_eq_some_iff.1 hj).1
       rw [hlen'] at hj2
       have:us (zs.take xs.length)=(us zs).take xs.length:=by simp [us,List.map_take]
       rw [this,List.getElem?_take_of_lt (by omega)] at hj
       exact hj)) (by simp only [Nat.zero_add];rw [hlen'];simp [us];omega) (RA _)
     rw [hlen'] at hr
     have hgo:goInt (Nat.min zs.length n) = .int .i64 ((Nat.min zs.length n:Nat):Int):=rfl
     rw [hgo] at hr
     rw [hr]
     congr 2
     simp only [List.take_zero,List.nil_append,Nat.zero_add]
     have:(us (xs++ys)).drop (Nat.min zs.length n)=us (xs.drop zs.length++ys):=by
      rw [us,us,←List.map_drop]
      congr 1
      rw [List.drop_append,←hn]
      have e1:xs.drop (Nat.min zs.length xs.length)=xs.drop zs.length:=by
       rcases Nat.le_total zs.length xs.length with h | h
       ·rw [show Nat.min zs.length xs.length=zs.length from Nat.min_eq_left h]
       ·rw [show Nat.min zs.length xs.length=xs.length from Nat.min_eq_right h,List.drop_eq_nil_of_le (Nat.le_refl _),List.drop_eq_nil_of_le h]
      rw [e1,show Nat.min zs.length xs.length - xs.length=0 from Nat.sub_eq_zero_of_le (Nat.min_le_right _ _)]
      simp
     rw [this,←MQ,List.append_assoc]
    ·exact ⟨rfl,rfl,rfl,by simp,fun k hk=>setRow_other w b k _ (by omega)⟩
    ·simp;omega
    ·simp at hl ⊢;omega
 obtain ⟨w',hr,h1,h2⟩:=key
 refine sv (w':=w') (fun ρ he _ ty' _ _ _=>?_) (h w' h1 h2) hw
 have hr':=hr ty'
 simp [execOp,resolve,invoke,builtin,he _ _ hx,he _ _ hy,hr',Result.andThen]
theorem OW.win {n0 n c lo hi:Nat} {A:Option Addr} {xs:List Int} (h:OW t n0 w A n c xs) (h1:lo<hi) (h2:hi≤n) :
  ∃b ys,A=some ⟨b,0,none⟩∧c≠0∧n0≤b∧Bx w b t (us (xs.take lo++(xs.drop lo).take (hi - lo)++ys))∧
   (∀w' zs,zs.length=hi - lo→Bx w' b t (us (xs.take lo++zs++ys))→OW t n0 w' A n c (xs.take lo++zs++xs.drop hi)):=by
 obtain ⟨hn,hO⟩:=h
 rcases hO with ⟨_,rfl⟩ | ⟨b,ys,rfl,hb,hB,hl,hc⟩
 ·simp at hn;omega
 ·have e1:xs.take lo++(xs.drop lo).take (hi - lo)++(xs.drop hi++ys)=xs++ys:=by
   have:(xs.drop lo).take (hi - lo)++xs.drop hi=xs.drop lo:=by
    have:=List.take_append_drop (hi - lo) (xs.drop lo)
    rw [List.drop_drop,show lo+(hi - lo)=hi by omega] at this
    exact this
   rw [←List.append_assoc,List.append_assoc (xs.take lo),this,List.take_append_drop]
  refine ⟨b,xs.drop hi++ys,rfl,by simp at hl;omega,hb,by rw [e1];exact hB,fun w' zs hz hB'=>⟨by simp;omega,.inr ⟨b,ys,rfl,hb,by rw [←List.append_assoc] at hB';exact hB',by simp at hl ⊢;omega,hc⟩⟩⟩
theorem swin {n0 n c lo hi b:Nat} {A:Option Addr} {xs:List Int} {low high:Option Operand} (ht:P.underlying t=some (.slice e)) (hs:Ex P e 1=true) (hx:evo l x=some (.slice A n c))
  (hl:match low with | some o=>∃k,evo l o=some (.int k (lo:Int)) | none=>lo=0) (hh:match high with | some o=>∃k,evo l o=some (.int k (hi:Int)) | none=>hi=n) (h1:lo<hi) (h2:hi≤n) (hO:OW e n0 w A n c xs) (hA:A=some ⟨b,0,none⟩)
  (h:WL P ops Q rest (l.set d (.slice (some ⟨b,(xs.take lo).length,none⟩) ((xs.drop lo).take (hi - lo)).length (c - lo))) ds w) (hw:Region.wanted ⟨some d,.slice t x low high none,ty,pos,af,gd⟩ (yielded ops l.toArray)=true:=by rfl) :
  WL P ops Q (⟨some d,.slice t x low high none,ty,pos,af,gd⟩::rest) l ds w:=by
 have hc:=hO.cap
 rw [hO.1] at hc
 refine sv (Og ht hs hx hl hh (by omega) (by omega)) ?_ hw
 subst hA
 have hn:=hO.1
 rw [if_neg (by omega)]
 have e1:(xs.take lo).length=lo:=by simp;omega
 have e2:((xs.drop lo).take (hi - lo)).length=hi - lo:=by simp;omega
 rw [e1,e2] at h
 simpa [JX] using h
theorem scK {f:FuncId} {args:List Value} {R:Ending→World→Prop} (hd:FV P l op f args w) (hc:Calls P f args.toArray w R)
  (h:∀e' w',R e' w'→∃v,e' = .returned v∧WL P ops Q rest (l.set d v) ds w') (hw:Region.wanted ⟨some d,op,ty,pos,af,gd⟩ (yielded ops l.toArray)=true:=by rfl) :
  WL P ops Q (⟨some d,op,ty,pos,af,gd⟩::rest) l ds w:=by
 refine sq hw fun K hK=>?_
 unfold Oper.wp
 rw [hd _ (fun _ _=>Ak),Oper.upon_enter]
 refine hc.mono fun e w' he=>?_
 obtain ⟨v,rfl,h2⟩:=h _ _ he
 simp only [FA]
 exact hK _ _ _ h2
theorem UpdS.below {n0 b:Nat} (h:UpdS [b] w w') (hb:n0≤b) (hl:b<w.heap.size):Below n0 w w':=
 ⟨h.os,h.tape,h.output,h.size,fun k hk=>h.block k (by omega) (by simp;omega)⟩
theorem TB.hpos (h:TB w):0<w.heap.size:=by
 have h0:=h 0 (by decide)
 unfold World.cell? at h0
 cases hq:w.heap[0]? with
 | none=>simp [hq] at h0
 | some o=>exact (Array.getElem?_eq_some_iff.1 hq).1
theorem TB.nz {b:Nat} (h:TB w) (hb:w.heap.size≤b):b≠0:=by have:=h.hpos;omega
theorem Ns {fn:Func} {f:FuncId} {c:Code} {args:Array Value} {R:Ending→World→Prop} (hf:P.funcs[f]? = some fn) (hb:fn.body=some c) (l:List Value) (hl:args++Array.replicate (fn.ntmps - args.size) undef=l.toArray)
  (h:c.wp P (bodyPost P fn R) ⟨l.toArray,[]⟩ w):Calls P f args w R:=by
 refine calls_of_wp hf hb ?_
 rw [hl]
 exact h
def repo (w0 w:World) (r:List Int) (v:Value):Prop:=∃A c,v = .slice A (List.length r) c∧OW 179 w0.heap.size w A (List.length r) c r
def RetW {α:Type} (t b:Nat) (pre ys:List Int) (n:Nat) (rep:World→α→Value→Prop) (w:World) (r:α × List Int) (e:Ending) (w':World):Prop:=
 UpdS [b] w w'∧r.2.length=n∧Bx w' b t (us (pre++r.2++ys))∧∃v,e = .returned v∧rep w' r.1 v
def WN (t b:Nat) (pre ys:List Int) (w:World) (A:Option Addr) (n c:Nat) (xs:List Int):Prop:=
 xs.length=n∧A=some ⟨b,pre.length,none⟩∧Bx w b t (us (pre++xs++ys))∧n≤c∧c≤9223372036854775807
section
variable {b n c:Nat} {pre ys xs:List Int} {A:Option Addr}
theorem WN.len (h:WN t b pre ys w A n c xs):xs.length=n:=h.1
theorem WN.bx (h:WN t b pre ys w A n c xs):Bx w b t (us (pre++xs++ys)):=h.2.2.1
theorem WN.rl (h:WN t b pre ys w A n c xs):RL .u32 t w A c xs:=by
 obtain ⟨h1,h2,h3,h4,h5⟩:=h
 refine ⟨by omega,h5,fun _=>⟨b,pre.length,_,_,h2,.of h3,fun i hi=>?_⟩⟩
 simp [us,hi,List.getElem?_append_right,List.getElem?_append_left]
theorem WN.ext (h:WN t b pre ys w A n c xs) (e:Ext w w'):WN t b pre ys w' A n c xs:=⟨h.1,h.2.1,h.2.2.1.ext e,h.2.2.2⟩
theorem WN.nthc {i u:Int} (h:WN t b pre ys w A n c xs) (hn:Go.Proofs.Sbn.nth xs i=some u) :
  ∃b',A=some ⟨b',pre.length,none⟩∧b'=b∧0≤i∧i<n∧w.cell? ⟨b',pre.length+i.toNat,none⟩=some (.int .u32 u):=by
 obtain ⟨b',off,hA,h0,h1,hc⟩:=h.rl.nth hn
 have h2:=h.2.1
 rw [hA] at h2;cases h2
 exact ⟨b,hA,rfl,h0,by rw [←h.1];exact h1,hc⟩
theorem Qu {b':Nat} {i u:Int} (ht:Ex P e 1=true) (hx:evo l x=some (.pointer (some ⟨b',pre.length+i.toNat,none⟩))) (hy:evo l y=some (.int .u32 u))
  (hO:WN e b pre ys w A n c xs) (hA:A=some ⟨b',pre.length,none⟩) (h0:0≤i) (h1:i<xs.length)
  (h:∀w',UpdS [b] w w'→WN e b pre ys w' A n c (xs.set i.toNat u)→WL P ops Q rest l ds w') (hw:Region.wanted ⟨none,.store e x y,ty,pos,af,gd⟩ (yielded ops l.toArray)=true:=by rfl) :
  WL P ops Q (⟨none,.store e x y,ty,pos,af,gd⟩::rest) l ds w:=by
 obtain ⟨h3,h4,h5,h6⟩:=hO
 rw [hA] at h4;cases h4
 have hlt:i.toNat<xs.length:=by omega
 refine sk hw (My (vs:=[.int .u32 u]) ht hx hy h5 rfl rfl (by simp [us];omega) rfl) (h _ ((UpdS.refl _ _).upd (Upd.setRow _ _ _) (.inl (by simp))) ⟨by simpa using h3,hA,?_,h6⟩)
 have e1:spl (us (pre++xs++ys)) (pre.length+i.toNat) [Value.int .u32 u]=us (pre++xs.set i.toNat u++ys):=by
  simp only [SP1,SP0,PD]
  rw [List.append_assoc,List.set_append_right _ _ (by omega),show pre.length+i.toNat - pre.length=i.toNat by omega,List.set_append_left _ _ hlt,←List.append_assoc]
 rw [e1]
 exact Bx.set h5
theorem UpdS.tr {a:World} (h:UpdS [b] a w) (u:UpdS [b] w w'):UpdS [b] a w':=h.updS u (by simp)
theorem RL.updW {k:IntKind} (h:RL k t w A c xs) (u:UpdS [b] w w') (ha:Apart A xs b):RL k t w' A c xs:=h.updSA u (by simpa using ha)
theorem TB.updW (u:UpdS [b] w w') (hb:b≠0) (h:TB w):TB w':=fun j hj=>by
 have h0:=h j hj
 have hp:=h.hpos
 unfold World.cell? at h0 ⊢
 have hq:=u.block 0 hp (by simp;omega)
 simp only at h0 ⊢
 rw [hq]
 exact h0
end
end
section
variable {P:Program} {ops:Array Oper} {Q:Exit→Act→World→Prop} {w w' w1:World} {l l':List Value} {ds:List Deferred} {tl:List Nat} {fuel:Nat} {lst:Array Bool}
variable {op:Op} {ty d:Nat} {pos:String} {af:Array Edge} {gd:Option (Nat × Bool)} {v:Value} {x y:Operand} {t e:Nat}
theorem dkO {n0 b n:Nat} {A:Option Addr} {c:Nat} {xs:List Int} {iv u:Int} (i:Nat) (hi:ops[i]? = some ⟨none,.store e x y,ty,pos,af,gd⟩) (hc:NL ops lst i=true) (htl:i ∈ tl) (hw:Region.wanted ⟨none,.store e x y,ty,pos,af,gd⟩ (yielded ops l.toArray)=true) (ht:Ex P e 1=true)
  (hx:evo l x=some (.pointer (some ⟨b,0+iv.toNat,none⟩))) (hy:evo l y=some (.int .u32 u)) (hO:OW e n0 w A n c xs) (hA:A=some ⟨b,0,none⟩) (h0:0≤iv) (h1:iv<xs.length)
  (h:∀w',Below n0 w w'→UpdS [b] w w'→OW e n0 w' A n c (xs.set iv.toNat u)→wpAnyLast P .any ops Q (Ext w1) tl fuel (lst.setIfInBounds i true) ⟨l.toArray,ds⟩ w') :
  wpAnyLast P .any ops Q (Ext w1) tl (fuel+1) lst ⟨l.toArray,ds⟩ w:=by
 subst hA
 obtain ⟨hn,hO⟩:=hO
 rcases hO with ⟨_,rfl⟩ | ⟨b',ys,hA,hb,hx',hl,hcc⟩
 ·simp at h1;omega
 ·cases hA
  have hlt:iv.toNat<xs.length:=by omega
  refine dk (vs:=[.int .u32 u]) (cs':=us (xs.set iv.toNat u++ys)) i hi hc htl hw ht hx hy hx' rfl rfl (by simp [us];omega) rfl ?_ fun w' hU hB=>h w' ?_ ((UpdS.refl _ _).upd hU (.inl (by simp))) ⟨by simpa using hn,.inr ⟨b,ys,rfl,hb,hB,by simpa using hl,hcc⟩⟩
  ·simp only [Nat.zero_add,SP1,SP0,PD]
   rw [List.set_append_left _ _ hlt]
  ·exact ⟨hU.os,hU.tape,hU.output,by rw [hU.size];exact Nat.le_refl _,fun k hk=>hU.block k (by omega)⟩
theorem dslice {k:IntKind} {A:Option Addr} {c lo hi:Nat} {xs:List Int} {low high:Option Operand} (i:Nat) (hi':ops[i]? = some ⟨some d,.slice t x low high none,ty,pos,af,gd⟩) (ht:P.underlying t=some (.slice e)) (hs:Ex P e 1=true) (hx:evo l x=some (.slice A xs.length c))
  (hl:match (generalizing:=false) low with | some o=>∃k,evo l o=some (.int k (lo:Int)) | none=>lo=0) (hh:match (generalizing:=false) high with | some o=>∃k,evo l o=some (.int k (hi:Int)) | none=>hi=xs.length) (h1:lo≤hi) (h2:hi≤xs.length) (hR:RL k e w A c xs)
  (h:∀A' c',RL k e w A' c' ((xs.drop lo).take (hi - lo))→wpAnyLast P .any ops Q (Ext w1) tl fuel (lst.setIfInBounds i true) ⟨(l.set d (.slice A' ((xs.drop lo).take (hi - lo)).length c')).toArray,ds⟩ w)
  (hw:Region.wanted ⟨some d,.slice t x low high none,ty,pos,af,gd⟩ (yielded ops l.toArray)=true:=by rfl) (hc:anB ops lst i=true:=by kernel_rfl)
  (hQ:∀v c a w,Q (.panic c) (a.put (some d) v) w→Q (.panic c) a w:=by exact fun _ _ _ _ h=>h) :
  wpAnyLast P .any ops Q (Ext w1) tl (fuel+1) lst ⟨l.toArray,ds⟩ w:=by
 have hcc:hi≤c:=Nat.le_trans h2 hR.1
 have h':=h _ _ (hR.part h1 h2)
 have hlen:((xs.drop lo).take (hi - lo)).length=hi - lo:=by simp;omega
 rw [hlen] at h'
 exact da i hi' hc (hQ _) hw (fun w'=>Og ht hs hx hl hh h1 hcc) h'
end
end Go.Sb
namespace Go.Proofs
open Go.Sb Go.Proofs.Sbn
abbrev uu:Value:=undef
theorem sj {α:Type} {a b:α} (h:some a=some b):a=b:=Option.some.inj h
theorem bft (b:Bool):b=true ∨ b=false:=Bool.eq_false_or_eq_true b
theorem nlt {a b c:Nat} (h:a≤b) (k:b≤c):a≤c:=Nat.le_trans h k
theorem xtr {a b c:World} (h:Ext a b) (k:Ext b c):Ext a c:=Ext.trans h k
theorem tbx {w w':World} (e:Ext w w') (h:TB w):TB w':=TB.ext e h
abbrev RU (w:World) (A:Option Addr) (c n:Nat):Prop:=RL .u32 179 w A c (limbs n)
abbrev RLu (w:World) (A:Option Addr) (c:Nat) (xs:List Int):Prop:=RL .u32 179 w A c xs
theorem RU.nil (w:World):RU w none 0 0:=RL.nil _ _ _
abbrev wi64:=IntKind.i64.wrap
abbrev wu32:=IntKind.u32.wrap
abbrev wu64:=IntKind.u64.wrap
end Go.Proofs
