import Derived.Test.YtabiobmfelafoaaGreatDoorJD
namespace Go.Sb
set_option linter.unusedSimpArgs false
open Go.RowKit Go.Proofs.Sbn
def Apart (A:Option Addr) (xs:List Int) (b:Nat):Prop:=xs≠[]→∀a,A=some a→a.block≠b
theorem apartB {k:IntKind} {t b:Nat} {w:World} {A:Option Addr} {c:Nat} {xs:List Int} (h:RL k t w A c xs) (hb:w.heap.size≤b):Apart A xs b:=fun hne a ha e=>by
 obtain ⟨b',off,cs',fr,hA,hb',_⟩:=h.2.2 hne
 rw [ha] at hA
 cases hA
 simp only at e
 subst e
 have:=hb'.lt
 omega
theorem RL.updSA {S:List Nat} {k:IntKind} {t:Nat} {w w':World} {A:Option Addr} {c:Nat} {xs:List Int} (h:RL k t w A c xs) (u:UpdS S w w') (ha:∀b ∈ S,Apart A xs b):RL k t w' A c xs:=by
 obtain ⟨h2,h3,h4⟩:=h
 refine ⟨h2,h3,fun hne=>?_⟩
 obtain ⟨b',off,cs,fr,hA,hb,hc⟩:=h4 hne
 exact ⟨b',off,cs,fr,hA,hb.mv (u.block b' hb.lt (fun hm=>ha b' hm hne _ hA rfl)),hc⟩
abbrev us (xs:List Int):List Value:=xs.map (Value.int .u32)
def KJ (P:Program) (e:Nat):Bool:=match P.info? e with
 | some i=>i.size == 1 && i.bytes == 4 && (match i.zero with | some (.int .u32 0)=>true | _=>false)
 | none=>false
theorem MH {P:Program} {e:Nat} (h:KJ P e=true):∃i,P.info? e=some i∧i.size=1∧i.bytes=4∧i.zero=some (.int .u32 0):=by
 unfold KJ at h
 cases hi:P.info? e with
 | none=>simp [hi] at h
 | some i=>
  simp only [hi,Bool.and_eq_true,beq_iff_eq] at h
  obtain ⟨⟨h1,h2⟩,h3⟩:=h
  refine ⟨i,rfl,h1,h2,?_⟩
  split at h3
  ·assumption
  ·cases h3
section
variable {P:Program} {w w':World} {l:List Value} {x y:Operand} {t e:Nat}
theorem d_makeS {n c:Int} (ht:P.underlying t=some (.slice e)) (hu:KJ P e=true) (hx:evo l x=some (.int .i64 n)) (hy:evo l y=some (.int .i64 c)) (h0:0≤n) (h1:n≤c) (h2:c≤70368744177664) :
  Does P l (.makeSlice t x y) (.slice (some ⟨w.heap.size,0,none⟩) n.toNat c.toNat) w (w.alloc (.cells (us (List.replicate c.toNat 0)).toArray e)):=fun ρ he _ _ _ _ _=>by
 obtain ⟨i,hi,hs,hb,hz⟩:=MH hu
 have w1:IntKind.i64.wrap n=n:=by rw [IntKind.wrap_i64];omega
 have w2:IntKind.i64.wrap c=c:=by rw [IntKind.wrap_i64];omega
 have ha:∀(k:IntKind) (m:Int) (w:World),(asIntOf (.int k m)).run P w = .ok (k,m) w:=fun _ _ _=>rfl
 have hr:∀k:Nat,Array.map (fun x=>(Value.int IntKind.u32 0).cells[x%(Value.int IntKind.u32 0).cells.size]!) (Array.range k)=(us (List.replicate k 0)).toArray:=fun k=>by
  apply Array.ext
  ·simp
  ·intro i h1 h2
   simp [Value.cells,Nat.mod_one]
 unfold execOp
 simp only [Instr.makeSlice,Sem.run_bind,run_underlying ht w,Result.andThen_ok,he _ _ hx,he _ _ hy,asInt]
 simp [typeInfo,sizeOf,zeroValue,hi,hs,hb,hz,w1,w2,ha]
 rw [if_neg (by omega)]
 by_cases hc:c≤0
 ·obtain rfl:c=0:=by omega
  obtain rfl:n=0:=by omega
  simp [newRow]
  congr 2
  apply Array.ext<;>simp
 ·rw [if_neg hc,hr]
  simp [newRow]
theorem OT {A:Option Addr} {n c lo hi:Nat} {low high:Option Operand} (ht:P.underlying t=some (.slice e)) (hs:Ep P e 1=true) (hx:evo l x=some (.slice A n c))
  (hl:match low with | some o=>∃k,evo l o=some (.int k (lo:Int)) | none=>lo=0) (hh:match high with | some o=>∃k,evo l o=some (.int k (hi:Int)) | none=>hi=n) (h1:lo≤hi) (h2:hi≤c) :
  Does P l (.slice t x low high none) (.slice (if c=lo then A else A.map (·.add lo)) (hi - lo) (c - lo)) w w:=fun ρ he _ _ _ _ _=>by
 have hz:(sizeOf e).run P w = .ok 1 w:=by
  unfold Ep at hs
  cases h:P.info? e with
  | none=>simp [h] at hs
  | some i=>simp [h] at hs;simp [sizeOf,typeInfo,h,hs]
 have ha:∀(k:IntKind) (m:Int) (w:World),(asIntOf (.int k m)).run P w = .ok (k,m) w:=fun _ _ _=>rfl
 cases low with
 | none=>
  cases high with
  | none=>
   simp only at hl hh
   subst hl hh
   simp [execOp,he _ _ hx,Instr.sliceAt,Instr.slice,Instr.sliceBounds,run_underlying ht,hz]
  | some h=>
   simp only at hl
   subst hl
   obtain ⟨k,hh⟩:=hh
   simp [execOp,he _ _ hx,he _ _ hh,Instr.sliceAt,Instr.slice,Instr.sliceBounds,Instr.sliceBound,run_underlying ht,hz,ha,h2]
 | some o=>
  obtain ⟨k',hl⟩:=hl
  cases high with
  | none=>
   simp only at hh
   subst hh
   simp [execOp,he _ _ hx,he _ _ hl,Instr.sliceAt,Instr.slice,Instr.sliceBounds,Instr.sliceBound,run_underlying ht,hz,ha,h1]
  | some h=>
   obtain ⟨k,hh⟩:=hh
   simp [execOp,he _ _ hx,he _ _ hh,he _ _ hl,Instr.sliceAt,Instr.slice,Instr.sliceBounds,Instr.sliceBound,run_underlying ht,hz,ha,h1,h2]
theorem Qm (ys:List Int) (i:Nat) (v:Int):(us ys).set i (.int .u32 v)=us (ys.set i v):=by simp [us,List.map_set]
theorem us_get {ys:List Int} {i:Nat} (h:i<ys.length):(us ys)[i]? = some (.int .u32 (ys.getD i 0)):=by simp [us,h]
theorem RL.take {k:IntKind} {t:Nat} {A:Option Addr} {c:Nat} {xs:List Int} (h:RL k t w A c xs) (n:Nat):RL k t w A c (xs.take n):=by
 obtain ⟨h2,h3,h4⟩:=h
 refine ⟨by simp;omega,h3,fun hne=>?_⟩
 obtain ⟨b,off,cs,fr,hA,hb,hc⟩:=h4 (fun e=>hne (by simp [e]))
 refine ⟨b,off,cs,fr,hA,hb,fun i hi=>?_⟩
 simp at hi
 have h5:i<xs.length:=by omega
 have h6:i<n:=by omega
 rw [hc i h5]
 simp [List.getElem?_take_of_lt h6]
theorem LQ {k k':IntKind} {a n c:Int} {ty2:Nat} (h0:0≤n) (hx:evo l x=some (.int k a)) (hy:evo l y=some (.int k' n)) (hc:k.wrap (a*2^min n.toNat k.bits)=c):Does P l (.binOp .shl t x y ty2) (.int k c) w w:=fun ρ he _ _ _ _ _=>by
 subst hc
 have:¬n<0:=by omega
 simp [execOp,he _ _ hx,he _ _ hy,binOp,eqGuard,Op.shift,this]
theorem IX {k k':IntKind} {a n c:Int} {ty2:Nat} (h0:0≤n) (hx:evo l x=some (.int k a)) (hy:evo l y=some (.int k' n)) (hc:a.fdiv (2^min n.toNat k.bits)=c):Does P l (.binOp .shr t x y ty2) (.int k c) w w:=fun ρ he _ _ _ _ _=>by
 subst hc
 have:¬n<0:=by omega
 simp [execOp,he _ _ hx,he _ _ hy,binOp,eqGuard,Op.shift,this]
def gd (p:Prop) [Decidable p]:Option Unit:=if p then some () else none
theorem AI {p:Prop} [Decidable p] {u:Unit} (h:gd p=some u):p:=by
 unfold gd at h
 split at h
 ·assumption
 ·cases h
def bor (k:IntKind) (a b:Int):Int:=k.wrap ((BitVec.ofInt k.bits a ||| BitVec.ofInt k.bits b).toNat:Int)
theorem Oq {k:IntKind} {a b:Int} {ty2:Nat} (hx:evo l x=some (.int k a)) (hy:evo l y=some (.int k b)):Does P l (.binOp .or t x y ty2) (.int k (bor k a b)) w w:=fun ρ he _ _ _ _ _=>by
 have hb:(Op.intBits .or k a b:Sem Value)=pure (.int k (bor k a b)):=rfl
 simp [execOp,he _ _ hx,he _ _ hy,binOp,eqGuard,Op.intArith,Op.intCmp,hb]
theorem PP {c:Code} {Q:Exit→Act→World→Prop} {ds:List Deferred} (Φ:Nat→List Value→World→Prop) (n:Nat) (h0:Φ n l w) (hz:∀l' w',¬Φ 0 l' w')
  (step:∀n,(∀l' w',Φ n l' w'→LW P c Q ⟨l'.toArray,ds⟩ w')→∀l' w',Φ (n+1) l' w'→LW P c Q ⟨l'.toArray,ds⟩ w'):(Code.loop c).wp P Q ⟨l.toArray,ds⟩ w:=by
 refine GO ?_
 have:∀n l' w',Φ n l' w'→LW P c Q ⟨l'.toArray,ds⟩ w':=by
  intro n
  induction n with
  | zero=>intro l' w' h;exact absurd h (hz l' w')
  | succ n ih=>exact step n ih
 exact this n l w h0
theorem Bp {c:Code} {Q:Exit→Act→World→Prop} {ds:List Deferred} (Φ:List Value→Nat→List Value→World→Prop) (n:Nat) (h0:Φ l n l w) (hz:∀l' w',Φ l 0 l' w'→False)
  (step:∀n,(∀l' w',Φ l n l' w'→LW P c Q ⟨l'.toArray,ds⟩ w')→∀l' w',Φ l (n+1) l' w'→∀l'',l'=l''→LW P c Q ⟨l''.toArray,ds⟩ w'):(Code.loop c).wp P Q ⟨l.toArray,ds⟩ w:=
 PP (Φ l) n h0 hz fun n ih l' w' h=>step n ih l' w' h l' rfl
theorem RL.part {k:IntKind} {t:Nat} {A:Option Addr} {c lo hi:Nat} {xs:List Int} (h:RL k t w A c xs) (h1:lo≤hi) (h2:hi≤xs.length):RL k t w (if c=lo then A else A.map (·.add lo)) (c - lo) ((xs.drop lo).take (hi - lo)):=by
 obtain ⟨h3,h4,h5⟩:=h
 refine ⟨by simp;omega,by omega,fun hne=>?_⟩
 have hlt:lo<hi:=by
  rcases Nat.lt_or_ge lo hi with h | h
  ·exact h
  ·exact absurd (by rw [Nat.sub_eq_zero_of_le h];rfl) hne
 obtain ⟨b,off,cs,fr,hA,hb,hc⟩:=h5 (fun e=>by subst e;simp at h2;omega)
 refine ⟨b,off+lo,cs,fr,?_,hb,fun i hi'=>?_⟩
 ·rw [if_neg (by omega),hA]
  simp [Kf]
 ·simp at hi'
  have:=hc (lo+i) (by omega)
  rw [Nat.add_assoc,this]
  have h6:i<hi - lo:=by omega
  simp [List.getElem?_take_of_lt h6]
theorem Pj {ops:Array Oper} {Q:Exit→Act→World→Prop} {rest:List Oper} {ds:List Deferred} {d ty:Nat} {pos:String} {af:Array Edge} {gd:Option (Nat × Bool)} {k:IntKind} {A:Option Addr} {c lo hi:Nat} {xs:List Int} {low high:Option Operand} (ht:P.underlying t=some (.slice e)) (hs:Ep P e 1=true) (hx:evo l x=some (.slice A xs.length c))
  (hl:match low with | some o=>∃k,evo l o=some (.int k (lo:Int)) | none=>lo=0) (hh:match high with | some o=>∃k,evo l o=some (.int k (hi:Int)) | none=>hi=xs.length) (h1:lo≤hi) (h2:hi≤xs.length) (hR:RL k e w A c xs)
  (h:∀A' c',RL k e w A' c' ((xs.drop lo).take (hi - lo))→WL P ops Q rest (l.set d (.slice A' ((xs.drop lo).take (hi - lo)).length c')) ds w) (hw:Region.wanted ⟨some d,.slice t x low high none,ty,pos,af,gd⟩ (yielded ops l.toArray)=true:=by rfl) :
  WL P ops Q (⟨some d,.slice t x low high none,ty,pos,af,gd⟩::rest) l ds w:=by
 have hc:hi≤c:=Nat.le_trans h2 hR.1
 refine sv (OT ht hs hx hl hh h1 hc) ?_ hw
 have:=h _ _ (hR.part h1 h2)
 have hlen:((xs.drop lo).take (hi - lo)).length=hi - lo:=by simp;omega
 rw [hlen] at this
 exact this
end
end Go.Sb
namespace Go.Sb
set_option linter.unusedSimpArgs false
open Go.RowKit Go.Proofs.Sbn
open Go.Proofs.YtabiobmfelafoaaGreatDoorW.PrintLast
def OW (t n0:Nat) (w:World) (A:Option Addr) (n c:Nat) (xs:List Int):Prop:=
 xs.length=n∧((c=0∧xs=[])∨∃b ys,A=some ⟨b,0,none⟩∧n0≤b∧Bx w b t (us (xs++ys))∧(xs++ys).length=c∧c≤9223372036854775807)
theorem OW.nil (t n0:Nat) (w:World) (A:Option Addr):OW t n0 w A 0 0 []:=⟨rfl,.inl ⟨rfl,rfl⟩⟩
section
variable {t n0 n c:Nat} {w w':World} {A:Option Addr} {xs:List Int}
theorem OW.len (h:OW t n0 w A n c xs):xs.length=n:=h.1
theorem OW.nn (h:OW t n0 w A n c xs):OW t n0 w A xs.length c xs:=⟨rfl,h.2⟩
theorem OW.rl (h:OW t n0 w A n c xs):RL .u32 t w A c xs:=by
 rcases h.2 with ⟨rfl,rfl⟩ | ⟨b,ys,rfl,hb,hx,hl,hc⟩
 ·exact ⟨Nat.le_refl _,by omega,fun h=>(h rfl).elim⟩
 ·refine ⟨by simp at hl;omega,hc,fun _=>⟨b,0,_,_,rfl,.of hx,fun i hi=>?_⟩⟩
  simp [us,hi,List.getElem?_append_left]
theorem OW.ext (h:OW t n0 w A n c xs) (e:Ext w w'):OW t n0 w' A n c xs:=by
 obtain ⟨h0,h⟩:=h
 rcases h with h | ⟨b,ys,rfl,hb,hx,hl,hc⟩
 ·exact ⟨h0,.inl h⟩
 ·exact ⟨h0,.inr ⟨b,ys,rfl,hb,hx.ext e,hl,hc⟩⟩
theorem OW.mono {n1:Nat} (h:OW t n0 w A n c xs) (h1:n1≤n0):OW t n1 w A n c xs:=by
 obtain ⟨h0,h⟩:=h
 rcases h with h | ⟨b,ys,rfl,hb,hx,hl,hc⟩
 ·exact ⟨h0,.inl h⟩
 ·exact ⟨h0,.inr ⟨b,ys,rfl,Nat.le_trans h1 hb,hx,hl,hc⟩⟩
abbrev LtA (A:Option Addr) (c n1:Nat):Prop:=∀b,A=some ⟨b,0,none⟩→c≠0→b<n1
theorem OW.lt (h:OW t n0 w A n c xs):LtA A c w.heap.size:=fun b hA hc=>by
 rcases h.2 with ⟨h1,_⟩ | ⟨b',ys,hA',_,hx,_⟩
 ·exact absurd h1 hc
 ·rw [hA] at hA';cases hA';exact hx.lt
theorem OW.bel2 {n1:Nat} (h:OW t n0 w A n c xs) (e:Below n1 w w') (hl:LtA A c n1):OW t n0 w' A n c xs:=by
 obtain ⟨h0,h⟩:=h
 rcases h with h | ⟨b,ys,rfl,hb,hx,hl',hc⟩
 ·exact ⟨h0,.inl h⟩
 ·by_cases hz:c=0
  ·exact ⟨h0,.inl ⟨hz,by subst hz;simp at hl';exact hl'.1⟩⟩
  ·exact ⟨h0,.inr ⟨b,ys,rfl,hb,(e.block b (hl b rfl hz)).trans hx,hl',hc⟩⟩
theorem OW.updO {b:Nat} (h:OW t n0 w A n c xs) (u:UpdS [b] w w') (hb:b<n0):OW t n0 w' A n c xs:=by
 obtain ⟨h0,h⟩:=h
 rcases h with h | ⟨b',ys,rfl,hb',hx,hl',hc⟩
 ·exact ⟨h0,.inl h⟩
 ·exact ⟨h0,.inr ⟨b',ys,rfl,hb',hx.updS u (by simp;omega),hl',hc⟩⟩
theorem OW.nth {i:Int} (h:OW t n0 w A n c xs) (h0:0≤i) (h1:i<xs.length):∃b,A=some ⟨b,0,none⟩∧c≠0:=by
 rcases h.2 with ⟨_,rfl⟩ | ⟨b,ys,hA,hb,_,hl,_⟩
 ·simp at h1;omega
 ·exact ⟨b,hA,by simp at hl;omega⟩
end
def tk (l:List Value) (i:Nat):Value:=l.getD i undef
def gp (t:Nat→Value) (i:Nat):Nat→List Value→List Value
 | 0,r=>r
 | n+1,r=>t i::gp t (i+1) n r
def Fr (l:List Value) (F:(Nat→Value)→List Value):Prop:=∃t,l=F t
theorem Fr.mk {l:List Value} {F:(Nat→Value)→List Value} (h:l=F (tk l)):Fr l F:=⟨_,h⟩
theorem xO {n0:Nat} {a b c:World} (h:Ext a b) (k:Below n0 b c) (hn:a.heap.size≤n0):Ext a c:=Below.trans h (k.mono hn)
theorem OW.lit {t n0 n:Nat} {w:World} {b:Nat} {xs:List Int} (h:Bx w b t (us xs)) (hb:n0≤b) (hl:xs.length=n) (hc:n≤9223372036854775807):OW t n0 w (some ⟨b,0,none⟩) n n xs:=
 ⟨hl,.inr ⟨b,[],rfl,hb,by simpa using h,by simpa using hl,hc⟩⟩
theorem Nq (xs ys:List Int):us (xs++ys)=us xs++us ys:=by simp [us]
theorem RL.cells {t:Nat} {w:World} {A:Option Addr} {c:Nat} {xs:List Int} (h:RL .u32 t w A c xs) (hne:xs≠[]):∃a:Addr,A=some a∧∀j u,(us xs)[j]? = some u→w.cell? (a.add j)=some u:=by
 obtain ⟨b,off,cs,fr,hA,hb,hc⟩:=h.2.2 hne
 refine ⟨_,hA,fun j u hu=>?_⟩
 have hj:j<xs.length:=by
  have:=(List.getElem?_eq_some_iff.1 hu).1
  simpa [us] using this
 rw [Kf,hb.cell,hc j hj]
 rw [us_get hj] at hu
 exact hu
theorem zc_us (n:Nat):Builtin.zeroCells (Value.int .u32 0).cells n=(us (List.replicate n 0)).toArray:=by
 apply Array.ext
 ·simp [Builtin.zeroCells,Value.cells,us]
 ·intro i h1 h2
  simp [Builtin.zeroCells,Value.cells,us,Nat.mod_one]
theorem Rk (xs:List Int):∀u ∈ us xs,u.oneCell'=true:=by
 intro u hu
 simp only [us,List.mem_map] at hu
 obtain ⟨v,_,rfl⟩:=hu
 rfl
section
variable {P:Program} {w w':World} {l:List Value} {x y:Operand} {t e:Nat}
theorem run_appO {n0 ty n:Nat} {A A2:Option Addr} {c c2:Nat} {xs zs:List Int} (ht:P.underlying t=some (.slice e)) (hu:KJ P e=true)
  (hO':OW e n0 w A n c xs) (hR:RL .u32 e w A2 c2 zs) (hb:xs.length+zs.length≤35184372088832) (hn0:n0≤w.heap.size) :
  ∃A' c' w',(Builtin.append_ #[t,t] ty #[.slice A xs.length c,.slice A2 zs.length c2]).run P w = .ok (.slice A' (xs.length+zs.length) c') w'∧Below n0 w w'∧OW e n0 w' A' (xs++zs).length c' (xs++zs):=by
 obtain ⟨i,hi,hs,hby,hz⟩:=MH hu
 have hO:=hO'.2
 rcases List.eq_nil_or_concat zs with rfl | ⟨zs',z',hzs⟩
 ·
  refine ⟨A,c,w,?_,Below.refl _ _,by simpa using ⟨rfl,hO⟩⟩
  have hle:xs.length≤c:=hO'.rl.1
  cases A with
  | none=>cases A2<;>simp [Builtin.append_,run_underlying ht,sizeOf,typeInfo,hi,Builtin.lenOf,Builtin.firstCells,loadCells,loadCellsFrom,hle,hs]
  | some a=>cases A2<;>simp [Builtin.append_,run_underlying ht,sizeOf,typeInfo,hi,Builtin.lenOf,Builtin.firstCells,loadCells,loadCellsFrom,hle,hs,storeCells]
 have hne:zs≠[]:=by rw [hzs];simp
 have hlz:0<zs.length:=by rw [hzs];simp
 obtain ⟨a2,rfl,hc2⟩:=hR.cells hne
 have grown:∀(old:Nat),Below n0 w (w.drew.alloc (.cells ((us xs).toArray++(us zs).toArray++Builtin.zeroCells (Value.int .u32 0).cells (grownCap w (xs.length+zs.length) old e - (xs.length+zs.length))) e))∧
   OW e n0 (w.drew.alloc (.cells ((us xs).toArray++(us zs).toArray++Builtin.zeroCells (Value.int .u32 0).cells (grownCap w (xs.length+zs.length) old e - (xs.length+zs.length))) e)) (some ⟨w.heap.size,0,none⟩) (xs++zs).length (grownCap w (xs.length+zs.length) old e) (xs++zs):=by
  intro old
  have hge:=grownCap_ge w (xs.length+zs.length) old e
  have hcm:grownCap w (xs.length+zs.length) old e≤maxLen:=grownCap_le_maxLen w (xs.length+zs.length) old e (by simp only [maxLen];omega)
  refine ⟨((Below.refl n0 w).drew).alloc hn0 _,rfl,.inr ⟨w.heap.size,List.replicate (grownCap w (xs.length+zs.length) old e - (xs.length+zs.length)) 0,rfl,hn0,?_,?_,by simpa [maxLen] using hcm⟩⟩
  ·have:=Bx.new w.drew e (us (xs++zs++List.replicate (grownCap w (xs.length+zs.length) old e - (xs.length+zs.length)) 0))
   rw [zc_us]
   have e1:(us xs).toArray++(us zs).toArray++(us (List.replicate (grownCap w (xs.length+zs.length) old e - (xs.length+zs.length)) 0)).toArray=(us (xs++zs++List.replicate (grownCap w (xs.length+zs.length) old e - (xs.length+zs.length)) 0)).toArray:=by
    rw [Nq,Nq];simp
   rw [e1]
   exact this
  ·simp only [List.length_append,List.length_replicate];omega
 have hfit:∀old,old<xs.length+zs.length→Builtin.nextslicecap (xs.length+zs.length) old*i.bytes≤281474976710656:=fun old ho=>growslice_fits ho (by rw [hby];omega)
 by_cases hroom:xs.length+zs.length≤c
 ·rcases hO with ⟨rfl,rfl⟩ | ⟨b,ys,rfl,hb0,hx,hl,hc⟩
  ·simp only [List.length_nil,Nat.le_zero_eq] at hroom;omega
  ·have hy:zs.length≤ys.length:=by simp at hl;omega
   have hr:=run_append_room (P:=P) w t ty e i ht hi b xs.length c (us (xs++ys)).toArray hx a2 zs.length c2 (us zs) (by simp [us,hs]) hc2 (Rk zs) hroom (by simp [us,hs];omega)
   refine ⟨_,_,_,hr,?_,rfl,.inr ⟨b,ys.drop zs.length,rfl,hb0,?_,?_,hc⟩⟩
   ·exact ⟨rfl,rfl,rfl,by simp,fun k hk=>setRow_other w b k _ (by omega)⟩
   ·have e1:List.take (xs.length*i.size) (us (xs++ys)).toArray.toList++us zs++List.drop (xs.length*i.size+(us zs).length) (us (xs++ys)).toArray.toList=us (xs++zs++ys.drop zs.length):=by
     rw [hs,Nat.mul_one,Nq,Nq,Nq]
     simp only [us,List.length_map]
     rw [List.take_append_of_le_length (by simp),List.take_of_length_le (by simp)]
     rw [List.drop_append,List.drop_eq_nil_of_le (by simp),List.map_drop]
     simp
    rw [e1]
    exact Bx.set hx
   ·simp at hl ⊢;omega
 ·have hr:∃A0,A=A0∧(A0=none→xs=[]∧c=0):=by
   refine ⟨A,rfl,fun hA=>?_⟩
   rcases hO with ⟨h1,h2⟩ | ⟨b,ys,h1,_⟩
   ·exact ⟨h2,h1⟩
   ·rw [hA] at h1;cases h1
  cases A with
  | none=>
   obtain ⟨A0,rfl,hA⟩:=hr
   obtain ⟨rfl,rfl⟩:=hA rfl
   have hr:=run_append_nil (P:=P) w t ty e i (.int .u32 0) ht hi hz a2 zs.length c2 (us zs) (by simp [us,hs]) hc2 hlz (by have:=hb;simp only [List.length_nil] at this;omega) (by rw [hby];simp at hb;omega)
   have hg:=grown 0
   have hl0:([]:List Int).length+zs.length=zs.length:=by simp
   have hu0:(us []).toArray++(us zs).toArray=(us zs).toArray:=by simp [us]
   rw [hl0,hu0] at hg
   rw [hl0]
   exact ⟨_,_,_,hr,hg.1,hg.2⟩
  | some a1=>
   have holds:∀j v,(us xs)[j]? = some v→w.cell? (a1.add j)=some v:=by
    intro j v hj
    have hne':xs≠[]:=by rintro rfl;simp [us] at hj
    obtain ⟨a,ha,hcc⟩:=hO'.rl.cells hne'
    cases ha
    exact hcc j v hj
   have hr:=run_append_grow (P:=P) w t ty e i (.int .u32 0) ht hi hz a1 xs.length c (us xs) (by simp [us,hs]) holds a2 zs.length c2 (us zs) (by simp [us,hs]) hc2 (by omega) (by omega) (hfit c (by omega))
   exact ⟨_,_,_,hr,(grown c).1,(grown c).2⟩
end
section
variable {P:Program} {ops:Array Oper} {Q:Exit→Act→World→Prop} {w w':World} {rest:List Oper} {l l':List Value} {ds:List Deferred}
variable {op:Op} {ty d:Nat} {pos:String} {af:Array Edge} {gd:Option (Nat × Bool)} {v:Value} {x y:Operand} {t e:Nat}
theorem IH {n c:Int} (ht:P.underlying t=some (.slice e)) (hu:KJ P e=true) (hx:evo l x=some (.int .i64 n)) (hy:evo l y=some (.int .i64 c)) (hg:0≤n∧n≤c∧c≤70368744177664)
  (h:∀A w',Ext w w'→OW e w.heap.size w' A n.toNat c.toNat (List.replicate n.toNat 0)→WL P ops Q rest (l.set d (.slice A n.toNat c.toNat)) ds w')
  (hw:Region.wanted ⟨some d,.makeSlice t x y,ty,pos,af,gd⟩ (yielded ops l.toArray)=true:=by rfl) :
  WL P ops Q (⟨some d,.makeSlice t x y,ty,pos,af,gd⟩::rest) l ds w:=by
 refine sv (d_makeS ht hu hx hy hg.1 hg.2.1 hg.2.2) (h _ _ (Ext.alloc _ _) ⟨by simp,.inr ⟨w.heap.size,List.replicate (c.toNat - n.toNat) 0,rfl,Nat.le_refl _,?_,?_,by omega⟩⟩) hw
 ·rw [List.replicate_append_replicate,show n.toNat+(c.toNat - n.toNat)=c.toNat by omega]
  exact Bx.new _ _ _
 ·simp;omega
theorem MV {n0 n m:Nat} {A A2:Option Addr} {c c2:Nat} {xs zs:List Int} (ht:P.underlying t=some (.slice e)) (hu:KJ P e=true)
  (hx:evo l x=some (.slice A n c)) (hy:evo l y=some (.slice A2 m c2)) (hm:m=zs.length)
  (hO:OW e n0 w A n c xs) (hR:RL .u32 e w A2 c2 zs) (hb:xs.length+zs.length≤35184372088832) (hn0:n0≤w.heap.size)
  (h:∀A' c' w',Below n0 w w'→OW e n0 w' A' (xs++zs).length c' (xs++zs)→WL P ops Q rest (l.set d (.slice A' (xs++zs).length c')) ds w')
  (hw:Region.wanted ⟨some d,.call { callee:=.builtin .append,args:=#[x,y],argTypes:=#[t,t] },ty,pos,af,gd⟩ (yielded ops l.toArray)=true:=by rfl) :
  WL P ops Q (⟨some d,.call { callee:=.builtin .append,args:=#[x,y],argTypes:=#[t,t] },ty,pos,af,gd⟩::rest) l ds w:=by
 obtain rfl:=hO.1
 subst hm
 obtain ⟨A',c',w',hr,h1,h2⟩:=run_appO (P:=P) (ty:=ty) ht hu hO hR hb hn0
 rw [show xs.length+zs.length=(xs++zs).length by simp] at hr
 refine sv (w':=w') (fun ρ he _ ty' _ _ _=>?_) (h A' c' w' h1 h2) hw
 have hr':(Builtin.append_ #[t,t] ty' #[.slice A xs.length c,.slice A2 zs.length c2]).run P w = .ok (.slice A' (xs++zs).length c') w':=hr
 simp [execOp,resolve,invoke,builtin,he _ _ hx,he _ _ hy,hr',Result.andThen]
theorem MW {n0 b n:Nat} {A:Option Addr} {c:Nat} {xs:List Int} {i u:Int} (ht:Ep P e 1=true) (hx:evo l x=some (.pointer (some ⟨b,0+i.toNat,none⟩))) (hy:evo l y=some (.int .u32 u))
  (hO:OW e n0 w A n c xs) (hA:A=some ⟨b,0,none⟩) (h0:0≤i) (h1:i<xs.length)
  (h:∀w',Below n0 w w'→UpdS [b] w w'→OW e n0 w' A n c (xs.set i.toNat u)→WL P ops Q rest l ds w') (hw:Region.wanted ⟨none,.store e x y,ty,pos,af,gd⟩ (yielded ops l.toArray)=true:=by rfl) :
  WL P ops Q (⟨none,.store e x y,ty,pos,af,gd⟩::rest) l ds w:=by
 subst hA
 obtain ⟨hn,hO⟩:=hO
 rcases hO with ⟨_,rfl⟩ | ⟨b',ys,hA,hb,hx',hl,hc⟩
 ·simp at h1;omega
 ·cases hA
  have hlt:i.toNat<xs.length:=by omega
  refine sk hw (Nb (vs:=[.int .u32 u]) ht hx hy hx' rfl rfl (by simp [us];omega) rfl) (h _ ?_ ((UpdS.refl _ _).upd (Upd.setRow _ _ _) (.inl (by simp))) ⟨by simpa using hn,.inr ⟨b,ys,rfl,hb,?_,by simpa using hl,hc⟩⟩)
  ·exact ⟨rfl,rfl,rfl,by simp,fun k hk=>setRow_other w b k _ (by omega)⟩
  ·have e1:spl (us (xs++ys)) (0+i.toNat) [Value.int .u32 u]=us (xs.set i.toNat u++ys):=by
    simp only [Nat.zero_add,SP1,SP0,Qm]
    rw [List.set_append_left _ _ hlt]
   rw [e1]
   exact Bx.set hx'
theorem OW.nthc {t n0 n c:Nat} {A:Option Addr} {xs:List Int} {i u:Int} (h:OW t n0 w A n c xs) (hn:Go.Proofs.Sbn.nth xs i=some u) :
  ∃b,A=some ⟨b,0,none⟩∧c≠0∧0≤i∧i<n∧w.cell? ⟨b,0+i.toNat,none⟩=some (.int .u32 u):=by
 obtain ⟨b,off,hA,h0,h1,hc⟩:=h.rl.nth hn
 obtain ⟨b',hA',hz⟩:=h.nth h0 h1
 rw [hA'] at hA
 have he:=Option.some.inj hA
 simp only [Addr.mk.injEq] at he
 obtain ⟨rfl,rfl,_⟩:=he
 exact ⟨_,hA',hz,h0,by rw [←h.1];exact h1,hc⟩
theorem OW.cap {t n0 n c:Nat} {A:Option Addr} {xs:List Int} (h:OW t n0 w A n c xs):xs.length≤c:=h.rl.1
theorem NK (ht:P.underlying t=some (.slice e)) (hu:KJ P e=true)
  (h:∀A w',Ext w w'→WL P ops Q rest (l.set d (.slice A 0 0)) ds w') (hw:Region.wanted ⟨some d,.buildSlice t 0 #[],ty,pos,af,gd⟩ (yielded ops l.toArray)=true:=by rfl) :
  WL P ops Q (⟨some d,.buildSlice t 0 #[],ty,pos,af,gd⟩::rest) l ds w:=by
 obtain ⟨i,hi,hs,hby,hz⟩:=MH hu
 refine sv (v:=.slice (some ⟨w.heap.size,0,none⟩) 0 0) (w':=w.alloc (.cells #[] e)) (fun ρ he _ _ _ _ _=>?_) (h _ _ (Ext.alloc _ _)) hw
 simp [execOp,Instr.buildSlice,run_underlying ht,sizeOf,typeInfo,hi,hs,Instr.fill,newRow]
 congr 2
 apply Array.ext<;>simp
theorem RH {n0 n ts:Nat} {A A2:Option Addr} {c c2:Nat} {xs zs:List Int} (ht:P.underlying t=some (.slice e)) (hs:Ep P e 1=true)
  (hx:evo l x=some (.slice A n c)) (hy:evo l y=some (.slice A2 zs.length c2)) (hO:OW e n0 w A n c xs) (hR:RL .u32 e w A2 c2 zs)
  (h:∀w',Below n0 w w'→OW e n0 w' A n c (zs.take xs.length++xs.drop zs.length)→WL P ops Q rest (l.set d (.int .i64 ((Nat.min zs.length n:Nat):Int))) ds w')
  (hw:Region.wanted ⟨some d,.call { callee:=.builtin .copy,args:=#[x,y],argTypes:=#[t,ts] },ty,pos,af,gd⟩ (yielded ops l.toArray)=true:=by rfl) :
  WL P ops Q (⟨some d,.call { callee:=.builtin .copy,args:=#[x,y],argTypes:=#[t,ts] },ty,pos,af,gd⟩::rest) l ds w:=by
 have hs':(P.info? e).map (·.size)=some 1:=by unfold Ep at hs;simpa using hs
 have key:∃w',(∀ty',(Builtin.copy_ #[t,ts] ty' #[.slice A n c,.slice A2 zs.length c2]).run P w = .ok (.int .i64 ((Nat.min zs.length n:Nat):Int)) w')∧Below n0 w w'∧OW e n0 w' A n c (zs.take xs.length++xs.drop zs.length):=by
  obtain ⟨hn,hO'⟩:=hO
  by_cases hz:Nat.min zs.length n=0
  ·refine ⟨w,fun ty'=>?_,Below.refl _ _,?_⟩
   ·rw [hz]
    exact run_copy_none w t ts ty' e A A2 n c zs.length c2 ht hs' hz
   ·have:zs.take xs.length++xs.drop zs.length=xs:=by
     rcases Nat.eq_zero_or_pos zs.length with h0 | h0
     ·rw [List.eq_nil_of_length_eq_zero h0];simp
     ·have:xs.length=0:=by rw [hn];have hz':min zs.length n=0:=hz;omega
      rw [List.eq_nil_of_length_eq_zero this];simp
    rw [this]
    exact ⟨hn,hO'⟩
  ·have hzp:0<zs.length∧0<n:=by have hz':¬min zs.length n=0:=hz;omega
   rcases hO' with ⟨_,rfl⟩ | ⟨b,ys,rfl,hb,hB,hl,hc⟩
   ·simp at hn;omega
   ·obtain ⟨a2,rfl,hcell⟩:=hR.cells (by intro e;simp [e] at hzp)
    have hlen:(zs.take xs.length).length=Nat.min zs.length n:=by rw [List.length_take,hn,Nat.min_comm]
    have hlen':(us (zs.take xs.length)).length=Nat.min zs.length n:=by simpa [us] using hlen
    have hmn:Nat.min zs.length n≤n:=Nat.min_le_right _ _
    have hmz:Nat.min zs.length n≤zs.length:=Nat.min_le_left _ _
    refine ⟨_,fun ty'=>?_,?_,?_,.inr ⟨b,ys,rfl,hb,Bx.set (cs':=us (zs.take xs.length++xs.drop zs.length++ys)) hB,?_,hc⟩⟩
    ·have hr:=run_copy_row (P:=P) w t ts ty' e b 0 n c a2 zs.length c2 (us (xs++ys)).toArray e (us (zs.take xs.length)) ht hs' hB hlen'
      (fun j v hj=>hcell j v (by
       have hj2:=(List.getElem?_eq_some_iff.1 hj).1
       rw [hlen'] at hj2
       have:us (zs.take xs.length)=(us zs).take xs.length:=by simp [us,List.map_take]
       rw [this,List.getElem?_take_of_lt (by omega)] at hj
       exact hj)) (by simp only [Nat.zero_add];rw [hlen'];simp [us];omega) (Rk _)
     rw [hlen'] at hr
     have hgo:goInt (Nat.min zs.length n) = .int .i64 ((Nat.min zs.length n:Nat):Int):=rfl
     rw [hgo] at hr
     rw [hr]
     congr 2
     simp only [List.take_zero,List.nil_append,Nat.zero_add]
     have:(us (xs++ys)).drop (Nat.min zs.length n)=us (xs.drop zs.length++ys):=by
      rw [us,us,←List.map_drop]
      congr 1
      rw [List.drop_append,←hn]
      have e1:xs.drop (Nat.min zs.length xs.length)=xs.drop zs.length:=by
       rcases Nat.le_total zs.length xs.length with h | h
       ·rw [show Nat.min zs.length xs.length=zs.length from Nat.min_eq_left h]
       ·rw [show Nat.min zs.length xs.length=xs.length from Nat.min_eq_right h,List.drop_eq_nil_of_le (Nat.le_refl _),List.drop_eq_nil_of_le h]
      rw [e1,show Nat.min zs.length xs.length - xs.length=0 from Nat.sub_eq_zero_of_le (Nat.min_le_right _ _)]
      simp
     rw [this,←Nq,List.append_assoc]
    ·exact ⟨rfl,rfl,rfl,by simp,fun k hk=>setRow_other w b k _ (by omega)⟩
    ·simp;omega
    ·simp at hl ⊢;omega
 obtain ⟨w',hr,h1,h2⟩:=key
 refine sv (w':=w') (fun ρ he _ ty' _ _ _=>?_) (h w' h1 h2) hw
 have hr':=hr ty'
 simp [execOp,resolve,invoke,builtin,he _ _ hx,he _ _ hy,hr',Result.andThen]
theorem OW.win {n0 n c lo hi:Nat} {A:Option Addr} {xs:List Int} (h:OW t n0 w A n c xs) (h1:lo<hi) (h2:hi≤n) :
  ∃b ys,A=some ⟨b,0,none⟩∧c≠0∧n0≤b∧Bx w b t (us (xs.take lo++(xs.drop lo).take (hi - lo)++ys))∧
   (∀w' zs,zs.length=hi - lo→Bx w' b t (us (xs.take lo++zs++ys))→OW t n0 w' A n c (xs.take lo++zs++xs.drop hi)):=by
 obtain ⟨hn,hO⟩:=h
 rcases hO with ⟨_,rfl⟩ | ⟨b,ys,rfl,hb,hB,hl,hc⟩
 ·simp at hn;omega
 ·have e1:xs.take lo++(xs.drop lo).take (hi - lo)++(xs.drop hi++ys)=xs++ys:=by
   have:(xs.drop lo).take (hi - lo)++xs.drop hi=xs.drop lo:=by
    have:=List.take_append_drop (hi - lo) (xs.drop lo)
    rw [List.drop_drop,show lo+(hi - lo)=hi by omega] at this
    exact this
   rw [←List.append_assoc,List.append_assoc (xs.take lo),this,List.take_append_drop]
  refine ⟨b,xs.drop hi++ys,rfl,by simp at hl;omega,hb,by rw [e1];exact hB,fun w' zs hz hB'=>⟨by simp;omega,.inr ⟨b,ys,rfl,hb,by rw [←List.append_assoc] at hB';exact hB',by simp at hl ⊢;omega,hc⟩⟩⟩
theorem swin {n0 n c lo hi b:Nat} {A:Option Addr} {xs:List Int} {low high:Option Operand} (ht:P.underlying t=some (.slice e)) (hs:Ep P e 1=true) (hx:evo l x=some (.slice A n c))
  (hl:match low with | some o=>∃k,evo l o=some (.int k (lo:Int)) | none=>lo=0) (hh:match high with | some o=>∃k,evo l o=some (.int k (hi:Int)) | none=>hi=n) (h1:lo<hi) (h2:hi≤n) (hO:OW e n0 w A n c xs) (hA:A=some ⟨b,0,none⟩)
  (h:WL P ops Q rest (l.set d (.slice (some ⟨b,(xs.take lo).length,none⟩) ((xs.drop lo).take (hi - lo)).length (c - lo))) ds w) (hw:Region.wanted ⟨some d,.slice t x low high none,ty,pos,af,gd⟩ (yielded ops l.toArray)=true:=by rfl) :
  WL P ops Q (⟨some d,.slice t x low high none,ty,pos,af,gd⟩::rest) l ds w:=by
 have hc:=hO.cap
 rw [hO.1] at hc
 refine sv (OT ht hs hx hl hh (by omega) (by omega)) ?_ hw
 subst hA
 have hn:=hO.1
 rw [if_neg (by omega)]
 have e1:(xs.take lo).length=lo:=by simp;omega
 have e2:((xs.drop lo).take (hi - lo)).length=hi - lo:=by simp;omega
 rw [e1,e2] at h
 simpa [Kf] using h
theorem scK {f:FuncId} {args:List Value} {R:Ending→World→Prop} (hd:Gj P l op f args w) (hc:Calls P f args.toArray w R)
  (h:∀e' w',R e' w'→∃v,e' = .returned v∧WL P ops Q rest (l.set d v) ds w') (hw:Region.wanted ⟨some d,op,ty,pos,af,gd⟩ (yielded ops l.toArray)=true:=by rfl) :
  WL P ops Q (⟨some d,op,ty,pos,af,gd⟩::rest) l ds w:=by
 refine sq hw fun K hK=>?_
 unfold Oper.wp
 rw [hd _ (fun _ _=>CF),Oper.upon_enter]
 refine hc.mono fun e w' he=>?_
 obtain ⟨v,rfl,h2⟩:=h _ _ he
 simp only [Fy]
 exact hK _ _ _ h2
theorem UpdS.below {n0 b:Nat} (h:UpdS [b] w w') (hb:n0≤b) (hl:b<w.heap.size):Below n0 w w':=
 ⟨h.os,h.tape,h.output,h.size,fun k hk=>h.block k (by omega) (by simp;omega)⟩
theorem TB.hpos (h:TB w):0<w.heap.size:=by
 have h0:=h 0 (by decide)
 unfold World.cell? at h0
 cases hq:w.heap[0]? with
 | none=>simp [hq] at h0
 | some o=>exact (Array.getElem?_eq_some_iff.1 hq).1
theorem TB.nz {b:Nat} (h:TB w) (hb:w.heap.size≤b):b≠0:=by have:=h.hpos;omega
theorem callsL {fn:Func} {f:FuncId} {c:Code} {args:Array Value} {R:Ending→World→Prop} (hf:P.funcs[f]? = some fn) (hb:fn.body=some c) (l:List Value) (hl:args++Array.replicate (fn.ntmps - args.size) undef=l.toArray)
  (h:c.wp P (bodyPost P fn R) ⟨l.toArray,[]⟩ w):Calls P f args w R:=by
 refine calls_of_wp hf hb ?_
 rw [hl]
 exact h
def repo (w0 w:World) (r:List Int) (v:Value):Prop:=∃A c,v = .slice A (List.length r) c∧OW 179 w0.heap.size w A (List.length r) c r
def RetW {α:Type} (t b:Nat) (pre ys:List Int) (n:Nat) (rep:World→α→Value→Prop) (w:World) (r:α × List Int) (e:Ending) (w':World):Prop:=
 UpdS [b] w w'∧r.2.length=n∧Bx w' b t (us (pre++r.2++ys))∧∃v,e = .returned v∧rep w' r.1 v
def WN (t b:Nat) (pre ys:List Int) (w:World) (A:Option Addr) (n c:Nat) (xs:List Int):Prop:=
 xs.length=n∧A=some ⟨b,pre.length,none⟩∧Bx w b t (us (pre++xs++ys))∧n≤c∧c≤9223372036854775807
section
variable {b n c:Nat} {pre ys xs:List Int} {A:Option Addr}
theorem WN.len (h:WN t b pre ys w A n c xs):xs.length=n:=h.1
theorem WN.bx (h:WN t b pre ys w A n c xs):Bx w b t (us (pre++xs++ys)):=h.2.2.1
theorem WN.rl (h:WN t b pre ys w A n c xs):RL .u32 t w A c xs:=by
 obtain ⟨h1,h2,h3,h4,h5⟩:=h
 refine ⟨by omega,h5,fun _=>⟨b,pre.length,_,_,h2,.of h3,fun i hi=>?_⟩⟩
 simp [us,hi,List.getElem?_append_right,List.getElem?_append_left]
theorem WN.ext (h:WN t b pre ys w A n c xs) (e:Ext w w'):WN t b pre ys w' A n c xs:=⟨h.1,h.2.1,h.2.2.1.ext e,h.2.2.2⟩
theorem WN.nthc {i u:Int} (h:WN t b pre ys w A n c xs) (hn:Go.Proofs.Sbn.nth xs i=some u) :
  ∃b',A=some ⟨b',pre.length,none⟩∧b'=b∧0≤i∧i<n∧w.cell? ⟨b',pre.length+i.toNat,none⟩=some (.int .u32 u):=by
 obtain ⟨b',off,hA,h0,h1,hc⟩:=h.rl.nth hn
 have h2:=h.2.1
 rw [hA] at h2;cases h2
 exact ⟨b,hA,rfl,h0,by rw [←h.1];exact h1,hc⟩
theorem Rb {b':Nat} {i u:Int} (ht:Ep P e 1=true) (hx:evo l x=some (.pointer (some ⟨b',pre.length+i.toNat,none⟩))) (hy:evo l y=some (.int .u32 u))
  (hO:WN e b pre ys w A n c xs) (hA:A=some ⟨b',pre.length,none⟩) (h0:0≤i) (h1:i<xs.length)
  (h:∀w',UpdS [b] w w'→WN e b pre ys w' A n c (xs.set i.toNat u)→WL P ops Q rest l ds w') (hw:Region.wanted ⟨none,.store e x y,ty,pos,af,gd⟩ (yielded ops l.toArray)=true:=by rfl) :
  WL P ops Q (⟨none,.store e x y,ty,pos,af,gd⟩::rest) l ds w:=by
 obtain ⟨h3,h4,h5,h6⟩:=hO
 rw [hA] at h4;cases h4
 have hlt:i.toNat<xs.length:=by omega
 refine sk hw (Nb (vs:=[.int .u32 u]) ht hx hy h5 rfl rfl (by simp [us];omega) rfl) (h _ ((UpdS.refl _ _).upd (Upd.setRow _ _ _) (.inl (by simp))) ⟨by simpa using h3,hA,?_,h6⟩)
 have e1:spl (us (pre++xs++ys)) (pre.length+i.toNat) [Value.int .u32 u]=us (pre++xs.set i.toNat u++ys):=by
  simp only [SP1,SP0,Qm]
  rw [List.append_assoc,List.set_append_right _ _ (by omega),show pre.length+i.toNat - pre.length=i.toNat by omega,List.set_append_left _ _ hlt,←List.append_assoc]
 rw [e1]
 exact Bx.set h5
theorem UpdS.tr {a:World} (h:UpdS [b] a w) (u:UpdS [b] w w'):UpdS [b] a w':=h.updS u (by simp)
theorem RL.updW {k:IntKind} (h:RL k t w A c xs) (u:UpdS [b] w w') (ha:Apart A xs b):RL k t w' A c xs:=h.updSA u (by simpa using ha)
theorem TB.updW (u:UpdS [b] w w') (hb:b≠0) (h:TB w):TB w':=fun j hj=>by
 have h0:=h j hj
 have hp:=h.hpos
 unfold World.cell? at h0 ⊢
 have hq:=u.block 0 hp (by simp;omega)
 simp only at h0 ⊢
 rw [hq]
 exact h0
end
end
section
variable {P:Program} {ops:Array Oper} {Q:Exit→Act→World→Prop} {w w' w1:World} {l l':List Value} {ds:List Deferred} {tl:List Nat} {fuel:Nat} {lst:Array Bool}
variable {op:Op} {ty d:Nat} {pos:String} {af:Array Edge} {gd:Option (Nat × Bool)} {v:Value} {x y:Operand} {t e:Nat}
theorem dkO {n0 b n:Nat} {A:Option Addr} {c:Nat} {xs:List Int} {iv u:Int} (i:Nat) (hi:ops[i]? = some ⟨none,.store e x y,ty,pos,af,gd⟩) (hc:Oo ops lst i=true) (htl:i ∈ tl) (hw:Region.wanted ⟨none,.store e x y,ty,pos,af,gd⟩ (yielded ops l.toArray)=true) (ht:Ep P e 1=true)
  (hx:evo l x=some (.pointer (some ⟨b,0+iv.toNat,none⟩))) (hy:evo l y=some (.int .u32 u)) (hO:OW e n0 w A n c xs) (hA:A=some ⟨b,0,none⟩) (h0:0≤iv) (h1:iv<xs.length)
  (h:∀w',Below n0 w w'→UpdS [b] w w'→OW e n0 w' A n c (xs.set iv.toNat u)→wpAnyLast P .any ops Q (Ext w1) tl fuel (lst.setIfInBounds i true) ⟨l.toArray,ds⟩ w') :
  wpAnyLast P .any ops Q (Ext w1) tl (fuel+1) lst ⟨l.toArray,ds⟩ w:=by
 subst hA
 obtain ⟨hn,hO⟩:=hO
 rcases hO with ⟨_,rfl⟩ | ⟨b',ys,hA,hb,hx',hl,hcc⟩
 ·simp at h1;omega
 ·cases hA
  have hlt:iv.toNat<xs.length:=by omega
  refine dk (vs:=[.int .u32 u]) (cs':=us (xs.set iv.toNat u++ys)) i hi hc htl hw ht hx hy hx' rfl rfl (by simp [us];omega) rfl ?_ fun w' hU hB=>h w' ?_ ((UpdS.refl _ _).upd hU (.inl (by simp))) ⟨by simpa using hn,.inr ⟨b,ys,rfl,hb,hB,by simpa using hl,hcc⟩⟩
  ·simp only [Nat.zero_add,SP1,SP0,Qm]
   rw [List.set_append_left _ _ hlt]
  ·exact ⟨hU.os,hU.tape,hU.output,by rw [hU.size];exact Nat.le_refl _,fun k hk=>hU.block k (by omega)⟩
theorem dslice {k:IntKind} {A:Option Addr} {c lo hi:Nat} {xs:List Int} {low high:Option Operand} (i:Nat) (hi':ops[i]? = some ⟨some d,.slice t x low high none,ty,pos,af,gd⟩) (ht:P.underlying t=some (.slice e)) (hs:Ep P e 1=true) (hx:evo l x=some (.slice A xs.length c))
  (hl:match (generalizing:=false) low with | some o=>∃k,evo l o=some (.int k (lo:Int)) | none=>lo=0) (hh:match (generalizing:=false) high with | some o=>∃k,evo l o=some (.int k (hi:Int)) | none=>hi=xs.length) (h1:lo≤hi) (h2:hi≤xs.length) (hR:RL k e w A c xs)
  (h:∀A' c',RL k e w A' c' ((xs.drop lo).take (hi - lo))→wpAnyLast P .any ops Q (Ext w1) tl fuel (lst.setIfInBounds i true) ⟨(l.set d (.slice A' ((xs.drop lo).take (hi - lo)).length c')).toArray,ds⟩ w)
  (hw:Region.wanted ⟨some d,.slice t x low high none,ty,pos,af,gd⟩ (yielded ops l.toArray)=true:=by rfl) (hc:anB ops lst i=true:=by kernel_rfl)
  (hQ:∀v c a w,Q (.panic c) (a.put (some d) v) w→Q (.panic c) a w:=by exact fun _ _ _ _ h=>h) :
  wpAnyLast P .any ops Q (Ext w1) tl (fuel+1) lst ⟨l.toArray,ds⟩ w:=by
 have hcc:hi≤c:=Nat.le_trans h2 hR.1
 have h':=h _ _ (hR.part h1 h2)
 have hlen:((xs.drop lo).take (hi - lo)).length=hi - lo:=by simp;omega
 rw [hlen] at h'
 exact da i hi' hc (hQ _) hw (fun w'=>OT ht hs hx hl hh h1 hcc) h'
end
end Go.Sb
namespace Go.Proofs
open Go.Sb Go.Proofs.Sbn
abbrev uu:Value:=undef
theorem sj {α:Type} {a b:α} (h:some a=some b):a=b:=Option.some.inj h
theorem bft (b:Bool):b=true ∨ b=false:=Bool.eq_false_or_eq_true b
theorem nlt {a b c:Nat} (h:a≤b) (k:b≤c):a≤c:=Nat.le_trans h k
theorem xtr {a b c:World} (h:Ext a b) (k:Ext b c):Ext a c:=Ext.trans h k
theorem tbx {w w':World} (e:Ext w w') (h:TB w):TB w':=TB.ext e h
abbrev RU (w:World) (A:Option Addr) (c n:Nat):Prop:=RL .u32 179 w A c (limbs n)
abbrev RLu (w:World) (A:Option Addr) (c:Nat) (xs:List Int):Prop:=RL .u32 179 w A c xs
theorem RU.nil (w:World):RU w none 0 0:=RL.nil _ _ _
abbrev wi64:=IntKind.i64.wrap
abbrev wu32:=IntKind.u32.wrap
abbrev wu64:=IntKind.u64.wrap
end Go.Proofs
namespace Go.Sb
open Go.RowKit Go.Proofs.Sbn
theorem UpdS.e {w w':World} (h:UpdS [] w w'):Ext w w':=⟨h.os,h.tape,h.output,h.size,fun k hk=>h.block k hk (by simp)⟩
end Go.Sb
namespace Go.Sb
set_option linter.unusedSimpArgs false
open Go.RowKit Go.Proofs.Sbn
open Go.Proofs.YtabiobmfelafoaaGreatDoorW.PrintLast
section
variable {P:Program} {ops:Array Oper} {Q:Exit→Act→World→Prop} {w w' w1 w2:World} {rest:List Oper} {l l':List Value} {ds:List Deferred}
variable {op op2 op3:Op} {ty ty2 ty3 d d2 d3:Nat} {pos pos2 pos3:String} {af af2 af3:Array Edge} {gd gd2 gd3:Option (Nat × Bool)} {v v2 v3:Value} {x y:Operand} {t:Nat} {tl:List Nat} {fuel:Nat} {lst:Array Bool}
theorem sV2 (hr:Does P l op v w w1) (hr2:Does P (l.set d v) op2 v2 w1 w') (h:WL P ops Q rest l' ds w')
  (hw:Region.wanted ⟨some d,op,ty,pos,af,gd⟩ (yielded ops l.toArray)=true:=by rfl) (hw2:Region.wanted ⟨some d2,op2,ty2,pos2,af2,gd2⟩ (yielded ops (l.set d v).toArray)=true:=by rfl) (hl:(l.set d v).set d2 v2=l':=by simp only [S0,S1];rfl) :
  WL P ops Q (⟨some d,op,ty,pos,af,gd⟩::⟨some d2,op2,ty2,pos2,af2,gd2⟩::rest) l ds w:=by subst hl;exact sv hr (sv hr2 h hw2) hw
theorem sV3 (hr:Does P l op v w w1) (hr2:Does P (l.set d v) op2 v2 w1 w2) (hr3:Does P ((l.set d v).set d2 v2) op3 v3 w2 w') (h:WL P ops Q rest l' ds w')
  (hw:Region.wanted ⟨some d,op,ty,pos,af,gd⟩ (yielded ops l.toArray)=true:=by rfl) (hw2:Region.wanted ⟨some d2,op2,ty2,pos2,af2,gd2⟩ (yielded ops (l.set d v).toArray)=true:=by rfl) (hw3:Region.wanted ⟨some d3,op3,ty3,pos3,af3,gd3⟩ (yielded ops ((l.set d v).set d2 v2).toArray)=true:=by rfl) (hl:((l.set d v).set d2 v2).set d3 v3=l':=by simp only [S0,S1];rfl) :
  WL P ops Q (⟨some d,op,ty,pos,af,gd⟩::⟨some d2,op2,ty2,pos2,af2,gd2⟩::⟨some d3,op3,ty3,pos3,af3,gd3⟩::rest) l ds w:=by subst hl;exact sv hr (sv hr2 (sv hr3 h hw3) hw2) hw
theorem ss {b off T n:Nat} {cs vs cs':List Value} (ht:Ep P t n=true) (hb:Bx w b T cs) (h:∀w',Upd b w w'→Bx w' b T cs'→WL P ops Q rest l ds w')
  (hx:evo l x=some (.pointer (some ⟨b,off,none⟩)):=by rfl) (hy:evo l y=some v:=by rfl) (hc:v.cells=vs.toArray:=by rfl) (hn:vs.length=n:=by rfl) (ho:(decide (off+n≤cs.length))=true:=by rfl) (h1:(vs.all (·.oneCell'))=true:=by rfl)
  (hs:spl cs off vs=cs':=by simp only [SP0,SP1,S0,S1,Nat.reduceAdd];rfl) (hw:Region.wanted ⟨none,.store t x y,ty,pos,af,gd⟩ (yielded ops l.toArray)=true:=by rfl) :
  WL P ops Q (⟨none,.store t x y,ty,pos,af,gd⟩::rest) l ds w:=Ns ht hx hy hb hc hn ho h1 hs h hw
theorem dkk {b off T n:Nat} {cs vs cs':List Value} (i:Nat) (ht:Ep P t n=true) (hb:Bx w b T cs)
  (h:∀w',Upd b w w'→Bx w' b T cs'→wpAnyLast P .any ops Q (Ext w1) tl fuel (lst.setIfInBounds i true) ⟨l.toArray,ds⟩ w')
  (hi:ops[i]? = some ⟨none,.store t x y,ty,pos,af,gd⟩:=by rfl) (hc:Oo ops lst i=true:=by kernel_rfl) (htl:i ∈ tl:=by decide) (hw:Region.wanted ⟨none,.store t x y,ty,pos,af,gd⟩ (yielded ops l.toArray)=true:=by rfl)
  (hx:evo l x=some (.pointer (some ⟨b,off,none⟩)):=by rfl) (hy:evo l y=some v:=by rfl) (hcs:v.cells=vs.toArray:=by rfl) (hn:vs.length=n:=by rfl) (ho:(decide (off+n≤cs.length))=true:=by rfl) (h1:(vs.all (·.oneCell'))=true:=by rfl) (hs:spl cs off vs=cs':=by simp only [SP0,SP1,S0,S1,Nat.reduceAdd];rfl) :
  wpAnyLast P .any ops Q (Ext w1) tl (fuel+1) lst ⟨l.toArray,ds⟩ w:=dk i hi hc htl hw ht hx hy hb hcs hn ho h1 hs h
theorem wh {C:Act→World→Prop} (h:∀a w,C a w→Q .normal a w) (x:C ⟨l.toArray,ds⟩ w):WL P ops Q [] l ds w:=AF (h _ _ x)
theorem zi {α:Type} {p:Prop} [Decidable p] {a b:α} {r:α} {z:Bool} (hz:z=true↔p) (h:(if p then a else b)=r):(z=true∧p∧a=r)∨(z=false∧¬p∧b=r):=by
 rcases Bool.eq_false_or_eq_true z with e | e
 ·exact .inl ⟨e,zP hz e,ifP (zP hz e) h⟩
 ·exact .inr ⟨e,zN hz e,ifN (zN hz e) h⟩
theorem zb {α:Type} {a b:α} {r:α} {z:Bool} (h:(if z=true then a else b)=r):(z=true∧a=r)∨(z=false∧b=r):=by
 rcases Bool.eq_false_or_eq_true z with e | e
 ·exact .inl ⟨e,ifP e h⟩
 ·exact .inr ⟨e,ifN (bF e) h⟩
variable {fid:FuncId} {args:List Value} {α β:Type} {rep:World→α→Value→Prop} {o:Option α} {g:α→Option β} {r0:β}
theorem scr {F:α→Value} {L':α→List Value} (hf:o.bind g=some r0) (hd:Gj P l op fid args w) (hc:∀a,o=some a→Calls P fid args.toArray w (Ret rep w a))
  (h:∀a,g a=some r0→∀w',Ext w w'→WL P ops Q rest (L' a) ds w') (hw:Region.wanted ⟨some d,op,ty,pos,af,gd⟩ (yielded ops l.toArray)=true:=by rfl)
  (hrep:∀a w' v,rep w' a v→v=F a:=by exact fun _ _ _ h=>h) (hl:∀a,l.set d (F a)=L' a:=by intro a;simp only [S0,S1];rfl) :
  WL P ops Q (⟨some d,op,ty,pos,af,gd⟩::rest) l ds w:=by
 obtain ⟨a,ha,hg⟩:=Ad hf
 refine sc hd (hc a ha) (fun v w' e hv=>?_) hw
 obtain rfl:=hrep a w' v hv
 rw [hl a]
 exact h a hg w' e
theorem scn {F:α→Option Addr→Nat→Value} {N:α→World→Option Addr→Nat→Prop} {L':α→Option Addr→Nat→List Value} (hf:o.bind g=some r0) (hd:Gj P l op fid args w) (hc:∀a,o=some a→Calls P fid args.toArray w (Ret rep w a))
  (h:∀a,g a=some r0→∀w' A c,Ext w w'→N a w' A c→WL P ops Q rest (L' a A c) ds w') (hw:Region.wanted ⟨some d,op,ty,pos,af,gd⟩ (yielded ops l.toArray)=true:=by rfl)
  (hrep:∀a w' v,rep w' a v→∃A c,v=F a A c∧N a w' A c:=by exact fun _ _ _ h=>h) (hl:∀a A c,l.set d (F a A c)=L' a A c:=by intro a A c;simp only [S0,S1];rfl) :
  WL P ops Q (⟨some d,op,ty,pos,af,gd⟩::rest) l ds w:=by
 obtain ⟨a,ha,hg⟩:=Ad hf
 refine sc hd (hc a ha) (fun v w' e hv=>?_) hw
 obtain ⟨A,c,rfl,n⟩:=hrep a w' v hv
 rw [hl a A c]
 exact h a hg w' A c e n
theorem dcr {F:α→Value} {L':α→List Value} (hf:o.bind g=some r0) (i:Nat) (hi:ops[i]? = some ⟨some d,op,ty,pos,af,gd⟩) (hw:Region.wanted ⟨some d,op,ty,pos,af,gd⟩ (yielded ops l.toArray)=true) (hd:Gj P l op fid args w) (hc:∀a,o=some a→Calls P fid args.toArray w (Ret rep w a))
  (h:∀a,g a=some r0→∀w',Ext w w'→wpAnyLast P .any ops Q (Ext w1) tl fuel (lst.setIfInBounds i true) ⟨(L' a).toArray,ds⟩ w') (hcc:Oo ops lst i=true:=by kernel_rfl)
  (hrep:∀a w' v,rep w' a v→v=F a:=by exact fun _ _ _ h=>h) (hl:∀a,l.set d (F a)=L' a:=by intro a;simp only [S0,S1];rfl) :
  wpAnyLast P .any ops Q (Ext w1) tl (fuel+1) lst ⟨l.toArray,ds⟩ w:=by
 obtain ⟨a,ha,hg⟩:=Ad hf
 refine dc i hi hcc hw hd (hc a ha) (fun v w' e hv=>?_)
 obtain rfl:=hrep a w' v hv
 rw [hl a]
 exact h a hg w' e
theorem dcn {F:α→Option Addr→Nat→Value} {N:α→World→Option Addr→Nat→Prop} {L':α→Option Addr→Nat→List Value} (hf:o.bind g=some r0) (i:Nat) (hi:ops[i]? = some ⟨some d,op,ty,pos,af,gd⟩) (hw:Region.wanted ⟨some d,op,ty,pos,af,gd⟩ (yielded ops l.toArray)=true) (hd:Gj P l op fid args w) (hc:∀a,o=some a→Calls P fid args.toArray w (Ret rep w a))
  (h:∀a,g a=some r0→∀w' A c,Ext w w'→N a w' A c→wpAnyLast P .any ops Q (Ext w1) tl fuel (lst.setIfInBounds i true) ⟨(L' a A c).toArray,ds⟩ w') (hcc:Oo ops lst i=true:=by kernel_rfl)
  (hrep:∀a w' v,rep w' a v→∃A c,v=F a A c∧N a w' A c:=by exact fun _ _ _ h=>h) (hl:∀a A c,l.set d (F a A c)=L' a A c:=by intro a A c;simp only [S0,S1];rfl) :
  wpAnyLast P .any ops Q (Ext w1) tl (fuel+1) lst ⟨l.toArray,ds⟩ w:=by
 obtain ⟨a,ha,hg⟩:=Ad hf
 refine dc i hi hcc hw hd (hc a ha) (fun v w' e hv=>?_)
 obtain ⟨A,c,rfl,n⟩:=hrep a w' v hv
 rw [hl a A c]
 exact h a hg w' A c e n
theorem sQ {j:Nat} {z b:Bool} (hy:yielded ops l.toArray j=some z) (hz:z = !b) (h:WL P ops Q rest l' ds w) (hl:l.set d undef=l':=by simp only [S0,S1];rfl) :
  WL P ops Q (⟨some d,op,ty,pos,af,some (j,b)⟩::rest) l ds w:=by subst hl;exact sp h (wgF hy hz)
theorem Gd {γ:Type} {fn:Func} {rs:List ResultVar} {vs:List Value} {R:γ→Ending→World→Prop} {a r:γ} (e:some a=some r) (hf:fn.results=rs.toArray) (h:Res P l w rs vs) (hR:R a (.returned (tup vs)) w):bodyPost P fn (R r) .ret ⟨l.toArray,[]⟩ w:=by
 cases e;exact fin hf h hR
theorem Bn {γ:Type} {fn:Func} {t:Nat} {v:Value} {rep:World→γ→Value→Prop} {a r:γ} {w0:World} (e:some a=some r) (hx:Ext w0 w) (hr:rep w a v) (hf:fn.results = #[.tmp t]:=by rfl) (hv:l[t]? = some v:=by rfl):bodyPost P fn (Ret rep w0 r) .ret ⟨l.toArray,[]⟩ w:=by
 cases e;exact fin (rs:=[.tmp t]) hf (.tmp hv .nil) (AJ hx hr)
theorem ws {x y:Code} {a:Act} (h:∀ {K:Act→World→Prop},(∀a w,y.wp P Q a w→K a w)→x.wp P (Exit.then K Q) a w):(Code.seq x y).wp P Q a w:=wp_seq_k fun _ hK=>h hK
theorem wsI {x y:Code} {a:Act} {F:Fence} {n:Nat} (h:∀ {K:Act→World→Prop},(∀a w,y.wpIn F n P Q a w→K a w)→x.wpIn F n P (Exit.then K Q) a w):(Code.seq x y).wpIn F n P Q a w:=wpIn_seq_k fun _ hK=>h hK
theorem nx {Q':Exit→Act→World→Prop} {y:Code} {id:Nat} {rs:List Oper} (h:∀a w,(Code.seq (Code.region id rs.toArray false) y).wp P Q' a w→Q .normal a w) (k:∀ {K:Act→World→Prop},(∀a w,y.wp P Q' a w→K a w)→WL P rs.toArray (Exit.then K Q') rs l ds w):WL P ops Q [] l ds w:=
 AF (h _ _ (wp_seq_k fun _ hK=>Ah (k hK)))
theorem ct {c:Operand} {x y:Code} {z:Bool} (hz:z=true) (k:x.wp P Q ⟨l.toArray,ds⟩ w) (h:evo l c=some (.bool z):=by rfl):(Code.cond c x y).wp P Q ⟨l.toArray,ds⟩ w:=wp_cond_true (CF (evb h hz)) k
theorem cf {c:Operand} {x y:Code} {z:Bool} (hz:z=false) (k:y.wp P Q ⟨l.toArray,ds⟩ w) (h:evo l c=some (.bool z):=by rfl):(Code.cond c x y).wp P Q ⟨l.toArray,ds⟩ w:=wp_cond_false (CF (evb h hz)) k
theorem cti {c:Operand} {x y:Code} {z:Bool} {F:Fence} {n:Nat} (hz:z=true) (k:x.wpIn F n P Q ⟨l.toArray,ds⟩ w) (h:evo l c=some (.bool z):=by rfl):(Code.cond c x y).wpIn F n P Q ⟨l.toArray,ds⟩ w:=wpIn_cond_true (CF (evb h hz)) k
theorem cfi {c:Operand} {x y:Code} {z:Bool} {F:Fence} {n:Nat} (hz:z=false) (k:y.wpIn F n P Q ⟨l.toArray,ds⟩ w) (h:evo l c=some (.bool z):=by rfl):(Code.cond c x y).wpIn F n P Q ⟨l.toArray,ds⟩ w:=wpIn_cond_false (CF (evb h hz)) k
abbrev OA:=Option Addr
def tb (n m:Nat):Array Bool:=((List.range n).map fun i=>m.testBit i).toArray
theorem sal {cs:List Value} {L':Nat→List Value} (hz:Ik P t cs)
  (h:∀b w',Ext w w'→w.heap.size≤b→Bx w' b t cs→WL P ops Q rest (L' b) ds w') (hw:Region.wanted ⟨some d,.alloc t,ty,pos,af,gd⟩ (yielded ops l.toArray)=true:=by rfl) (hl:∀b,l.set d (.pointer (some ⟨b,0,none⟩))=L' b:=by intro b;simp only [S0,S1];rfl) :
  WL P ops Q (⟨some d,.alloc t,ty,pos,af,gd⟩::rest) l ds w:=RZ hz (fun b w' e g q=>by rw [hl b];exact h b w' e g q) hw
theorem sbx {cs:List Value} {L':Nat→List Value} (hx:evo l x=some v) (hc:v.cells=cs.toArray)
  (h:∀b w',Ext w w'→w.heap.size≤b→Bx w' b t cs→WL P ops Q rest (L' b) ds w') (hw:Region.wanted ⟨some d,.box t x,ty,pos,af,gd⟩ (yielded ops l.toArray)=true:=by rfl) (hl:∀b,l.set d (.pointer (some ⟨b,0,none⟩))=L' b:=by intro b;simp only [S0,S1];rfl) :
  WL P ops Q (⟨some d,.box t x,ty,pos,af,gd⟩::rest) l ds w:=Rr hx hc (fun b w' e g q=>by rw [hl b];exact h b w' e g q) hw
theorem Na {fn:Func} {f:FuncId} {c:Code} {av:List Value} {R:Ending→World→Prop} (hf:P.funcs[f]? = some fn) (hb:fn.body=some c) (k:Nat) (h:c.wp P (bodyPost P fn R) ⟨l.toArray,[]⟩ w)
  (hk:fn.ntmps - av.length=k:=by kernel_rfl) (hl:av++List.replicate k undef=l:=by simp only [List.replicate_succ,List.replicate_zero,List.cons_append,List.nil_append];rfl):Calls P f av.toArray w R:=
 callsL hf hb l (by subst hl hk;simp) h
theorem QI {fn:Func} {f:FuncId} {c:Code} {av:List Value} {R:Ending→World→Prop} (hf:P.funcs[f]? = some fn) (hb:fn.body=some c) (k:Nat) (h:c.wp P (bodyPostM Fence.wide 1 P fn R) ⟨l.toArray,[]⟩ w)
  (hk:fn.ntmps - av.length=k:=by kernel_rfl) (hl:av++List.replicate k undef=l:=by simp only [List.replicate_succ,List.replicate_zero,List.cons_append,List.nil_append];rfl):Calls P f av.toArray w R:=
 RR hf hb l (by subst hl hk;simp) h
theorem sbl {p:Prop} [Decidable p] {L':Bool→List Value} (hr:Does P l op (.bool (decide p)) w w) (h:∀z:Bool,(z=true↔p)→WL P ops Q rest (L' z) ds w)
  (hw:Region.wanted ⟨some d,op,ty,pos,af,gd⟩ (yielded ops l.toArray)=true:=by rfl) (hl:∀z,l.set d (.bool z)=L' z:=by intro z;simp only [S0,S1];rfl) :
  WL P ops Q (⟨some d,op,ty,pos,af,gd⟩::rest) l ds w:=sb hr (fun z hz=>by rw [hl z];exact h z hz) hw
theorem dls {lst':Array Bool} (h:wpAnyLast P .any ops Q (Ext w1) tl fuel lst' ⟨l.toArray,ds⟩ w) (hc:(lst == lst')=true:=by kernel_rfl):wpAnyLast P .any ops Q (Ext w1) tl fuel lst ⟨l.toArray,ds⟩ w:=dlst hc h
theorem He {γ:Type} {fn:Func} {a b off T n:Nat} {cs us:List Value} {rep:World→γ→Value→Prop} {av r:γ} {w0:World} (e:some av=some r) (hag:agg P t n=true) (hb:Bx w b T cs) (hx:Ext w0 w) (hr:rep w av (.agg us.toArray))
  (hf:fn.results = #[.cell a t]:=by rfl) (hl:l[a]? = some (.pointer (some ⟨b,off,none⟩)):=by rfl) (hu:(cs.drop off).take n=us:=by rfl) (hn:us.length=n:=by rfl):bodyPost P fn (Ret rep w0 r) .ret ⟨l.toArray,[]⟩ w:=by
 cases e;exact fin (rs:=[.cell a t]) hf (.cellN hl hag hb hu hn .nil) (AJ hx hr)
theorem dA2 (i j:Nat) (hi:ops[i]? = some ⟨some d,op,ty,pos,af,gd⟩) (hj:ops[j]? = some ⟨some d2,op2,ty2,pos2,af2,gd2⟩) (hr:∀w',Does P l op v w' w') (hr2:∀w',Does P (l.set d v) op2 v2 w' w') (h:wpAnyLast P .any ops Q (Ext w1) tl fuel ((lst.setIfInBounds i true).setIfInBounds j true) ⟨l'.toArray,ds⟩ w)
  (hw:Region.wanted ⟨some d,op,ty,pos,af,gd⟩ (yielded ops l.toArray)=true:=by rfl) (hw2:Region.wanted ⟨some d2,op2,ty2,pos2,af2,gd2⟩ (yielded ops (l.set d v).toArray)=true:=by rfl) (hc:anB ops lst i=true:=by kernel_rfl) (hc2:anB ops (lst.setIfInBounds i true) j=true:=by kernel_rfl)
  (hQ:∀c a w,Q (.panic c) (a.put (some d) v) w→Q (.panic c) a w:=by exact fun _ _ _ h=>h) (hQ2:∀c a w,Q (.panic c) (a.put (some d2) v2) w→Q (.panic c) a w:=by exact fun _ _ _ h=>h) (hl:(l.set d v).set d2 v2=l':=by simp only [S0,S1];rfl) :
  wpAnyLast P .any ops Q (Ext w1) tl (fuel+1+1) lst ⟨l.toArray,ds⟩ w:=by subst hl;exact da i hi hc hQ hw hr (da j hj hc2 hQ2 hw2 hr2 h)
theorem dld {b off T n:Nat} {cs vs:List Value} (ht:agg P t n=true) (hb:Bx w b T cs) (hx:evo l x=some (.pointer (some ⟨b,off,none⟩)):=by rfl) (hv:(cs.drop off).take n=vs:=by simp only [List.drop_succ_cons,List.drop_zero,List.take_succ_cons,List.take_zero];rfl) (hn:vs.length=n:=by rfl) :
  Does P l (.load t x) (.agg vs.toArray) w w:=HJ ht hx hb hv hn
end
end Go.Sb
