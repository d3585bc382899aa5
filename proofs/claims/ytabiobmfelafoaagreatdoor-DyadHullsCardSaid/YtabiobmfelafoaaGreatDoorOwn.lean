import Derived.Test.YtabiobmfelafoaaGreatDoorJoin
namespace Go.Sb
set_option linter.unusedSimpArgs false
open Go.RowKit Go.Proofs.Sbn
def Apart (A:Option Addr) (xs:List Int) (b:Nat):Prop:=xs≠[]→∀a,A=some a→a.block≠b
theorem apartB {k:IntKind} {t b:Nat} {w:World} {A:Option Addr} {c:Nat} {xs:List Int} (h:RL k t w A c xs) (hb:w.heap.size≤b):Apart A xs b:=fun hne a ha e=>by
 obtain ⟨b',off,cs',fr,hA,hb',_⟩:=h.2.2 hne
 rw [ha] at hA
 cases hA
 simp only at e
 subst e
 have:=hb'.lt
 omega
theorem RL.updSA {S:List Nat} {k:IntKind} {t:Nat} {w w':World} {A:Option Addr} {c:Nat} {xs:List Int} (h:RL k t w A c xs) (u:UpdS S w w') (ha:∀b ∈ S,Apart A xs b):RL k t w' A c xs:=by
 obtain ⟨h2,h3,h4⟩:=h
 refine ⟨h2,h3,fun hne=>?_⟩
 obtain ⟨b',off,cs,fr,hA,hb,hc⟩:=h4 hne
 exact ⟨b',off,cs,fr,hA,hb.mv (u.block b' hb.lt (fun hm=>ha b' hm hne _ hA rfl)),hc⟩
abbrev us (xs:List Int):List Value:=xs.map (Value.int .u32)
def Kk (P:Program) (e:Nat):Bool:=match P.info? e with
 | some i=>i.size == 1 && i.bytes == 4 && (match i.zero with | some (.int .u32 0)=>true | _=>false)
 | none=>false
theorem Mh {P:Program} {e:Nat} (h:Kk P e=true):∃i,P.info? e=some i∧i.size=1∧i.bytes=4∧i.zero=some (.int .u32 0):=by
 unfold Kk at h
 cases hi:P.info? e with
 | none=>simp [hi] at h
 | some i=>
  simp only [hi,Bool.and_eq_true,beq_iff_eq] at h
  obtain ⟨⟨h1,h2⟩,h3⟩:=h
  refine ⟨i,rfl,h1,h2,?_⟩
  split at h3
  ·assumption
  ·cases h3
section
variable {P:Program} {w w':World} {l:List Value} {x y:Operand} {t e:Nat}
theorem d_makeS {n c:Int} (ht:P.underlying t=some (.slice e)) (hu:Kk P e=true) (hx:evo l x=some (.int .i64 n)) (hy:evo l y=some (.int .i64 c)) (h0:0≤n) (h1:n≤c) (h2:c≤70368744177664) :
  Does P l (.makeSlice t x y) (.slice (some ⟨w.heap.size,0,none⟩) n.toNat c.toNat) w (w.alloc (.cells (us (List.replicate c.toNat 0)).toArray e)):=fun ρ he _ _ _ _ _=>by
 obtain ⟨i,hi,hs,hb,hz⟩:=Mh hu
 have w1:IntKind.i64.wrap n=n:=by rw [IntKind.wrap_i64];omega
 have w2:IntKind.i64.wrap c=c:=by rw [IntKind.wrap_i64];omega
 have ha:∀(k:IntKind) (m:Int) (w:World),(asIntOf (.int k m)).run P w = .ok (k,m) w:=fun _ _ _=>rfl
 have hr:∀k:Nat,Array.map (fun x=>(Value.int IntKind.u32 0).cells[x%(Value.int IntKind.u32 0).cells.size]!) (Array.range k)=(us (List.replicate k 0)).toArray:=fun k=>by
  apply Array.ext
  ·simp
  ·intro i h1 h2
   simp [Value.cells,Nat.mod_one]
 unfold execOp
 simp only [Instr.makeSlice,Sem.run_bind,run_underlying ht w,Result.andThen_ok,he _ _ hx,he _ _ hy,asInt]
 simp [typeInfo,sizeOf,zeroValue,hi,hs,hb,hz,w1,w2,ha]
 rw [if_neg (by omega)]
 by_cases hc:c≤0
 ·obtain rfl:c=0:=by omega
  obtain rfl:n=0:=by omega
  simp [newRow]
  congr 2
  apply Array.ext<;>simp
 ·rw [if_neg hc,hr]
  simp [newRow]
theorem Og {A:Option Addr} {n c lo hi:Nat} {low high:Option Operand} (ht:P.underlying t=some (.slice e)) (hs:Ex P e 1=true) (hx:evo l x=some (.slice A n c))
  (hl:match low with | some o=>∃k,evo l o=some (.int k (lo:Int)) | none=>lo=0) (hh:match high with | some o=>∃k,evo l o=some (.int k (hi:Int)) | none=>hi=n) (h1:lo≤hi) (h2:hi≤c) :
  Does P l (.slice t x low high none) (.slice (if c=lo then A else A.map (·.add lo)) (hi - lo) (c - lo)) w w:=fun ρ he _ _ _ _ _=>by
 have hz:(sizeOf e).run P w = .ok 1 w:=by
  unfold Ex at hs
  cases h:P.info? e with
  | none=>simp [h] at hs
  | some i=>simp [h] at hs;simp [sizeOf,typeInfo,h,hs]
 have ha:∀(k:IntKind) (m:Int) (w:World),(asIntOf (.int k m)).run P w = .ok (k,m) w:=fun _ _ _=>rfl
 cases low with
 | none=>
  cases high with
  | none=>
   simp only at hl hh
   subst hl hh
   simp [execOp,he _ _ hx,Instr.sliceAt,Instr.slice,Instr.sliceBounds,run_underlying ht,hz]
  | some h=>
   simp only at hl
   subst hl
   obtain ⟨k,hh⟩:=hh
   simp [execOp,he _ _ hx,he _ _ hh,Instr.sliceAt,Instr.slice,Instr.sliceBounds,Instr.sliceBound,run_underlying ht,hz,ha,h2]
 | some o=>
  obtain ⟨k',hl⟩:=hl
  cases high with
  | none=>
   simp only at hh
   subst hh
   simp [execOp,he _ _ hx,he _ _ hl,Instr.sliceAt,Instr.slice,Instr.sliceBounds,Instr.sliceBound,run_underlying ht,hz,ha,h1]
  | some h=>
   obtain ⟨k,hh⟩:=hh
   simp [execOp,he _ _ hx,he _ _ hh,he _ _ hl,Instr.sliceAt,Instr.slice,Instr.sliceBounds,Instr.sliceBound,run_underlying ht,hz,ha,h1,h2]
theorem PD (ys:List Int) (i:Nat) (v:Int):(us ys).set i (.int .u32 v)=us (ys.set i v):=by simp [us,List.map_set]
theorem us_get {ys:List Int} {i:Nat} (h:i<ys.length):(us ys)[i]? = some (.int .u32 (ys.getD i 0)):=by simp [us,h]
theorem RL.take {k:IntKind} {t:Nat} {A:Option Addr} {c:Nat} {xs:List Int} (h:RL k t w A c xs) (n:Nat):RL k t w A c (xs.take n):=by
 obtain ⟨h2,h3,h4⟩:=h
 refine ⟨by simp;omega,h3,fun hne=>?_⟩
 obtain ⟨b,off,cs,fr,hA,hb,hc⟩:=h4 (fun e=>hne (by simp [e]))
 refine ⟨b,off,cs,fr,hA,hb,fun i hi=>?_⟩
 simp at hi
 have h5:i<xs.length:=by omega
 have h6:i<n:=by omega
 rw [hc i h5]
 simp [List.getElem?_take_of_lt h6]
theorem Ll {k k':IntKind} {a n c:Int} {ty2:Nat} (h0:0≤n) (hx:evo l x=some (.int k a)) (hy:evo l y=some (.int k' n)) (hc:k.wrap (a*2^min n.toNat k.bits)=c):Does P l (.binOp .shl t x y ty2) (.int k c) w w:=fun ρ he _ _ _ _ _=>by
 subst hc
 have:¬n<0:=by omega
 simp [execOp,he _ _ hx,he _ _ hy,binOp,eqGuard,Op.shift,this]
theorem Jl {k k':IntKind} {a n c:Int} {ty2:Nat} (h0:0≤n) (hx:evo l x=some (.int k a)) (hy:evo l y=some (.int k' n)) (hc:a.fdiv (2^min n.toNat k.bits)=c):Does P l (.binOp .shr t x y ty2) (.int k c) w w:=fun ρ he _ _ _ _ _=>by
 subst hc
 have:¬n<0:=by omega
 simp [execOp,he _ _ hx,he _ _ hy,binOp,eqGuard,Op.shift,this]
def gd (p:Prop) [Decidable p]:Option Unit:=if p then some () else none
theorem AN {p:Prop} [Decidable p] {u:Unit} (h:gd p=some u):p:=by
 unfold gd at h
 split at h
 ·assumption
 ·cases h
def bor (k:IntKind) (a b:Int):Int:=k.wrap ((BitVec.ofInt k.bits a ||| BitVec.ofInt k.bits b).toNat:Int)
theorem NN {k:IntKind} {a b:Int} {ty2:Nat} (hx:evo l x=some (.int k a)) (hy:evo l y=some (.int k b)):Does P l (.binOp .or t x y ty2) (.int k (bor k a b)) w w:=fun ρ he _ _ _ _ _=>by
 have hb:(Op.intBits .or k a b:Sem Value)=pure (.int k (bor k a b)):=rfl
 simp [execOp,he _ _ hx,he _ _ hy,binOp,eqGuard,Op.intArith,Op.intCmp,hb]
theorem OX {c:Code} {Q:Exit→Act→World→Prop} {ds:List Deferred} (Φ:Nat→List Value→World→Prop) (n:Nat) (h0:Φ n l w) (hz:∀l' w',¬Φ 0 l' w')
  (step:∀n,(∀l' w',Φ n l' w'→LW P c Q ⟨l'.toArray,ds⟩ w')→∀l' w',Φ (n+1) l' w'→LW P c Q ⟨l'.toArray,ds⟩ w'):(Code.loop c).wp P Q ⟨l.toArray,ds⟩ w:=by
 refine Hh ?_
 have:∀n l' w',Φ n l' w'→LW P c Q ⟨l'.toArray,ds⟩ w':=by
  intro n
  induction n with
  | zero=>intro l' w' h;exact absurd h (hz l' w')
  | succ n ih=>exact step n ih
 exact this n l w h0
theorem BI {c:Code} {Q:Exit→Act→World→Prop} {ds:List Deferred} (Φ:List Value→Nat→List Value→World→Prop) (n:Nat) (h0:Φ l n l w) (hz:∀l' w',Φ l 0 l' w'→False)
  (step:∀n,(∀l' w',Φ l n l' w'→LW P c Q ⟨l'.toArray,ds⟩ w')→∀l' w',Φ l (n+1) l' w'→∀l'',l'=l''→LW P c Q ⟨l''.toArray,ds⟩ w'):(Code.loop c).wp P Q ⟨l.toArray,ds⟩ w:=
 OX (Φ l) n h0 hz fun n ih l' w' h=>step n ih l' w' h l' rfl
theorem RL.part {k:IntKind} {t:Nat} {A:Option Addr} {c lo hi:Nat} {xs:List Int} (h:RL k t w A c xs) (h1:lo≤hi) (h2:hi≤xs.length):RL k t w (if c=lo then A else A.map (·.add lo)) (c - lo) ((xs.drop lo).take (hi - lo)):=by
 obtain ⟨h3,h4,h5⟩:=h
 refine ⟨by simp;omega,by omega,fun hne=>?_⟩
 have hlt:lo<hi:=by
  rcases Nat.lt_or_ge lo hi with h | h
  ·exact h
  ·exact absurd (by rw [Nat.sub_eq_zero_of_le h];rfl) hne
 obtain ⟨b,off,cs,fr,hA,hb,hc⟩:=h5 (fun e=>by subst e;simp at h2;omega)
 refine ⟨b,off+lo,cs,fr,?_,hb,fun i hi'=>?_⟩
 ·rw [if_neg (by omega),hA]
  simp [JX]
 ·simp at hi'
  have:=hc (lo+i) (by omega)
  rw [Nat.add_assoc,this]
  have h6:i<hi - lo:=by omega
  simp [List.getElem?_take_of_lt h6]
theorem OA {ops:Array Oper} {Q:Exit→Act→World→Prop} {rest:List Oper} {ds:List Deferred} {d ty:Nat} {pos:String} {af:Array Edge} {gd:Option (Nat × Bool)} {k:IntKind} {A:Option Addr} {c lo hi:Nat} {xs:List Int} {low high:Option Operand} (ht:P.underlying t=some (.slice e)) (hs:Ex P e 1=true) (hx:evo l x=some (.slice A xs.length c))
  (hl:match low with | some o=>∃k,evo l o=some (.int k (lo:Int)) | none=>lo=0) (hh:match high with | some o=>∃k,evo l o=some (.int k (hi:Int)) | none=>hi=xs.length) (h1:lo≤hi) (h2:hi≤xs.length) (hR:RL k e w A c xs)
  (h:∀A' c',RL k e w A' c' ((xs.drop lo).take (hi - lo))→WL P ops Q rest (l.set d (.slice A' ((xs.drop lo).take (hi - lo)).length c')) ds w) (hw:Region.wanted ⟨some d,.slice t x low high none,ty,pos,af,gd⟩ (yielded ops l.toArray)=true:=by rfl) :
  WL P ops Q (⟨some d,.slice t x low high none,ty,pos,af,gd⟩::rest) l ds w:=by
 have hc:hi≤c:=Nat.le_trans h2 hR.1
 refine sv (Og ht hs hx hl hh h1 hc) ?_ hw
 have:=h _ _ (hR.part h1 h2)
 have hlen:((xs.drop lo).take (hi - lo)).length=hi - lo:=by simp;omega
 rw [hlen] at this
 exact this
end
end Go.Sb
