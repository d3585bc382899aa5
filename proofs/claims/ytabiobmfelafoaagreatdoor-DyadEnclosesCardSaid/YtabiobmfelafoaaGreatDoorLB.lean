import Derived.WalkKit
import Derived.WalkSpells
import Derived.WalkLawsBesides
import Derived.KernelRfl
import Derived.Laws.Rows
import Derived.Test.YtabiobmfelafoaaGreatDoorWLast
namespace Go.Proofs.Sbn
def val:List Int→Nat
  | []=>0
  | x::xs=>x.toNat+4294967296*val xs
def Dig (xs:List Int):Prop:=∀x ∈ xs,0≤x∧x<4294967296
theorem MQ:Dig []:=fun _ h=>by cases h
theorem NZ {x:Int} {xs:List Int} : Dig (x::xs)↔(0≤x∧x<4294967296)∧Dig xs:=by
  unfold Dig;simp
theorem Hp {xs ys:List Int} : Dig (xs++ys)↔Dig xs∧Dig ys:=by
  unfold Dig;simp only [List.mem_append]
  exact ⟨fun h=>⟨fun x hx=>h x (.inl hx),fun x hx=>h x (.inr hx)⟩,fun h x hx=>hx.elim (h.1 x) (h.2 x)⟩
theorem HR (xs ys:List Int):val (xs++ys)=val xs+4294967296^xs.length*val ys:=by
  induction xs with
  | nil=>simp [val]
  | cons x xs ih=>
    simp only [List.cons_append,val,ih,List.length_cons,Nat.pow_succ,Nat.mul_add]
    rw [Nat.mul_comm (4294967296^xs.length) 4294967296,Nat.mul_assoc];omega
theorem PZ {xs:List Int} (h:Dig xs):val xs<4294967296^xs.length:=by
  induction xs with
  | nil=>simp [val]
  | cons x xs ih=>
    have ⟨h1,h2⟩:=NZ.1 h
    have:=ih h2
    simp only [val,List.length_cons,Nat.pow_succ]
    omega
def LI:Nat→Nat→List Int
  | 0,_=>[]
  | f+1,n=>if n=0 then [] else ((n%4294967296:Nat):Int)::LI f (n/4294967296)
def limbs (n:Nat):List Int:=LI n n
theorem limbsF_eq (f:Nat):∀(g n:Nat),n≤f→n≤g→LI f n=LI g n:=by
  induction f with
  | zero=>
    intro g n h _
    obtain rfl:n=0:=by omega
    cases g<;>simp [LI]
  | succ f ih=>
    intro g n h hg
    by_cases e:n=0
    · subst e;cases g<;>simp [LI]
    · obtain ⟨g,rfl⟩:∃m,g=m+1:=⟨g - 1,by omega⟩
      simp only [LI,if_neg e]
      rw [ih g (n/4294967296) (by omega) (by omega)]
theorem BE:limbs 0=[]:=rfl
theorem FK {n:Nat} (h:n≠0):limbs n=((n%4294967296:Nat):Int)::limbs (n/4294967296):=by
  obtain ⟨m,rfl⟩:∃m,n=m+1:=⟨n - 1,by omega⟩
  unfold limbs
  rw [LI,if_neg h,limbsF_eq m ((m+1)/4294967296) _ (by omega) (by omega)]
theorem Ax (n:Nat):val (limbs n)=n:=by
  induction n using Nat.strongRecOn with
  | _ n ih=>
    by_cases h:n=0
    · subst h;rw [BE];rfl
    · rw [FK h,val,ih _ (by omega)];omega
theorem As (n:Nat):Dig (limbs n):=by
  induction n using Nat.strongRecOn with
  | _ n ih=>
    by_cases h:n=0
    · subst h;rw [BE];exact MQ
    · rw [FK h];exact NZ.2 ⟨by omega,ih _ (by omega)⟩
theorem MM {n:Nat} : limbs n=[]↔n=0:=by
  constructor
  · intro h;by_cases e:n=0
    · exact e
    · rw [FK e] at h;cases h
  · rintro rfl;exact BE
theorem BF {n k:Nat} : (limbs n).length≤k↔n<4294967296^k:=by
  constructor
  · intro h
    have:=PZ (As n);rw [Ax] at this
    exact Nat.lt_of_lt_of_le this (Nat.pow_le_pow_right (by omega) h)
  · induction k generalizing n with
    | zero=>intro h;simp at h;subst h;rw [BE];exact Nat.le_refl _
    | succ k ih=>
      intro h
      by_cases e:n=0
      · subst e;rw [BE];exact Nat.zero_le _
      · rw [FK e,List.length_cons]
        have:=ih (n:=n/4294967296) (by rw [Nat.pow_succ] at h;omega)
        omega
def trim:List Int→List Int
  | []=>[]
  | x::xs=>match trim xs with
    | []=>if x=0 then [] else [x]
    | y::ys=>x::y::ys
theorem trim_eq {xs:List Int} (h:Dig xs):trim xs=limbs (val xs):=by
  induction xs with
  | nil=>simp [trim,val,BE]
  | cons x xs ih=>
    obtain ⟨h1,h2⟩:=NZ.1 h
    have ih:=ih h2
    simp only [trim,val]
    by_cases e:val xs=0
    · rw [e,BE] at ih
      rw [ih,e]
      by_cases hx:x=0
      · subst hx;simp [BE]
      · have h3:x.toNat+4294967296*0≠0:=by omega
        rw [FK h3,show (x.toNat+4294967296*0)/4294967296=0 from by omega,BE]
        simp only [if_neg hx]
        congr 1;omega
    · rw [FK e] at ih
      have h3:x.toNat+4294967296*val xs≠0:=by omega
      rw [ih,FK h3,show (x.toNat+4294967296*val xs)/4294967296=val xs from by omega,FK e]
      simp only
      congr 1;omega
theorem trim_snoc {y:Int} (h:y≠0) (xs:List Int):trim (xs++[y])=xs++[y]:=by
  induction xs with
  | nil=>simp [trim,h]
  | cons x xs ih=>
    simp only [List.cons_append,trim,ih]
    cases xs<;>simp
def Sx (xs:List Int):Prop:=Dig xs∧∀y,xs.getLast? = some y→y≠0
theorem Nk {xs:List Int} (h:Sx xs):limbs (val xs)=xs:=by
  rw [←trim_eq h.1]
  rcases List.eq_nil_or_concat xs with rfl | ⟨l,y,rfl⟩
  · rfl
  · rw [List.concat_eq_append]
    exact trim_snoc (h.2 y (by simp)) l
theorem limbs_last {n:Nat} (h:n≠0):∃l y,limbs n=l++[y]∧y≠0∧0≤y∧y<4294967296:=by
  rcases List.eq_nil_or_concat (limbs n) with e | ⟨l,y,e⟩
  · exact absurd (MM.1 e) h
  · rw [List.concat_eq_append] at e
    have hd:=As n;rw [e] at hd
    have hy:=(Hp.1 hd).2 y (by simp)
    refine ⟨l,y,e,?_,hy.1,hy.2⟩
    rintro rfl
    have h1:val (l++[0])=val l:=by rw [HR];simp [val]
    have h2:val l=n:=by rw [←h1,←e,Ax]
    have h3:=PZ (Hp.1 hd).1
    have h4:=(BF (n:=n) (k:=l.length)).2 (h2▸h3)
    rw [e,List.length_append,List.length_singleton] at h4;omega
theorem NC (n:Nat):Sx (limbs n):=by
  refine ⟨As n,fun y hy=>?_⟩
  by_cases h:n=0
  · subst h;rw [BE] at hy;simp at hy
  · obtain ⟨l,z,e,hz,_⟩:=limbs_last h
    rw [e] at hy;simp at hy;rwa [←hy]
abbrev sz (n:Nat):Nat:=(limbs n).length
def toN (xs:List Int):Option Nat:=if limbs (val xs)=xs then some (val xs) else none
theorem Dd {xs:List Int} {n:Nat} (h:toN xs=some n):limbs n=xs:=by
  unfold toN at h
  split at h
  · cases h;assumption
  · cases h
theorem IM (n:Nat):toN (limbs n)=some n:=by unfold toN;rw [Ax,if_pos rfl]
def nth (xs:List Int) (i:Int):Option Int:=if 0≤i∧i<xs.length then some (xs.getD i.toNat 0) else none
end Go.Proofs.Sbn
namespace Go.Sb
set_option linter.unusedSimpArgs false
open Go.RowKit Go.Proofs.Sbn
abbrev Ext (w w':World):Prop:=Below w.heap.size w w'
theorem Ext.refl (w:World):Ext w w:=Below.refl _ _
theorem Ext.trans {a b c:World} (h:Ext a b) (k:Ext b c):Ext a c:=Below.trans h (k.mono h.size)
theorem Ext.alloc (w:World) (o:Obj):Ext w (w.alloc o):=(Below.refl _ _).alloc (Nat.le_refl _) o
theorem Ext.drew (w:World):Ext w w.drew:=(Below.refl _ _).drew
theorem Ext.size {w w':World} (h:Ext w w'):w.heap.size≤w'.heap.size:=Below.size h
structure Upd (b:Nat) (w w':World):Prop where
 os:w'.os=w.os
 tape:w'.tape=w.tape
 output:w'.output=w.output
 size:w'.heap.size=w.heap.size
 block:∀k,k≠b→w'.heap[k]? = w.heap[k]?
theorem Upd.setRow (w:World) (b:Nat) (cs:Array Value):Upd b w (w.setRow b cs):=
 ⟨rfl,rfl,rfl,by simp,fun k hk=>setRow_other w b k cs hk⟩
theorem bel {B:Nat} {a b c:World} (h:Below B a b) (k:Ext b c) (hB:B≤b.heap.size):Below B a c:=h.trans (k.mono hB)
theorem belU {B i:Nat} {a b c:World} (h:Below B a b) (k:Upd i b c) (hB:B≤i):Below B a c:=
 h.trans ⟨k.os,k.tape,k.output,by rw [k.size];exact Nat.le_refl _,fun j hj=>k.block j (by omega)⟩
def Bx (w:World) (b t:Nat) (cs:List Value):Prop:=w.heap[b]? = some (.cells cs.toArray t (0,0))
theorem Bx.lt {w:World} {b t:Nat} {cs:List Value} (h:Bx w b t cs):b<w.heap.size:=(Array.getElem?_eq_some_iff.1 h).1
theorem Bx.ext {w w':World} {b t:Nat} {cs:List Value} (h:Bx w b t cs) (e:Ext w w'):Bx w' b t cs:=(e.block b h.lt).trans h
theorem Bx.upd {w w':World} {b t i:Nat} {cs:List Value} (h:Bx w b t cs) (u:Upd i w w') (hn:b≠i):Bx w' b t cs:=(u.block b hn).trans h
theorem Bx.ne {w:World} {b t i:Nat} {cs:List Value} (h:Bx w b t cs) (hi:w.heap.size≤i):b≠i:=Nat.ne_of_lt (Nat.lt_of_lt_of_le h.lt hi)
theorem Bx.neT {w:World} {b t i t':Nat} {cs cs':List Value} (h:Bx w b t cs) (h':Bx w i t' cs') (hn:t≠t'):b≠i:=by
 rintro rfl
 unfold Bx at h h'
 rw [h] at h'
 simp only [Option.some.injEq,Obj.cells.injEq] at h'
 exact hn h'.2.1
theorem Bx.cell {w:World} {b t i:Nat} {cs:List Value} {v:Value} (h:Bx w b t cs) (hv:cs[i]? = some v):w.cell? ⟨b,i,none⟩=some v:=by
 rw [cell_of_row w b i cs.toArray t _ h]
 simpa using hv
theorem Bx.free {w:World} {b t i:Nat} {cs:List Value} (h:Bx w b t cs):w.frozen? ⟨b,i,none⟩=false:=by
 unfold Bx at h
 simp [World.frozen?,h]
theorem Bx.new (w:World) (t:Nat) (cs:List Value):Bx (w.alloc (.cells cs.toArray t (0,0))) w.heap.size t cs:=by
 unfold Bx
 show (w.heap.push _)[w.heap.size]? = _
 simp
theorem Bx.set {w:World} {b t:Nat} {cs cs':List Value} (h:Bx w b t cs):Bx (w.setRow b cs'.toArray) b t cs':=setRow_heap w b _ _ t _ h
def Rh:List Nat:=[0,3,4,25,27,29,33,65,81,117,119,121,124,154,171,201]
def lay (t u:Nat):Bool:=u == t || !Rh.contains u
def Blk (t:Nat) (w:World) (b:Nat) (cs:Array Value) (fr:Nat × Nat):Prop:=∃u,lay t u=true∧w.heap[b]? = some (.cells cs u fr)
theorem Blk.of {t b:Nat} {w:World} {cs:Array Value} {fr:Nat × Nat} (h:w.heap[b]? = some (.cells cs t fr)):Blk t w b cs fr:=⟨t,by simp [lay],h⟩
theorem Blk.mv {t b:Nat} {w w':World} {cs:Array Value} {fr:Nat × Nat} (h:w'.heap[b]? = w.heap[b]?) (hb:Blk t w b cs fr):Blk t w' b cs fr:=⟨hb.choose,hb.choose_spec.1,h.trans hb.choose_spec.2⟩
theorem Blk.lt {t b:Nat} {w:World} {cs:Array Value} {fr:Nat × Nat} (h:Blk t w b cs fr):b<w.heap.size:=by
 obtain ⟨u,_,hb⟩:=h
 exact (Array.getElem?_eq_some_iff.1 hb).1
theorem Blk.cell {t b i:Nat} {w:World} {cs:Array Value} {fr:Nat × Nat} (h:Blk t w b cs fr):w.cell? ⟨b,i,none⟩=cs[i]?:=by
 obtain ⟨u,_,hb⟩:=h
 exact cell_of_row w b i cs u fr hb
theorem Blk.ne {t t' b b':Nat} {w:World} {cs:Array Value} {fr:Nat × Nat} {xs:List Value} (h:Blk t w b cs fr) (hb:Bx w b' t' xs) (hn:lay t t'=false):b≠b':=by
 rintro rfl
 obtain ⟨u,hu,h⟩:=h
 unfold Bx at hb
 rw [h] at hb
 simp only [Option.some.injEq,Obj.cells.injEq] at hb
 rw [hb.2.1,hn] at hu
 cases hu
def RL (k:IntKind) (t:Nat) (w:World) (A:Option Addr) (c:Nat) (xs:List Int):Prop:=
 xs.length≤c∧c≤9223372036854775807∧(xs≠[]→∃b off cs fr,A=some ⟨b,off,none⟩∧Blk t w b cs fr∧∀i,i<xs.length→cs[off+i]? = some (.int k (xs.getD i 0)))
theorem RL.ext {k:IntKind} {t:Nat} {w w':World} {A:Option Addr} {c:Nat} {xs:List Int} (h:RL k t w A c xs) (e:Ext w w'):RL k t w' A c xs:=by
 obtain ⟨h2,h3,h4⟩:=h
 refine ⟨h2,h3,fun hne=>?_⟩
 obtain ⟨b,off,cs,fr,hA,hb,hc⟩:=h4 hne
 exact ⟨b,off,cs,fr,hA,hb.mv (e.block b hb.lt),hc⟩
theorem RL.upd {k:IntKind} {t:Nat} {w w':World} {A:Option Addr} {c:Nat} {xs:List Int} {b t':Nat} {cs:List Value} (h:RL k t w A c xs) (u:Upd b w w') (hb:Bx w b t' cs) (hn:lay t t'=false):RL k t w' A c xs:=by
 obtain ⟨h2,h3,h4⟩:=h
 refine ⟨h2,h3,fun hne=>?_⟩
 obtain ⟨b',off,cs',fr,hA,hb',hc⟩:=h4 hne
 exact ⟨b',off,cs',fr,hA,hb'.mv (u.block b' (hb'.ne hb hn)),hc⟩
theorem RL.nil (k:IntKind) (t:Nat) (w:World):RL k t w none 0 []:=⟨Nat.le_refl _,by omega,fun h=>(h rfl).elim⟩
theorem RL.cell {k:IntKind} {t:Nat} {w:World} {A:Option Addr} {c:Nat} {xs:List Int} (h:RL k t w A c xs) {i:Nat} (hi:i<xs.length):∃b off,A=some ⟨b,off,none⟩∧w.cell? ⟨b,off+i,none⟩=some (.int k (xs.getD i 0)):=by
 obtain ⟨h2,h3,h4⟩:=h
 obtain ⟨b,off,cs,fr,hA,hb,hc⟩:=h4 (by rintro rfl;simp at hi)
 exact ⟨b,off,hA,by rw [hb.cell];exact hc i hi⟩
abbrev M (α:Type):=Option (Except Int α)
def mb {α β:Type} : M α→(α→M β)→M β
 | none,_=>none
 | some (.error n),_=>some (.error n)
 | some (.ok a),f=>f a
theorem AC {α β:Type} {m:M α} {f:α→M β} {r:Except Int β} (h:mb m f=some r):(∃a,m=some (.ok a)∧f a=some r)∨(∃n,m=some (.error n)∧r = .error n):=by
 match m,h with
 | some (.ok a),h=>exact .inl ⟨a,rfl,h⟩
 | some (.error n),h=>exact .inr ⟨n,rfl,(Option.some.inj h).symm⟩
theorem Ad {α β:Type} {m:Option α} {f:α→Option β} {r:β} (h:m.bind f=some r):∃a,m=some a∧f a=some r:=Option.bind_eq_some_iff.1 h
theorem ifP {α:Type} {p:Prop} [Decidable p] {a b:α} {r:α} (hp:p) (h:(if p then a else b)=r):a=r:=(if_pos hp).symm.trans h
theorem ifN {α:Type} {p:Prop} [Decidable p] {a b:α} {r:α} (hp:¬p) (h:(if p then a else b)=r):b=r:=(if_neg hp).symm.trans h
theorem zP {p:Prop} {z:Bool} (h:z=true↔p) (hz:z=true):p:=h.1 hz
theorem zN {p:Prop} {z:Bool} (h:z=true↔p) (hz:z=false):¬p:=fun hp=>by rw [h.2 hp] at hz;cases hz
theorem bF {z:Bool} (hz:z=false):¬z=true:=by rw [hz];exact Bool.false_ne_true
theorem bz {p:Prop} [Decidable p] {z:Bool} (h:z=true↔p):z=decide p:=by
 cases z<;>simp_all
def entry (T:Nat) (n:Int):PanicEntry:={ v:=.iface T (.agg #[.int .i64 n]),recovered:=false }
def Ret {α:Type} (rep:World→α→Value→Prop) (w:World) (r:α) (e:Ending) (w':World):Prop:=
 Ext w w'∧∃v,e = .returned v∧rep w' r v
def RetE {α:Type} (T:Nat) (rep:World→α→Value→Prop) (w:World) (r:Except Int α) (e:Ending) (w':World):Prop:=
 Ext w w'∧match r with
 | .ok a=>∃v,e = .returned v∧rep w' a v
 | .error n=>e = .panicked [entry T n]
theorem AJ {α:Type} {rep:World→α→Value→Prop} {w w':World} {r:α} {v:Value} (h:Ext w w') (hv:rep w' r v):Ret rep w r (.returned v) w':=⟨h,v,rfl,hv⟩
theorem Cl {α:Type} {T:Nat} {rep:World→α→Value→Prop} {w w':World} {r:α} {v:Value} (h:Ext w w') (hv:rep w' r v):RetE T rep w (.ok r) (.returned v) w':=⟨h,v,rfl,hv⟩
theorem AP {α:Type} {T:Nat} {rep:World→α→Value→Prop} {w w':World} {n:Int} (h:Ext w w'):RetE T rep w (.error n:Except Int α) (.panicked [entry T n]) w':=⟨h,rfl⟩
def evo (l:List Value):Operand→Option Value
 | .tmp t=>l[t]?
 | .const v=>some v
 | .global g=>some (.pointer (some ⟨g,0,none⟩))
 | .func f=>some (.func (.func f) #[] #[])
theorem CF {l:List Value} {ds:List Deferred} {x:Operand} {v:Value} (h:evo l x=some v):(Act.mk l.toArray ds).eval x=v:=by
 cases x<;>simp [evo] at h<;>simp [Act.eval,h]
theorem Fy (l:List Value) (ds:List Deferred) (d:Tmp) (v:Value):(Act.mk l.toArray ds).put (some d) v=Act.mk (l.set d v).toArray ds:=by
 simp [Act.put]
theorem S0 {α:Type} (x:α) (l:List α) (v:α):List.set (x::l) 0 v=v::l:=rfl
theorem S1 {α:Type} (x:α) (l:List α) (n:Nat) (v:α):List.set (x::l) (n+1) v=x::List.set l n v:=rfl
def frame (l:List Value) (ds:List Deferred):Operand→Value:=(Act.mk l.toArray ds).eval
def Does (P:Program) (l:List Value) (o:Op) (v:Value) (w w':World):Prop:=
 ∀(ρ:Operand→Value),(∀x v,evo l x=some v→ρ x=v)→∀(dst:Option Tmp) (ty:Nat) (pos:String) (af:Array Edge) (gd:Option (Nat × Bool)),
  (execOp ρ ⟨dst,o,ty,pos,af,gd⟩).run P w = .ok (.value v) w'
def Rt (P:Program) (l:List Value) (o:Op) (w w':World):Prop:=
 ∀(ρ:Operand→Value),(∀x v,evo l x=some v→ρ x=v)→∀(dst:Option Tmp) (ty:Nat) (pos:String) (af:Array Edge) (gd:Option (Nat × Bool)),
  (execOp ρ ⟨dst,o,ty,pos,af,gd⟩).run P w = .ok .skip w'
section
variable {P:Program} {ops:Array Oper} {Q:Exit→Act→World→Prop} {w w':World} {rest:List Oper} {l l':List Value} {ds:List Deferred}
variable {op:Op} {ty d:Nat} {pos:String} {af:Array Edge} {gd:Option (Nat × Bool)} {v:Value} {x y:Operand} {t:Nat}
structure WL (P:Program) (ops:Array Oper) (Q:Exit→Act→World→Prop) (rest:List Oper) (l:List Value) (ds:List Deferred) (w:World):Prop where
 run:wpList P ops Q rest ⟨l.toArray,ds⟩ w
theorem AF {ds:List Deferred} (h:Q .normal ⟨l.toArray,ds⟩ w):WL P ops Q [] l ds w:=⟨h⟩
theorem Ah {id:Nat} {rs:List Oper} (h:WL P rs.toArray Q rs l ds w):(Code.region id rs.toArray false).wp P Q ⟨l.toArray,ds⟩ w:=wp_region_lit h.run
theorem nrm (h:WL P ops Q rest l' ds w) (hl:l=l':=by simp only [S0,S1];rfl):WL P ops Q rest l ds w:=by subst hl;exact h
variable {dst:Option Tmp}
theorem sq (hw:Region.wanted ⟨dst,op,ty,pos,af,gd⟩ (yielded ops l.toArray)=true)
  (h:∀K:Act→World→Prop,(∀l ds w,WL P ops Q rest l ds w→K ⟨l.toArray,ds⟩ w)→Oper.wp P ⟨dst,op,ty,pos,af,gd⟩ ⟨l.toArray,ds⟩ w K Q) :
  WL P ops Q (⟨dst,op,ty,pos,af,gd⟩::rest) l ds w:=by
 refine ⟨wpList_step fun K hK=>?_⟩
 simp only [hw,if_true]
 exact h K fun _ _ _ hh=>hK _ _ hh.run
theorem sv (hr:Does P l op v w w') (h:WL P ops Q rest (l.set d v) ds w') (hw:Region.wanted ⟨some d,op,ty,pos,af,gd⟩ (yielded ops l.toArray)=true:=by rfl) :
  WL P ops Q (⟨some d,op,ty,pos,af,gd⟩::rest) l ds w:=by
 refine sq hw fun K hK=>?_
 unfold Oper.wp
 rw [hr _ (fun _ _=>CF),Oper.upon_value,Fy]
 exact hK _ _ _ h
theorem sp (h:WL P ops Q rest (l.set d undef) ds w) (hw:Region.wanted ⟨some d,op,ty,pos,af,gd⟩ (yielded ops l.toArray)=false:=by rfl) :
  WL P ops Q (⟨some d,op,ty,pos,af,gd⟩::rest) l ds w:=by
 refine ⟨wpList_step fun K hK=>?_⟩
 simp only [hw,Bool.false_eq_true,if_false,Fy]
 exact hK _ _ h.run
theorem sV (hr:Does P l op v w w') (h:WL P ops Q rest l' ds w') (hw:Region.wanted ⟨some d,op,ty,pos,af,gd⟩ (yielded ops l.toArray)=true:=by rfl) (hl:l.set d v=l':=by simp only [S0,S1];rfl) :
  WL P ops Q (⟨some d,op,ty,pos,af,gd⟩::rest) l ds w:=by subst hl;exact sv hr h hw
theorem sP (h:WL P ops Q rest l' ds w) (hw:Region.wanted ⟨some d,op,ty,pos,af,gd⟩ (yielded ops l.toArray)=false:=by rfl) (hl:l.set d undef=l':=by simp only [S0,S1];rfl) :
  WL P ops Q (⟨some d,op,ty,pos,af,gd⟩::rest) l ds w:=by subst hl;exact sp h hw
theorem sb {p:Prop} [Decidable p] (hr:Does P l op (.bool (decide p)) w w)
  (h:∀z:Bool,(z=true↔p)→WL P ops Q rest (l.set d (.bool z)) ds w) (hw:Region.wanted ⟨some d,op,ty,pos,af,gd⟩ (yielded ops l.toArray)=true:=by rfl) :
  WL P ops Q (⟨some d,op,ty,pos,af,gd⟩::rest) l ds w:=sv hr (h _ (by simp)) hw
theorem sk (hw:Region.wanted ⟨none,op,ty,pos,af,gd⟩ (yielded ops l.toArray)=true) (hr:Rt P l op w w') (h:WL P ops Q rest l ds w') :
  WL P ops Q (⟨none,op,ty,pos,af,gd⟩::rest) l ds w:=by
 refine sq hw fun K hK=>?_
 unfold Oper.wp
 rw [hr _ (fun _ _=>CF),Oper.upon_skip]
 exact hK _ _ _ h
theorem evb {z b:Bool} (h:evo l x=some (.bool z)) (hz:z=b):evo l x=some (.bool b):=by rw [h,hz]
theorem wgT {j:Nat} {z b:Bool} (h:yielded ops l.toArray j=some z) (hz:z=b):Region.wanted ⟨dst,op,ty,pos,af,some (j,b)⟩ (yielded ops l.toArray)=true:=by
 subst hz;simp [Region.wanted,h]
theorem wgF {j:Nat} {z b:Bool} (h:yielded ops l.toArray j=some z) (hz:z = !b):Region.wanted ⟨dst,op,ty,pos,af,some (j,b)⟩ (yielded ops l.toArray)=false:=by
 subst hz;cases b<;>simp [Region.wanted,h]
theorem Aa (hx:evo l x=some v):Does P l (.move x) v w w:=fun ρ he _ _ _ _ _=>by
 show (Result.ok (Next.value (ρ x)) w)=_
 rw [he _ _ hx]
theorem Ab (hx:evo l x=some v):Does P l (.assign x) v w w:=fun ρ he _ _ _ _ _=>by
 show (Result.ok (Next.value (ρ x)) w)=_
 rw [he _ _ hx]
theorem Az {c a b:Operand} (hc:evo l c=some (.bool true)) (ha:evo l a=some v):Does P l (.pick c a b) v w w:=fun ρ he _ _ _ _ _=>by
 simp [execOp,he _ _ hc,he _ _ ha,asBool]
theorem AE {c a b:Operand} (hc:evo l c=some (.bool false)) (hb:evo l b=some v):Does P l (.pick c a b) v w w:=fun ρ he _ _ _ _ _=>by
 simp [execOp,he _ _ hc,he _ _ hb,asBool]
theorem d_box {cs:List Value} (hx:evo l x=some v) (hc:v.cells=cs.toArray):Does P l (.box t x) (.pointer (some ⟨w.heap.size,0,none⟩)) w (w.alloc (.cells cs.toArray t)):=fun ρ he _ _ _ _ _=>by
 simp [execOp,Instr.box,newVar,newRow,he _ _ hx,hc]
def Ik (P:Program) (t:Nat) (cs:List Value):Prop:=∃i z,P.info? t=some i∧i.zero=some z∧z.cells=cs.toArray
theorem FP {cs:List Value} (h:((P.info? t).bind fun i=>i.zero.map fun z=>z.cells)=some cs.toArray):Ik P t cs:=by
 cases hi:P.info? t with
 | none=>simp [hi] at h
 | some i=>
  cases hz:i.zero with
  | none=>simp [hi,hz] at h
  | some z=>simp [hi,hz] at h;exact ⟨i,z,hi,hz,h⟩
theorem AR {cs:List Value} (hz:Ik P t cs):Does P l (.alloc t) (.pointer (some ⟨w.heap.size,0,none⟩)) w (w.alloc (.cells cs.toArray t)):=fun ρ he _ _ _ _ _=>by
 obtain ⟨i,z,hi,hz,hc⟩:=hz
 simp [execOp,Instr.alloc,zeroValue,typeInfo,hi,hz,newVar,newRow,hc]
theorem AL {parts:List (Nat × Operand)} {vals:List (Nat × Value)} {cells:List Value} (hv:parts.map (fun p=>(evo l p.2).map fun v=>(p.1,v))=vals.map some)
  (h:P.built t vals=some cells.toArray):Does P l (.build t parts.toArray) (.agg cells.toArray) w w:=fun ρ he _ _ _ _ _=>by
 have hp:(parts.toArray.map fun (i,x)=>(i,ρ x)).toList=vals:=by
  simp only [List.map_toArray]
  clear h
  induction parts generalizing vals with
  | nil=>cases vals<;>simp_all
  | cons p ps ih=>
   cases vals with
   | nil=>simp at hv
   | cons q qs=>
    simp only [List.map_cons,List.cons.injEq] at hv ⊢
    refine ⟨?_,ih hv.2⟩
    cases hq:evo l p.2 with
    | none=>simp [hq] at hv
    | some z=>simp [hq] at hv;rw [←hv.1,he _ _ hq]
 unfold execOp
 simp only [Sem.run_bind,run_build w t _ cells.toArray (by rw [hp];exact h),Result.andThen_ok,Sem.run_pure]
def Mu (P:Program) (t:TypeId):Bool:=match P.underlying t with
 | some (.struct _) | some (.array _ _)=>false
 | some _=>true
 | none=>false
theorem PJ (ht:Mu P t=true):(isAgg t).run P w = .ok false w:=by
 unfold Mu at ht
 cases h:P.underlying t with
 | none=>simp [h] at ht
 | some d=>
  unfold isAgg
  rw [Sem.run_bind,run_underlying h w]
  cases d<;>simp_all
theorem Ag {a:Addr} (ht:Mu P t=true) (hx:evo l x=some (.pointer (some a))) (hc:w.cell? a=some v):Does P l (.load t x) v w w:=fun ρ he _ _ _ _ _=>by
 simp [execOp,he _ _ hx,Instr.loadAt,Instr.sureAddr,loadVar,PJ ht,hc]
def agg (P:Program) (t n:Nat):Bool:=(match P.underlying t with
 | some (.struct _) | some (.array _ _)=>true
 | _=>false) && ((P.info? t).map (·.size) == some n)
theorem run_agg {n:Nat} (ht:agg P t n=true):(isAgg t).run P w = .ok true w∧(sizeOf t).run P w = .ok n w:=by
 unfold agg at ht
 simp only [Bool.and_eq_true,beq_iff_eq] at ht
 obtain ⟨h1,h2⟩:=ht
 constructor
 ·cases h:P.underlying t with
  | none=>simp [h] at h1
  | some d=>
   unfold isAgg
   rw [Sem.run_bind,run_underlying h w]
   cases d<;>simp_all
 ·cases h:P.info? t with
  | none=>simp [h] at h2
  | some i=>simp [h] at h2;simp [sizeOf,typeInfo,h,h2]
theorem Kf (b off i:Nat):(⟨b,off,none⟩:Addr).add i=⟨b,off+i,none⟩:=by unfold Addr.add;split<;>simp_all
theorem HJ {b off T n:Nat} {cs vs:List Value} (ht:agg P t n=true) (hx:evo l x=some (.pointer (some ⟨b,off,none⟩))) (hb:Bx w b T cs) (hv:(cs.drop off).take n=vs) (hn:vs.length=n) :
  Does P l (.load t x) (.agg vs.toArray) w w:=fun ρ he _ _ _ _ _=>by
 have hl:(loadCells ⟨b,off,none⟩ vs.length).run P w = .ok vs.toArray w:=
  run_loadCells_list (P:=P) w ⟨b,off,none⟩ vs (fun j u hu=>by
   rw [Kf]
   refine hb.cell ?_
   subst hv
   have hj:j<n:=by
    have:=(List.getElem?_eq_some_iff.1 hu).1
    simp at this;omega
   rw [List.getElem?_take_of_lt hj,List.getElem?_drop] at hu
   exact hu)
 have ⟨h1,h2⟩:=run_agg (w:=w) ht
 subst hn
 simp [execOp,he _ _ hx,Instr.loadAt,Instr.sureAddr,loadVar,h1,h2,hl]
theorem Ak {b T n:Nat} {cs:List Value} (ht:agg P t n=true) (hx:evo l x=some (.pointer (some ⟨b,0,none⟩))) (hb:Bx w b T cs) (hn:cs.length=n) :
  Does P l (.load t x) (.agg cs.toArray) w w:=HJ ht hx hb (by subst hn;simp) hn
def spl:List Value→Nat→List Value→List Value
 | cs,_,[]=>cs
 | cs,i,v::vs=>spl (cs.set i v) (i+1) vs
theorem SP0 (cs:List Value) (i:Nat):spl cs i []=cs:=rfl
theorem SP1 (cs:List Value) (i:Nat) (v:Value) (vs:List Value):spl cs i (v::vs)=spl (cs.set i v) (i+1) vs:=rfl
theorem QA {b T:Nat} (off:Nat):∀(vs:List Value) (i:Nat) (cs:List Value) (w:World),Bx w b T cs→off+i+vs.length≤cs.length→(vs.all (·.oneCell'))=true→
  (storeCells ⟨b,off,none⟩ vs i).run P w = .ok () (w.setRow b (spl cs (off+i) vs).toArray)
 | [],i,cs,w,hb,_,_=>by
  simp only [storeCells,spl]
  show Result.ok () w=_
  congr 1
  have hlt:=hb.lt
  unfold World.setRow
  cases w with
  | mk heap tape drawn os output=>
   congr 1
   apply Array.ext
   ·simp
   ·intro k h1 h2
    simp only [Array.getElem_modify]
    split
    ·rename_i hk;subst hk;have:=(Array.getElem?_eq_some_iff.1 hb).2;simp at this;simp [this]
    ·rfl
 | v::vs,i,cs,w,hb,hl,h1=>by
  simp only [List.length_cons] at hl
  simp only [List.all_cons,Bool.and_eq_true] at h1
  have hi:off+i<cs.length:=by omega
  have hcell:w.cell? ⟨b,off+i,none⟩=some cs[off+i]:=hb.cell (by simp [hi])
  have hst:(store ((⟨b,off,none⟩:Addr).add i) v).run P w = .ok () (w.setRow b (cs.set (off+i) v).toArray):=by
   rw [Kf,run_store P w _ v _ h1.1,hcell]
   simp [hb.free,setCell_eq_setRow w b (off+i) cs.toArray T (0,0) v hb]
  have ih:=QA off vs (i+1) (cs.set (off+i) v) (w.setRow b (cs.set (off+i) v).toArray) hb.set (by simp;omega) h1.2
  simp only [storeCells,Sem.run_bind,hst,Result.andThen_ok,ih,setRow_setRow]
  rfl
def Ep (P:Program) (t n:Nat):Bool:=(P.info? t).map (·.size) == some n
theorem Nb {b off T n:Nat} {cs vs:List Value} (ht:Ep P t n=true) (hx:evo l x=some (.pointer (some ⟨b,off,none⟩))) (hy:evo l y=some v) (hb:Bx w b T cs) (hc:v.cells=vs.toArray) (hn:vs.length=n)
  (ho:(decide (off+n≤cs.length))=true) (h1:(vs.all (·.oneCell'))=true):Rt P l (.store t x y) w (w.setRow b (spl cs off vs).toArray):=fun ρ he _ _ _ _ _=>by
 have hs:(sizeOf t).run P w = .ok n w:=by
  unfold Ep at ht
  cases h:P.info? t with
  | none=>simp [h] at ht
  | some i=>simp [h] at ht;simp [sizeOf,typeInfo,h,ht]
 have hst:=QA (P:=P) (b:=b) (T:=T) off vs 0 cs w hb (by simp at ho;omega) h1
 subst hn
 simp [execOp,he _ _ hx,he _ _ hy,Instr.storeAt,Instr.sureAddr,storeVar,hs,hc,hst]
def fieldAt (P:Program) (s f:Nat):Option Nat:=match P.underlying s with
 | some (.struct fs)=>match fs[f]? with
  | some fd=>(P.info? fd.type).bind fun i=>if i.size=0 then none else some fd.offset
  | none=>none
 | _=>none
theorem Af {s f b off o o':Nat} (hf:fieldAt P s f=some o) (hx:evo l x=some (.pointer (some ⟨b,off,none⟩))) (ho:off+o=o') :
  Does P l (.fieldAddr s x f) (.pointer (some ⟨b,o',none⟩)) w w:=fun ρ he _ _ _ _ _=>by
 subst ho
 unfold fieldAt at hf
 cases h:P.underlying s with
 | none=>simp [h] at hf
 | some d=>
  cases d<;>simp only [h] at hf<;>try (cases hf;done)
  rename_i fs
  cases hfs:fs[f]? with
  | none=>simp [hfs] at hf
  | some fd=>
   simp only [hfs] at hf
   cases hi:P.info? fd.type with
   | none=>simp [hi] at hf
   | some i=>
    simp only [hi,Option.bind_some] at hf
    by_cases hs:i.size=0
    ·simp [hs] at hf
    ·simp only [hs,if_false,Option.some.injEq] at hf
     subst hf
     simp [execOp,Instr.fieldAt,run_underlying h,hfs,he _ _ hx,Instr.sureAddr,fieldPlace,sizeOf,typeInfo,hi,hs,Kf]
theorem AV {k:IntKind} {a b c:Int} {ty2:Nat} (hx:evo l x=some (.int k a)) (hy:evo l y=some (.int k b)) (hc:k.wrap (a+b)=c):Does P l (.binOp .add t x y ty2) (.int k c) w w:=fun ρ he _ _ _ _ _=>by
 subst hc
 simp [execOp,he _ _ hx,he _ _ hy,binOp,eqGuard,Op.intArith,Op.intCmp]
theorem Bt {k:IntKind} {a b c:Int} {ty2:Nat} (hx:evo l x=some (.int k a)) (hy:evo l y=some (.int k b)) (hc:k.wrap (a - b)=c):Does P l (.binOp .sub t x y ty2) (.int k c) w w:=fun ρ he _ _ _ _ _=>by
 subst hc
 simp [execOp,he _ _ hx,he _ _ hy,binOp,eqGuard,Op.intArith,Op.intCmp]
theorem KS {k:IntKind} {a b c:Int} {ty2:Nat} (hx:evo l x=some (.int k a)) (hy:evo l y=some (.int k b)) (hc:k.wrap (a*b)=c):Does P l (.binOp .mul t x y ty2) (.int k c) w w:=fun ρ he _ _ _ _ _=>by
 subst hc
 simp [execOp,he _ _ hx,he _ _ hy,binOp,eqGuard,Op.intArith,Op.intCmp]
theorem Bv {k:IntKind} {a b:Int} {ty2:Nat} (hx:evo l x=some (.int k a)) (hy:evo l y=some (.int k b)):Does P l (.binOp .lss t x y ty2) (.bool (decide (a<b))) w w:=fun ρ he _ _ _ _ _=>by
 simp [execOp,he _ _ hx,he _ _ hy,binOp,eqGuard,Op.intArith,Op.intCmp]
theorem KX {k:IntKind} {a b:Int} {ty2:Nat} (hx:evo l x=some (.int k a)) (hy:evo l y=some (.int k b)):Does P l (.binOp .leq t x y ty2) (.bool (decide (a≤b))) w w:=fun ρ he _ _ _ _ _=>by
 simp [execOp,he _ _ hx,he _ _ hy,binOp,eqGuard,Op.intArith,Op.intCmp]
theorem Eh {k:IntKind} {a b:Int} {ty2:Nat} (hx:evo l x=some (.int k a)) (hy:evo l y=some (.int k b)):Does P l (.binOp .gtr t x y ty2) (.bool (decide (b<a))) w w:=fun ρ he _ _ _ _ _=>by
 simp [execOp,he _ _ hx,he _ _ hy,binOp,eqGuard,Op.intArith,Op.intCmp]
theorem Hb {k:IntKind} {a b:Int} {ty2:Nat} (hx:evo l x=some (.int k a)) (hy:evo l y=some (.int k b)):Does P l (.binOp .geq t x y ty2) (.bool (decide (b≤a))) w w:=fun ρ he _ _ _ _ _=>by
 simp [execOp,he _ _ hx,he _ _ hy,binOp,eqGuard,Op.intArith,Op.intCmp]
theorem Cy {k:IntKind} {a b:Int} {ty2:Nat} (hx:evo l x=some (.int k a)) (hy:evo l y=some (.int k b)):Does P l (.binOp .eql t x y ty2) (.bool (decide (a=b))) w w:=fun ρ he _ _ _ _ _=>by
 simp [execOp,he _ _ hx,he _ _ hy,binOp,eqGuard,Op.intArith,Op.intCmp]
 rfl
theorem Il {k:IntKind} {a b:Int} {ty2:Nat} (hx:evo l x=some (.int k a)) (hy:evo l y=some (.int k b)):Does P l (.binOp .neq t x y ty2) (.bool (decide (¬a=b))) w w:=fun ρ he _ _ _ _ _=>by
 simp [execOp,he _ _ hx,he _ _ hy,binOp,eqGuard,Op.intArith,Op.intCmp]
 rfl
theorem Pg {a b:Bool} {ty2:Nat} (ht:P.underlying t=some .bool) (hx:evo l x=some (.bool a)) (hy:evo l y=some (.bool b)):Does P l (.binOp .eql t x y ty2) (.bool (decide (a=b))) w w:=fun ρ he _ _ _ _ _=>by
 simp [execOp,he _ _ hx,he _ _ hy,binOp,eqGuard,run_equal_bool w t a b ht]
 cases a<;>cases b<;>rfl
theorem PV {a b:Bool} {ty2:Nat} (ht:P.underlying t=some .bool) (hx:evo l x=some (.bool a)) (hy:evo l y=some (.bool b)):Does P l (.binOp .neq t x y ty2) (.bool (decide (¬a=b))) w w:=fun ρ he _ _ _ _ _=>by
 simp [execOp,he _ _ hx,he _ _ hy,binOp,eqGuard,run_equal_bool w t a b ht]
 cases a<;>cases b<;>rfl
theorem FL {z:Bool} (hx:evo l x=some (.bool z)):Does P l (.unOp .not t x) (.bool (decide (¬z=true))) w w:=fun ρ he _ _ _ _ _=>by
 simp [execOp,he _ _ hx,go_sem]
theorem SR {k:IntKind} {a c:Int} (hx:evo l x=some (.int k a)) (hc:k.wrap (-a)=c):Does P l (.unOp .neg t x) (.int k c) w w:=fun ρ he _ _ _ _ _=>by
 subst hc
 simp [execOp,he _ _ hx,go_sem]
theorem AO {k k':IntKind} {a c:Int} {t':Nat} (h1:P.underlying t=some (.int k)) (h2:P.underlying t'=some (.int k')) (hx:evo l x=some (.int k a)) (hc:k'.wrap a=c):Does P l (.convert t t' x) (.int k' c) w w:=fun ρ he _ _ _ _ _=>by
 subst hc
 simp [execOp,he _ _ hx,go_sem,h1,h2]
theorem Np {z b c:Bool} (hx:evo l x=some (.bool z)) (hz:z=b) (hc:(!b)=c):Does P l (.unOp .not t x) (.bool c) w w:=fun ρ he _ _ _ _ _=>by
 subst hc hz
 simp [execOp,he _ _ hx,go_sem]
theorem HI {u:Value} (h:Does P l op u w w) (hv:u=v):Does P l op v w w:=by subst hv;exact h
theorem AD {A:Option Addr} {n c e:Nat} (ht:P.underlying t=some (.slice e)) (hx:evo l x=some (.slice A n c)):Does P l (.call { callee:=.builtin .len,args:=#[x],argTypes:=#[t] }) (.int .i64 n) w w:=fun ρ he _ _ _ _ _=>by
 simp [execOp,he _ _ hx,go_sem,Builtin.len_,run_underlying ht,goInt]
theorem Ai {vs:Array Value} {i:Nat} (hx:evo l x=some (.tuple vs)) (hv:vs[i]? = some v):Does P l (.extract x i) v w w:=fun ρ he _ _ _ _ _=>by
 simp [execOp,he _ _ hx,Instr.extract,hv]
theorem Bz {a:Addr} (hx:evo l x=some (.pointer (some a))):Does P l (.nilCheck x) (.pointer (some a)) w w:=fun ρ he _ _ _ _ _=>by
 simp [execOp,he _ _ hx]
theorem OC {k:IntKind} {a b:Int} {ts:Array Nat} (hx:evo l x=some (.int k a)) (hy:evo l y=some (.int k b)):Does P l (.call { callee:=.builtin .max,args:=#[x,y],argTypes:=ts }) (.int k (max a b)) w w:=fun ρ he _ _ _ _ _=>by
 simp [execOp,he _ _ hx,he _ _ hy,go_sem]
 split<;>omega
theorem PO {k:IntKind} {a b:Int} {ts:Array Nat} (hx:evo l x=some (.int k a)) (hy:evo l y=some (.int k b)):Does P l (.call { callee:=.builtin .min,args:=#[x,y],argTypes:=ts }) (.int k (min a b)) w w:=fun ρ he _ _ _ _ _=>by
 simp [execOp,he _ _ hx,he _ _ hy,go_sem]
 split<;>omega
def PU (P:Program) (t:TypeId):Bool:=match P.underlying t with
 | some (.interface _)=>false
 | some _=>true
 | none=>false
theorem JK (h1:PU P t=true) (hx:evo l x=some v):Does P l (.makeInterface t x) (.iface t v) w w:=fun ρ he _ _ _ _ _=>by
 unfold PU at h1
 cases h:P.underlying t with
 | none=>simp [h] at h1
 | some d=>cases d<;>simp [h] at h1<;>simp [execOp,he _ _ hx,Instr.makeInterface,run_underlying h]
variable {dst:Option Tmp}
theorem Rr {cs:List Value} (hx:evo l x=some v) (hc:v.cells=cs.toArray)
  (h:∀b w',Ext w w'→w.heap.size≤b→Bx w' b t cs→WL P ops Q rest (l.set d (.pointer (some ⟨b,0,none⟩))) ds w') (hw:Region.wanted ⟨some d,.box t x,ty,pos,af,gd⟩ (yielded ops l.toArray)=true:=by rfl) :
  WL P ops Q (⟨some d,.box t x,ty,pos,af,gd⟩::rest) l ds w:=
 sv (d_box hx hc) (h _ _ (Ext.alloc _ _) (Nat.le_refl _) (Bx.new _ _ _)) hw
theorem RZ {cs:List Value} (hz:Ik P t cs)
  (h:∀b w',Ext w w'→w.heap.size≤b→Bx w' b t cs→WL P ops Q rest (l.set d (.pointer (some ⟨b,0,none⟩))) ds w') (hw:Region.wanted ⟨some d,.alloc t,ty,pos,af,gd⟩ (yielded ops l.toArray)=true:=by rfl) :
  WL P ops Q (⟨some d,.alloc t,ty,pos,af,gd⟩::rest) l ds w:=
 sv (AR hz) (h _ _ (Ext.alloc _ _) (Nat.le_refl _) (Bx.new _ _ _)) hw
theorem Ns {b off T n:Nat} {cs vs cs':List Value} (ht:Ep P t n=true) (hx:evo l x=some (.pointer (some ⟨b,off,none⟩))) (hy:evo l y=some v)
  (hb:Bx w b T cs) (hc:v.cells=vs.toArray) (hn:vs.length=n) (ho:(decide (off+n≤cs.length))=true) (h1:(vs.all (·.oneCell'))=true) (hs:spl cs off vs=cs')
  (h:∀w',Upd b w w'→Bx w' b T cs'→WL P ops Q rest l ds w') (hw:Region.wanted ⟨none,.store t x y,ty,pos,af,gd⟩ (yielded ops l.toArray)=true:=by rfl) :
  WL P ops Q (⟨none,.store t x y,ty,pos,af,gd⟩::rest) l ds w:=by
 subst hs
 exact sk hw (Nb ht hx hy hb hc hn ho h1) (h _ (Upd.setRow _ _ _) hb.set)
def Ent (P:Program) (f:FuncId):Prop:=∀args w,(callFunc f args).run P w = .ok (.enter f args) w
theorem ent {f : FuncId} {fn : Func} (hf : P.funcs[f]? = some fn) (hname : (fn.name == "runtime.NumGoroutine") = false) (hb : fn.body.isSome = true) : Ent P f := fun args w => by
 have h1 : fn.name ≠ "runtime.NumGoroutine" := by simpa using hname
 obtain ⟨c,hc⟩:=Option.isSome_iff_exists.1 hb
 simp [callFunc,hf,h1,hc]
theorem MG {ρ:Operand→Value} (he:∀x v,evo l x=some v→ρ x=v):∀ {as:List Operand} {args:List Value},as.map (evo l)=args.map some→as.map ρ=args
 | [],[],_=>rfl
 | [],_::_,h=>by simp at h
 | _::_,[],h=>by simp at h
 | a::as,b::bs,h=>by
  simp only [List.map_cons,List.cons.injEq] at h ⊢
  exact ⟨he _ _ h.1,MG he h.2⟩
def Gj (P:Program) (l:List Value) (o:Op) (f:FuncId) (args:List Value) (w:World):Prop:=
 ∀(ρ:Operand→Value),(∀x v,evo l x=some v→ρ x=v)→∀(dst:Option Tmp) (ty:Nat) (pos:String) (af:Array Edge) (gd:Option (Nat × Bool)),
  (execOp ρ ⟨dst,o,ty,pos,af,gd⟩).run P w = .ok (.enter f args.toArray) w
theorem Ac {f:FuncId} {as:List Operand} {args:List Value} {ts:Array Nat} (hf:Ent P f) (ha:as.map (evo l)=args.map some) :
  Gj P l (.call { callee:=.value (.func f),args:=as.toArray,argTypes:=ts }) f args w:=fun ρ he _ _ _ _ _=>by
 have hm:=MG he ha
 have h0:ρ (.func f) = .func (.func f) #[] #[]:=he _ _ rfl
 simp [execOp,resolve,h0,Deferred.ofValue,invoke,hm,hf args.toArray w]
theorem Ho {f:FuncId} {g:Operand} {first cap:List Value} {as:List Operand} {args:List Value} {ts:Array Nat} (hf:Ent P f) (hg:evo l g=some (.func (.func f) first.toArray cap.toArray)) (ha:as.map (evo l)=args.map some) :
  Gj P l (.call { callee:=.value g,args:=as.toArray,argTypes:=ts }) f (first++args++cap) w:=fun ρ he _ _ _ _ _=>by
 have hm:=MG he ha
 have h0:=he _ _ hg
 simp [execOp,resolve,h0,Deferred.ofValue,invoke,hm,hf (first.toArray++args.toArray++cap.toArray) w]
 have:=hf (first++(args++cap)).toArray w
 simpa using this
section
variable {α:Type} {f:FuncId} {args:List Value} {T:Nat} {rep:World→α→Value→Prop} {a:α}
theorem sc (hd:Gj P l op f args w) (hc:Calls P f args.toArray w (Ret rep w a))
  (h:∀v w',Ext w w'→rep w' a v→WL P ops Q rest (l.set d v) ds w') (hw:Region.wanted ⟨some d,op,ty,pos,af,gd⟩ (yielded ops l.toArray)=true:=by rfl) :
  WL P ops Q (⟨some d,op,ty,pos,af,gd⟩::rest) l ds w:=by
 refine sq hw fun K hK=>?_
 unfold Oper.wp
 rw [hd _ (fun _ _=>CF),Oper.upon_enter]
 refine hc.mono fun e w' he=>?_
 obtain ⟨h1,v,rfl,h2⟩:=he
 simp only [Fy]
 exact hK _ _ _ (h v w' h1 h2)
theorem scO (hd:Gj P l op f args w) (hc:Calls P f args.toArray w (RetE T rep w (.ok a)))
  (h:∀v w',Ext w w'→rep w' a v→WL P ops Q rest (l.set d v) ds w') (hw:Region.wanted ⟨some d,op,ty,pos,af,gd⟩ (yielded ops l.toArray)=true:=by rfl) :
  WL P ops Q (⟨some d,op,ty,pos,af,gd⟩::rest) l ds w:=sc hd hc h hw
theorem scP {n:Int} {dst:Option Tmp} (hd:Gj P l op f args w) (hc:Calls P f args.toArray w (RetE T rep w (.error n)))
  (h:∀w',Ext w w'→Q (.panic [entry T n]) ⟨l.toArray,ds⟩ w') (hw:Region.wanted ⟨dst,op,ty,pos,af,gd⟩ (yielded ops l.toArray)=true:=by rfl) :
  WL P ops Q (⟨dst,op,ty,pos,af,gd⟩::rest) l ds w:=by
 refine sq hw fun K hK=>?_
 unfold Oper.wp
 rw [hd _ (fun _ _=>CF),Oper.upon_enter]
 refine hc.mono fun e w' he=>?_
 obtain ⟨h1,rfl⟩:=he
 exact h w' h1
end
inductive Res (P:Program) (l:List Value) (w:World):List ResultVar→List Value→Prop where
 | nil:Res P l w [] []
 | tmp {t:Nat} {v:Value} {rs:List ResultVar} {vs:List Value} : l[t]? = some v→Res P l w rs vs→Res P l w (.tmp t::rs) (v::vs)
 | cell1 {a t:Nat} {p:Addr} {v:Value} {rs:List ResultVar} {vs:List Value} : l[a]? = some (.pointer (some p))→Mu P t=true→w.cell? p=some v→Res P l w rs vs→Res P l w (.cell a t::rs) (v::vs)
 | cellN {a t b off T n:Nat} {cs us:List Value} {rs:List ResultVar} {vs:List Value} : l[a]? = some (.pointer (some ⟨b,off,none⟩))→agg P t n=true→Bx w b T cs→(cs.drop off).take n=us→us.length=n→Res P l w rs vs→Res P l w (.cell a t::rs) (.agg us.toArray::vs)
def resOne (l:List Value):ResultVar→Sem Value
 | .tmp t=>pure (l.toArray.getD t undef)
 | .cell a t=>do loadVar t (←asAddr (l.toArray.getD a undef))
theorem NP:∀ {rs:List ResultVar} {vs:List Value},Res P l w rs vs→(rs.mapM (resOne l)).run P w = .ok vs w
 | _,_,.nil=>rfl
 | _,_,.tmp (t:=t) (v:=v) h r=>by
  have h':(resOne l (.tmp t)).run P w = .ok v w:=by simp [resOne,h]
  simp only [List.mapM_cons,Sem.run_bind,Sem.run_pure,Result.andThen_ok,NP r,h']
 | _,_,.cell1 (a:=a) (t:=t) (p:=p) (v:=v) h hf hc r=>by
  have h':(resOne l (.cell a t)).run P w = .ok v w:=by simp [resOne,h,asAddr,loadVar,PJ hf,hc]
  simp only [List.mapM_cons,Sem.run_bind,Sem.run_pure,Result.andThen_ok,NP r,h']
 | _,_,.cellN (a:=a) (t:=t) (b:=b) (off:=off) (us:=us) h hf hb hv hn r=>by
  have hd := HJ (P := P) (w := w) (l := l) hf (x := .tmp a) (by simpa [evo] using h) hb hv hn (Act.mk l.toArray []).eval (fun _ _ => CF) none 0 "" #[] none
  have h2:(loadVar t ⟨b,off,none⟩).run P w = .ok (.agg us.toArray) w:=by
   have hx:(Act.mk l.toArray []).eval (.tmp a) = .pointer (some ⟨b,off,none⟩):=CF (by simpa [evo] using h)
   unfold execOp at hd
   simp only [hx,Instr.loadAt,Instr.sureAddr,Sem.run_bind,Sem.run_pure,Result.andThen_ok] at hd
   cases hq:(loadVar t ⟨b,off,none⟩).run P w with
   | ok x w2=>rw [hq] at hd;simp at hd;obtain ⟨rfl,rfl⟩:=hd;rfl
   | halt x w2=>rw [hq] at hd;simp at hd
  have h':(resOne l (.cell a t)).run P w = .ok (.agg us.toArray) w:=by
   have h3:l.toArray.getD a undef = .pointer (some ⟨b,off,none⟩):=by simp [h]
   simp only [resOne,h3,asAddr,Sem.run_bind,Sem.run_pure,Result.andThen_ok,h2]
  simp only [List.mapM_cons,Sem.run_bind,Sem.run_pure,Result.andThen_ok,NP r,h']
def tup:List Value→Value
 | [v]=>v
 | vs=>.tuple vs.toArray
theorem FE {fn:Func} {rs:List ResultVar} {vs:List Value} (hf:fn.results=rs.toArray) (h:Res P l w rs vs):(results fn l.toArray).run P w = .ok (tup vs) w:=by
 have h1:=NP h
 have h2:(rs.toArray.mapM (resOne l)).run P w = .ok vs.toArray w:=by
  rw [List.mapM_toArray,Sem.run_map,h1];rfl
 unfold results
 rw [hf]
 change ((rs.toArray.mapM (resOne l)) >>= _).run P w=_
 rw [Sem.run_bind,h2]
 simp only [Result.andThen_ok,Sem.run_pure]
 congr 1
 match vs with
 | []=>rfl
 | [v]=>rfl
 | v::u::vs=>simp [tup]
theorem fin {fn:Func} {rs:List ResultVar} {vs:List Value} {R:Ending→World→Prop} (hf:fn.results=rs.toArray) (h:Res P l w rs vs) (hR:R (.returned (tup vs)) w):bodyPost P fn R .ret ⟨l.toArray,[]⟩ w:=
 bodyPost_ret (FE hf h) rfl hR
theorem MS {fn:Func} {rs:List ResultVar} {vs:List Value} {R:Ending→World→Prop} (hf:fn.results=rs.toArray) (h:Res P l w rs vs) (hR:R (.returned (tup vs)) w):bodyPost P fn R .normal ⟨l.toArray,[]⟩ w:=
 bodyPost_end (FE hf h) rfl hR
def LW (P:Program) (c:Code) (Q:Exit→Act→World→Prop) (a:Act) (w:World):Prop:=
 ∀(b:Frame) (k:List Item) (cs:List Frame),∃e a' w',Q e a' w'∧Arrives P (lone (b.at a (.code c::.inLoop c::k)) cs w) b k cs e a' w'
theorem GO {c:Code} {a:Act} (h:LW P c Q a w):(Code.loop c).wp P Q a w:=fun b k cs=>
 let ⟨e,a',w',hq,harr⟩:=h b k cs;⟨e,a',w',hq,.of_steps (.one step_loop) harr⟩
theorem AW {c:Code} {a:Act} (h:c.wp P (Exit.then (fun a' w'=>LW P c Q a' w') Q) a w):LW P c Q a w:=by
 intro b k cs
 obtain ⟨e,a₁,w₁,hq,harr⟩:=h b (.inLoop c::k) cs
 cases e with
 | normal=>
  obtain ⟨e₂,a₂,w₂,hq₂,harr₂⟩:=hq b k cs
  exact ⟨e₂,a₂,w₂,hq₂,.of_steps (Steps.trans harr (.one step_inLoop)) harr₂⟩
 | exit id=>exact ⟨_,a₁,w₁,hq,.pass (x:=.inLoop c) rfl (fun _ _=>.inl (by simp)) harr⟩
 | goto l=>exact ⟨_,a₁,w₁,hq,.pass (x:=.inLoop c) rfl (fun _ _=>.inl (by simp)) harr⟩
 | ret=>exact ⟨_,a₁,w₁,hq,.pass (x:=.inLoop c) rfl (fun _ _=>.inl (by simp)) harr⟩
 | panic ch=>exact ⟨_,a₁,w₁,hq,.pass (x:=.inLoop c) rfl (fun _ _=>.inl (by simp)) harr⟩
 | outgrown=>exact ⟨_,a₁,w₁,hq,.pass (x:=.inLoop c) rfl (fun _ _=>.inl (by simp)) harr⟩
theorem AA {A:Option Addr} {n c b off e:Nat} {k:IntKind} {i:Int} (ht:P.underlying t=some (.slice e)) (hs:Ep P e 1=true) (hx:evo l x=some (.slice A n c)) (hy:evo l y=some (.int k i))
  (hA:A=some ⟨b,off,none⟩) (h0:0≤i) (h1:i<n):Does P l (.indexAddr t x y) (.pointer (some ⟨b,off+i.toNat,none⟩)) w w:=fun ρ he _ _ _ _ _=>by
 have hz:(sizeOf e).run P w = .ok 1 w:=by
  unfold Ep at hs
  cases h:P.info? e with
  | none=>simp [h] at hs
  | some i=>simp [h] at hs;simp [sizeOf,typeInfo,h,hs]
 subst hA
 simp [execOp,he _ _ hx,he _ _ hy,Instr.indexAt,run_underlying ht,asIntOf,h0,h1,hz,Kf]
theorem CN {n c b off e o' s:Nat} {k:IntKind} {i:Int} (ht:P.underlying t=some (.slice e)) (hs:Ep P e s=true) (hx:evo l x=some (.slice (some ⟨b,off,none⟩) n c)) (hy:evo l y=some (.int k i))
  (h0:0≤i) (h1:i<n) (ho:off+i.toNat*s=o'):Does P l (.indexAddr t x y) (.pointer (some ⟨b,o',none⟩)) w w:=fun ρ he _ _ _ _ _=>by
 have hz:(sizeOf e).run P w = .ok s w:=by
  unfold Ep at hs
  cases h:P.info? e with
  | none=>simp [h] at hs
  | some i=>simp [h] at hs;simp [sizeOf,typeInfo,h,hs]
 subst ho
 simp [execOp,he _ _ hx,he _ _ hy,Instr.indexAt,run_underlying ht,asIntOf,h0,h1,hz,Kf]
theorem RL.nth {k:IntKind} {t:Nat} {w:World} {A:Option Addr} {c:Nat} {xs:List Int} {i u:Int} (h:RL k t w A c xs) (hn:nth xs i=some u) :
  ∃b off,A=some ⟨b,off,none⟩∧0≤i∧i<xs.length∧w.cell? ⟨b,off+i.toNat,none⟩=some (.int k u):=by
 unfold Go.Proofs.Sbn.nth at hn
 split at hn
 ·rename_i hi
  obtain ⟨b,off,hA,hc⟩:=h.cell (i:=i.toNat) (by omega)
  cases hn
  exact ⟨b,off,hA,hi.1,hi.2,hc⟩
 ·cases hn
theorem PE {n e s:Nat} {parts:List (Nat × Operand)} {vals:List (Nat × Value)} {cs zs:List Value}
  (ht:P.underlying t=some (.slice e)) (hs:Ep P e s=true) (hz:Ik P e zs) (hv:parts.map (fun p=>(evo l p.2).map fun v=>(p.1,v))=vals.map some) (hn:(decide (0<n*s∧n*s≤16777216))=true)
  (hf:Instr.fill (fun i=>some (i*s,s)) ((Array.range (n*s)).map (zs.toArray[· % zs.toArray.size]!)) vals=some cs.toArray) :
  Does P l (.buildSlice t n parts.toArray) (.slice (some ⟨w.heap.size,0,none⟩) n n) w (w.alloc (.cells cs.toArray e)):=by
 intro ρ he _ _ _ _ _
 obtain ⟨i,z,hi,hzz,hzc⟩:=hz
 have hsz:i.size=s:=by unfold Ep at hs;simp [hi] at hs;exact hs
 have hp:(parts.toArray.map fun (i,x)=>(i,ρ x)).toList=vals:=by
  simp only [List.map_toArray]
  clear hf hn
  induction parts generalizing vals with
  | nil=>cases vals<;>simp_all
  | cons p ps ih=>
   cases vals with
   | nil=>simp at hv
   | cons q qs=>
    simp only [List.map_cons,List.cons.injEq] at hv ⊢
    refine ⟨?_,ih hv.2⟩
    cases hq:evo l p.2 with
    | none=>simp [hq] at hv
    | some z=>simp [hq] at hv;rw [←hv.1,he _ _ hq]
 simp only [decide_eq_true_eq] at hn
 have h1:¬(n*s > 2^24):=by omega
 have h2:¬(n*s=0):=by omega
 have h4:(sizeOf e).run P w = .ok s w:=by simp [sizeOf,typeInfo,hi,hsz]
 have h5:(zeroValue e).run P w = .ok z w:=by simp [zeroValue,typeInfo,hi,hzz]
 unfold execOp
 simp only [Instr.buildSlice,Sem.run_bind,run_underlying ht w,Result.andThen_ok,h4,if_neg h1,if_neg h2,h5,Sem.run_pure,hzc,hp,hf,newRow,run_newObj]
 rfl
theorem Dj {n e s:Nat} {parts:List (Nat × Operand)} {vals:List (Nat × Value)} {cs zs:List Value}
  (ht:P.underlying t=some (.slice e)) (hs:Ep P e s=true) (hz:Ik P e zs) (hv:parts.map (fun p=>(evo l p.2).map fun v=>(p.1,v))=vals.map some) (hn:(decide (0<n*s∧n*s≤16777216))=true)
  (hf:Instr.fill (fun i=>some (i*s,s)) ((Array.range (n*s)).map (zs.toArray[· % zs.toArray.size]!)) vals=some cs.toArray)
  (h:∀b w',Ext w w'→w.heap.size≤b→Bx w' b e cs→WL P ops Q rest (l.set d (.slice (some ⟨b,0,none⟩) n n)) ds w') (hw:Region.wanted ⟨some d,.buildSlice t n parts.toArray,ty,pos,af,gd⟩ (yielded ops l.toArray)=true:=by rfl) :
  WL P ops Q (⟨some d,.buildSlice t n parts.toArray,ty,pos,af,gd⟩::rest) l ds w:=
 sv (PE ht hs hz hv hn hf) (h _ _ (Ext.alloc _ _) (Nat.le_refl _) (Bx.new _ _ _)) hw
theorem Ob {dst:Option Tmp} {tv:Nat} {u:Value} (hx:evo l x=some (.iface tv u))
  (h:Q (.panic [{ v:=.iface tv u,recovered:=false }]) ⟨l.toArray,ds⟩ w) (hw:Region.wanted ⟨dst,.panic x,ty,pos,af,gd⟩ (yielded ops l.toArray)=true:=by rfl):WL P ops Q (⟨dst,.panic x,ty,pos,af,gd⟩::rest) l ds w:=by
 refine sq hw fun K hK=>?_
 unfold Oper.wp
 have:(execOp (Act.mk l.toArray ds).eval ⟨dst,.panic x,ty,pos,af,gd⟩).run P w = .halt (.panic (.iface tv u)) w:=by
  have hx':(Act.mk l.toArray ds).eval x = .iface tv u:=CF hx
  generalize (Act.mk l.toArray ds).eval=ρ at hx' ⊢
  simp [execOp,hx',Instr.panic]
 rw [this,Oper.upon_panic]
 exact h
theorem RL.lit1 {k:IntKind} {t:Nat} {w:World} {b n:Nat} (h:Bx w b t [.int k n]) (hn:limbs n=[(n:Int)]):RL k t w (some ⟨b,0,none⟩) 1 (limbs n):=by
 rw [hn]
 refine ⟨Nat.le_refl _,by omega,fun _=>⟨b,0,_,_,rfl,.of h,fun i hi=>?_⟩⟩
 obtain rfl:i=0:=by simpa using hi
 simp
end
end Go.Sb
namespace Go.Sb
set_option linter.unusedSimpArgs false
open Go.RowKit
open Go.Proofs.YtabiobmfelafoaaGreatDoorW.PrintLast
section
variable {P:Program} {ops:Array Oper} {Q:Exit→Act→World→Prop} {w w' w1:World} {l l':List Value} {ds:List Deferred} {tl:List Nat} {fuel:Nat} {lst:Array Bool}
variable {op:Op} {ty d:Nat} {pos:String} {af:Array Edge} {gd:Option (Nat × Bool)} {v:Value} {x y:Operand} {t:Nat} {dst:Option Tmp} {i:Nat}
theorem DT {id:Nat} {a:Act} (tl:List Nat) (n:Nat) (hm:P.follows .mixedOrders=true) (hn:ops.size=n)
  (h:∀w1,Ext w w1→Ext w1 w1→wpAnyLast P .any ops Q (Ext w1) tl n (Array.replicate n false) a w1):(Code.region id ops true).wp P Q a w:=by
 subst hn
 exact wp_region_last_drew (S:=Ext w.drew) hm (Ext.refl _) fun _=>h _ (Ext.drew w) (Ext.refl _)
theorem dnrm (h:wpAnyLast P .any ops Q (Ext w1) tl fuel lst ⟨l'.toArray,ds⟩ w) (hl:l=l':=by simp only [S0,S1];rfl):wpAnyLast P .any ops Q (Ext w1) tl fuel lst ⟨l.toArray,ds⟩ w:=by subst hl;exact h
def tkB (ops:Array Oper) (tl:List Nat) (lst:Array Bool) (i:Nat):Bool:=
 Region.noSelect ops && Region.free .any ops lst i && (Region.ready .any ops lst).contains i && Region.closedB .any ops lst && Region.lastB .any ops lst tl i
theorem dv (i:Nat) (hi:ops[i]? = some ⟨some d,op,ty,pos,af,gd⟩) (hc:tkB ops tl lst i=true)
  (hQ:∀c a w,Q (.panic c) (a.put (some d) v) w→Q (.panic c) a w) (hw:Region.wanted ⟨some d,op,ty,pos,af,gd⟩ (yielded ops l.toArray)=true) (hr:∀w',Ext w1 w'→Does P l op v w' w') (hS:Ext w1 w)
  (h:wpAnyLast P .any ops Q (Ext w1) tl fuel (lst.setIfInBounds i true) ⟨(l.set d v).toArray,ds⟩ w):wpAnyLast P .any ops Q (Ext w1) tl (fuel+1) lst ⟨l.toArray,ds⟩ w:=by
 simp only [tkB,Bool.and_eq_true] at hc
 obtain ⟨⟨⟨⟨h1,h2⟩,h3⟩,h4⟩,h5⟩:=hc
 exact wpAnyLast_take hi h1 h2 h3 h4 h5 hQ (.inl ⟨hw,fun w' hw'=>hr w' hw' _ (fun _ _=>CF) _ _ _ _ _⟩) hS (by rw [Fy];exact h)
def anB (ops:Array Oper) (lst:Array Bool) (i:Nat):Bool:=
 Region.noSelect ops && Region.free .any ops lst i && (Region.ready .any ops lst).contains i
theorem da (i:Nat) (hi:ops[i]? = some ⟨some d,op,ty,pos,af,gd⟩) (hc:anB ops lst i=true)
  (hQ:∀c a w,Q (.panic c) (a.put (some d) v) w→Q (.panic c) a w) (hw:Region.wanted ⟨some d,op,ty,pos,af,gd⟩ (yielded ops l.toArray)=true) (hr:∀w',Does P l op v w' w')
  (h:wpAnyLast P .any ops Q (Ext w1) tl fuel (lst.setIfInBounds i true) ⟨(l.set d v).toArray,ds⟩ w):wpAnyLast P .any ops Q (Ext w1) tl (fuel+1) lst ⟨l.toArray,ds⟩ w:=by
 simp only [anB,Bool.and_eq_true] at hc
 obtain ⟨⟨h1,h2⟩,h3⟩:=hc
 exact Mw hi (Region.noSelect_spec h1) hQ fuel lst _ w (Region.free_spec hi h2) (by simpa using h3) (.inl ⟨hw,fun w'=>hr w' _ (fun _ _=>CF) _ _ _ _ _⟩) (by rw [Fy];exact h)
theorem dab {p:Prop} [Decidable p] (i:Nat) (hi:ops[i]? = some ⟨some d,op,ty,pos,af,gd⟩) (hc:anB ops lst i=true)
  (hQ:∀c a w,Q (.panic c) (a.put (some d) (.bool (decide p))) w→Q (.panic c) a w) (hw:Region.wanted ⟨some d,op,ty,pos,af,gd⟩ (yielded ops l.toArray)=true) (hr:∀w',Does P l op (.bool (decide p)) w' w')
  (h:∀z:Bool,(z=true↔p)→wpAnyLast P .any ops Q (Ext w1) tl fuel (lst.setIfInBounds i true) ⟨(l.set d (.bool z)).toArray,ds⟩ w):wpAnyLast P .any ops Q (Ext w1) tl (fuel+1) lst ⟨l.toArray,ds⟩ w:=
 da i hi hc hQ hw hr (h _ (by simp))
theorem dap (i:Nat) (hi:ops[i]? = some ⟨some d,op,ty,pos,af,gd⟩) (hc:anB ops lst i=true)
  (hQ:∀c a w,Q (.panic c) (a.put (some d) undef) w→Q (.panic c) a w) (hw:Region.wanted ⟨some d,op,ty,pos,af,gd⟩ (yielded ops l.toArray)=false)
  (h:wpAnyLast P .any ops Q (Ext w1) tl fuel (lst.setIfInBounds i true) ⟨(l.set d undef).toArray,ds⟩ w):wpAnyLast P .any ops Q (Ext w1) tl (fuel+1) lst ⟨l.toArray,ds⟩ w:=by
 simp only [anB,Bool.and_eq_true] at hc
 obtain ⟨⟨h1,h2⟩,h3⟩:=hc
 exact Mw hi (Region.noSelect_spec h1) hQ fuel lst _ w (Region.free_spec hi h2) (by simpa using h3) (.inr ⟨hw,rfl⟩) (by rw [Fy];exact h)
theorem dA (i:Nat) (hi:ops[i]? = some ⟨some d,op,ty,pos,af,gd⟩) (hr:∀w',Does P l op v w' w') (h:wpAnyLast P .any ops Q (Ext w1) tl fuel (lst.setIfInBounds i true) ⟨l'.toArray,ds⟩ w)
  (hw:Region.wanted ⟨some d,op,ty,pos,af,gd⟩ (yielded ops l.toArray)=true:=by rfl) (hc:anB ops lst i=true:=by kernel_rfl) (hQ:∀c a w,Q (.panic c) (a.put (some d) v) w→Q (.panic c) a w:=by exact fun _ _ _ h=>h) (hl:l.set d v=l':=by simp only [S0,S1];rfl) :
  wpAnyLast P .any ops Q (Ext w1) tl (fuel+1) lst ⟨l.toArray,ds⟩ w:=by subst hl;exact da i hi hc hQ hw hr h
theorem dV (i:Nat) (hi:ops[i]? = some ⟨some d,op,ty,pos,af,gd⟩) (hr:∀w',Ext w1 w'→Does P l op v w' w') (hS:Ext w1 w) (h:wpAnyLast P .any ops Q (Ext w1) tl fuel (lst.setIfInBounds i true) ⟨l'.toArray,ds⟩ w)
  (hw:Region.wanted ⟨some d,op,ty,pos,af,gd⟩ (yielded ops l.toArray)=true:=by rfl) (hc:tkB ops tl lst i=true:=by kernel_rfl) (hQ:∀c a w,Q (.panic c) (a.put (some d) v) w→Q (.panic c) a w:=by exact fun _ _ _ h=>h) (hl:l.set d v=l':=by simp only [S0,S1];rfl) :
  wpAnyLast P .any ops Q (Ext w1) tl (fuel+1) lst ⟨l.toArray,ds⟩ w:=by subst hl;exact dv i hi hc hQ hw hr hS h
theorem dP (i:Nat) (hi:ops[i]? = some ⟨some d,op,ty,pos,af,gd⟩) (h:wpAnyLast P .any ops Q (Ext w1) tl fuel (lst.setIfInBounds i true) ⟨l'.toArray,ds⟩ w)
  (hw:Region.wanted ⟨some d,op,ty,pos,af,gd⟩ (yielded ops l.toArray)=false:=by rfl) (hc:anB ops lst i=true:=by kernel_rfl) (hQ:∀c a w,Q (.panic c) (a.put (some d) undef) w→Q (.panic c) a w:=by exact fun _ _ _ h=>h) (hl:l.set d undef=l':=by simp only [S0,S1];rfl) :
  wpAnyLast P .any ops Q (Ext w1) tl (fuel+1) lst ⟨l.toArray,ds⟩ w:=by subst hl;exact dap i hi hc hQ hw h
def Oo (ops:Array Oper) (lst:Array Bool) (i:Nat):Bool:=Region.ready .any ops lst == [i]
theorem Rp {K':Act→World→Prop} (i:Nat) (hi:ops[i]? = some ⟨dst,op,ty,pos,af,gd⟩) (hc:Oo ops lst i=true) (hw:Region.wanted ⟨dst,op,ty,pos,af,gd⟩ (yielded ops l.toArray)=true)
  (h:∀K:Act→World→Prop,(∀a' w',(i ∉ tl→Ext w1 w→Ext w1 w')∧wpAnyLast P .any ops Q (Ext w1) tl fuel (lst.setIfInBounds i true) a' w'→K a' w')→Oper.wp P ⟨dst,op,ty,pos,af,gd⟩ ⟨l.toArray,ds⟩ w K Q) :
  wpAnyLast P .any ops Q (Ext w1) tl (fuel+1) lst ⟨l.toArray,ds⟩ w:=by
 have _:=K'
 simp only [Oo,beq_iff_eq] at hc
 refine Jy hc (by simp) fun j hj=>?_
 obtain rfl:j=i:=by simpa using hj
 unfold wpOp
 simp only [hi,hw,if_true]
 exact .inl (h _ fun _ _ hk=>hk)
section
variable {α:Type} {f:FuncId} {args:List Value} {T:Nat} {rep:World→α→Value→Prop} {a:α}
theorem dc (i:Nat) (hi:ops[i]? = some ⟨some d,op,ty,pos,af,gd⟩) (hc:Oo ops lst i=true) (hw:Region.wanted ⟨some d,op,ty,pos,af,gd⟩ (yielded ops l.toArray)=true) (hd:Gj P l op f args w) (hcl:Calls P f args.toArray w (Ret rep w a))
  (h:∀v w',Ext w w'→rep w' a v→wpAnyLast P .any ops Q (Ext w1) tl fuel (lst.setIfInBounds i true) ⟨(l.set d v).toArray,ds⟩ w') :
  wpAnyLast P .any ops Q (Ext w1) tl (fuel+1) lst ⟨l.toArray,ds⟩ w:=by
 refine Rp (K':=fun _ _=>True) i hi hc hw fun K hK=>?_
 unfold Oper.wp
 rw [hd _ (fun _ _=>CF),Oper.upon_enter]
 refine hcl.mono fun e w' he=>?_
 obtain ⟨h1,v,rfl,h2⟩:=he
 simp only [Fy]
 exact hK _ _ ⟨fun _ h0=>h0.trans h1,h v w' h1 h2⟩
theorem dcO (i:Nat) (hi:ops[i]? = some ⟨some d,op,ty,pos,af,gd⟩) (hc:Oo ops lst i=true) (hw:Region.wanted ⟨some d,op,ty,pos,af,gd⟩ (yielded ops l.toArray)=true) (hd:Gj P l op f args w) (hcl:Calls P f args.toArray w (RetE T rep w (.ok a)))
  (h:∀v w',Ext w w'→rep w' a v→wpAnyLast P .any ops Q (Ext w1) tl fuel (lst.setIfInBounds i true) ⟨(l.set d v).toArray,ds⟩ w') :
  wpAnyLast P .any ops Q (Ext w1) tl (fuel+1) lst ⟨l.toArray,ds⟩ w:=dc i hi hc hw hd hcl h
theorem dcP {n:Int} (i:Nat) (hi:ops[i]? = some ⟨dst,op,ty,pos,af,gd⟩) (hc:Oo ops lst i=true) (hw:Region.wanted ⟨dst,op,ty,pos,af,gd⟩ (yielded ops l.toArray)=true) (hd:Gj P l op f args w) (hcl:Calls P f args.toArray w (RetE T rep w (.error n)))
  (h:∀w',Ext w w'→Q (.panic [entry T n]) ⟨l.toArray,ds⟩ w') :
  wpAnyLast P .any ops Q (Ext w1) tl (fuel+1) lst ⟨l.toArray,ds⟩ w:=by
 refine Rp (K':=fun _ _=>True) i hi hc hw fun K hK=>?_
 unfold Oper.wp
 rw [hd _ (fun _ _=>CF),Oper.upon_enter]
 refine hcl.mono fun e w' he=>?_
 obtain ⟨h1,rfl⟩:=he
 exact h w' h1
end
theorem dk {b off T n:Nat} {cs vs cs':List Value} (i:Nat) (hi:ops[i]? = some ⟨none,.store t x y,ty,pos,af,gd⟩) (hc:Oo ops lst i=true) (htl:i ∈ tl) (hw:Region.wanted ⟨none,.store t x y,ty,pos,af,gd⟩ (yielded ops l.toArray)=true) (ht:Ep P t n=true)
  (hx:evo l x=some (.pointer (some ⟨b,off,none⟩))) (hy:evo l y=some v) (hb:Bx w b T cs) (hcs:v.cells=vs.toArray) (hn:vs.length=n) (ho:(decide (off+n≤cs.length))=true) (h1:(vs.all (·.oneCell'))=true) (hs:spl cs off vs=cs')
  (h:∀w',Upd b w w'→Bx w' b T cs'→wpAnyLast P .any ops Q (Ext w1) tl fuel (lst.setIfInBounds i true) ⟨l.toArray,ds⟩ w') :
  wpAnyLast P .any ops Q (Ext w1) tl (fuel+1) lst ⟨l.toArray,ds⟩ w:=by
 subst hs
 refine Rp (K':=fun _ _=>True) i hi hc hw fun K hK=>?_
 unfold Oper.wp
 rw [Nb ht hx hy hb hcs hn ho h1 _ (fun _ _=>CF),Oper.upon_skip]
 exact hK _ _ ⟨fun hn=>absurd htl hn,h _ (Upd.setRow _ _ _) hb.set⟩
theorem Cx (hc:(Region.ready .any ops lst == [])=true) (h:Q .normal ⟨l.toArray,ds⟩ w):wpAnyLast P .any ops Q (Ext w1) tl fuel lst ⟨l.toArray,ds⟩ w:=
 wpAnyLast_done (by simpa using hc) h fuel
end
end Go.Sb
