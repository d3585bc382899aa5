import Derived.Shelf.Spec.TrailingZeros
import Derived.Test.YtabiobmfelafoaaGreatDoorRF
namespace Go.Sb
set_option linter.unusedSimpArgs false
open Go.RowKit
open Go.Proofs.YtabiobmfelafoaaGreatDoorW.PrintLast
structure UpdS (S:List Nat) (w w':World):Prop where
 os:w'.os=w.os
 tape:w'.tape=w.tape
 output:w'.output=w.output
 size:w.heap.size≤w'.heap.size
 block:∀k,k<w.heap.size→k ∉ S→w'.heap[k]? = w.heap[k]?
theorem UpdS.refl (S:List Nat) (w:World):UpdS S w w:=⟨rfl,rfl,rfl,Nat.le_refl _,fun _ _ _=>rfl⟩
theorem UpdS.ext {S:List Nat} {a w w':World} (h:UpdS S a w) (e:Ext w w'):UpdS S a w':=
 ⟨e.os.trans h.os,e.tape.trans h.tape,e.output.trans h.output,Nat.le_trans h.size e.size,fun k hk hn=>(e.block k (Nat.lt_of_lt_of_le hk h.size)).trans (h.block k hk hn)⟩
theorem UpdS.updS {S S':List Nat} {a w w':World} (h:UpdS S a w) (u:UpdS S' w w') (hS:∀b ∈ S',b ∈ S∨a.heap.size≤b):UpdS S a w':=
 ⟨u.os.trans h.os,u.tape.trans h.tape,u.output.trans h.output,Nat.le_trans h.size u.size,fun k hk hn=>(u.block k (Nat.lt_of_lt_of_le hk h.size) (fun hm=>by
  rcases hS k hm with h1 | h1
  ·exact hn h1
  ·omega)).trans (h.block k hk hn)⟩
theorem UpdS.upd {S:List Nat} {a w w':World} {b:Nat} (h:UpdS S a w) (u:Upd b w w') (hb:b ∈ S∨a.heap.size≤b):UpdS S a w':=
 ⟨u.os.trans h.os,u.tape.trans h.tape,u.output.trans h.output,by rw [u.size];exact h.size,fun k hk hn=>(u.block k (fun e=>by
  subst e
  rcases hb with h1 | h1
  ·exact hn h1
  ·omega)).trans (h.block k hk hn)⟩
theorem DS {w w':World} {a:Addr} {v:Value} (h:w.cell? a=some v) (e:Ext w w'):w'.cell? a=some v:=by
 have hb:a.block<w.heap.size:=by
  unfold World.cell? at h
  cases hq:w.heap[a.block]? with
  | none=>simp [hq] at h
  | some o=>exact (Array.getElem?_eq_some_iff.1 hq).1
 unfold World.cell? at h ⊢
 rw [e.block _ hb]
 exact h
def TB (w:World):Prop:=Go.Proofs.TabAt 0 Lib.deBruijn32tab w
theorem TB.ext {w w':World} (e:Ext w w') (h:TB w):TB w':=fun j hj=>DS (h j hj) e
theorem nm0 {b:Nat} : b ∉ ([]:List Nat):=by simp
theorem nmc {b i:Nat} {S:List Nat} (h:b≠i) (k:b ∉ S):b ∉ i::S:=by simp;exact ⟨h,k⟩
theorem al0 {p:Nat→Prop} : ∀b ∈ ([]:List Nat),p b:=by simp
theorem alc {p:Nat→Prop} {i:Nat} {S:List Nat} (h:p i) (k:∀b ∈ S,p b):∀b ∈ i::S,p b:=by simp;exact ⟨h,k⟩
theorem im0 {i:Nat} {S:List Nat} : i ∈ i::S:=by simp
theorem imc {i j:Nat} {S:List Nat} (h:i ∈ S):i ∈ j::S:=by simp [h]
theorem Bx.updS {S:List Nat} {w w':World} {b t:Nat} {cs:List Value} (h:Bx w b t cs) (u:UpdS S w w') (hn:b ∉ S):Bx w' b t cs:=(u.block b h.lt hn).trans h
theorem RL.updS {S:List Nat} {k:IntKind} {t:Nat} {w w':World} {A:Option Addr} {c:Nat} {xs:List Int} (h:RL k t w A c xs) (u:UpdS S w w') (hS:∀b ∈ S,∃t' cs,lay t t'=false∧Bx w b t' cs):RL k t w' A c xs:=by
 obtain ⟨h2,h3,h4⟩:=h
 refine ⟨h2,h3,fun hne=>?_⟩
 obtain ⟨b,off,cs,fr,hA,hb,hc⟩:=h4 hne
 refine ⟨b,off,cs,fr,hA,?_,hc⟩
 refine hb.mv (u.block b hb.lt fun hm=>?_)
 obtain ⟨t',cs',hn,hx⟩:=hS b hm
 exact hb.ne hx hn rfl
theorem Kc {B:Nat} {S:List Nat} {a b c:World} (h:Below B a b) (u:UpdS S b c) (hB:B≤b.heap.size) (hS:∀i ∈ S,B≤i):Below B a c:=
 h.trans ⟨u.os,u.tape,u.output,u.size,fun i hi=>u.block i (by omega) (fun hm=>by have:=hS i hm;omega)⟩
theorem Upd2.updS {b b':Nat} {S:List Nat} {a w w':World} (h:Upd2 b b' a w) (u:UpdS S w w') (hS:∀i ∈ S,a.heap.size≤i∨i=b∨i=b'):Upd2 b b' a w':=
 ⟨u.os.trans h.os,u.tape.trans h.tape,u.output.trans h.output,Nat.le_trans h.size u.size,fun k hk h1 h2=>(u.block k (Nat.lt_of_lt_of_le hk h.size) (fun hm=>by
  rcases hS k hm with h3 | h3 | h3
  ·omega
  ·exact h1 h3
  ·exact h2 h3)).trans (h.block k hk h1 h2)⟩
theorem Rd.updS {n0:Nat} {S:List Nat} {A B C:World} (h:Rd n0 A B) (u:UpdS S B C) (hS:∀i ∈ S,n0≤i∧∃t cs,Bx B i t cs):Rd n0 A C:=
 h.trans ⟨u.os,u.tape,u.output,u.size,fun i o hi ho=>(u.block i (Array.getElem?_eq_some_iff.1 hi).1 (fun hm=>by
  obtain ⟨h1,t,cs,h2⟩:=hS i hm
  unfold Bx at h2
  rw [h2] at hi;cases hi
  rcases ho with ho | ho
  ·omega
  ·cases ho)).trans hi⟩
def Df (W:World) (D:Nat):Prop:=W.heap[D]? = some (.deferred (some []))
theorem Df.ext {W W':World} {D:Nat} (h:Df W D) (e:Ext W W'):Df W' D:=(e.block D (Array.getElem?_eq_some_iff.1 h).1).trans h
theorem Df.upd {W W':World} {D b t:Nat} {cs:List Value} (h:Df W D) (u:Upd b W W') (hx:Bx W b t cs):Df W' D:=(u.block D (fun e=>by
 subst e
 unfold Bx at hx
 unfold Df at h
 rw [hx] at h;cases h)).trans h
theorem Df.updS {S:List Nat} {W W':World} {D:Nat} (h:Df W D) (u:UpdS S W W') (hS:∀b ∈ S,∃t cs,Bx W b t cs):Df W' D:=(u.block D (Array.getElem?_eq_some_iff.1 h).1 (fun hm=>by
 obtain ⟨t,cs,hx⟩:=hS D hm
 unfold Bx at hx
 unfold Df at h
 rw [hx] at h;cases h)).trans h
section
variable {P:Program} {ops:Array Oper} {Q:Exit→Act→World→Prop} {w w' w1:World} {l l':List Value} {ds:List Deferred} {tl:List Nat} {fuel:Nat} {lst:Array Bool}
theorem CG {x:Code} (Φ:List Value→List Value→World→Prop) (h:x.wp P (Exit.then (fun a' w'=>∃l',a'=⟨l'.toArray,ds⟩∧Φ l l' w') Q) ⟨l.toArray,ds⟩ w) (h2:∀l' w',Φ l l' w'→∀l'',l'=l''→Q .normal ⟨l''.toArray,ds⟩ w'):x.wp P Q ⟨l.toArray,ds⟩ w:=
 Code.wp_mono (fun e _ _ hq=>by cases e<;>first | (obtain ⟨l',rfl,hq⟩:=hq;exact h2 _ _ hq _ rfl) | exact hq) h
theorem LL {x:Code} {F:Fence} {n:Nat} (Φ:List Value→List Value→World→Prop) (h:x.wpIn F n P (Exit.then (fun a' w'=>∃l',a'=⟨l'.toArray,ds⟩∧Φ l l' w') Q) ⟨l.toArray,ds⟩ w) (h2:∀l' w',Φ l l' w'→∀l'',l'=l''→Q .normal ⟨l''.toArray,ds⟩ w'):x.wpIn F n P Q ⟨l.toArray,ds⟩ w:=
 Code.wpIn_mono (fun e _ _ hq=>by cases e<;>first | (obtain ⟨l',rfl,hq⟩:=hq;exact h2 _ _ hq _ rfl) | exact hq) h
theorem LS {c:Code} {F:Fence} {n:Nat} {a a':Act} (h:a=a') (hh:c.wpIn F n P Q a' w):c.wpIn F n P Q a w:=by subst h;exact hh
theorem JA {F:Fence} {n:Nat} {fn:Func} {R:Ending→World→Prop} {t t':Array Value} (h:results fn t=results fn t'):∀(ds:List Deferred) (u:FrameMode) (w:World),LeavesInM F n P fn t R ds u w→LeavesInM F n P fn t' R ds u w
 | [],.returning,w,hl=>by
  unfold LeavesInM LeavesIn at hl ⊢
  rw [←h];exact hl
 | [],.panicking _,w,hl=>by
  unfold LeavesInM LeavesIn at hl ⊢
  exact hl
 | [],.run,w,hl=>by
  unfold LeavesInM LeavesIn at hl ⊢
  exact hl
 | d::ds,u,w,hl=>by
  unfold LeavesInM at hl ⊢
  obtain ⟨h1,h2⟩:=hl
  refine ⟨h1,?_⟩
  rcases h2 with ⟨r,w',h2,h3,h4⟩ | ⟨h2,fv,cap,f,args,h3,h4,h5,h6⟩
  ·exact .inl ⟨r,w',h2,h3,JA h ds u w' h4⟩
  ·refine .inr ⟨h2,fv,cap,f,args,h3,h4,h5,h6.mono ?_⟩
   intro e u' w' he
   cases e with
   | returned v=>exact JA h ds _ _ he
   | panicked c=>exact JA h ds _ _ he
   | outgrown=>exact he
theorem dqM {fn:Func} {R:Ending→World→Prop} {rs:List ResultVar} (hf:fn.results=rs.toArray) {d:Nat} (hd:(rs.all fun r=>Oj r != d)=true) {v:Value} {c:List PanicEntry} {a:Act} (h:bodyPostM Fence.wide 1 P fn R (.panic c) (a.put (some d) v) w):bodyPostM Fence.wide 1 P fn R (.panic c) a w:=
 JA (NE hf hd a v) _ _ _ h
theorem actPQ {p q:Nat} {u v:Value} {l l':List Value} {e:Array Value} (he:e = #[u,v]) (hl:(l.set p u).set q v=l'):({ tmps:=(#[p,q].zip e).foldl (fun t (p,v)=>t.setIfInBounds p v) l.toArray,defers:=[] } : Act)=⟨l'.toArray,[]⟩:=by
 subst he hl
 simp
theorem scc {rest:List Oper} {op:Op} {ty d gf t t':Nat} {pos:String} {af:Array Edge} {gd:Option (Nat × Bool)} {f:FuncId} {args:List Value} {cs cs':List Value} (hw:Region.wanted ⟨some d,op,ty,pos,af,gd⟩ (yielded ops l.toArray)=true) (hd:Gj P l op f args w)
  (hc:Calls P f args.toArray w fun e w'=>Ext w w'∧∃b b',w.heap.size≤b∧w.heap.size≤b'∧b≠b'∧Bx w' b t cs∧Bx w' b' t' cs'∧e = .returned (.func (.func gf) #[] #[.pointer (some ⟨b,0,none⟩),.pointer (some ⟨b',0,none⟩)]))
  (h:∀b b' w',Ext w w'→w.heap.size≤b→w.heap.size≤b'→b≠b'→Bx w' b t cs→Bx w' b' t' cs'→WL P ops Q rest (l.set d (.func (.func gf) #[] #[.pointer (some ⟨b,0,none⟩),.pointer (some ⟨b',0,none⟩)])) ds w') :
  WL P ops Q (⟨some d,op,ty,pos,af,gd⟩::rest) l ds w:=by
 refine sq hw fun K hK=>?_
 unfold Oper.wp
 rw [hd _ (fun _ _=>CF),Oper.upon_enter]
 refine hc.mono fun e w' he=>?_
 obtain ⟨h1,b,b',g1,g2,g3,q1,q2,rfl⟩:=he
 simp only [Fy]
 exact hK _ _ _ (h b b' w' h1 g1 g2 g3 q1 q2)
theorem ME {f:FuncId} {cap:List Operand} {vs:List Value} {l:List Value} (hc:cap.map (evo l)=vs.map some):Does P l (.makeFunc (.func f) #[] cap.toArray) (.func (.func f) #[] vs.toArray) w w:=fun ρ he _ _ _ _ _=>by
 have hm:=MG he hc
 simp [execOp,hm,Instr.makeFunc]
theorem QY (lst':Array Bool) (fuel':Nat) (Φ:List Value→World→Prop) (hj:∀l' w',Φ l' w'→wpAnyLast P .any ops Q (Ext w1) tl fuel' lst' ⟨l'.toArray,ds⟩ w')
  (hk:(∀l' w',Φ l' w'→wpAnyLast P .any ops Q (Ext w1) tl fuel' lst' ⟨l'.toArray,ds⟩ w')→wpAnyLast P .any ops Q (Ext w1) tl fuel lst ⟨l.toArray,ds⟩ w):wpAnyLast P .any ops Q (Ext w1) tl fuel lst ⟨l.toArray,ds⟩ w:=hk hj
theorem Kn (lst':Array Bool) (fuel':Nat) (Φ:List Value→List Value→World→Prop)
  (hk:(∀l' w',Φ l l' w'→wpAnyLast P .any ops Q (Ext w1) tl fuel' lst' ⟨l'.toArray,ds⟩ w')→wpAnyLast P .any ops Q (Ext w1) tl fuel lst ⟨l.toArray,ds⟩ w)
  (hj:∀l' w',Φ l l' w'→∀l'',l'=l''→wpAnyLast P .any ops Q (Ext w1) tl fuel' lst' ⟨l''.toArray,ds⟩ w'):wpAnyLast P .any ops Q (Ext w1) tl fuel lst ⟨l.toArray,ds⟩ w:=hk fun l' w' h=>hj l' w' h l' rfl
theorem BH {rest:List Oper} (n:Nat) (Φ:List Value→List Value→World→Prop)
  (hk:(∀l' w',Φ l l' w'→WL P ops Q (ops.toList.drop n) l' ds w')→WL P ops Q rest l ds w)
  (hj:∀l' w',Φ l l' w'→∀l'',l'=l''→WL P ops Q (ops.toList.drop n) l'' ds w'):WL P ops Q rest l ds w:=hk fun l' w' h=>hj l' w' h l' rfl
theorem dlst {lst':Array Bool} (hc:(lst == lst')=true) (h:wpAnyLast P .any ops Q (Ext w1) tl fuel lst' ⟨l.toArray,ds⟩ w):wpAnyLast P .any ops Q (Ext w1) tl fuel lst ⟨l.toArray,ds⟩ w:=by
 rw [eq_of_beq hc];exact h
abbrev Opn (P:Program) (ops:Array Oper) (Q:Exit→Act→World→Prop) (w1:World) (tl:List Nat) (fuel:Nat) (lst:Array Bool) (i:Nat) (l:List Value) (ds:List Deferred) (w:World):Prop:=
 wpOp P ops Q i (fun a' w'=>(i ∉ tl→Ext w1 w→Ext w1 w')∧wpAnyLast P .any ops Q (Ext w1) tl fuel (lst.setIfInBounds i true) a' w') ⟨l.toArray,ds⟩ w
theorem Bc (i:Nat) (hc:(Region.ready .any ops lst == [i])=true) (hi:Opn P ops Q w1 tl fuel lst i l ds w):wpAnyLast P .any ops Q (Ext w1) tl (fuel+1) lst ⟨l.toArray,ds⟩ w:=
 Jy (eq_of_beq hc) (by simp) fun m hm=>by
  obtain rfl:m=i:=by simpa using hm
  exact hi
theorem Ea (i j:Nat) (hc:(Region.ready .any ops lst == [i,j])=true) (hi:Opn P ops Q w1 tl fuel lst i l ds w) (hj:Opn P ops Q w1 tl fuel lst j l ds w):wpAnyLast P .any ops Q (Ext w1) tl (fuel+1) lst ⟨l.toArray,ds⟩ w:=
 Jy (eq_of_beq hc) (by simp) fun m hm=>by
  rcases List.mem_cons.1 hm with rfl | hm
  ·exact hi
  ·obtain rfl:m=j:=by simpa using hm
   exact hj
theorem Oy (i j k:Nat) (hc:(Region.ready .any ops lst == [i,j,k])=true) (hi:Opn P ops Q w1 tl fuel lst i l ds w) (hj:Opn P ops Q w1 tl fuel lst j l ds w) (hk:Opn P ops Q w1 tl fuel lst k l ds w):wpAnyLast P .any ops Q (Ext w1) tl (fuel+1) lst ⟨l.toArray,ds⟩ w:=
 Jy (eq_of_beq hc) (by simp) fun m hm=>by
  rcases List.mem_cons.1 hm with rfl | hm
  ·exact hi
  rcases List.mem_cons.1 hm with rfl | hm
  ·exact hj
  ·obtain rfl:m=k:=by simpa using hm
   exact hk
variable {op:Op} {ty d:Nat} {pos:String} {af:Array Edge} {gd:Option (Nat × Bool)} {v:Value} {t:Nat}
theorem opC {α:Type} {f:FuncId} {args:List Value} {rep:World→α→Value→Prop} {a:α} (i:Nat) (hi:ops[i]? = some ⟨some d,op,ty,pos,af,gd⟩) (hw:Region.wanted ⟨some d,op,ty,pos,af,gd⟩ (yielded ops l.toArray)=true) (hd:Gj P l op f args w) (hcl:Calls P f args.toArray w (Ret rep w a))
  (h:∀v w',Ext w w'→rep w' a v→wpAnyLast P .any ops Q (Ext w1) tl fuel (lst.setIfInBounds i true) ⟨(l.set d v).toArray,ds⟩ w'):Opn P ops Q w1 tl fuel lst i l ds w:=by
 unfold Opn wpOp
 simp only [hi,hw,if_true]
 refine .inl ?_
 unfold Oper.wp
 rw [hd _ (fun _ _=>CF),Oper.upon_enter]
 refine hcl.mono fun e w2 he=>?_
 obtain ⟨hE,v,rfl,hv⟩:=he
 simp only [Fy]
 exact ⟨fun _ h0=>h0.trans hE,h _ _ hE hv⟩
theorem opA {cs:List Value} (i:Nat) (hi:ops[i]? = some ⟨some d,op,ty,pos,af,gd⟩) (hw:Region.wanted ⟨some d,op,ty,pos,af,gd⟩ (yielded ops l.toArray)=true) (hd:Does P l op (.pointer (some ⟨w.heap.size,0,none⟩)) w (w.alloc (.cells cs.toArray t)))
  (h:∀b w',Ext w w'→w.heap.size≤b→Bx w' b t cs→wpAnyLast P .any ops Q (Ext w1) tl fuel (lst.setIfInBounds i true) ⟨(l.set d (.pointer (some ⟨b,0,none⟩))).toArray,ds⟩ w'):Opn P ops Q w1 tl fuel lst i l ds w:=by
 unfold Opn wpOp
 simp only [hi,hw,if_true]
 refine .inl ?_
 unfold Oper.wp
 rw [hd _ (fun _ _=>CF),Oper.upon_value,Fy]
 exact ⟨fun _ h0=>h0.trans (Ext.alloc _ _),h _ _ (Ext.alloc _ _) (Nat.le_refl _) (Bx.new _ _ _)⟩
theorem opV (i:Nat) (hi:ops[i]? = some ⟨some d,op,ty,pos,af,gd⟩) (hw:Region.wanted ⟨some d,op,ty,pos,af,gd⟩ (yielded ops l.toArray)=true) (hd:Does P l op v w w)
  (h:wpAnyLast P .any ops Q (Ext w1) tl fuel (lst.setIfInBounds i true) ⟨(l.set d v).toArray,ds⟩ w):Opn P ops Q w1 tl fuel lst i l ds w:=by
 unfold Opn wpOp
 simp only [hi,hw,if_true]
 refine .inl ?_
 unfold Oper.wp
 rw [hd _ (fun _ _=>CF),Oper.upon_value,Fy]
 exact ⟨fun _ h0=>h0,h⟩
theorem opK {b off T n:Nat} {cs vs cs':List Value} {x y:Operand} (i:Nat) (hi:ops[i]? = some ⟨none,.store t x y,ty,pos,af,gd⟩) (htl:i ∈ tl) (hw:Region.wanted ⟨none,.store t x y,ty,pos,af,gd⟩ (yielded ops l.toArray)=true) (ht:Ep P t n=true)
  (hx:evo l x=some (.pointer (some ⟨b,off,none⟩))) (hy:evo l y=some v) (hb:Bx w b T cs) (hcs:v.cells=vs.toArray) (hn:vs.length=n) (ho:(decide (off+n≤cs.length))=true) (h1:(vs.all (·.oneCell'))=true) (hs:spl cs off vs=cs')
  (h:∀w',Upd b w w'→Bx w' b T cs'→wpAnyLast P .any ops Q (Ext w1) tl fuel (lst.setIfInBounds i true) ⟨l.toArray,ds⟩ w'):Opn P ops Q w1 tl fuel lst i l ds w:=by
 subst hs
 unfold Opn wpOp
 simp only [hi,hw,if_true]
 refine .inl ?_
 unfold Oper.wp
 rw [Nb ht hx hy hb hcs hn ho h1 _ (fun _ _=>CF),Oper.upon_skip]
 exact ⟨fun hn=>absurd htl hn,h _ (Upd.setRow _ _ _) hb.set⟩
theorem opB {n:Nat} {cs:List Value} (i:Nat) (hi:ops[i]? = some ⟨some d,op,ty,pos,af,gd⟩) (hw:Region.wanted ⟨some d,op,ty,pos,af,gd⟩ (yielded ops l.toArray)=true) (hd:Does P l op (.slice (some ⟨w.heap.size,0,none⟩) n n) w (w.alloc (.cells cs.toArray t)))
  (h:∀b w',Ext w w'→w.heap.size≤b→Bx w' b t cs→wpAnyLast P .any ops Q (Ext w1) tl fuel (lst.setIfInBounds i true) ⟨(l.set d (.slice (some ⟨b,0,none⟩) n n)).toArray,ds⟩ w'):Opn P ops Q w1 tl fuel lst i l ds w:=by
 unfold Opn wpOp
 simp only [hi,hw,if_true]
 refine .inl ?_
 unfold Oper.wp
 rw [hd _ (fun _ _=>CF),Oper.upon_value,Fy]
 exact ⟨fun _ h0=>h0.trans (Ext.alloc _ _),h _ _ (Ext.alloc _ _) (Nat.le_refl _) (Bx.new _ _ _)⟩
theorem Ji {k:IntKind} {a b c:Int} {y x:Operand} {ty2:Nat} (hb:(decide (b≠0))=true) (hx:evo l x=some (.int k a)) (hy:evo l y=some (.int k b)) (hc:k.wrap (a.tdiv b)=c):Does P l (.binOp .quo t x y ty2) (.int k c) w w:=fun ρ he _ _ _ _ _=>by
 subst hc
 simp only [decide_eq_true_eq] at hb
 simp [execOp,he _ _ hx,he _ _ hy,binOp,eqGuard,Op.intArith,Op.intCmp,Op.intDiv,hb]
theorem LD {k:IntKind} {a b c:Int} {y x:Operand} {ty2:Nat} (hb:(decide (b≠0))=true) (hx:evo l x=some (.int k a)) (hy:evo l y=some (.int k b)) (hc:a.tmod b=c):Does P l (.binOp .rem t x y ty2) (.int k c) w w:=fun ρ he _ _ _ _ _=>by
 subst hc
 simp only [decide_eq_true_eq] at hb
 simp [execOp,he _ _ hx,he _ _ hy,binOp,eqGuard,Op.intArith,Op.intCmp,Op.intDiv,hb]
theorem and1_toNat {n:Nat} (hn:1≤n) (a:Int):(BitVec.ofInt n a &&& BitVec.ofInt n 1).toNat=(a%2).toNat:=by
 have h1:(BitVec.ofInt n 1).toNat=1:=by
  rw [BitVec.toNat_ofInt]
  have:(1:Int)<2^n:=by
   have h:(2:Int)^1≤2^n:=by exact_mod_cast Nat.pow_le_pow_right (by omega) hn
   omega
  have h2:(1:Int)%((2^n:Nat):Int)=1:=Int.emod_eq_of_lt (by omega) (by simpa using this)
  rw [h2];rfl
 rw [BitVec.toNat_and,h1,Nat.and_one_is_mod,BitVec.toNat_ofInt]
 obtain ⟨m,rfl⟩:∃m,n=m+1:=⟨n - 1,by omega⟩
 have h3:(a%((2^(m+1):Nat):Int))%2=a%2:=Int.emod_emod_of_dvd a (by rw [Nat.pow_succ];exact ⟨(2^m:Nat),by push_cast;rw [Int.mul_comm]⟩)
 have h4:0≤a%((2^(m+1):Nat):Int):=Int.emod_nonneg _ (by have:0<2^(m+1):=Nat.pos_of_ne_zero (by simp);omega)
 omega
theorem Qf {k:IntKind} {a:Int} {y x:Operand} {ty2:Nat} (hx:evo l x=some (.int k a)) (hy:evo l y=some (.int k 1)):Does P l (.binOp .and t x y ty2) (.int k (a%2)) w w:=fun ρ he _ _ _ _ _=>by
 have h:=and1_toNat (n:=k.bits) (by cases k<;>decide) a
 have h2:k.wrap ((a%2).toNat:Int)=a%2:=by
  have:a%2=0∨a%2=1:=by omega
  rcases this with h | h<;>rw [h]<;>cases k<;>decide
 have hb:(Op.intBits .and k a 1:Sem Value)=pure (.int k (a%2)):=by
  unfold Op.intBits
  simp only [h,h2]
 simp [execOp,he _ _ hx,he _ _ hy,binOp,eqGuard,Op.intArith,Op.intCmp,hb]
theorem SH {b off:Nat} {e ty2:Nat} {x:Operand} (ht:P.underlying t=some (.pointer e)) (hx:evo l x=some (.pointer (some ⟨b,off,none⟩))):Does P l (.binOp .eql t x (.const (.pointer none)) ty2) (.bool false) w w:=fun ρ he _ _ _ _ _=>by
 have h1:ρ (.const (.pointer none)) = .pointer none:=he _ _ rfl
 have h3:∀d,(Op.equalIn (d+1) t (.pointer (some ⟨b,off,none⟩)) (.pointer none)).run P w = .ok false w:=fun d=>by simp [Op.equalIn,run_underlying ht]
 have h2:(Op.equal t (.pointer (some ⟨b,off,none⟩)) (.pointer none)).run P w = .ok false w:=h3 9999
 simp [execOp,he _ _ hx,h1,eqGuard,binOp,h2]
theorem Rw {e ty2:Nat} {x:Operand} (ht:P.underlying t=some (.pointer e)) (hx:evo l x=some (.pointer none)):Does P l (.binOp .eql t x (.const (.pointer none)) ty2) (.bool true) w w:=fun ρ he _ _ _ _ _=>by
 have h1:ρ (.const (.pointer none)) = .pointer none:=he _ _ rfl
 have h3:∀d,(Op.equalIn (d+1) t (.pointer none) (.pointer none)).run P w = .ok true w:=fun d=>by simp [Op.equalIn,run_underlying ht]
 have h2:(Op.equal t (.pointer none) (.pointer none)).run P w = .ok true w:=h3 9999
 simp [execOp,he _ _ hx,h1,eqGuard,binOp,h2]
end
end Go.Sb
namespace Go.Sb
set_option linter.unusedSimpArgs false
open Go.RowKit
section
variable {P:Program} {w:World} {l:List Value} {ty ty2:Nat} {pos:String} {af:Array Edge} {fn:Func} {R:Ending→World→Prop}
def RE (P:Program) (f:FuncId):Prop:=∀(b:Nat) (w:World),
 CallsD P f #[.pointer (some ⟨b,0,none⟩)] .returning w fun e u' w'=>e = .returned (.tuple #[])∧u' = .returning∧w'=w
theorem NU {f:FuncId} {b:Nat} {rs:List ResultVar} {vs:List Value} (hi:RE P f) (he:Ent P f) (hf:fn.results=rs.toArray) (h:Res P l w rs vs) (hR:R (.returned (tup vs)) w) :
  bodyPostD P fn R .ret ⟨l.toArray,[{ target:=.fn (.func f) #[],args:=#[.pointer (some ⟨b,0,none⟩)] }]⟩ w:=by
 show Leaves P fn l.toArray R _ .returning w
 refine leaves_cons (by simp) (OQ he _) ?_
 refine (hi b w).mono ?_
 rintro e u' w' ⟨rfl,rfl,rfl⟩
 exact ⟨_,FE hf h,hR⟩
theorem rcvI1 {id:Nat} {d:Nat} {c₀:Frame} {cs:List Frame} {QS:Exit→Act→List Frame→World→Prop} (hu:c₀.mode = .returning) (hd:(l[d]?).isSome=true)
  (h:QS .normal ⟨(l.set d .nilIface).toArray,[]⟩ (c₀::cs) w) :
  (Code.region id #[⟨some d,.call { callee:=.builtin .recover,args:=#[],argTypes:=#[] },ty,pos,af,none⟩] false).wpS P QS ⟨l.toArray,[]⟩ (c₀::cs) w:=by
 apply wpS_region
 have hl:d<l.length:=by
  cases hq:l[d]? with
  | none=>simp [hq] at hd
  | some v=>exact (List.getElem?_eq_some_iff.1 hq).1
 simp [wpOpsS,go_sem,recoverD,hu,Region.wanted,hl]
 simpa using h
theorem OI {t:Nat} {x:Operand} {ms:Array (String × Nat)} (ht:P.underlying t=some (.interface ms)) (hx:evo l x=some .nilIface) :
  Does P l (.binOp .eql t x (.const .nilIface) ty2) (.bool true) w w:=fun ρ he _ _ _ _ _=>by
 have h1:ρ (.const .nilIface) = .nilIface:=he _ _ rfl
 have h3:∀d,(Op.equalIn (d+1) t .nilIface .nilIface).run P w = .ok true w:=fun d=>by simp [Op.equalIn,run_underlying ht]
 have h2:(Op.equal t .nilIface .nilIface).run P w = .ok true w:=h3 9999
 simp [execOp,he _ _ hx,h1,eqGuard,binOp,h2]
end
end Go.Sb
namespace Go.Sb
open Go.RowKit Go.Proofs.Sbn
section
variable {P:Program} {w:World} {l:List Value}
theorem d_eqlNil {t t' ty2:Nat} {x:Operand} {v:Value} {ms:Array (String × Nat)} (ht:P.underlying t=some (.interface ms)) (hx:evo l x=some (.iface t' v)) :
  Does P l (.binOp .eql t x (.const .nilIface) ty2) (.bool false) w w:=fun ρ he _ _ _ _ _=>by
 have h1:ρ (.const .nilIface) = .nilIface:=he _ _ rfl
 have h2:(Op.equal t (.iface t' v) .nilIface).run P w = .ok false w:=Ol ht 9999
 simp [execOp,he _ _ hx,h1,eqGuard,binOp,h2]
theorem finIr {fn:Func} {c₀:Frame} {cs:List Frame} {R:Ending→FrameMode→World→Prop} (hu:c₀.mode = .returning) (hf:fn.results = #[]) (hR:R (.returned (.tuple #[])) .returning w):bodyPostS P fn c₀ cs R .ret ⟨l.toArray,[]⟩ (c₀::cs) w:=by
 have h:bodyPostS P fn c₀ cs R .normal ⟨l.toArray,[]⟩ (c₀::cs) w:=Rc hu hf hR
 unfold bodyPostS at h ⊢
 exact h
end
end Go.Sb
