import Derived.Test.YtabiobmfelafoaaGreatDoorRow
namespace Go.Sb
set_option linter.unusedSimpArgs false
open Go.RowKit Go.Proofs.Sbn
open Go.Proofs.YtabiobmfelafoaaGreatDoorW.PrintLast
section
variable {P:Program} {ops:Array Oper} {Q:Exit→Act→World→Prop} {w w' w1 w2:World} {rest:List Oper} {l l':List Value} {ds:List Deferred}
variable {op op2 op3:Op} {ty ty2 ty3 d d2 d3:Nat} {pos pos2 pos3:String} {af af2 af3:Array Edge} {gd gd2 gd3:Option (Nat × Bool)} {v v2 v3:Value} {x y:Operand} {t:Nat} {tl:List Nat} {fuel:Nat} {lst:Array Bool}
theorem sV2 (hr:Does P l op v w w1) (hr2:Does P (l.set d v) op2 v2 w1 w') (h:WL P ops Q rest l' ds w')
  (hw:Region.wanted ⟨some d,op,ty,pos,af,gd⟩ (yielded ops l.toArray)=true:=by rfl) (hw2:Region.wanted ⟨some d2,op2,ty2,pos2,af2,gd2⟩ (yielded ops (l.set d v).toArray)=true:=by rfl) (hl:(l.set d v).set d2 v2=l':=by simp only [S0,S1];rfl) :
  WL P ops Q (⟨some d,op,ty,pos,af,gd⟩::⟨some d2,op2,ty2,pos2,af2,gd2⟩::rest) l ds w:=by subst hl;exact sv hr (sv hr2 h hw2) hw
theorem sV3 (hr:Does P l op v w w1) (hr2:Does P (l.set d v) op2 v2 w1 w2) (hr3:Does P ((l.set d v).set d2 v2) op3 v3 w2 w') (h:WL P ops Q rest l' ds w')
  (hw:Region.wanted ⟨some d,op,ty,pos,af,gd⟩ (yielded ops l.toArray)=true:=by rfl) (hw2:Region.wanted ⟨some d2,op2,ty2,pos2,af2,gd2⟩ (yielded ops (l.set d v).toArray)=true:=by rfl) (hw3:Region.wanted ⟨some d3,op3,ty3,pos3,af3,gd3⟩ (yielded ops ((l.set d v).set d2 v2).toArray)=true:=by rfl) (hl:((l.set d v).set d2 v2).set d3 v3=l':=by simp only [S0,S1];rfl) :
  WL P ops Q (⟨some d,op,ty,pos,af,gd⟩::⟨some d2,op2,ty2,pos2,af2,gd2⟩::⟨some d3,op3,ty3,pos3,af3,gd3⟩::rest) l ds w:=by subst hl;exact sv hr (sv hr2 (sv hr3 h hw3) hw2) hw
theorem ss {b off T n:Nat} {cs vs cs':List Value} (ht:Ex P t n=true) (hb:Bx w b T cs) (h:∀w',Upd b w w'→Bx w' b T cs'→WL P ops Q rest l ds w')
  (hx:evo l x=some (.pointer (some ⟨b,off,none⟩)):=by rfl) (hy:evo l y=some v:=by rfl) (hc:v.cells=vs.toArray:=by rfl) (hn:vs.length=n:=by rfl) (ho:(decide (off+n≤cs.length))=true:=by rfl) (h1:(vs.all (·.oneCell'))=true:=by rfl)
  (hs:spl cs off vs=cs':=by simp only [SP0,SP1,S0,S1,Nat.reduceAdd];rfl) (hw:Region.wanted ⟨none,.store t x y,ty,pos,af,gd⟩ (yielded ops l.toArray)=true:=by rfl) :
  WL P ops Q (⟨none,.store t x y,ty,pos,af,gd⟩::rest) l ds w:=MT ht hx hy hb hc hn ho h1 hs h hw
theorem dkk {b off T n:Nat} {cs vs cs':List Value} (i:Nat) (ht:Ex P t n=true) (hb:Bx w b T cs)
  (h:∀w',Upd b w w'→Bx w' b T cs'→wpAnyLast P .any ops Q (Ext w1) tl fuel (lst.setIfInBounds i true) ⟨l.toArray,ds⟩ w')
  (hi:ops[i]? = some ⟨none,.store t x y,ty,pos,af,gd⟩:=by rfl) (hc:NL ops lst i=true:=by kernel_rfl) (htl:i ∈ tl:=by decide) (hw:Region.wanted ⟨none,.store t x y,ty,pos,af,gd⟩ (yielded ops l.toArray)=true:=by rfl)
  (hx:evo l x=some (.pointer (some ⟨b,off,none⟩)):=by rfl) (hy:evo l y=some v:=by rfl) (hcs:v.cells=vs.toArray:=by rfl) (hn:vs.length=n:=by rfl) (ho:(decide (off+n≤cs.length))=true:=by rfl) (h1:(vs.all (·.oneCell'))=true:=by rfl) (hs:spl cs off vs=cs':=by simp only [SP0,SP1,S0,S1,Nat.reduceAdd];rfl) :
  wpAnyLast P .any ops Q (Ext w1) tl (fuel+1) lst ⟨l.toArray,ds⟩ w:=dk i hi hc htl hw ht hx hy hb hcs hn ho h1 hs h
theorem wh {C:Act→World→Prop} (h:∀a w,C a w→Q .normal a w) (x:C ⟨l.toArray,ds⟩ w):WL P ops Q [] l ds w:=AK (h _ _ x)
theorem zi {α:Type} {p:Prop} [Decidable p] {a b:α} {r:α} {z:Bool} (hz:z=true↔p) (h:(if p then a else b)=r):(z=true∧p∧a=r)∨(z=false∧¬p∧b=r):=by
 rcases Bool.eq_false_or_eq_true z with e | e
 ·exact .inl ⟨e,zP hz e,ifP (zP hz e) h⟩
 ·exact .inr ⟨e,zN hz e,ifN (zN hz e) h⟩
theorem zb {α:Type} {a b:α} {r:α} {z:Bool} (h:(if z=true then a else b)=r):(z=true∧a=r)∨(z=false∧b=r):=by
 rcases Bool.eq_false_or_eq_true z with e | e
 ·exact .inl ⟨e,ifP e h⟩
 ·exact .inr ⟨e,ifN (bF e) h⟩
variable {fid:FuncId} {args:List Value} {α β:Type} {rep:World→α→Value→Prop} {o:Option α} {g:α→Option β} {r0:β}
theorem scr {F:α→Value} {L':α→List Value} (hf:o.bind g=some r0) (hd:FV P l op fid args w) (hc:∀a,o=some a→Calls P fid args.toArray w (Ret rep w a))
  (h:∀a,g a=some r0→∀w',Ext w w'→WL P ops Q rest (L' a) ds w') (hw:Region.wanted ⟨some d,op,ty,pos,af,gd⟩ (yielded ops l.toArray)=true:=by rfl)
  (hrep:∀a w' v,rep w' a v→v=F a:=by exact fun _ _ _ h=>h) (hl:∀a,l.set d (F a)=L' a:=by intro a;simp only [S0,S1];rfl) :
  WL P ops Q (⟨some d,op,ty,pos,af,gd⟩::rest) l ds w:=by
 obtain ⟨a,ha,hg⟩:=Ac hf
 refine sc hd (hc a ha) (fun v w' e hv=>?_) hw
 obtain rfl:=hrep a w' v hv
 rw [hl a]
 exact h a hg w' e
theorem scn {F:α→Option Addr→Nat→Value} {N:α→World→Option Addr→Nat→Prop} {L':α→Option Addr→Nat→List Value} (hf:o.bind g=some r0) (hd:FV P l op fid args w) (hc:∀a,o=some a→Calls P fid args.toArray w (Ret rep w a))
  (h:∀a,g a=some r0→∀w' A c,Ext w w'→N a w' A c→WL P ops Q rest (L' a A c) ds w') (hw:Region.wanted ⟨some d,op,ty,pos,af,gd⟩ (yielded ops l.toArray)=true:=by rfl)
  (hrep:∀a w' v,rep w' a v→∃A c,v=F a A c∧N a w' A c:=by exact fun _ _ _ h=>h) (hl:∀a A c,l.set d (F a A c)=L' a A c:=by intro a A c;simp only [S0,S1];rfl) :
  WL P ops Q (⟨some d,op,ty,pos,af,gd⟩::rest) l ds w:=by
 obtain ⟨a,ha,hg⟩:=Ac hf
 refine sc hd (hc a ha) (fun v w' e hv=>?_) hw
 obtain ⟨A,c,rfl,n⟩:=hrep a w' v hv
 rw [hl a A c]
 exact h a hg w' A c e n
theorem dcr {F:α→Value} {L':α→List Value} (hf:o.bind g=some r0) (i:Nat) (hi:ops[i]? = some ⟨some d,op,ty,pos,af,gd⟩) (hw:Region.wanted ⟨some d,op,ty,pos,af,gd⟩ (yielded ops l.toArray)=true) (hd:FV P l op fid args w) (hc:∀a,o=some a→Calls P fid args.toArray w (Ret rep w a))
  (h:∀a,g a=some r0→∀w',Ext w w'→wpAnyLast P .any ops Q (Ext w1) tl fuel (lst.setIfInBounds i true) ⟨(L' a).toArray,ds⟩ w') (hcc:NL ops lst i=true:=by kernel_rfl)
  (hrep:∀a w' v,rep w' a v→v=F a:=by exact fun _ _ _ h=>h) (hl:∀a,l.set d (F a)=L' a:=by intro a;simp only [S0,S1];rfl) :
  wpAnyLast P .any ops Q (Ext w1) tl (fuel+1) lst ⟨l.toArray,ds⟩ w:=by
 obtain ⟨a,ha,hg⟩:=Ac hf
 refine dc i hi hcc hw hd (hc a ha) (fun v w' e hv=>?_)
 obtain rfl:=hrep a w' v hv
 rw [hl a]
 exact h a hg w' e
theorem dcn {F:α→Option Addr→Nat→Value} {N:α→World→Option Addr→Nat→Prop} {L':α→Option Addr→Nat→List Value} (hf:o.bind g=some r0) (i:Nat) (hi:ops[i]? = some ⟨some d,op,ty,pos,af,gd⟩) (hw:Region.wanted ⟨some d,op,ty,pos,af,gd⟩ (yielded ops l.toArray)=true) (hd:FV P l op fid args w) (hc:∀a,o=some a→Calls P fid args.toArray w (Ret rep w a))
  (h:∀a,g a=some r0→∀w' A c,Ext w w'→N a w' A c→wpAnyLast P .any ops Q (Ext w1) tl fuel (lst.setIfInBounds i true) ⟨(L' a A c).toArray,ds⟩ w') (hcc:NL ops lst i=true:=by kernel_rfl)
  (hrep:∀a w' v,rep w' a v→∃A c,v=F a A c∧N a w' A c:=by exact fun _ _ _ h=>h) (hl:∀a A c,l.set d (F a A c)=L' a A c:=by intro a A c;simp only [S0,S1];rfl) :
  wpAnyLast P .any ops Q (Ext w1) tl (fuel+1) lst ⟨l.toArray,ds⟩ w:=by
 obtain ⟨a,ha,hg⟩:=Ac hf
 refine dc i hi hcc hw hd (hc a ha) (fun v w' e hv=>?_)
 obtain ⟨A,c,rfl,n⟩:=hrep a w' v hv
 rw [hl a A c]
 exact h a hg w' A c e n
theorem sQ {j:Nat} {z b:Bool} (hy:yielded ops l.toArray j=some z) (hz:z = !b) (h:WL P ops Q rest l' ds w) (hl:l.set d undef=l':=by simp only [S0,S1];rfl) :
  WL P ops Q (⟨some d,op,ty,pos,af,some (j,b)⟩::rest) l ds w:=by subst hl;exact sp h (wgF hy hz)
theorem CV {γ:Type} {fn:Func} {rs:List ResultVar} {vs:List Value} {R:γ→Ending→World→Prop} {a r:γ} (e:some a=some r) (hf:fn.results=rs.toArray) (h:Res P l w rs vs) (hR:R a (.returned (tup vs)) w):bodyPost P fn (R r) .ret ⟨l.toArray,[]⟩ w:=by
 cases e;exact fin hf h hR
theorem BG {γ:Type} {fn:Func} {t:Nat} {v:Value} {rep:World→γ→Value→Prop} {a r:γ} {w0:World} (e:some a=some r) (hx:Ext w0 w) (hr:rep w a v) (hf:fn.results = #[.tmp t]:=by rfl) (hv:l[t]? = some v:=by rfl):bodyPost P fn (Ret rep w0 r) .ret ⟨l.toArray,[]⟩ w:=by
 cases e;exact fin (rs:=[.tmp t]) hf (.tmp hv .nil) (Av hx hr)
theorem dld {b off T n:Nat} {cs vs:List Value} (ht:agg P t n=true) (hb:Bx w b T cs) (hx:evo l x=some (.pointer (some ⟨b,off,none⟩)):=by rfl) (hv:(cs.drop off).take n=vs:=by simp only [List.drop_succ_cons,List.drop_zero,List.take_succ_cons,List.take_zero];rfl) (hn:vs.length=n:=by rfl) :
  Does P l (.load t x) (.agg vs.toArray) w w:=HE ht hx hb hv hn
end
end Go.Sb
