import Derived.RangeFuncFrom
import Derived.RangeFuncCalls
import Derived.OrdersIn
import Derived.Test.YtabiobmfelafoaaGreatDoorDefer
namespace Go.Sb
set_option linter.unusedSimpArgs false
open Go.RowKit
open Go.Proofs.YtabiobmfelafoaaGreatDoorW.PrintLast
abbrev WR (r:Nat):Fence:=Fence.wide.inRound r
def NO:Op→Bool
 | .defer _=>false
 | _=>true
section
variable {P:Program} {Q:Exit→Act→World→Prop} {a:Act} {w:World} {r n:Nat} {ops:Array Oper}
theorem rows_wide {row:String} {args:Array Value} {R:Value→World→Prop} (h:Rows P row args w R):RowsIn (WR r) n P row args w R:=
 fun c cs _=>let ⟨v,w',k,s⟩:=h c cs;⟨v,w',k,stepsIn_wide.2 s⟩
theorem operR {o:Oper} {K:Act→World→Prop} (hd:NO o.op=true) (h:o.wp P a w K Q):o.wpIn (WR r) n P a w K Q:=by
 unfold Oper.wp at h
 refine ⟨fun _ _=>trivial,?_⟩
 show o.uponIn (WR r) n P a K Q ((Oper.semAt (some r) a.eval o).run P w)
 rw [Oper.semAt_some r a.eval o (fun c hc=>by rw [hc] at hd;cases hd)]
 generalize (execOp a.eval o).run P w=res at h
 cases res with
 | ok x w'=>
  cases x<;>simp only [Oper.upon,Oper.uponIn] at h ⊢<;>first | exact h | exact h.elim | skip
  ·exact ⟨fun hx=>by simp [Fence.wide] at hx,CallsIn.inRound r (callsIn_wide.2 h)⟩
  ·exact ⟨fun hx=>by simp [Fence.wide] at hx,rows_wide h⟩
 | halt x w'=>cases x<;>simp only [Oper.upon,Oper.uponIn] at h ⊢<;>exact h
theorem operM {o:Oper} {K K':Act→World→Prop} (hk:∀a w,K a w→K' a w) (h:o.wpIn (WR r) n P a w K Q):o.wpIn (WR r) n P a w K' Q:=Oper.wpIn_mono hk h
theorem opsR (hQ:¬LetsOut Q) (hd:∀(i:Nat) (o:Oper),ops[i]? = some o→NO o.op=true):∀(l:List Nat) (a:Act) (w:World),wpOps P ops Q l a w→wpOpsIn (WR r) n P ops Q l a w
 | [],_,_,h=>h
 | i::rest,a,w,h=>by
  simp only [wpOps,wpOpsIn] at h ⊢
  cases ho:ops[i]? with
  | none=>simp only [ho] at h ⊢;exact opsR hQ hd rest a w h
  | some o=>
   simp only [ho] at h ⊢
   split
   ·rename_i hw
    simp only [hw,if_true] at h
    rcases h with h | ⟨_,h⟩
    ·exact operM (fun a w=>opsR hQ hd rest a w) (operR (hd i o ho) h)
    ·exact absurd h hQ
   ·rename_i hw
    simp only [hw] at h
    exact ⟨fun _ _=>trivial,opsR hQ hd rest _ _ h⟩
theorem IQ {id:Nat} {l:List Oper} {fr:List Value} {ds:List Deferred} (hd:(l.all fun o=>NO o.op)=true) (hQ:¬LetsOut Q) (h:WL P l.toArray Q l fr ds w):(Code.region id l.toArray false).wpIn (WR r) n P Q ⟨fr.toArray,ds⟩ w:=by
 refine wpIn_region (opsR hQ ?_ _ _ _ ?_)
 ·intro i o ho
  exact (List.all_eq_true.1 hd) o (List.mem_of_getElem? (by simpa using ho))
 ·have:=wpOps_eq_wpList (P:=P) (ops:=l.toArray) (Q:=Q) l 0 (by simp)
  rw [List.range_eq_range']
  simp only [List.size_toArray]
  rw [this]
  exact h.run
theorem Om {id:Nat} {l:List Oper} (hd:(l.all fun o=>NO o.op)=true) (hQ:¬LetsOut Q) (tl:List Nat) (m:Nat) (hm:P.follows .mixedOrders=true) (hn:l.toArray.size=m)
  (h:∀w1,Ext w w1→Ext w1 w1→wpAnyLast P .any l.toArray Q (Ext w1) tl m (Array.replicate m false) a w1):(Code.region id l.toArray true).wpIn (WR r) n P Q a w:=by
 refine wpIn_region_draw fun t=>opsR hQ ?_ _ _ _ ?_
 ·intro i o ho
  exact (List.all_eq_true.1 hd) o (List.mem_of_getElem? (by simpa using ho))
 ·simp only [Region.schedule,hm,Bool.true_or,if_true]
  subst hn
  exact wpAny_sound _ t _ a _ (KP _ _ _ _ (h w.drew (Ext.drew w) (Ext.refl _)))
end
structure Quiet (n0:Nat) (W W':World):Prop where
 os:W'.os=W.os
 tape:W'.tape=W.tape
 output:W'.output=W.output
 size:W.heap.size≤W'.heap.size
 block:∀(k:Nat) (o:Obj),W.heap[k]? = some o→(k<n0∨o.isCells=true)→W'.heap[k]? = some o
structure Rd (n0:Nat) (W W':World):Prop where
 os:W'.os=W.os
 tape:W'.tape=W.tape
 output:W'.output=W.output
 size:W.heap.size≤W'.heap.size
 block:∀(k:Nat) (o:Obj),W.heap[k]? = some o→(k<n0∨o.isCells=false)→W'.heap[k]? = some o
theorem Quiet.refl (n0:Nat) (W:World):Quiet n0 W W:=⟨rfl,rfl,rfl,Nat.le_refl _,fun _ _ h _=>h⟩
theorem Quiet.trans {n0:Nat} {A B C:World} (h:Quiet n0 A B) (k:Quiet n0 B C):Quiet n0 A C:=
 ⟨k.os.trans h.os,k.tape.trans h.tape,k.output.trans h.output,Nat.le_trans h.size k.size,fun i o hi ho=>k.block i o (h.block i o hi ho) ho⟩
theorem Quiet.put {n0 l:Nat} {W:World} {o:Obj} (o':Obj) (h:W.heap[l]? = some o) (hl:n0≤l) (hc:o.isCells=false):Quiet n0 W (W.putObj l o'):=
 ⟨rfl,rfl,rfl,by simp,fun k u hk hu=>by
  by_cases e:k=l
  ·subst e
   rw [h] at hk;cases hk
   rcases hu with hu | hu
   ·omega
   ·rw [hc] at hu;cases hu
  ·exact (World.putObj_heap_other e).trans hk⟩
theorem Quiet.alloc (n0:Nat) (W:World) (o:Obj):Quiet n0 W (W.alloc o):=
 ⟨rfl,rfl,rfl,by simp,fun k u hk _=>(Below.heap_alloc W o k (Array.getElem?_eq_some_iff.1 hk).1).trans hk⟩
theorem Rd.refl (n0:Nat) (W:World):Rd n0 W W:=⟨rfl,rfl,rfl,Nat.le_refl _,fun _ _ h _=>h⟩
theorem Rd.trans {n0:Nat} {A B C:World} (h:Rd n0 A B) (k:Rd n0 B C):Rd n0 A C:=
 ⟨k.os.trans h.os,k.tape.trans h.tape,k.output.trans h.output,Nat.le_trans h.size k.size,fun i o hi ho=>k.block i o (h.block i o hi ho) ho⟩
theorem Rd.ext {n0:Nat} {A B C:World} (h:Rd n0 A B) (k:Ext B C):Rd n0 A C:=
 h.trans ⟨k.os,k.tape,k.output,k.size,fun i _ hi _=>(k.block i (Array.getElem?_eq_some_iff.1 hi).1).trans hi⟩
theorem Rd.upd {n0 b t:Nat} {cs:List Value} {A B C:World} (h:Rd n0 A B) (k:Upd b B C) (hb:n0≤b) (hx:Bx B b t cs):Rd n0 A C:=
 h.trans ⟨k.os,k.tape,k.output,by rw [k.size];exact Nat.le_refl _,fun i o hi ho=>(k.block i (fun e=>by
  subst e
  unfold Bx at hx
  rw [hx] at hi;cases hi
  rcases ho with ho | ho
  ·omega
  ·cases ho)).trans hi⟩
theorem Bx.quiet {n0 b t:Nat} {cs:List Value} {W W':World} (h:Bx W b t cs) (q:Quiet n0 W W'):Bx W' b t cs:=q.block b _ h (.inr rfl)
theorem RL.quiet {n0:Nat} {k:IntKind} {t:Nat} {W W':World} {A:Option Addr} {c:Nat} {xs:List Int} (h:RL k t W A c xs) (q:Quiet n0 W W'):RL k t W' A c xs:=by
 obtain ⟨h2,h3,h4⟩:=h
 refine ⟨h2,h3,fun hne=>?_⟩
 obtain ⟨b,off,cs,fr,hA,hb,hc⟩:=h4 hne
 exact ⟨b,off,cs,fr,hA,⟨hb.choose,hb.choose_spec.1,q.block b _ hb.choose_spec.2 (.inr rfl)⟩,hc⟩
theorem belQ {n0:Nat} {A B C:World} (h:Below n0 A B) (q:Quiet n0 B C) (hn:n0≤B.heap.size):Below n0 A C:=
 h.trans ⟨q.os,q.tape,q.output,q.size,fun i hi=>by
  have hlt:i<B.heap.size:=by omega
  have:=Array.getElem?_eq_getElem hlt
  rw [this]
  exact q.block i _ this (.inl hi)⟩
theorem belR {n0:Nat} {A B C:World} (h:Below n0 A B) (q:Rd n0 B C) (hn:n0≤B.heap.size):Below n0 A C:=
 h.trans ⟨q.os,q.tape,q.output,q.size,fun i hi=>by
  have hlt:i<B.heap.size:=by omega
  have:=Array.getElem?_eq_getElem hlt
  rw [this]
  exact q.block i _ this (.inl hi)⟩
def rdPost (n0:Nat) (I:World→Prop) (W:World):Exit→Act→World→Prop
 | .normal,_,W'=>Rd n0 W W'∧I W'
 | _,_,_=>False
def QK (P:Program) (gf:Nat) (lb:Array Value) (N:Nat) (encs:Nat→Array Value) (I:Nat→World→Prop):Prop:=
 ∀(l:Nat) (J:Nat→World→Prop) (W:World),(∀i W,J i W→I i W)→J 0 W→
  (∀i W,i<N→J i W→YieldAt Fence.wide 0 P l (encs i) W fun e W'=>e = .returned (.bool true)∧J (i+1) W')→
  CallsIn Fence.wide 0 P gf (#[.func (.yield l) #[] #[]]++lb) W fun e W'=>(∃v,e = .returned v)∧J N W'
theorem rf {P:Program} {Q:Exit→Act→World→Prop} {g:Operand} {ps:Array Tmp} {assign body:Code} {a:Act} {w:World} {N gf n0:Nat} {lb:Array Value} {encs:Nat→Array Value} {I:Nat→World→Prop}
  (hg:a.eval g = .func (.func gf) #[] lb) (eg:Ent P gf) (hn0:n0≤w.heap.size) (hit:QK P gf lb N encs I) (hps:∀i,(encs i).size=ps.size)
  (hI:∀i W W',I i W→Quiet n0 W W'→I i W') (h0:I 0 w)
  (hround:∀(l i:Nat) (W:World),i<N→I i W→
   assign.wpIn (WR l) 0 P (Exit.then (fun a' W'=>Rd n0 W W'∧∀W2,Quiet n0 W' W2→body.wpIn (WR l) 0 P (rdPost n0 (I (i+1)) W2) a' W2) (fun _ _ _=>False))
    { tmps:=(ps.zip (encs i)).foldl (fun t (p,v)=>t.setIfInBounds p v) a.tmps,defers:=[] } W)
  (hdone:∀(D:Nat) (W:World),n0≤D→I N W→W.heap[D]? = some (.deferred (some []))→Q .normal { a with defers:={ target:=.collected D,args:=#[] }::a.defers } W) :
  (Code.rangeFunc g ps assign body).wp P Q a w:=by
 refine (wpIn_wide (n:=1)).1 (wpIn_rangeFunc ?_)
 intro fn hfn
 rw [show Fence.wide.round=none from rfl]
 obtain ⟨rec,hrec⟩:∃rec:LoopState→Loop,rec=fun st=>{ state:=st,pending:=none,fn,tmps:=a.tmps,params:=ps,assign,body,defers:=w.heap.size }:=⟨_,rfl⟩
 obtain ⟨W1,hW1⟩:∃W1,(w.alloc (.deferred (some []))).alloc (.loop (rec .ready))=W1:=⟨_,rfl⟩
 have hL1:W1.heap[w.heap.size+1]? = some (.loop (rec .ready)):=by
  rw [←hW1];have:=World.alloc_heap_new (w.alloc (.deferred (some []))) (.loop (rec .ready));rwa [World.size_alloc] at this
 have hK1:W1.heap[w.heap.size]? = some (.deferred (some [])):=by
  rw [←hW1];exact (Below.heap_alloc _ _ _ (by simp)).trans (World.alloc_heap_new w _)
 have hI1:I 0 W1:=by rw [←hW1];exact hI _ _ _ (hI _ _ _ h0 (Quiet.alloc _ _ _)) (Quiet.alloc _ _ _)
 refine ⟨w.heap.size+1,[{ target:=.collected w.heap.size,args:=#[] }],W1,{ target:=.fn (.func gf) lb,args:=#[.func (.yield (w.heap.size+1)) #[] #[]] },W1,gf,
  #[.func (.yield (w.heap.size+1)) #[] #[]]++lb,W1,?_,?_,?_,?_,fun _=>Nat.le_refl _,?_⟩
 ·rw [←hW1,hrec];exact run_enterLoop_outer _ _ _ _ _
 ·simp only [resolve,hg]
  simp [go_sem]
 ·intro f' hf';trivial
 ·have:=eg (#[.func (.yield (w.heap.size+1)) #[] #[]]++lb) W1
  simp [invoke,go_sem,this]
 ·refine (hit (w.heap.size+1) (fun i W=>I i W∧W.heap[w.heap.size+1]? = some (.loop (rec .ready))∧W.heap[w.heap.size]? = some (.deferred (some []))) W1 (fun _ _ h=>h.1) ⟨hI1,hL1,hK1⟩ ?_).mono ?_
  ·rintro i W hi ⟨hIi,hl,hk⟩
   have hy:=run_yield (P:=P) (args:=encs i) hl (by rw [hrec];exact hps i)
   rw [hrec] at hy
   refine ⟨fn,_,assign,body,hy,roundIn_of_wpIn hfn (wpIn_mono (hround _ i W hi hIi) ?_)⟩
   rintro e a' W' hq
   cases e<;>try exact hq.elim
   obtain ⟨hrd,hbody⟩:=hq
   have hl':=hrd.block _ _ hl (.inr rfl)
   have hk':=hrd.block _ _ hk (.inr rfl)
   refine ⟨_,run_beginRound hl' (by rw [hrec]),wpIn_mono (hbody _ (Quiet.put _ hl' (by omega) rfl)) ?_⟩
   have hl2:(W'.putObj (w.heap.size+1) (.loop { rec .ready with state:=.busy })).heap[w.heap.size+1]? = some (.loop { rec .ready with state:=.busy }):=World.putObj_heap_same (Array.getElem?_eq_some_iff.1 hl').1
   have hk2:(W'.putObj (w.heap.size+1) (.loop { rec .ready with state:=.busy })).heap[w.heap.size]? = some (.deferred (some [])):=(World.putObj_heap_other (by omega)).trans hk'
   rintro e a3 W3 hp
   cases e<;>try exact hp.elim
   obtain ⟨hr3,hi3⟩:=hp
   have hl3:=hr3.block _ _ hl2 (.inr rfl)
   have hk3:=hr3.block _ _ hk2 (.inr rfl)
   refine ⟨_,_,run_endRound none hl3,rfl,hI _ _ _ hi3 (Quiet.put _ hl3 (by omega) rfl),?_,(World.putObj_heap_other (by omega)).trans hk3⟩
   have:=World.putObj_heap_same (o:=Obj.loop { { rec .ready with state:=.busy } with state:=if (none:Option Code).isNone then .ready else .done,pending:=none }) (Array.getElem?_eq_some_iff.1 hl3).1
   rw [this,hrec]
   rfl
  ·rintro e W2 ⟨⟨v,rfl⟩,hIN,hl,hk⟩
   exact ⟨none,_,by have:=run_endLoop (P:=P) hl (by rw [hrec];simp);rw [hrec] at this;exact this,hdone _ _ hn0 (hI _ _ _ hIN (Quiet.put _ hl (by omega) rfl)) ((World.putObj_heap_other (by omega)).trans hk)⟩
section
variable {P:Program} {w:World} {l:List Value} {fn:Func} {R:Ending→World→Prop} {D:Nat}
theorem RR {f:FuncId} {c:Code} {args:Array Value} (hf:P.funcs[f]? = some fn) (hb:fn.body=some c) (l:List Value) (hl:args++Array.replicate (fn.ntmps - args.size) undef=l.toArray)
  (h:c.wp P (bodyPostM Fence.wide 1 P fn R) ⟨l.toArray,[]⟩ w):Calls P f args w R:=by
 refine (callsIn_wide (n:=1)).1 (callsIn_of_wp_marks hf hb trivial ?_)
 rw [hl]
 exact wpIn_wide.2 h
theorem QV {f:FuncId} {c:Code} {args:Array Value} {n:Nat} (hf:P.funcs[f]? = some fn) (hb:fn.body=some c) (l:List Value) (hl:args++Array.replicate (fn.ntmps - args.size) undef=l.toArray)
  (h:c.wpIn Fence.wide n P (bodyPostM Fence.wide n P fn R) ⟨l.toArray,[]⟩ w):CallsIn Fence.wide n P f args w R:=by
 refine callsIn_of_wp_marks hf hb trivial ?_
 rw [hl]
 exact h
theorem Sz {rs:List ResultVar} {vs:List Value} (hk:w.heap[D]? = some (.deferred (some []))) (hf:fn.results=rs.toArray) (h:Res P l (w.putObj D (.deferred none)) rs vs) (hR:R (.returned (tup vs)) (w.putObj D (.deferred none))) :
  bodyPostM Fence.wide 1 P fn R .ret ⟨l.toArray,[{ target:=.collected D,args:=#[] }]⟩ w:=
 ⟨by simp,.inl ⟨D,_,rfl,run_takeDeferred hk,_,FE hf h,hR⟩⟩
theorem panM {c:List PanicEntry} (hk:w.heap[D]? = some (.deferred (some []))) (hR:R (.panicked c) (w.putObj D (.deferred none))) :
  bodyPostM Fence.wide 1 P fn R (.panic c) ⟨l.toArray,[{ target:=.collected D,args:=#[] }]⟩ w:=
 ⟨by simp,.inl ⟨D,_,rfl,run_takeDeferred hk,hR⟩⟩
theorem panM0 {c:List PanicEntry} (hR:R (.panicked c) w):bodyPostM Fence.wide 1 P fn R (.panic c) ⟨l.toArray,[]⟩ w:=hR
end
section
variable {P:Program} {ops:Array Oper} {Q:Exit→Act→World→Prop} {w w':World} {rest:List Oper} {l l':List Value} {n:Nat}
variable {op:Op} {ty d:Nat} {pos:String} {af:Array Edge} {gd:Option (Nat × Bool)} {v:Value}
theorem iv (hw:Region.wanted ⟨some d,op,ty,pos,af,gd⟩ (yielded ops l.toArray)=true) (hr:Does P l op v w w') (hl:l.set d v=l')
  (h:wpListIn Fence.wide n P ops Q rest ⟨l'.toArray,[]⟩ w'):wpListIn Fence.wide n P ops Q (⟨some d,op,ty,pos,af,gd⟩::rest) ⟨l.toArray,[]⟩ w:=by
 subst hl
 unfold wpListIn
 simp only [hw,if_true]
 refine ⟨fun _ _=>trivial,?_⟩
 show Oper.uponIn _ _ _ _ _ _ _ ((Oper.semAt none _ _).run P w)
 rw [Oper.semAt_none,hr _ (fun _ _=>CF),Oper.uponIn_value,Fy]
 exact h
theorem iy {g:Operand} {r:Nat} {as:List Operand} {args:List Value} {ts:Array Nat} {J:World→Prop} (hw:Region.wanted ⟨some d,.call { callee:=.value g,args:=as.toArray,argTypes:=ts },ty,pos,af,gd⟩ (yielded ops l.toArray)=true)
  (hg:evo l g=some (.func (.yield r) #[] #[])) (ha:as.map (evo l)=args.map some) (hl:l.set d (.bool true)=l')
  (hY:YieldAt Fence.wide (n - 1) P r args.toArray w fun e W'=>e = .returned (.bool true)∧J W')
  (h:∀w',J w'→wpListIn Fence.wide n P ops Q rest ⟨l'.toArray,[]⟩ w'):wpListIn Fence.wide n P ops Q (⟨some d,.call { callee:=.value g,args:=as.toArray,argTypes:=ts },ty,pos,af,gd⟩::rest) ⟨l.toArray,[]⟩ w:=by
 subst hl
 unfold wpListIn
 simp only [hw,if_true]
 refine ⟨fun _ _=>trivial,?_⟩
 show Oper.uponIn _ _ _ _ _ _ _ ((Oper.semAt none _ _).run P w)
 rw [Oper.semAt_none]
 obtain ⟨fn,tmps,assign,body,hy,hR⟩:=hY
 have hm:=MG (l:=l) (ρ:=(Act.mk l.toArray []).eval) (fun _ _=>CF) ha
 have h0:(Act.mk l.toArray []).eval g = .func (.yield r) #[] #[]:=CF hg
 have hrun:(execOp (Act.mk l.toArray []).eval ⟨some d,.call { callee:=.value g,args:=as.toArray,argTypes:=ts },ty,pos,af,gd⟩).run P w = .ok (.round r fn tmps assign body) w:=by
  generalize (Act.mk l.toArray []).eval=ρ at hm h0 ⊢
  simp [execOp,resolve,h0,Deferred.ofValue,invoke,hm,hy]
 rw [hrun,Oper.uponIn_round]
 refine ⟨fun hx=>by simp [Fence.wide] at hx,hR.mono ?_⟩
 rintro e W' ⟨rfl,hj⟩
 show wpListIn Fence.wide n P ops Q rest ((Act.mk l.toArray []).put (some d) (.bool true)) W'
 rw [Fy]
 exact h _ hj
end
end Go.Sb
