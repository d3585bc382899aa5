import Derived.Defers
import Derived.Recover
import Derived.Test.YtabiobmfelafoaaGreatDoorLB
namespace Go.Sb
set_option linter.unusedSimpArgs false
open Go.RowKit
section
variable {P:Program} {ops:Array Oper} {Q:Exit→Act→World→Prop} {w w' w1:World} {rest:List Oper} {l:List Value} {ds:List Deferred}
variable {ty:Nat} {pos:String} {af:Array Edge} {gd:Option (Nat × Bool)} {dst:Option Tmp} {fn:Func} {R:Ending→World→Prop}
theorem HP {f:FuncId} {as:List Operand} {vs:List Value} {ts:Array Nat}
  (hw:Region.wanted ⟨none,.defer { callee:=.value (.func f),args:=as.toArray,argTypes:=ts },ty,pos,af,gd⟩ (yielded ops l.toArray)=true) (ha:as.map (evo l)=vs.map some)
  (h:WL P ops Q rest l ({ target:=.fn (.func f) #[],args:=vs.toArray }::ds) w) :
  WL P ops Q (⟨none,.defer { callee:=.value (.func f),args:=as.toArray,argTypes:=ts },ty,pos,af,gd⟩::rest) l ds w:=by
 refine sq hw fun K hK=>?_
 unfold Oper.wp
 have:(execOp (Act.mk l.toArray ds).eval ⟨none,.defer { callee:=.value (.func f),args:=as.toArray,argTypes:=ts },ty,pos,af,gd⟩).run P w = .ok (.defer { target:=.fn (.func f) #[],args:=vs.toArray }) w:=by
  have hm:=MG (l:=l) (ρ:=(Act.mk l.toArray ds).eval) (fun _ _=>CF) ha
  have h0:(Act.mk l.toArray ds).eval (.func f) = .func (.func f) #[] #[]:=CF rfl
  generalize (Act.mk l.toArray ds).eval=ρ at hm h0 ⊢
  simp [execOp,resolve,h0,Deferred.ofValue,hm]
 rw [this,Oper.upon_defer]
 exact hK _ _ _ h
theorem OQ {f:FuncId} (h:Ent P f) (args:Array Value):(invoke (.fn (.func f) #[]) args).run P w = .ok (.enter f args) w:=by
 have:=h args w
 simp [invoke,this]
structure Upd2 (b b':Nat) (w w':World):Prop where
 os:w'.os=w.os
 tape:w'.tape=w.tape
 output:w'.output=w.output
 size:w.heap.size≤w'.heap.size
 block:∀k,k<w.heap.size→k≠b→k≠b'→w'.heap[k]? = w.heap[k]?
theorem Upd2.refl (b b':Nat) (w:World):Upd2 b b' w w:=⟨rfl,rfl,rfl,Nat.le_refl _,fun _ _ _ _=>rfl⟩
theorem Upd2.ext {b b':Nat} {a w w':World} (h:Upd2 b b' a w) (e:Ext w w'):Upd2 b b' a w':=
 ⟨e.os.trans h.os,e.tape.trans h.tape,e.output.trans h.output,Nat.le_trans h.size e.size,fun k hk h1 h2=>(e.block k (Nat.lt_of_lt_of_le hk h.size)).trans (h.block k hk h1 h2)⟩
theorem Upd2.upd {b b' i:Nat} {a w w':World} (h:Upd2 b b' a w) (u:Upd i w w') (hi:a.heap.size≤i∨i=b∨i=b'):Upd2 b b' a w':=
 ⟨u.os.trans h.os,u.tape.trans h.tape,u.output.trans h.output,by rw [u.size];exact h.size,fun k hk h1 h2=>(u.block k (by rcases hi with hi | rfl | rfl<;>first | omega | assumption)).trans (h.block k hk h1 h2)⟩
theorem belU2 {B i j:Nat} {a b c:World} (h:Below B a b) (k:Upd2 i j b c) (hB:B≤b.heap.size) (hi:B≤i) (hj:B≤j):Below B a c:=
 h.trans ⟨k.os,k.tape,k.output,k.size,fun x hx=>k.block x (by omega) (by omega) (by omega)⟩
theorem Upd2.toExt {i j:Nat} {a b c:World} (h:Ext a b) (k:Upd2 i j b c) (hi:a.heap.size≤i) (hj:a.heap.size≤j):Ext a c:=belU2 h k h.size hi hj
def Ry (P:Program) (f:FuncId):Prop:=∀(args:Array Value) (b b':Nat) (w:World),args = #[.pointer (some ⟨b,0,none⟩),.pointer (some ⟨b',0,none⟩)]→
 CallsD P f args .returning w fun e u' w'=>e = .returned (.tuple #[])∧u' = .returning∧w'=w
theorem NJ {f:FuncId} {b b':Nat} {rs:List ResultVar} {vs:List Value} (hi:Ry P f) (he:Ent P f) (hf:fn.results=rs.toArray) (h:Res P l w rs vs) (hR:R (.returned (tup vs)) w) :
  bodyPostD P fn R .ret ⟨l.toArray,[{ target:=.fn (.func f) #[],args:=#[.pointer (some ⟨b,0,none⟩),.pointer (some ⟨b',0,none⟩)] }]⟩ w:=by
 show Leaves P fn l.toArray R _ .returning w
 refine leaves_cons (by simp) (OQ he _) ?_
 refine (hi _ b b' w rfl).mono ?_
 rintro e u' w' ⟨rfl,rfl,rfl⟩
 exact ⟨_,FE hf h,hR⟩
theorem Kg {f:FuncId} {b b' T:Nat} {n:Int} {S:World→Prop} {rs:List ResultVar} (he:Ent P f)
  (hc:CallsD P f #[.pointer (some ⟨b,0,none⟩),.pointer (some ⟨b',0,none⟩)] (.panicking [entry T n]) w fun e u' w'=>e = .returned (.tuple #[])∧u' = .panicking [{ entry T n with recovered:=true }]∧S w')
  (hf:fn.results=rs.toArray) (h:∀w',S w'→∃vs,Res P l w' rs vs∧R (.returned (tup vs)) w') :
  bodyPostD P fn R (.panic [entry T n]) ⟨l.toArray,[{ target:=.fn (.func f) #[],args:=#[.pointer (some ⟨b,0,none⟩),.pointer (some ⟨b',0,none⟩)] }]⟩ w:=by
 show Leaves P fn l.toArray R _ (.panicking [entry T n]) w
 refine leaves_cons (by simp) (OQ he _) ?_
 refine hc.mono ?_
 rintro e u' w' ⟨rfl,rfl,hS⟩
 obtain ⟨vs,h1,h2⟩:=h w' hS
 exact ⟨_,FE hf h1,h2⟩
def Oj:ResultVar→Nat
 | .tmp t=>t
 | .cell a _=>a
theorem OK {f g:ResultVar→Sem Value} : ∀(rs:List ResultVar),(∀r ∈ rs,f r=g r)→rs.mapM f=rs.mapM g
 | [],_=>rfl
 | r::rs,h=>by
  simp only [List.mapM_cons,h r (by simp),OK rs (fun x hx=>h x (by simp [hx]))]
theorem NE {rs:List ResultVar} (hf:fn.results=rs.toArray) {d:Nat} (hd:(rs.all fun r=>Oj r != d)=true) (a:Act) (v:Value):results fn (a.put (some d) v).tmps=results fn a.tmps:=by
 unfold results
 rw [hf]
 simp only [List.mapM_toArray]
 congr 2
 refine OK rs fun r hr=>?_
 have h1:=(List.all_eq_true.1 hd) r hr
 simp only [bne_iff_ne] at h1
 cases r with
 | tmp t=>simp only [Oj] at h1;simp [Act.put,Array.getElem?_setIfInBounds_ne (Ne.symm h1)]
 | cell t ty=>simp only [Oj] at h1;simp [Act.put,Array.getElem?_setIfInBounds_ne (Ne.symm h1)]
theorem Lr {t t':Array Value} (h:results fn t=results fn t'):∀(ds:List Deferred) (u:FrameMode) (w:World),Leaves P fn t R ds u w→Leaves P fn t' R ds u w
 | [],.returning,w,hl=>by unfold Leaves at hl ⊢;rw [←h];exact hl
 | [],.panicking _,w,hl=>hl
 | [],.run,w,hl=>hl
 | d::ds,u,w,hl=>by
  obtain ⟨h1,fv,cap,f,args,h2,h3,h4⟩:=hl
  refine ⟨h1,fv,cap,f,args,h2,h3,h4.mono ?_⟩
  intro e u' w' he
  cases e with
  | returned v=>exact Lr h ds _ _ he
  | panicked c=>exact Lr h ds _ _ he
  | outgrown=>exact he
theorem dq {rs:List ResultVar} (hf:fn.results=rs.toArray) {d:Nat} (hd:(rs.all fun r=>Oj r != d)=true) {v:Value} {c:List PanicEntry} {a:Act} (h:bodyPostD P fn R (.panic c) (a.put (some d) v) w):bodyPostD P fn R (.panic c) a w:=
 Lr (NE hf hd a v) _ _ _ h
theorem Ms {t t':Nat} {x:Operand} {v:Value} (ht:PU P t'=true) (hx:evo l x=some (.iface t' v)) :
  Does P l (.typeAssert x t t' true) (.tuple #[v,.bool true]) w w:=fun ρ he _ _ _ _ _=>by
 unfold PU at ht
 cases h:P.underlying t' with
 | none=>simp [h] at ht
 | some d=>cases d<;>simp [h] at ht<;>simp [execOp,he _ _ hx,Instr.typeAssert,run_underlying h]
theorem Ol {t t':Nat} {v:Value} {ms:Array (String × Nat)} (ht:P.underlying t=some (.interface ms)) (d:Nat):(Op.equalIn (d+1) t (.iface t' v) .nilIface).run P w = .ok false w:=by
 simp [Op.equalIn,run_underlying ht]
theorem Oe {t t' ty2:Nat} {x:Operand} {v:Value} {ms:Array (String × Nat)} (ht:P.underlying t=some (.interface ms)) (hx:evo l x=some (.iface t' v)) :
  Does P l (.binOp .neq t x (.const .nilIface) ty2) (.bool true) w w:=fun ρ he _ _ _ _ _=>by
 have h1:ρ (.const .nilIface) = .nilIface:=he _ _ rfl
 have h2:(Op.equal t (.iface t' v) .nilIface).run P w = .ok false w:=Ol ht 9999
 simp [execOp,he _ _ hx,h1,eqGuard,binOp,h2]
theorem Sy {id:Nat} {d d' ty ty':Nat} {pos pos':String} {af af':Array Edge} {c₀:Frame} {cs:List Frame} {T:Nat} {n:Int} {QS:Exit→Act→List Frame→World→Prop} (hu:c₀.mode = .panicking [entry T n]) (hd:(l[d]?).isSome=true)
  (h:QS .normal ⟨((l.set d (.iface T (.agg #[.int .i64 n]))).set d' (.iface T (.agg #[.int .i64 n]))).toArray,[]⟩ ({ c₀ with mode:=.panicking [{ entry T n with recovered:=true }] }::cs) w) :
  (Code.region id #[⟨some d,.call { callee:=.builtin .recover,args:=#[],argTypes:=#[] },ty,pos,af,none⟩,⟨some d',.assign (.tmp d),ty',pos',af',none⟩] false).wpS P QS ⟨l.toArray,[]⟩ (c₀::cs) w:=by
 apply wpS_region
 have hl:d<l.length:=by
  cases hq:l[d]? with
  | none=>simp [hq] at hd
  | some v=>exact (List.getElem?_eq_some_iff.1 hq).1
 simp [wpOpsS,go_sem,recoverD,hu,entry,Region.wanted,hl]
 simpa [entry] using h
theorem Sg {id:Nat} {d d' ty ty':Nat} {pos pos':String} {af af':Array Edge} {c₀:Frame} {cs:List Frame} {QS:Exit→Act→List Frame→World→Prop} (hu:c₀.mode = .returning) (hd:(l[d]?).isSome=true)
  (h:QS .normal ⟨((l.set d .nilIface).set d' .nilIface).toArray,[]⟩ (c₀::cs) w) :
  (Code.region id #[⟨some d,.call { callee:=.builtin .recover,args:=#[],argTypes:=#[] },ty,pos,af,none⟩,⟨some d',.assign (.tmp d),ty',pos',af',none⟩] false).wpS P QS ⟨l.toArray,[]⟩ (c₀::cs) w:=by
 apply wpS_region
 have hl:d<l.length:=by
  cases hq:l[d]? with
  | none=>simp [hq] at hd
  | some v=>exact (List.getElem?_eq_some_iff.1 hq).1
 simp [wpOpsS,go_sem,recoverD,hu,Region.wanted,hl]
 simpa using h
theorem Ml {t ty2:Nat} {x:Operand} {ms:Array (String × Nat)} (ht:P.underlying t=some (.interface ms)) (hx:evo l x=some .nilIface) :
  Does P l (.binOp .neq t x (.const .nilIface) ty2) (.bool false) w w:=fun ρ he _ _ _ _ _=>by
 have h1:ρ (.const .nilIface) = .nilIface:=he _ _ rfl
 have h3:∀d,(Op.equalIn (d+1) t .nilIface .nilIface).run P w = .ok true w:=fun d=>by simp [Op.equalIn,run_underlying ht]
 have h2:(Op.equal t .nilIface .nilIface).run P w = .ok true w:=h3 9999
 simp [execOp,he _ _ hx,h1,eqGuard,binOp,h2]
theorem SA {c₀:Frame} {cs:List Frame} {R:Ending→FrameMode→World→Prop} {u':FrameMode} (hf:fn.results = #[]) (hR:R (.returned (.tuple #[])) u' w):bodyPostS P fn c₀ cs R .normal ⟨l.toArray,[]⟩ ({ c₀ with mode:=u' }::cs) w:=
 ⟨rfl,u',rfl,.tuple #[],results_none hf _ _ _,hR⟩
theorem Rc {c₀:Frame} {cs:List Frame} {R:Ending→FrameMode→World→Prop} (hu:c₀.mode = .returning) (hf:fn.results = #[]) (hR:R (.returned (.tuple #[])) .returning w):bodyPostS P fn c₀ cs R .normal ⟨l.toArray,[]⟩ (c₀::cs) w:=by
 have h:c₀::cs = { c₀ with mode:=.returning }::cs:=by cases c₀;simp at hu;subst hu;rfl
 rw [h]
 exact ⟨rfl,.returning,rfl,.tuple #[],results_none hf _ _ _,hR⟩
theorem KM {f:FuncId} {c:Code} {args:List Value} {u:FrameMode} {R:Ending→FrameMode→World→Prop} (hf:P.funcs[f]? = some fn) (hb:fn.body=some c) (l:List Value) (hl:args.toArray++Array.replicate (fn.ntmps - args.toArray.size) undef=l.toArray)
  (h:∀(c₀:Frame) (cs:List Frame),c₀.mode=u→c.wpS P (bodyPostS P fn c₀ cs R) ⟨l.toArray,[]⟩ (c₀::cs) w):CallsD P f args.toArray u w R:=
 callsD_of_wpS hf hb fun c₀ cs hu=>by rw [hl];exact h c₀ cs hu
end
end Go.Sb
