import Derived.Test.YtabiobmfelafoaaGreatDoorJoin
namespace Go.Sb
set_option linter.unusedSimpArgs false
open Go.RowKit
section
variable {P:Program} {w:World} {l:List Value} {ty ty2:Nat} {pos:String} {af:Array Edge} {fn:Func} {R:Ending→World→Prop}
def Qy (P:Program) (f:FuncId):Prop:=∀(b:Nat) (w:World),
 CallsD P f #[.pointer (some ⟨b,0,none⟩)] .returning w fun e u' w'=>e = .returned (.tuple #[])∧u' = .returning∧w'=w
theorem Nv {f:FuncId} {b:Nat} {rs:List ResultVar} {vs:List Value} (hi:Qy P f) (he:Ent P f) (hf:fn.results=rs.toArray) (h:Res P l w rs vs) (hR:R (.returned (tup vs)) w) :
  bodyPostD P fn R .ret ⟨l.toArray,[{ target:=.fn (.func f) #[],args:=#[.pointer (some ⟨b,0,none⟩)] }]⟩ w:=by
 show Leaves P fn l.toArray R _ .returning w
 refine leaves_cons (by simp) (OJ he _) ?_
 refine (hi b w).mono ?_
 rintro e u' w' ⟨rfl,rfl,rfl⟩
 exact ⟨_,Fw hf h,hR⟩
theorem rcvI1 {id:Nat} {d:Nat} {c₀:Frame} {cs:List Frame} {QS:Exit→Act→List Frame→World→Prop} (hu:c₀.mode = .returning) (hd:(l[d]?).isSome=true)
  (h:QS .normal ⟨(l.set d .nilIface).toArray,[]⟩ (c₀::cs) w) :
  (Code.region id #[⟨some d,.call { callee:=.builtin .recover,args:=#[],argTypes:=#[] },ty,pos,af,none⟩] false).wpS P QS ⟨l.toArray,[]⟩ (c₀::cs) w:=by
 apply wpS_region
 have hl:d<l.length:=by
  cases hq:l[d]? with
  | none=>simp [hq] at hd
  | some v=>exact (List.getElem?_eq_some_iff.1 hq).1
 simp [wpOpsS,go_sem,recoverD,hu,Region.wanted,hl]
 simpa using h
theorem d_eqlNilN {t:Nat} {x:Operand} {ms:Array (String × Nat)} (ht:P.underlying t=some (.interface ms)) (hx:evo l x=some .nilIface) :
  Does P l (.binOp .eql t x (.const .nilIface) ty2) (.bool true) w w:=fun ρ he _ _ _ _ _=>by
 have h1:ρ (.const .nilIface) = .nilIface:=he _ _ rfl
 have h3:∀d,(Op.equalIn (d+1) t .nilIface .nilIface).run P w = .ok true w:=fun d=>by simp [Op.equalIn,run_underlying ht]
 have h2:(Op.equal t .nilIface .nilIface).run P w = .ok true w:=h3 9999
 simp [execOp,he _ _ hx,h1,eqGuard,binOp,h2]
end
end Go.Sb
