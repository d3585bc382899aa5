import Derived.Test.YtabiobmfelafoaaGreatDoorJoin
namespace Go.Sb
set_option linter.unusedSimpArgs false
open Go.RowKit
section
variable {P:Program} {w:World} {l:List Value} {ty ty2:Nat} {pos:String} {af:Array Edge} {fn:Func} {R:Ending→World→Prop}
def Ov (P:Program) (f:FuncId):Prop:=∀(b:Nat) (w:World),
 CallsD P f #[.pointer (some ⟨b,0,none⟩)] .returning w fun e u' w'=>e = .returned (.tuple #[])∧u' = .returning∧w'=w
theorem finD1 {f:FuncId} {b:Nat} {rs:List ResultVar} {vs:List Value} (hi:Ov P f) (he:Ent P f) (hf:fn.results=rs.toArray) (h:Res P l w rs vs) (hR:R (.returned (tup vs)) w) :
  bodyPostD P fn R .ret ⟨l.toArray,[{ target:=.fn (.func f) #[],args:=#[.pointer (some ⟨b,0,none⟩)] }]⟩ w:=by
 show Leaves P fn l.toArray R _ .returning w
 refine leaves_cons (by simp) (LK he _) ?_
 refine (hi b w).mono ?_
 rintro e u' w' ⟨rfl,rfl,rfl⟩
 exact ⟨_,Eo hf h,hR⟩
end
end Go.Sb
