import Derived.Test.YtabiobmfelafoaaGreatDoorGenBase
import Derived.ProofKit
import Derived.OpenShut
import Derived.Deep.DeepHandedRow
import Derived.Lib.LaidTab
namespace Go.Proofs.Fr
set_option linter.unusedVariables false
set_option linter.unusedSimpArgs false
set_option maxRecDepth 100000
set_option linter.constructorNameAsVariable false
open Go.ChangeShapes Go.WideShapes Go.ChangeAt Go.RowKit Go.Sb Go.Proofs.Sbn
def noRow (p:Program) (fits:TypeId→Bool):Nat→TypeId→Bool
 | 0,_=>true
 | d+1,e=>!fits e && (match p.underlying e with
  | some (.struct fs)=>fs.all fun f=>noRow p fits d f.type
  | some (.array _ e')=>noRow p fits d e'
  | _=>true)
theorem noRow_at {p:Program} {fits:TypeId→Bool} : ∀(d:Nat) (e:TypeId),noRow p fits d e=true→∀count off n,rowAt p fits d e count off n=false:=by
 intro d
 induction d with
 | zero=>intro e _ c o n;rfl
 | succ d ih=>
  intro e h c o n
  unfold noRow at h
  rw [Bool.and_eq_true] at h
  obtain ⟨h1,h2⟩:=h
  have h1:fits e=false:=by simpa using h1
  unfold rowAt
  simp only [h1,Bool.and_false,Bool.false_or]
  split
  ·rfl
  ·rw [Bool.and_eq_false_iff]
   right
   split
   ·rename_i fs hu
    rw [hu] at h2
    simp only at h2
    rw [Bool.and_eq_false_iff]
    right
    rw [Array.any_eq_false]
    intro i hi
    have:=ih _ (Array.all_eq_true.1 h2 i hi) 1 (o%p.cellsOf e - fs[i].offset) n
    rw [this,Bool.and_false]
    exact Bool.false_ne_true
   ·rename_i m e' hu
    rw [hu] at h2
    exact ih _ h2 _ _ _
   ·rfl
theorem noRows:(Rh.all fun e=>e == 179 || noRow Tryz.prog (sameLayout Tryz.prog Tryz.prog.depth · 179) Tryz.prog.depth e)=true:=by kernel_rfl
theorem lay_of {row count off n:Nat} (h:liesAt Tryz.prog Tryz.prog.depth row count off 179 n=true):lay 179 row=true:=by
 by_cases hr:row=179
 ·subst hr;rfl
 ·refine Bool.or_eq_true _ _▸Or.inr ?_
  rw [Bool.not_eq_true',←Bool.not_eq_true]
  intro hb
  have hm:row ∈ Rh:=by simpa using hb
  have h2:=List.all_eq_true.1 noRows row hm
  have h3:noRow Tryz.prog (sameLayout Tryz.prog Tryz.prog.depth · 179) Tryz.prog.depth row=true:=by
   rw [Bool.or_eq_true] at h2
   rcases h2 with h2 | h2
   ·exact absurd (by simpa using h2) hr
   ·exact h2
  obtain ⟨d,hd⟩:∃d,Tryz.prog.depth=d+1:=⟨Tryz.prog.depth - 1,by have:0<Tryz.prog.depth:=of_decide_eq_true (by kernel_rfl);omega⟩
  have h4:=noRow_at _ _ h3 count off n
  have h5:liesAt Tryz.prog (d+1) row count off 179 n=false:=by
   unfold liesAt
   rw [h4,Tryz.underlying179]
   rfl
  rw [hd,h5] at h
  cases h
section
variable {H:Type} {enc:TypeId × Value→H} {w:World} {base:Nat} {held:Bool}
theorem PG {t:TypeId} {fuel:Nat} {v:Value} {x:DataW H × List MemPlace} (ht:Tryz.prog.underlying t=some (.slice 179)) (hok:Cell.okWide Tryz.prog w .any base t v)
  (h:DataW.trod enc Tryz.prog w 0 (fun _=>true) held fuel t [v]=some x):∃A c xs,v = .slice A (List.length xs) c∧RLu w A c xs∧Dig xs:=by
 rcases open_ints ht Tryz.underlying179 (by kernel_rfl) h with ⟨hcs,_⟩ | ⟨a,l,c,zs,hcs,_,hl,hm,hz,_,hcell,hwz⟩
 ·obtain rfl:v = .slice none 0 0:=by simpa using hcs
  exact ⟨none,0,[],rfl,RL.nil _ _ _,MQ⟩
 ·obtain rfl:v = .slice (some a) l c:=by simpa using hcs
  simp only [if_true] at hz
  have hlen:(zs.take l).length=l:=by rw [List.length_take];omega
  simp only [Cell.okWide,ht,Cell.ok] at hok
  obtain ⟨_,_,_,hsp,row,cells,hsh,hlie⟩:=hok
  obtain ⟨b,off,sp⟩:=a
  simp only at hsp hsh
  subst hsp
  have hlay:=lay_of hlie
  refine ⟨some ⟨b,off,none⟩,c,zs.take l,by rw [hlen],⟨by omega,by unfold maxLen at hm;omega,fun hne=>?_⟩,fun x hx=>?_⟩
  ·unfold World.shape? at hsh
   split at hsh
   ·rename_i cs elem fr hb
    simp only [Option.some.injEq,Prod.mk.injEq] at hsh
    obtain ⟨rfl,_⟩:=hsh
    refine ⟨b,off,cs,fr,rfl,⟨_,hlay,hb⟩,fun i hi=>?_⟩
    have hi':i<zs.length:=by omega
    have h1:=hcell i hi'
    rw [Kf,cell_of_row w b _ cs _ fr hb] at h1
    rw [h1]
    have:i<l:=by omega
    simp [List.getD,List.getElem?_take,this]
   ·cases hsh
  ·have h1:=hwz x (List.mem_of_mem_take hx)
   have h2:IntKind.u32.min≤x∧x≤IntKind.u32.max:=by simpa [Lit.wf] using h1
   have e1:IntKind.u32.min=0:=by decide
   have e2:IntKind.u32.max=4294967295:=by decide
   omega
def PW (x:Int):Prop:=-9223372036854775808≤x∧x<9223372036854775808
theorem in64 {x:Int} (h:(Lit.int .i64 x).wf=true):PW x:=by
 have h2:IntKind.i64.min≤x∧x≤IntKind.i64.max:=by simpa [Lit.wf] using h
 have e1:IntKind.i64.min = -9223372036854775808:=by decide
 have e2:IntKind.i64.max=9223372036854775807:=by decide
 unfold PW
 omega
theorem len3 {l:List Value} (h:l.length=3):∃a b c,l=[a,b,c]:=by
 match l,h with
 | [a,b,c],_=>exact ⟨a,b,c,rfl⟩
theorem len6 {l:List Value} (h:l.length=6):∃a b c d e f,l=[a,b,c,d,e,f]:=by
 match l,h with
 | [a,b,c,d,e,f],_=>exact ⟨a,b,c,d,e,f,rfl⟩
theorem c25:Tryz.prog.cellsOf 25=2:=by kernel_rfl
theorem c27:Tryz.prog.cellsOf 27=3:=by kernel_rfl
theorem c29:Tryz.prog.cellsOf 29=6:=by kernel_rfl
theorem c65:Tryz.prog.cellsOf 65=3:=by kernel_rfl
theorem c23:Tryz.prog.cellsOf 23=1:=by kernel_rfl
theorem c3:Tryz.prog.cellsOf 3=1:=by kernel_rfl
theorem c4:Tryz.prog.cellsOf 4=1:=by kernel_rfl
theorem mem_at {α:Type} {xs:List α} {i:Nat} (h:i<xs.length):xs[i]? = some xs[i]:=List.getElem?_eq_getElem h
theorem fld {fs:Array Field} {n:Nat} {cs:List Value} {xs:List (DataW H × List MemPlace)} (hf:∀(i:Nat) (f:Field),fs[i]? = some f→DataW.trod enc Tryz.prog w 0 (fun _=>true) held n f.type ((cs.drop f.offset).take (Tryz.prog.cellsOf f.type))=xs[i]?)
  (hl:xs.length=fs.size) (i ty off k:Nat) {f:Field} (hi:fs[i]? = some f) (h1:f.type=ty) (h2:f.offset=off) (h3:Tryz.prog.cellsOf ty=k):∃y,DataW.trod enc Tryz.prog w 0 (fun _=>true) held n ty ((cs.drop off).take k)=some y:=by
 have h:=hf i f hi
 rw [h1,h2,h3] at h
 have hlt:i<xs.length:=by rw [hl];exact (Array.getElem?_eq_some_iff.1 hi).1
 exact ⟨_,h.trans (mem_at hlt)⟩
theorem OJ {fuel:Nat} {a b:Value} {x:DataW H × List MemPlace} (hok:Cell.okWide Tryz.prog w .any base 23 b) (h:DataW.trod enc Tryz.prog w 0 (fun _=>true) held fuel 25 [a,b]=some x) :
  ∃(i:Ar) (A:Option Addr) (c:Nat),a = .bool i.Neg∧b = .slice A (List.length i.Abs) c∧RLu w A c i.Abs∧Dig i.Abs:=by
 obtain ⟨xs,n,_,_,_,hl,hf⟩:=DataW.trod_struct Tryz.underlying25 h
 obtain ⟨y0,h0⟩:=fld hf hl 0 4 0 1 rfl rfl rfl c4
 obtain ⟨y1,h1⟩:=fld hf hl 1 23 1 1 rfl rfl rfl c23
 obtain ⟨s,h0,_⟩:=DataW.trod_bool Tryz.underlying4 h0
 obtain ⟨A,c,ys,rfl,hr,hd⟩:=PG Tryz.underlying23 hok h1
 refine ⟨⟨s,ys⟩,A,c,by simpa using h0,rfl,hr,hd⟩
theorem Og {fuel:Nat} {a b d:Value} {x:DataW H × List MemPlace} (hok:Cell.okWide Tryz.prog w .any base 23 b) (h:DataW.trod enc Tryz.prog w 0 (fun _=>true) held fuel 27 [a,b,d]=some x) :
  ∃(i:Aq) (A:Option Addr) (c:Nat),a = .bool i.Man.Neg∧b = .slice A (List.length i.Man.Abs) c∧d = .int .i64 i.Exp∧RLu w A c i.Man.Abs∧Dig i.Man.Abs∧PW i.Exp:=by
 obtain ⟨xs,n,_,_,_,hl,hf⟩:=DataW.trod_struct Tryz.underlying27 h
 obtain ⟨y0,h0⟩:=fld hf hl 0 25 0 2 rfl rfl rfl c25
 obtain ⟨y1,h1⟩:=fld hf hl 1 3 2 1 rfl rfl rfl c3
 obtain ⟨i,A,c,rfl,rfl,hr,hd⟩:=OJ hok h0
 obtain ⟨e,h1,_,hw⟩:=DataW.trod_int Tryz.underlying3 h1
 exact ⟨⟨i,e⟩,A,c,rfl,rfl,by simpa using h1,hr,hd,in64 hw⟩
theorem cells_rat {fuel:Nat} {a b d:Value} {x:DataW H × List MemPlace} (hok:Cell.okWide Tryz.prog w .any base 23 b) (hok':Cell.okWide Tryz.prog w .any base 23 d) (h:DataW.trod enc Tryz.prog w 0 (fun _=>true) held fuel 65 [a,b,d]=some x) :
  ∃(i:Ar) (A:Option Addr) (c:Nat) (ys:List Int) (A':Option Addr) (c':Nat),a = .bool i.Neg∧b = .slice A (List.length i.Abs) c∧d = .slice A' (List.length ys) c'∧RLu w A c i.Abs∧Dig i.Abs∧RLu w A' c' ys∧Dig ys:=by
 obtain ⟨xs,n,_,_,_,hl,hf⟩:=DataW.trod_struct Tryz.underlying65 h
 obtain ⟨y0,h0⟩:=fld hf hl 0 25 0 2 rfl rfl rfl c25
 obtain ⟨y1,h1⟩:=fld hf hl 1 23 2 1 rfl rfl rfl c23
 obtain ⟨i,A,c,rfl,rfl,hr,hd⟩:=OJ hok h0
 obtain ⟨A',c',ys,rfl,hr',hd'⟩:=PG Tryz.underlying23 hok' h1
 exact ⟨i,A,c,ys,A',c',rfl,rfl,rfl,hr,hd,hr',hd'⟩
theorem cells_span {fuel:Nat} {a b d a' b' d':Value} {x:DataW H × List MemPlace} (hok:Cell.okWide Tryz.prog w .any base 23 b) (hok':Cell.okWide Tryz.prog w .any base 23 b') (h:DataW.trod enc Tryz.prog w 0 (fun _=>true) held fuel 29 [a,b,d,a',b',d']=some x) :
  ∃(i:Am) (A:Option Addr) (c:Nat) (A':Option Addr) (c':Nat),[a,b,d,a',b',d']=[.bool i.Lo.Man.Neg,.slice A (List.length i.Lo.Man.Abs) c,.int .i64 i.Lo.Exp,.bool i.Hi.Man.Neg,.slice A' (List.length i.Hi.Man.Abs) c',.int .i64 i.Hi.Exp]∧
   (RLu w A c i.Lo.Man.Abs∧Dig i.Lo.Man.Abs∧PW i.Lo.Exp)∧(RLu w A' c' i.Hi.Man.Abs∧Dig i.Hi.Man.Abs∧PW i.Hi.Exp):=by
 obtain ⟨xs,n,_,_,_,hl,hf⟩:=DataW.trod_struct Tryz.underlying29 h
 obtain ⟨y0,h0⟩:=fld hf hl 0 27 0 3 rfl rfl rfl c27
 obtain ⟨y1,h1⟩:=fld hf hl 1 27 3 3 rfl rfl rfl c27
 obtain ⟨i,A,c,rfl,rfl,rfl,hr,hd,he⟩:=Og hok h0
 obtain ⟨i',A',c',rfl,rfl,rfl,hr',hd',he'⟩:=Og hok' h1
 exact ⟨⟨i,i'⟩,A,c,A',c',rfl,⟨hr,hd,he⟩,⟨hr',hd',he'⟩⟩
theorem QW {t u:TypeId} {i:Nat} {fs:Array Field} {ts:List TypeId} {v c:Value} (ht:Tryz.prog.underlying t=some (.struct fs)) (hts:Tryz.prog.cellTypes Tryz.prog.depth t=some ts)
  (hv:Value.okWide Tryz.prog w .any base t v) {cs:List Value} (hcs:v = .agg cs.toArray) (hi:cs[i]? = some c) (hl:i<ts.length) (hu:ts[i]? = some u):Cell.okWide Tryz.prog w .any base u c:=by
 subst hcs
 simp only [Value.okWide,ht] at hv
 obtain ⟨cs',hc,_,ts',h1,_,h2⟩:=hv
 simp only [Value.agg.injEq] at hc
 subst hc
 rw [hts] at h1
 obtain rfl:=Option.some.inj h1
 obtain ⟨u',h3,h4⟩:=h2 i c (by simpa using hi)
 rw [Nat.mod_eq_of_lt hl,hu] at h3
 obtain rfl:=Option.some.inj h3
 exact h4
theorem Sa {t:TypeId} {fs:Array Field} {v:Value} (ht:Tryz.prog.underlying t=some (.struct fs)) (hv:Value.okWide Tryz.prog w .any base t v):∃cs:List Value,v = .agg cs.toArray∧cs.length=Tryz.prog.cellsOf t:=by
 simp only [Value.okWide,ht] at hv
 obtain ⟨cs,hc,h1,_⟩:=hv
 exact ⟨cs.toList,by simpa using hc,by simpa using h1⟩
theorem ts29:Tryz.prog.cellTypes Tryz.prog.depth 29=some [4,23,3,4,23,3]:=by kernel_rfl
theorem ts65:Tryz.prog.cellTypes Tryz.prog.depth 65=some [4,23,23]:=by kernel_rfl
theorem open_span {v:Value} {d:DataW H} {p:List MemPlace} (hv:Value.okWide Tryz.prog w .any base 29 v) (h:DataW.Trod enc Tryz.prog w 0 (fun _=>true) held 29 v d p) :
  ∃(i:Am) (A:Option Addr) (c:Nat) (A':Option Addr) (c':Nat),v = .agg #[.bool i.Lo.Man.Neg,.slice A (List.length i.Lo.Man.Abs) c,.int .i64 i.Lo.Exp,.bool i.Hi.Man.Neg,.slice A' (List.length i.Hi.Man.Abs) c',.int .i64 i.Hi.Exp]∧
   (RLu w A c i.Lo.Man.Abs∧Dig i.Lo.Man.Abs∧PW i.Lo.Exp)∧(RLu w A' c' i.Hi.Man.Abs∧Dig i.Hi.Man.Abs∧PW i.Hi.Exp):=by
 obtain ⟨cs,rfl,hl⟩:=Sa Tryz.underlying29 hv
 rw [c29] at hl
 obtain ⟨a,b,e,a',b',e',rfl⟩:=len6 hl
 obtain ⟨fuel,hf⟩:=h
 obtain ⟨i,A,c,A',c',h0,h1⟩:=cells_span (QW (i:=1) Tryz.underlying29 ts29 hv rfl rfl (by decide) rfl) (QW (i:=4) Tryz.underlying29 ts29 hv rfl rfl (by decide) rfl) hf
 exact ⟨i,A,c,A',c',by rw [h0],h1⟩
theorem PS {v:Value} {d:DataW H} {p:List MemPlace} (hv:Value.okWide Tryz.prog w .any base 65 v) (h:DataW.Trod enc Tryz.prog w 0 (fun _=>true) held 65 v d p) :
  ∃(i:BT) (A:Option Addr) (c:Nat) (A':Option Addr) (c':Nat),v = .agg #[.bool i.Num.Neg,.slice A (List.length i.Num.Abs) c,.slice A' (List.length i.Den) c']∧(RLu w A c i.Num.Abs∧Dig i.Num.Abs)∧(RLu w A' c' i.Den∧Dig i.Den):=by
 obtain ⟨cs,rfl,hl⟩:=Sa Tryz.underlying65 hv
 rw [c65] at hl
 obtain ⟨a,b,e,rfl⟩:=len3 hl
 obtain ⟨fuel,hf⟩:=h
 obtain ⟨i,A,c,ys,A',c',rfl,rfl,rfl,h1,h2,h3,h4⟩:=cells_rat (QW (i:=1) Tryz.underlying65 ts65 hv rfl rfl (by decide) rfl) (QW (i:=2) Tryz.underlying65 ts65 hv rfl rfl (by decide) rfl) hf
 exact ⟨⟨i,ys⟩,A,c,A',c',rfl,⟨h1,h2⟩,h3,h4⟩
end
theorem Pl:laidOutB Tryz.prog=true:=by kernel_rfl
theorem gTab : Tryz.prog.globalNamed "math/bits.deBruijn32tab" = some 0 := by kernel_rfl
theorem gTabType:(Tryz.prog.globals[0]?).map (·.type)=some 272:=by kernel_rfl
theorem own:ownKnob Tryz.prog.godebug=none:=by kernel_rfl
end Go.Proofs.Fr
