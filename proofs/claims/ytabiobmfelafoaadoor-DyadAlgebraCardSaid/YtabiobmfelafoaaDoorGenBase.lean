import Derived.Test.YtabiobmfelafoaaDoorProg
import Derived.Test.YtabiobmfelafoaaDoorCor
import Derived.Test.YtabiobmfelafoaaDoorRow
import Derived.Test.YtabiobmfelafoaaDoorLA
namespace Go.Proofs
set_option linter.unusedVariables false
set_option linter.unusedSimpArgs false
set_option maxHeartbeats 4000000
open Go.RowKit Go.Sb Go.Proofs.Sbn
structure Ay where
 Neg:Bool
 Abs:List Int
structure Al where
 Man:Ay
 Exp:Int
structure AF where
 Lo:Al
 Hi:Al
structure Ag where
 Neg:Bool
 Abs:Nat
structure Af where
 Man:Ag
 Exp:Int
structure An where
 m:Ag
 e:Int
structure AD where
 Lo:Af
 Hi:Af
structure Av where
 lo:An
 hi:An
theorem Ct:agg Tryd.prog 41 6=true:=by kernel_rfl
theorem HN:fieldAt Tryd.prog 41 0=some 0:=by kernel_rfl
theorem As:agg Tryd.prog 27 3=true:=by kernel_rfl
theorem HL:fieldAt Tryd.prog 41 1=some 3:=by kernel_rfl
theorem Bn:FX Tryd.prog 27 [.bool false,.slice none 0 0,.int .i64 0]:=EF (by kernel_rfl)
theorem EW:Tryd.prog.underlying 29=some (.slice 27):=by kernel_rfl
theorem AL:Dx Tryd.prog 27 3=true:=by kernel_rfl
theorem Er:fieldAt Tryd.prog 27 0=some 0:=by kernel_rfl
theorem Du:fieldAt Tryd.prog 25 1=some 1:=by kernel_rfl
theorem Fl:HS Tryd.prog 23=true:=by kernel_rfl
theorem CQ:Tryd.prog.underlying 23=some (.slice 97):=by kernel_rfl
theorem GR:agg Tryd.prog 25 2=true:=by kernel_rfl
theorem en_105:Ent Tryd.prog 105:=ent Tryd.func105 (by kernel_rfl) rfl
theorem Hs:fieldAt Tryd.prog 25 0=some 0:=by kernel_rfl
theorem Gq:HS Tryd.prog 4=true:=by kernel_rfl
theorem en_81:Ent Tryd.prog 81:=ent Tryd.func81 (by kernel_rfl) rfl
theorem Ff:fieldAt Tryd.prog 27 1=some 2:=by kernel_rfl
theorem Ex:HS Tryd.prog 3=true:=by kernel_rfl
theorem Ko:Ent Tryd.prog 82:=ent Tryd.func82 (by kernel_rfl) rfl
theorem en_47:Ent Tryd.prog 47:=ent Tryd.func47 (by kernel_rfl) rfl
theorem mo:Tryd.prog.follows .mixedOrders=true:=by kernel_rfl
theorem en_100:Ent Tryd.prog 100:=ent Tryd.func100 (by kernel_rfl) rfl
theorem Ln:Ent Tryd.prog 66:=ent Tryd.func66 (by kernel_rfl) rfl
theorem AR:Dx Tryd.prog 97 1=true:=by kernel_rfl
theorem Cr:HS Tryd.prog 97=true:=by kernel_rfl
theorem Im:Ent Tryd.prog 27:=ent Tryd.func27 (by kernel_rfl) rfl
theorem AG:FX Tryd.prog 63 [.bool false,.slice none 0 0,.int .i64 0]:=EF (by kernel_rfl)
theorem Gg:FX Tryd.prog 61 [.bool false,.slice none 0 0]:=EF (by kernel_rfl)
theorem FF:Dx Tryd.prog 61 2=true:=by kernel_rfl
theorem DZ:agg Tryd.prog 61 2=true:=by kernel_rfl
theorem Kp:Ent Tryd.prog 45:=ent Tryd.func45 (by kernel_rfl) rfl
theorem CA:Dx Tryd.prog 63 3=true:=by kernel_rfl
theorem BT:Ent Tryd.prog 40:=ent Tryd.func40 (by kernel_rfl) rfl
theorem Ci:fieldAt Tryd.prog 63 0=some 0:=by kernel_rfl
theorem BI:fieldAt Tryd.prog 61 1=some 1:=by kernel_rfl
theorem Dv:HS Tryd.prog 59=true:=by kernel_rfl
theorem AB:Tryd.prog.underlying 59=some (.slice 97):=by kernel_rfl
theorem Eb:fieldAt Tryd.prog 61 0=some 0:=by kernel_rfl
theorem en_91:Ent Tryd.prog 91:=ent Tryd.func91 (by kernel_rfl) rfl
theorem Hk:Ent Tryd.prog 58:=ent Tryd.func58 (by kernel_rfl) rfl
theorem Le:Ent Tryd.prog 86:=ent Tryd.func86 (by kernel_rfl) rfl
theorem Db:fieldAt Tryd.prog 63 1=some 2:=by kernel_rfl
theorem Jc:Ent Tryd.prog 87:=ent Tryd.func87 (by kernel_rfl) rfl
theorem JY:Ent Tryd.prog 73:=ent Tryd.func73 (by kernel_rfl) rfl
theorem en_76:Ent Tryd.prog 76:=ent Tryd.func76 (by kernel_rfl) rfl
theorem KR:Ent Tryd.prog 41:=ent Tryd.func41 (by kernel_rfl) rfl
theorem HH:Ent Tryd.prog 88:=ent Tryd.func88 (by kernel_rfl) rfl
theorem KM:Ent Tryd.prog 94:=ent Tryd.func94 (by kernel_rfl) rfl
theorem Lb:Tryd.prog.underlying 4=some .bool:=by kernel_rfl
theorem Kl:Ent Tryd.prog 98:=ent Tryd.func98 (by kernel_rfl) rfl
theorem Jv:Ent Tryd.prog 96:=ent Tryd.func96 (by kernel_rfl) rfl
theorem Ka:Ent Tryd.prog 89:=ent Tryd.func89 (by kernel_rfl) rfl
theorem en_72:Ent Tryd.prog 72:=ent Tryd.func72 (by kernel_rfl) rfl
theorem en_101:Ent Tryd.prog 101:=ent Tryd.func101 (by kernel_rfl) rfl
theorem Jz:Ent Tryd.prog 95:=ent Tryd.func95 (by kernel_rfl) rfl
theorem Jw:Ent Tryd.prog 67:=ent Tryd.func67 (by kernel_rfl) rfl
theorem en_71:Ent Tryd.prog 71:=ent Tryd.func71 (by kernel_rfl) rfl
theorem en_70:Ent Tryd.prog 70:=ent Tryd.func70 (by kernel_rfl) rfl
theorem KT:Ent Tryd.prog 33:=ent Tryd.func33 (by kernel_rfl) rfl
theorem HM:Ent Tryd.prog 50:=ent Tryd.func50 (by kernel_rfl) rfl
theorem Ly:Ent Tryd.prog 18:=ent Tryd.func18 (by kernel_rfl) rfl
theorem KS:FX Tryd.prog 25 [.bool false,.slice none 0 0]:=EF (by kernel_rfl)
theorem it_3:Tryd.prog.underlying 3=some (.int .i64):=by kernel_rfl
theorem Bw:Tryd.prog.underlying 101=some (.int .u64):=by kernel_rfl
theorem LG:Ent Tryd.prog 69:=ent Tryd.func69 (by kernel_rfl) rfl
theorem Ke:Dx Tryd.prog 25 2=true:=by kernel_rfl
theorem Ls:Ent Tryd.prog 68:=ent Tryd.func68 (by kernel_rfl) rfl
theorem Lh:Ent Tryd.prog 29:=ent Tryd.func29 (by kernel_rfl) rfl
theorem Hz:FX Tryd.prog 31 [.int .i64 0]:=EF (by kernel_rfl)
theorem JV:Tryd.prog.underlying 20=some (.interface #[]):=by kernel_rfl
theorem JL:KX Tryd.prog 107=true:=by kernel_rfl
theorem KV:FX Tryd.prog 107 [.int .i64 0]:=EF (by kernel_rfl)
theorem KL:Dx Tryd.prog 107 1=true:=by kernel_rfl
theorem JA:fieldAt Tryd.prog 107 0=some 0:=by kernel_rfl
theorem Cx:HS Tryd.prog 31=true:=by kernel_rfl
theorem Gt:Dx Tryd.prog 31 1=true:=by kernel_rfl
theorem DO:Ent Tryd.prog 44:=ent Tryd.func44 (by kernel_rfl) rfl
theorem DU:Ent Tryd.prog 38:=ent Tryd.func38 (by kernel_rfl) rfl
theorem Kq:Ent Tryd.prog 77:=ent Tryd.func77 (by kernel_rfl) rfl
theorem sz_59:Dx Tryd.prog 59 1=true:=by kernel_rfl
theorem en_78:Ent Tryd.prog 78:=ent Tryd.func78 (by kernel_rfl) rfl
theorem FD:Ent Tryd.prog 42:=ent Tryd.func42 (by kernel_rfl) rfl
theorem en_28:Ent Tryd.prog 28:=ent Tryd.func28 (by kernel_rfl) rfl
theorem en_79:Ent Tryd.prog 79:=ent Tryd.func79 (by kernel_rfl) rfl
theorem en_80:Ent Tryd.prog 80:=ent Tryd.func80 (by kernel_rfl) rfl
theorem en_46:Ent Tryd.prog 46:=ent Tryd.func46 (by kernel_rfl) rfl
theorem GG:Ent Tryd.prog 15:=ent Tryd.func15 (by kernel_rfl) rfl
theorem GS:Ent Tryd.prog 39:=ent Tryd.func39 (by kernel_rfl) rfl
theorem Il:Ent Tryd.prog 62:=ent Tryd.func62 (by kernel_rfl) rfl
theorem LA:Ent Tryd.prog 63:=ent Tryd.func63 (by kernel_rfl) rfl
theorem Ho:FX Tryd.prog 97 [.int .u32 0]:=EF (by kernel_rfl)
theorem en_97:Ent Tryd.prog 97:=ent Tryd.func97 (by kernel_rfl) rfl
theorem JB:Ent Tryd.prog 64:=ent Tryd.func64 (by kernel_rfl) rfl
theorem Lw:Ent Tryd.prog 24:=ent Tryd.func24 (by kernel_rfl) rfl
theorem Fo:FX Tryd.prog 41 [.bool false,.slice none 0 0,.int .i64 0,.bool false,.slice none 0 0,.int .i64 0]:=EF (by kernel_rfl)
theorem EI:Dx Tryd.prog 41 6=true:=by kernel_rfl
theorem Ik:Ent Tryd.prog 30:=ent Tryd.func30 (by kernel_rfl) rfl
theorem HU:Tryd.prog.underlying 132=some (.slice 41):=by kernel_rfl
theorem Jb:Ent Tryd.prog 84:=ent Tryd.func84 (by kernel_rfl) rfl
theorem GQ:Ent Tryd.prog 83:=ent Tryd.func83 (by kernel_rfl) rfl
theorem Lz:FX Tryd.prog 80 [.bool false,.slice none 0 0,.int .i64 0,.bool false,.slice none 0 0,.int .i64 0]:=EF (by kernel_rfl)
theorem Ld:Dx Tryd.prog 80 6=true:=by kernel_rfl
theorem Ip:agg Tryd.prog 80 6=true:=by kernel_rfl
theorem Ja:Ent Tryd.prog 85:=ent Tryd.func85 (by kernel_rfl) rfl
theorem LH:FX Tryd.prog 85 [.pointer none]:=EF (by kernel_rfl)
theorem Lm:Ent Tryd.prog 55:=ent Tryd.func55 (by kernel_rfl) rfl
theorem Lr:Ent Tryd.prog 90:=ent Tryd.func90 (by kernel_rfl) rfl
theorem Kw:Ent Tryd.prog 103:=ent Tryd.func103 (by kernel_rfl) rfl
theorem en_75:Ent Tryd.prog 75:=ent Tryd.func75 (by kernel_rfl) rfl
theorem KK:Ent Tryd.prog 36:=ent Tryd.func36 (by kernel_rfl) rfl
theorem EZ:HS Tryd.prog 85=true:=by kernel_rfl
theorem JU:Tryd.prog.underlying 85=some (.pointer 80):=by kernel_rfl
theorem Lk:Dx Tryd.prog 85 1=true:=by kernel_rfl
theorem en_56:Ent Tryd.prog 56:=ent Tryd.func56 (by kernel_rfl) rfl
theorem IR:Ent Tryd.prog 51:=ent Tryd.func51 (by kernel_rfl) rfl
theorem Lu:Ent Tryd.prog 54:=ent Tryd.func54 (by kernel_rfl) rfl
theorem KO:Ent Tryd.prog 48:=ent Tryd.func48 (by kernel_rfl) rfl
theorem en_21:Ent Tryd.prog 21:=ent Tryd.func21 (by kernel_rfl) rfl
theorem en_74:Ent Tryd.prog 74:=ent Tryd.func74 (by kernel_rfl) rfl
theorem en_35:Ent Tryd.prog 35:=ent Tryd.func35 (by kernel_rfl) rfl
theorem It:Ent Tryd.prog 9:=ent Tryd.func9 (by kernel_rfl) rfl
theorem Ku:Ent Tryd.prog 31:=ent Tryd.func31 (by kernel_rfl) rfl
theorem Ll:Ent Tryd.prog 92:=ent Tryd.func92 (by kernel_rfl) rfl
theorem DH:Ent Tryd.prog 59:=ent Tryd.func59 (by kernel_rfl) rfl
theorem LC:Ent Tryd.prog 57:=ent Tryd.func57 (by kernel_rfl) rfl
theorem Lx:Ent Tryd.prog 22:=ent Tryd.func22 (by kernel_rfl) rfl
theorem en_93:Ent Tryd.prog 93:=ent Tryd.func93 (by kernel_rfl) rfl
theorem Lj:Ent Tryd.prog 61:=ent Tryd.func61 (by kernel_rfl) rfl
theorem LD:Ent Tryd.prog 60:=ent Tryd.func60 (by kernel_rfl) rfl
theorem en_23:Ent Tryd.prog 23:=ent Tryd.func23 (by kernel_rfl) rfl
theorem en_7:Ent Tryd.prog 7:=ent Tryd.func7 (by kernel_rfl) rfl
theorem Lg:Ent Tryd.prog 34:=ent Tryd.func34 (by kernel_rfl) rfl
theorem Jt:fieldAt Tryd.prog 66 1=some 1:=by kernel_rfl
theorem Kt:HS Tryd.prog 64=true:=by kernel_rfl
theorem Jl:fieldAt Tryd.prog 66 0=some 0:=by kernel_rfl
theorem KI:HS Tryd.prog 57=true:=by kernel_rfl
theorem KG:Ent Tryd.prog 32:=ent Tryd.func32 (by kernel_rfl) rfl
theorem JP:Ent Tryd.prog 8:=ent Tryd.func8 (by kernel_rfl) rfl
theorem en_37:Ent Tryd.prog 37:=ent Tryd.func37 (by kernel_rfl) rfl
theorem GP:Ent Tryd.prog 10:=ent Tryd.func10 (by kernel_rfl) rfl
theorem Lv:Ent Tryd.prog 11:=ent Tryd.func11 (by kernel_rfl) rfl
theorem KH:Ent Tryd.prog 26:=ent Tryd.func26 (by kernel_rfl) rfl
theorem en_6:Ent Tryd.prog 6:=ent Tryd.func6 (by kernel_rfl) rfl
theorem en_12:Ent Tryd.prog 12:=ent Tryd.func12 (by kernel_rfl) rfl
theorem en_43:Ent Tryd.prog 43:=ent Tryd.func43 (by kernel_rfl) rfl
theorem en_13:Ent Tryd.prog 13:=ent Tryd.func13 (by kernel_rfl) rfl
theorem en_14:Ent Tryd.prog 14:=ent Tryd.func14 (by kernel_rfl) rfl
def EO (_w:World) (r:Bool) (v:Value):Prop:=v = .bool r
def Gn (w:World) (r:An) (v:Value):Prop:=∃(A1:Option Addr) (c1:Nat),v = .agg #[.bool r.m.Neg,.slice A1 (sz r.m.Abs) c1,.int .i64 r.e]∧RU w A1 c1 r.m.Abs
def II (w:World) (r:Ag) (v:Value):Prop:=∃(A1:Option Addr) (c1:Nat),v = .agg #[.bool r.Neg,.slice A1 (sz r.Abs) c1]∧RU w A1 c1 r.Abs
def FW (_w:World) (r:Int) (v:Value):Prop:=v = .int .i64 r
def JG (w:World) (r:Ag) (v:Value):Prop:=∃(A1:Option Addr) (c1:Nat),v = .agg #[.bool r.Neg,.slice A1 (sz r.Abs) c1]∧RU w A1 c1 r.Abs
def Ey (w:World) (r:Af × Int) (v:Value):Prop:=∃(A1:Option Addr) (c1:Nat),v = .tuple #[.agg #[.bool r.1.Man.Neg,.slice A1 (sz r.1.Man.Abs) c1,.int .i64 r.1.Exp],.int .i64 r.2]∧RU w A1 c1 r.1.Man.Abs
def IU (_w:World) (_r:Unit) (v:Value):Prop:=v = .tuple #[]
def Ju (w:World) (r:Af) (v:Value):Prop:=∃(A1:Option Addr) (c1:Nat),v = .agg #[.bool r.Man.Neg,.slice A1 (sz r.Man.Abs) c1,.int .i64 r.Exp]∧RU w A1 c1 r.Man.Abs
def IH (w:World) (r:AD) (v:Value):Prop:=∃(A1:Option Addr) (c1:Nat) (A2:Option Addr) (c2:Nat),v = .agg #[.bool r.Lo.Man.Neg,.slice A1 (sz r.Lo.Man.Abs) c1,.int .i64 r.Lo.Exp,.bool r.Hi.Man.Neg,.slice A2 (sz r.Hi.Man.Abs) c2,.int .i64 r.Hi.Exp]∧RU w A1 c1 r.Lo.Man.Abs∧RU w A2 c2 r.Hi.Man.Abs
def Gf (w:World) (r:AD × Int) (v:Value):Prop:=∃(A1:Option Addr) (c1:Nat) (A2:Option Addr) (c2:Nat),v = .tuple #[.agg #[.bool r.1.Lo.Man.Neg,.slice A1 (sz r.1.Lo.Man.Abs) c1,.int .i64 r.1.Lo.Exp,.bool r.1.Hi.Man.Neg,.slice A2 (sz r.1.Hi.Man.Abs) c2,.int .i64 r.1.Hi.Exp],.int .i64 r.2]∧RU w A1 c1 r.1.Lo.Man.Abs∧RU w A2 c2 r.1.Hi.Man.Abs
def KZ (w:World) (r:Av) (v:Value):Prop:=∃(A1:Option Addr) (c1:Nat) (A2:Option Addr) (c2:Nat),v = .agg #[.bool r.lo.m.Neg,.slice A1 (sz r.lo.m.Abs) c1,.int .i64 r.lo.e,.bool r.hi.m.Neg,.slice A2 (sz r.hi.m.Abs) c2,.int .i64 r.hi.e]∧RU w A1 c1 r.lo.m.Abs∧RU w A2 c2 r.hi.m.Abs
def IV (w:World) (r:Nat × Nat) (v:Value):Prop:=∃(A1:Option Addr) (c1:Nat) (A2:Option Addr) (c2:Nat),v = .tuple #[.slice A1 (sz r.1) c1,.slice A2 (sz r.2) c2]∧RU w A1 c1 r.1∧RU w A2 c2 r.2
def Iu (_w:World) (r:Int) (v:Value):Prop:=v = .int .u64 r
def HZ (w:World) (r:Nat) (v:Value):Prop:=∃(A1:Option Addr) (c1:Nat),v = .slice A1 (sz r) c1∧RU w A1 c1 r
def KA (w:World) (r:Nat) (v:Value):Prop:=∃(A1:Option Addr) (c1:Nat),v = .slice A1 (sz r) c1∧RU w A1 c1 r
abbrev Bp (x0:List Int):Option (Bool):=Lf.Bp x0
abbrev Bt (x0:List Int) (x1:Int):Option (Int):=Lf.Bt x0 x1
abbrev EM (x0:List Int):Option (Bool):=Lf.EM x0
def Bk (x0:Nat):Option (Int):=(gd (sz x0<1073741824)).bind fun _=>some (Lf.bl x0:Int)
def Bf (x0:Nat) (x1:Int):Option (Nat):=(gd (sz x0<1073741824∧0≤x1∧x1<34359738368)).bind fun _=>some (x0*2^x1.toNat)
def Ca (x0:Nat) (x1:Nat):Option (Nat):=(gd (sz x0<1073741824∧sz x1<1073741824)).bind fun _=>some (x0+x1)
def BN (x0:Nat) (x1:Nat):Option (Int):=(gd (sz x0<1073741824∧sz x1<1073741824)).bind fun _=>some (Lf.cmpw x0 x1)
def BP (x0:Nat) (x1:Nat):Option (Nat):=(gd (sz x0<1073741824∧sz x1<1073741824∧x1≤x0)).bind fun _=>some (x0 - x1)
def Cc (x0:Nat):Option (Int):=(gd (sz x0<1073741824)).bind fun _=>some (Lf.tz x0:Int)
def BS (x0:Nat) (x1:Int):Option (Nat):=(gd (sz x0<1073741824∧0≤x1∧x1<9223372036854775808)).bind fun _=>some (x0/2^x1.toNat)
def Cf (x0:Int):Option (Nat):=(gd (0≤x0∧x0<18446744073709551616)).bind fun _=>some (x0.toNat)
def Ch (x0:Nat):Option (Nat):=(gd (sz x0<1073741824)).bind fun _=>some (x0)
def Bq (x0:Nat):Option (Int):=(gd (sz x0<1073741824)).bind fun _=>some (Lf.tz x0:Int)
def BJ (x0:Nat) (x1:Int):Option (Nat):=(gd (sz x0<1073741824∧0≤x1∧x1<9223372036854775808)).bind fun _=>some (x0/2^x1.toNat)
def Cj (x0:Nat) (x1:Nat):Option (Nat):=(gd (sz x0<1073741824∧sz x1<1073741824)).bind fun _=>some (x0*x1)
abbrev BD (x0:List Int) (x1:List Int):Option (Bool):=Lf.BD x0 x1
def Cq (x0:Nat) (x1:Nat):Option (Nat × Nat):=(gd (sz x0<1073741824∧sz x1<1073741824∧x1≠0)).bind fun _=>some (x0/x1,x0%x1)
def CH (x0:Ay):Option (Bool):=
 (Bp x0.Abs).bind fun r0a=>
 (if r0a=true then (if ¬(x0.Neg=true) then some (true) else some (decide (0<(x0.Abs.length:Int)))).bind fun m1a=>
 some (m1a) else some (false)).bind fun m2a=>
 some m2a
def Cp (x0:Al):Option (Bool):=
 (CH x0.Man).bind fun r0a=>
 if ¬(r0a=true) then some false else if (x0.Man.Abs.length:Int)=0 then some (decide (x0.Exp=0)) else (Bt x0.Man.Abs 0).bind fun r1a=>
 (if r1a=1 then some (decide ((-1048576)≤x0.Exp)) else some (false)).bind fun m2a=>
 (if m2a=true then some (decide (x0.Exp≤1048576)) else some (false)).bind fun m3a=>
 some m3a
def EB (x0:Ay):Option (Bool):=
 (EM x0.Abs).bind fun r0a=>
 (if r0a=true then (if ¬(x0.Neg=true) then some (true) else some (decide (0<(x0.Abs.length:Int)))).bind fun m1a=>
 some (m1a) else some (false)).bind fun m2a=>
 some m2a
def Cg (x0:Al):Option (Bool):=
 (EB x0.Man).bind fun r0a=>
 if ¬(r0a=true) then some false else if (x0.Man.Abs.length:Int)=0 then some (decide (x0.Exp=0)) else (nth x0.Man.Abs 0).bind fun u1a=>
 (if (u1a%2)=1 then some (decide (x0.Exp≤1048576)) else some (false)).bind fun m2a=>
 (if m2a=true then some (decide ((-1048576)≤x0.Exp)) else some (false)).bind fun m3a=>
 some m3a
def Fm (x0:Ag):Option (Ag):=
 some x0
def Dj (x0:Af):Option (An):=
 (Fm x0.Man).bind fun r0a=>
 some (⟨r0a,x0.Exp⟩:An)
def Fg (x0:Ag):Option (Int):=
 if (sz x0.Abs:Int)=0 then some 0 else if x0.Neg=true then some (-1) else some 1
def Bl (x0:An):Option (Int):=
 (Fg x0.m).bind fun r0a=>
 some r0a
def Fx (x0:Int) (x1:Int):Option (Int):=
 if x0<x1 then some (-1) else if x1<x0 then some 1 else some 0
def Dr (x0:An):Option (Int):=
 (Bk x0.m.Abs).bind fun r0a=>
 some (wi64 ((wi64 (r0a - 1))+x0.e))
def ES (x0:Ag):Option (Ag):=
 some (⟨(decide (¬(x0.Neg=true))),x0.Abs⟩:Ag)
def Dl (x0:An):Option (An):=
 (ES x0.m).bind fun r0a=>
 some (⟨r0a,x0.e⟩:An)
def Ds (x0:Ag) (x1:Int):Option (Ag):=
 (Bf x0.Abs x1).bind fun r0a=>
 some (⟨x0.Neg,r0a⟩:Ag)
def DM (x0:Ag) (x1:Ag):Option (Ag):=
 if x0.Neg=x1.Neg then (Ca x0.Abs x1.Abs).bind fun r0a=>
 some (⟨x0.Neg,r0a⟩:Ag) else (BN x0.Abs x1.Abs).bind fun r1a=>
 if 0≤r1a then (BP x0.Abs x1.Abs).bind fun r2a=>
 some (⟨x0.Neg,r2a⟩:Ag) else (BP x1.Abs x0.Abs).bind fun r3a=>
 some (⟨x1.Neg,r3a⟩:Ag)
def CS (x0:Ag) (x1:Int):Option (An):=
 if (sz x0.Abs:Int)=0 then some (⟨(⟨false,0⟩:Ag),0⟩:An) else (Cc x0.Abs).bind fun r0a=>
 (BS x0.Abs r0a).bind fun r1a=>
 some (⟨(⟨x0.Neg,r1a⟩:Ag),(wi64 (x1+r0a))⟩:An)
def CT (x0:Ag) (x1:Ag) (x2:Int):Option (An):=
 (DM x0 x1).bind fun r0a=>
 (CS r0a x2).bind fun r1a=>
 some r1a
def Bm (x0:An) (x1:An):Option (An):=
 (if (sz x0.m.Abs:Int)=0 then some (x1.e) else some (min x0.e x1.e)).bind fun m5a=>
 (if (sz x1.m.Abs:Int)=0 then some (x0.e) else some (m5a)).bind fun m0a=>
 (if 0<(sz x0.m.Abs:Int) then (Ds x0.m (wi64 (x0.e - m0a))).bind fun r1a=>
 some (r1a.Neg,r1a.Abs) else some (x0.m.Neg,x0.m.Abs)).bind fun m2a=>
 (if 0<(sz x1.m.Abs:Int) then (Ds x1.m (wi64 (x1.e - m0a))).bind fun r3a=>
 some (r3a.Neg,r3a.Abs) else some (x1.m.Neg,x1.m.Abs)).bind fun m4a=>
 (CT (⟨m2a.1,m2a.2⟩:Ag) (⟨m4a.1,m4a.2⟩:Ag) m0a).bind fun r6a=>
 some r6a
def AQ (x0:An) (x1:An):Option (An):=
 (Bm x0 x1).bind fun r0a=>
 some r0a
def Cl (x0:An) (x1:An):Option (Int):=
 (Bl x0).bind fun r0a=>
 (Bl x1).bind fun r1a=>
 (if ¬r0a=r1a then some (true) else some (decide (r0a=0))).bind fun m4a=>
 if m4a=true then (Fx r0a r1a).bind fun r5a=>
 some r5a else (Dr x0).bind fun r2a=>
 (Dr x1).bind fun r3a=>
 if ¬r2a=r3a then (Bl x0).bind fun r6a=>
 (Fx r2a r3a).bind fun r7a=>
 some (wi64 (r6a*r7a)) else (Dl x1).bind fun r8a=>
 (AQ x0 r8a).bind fun r9a=>
 (Bl r9a).bind fun r0b=>
 some r0b
def FN (x0:AF):Option (Bool):=
 (Cg x0.Lo).bind fun r0a=>
 if r0a=true then (Cg x0.Hi).bind fun r1a=>
 if r1a=true then (toN x0.Lo.Man.Abs).bind fun m2a=>
 (Dj (⟨(⟨x0.Lo.Man.Neg,m2a⟩:Ag),x0.Lo.Exp⟩:Af)).bind fun r3a=>
 (toN x0.Hi.Man.Abs).bind fun m4a=>
 (Dj (⟨(⟨x0.Hi.Man.Neg,m4a⟩:Ag),x0.Hi.Exp⟩:Af)).bind fun r5a=>
 (Cl r3a r5a).bind fun r6a=>
 some (decide (r6a≤0)) else some false else some false
def DN (x0:Bool) (x1:Nat):Option (Ag):=
 (if x0=true then some (decide (0<(sz x1:Int))) else some (false)).bind fun m0a=>
 some (⟨m0a,x1⟩:Ag)
def Dn (x0:Int):Option (Ag):=
 if x0<0 then (Cf (wu64 (wi64 (-x0)))).bind fun r0a=>
 (DN true r0a).bind fun r1a=>
 some r1a else (Cf (wu64 x0)).bind fun r2a=>
 (DN false r2a).bind fun r3a=>
 some r3a
def BG (x0:Bool) (x1:Int):M (Unit):=
 if ¬(x0=true) then some (.error x1) else some (.ok ())
def EJ (x0:Ag):Option (Ag):=
 (if x0.Neg=true then some (decide (0<(sz x0.Abs:Int))) else some (false)).bind fun m0a=>
 some (⟨m0a,x0.Abs⟩:Ag)
def Bv (x0:An):M (Af):=
 (if (sz x0.m.Abs:Int)≤1024 then some (decide (x0.e≤1048576)) else some (false)).bind fun m0a=>
 (if m0a=true then some (decide ((-1048576)≤x0.e)) else some (false)).bind fun m1a=>
 mb (BG m1a 2) fun r4a=>
 (Ch x0.m.Abs).bind fun r2a=>
 (EJ (⟨x0.m.Neg,r2a⟩:Ag)).bind fun r3a=>
 some (.ok (⟨r3a,x0.e⟩:Af))
def HK (x0:Ay) (x1:Int):M (Af × Int):=
 (EB x0).bind fun r0a=>
 mb (BG r0a 1) fun r5a=>
 if (x0.Abs.length:Int)=0 then some (.ok ((⟨(⟨false,0⟩:Ag),0⟩:Af),0)) else (toN x0.Abs).bind fun m1a=>
 (Fm (⟨x0.Neg,m1a⟩:Ag)).bind fun r2a=>
 (CS r2a (max (-1099511627776) (min x1 1099511627776))).bind fun r3a=>
 mb (Bv r3a) fun r4a=>
 some (.ok (r4a,0))
def Hg (x0:Ay) (x1:Int):Option (Af × Int):=(HK x0 x1).bind fun q=>match q with | .ok r=>some r | .error n=>some ((⟨(⟨false,0⟩:Ag),0⟩:Af),n)
def DW (x0:Ag) (x1:Int):Option (Af):=
 if (sz x0.Abs:Int)=0 then some (⟨(⟨false,0⟩:Ag),0⟩:Af) else (Bq x0.Abs).bind fun r0a=>
 (BJ x0.Abs r0a).bind fun r1a=>
 some (⟨(⟨x0.Neg,r1a⟩:Ag),(wi64 (x1+r0a))⟩:Af)
def AI (x0:Int) (x1:Int):Option (Af):=
 (Dn x0).bind fun r7=>
 (DW r7 x1).bind fun r0a=>
 some r0a
def DA (x0_0:Al):M (Unit):=
 (Cg x0_0).bind fun r0a=>
 mb (BG r0a 1) fun r1a=>
 some (.ok ())
def Fq (x0:Int):M (Unit):=
 (if 1≤x0 then some (decide (x0≤4096)) else some (false)).bind fun m8=>
 mb (BG m8 1) fun r0a=>
 some (.ok ())
def FS (x0:Int):M (Unit):=
 (if 1≤x0 then some (decide (x0≤5)) else some (false)).bind fun m8=>
 mb (BG m8 1) fun r0a=>
 some (.ok ())
def Hr (x0:Bool) (x1:Int) (x2:Bool) (x3:Bool) (x4:Int):Option (Bool):=
 if x0=true then some false else if x4=1 then (if 0<x1 then some (true) else (if x1=0 then some (x2) else some (false)).bind fun m0a=>
 some (m0a)).bind fun m1a=>
 some m1a else if x4=2 then some (decide (0≤x1)) else if x4=4 then some (decide (¬(x3=true))) else if x4=5 then some x3 else some false
def Dh (x0:An) (x1:Int) (x2:Int) (x3:Bool):Option (An):=
 (Bk x0.m.Abs).bind fun r1a=>
 (if (wi64 (r1a - x1))≤0 then some (decide (¬(x3=true))) else some (false)).bind fun m6a=>
 if m6a=true then (CS x0.m x0.e).bind fun r7a=>
 some r7a else (if (wi64 (r1a - x1))<2 then (Ds x0.m (wi64 (2 - (wi64 (r1a - x1))))).bind fun r3a=>
 some (2,r3a.Neg,r3a.Abs,(wi64 ((wi64 (x0.e - 2))+(wi64 (r1a - x1))))) else some ((wi64 (r1a - x1)),x0.m.Neg,x0.m.Abs,x0.e)).bind fun m0a=>
 (BS m0a.2.2.1 m0a.1).bind fun r2a=>
 (Bf r2a m0a.1).bind fun r8a=>
 (BP m0a.2.2.1 r8a).bind fun r4a=>
 (if (sz r4a:Int)=0 then some (decide (¬(x3=true))) else some (false)).bind fun m9a=>
 (Bf 1 (wi64 (m0a.1 - 1))).bind fun r0b=>
 (BN r4a r0b).bind fun r5a=>
 (if r5a=0 then some (x3) else some (false)).bind fun m1b=>
 (if m1b=true then some (1) else some (r5a)).bind fun m2b=>
 (if 0<(sz r2a:Int) then (nth (limbs r2a) 0).bind fun u3b=>
 some (decide ((u3b%2)=1)) else some (false)).bind fun m4b=>
 (Hr m9a m2b m4b m0a.2.1 x2).bind fun r5b=>
 (if r5b=true then (Ca r2a 1).bind fun r6b=>
 some (r6b) else some (r2a)).bind fun m7b=>
 (CS (⟨m0a.2.1,m7b⟩:Ag) (wi64 (m0a.2.2.2+m0a.1))).bind fun r8b=>
 some r8b
def Hv (x0:Al) (x1:Int) (x2:Int):M (Af × Int):=
 mb (DA x0) fun r4a=>
 mb (Fq x1) fun r5a=>
 mb (FS x2) fun r6a=>
 (toN x0.Man.Abs).bind fun m0a=>
 (Dj (⟨(⟨x0.Man.Neg,m0a⟩:Ag),x0.Exp⟩:Af)).bind fun r1a=>
 (Dh r1a x1 x2 false).bind fun r2a=>
 mb (Bv r2a) fun r3a=>
 some (.ok (r3a,0))
def Gd (x0:Al) (x1:Int) (x2:Int):Option (Af × Int):=(Hv x0 x1 x2).bind fun q=>match q with | .ok r=>some r | .error n=>some ((⟨(⟨false,0⟩:Ag),0⟩:Af),n)
def BC (x0:Int) (x1:Int):Option (AD):=
 (AI x0 0).bind fun r7=>
 (AI x1 0).bind fun r0a=>
 some (⟨r7,r0a⟩:AD)
def Ei (x0_0:AF) (x0_1:AF):M (Unit):=
 (FN x0_0).bind fun r0a=>
 mb (BG r0a 1) fun r2a=>
 (FN x0_1).bind fun r1a=>
 mb (BG r1a 1) fun r3a=>
 some (.ok ())
def DF (x0:AD):Option (Av):=
 (Dj x0.Lo).bind fun r0a=>
 (Dj x0.Hi).bind fun r1a=>
 some (⟨r0a,r1a⟩:Av)
def Ft (x0:Ag) (x1:Ag):Option (Ag):=
 (Cj x0.Abs x1.Abs).bind fun r0a=>
 some (⟨(decide (¬x0.Neg=x1.Neg)),r0a⟩:Ag)
def De (x0:An) (x1:An):Option (An):=
 (Ft x0.m x1.m).bind fun r0a=>
 (CS r0a (wi64 (x0.e+x1.e))).bind fun r1a=>
 some r1a
def Fb (x0:Av) (x1:Int):Option (Av):=
 (Dh x0.lo x1 5 false).bind fun r0a=>
 (Dh x0.hi x1 4 false).bind fun r1a=>
 some (⟨r0a,r1a⟩:Av)
def Ew (x0:Av):M (AD):=
 mb (Bv x0.lo) fun r0a=>
 mb (Bv x0.hi) fun r1a=>
 some (.ok (⟨r0a,r1a⟩:AD))
def GO (x0:Av) (x1:Av) (x2:Int) (x y:An):Option Av:=
 (De x y).bind fun r0a=>
 (Cl r0a r0a).bind fun r1a=>
 (if r1a<0 then some () else some ()).bind fun m3a=>
 (Cl r0a r0a).bind fun r2a=>
 (if 0<r2a then some () else some ()).bind fun m4a=>
 some (⟨r0a,r0a⟩:Av)
def Ev (x0:Av) (x1:Av) (x2:Int) (sr:Av) (x y:An):Option Av:=
 (De x y).bind fun r0a=>
 (Cl r0a sr.lo).bind fun r3a=>
 (if r3a<0 then some (r0a.m.Neg,r0a.m.Abs,r0a.e) else some (sr.lo.m.Neg,sr.lo.m.Abs,sr.lo.e)).bind fun m1a=>
 (Cl r0a sr.hi).bind fun r4a=>
 (if 0<r4a then some (r0a.m.Neg,r0a.m.Abs,r0a.e) else some (sr.hi.m.Neg,sr.hi.m.Abs,sr.hi.e)).bind fun m2a=>
 some (⟨(⟨(⟨m1a.1,m1a.2.1⟩:Ag),m1a.2.2⟩:An),(⟨(⟨m2a.1,m2a.2.1⟩:Ag),m2a.2.2⟩:An)⟩:Av)
def Gl (x0:Av) (x1:Av) (x2:Int):M (AD):=
 (GO x0 x1 x2 x0.lo x1.lo).bind fun s0a=>
 (Ev x0 x1 x2 s0a x0.lo x1.hi).bind fun s1a=>
 (Ev x0 x1 x2 s1a x0.hi x1.lo).bind fun s2a=>
 (Ev x0 x1 x2 s2a x0.hi x1.hi).bind fun s3a=>
 (Fb s3a x2).bind fun r4a=>
 mb (Ew r4a) fun r5a=>
 some (.ok r5a)
def Ea (x0:AF) (x1:AF) (x2:Int):M (AD × Int):=
 mb (Ei x0 x1) fun r7a=>
 mb (Fq x2) fun r8a=>
 (toN x0.Lo.Man.Abs).bind fun m0a=>
 (toN x0.Hi.Man.Abs).bind fun m1a=>
 (DF (⟨(⟨(⟨x0.Lo.Man.Neg,m0a⟩:Ag),x0.Lo.Exp⟩:Af),(⟨(⟨x0.Hi.Man.Neg,m1a⟩:Ag),x0.Hi.Exp⟩:Af)⟩:AD)).bind fun r2a=>
 (toN x1.Lo.Man.Abs).bind fun m3a=>
 (toN x1.Hi.Man.Abs).bind fun m4a=>
 (DF (⟨(⟨(⟨x1.Lo.Man.Neg,m3a⟩:Ag),x1.Lo.Exp⟩:Af),(⟨(⟨x1.Hi.Man.Neg,m4a⟩:Ag),x1.Hi.Exp⟩:Af)⟩:AD)).bind fun r5a=>
 mb (Gl r2a r5a x2) fun r6a=>
 some (.ok (r6a,0))
def Di (x0:AF) (x1:AF) (x2:Int):Option (AD × Int):=(Ea x0 x1 x2).bind fun q=>match q with | .ok r=>some r | .error n=>some ((⟨(⟨(⟨false,0⟩:Ag),0⟩:Af),(⟨(⟨false,0⟩:Ag),0⟩:Af)⟩:AD),n)
def GJ (x0:AF) (x1:AF) (x2:Int):Option (AD × Int):=
 (Di x0 x1 x2).bind fun r0a=>
 some (r0a.1,r0a.2)
def CW (x0:Ag) (x1:Ag):Option (Bool):=
 (if x0.Neg=x1.Neg then (BD (limbs x0.Abs) (limbs x1.Abs)).bind fun r0a=>
 some (r0a) else some (false)).bind fun m1a=>
 some m1a
def AK (x0:Af) (x1:Af):Option (Bool):=
 (CW x0.Man x1.Man).bind fun r0a=>
 (if r0a=true then some (decide (x0.Exp=x1.Exp)) else some (false)).bind fun m1a=>
 some m1a
def CM (x0:AD) (x1:AD):Option (Bool):=
 (AK x0.Lo x1.Lo).bind fun r0a=>
 (if r0a=true then (AK x0.Hi x1.Hi).bind fun r1a=>
 some (r1a) else some (false)).bind fun m2a=>
 some m2a
def DS (x0:An) (x1:An) (x2:Int) (x3:Int):Option (An):=
 (Bl x0).bind fun r3a=>
 if r3a=0 then some (⟨(⟨false,0⟩:Ag),0⟩:An) else (Bk x1.m.Abs).bind fun r0a=>
 (Bk x0.m.Abs).bind fun r1a=>
 (Bf x0.m.Abs (max 0 (wi64 ((wi64 ((wi64 (x2+2))+r0a)) - r1a)))).bind fun r4a=>
 (Cq r4a x1.m.Abs).bind fun r2a=>
 (Dh (⟨(⟨(decide (¬x0.m.Neg=x1.m.Neg)),r2a.1⟩:Ag),(wi64 ((wi64 (x0.e - x1.e)) - (max 0 (wi64 ((wi64 ((wi64 (x2+2))+r0a)) - r1a)))))⟩:An) x2 x3 (decide (0<(sz r2a.2:Int)))).bind fun r5a=>
 some r5a
def He (x0:Av) (x1:Av) (x2:Int) (x y:An):Option Av:=
 (DS x y x2 5).bind fun r0a=>
 (DS x y x2 4).bind fun r1a=>
 (Cl r0a r0a).bind fun r2a=>
 (if r2a<0 then some () else some ()).bind fun m4a=>
 (Cl r1a r1a).bind fun r3a=>
 (if 0<r3a then some () else some ()).bind fun m5a=>
 some (⟨r0a,r1a⟩:Av)
def EN (x0:Av) (x1:Av) (x2:Int) (sr:Av) (x y:An):Option Av:=
 (DS x y x2 5).bind fun r0a=>
 (DS x y x2 4).bind fun r1a=>
 (Cl r0a sr.lo).bind fun r4a=>
 (if r4a<0 then some (r0a.m.Neg,r0a.m.Abs,r0a.e) else some (sr.lo.m.Neg,sr.lo.m.Abs,sr.lo.e)).bind fun m2a=>
 (Cl r1a sr.hi).bind fun r5a=>
 (if 0<r5a then some (r1a.m.Neg,r1a.m.Abs,r1a.e) else some (sr.hi.m.Neg,sr.hi.m.Abs,sr.hi.e)).bind fun m3a=>
 some (⟨(⟨(⟨m2a.1,m2a.2.1⟩:Ag),m2a.2.2⟩:An),(⟨(⟨m3a.1,m3a.2.1⟩:Ag),m3a.2.2⟩:An)⟩:Av)
def Gy (x0:Av) (x1:Av) (x2:Int):M (AD):=
 (Bl x1.lo).bind fun r0a=>
 (Bl x1.hi).bind fun r1a=>
 mb (BG (decide (0<(wi64 (r0a*r1a)))) 8) fun r7a=>
 (He x0 x1 x2 x0.lo x1.lo).bind fun s2a=>
 (EN x0 x1 x2 s2a x0.lo x1.hi).bind fun s3a=>
 (EN x0 x1 x2 s3a x0.hi x1.lo).bind fun s4a=>
 (EN x0 x1 x2 s4a x0.hi x1.hi).bind fun s5a=>
 mb (Ew s5a) fun r6a=>
 some (.ok r6a)
def El (x0:AF) (x1:AF) (x2:Int):M (AD × Int):=
 mb (Ei x0 x1) fun r7a=>
 mb (Fq x2) fun r8a=>
 (toN x0.Lo.Man.Abs).bind fun m0a=>
 (toN x0.Hi.Man.Abs).bind fun m1a=>
 (DF (⟨(⟨(⟨x0.Lo.Man.Neg,m0a⟩:Ag),x0.Lo.Exp⟩:Af),(⟨(⟨x0.Hi.Man.Neg,m1a⟩:Ag),x0.Hi.Exp⟩:Af)⟩:AD)).bind fun r2a=>
 (toN x1.Lo.Man.Abs).bind fun m3a=>
 (toN x1.Hi.Man.Abs).bind fun m4a=>
 (DF (⟨(⟨(⟨x1.Lo.Man.Neg,m3a⟩:Ag),x1.Lo.Exp⟩:Af),(⟨(⟨x1.Hi.Man.Neg,m4a⟩:Ag),x1.Hi.Exp⟩:Af)⟩:AD)).bind fun r5a=>
 mb (Gy r2a r5a x2) fun r6a=>
 some (.ok (r6a,0))
def Dt (x0:AF) (x1:AF) (x2:Int):Option (AD × Int):=(El x0 x1 x2).bind fun q=>match q with | .ok r=>some r | .error n=>some ((⟨(⟨(⟨false,0⟩:Ag),0⟩:Af),(⟨(⟨false,0⟩:Ag),0⟩:Af)⟩:AD),n)
def Gw (x0:AF) (x1:AF) (x2:Int):Option (AD × Int):=
 (Dt x0 x1 x2).bind fun r0a=>
 some (r0a.1,r0a.2)
def ED (x0:Nat):Nat→Nat→Option (Nat × Nat)
 | 0,_=>none
 | n2a+1,v0a=>
 (Cq x0 v0a).bind fun r3a=>
 (Ca v0a r3a.1).bind fun r4a=>
 (BS r4a 1).bind fun r1a=>
 (BN r1a v0a).bind fun r5a=>
 if 0≤r5a then (Cj v0a v0a).bind fun r6a=>
 (BP x0 r6a).bind fun r7a=>
 some (v0a,r7a) else ED x0 n2a r1a
def FV (x0:Nat):Option (Nat × Nat):=
 if (sz x0:Int)=0 then some (0,0) else (Bk x0).bind fun r0a=>
 (Bf 1 (wi64 ((wi64 (r0a+1)).tdiv 2))).bind fun r1a=>
 ED x0 18446744073709551616 r1a
def Gx (x0:An) (x1:Int) (x2:Int):Option (An):=
 (Bl x0).bind fun r3a=>
 if r3a=0 then some (⟨(⟨false,0⟩:Ag),0⟩:An) else (Bk x0.m.Abs).bind fun r0a=>
 (if ¬((wi64 (x0.e - (max 0 (wi64 ((wi64 ((wi64 (2*x1))+4)) - r0a)))))%2)=0 then some (wi64 ((max 0 (wi64 ((wi64 ((wi64 (2*x1))+4)) - r0a)))+1)) else some (max 0 (wi64 ((wi64 ((wi64 (2*x1))+4)) - r0a)))).bind fun m1a=>
 (Bf x0.m.Abs m1a).bind fun r4a=>
 (FV r4a).bind fun r2a=>
 (Dh (⟨(⟨false,r2a.1⟩:Ag),(wi64 ((wi64 (x0.e - m1a)).tdiv 2))⟩:An) x1 x2 (decide (0<(sz r2a.2:Int)))).bind fun r5a=>
 some r5a
def GB (x0:Av) (x1:Av) (x2:Int):M (AD):=
 (Bl x0.lo).bind fun r0a=>
 mb (BG (decide (0≤r0a)) 3) fun r4a=>
 (Gx x0.lo x2 5).bind fun r1a=>
 (Gx x0.hi x2 4).bind fun r2a=>
 mb (Ew (⟨r1a,r2a⟩:Av)) fun r3a=>
 some (.ok r3a)
def Ej (x0:AF) (x1:AF) (x2:Int):M (AD × Int):=
 mb (Ei x0 x1) fun r7a=>
 mb (Fq x2) fun r8a=>
 (toN x0.Lo.Man.Abs).bind fun m0a=>
 (toN x0.Hi.Man.Abs).bind fun m1a=>
 (DF (⟨(⟨(⟨x0.Lo.Man.Neg,m0a⟩:Ag),x0.Lo.Exp⟩:Af),(⟨(⟨x0.Hi.Man.Neg,m1a⟩:Ag),x0.Hi.Exp⟩:Af)⟩:AD)).bind fun r2a=>
 (toN x1.Lo.Man.Abs).bind fun m3a=>
 (toN x1.Hi.Man.Abs).bind fun m4a=>
 (DF (⟨(⟨(⟨x1.Lo.Man.Neg,m3a⟩:Ag),x1.Lo.Exp⟩:Af),(⟨(⟨x1.Hi.Man.Neg,m4a⟩:Ag),x1.Hi.Exp⟩:Af)⟩:AD)).bind fun r5a=>
 mb (GB r2a r5a x2) fun r6a=>
 some (.ok (r6a,0))
def Dq (x0:AF) (x1:AF) (x2:Int):Option (AD × Int):=(Ej x0 x1 x2).bind fun q=>match q with | .ok r=>some r | .error n=>some ((⟨(⟨(⟨false,0⟩:Ag),0⟩:Af),(⟨(⟨false,0⟩:Ag),0⟩:Af)⟩:AD),n)
def GV (x0:AF) (x1:Int):Option (AD × Int):=
 (Dq x0 x0 x1).bind fun r0a=>
 some (r0a.1,r0a.2)
def Dc:Option (Bool):=
 (Dn 12).bind fun r3=>
 (Hg (⟨r3.Neg,(limbs r3.Abs)⟩:Ay) 3).bind fun r9a=>
 (AI 11 0).bind fun r7a=>
 (Gd (⟨(⟨r7a.Man.Neg,(limbs r7a.Man.Abs)⟩:Ay),r7a.Exp⟩:Al) 3 1).bind fun r0b=>
 (AI (-11) 0).bind fun r8a=>
 (Gd (⟨(⟨r8a.Man.Neg,(limbs r8a.Man.Abs)⟩:Ay),r8a.Exp⟩:Al) 2 5).bind fun r1b=>
 (BC (-1) 2).bind fun r0a=>
 (BC (-3) 5).bind fun r1a=>
 (GJ (⟨(⟨(⟨r0a.Lo.Man.Neg,(limbs r0a.Lo.Man.Abs)⟩:Ay),r0a.Lo.Exp⟩:Al),(⟨(⟨r0a.Hi.Man.Neg,(limbs r0a.Hi.Man.Abs)⟩:Ay),r0a.Hi.Exp⟩:Al)⟩:AF) (⟨(⟨(⟨r1a.Lo.Man.Neg,(limbs r1a.Lo.Man.Abs)⟩:Ay),r1a.Lo.Exp⟩:Al),(⟨(⟨r1a.Hi.Man.Neg,(limbs r1a.Hi.Man.Abs)⟩:Ay),r1a.Hi.Exp⟩:Al)⟩:AF) 8).bind fun r2b=>
 (if ¬r9a.2=0 then some (true) else some (decide (¬r0b.2=0))).bind fun m5b=>
 (if m5b=true then some (true) else some (decide (¬r1b.2=0))).bind fun m6b=>
 (if m6b=true then some (true) else some (decide (¬r2b.2=0))).bind fun m7b=>
 if m7b=true then some false else (AI 3 5).bind fun r8b=>
 (AK r9a.1 r8b).bind fun r9b=>
 if ¬(r9b=true) then some false else (AI 12 0).bind fun r0c=>
 (AK r0b.1 r0c).bind fun r1c=>
 if ¬(r1c=true) then some false else (AI (-12) 0).bind fun r2c=>
 (AK r1b.1 r2c).bind fun r3c=>
 if ¬(r3c=true) then some false else (BC (-6) 10).bind fun r4c=>
 (CM r2b.1 r4c).bind fun r5c=>
 if ¬(r5c=true) then some false else (BC 1 1).bind fun r2a=>
 (BC 3 3).bind fun r3a=>
 (Gw (⟨(⟨(⟨r2a.Lo.Man.Neg,(limbs r2a.Lo.Man.Abs)⟩:Ay),r2a.Lo.Exp⟩:Al),(⟨(⟨r2a.Hi.Man.Neg,(limbs r2a.Hi.Man.Abs)⟩:Ay),r2a.Hi.Exp⟩:Al)⟩:AF) (⟨(⟨(⟨r3a.Lo.Man.Neg,(limbs r3a.Lo.Man.Abs)⟩:Ay),r3a.Lo.Exp⟩:Al),(⟨(⟨r3a.Hi.Man.Neg,(limbs r3a.Hi.Man.Abs)⟩:Ay),r3a.Hi.Exp⟩:Al)⟩:AF) 4).bind fun r3b=>
 (BC 1 1).bind fun r4a=>
 (BC (-1) 1).bind fun r5a=>
 (Gw (⟨(⟨(⟨r4a.Lo.Man.Neg,(limbs r4a.Lo.Man.Abs)⟩:Ay),r4a.Lo.Exp⟩:Al),(⟨(⟨r4a.Hi.Man.Neg,(limbs r4a.Hi.Man.Abs)⟩:Ay),r4a.Hi.Exp⟩:Al)⟩:AF) (⟨(⟨(⟨r5a.Lo.Man.Neg,(limbs r5a.Lo.Man.Abs)⟩:Ay),r5a.Lo.Exp⟩:Al),(⟨(⟨r5a.Hi.Man.Neg,(limbs r5a.Hi.Man.Abs)⟩:Ay),r5a.Hi.Exp⟩:Al)⟩:AF) 4).bind fun r6c=>
 (BC 2 2).bind fun r6a=>
 (GV (⟨(⟨(⟨r6a.Lo.Man.Neg,(limbs r6a.Lo.Man.Abs)⟩:Ay),r6a.Lo.Exp⟩:Al),(⟨(⟨r6a.Hi.Man.Neg,(limbs r6a.Hi.Man.Abs)⟩:Ay),r6a.Hi.Exp⟩:Al)⟩:AF) 4).bind fun r4b=>
 (AI 5 (-4)).bind fun r7c=>
 (AI 11 (-5)).bind fun r8c=>
 (AI 11 (-3)).bind fun r9c=>
 (AI 3 (-1)).bind fun r0d=>
 (if r3b.2=0 then some (decide (r6c.2=8)) else some (false)).bind fun m1d=>
 (if m1d=true then some (decide (r4b.2=0)) else some (false)).bind fun m2d=>
 (if m2d=true then (CM r3b.1 (⟨r7c,r8c⟩:AD)).bind fun r3d=>
 some (r3d) else some (false)).bind fun m4d=>
 (if m4d=true then (CM r4b.1 (⟨r9c,r0d⟩:AD)).bind fun r5d=>
 some (r5d) else some (false)).bind fun m6d=>
 some m6d
def En (x0:An) (x1:An):Option (Bool):=
 (Bl x0).bind fun r0a=>
 (if r0a=0 then some (true) else (Bl x1).bind fun r1a=>
 some (decide (r1a=0))).bind fun m2a=>
 if m2a=true then some true else (Dr x0).bind fun r3a=>
 (Dr x1).bind fun r4a=>
 some (decide ((wi64 ((max r3a r4a) - (min x0.e x1.e)))≤32770))
def Dz (x0_0:Al) (x0_1:Al):M (Unit):=
 (Cg x0_0).bind fun r0a=>
 mb (BG r0a 1) fun r2a=>
 (Cg x0_1).bind fun r1a=>
 mb (BG r1a 1) fun r3a=>
 some (.ok ())
def BE (x0:Al) (x1:Al):M (Af × Int):=
 mb (Dz x0 x1) fun r7a=>
 (toN x0.Man.Abs).bind fun m2a=>
 (Dj (⟨(⟨x0.Man.Neg,m2a⟩:Ag),x0.Exp⟩:Af)).bind fun r0a=>
 (toN x1.Man.Abs).bind fun m3a=>
 (Dj (⟨(⟨x1.Man.Neg,m3a⟩:Ag),x1.Exp⟩:Af)).bind fun r1a=>
 (En r0a r1a).bind fun r4a=>
 mb (BG r4a 2) fun r8a=>
 (AQ r0a r1a).bind fun r5a=>
 mb (Bv r5a) fun r6a=>
 some (.ok (r6a,0))
def Bg (x0:Al) (x1:Al):Option (Af × Int):=(BE x0 x1).bind fun q=>match q with | .ok r=>some r | .error n=>some ((⟨(⟨false,0⟩:Ag),0⟩:Af),n)
def BL (x0:Al) (x1:Al):Option (Af × Int):=
 (Bg x0 x1).bind fun r0a=>
 some (r0a.1,r0a.2)
def Gc (x0:An) (x1:An):Option (Bool):=
 some true
def BY (x0:Al) (x1:Al):M (Af × Int):=
 mb (Dz x0 x1) fun r7a=>
 (toN x0.Man.Abs).bind fun m2a=>
 (Dj (⟨(⟨x0.Man.Neg,m2a⟩:Ag),x0.Exp⟩:Af)).bind fun r0a=>
 (toN x1.Man.Abs).bind fun m3a=>
 (Dj (⟨(⟨x1.Man.Neg,m3a⟩:Ag),x1.Exp⟩:Af)).bind fun r1a=>
 (Gc r0a r1a).bind fun r4a=>
 mb (BG r4a 2) fun r8a=>
 (De r0a r1a).bind fun r5a=>
 mb (Bv r5a) fun r6a=>
 some (.ok (r6a,0))
def BA (x0:Al) (x1:Al):Option (Af × Int):=(BY x0 x1).bind fun q=>match q with | .ok r=>some r | .error n=>some ((⟨(⟨false,0⟩:Ag),0⟩:Af),n)
def BM (x0:Al) (x1:Al):Option (Af × Int):=
 (BA x0 x1).bind fun r0a=>
 some (r0a.1,r0a.2)
def DJ (x0:Af) (x1:Af):Option (Af):=
 (BM (⟨(⟨x0.Man.Neg,(limbs x0.Man.Abs)⟩:Ay),x0.Exp⟩:Al) (⟨(⟨x1.Man.Neg,(limbs x1.Man.Abs)⟩:Ay),x1.Exp⟩:Al)).bind fun r0a=>
 some r0a.1
def Co (x0:Al):Option (Bool):=
 (if (x0.Man.Abs.length:Int)≤60 then (if (-3000)≤x0.Exp then some (decide (x0.Exp≤3000)) else some (false)).bind fun m0a=>
 (if m0a=true then some (true) else (Cp x0).bind fun r1a=>
 some (decide (¬(r1a=true)))).bind fun m2a=>
 some (m2a) else some (false)).bind fun m3a=>
 some m3a
def CI (x0_0:Al) (x0_1:Al) (x0_2:Al):Option (Bool):=
 (Co x0_0).bind fun r0a=>
 (if ¬(r0a=true) then some (true) else (Cg x0_0).bind fun r1a=>
 some (decide (¬(r1a=true)))).bind fun m2a=>
 if m2a=true then some false else (Co x0_1).bind fun r3a=>
 (if ¬(r3a=true) then some (true) else (Cg x0_1).bind fun r4a=>
 some (decide (¬(r4a=true)))).bind fun m5a=>
 if m5a=true then some false else (Co x0_2).bind fun r6a=>
 (if ¬(r6a=true) then some (true) else (Cg x0_2).bind fun r7a=>
 some (decide (¬(r7a=true)))).bind fun m8a=>
 if m8a=true then some false else some true
def Ha (x0:Al):M (Af × Int):=
 mb (DA x0) fun r4a=>
 (toN x0.Man.Abs).bind fun m0a=>
 (Dj (⟨(⟨x0.Man.Neg,m0a⟩:Ag),x0.Exp⟩:Af)).bind fun r1a=>
 (Dl r1a).bind fun r2a=>
 mb (Bv r2a) fun r3a=>
 some (.ok (r3a,0))
def FH (x0:Al):Option (Af × Int):=(Ha x0).bind fun q=>match q with | .ok r=>some r | .error n=>some ((⟨(⟨false,0⟩:Ag),0⟩:Af),n)
def Ge (x0:An) (x1:An):Option (An):=
 (Dl x1).bind fun r0a=>
 (AQ x0 r0a).bind fun r1a=>
 some r1a
def Cy (x0:Al) (x1:Al):M (Af × Int):=
 mb (Dz x0 x1) fun r7a=>
 (toN x0.Man.Abs).bind fun m2a=>
 (Dj (⟨(⟨x0.Man.Neg,m2a⟩:Ag),x0.Exp⟩:Af)).bind fun r0a=>
 (toN x1.Man.Abs).bind fun m3a=>
 (Dj (⟨(⟨x1.Man.Neg,m3a⟩:Ag),x1.Exp⟩:Af)).bind fun r1a=>
 (En r0a r1a).bind fun r4a=>
 mb (BG r4a 2) fun r8a=>
 (Ge r0a r1a).bind fun r5a=>
 mb (Bv r5a) fun r6a=>
 some (.ok (r6a,0))
def BU (x0:Al) (x1:Al):Option (Af × Int):=(Cy x0 x1).bind fun q=>match q with | .ok r=>some r | .error n=>some ((⟨(⟨false,0⟩:Ag),0⟩:Af),n)
def FJ (x0:Al) (x1:Al):Option (Af × Int):=
 (BU x0 x1).bind fun r0a=>
 some (r0a.1,r0a.2)
def FP (x0:Al) (x1:Int):M (Af × Int):=
 mb (DA x0) fun r5a=>
 if (x0.Man.Abs.length:Int)=0 then (toN x0.Man.Abs).bind fun m0a=>
 some (.ok ((⟨(⟨x0.Man.Neg,m0a⟩:Ag),x0.Exp⟩:Af),0)) else (if x1≤4194304 then some (decide ((-4194304)≤x1)) else some (false)).bind fun m1a=>
 mb (BG m1a 2) fun r6a=>
 (toN x0.Man.Abs).bind fun m2a=>
 (Fm (⟨x0.Man.Neg,m2a⟩:Ag)).bind fun r3a=>
 mb (Bv (⟨r3a,(wi64 (x0.Exp+x1))⟩:An)) fun r4a=>
 some (.ok (r4a,0))
def DE (x0:Al) (x1:Int):Option (Af × Int):=(FP x0 x1).bind fun q=>match q with | .ok r=>some r | .error n=>some ((⟨(⟨false,0⟩:Ag),0⟩:Af),n)
def CX (x0:Al) (x1:Al) (x2:Al) (x3:Int):Option (Bool):=
 (CI x0 x1 x2).bind fun r9b=>
 (if ¬(r9b=true) then some (true) else some (decide (20<(x0.Man.Abs.length:Int)))).bind fun m0c=>
 (if m0c=true then some (true) else some (decide (20<(x1.Man.Abs.length:Int)))).bind fun m1c=>
 (if m1c=true then some (true) else some (decide (20<(x2.Man.Abs.length:Int)))).bind fun m2c=>
 (if m2c=true then some (true) else some (decide (3000<x3))).bind fun m3c=>
 (if m3c=true then some (true) else some (decide (x3<(-3000)))).bind fun m4c=>
 if m4c=true then (Dc).bind fun r5c=>
 some r5c else (BL x0 x1).bind fun r2a=>
 (BL x1 x0).bind fun r7a=>
 (BL (⟨(⟨r2a.1.Man.Neg,(limbs r2a.1.Man.Abs)⟩:Ay),r2a.1.Exp⟩:Al) x2).bind fun r8a=>
 (BL x1 x2).bind fun r1a=>
 (BL x0 (⟨(⟨r1a.1.Man.Neg,(limbs r1a.1.Man.Abs)⟩:Ay),r1a.1.Exp⟩:Al)).bind fun r9a=>
 (if ¬r2a.2=0 then some (true) else some (decide (¬r7a.2=0))).bind fun m6c=>
 (if m6c=true then some (true) else some (decide (¬r8a.2=0))).bind fun m7c=>
 (if m7c=true then some (true) else some (decide (¬r1a.2=0))).bind fun m8c=>
 (if m8c=true then some (true) else some (decide (¬r9a.2=0))).bind fun m9c=>
 (if m9c=true then some (true) else (AK r2a.1 r7a.1).bind fun r0d=>
 some (decide (¬(r0d=true)))).bind fun m1d=>
 (if m1d=true then some (true) else (AK r8a.1 r9a.1).bind fun r2d=>
 some (decide (¬(r2d=true)))).bind fun m3d=>
 if m3d=true then some false else (BM x0 x1).bind fun r0a=>
 (BM x1 x0).bind fun r0b=>
 (BM x0 x2).bind fun r3a=>
 (BM x0 (⟨(⟨r1a.1.Man.Neg,(limbs r1a.1.Man.Abs)⟩:Ay),r1a.1.Exp⟩:Al)).bind fun r1b=>
 (BL (⟨(⟨r0a.1.Man.Neg,(limbs r0a.1.Man.Abs)⟩:Ay),r0a.1.Exp⟩:Al) (⟨(⟨r3a.1.Man.Neg,(limbs r3a.1.Man.Abs)⟩:Ay),r3a.1.Exp⟩:Al)).bind fun r2b=>
 (if ¬r0a.2=0 then some (true) else some (decide (¬r0b.2=0))).bind fun m4d=>
 (if m4d=true then some (true) else some (decide (¬r3a.2=0))).bind fun m5d=>
 (if m5d=true then some (true) else some (decide (¬r1b.2=0))).bind fun m6d=>
 (if m6d=true then some (true) else some (decide (¬r2b.2=0))).bind fun m7d=>
 (if m7d=true then some (true) else (AK r0a.1 r0b.1).bind fun r8d=>
 some (decide (¬(r8d=true)))).bind fun m9d=>
 (if m9d=true then some (true) else (AK r1b.1 r2b.1).bind fun r0e=>
 some (decide (¬(r0e=true)))).bind fun m1e=>
 if m1e=true then some false else (BM (⟨(⟨r0a.1.Man.Neg,(limbs r0a.1.Man.Abs)⟩:Ay),r0a.1.Exp⟩:Al) x2).bind fun r3b=>
 (toN x1.Man.Abs).bind fun m2e=>
 (toN x2.Man.Abs).bind fun m3e=>
 (DJ (⟨(⟨x1.Man.Neg,m2e⟩:Ag),x1.Exp⟩:Af) (⟨(⟨x2.Man.Neg,m3e⟩:Ag),x2.Exp⟩:Af)).bind fun r5a=>
 (BM x0 (⟨(⟨r5a.Man.Neg,(limbs r5a.Man.Abs)⟩:Ay),r5a.Exp⟩:Al)).bind fun r4b=>
 (FH x1).bind fun r4a=>
 (FJ x0 x1).bind fun r5b=>
 (BL x0 (⟨(⟨r4a.1.Man.Neg,(limbs r4a.1.Man.Abs)⟩:Ay),r4a.1.Exp⟩:Al)).bind fun r6b=>
 (if ¬r3b.2=0 then some (true) else some (decide (¬r4b.2=0))).bind fun m4e=>
 (if m4e=true then some (true) else some (decide (¬r4a.2=0))).bind fun m5e=>
 (if m5e=true then some (true) else some (decide (¬r5b.2=0))).bind fun m6e=>
 (if m6e=true then some (true) else some (decide (¬r6b.2=0))).bind fun m7e=>
 (if m7e=true then some (true) else (AK r3b.1 r4b.1).bind fun r8e=>
 some (decide (¬(r8e=true)))).bind fun m9e=>
 (if m9e=true then some (true) else (AK r5b.1 r6b.1).bind fun r0f=>
 some (decide (¬(r0f=true)))).bind fun m1f=>
 if m1f=true then some false else (DE x0 x3).bind fun r7b=>
 (AI 1 x3).bind fun r6a=>
 (BM x0 (⟨(⟨r6a.Man.Neg,(limbs r6a.Man.Abs)⟩:Ay),r6a.Exp⟩:Al)).bind fun r8b=>
 (Dc).bind fun r2f=>
 (if r2f=true then some (decide (r7b.2=0)) else some (false)).bind fun m3f=>
 (if m3f=true then some (decide (r8b.2=0)) else some (false)).bind fun m4f=>
 (if m4f=true then (AK r7b.1 r8b.1).bind fun r5f=>
 some (r5f) else some (false)).bind fun m6f=>
 some m6f
end Go.Proofs

