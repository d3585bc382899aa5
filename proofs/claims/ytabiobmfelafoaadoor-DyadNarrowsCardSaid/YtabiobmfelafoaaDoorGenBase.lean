import Derived.Test.YtabiobmfelafoaaDoorProg
import Derived.Test.YtabiobmfelafoaaDoorCor
import Derived.Test.YtabiobmfelafoaaDoorRow
import Derived.Test.YtabiobmfelafoaaDoorLA
namespace Go.Proofs
set_option linter.unusedVariables false
set_option linter.unusedSimpArgs false
set_option maxHeartbeats 4000000
open Go.RowKit Go.Sb Go.Proofs.Sbn
structure Az where
 Neg:Bool
 Abs:List Int
structure Ar where
 Man:Az
 Exp:Int
structure An where
 Lo:Ar
 Hi:Ar
structure Aj where
 Neg:Bool
 Abs:Nat
structure Af where
 Man:Aj
 Exp:Int
structure Ah where
 m:Aj
 e:Int
structure Ao where
 Lo:Af
 Hi:Af
structure Aq where
 lo:Ah
 hi:Ah
theorem AG:agg Tryd.prog 41 6=true:=by kernel_rfl
theorem GJ:fieldAt Tryd.prog 41 0=some 0:=by kernel_rfl
theorem BJ:agg Tryd.prog 27 3=true:=by kernel_rfl
theorem GI:fieldAt Tryd.prog 41 1=some 3:=by kernel_rfl
theorem Fv:Gd Tryd.prog 27 [.bool false,.slice none 0 0,.int .i64 0]:=EO (by kernel_rfl)
theorem Gt:Tryd.prog.underlying 29=some (.slice 27):=by kernel_rfl
theorem DQ:DN Tryd.prog 27 3=true:=by kernel_rfl
theorem FG:fieldAt Tryd.prog 27 0=some 0:=by kernel_rfl
theorem Ew:fieldAt Tryd.prog 25 1=some 1:=by kernel_rfl
theorem Gi:IW Tryd.prog 23=true:=by kernel_rfl
theorem DC:Tryd.prog.underlying 23=some (.slice 97):=by kernel_rfl
theorem Hz:agg Tryd.prog 25 2=true:=by kernel_rfl
theorem en_105:Ent Tryd.prog 105:=ent Tryd.func105 (by kernel_rfl) rfl
theorem HP:fieldAt Tryd.prog 25 0=some 0:=by kernel_rfl
theorem Gc:IW Tryd.prog 4=true:=by kernel_rfl
theorem en_81:Ent Tryd.prog 81:=ent Tryd.func81 (by kernel_rfl) rfl
theorem Fl:fieldAt Tryd.prog 27 1=some 2:=by kernel_rfl
theorem Et:IW Tryd.prog 3=true:=by kernel_rfl
theorem LV:Ent Tryd.prog 82:=ent Tryd.func82 (by kernel_rfl) rfl
theorem Nk:Ent Tryd.prog 47:=ent Tryd.func47 (by kernel_rfl) rfl
theorem LN:Ent Tryd.prog 16:=ent Tryd.func16 (by kernel_rfl) rfl
theorem mo:Tryd.prog.follows .mixedOrders=true:=by kernel_rfl
theorem en_100:Ent Tryd.prog 100:=ent Tryd.func100 (by kernel_rfl) rfl
theorem ML:Ent Tryd.prog 66:=ent Tryd.func66 (by kernel_rfl) rfl
theorem AK:DN Tryd.prog 97 1=true:=by kernel_rfl
theorem Cy:IW Tryd.prog 97=true:=by kernel_rfl
theorem KI:Ent Tryd.prog 27:=ent Tryd.func27 (by kernel_rfl) rfl
theorem BD:Gd Tryd.prog 63 [.bool false,.slice none 0 0,.int .i64 0]:=EO (by kernel_rfl)
theorem FR:Gd Tryd.prog 61 [.bool false,.slice none 0 0]:=EO (by kernel_rfl)
theorem FH:DN Tryd.prog 61 2=true:=by kernel_rfl
theorem Eu:agg Tryd.prog 61 2=true:=by kernel_rfl
theorem Nf:Ent Tryd.prog 45:=ent Tryd.func45 (by kernel_rfl) rfl
theorem Cx:DN Tryd.prog 63 3=true:=by kernel_rfl
theorem JE:Ent Tryd.prog 40:=ent Tryd.func40 (by kernel_rfl) rfl
theorem BF:fieldAt Tryd.prog 63 0=some 0:=by kernel_rfl
theorem Bq:fieldAt Tryd.prog 61 1=some 1:=by kernel_rfl
theorem DB:IW Tryd.prog 59=true:=by kernel_rfl
theorem Aw:Tryd.prog.underlying 59=some (.slice 97):=by kernel_rfl
theorem DT:fieldAt Tryd.prog 61 0=some 0:=by kernel_rfl
theorem en_91:Ent Tryd.prog 91:=ent Tryd.func91 (by kernel_rfl) rfl
theorem HG:Ent Tryd.prog 58:=ent Tryd.func58 (by kernel_rfl) rfl
theorem Nu:Ent Tryd.prog 86:=ent Tryd.func86 (by kernel_rfl) rfl
theorem CQ:fieldAt Tryd.prog 63 1=some 2:=by kernel_rfl
theorem JB:Ent Tryd.prog 87:=ent Tryd.func87 (by kernel_rfl) rfl
theorem Jn:Ent Tryd.prog 73:=ent Tryd.func73 (by kernel_rfl) rfl
theorem en_76:Ent Tryd.prog 76:=ent Tryd.func76 (by kernel_rfl) rfl
theorem en_41:Ent Tryd.prog 41:=ent Tryd.func41 (by kernel_rfl) rfl
theorem Hs:Ent Tryd.prog 88:=ent Tryd.func88 (by kernel_rfl) rfl
theorem Mz:Ent Tryd.prog 94:=ent Tryd.func94 (by kernel_rfl) rfl
theorem LI:Tryd.prog.underlying 4=some .bool:=by kernel_rfl
theorem LM:Ent Tryd.prog 98:=ent Tryd.func98 (by kernel_rfl) rfl
theorem Kp:Ent Tryd.prog 96:=ent Tryd.func96 (by kernel_rfl) rfl
theorem Kr:Ent Tryd.prog 89:=ent Tryd.func89 (by kernel_rfl) rfl
theorem en_72:Ent Tryd.prog 72:=ent Tryd.func72 (by kernel_rfl) rfl
theorem en_101:Ent Tryd.prog 101:=ent Tryd.func101 (by kernel_rfl) rfl
theorem KD:Ent Tryd.prog 95:=ent Tryd.func95 (by kernel_rfl) rfl
theorem KA:Ent Tryd.prog 67:=ent Tryd.func67 (by kernel_rfl) rfl
theorem en_71:Ent Tryd.prog 71:=ent Tryd.func71 (by kernel_rfl) rfl
theorem en_70:Ent Tryd.prog 70:=ent Tryd.func70 (by kernel_rfl) rfl
theorem Mk:Ent Tryd.prog 33:=ent Tryd.func33 (by kernel_rfl) rfl
theorem He:Ent Tryd.prog 50:=ent Tryd.func50 (by kernel_rfl) rfl
theorem Mf:Ent Tryd.prog 18:=ent Tryd.func18 (by kernel_rfl) rfl
theorem Ms:Gd Tryd.prog 25 [.bool false,.slice none 0 0]:=EO (by kernel_rfl)
theorem it_3:Tryd.prog.underlying 3=some (.int .i64):=by kernel_rfl
theorem Bs:Tryd.prog.underlying 101=some (.int .u64):=by kernel_rfl
theorem Ng:Ent Tryd.prog 69:=ent Tryd.func69 (by kernel_rfl) rfl
theorem Li:DN Tryd.prog 25 2=true:=by kernel_rfl
theorem MT:Ent Tryd.prog 68:=ent Tryd.func68 (by kernel_rfl) rfl
theorem MN:Ent Tryd.prog 29:=ent Tryd.func29 (by kernel_rfl) rfl
theorem IR:Gd Tryd.prog 31 [.int .i64 0]:=EO (by kernel_rfl)
theorem JK:Tryd.prog.underlying 20=some (.interface #[]):=by kernel_rfl
theorem Ki:Mh Tryd.prog 107=true:=by kernel_rfl
theorem KN:Gd Tryd.prog 107 [.int .i64 0]:=EO (by kernel_rfl)
theorem KW:DN Tryd.prog 107 1=true:=by kernel_rfl
theorem Jz:fieldAt Tryd.prog 107 0=some 0:=by kernel_rfl
theorem Dz:IW Tryd.prog 31=true:=by kernel_rfl
theorem Hk:DN Tryd.prog 31 1=true:=by kernel_rfl
theorem Fq:Ent Tryd.prog 44:=ent Tryd.func44 (by kernel_rfl) rfl
theorem Iq:Ent Tryd.prog 38:=ent Tryd.func38 (by kernel_rfl) rfl
theorem LH:Ent Tryd.prog 77:=ent Tryd.func77 (by kernel_rfl) rfl
theorem sz_59:DN Tryd.prog 59 1=true:=by kernel_rfl
theorem en_78:Ent Tryd.prog 78:=ent Tryd.func78 (by kernel_rfl) rfl
theorem IT:Ent Tryd.prog 42:=ent Tryd.func42 (by kernel_rfl) rfl
theorem en_28:Ent Tryd.prog 28:=ent Tryd.func28 (by kernel_rfl) rfl
theorem en_79:Ent Tryd.prog 79:=ent Tryd.func79 (by kernel_rfl) rfl
theorem en_80:Ent Tryd.prog 80:=ent Tryd.func80 (by kernel_rfl) rfl
theorem en_46:Ent Tryd.prog 46:=ent Tryd.func46 (by kernel_rfl) rfl
theorem Hu:Ent Tryd.prog 15:=ent Tryd.func15 (by kernel_rfl) rfl
theorem LD:Ent Tryd.prog 39:=ent Tryd.func39 (by kernel_rfl) rfl
theorem Hl:Ent Tryd.prog 62:=ent Tryd.func62 (by kernel_rfl) rfl
theorem MU:Ent Tryd.prog 63:=ent Tryd.func63 (by kernel_rfl) rfl
theorem Hf:Gd Tryd.prog 97 [.int .u32 0]:=EO (by kernel_rfl)
theorem en_97:Ent Tryd.prog 97:=ent Tryd.func97 (by kernel_rfl) rfl
theorem Iv:Ent Tryd.prog 64:=ent Tryd.func64 (by kernel_rfl) rfl
theorem MZ:Ent Tryd.prog 24:=ent Tryd.func24 (by kernel_rfl) rfl
theorem Eg:Gd Tryd.prog 41 [.bool false,.slice none 0 0,.int .i64 0,.bool false,.slice none 0 0,.int .i64 0]:=EO (by kernel_rfl)
theorem Dh:DN Tryd.prog 41 6=true:=by kernel_rfl
theorem IQ:Ent Tryd.prog 30:=ent Tryd.func30 (by kernel_rfl) rfl
theorem Ht:Tryd.prog.underlying 132=some (.slice 41):=by kernel_rfl
theorem HU:Ent Tryd.prog 84:=ent Tryd.func84 (by kernel_rfl) rfl
theorem FB:Ent Tryd.prog 83:=ent Tryd.func83 (by kernel_rfl) rfl
theorem MJ:Gd Tryd.prog 80 [.bool false,.slice none 0 0,.int .i64 0,.bool false,.slice none 0 0,.int .i64 0]:=EO (by kernel_rfl)
theorem MR:DN Tryd.prog 80 6=true:=by kernel_rfl
theorem Ir:agg Tryd.prog 80 6=true:=by kernel_rfl
theorem HZ:Ent Tryd.prog 85:=ent Tryd.func85 (by kernel_rfl) rfl
theorem No:Gd Tryd.prog 85 [.pointer none]:=EO (by kernel_rfl)
theorem Nd:Ent Tryd.prog 55:=ent Tryd.func55 (by kernel_rfl) rfl
theorem Nr:Ent Tryd.prog 90:=ent Tryd.func90 (by kernel_rfl) rfl
theorem LX:Ent Tryd.prog 103:=ent Tryd.func103 (by kernel_rfl) rfl
theorem en_75:Ent Tryd.prog 75:=ent Tryd.func75 (by kernel_rfl) rfl
theorem MW:Ent Tryd.prog 36:=ent Tryd.func36 (by kernel_rfl) rfl
theorem Ft:IW Tryd.prog 85=true:=by kernel_rfl
theorem Lu:Tryd.prog.underlying 85=some (.pointer 80):=by kernel_rfl
theorem Nm:DN Tryd.prog 85 1=true:=by kernel_rfl
theorem en_56:Ent Tryd.prog 56:=ent Tryd.func56 (by kernel_rfl) rfl
theorem Ic:Ent Tryd.prog 51:=ent Tryd.func51 (by kernel_rfl) rfl
theorem MO:Ent Tryd.prog 54:=ent Tryd.func54 (by kernel_rfl) rfl
theorem KG:Ent Tryd.prog 48:=ent Tryd.func48 (by kernel_rfl) rfl
theorem Md:Ent Tryd.prog 21:=ent Tryd.func21 (by kernel_rfl) rfl
theorem en_74:Ent Tryd.prog 74:=ent Tryd.func74 (by kernel_rfl) rfl
theorem en_35:Ent Tryd.prog 35:=ent Tryd.func35 (by kernel_rfl) rfl
theorem LL:Ent Tryd.prog 9:=ent Tryd.func9 (by kernel_rfl) rfl
theorem Mb:Ent Tryd.prog 31:=ent Tryd.func31 (by kernel_rfl) rfl
theorem MS:Ent Tryd.prog 92:=ent Tryd.func92 (by kernel_rfl) rfl
theorem Ef:Ent Tryd.prog 59:=ent Tryd.func59 (by kernel_rfl) rfl
theorem Ni:Ent Tryd.prog 57:=ent Tryd.func57 (by kernel_rfl) rfl
theorem Lk:Ent Tryd.prog 22:=ent Tryd.func22 (by kernel_rfl) rfl
theorem en_93:Ent Tryd.prog 93:=ent Tryd.func93 (by kernel_rfl) rfl
theorem Np:Ent Tryd.prog 61:=ent Tryd.func61 (by kernel_rfl) rfl
theorem MH:Ent Tryd.prog 60:=ent Tryd.func60 (by kernel_rfl) rfl
theorem LJ:Ent Tryd.prog 23:=ent Tryd.func23 (by kernel_rfl) rfl
theorem NB:Ent Tryd.prog 7:=ent Tryd.func7 (by kernel_rfl) rfl
theorem en_34:Ent Tryd.prog 34:=ent Tryd.func34 (by kernel_rfl) rfl
theorem MK:Ent Tryd.prog 53:=ent Tryd.func53 (by kernel_rfl) rfl
theorem MI:Ent Tryd.prog 52:=ent Tryd.func52 (by kernel_rfl) rfl
theorem MG:Ent Tryd.prog 19:=ent Tryd.func19 (by kernel_rfl) rfl
theorem zt_3:Gd Tryd.prog 3 [.int .i64 0]:=EO (by kernel_rfl)
theorem NA:DN Tryd.prog 3 1=true:=by kernel_rfl
theorem MQ:Ent Tryd.prog 99:=ent Tryd.func99 (by kernel_rfl) rfl
theorem en_65:Ent Tryd.prog 65:=ent Tryd.func65 (by kernel_rfl) rfl
theorem Nh:Ent Tryd.prog 25:=ent Tryd.func25 (by kernel_rfl) rfl
theorem MV:Ent Tryd.prog 49:=ent Tryd.func49 (by kernel_rfl) rfl
theorem en_17:Ent Tryd.prog 17:=ent Tryd.func17 (by kernel_rfl) rfl
theorem Lz:Ent Tryd.prog 20:=ent Tryd.func20 (by kernel_rfl) rfl
def Fi (_w:World) (r:Bool) (v:Value):Prop:=v = .bool r
def GF (w:World) (r:Ah) (v:Value):Prop:=∃(A1:Option Addr) (c1:Nat),v = .agg #[.bool r.m.Neg,.slice A1 (sz r.m.Abs) c1,.int .i64 r.e]∧RU w A1 c1 r.m.Abs
def JF (w:World) (r:Aj) (v:Value):Prop:=∃(A1:Option Addr) (c1:Nat),v = .agg #[.bool r.Neg,.slice A1 (sz r.Abs) c1]∧RU w A1 c1 r.Abs
def Gr (_w:World) (r:Int) (v:Value):Prop:=v = .int .i64 r
def KR (w:World) (r:Aj) (v:Value):Prop:=∃(A1:Option Addr) (c1:Nat),v = .agg #[.bool r.Neg,.slice A1 (sz r.Abs) c1]∧RU w A1 c1 r.Abs
def JV (w:World) (r:Af × Int) (v:Value):Prop:=∃(A1:Option Addr) (c1:Nat),v = .tuple #[.agg #[.bool r.1.Man.Neg,.slice A1 (sz r.1.Man.Abs) c1,.int .i64 r.1.Exp],.int .i64 r.2]∧RU w A1 c1 r.1.Man.Abs
def JJ (_w:World) (_r:Unit) (v:Value):Prop:=v = .tuple #[]
def KM (w:World) (r:Af) (v:Value):Prop:=∃(A1:Option Addr) (c1:Nat),v = .agg #[.bool r.Man.Neg,.slice A1 (sz r.Man.Abs) c1,.int .i64 r.Exp]∧RU w A1 c1 r.Man.Abs
def Ip (w:World) (r:Ao) (v:Value):Prop:=∃(A1:Option Addr) (c1:Nat) (A2:Option Addr) (c2:Nat),v = .agg #[.bool r.Lo.Man.Neg,.slice A1 (sz r.Lo.Man.Abs) c1,.int .i64 r.Lo.Exp,.bool r.Hi.Man.Neg,.slice A2 (sz r.Hi.Man.Abs) c2,.int .i64 r.Hi.Exp]∧RU w A1 c1 r.Lo.Man.Abs∧RU w A2 c2 r.Hi.Man.Abs
def ET (w:World) (r:Ao × Int) (v:Value):Prop:=∃(A1:Option Addr) (c1:Nat) (A2:Option Addr) (c2:Nat),v = .tuple #[.agg #[.bool r.1.Lo.Man.Neg,.slice A1 (sz r.1.Lo.Man.Abs) c1,.int .i64 r.1.Lo.Exp,.bool r.1.Hi.Man.Neg,.slice A2 (sz r.1.Hi.Man.Abs) c2,.int .i64 r.1.Hi.Exp],.int .i64 r.2]∧RU w A1 c1 r.1.Lo.Man.Abs∧RU w A2 c2 r.1.Hi.Man.Abs
def Mc (w:World) (r:Aq) (v:Value):Prop:=∃(A1:Option Addr) (c1:Nat) (A2:Option Addr) (c2:Nat),v = .agg #[.bool r.lo.m.Neg,.slice A1 (sz r.lo.m.Abs) c1,.int .i64 r.lo.e,.bool r.hi.m.Neg,.slice A2 (sz r.hi.m.Abs) c2,.int .i64 r.hi.e]∧RU w A1 c1 r.lo.m.Abs∧RU w A2 c2 r.hi.m.Abs
def JP (w:World) (r:Nat × Nat) (v:Value):Prop:=∃(A1:Option Addr) (c1:Nat) (A2:Option Addr) (c2:Nat),v = .tuple #[.slice A1 (sz r.1) c1,.slice A2 (sz r.2) c2]∧RU w A1 c1 r.1∧RU w A2 c2 r.2
def rep_3_31 (_w:World) (r:Int × Int) (v:Value):Prop:=v = .tuple #[.int .i64 r.1,.int .i64 r.2]
def Jf (_w:World) (r:Int) (v:Value):Prop:=v = .int .u64 r
def IJ (w:World) (r:Nat) (v:Value):Prop:=∃(A1:Option Addr) (c1:Nat),v = .slice A1 (sz r) c1∧RU w A1 c1 r
def Mn (w:World) (r:Nat) (v:Value):Prop:=∃(A1:Option Addr) (c1:Nat),v = .slice A1 (sz r) c1∧RU w A1 c1 r
abbrev Bo (x0:List Int):Option (Bool):=Lf.Bo x0
abbrev Bt (x0:List Int) (x1:Int):Option (Int):=Lf.Bt x0 x1
abbrev Fh (x0:List Int):Option (Bool):=Lf.Fh x0
def Bc (x0:Nat):Option (Int):=(gd (sz x0<1073741824)).bind fun _=>some (Lf.bl x0:Int)
def AV (x0:Nat) (x1:Int):Option (Nat):=(gd (sz x0<1073741824∧0≤x1∧x1<34359738368)).bind fun _=>some (x0*2^x1.toNat)
def BW (x0:Nat) (x1:Nat):Option (Nat):=(gd (sz x0<1073741824∧sz x1<1073741824)).bind fun _=>some (x0+x1)
def BI (x0:Nat) (x1:Nat):Option (Int):=(gd (sz x0<1073741824∧sz x1<1073741824)).bind fun _=>some (Lf.cmpw x0 x1)
def BB (x0:Nat) (x1:Nat):Option (Nat):=(gd (sz x0<1073741824∧sz x1<1073741824∧x1≤x0)).bind fun _=>some (x0 - x1)
def BZ (x0:Nat):Option (Int):=(gd (sz x0<1073741824)).bind fun _=>some (Lf.tz x0:Int)
def BH (x0:Nat) (x1:Int):Option (Nat):=(gd (sz x0<1073741824∧0≤x1∧x1<9223372036854775808)).bind fun _=>some (x0/2^x1.toNat)
def Ch (x0:Int):Option (Nat):=(gd (0≤x0∧x0<18446744073709551616)).bind fun _=>some (x0.toNat)
def Cj (x0:Nat):Option (Nat):=(gd (sz x0<1073741824)).bind fun _=>some (x0)
def Bn (x0:Nat):Option (Int):=(gd (sz x0<1073741824)).bind fun _=>some (Lf.tz x0:Int)
def BC (x0:Nat) (x1:Int):Option (Nat):=(gd (sz x0<1073741824∧0≤x1∧x1<9223372036854775808)).bind fun _=>some (x0/2^x1.toNat)
def Cm (x0:Nat) (x1:Nat):Option (Nat):=(gd (sz x0<1073741824∧sz x1<1073741824)).bind fun _=>some (x0*x1)
abbrev Ds (x0:List Int) (x1:List Int):Option (Bool):=Lf.Ds x0 x1
def Ct (x0:Nat) (x1:Nat):Option (Nat × Nat):=(gd (sz x0<1073741824∧sz x1<1073741824∧x1≠0)).bind fun _=>some (x0/x1,x0%x1)
def Db (x0:Az):Option (Bool):=
 (Bo x0.Abs).bind fun r0a=>
 (if r0a=true then (if ¬(x0.Neg=true) then some (true) else some (decide (0<(x0.Abs.length:Int)))).bind fun m1a=>
 some (m1a) else some (false)).bind fun m2a=>
 some m2a
def Bl (x0:Ar):Option (Bool):=
 (Db x0.Man).bind fun r0a=>
 if ¬(r0a=true) then some false else if (x0.Man.Abs.length:Int)=0 then some (decide (x0.Exp=0)) else (Bt x0.Man.Abs 0).bind fun r1a=>
 (if r1a=1 then some (decide ((-1048576)≤x0.Exp)) else some (false)).bind fun m2a=>
 (if m2a=true then some (decide (x0.Exp≤1048576)) else some (false)).bind fun m3a=>
 some m3a
def CU (x0:An):Option (Bool):=
 (if 20<(x0.Lo.Man.Abs.length:Int) then some (true) else (Bl x0.Lo).bind fun r0a=>
 (if r0a=true then (if x0.Lo.Exp<(-800) then some (true) else some (decide (800<x0.Lo.Exp))).bind fun m1a=>
 some (m1a) else some (false)).bind fun m2a=>
 some (m2a)).bind fun m3a=>
 if m3a=true then some false else (if 20<(x0.Hi.Man.Abs.length:Int) then some (true) else (Bl x0.Hi).bind fun r4a=>
 (if r4a=true then (if x0.Hi.Exp<(-800) then some (true) else some (decide (800<x0.Hi.Exp))).bind fun m5a=>
 some (m5a) else some (false)).bind fun m6a=>
 some (m6a)).bind fun m7a=>
 if m7a=true then some false else some true
def ES (x0:Az):Option (Bool):=
 (Fh x0.Abs).bind fun r0a=>
 (if r0a=true then (if ¬(x0.Neg=true) then some (true) else some (decide (0<(x0.Abs.length:Int)))).bind fun m1a=>
 some (m1a) else some (false)).bind fun m2a=>
 some m2a
def Dp (x0:Ar):Option (Bool):=
 (ES x0.Man).bind fun r0a=>
 if ¬(r0a=true) then some false else if (x0.Man.Abs.length:Int)=0 then some (decide (x0.Exp=0)) else (nth x0.Man.Abs 0).bind fun u1a=>
 (if (u1a%2)=1 then some (decide (x0.Exp≤1048576)) else some (false)).bind fun m2a=>
 (if m2a=true then some (decide ((-1048576)≤x0.Exp)) else some (false)).bind fun m3a=>
 some m3a
def GO (x0:Aj):Option (Aj):=
 some x0
def DU (x0:Af):Option (Ah):=
 (GO x0.Man).bind fun r0a=>
 some (⟨r0a,x0.Exp⟩:Ah)
def Fx (x0:Aj):Option (Int):=
 if (sz x0.Abs:Int)=0 then some 0 else if x0.Neg=true then some (-1) else some 1
def AE (x0:Ah):Option (Int):=
 (Fx x0.m).bind fun r0a=>
 some r0a
def EH (x0:Int) (x1:Int):Option (Int):=
 if x0<x1 then some (-1) else if x1<x0 then some 1 else some 0
def BU (x0:Ah):Option (Int):=
 (Bc x0.m.Abs).bind fun r0a=>
 some (wi64 ((wi64 (r0a - 1))+x0.e))
def Fk (x0:Aj):Option (Aj):=
 some (⟨(decide (¬(x0.Neg=true))),x0.Abs⟩:Aj)
def Fo (x0:Ah):Option (Ah):=
 (Fk x0.m).bind fun r0a=>
 some (⟨r0a,x0.e⟩:Ah)
def CP (x0:Aj) (x1:Int):Option (Aj):=
 (AV x0.Abs x1).bind fun r0a=>
 some (⟨x0.Neg,r0a⟩:Aj)
def DO (x0:Aj) (x1:Aj):Option (Aj):=
 if x0.Neg=x1.Neg then (BW x0.Abs x1.Abs).bind fun r0a=>
 some (⟨x0.Neg,r0a⟩:Aj) else (BI x0.Abs x1.Abs).bind fun r1a=>
 if 0≤r1a then (BB x0.Abs x1.Abs).bind fun r2a=>
 some (⟨x0.Neg,r2a⟩:Aj) else (BB x1.Abs x0.Abs).bind fun r3a=>
 some (⟨x1.Neg,r3a⟩:Aj)
def Dj (x0:Aj) (x1:Int):Option (Ah):=
 if (sz x0.Abs:Int)=0 then some (⟨(⟨false,0⟩:Aj),0⟩:Ah) else (BZ x0.Abs).bind fun r0a=>
 (BH x0.Abs r0a).bind fun r1a=>
 some (⟨(⟨x0.Neg,r1a⟩:Aj),(wi64 (x1+r0a))⟩:Ah)
def CM (x0:Aj) (x1:Aj) (x2:Int):Option (Ah):=
 (DO x0 x1).bind fun r0a=>
 (Dj r0a x2).bind fun r1a=>
 some r1a
def AU (x0:Ah) (x1:Ah):Option (Ah):=
 (if (sz x0.m.Abs:Int)=0 then some (x1.e) else some (min x0.e x1.e)).bind fun m5a=>
 (if (sz x1.m.Abs:Int)=0 then some (x0.e) else some (m5a)).bind fun m0a=>
 (if 0<(sz x0.m.Abs:Int) then (CP x0.m (wi64 (x0.e - m0a))).bind fun r1a=>
 some (r1a.Neg,r1a.Abs) else some (x0.m.Neg,x0.m.Abs)).bind fun m2a=>
 (if 0<(sz x1.m.Abs:Int) then (CP x1.m (wi64 (x1.e - m0a))).bind fun r3a=>
 some (r3a.Neg,r3a.Abs) else some (x1.m.Neg,x1.m.Abs)).bind fun m4a=>
 (CM (⟨m2a.1,m2a.2⟩:Aj) (⟨m4a.1,m4a.2⟩:Aj) m0a).bind fun r6a=>
 some r6a
def Be (x0:Ah) (x1:Ah):Option (Ah):=
 (AU x0 x1).bind fun r0a=>
 some r0a
def AP (x0:Ah) (x1:Ah):Option (Int):=
 (AE x0).bind fun r0a=>
 (AE x1).bind fun r1a=>
 (if ¬r0a=r1a then some (true) else some (decide (r0a=0))).bind fun m4a=>
 if m4a=true then (EH r0a r1a).bind fun r5a=>
 some r5a else (BU x0).bind fun r2a=>
 (BU x1).bind fun r3a=>
 if ¬r2a=r3a then (AE x0).bind fun r6a=>
 (EH r2a r3a).bind fun r7a=>
 some (wi64 (r6a*r7a)) else (Fo x1).bind fun r8a=>
 (Be x0 r8a).bind fun r9a=>
 (AE r9a).bind fun r0b=>
 some r0b
def AJ (x0:An):Option (Bool):=
 (Dp x0.Lo).bind fun r0a=>
 if r0a=true then (Dp x0.Hi).bind fun r1a=>
 if r1a=true then (toN x0.Lo.Man.Abs).bind fun m2a=>
 (DU (⟨(⟨x0.Lo.Man.Neg,m2a⟩:Aj),x0.Lo.Exp⟩:Af)).bind fun r3a=>
 (toN x0.Hi.Man.Abs).bind fun m4a=>
 (DU (⟨(⟨x0.Hi.Man.Neg,m4a⟩:Aj),x0.Hi.Exp⟩:Af)).bind fun r5a=>
 (AP r3a r5a).bind fun r6a=>
 some (decide (r6a≤0)) else some false else some false
def Ep (x0:Bool) (x1:Nat):Option (Aj):=
 (if x0=true then some (decide (0<(sz x1:Int))) else some (false)).bind fun m0a=>
 some (⟨m0a,x1⟩:Aj)
def Ey (x0:Int):Option (Aj):=
 if x0<0 then (Ch (wu64 (wi64 (-x0)))).bind fun r0a=>
 (Ep true r0a).bind fun r1a=>
 some r1a else (Ch (wu64 x0)).bind fun r2a=>
 (Ep false r2a).bind fun r3a=>
 some r3a
def Bw (x0:Bool) (x1:Int):M (Unit):=
 if ¬(x0=true) then some (.error x1) else some (.ok ())
def FO (x0:Aj):Option (Aj):=
 (if x0.Neg=true then some (decide (0<(sz x0.Abs:Int))) else some (false)).bind fun m0a=>
 some (⟨m0a,x0.Abs⟩:Aj)
def Cl (x0:Ah):M (Af):=
 (if (sz x0.m.Abs:Int)≤1024 then some (decide (x0.e≤1048576)) else some (false)).bind fun m0a=>
 (if m0a=true then some (decide ((-1048576)≤x0.e)) else some (false)).bind fun m1a=>
 mb (Bw m1a 2) fun r4a=>
 (Cj x0.m.Abs).bind fun r2a=>
 (FO (⟨x0.m.Neg,r2a⟩:Aj)).bind fun r3a=>
 some (.ok (⟨r3a,x0.e⟩:Af))
def IA (x0:Az) (x1:Int):M (Af × Int):=
 (ES x0).bind fun r0a=>
 mb (Bw r0a 1) fun r5a=>
 if (x0.Abs.length:Int)=0 then some (.ok ((⟨(⟨false,0⟩:Aj),0⟩:Af),0)) else (toN x0.Abs).bind fun m1a=>
 (GO (⟨x0.Neg,m1a⟩:Aj)).bind fun r2a=>
 (Dj r2a (max (-1099511627776) (min x1 1099511627776))).bind fun r3a=>
 mb (Cl r3a) fun r4a=>
 some (.ok (r4a,0))
def HD (x0:Az) (x1:Int):Option (Af × Int):=(IA x0 x1).bind fun q=>match q with | .ok r=>some r | .error n=>some ((⟨(⟨false,0⟩:Aj),0⟩:Af),n)
def FI (x0:Aj) (x1:Int):Option (Af):=
 if (sz x0.Abs:Int)=0 then some (⟨(⟨false,0⟩:Aj),0⟩:Af) else (Bn x0.Abs).bind fun r0a=>
 (BC x0.Abs r0a).bind fun r1a=>
 some (⟨(⟨x0.Neg,r1a⟩:Aj),(wi64 (x1+r0a))⟩:Af)
def AO (x0:Int) (x1:Int):Option (Af):=
 (Ey x0).bind fun r7=>
 (FI r7 x1).bind fun r0a=>
 some r0a
def EQ (x0_0:Ar):M (Unit):=
 (Dp x0_0).bind fun r0a=>
 mb (Bw r0a 1) fun r1a=>
 some (.ok ())
def Ee (x0:Int):M (Unit):=
 (if 1≤x0 then some (decide (x0≤4096)) else some (false)).bind fun m8=>
 mb (Bw m8 1) fun r0a=>
 some (.ok ())
def DZ (x0:Int):M (Unit):=
 (if 1≤x0 then some (decide (x0≤5)) else some (false)).bind fun m8=>
 mb (Bw m8 1) fun r0a=>
 some (.ok ())
def Ge (x0:Bool) (x1:Int) (x2:Bool) (x3:Bool) (x4:Int):Option (Bool):=
 if x0=true then some false else if x4=1 then (if 0<x1 then some (true) else (if x1=0 then some (x2) else some (false)).bind fun m0a=>
 some (m0a)).bind fun m1a=>
 some m1a else if x4=2 then some (decide (0≤x1)) else if x4=4 then some (decide (¬(x3=true))) else if x4=5 then some x3 else some false
def As (x0:Ah) (x1:Int) (x2:Int) (x3:Bool):Option (Ah):=
 (Bc x0.m.Abs).bind fun r1a=>
 (if (wi64 (r1a - x1))≤0 then some (decide (¬(x3=true))) else some (false)).bind fun m6a=>
 if m6a=true then (Dj x0.m x0.e).bind fun r7a=>
 some r7a else (if (wi64 (r1a - x1))<2 then (CP x0.m (wi64 (2 - (wi64 (r1a - x1))))).bind fun r3a=>
 some (2,r3a.Neg,r3a.Abs,(wi64 ((wi64 (x0.e - 2))+(wi64 (r1a - x1))))) else some ((wi64 (r1a - x1)),x0.m.Neg,x0.m.Abs,x0.e)).bind fun m0a=>
 (BH m0a.2.2.1 m0a.1).bind fun r2a=>
 (AV r2a m0a.1).bind fun r8a=>
 (BB m0a.2.2.1 r8a).bind fun r4a=>
 (if (sz r4a:Int)=0 then some (decide (¬(x3=true))) else some (false)).bind fun m9a=>
 (AV 1 (wi64 (m0a.1 - 1))).bind fun r0b=>
 (BI r4a r0b).bind fun r5a=>
 (if r5a=0 then some (x3) else some (false)).bind fun m1b=>
 (if m1b=true then some (1) else some (r5a)).bind fun m2b=>
 (if 0<(sz r2a:Int) then (nth (limbs r2a) 0).bind fun u3b=>
 some (decide ((u3b%2)=1)) else some (false)).bind fun m4b=>
 (Ge m9a m2b m4b m0a.2.1 x2).bind fun r5b=>
 (if r5b=true then (BW r2a 1).bind fun r6b=>
 some (r6b) else some (r2a)).bind fun m7b=>
 (Dj (⟨m0a.2.1,m7b⟩:Aj) (wi64 (m0a.2.2.2+m0a.1))).bind fun r8b=>
 some r8b
def Ga (x0:Ar) (x1:Int) (x2:Int):M (Af × Int):=
 mb (EQ x0) fun r4a=>
 mb (Ee x1) fun r5a=>
 mb (DZ x2) fun r6a=>
 (toN x0.Man.Abs).bind fun m0a=>
 (DU (⟨(⟨x0.Man.Neg,m0a⟩:Aj),x0.Exp⟩:Af)).bind fun r1a=>
 (As r1a x1 x2 false).bind fun r2a=>
 mb (Cl r2a) fun r3a=>
 some (.ok (r3a,0))
def Ev (x0:Ar) (x1:Int) (x2:Int):Option (Af × Int):=(Ga x0 x1 x2).bind fun q=>match q with | .ok r=>some r | .error n=>some ((⟨(⟨false,0⟩:Aj),0⟩:Af),n)
def BA (x0:Int) (x1:Int):Option (Ao):=
 (AO x0 0).bind fun r7=>
 (AO x1 0).bind fun r0a=>
 some (⟨r7,r0a⟩:Ao)
def Ba (x0_0:An) (x0_1:An):M (Unit):=
 (AJ x0_0).bind fun r0a=>
 mb (Bw r0a 1) fun r2a=>
 (AJ x0_1).bind fun r1a=>
 mb (Bw r1a 1) fun r3a=>
 some (.ok ())
def Cw (x0:Ao):Option (Aq):=
 (DU x0.Lo).bind fun r0a=>
 (DU x0.Hi).bind fun r1a=>
 some (⟨r0a,r1a⟩:Aq)
def Fc (x0:Aj) (x1:Aj):Option (Aj):=
 (Cm x0.Abs x1.Abs).bind fun r0a=>
 some (⟨(decide (¬x0.Neg=x1.Neg)),r0a⟩:Aj)
def Cd (x0:Ah) (x1:Ah):Option (Ah):=
 (Fc x0.m x1.m).bind fun r0a=>
 (Dj r0a (wi64 (x0.e+x1.e))).bind fun r1a=>
 some r1a
def EB (x0:Aq) (x1:Int):Option (Aq):=
 (As x0.lo x1 5 false).bind fun r0a=>
 (As x0.hi x1 4 false).bind fun r1a=>
 some (⟨r0a,r1a⟩:Aq)
def Cu (x0:Aq):M (Ao):=
 mb (Cl x0.lo) fun r0a=>
 mb (Cl x0.hi) fun r1a=>
 some (.ok (⟨r0a,r1a⟩:Ao))
def Gl (x0:Aq) (x1:Aq) (x2:Int) (x y:Ah):Option Aq:=
 (Cd x y).bind fun r0a=>
 (AP r0a r0a).bind fun r1a=>
 (if r1a<0 then some () else some ()).bind fun m3a=>
 (AP r0a r0a).bind fun r2a=>
 (if 0<r2a then some () else some ()).bind fun m4a=>
 some (⟨r0a,r0a⟩:Aq)
def Es (x0:Aq) (x1:Aq) (x2:Int) (sr:Aq) (x y:Ah):Option Aq:=
 (Cd x y).bind fun r0a=>
 (AP r0a sr.lo).bind fun r3a=>
 (if r3a<0 then some (r0a.m.Neg,r0a.m.Abs,r0a.e) else some (sr.lo.m.Neg,sr.lo.m.Abs,sr.lo.e)).bind fun m1a=>
 (AP r0a sr.hi).bind fun r4a=>
 (if 0<r4a then some (r0a.m.Neg,r0a.m.Abs,r0a.e) else some (sr.hi.m.Neg,sr.hi.m.Abs,sr.hi.e)).bind fun m2a=>
 some (⟨(⟨(⟨m1a.1,m1a.2.1⟩:Aj),m1a.2.2⟩:Ah),(⟨(⟨m2a.1,m2a.2.1⟩:Aj),m2a.2.2⟩:Ah)⟩:Aq)
def Dl (x0:Aq) (x1:Aq) (x2:Int):M (Ao):=
 (Gl x0 x1 x2 x0.lo x1.lo).bind fun s0a=>
 (Es x0 x1 x2 s0a x0.lo x1.hi).bind fun s1a=>
 (Es x0 x1 x2 s1a x0.hi x1.lo).bind fun s2a=>
 (Es x0 x1 x2 s2a x0.hi x1.hi).bind fun s3a=>
 (EB s3a x2).bind fun r4a=>
 mb (Cu r4a) fun r5a=>
 some (.ok r5a)
def Ck (x0:An) (x1:An) (x2:Int):M (Ao × Int):=
 mb (Ba x0 x1) fun r7a=>
 mb (Ee x2) fun r8a=>
 (toN x0.Lo.Man.Abs).bind fun m0a=>
 (toN x0.Hi.Man.Abs).bind fun m1a=>
 (Cw (⟨(⟨(⟨x0.Lo.Man.Neg,m0a⟩:Aj),x0.Lo.Exp⟩:Af),(⟨(⟨x0.Hi.Man.Neg,m1a⟩:Aj),x0.Hi.Exp⟩:Af)⟩:Ao)).bind fun r2a=>
 (toN x1.Lo.Man.Abs).bind fun m3a=>
 (toN x1.Hi.Man.Abs).bind fun m4a=>
 (Cw (⟨(⟨(⟨x1.Lo.Man.Neg,m3a⟩:Aj),x1.Lo.Exp⟩:Af),(⟨(⟨x1.Hi.Man.Neg,m4a⟩:Aj),x1.Hi.Exp⟩:Af)⟩:Ao)).bind fun r5a=>
 mb (Dl r2a r5a x2) fun r6a=>
 some (.ok (r6a,0))
def BG (x0:An) (x1:An) (x2:Int):Option (Ao × Int):=(Ck x0 x1 x2).bind fun q=>match q with | .ok r=>some r | .error n=>some ((⟨(⟨(⟨false,0⟩:Aj),0⟩:Af),(⟨(⟨false,0⟩:Aj),0⟩:Af)⟩:Ao),n)
def Ex (x0:An) (x1:An) (x2:Int):Option (Ao × Int):=
 (BG x0 x1 x2).bind fun r0a=>
 some (r0a.1,r0a.2)
def EL (x0:Aj) (x1:Aj):Option (Bool):=
 (if x0.Neg=x1.Neg then (Ds (limbs x0.Abs) (limbs x1.Abs)).bind fun r0a=>
 some (r0a) else some (false)).bind fun m1a=>
 some m1a
def CH (x0:Af) (x1:Af):Option (Bool):=
 (EL x0.Man x1.Man).bind fun r0a=>
 (if r0a=true then some (decide (x0.Exp=x1.Exp)) else some (false)).bind fun m1a=>
 some m1a
def Da (x0:Ao) (x1:Ao):Option (Bool):=
 (CH x0.Lo x1.Lo).bind fun r0a=>
 (if r0a=true then (CH x0.Hi x1.Hi).bind fun r1a=>
 some (r1a) else some (false)).bind fun m2a=>
 some m2a
def AF (x0:Ah) (x1:Ah) (x2:Int) (x3:Int):Option (Ah):=
 (AE x0).bind fun r3a=>
 if r3a=0 then some (⟨(⟨false,0⟩:Aj),0⟩:Ah) else (Bc x1.m.Abs).bind fun r0a=>
 (Bc x0.m.Abs).bind fun r1a=>
 (AV x0.m.Abs (max 0 (wi64 ((wi64 ((wi64 (x2+2))+r0a)) - r1a)))).bind fun r4a=>
 (Ct r4a x1.m.Abs).bind fun r2a=>
 (As (⟨(⟨(decide (¬x0.m.Neg=x1.m.Neg)),r2a.1⟩:Aj),(wi64 ((wi64 (x0.e - x1.e)) - (max 0 (wi64 ((wi64 ((wi64 (x2+2))+r0a)) - r1a)))))⟩:Ah) x2 x3 (decide (0<(sz r2a.2:Int)))).bind fun r5a=>
 some r5a
def FQ (x0:Aq) (x1:Aq) (x2:Int) (x y:Ah):Option Aq:=
 (AF x y x2 5).bind fun r0a=>
 (AF x y x2 4).bind fun r1a=>
 (AP r0a r0a).bind fun r2a=>
 (if r2a<0 then some () else some ()).bind fun m4a=>
 (AP r1a r1a).bind fun r3a=>
 (if 0<r3a then some () else some ()).bind fun m5a=>
 some (⟨r0a,r1a⟩:Aq)
def Dm (x0:Aq) (x1:Aq) (x2:Int) (sr:Aq) (x y:Ah):Option Aq:=
 (AF x y x2 5).bind fun r0a=>
 (AF x y x2 4).bind fun r1a=>
 (AP r0a sr.lo).bind fun r4a=>
 (if r4a<0 then some (r0a.m.Neg,r0a.m.Abs,r0a.e) else some (sr.lo.m.Neg,sr.lo.m.Abs,sr.lo.e)).bind fun m2a=>
 (AP r1a sr.hi).bind fun r5a=>
 (if 0<r5a then some (r1a.m.Neg,r1a.m.Abs,r1a.e) else some (sr.hi.m.Neg,sr.hi.m.Abs,sr.hi.e)).bind fun m3a=>
 some (⟨(⟨(⟨m2a.1,m2a.2.1⟩:Aj),m2a.2.2⟩:Ah),(⟨(⟨m3a.1,m3a.2.1⟩:Aj),m3a.2.2⟩:Ah)⟩:Aq)
def Ec (x0:Aq) (x1:Aq) (x2:Int):M (Ao):=
 (AE x1.lo).bind fun r0a=>
 (AE x1.hi).bind fun r1a=>
 mb (Bw (decide (0<(wi64 (r0a*r1a)))) 8) fun r7a=>
 (FQ x0 x1 x2 x0.lo x1.lo).bind fun s2a=>
 (Dm x0 x1 x2 s2a x0.lo x1.hi).bind fun s3a=>
 (Dm x0 x1 x2 s3a x0.hi x1.lo).bind fun s4a=>
 (Dm x0 x1 x2 s4a x0.hi x1.hi).bind fun s5a=>
 mb (Cu s5a) fun r6a=>
 some (.ok r6a)
def DG (x0:An) (x1:An) (x2:Int):M (Ao × Int):=
 mb (Ba x0 x1) fun r7a=>
 mb (Ee x2) fun r8a=>
 (toN x0.Lo.Man.Abs).bind fun m0a=>
 (toN x0.Hi.Man.Abs).bind fun m1a=>
 (Cw (⟨(⟨(⟨x0.Lo.Man.Neg,m0a⟩:Aj),x0.Lo.Exp⟩:Af),(⟨(⟨x0.Hi.Man.Neg,m1a⟩:Aj),x0.Hi.Exp⟩:Af)⟩:Ao)).bind fun r2a=>
 (toN x1.Lo.Man.Abs).bind fun m3a=>
 (toN x1.Hi.Man.Abs).bind fun m4a=>
 (Cw (⟨(⟨(⟨x1.Lo.Man.Neg,m3a⟩:Aj),x1.Lo.Exp⟩:Af),(⟨(⟨x1.Hi.Man.Neg,m4a⟩:Aj),x1.Hi.Exp⟩:Af)⟩:Ao)).bind fun r5a=>
 mb (Ec r2a r5a x2) fun r6a=>
 some (.ok (r6a,0))
def CI (x0:An) (x1:An) (x2:Int):Option (Ao × Int):=(DG x0 x1 x2).bind fun q=>match q with | .ok r=>some r | .error n=>some ((⟨(⟨(⟨false,0⟩:Aj),0⟩:Af),(⟨(⟨false,0⟩:Aj),0⟩:Af)⟩:Ao),n)
def Dv (x0:An) (x1:An) (x2:Int):Option (Ao × Int):=
 (CI x0 x1 x2).bind fun r0a=>
 some (r0a.1,r0a.2)
def DV (x0:Nat):Nat→Nat→Option (Nat × Nat)
 | 0,_=>none
 | n2a+1,v0a=>
 (Ct x0 v0a).bind fun r3a=>
 (BW v0a r3a.1).bind fun r4a=>
 (BH r4a 1).bind fun r1a=>
 (BI r1a v0a).bind fun r5a=>
 if 0≤r5a then (Cm v0a v0a).bind fun r6a=>
 (BB x0 r6a).bind fun r7a=>
 some (v0a,r7a) else DV x0 n2a r1a
def EP (x0:Nat):Option (Nat × Nat):=
 if (sz x0:Int)=0 then some (0,0) else (Bc x0).bind fun r0a=>
 (AV 1 (wi64 ((wi64 (r0a+1)).tdiv 2))).bind fun r1a=>
 DV x0 18446744073709551616 r1a
def BN (x0:Ah) (x1:Int) (x2:Int):Option (Ah):=
 (AE x0).bind fun r3a=>
 if r3a=0 then some (⟨(⟨false,0⟩:Aj),0⟩:Ah) else (Bc x0.m.Abs).bind fun r0a=>
 (if ¬((wi64 (x0.e - (max 0 (wi64 ((wi64 ((wi64 (2*x1))+4)) - r0a)))))%2)=0 then some (wi64 ((max 0 (wi64 ((wi64 ((wi64 (2*x1))+4)) - r0a)))+1)) else some (max 0 (wi64 ((wi64 ((wi64 (2*x1))+4)) - r0a)))).bind fun m1a=>
 (AV x0.m.Abs m1a).bind fun r4a=>
 (EP r4a).bind fun r2a=>
 (As (⟨(⟨false,r2a.1⟩:Aj),(wi64 ((wi64 (x0.e - m1a)).tdiv 2))⟩:Ah) x1 x2 (decide (0<(sz r2a.2:Int)))).bind fun r5a=>
 some r5a
def Ed (x0:Aq) (x1:Aq) (x2:Int):M (Ao):=
 (AE x0.lo).bind fun r0a=>
 mb (Bw (decide (0≤r0a)) 3) fun r4a=>
 (BN x0.lo x2 5).bind fun r1a=>
 (BN x0.hi x2 4).bind fun r2a=>
 mb (Cu (⟨r1a,r2a⟩:Aq)) fun r3a=>
 some (.ok r3a)
def DF (x0:An) (x1:An) (x2:Int):M (Ao × Int):=
 mb (Ba x0 x1) fun r7a=>
 mb (Ee x2) fun r8a=>
 (toN x0.Lo.Man.Abs).bind fun m0a=>
 (toN x0.Hi.Man.Abs).bind fun m1a=>
 (Cw (⟨(⟨(⟨x0.Lo.Man.Neg,m0a⟩:Aj),x0.Lo.Exp⟩:Af),(⟨(⟨x0.Hi.Man.Neg,m1a⟩:Aj),x0.Hi.Exp⟩:Af)⟩:Ao)).bind fun r2a=>
 (toN x1.Lo.Man.Abs).bind fun m3a=>
 (toN x1.Hi.Man.Abs).bind fun m4a=>
 (Cw (⟨(⟨(⟨x1.Lo.Man.Neg,m3a⟩:Aj),x1.Lo.Exp⟩:Af),(⟨(⟨x1.Hi.Man.Neg,m4a⟩:Aj),x1.Hi.Exp⟩:Af)⟩:Ao)).bind fun r5a=>
 mb (Ed r2a r5a x2) fun r6a=>
 some (.ok (r6a,0))
def CK (x0:An) (x1:An) (x2:Int):Option (Ao × Int):=(DF x0 x1 x2).bind fun q=>match q with | .ok r=>some r | .error n=>some ((⟨(⟨(⟨false,0⟩:Aj),0⟩:Af),(⟨(⟨false,0⟩:Aj),0⟩:Af)⟩:Ao),n)
def DP (x0:An) (x1:Int):Option (Ao × Int):=
 (CK x0 x0 x1).bind fun r0a=>
 some (r0a.1,r0a.2)
def CN:Option (Bool):=
 (Ey 12).bind fun r3=>
 (HD (⟨r3.Neg,(limbs r3.Abs)⟩:Az) 3).bind fun r9a=>
 (AO 11 0).bind fun r7a=>
 (Ev (⟨(⟨r7a.Man.Neg,(limbs r7a.Man.Abs)⟩:Az),r7a.Exp⟩:Ar) 3 1).bind fun r0b=>
 (AO (-11) 0).bind fun r8a=>
 (Ev (⟨(⟨r8a.Man.Neg,(limbs r8a.Man.Abs)⟩:Az),r8a.Exp⟩:Ar) 2 5).bind fun r1b=>
 (BA (-1) 2).bind fun r0a=>
 (BA (-3) 5).bind fun r1a=>
 (Ex (⟨(⟨(⟨r0a.Lo.Man.Neg,(limbs r0a.Lo.Man.Abs)⟩:Az),r0a.Lo.Exp⟩:Ar),(⟨(⟨r0a.Hi.Man.Neg,(limbs r0a.Hi.Man.Abs)⟩:Az),r0a.Hi.Exp⟩:Ar)⟩:An) (⟨(⟨(⟨r1a.Lo.Man.Neg,(limbs r1a.Lo.Man.Abs)⟩:Az),r1a.Lo.Exp⟩:Ar),(⟨(⟨r1a.Hi.Man.Neg,(limbs r1a.Hi.Man.Abs)⟩:Az),r1a.Hi.Exp⟩:Ar)⟩:An) 8).bind fun r2b=>
 (if ¬r9a.2=0 then some (true) else some (decide (¬r0b.2=0))).bind fun m5b=>
 (if m5b=true then some (true) else some (decide (¬r1b.2=0))).bind fun m6b=>
 (if m6b=true then some (true) else some (decide (¬r2b.2=0))).bind fun m7b=>
 if m7b=true then some false else (AO 3 5).bind fun r8b=>
 (CH r9a.1 r8b).bind fun r9b=>
 if ¬(r9b=true) then some false else (AO 12 0).bind fun r0c=>
 (CH r0b.1 r0c).bind fun r1c=>
 if ¬(r1c=true) then some false else (AO (-12) 0).bind fun r2c=>
 (CH r1b.1 r2c).bind fun r3c=>
 if ¬(r3c=true) then some false else (BA (-6) 10).bind fun r4c=>
 (Da r2b.1 r4c).bind fun r5c=>
 if ¬(r5c=true) then some false else (BA 1 1).bind fun r2a=>
 (BA 3 3).bind fun r3a=>
 (Dv (⟨(⟨(⟨r2a.Lo.Man.Neg,(limbs r2a.Lo.Man.Abs)⟩:Az),r2a.Lo.Exp⟩:Ar),(⟨(⟨r2a.Hi.Man.Neg,(limbs r2a.Hi.Man.Abs)⟩:Az),r2a.Hi.Exp⟩:Ar)⟩:An) (⟨(⟨(⟨r3a.Lo.Man.Neg,(limbs r3a.Lo.Man.Abs)⟩:Az),r3a.Lo.Exp⟩:Ar),(⟨(⟨r3a.Hi.Man.Neg,(limbs r3a.Hi.Man.Abs)⟩:Az),r3a.Hi.Exp⟩:Ar)⟩:An) 4).bind fun r3b=>
 (BA 1 1).bind fun r4a=>
 (BA (-1) 1).bind fun r5a=>
 (Dv (⟨(⟨(⟨r4a.Lo.Man.Neg,(limbs r4a.Lo.Man.Abs)⟩:Az),r4a.Lo.Exp⟩:Ar),(⟨(⟨r4a.Hi.Man.Neg,(limbs r4a.Hi.Man.Abs)⟩:Az),r4a.Hi.Exp⟩:Ar)⟩:An) (⟨(⟨(⟨r5a.Lo.Man.Neg,(limbs r5a.Lo.Man.Abs)⟩:Az),r5a.Lo.Exp⟩:Ar),(⟨(⟨r5a.Hi.Man.Neg,(limbs r5a.Hi.Man.Abs)⟩:Az),r5a.Hi.Exp⟩:Ar)⟩:An) 4).bind fun r6c=>
 (BA 2 2).bind fun r6a=>
 (DP (⟨(⟨(⟨r6a.Lo.Man.Neg,(limbs r6a.Lo.Man.Abs)⟩:Az),r6a.Lo.Exp⟩:Ar),(⟨(⟨r6a.Hi.Man.Neg,(limbs r6a.Hi.Man.Abs)⟩:Az),r6a.Hi.Exp⟩:Ar)⟩:An) 4).bind fun r4b=>
 (AO 5 (-4)).bind fun r7c=>
 (AO 11 (-5)).bind fun r8c=>
 (AO 11 (-3)).bind fun r9c=>
 (AO 3 (-1)).bind fun r0d=>
 (if r3b.2=0 then some (decide (r6c.2=8)) else some (false)).bind fun m1d=>
 (if m1d=true then some (decide (r4b.2=0)) else some (false)).bind fun m2d=>
 (if m2d=true then (Da r3b.1 (⟨r7c,r8c⟩:Ao)).bind fun r3d=>
 some (r3d) else some (false)).bind fun m4d=>
 (if m4d=true then (Da r4b.1 (⟨r9c,r0d⟩:Ao)).bind fun r5d=>
 some (r5d) else some (false)).bind fun m6d=>
 some m6d
def EJ (x0:Ah) (x1:Ah):Option (Bool):=
 (AE x0).bind fun r0a=>
 (if r0a=0 then some (true) else (AE x1).bind fun r1a=>
 some (decide (r1a=0))).bind fun m2a=>
 if m2a=true then some true else (BU x0).bind fun r3a=>
 (BU x1).bind fun r4a=>
 some (decide ((wi64 ((max r3a r4a) - (min x0.e x1.e)))≤32770))
def FY (x0:Ah) (x1:Ah) (x2:Int) (x3:Int):Option (Ah):=
 (EJ x0 x1).bind fun r3a=>
 if r3a=true then (Be x0 x1).bind fun r4a=>
 (As r4a x2 x3 false).bind fun r5a=>
 some r5a else (BU x0).bind fun r6a=>
 (BU x1).bind fun r7a=>
 (if r6a<r7a then some (x1.m.Neg,x1.m.Abs,x1.e,x0.m.Neg,x0.m.Abs,x0.e) else some (x0.m.Neg,x0.m.Abs,x0.e,x1.m.Neg,x1.m.Abs,x1.e)).bind fun m0a=>
 (Bc m0a.2.1).bind fun r1a=>
 (AV m0a.2.1 (max 0 (wi64 ((wi64 (x2+4)) - r1a)))).bind fun r2a=>
 (BU (⟨(⟨m0a.2.2.2.1,m0a.2.2.2.2.1⟩:Aj),m0a.2.2.2.2.2⟩:Ah)).bind fun r8a=>
 if (wi64 ((wi64 (m0a.2.2.1 - (max 0 (wi64 ((wi64 (x2+4)) - r1a))))) - 1))≤r8a then (Be (⟨(⟨m0a.1,r2a⟩:Aj),(wi64 (m0a.2.2.1 - (max 0 (wi64 ((wi64 (x2+4)) - r1a)))))⟩:Ah) (⟨(⟨m0a.2.2.2.1,m0a.2.2.2.2.1⟩:Aj),m0a.2.2.2.2.2⟩:Ah)).bind fun r9a=>
 (As r9a x2 x3 false).bind fun r0b=>
 some r0b else if m0a.1=m0a.2.2.2.1 then (As (⟨(⟨m0a.1,r2a⟩:Aj),(wi64 (m0a.2.2.1 - (max 0 (wi64 ((wi64 (x2+4)) - r1a)))))⟩:Ah) x2 x3 true).bind fun r1b=>
 some r1b else (BB r2a 1).bind fun r2b=>
 (As (⟨(⟨m0a.1,r2b⟩:Aj),(wi64 (m0a.2.2.1 - (max 0 (wi64 ((wi64 (x2+4)) - r1a)))))⟩:Ah) x2 x3 true).bind fun r3b=>
 some r3b
def DI (x0:Aq) (x1:Aq) (x2:Int):M (Ao):=
 (FY x0.lo x1.lo x2 5).bind fun r0a=>
 (FY x0.hi x1.hi x2 4).bind fun r1a=>
 mb (Cu (⟨r0a,r1a⟩:Aq)) fun r2a=>
 some (.ok r2a)
def Cz (x0:An) (x1:An) (x2:Int):M (Ao × Int):=
 mb (Ba x0 x1) fun r7a=>
 mb (Ee x2) fun r8a=>
 (toN x0.Lo.Man.Abs).bind fun m0a=>
 (toN x0.Hi.Man.Abs).bind fun m1a=>
 (Cw (⟨(⟨(⟨x0.Lo.Man.Neg,m0a⟩:Aj),x0.Lo.Exp⟩:Af),(⟨(⟨x0.Hi.Man.Neg,m1a⟩:Aj),x0.Hi.Exp⟩:Af)⟩:Ao)).bind fun r2a=>
 (toN x1.Lo.Man.Abs).bind fun m3a=>
 (toN x1.Hi.Man.Abs).bind fun m4a=>
 (Cw (⟨(⟨(⟨x1.Lo.Man.Neg,m3a⟩:Aj),x1.Lo.Exp⟩:Af),(⟨(⟨x1.Hi.Man.Neg,m4a⟩:Aj),x1.Hi.Exp⟩:Af)⟩:Ao)).bind fun r5a=>
 mb (DI r2a r5a x2) fun r6a=>
 some (.ok (r6a,0))
def BL (x0:An) (x1:An) (x2:Int):Option (Ao × Int):=(Cz x0 x1 x2).bind fun q=>match q with | .ok r=>some r | .error n=>some ((⟨(⟨(⟨false,0⟩:Aj),0⟩:Af),(⟨(⟨false,0⟩:Aj),0⟩:Af)⟩:Ao),n)
def Fb (x0:An) (x1:An) (x2:Int):Option (Ao × Int):=
 (BL x0 x1 x2).bind fun r0a=>
 some (r0a.1,r0a.2)
def DX (x0_0:Ar) (x0_1:Ar):M (Unit):=
 (Dp x0_0).bind fun r0a=>
 mb (Bw r0a 1) fun r2a=>
 (Dp x0_1).bind fun r1a=>
 mb (Bw r1a 1) fun r3a=>
 some (.ok ())
def Ci (x0:Ar) (x1:Ar):M (Af × Int):=
 mb (DX x0 x1) fun r7a=>
 (toN x0.Man.Abs).bind fun m2a=>
 (DU (⟨(⟨x0.Man.Neg,m2a⟩:Aj),x0.Exp⟩:Af)).bind fun r0a=>
 (toN x1.Man.Abs).bind fun m3a=>
 (DU (⟨(⟨x1.Man.Neg,m3a⟩:Aj),x1.Exp⟩:Af)).bind fun r1a=>
 (EJ r0a r1a).bind fun r4a=>
 mb (Bw r4a 2) fun r8a=>
 (Be r0a r1a).bind fun r5a=>
 mb (Cl r5a) fun r6a=>
 some (.ok (r6a,0))
def Cp (x0:Ar) (x1:Ar):Option (Af × Int):=(Ci x0 x1).bind fun q=>match q with | .ok r=>some r | .error n=>some ((⟨(⟨false,0⟩:Aj),0⟩:Af),n)
def Hc (x0:Ar) (x1:Ar):Option (Af × Int):=
 (Cp x0 x1).bind fun r0a=>
 some (r0a.1,r0a.2)
def GY (x0:Ah) (x1:Ah):Option (Bool):=
 some true
def BR (x0:Ar) (x1:Ar):M (Af × Int):=
 mb (DX x0 x1) fun r7a=>
 (toN x0.Man.Abs).bind fun m2a=>
 (DU (⟨(⟨x0.Man.Neg,m2a⟩:Aj),x0.Exp⟩:Af)).bind fun r0a=>
 (toN x1.Man.Abs).bind fun m3a=>
 (DU (⟨(⟨x1.Man.Neg,m3a⟩:Aj),x1.Exp⟩:Af)).bind fun r1a=>
 (GY r0a r1a).bind fun r4a=>
 mb (Bw r4a 2) fun r8a=>
 (Cd r0a r1a).bind fun r5a=>
 mb (Cl r5a) fun r6a=>
 some (.ok (r6a,0))
def Cg (x0:Ar) (x1:Ar):Option (Af × Int):=(BR x0 x1).bind fun q=>match q with | .ok r=>some r | .error n=>some ((⟨(⟨false,0⟩:Aj),0⟩:Af),n)
def Ez (x0:Ar) (x1:Ar):Option (Af × Int):=
 (Cg x0 x1).bind fun r0a=>
 some (r0a.1,r0a.2)
def HC (x0:Ar) (x1:Ar):M (Int × Int):=
 mb (DX x0 x1) fun r5a=>
 (toN x0.Man.Abs).bind fun m0a=>
 (DU (⟨(⟨x0.Man.Neg,m0a⟩:Aj),x0.Exp⟩:Af)).bind fun r1a=>
 (toN x1.Man.Abs).bind fun m2a=>
 (DU (⟨(⟨x1.Man.Neg,m2a⟩:Aj),x1.Exp⟩:Af)).bind fun r3a=>
 (AP r1a r3a).bind fun r4a=>
 some (.ok (r4a,0))
def FX (x0:Ar) (x1:Ar):Option (Int × Int):=(HC x0 x1).bind fun q=>match q with | .ok r=>some r | .error n=>some (0,n)
def CY (x0:Af) (x1:Af):Option (Bool):=
 (FX (⟨(⟨x0.Man.Neg,(limbs x0.Man.Abs)⟩:Az),x0.Exp⟩:Ar) (⟨(⟨x1.Man.Neg,(limbs x1.Man.Abs)⟩:Az),x1.Exp⟩:Ar)).bind fun r0a=>
 (if r0a.2=0 then some (decide (r0a.1≤0)) else some (false)).bind fun m1a=>
 some m1a
def ER (x0:Aq) (x1:Aq) (x2:Int):M (Ao):=
 (AP x1.lo x0.lo).bind fun r2a=>
 (if r2a<0 then some (x1.lo.m.Neg,x1.lo.m.Abs,x1.lo.e) else some (x0.lo.m.Neg,x0.lo.m.Abs,x0.lo.e)).bind fun m0a=>
 (AP x1.hi x0.hi).bind fun r3a=>
 (if 0<r3a then some (x1.hi.m.Neg,x1.hi.m.Abs,x1.hi.e) else some (x0.hi.m.Neg,x0.hi.m.Abs,x0.hi.e)).bind fun m1a=>
 mb (Cu (⟨(⟨(⟨m0a.1,m0a.2.1⟩:Aj),m0a.2.2⟩:Ah),(⟨(⟨m1a.1,m1a.2.1⟩:Aj),m1a.2.2⟩:Ah)⟩:Aq)) fun r4a=>
 some (.ok r4a)
def CE (x0:An) (x1:An) (x2:Int):M (Ao × Int):=
 mb (Ba x0 x1) fun r7a=>
 mb (Ee x2) fun r8a=>
 (toN x0.Lo.Man.Abs).bind fun m0a=>
 (toN x0.Hi.Man.Abs).bind fun m1a=>
 (Cw (⟨(⟨(⟨x0.Lo.Man.Neg,m0a⟩:Aj),x0.Lo.Exp⟩:Af),(⟨(⟨x0.Hi.Man.Neg,m1a⟩:Aj),x0.Hi.Exp⟩:Af)⟩:Ao)).bind fun r2a=>
 (toN x1.Lo.Man.Abs).bind fun m3a=>
 (toN x1.Hi.Man.Abs).bind fun m4a=>
 (Cw (⟨(⟨(⟨x1.Lo.Man.Neg,m3a⟩:Aj),x1.Lo.Exp⟩:Af),(⟨(⟨x1.Hi.Man.Neg,m4a⟩:Aj),x1.Hi.Exp⟩:Af)⟩:Ao)).bind fun r5a=>
 mb (ER r2a r5a x2) fun r6a=>
 some (.ok (r6a,0))
def BK (x0:An) (x1:An) (x2:Int):Option (Ao × Int):=(CE x0 x1 x2).bind fun q=>match q with | .ok r=>some r | .error n=>some ((⟨(⟨(⟨false,0⟩:Aj),0⟩:Af),(⟨(⟨false,0⟩:Aj),0⟩:Af)⟩:Ao),n)
def Fa (x0:An) (x1:An):Option (Ao × Int):=
 (BK x0 x1 1).bind fun r0a=>
 some (r0a.1,r0a.2)
def AH (x0:Ao) (x1:Int) (x2:Ao) (x3:Int):Option (Bool):=
 (if ¬x1=0 then some (true) else some (decide (¬x3=0))).bind fun m0a=>
 if m0a=true then some true else (CY x2.Lo x0.Lo).bind fun r1a=>
 (if r1a=true then (CY x0.Hi x2.Hi).bind fun r2a=>
 some (r2a) else some (false)).bind fun m3a=>
 some m3a
def Dn (x0:An) (x1:An) (x2:An) (x3:Int) (x4:Int):Option (Bool):=
 (CU x0).bind fun r9a=>
 (if ¬(r9a=true) then some (true) else (CU x1).bind fun r0b=>
 some (decide (¬(r0b=true)))).bind fun m1b=>
 (if m1b=true then some (true) else (CU x2).bind fun r2b=>
 some (decide (¬(r2b=true)))).bind fun m3b=>
 (if m3b=true then some (true) else some (decide (x3<1))).bind fun m4b=>
 (if m4b=true then some (true) else some (decide (x4<0))).bind fun m5b=>
 (if m5b=true then some (true) else some (decide (500<x3))).bind fun m6b=>
 (if m6b=true then some (true) else some (decide (500<x4))).bind fun m7b=>
 if m7b=true then (CN).bind fun r8b=>
 some r8b else (Fa x0 x2).bind fun r0a=>
 (if ¬r0a.2=0 then some (true) else (AJ x1).bind fun r9b=>
 some (decide (¬(r9b=true)))).bind fun m0c=>
 if m0c=true then (CN).bind fun r1c=>
 (if r1c=true then (if r0a.2=0 then some (true) else some (decide (r0a.2=1))).bind fun m2c=>
 some (m2c) else some (false)).bind fun m3c=>
 some m3c else (Fb x0 x1 (wi64 (x3+x4))).bind fun r1a=>
 (Fb (⟨(⟨(⟨r0a.1.Lo.Man.Neg,(limbs r0a.1.Lo.Man.Abs)⟩:Az),r0a.1.Lo.Exp⟩:Ar),(⟨(⟨r0a.1.Hi.Man.Neg,(limbs r0a.1.Hi.Man.Abs)⟩:Az),r0a.1.Hi.Exp⟩:Ar)⟩:An) x1 x3).bind fun r2a=>
 (AH r1a.1 r1a.2 r2a.1 r2a.2).bind fun r4c=>
 if ¬(r4c=true) then some false else (Ex x0 x1 (wi64 (x3+x4))).bind fun r3a=>
 (Ex (⟨(⟨(⟨r0a.1.Lo.Man.Neg,(limbs r0a.1.Lo.Man.Abs)⟩:Az),r0a.1.Lo.Exp⟩:Ar),(⟨(⟨r0a.1.Hi.Man.Neg,(limbs r0a.1.Hi.Man.Abs)⟩:Az),r0a.1.Hi.Exp⟩:Ar)⟩:An) x1 x3).bind fun r4a=>
 (AH r3a.1 r3a.2 r4a.1 r4a.2).bind fun r5c=>
 if ¬(r5c=true) then some false else (Dv x0 x1 (wi64 (x3+x4))).bind fun r5a=>
 (Dv (⟨(⟨(⟨r0a.1.Lo.Man.Neg,(limbs r0a.1.Lo.Man.Abs)⟩:Az),r0a.1.Lo.Exp⟩:Ar),(⟨(⟨r0a.1.Hi.Man.Neg,(limbs r0a.1.Hi.Man.Abs)⟩:Az),r0a.1.Hi.Exp⟩:Ar)⟩:An) x1 x3).bind fun r6a=>
 (AH r5a.1 r5a.2 r6a.1 r6a.2).bind fun r6c=>
 if ¬(r6c=true) then some false else (DP x0 (wi64 (x3+x4))).bind fun r7a=>
 (DP (⟨(⟨(⟨r0a.1.Lo.Man.Neg,(limbs r0a.1.Lo.Man.Abs)⟩:Az),r0a.1.Lo.Exp⟩:Ar),(⟨(⟨r0a.1.Hi.Man.Neg,(limbs r0a.1.Hi.Man.Abs)⟩:Az),r0a.1.Hi.Exp⟩:Ar)⟩:An) x3).bind fun r8a=>
 (CN).bind fun r7c=>
 (if r7c=true then (AH r7a.1 r7a.2 r8a.1 r8a.2).bind fun r8c=>
 some (r8c) else some (false)).bind fun m9c=>
 some m9c
end Go.Proofs

