import Derived.Test.YtabiobmfelafoaaDoorProg
import Derived.Test.YtabiobmfelafoaaDoorCor
import Derived.Test.YtabiobmfelafoaaDoorRow
import Derived.Test.YtabiobmfelafoaaDoorLA
namespace Go.Proofs
set_option linter.unusedVariables false
set_option linter.unusedSimpArgs false
set_option maxHeartbeats 4000000
open Go.RowKit Go.Sb Go.Proofs.Sbn
structure AC where
 Neg:Bool
 Abs:List Int
structure Ao where
 Man:AC
 Exp:Int
structure Aq where
 Lo:Ao
 Hi:Ao
structure Ag where
 Neg:Bool
 Abs:Nat
structure Af where
 Man:Ag
 Exp:Int
structure Aj where
 m:Ag
 e:Int
structure Ar where
 Lo:Af
 Hi:Af
structure Ap where
 lo:Aj
 hi:Aj
theorem Bn:agg Tryd.prog 41 6=true:=by kernel_rfl
theorem Fc:fieldAt Tryd.prog 41 0=some 0:=by kernel_rfl
theorem AG:agg Tryd.prog 27 3=true:=by kernel_rfl
theorem Ec:fieldAt Tryd.prog 41 1=some 3:=by kernel_rfl
theorem Dx:Gd Tryd.prog 27 [.bool false,.slice none 0 0,.int .i64 0]:=EM (by kernel_rfl)
theorem EV:Tryd.prog.underlying 29=some (.slice 27):=by kernel_rfl
theorem BX:DD Tryd.prog 27 3=true:=by kernel_rfl
theorem FF:fieldAt Tryd.prog 27 0=some 0:=by kernel_rfl
theorem Ek:fieldAt Tryd.prog 25 1=some 1:=by kernel_rfl
theorem Gb:HP Tryd.prog 23=true:=by kernel_rfl
theorem Dq:Tryd.prog.underlying 23=some (.slice 97):=by kernel_rfl
theorem Hl:agg Tryd.prog 25 2=true:=by kernel_rfl
theorem en_105:Ent Tryd.prog 105:=ent Tryd.func105 (by kernel_rfl) rfl
theorem Hy:fieldAt Tryd.prog 25 0=some 0:=by kernel_rfl
theorem Gf:HP Tryd.prog 4=true:=by kernel_rfl
theorem en_81:Ent Tryd.prog 81:=ent Tryd.func81 (by kernel_rfl) rfl
theorem Fi:fieldAt Tryd.prog 27 1=some 2:=by kernel_rfl
theorem Em:HP Tryd.prog 3=true:=by kernel_rfl
theorem Lu:Ent Tryd.prog 82:=ent Tryd.func82 (by kernel_rfl) rfl
theorem LO:Ent Tryd.prog 47:=ent Tryd.func47 (by kernel_rfl) rfl
theorem LI:Ent Tryd.prog 16:=ent Tryd.func16 (by kernel_rfl) rfl
theorem mo:Tryd.prog.follows .mixedOrders=true:=by kernel_rfl
theorem en_100:Ent Tryd.prog 100:=ent Tryd.func100 (by kernel_rfl) rfl
theorem LM:Ent Tryd.prog 66:=ent Tryd.func66 (by kernel_rfl) rfl
theorem AL:DD Tryd.prog 97 1=true:=by kernel_rfl
theorem CC:HP Tryd.prog 97=true:=by kernel_rfl
theorem JN:Ent Tryd.prog 27:=ent Tryd.func27 (by kernel_rfl) rfl
theorem AI:Gd Tryd.prog 63 [.bool false,.slice none 0 0,.int .i64 0]:=EM (by kernel_rfl)
theorem FP:Gd Tryd.prog 61 [.bool false,.slice none 0 0]:=EM (by kernel_rfl)
theorem FC:DD Tryd.prog 61 2=true:=by kernel_rfl
theorem El:agg Tryd.prog 61 2=true:=by kernel_rfl
theorem LR:Ent Tryd.prog 45:=ent Tryd.func45 (by kernel_rfl) rfl
theorem Co:DD Tryd.prog 63 3=true:=by kernel_rfl
theorem Dj:Ent Tryd.prog 40:=ent Tryd.func40 (by kernel_rfl) rfl
theorem BR:fieldAt Tryd.prog 63 0=some 0:=by kernel_rfl
theorem Bv:fieldAt Tryd.prog 61 1=some 1:=by kernel_rfl
theorem Dr:HP Tryd.prog 59=true:=by kernel_rfl
theorem Ay:Tryd.prog.underlying 59=some (.slice 97):=by kernel_rfl
theorem DJ:fieldAt Tryd.prog 61 0=some 0:=by kernel_rfl
theorem en_91:Ent Tryd.prog 91:=ent Tryd.func91 (by kernel_rfl) rfl
theorem Hn:Ent Tryd.prog 58:=ent Tryd.func58 (by kernel_rfl) rfl
theorem LE:Ent Tryd.prog 86:=ent Tryd.func86 (by kernel_rfl) rfl
theorem CP:fieldAt Tryd.prog 63 1=some 2:=by kernel_rfl
theorem IT:Ent Tryd.prog 87:=ent Tryd.func87 (by kernel_rfl) rfl
theorem IM:Ent Tryd.prog 73:=ent Tryd.func73 (by kernel_rfl) rfl
theorem en_76:Ent Tryd.prog 76:=ent Tryd.func76 (by kernel_rfl) rfl
theorem en_41:Ent Tryd.prog 41:=ent Tryd.func41 (by kernel_rfl) rfl
theorem Hg:Ent Tryd.prog 88:=ent Tryd.func88 (by kernel_rfl) rfl
theorem KT:Ent Tryd.prog 94:=ent Tryd.func94 (by kernel_rfl) rfl
theorem Ln:Tryd.prog.underlying 4=some .bool:=by kernel_rfl
theorem Lq:Ent Tryd.prog 98:=ent Tryd.func98 (by kernel_rfl) rfl
theorem JU:Ent Tryd.prog 96:=ent Tryd.func96 (by kernel_rfl) rfl
theorem JP:Ent Tryd.prog 89:=ent Tryd.func89 (by kernel_rfl) rfl
theorem en_72:Ent Tryd.prog 72:=ent Tryd.func72 (by kernel_rfl) rfl
theorem en_101:Ent Tryd.prog 101:=ent Tryd.func101 (by kernel_rfl) rfl
theorem JS:Ent Tryd.prog 95:=ent Tryd.func95 (by kernel_rfl) rfl
theorem JL:Ent Tryd.prog 67:=ent Tryd.func67 (by kernel_rfl) rfl
theorem en_71:Ent Tryd.prog 71:=ent Tryd.func71 (by kernel_rfl) rfl
theorem en_70:Ent Tryd.prog 70:=ent Tryd.func70 (by kernel_rfl) rfl
theorem KK:Ent Tryd.prog 33:=ent Tryd.func33 (by kernel_rfl) rfl
theorem HH:Ent Tryd.prog 50:=ent Tryd.func50 (by kernel_rfl) rfl
theorem Kp:Ent Tryd.prog 18:=ent Tryd.func18 (by kernel_rfl) rfl
theorem KW:Gd Tryd.prog 25 [.bool false,.slice none 0 0]:=EM (by kernel_rfl)
theorem it_3:Tryd.prog.underlying 3=some (.int .i64):=by kernel_rfl
theorem BB:Tryd.prog.underlying 101=some (.int .u64):=by kernel_rfl
theorem LJ:Ent Tryd.prog 69:=ent Tryd.func69 (by kernel_rfl) rfl
theorem Kz:DD Tryd.prog 25 2=true:=by kernel_rfl
theorem LP:Ent Tryd.prog 68:=ent Tryd.func68 (by kernel_rfl) rfl
theorem Mj:Ent Tryd.prog 29:=ent Tryd.func29 (by kernel_rfl) rfl
theorem HS:Gd Tryd.prog 31 [.int .i64 0]:=EM (by kernel_rfl)
theorem Jy:Tryd.prog.underlying 20=some (.interface #[]):=by kernel_rfl
theorem JJ:Le Tryd.prog 107=true:=by kernel_rfl
theorem Kn:Gd Tryd.prog 107 [.int .i64 0]:=EM (by kernel_rfl)
theorem Ke:DD Tryd.prog 107 1=true:=by kernel_rfl
theorem IJ:fieldAt Tryd.prog 107 0=some 0:=by kernel_rfl
theorem CV:HP Tryd.prog 31=true:=by kernel_rfl
theorem GN:DD Tryd.prog 31 1=true:=by kernel_rfl
theorem ED:Ent Tryd.prog 44:=ent Tryd.func44 (by kernel_rfl) rfl
theorem Ge:Ent Tryd.prog 38:=ent Tryd.func38 (by kernel_rfl) rfl
theorem KV:Ent Tryd.prog 77:=ent Tryd.func77 (by kernel_rfl) rfl
theorem sz_59:DD Tryd.prog 59 1=true:=by kernel_rfl
theorem en_78:Ent Tryd.prog 78:=ent Tryd.func78 (by kernel_rfl) rfl
theorem GW:Ent Tryd.prog 42:=ent Tryd.func42 (by kernel_rfl) rfl
theorem en_28:Ent Tryd.prog 28:=ent Tryd.func28 (by kernel_rfl) rfl
theorem en_79:Ent Tryd.prog 79:=ent Tryd.func79 (by kernel_rfl) rfl
theorem en_80:Ent Tryd.prog 80:=ent Tryd.func80 (by kernel_rfl) rfl
theorem en_46:Ent Tryd.prog 46:=ent Tryd.func46 (by kernel_rfl) rfl
theorem He:Ent Tryd.prog 15:=ent Tryd.func15 (by kernel_rfl) rfl
theorem Ik:Ent Tryd.prog 39:=ent Tryd.func39 (by kernel_rfl) rfl
theorem HD:Ent Tryd.prog 62:=ent Tryd.func62 (by kernel_rfl) rfl
theorem LU:Ent Tryd.prog 63:=ent Tryd.func63 (by kernel_rfl) rfl
theorem GY:Gd Tryd.prog 97 [.int .u32 0]:=EM (by kernel_rfl)
theorem en_97:Ent Tryd.prog 97:=ent Tryd.func97 (by kernel_rfl) rfl
theorem HN:Ent Tryd.prog 64:=ent Tryd.func64 (by kernel_rfl) rfl
theorem Jh:Ent Tryd.prog 24:=ent Tryd.func24 (by kernel_rfl) rfl
theorem EE:Gd Tryd.prog 41 [.bool false,.slice none 0 0,.int .i64 0,.bool false,.slice none 0 0,.int .i64 0]:=EM (by kernel_rfl)
theorem Ei:DD Tryd.prog 41 6=true:=by kernel_rfl
theorem Ir:Ent Tryd.prog 30:=ent Tryd.func30 (by kernel_rfl) rfl
theorem HK:Tryd.prog.underlying 132=some (.slice 41):=by kernel_rfl
theorem Iv:Ent Tryd.prog 84:=ent Tryd.func84 (by kernel_rfl) rfl
theorem Gn:Ent Tryd.prog 83:=ent Tryd.func83 (by kernel_rfl) rfl
theorem Mb:Gd Tryd.prog 80 [.bool false,.slice none 0 0,.int .i64 0,.bool false,.slice none 0 0,.int .i64 0]:=EM (by kernel_rfl)
theorem Mi:DD Tryd.prog 80 6=true:=by kernel_rfl
theorem Iq:agg Tryd.prog 80 6=true:=by kernel_rfl
theorem Il:Ent Tryd.prog 85:=ent Tryd.func85 (by kernel_rfl) rfl
theorem LH:Gd Tryd.prog 85 [.pointer none]:=EM (by kernel_rfl)
theorem LF:Ent Tryd.prog 55:=ent Tryd.func55 (by kernel_rfl) rfl
theorem LL:Ent Tryd.prog 90:=ent Tryd.func90 (by kernel_rfl) rfl
theorem Lz:Ent Tryd.prog 103:=ent Tryd.func103 (by kernel_rfl) rfl
theorem en_75:Ent Tryd.prog 75:=ent Tryd.func75 (by kernel_rfl) rfl
theorem KZ:Ent Tryd.prog 36:=ent Tryd.func36 (by kernel_rfl) rfl
theorem Fl:HP Tryd.prog 85=true:=by kernel_rfl
theorem KI:Tryd.prog.underlying 85=some (.pointer 80):=by kernel_rfl
theorem Ml:DD Tryd.prog 85 1=true:=by kernel_rfl
theorem en_56:Ent Tryd.prog 56:=ent Tryd.func56 (by kernel_rfl) rfl
theorem Im:Ent Tryd.prog 51:=ent Tryd.func51 (by kernel_rfl) rfl
theorem Mh:Ent Tryd.prog 54:=ent Tryd.func54 (by kernel_rfl) rfl
theorem KC:Ent Tryd.prog 48:=ent Tryd.func48 (by kernel_rfl) rfl
theorem Mq:Ent Tryd.prog 21:=ent Tryd.func21 (by kernel_rfl) rfl
theorem en_74:Ent Tryd.prog 74:=ent Tryd.func74 (by kernel_rfl) rfl
theorem en_35:Ent Tryd.prog 35:=ent Tryd.func35 (by kernel_rfl) rfl
theorem Jk:Ent Tryd.prog 9:=ent Tryd.func9 (by kernel_rfl) rfl
theorem Lp:Ent Tryd.prog 31:=ent Tryd.func31 (by kernel_rfl) rfl
theorem Mf:Ent Tryd.prog 92:=ent Tryd.func92 (by kernel_rfl) rfl
theorem DS:Ent Tryd.prog 59:=ent Tryd.func59 (by kernel_rfl) rfl
theorem LQ:Ent Tryd.prog 57:=ent Tryd.func57 (by kernel_rfl) rfl
theorem Ma:Ent Tryd.prog 22:=ent Tryd.func22 (by kernel_rfl) rfl
theorem en_93:Ent Tryd.prog 93:=ent Tryd.func93 (by kernel_rfl) rfl
theorem LT:Ent Tryd.prog 61:=ent Tryd.func61 (by kernel_rfl) rfl
theorem LG:Ent Tryd.prog 60:=ent Tryd.func60 (by kernel_rfl) rfl
theorem en_23:Ent Tryd.prog 23:=ent Tryd.func23 (by kernel_rfl) rfl
theorem en_7:Ent Tryd.prog 7:=ent Tryd.func7 (by kernel_rfl) rfl
theorem LZ:Ent Tryd.prog 34:=ent Tryd.func34 (by kernel_rfl) rfl
theorem LV:Ent Tryd.prog 53:=ent Tryd.func53 (by kernel_rfl) rfl
theorem LS:Ent Tryd.prog 52:=ent Tryd.func52 (by kernel_rfl) rfl
theorem en_19:Ent Tryd.prog 19:=ent Tryd.func19 (by kernel_rfl) rfl
theorem Ku:fieldAt Tryd.prog 66 1=some 1:=by kernel_rfl
theorem LN:HP Tryd.prog 64=true:=by kernel_rfl
theorem KA:fieldAt Tryd.prog 66 0=some 0:=by kernel_rfl
theorem Mo:HP Tryd.prog 57=true:=by kernel_rfl
theorem Mm:Ent Tryd.prog 32:=ent Tryd.func32 (by kernel_rfl) rfl
theorem en_8:Ent Tryd.prog 8:=ent Tryd.func8 (by kernel_rfl) rfl
theorem en_37:Ent Tryd.prog 37:=ent Tryd.func37 (by kernel_rfl) rfl
theorem en_10:Ent Tryd.prog 10:=ent Tryd.func10 (by kernel_rfl) rfl
theorem Kr:Ent Tryd.prog 11:=ent Tryd.func11 (by kernel_rfl) rfl
theorem zt_3:Gd Tryd.prog 3 [.int .i64 0]:=EM (by kernel_rfl)
theorem Mu:DD Tryd.prog 3 1=true:=by kernel_rfl
theorem Mp:Ent Tryd.prog 99:=ent Tryd.func99 (by kernel_rfl) rfl
theorem en_65:Ent Tryd.prog 65:=ent Tryd.func65 (by kernel_rfl) rfl
theorem KE:Ent Tryd.prog 25:=ent Tryd.func25 (by kernel_rfl) rfl
def EZ (_w:World) (r:Bool) (v:Value):Prop:=v = .bool r
def Gz (w:World) (r:Aj) (v:Value):Prop:=∃(A1:Option Addr) (c1:Nat),v = .agg #[.bool r.m.Neg,.slice A1 (sz r.m.Abs) c1,.int .i64 r.e]∧RU w A1 c1 r.m.Abs
def IL (w:World) (r:Ag) (v:Value):Prop:=∃(A1:Option Addr) (c1:Nat),v = .agg #[.bool r.Neg,.slice A1 (sz r.Abs) c1]∧RU w A1 c1 r.Abs
def Gr (_w:World) (r:Int) (v:Value):Prop:=v = .int .i64 r
def Kl (w:World) (r:Ag) (v:Value):Prop:=∃(A1:Option Addr) (c1:Nat),v = .agg #[.bool r.Neg,.slice A1 (sz r.Abs) c1]∧RU w A1 c1 r.Abs
def Gw (w:World) (r:Af × Int) (v:Value):Prop:=∃(A1:Option Addr) (c1:Nat),v = .tuple #[.agg #[.bool r.1.Man.Neg,.slice A1 (sz r.1.Man.Abs) c1,.int .i64 r.1.Exp],.int .i64 r.2]∧RU w A1 c1 r.1.Man.Abs
def Jv (_w:World) (_r:Unit) (v:Value):Prop:=v = .tuple #[]
def JF (w:World) (r:Af) (v:Value):Prop:=∃(A1:Option Addr) (c1:Nat),v = .agg #[.bool r.Man.Neg,.slice A1 (sz r.Man.Abs) c1,.int .i64 r.Exp]∧RU w A1 c1 r.Man.Abs
def Ig (w:World) (r:Ar) (v:Value):Prop:=∃(A1:Option Addr) (c1:Nat) (A2:Option Addr) (c2:Nat),v = .agg #[.bool r.Lo.Man.Neg,.slice A1 (sz r.Lo.Man.Abs) c1,.int .i64 r.Lo.Exp,.bool r.Hi.Man.Neg,.slice A2 (sz r.Hi.Man.Abs) c2,.int .i64 r.Hi.Exp]∧RU w A1 c1 r.Lo.Man.Abs∧RU w A2 c2 r.Hi.Man.Abs
def Fz (w:World) (r:Ar × Int) (v:Value):Prop:=∃(A1:Option Addr) (c1:Nat) (A2:Option Addr) (c2:Nat),v = .tuple #[.agg #[.bool r.1.Lo.Man.Neg,.slice A1 (sz r.1.Lo.Man.Abs) c1,.int .i64 r.1.Lo.Exp,.bool r.1.Hi.Man.Neg,.slice A2 (sz r.1.Hi.Man.Abs) c2,.int .i64 r.1.Hi.Exp],.int .i64 r.2]∧RU w A1 c1 r.1.Lo.Man.Abs∧RU w A2 c2 r.1.Hi.Man.Abs
def Lh (w:World) (r:Ap) (v:Value):Prop:=∃(A1:Option Addr) (c1:Nat) (A2:Option Addr) (c2:Nat),v = .agg #[.bool r.lo.m.Neg,.slice A1 (sz r.lo.m.Abs) c1,.int .i64 r.lo.e,.bool r.hi.m.Neg,.slice A2 (sz r.hi.m.Abs) c2,.int .i64 r.hi.e]∧RU w A1 c1 r.lo.m.Abs∧RU w A2 c2 r.hi.m.Abs
def Jl (w:World) (r:Nat × Nat) (v:Value):Prop:=∃(A1:Option Addr) (c1:Nat) (A2:Option Addr) (c2:Nat),v = .tuple #[.slice A1 (sz r.1) c1,.slice A2 (sz r.2) c2]∧RU w A1 c1 r.1∧RU w A2 c2 r.2
def rep_3_31 (_w:World) (r:Int × Int) (v:Value):Prop:=v = .tuple #[.int .i64 r.1,.int .i64 r.2]
def IF (_w:World) (r:Int) (v:Value):Prop:=v = .int .u64 r
def Ib (w:World) (r:Nat) (v:Value):Prop:=∃(A1:Option Addr) (c1:Nat),v = .slice A1 (sz r) c1∧RU w A1 c1 r
def KO (w:World) (r:Nat) (v:Value):Prop:=∃(A1:Option Addr) (c1:Nat),v = .slice A1 (sz r) c1∧RU w A1 c1 r
abbrev Bt (x0:List Int):Option (Bool):=Lf.Bt x0
abbrev Bz (x0:List Int) (x1:Int):Option (Int):=Lf.Bz x0 x1
abbrev EW (x0:List Int):Option (Bool):=Lf.EW x0
def Be (x0:Nat):Option (Int):=(gd (sz x0<1073741824)).bind fun _=>some (Lf.bl x0:Int)
def Ba (x0:Nat) (x1:Int):Option (Nat):=(gd (sz x0<1073741824∧0≤x1∧x1<34359738368)).bind fun _=>some (x0*2^x1.toNat)
def Ca (x0:Nat) (x1:Nat):Option (Nat):=(gd (sz x0<1073741824∧sz x1<1073741824)).bind fun _=>some (x0+x1)
def BV (x0:Nat) (x1:Nat):Option (Int):=(gd (sz x0<1073741824∧sz x1<1073741824)).bind fun _=>some (Lf.cmpw x0 x1)
def BM (x0:Nat) (x1:Nat):Option (Nat):=(gd (sz x0<1073741824∧sz x1<1073741824∧x1≤x0)).bind fun _=>some (x0 - x1)
def Cg (x0:Nat):Option (Int):=(gd (sz x0<1073741824)).bind fun _=>some (Lf.tz x0:Int)
def BS (x0:Nat) (x1:Int):Option (Nat):=(gd (sz x0<1073741824∧0≤x1∧x1<9223372036854775808)).bind fun _=>some (x0/2^x1.toNat)
def Cm (x0:Int):Option (Nat):=(gd (0≤x0∧x0<18446744073709551616)).bind fun _=>some (x0.toNat)
def Cn (x0:Nat):Option (Nat):=(gd (sz x0<1073741824)).bind fun _=>some (x0)
def Br (x0:Nat):Option (Int):=(gd (sz x0<1073741824)).bind fun _=>some (Lf.tz x0:Int)
def BN (x0:Nat) (x1:Int):Option (Nat):=(gd (sz x0<1073741824∧0≤x1∧x1<9223372036854775808)).bind fun _=>some (x0/2^x1.toNat)
def Ct (x0:Nat) (x1:Nat):Option (Nat):=(gd (sz x0<1073741824∧sz x1<1073741824)).bind fun _=>some (x0*x1)
abbrev BG (x0:List Int) (x1:List Int):Option (Bool):=Lf.BG x0 x1
def Cy (x0:Nat) (x1:Nat):Option (Nat × Nat):=(gd (sz x0<1073741824∧sz x1<1073741824∧x1≠0)).bind fun _=>some (x0/x1,x0%x1)
def CW (x0:AC):Option (Bool):=
 (Bt x0.Abs).bind fun r0a=>
 (if r0a=true then (if ¬(x0.Neg=true) then some (true) else some (decide (0<(x0.Abs.length:Int)))).bind fun m1a=>
 some (m1a) else some (false)).bind fun m2a=>
 some m2a
def Bs (x0:Ao):Option (Bool):=
 (CW x0.Man).bind fun r0a=>
 if ¬(r0a=true) then some false else if (x0.Man.Abs.length:Int)=0 then some (decide (x0.Exp=0)) else (Bz x0.Man.Abs 0).bind fun r1a=>
 (if r1a=1 then some (decide ((-1048576)≤x0.Exp)) else some (false)).bind fun m2a=>
 (if m2a=true then some (decide (x0.Exp≤1048576)) else some (false)).bind fun m3a=>
 some m3a
def Du (x0:Aq):Option (Bool):=
 (if 20<(x0.Lo.Man.Abs.length:Int) then some (true) else (Bs x0.Lo).bind fun r0a=>
 (if r0a=true then (if x0.Lo.Exp<(-800) then some (true) else some (decide (800<x0.Lo.Exp))).bind fun m1a=>
 some (m1a) else some (false)).bind fun m2a=>
 some (m2a)).bind fun m3a=>
 if m3a=true then some false else (if 20<(x0.Hi.Man.Abs.length:Int) then some (true) else (Bs x0.Hi).bind fun r4a=>
 (if r4a=true then (if x0.Hi.Exp<(-800) then some (true) else some (decide (800<x0.Hi.Exp))).bind fun m5a=>
 some (m5a) else some (false)).bind fun m6a=>
 some (m6a)).bind fun m7a=>
 if m7a=true then some false else some true
def EN (x0:AC):Option (Bool):=
 (EW x0.Abs).bind fun r0a=>
 (if r0a=true then (if ¬(x0.Neg=true) then some (true) else some (decide (0<(x0.Abs.length:Int)))).bind fun m1a=>
 some (m1a) else some (false)).bind fun m2a=>
 some m2a
def Dg (x0:Ao):Option (Bool):=
 (EN x0.Man).bind fun r0a=>
 if ¬(r0a=true) then some false else if (x0.Man.Abs.length:Int)=0 then some (decide (x0.Exp=0)) else (nth x0.Man.Abs 0).bind fun u1a=>
 (if (u1a%2)=1 then some (decide (x0.Exp≤1048576)) else some (false)).bind fun m2a=>
 (if m2a=true then some (decide ((-1048576)≤x0.Exp)) else some (false)).bind fun m3a=>
 some m3a
def GG (x0:Ag):Option (Ag):=
 some x0
def DI (x0:Af):Option (Aj):=
 (GG x0.Man).bind fun r0a=>
 some (⟨r0a,x0.Exp⟩:Aj)
def Fs (x0:Ag):Option (Int):=
 if (sz x0.Abs:Int)=0 then some 0 else if x0.Neg=true then some (-1) else some 1
def AV (x0:Aj):Option (Int):=
 (Fs x0.m).bind fun r0a=>
 some r0a
def Eu (x0:Int) (x1:Int):Option (Int):=
 if x0<x1 then some (-1) else if x1<x0 then some 1 else some 0
def Cd (x0:Aj):Option (Int):=
 (Be x0.m.Abs).bind fun r0a=>
 some (wi64 ((wi64 (r0a - 1))+x0.e))
def Ff (x0:Ag):Option (Ag):=
 some (⟨(decide (¬(x0.Neg=true))),x0.Abs⟩:Ag)
def Fb (x0:Aj):Option (Aj):=
 (Ff x0.m).bind fun r0a=>
 some (⟨r0a,x0.e⟩:Aj)
def CL (x0:Ag) (x1:Int):Option (Ag):=
 (Ba x0.Abs x1).bind fun r0a=>
 some (⟨x0.Neg,r0a⟩:Ag)
def DB (x0:Ag) (x1:Ag):Option (Ag):=
 if x0.Neg=x1.Neg then (Ca x0.Abs x1.Abs).bind fun r0a=>
 some (⟨x0.Neg,r0a⟩:Ag) else (BV x0.Abs x1.Abs).bind fun r1a=>
 if 0≤r1a then (BM x0.Abs x1.Abs).bind fun r2a=>
 some (⟨x0.Neg,r2a⟩:Ag) else (BM x1.Abs x0.Abs).bind fun r3a=>
 some (⟨x1.Neg,r3a⟩:Ag)
def Dd (x0:Ag) (x1:Int):Option (Aj):=
 if (sz x0.Abs:Int)=0 then some (⟨(⟨false,0⟩:Ag),0⟩:Aj) else (Cg x0.Abs).bind fun r0a=>
 (BS x0.Abs r0a).bind fun r1a=>
 some (⟨(⟨x0.Neg,r1a⟩:Ag),(wi64 (x1+r0a))⟩:Aj)
def CJ (x0:Ag) (x1:Ag) (x2:Int):Option (Aj):=
 (DB x0 x1).bind fun r0a=>
 (Dd r0a x2).bind fun r1a=>
 some r1a
def AW (x0:Aj) (x1:Aj):Option (Aj):=
 (if (sz x0.m.Abs:Int)=0 then some (x1.e) else some (min x0.e x1.e)).bind fun m5a=>
 (if (sz x1.m.Abs:Int)=0 then some (x0.e) else some (m5a)).bind fun m0a=>
 (if 0<(sz x0.m.Abs:Int) then (CL x0.m (wi64 (x0.e - m0a))).bind fun r1a=>
 some (r1a.Neg,r1a.Abs) else some (x0.m.Neg,x0.m.Abs)).bind fun m2a=>
 (if 0<(sz x1.m.Abs:Int) then (CL x1.m (wi64 (x1.e - m0a))).bind fun r3a=>
 some (r3a.Neg,r3a.Abs) else some (x1.m.Neg,x1.m.Abs)).bind fun m4a=>
 (CJ (⟨m2a.1,m2a.2⟩:Ag) (⟨m4a.1,m4a.2⟩:Ag) m0a).bind fun r6a=>
 some r6a
def Bf (x0:Aj) (x1:Aj):Option (Aj):=
 (AW x0 x1).bind fun r0a=>
 some r0a
def Bb (x0:Aj) (x1:Aj):Option (Int):=
 (AV x0).bind fun r0a=>
 (AV x1).bind fun r1a=>
 (if ¬r0a=r1a then some (true) else some (decide (r0a=0))).bind fun m4a=>
 if m4a=true then (Eu r0a r1a).bind fun r5a=>
 some r5a else (Cd x0).bind fun r2a=>
 (Cd x1).bind fun r3a=>
 if ¬r2a=r3a then (AV x0).bind fun r6a=>
 (Eu r2a r3a).bind fun r7a=>
 some (wi64 (r6a*r7a)) else (Fb x1).bind fun r8a=>
 (Bf x0 r8a).bind fun r9a=>
 (AV r9a).bind fun r0b=>
 some r0b
def CA (x0:Aq):Option (Bool):=
 (Dg x0.Lo).bind fun r0a=>
 if r0a=true then (Dg x0.Hi).bind fun r1a=>
 if r1a=true then (toN x0.Lo.Man.Abs).bind fun m2a=>
 (DI (⟨(⟨x0.Lo.Man.Neg,m2a⟩:Ag),x0.Lo.Exp⟩:Af)).bind fun r3a=>
 (toN x0.Hi.Man.Abs).bind fun m4a=>
 (DI (⟨(⟨x0.Hi.Man.Neg,m4a⟩:Ag),x0.Hi.Exp⟩:Af)).bind fun r5a=>
 (Bb r3a r5a).bind fun r6a=>
 some (decide (r6a≤0)) else some false else some false
def Ea (x0:Bool) (x1:Nat):Option (Ag):=
 (if x0=true then some (decide (0<(sz x1:Int))) else some (false)).bind fun m0a=>
 some (⟨m0a,x1⟩:Ag)
def Eh (x0:Int):Option (Ag):=
 if x0<0 then (Cm (wu64 (wi64 (-x0)))).bind fun r0a=>
 (Ea true r0a).bind fun r1a=>
 some r1a else (Cm (wu64 x0)).bind fun r2a=>
 (Ea false r2a).bind fun r3a=>
 some r3a
def BO (x0:Bool) (x1:Int):M (Unit):=
 if ¬(x0=true) then some (.error x1) else some (.ok ())
def FI (x0:Ag):Option (Ag):=
 (if x0.Neg=true then some (decide (0<(sz x0.Abs:Int))) else some (false)).bind fun m0a=>
 some (⟨m0a,x0.Abs⟩:Ag)
def Cw (x0:Aj):M (Af):=
 (if (sz x0.m.Abs:Int)≤1024 then some (decide (x0.e≤1048576)) else some (false)).bind fun m0a=>
 (if m0a=true then some (decide ((-1048576)≤x0.e)) else some (false)).bind fun m1a=>
 mb (BO m1a 2) fun r4a=>
 (Cn x0.m.Abs).bind fun r2a=>
 (FI (⟨x0.m.Neg,r2a⟩:Ag)).bind fun r3a=>
 some (.ok (⟨r3a,x0.e⟩:Af))
def HM (x0:AC) (x1:Int):M (Af × Int):=
 (EN x0).bind fun r0a=>
 mb (BO r0a 1) fun r5a=>
 if (x0.Abs.length:Int)=0 then some (.ok ((⟨(⟨false,0⟩:Ag),0⟩:Af),0)) else (toN x0.Abs).bind fun m1a=>
 (GG (⟨x0.Neg,m1a⟩:Ag)).bind fun r2a=>
 (Dd r2a (max (-1099511627776) (min x1 1099511627776))).bind fun r3a=>
 mb (Cw r3a) fun r4a=>
 some (.ok (r4a,0))
def Hu (x0:AC) (x1:Int):Option (Af × Int):=(HM x0 x1).bind fun q=>match q with | .ok r=>some r | .error n=>some ((⟨(⟨false,0⟩:Ag),0⟩:Af),n)
def FJ (x0:Ag) (x1:Int):Option (Af):=
 if (sz x0.Abs:Int)=0 then some (⟨(⟨false,0⟩:Ag),0⟩:Af) else (Br x0.Abs).bind fun r0a=>
 (BN x0.Abs r0a).bind fun r1a=>
 some (⟨(⟨x0.Neg,r1a⟩:Ag),(wi64 (x1+r0a))⟩:Af)
def AM (x0:Int) (x1:Int):Option (Af):=
 (Eh x0).bind fun r7=>
 (FJ r7 x1).bind fun r0a=>
 some r0a
def EL (x0_0:Ao):M (Unit):=
 (Dg x0_0).bind fun r0a=>
 mb (BO r0a 1) fun r1a=>
 some (.ok ())
def Ej (x0:Int):M (Unit):=
 (if 1≤x0 then some (decide (x0≤4096)) else some (false)).bind fun m8=>
 mb (BO m8 1) fun r0a=>
 some (.ok ())
def DK (x0:Int):M (Unit):=
 (if 1≤x0 then some (decide (x0≤5)) else some (false)).bind fun m8=>
 mb (BO m8 1) fun r0a=>
 some (.ok ())
def Gh (x0:Bool) (x1:Int) (x2:Bool) (x3:Bool) (x4:Int):Option (Bool):=
 if x0=true then some false else if x4=1 then (if 0<x1 then some (true) else (if x1=0 then some (x2) else some (false)).bind fun m0a=>
 some (m0a)).bind fun m1a=>
 some m1a else if x4=2 then some (decide (0≤x1)) else if x4=4 then some (decide (¬(x3=true))) else if x4=5 then some x3 else some false
def Av (x0:Aj) (x1:Int) (x2:Int) (x3:Bool):Option (Aj):=
 (Be x0.m.Abs).bind fun r1a=>
 (if (wi64 (r1a - x1))≤0 then some (decide (¬(x3=true))) else some (false)).bind fun m6a=>
 if m6a=true then (Dd x0.m x0.e).bind fun r7a=>
 some r7a else (if (wi64 (r1a - x1))<2 then (CL x0.m (wi64 (2 - (wi64 (r1a - x1))))).bind fun r3a=>
 some (2,r3a.Neg,r3a.Abs,(wi64 ((wi64 (x0.e - 2))+(wi64 (r1a - x1))))) else some ((wi64 (r1a - x1)),x0.m.Neg,x0.m.Abs,x0.e)).bind fun m0a=>
 (BS m0a.2.2.1 m0a.1).bind fun r2a=>
 (Ba r2a m0a.1).bind fun r8a=>
 (BM m0a.2.2.1 r8a).bind fun r4a=>
 (if (sz r4a:Int)=0 then some (decide (¬(x3=true))) else some (false)).bind fun m9a=>
 (Ba 1 (wi64 (m0a.1 - 1))).bind fun r0b=>
 (BV r4a r0b).bind fun r5a=>
 (if r5a=0 then some (x3) else some (false)).bind fun m1b=>
 (if m1b=true then some (1) else some (r5a)).bind fun m2b=>
 (if 0<(sz r2a:Int) then (nth (limbs r2a) 0).bind fun u3b=>
 some (decide ((u3b%2)=1)) else some (false)).bind fun m4b=>
 (Gh m9a m2b m4b m0a.2.1 x2).bind fun r5b=>
 (if r5b=true then (Ca r2a 1).bind fun r6b=>
 some (r6b) else some (r2a)).bind fun m7b=>
 (Dd (⟨m0a.2.1,m7b⟩:Ag) (wi64 (m0a.2.2.2+m0a.1))).bind fun r8b=>
 some r8b
def FX (x0:Ao) (x1:Int) (x2:Int):M (Af × Int):=
 mb (EL x0) fun r4a=>
 mb (Ej x1) fun r5a=>
 mb (DK x2) fun r6a=>
 (toN x0.Man.Abs).bind fun m0a=>
 (DI (⟨(⟨x0.Man.Neg,m0a⟩:Ag),x0.Exp⟩:Af)).bind fun r1a=>
 (Av r1a x1 x2 false).bind fun r2a=>
 mb (Cw r2a) fun r3a=>
 some (.ok (r3a,0))
def BQ (x0:Ao) (x1:Int) (x2:Int):Option (Af × Int):=(FX x0 x1 x2).bind fun q=>match q with | .ok r=>some r | .error n=>some ((⟨(⟨false,0⟩:Ag),0⟩:Af),n)
def BF (x0:Int) (x1:Int):Option (Ar):=
 (AM x0 0).bind fun r7=>
 (AM x1 0).bind fun r0a=>
 some (⟨r7,r0a⟩:Ar)
def Ci (x0_0:Aq) (x0_1:Aq):M (Unit):=
 (CA x0_0).bind fun r0a=>
 mb (BO r0a 1) fun r2a=>
 (CA x0_1).bind fun r1a=>
 mb (BO r1a 1) fun r3a=>
 some (.ok ())
def Dc (x0:Ar):Option (Ap):=
 (DI x0.Lo).bind fun r0a=>
 (DI x0.Hi).bind fun r1a=>
 some (⟨r0a,r1a⟩:Ap)
def ES (x0:Ag) (x1:Ag):Option (Ag):=
 (Ct x0.Abs x1.Abs).bind fun r0a=>
 some (⟨(decide (¬x0.Neg=x1.Neg)),r0a⟩:Ag)
def Ch (x0:Aj) (x1:Aj):Option (Aj):=
 (ES x0.m x1.m).bind fun r0a=>
 (Dd r0a (wi64 (x0.e+x1.e))).bind fun r1a=>
 some r1a
def Er (x0:Ap) (x1:Int):Option (Ap):=
 (Av x0.lo x1 5 false).bind fun r0a=>
 (Av x0.hi x1 4 false).bind fun r1a=>
 some (⟨r0a,r1a⟩:Ap)
def Dl (x0:Ap):M (Ar):=
 mb (Cw x0.lo) fun r0a=>
 mb (Cw x0.hi) fun r1a=>
 some (.ok (⟨r0a,r1a⟩:Ar))
def Gl (x0:Ap) (x1:Ap) (x2:Int) (x y:Aj):Option Ap:=
 (Ch x y).bind fun r0a=>
 (Bb r0a r0a).bind fun r1a=>
 (if r1a<0 then some () else some ()).bind fun m3a=>
 (Bb r0a r0a).bind fun r2a=>
 (if 0<r2a then some () else some ()).bind fun m4a=>
 some (⟨r0a,r0a⟩:Ap)
def Ee (x0:Ap) (x1:Ap) (x2:Int) (sr:Ap) (x y:Aj):Option Ap:=
 (Ch x y).bind fun r0a=>
 (Bb r0a sr.lo).bind fun r3a=>
 (if r3a<0 then some (r0a.m.Neg,r0a.m.Abs,r0a.e) else some (sr.lo.m.Neg,sr.lo.m.Abs,sr.lo.e)).bind fun m1a=>
 (Bb r0a sr.hi).bind fun r4a=>
 (if 0<r4a then some (r0a.m.Neg,r0a.m.Abs,r0a.e) else some (sr.hi.m.Neg,sr.hi.m.Abs,sr.hi.e)).bind fun m2a=>
 some (⟨(⟨(⟨m1a.1,m1a.2.1⟩:Ag),m1a.2.2⟩:Aj),(⟨(⟨m2a.1,m2a.2.1⟩:Ag),m2a.2.2⟩:Aj)⟩:Ap)
def DV (x0:Ap) (x1:Ap) (x2:Int):M (Ar):=
 (Gl x0 x1 x2 x0.lo x1.lo).bind fun s0a=>
 (Ee x0 x1 x2 s0a x0.lo x1.hi).bind fun s1a=>
 (Ee x0 x1 x2 s1a x0.hi x1.lo).bind fun s2a=>
 (Ee x0 x1 x2 s2a x0.hi x1.hi).bind fun s3a=>
 (Er s3a x2).bind fun r4a=>
 mb (Dl r4a) fun r5a=>
 some (.ok r5a)
def Cp (x0:Aq) (x1:Aq) (x2:Int):M (Ar × Int):=
 mb (Ci x0 x1) fun r7a=>
 mb (Ej x2) fun r8a=>
 (toN x0.Lo.Man.Abs).bind fun m0a=>
 (toN x0.Hi.Man.Abs).bind fun m1a=>
 (Dc (⟨(⟨(⟨x0.Lo.Man.Neg,m0a⟩:Ag),x0.Lo.Exp⟩:Af),(⟨(⟨x0.Hi.Man.Neg,m1a⟩:Ag),x0.Hi.Exp⟩:Af)⟩:Ar)).bind fun r2a=>
 (toN x1.Lo.Man.Abs).bind fun m3a=>
 (toN x1.Hi.Man.Abs).bind fun m4a=>
 (Dc (⟨(⟨(⟨x1.Lo.Man.Neg,m3a⟩:Ag),x1.Lo.Exp⟩:Af),(⟨(⟨x1.Hi.Man.Neg,m4a⟩:Ag),x1.Hi.Exp⟩:Af)⟩:Ar)).bind fun r5a=>
 mb (DV r2a r5a x2) fun r6a=>
 some (.ok (r6a,0))
def BU (x0:Aq) (x1:Aq) (x2:Int):Option (Ar × Int):=(Cp x0 x1 x2).bind fun q=>match q with | .ok r=>some r | .error n=>some ((⟨(⟨(⟨false,0⟩:Ag),0⟩:Af),(⟨(⟨false,0⟩:Ag),0⟩:Af)⟩:Ar),n)
def EI (x0:Aq) (x1:Aq) (x2:Int):Option (Ar × Int):=
 (BU x0 x1 x2).bind fun r0a=>
 some (r0a.1,r0a.2)
def CG (x0:Ag) (x1:Ag):Option (Bool):=
 (if x0.Neg=x1.Neg then (BG (limbs x0.Abs) (limbs x1.Abs)).bind fun r0a=>
 some (r0a) else some (false)).bind fun m1a=>
 some m1a
def AE (x0:Af) (x1:Af):Option (Bool):=
 (CG x0.Man x1.Man).bind fun r0a=>
 (if r0a=true then some (decide (x0.Exp=x1.Exp)) else some (false)).bind fun m1a=>
 some m1a
def CS (x0:Ar) (x1:Ar):Option (Bool):=
 (AE x0.Lo x1.Lo).bind fun r0a=>
 (if r0a=true then (AE x0.Hi x1.Hi).bind fun r1a=>
 some (r1a) else some (false)).bind fun m2a=>
 some m2a
def Ef (x0:Aj) (x1:Aj) (x2:Int) (x3:Int):Option (Aj):=
 (AV x0).bind fun r3a=>
 if r3a=0 then some (⟨(⟨false,0⟩:Ag),0⟩:Aj) else (Be x1.m.Abs).bind fun r0a=>
 (Be x0.m.Abs).bind fun r1a=>
 (Ba x0.m.Abs (max 0 (wi64 ((wi64 ((wi64 (x2+2))+r0a)) - r1a)))).bind fun r4a=>
 (Cy r4a x1.m.Abs).bind fun r2a=>
 (Av (⟨(⟨(decide (¬x0.m.Neg=x1.m.Neg)),r2a.1⟩:Ag),(wi64 ((wi64 (x0.e - x1.e)) - (max 0 (wi64 ((wi64 ((wi64 (x2+2))+r0a)) - r1a)))))⟩:Aj) x2 x3 (decide (0<(sz r2a.2:Int)))).bind fun r5a=>
 some r5a
def Hj (x0:Ap) (x1:Ap) (x2:Int) (x y:Aj):Option Ap:=
 (Ef x y x2 5).bind fun r0a=>
 (Ef x y x2 4).bind fun r1a=>
 (Bb r0a r0a).bind fun r2a=>
 (if r2a<0 then some () else some ()).bind fun m4a=>
 (Bb r1a r1a).bind fun r3a=>
 (if 0<r3a then some () else some ()).bind fun m5a=>
 some (⟨r0a,r1a⟩:Ap)
def ET (x0:Ap) (x1:Ap) (x2:Int) (sr:Ap) (x y:Aj):Option Ap:=
 (Ef x y x2 5).bind fun r0a=>
 (Ef x y x2 4).bind fun r1a=>
 (Bb r0a sr.lo).bind fun r4a=>
 (if r4a<0 then some (r0a.m.Neg,r0a.m.Abs,r0a.e) else some (sr.lo.m.Neg,sr.lo.m.Abs,sr.lo.e)).bind fun m2a=>
 (Bb r1a sr.hi).bind fun r5a=>
 (if 0<r5a then some (r1a.m.Neg,r1a.m.Abs,r1a.e) else some (sr.hi.m.Neg,sr.hi.m.Abs,sr.hi.e)).bind fun m3a=>
 some (⟨(⟨(⟨m2a.1,m2a.2.1⟩:Ag),m2a.2.2⟩:Aj),(⟨(⟨m3a.1,m3a.2.1⟩:Ag),m3a.2.2⟩:Aj)⟩:Ap)
def GJ (x0:Ap) (x1:Ap) (x2:Int):M (Ar):=
 (AV x1.lo).bind fun r0a=>
 (AV x1.hi).bind fun r1a=>
 mb (BO (decide (0<(wi64 (r0a*r1a)))) 8) fun r7a=>
 (Hj x0 x1 x2 x0.lo x1.lo).bind fun s2a=>
 (ET x0 x1 x2 s2a x0.lo x1.hi).bind fun s3a=>
 (ET x0 x1 x2 s3a x0.hi x1.lo).bind fun s4a=>
 (ET x0 x1 x2 s4a x0.hi x1.hi).bind fun s5a=>
 mb (Dl s5a) fun r6a=>
 some (.ok r6a)
def Ew (x0:Aq) (x1:Aq) (x2:Int):M (Ar × Int):=
 mb (Ci x0 x1) fun r7a=>
 mb (Ej x2) fun r8a=>
 (toN x0.Lo.Man.Abs).bind fun m0a=>
 (toN x0.Hi.Man.Abs).bind fun m1a=>
 (Dc (⟨(⟨(⟨x0.Lo.Man.Neg,m0a⟩:Ag),x0.Lo.Exp⟩:Af),(⟨(⟨x0.Hi.Man.Neg,m1a⟩:Ag),x0.Hi.Exp⟩:Af)⟩:Ar)).bind fun r2a=>
 (toN x1.Lo.Man.Abs).bind fun m3a=>
 (toN x1.Hi.Man.Abs).bind fun m4a=>
 (Dc (⟨(⟨(⟨x1.Lo.Man.Neg,m3a⟩:Ag),x1.Lo.Exp⟩:Af),(⟨(⟨x1.Hi.Man.Neg,m4a⟩:Ag),x1.Hi.Exp⟩:Af)⟩:Ar)).bind fun r5a=>
 mb (GJ r2a r5a x2) fun r6a=>
 some (.ok (r6a,0))
def DC (x0:Aq) (x1:Aq) (x2:Int):Option (Ar × Int):=(Ew x0 x1 x2).bind fun q=>match q with | .ok r=>some r | .error n=>some ((⟨(⟨(⟨false,0⟩:Ag),0⟩:Af),(⟨(⟨false,0⟩:Ag),0⟩:Af)⟩:Ar),n)
def GE (x0:Aq) (x1:Aq) (x2:Int):Option (Ar × Int):=
 (DC x0 x1 x2).bind fun r0a=>
 some (r0a.1,r0a.2)
def EO (x0:Nat):Nat→Nat→Option (Nat × Nat)
 | 0,_=>none
 | n2a+1,v0a=>
 (Cy x0 v0a).bind fun r3a=>
 (Ca v0a r3a.1).bind fun r4a=>
 (BS r4a 1).bind fun r1a=>
 (BV r1a v0a).bind fun r5a=>
 if 0≤r5a then (Ct v0a v0a).bind fun r6a=>
 (BM x0 r6a).bind fun r7a=>
 some (v0a,r7a) else EO x0 n2a r1a
def Gm (x0:Nat):Option (Nat × Nat):=
 if (sz x0:Int)=0 then some (0,0) else (Be x0).bind fun r0a=>
 (Ba 1 (wi64 ((wi64 (r0a+1)).tdiv 2))).bind fun r1a=>
 EO x0 18446744073709551616 r1a
def GI (x0:Aj) (x1:Int) (x2:Int):Option (Aj):=
 (AV x0).bind fun r3a=>
 if r3a=0 then some (⟨(⟨false,0⟩:Ag),0⟩:Aj) else (Be x0.m.Abs).bind fun r0a=>
 (if ¬((wi64 (x0.e - (max 0 (wi64 ((wi64 ((wi64 (2*x1))+4)) - r0a)))))%2)=0 then some (wi64 ((max 0 (wi64 ((wi64 ((wi64 (2*x1))+4)) - r0a)))+1)) else some (max 0 (wi64 ((wi64 ((wi64 (2*x1))+4)) - r0a)))).bind fun m1a=>
 (Ba x0.m.Abs m1a).bind fun r4a=>
 (Gm r4a).bind fun r2a=>
 (Av (⟨(⟨false,r2a.1⟩:Ag),(wi64 ((wi64 (x0.e - m1a)).tdiv 2))⟩:Aj) x1 x2 (decide (0<(sz r2a.2:Int)))).bind fun r5a=>
 some r5a
def GK (x0:Ap) (x1:Ap) (x2:Int):M (Ar):=
 (AV x0.lo).bind fun r0a=>
 mb (BO (decide (0≤r0a)) 3) fun r4a=>
 (GI x0.lo x2 5).bind fun r1a=>
 (GI x0.hi x2 4).bind fun r2a=>
 mb (Dl (⟨r1a,r2a⟩:Ap)) fun r3a=>
 some (.ok r3a)
def Ev (x0:Aq) (x1:Aq) (x2:Int):M (Ar × Int):=
 mb (Ci x0 x1) fun r7a=>
 mb (Ej x2) fun r8a=>
 (toN x0.Lo.Man.Abs).bind fun m0a=>
 (toN x0.Hi.Man.Abs).bind fun m1a=>
 (Dc (⟨(⟨(⟨x0.Lo.Man.Neg,m0a⟩:Ag),x0.Lo.Exp⟩:Af),(⟨(⟨x0.Hi.Man.Neg,m1a⟩:Ag),x0.Hi.Exp⟩:Af)⟩:Ar)).bind fun r2a=>
 (toN x1.Lo.Man.Abs).bind fun m3a=>
 (toN x1.Hi.Man.Abs).bind fun m4a=>
 (Dc (⟨(⟨(⟨x1.Lo.Man.Neg,m3a⟩:Ag),x1.Lo.Exp⟩:Af),(⟨(⟨x1.Hi.Man.Neg,m4a⟩:Ag),x1.Hi.Exp⟩:Af)⟩:Ar)).bind fun r5a=>
 mb (GK r2a r5a x2) fun r6a=>
 some (.ok (r6a,0))
def DF (x0:Aq) (x1:Aq) (x2:Int):Option (Ar × Int):=(Ev x0 x1 x2).bind fun q=>match q with | .ok r=>some r | .error n=>some ((⟨(⟨(⟨false,0⟩:Ag),0⟩:Af),(⟨(⟨false,0⟩:Ag),0⟩:Af)⟩:Ar),n)
def Hq (x0:Aq) (x1:Int):Option (Ar × Int):=
 (DF x0 x0 x1).bind fun r0a=>
 some (r0a.1,r0a.2)
def Ds:Option (Bool):=
 (Eh 12).bind fun r3=>
 (Hu (⟨r3.Neg,(limbs r3.Abs)⟩:AC) 3).bind fun r9a=>
 (AM 11 0).bind fun r7a=>
 (BQ (⟨(⟨r7a.Man.Neg,(limbs r7a.Man.Abs)⟩:AC),r7a.Exp⟩:Ao) 3 1).bind fun r0b=>
 (AM (-11) 0).bind fun r8a=>
 (BQ (⟨(⟨r8a.Man.Neg,(limbs r8a.Man.Abs)⟩:AC),r8a.Exp⟩:Ao) 2 5).bind fun r1b=>
 (BF (-1) 2).bind fun r0a=>
 (BF (-3) 5).bind fun r1a=>
 (EI (⟨(⟨(⟨r0a.Lo.Man.Neg,(limbs r0a.Lo.Man.Abs)⟩:AC),r0a.Lo.Exp⟩:Ao),(⟨(⟨r0a.Hi.Man.Neg,(limbs r0a.Hi.Man.Abs)⟩:AC),r0a.Hi.Exp⟩:Ao)⟩:Aq) (⟨(⟨(⟨r1a.Lo.Man.Neg,(limbs r1a.Lo.Man.Abs)⟩:AC),r1a.Lo.Exp⟩:Ao),(⟨(⟨r1a.Hi.Man.Neg,(limbs r1a.Hi.Man.Abs)⟩:AC),r1a.Hi.Exp⟩:Ao)⟩:Aq) 8).bind fun r2b=>
 (if ¬r9a.2=0 then some (true) else some (decide (¬r0b.2=0))).bind fun m5b=>
 (if m5b=true then some (true) else some (decide (¬r1b.2=0))).bind fun m6b=>
 (if m6b=true then some (true) else some (decide (¬r2b.2=0))).bind fun m7b=>
 if m7b=true then some false else (AM 3 5).bind fun r8b=>
 (AE r9a.1 r8b).bind fun r9b=>
 if ¬(r9b=true) then some false else (AM 12 0).bind fun r0c=>
 (AE r0b.1 r0c).bind fun r1c=>
 if ¬(r1c=true) then some false else (AM (-12) 0).bind fun r2c=>
 (AE r1b.1 r2c).bind fun r3c=>
 if ¬(r3c=true) then some false else (BF (-6) 10).bind fun r4c=>
 (CS r2b.1 r4c).bind fun r5c=>
 if ¬(r5c=true) then some false else (BF 1 1).bind fun r2a=>
 (BF 3 3).bind fun r3a=>
 (GE (⟨(⟨(⟨r2a.Lo.Man.Neg,(limbs r2a.Lo.Man.Abs)⟩:AC),r2a.Lo.Exp⟩:Ao),(⟨(⟨r2a.Hi.Man.Neg,(limbs r2a.Hi.Man.Abs)⟩:AC),r2a.Hi.Exp⟩:Ao)⟩:Aq) (⟨(⟨(⟨r3a.Lo.Man.Neg,(limbs r3a.Lo.Man.Abs)⟩:AC),r3a.Lo.Exp⟩:Ao),(⟨(⟨r3a.Hi.Man.Neg,(limbs r3a.Hi.Man.Abs)⟩:AC),r3a.Hi.Exp⟩:Ao)⟩:Aq) 4).bind fun r3b=>
 (BF 1 1).bind fun r4a=>
 (BF (-1) 1).bind fun r5a=>
 (GE (⟨(⟨(⟨r4a.Lo.Man.Neg,(limbs r4a.Lo.Man.Abs)⟩:AC),r4a.Lo.Exp⟩:Ao),(⟨(⟨r4a.Hi.Man.Neg,(limbs r4a.Hi.Man.Abs)⟩:AC),r4a.Hi.Exp⟩:Ao)⟩:Aq) (⟨(⟨(⟨r5a.Lo.Man.Neg,(limbs r5a.Lo.Man.Abs)⟩:AC),r5a.Lo.Exp⟩:Ao),(⟨(⟨r5a.Hi.Man.Neg,(limbs r5a.Hi.Man.Abs)⟩:AC),r5a.Hi.Exp⟩:Ao)⟩:Aq) 4).bind fun r6c=>
 (BF 2 2).bind fun r6a=>
 (Hq (⟨(⟨(⟨r6a.Lo.Man.Neg,(limbs r6a.Lo.Man.Abs)⟩:AC),r6a.Lo.Exp⟩:Ao),(⟨(⟨r6a.Hi.Man.Neg,(limbs r6a.Hi.Man.Abs)⟩:AC),r6a.Hi.Exp⟩:Ao)⟩:Aq) 4).bind fun r4b=>
 (AM 5 (-4)).bind fun r7c=>
 (AM 11 (-5)).bind fun r8c=>
 (AM 11 (-3)).bind fun r9c=>
 (AM 3 (-1)).bind fun r0d=>
 (if r3b.2=0 then some (decide (r6c.2=8)) else some (false)).bind fun m1d=>
 (if m1d=true then some (decide (r4b.2=0)) else some (false)).bind fun m2d=>
 (if m2d=true then (CS r3b.1 (⟨r7c,r8c⟩:Ar)).bind fun r3d=>
 some (r3d) else some (false)).bind fun m4d=>
 (if m4d=true then (CS r4b.1 (⟨r9c,r0d⟩:Ar)).bind fun r5d=>
 some (r5d) else some (false)).bind fun m6d=>
 some m6d
def EB (x0:Aj) (x1:Aj):Option (Bool):=
 (AV x0).bind fun r0a=>
 (if r0a=0 then some (true) else (AV x1).bind fun r1a=>
 some (decide (r1a=0))).bind fun m2a=>
 if m2a=true then some true else (Cd x0).bind fun r3a=>
 (Cd x1).bind fun r4a=>
 some (decide ((wi64 ((max r3a r4a) - (min x0.e x1.e)))≤32770))
def FS (x0:Aj) (x1:Aj) (x2:Int) (x3:Int):Option (Aj):=
 (EB x0 x1).bind fun r3a=>
 if r3a=true then (Bf x0 x1).bind fun r4a=>
 (Av r4a x2 x3 false).bind fun r5a=>
 some r5a else (Cd x0).bind fun r6a=>
 (Cd x1).bind fun r7a=>
 (if r6a<r7a then some (x1.m.Neg,x1.m.Abs,x1.e,x0.m.Neg,x0.m.Abs,x0.e) else some (x0.m.Neg,x0.m.Abs,x0.e,x1.m.Neg,x1.m.Abs,x1.e)).bind fun m0a=>
 (Be m0a.2.1).bind fun r1a=>
 (Ba m0a.2.1 (max 0 (wi64 ((wi64 (x2+4)) - r1a)))).bind fun r2a=>
 (Cd (⟨(⟨m0a.2.2.2.1,m0a.2.2.2.2.1⟩:Ag),m0a.2.2.2.2.2⟩:Aj)).bind fun r8a=>
 if (wi64 ((wi64 (m0a.2.2.1 - (max 0 (wi64 ((wi64 (x2+4)) - r1a))))) - 1))≤r8a then (Bf (⟨(⟨m0a.1,r2a⟩:Ag),(wi64 (m0a.2.2.1 - (max 0 (wi64 ((wi64 (x2+4)) - r1a)))))⟩:Aj) (⟨(⟨m0a.2.2.2.1,m0a.2.2.2.2.1⟩:Ag),m0a.2.2.2.2.2⟩:Aj)).bind fun r9a=>
 (Av r9a x2 x3 false).bind fun r0b=>
 some r0b else if m0a.1=m0a.2.2.2.1 then (Av (⟨(⟨m0a.1,r2a⟩:Ag),(wi64 (m0a.2.2.1 - (max 0 (wi64 ((wi64 (x2+4)) - r1a)))))⟩:Aj) x2 x3 true).bind fun r1b=>
 some r1b else (BM r2a 1).bind fun r2b=>
 (Av (⟨(⟨m0a.1,r2b⟩:Ag),(wi64 (m0a.2.2.1 - (max 0 (wi64 ((wi64 (x2+4)) - r1a)))))⟩:Aj) x2 x3 true).bind fun r3b=>
 some r3b
def Ep (x0:Ap) (x1:Ap) (x2:Int):M (Ar):=
 (FS x0.lo x1.lo x2 5).bind fun r0a=>
 (FS x0.hi x1.hi x2 4).bind fun r1a=>
 mb (Dl (⟨r0a,r1a⟩:Ap)) fun r2a=>
 some (.ok r2a)
def CF (x0:Aq) (x1:Aq) (x2:Int):M (Ar × Int):=
 mb (Ci x0 x1) fun r7a=>
 mb (Ej x2) fun r8a=>
 (toN x0.Lo.Man.Abs).bind fun m0a=>
 (toN x0.Hi.Man.Abs).bind fun m1a=>
 (Dc (⟨(⟨(⟨x0.Lo.Man.Neg,m0a⟩:Ag),x0.Lo.Exp⟩:Af),(⟨(⟨x0.Hi.Man.Neg,m1a⟩:Ag),x0.Hi.Exp⟩:Af)⟩:Ar)).bind fun r2a=>
 (toN x1.Lo.Man.Abs).bind fun m3a=>
 (toN x1.Hi.Man.Abs).bind fun m4a=>
 (Dc (⟨(⟨(⟨x1.Lo.Man.Neg,m3a⟩:Ag),x1.Lo.Exp⟩:Af),(⟨(⟨x1.Hi.Man.Neg,m4a⟩:Ag),x1.Hi.Exp⟩:Af)⟩:Ar)).bind fun r5a=>
 mb (Ep r2a r5a x2) fun r6a=>
 some (.ok (r6a,0))
def BY (x0:Aq) (x1:Aq) (x2:Int):Option (Ar × Int):=(CF x0 x1 x2).bind fun q=>match q with | .ok r=>some r | .error n=>some ((⟨(⟨(⟨false,0⟩:Ag),0⟩:Af),(⟨(⟨false,0⟩:Ag),0⟩:Af)⟩:Ar),n)
def FB (x0:Aq) (x1:Aq) (x2:Int):Option (Ar × Int):=
 (BY x0 x1 x2).bind fun r0a=>
 some (r0a.1,r0a.2)
def DL (x0_0:Ao) (x0_1:Ao):M (Unit):=
 (Dg x0_0).bind fun r0a=>
 mb (BO r0a 1) fun r2a=>
 (Dg x0_1).bind fun r1a=>
 mb (BO r1a 1) fun r3a=>
 some (.ok ())
def BI (x0:Ao) (x1:Ao):M (Af × Int):=
 mb (DL x0 x1) fun r7a=>
 (toN x0.Man.Abs).bind fun m2a=>
 (DI (⟨(⟨x0.Man.Neg,m2a⟩:Ag),x0.Exp⟩:Af)).bind fun r0a=>
 (toN x1.Man.Abs).bind fun m3a=>
 (DI (⟨(⟨x1.Man.Neg,m3a⟩:Ag),x1.Exp⟩:Af)).bind fun r1a=>
 (EB r0a r1a).bind fun r4a=>
 mb (BO r4a 2) fun r8a=>
 (Bf r0a r1a).bind fun r5a=>
 mb (Cw r5a) fun r6a=>
 some (.ok (r6a,0))
def Bi (x0:Ao) (x1:Ao):Option (Af × Int):=(BI x0 x1).bind fun q=>match q with | .ok r=>some r | .error n=>some ((⟨(⟨false,0⟩:Ag),0⟩:Af),n)
def Fw (x0:Ao) (x1:Ao):Option (Af × Int):=
 (Bi x0 x1).bind fun r0a=>
 some (r0a.1,r0a.2)
def FG (x0:Aj) (x1:Aj):Option (Bool):=
 some true
def Bu (x0:Ao) (x1:Ao):M (Af × Int):=
 mb (DL x0 x1) fun r7a=>
 (toN x0.Man.Abs).bind fun m2a=>
 (DI (⟨(⟨x0.Man.Neg,m2a⟩:Ag),x0.Exp⟩:Af)).bind fun r0a=>
 (toN x1.Man.Abs).bind fun m3a=>
 (DI (⟨(⟨x1.Man.Neg,m3a⟩:Ag),x1.Exp⟩:Af)).bind fun r1a=>
 (FG r0a r1a).bind fun r4a=>
 mb (BO r4a 2) fun r8a=>
 (Ch r0a r1a).bind fun r5a=>
 mb (Cw r5a) fun r6a=>
 some (.ok (r6a,0))
def Bc (x0:Ao) (x1:Ao):Option (Af × Int):=(Bu x0 x1).bind fun q=>match q with | .ok r=>some r | .error n=>some ((⟨(⟨false,0⟩:Ag),0⟩:Af),n)
def Di (x0:Ao) (x1:Ao):Option (Af × Int):=
 (Bc x0 x1).bind fun r0a=>
 some (r0a.1,r0a.2)
def Cv (x0:Af) (x1:Af):Option (Af):=
 (Di (⟨(⟨x0.Man.Neg,(limbs x0.Man.Abs)⟩:AC),x0.Exp⟩:Ao) (⟨(⟨x1.Man.Neg,(limbs x1.Man.Abs)⟩:AC),x1.Exp⟩:Ao)).bind fun r0a=>
 some r0a.1
def Hs (x0:Ao) (x1:Ao):M (Int × Int):=
 mb (DL x0 x1) fun r5a=>
 (toN x0.Man.Abs).bind fun m0a=>
 (DI (⟨(⟨x0.Man.Neg,m0a⟩:Ag),x0.Exp⟩:Af)).bind fun r1a=>
 (toN x1.Man.Abs).bind fun m2a=>
 (DI (⟨(⟨x1.Man.Neg,m2a⟩:Ag),x1.Exp⟩:Af)).bind fun r3a=>
 (Bb r1a r3a).bind fun r4a=>
 some (.ok (r4a,0))
def FR (x0:Ao) (x1:Ao):Option (Int × Int):=(Hs x0 x1).bind fun q=>match q with | .ok r=>some r | .error n=>some (0,n)
def BK (x0:Af) (x1:Af):Option (Bool):=
 (FR (⟨(⟨x0.Man.Neg,(limbs x0.Man.Abs)⟩:AC),x0.Exp⟩:Ao) (⟨(⟨x1.Man.Neg,(limbs x1.Man.Abs)⟩:AC),x1.Exp⟩:Ao)).bind fun r0a=>
 (if r0a.2=0 then some (decide (r0a.1≤0)) else some (false)).bind fun m1a=>
 some m1a
def Dy (x0:Aq) (x1:Aq) (x2:Int):Option (Bool):=
 (Du x0).bind fun r6b=>
 (if ¬(r6b=true) then some (true) else (Du x1).bind fun r7b=>
 some (decide (¬(r7b=true)))).bind fun m8b=>
 (if m8b=true then some (true) else some (decide (x2<1))).bind fun m9b=>
 (if m9b=true then some (true) else some (decide (500<x2))).bind fun m0c=>
 (if m0c=true then some (true) else (CA x0).bind fun r1c=>
 some (decide (¬(r1c=true)))).bind fun m2c=>
 (if m2c=true then some (true) else (CA x1).bind fun r3c=>
 some (decide (¬(r3c=true)))).bind fun m4c=>
 if m4c=true then (Ds).bind fun r5c=>
 some r5c else (FB x0 x1 x2).bind fun r0b=>
 (Fw x0.Lo x1.Lo).bind fun r1a=>
 (BQ (⟨(⟨r1a.1.Man.Neg,(limbs r1a.1.Man.Abs)⟩:AC),r1a.1.Exp⟩:Ao) x2 5).bind fun r1b=>
 (if ¬r0b.2=0 then some (true) else some (decide (¬r1a.2=0))).bind fun m6c=>
 (if m6c=true then some (true) else some (decide (¬r1b.2=0))).bind fun m7c=>
 (if m7c=true then some (true) else (AE r0b.1.Lo r1b.1).bind fun r8c=>
 some (decide (¬(r8c=true)))).bind fun m9c=>
 if m9c=true then some false else (EI x0 x1 x2).bind fun r0a=>
 if ¬r0a.2=0 then some false else (toN x0.Lo.Man.Abs).bind fun m2b=>
 (toN x1.Lo.Man.Abs).bind fun m3b=>
 (Cv (⟨(⟨x0.Lo.Man.Neg,m2b⟩:Ag),x0.Lo.Exp⟩:Af) (⟨(⟨x1.Lo.Man.Neg,m3b⟩:Ag),x1.Lo.Exp⟩:Af)).bind fun r2a=>
 (toN x1.Hi.Man.Abs).bind fun m4b=>
 (Cv (⟨(⟨x0.Lo.Man.Neg,m2b⟩:Ag),x0.Lo.Exp⟩:Af) (⟨(⟨x1.Hi.Man.Neg,m4b⟩:Ag),x1.Hi.Exp⟩:Af)).bind fun r3a=>
 (toN x0.Hi.Man.Abs).bind fun m5b=>
 (Cv (⟨(⟨x0.Hi.Man.Neg,m5b⟩:Ag),x0.Hi.Exp⟩:Af) (⟨(⟨x1.Lo.Man.Neg,m3b⟩:Ag),x1.Lo.Exp⟩:Af)).bind fun r4a=>
 (Cv (⟨(⟨x0.Hi.Man.Neg,m5b⟩:Ag),x0.Hi.Exp⟩:Af) (⟨(⟨x1.Hi.Man.Neg,m4b⟩:Ag),x1.Hi.Exp⟩:Af)).bind fun r5a=>
 (BQ (⟨(⟨r2a.Man.Neg,(limbs r2a.Man.Abs)⟩:AC),r2a.Exp⟩:Ao) x2 4).bind fun r6a=>
 (if ¬r6a.2=0 then some (true) else (BK r6a.1 r0a.1.Hi).bind fun r0d=>
 some (decide (¬(r0d=true)))).bind fun m1d=>
 if m1d=true then some false else (AE r6a.1 r0a.1.Hi).bind fun r2d=>
 (BQ (⟨(⟨r3a.Man.Neg,(limbs r3a.Man.Abs)⟩:AC),r3a.Exp⟩:Ao) x2 4).bind fun r7a=>
 (if ¬r7a.2=0 then some (true) else (BK r7a.1 r0a.1.Hi).bind fun r3d=>
 some (decide (¬(r3d=true)))).bind fun m4d=>
 if m4d=true then some false else (if r2d=true then some (true) else (AE r7a.1 r0a.1.Hi).bind fun r5d=>
 some (r5d)).bind fun m6d=>
 (BQ (⟨(⟨r4a.Man.Neg,(limbs r4a.Man.Abs)⟩:AC),r4a.Exp⟩:Ao) x2 4).bind fun r8a=>
 (if ¬r8a.2=0 then some (true) else (BK r8a.1 r0a.1.Hi).bind fun r7d=>
 some (decide (¬(r7d=true)))).bind fun m8d=>
 if m8d=true then some false else (if m6d=true then some (true) else (AE r8a.1 r0a.1.Hi).bind fun r9d=>
 some (r9d)).bind fun m0e=>
 (BQ (⟨(⟨r5a.Man.Neg,(limbs r5a.Man.Abs)⟩:AC),r5a.Exp⟩:Ao) x2 4).bind fun r9a=>
 (if ¬r9a.2=0 then some (true) else (BK r9a.1 r0a.1.Hi).bind fun r1e=>
 some (decide (¬(r1e=true)))).bind fun m2e=>
 if m2e=true then some false else (if m0e=true then some (true) else (AE r9a.1 r0a.1.Hi).bind fun r3e=>
 some (r3e)).bind fun m4e=>
 (Ds).bind fun r5e=>
 (if r5e=true then some (m4e) else some (false)).bind fun m6e=>
 some m6e
end Go.Proofs

