import Derived.Test.YtabiobmfelafoaaGreatDoorProg
import Derived.Test.YtabiobmfelafoaaGreatDoorCor
import Derived.Test.YtabiobmfelafoaaGreatDoorRow
import Derived.Test.YtabiobmfelafoaaGreatDoorLA
namespace Go.Proofs
set_option linter.unusedVariables false
set_option linter.unusedSimpArgs false
set_option maxHeartbeats 4000000
open Go.RowKit Go.Sb Go.Proofs.Sbn
structure AR where
 Neg:Bool
 Abs:List Int
structure AD where
 Man:AR
 Exp:Int
structure Ap where
 Lo:AD
 Hi:AD
structure Ah where
 Neg:Bool
 Abs:Nat
structure Ag where
 Man:Ah
 Exp:Int
structure Ao where
 m:Ah
 e:Int
structure Ak where
 Lo:Ag
 Hi:Ag
structure Aq where
 lo:Ao
 hi:Ao
structure Ga where
 Q:Nat
 R:Nat
structure Eo where
 S:Ak
 E:Int
theorem AL:agg Tryz.prog 29 6=true:=by kernel_rfl
theorem Fw:fieldAt Tryz.prog 29 0=some 0:=by kernel_rfl
theorem AJ:agg Tryz.prog 27 3=true:=by kernel_rfl
theorem Fx:fieldAt Tryz.prog 29 1=some 3:=by kernel_rfl
theorem Fh:GZ Tryz.prog 27 [.bool false,.slice none 0 0,.int .i64 0]:=Fz (by kernel_rfl)
theorem Hd:Tryz.prog.underlying 46=some (.slice 27):=by kernel_rfl
theorem Cg:Et Tryz.prog 27 3=true:=by kernel_rfl
theorem Em:fieldAt Tryz.prog 27 0=some 0:=by kernel_rfl
theorem Ct:fieldAt Tryz.prog 25 1=some 1:=by kernel_rfl
theorem EA:Ka Tryz.prog 23=true:=by kernel_rfl
theorem AH:Tryz.prog.underlying 23=some (.slice 179):=by kernel_rfl
theorem Gz:agg Tryz.prog 25 2=true:=by kernel_rfl
theorem en_143:Ent Tryz.prog 143:=ent Tryz.func143 (by kernel_rfl) rfl
theorem FA:fieldAt Tryz.prog 25 0=some 0:=by kernel_rfl
theorem Gd:Ka Tryz.prog 4=true:=by kernel_rfl
theorem en_61:Ent Tryz.prog 61:=ent Tryz.func61 (by kernel_rfl) rfl
theorem ES:fieldAt Tryz.prog 27 1=some 2:=by kernel_rfl
theorem EY:Ka Tryz.prog 3=true:=by kernel_rfl
theorem Md:Ent Tryz.prog 128:=ent Tryz.func128 (by kernel_rfl) rfl
theorem Lz:Ent Tryz.prog 45:=ent Tryz.func45 (by kernel_rfl) rfl
theorem KI:GZ Tryz.prog 25 [.bool false,.slice none 0 0]:=Fz (by kernel_rfl)
theorem it_3:Tryz.prog.underlying 3=some (.int .i64):=by kernel_rfl
theorem AN:Tryz.prog.underlying 148=some (.int .u64):=by kernel_rfl
theorem Lh:Ent Tryz.prog 179:=ent Tryz.func179 (by kernel_rfl) rfl
theorem Jt:Et Tryz.prog 25 2=true:=by kernel_rfl
theorem Jb:Ent Tryz.prog 178:=ent Tryz.func178 (by kernel_rfl) rfl
theorem NT:Ent Tryz.prog 96:=ent Tryz.func96 (by kernel_rfl) rfl
theorem Ku:GZ Tryz.prog 33 [.int .i64 0]:=Fz (by kernel_rfl)
theorem Mi:Tryz.prog.underlying 20=some (.interface #[]):=by kernel_rfl
theorem LS:NA Tryz.prog 201=true:=by kernel_rfl
theorem MQ:GZ Tryz.prog 201 [.int .i64 0]:=Fz (by kernel_rfl)
theorem MV:Et Tryz.prog 201 1=true:=by kernel_rfl
theorem mo:Tryz.prog.follows .mixedOrders=true:=by kernel_rfl
theorem LA:fieldAt Tryz.prog 201 0=some 0:=by kernel_rfl
theorem EM:Ka Tryz.prog 33=true:=by kernel_rfl
theorem Jq:Et Tryz.prog 33 1=true:=by kernel_rfl
theorem en_208:Ent Tryz.prog 208:=ent Tryz.func208 (by kernel_rfl) rfl
theorem Nf:Ent Tryz.prog 151:=ent Tryz.func151 (by kernel_rfl) rfl
theorem Ge:Ent Tryz.prog 102:=ent Tryz.func102 (by kernel_rfl) rfl
theorem IF:Ent Tryz.prog 135:=ent Tryz.func135 (by kernel_rfl) rfl
theorem Gb:GZ Tryz.prog 117 [.bool false,.slice none 0 0]:=Fz (by kernel_rfl)
theorem FU:Et Tryz.prog 117 2=true:=by kernel_rfl
theorem Ea:agg Tryz.prog 117 2=true:=by kernel_rfl
theorem Nq:Ent Tryz.prog 137:=ent Tryz.func137 (by kernel_rfl) rfl
theorem Bm:GZ Tryz.prog 119 [.bool false,.slice none 0 0,.int .i64 0]:=Fz (by kernel_rfl)
theorem Bj:fieldAt Tryz.prog 117 1=some 1:=by kernel_rfl
theorem CU:Ka Tryz.prog 115=true:=by kernel_rfl
theorem As:Tryz.prog.underlying 115=some (.slice 179):=by kernel_rfl
theorem Cf:Et Tryz.prog 119 3=true:=by kernel_rfl
theorem en_213:Ent Tryz.prog 213:=ent Tryz.func213 (by kernel_rfl) rfl
theorem DR:fieldAt Tryz.prog 117 0=some 0:=by kernel_rfl
theorem Kk:Ent Tryz.prog 204:=ent Tryz.func204 (by kernel_rfl) rfl
theorem Ko:Ent Tryz.prog 152:=ent Tryz.func152 (by kernel_rfl) rfl
theorem BD:fieldAt Tryz.prog 119 0=some 0:=by kernel_rfl
theorem CN:fieldAt Tryz.prog 119 1=some 2:=by kernel_rfl
theorem LO:Ent Tryz.prog 201:=ent Tryz.func201 (by kernel_rfl) rfl
theorem sz_115:Et Tryz.prog 115 1=true:=by kernel_rfl
theorem en_202:Ent Tryz.prog 202:=ent Tryz.func202 (by kernel_rfl) rfl
theorem IL:Ent Tryz.prog 136:=ent Tryz.func136 (by kernel_rfl) rfl
theorem en_60:Ent Tryz.prog 60:=ent Tryz.func60 (by kernel_rfl) rfl
theorem en_153:Ent Tryz.prog 153:=ent Tryz.func153 (by kernel_rfl) rfl
theorem LZ:Ent Tryz.prog 154:=ent Tryz.func154 (by kernel_rfl) rfl
theorem Mu:Ent Tryz.prog 62:=ent Tryz.func62 (by kernel_rfl) rfl
theorem IS:Ent Tryz.prog 38:=ent Tryz.func38 (by kernel_rfl) rfl
theorem Au:Et Tryz.prog 179 1=true:=by kernel_rfl
theorem Bh:Ka Tryz.prog 179=true:=by kernel_rfl
theorem Nc:Ent Tryz.prog 64:=ent Tryz.func64 (by kernel_rfl) rfl
theorem MK:Ent Tryz.prog 120:=ent Tryz.func120 (by kernel_rfl) rfl
theorem HC:Ent Tryz.prog 138:=ent Tryz.func138 (by kernel_rfl) rfl
theorem Nw:Ent Tryz.prog 139:=ent Tryz.func139 (by kernel_rfl) rfl
theorem KH:Ent Tryz.prog 121:=ent Tryz.func121 (by kernel_rfl) rfl
theorem JA:Ent Tryz.prog 184:=ent Tryz.func184 (by kernel_rfl) rfl
theorem HN:Ent Tryz.prog 185:=ent Tryz.func185 (by kernel_rfl) rfl
theorem Mc:Ent Tryz.prog 203:=ent Tryz.func203 (by kernel_rfl) rfl
theorem Km:Ent Tryz.prog 191:=ent Tryz.func191 (by kernel_rfl) rfl
theorem FK:GZ Tryz.prog 179 [.int .u32 0]:=Fz (by kernel_rfl)
theorem KK:Ent Tryz.prog 205:=ent Tryz.func205 (by kernel_rfl) rfl
theorem en_206:Ent Tryz.prog 206:=ent Tryz.func206 (by kernel_rfl) rfl
theorem LL:Ent Tryz.prog 207:=ent Tryz.func207 (by kernel_rfl) rfl
theorem IA:Ent Tryz.prog 140:=ent Tryz.func140 (by kernel_rfl) rfl
theorem NY:Ent Tryz.prog 55:=ent Tryz.func55 (by kernel_rfl) rfl
theorem Ej:GZ Tryz.prog 29 [.bool false,.slice none 0 0,.int .i64 0,.bool false,.slice none 0 0,.int .i64 0]:=Fz (by kernel_rfl)
theorem DG:Et Tryz.prog 29 6=true:=by kernel_rfl
theorem JZ:Ent Tryz.prog 97:=ent Tryz.func97 (by kernel_rfl) rfl
theorem IR:Tryz.prog.underlying 230=some (.slice 29):=by kernel_rfl
theorem en_182:Ent Tryz.prog 182:=ent Tryz.func182 (by kernel_rfl) rfl
theorem HT:Ent Tryz.prog 103:=ent Tryz.func103 (by kernel_rfl) rfl
theorem Nb:Ent Tryz.prog 187:=ent Tryz.func187 (by kernel_rfl) rfl
theorem Jv:Ent Tryz.prog 122:=ent Tryz.func122 (by kernel_rfl) rfl
theorem en_192:Ent Tryz.prog 192:=ent Tryz.func192 (by kernel_rfl) rfl
theorem LN:Ent Tryz.prog 115:=ent Tryz.func115 (by kernel_rfl) rfl
theorem LU:Tryz.prog.underlying 4=some .bool:=by kernel_rfl
theorem en_196:Ent Tryz.prog 196:=ent Tryz.func196 (by kernel_rfl) rfl
theorem en_195:Ent Tryz.prog 195:=ent Tryz.func195 (by kernel_rfl) rfl
theorem en_194:Ent Tryz.prog 194:=ent Tryz.func194 (by kernel_rfl) rfl
theorem LP:Ent Tryz.prog 124:=ent Tryz.func124 (by kernel_rfl) rfl
theorem IB:Ent Tryz.prog 106:=ent Tryz.func106 (by kernel_rfl) rfl
theorem NK:Ent Tryz.prog 65:=ent Tryz.func65 (by kernel_rfl) rfl
theorem Iq:Ent Tryz.prog 162:=ent Tryz.func162 (by kernel_rfl) rfl
theorem FL:Ent Tryz.prog 161:=ent Tryz.func161 (by kernel_rfl) rfl
theorem Nm:GZ Tryz.prog 121 [.bool false,.slice none 0 0,.int .i64 0,.bool false,.slice none 0 0,.int .i64 0]:=Fz (by kernel_rfl)
theorem MO:Et Tryz.prog 121 6=true:=by kernel_rfl
theorem Jd:agg Tryz.prog 121 6=true:=by kernel_rfl
theorem Ip:Ent Tryz.prog 163:=ent Tryz.func163 (by kernel_rfl) rfl
theorem Nu:GZ Tryz.prog 124 [.pointer none]:=Fz (by kernel_rfl)
theorem MS:Ent Tryz.prog 104:=ent Tryz.func104 (by kernel_rfl) rfl
theorem MX:Ent Tryz.prog 183:=ent Tryz.func183 (by kernel_rfl) rfl
theorem Ni:Ent Tryz.prog 241:=ent Tryz.func241 (by kernel_rfl) rfl
theorem en_193:Ent Tryz.prog 193:=ent Tryz.func193 (by kernel_rfl) rfl
theorem Nx:Ent Tryz.prog 117:=ent Tryz.func117 (by kernel_rfl) rfl
theorem Fp:Ka Tryz.prog 124=true:=by kernel_rfl
theorem Ld:Tryz.prog.underlying 124=some (.pointer 121):=by kernel_rfl
theorem Nd:Et Tryz.prog 124 1=true:=by kernel_rfl
theorem en_118:Ent Tryz.prog 118:=ent Tryz.func118 (by kernel_rfl) rfl
theorem Ik:Ent Tryz.prog 107:=ent Tryz.func107 (by kernel_rfl) rfl
theorem MD:Ent Tryz.prog 116:=ent Tryz.func116 (by kernel_rfl) rfl
theorem Kp:Ent Tryz.prog 100:=ent Tryz.func100 (by kernel_rfl) rfl
theorem NZ:Ent Tryz.prog 32:=ent Tryz.func32 (by kernel_rfl) rfl
theorem en_144:Ent Tryz.prog 144:=ent Tryz.func144 (by kernel_rfl) rfl
theorem en_86:Ent Tryz.prog 86:=ent Tryz.func86 (by kernel_rfl) rfl
theorem LH:Ent Tryz.prog 37:=ent Tryz.func37 (by kernel_rfl) rfl
theorem LG:Ent Tryz.prog 76:=ent Tryz.func76 (by kernel_rfl) rfl
theorem Ns:Ent Tryz.prog 186:=ent Tryz.func186 (by kernel_rfl) rfl
theorem DB:Ent Tryz.prog 105:=ent Tryz.func105 (by kernel_rfl) rfl
theorem Ny:Ent Tryz.prog 101:=ent Tryz.func101 (by kernel_rfl) rfl
theorem NS:Ent Tryz.prog 21:=ent Tryz.func21 (by kernel_rfl) rfl
theorem en_190:Ent Tryz.prog 190:=ent Tryz.func190 (by kernel_rfl) rfl
theorem MF:Ent Tryz.prog 111:=ent Tryz.func111 (by kernel_rfl) rfl
theorem MN:Ent Tryz.prog 110:=ent Tryz.func110 (by kernel_rfl) rfl
theorem en_25:Ent Tryz.prog 25:=ent Tryz.func25 (by kernel_rfl) rfl
theorem Oc:Ent Tryz.prog 15:=ent Tryz.func15 (by kernel_rfl) rfl
theorem en_16:Ent Tryz.prog 16:=ent Tryz.func16 (by kernel_rfl) rfl
theorem en_131:Ent Tryz.prog 131:=ent Tryz.func131 (by kernel_rfl) rfl
theorem MM:Ent Tryz.prog 47:=ent Tryz.func47 (by kernel_rfl) rfl
theorem KA:Ent Tryz.prog 148:=ent Tryz.func148 (by kernel_rfl) rfl
theorem ME:Ent Tryz.prog 130:=ent Tryz.func130 (by kernel_rfl) rfl
theorem LK:Ent Tryz.prog 189:=ent Tryz.func189 (by kernel_rfl) rfl
theorem Lg:Ent Tryz.prog 198:=ent Tryz.func198 (by kernel_rfl) rfl
theorem ML:Ent Tryz.prog 199:=ent Tryz.func199 (by kernel_rfl) rfl
theorem en_129:Ent Tryz.prog 129:=ent Tryz.func129 (by kernel_rfl) rfl
theorem MT:Ent Tryz.prog 46:=ent Tryz.func46 (by kernel_rfl) rfl
theorem en_23:Ent Tryz.prog 23:=ent Tryz.func23 (by kernel_rfl) rfl
theorem Kt:Ent Tryz.prog 83:=ent Tryz.func83 (by kernel_rfl) rfl
theorem NW:Ent Tryz.prog 17:=ent Tryz.func17 (by kernel_rfl) rfl
theorem en_18:Ent Tryz.prog 18:=ent Tryz.func18 (by kernel_rfl) rfl
theorem en_149:Ent Tryz.prog 149:=ent Tryz.func149 (by kernel_rfl) rfl
theorem Ll:GZ Tryz.prog 171 [.slice none 0 0,.slice none 0 0]:=Fz (by kernel_rfl)
theorem JS:Et Tryz.prog 171 2=true:=by kernel_rfl
theorem fa_171_1:fieldAt Tryz.prog 171 1=some 1:=by kernel_rfl
theorem MP:Ent Tryz.prog 146:=ent Tryz.func146 (by kernel_rfl) rfl
theorem en_200:Ent Tryz.prog 200:=ent Tryz.func200 (by kernel_rfl) rfl
theorem en_132:Ent Tryz.prog 132:=ent Tryz.func132 (by kernel_rfl) rfl
theorem LX:Ent Tryz.prog 147:=ent Tryz.func147 (by kernel_rfl) rfl
theorem fa_171_0:fieldAt Tryz.prog 171 0=some 0:=by kernel_rfl
theorem en_212:Ent Tryz.prog 212:=ent Tryz.func212 (by kernel_rfl) rfl
theorem en_150:Ent Tryz.prog 150:=ent Tryz.func150 (by kernel_rfl) rfl
theorem NQ:GZ Tryz.prog 81 [.bool false,.slice none 0 0,.int .i64 0,.bool false,.slice none 0 0,.int .i64 0,.int .i64 0]:=Fz (by kernel_rfl)
theorem NH:Et Tryz.prog 81 7=true:=by kernel_rfl
theorem NO:agg Tryz.prog 81 7=true:=by kernel_rfl
theorem en_108:Ent Tryz.prog 108:=ent Tryz.func108 (by kernel_rfl) rfl
theorem fa_81_1:fieldAt Tryz.prog 81 1=some 6:=by kernel_rfl
theorem fa_81_0:fieldAt Tryz.prog 81 0=some 0:=by kernel_rfl
theorem Nt:Ent Tryz.prog 22:=ent Tryz.func22 (by kernel_rfl) rfl
theorem KG:agg Tryz.prog 171 2=true:=by kernel_rfl
theorem Od:Ent Tryz.prog 58:=ent Tryz.func58 (by kernel_rfl) rfl
theorem NP:Ent Tryz.prog 44:=ent Tryz.func44 (by kernel_rfl) rfl
theorem Ob:Ent Tryz.prog 26:=ent Tryz.func26 (by kernel_rfl) rfl
theorem NR:Ent Tryz.prog 69:=ent Tryz.func69 (by kernel_rfl) rfl
theorem NL:Ent Tryz.prog 27:=ent Tryz.func27 (by kernel_rfl) rfl
theorem en_28:Ent Tryz.prog 28:=ent Tryz.func28 (by kernel_rfl) rfl
theorem Mx:Ent Tryz.prog 48:=ent Tryz.func48 (by kernel_rfl) rfl
theorem en_29:Ent Tryz.prog 29:=ent Tryz.func29 (by kernel_rfl) rfl
theorem en_125:Ent Tryz.prog 125:=ent Tryz.func125 (by kernel_rfl) rfl
theorem Ls:Ent Tryz.prog 113:=ent Tryz.func113 (by kernel_rfl) rfl
theorem Nr:Ent Tryz.prog 112:=ent Tryz.func112 (by kernel_rfl) rfl
theorem en_30:Ent Tryz.prog 30:=ent Tryz.func30 (by kernel_rfl) rfl
theorem NE:Ent Tryz.prog 114:=ent Tryz.func114 (by kernel_rfl) rfl
theorem en_31:Ent Tryz.prog 31:=ent Tryz.func31 (by kernel_rfl) rfl
def FW (_w:World) (r:Bool) (v:Value):Prop:=v = .bool r
def Jw (w:World) (r:Ah) (v:Value):Prop:=∃(A1:Option Addr) (c1:Nat),v = .agg #[.bool r.Neg,.slice A1 (sz r.Abs) c1]∧RU w A1 c1 r.Abs
def KQ (w:World) (r:Ag × Int) (v:Value):Prop:=∃(A1:Option Addr) (c1:Nat),v = .tuple #[.agg #[.bool r.1.Man.Neg,.slice A1 (sz r.1.Man.Abs) c1,.int .i64 r.1.Exp],.int .i64 r.2]∧RU w A1 c1 r.1.Man.Abs
def Lw (_w:World) (_r:Unit) (v:Value):Prop:=v = .tuple #[]
def JN (w:World) (r:Ah) (v:Value):Prop:=∃(A1:Option Addr) (c1:Nat),v = .agg #[.bool r.Neg,.slice A1 (sz r.Abs) c1]∧RU w A1 c1 r.Abs
def GY (w:World) (r:Ao) (v:Value):Prop:=∃(A1:Option Addr) (c1:Nat),v = .agg #[.bool r.m.Neg,.slice A1 (sz r.m.Abs) c1,.int .i64 r.e]∧RU w A1 c1 r.m.Abs
def IK (w:World) (r:Ag) (v:Value):Prop:=∃(A1:Option Addr) (c1:Nat),v = .agg #[.bool r.Man.Neg,.slice A1 (sz r.Man.Abs) c1,.int .i64 r.Exp]∧RU w A1 c1 r.Man.Abs
def HX (w:World) (r:Ak) (v:Value):Prop:=∃(A1:Option Addr) (c1:Nat) (A2:Option Addr) (c2:Nat),v = .agg #[.bool r.Lo.Man.Neg,.slice A1 (sz r.Lo.Man.Abs) c1,.int .i64 r.Lo.Exp,.bool r.Hi.Man.Neg,.slice A2 (sz r.Hi.Man.Abs) c2,.int .i64 r.Hi.Exp]∧RU w A1 c1 r.Lo.Man.Abs∧RU w A2 c2 r.Hi.Man.Abs
def FX (w:World) (r:Ak × Int) (v:Value):Prop:=∃(A1:Option Addr) (c1:Nat) (A2:Option Addr) (c2:Nat),v = .tuple #[.agg #[.bool r.1.Lo.Man.Neg,.slice A1 (sz r.1.Lo.Man.Abs) c1,.int .i64 r.1.Lo.Exp,.bool r.1.Hi.Man.Neg,.slice A2 (sz r.1.Hi.Man.Abs) c2,.int .i64 r.1.Hi.Exp],.int .i64 r.2]∧RU w A1 c1 r.1.Lo.Man.Abs∧RU w A2 c2 r.1.Hi.Man.Abs
def Gx (_w:World) (r:Int) (v:Value):Prop:=v = .int .i64 r
def Mp (w:World) (r:Aq) (v:Value):Prop:=∃(A1:Option Addr) (c1:Nat) (A2:Option Addr) (c2:Nat),v = .agg #[.bool r.lo.m.Neg,.slice A1 (sz r.lo.m.Abs) c1,.int .i64 r.lo.e,.bool r.hi.m.Neg,.slice A2 (sz r.hi.m.Abs) c2,.int .i64 r.hi.e]∧RU w A1 c1 r.lo.m.Abs∧RU w A2 c2 r.hi.m.Abs
def JU (w:World) (r:Nat × Nat) (v:Value):Prop:=∃(A1:Option Addr) (c1:Nat) (A2:Option Addr) (c2:Nat),v = .tuple #[.slice A1 (sz r.1) c1,.slice A2 (sz r.2) c2]∧RU w A1 c1 r.1∧RU w A2 c2 r.2
def rep_33 (_w:World) (r:Int) (v:Value):Prop:=v = .int .i64 r
def IX (w:World) (r:Nat) (v:Value):Prop:=∃(A1:Option Addr) (c1:Nat),v = .slice A1 (sz r) c1∧RU w A1 c1 r
def rep_81 (w:World) (r:Eo) (v:Value):Prop:=∃(A1:Option Addr) (c1:Nat) (A2:Option Addr) (c2:Nat),v = .agg #[.bool r.S.Lo.Man.Neg,.slice A1 (sz r.S.Lo.Man.Abs) c1,.int .i64 r.S.Lo.Exp,.bool r.S.Hi.Man.Neg,.slice A2 (sz r.S.Hi.Man.Abs) c2,.int .i64 r.S.Hi.Exp,.int .i64 r.E]∧RU w A1 c1 r.S.Lo.Man.Abs∧RU w A2 c2 r.S.Hi.Man.Abs
def rep_171 (w:World) (r:Ga) (v:Value):Prop:=∃(A1:Option Addr) (c1:Nat) (A2:Option Addr) (c2:Nat),v = .agg #[.slice A1 (sz r.Q) c1,.slice A2 (sz r.R) c2]∧RU w A1 c1 r.Q∧RU w A2 c2 r.R
def Kb (_w:World) (r:Int) (v:Value):Prop:=v = .int .u64 r
def Jj (w:World) (r:Nat) (v:Value):Prop:=∃(A1:Option Addr) (c1:Nat),v = .slice A1 (sz r) c1∧RU w A1 c1 r
abbrev BG (x0:List Int):Option (Bool):=Lf.BG x0
abbrev BP (x0:List Int) (x1:Int):Option (Int):=Lf.BP x0 x1
def Cy (x0:Int):Option (Nat):=(gd (0≤x0∧x0<18446744073709551616)).bind fun _=>some (x0.toNat)
abbrev Gt (x0:List Int):Option (Bool):=Lf.Gt x0
def CQ (x0:Nat):Option (Int):=(gd (sz x0<1073741824)).bind fun _=>some (Lf.tz x0:Int)
def Cv (x0:Nat) (x1:Int):Option (Nat):=(gd (sz x0<1073741824∧0≤x1∧x1<9223372036854775808)).bind fun _=>some (x0/2^x1.toNat)
def CV (x0:Nat):Option (Nat):=(gd (sz x0<1073741824)).bind fun _=>some (x0)
def BH (x0:Nat):Option (Int):=(gd (sz x0<1073741824)).bind fun _=>some (Lf.tz x0:Int)
def BR (x0:Nat) (x1:Int):Option (Nat):=(gd (sz x0<1073741824∧0≤x1∧x1<9223372036854775808)).bind fun _=>some (x0/2^x1.toNat)
def Bt (x0:Nat):Option (Int):=(gd (sz x0<1073741824)).bind fun _=>some (Lf.bl x0:Int)
def Br (x0:Nat) (x1:Int):Option (Nat):=(gd (sz x0<1073741824∧0≤x1∧x1<34359738368)).bind fun _=>some (x0*2^x1.toNat)
def Cc (x0:Nat) (x1:Nat):Option (Nat):=(gd (sz x0<1073741824∧sz x1<1073741824∧x1≤x0)).bind fun _=>some (x0 - x1)
def Cx (x0:Nat) (x1:Nat):Option (Int):=(gd (sz x0<1073741824∧sz x1<1073741824)).bind fun _=>some (Lf.cmpw x0 x1)
def CK (x0:Nat) (x1:Nat):Option (Nat):=(gd (sz x0<1073741824∧sz x1<1073741824)).bind fun _=>some (x0+x1)
def Da (x0:Nat) (x1:Nat):Option (Nat):=(gd (sz x0<1073741824∧sz x1<1073741824)).bind fun _=>some (x0*x1)
abbrev BW (x0:List Int) (x1:List Int):Option (Bool):=Lf.BW x0 x1
def Dc (x0:Nat) (x1:Nat):Option (Nat × Nat):=(gd (sz x0<1073741824∧sz x1<1073741824∧x1≠0)).bind fun _=>some (x0/x1,x0%x1)
def BQ (x0:Nat) (x1:Int):Option (Nat):=(gd (sz x0<1073741824∧0≤x1∧x1<34359738368)).bind fun _=>some (x0*2^x1.toNat)
def BC (x0:Nat) (x1:Nat):Option (Nat):=(gd (sz x0<1073741824∧sz x1<1073741824)).bind fun _=>some (x0+x1)
def BB (x0:Nat) (x1:Nat):Option (Int):=(gd (sz x0<1073741824∧sz x1<1073741824)).bind fun _=>some (Lf.sgnc x0 x1)
def BN (x0:Nat) (x1:Nat):Option (Nat):=(gd (sz x0<1073741824∧sz x1<1073741824∧x1≤x0)).bind fun _=>some (x0 - x1)
def Cl (x0:Nat) (x1:Nat):Option (Ga):=(gd (sz x0<1073741824∧sz x1<1073741824∧x1≠0)).bind fun _=>some (⟨x0/x1,x0%x1⟩)
def Ck (x0:Nat) (x1:Nat):Option (Nat):=(gd (sz x0<1073741824∧sz x1<1073741824)).bind fun _=>some (x0*x1)
def BE (x0:Nat):Option (Int):=(gd (sz x0<1073741824)).bind fun _=>some (Lf.bl x0:Int)
def DO (x0:AR):Option (Bool):=
 (BG x0.Abs).bind fun r0a=>
 (if r0a=true then (if ¬(x0.Neg=true) then some (true) else some (decide (0<(x0.Abs.length:Int)))).bind fun m1a=>
 some (m1a) else some (false)).bind fun m2a=>
 some m2a
def Bg (x0:AD):Option (Bool):=
 (DO x0.Man).bind fun r0a=>
 if ¬(r0a=true) then some false else if (x0.Man.Abs.length:Int)=0 then some (decide (x0.Exp=0)) else (BP x0.Man.Abs 0).bind fun r1a=>
 (if r1a=1 then some (decide ((-1048576)≤x0.Exp)) else some (false)).bind fun m2a=>
 (if m2a=true then some (decide (x0.Exp≤1048576)) else some (false)).bind fun m3a=>
 some m3a
def AU (x0:Bool) (x1:Nat):Option (Ah):=
 (if x0=true then some (decide (0<(sz x1:Int))) else some (false)).bind fun m0a=>
 some (⟨m0a,x1⟩:Ah)
def Fv (x0:Int):Option (Ah):=
 if x0<0 then (Cy (wu64 (wi64 (-x0)))).bind fun r0a=>
 (AU true r0a).bind fun r1a=>
 some r1a else (Cy (wu64 x0)).bind fun r2a=>
 (AU false r2a).bind fun r3a=>
 some r3a
def FZ (x0:AR):Option (Bool):=
 (Gt x0.Abs).bind fun r0a=>
 (if r0a=true then (if ¬(x0.Neg=true) then some (true) else some (decide (0<(x0.Abs.length:Int)))).bind fun m1a=>
 some (m1a) else some (false)).bind fun m2a=>
 some m2a
def DQ (x0:Bool) (x1:Int):M (Unit):=
 if ¬(x0=true) then some (.error x1) else some (.ok ())
def Hy (x0:Ah):Option (Ah):=
 some x0
def DY (x0:Ah) (x1:Int):Option (Ao):=
 if (sz x0.Abs:Int)=0 then some (⟨(⟨false,0⟩:Ah),0⟩:Ao) else (CQ x0.Abs).bind fun r0a=>
 (Cv x0.Abs r0a).bind fun r1a=>
 some (⟨(⟨x0.Neg,r1a⟩:Ah),(wi64 (x1+r0a))⟩:Ao)
def GS (x0:Ah):Option (Ah):=
 (if x0.Neg=true then some (decide (0<(sz x0.Abs:Int))) else some (false)).bind fun m0a=>
 some (⟨m0a,x0.Abs⟩:Ah)
def Ec (x0:Ao):M (Ag):=
 (if (sz x0.m.Abs:Int)≤1024 then some (decide (x0.e≤1048576)) else some (false)).bind fun m0a=>
 (if m0a=true then some (decide ((-1048576)≤x0.e)) else some (false)).bind fun m1a=>
 mb (DQ m1a 2) fun r4a=>
 (CV x0.m.Abs).bind fun r2a=>
 (GS (⟨x0.m.Neg,r2a⟩:Ah)).bind fun r3a=>
 some (.ok (⟨r3a,x0.e⟩:Ag))
def JM (x0:AR) (x1:Int):M (Ag × Int):=
 (FZ x0).bind fun r0a=>
 mb (DQ r0a 1) fun r5a=>
 if (x0.Abs.length:Int)=0 then some (.ok ((⟨(⟨false,0⟩:Ah),0⟩:Ag),0)) else (toN x0.Abs).bind fun m1a=>
 (Hy (⟨x0.Neg,m1a⟩:Ah)).bind fun r2a=>
 (DY r2a (max (-1099511627776) (min x1 1099511627776))).bind fun r3a=>
 mb (Ec r3a) fun r4a=>
 some (.ok (r4a,0))
def IT (x0:AR) (x1:Int):Option (Ag × Int):=(JM x0 x1).bind fun q=>match q with | .ok r=>some r | .error n=>some ((⟨(⟨false,0⟩:Ah),0⟩:Ag),n)
def Dw (x0:Ah) (x1:Int):Option (Ag):=
 if (sz x0.Abs:Int)=0 then some (⟨(⟨false,0⟩:Ah),0⟩:Ag) else (BH x0.Abs).bind fun r0a=>
 (BR x0.Abs r0a).bind fun r1a=>
 some (⟨(⟨x0.Neg,r1a⟩:Ah),(wi64 (x1+r0a))⟩:Ag)
def Bf (x0:Int) (x1:Int):Option (Ag):=
 (Fv x0).bind fun r7=>
 (Dw r7 x1).bind fun r0a=>
 some r0a
def EU (x0:AD):Option (Bool):=
 (FZ x0.Man).bind fun r0a=>
 if ¬(r0a=true) then some false else if (x0.Man.Abs.length:Int)=0 then some (decide (x0.Exp=0)) else (nth x0.Man.Abs 0).bind fun u1a=>
 (if (u1a%2)=1 then some (decide (x0.Exp≤1048576)) else some (false)).bind fun m2a=>
 (if m2a=true then some (decide ((-1048576)≤x0.Exp)) else some (false)).bind fun m3a=>
 some m3a
def HB (x0_0:AD):M (Unit):=
 (EU x0_0).bind fun r0a=>
 mb (DQ r0a 1) fun r1a=>
 some (.ok ())
def EW (x0:Int):M (Unit):=
 (if 1≤x0 then some (decide (x0≤4096)) else some (false)).bind fun m8=>
 mb (DQ m8 1) fun r0a=>
 some (.ok ())
def HD (x0:Int):M (Unit):=
 (if 1≤x0 then some (decide (x0≤5)) else some (false)).bind fun m8=>
 mb (DQ m8 1) fun r0a=>
 some (.ok ())
def GM (x0:Ag):Option (Ao):=
 (Hy x0.Man).bind fun r0a=>
 some (⟨r0a,x0.Exp⟩:Ao)
def Dz (x0:Ah) (x1:Int):Option (Ah):=
 (Br x0.Abs x1).bind fun r0a=>
 some (⟨x0.Neg,r0a⟩:Ah)
def Hr (x0:Bool) (x1:Int) (x2:Bool) (x3:Bool) (x4:Int):Option (Bool):=
 if x0=true then some false else if x4=1 then (if 0<x1 then some (true) else (if x1=0 then some (x2) else some (false)).bind fun m0a=>
 some (m0a)).bind fun m1a=>
 some m1a else if x4=2 then some (decide (0≤x1)) else if x4=4 then some (decide (¬(x3=true))) else if x4=5 then some x3 else some false
def AK (x0:Ao) (x1:Int) (x2:Int) (x3:Bool):Option (Ao):=
 (Bt x0.m.Abs).bind fun r1a=>
 (if (wi64 (r1a - x1))≤0 then some (decide (¬(x3=true))) else some (false)).bind fun m6a=>
 if m6a=true then (DY x0.m x0.e).bind fun r7a=>
 some r7a else (if (wi64 (r1a - x1))<2 then (Dz x0.m (wi64 (2 - (wi64 (r1a - x1))))).bind fun r3a=>
 some (2,r3a.Neg,r3a.Abs,(wi64 ((wi64 (x0.e - 2))+(wi64 (r1a - x1))))) else some ((wi64 (r1a - x1)),x0.m.Neg,x0.m.Abs,x0.e)).bind fun m0a=>
 (Cv m0a.2.2.1 m0a.1).bind fun r2a=>
 (Br r2a m0a.1).bind fun r8a=>
 (Cc m0a.2.2.1 r8a).bind fun r4a=>
 (if (sz r4a:Int)=0 then some (decide (¬(x3=true))) else some (false)).bind fun m9a=>
 (Br 1 (wi64 (m0a.1 - 1))).bind fun r0b=>
 (Cx r4a r0b).bind fun r5a=>
 (if r5a=0 then some (x3) else some (false)).bind fun m1b=>
 (if m1b=true then some (1) else some (r5a)).bind fun m2b=>
 (if 0<(sz r2a:Int) then (nth (limbs r2a) 0).bind fun u3b=>
 some (decide ((u3b%2)=1)) else some (false)).bind fun m4b=>
 (Hr m9a m2b m4b m0a.2.1 x2).bind fun r5b=>
 (if r5b=true then (CK r2a 1).bind fun r6b=>
 some (r6b) else some (r2a)).bind fun m7b=>
 (DY (⟨m0a.2.1,m7b⟩:Ah) (wi64 (m0a.2.2.2+m0a.1))).bind fun r8b=>
 some r8b
def Jm (x0:AD) (x1:Int) (x2:Int):M (Ag × Int):=
 mb (HB x0) fun r4a=>
 mb (EW x1) fun r5a=>
 mb (HD x2) fun r6a=>
 (toN x0.Man.Abs).bind fun m0a=>
 (GM (⟨(⟨x0.Man.Neg,m0a⟩:Ah),x0.Exp⟩:Ag)).bind fun r1a=>
 (AK r1a x1 x2 false).bind fun r2a=>
 mb (Ec r2a) fun r3a=>
 some (.ok (r3a,0))
def HM (x0:AD) (x1:Int) (x2:Int):Option (Ag × Int):=(Jm x0 x1 x2).bind fun q=>match q with | .ok r=>some r | .error n=>some ((⟨(⟨false,0⟩:Ah),0⟩:Ag),n)
def BU (x0:Int) (x1:Int):Option (Ak):=
 (Bf x0 0).bind fun r7=>
 (Bf x1 0).bind fun r0a=>
 some (⟨r7,r0a⟩:Ak)
def GG (x0:Ah):Option (Int):=
 if (sz x0.Abs:Int)=0 then some 0 else if x0.Neg=true then some (-1) else some 1
def Bk (x0:Ao):Option (Int):=
 (GG x0.m).bind fun r0a=>
 some r0a
def FJ (x0:Int) (x1:Int):Option (Int):=
 if x0<x1 then some (-1) else if x1<x0 then some 1 else some 0
def Dg (x0:Ao):Option (Int):=
 (Bt x0.m.Abs).bind fun r0a=>
 some (wi64 ((wi64 (r0a - 1))+x0.e))
def FH (x0:Ah):Option (Ah):=
 some (⟨(decide (¬(x0.Neg=true))),x0.Abs⟩:Ah)
def DK (x0:Ao):Option (Ao):=
 (FH x0.m).bind fun r0a=>
 some (⟨r0a,x0.e⟩:Ao)
def EB (x0:Ah) (x1:Ah):Option (Ah):=
 if x0.Neg=x1.Neg then (CK x0.Abs x1.Abs).bind fun r0a=>
 some (⟨x0.Neg,r0a⟩:Ah) else (Cx x0.Abs x1.Abs).bind fun r1a=>
 if 0≤r1a then (Cc x0.Abs x1.Abs).bind fun r2a=>
 some (⟨x0.Neg,r2a⟩:Ah) else (Cc x1.Abs x0.Abs).bind fun r3a=>
 some (⟨x1.Neg,r3a⟩:Ah)
def Dv (x0:Ah) (x1:Ah) (x2:Int):Option (Ao):=
 (EB x0 x1).bind fun r0a=>
 (DY r0a x2).bind fun r1a=>
 some r1a
def Bl (x0:Ao) (x1:Ao):Option (Ao):=
 (if (sz x0.m.Abs:Int)=0 then some (x1.e) else some (min x0.e x1.e)).bind fun m5a=>
 (if (sz x1.m.Abs:Int)=0 then some (x0.e) else some (m5a)).bind fun m0a=>
 (if 0<(sz x0.m.Abs:Int) then (Dz x0.m (wi64 (x0.e - m0a))).bind fun r1a=>
 some (r1a.Neg,r1a.Abs) else some (x0.m.Neg,x0.m.Abs)).bind fun m2a=>
 (if 0<(sz x1.m.Abs:Int) then (Dz x1.m (wi64 (x1.e - m0a))).bind fun r3a=>
 some (r3a.Neg,r3a.Abs) else some (x1.m.Neg,x1.m.Abs)).bind fun m4a=>
 (Dv (⟨m2a.1,m2a.2⟩:Ah) (⟨m4a.1,m4a.2⟩:Ah) m0a).bind fun r6a=>
 some r6a
def BL (x0:Ao) (x1:Ao):Option (Ao):=
 (Bl x0 x1).bind fun r0a=>
 some r0a
def BO (x0:Ao) (x1:Ao):Option (Int):=
 (Bk x0).bind fun r0a=>
 (Bk x1).bind fun r1a=>
 (if ¬r0a=r1a then some (true) else some (decide (r0a=0))).bind fun m4a=>
 if m4a=true then (FJ r0a r1a).bind fun r5a=>
 some r5a else (Dg x0).bind fun r2a=>
 (Dg x1).bind fun r3a=>
 if ¬r2a=r3a then (Bk x0).bind fun r6a=>
 (FJ r2a r3a).bind fun r7a=>
 some (wi64 (r6a*r7a)) else (DK x1).bind fun r8a=>
 (BL x0 r8a).bind fun r9a=>
 (Bk r9a).bind fun r0b=>
 some r0b
def DX (x0:Ap):Option (Bool):=
 (EU x0.Lo).bind fun r0a=>
 if r0a=true then (EU x0.Hi).bind fun r1a=>
 if r1a=true then (toN x0.Lo.Man.Abs).bind fun m2a=>
 (GM (⟨(⟨x0.Lo.Man.Neg,m2a⟩:Ah),x0.Lo.Exp⟩:Ag)).bind fun r3a=>
 (toN x0.Hi.Man.Abs).bind fun m4a=>
 (GM (⟨(⟨x0.Hi.Man.Neg,m4a⟩:Ah),x0.Hi.Exp⟩:Ag)).bind fun r5a=>
 (BO r3a r5a).bind fun r6a=>
 some (decide (r6a≤0)) else some false else some false
def BJ (x0_0:Ap) (x0_1:Ap):M (Unit):=
 (DX x0_0).bind fun r0a=>
 mb (DQ r0a 1) fun r2a=>
 (DX x0_1).bind fun r1a=>
 mb (DQ r1a 1) fun r3a=>
 some (.ok ())
def Dp (x0:Ak):Option (Aq):=
 (GM x0.Lo).bind fun r0a=>
 (GM x0.Hi).bind fun r1a=>
 some (⟨r0a,r1a⟩:Aq)
def GW (x0:Ah) (x1:Ah):Option (Ah):=
 (Da x0.Abs x1.Abs).bind fun r0a=>
 some (⟨(decide (¬x0.Neg=x1.Neg)),r0a⟩:Ah)
def EX (x0:Ao) (x1:Ao):Option (Ao):=
 (GW x0.m x1.m).bind fun r0a=>
 (DY r0a (wi64 (x0.e+x1.e))).bind fun r1a=>
 some r1a
def FC (x0:Aq) (x1:Int):Option (Aq):=
 (AK x0.lo x1 5 false).bind fun r0a=>
 (AK x0.hi x1 4 false).bind fun r1a=>
 some (⟨r0a,r1a⟩:Aq)
def DC (x0:Aq):M (Ak):=
 mb (Ec x0.lo) fun r0a=>
 mb (Ec x0.hi) fun r1a=>
 some (.ok (⟨r0a,r1a⟩:Ak))
def HE (x0:Aq) (x1:Aq) (x2:Int) (x y:Ao):Option Aq:=
 (EX x y).bind fun r0a=>
 (BO r0a r0a).bind fun r1a=>
 (if r1a<0 then some () else some ()).bind fun m3a=>
 (BO r0a r0a).bind fun r2a=>
 (if 0<r2a then some () else some ()).bind fun m4a=>
 some (⟨r0a,r0a⟩:Aq)
def Fs (x0:Aq) (x1:Aq) (x2:Int) (sr:Aq) (x y:Ao):Option Aq:=
 (EX x y).bind fun r0a=>
 (BO r0a sr.lo).bind fun r3a=>
 (if r3a<0 then some (r0a.m.Neg,r0a.m.Abs,r0a.e) else some (sr.lo.m.Neg,sr.lo.m.Abs,sr.lo.e)).bind fun m1a=>
 (BO r0a sr.hi).bind fun r4a=>
 (if 0<r4a then some (r0a.m.Neg,r0a.m.Abs,r0a.e) else some (sr.hi.m.Neg,sr.hi.m.Abs,sr.hi.e)).bind fun m2a=>
 some (⟨(⟨(⟨m1a.1,m1a.2.1⟩:Ah),m1a.2.2⟩:Ao),(⟨(⟨m2a.1,m2a.2.1⟩:Ah),m2a.2.2⟩:Ao)⟩:Aq)
def Fi (x0:Aq) (x1:Aq) (x2:Int):M (Ak):=
 (HE x0 x1 x2 x0.lo x1.lo).bind fun s0a=>
 (Fs x0 x1 x2 s0a x0.lo x1.hi).bind fun s1a=>
 (Fs x0 x1 x2 s1a x0.hi x1.lo).bind fun s2a=>
 (Fs x0 x1 x2 s2a x0.hi x1.hi).bind fun s3a=>
 (FC s3a x2).bind fun r4a=>
 mb (DC r4a) fun r5a=>
 some (.ok r5a)
def CY (x0:Ap) (x1:Ap) (x2:Int):M (Ak × Int):=
 mb (BJ x0 x1) fun r7a=>
 mb (EW x2) fun r8a=>
 (toN x0.Lo.Man.Abs).bind fun m0a=>
 (toN x0.Hi.Man.Abs).bind fun m1a=>
 (Dp (⟨(⟨(⟨x0.Lo.Man.Neg,m0a⟩:Ah),x0.Lo.Exp⟩:Ag),(⟨(⟨x0.Hi.Man.Neg,m1a⟩:Ah),x0.Hi.Exp⟩:Ag)⟩:Ak)).bind fun r2a=>
 (toN x1.Lo.Man.Abs).bind fun m3a=>
 (toN x1.Hi.Man.Abs).bind fun m4a=>
 (Dp (⟨(⟨(⟨x1.Lo.Man.Neg,m3a⟩:Ah),x1.Lo.Exp⟩:Ag),(⟨(⟨x1.Hi.Man.Neg,m4a⟩:Ah),x1.Hi.Exp⟩:Ag)⟩:Ak)).bind fun r5a=>
 mb (Fi r2a r5a x2) fun r6a=>
 some (.ok (r6a,0))
def Cu (x0:Ap) (x1:Ap) (x2:Int):Option (Ak × Int):=(CY x0 x1 x2).bind fun q=>match q with | .ok r=>some r | .error n=>some ((⟨(⟨(⟨false,0⟩:Ah),0⟩:Ag),(⟨(⟨false,0⟩:Ah),0⟩:Ag)⟩:Ak),n)
def FT (x0:Ap) (x1:Ap) (x2:Int):Option (Ak × Int):=
 (Cu x0 x1 x2).bind fun r0a=>
 some (r0a.1,r0a.2)
def DZ (x0:Ah) (x1:Ah):Option (Bool):=
 (if x0.Neg=x1.Neg then (BW (limbs x0.Abs) (limbs x1.Abs)).bind fun r0a=>
 some (r0a) else some (false)).bind fun m1a=>
 some m1a
def Cr (x0:Ag) (x1:Ag):Option (Bool):=
 (DZ x0.Man x1.Man).bind fun r0a=>
 (if r0a=true then some (decide (x0.Exp=x1.Exp)) else some (false)).bind fun m1a=>
 some m1a
def Bn (x0:Ak) (x1:Ak):Option (Bool):=
 (Cr x0.Lo x1.Lo).bind fun r0a=>
 (if r0a=true then (Cr x0.Hi x1.Hi).bind fun r1a=>
 some (r1a) else some (false)).bind fun m2a=>
 some m2a
def Fq (x0:Ao) (x1:Ao) (x2:Int) (x3:Int):Option (Ao):=
 (Bk x0).bind fun r3a=>
 if r3a=0 then some (⟨(⟨false,0⟩:Ah),0⟩:Ao) else (Bt x1.m.Abs).bind fun r0a=>
 (Bt x0.m.Abs).bind fun r1a=>
 (Br x0.m.Abs (max 0 (wi64 ((wi64 ((wi64 (x2+2))+r0a)) - r1a)))).bind fun r4a=>
 (Dc r4a x1.m.Abs).bind fun r2a=>
 (AK (⟨(⟨(decide (¬x0.m.Neg=x1.m.Neg)),r2a.1⟩:Ah),(wi64 ((wi64 (x0.e - x1.e)) - (max 0 (wi64 ((wi64 ((wi64 (x2+2))+r0a)) - r1a)))))⟩:Ao) x2 x3 (decide (0<(sz r2a.2:Int)))).bind fun r5a=>
 some r5a
def IU (x0:Aq) (x1:Aq) (x2:Int) (x y:Ao):Option Aq:=
 (Fq x y x2 5).bind fun r0a=>
 (Fq x y x2 4).bind fun r1a=>
 (BO r0a r0a).bind fun r2a=>
 (if r2a<0 then some () else some ()).bind fun m4a=>
 (BO r1a r1a).bind fun r3a=>
 (if 0<r3a then some () else some ()).bind fun m5a=>
 some (⟨r0a,r1a⟩:Aq)
def Gq (x0:Aq) (x1:Aq) (x2:Int) (sr:Aq) (x y:Ao):Option Aq:=
 (Fq x y x2 5).bind fun r0a=>
 (Fq x y x2 4).bind fun r1a=>
 (BO r0a sr.lo).bind fun r4a=>
 (if r4a<0 then some (r0a.m.Neg,r0a.m.Abs,r0a.e) else some (sr.lo.m.Neg,sr.lo.m.Abs,sr.lo.e)).bind fun m2a=>
 (BO r1a sr.hi).bind fun r5a=>
 (if 0<r5a then some (r1a.m.Neg,r1a.m.Abs,r1a.e) else some (sr.hi.m.Neg,sr.hi.m.Abs,sr.hi.e)).bind fun m3a=>
 some (⟨(⟨(⟨m2a.1,m2a.2.1⟩:Ah),m2a.2.2⟩:Ao),(⟨(⟨m3a.1,m3a.2.1⟩:Ah),m3a.2.2⟩:Ao)⟩:Aq)
def Im (x0:Aq) (x1:Aq) (x2:Int):M (Ak):=
 (Bk x1.lo).bind fun r0a=>
 (Bk x1.hi).bind fun r1a=>
 mb (DQ (decide (0<(wi64 (r0a*r1a)))) 8) fun r7a=>
 (IU x0 x1 x2 x0.lo x1.lo).bind fun s2a=>
 (Gq x0 x1 x2 s2a x0.lo x1.hi).bind fun s3a=>
 (Gq x0 x1 x2 s3a x0.hi x1.lo).bind fun s4a=>
 (Gq x0 x1 x2 s4a x0.hi x1.hi).bind fun s5a=>
 mb (DC s5a) fun r6a=>
 some (.ok r6a)
def FG (x0:Ap) (x1:Ap) (x2:Int):M (Ak × Int):=
 mb (BJ x0 x1) fun r7a=>
 mb (EW x2) fun r8a=>
 (toN x0.Lo.Man.Abs).bind fun m0a=>
 (toN x0.Hi.Man.Abs).bind fun m1a=>
 (Dp (⟨(⟨(⟨x0.Lo.Man.Neg,m0a⟩:Ah),x0.Lo.Exp⟩:Ag),(⟨(⟨x0.Hi.Man.Neg,m1a⟩:Ah),x0.Hi.Exp⟩:Ag)⟩:Ak)).bind fun r2a=>
 (toN x1.Lo.Man.Abs).bind fun m3a=>
 (toN x1.Hi.Man.Abs).bind fun m4a=>
 (Dp (⟨(⟨(⟨x1.Lo.Man.Neg,m3a⟩:Ah),x1.Lo.Exp⟩:Ag),(⟨(⟨x1.Hi.Man.Neg,m4a⟩:Ah),x1.Hi.Exp⟩:Ag)⟩:Ak)).bind fun r5a=>
 mb (Im r2a r5a x2) fun r6a=>
 some (.ok (r6a,0))
def EC (x0:Ap) (x1:Ap) (x2:Int):Option (Ak × Int):=(FG x0 x1 x2).bind fun q=>match q with | .ok r=>some r | .error n=>some ((⟨(⟨(⟨false,0⟩:Ah),0⟩:Ag),(⟨(⟨false,0⟩:Ah),0⟩:Ag)⟩:Ak),n)
def Ic (x0:Ap) (x1:Ap) (x2:Int):Option (Ak × Int):=
 (EC x0 x1 x2).bind fun r0a=>
 some (r0a.1,r0a.2)
def Gh (x0:Nat):Nat→Nat→Option (Nat × Nat)
 | 0,_=>none
 | n2a+1,v0a=>
 (Dc x0 v0a).bind fun r3a=>
 (CK v0a r3a.1).bind fun r4a=>
 (Cv r4a 1).bind fun r1a=>
 (Cx r1a v0a).bind fun r5a=>
 if 0≤r5a then (Da v0a v0a).bind fun r6a=>
 (Cc x0 r6a).bind fun r7a=>
 some (v0a,r7a) else Gh x0 n2a r1a
def HG (x0:Nat):Option (Nat × Nat):=
 if (sz x0:Int)=0 then some (0,0) else (Bt x0).bind fun r0a=>
 (Br 1 (wi64 ((wi64 (r0a+1)).tdiv 2))).bind fun r1a=>
 Gh x0 18446744073709551616 r1a
def Ia (x0:Ao) (x1:Int) (x2:Int):Option (Ao):=
 (Bk x0).bind fun r3a=>
 if r3a=0 then some (⟨(⟨false,0⟩:Ah),0⟩:Ao) else (Bt x0.m.Abs).bind fun r0a=>
 (if ¬((wi64 (x0.e - (max 0 (wi64 ((wi64 ((wi64 (2*x1))+4)) - r0a)))))%2)=0 then some (wi64 ((max 0 (wi64 ((wi64 ((wi64 (2*x1))+4)) - r0a)))+1)) else some (max 0 (wi64 ((wi64 ((wi64 (2*x1))+4)) - r0a)))).bind fun m1a=>
 (Br x0.m.Abs m1a).bind fun r4a=>
 (HG r4a).bind fun r2a=>
 (AK (⟨(⟨false,r2a.1⟩:Ah),(wi64 ((wi64 (x0.e - m1a)).tdiv 2))⟩:Ao) x1 x2 (decide (0<(sz r2a.2:Int)))).bind fun r5a=>
 some r5a
def Il (x0:Aq) (x1:Aq) (x2:Int):M (Ak):=
 (Bk x0.lo).bind fun r0a=>
 mb (DQ (decide (0≤r0a)) 3) fun r4a=>
 (Ia x0.lo x2 5).bind fun r1a=>
 (Ia x0.hi x2 4).bind fun r2a=>
 mb (DC (⟨r1a,r2a⟩:Aq)) fun r3a=>
 some (.ok r3a)
def FF (x0:Ap) (x1:Ap) (x2:Int):M (Ak × Int):=
 mb (BJ x0 x1) fun r7a=>
 mb (EW x2) fun r8a=>
 (toN x0.Lo.Man.Abs).bind fun m0a=>
 (toN x0.Hi.Man.Abs).bind fun m1a=>
 (Dp (⟨(⟨(⟨x0.Lo.Man.Neg,m0a⟩:Ah),x0.Lo.Exp⟩:Ag),(⟨(⟨x0.Hi.Man.Neg,m1a⟩:Ah),x0.Hi.Exp⟩:Ag)⟩:Ak)).bind fun r2a=>
 (toN x1.Lo.Man.Abs).bind fun m3a=>
 (toN x1.Hi.Man.Abs).bind fun m4a=>
 (Dp (⟨(⟨(⟨x1.Lo.Man.Neg,m3a⟩:Ah),x1.Lo.Exp⟩:Ag),(⟨(⟨x1.Hi.Man.Neg,m4a⟩:Ah),x1.Hi.Exp⟩:Ag)⟩:Ak)).bind fun r5a=>
 mb (Il r2a r5a x2) fun r6a=>
 some (.ok (r6a,0))
def EE (x0:Ap) (x1:Ap) (x2:Int):Option (Ak × Int):=(FF x0 x1 x2).bind fun q=>match q with | .ok r=>some r | .error n=>some ((⟨(⟨(⟨false,0⟩:Ah),0⟩:Ag),(⟨(⟨false,0⟩:Ah),0⟩:Ag)⟩:Ak),n)
def IN (x0:Ap) (x1:Int):Option (Ak × Int):=
 (EE x0 x0 x1).bind fun r0a=>
 some (r0a.1,r0a.2)
def Ep:Option (Bool):=
 (Fv 12).bind fun r3=>
 (IT (⟨r3.Neg,(limbs r3.Abs)⟩:AR) 3).bind fun r9a=>
 (Bf 11 0).bind fun r7a=>
 (HM (⟨(⟨r7a.Man.Neg,(limbs r7a.Man.Abs)⟩:AR),r7a.Exp⟩:AD) 3 1).bind fun r0b=>
 (Bf (-11) 0).bind fun r8a=>
 (HM (⟨(⟨r8a.Man.Neg,(limbs r8a.Man.Abs)⟩:AR),r8a.Exp⟩:AD) 2 5).bind fun r1b=>
 (BU (-1) 2).bind fun r0a=>
 (BU (-3) 5).bind fun r1a=>
 (FT (⟨(⟨(⟨r0a.Lo.Man.Neg,(limbs r0a.Lo.Man.Abs)⟩:AR),r0a.Lo.Exp⟩:AD),(⟨(⟨r0a.Hi.Man.Neg,(limbs r0a.Hi.Man.Abs)⟩:AR),r0a.Hi.Exp⟩:AD)⟩:Ap) (⟨(⟨(⟨r1a.Lo.Man.Neg,(limbs r1a.Lo.Man.Abs)⟩:AR),r1a.Lo.Exp⟩:AD),(⟨(⟨r1a.Hi.Man.Neg,(limbs r1a.Hi.Man.Abs)⟩:AR),r1a.Hi.Exp⟩:AD)⟩:Ap) 8).bind fun r2b=>
 (if ¬r9a.2=0 then some (true) else some (decide (¬r0b.2=0))).bind fun m5b=>
 (if m5b=true then some (true) else some (decide (¬r1b.2=0))).bind fun m6b=>
 (if m6b=true then some (true) else some (decide (¬r2b.2=0))).bind fun m7b=>
 if m7b=true then some false else (Bf 3 5).bind fun r8b=>
 (Cr r9a.1 r8b).bind fun r9b=>
 if ¬(r9b=true) then some false else (Bf 12 0).bind fun r0c=>
 (Cr r0b.1 r0c).bind fun r1c=>
 if ¬(r1c=true) then some false else (Bf (-12) 0).bind fun r2c=>
 (Cr r1b.1 r2c).bind fun r3c=>
 if ¬(r3c=true) then some false else (BU (-6) 10).bind fun r4c=>
 (Bn r2b.1 r4c).bind fun r5c=>
 if ¬(r5c=true) then some false else (BU 1 1).bind fun r2a=>
 (BU 3 3).bind fun r3a=>
 (Ic (⟨(⟨(⟨r2a.Lo.Man.Neg,(limbs r2a.Lo.Man.Abs)⟩:AR),r2a.Lo.Exp⟩:AD),(⟨(⟨r2a.Hi.Man.Neg,(limbs r2a.Hi.Man.Abs)⟩:AR),r2a.Hi.Exp⟩:AD)⟩:Ap) (⟨(⟨(⟨r3a.Lo.Man.Neg,(limbs r3a.Lo.Man.Abs)⟩:AR),r3a.Lo.Exp⟩:AD),(⟨(⟨r3a.Hi.Man.Neg,(limbs r3a.Hi.Man.Abs)⟩:AR),r3a.Hi.Exp⟩:AD)⟩:Ap) 4).bind fun r3b=>
 (BU 1 1).bind fun r4a=>
 (BU (-1) 1).bind fun r5a=>
 (Ic (⟨(⟨(⟨r4a.Lo.Man.Neg,(limbs r4a.Lo.Man.Abs)⟩:AR),r4a.Lo.Exp⟩:AD),(⟨(⟨r4a.Hi.Man.Neg,(limbs r4a.Hi.Man.Abs)⟩:AR),r4a.Hi.Exp⟩:AD)⟩:Ap) (⟨(⟨(⟨r5a.Lo.Man.Neg,(limbs r5a.Lo.Man.Abs)⟩:AR),r5a.Lo.Exp⟩:AD),(⟨(⟨r5a.Hi.Man.Neg,(limbs r5a.Hi.Man.Abs)⟩:AR),r5a.Hi.Exp⟩:AD)⟩:Ap) 4).bind fun r6c=>
 (BU 2 2).bind fun r6a=>
 (IN (⟨(⟨(⟨r6a.Lo.Man.Neg,(limbs r6a.Lo.Man.Abs)⟩:AR),r6a.Lo.Exp⟩:AD),(⟨(⟨r6a.Hi.Man.Neg,(limbs r6a.Hi.Man.Abs)⟩:AR),r6a.Hi.Exp⟩:AD)⟩:Ap) 4).bind fun r4b=>
 (Bf 5 (-4)).bind fun r7c=>
 (Bf 11 (-5)).bind fun r8c=>
 (Bf 11 (-3)).bind fun r9c=>
 (Bf 3 (-1)).bind fun r0d=>
 (if r3b.2=0 then some (decide (r6c.2=8)) else some (false)).bind fun m1d=>
 (if m1d=true then some (decide (r4b.2=0)) else some (false)).bind fun m2d=>
 (if m2d=true then (Bn r3b.1 (⟨r7c,r8c⟩:Ak)).bind fun r3d=>
 some (r3d) else some (false)).bind fun m4d=>
 (if m4d=true then (Bn r4b.1 (⟨r9c,r0d⟩:Ak)).bind fun r5d=>
 some (r5d) else some (false)).bind fun m6d=>
 some m6d
def EQ (x0:Int):Option (Bool):=
 (if 1≤x0 then some (decide (x0≤4096)) else some (false)).bind fun m0a=>
 some m0a
def Fk (x0:Ah):Option (Ah):=
 (AU (decide (¬(x0.Neg=true))) x0.Abs).bind fun r0a=>
 some r0a
def CC (x0:Ag):Option (Ag):=
 (Fk x0.Man).bind fun r0a=>
 some (⟨r0a,x0.Exp⟩:Ag)
def Ef (x0:Ah) (x1:Int):Option (Ah):=
 (BQ x0.Abs x1).bind fun r0a=>
 some (⟨x0.Neg,r0a⟩:Ah)
def Fj (x0:Ah) (x1:Ah):Option (Ah):=
 if x0.Neg=x1.Neg then (BC x0.Abs x1.Abs).bind fun r0a=>
 (AU x0.Neg r0a).bind fun r1a=>
 some r1a else (BB x0.Abs x1.Abs).bind fun r2a=>
 if 0≤r2a then (BN x0.Abs x1.Abs).bind fun r3a=>
 (AU x0.Neg r3a).bind fun r4a=>
 some r4a else (BN x1.Abs x0.Abs).bind fun r5a=>
 (AU x1.Neg r5a).bind fun r6a=>
 some r6a
def Bs (x0:Ag) (x1:Ag):Option (Ag):=
 if (sz x0.Man.Abs:Int)=0 then some x1 else if (sz x1.Man.Abs:Int)=0 then some x0 else (Ef x0.Man (wi64 (x0.Exp - (min x0.Exp x1.Exp)))).bind fun r0a=>
 (Ef x1.Man (wi64 (x1.Exp - (min x0.Exp x1.Exp)))).bind fun r1a=>
 (Fj r0a r1a).bind fun r2a=>
 (Dw r2a (min x0.Exp x1.Exp)).bind fun r3a=>
 some r3a
def Eg (x0:Ag):Option (Int):=
 if (sz x0.Man.Abs:Int)=0 then some 0 else if x0.Man.Neg=true then some (-1) else some 1
def Bc (x0:Ag) (x1:Ag):Option (Int):=
 (CC x1).bind fun r0a=>
 (Bs x0 r0a).bind fun r1a=>
 (Eg r1a).bind fun r2a=>
 some r2a
def Dx (x0:Ap):Option (Bool):=
 (Bg x0.Lo).bind fun r0a=>
 (if r0a=true then (Bg x0.Hi).bind fun r1a=>
 some (r1a) else some (false)).bind fun m2a=>
 (if m2a=true then (toN x0.Lo.Man.Abs).bind fun m3a=>
 (toN x0.Hi.Man.Abs).bind fun m4a=>
 (Bc (⟨(⟨x0.Lo.Man.Neg,m3a⟩:Ah),x0.Lo.Exp⟩:Ag) (⟨(⟨x0.Hi.Man.Neg,m4a⟩:Ah),x0.Hi.Exp⟩:Ag)).bind fun r5a=>
 some (decide (r5a≤0)) else some (false)).bind fun m6a=>
 some m6a
def Fa (x0:Bool):Option (Int):=
 if ¬(x0=true) then some 1 else some 0
def Ew:Option (Nat):=
 some 1
def Fl (x0:Ah) (x1:Ah):Option (Ah):=
 (Ck x0.Abs x1.Abs).bind fun r0a=>
 (AU (decide (¬x0.Neg=x1.Neg)) r0a).bind fun r1a=>
 some r1a
def Ed (x0:Nat) (x1:Nat) (x2:Nat) (x3:Bool) (x4:Int):Option (Nat):=
 if (sz x1:Int)=0 then some x0 else (if x4=4 then some (decide (¬(x3=true))) else some (false)).bind fun m1a=>
 (if m1a=true then some (true) else (if x4=5 then some (x3) else some (false)).bind fun m2a=>
 some (m2a)).bind fun m3a=>
 (if x4=1 then some (true) else some (decide (x4=2))).bind fun m4a=>
 (if m4a=true then (BC x1 x1).bind fun r5a=>
 (BB r5a x2).bind fun r0a=>
 (if 0<r0a then some (true) else (if r0a=0 then (if x4=2 then some (true) else (if 0<(sz x0:Int) then (nth (limbs x0) 0).bind fun u6a=>
 some (decide ((u6a.tmod 2)=1)) else some (false)).bind fun m7a=>
 some (m7a)).bind fun m8a=>
 some (m8a) else some (false)).bind fun m9a=>
 some (m9a)).bind fun m0b=>
 some (m0b) else some (m3a)).bind fun m1b=>
 if m1b=true then (Ew).bind fun r2b=>
 (BC x0 r2b).bind fun r3b=>
 some r3b else some x0
def EO (x0:Nat) (x1:Nat) (x2:Nat) (x3:Bool) (x4:Int) (x5:Int):Option (Ag):=
 (Ed x0 x1 x2 x3 x4).bind fun r0a=>
 (AU x3 r0a).bind fun r1a=>
 (Dw r1a x5).bind fun r2a=>
 some r2a
def EN (x0:Ak):Option (Eo):=
 (Bg (⟨(⟨x0.Lo.Man.Neg,(limbs x0.Lo.Man.Abs)⟩:AR),x0.Lo.Exp⟩:AD)).bind fun r0a=>
 (if ¬(r0a=true) then some (true) else (Bg (⟨(⟨x0.Hi.Man.Neg,(limbs x0.Hi.Man.Abs)⟩:AR),x0.Hi.Exp⟩:AD)).bind fun r1a=>
 some (decide (¬(r1a=true)))).bind fun m2a=>
 if m2a=true then some (⟨(⟨(⟨(⟨false,0⟩:Ah),0⟩:Ag),(⟨(⟨false,0⟩:Ah),0⟩:Ag)⟩:Ak),2⟩:Eo) else some (⟨x0,0⟩:Eo)
def Bo (x0:Ak) (x1:Int) (x2:Int) (x3:Ak):Option (Bool):=
 if ¬x2=0 then (if x1=x2 then (Bn x0 (⟨(⟨(⟨false,0⟩:Ah),0⟩:Ag),(⟨(⟨false,0⟩:Ah),0⟩:Ag)⟩:Ak)).bind fun r1a=>
 some (r1a) else some (false)).bind fun m2a=>
 some m2a else (EN x3).bind fun r0a=>
 (if x1=r0a.E then (Bn x0 r0a.S).bind fun r3a=>
 some (r3a) else some (false)).bind fun m4a=>
 some m4a
def BI (x0:Ag) (x1:Int) (x2:Int):Option (Ag):=
 (BE x0.Man.Abs).bind fun r0a=>
 if (wi64 (r0a - x1))≤0 then some x0 else (Ew).bind fun r3a=>
 (BQ r3a (wi64 (r0a - x1))).bind fun r1a=>
 (Cl x0.Man.Abs r1a).bind fun r2a=>
 (EO r2a.Q r2a.R r1a x0.Man.Neg x2 (wi64 (x0.Exp+(wi64 (r0a - x1))))).bind fun r4a=>
 some r4a
def DP (x0:AD):Option (Bool):=
 (if (x0.Man.Abs.length:Int)≤60 then (if (-3000)≤x0.Exp then some (decide (x0.Exp≤3000)) else some (false)).bind fun m0a=>
 (if m0a=true then some (true) else (Bg x0).bind fun r1a=>
 some (decide (¬(r1a=true)))).bind fun m2a=>
 some (m2a) else some (false)).bind fun m3a=>
 some m3a
def CO (x0:Ap):Option (Bool):=
 (DP x0.Lo).bind fun r0a=>
 (if r0a=true then (DP x0.Hi).bind fun r1a=>
 some (r1a) else some (false)).bind fun m2a=>
 some m2a
def CI (x0:Ak) (x1:Int):Option (Ak):=
 (BI x0.Lo x1 5).bind fun r0a=>
 (BI x0.Hi x1 4).bind fun r1a=>
 some (⟨r0a,r1a⟩:Ak)
def CS (x0:Ak) (x1:Ak) (x2:Int):Option (Ak):=
 (Bs x0.Lo x1.Lo).bind fun r0a=>
 (Bs x0.Hi x1.Hi).bind fun r1a=>
 (CI (⟨r0a,r1a⟩:Ak) x2).bind fun r2a=>
 some r2a
def Es (x0:Ak):Option (Ak):=
 (CC x0.Hi).bind fun r0a=>
 (CC x0.Lo).bind fun r1a=>
 some (⟨r0a,r1a⟩:Ak)
def Ce (x0:Ag) (x1:Ag):Option (Ag):=
 (Fl x0.Man x1.Man).bind fun r0a=>
 (Dw r0a (wi64 (x0.Exp+x1.Exp))).bind fun r1a=>
 some r1a
def EG (x0:Ak) (x1:Ak) (x2:Int):Option (Ak):=
 (Ce x0.Lo x1.Lo).bind fun r0a=>
 (Ce x0.Lo x1.Hi).bind fun r1a=>
 (Ce x0.Hi x1.Lo).bind fun r2a=>
 (Ce x0.Hi x1.Hi).bind fun r3a=>
 (Bc r1a r0a).bind fun r0b=>
 (if r0b<0 then some (r1a.Man.Neg,r1a.Man.Abs,r1a.Exp) else some (r0a.Man.Neg,r0a.Man.Abs,r0a.Exp)).bind fun m4a=>
 (Bc r1a r0a).bind fun r1b=>
 (if 0<r1b then some (r1a.Man.Neg,r1a.Man.Abs,r1a.Exp) else some (r0a.Man.Neg,r0a.Man.Abs,r0a.Exp)).bind fun m5a=>
 (Bc r2a (⟨(⟨m4a.1,m4a.2.1⟩:Ah),m4a.2.2⟩:Ag)).bind fun r2b=>
 (if r2b<0 then some (r2a.Man.Neg,r2a.Man.Abs,r2a.Exp) else some (m4a.1,m4a.2.1,m4a.2.2)).bind fun m6a=>
 (Bc r2a (⟨(⟨m5a.1,m5a.2.1⟩:Ah),m5a.2.2⟩:Ag)).bind fun r3b=>
 (if 0<r3b then some (r2a.Man.Neg,r2a.Man.Abs,r2a.Exp) else some (m5a.1,m5a.2.1,m5a.2.2)).bind fun m7a=>
 (Bc r3a (⟨(⟨m6a.1,m6a.2.1⟩:Ah),m6a.2.2⟩:Ag)).bind fun r4b=>
 (if r4b<0 then some (r3a.Man.Neg,r3a.Man.Abs,r3a.Exp) else some (m6a.1,m6a.2.1,m6a.2.2)).bind fun m8a=>
 (Bc r3a (⟨(⟨m7a.1,m7a.2.1⟩:Ah),m7a.2.2⟩:Ag)).bind fun r5b=>
 (if 0<r5b then some (r3a.Man.Neg,r3a.Man.Abs,r3a.Exp) else some (m7a.1,m7a.2.1,m7a.2.2)).bind fun m9a=>
 (CI (⟨(⟨(⟨m8a.1,m8a.2.1⟩:Ah),m8a.2.2⟩:Ag),(⟨(⟨m9a.1,m9a.2.1⟩:Ah),m9a.2.2⟩:Ag)⟩:Ak) x2).bind fun r6b=>
 some r6b
def Hu (x0:Ao) (x1:Ao):Option (Bool):=
 (Bk x0).bind fun r0a=>
 (if r0a=0 then some (true) else (Bk x1).bind fun r1a=>
 some (decide (r1a=0))).bind fun m2a=>
 if m2a=true then some true else (Dg x0).bind fun r3a=>
 (Dg x1).bind fun r4a=>
 some (decide ((wi64 ((max r3a r4a) - (min x0.e x1.e)))≤32770))
def Gm (x0:Ao) (x1:Ao) (x2:Int) (x3:Int):Option (Ao):=
 (Hu x0 x1).bind fun r3a=>
 if r3a=true then (BL x0 x1).bind fun r4a=>
 (AK r4a x2 x3 false).bind fun r5a=>
 some r5a else (Dg x0).bind fun r6a=>
 (Dg x1).bind fun r7a=>
 (if r6a<r7a then some (x1.m.Neg,x1.m.Abs,x1.e,x0.m.Neg,x0.m.Abs,x0.e) else some (x0.m.Neg,x0.m.Abs,x0.e,x1.m.Neg,x1.m.Abs,x1.e)).bind fun m0a=>
 (Bt m0a.2.1).bind fun r1a=>
 (Br m0a.2.1 (max 0 (wi64 ((wi64 (x2+4)) - r1a)))).bind fun r2a=>
 (Dg (⟨(⟨m0a.2.2.2.1,m0a.2.2.2.2.1⟩:Ah),m0a.2.2.2.2.2⟩:Ao)).bind fun r8a=>
 if (wi64 ((wi64 (m0a.2.2.1 - (max 0 (wi64 ((wi64 (x2+4)) - r1a))))) - 1))≤r8a then (BL (⟨(⟨m0a.1,r2a⟩:Ah),(wi64 (m0a.2.2.1 - (max 0 (wi64 ((wi64 (x2+4)) - r1a)))))⟩:Ao) (⟨(⟨m0a.2.2.2.1,m0a.2.2.2.2.1⟩:Ah),m0a.2.2.2.2.2⟩:Ao)).bind fun r9a=>
 (AK r9a x2 x3 false).bind fun r0b=>
 some r0b else if m0a.1=m0a.2.2.2.1 then (AK (⟨(⟨m0a.1,r2a⟩:Ah),(wi64 (m0a.2.2.1 - (max 0 (wi64 ((wi64 (x2+4)) - r1a)))))⟩:Ao) x2 x3 true).bind fun r1b=>
 some r1b else (Cc r2a 1).bind fun r2b=>
 (AK (⟨(⟨m0a.1,r2b⟩:Ah),(wi64 (m0a.2.2.1 - (max 0 (wi64 ((wi64 (x2+4)) - r1a)))))⟩:Ao) x2 x3 true).bind fun r3b=>
 some r3b
def FB (x0:Aq) (x1:Aq) (x2:Int):M (Ak):=
 (Gm x0.lo x1.lo x2 5).bind fun r0a=>
 (Gm x0.hi x1.hi x2 4).bind fun r1a=>
 mb (DC (⟨r0a,r1a⟩:Aq)) fun r2a=>
 some (.ok r2a)
def Ds (x0:Ap) (x1:Ap) (x2:Int):M (Ak × Int):=
 mb (BJ x0 x1) fun r7a=>
 mb (EW x2) fun r8a=>
 (toN x0.Lo.Man.Abs).bind fun m0a=>
 (toN x0.Hi.Man.Abs).bind fun m1a=>
 (Dp (⟨(⟨(⟨x0.Lo.Man.Neg,m0a⟩:Ah),x0.Lo.Exp⟩:Ag),(⟨(⟨x0.Hi.Man.Neg,m1a⟩:Ah),x0.Hi.Exp⟩:Ag)⟩:Ak)).bind fun r2a=>
 (toN x1.Lo.Man.Abs).bind fun m3a=>
 (toN x1.Hi.Man.Abs).bind fun m4a=>
 (Dp (⟨(⟨(⟨x1.Lo.Man.Neg,m3a⟩:Ah),x1.Lo.Exp⟩:Ag),(⟨(⟨x1.Hi.Man.Neg,m4a⟩:Ah),x1.Hi.Exp⟩:Ag)⟩:Ak)).bind fun r5a=>
 mb (FB r2a r5a x2) fun r6a=>
 some (.ok (r6a,0))
def CG (x0:Ap) (x1:Ap) (x2:Int):Option (Ak × Int):=(Ds x0 x1 x2).bind fun q=>match q with | .ok r=>some r | .error n=>some ((⟨(⟨(⟨false,0⟩:Ah),0⟩:Ag),(⟨(⟨false,0⟩:Ah),0⟩:Ag)⟩:Ak),n)
def GO (x0:Ap) (x1:Ap) (x2:Int):Option (Ak × Int):=
 (CG x0 x1 x2).bind fun r0a=>
 some (r0a.1,r0a.2)
def EZ (x0:Aq) (x1:Aq) (x2:Int):M (Ak):=
 (DK x1.hi).bind fun r0a=>
 (Gm x0.lo r0a x2 5).bind fun r1a=>
 (DK x1.lo).bind fun r2a=>
 (Gm x0.hi r2a x2 4).bind fun r3a=>
 mb (DC (⟨r1a,r3a⟩:Aq)) fun r4a=>
 some (.ok r4a)
def CX (x0:Ap) (x1:Ap) (x2:Int):M (Ak × Int):=
 mb (BJ x0 x1) fun r7a=>
 mb (EW x2) fun r8a=>
 (toN x0.Lo.Man.Abs).bind fun m0a=>
 (toN x0.Hi.Man.Abs).bind fun m1a=>
 (Dp (⟨(⟨(⟨x0.Lo.Man.Neg,m0a⟩:Ah),x0.Lo.Exp⟩:Ag),(⟨(⟨x0.Hi.Man.Neg,m1a⟩:Ah),x0.Hi.Exp⟩:Ag)⟩:Ak)).bind fun r2a=>
 (toN x1.Lo.Man.Abs).bind fun m3a=>
 (toN x1.Hi.Man.Abs).bind fun m4a=>
 (Dp (⟨(⟨(⟨x1.Lo.Man.Neg,m3a⟩:Ah),x1.Lo.Exp⟩:Ag),(⟨(⟨x1.Hi.Man.Neg,m4a⟩:Ah),x1.Hi.Exp⟩:Ag)⟩:Ak)).bind fun r5a=>
 mb (EZ r2a r5a x2) fun r6a=>
 some (.ok (r6a,0))
def Cw (x0:Ap) (x1:Ap) (x2:Int):Option (Ak × Int):=(CX x0 x1 x2).bind fun q=>match q with | .ok r=>some r | .error n=>some ((⟨(⟨(⟨false,0⟩:Ah),0⟩:Ag),(⟨(⟨false,0⟩:Ah),0⟩:Ag)⟩:Ak),n)
def Gw (x0:Ap) (x1:Ap) (x2:Int):Option (Ak × Int):=
 (Cw x0 x1 x2).bind fun r0a=>
 some (r0a.1,r0a.2)
def Ez (x0:Ap) (x1:Ap) (x2:Int):Option (Bool):=
 (CO x0).bind fun r2b=>
 (if ¬(r2b=true) then some (true) else (CO x1).bind fun r3b=>
 some (decide (¬(r3b=true)))).bind fun m4b=>
 if m4b=true then (Ep).bind fun r5b=>
 some r5b else (EQ x2).bind fun r6b=>
 (if r6b=true then (Dx x0).bind fun r7b=>
 some (r7b) else some (false)).bind fun m8b=>
 (if m8b=true then (Dx x1).bind fun r9b=>
 some (r9b) else some (false)).bind fun m0c=>
 (Fa m0c).bind fun r4a=>
 (if r4a=0 then (toN x0.Lo.Man.Abs).bind fun m5a=>
 (toN x0.Hi.Man.Abs).bind fun m6a=>
 (toN x1.Lo.Man.Abs).bind fun m7a=>
 (toN x1.Hi.Man.Abs).bind fun m8a=>
 (CS (⟨(⟨(⟨x0.Lo.Man.Neg,m5a⟩:Ah),x0.Lo.Exp⟩:Ag),(⟨(⟨x0.Hi.Man.Neg,m6a⟩:Ah),x0.Hi.Exp⟩:Ag)⟩:Ak) (⟨(⟨(⟨x1.Lo.Man.Neg,m7a⟩:Ah),x1.Lo.Exp⟩:Ag),(⟨(⟨x1.Hi.Man.Neg,m8a⟩:Ah),x1.Hi.Exp⟩:Ag)⟩:Ak) x2).bind fun r1a=>
 (Es (⟨(⟨(⟨x1.Lo.Man.Neg,m7a⟩:Ah),x1.Lo.Exp⟩:Ag),(⟨(⟨x1.Hi.Man.Neg,m8a⟩:Ah),x1.Hi.Exp⟩:Ag)⟩:Ak)).bind fun r1c=>
 (CS (⟨(⟨(⟨x0.Lo.Man.Neg,m5a⟩:Ah),x0.Lo.Exp⟩:Ag),(⟨(⟨x0.Hi.Man.Neg,m6a⟩:Ah),x0.Hi.Exp⟩:Ag)⟩:Ak) r1c x2).bind fun r2a=>
 (EG (⟨(⟨(⟨x0.Lo.Man.Neg,m5a⟩:Ah),x0.Lo.Exp⟩:Ag),(⟨(⟨x0.Hi.Man.Neg,m6a⟩:Ah),x0.Hi.Exp⟩:Ag)⟩:Ak) (⟨(⟨(⟨x1.Lo.Man.Neg,m7a⟩:Ah),x1.Lo.Exp⟩:Ag),(⟨(⟨x1.Hi.Man.Neg,m8a⟩:Ah),x1.Hi.Exp⟩:Ag)⟩:Ak) x2).bind fun r3a=>
 some (r1a.Lo.Man.Neg,r1a.Lo.Man.Abs,r1a.Lo.Exp,r1a.Hi.Man.Neg,r1a.Hi.Man.Abs,r1a.Hi.Exp,r2a.Lo.Man.Neg,r2a.Lo.Man.Abs,r2a.Lo.Exp,r2a.Hi.Man.Neg,r2a.Hi.Man.Abs,r2a.Hi.Exp,r3a.Lo.Man.Neg,r3a.Lo.Man.Abs,r3a.Lo.Exp,r3a.Hi.Man.Neg,r3a.Hi.Man.Abs,r3a.Hi.Exp) else some (false,0,0,false,0,0,false,0,0,false,0,0,false,0,0,false,0,0)).bind fun m0a=>
 (GO x0 x1 x2).bind fun r9a=>
 (Gw x0 x1 x2).bind fun r0b=>
 (FT x0 x1 x2).bind fun r1b=>
 (Ep).bind fun r2c=>
 (if r2c=true then (Bo r9a.1 r9a.2 r4a (⟨(⟨(⟨m0a.1,m0a.2.1⟩:Ah),m0a.2.2.1⟩:Ag),(⟨(⟨m0a.2.2.2.1,m0a.2.2.2.2.1⟩:Ah),m0a.2.2.2.2.2.1⟩:Ag)⟩:Ak)).bind fun r3c=>
 some (r3c) else some (false)).bind fun m4c=>
 (if m4c=true then (Bo r0b.1 r0b.2 r4a (⟨(⟨(⟨m0a.2.2.2.2.2.2.1,m0a.2.2.2.2.2.2.2.1⟩:Ah),m0a.2.2.2.2.2.2.2.2.1⟩:Ag),(⟨(⟨m0a.2.2.2.2.2.2.2.2.2.1,m0a.2.2.2.2.2.2.2.2.2.2.1⟩:Ah),m0a.2.2.2.2.2.2.2.2.2.2.2.1⟩:Ag)⟩:Ak)).bind fun r5c=>
 some (r5c) else some (false)).bind fun m6c=>
 (if m6c=true then (Bo r1b.1 r1b.2 r4a (⟨(⟨(⟨m0a.2.2.2.2.2.2.2.2.2.2.2.2.1,m0a.2.2.2.2.2.2.2.2.2.2.2.2.2.1⟩:Ah),m0a.2.2.2.2.2.2.2.2.2.2.2.2.2.2.1⟩:Ag),(⟨(⟨m0a.2.2.2.2.2.2.2.2.2.2.2.2.2.2.2.1,m0a.2.2.2.2.2.2.2.2.2.2.2.2.2.2.2.2.1⟩:Ah),m0a.2.2.2.2.2.2.2.2.2.2.2.2.2.2.2.2.2⟩:Ag)⟩:Ak)).bind fun r7c=>
 some (r7c) else some (false)).bind fun m8c=>
 some m8c
end Go.Proofs

