import Derived.Test.YtabiobmfelafoaaGreatDoorProg
import Derived.Test.YtabiobmfelafoaaGreatDoorCor
import Derived.Test.YtabiobmfelafoaaGreatDoorRW
import Derived.Test.YtabiobmfelafoaaGreatDoorJD
import Derived.Test.YtabiobmfelafoaaGreatDoorLC
namespace Go.Proofs
set_option linter.unusedVariables false
set_option linter.unusedSimpArgs false
set_option maxHeartbeats 4000000
open Go.RowKit Go.Sb Go.Proofs.Sbn
open Go.Proofs.Tryz
structure AK where
 Neg:Bool
 Abs:List Int
structure Au where
 Man:AK
 Exp:Int
structure Am where
 Lo:Au
 Hi:Au
structure Af where
 Neg:Bool
 Abs:Nat
structure Ae where
 Man:Af
 Exp:Int
structure Al where
 m:Af
 e:Int
structure Aj where
 Lo:Ae
 Hi:Ae
structure An where
 lo:Al
 hi:Al
structure BG where
 Num:Af
 Den:Nat
structure Hw where
 Q:Nat
 R:Nat
structure Cn where
 S:Aj
 E:Int
structure GE where
 D:Ae
 E:Int
structure Et where
 Num:AK
 Den:List Int
theorem Bk:agg prog 29 6=true:=by kernel_rfl
theorem Ev:fieldAt prog 29 0=some 0:=by kernel_rfl
theorem AH:agg prog 27 3=true:=by kernel_rfl
theorem Ez:fieldAt prog 29 1=some 3:=by kernel_rfl
theorem Ga:Hc prog 27 [.bool false,.slice none 0 0,.int .i64 0]:=EK (by kernel_rfl)
theorem Nb:prog.underlying 46=some (.slice 27):=by kernel_rfl
theorem DC:DZ prog 27 3=true:=by kernel_rfl
theorem EY:fieldAt prog 27 0=some 0:=by kernel_rfl
theorem BA:fieldAt prog 25 1=some 1:=by kernel_rfl
theorem BM:KV prog 23=true:=by kernel_rfl
theorem AJ:prog.underlying 23=some (.slice 179):=by kernel_rfl
theorem GK:agg prog 25 2=true:=by kernel_rfl
theorem Qj:Ent prog 143:=ent func143 (by kernel_rfl) rfl
theorem Ey:fieldAt prog 25 0=some 0:=by kernel_rfl
theorem Gy:KV prog 4=true:=by kernel_rfl
theorem RK:Ent prog 61:=ent func61 (by kernel_rfl) rfl
theorem FS:fieldAt prog 27 1=some 2:=by kernel_rfl
theorem Ge:KV prog 3=true:=by kernel_rfl
theorem ON:Ent prog 128:=ent func128 (by kernel_rfl) rfl
theorem NL:Ent prog 45:=ent func45 (by kernel_rfl) rfl
theorem Nq:Hc prog 25 [.bool false,.slice none 0 0]:=EK (by kernel_rfl)
theorem it_3:prog.underlying 3=some (.int .i64):=by kernel_rfl
theorem AD:prog.underlying 148=some (.int .u64):=by kernel_rfl
theorem Ob:Ent prog 179:=ent func179 (by kernel_rfl) rfl
theorem LK:DZ prog 25 2=true:=by kernel_rfl
theorem JY:Ent prog 178:=ent func178 (by kernel_rfl) rfl
theorem RD:Ent prog 96:=ent func96 (by kernel_rfl) rfl
theorem LH:Hc prog 33 [.int .i64 0]:=EK (by kernel_rfl)
theorem Ml:prog.underlying 20=some (.interface #[]):=by kernel_rfl
theorem Nc:PW prog 201=true:=by kernel_rfl
theorem NT:Hc prog 201 [.int .i64 0]:=EK (by kernel_rfl)
theorem Oi:DZ prog 201 1=true:=by kernel_rfl
theorem mo:prog.follows .mixedOrders=true:=by kernel_rfl
theorem LU:fieldAt prog 201 0=some 0:=by kernel_rfl
theorem DQ:KV prog 33=true:=by kernel_rfl
theorem Jr:DZ prog 33 1=true:=by kernel_rfl
theorem Pj:Ent prog 208:=ent func208 (by kernel_rfl) rfl
theorem Pc:Ent prog 151:=ent func151 (by kernel_rfl) rfl
theorem Er:Ent prog 102:=ent func102 (by kernel_rfl) rfl
theorem Ir:Ent prog 135:=ent func135 (by kernel_rfl) rfl
theorem It:Hc prog 117 [.bool false,.slice none 0 0]:=EK (by kernel_rfl)
theorem Hy:DZ prog 117 2=true:=by kernel_rfl
theorem Fi:agg prog 117 2=true:=by kernel_rfl
theorem OO:Ent prog 137:=ent func137 (by kernel_rfl) rfl
theorem AQ:Hc prog 119 [.bool false,.slice none 0 0,.int .i64 0]:=EK (by kernel_rfl)
theorem BR:fieldAt prog 117 1=some 1:=by kernel_rfl
theorem DU:KV prog 115=true:=by kernel_rfl
theorem Ar:prog.underlying 115=some (.slice 179):=by kernel_rfl
theorem Ca:DZ prog 119 3=true:=by kernel_rfl
theorem en_213:Ent prog 213:=ent func213 (by kernel_rfl) rfl
theorem Gd:fieldAt prog 117 0=some 0:=by kernel_rfl
theorem Na:Ent prog 204:=ent func204 (by kernel_rfl) rfl
theorem LP:Ent prog 152:=ent func152 (by kernel_rfl) rfl
theorem CO:fieldAt prog 119 0=some 0:=by kernel_rfl
theorem Ea:fieldAt prog 119 1=some 2:=by kernel_rfl
theorem OM:Ent prog 201:=ent func201 (by kernel_rfl) rfl
theorem sz_115:DZ prog 115 1=true:=by kernel_rfl
theorem en_202:Ent prog 202:=ent func202 (by kernel_rfl) rfl
theorem Ki:Ent prog 136:=ent func136 (by kernel_rfl) rfl
theorem en_60:Ent prog 60:=ent func60 (by kernel_rfl) rfl
theorem en_153:Ent prog 153:=ent func153 (by kernel_rfl) rfl
theorem Pd:Ent prog 154:=ent func154 (by kernel_rfl) rfl
theorem Qm:Ent prog 62:=ent func62 (by kernel_rfl) rfl
theorem Lr:Ent prog 38:=ent func38 (by kernel_rfl) rfl
theorem Ao:DZ prog 179 1=true:=by kernel_rfl
theorem AP:KV prog 179=true:=by kernel_rfl
theorem Oz:Ent prog 64:=ent func64 (by kernel_rfl) rfl
theorem NZ:Ent prog 120:=ent func120 (by kernel_rfl) rfl
theorem Lg:Ent prog 138:=ent func138 (by kernel_rfl) rfl
theorem PX:Ent prog 139:=ent func139 (by kernel_rfl) rfl
theorem FY:Ent prog 121:=ent func121 (by kernel_rfl) rfl
theorem MA:Ent prog 184:=ent func184 (by kernel_rfl) rfl
theorem KJ:Ent prog 185:=ent func185 (by kernel_rfl) rfl
theorem Pp:Ent prog 203:=ent func203 (by kernel_rfl) rfl
theorem NM:Ent prog 191:=ent func191 (by kernel_rfl) rfl
theorem GY:Hc prog 179 [.int .u32 0]:=EK (by kernel_rfl)
theorem Nr:Ent prog 205:=ent func205 (by kernel_rfl) rfl
theorem en_206:Ent prog 206:=ent func206 (by kernel_rfl) rfl
theorem OV:Ent prog 207:=ent func207 (by kernel_rfl) rfl
theorem MT:Ent prog 140:=ent func140 (by kernel_rfl) rfl
theorem RG:Ent prog 55:=ent func55 (by kernel_rfl) rfl
theorem Fo:Hc prog 29 [.bool false,.slice none 0 0,.int .i64 0,.bool false,.slice none 0 0,.int .i64 0]:=EK (by kernel_rfl)
theorem EM:DZ prog 29 6=true:=by kernel_rfl
theorem MI:Ent prog 97:=ent func97 (by kernel_rfl) rfl
theorem Kq:prog.underlying 230=some (.slice 29):=by kernel_rfl
theorem en_182:Ent prog 182:=ent func182 (by kernel_rfl) rfl
theorem IY:Ent prog 103:=ent func103 (by kernel_rfl) rfl
theorem QZ:Ent prog 187:=ent func187 (by kernel_rfl) rfl
theorem Oq:Ent prog 122:=ent func122 (by kernel_rfl) rfl
theorem en_192:Ent prog 192:=ent func192 (by kernel_rfl) rfl
theorem QB:Ent prog 115:=ent func115 (by kernel_rfl) rfl
theorem OE:prog.underlying 4=some .bool:=by kernel_rfl
theorem en_196:Ent prog 196:=ent func196 (by kernel_rfl) rfl
theorem en_195:Ent prog 195:=ent func195 (by kernel_rfl) rfl
theorem en_194:Ent prog 194:=ent func194 (by kernel_rfl) rfl
theorem Ra:Ent prog 124:=ent func124 (by kernel_rfl) rfl
theorem HZ:Ent prog 106:=ent func106 (by kernel_rfl) rfl
theorem PZ:Ent prog 65:=ent func65 (by kernel_rfl) rfl
theorem Kk:Ent prog 162:=ent func162 (by kernel_rfl) rfl
theorem Jy:Ent prog 161:=ent func161 (by kernel_rfl) rfl
theorem Re:Hc prog 121 [.bool false,.slice none 0 0,.int .i64 0,.bool false,.slice none 0 0,.int .i64 0]:=EK (by kernel_rfl)
theorem QV:DZ prog 121 6=true:=by kernel_rfl
theorem Kl:agg prog 121 6=true:=by kernel_rfl
theorem OX:Ent prog 163:=ent func163 (by kernel_rfl) rfl
theorem QG:Hc prog 124 [.pointer none]:=EK (by kernel_rfl)
theorem Rc:Ent prog 104:=ent func104 (by kernel_rfl) rfl
theorem QE:Ent prog 183:=ent func183 (by kernel_rfl) rfl
theorem QJ:Ent prog 241:=ent func241 (by kernel_rfl) rfl
theorem en_193:Ent prog 193:=ent func193 (by kernel_rfl) rfl
theorem Oe:Ent prog 117:=ent func117 (by kernel_rfl) rfl
theorem Gx:KV prog 124=true:=by kernel_rfl
theorem NW:prog.underlying 124=some (.pointer 121):=by kernel_rfl
theorem Qd:DZ prog 124 1=true:=by kernel_rfl
theorem Qc:Ent prog 118:=ent func118 (by kernel_rfl) rfl
theorem IR:Ent prog 107:=ent func107 (by kernel_rfl) rfl
theorem en_116:Ent prog 116:=ent func116 (by kernel_rfl) rfl
theorem MV:Ent prog 100:=ent func100 (by kernel_rfl) rfl
theorem en_32:Ent prog 32:=ent func32 (by kernel_rfl) rfl
theorem OQ:Ent prog 144:=ent func144 (by kernel_rfl) rfl
theorem en_86:Ent prog 86:=ent func86 (by kernel_rfl) rfl
theorem MD:Ent prog 37:=ent func37 (by kernel_rfl) rfl
theorem Nz:Ent prog 76:=ent func76 (by kernel_rfl) rfl
theorem QM:Ent prog 186:=ent func186 (by kernel_rfl) rfl
theorem DV:Ent prog 105:=ent func105 (by kernel_rfl) rfl
theorem en_101:Ent prog 101:=ent func101 (by kernel_rfl) rfl
theorem RI:Ent prog 21:=ent func21 (by kernel_rfl) rfl
theorem en_190:Ent prog 190:=ent func190 (by kernel_rfl) rfl
theorem Qw:Ent prog 111:=ent func111 (by kernel_rfl) rfl
theorem en_110:Ent prog 110:=ent func110 (by kernel_rfl) rfl
theorem en_25:Ent prog 25:=ent func25 (by kernel_rfl) rfl
theorem Ql:Ent prog 15:=ent func15 (by kernel_rfl) rfl
theorem PB:Ent prog 16:=ent func16 (by kernel_rfl) rfl
theorem en_131:Ent prog 131:=ent func131 (by kernel_rfl) rfl
theorem RP:Ent prog 47:=ent func47 (by kernel_rfl) rfl
theorem JR:Ent prog 148:=ent func148 (by kernel_rfl) rfl
theorem Qz:Ent prog 130:=ent func130 (by kernel_rfl) rfl
theorem OS:Ent prog 189:=ent func189 (by kernel_rfl) rfl
theorem Mw:Ent prog 198:=ent func198 (by kernel_rfl) rfl
theorem QN:Ent prog 199:=ent func199 (by kernel_rfl) rfl
theorem en_129:Ent prog 129:=ent func129 (by kernel_rfl) rfl
theorem RT:Ent prog 46:=ent func46 (by kernel_rfl) rfl
theorem QQ:Ent prog 23:=ent func23 (by kernel_rfl) rfl
theorem NE:Ent prog 83:=ent func83 (by kernel_rfl) rfl
theorem RB:Ent prog 17:=ent func17 (by kernel_rfl) rfl
theorem Qt:Ent prog 18:=ent func18 (by kernel_rfl) rfl
theorem en_19:Ent prog 19:=ent func19 (by kernel_rfl) rfl
theorem Qf:Hc prog 65 [.bool false,.slice none 0 0,.slice none 0 0]:=EK (by kernel_rfl)
theorem Mx:Ent prog 149:=ent func149 (by kernel_rfl) rfl
theorem LL:Hc prog 171 [.slice none 0 0,.slice none 0 0]:=EK (by kernel_rfl)
theorem KC:DZ prog 171 2=true:=by kernel_rfl
theorem LS:fieldAt prog 171 1=some 1:=by kernel_rfl
theorem QK:Ent prog 145:=ent func145 (by kernel_rfl) rfl
theorem Ms:Ent prog 146:=ent func146 (by kernel_rfl) rfl
theorem OH:DZ prog 65 3=true:=by kernel_rfl
theorem OG:Pm prog 171 0=some 0:=by kernel_rfl
theorem HW:agg prog 65 3=true:=by kernel_rfl
theorem en_160:Ent prog 160:=ent func160 (by kernel_rfl) rfl
theorem HC:fieldAt prog 65 0=some 0:=by kernel_rfl
theorem HS:fieldAt prog 65 1=some 2:=by kernel_rfl
theorem en_200:Ent prog 200:=ent func200 (by kernel_rfl) rfl
theorem Qp:Ent prog 132:=ent func132 (by kernel_rfl) rfl
theorem en_181:Ent prog 181:=ent func181 (by kernel_rfl) rfl
theorem en_99:Ent prog 99:=ent func99 (by kernel_rfl) rfl
theorem LO:Ent prog 147:=ent func147 (by kernel_rfl) rfl
theorem KX:fieldAt prog 171 0=some 0:=by kernel_rfl
theorem en_212:Ent prog 212:=ent func212 (by kernel_rfl) rfl
theorem Pl:Ent prog 150:=ent func150 (by kernel_rfl) rfl
theorem RN:Ent prog 59:=ent func59 (by kernel_rfl) rfl
theorem Px:Hc prog 81 [.bool false,.slice none 0 0,.int .i64 0,.bool false,.slice none 0 0,.int .i64 0,.int .i64 0]:=EK (by kernel_rfl)
theorem MX:DZ prog 81 7=true:=by kernel_rfl
theorem PF:agg prog 81 7=true:=by kernel_rfl
theorem en_108:Ent prog 108:=ent func108 (by kernel_rfl) rfl
theorem PN:fieldAt prog 81 1=some 6:=by kernel_rfl
theorem Pv:fieldAt prog 81 0=some 0:=by kernel_rfl
theorem Rn:Ent prog 22:=ent func22 (by kernel_rfl) rfl
theorem MW:agg prog 171 2=true:=by kernel_rfl
theorem RR:Ent prog 58:=ent func58 (by kernel_rfl) rfl
theorem RH:Ent prog 44:=ent func44 (by kernel_rfl) rfl
theorem RJ:Ent prog 26:=ent func26 (by kernel_rfl) rfl
theorem en_69:Ent prog 69:=ent func69 (by kernel_rfl) rfl
theorem en_125:Ent prog 125:=ent func125 (by kernel_rfl) rfl
theorem fa_146_1:fieldAt prog 146 1=some 1:=by kernel_rfl
theorem fl_144:KV prog 144=true:=by kernel_rfl
theorem fa_146_0:fieldAt prog 146 0=some 0:=by kernel_rfl
theorem fl_143:KV prog 143=true:=by kernel_rfl
theorem en_123:Ent prog 123:=ent func123 (by kernel_rfl) rfl
theorem en_126:Ent prog 126:=ent func126 (by kernel_rfl) rfl
theorem en_40:Ent prog 40:=ent func40 (by kernel_rfl) rfl
theorem QD:Hc prog 154 [.bool false,.slice none 0 0,.int .i64 0,.int .i64 0]:=EK (by kernel_rfl)
theorem Pk:DZ prog 154 4=true:=by kernel_rfl
theorem Rb:agg prog 154 4=true:=by kernel_rfl
theorem en_134:Ent prog 134:=ent func134 (by kernel_rfl) rfl
theorem fa_154_1:fieldAt prog 154 1=some 3:=by kernel_rfl
theorem fa_154_0:fieldAt prog 154 0=some 0:=by kernel_rfl
theorem en_50:Ent prog 50:=ent func50 (by kernel_rfl) rfl
theorem Rw:DZ prog 3 1=true:=by kernel_rfl
theorem zt_23:Hc prog 23 [.slice none 0 0]:=EK (by kernel_rfl)
theorem NQ:prog.underlying 260=some (.slice 23):=by kernel_rfl
theorem QC:DZ prog 23 1=true:=by kernel_rfl
theorem QR:Ent prog 255:=ent func255 (by kernel_rfl) rfl
theorem en_274:Ent prog 274:=ent func274 (by kernel_rfl) rfl
theorem en_254:Ent prog 254:=ent func254 (by kernel_rfl) rfl
theorem ni_258:PW prog 258=true:=by kernel_rfl
theorem NR:Ent prog 224:=ent func224 (by kernel_rfl) rfl
theorem PY:Ent prog 223:=ent func223 (by kernel_rfl) rfl
theorem OP:Ent prog 226:=ent func226 (by kernel_rfl) rfl
theorem Bf:prog.underlying 228=some (.slice 179):=by kernel_rfl
theorem en_256:Ent prog 256:=ent func256 (by kernel_rfl) rfl
theorem Rh:Ent prog 225:=ent func225 (by kernel_rfl) rfl
theorem en_222:Ent prog 222:=ent func222 (by kernel_rfl) rfl
theorem Rr:Ent prog 249:=ent func249 (by kernel_rfl) rfl
theorem fa_252_0:fieldAt prog 252 0=some 0:=by kernel_rfl
theorem fl_249:KV prog 249=true:=by kernel_rfl
theorem QO:Ent prog 251:=ent func251 (by kernel_rfl) rfl
theorem en_242:Ent prog 242:=ent func242 (by kernel_rfl) rfl
theorem en_159:Ent prog 159:=ent func159 (by kernel_rfl) rfl
theorem en_67:Ent prog 67:=ent func67 (by kernel_rfl) rfl
theorem en_53:Ent prog 53:=ent func53 (by kernel_rfl) rfl
theorem en_244:Ent prog 244:=ent func244 (by kernel_rfl) rfl
theorem en_243:Ent prog 243:=ent func243 (by kernel_rfl) rfl
theorem en_209:Ent prog 209:=ent func209 (by kernel_rfl) rfl
theorem Ri:Ent prog 141:=ent func141 (by kernel_rfl) rfl
theorem Qo:Ent prog 142:=ent func142 (by kernel_rfl) rfl
theorem Qy:Ent prog 57:=ent func57 (by kernel_rfl) rfl
theorem zt_3:Hc prog 3 [.int .i64 0]:=EK (by kernel_rfl)
theorem Pi:Ent prog 119:=ent func119 (by kernel_rfl) rfl
theorem RE:Ent prog 84:=ent func84 (by kernel_rfl) rfl
theorem en_164:Ent prog 164:=ent func164 (by kernel_rfl) rfl
theorem en_74:Ent prog 74:=ent func74 (by kernel_rfl) rfl
theorem en_165:Ent prog 165:=ent func165 (by kernel_rfl) rfl
theorem en_75:Ent prog 75:=ent func75 (by kernel_rfl) rfl
theorem zt_4:Hc prog 4 [.bool false]:=EK (by kernel_rfl)
theorem Rv:DZ prog 4 1=true:=by kernel_rfl
theorem NP:Ent prog 166:=ent func166 (by kernel_rfl) rfl
theorem en_77:Ent prog 77:=ent func77 (by kernel_rfl) rfl
theorem en_68:Ent prog 68:=ent func68 (by kernel_rfl) rfl
theorem en_70:Ent prog 70:=ent func70 (by kernel_rfl) rfl
theorem en_71:Ent prog 71:=ent func71 (by kernel_rfl) rfl
theorem en_72:Ent prog 72:=ent func72 (by kernel_rfl) rfl
theorem en_73:Ent prog 73:=ent func73 (by kernel_rfl) rfl
theorem en_78:Ent prog 78:=ent func78 (by kernel_rfl) rfl
theorem en_79:Ent prog 79:=ent func79 (by kernel_rfl) rfl
theorem en_80:Ent prog 80:=ent func80 (by kernel_rfl) rfl
def Gc (_w:World) (r:Bool) (v:Value):Prop:=v = .bool r
def LQ (w:World) (r:Af) (v:Value):Prop:=∃(A1:Option Addr) (c1:Nat),v = .agg #[.bool r.Neg,.slice A1 (sz r.Abs) c1]∧RU w A1 c1 r.Abs
def Ky (w:World) (r:Ae × Int) (v:Value):Prop:=∃(A1:Option Addr) (c1:Nat),v = .tuple #[.agg #[.bool r.1.Man.Neg,.slice A1 (sz r.1.Man.Abs) c1,.int .i64 r.1.Exp],.int .i64 r.2]∧RU w A1 c1 r.1.Man.Abs
def Md (_w:World) (_r:Unit) (v:Value):Prop:=v = .tuple #[]
def Mm (w:World) (r:Af) (v:Value):Prop:=∃(A1:Option Addr) (c1:Nat),v = .agg #[.bool r.Neg,.slice A1 (sz r.Abs) c1]∧RU w A1 c1 r.Abs
def IB (w:World) (r:Al) (v:Value):Prop:=∃(A1:Option Addr) (c1:Nat),v = .agg #[.bool r.m.Neg,.slice A1 (sz r.m.Abs) c1,.int .i64 r.e]∧RU w A1 c1 r.m.Abs
def Lk (w:World) (r:Ae) (v:Value):Prop:=∃(A1:Option Addr) (c1:Nat),v = .agg #[.bool r.Man.Neg,.slice A1 (sz r.Man.Abs) c1,.int .i64 r.Exp]∧RU w A1 c1 r.Man.Abs
def JT (w:World) (r:Aj) (v:Value):Prop:=∃(A1:Option Addr) (c1:Nat) (A2:Option Addr) (c2:Nat),v = .agg #[.bool r.Lo.Man.Neg,.slice A1 (sz r.Lo.Man.Abs) c1,.int .i64 r.Lo.Exp,.bool r.Hi.Man.Neg,.slice A2 (sz r.Hi.Man.Abs) c2,.int .i64 r.Hi.Exp]∧RU w A1 c1 r.Lo.Man.Abs∧RU w A2 c2 r.Hi.Man.Abs
def Gh (w:World) (r:Aj × Int) (v:Value):Prop:=∃(A1:Option Addr) (c1:Nat) (A2:Option Addr) (c2:Nat),v = .tuple #[.agg #[.bool r.1.Lo.Man.Neg,.slice A1 (sz r.1.Lo.Man.Abs) c1,.int .i64 r.1.Lo.Exp,.bool r.1.Hi.Man.Neg,.slice A2 (sz r.1.Hi.Man.Abs) c2,.int .i64 r.1.Hi.Exp],.int .i64 r.2]∧RU w A1 c1 r.1.Lo.Man.Abs∧RU w A2 c2 r.1.Hi.Man.Abs
def Gl (_w:World) (r:Int) (v:Value):Prop:=v = .int .i64 r
def PH (w:World) (r:An) (v:Value):Prop:=∃(A1:Option Addr) (c1:Nat) (A2:Option Addr) (c2:Nat),v = .agg #[.bool r.lo.m.Neg,.slice A1 (sz r.lo.m.Abs) c1,.int .i64 r.lo.e,.bool r.hi.m.Neg,.slice A2 (sz r.hi.m.Abs) c2,.int .i64 r.hi.e]∧RU w A1 c1 r.lo.m.Abs∧RU w A2 c2 r.hi.m.Abs
def MJ (w:World) (r:Nat × Nat) (v:Value):Prop:=∃(A1:Option Addr) (c1:Nat) (A2:Option Addr) (c2:Nat),v = .tuple #[.slice A1 (sz r.1) c1,.slice A2 (sz r.2) c2]∧RU w A1 c1 r.1∧RU w A2 c2 r.2
def rep_33 (_w:World) (r:Int) (v:Value):Prop:=v = .int .i64 r
def OR (w:World) (r:BG) (v:Value):Prop:=∃(A1:Option Addr) (c1:Nat) (A2:Option Addr) (c2:Nat),v = .agg #[.bool r.Num.Neg,.slice A1 (sz r.Num.Abs) c1,.slice A2 (sz r.Den) c2]∧RU w A1 c1 r.Num.Abs∧RU w A2 c2 r.Den
def Kj (w:World) (r:Nat) (v:Value):Prop:=∃(A1:Option Addr) (c1:Nat),v = .slice A1 (sz r) c1∧RU w A1 c1 r
def QH (w:World) (r:Cn) (v:Value):Prop:=∃(A1:Option Addr) (c1:Nat) (A2:Option Addr) (c2:Nat),v = .agg #[.bool r.S.Lo.Man.Neg,.slice A1 (sz r.S.Lo.Man.Abs) c1,.int .i64 r.S.Lo.Exp,.bool r.S.Hi.Man.Neg,.slice A2 (sz r.S.Hi.Man.Abs) c2,.int .i64 r.S.Hi.Exp,.int .i64 r.E]∧RU w A1 c1 r.S.Lo.Man.Abs∧RU w A2 c2 r.S.Hi.Man.Abs
def rep_171 (w:World) (r:Hw) (v:Value):Prop:=∃(A1:Option Addr) (c1:Nat) (A2:Option Addr) (c2:Nat),v = .agg #[.slice A1 (sz r.Q) c1,.slice A2 (sz r.R) c2]∧RU w A1 c1 r.Q∧RU w A2 c2 r.R
def rep_154 (w:World) (r:GE) (v:Value):Prop:=∃(A1:Option Addr) (c1:Nat),v = .agg #[.bool r.D.Man.Neg,.slice A1 (sz r.D.Man.Abs) c1,.int .i64 r.D.Exp,.int .i64 r.E]∧RU w A1 c1 r.D.Man.Abs
def ND (w:World) (r:Nat × Int) (v:Value):Prop:=∃(A1:Option Addr) (c1:Nat),v = .tuple #[.slice A1 (sz r.1) c1,.int .i64 r.2]∧RU w A1 c1 r.1
def MS (w:World) (r:Nat) (v:Value):Prop:=∃(A1:Option Addr) (c1:Nat),v = .slice A1 (sz r) c1∧RU w A1 c1 r
def rep_119_119 (w:World) (r:Al × Al) (v:Value):Prop:=∃(A1:Option Addr) (c1:Nat) (A2:Option Addr) (c2:Nat),v = .tuple #[.agg #[.bool r.1.m.Neg,.slice A1 (sz r.1.m.Abs) c1,.int .i64 r.1.e],.agg #[.bool r.2.m.Neg,.slice A2 (sz r.2.m.Abs) c2,.int .i64 r.2.e]]∧RU w A1 c1 r.1.m.Abs∧RU w A2 c2 r.2.m.Abs
def rep_3_33 (_w:World) (r:Int × Int) (v:Value):Prop:=v = .tuple #[.int .i64 r.1,.int .i64 r.2]
def rep_4_33 (_w:World) (r:Bool × Int) (v:Value):Prop:=v = .tuple #[.bool r.1,.int .i64 r.2]
def Mg (_w:World) (r:Int) (v:Value):Prop:=v = .int .u64 r
def LA (w:World) (r:Nat) (v:Value):Prop:=∃(A1:Option Addr) (c1:Nat),v = .slice A1 (sz r) c1∧RU w A1 c1 r
def rep_228_228 (w:World) (r:Nat × Nat) (v:Value):Prop:=∃(A1:Option Addr) (c1:Nat) (A2:Option Addr) (c2:Nat),v = .tuple #[.slice A1 (sz r.1) c1,.slice A2 (sz r.2) c2]∧RU w A1 c1 r.1∧RU w A2 c2 r.2
abbrev Bu (x0:List Int):Option (Bool):=Lf.Bu x0
abbrev Ck (x0:List Int) (x1:Int):Option (Int):=Lf.Ck x0 x1
def CW (x0:Int):Option (Nat):=(gd (0≤x0∧x0<18446744073709551616)).bind fun _=>some (x0.toNat)
abbrev GA (x0:List Int):Option (Bool):=Lf.GA x0
def Dn (x0:Nat):Option (Int):=(gd (sz x0<1073741824)).bind fun _=>some (Lf.tz x0:Int)
def CU (x0:Nat) (x1:Int):Option (Nat):=(gd (sz x0<1073741824∧0≤x1∧x1<9223372036854775808)).bind fun _=>some (x0/2^x1.toNat)
def Dz (x0:Nat):Option (Nat):=(gd (sz x0<1073741824)).bind fun _=>some (x0)
def Ce (x0:Nat):Option (Int):=(gd (sz x0<1073741824)).bind fun _=>some (Lf.tz x0:Int)
def Cj (x0:Nat) (x1:Int):Option (Nat):=(gd (sz x0<1073741824∧0≤x1∧x1<9223372036854775808)).bind fun _=>some (x0/2^x1.toNat)
def BW (x0:Nat):Option (Int):=(gd (sz x0<1073741824)).bind fun _=>some (Lf.bl x0:Int)
def BP (x0:Nat) (x1:Int):Option (Nat):=(gd (sz x0<1073741824∧0≤x1∧x1<34359738368)).bind fun _=>some (x0*2^x1.toNat)
def CS (x0:Nat) (x1:Nat):Option (Nat):=(gd (sz x0<1073741824∧sz x1<1073741824∧x1≤x0)).bind fun _=>some (x0 - x1)
def CR (x0:Nat) (x1:Nat):Option (Int):=(gd (sz x0<1073741824∧sz x1<1073741824)).bind fun _=>some (Lf.cmpw x0 x1)
def Dk (x0:Nat) (x1:Nat):Option (Nat):=(gd (sz x0<1073741824∧sz x1<1073741824)).bind fun _=>some (x0+x1)
def DL (x0:Nat) (x1:Nat):Option (Nat):=(gd (sz x0<1073741824∧sz x1<1073741824)).bind fun _=>some (x0*x1)
abbrev Bm (x0:List Int) (x1:List Int):Option (Bool):=Lf.Bm x0 x1
def DG (x0:Nat) (x1:Nat):Option (Nat × Nat):=(gd (sz x0<1073741824∧sz x1<1073741824∧x1≠0)).bind fun _=>some (x0/x1,x0%x1)
def AU (x0:Nat) (x1:Int):Option (Nat):=(gd (sz x0<1073741824∧0≤x1∧x1<34359738368)).bind fun _=>some (x0*2^x1.toNat)
def BU (x0:Nat) (x1:Nat):Option (Nat):=(gd (sz x0<1073741824∧sz x1<1073741824)).bind fun _=>some (x0+x1)
def Bz (x0:Nat) (x1:Nat):Option (Int):=(gd (sz x0<1073741824∧sz x1<1073741824)).bind fun _=>some (Lf.sgnc x0 x1)
def Ci (x0:Nat) (x1:Nat):Option (Nat):=(gd (sz x0<1073741824∧sz x1<1073741824∧x1≤x0)).bind fun _=>some (x0 - x1)
def Bd (x0:Nat) (x1:Nat):Option (Hw):=(gd (sz x0<1073741824∧sz x1<1073741824∧x1≠0)).bind fun _=>some (⟨x0/x1,x0%x1⟩)
def CK (x0:Nat) (x1:Nat):Option (Nat):=(gd (sz x0<1073741824∧sz x1<1073741824)).bind fun _=>some (x0*x1)
def Bn (x0:Nat):Option (Int):=(gd (sz x0<1073741824)).bind fun _=>some (Lf.bl x0:Int)
def Ew (x0:Nat) (x1:Int):Option (Nat):=(gd (sz x0<1073741824∧0≤x1∧x1<34359738368)).bind fun _=>some (x0*2^x1.toNat)
def FF (x0:Nat):Option (Nat):=(gd (sz x0<1073741824)).bind fun _=>some (x0)
def Fh (x0:Nat) (x1:Int):Option (Nat):=(gd (sz x0<1073741824∧0≤x1∧x1<9223372036854775808)).bind fun _=>some (x0/2^x1.toNat)
def FX (x0:Nat) (x1:Nat):Option (Int):=(gd (sz x0<1073741824∧sz x1<1073741824)).bind fun _=>some (Lf.sgnc x0 x1)
def Cz (x0:Nat) (x1:Nat):Option (Nat × Nat):=(gd (sz x0<1073741824∧sz x1<1073741824∧x1≠0)).bind fun _=>some (x0/x1,x0%x1)
def Co (x0:AK):Option (Bool):=
 (Bu x0.Abs).bind fun r0a=>
 (if r0a=true then (if ¬(x0.Neg=true) then some (true) else some (decide (0<(x0.Abs.length:Int)))).bind fun m1a=>
 some (m1a) else some (false)).bind fun m2a=>
 some m2a
def Be (x0:Au):Option (Bool):=
 (Co x0.Man).bind fun r0a=>
 if ¬(r0a=true) then some false else if (x0.Man.Abs.length:Int)=0 then some (decide (x0.Exp=0)) else (Ck x0.Man.Abs 0).bind fun r1a=>
 (if r1a=1 then some (decide ((-1048576)≤x0.Exp)) else some (false)).bind fun m2a=>
 (if m2a=true then some (decide (x0.Exp≤1048576)) else some (false)).bind fun m3a=>
 some m3a
def AM (x0:Bool) (x1:Nat):Option (Af):=
 (if x0=true then some (decide (0<(sz x1:Int))) else some (false)).bind fun m0a=>
 some (⟨m0a,x1⟩:Af)
def GB (x0:Int):Option (Af):=
 if x0<0 then (CW (wu64 (wi64 (-x0)))).bind fun r0a=>
 (AM true r0a).bind fun r1a=>
 some r1a else (CW (wu64 x0)).bind fun r2a=>
 (AM false r2a).bind fun r3a=>
 some r3a
def FG (x0:AK):Option (Bool):=
 (GA x0.Abs).bind fun r0a=>
 (if r0a=true then (if ¬(x0.Neg=true) then some (true) else some (decide (0<(x0.Abs.length:Int)))).bind fun m1a=>
 some (m1a) else some (false)).bind fun m2a=>
 some m2a
def BX (x0:Bool) (x1:Int):M (Unit):=
 if ¬(x0=true) then some (.error x1) else some (.ok ())
def Ix (x0:Af):Option (Af):=
 some x0
def CX (x0:Af) (x1:Int):Option (Al):=
 if (sz x0.Abs:Int)=0 then some (⟨(⟨false,0⟩:Af),0⟩:Al) else (Dn x0.Abs).bind fun r0a=>
 (CU x0.Abs r0a).bind fun r1a=>
 some (⟨(⟨x0.Neg,r1a⟩:Af),(wi64 (x1+r0a))⟩:Al)
def IC (x0:Af):Option (Af):=
 (if x0.Neg=true then some (decide (0<(sz x0.Abs:Int))) else some (false)).bind fun m0a=>
 some (⟨m0a,x0.Abs⟩:Af)
def Ep (x0:Al):M (Ae):=
 (if (sz x0.m.Abs:Int)≤1024 then some (decide (x0.e≤1048576)) else some (false)).bind fun m0a=>
 (if m0a=true then some (decide ((-1048576)≤x0.e)) else some (false)).bind fun m1a=>
 mb (BX m1a 2) fun r4a=>
 (Dz x0.m.Abs).bind fun r2a=>
 (IC (⟨x0.m.Neg,r2a⟩:Af)).bind fun r3a=>
 some (.ok (⟨r3a,x0.e⟩:Ae))
def Ma (x0:AK) (x1:Int):M (Ae × Int):=
 (FG x0).bind fun r0a=>
 mb (BX r0a 1) fun r5a=>
 if (x0.Abs.length:Int)=0 then some (.ok ((⟨(⟨false,0⟩:Af),0⟩:Ae),0)) else (toN x0.Abs).bind fun m1a=>
 (Ix (⟨x0.Neg,m1a⟩:Af)).bind fun r2a=>
 (CX r2a (max (-1099511627776) (min x1 1099511627776))).bind fun r3a=>
 mb (Ep r3a) fun r4a=>
 some (.ok (r4a,0))
def Ll (x0:AK) (x1:Int):Option (Ae × Int):=(Ma x0 x1).bind fun q=>match q with | .ok r=>some r | .error n=>some ((⟨(⟨false,0⟩:Af),0⟩:Ae),n)
def EU (x0:Af) (x1:Int):Option (Ae):=
 if (sz x0.Abs:Int)=0 then some (⟨(⟨false,0⟩:Af),0⟩:Ae) else (Ce x0.Abs).bind fun r0a=>
 (Cj x0.Abs r0a).bind fun r1a=>
 some (⟨(⟨x0.Neg,r1a⟩:Af),(wi64 (x1+r0a))⟩:Ae)
def Bv (x0:Int) (x1:Int):Option (Ae):=
 (GB x0).bind fun r7=>
 (EU r7 x1).bind fun r0a=>
 some r0a
def EW (x0:Au):Option (Bool):=
 (FG x0.Man).bind fun r0a=>
 if ¬(r0a=true) then some false else if (x0.Man.Abs.length:Int)=0 then some (decide (x0.Exp=0)) else (nth x0.Man.Abs 0).bind fun u1a=>
 (if (u1a%2)=1 then some (decide (x0.Exp≤1048576)) else some (false)).bind fun m2a=>
 (if m2a=true then some (decide ((-1048576)≤x0.Exp)) else some (false)).bind fun m3a=>
 some m3a
def Ju (x0_0:Au):M (Unit):=
 (EW x0_0).bind fun r0a=>
 mb (BX r0a 1) fun r1a=>
 some (.ok ())
def EF (x0:Int):M (Unit):=
 (if 1≤x0 then some (decide (x0≤4096)) else some (false)).bind fun m8=>
 mb (BX m8 1) fun r0a=>
 some (.ok ())
def Jz (x0:Int):M (Unit):=
 (if 1≤x0 then some (decide (x0≤5)) else some (false)).bind fun m8=>
 mb (BX m8 1) fun r0a=>
 some (.ok ())
def Fy (x0:Ae):Option (Al):=
 (Ix x0.Man).bind fun r0a=>
 some (⟨r0a,x0.Exp⟩:Al)
def Eo (x0:Af) (x1:Int):Option (Af):=
 (BP x0.Abs x1).bind fun r0a=>
 some (⟨x0.Neg,r0a⟩:Af)
def Jl (x0:Bool) (x1:Int) (x2:Bool) (x3:Bool) (x4:Int):Option (Bool):=
 if x0=true then some false else if x4=1 then (if 0<x1 then some (true) else (if x1=0 then some (x2) else some (false)).bind fun m0a=>
 some (m0a)).bind fun m1a=>
 some m1a else if x4=2 then some (decide (0≤x1)) else if x4=4 then some (decide (¬(x3=true))) else if x4=5 then some x3 else some false
def Bt (x0:Al) (x1:Int) (x2:Int) (x3:Bool):Option (Al):=
 (BW x0.m.Abs).bind fun r1a=>
 (if (wi64 (r1a - x1))≤0 then some (decide (¬(x3=true))) else some (false)).bind fun m6a=>
 if m6a=true then (CX x0.m x0.e).bind fun r7a=>
 some r7a else (if (wi64 (r1a - x1))<2 then (Eo x0.m (wi64 (2 - (wi64 (r1a - x1))))).bind fun r3a=>
 some (2,r3a.Neg,r3a.Abs,(wi64 ((wi64 (x0.e - 2))+(wi64 (r1a - x1))))) else some ((wi64 (r1a - x1)),x0.m.Neg,x0.m.Abs,x0.e)).bind fun m0a=>
 (CU m0a.2.2.1 m0a.1).bind fun r2a=>
 (BP r2a m0a.1).bind fun r8a=>
 (CS m0a.2.2.1 r8a).bind fun r4a=>
 (if (sz r4a:Int)=0 then some (decide (¬(x3=true))) else some (false)).bind fun m9a=>
 (BP 1 (wi64 (m0a.1 - 1))).bind fun r0b=>
 (CR r4a r0b).bind fun r5a=>
 (if r5a=0 then some (x3) else some (false)).bind fun m1b=>
 (if m1b=true then some (1) else some (r5a)).bind fun m2b=>
 (if 0<(sz r2a:Int) then (nth (limbs r2a) 0).bind fun u3b=>
 some (decide ((u3b%2)=1)) else some (false)).bind fun m4b=>
 (Jl m9a m2b m4b m0a.2.1 x2).bind fun r5b=>
 (if r5b=true then (Dk r2a 1).bind fun r6b=>
 some (r6b) else some (r2a)).bind fun m7b=>
 (CX (⟨m0a.2.1,m7b⟩:Af) (wi64 (m0a.2.2.2+m0a.1))).bind fun r8b=>
 some r8b
def LG (x0:Au) (x1:Int) (x2:Int):M (Ae × Int):=
 mb (Ju x0) fun r4a=>
 mb (EF x1) fun r5a=>
 mb (Jz x2) fun r6a=>
 (toN x0.Man.Abs).bind fun m0a=>
 (Fy (⟨(⟨x0.Man.Neg,m0a⟩:Af),x0.Exp⟩:Ae)).bind fun r1a=>
 (Bt r1a x1 x2 false).bind fun r2a=>
 mb (Ep r2a) fun r3a=>
 some (.ok (r3a,0))
def JH (x0:Au) (x1:Int) (x2:Int):Option (Ae × Int):=(LG x0 x1 x2).bind fun q=>match q with | .ok r=>some r | .error n=>some ((⟨(⟨false,0⟩:Af),0⟩:Ae),n)
def Cq (x0:Int) (x1:Int):Option (Aj):=
 (Bv x0 0).bind fun r7=>
 (Bv x1 0).bind fun r0a=>
 some (⟨r7,r0a⟩:Aj)
def Ik (x0:Af):Option (Int):=
 if (sz x0.Abs:Int)=0 then some 0 else if x0.Neg=true then some (-1) else some 1
def Ba (x0:Al):Option (Int):=
 (Ik x0.m).bind fun r0a=>
 some r0a
def FP (x0:Int) (x1:Int):Option (Int):=
 if x0<x1 then some (-1) else if x1<x0 then some 1 else some 0
def FK (x0:Al):Option (Int):=
 (BW x0.m.Abs).bind fun r0a=>
 some (wi64 ((wi64 (r0a - 1))+x0.e))
def GR (x0:Af):Option (Af):=
 some (⟨(decide (¬(x0.Neg=true))),x0.Abs⟩:Af)
def Fs (x0:Al):Option (Al):=
 (GR x0.m).bind fun r0a=>
 some (⟨r0a,x0.e⟩:Al)
def FN (x0:Af) (x1:Af):Option (Af):=
 if x0.Neg=x1.Neg then (Dk x0.Abs x1.Abs).bind fun r0a=>
 some (⟨x0.Neg,r0a⟩:Af) else (CR x0.Abs x1.Abs).bind fun r1a=>
 if 0≤r1a then (CS x0.Abs x1.Abs).bind fun r2a=>
 some (⟨x0.Neg,r2a⟩:Af) else (CS x1.Abs x0.Abs).bind fun r3a=>
 some (⟨x1.Neg,r3a⟩:Af)
def Ei (x0:Af) (x1:Af) (x2:Int):Option (Al):=
 (FN x0 x1).bind fun r0a=>
 (CX r0a x2).bind fun r1a=>
 some r1a
def BC (x0:Al) (x1:Al):Option (Al):=
 (if (sz x0.m.Abs:Int)=0 then some (x1.e) else some (min x0.e x1.e)).bind fun m5a=>
 (if (sz x1.m.Abs:Int)=0 then some (x0.e) else some (m5a)).bind fun m0a=>
 (if 0<(sz x0.m.Abs:Int) then (Eo x0.m (wi64 (x0.e - m0a))).bind fun r1a=>
 some (r1a.Neg,r1a.Abs) else some (x0.m.Neg,x0.m.Abs)).bind fun m2a=>
 (if 0<(sz x1.m.Abs:Int) then (Eo x1.m (wi64 (x1.e - m0a))).bind fun r3a=>
 some (r3a.Neg,r3a.Abs) else some (x1.m.Neg,x1.m.Abs)).bind fun m4a=>
 (Ei (⟨m2a.1,m2a.2⟩:Af) (⟨m4a.1,m4a.2⟩:Af) m0a).bind fun r6a=>
 some r6a
def CA (x0:Al) (x1:Al):Option (Al):=
 (BC x0 x1).bind fun r0a=>
 some r0a
def AI (x0:Al) (x1:Al):Option (Int):=
 (Ba x0).bind fun r0a=>
 (Ba x1).bind fun r1a=>
 (if ¬r0a=r1a then some (true) else some (decide (r0a=0))).bind fun m4a=>
 if m4a=true then (FP r0a r1a).bind fun r5a=>
 some r5a else (FK x0).bind fun r2a=>
 (FK x1).bind fun r3a=>
 if ¬r2a=r3a then (Ba x0).bind fun r6a=>
 (FP r2a r3a).bind fun r7a=>
 some (wi64 (r6a*r7a)) else (Fs x1).bind fun r8a=>
 (CA x0 r8a).bind fun r9a=>
 (Ba r9a).bind fun r0b=>
 some r0b
def Bj (x0:Am):Option (Bool):=
 (EW x0.Lo).bind fun r0a=>
 if r0a=true then (EW x0.Hi).bind fun r1a=>
 if r1a=true then (toN x0.Lo.Man.Abs).bind fun m2a=>
 (Fy (⟨(⟨x0.Lo.Man.Neg,m2a⟩:Af),x0.Lo.Exp⟩:Ae)).bind fun r3a=>
 (toN x0.Hi.Man.Abs).bind fun m4a=>
 (Fy (⟨(⟨x0.Hi.Man.Neg,m4a⟩:Af),x0.Hi.Exp⟩:Ae)).bind fun r5a=>
 (AI r3a r5a).bind fun r6a=>
 some (decide (r6a≤0)) else some false else some false
def CV (x0_0:Am) (x0_1:Am):M (Unit):=
 (Bj x0_0).bind fun r0a=>
 mb (BX r0a 1) fun r2a=>
 (Bj x0_1).bind fun r1a=>
 mb (BX r1a 1) fun r3a=>
 some (.ok ())
def CM (x0:Aj):Option (An):=
 (Fy x0.Lo).bind fun r0a=>
 (Fy x0.Hi).bind fun r1a=>
 some (⟨r0a,r1a⟩:An)
def IA (x0:Af) (x1:Af):Option (Af):=
 (DL x0.Abs x1.Abs).bind fun r0a=>
 some (⟨(decide (¬x0.Neg=x1.Neg)),r0a⟩:Af)
def DW (x0:Al) (x1:Al):Option (Al):=
 (IA x0.m x1.m).bind fun r0a=>
 (CX r0a (wi64 (x0.e+x1.e))).bind fun r1a=>
 some r1a
def Ff (x0:An) (x1:Int):Option (An):=
 (Bt x0.lo x1 5 false).bind fun r0a=>
 (Bt x0.hi x1 4 false).bind fun r1a=>
 some (⟨r0a,r1a⟩:An)
def Cv (x0:An):M (Aj):=
 mb (Ep x0.lo) fun r0a=>
 mb (Ep x0.hi) fun r1a=>
 some (.ok (⟨r0a,r1a⟩:Aj))
def KR (x0:An) (x1:An) (x2:Int) (x y:Al):Option An:=
 (DW x y).bind fun r0a=>
 (AI r0a r0a).bind fun r1a=>
 (if r1a<0 then some () else some ()).bind fun m3a=>
 (AI r0a r0a).bind fun r2a=>
 (if 0<r2a then some () else some ()).bind fun m4a=>
 some (⟨r0a,r0a⟩:An)
def Hu (x0:An) (x1:An) (x2:Int) (sr:An) (x y:Al):Option An:=
 (DW x y).bind fun r0a=>
 (AI r0a sr.lo).bind fun r3a=>
 (if r3a<0 then some (r0a.m.Neg,r0a.m.Abs,r0a.e) else some (sr.lo.m.Neg,sr.lo.m.Abs,sr.lo.e)).bind fun m1a=>
 (AI r0a sr.hi).bind fun r4a=>
 (if 0<r4a then some (r0a.m.Neg,r0a.m.Abs,r0a.e) else some (sr.hi.m.Neg,sr.hi.m.Abs,sr.hi.e)).bind fun m2a=>
 some (⟨(⟨(⟨m1a.1,m1a.2.1⟩:Af),m1a.2.2⟩:Al),(⟨(⟨m2a.1,m2a.2.1⟩:Af),m2a.2.2⟩:Al)⟩:An)
def IN (x0:An) (x1:An) (x2:Int):M (Aj):=
 (KR x0 x1 x2 x0.lo x1.lo).bind fun s0a=>
 (Hu x0 x1 x2 s0a x0.lo x1.hi).bind fun s1a=>
 (Hu x0 x1 x2 s1a x0.hi x1.lo).bind fun s2a=>
 (Hu x0 x1 x2 s2a x0.hi x1.hi).bind fun s3a=>
 (Ff s3a x2).bind fun r4a=>
 mb (Cv r4a) fun r5a=>
 some (.ok r5a)
def pb_dyad_made_Span__dyad_Times_1 (x0:Am) (x1:Am) (x2:Int):M (Aj × Int):=
 mb (CV x0 x1) fun r7a=>
 mb (EF x2) fun r8a=>
 (toN x0.Lo.Man.Abs).bind fun m0a=>
 (toN x0.Hi.Man.Abs).bind fun m1a=>
 (CM (⟨(⟨(⟨x0.Lo.Man.Neg,m0a⟩:Af),x0.Lo.Exp⟩:Ae),(⟨(⟨x0.Hi.Man.Neg,m1a⟩:Af),x0.Hi.Exp⟩:Ae)⟩:Aj)).bind fun r2a=>
 (toN x1.Lo.Man.Abs).bind fun m3a=>
 (toN x1.Hi.Man.Abs).bind fun m4a=>
 (CM (⟨(⟨(⟨x1.Lo.Man.Neg,m3a⟩:Af),x1.Lo.Exp⟩:Ae),(⟨(⟨x1.Hi.Man.Neg,m4a⟩:Af),x1.Hi.Exp⟩:Ae)⟩:Aj)).bind fun r5a=>
 mb (IN r2a r5a x2) fun r6a=>
 some (.ok (r6a,0))
def GT (x0:Am) (x1:Am) (x2:Int):Option (Aj × Int):=(pb_dyad_made_Span__dyad_Times_1 x0 x1 x2).bind fun q=>match q with | .ok r=>some r | .error n=>some ((⟨(⟨(⟨false,0⟩:Af),0⟩:Ae),(⟨(⟨false,0⟩:Af),0⟩:Ae)⟩:Aj),n)
def KK (x0:Am) (x1:Am) (x2:Int):Option (Aj × Int):=
 (GT x0 x1 x2).bind fun r0a=>
 some (r0a.1,r0a.2)
def EZ (x0:Af) (x1:Af):Option (Bool):=
 (if x0.Neg=x1.Neg then (Bm (limbs x0.Abs) (limbs x1.Abs)).bind fun r0a=>
 some (r0a) else some (false)).bind fun m1a=>
 some m1a
def BB (x0:Ae) (x1:Ae):Option (Bool):=
 (EZ x0.Man x1.Man).bind fun r0a=>
 (if r0a=true then some (decide (x0.Exp=x1.Exp)) else some (false)).bind fun m1a=>
 some m1a
def Bl (x0:Aj) (x1:Aj):Option (Bool):=
 (BB x0.Lo x1.Lo).bind fun r0a=>
 (if r0a=true then (BB x0.Hi x1.Hi).bind fun r1a=>
 some (r1a) else some (false)).bind fun m2a=>
 some m2a
def Cx (x0:Al) (x1:Al) (x2:Int) (x3:Int):Option (Al):=
 (Ba x0).bind fun r3a=>
 if r3a=0 then some (⟨(⟨false,0⟩:Af),0⟩:Al) else (BW x1.m.Abs).bind fun r0a=>
 (BW x0.m.Abs).bind fun r1a=>
 (BP x0.m.Abs (max 0 (wi64 ((wi64 ((wi64 (x2+2))+r0a)) - r1a)))).bind fun r4a=>
 (DG r4a x1.m.Abs).bind fun r2a=>
 (Bt (⟨(⟨(decide (¬x0.m.Neg=x1.m.Neg)),r2a.1⟩:Af),(wi64 ((wi64 (x0.e - x1.e)) - (max 0 (wi64 ((wi64 ((wi64 (x2+2))+r0a)) - r1a)))))⟩:Al) x2 x3 (decide (0<(sz r2a.2:Int)))).bind fun r5a=>
 some r5a
def Lp (x0:An) (x1:An) (x2:Int) (x y:Al):Option An:=
 (Cx x y x2 5).bind fun r0a=>
 (Cx x y x2 4).bind fun r1a=>
 (AI r0a r0a).bind fun r2a=>
 (if r2a<0 then some () else some ()).bind fun m4a=>
 (AI r1a r1a).bind fun r3a=>
 (if 0<r3a then some () else some ()).bind fun m5a=>
 some (⟨r0a,r1a⟩:An)
def HL (x0:An) (x1:An) (x2:Int) (sr:An) (x y:Al):Option An:=
 (Cx x y x2 5).bind fun r0a=>
 (Cx x y x2 4).bind fun r1a=>
 (AI r0a sr.lo).bind fun r4a=>
 (if r4a<0 then some (r0a.m.Neg,r0a.m.Abs,r0a.e) else some (sr.lo.m.Neg,sr.lo.m.Abs,sr.lo.e)).bind fun m2a=>
 (AI r1a sr.hi).bind fun r5a=>
 (if 0<r5a then some (r1a.m.Neg,r1a.m.Abs,r1a.e) else some (sr.hi.m.Neg,sr.hi.m.Abs,sr.hi.e)).bind fun m3a=>
 some (⟨(⟨(⟨m2a.1,m2a.2.1⟩:Af),m2a.2.2⟩:Al),(⟨(⟨m3a.1,m3a.2.1⟩:Af),m3a.2.2⟩:Al)⟩:An)
def Jf (x0:An) (x1:An) (x2:Int):M (Aj):=
 (Ba x1.lo).bind fun r0a=>
 (Ba x1.hi).bind fun r1a=>
 mb (BX (decide (0<(wi64 (r0a*r1a)))) 8) fun r7a=>
 (Lp x0 x1 x2 x0.lo x1.lo).bind fun s2a=>
 (HL x0 x1 x2 s2a x0.lo x1.hi).bind fun s3a=>
 (HL x0 x1 x2 s3a x0.hi x1.lo).bind fun s4a=>
 (HL x0 x1 x2 s4a x0.hi x1.hi).bind fun s5a=>
 mb (Cv s5a) fun r6a=>
 some (.ok r6a)
def pb_dyad_made_Span__dyad_Over_1 (x0:Am) (x1:Am) (x2:Int):M (Aj × Int):=
 mb (CV x0 x1) fun r7a=>
 mb (EF x2) fun r8a=>
 (toN x0.Lo.Man.Abs).bind fun m0a=>
 (toN x0.Hi.Man.Abs).bind fun m1a=>
 (CM (⟨(⟨(⟨x0.Lo.Man.Neg,m0a⟩:Af),x0.Lo.Exp⟩:Ae),(⟨(⟨x0.Hi.Man.Neg,m1a⟩:Af),x0.Hi.Exp⟩:Ae)⟩:Aj)).bind fun r2a=>
 (toN x1.Lo.Man.Abs).bind fun m3a=>
 (toN x1.Hi.Man.Abs).bind fun m4a=>
 (CM (⟨(⟨(⟨x1.Lo.Man.Neg,m3a⟩:Af),x1.Lo.Exp⟩:Ae),(⟨(⟨x1.Hi.Man.Neg,m4a⟩:Af),x1.Hi.Exp⟩:Ae)⟩:Aj)).bind fun r5a=>
 mb (Jf r2a r5a x2) fun r6a=>
 some (.ok (r6a,0))
def He (x0:Am) (x1:Am) (x2:Int):Option (Aj × Int):=(pb_dyad_made_Span__dyad_Over_1 x0 x1 x2).bind fun q=>match q with | .ok r=>some r | .error n=>some ((⟨(⟨(⟨false,0⟩:Af),0⟩:Ae),(⟨(⟨false,0⟩:Af),0⟩:Ae)⟩:Aj),n)
def Kf (x0:Am) (x1:Am) (x2:Int):Option (Aj × Int):=
 (He x0 x1 x2).bind fun r0a=>
 some (r0a.1,r0a.2)
def HB (x0:Nat):Nat→Nat→Option (Nat × Nat)
 | 0,_=>none
 | n2a+1,v0a=>
 (DG x0 v0a).bind fun r3a=>
 (Dk v0a r3a.1).bind fun r4a=>
 (CU r4a 1).bind fun r1a=>
 (CR r1a v0a).bind fun r5a=>
 if 0≤r5a then (DL v0a v0a).bind fun r6a=>
 (CS x0 r6a).bind fun r7a=>
 some (v0a,r7a) else HB x0 n2a r1a
def Jw (x0:Nat):Option (Nat × Nat):=
 if (sz x0:Int)=0 then some (0,0) else (BW x0).bind fun r0a=>
 (BP 1 (wi64 ((wi64 (r0a+1)).tdiv 2))).bind fun r1a=>
 HB x0 18446744073709551616 r1a
def Kb (x0:Al) (x1:Int) (x2:Int):Option (Al):=
 (Ba x0).bind fun r3a=>
 if r3a=0 then some (⟨(⟨false,0⟩:Af),0⟩:Al) else (BW x0.m.Abs).bind fun r0a=>
 (if ¬((wi64 (x0.e - (max 0 (wi64 ((wi64 ((wi64 (2*x1))+4)) - r0a)))))%2)=0 then some (wi64 ((max 0 (wi64 ((wi64 ((wi64 (2*x1))+4)) - r0a)))+1)) else some (max 0 (wi64 ((wi64 ((wi64 (2*x1))+4)) - r0a)))).bind fun m1a=>
 (BP x0.m.Abs m1a).bind fun r4a=>
 (Jw r4a).bind fun r2a=>
 (Bt (⟨(⟨false,r2a.1⟩:Af),(wi64 ((wi64 (x0.e - m1a)).tdiv 2))⟩:Al) x1 x2 (decide (0<(sz r2a.2:Int)))).bind fun r5a=>
 some r5a
def Jc (x0:An) (x1:An) (x2:Int):M (Aj):=
 (Ba x0.lo).bind fun r0a=>
 mb (BX (decide (0≤r0a)) 3) fun r4a=>
 (Kb x0.lo x2 5).bind fun r1a=>
 (Kb x0.hi x2 4).bind fun r2a=>
 mb (Cv (⟨r1a,r2a⟩:An)) fun r3a=>
 some (.ok r3a)
def pb_dyad_made_Span__dyad_Root_1 (x0:Am) (x1:Am) (x2:Int):M (Aj × Int):=
 mb (CV x0 x1) fun r7a=>
 mb (EF x2) fun r8a=>
 (toN x0.Lo.Man.Abs).bind fun m0a=>
 (toN x0.Hi.Man.Abs).bind fun m1a=>
 (CM (⟨(⟨(⟨x0.Lo.Man.Neg,m0a⟩:Af),x0.Lo.Exp⟩:Ae),(⟨(⟨x0.Hi.Man.Neg,m1a⟩:Af),x0.Hi.Exp⟩:Ae)⟩:Aj)).bind fun r2a=>
 (toN x1.Lo.Man.Abs).bind fun m3a=>
 (toN x1.Hi.Man.Abs).bind fun m4a=>
 (CM (⟨(⟨(⟨x1.Lo.Man.Neg,m3a⟩:Af),x1.Lo.Exp⟩:Ae),(⟨(⟨x1.Hi.Man.Neg,m4a⟩:Af),x1.Hi.Exp⟩:Ae)⟩:Aj)).bind fun r5a=>
 mb (Jc r2a r5a x2) fun r6a=>
 some (.ok (r6a,0))
def Hd (x0:Am) (x1:Am) (x2:Int):Option (Aj × Int):=(pb_dyad_made_Span__dyad_Root_1 x0 x1 x2).bind fun q=>match q with | .ok r=>some r | .error n=>some ((⟨(⟨(⟨false,0⟩:Af),0⟩:Ae),(⟨(⟨false,0⟩:Af),0⟩:Ae)⟩:Aj),n)
def Lm (x0:Am) (x1:Int):Option (Aj × Int):=
 (Hd x0 x0 x1).bind fun r0a=>
 some (r0a.1,r0a.2)
def En:Option (Bool):=
 (GB 12).bind fun r3=>
 (Ll (⟨r3.Neg,(limbs r3.Abs)⟩:AK) 3).bind fun r9a=>
 (Bv 11 0).bind fun r7a=>
 (JH (⟨(⟨r7a.Man.Neg,(limbs r7a.Man.Abs)⟩:AK),r7a.Exp⟩:Au) 3 1).bind fun r0b=>
 (Bv (-11) 0).bind fun r8a=>
 (JH (⟨(⟨r8a.Man.Neg,(limbs r8a.Man.Abs)⟩:AK),r8a.Exp⟩:Au) 2 5).bind fun r1b=>
 (Cq (-1) 2).bind fun r0a=>
 (Cq (-3) 5).bind fun r1a=>
 (KK (⟨(⟨(⟨r0a.Lo.Man.Neg,(limbs r0a.Lo.Man.Abs)⟩:AK),r0a.Lo.Exp⟩:Au),(⟨(⟨r0a.Hi.Man.Neg,(limbs r0a.Hi.Man.Abs)⟩:AK),r0a.Hi.Exp⟩:Au)⟩:Am) (⟨(⟨(⟨r1a.Lo.Man.Neg,(limbs r1a.Lo.Man.Abs)⟩:AK),r1a.Lo.Exp⟩:Au),(⟨(⟨r1a.Hi.Man.Neg,(limbs r1a.Hi.Man.Abs)⟩:AK),r1a.Hi.Exp⟩:Au)⟩:Am) 8).bind fun r2b=>
 (if ¬r9a.2=0 then some (true) else some (decide (¬r0b.2=0))).bind fun m5b=>
 (if m5b=true then some (true) else some (decide (¬r1b.2=0))).bind fun m6b=>
 (if m6b=true then some (true) else some (decide (¬r2b.2=0))).bind fun m7b=>
 if m7b=true then some false else (Bv 3 5).bind fun r8b=>
 (BB r9a.1 r8b).bind fun r9b=>
 if ¬(r9b=true) then some false else (Bv 12 0).bind fun r0c=>
 (BB r0b.1 r0c).bind fun r1c=>
 if ¬(r1c=true) then some false else (Bv (-12) 0).bind fun r2c=>
 (BB r1b.1 r2c).bind fun r3c=>
 if ¬(r3c=true) then some false else (Cq (-6) 10).bind fun r4c=>
 (Bl r2b.1 r4c).bind fun r5c=>
 if ¬(r5c=true) then some false else (Cq 1 1).bind fun r2a=>
 (Cq 3 3).bind fun r3a=>
 (Kf (⟨(⟨(⟨r2a.Lo.Man.Neg,(limbs r2a.Lo.Man.Abs)⟩:AK),r2a.Lo.Exp⟩:Au),(⟨(⟨r2a.Hi.Man.Neg,(limbs r2a.Hi.Man.Abs)⟩:AK),r2a.Hi.Exp⟩:Au)⟩:Am) (⟨(⟨(⟨r3a.Lo.Man.Neg,(limbs r3a.Lo.Man.Abs)⟩:AK),r3a.Lo.Exp⟩:Au),(⟨(⟨r3a.Hi.Man.Neg,(limbs r3a.Hi.Man.Abs)⟩:AK),r3a.Hi.Exp⟩:Au)⟩:Am) 4).bind fun r3b=>
 (Cq 1 1).bind fun r4a=>
 (Cq (-1) 1).bind fun r5a=>
 (Kf (⟨(⟨(⟨r4a.Lo.Man.Neg,(limbs r4a.Lo.Man.Abs)⟩:AK),r4a.Lo.Exp⟩:Au),(⟨(⟨r4a.Hi.Man.Neg,(limbs r4a.Hi.Man.Abs)⟩:AK),r4a.Hi.Exp⟩:Au)⟩:Am) (⟨(⟨(⟨r5a.Lo.Man.Neg,(limbs r5a.Lo.Man.Abs)⟩:AK),r5a.Lo.Exp⟩:Au),(⟨(⟨r5a.Hi.Man.Neg,(limbs r5a.Hi.Man.Abs)⟩:AK),r5a.Hi.Exp⟩:Au)⟩:Am) 4).bind fun r6c=>
 (Cq 2 2).bind fun r6a=>
 (Lm (⟨(⟨(⟨r6a.Lo.Man.Neg,(limbs r6a.Lo.Man.Abs)⟩:AK),r6a.Lo.Exp⟩:Au),(⟨(⟨r6a.Hi.Man.Neg,(limbs r6a.Hi.Man.Abs)⟩:AK),r6a.Hi.Exp⟩:Au)⟩:Am) 4).bind fun r4b=>
 (Bv 5 (-4)).bind fun r7c=>
 (Bv 11 (-5)).bind fun r8c=>
 (Bv 11 (-3)).bind fun r9c=>
 (Bv 3 (-1)).bind fun r0d=>
 (if r3b.2=0 then some (decide (r6c.2=8)) else some (false)).bind fun m1d=>
 (if m1d=true then some (decide (r4b.2=0)) else some (false)).bind fun m2d=>
 (if m2d=true then (Bl r3b.1 (⟨r7c,r8c⟩:Aj)).bind fun r3d=>
 some (r3d) else some (false)).bind fun m4d=>
 (if m4d=true then (Bl r4b.1 (⟨r9c,r0d⟩:Aj)).bind fun r5d=>
 some (r5d) else some (false)).bind fun m6d=>
 some m6d
def Dr (x0:Int):Option (Bool):=
 (if 1≤x0 then some (decide (x0≤4096)) else some (false)).bind fun m0a=>
 some m0a
def Gu (x0:Af):Option (Af):=
 (AM (decide (¬(x0.Neg=true))) x0.Abs).bind fun r0a=>
 some r0a
def CH (x0:Ae):Option (Ae):=
 (Gu x0.Man).bind fun r0a=>
 some (⟨r0a,x0.Exp⟩:Ae)
def Fa (x0:Af) (x1:Int):Option (Af):=
 (AU x0.Abs x1).bind fun r0a=>
 some (⟨x0.Neg,r0a⟩:Af)
def Gt (x0:Af) (x1:Af):Option (Af):=
 if x0.Neg=x1.Neg then (BU x0.Abs x1.Abs).bind fun r0a=>
 (AM x0.Neg r0a).bind fun r1a=>
 some r1a else (Bz x0.Abs x1.Abs).bind fun r2a=>
 if 0≤r2a then (Ci x0.Abs x1.Abs).bind fun r3a=>
 (AM x0.Neg r3a).bind fun r4a=>
 some r4a else (Ci x1.Abs x0.Abs).bind fun r5a=>
 (AM x1.Neg r5a).bind fun r6a=>
 some r6a
def BI (x0:Ae) (x1:Ae):Option (Ae):=
 if (sz x0.Man.Abs:Int)=0 then some x1 else if (sz x1.Man.Abs:Int)=0 then some x0 else (Fa x0.Man (wi64 (x0.Exp - (min x0.Exp x1.Exp)))).bind fun r0a=>
 (Fa x1.Man (wi64 (x1.Exp - (min x0.Exp x1.Exp)))).bind fun r1a=>
 (Gt r0a r1a).bind fun r2a=>
 (EU r2a (min x0.Exp x1.Exp)).bind fun r3a=>
 some r3a
def Ct (x0:Ae):Option (Int):=
 if (sz x0.Man.Abs:Int)=0 then some 0 else if x0.Man.Neg=true then some (-1) else some 1
def Bi (x0:Ae) (x1:Ae):Option (Int):=
 (CH x1).bind fun r0a=>
 (BI x0 r0a).bind fun r1a=>
 (Ct r1a).bind fun r2a=>
 some r2a
def Cl (x0:Am):Option (Bool):=
 (Be x0.Lo).bind fun r0a=>
 (if r0a=true then (Be x0.Hi).bind fun r1a=>
 some (r1a) else some (false)).bind fun m2a=>
 (if m2a=true then (toN x0.Lo.Man.Abs).bind fun m3a=>
 (toN x0.Hi.Man.Abs).bind fun m4a=>
 (Bi (⟨(⟨x0.Lo.Man.Neg,m3a⟩:Af),x0.Lo.Exp⟩:Ae) (⟨(⟨x0.Hi.Man.Neg,m4a⟩:Af),x0.Hi.Exp⟩:Ae)).bind fun r5a=>
 some (decide (r5a≤0)) else some (false)).bind fun m6a=>
 some m6a
def Fu (x0:Bool):Option (Int):=
 if ¬(x0=true) then some 1 else some 0
def Fb (x0:Aj):Option (Int):=
 (Ct x0.Lo).bind fun r0a=>
 if 0<r0a then some 1 else (Ct x0.Hi).bind fun r1a=>
 if r1a<0 then some (-1) else some 0
def CG (x0:Nat) (x1:Nat):Nat→Nat→Nat→Option (Nat)
 | 0,_,_=>none
 | n2a+1,v1a,v0a=>
 if 0<(sz v0a:Int) then (Bd v1a v0a).bind fun r3a=>
 CG x0 x1 n2a v0a r3a.R else some (v1a)
def Fw (x0:Nat) (x1:Nat):Option (Nat):=
 (CG x0 x1 18446744073709551616 x0 x1).bind fun m0a=>
 some m0a
def BT:Option (Nat):=
 some 1
def Gz (x0:Af) (x1:Nat):Option (BG):=
 (Fw x0.Abs x1).bind fun r0a=>
 (BT).bind fun r1a=>
 (Bm (limbs r0a) (limbs r1a)).bind fun r2a=>
 if r2a=true then some (⟨x0,x1⟩:BG) else (Bd x0.Abs r0a).bind fun r3a=>
 (AM x0.Neg r3a.Q).bind fun r4a=>
 (Bd x1 r0a).bind fun r5a=>
 some (⟨r4a,r5a.Q⟩:BG)
def Em (x0:Af) (x1:Af):Option (Af):=
 (CK x0.Abs x1.Abs).bind fun r0a=>
 (AM (decide (¬x0.Neg=x1.Neg)) r0a).bind fun r1a=>
 some r1a
def Fp (x0:Af) (x1:Af):Option (Int):=
 if ¬x0.Neg=x1.Neg then if x0.Neg=true then some (-1) else some 1 else if x0.Neg=true then (Bz x0.Abs x1.Abs).bind fun r0a=>
 some (wi64 (-r0a)) else (Bz x0.Abs x1.Abs).bind fun r1a=>
 some r1a
def CE (x0:BG) (x1:BG):Option (Int):=
 (AM false x1.Den).bind fun r0a=>
 (Em x0.Num r0a).bind fun r1a=>
 (AM false x0.Den).bind fun r2a=>
 (Em x1.Num r2a).bind fun r3a=>
 (Fp r1a r3a).bind fun r4a=>
 some r4a
def EV (x0:Nat) (x1:Nat) (x2:Nat) (x3:Bool) (x4:Int):Option (Nat):=
 if (sz x1:Int)=0 then some x0 else (if x4=4 then some (decide (¬(x3=true))) else some (false)).bind fun m1a=>
 (if m1a=true then some (true) else (if x4=5 then some (x3) else some (false)).bind fun m2a=>
 some (m2a)).bind fun m3a=>
 (if x4=1 then some (true) else some (decide (x4=2))).bind fun m4a=>
 (if m4a=true then (BU x1 x1).bind fun r5a=>
 (Bz r5a x2).bind fun r0a=>
 (if 0<r0a then some (true) else (if r0a=0 then (if x4=2 then some (true) else (if 0<(sz x0:Int) then (nth (limbs x0) 0).bind fun u6a=>
 some (decide ((u6a.tmod 2)=1)) else some (false)).bind fun m7a=>
 some (m7a)).bind fun m8a=>
 some (m8a) else some (false)).bind fun m9a=>
 some (m9a)).bind fun m0b=>
 some (m0b) else some (m3a)).bind fun m1b=>
 if m1b=true then (BT).bind fun r2b=>
 (BU x0 r2b).bind fun r3b=>
 some r3b else some x0
def Dv (x0:Nat) (x1:Nat) (x2:Nat) (x3:Bool) (x4:Int) (x5:Int):Option (Ae):=
 (EV x0 x1 x2 x3 x4).bind fun r0a=>
 (AM x3 r0a).bind fun r1a=>
 (EU r1a x5).bind fun r2a=>
 some r2a
def Cc (x0:BG) (x1:Int) (x2:Int):Option (Ae):=
 if (sz x0.Num.Abs:Int)=0 then some (⟨(⟨false,0⟩:Af),0⟩:Ae) else (Bn x0.Num.Abs).bind fun r0a=>
 (Bn x0.Den).bind fun r1a=>
 (AU x0.Num.Abs (max 0 (wi64 (0 - (wi64 ((wi64 (r0a - r1a)) - x1)))))).bind fun r6a=>
 (AU x0.Den (max 0 (wi64 ((wi64 (r0a - r1a)) - x1)))).bind fun r4a=>
 (Bd r6a r4a).bind fun r2a=>
 (Bn r2a.Q).bind fun r7a=>
 if r7a≤x1 then (Dv r2a.Q r2a.R r4a x0.Num.Neg x2 (wi64 ((wi64 (r0a - r1a)) - x1))).bind fun r8a=>
 some r8a else (AU x0.Num.Abs (max 0 (wi64 (0 - (wi64 ((wi64 ((wi64 (r0a - r1a)) - x1))+1)))))).bind fun r9a=>
 (AU x0.Den (max 0 (wi64 ((wi64 ((wi64 (r0a - r1a)) - x1))+1)))).bind fun r5a=>
 (Bd r9a r5a).bind fun r3a=>
 (Bn r3a.Q).bind fun r0b=>
 if r0b≤x1 then (Dv r3a.Q r3a.R r5a x0.Num.Neg x2 (wi64 ((wi64 ((wi64 (r0a - r1a)) - x1))+1))).bind fun r1b=>
 some r1b else none
def FW (x0:Aj):Option (Cn):=
 (Be (⟨(⟨x0.Lo.Man.Neg,(limbs x0.Lo.Man.Abs)⟩:AK),x0.Lo.Exp⟩:Au)).bind fun r0a=>
 (if ¬(r0a=true) then some (true) else (Be (⟨(⟨x0.Hi.Man.Neg,(limbs x0.Hi.Man.Abs)⟩:AK),x0.Hi.Exp⟩:Au)).bind fun r1a=>
 some (decide (¬(r1a=true)))).bind fun m2a=>
 if m2a=true then some (⟨(⟨(⟨(⟨false,0⟩:Af),0⟩:Ae),(⟨(⟨false,0⟩:Af),0⟩:Ae)⟩:Aj),2⟩:Cn) else some (⟨x0,0⟩:Cn)
def AZ (x0:Aj) (x1:Int) (x2:Int) (x3:Aj):Option (Bool):=
 if ¬x2=0 then (if x1=x2 then (Bl x0 (⟨(⟨(⟨false,0⟩:Af),0⟩:Ae),(⟨(⟨false,0⟩:Af),0⟩:Ae)⟩:Aj)).bind fun r1a=>
 some (r1a) else some (false)).bind fun m2a=>
 some m2a else (FW x3).bind fun r0a=>
 (if x1=r0a.E then (Bl x0 r0a.S).bind fun r3a=>
 some (r3a) else some (false)).bind fun m4a=>
 some m4a
def BN (x0:Ae) (x1:Int) (x2:Int):Option (Ae):=
 (Bn x0.Man.Abs).bind fun r0a=>
 if (wi64 (r0a - x1))≤0 then some x0 else (BT).bind fun r3a=>
 (AU r3a (wi64 (r0a - x1))).bind fun r1a=>
 (Bd x0.Man.Abs r1a).bind fun r2a=>
 (Dv r2a.Q r2a.R r1a x0.Man.Neg x2 (wi64 (x0.Exp+(wi64 (r0a - x1))))).bind fun r4a=>
 some r4a
def EE (x0:Au):Option (Bool):=
 (if (x0.Man.Abs.length:Int)≤60 then (if (-3000)≤x0.Exp then some (decide (x0.Exp≤3000)) else some (false)).bind fun m0a=>
 (if m0a=true then some (true) else (Be x0).bind fun r1a=>
 some (decide (¬(r1a=true)))).bind fun m2a=>
 some (m2a) else some (false)).bind fun m3a=>
 some m3a
def Dm (x0:Am):Option (Bool):=
 (EE x0.Lo).bind fun r0a=>
 (if r0a=true then (EE x0.Hi).bind fun r1a=>
 some (r1a) else some (false)).bind fun m2a=>
 some m2a
def DT (x0:Aj) (x1:Int):Option (Aj):=
 (BN x0.Lo x1 5).bind fun r0a=>
 (BN x0.Hi x1 4).bind fun r1a=>
 some (⟨r0a,r1a⟩:Aj)
def Ji (x0:Al) (x1:Al):Option (Bool):=
 (Ba x0).bind fun r0a=>
 (if r0a=0 then some (true) else (Ba x1).bind fun r1a=>
 some (decide (r1a=0))).bind fun m2a=>
 if m2a=true then some true else (FK x0).bind fun r3a=>
 (FK x1).bind fun r4a=>
 some (decide ((wi64 ((max r3a r4a) - (min x0.e x1.e)))≤32770))
def Iy (x0:Bool) (x1:List Int):Option (AK):=
 (if x0=true then some (decide (0<(x1.length:Int))) else some (false)).bind fun m0a=>
 some (⟨m0a,x1⟩:AK)
def Iw (x0:AK):Option (AK):=
 (Iy (decide (¬(x0.Neg=true))) x0.Abs).bind fun r0a=>
 some r0a
def Hm (x0:Au):Option (Au):=
 (Iw x0.Man).bind fun r0a=>
 some (⟨r0a,x0.Exp⟩:Au)
def Hr (x0_0:Au) (x0_1:Au):M (Unit):=
 (EW x0_0).bind fun r0a=>
 mb (BX r0a 1) fun r2a=>
 (EW x0_1).bind fun r1a=>
 mb (BX r1a 1) fun r3a=>
 some (.ok ())
def JI (x0:Al) (x1:Al):Option (Al):=
 (Fs x1).bind fun r0a=>
 (CA x0 r0a).bind fun r1a=>
 some r1a
def Ed (x0:Au) (x1:Au):M (Ae × Int):=
 mb (Hr x0 x1) fun r7a=>
 (toN x0.Man.Abs).bind fun m2a=>
 (Fy (⟨(⟨x0.Man.Neg,m2a⟩:Af),x0.Exp⟩:Ae)).bind fun r0a=>
 (toN x1.Man.Abs).bind fun m3a=>
 (Fy (⟨(⟨x1.Man.Neg,m3a⟩:Af),x1.Exp⟩:Ae)).bind fun r1a=>
 (Ji r0a r1a).bind fun r4a=>
 mb (BX r4a 2) fun r8a=>
 (JI r0a r1a).bind fun r5a=>
 mb (Ep r5a) fun r6a=>
 some (.ok (r6a,0))
def CY (x0:Au) (x1:Au):Option (Ae × Int):=(Ed x0 x1).bind fun q=>match q with | .ok r=>some r | .error n=>some ((⟨(⟨false,0⟩:Af),0⟩:Ae),n)
def JW (x0:Au) (x1:Au):Option (Ae × Int):=
 (CY x0 x1).bind fun r0a=>
 some (r0a.1,r0a.2)
def GO (x0:Ae):Option (GE):=
 (Be (⟨(⟨x0.Man.Neg,(limbs x0.Man.Abs)⟩:AK),x0.Exp⟩:Au)).bind fun r0a=>
 if ¬(r0a=true) then some (⟨(⟨(⟨false,0⟩:Af),0⟩:Ae),2⟩:GE) else some (⟨x0,0⟩:GE)
def Ic (x0:Nat):Option (Bool):=
 (GA (limbs x0)).bind fun r6=>
 some (decide (¬(r6=true)))
def JO (x0:Bool) (x1:Int):M (Unit):=
 if ¬(x0=true) then some (.error x1) else some (.ok ())
def Jo (x0:Nat):M (Nat):=
 mb (JO (decide ((sz x0:Int)≤1024)) 2) fun r7=>
 (FF x0).bind fun r0a=>
 some (.ok r0a)
def CD (x0_0:Nat) (x0_1:Nat):Option (Int):=
 (Ic x0_0).bind fun r0a=>
 if r0a=true then some 0 else (Ic x0_1).bind fun r1a=>
 if r1a=true then some 1 else some (-1)
def Cf (x0_0:Nat) (x0_1:Nat):Option (Bool):=
 (CD x0_0 x0_1).bind fun r0a=>
 some (decide (0≤r0a))
def HI (x0_0:Nat) (x0_1:Nat):M (Unit):=
 (Cf x0_0 x0_1).bind fun r8=>
 mb (JO (decide (¬(r8=true))) 1) fun r0a=>
 some (.ok ())
def Fl (x0:Ae) (x1:Int) (x2:Int) (x3:Ae):Option (Bool):=
 if ¬x2=0 then (if x1=x2 then (BB x0 (⟨(⟨false,0⟩:Af),0⟩:Ae)).bind fun r1a=>
 some (r1a) else some (false)).bind fun m2a=>
 some m2a else (GO x3).bind fun r0a=>
 (if x1=r0a.E then (BB x0 r0a.D).bind fun r3a=>
 some (r3a) else some (false)).bind fun m4a=>
 some m4a
def HD (x0:Af):Option (BG):=
 (BT).bind fun r0a=>
 some (⟨x0,r0a⟩:BG)
def FR (x0:Ae):Option (BG):=
 if 0≤x0.Exp then (AU x0.Man.Abs x0.Exp).bind fun r0a=>
 (HD (⟨x0.Man.Neg,r0a⟩:Af)).bind fun r1a=>
 some r1a else (BT).bind fun r2a=>
 (AU r2a (wi64 (0 - x0.Exp))).bind fun r3a=>
 (Gz x0.Man r3a).bind fun r4a=>
 some r4a
def EI (x0:Et):Option (Bool):=
 (if (x0.Num.Abs.length:Int)≤60 then some (decide ((x0.Den.length:Int)≤60)) else some (false)).bind fun m0a=>
 some m0a
def FC (x0:Nat) (x1:Nat):Nat→Nat→Nat→Option (Nat)
 | 0,_,_=>none
 | n2a+1,v1a,v0a=>
 if 0<(sz v0a:Int) then (Cz v1a v0a).bind fun r3a=>
 FC x0 x1 n2a v0a r3a.2 else some (v1a)
def Jn (x0:Nat) (x1:Nat):Option (Nat):=
 (FC x0 x1 18446744073709551616 x0 x1).bind fun m0a=>
 some m0a
def EQ (x0:Nat) (x1:Nat):M (Nat × Int):=
 mb (HI x0 x1) fun r2a=>
 (Jn x0 x1).bind fun r0a=>
 mb (Jo r0a) fun r1a=>
 some (.ok (r1a,0))
def Dx (x0:Nat) (x1:Nat):Option (Nat × Int):=(EQ x0 x1).bind fun q=>match q with | .ok r=>some r | .error n=>none
def Kw (x0:Nat) (x1:Nat):Option (Nat × Int):=
 (Dx x0 x1).bind fun r9=>
 some (r9.1,r9.2)
def DP (x0:Et):Option (Bool):=
 (FG x0.Num).bind fun r1a=>
 (if ¬(r1a=true) then some (true) else (GA x0.Den).bind fun r2a=>
 some (decide (¬(r2a=true)))).bind fun m3a=>
 (if m3a=true then some (true) else some (decide ((x0.Den.length:Int)=0))).bind fun m4a=>
 if m4a=true then some false else (toN x0.Num.Abs).bind fun m5a=>
 (toN x0.Den).bind fun m6a=>
 (Kw m5a m6a).bind fun r0a=>
 (if r0a.2=0 then some (decide ((sz r0a.1:Int)=1)) else some (false)).bind fun m7a=>
 (if m7a=true then (nth (limbs r0a.1) 0).bind fun u8a=>
 some (decide (u8a=1)) else some (false)).bind fun m9a=>
 some m9a
def HT (x0:BG):Option (Al × Al):=
 (Ix x0.Num).bind fun r0a=>
 (CX r0a 0).bind fun r1a=>
 (CX (⟨false,x0.Den⟩:Af) 0).bind fun r2a=>
 some (r1a,r2a)
def DN (x0:Et):Option (Bool):=
 (Co x0.Num).bind fun r0a=>
 (if ¬(r0a=true) then some (true) else (Bu x0.Den).bind fun r1a=>
 some (decide (¬(r1a=true)))).bind fun m2a=>
 (if m2a=true then some (true) else some (decide ((x0.Den.length:Int)=0))).bind fun m3a=>
 if m3a=true then some false else (toN x0.Num.Abs).bind fun m4a=>
 (toN x0.Den).bind fun m5a=>
 (Fw m4a m5a).bind fun r6a=>
 (BT).bind fun r7a=>
 (Bm (limbs r6a) (limbs r7a)).bind fun r8a=>
 some r8a
def BY (x0:Ae) (x1:BG):Option (Int):=
 (FR x0).bind fun r0a=>
 (CE r0a x1).bind fun r1a=>
 some r1a
def GJ (x0:An) (x1:An) (x2:Int):M (Aj):=
 (AI x1.lo x0.lo).bind fun r2a=>
 (if r2a<0 then some (x1.lo.m.Neg,x1.lo.m.Abs,x1.lo.e) else some (x0.lo.m.Neg,x0.lo.m.Abs,x0.lo.e)).bind fun m0a=>
 (AI x1.hi x0.hi).bind fun r3a=>
 (if 0<r3a then some (x1.hi.m.Neg,x1.hi.m.Abs,x1.hi.e) else some (x0.hi.m.Neg,x0.hi.m.Abs,x0.hi.e)).bind fun m1a=>
 mb (Cv (⟨(⟨(⟨m0a.1,m0a.2.1⟩:Af),m0a.2.2⟩:Al),(⟨(⟨m1a.1,m1a.2.1⟩:Af),m1a.2.2⟩:Al)⟩:An)) fun r4a=>
 some (.ok r4a)
def FB (x0:Am) (x1:Am) (x2:Int):M (Aj × Int):=
 mb (CV x0 x1) fun r7a=>
 mb (EF x2) fun r8a=>
 (toN x0.Lo.Man.Abs).bind fun m0a=>
 (toN x0.Hi.Man.Abs).bind fun m1a=>
 (CM (⟨(⟨(⟨x0.Lo.Man.Neg,m0a⟩:Af),x0.Lo.Exp⟩:Ae),(⟨(⟨x0.Hi.Man.Neg,m1a⟩:Af),x0.Hi.Exp⟩:Ae)⟩:Aj)).bind fun r2a=>
 (toN x1.Lo.Man.Abs).bind fun m3a=>
 (toN x1.Hi.Man.Abs).bind fun m4a=>
 (CM (⟨(⟨(⟨x1.Lo.Man.Neg,m3a⟩:Af),x1.Lo.Exp⟩:Ae),(⟨(⟨x1.Hi.Man.Neg,m4a⟩:Af),x1.Hi.Exp⟩:Ae)⟩:Aj)).bind fun r5a=>
 mb (GJ r2a r5a x2) fun r6a=>
 some (.ok (r6a,0))
def Eg (x0:Am) (x1:Am) (x2:Int):Option (Aj × Int):=(FB x0 x1 x2).bind fun q=>match q with | .ok r=>some r | .error n=>some ((⟨(⟨(⟨false,0⟩:Af),0⟩:Ae),(⟨(⟨false,0⟩:Af),0⟩:Ae)⟩:Aj),n)
def GC (x0:Am) (x1:Am):Option (Aj × Int):=
 (Eg x0 x1 1).bind fun r0a=>
 some (r0a.1,r0a.2)
def ET (x0:An) (x1:An) (x2:Int):M (Aj):=
 (AI x1.lo x0.lo).bind fun r2a=>
 (if 0<r2a then some (x1.lo.m.Neg,x1.lo.m.Abs,x1.lo.e) else some (x0.lo.m.Neg,x0.lo.m.Abs,x0.lo.e)).bind fun m0a=>
 (AI x1.hi x0.hi).bind fun r3a=>
 (if r3a<0 then some (x1.hi.m.Neg,x1.hi.m.Abs,x1.hi.e) else some (x0.hi.m.Neg,x0.hi.m.Abs,x0.hi.e)).bind fun m1a=>
 (AI (⟨(⟨m0a.1,m0a.2.1⟩:Af),m0a.2.2⟩:Al) (⟨(⟨m1a.1,m1a.2.1⟩:Af),m1a.2.2⟩:Al)).bind fun r4a=>
 mb (BX (decide (r4a≤0)) 5) fun r6a=>
 mb (Cv (⟨(⟨(⟨m0a.1,m0a.2.1⟩:Af),m0a.2.2⟩:Al),(⟨(⟨m1a.1,m1a.2.1⟩:Af),m1a.2.2⟩:Al)⟩:An)) fun r5a=>
 some (.ok r5a)
def Fz (x0:Am) (x1:Am) (x2:Int):M (Aj × Int):=
 mb (CV x0 x1) fun r7a=>
 mb (EF x2) fun r8a=>
 (toN x0.Lo.Man.Abs).bind fun m0a=>
 (toN x0.Hi.Man.Abs).bind fun m1a=>
 (CM (⟨(⟨(⟨x0.Lo.Man.Neg,m0a⟩:Af),x0.Lo.Exp⟩:Ae),(⟨(⟨x0.Hi.Man.Neg,m1a⟩:Af),x0.Hi.Exp⟩:Ae)⟩:Aj)).bind fun r2a=>
 (toN x1.Lo.Man.Abs).bind fun m3a=>
 (toN x1.Hi.Man.Abs).bind fun m4a=>
 (CM (⟨(⟨(⟨x1.Lo.Man.Neg,m3a⟩:Af),x1.Lo.Exp⟩:Ae),(⟨(⟨x1.Hi.Man.Neg,m4a⟩:Af),x1.Hi.Exp⟩:Ae)⟩:Aj)).bind fun r5a=>
 mb (ET r2a r5a x2) fun r6a=>
 some (.ok (r6a,0))
def Ee (x0:Am) (x1:Am) (x2:Int):Option (Aj × Int):=(Fz x0 x1 x2).bind fun q=>match q with | .ok r=>some r | .error n=>some ((⟨(⟨(⟨false,0⟩:Af),0⟩:Ae),(⟨(⟨false,0⟩:Af),0⟩:Ae)⟩:Aj),n)
def FH (x0:Am) (x1:Am):Option (Aj × Int):=
 (Ee x0 x1 1).bind fun r0a=>
 some (r0a.1,r0a.2)
def CT (x0_0:Am):M (Unit):=
 (Bj x0_0).bind fun r0a=>
 mb (BX r0a 1) fun r1a=>
 some (.ok ())
def Kd (x0:Am) (x1:Et):M (Bool × Int):=
 mb (CT x0) fun r2b=>
 (DP x1).bind fun r1a=>
 mb (BX r1a 1) fun r3b=>
 (toN x1.Num.Abs).bind fun m2a=>
 (toN x1.Den).bind fun m3a=>
 (HT (⟨(⟨x1.Num.Neg,m2a⟩:Af),m3a⟩:BG)).bind fun r0a=>
 (toN x0.Lo.Man.Abs).bind fun m4a=>
 (Fy (⟨(⟨x0.Lo.Man.Neg,m4a⟩:Af),x0.Lo.Exp⟩:Ae)).bind fun r5a=>
 (DW r5a r0a.2).bind fun r6a=>
 (AI r6a r0a.1).bind fun r7a=>
 if r7a≤0 then (toN x0.Hi.Man.Abs).bind fun m8a=>
 (Fy (⟨(⟨x0.Hi.Man.Neg,m8a⟩:Af),x0.Hi.Exp⟩:Ae)).bind fun r9a=>
 (DW r9a r0a.2).bind fun r0b=>
 (AI r0b r0a.1).bind fun r1b=>
 some (.ok ((decide (0≤r1b)),0)) else some (.ok (false,0))
def HH (x0:Am) (x1:Et):Option (Bool × Int):=(Kd x0 x1).bind fun q=>match q with | .ok r=>some r | .error n=>some (false,n)
def Ek (x0:BG) (x1:Int):Option (Aj):=
 (Cc x0 x1 5).bind fun r0a=>
 (Cc x0 x1 4).bind fun r1a=>
 some (⟨r0a,r1a⟩:Aj)
def Fe (x0:Aj) (x1:Aj):Option (Aj):=
 (Bi x1.Lo x0.Lo).bind fun r2a=>
 (if r2a<0 then some (x1.Lo.Man.Neg,x1.Lo.Man.Abs,x1.Lo.Exp) else some (x0.Lo.Man.Neg,x0.Lo.Man.Abs,x0.Lo.Exp)).bind fun m0a=>
 (Bi x1.Hi x0.Hi).bind fun r3a=>
 (if 0<r3a then some (x1.Hi.Man.Neg,x1.Hi.Man.Abs,x1.Hi.Exp) else some (x0.Hi.Man.Neg,x0.Hi.Man.Abs,x0.Hi.Exp)).bind fun m1a=>
 some (⟨(⟨(⟨m0a.1,m0a.2.1⟩:Af),m0a.2.2⟩:Ae),(⟨(⟨m1a.1,m1a.2.1⟩:Af),m1a.2.2⟩:Ae)⟩:Aj)
def Dp (x0:Aj) (x1:Aj):Option (Cn):=
 (Bi x1.Lo x0.Lo).bind fun r2a=>
 (if 0<r2a then some (x1.Lo.Man.Neg,x1.Lo.Man.Abs,x1.Lo.Exp) else some (x0.Lo.Man.Neg,x0.Lo.Man.Abs,x0.Lo.Exp)).bind fun m0a=>
 (Bi x1.Hi x0.Hi).bind fun r3a=>
 (if r3a<0 then some (x1.Hi.Man.Neg,x1.Hi.Man.Abs,x1.Hi.Exp) else some (x0.Hi.Man.Neg,x0.Hi.Man.Abs,x0.Hi.Exp)).bind fun m1a=>
 (Bi (⟨(⟨m0a.1,m0a.2.1⟩:Af),m0a.2.2⟩:Ae) (⟨(⟨m1a.1,m1a.2.1⟩:Af),m1a.2.2⟩:Ae)).bind fun r4a=>
 if 0<r4a then some (⟨(⟨(⟨(⟨false,0⟩:Af),0⟩:Ae),(⟨(⟨false,0⟩:Af),0⟩:Ae)⟩:Aj),5⟩:Cn) else some (⟨(⟨(⟨(⟨m0a.1,m0a.2.1⟩:Af),m0a.2.2⟩:Ae),(⟨(⟨m1a.1,m1a.2.1⟩:Af),m1a.2.2⟩:Ae)⟩:Aj),0⟩:Cn)
def IK (x0:Et) (x1:Int):M (Aj × Int):=
 (DP x0).bind fun r1a=>
 mb (BX r1a 1) fun r7a=>
 mb (EF x1) fun r8a=>
 (toN x0.Num.Abs).bind fun m2a=>
 (toN x0.Den).bind fun m3a=>
 (HT (⟨(⟨x0.Num.Neg,m2a⟩:Af),m3a⟩:BG)).bind fun r0a=>
 (Cx r0a.1 r0a.2 x1 5).bind fun r4a=>
 (Cx r0a.1 r0a.2 x1 4).bind fun r5a=>
 mb (Cv (⟨r4a,r5a⟩:An)) fun r6a=>
 some (.ok (r6a,0))
def Gg (x0:Et) (x1:Int):Option (Aj × Int):=(IK x0 x1).bind fun q=>match q with | .ok r=>some r | .error n=>some ((⟨(⟨(⟨false,0⟩:Af),0⟩:Ae),(⟨(⟨false,0⟩:Af),0⟩:Ae)⟩:Aj),n)
def Il (x0:Am) (x1:Int):M (Aj × Int):=
 mb (CT x0) fun r5a=>
 mb (EF x1) fun r6a=>
 (toN x0.Lo.Man.Abs).bind fun m0a=>
 (toN x0.Hi.Man.Abs).bind fun m1a=>
 (CM (⟨(⟨(⟨x0.Lo.Man.Neg,m0a⟩:Af),x0.Lo.Exp⟩:Ae),(⟨(⟨x0.Hi.Man.Neg,m1a⟩:Af),x0.Hi.Exp⟩:Ae)⟩:Aj)).bind fun r2a=>
 (Ff r2a x1).bind fun r3a=>
 mb (Cv r3a) fun r4a=>
 some (.ok (r4a,0))
def FL (x0:Am) (x1:Int):Option (Aj × Int):=(Il x0 x1).bind fun q=>match q with | .ok r=>some r | .error n=>some ((⟨(⟨(⟨false,0⟩:Af),0⟩:Ae),(⟨(⟨false,0⟩:Af),0⟩:Ae)⟩:Aj),n)
def FA (x0:Aj) (x1:BG):Option (Bool):=
 (BY x0.Lo x1).bind fun r0a=>
 (if r0a≤0 then (BY x0.Hi x1).bind fun r1a=>
 some (decide (0≤r1a)) else some (false)).bind fun m2a=>
 some m2a
def Jd (x0:Am):M (Ae × Int):=
 mb (CT x0) fun r1a=>
 (JW x0.Hi x0.Lo).bind fun r0a=>
 some (.ok (r0a.1,r0a.2))
def Hf (x0:Am):Option (Ae × Int):=(Jd x0).bind fun q=>match q with | .ok r=>some r | .error n=>some ((⟨(⟨false,0⟩:Af),0⟩:Ae),n)
def JG (x0:Am):M (Int × Int):=
 mb (CT x0) fun r6a=>
 (toN x0.Lo.Man.Abs).bind fun m1a=>
 (Fy (⟨(⟨x0.Lo.Man.Neg,m1a⟩:Af),x0.Lo.Exp⟩:Ae)).bind fun r2a=>
 (Ba r2a).bind fun r0a=>
 (toN x0.Hi.Man.Abs).bind fun m3a=>
 (Fy (⟨(⟨x0.Hi.Man.Neg,m3a⟩:Af),x0.Hi.Exp⟩:Ae)).bind fun r4a=>
 (Ba r4a).bind fun r5a=>
 if r0a=r5a then some (.ok (r0a,0)) else some (.ok (0,0))
def HN (x0:Am):Option (Int × Int):=(JG x0).bind fun q=>match q with | .ok r=>some r | .error n=>some (0,n)
def FT (x0:Am) (x1:Am) (x2:Et) (x3:Int):Option (Bool):=
 (Dm x0).bind fun r0c=>
 (if ¬(r0c=true) then some (true) else (Dm x1).bind fun r1c=>
 some (decide (¬(r1c=true)))).bind fun m2c=>
 (if m2c=true then some (true) else (EI x2).bind fun r3c=>
 some (decide (¬(r3c=true)))).bind fun m4c=>
 if m4c=true then (En).bind fun r5c=>
 some r5c else (Cl x0).bind fun r7a=>
 (if r7a=true then (Cl x1).bind fun r6c=>
 some (r6c) else some (false)).bind fun m1b=>
 (Dr x3).bind fun r7c=>
 (if r7c=true then (DN x2).bind fun r8c=>
 some (r8c) else some (false)).bind fun m9c=>
 (if m9c=true then (toN x2.Num.Abs).bind fun m0d=>
 (toN x2.Den).bind fun m1d=>
 (Ek (⟨(⟨x2.Num.Neg,m0d⟩:Af),m1d⟩:BG) x3).bind fun r2a=>
 some (r2a.Lo.Man.Neg,r2a.Lo.Man.Abs,r2a.Lo.Exp,r2a.Hi.Man.Neg,r2a.Hi.Man.Abs,r2a.Hi.Exp) else some (false,0,0,false,0,0)).bind fun m3a=>
 (Dr x3).bind fun r2d=>
 (if r2d=true then some (r7a) else some (false)).bind fun m3d=>
 (if m3d=true then (toN x0.Lo.Man.Abs).bind fun m4d=>
 (toN x0.Hi.Man.Abs).bind fun m5d=>
 (DT (⟨(⟨(⟨x0.Lo.Man.Neg,m4d⟩:Af),x0.Lo.Exp⟩:Ae),(⟨(⟨x0.Hi.Man.Neg,m5d⟩:Af),x0.Hi.Exp⟩:Ae)⟩:Aj) x3).bind fun r4a=>
 some (r4a.Lo.Man.Neg,r4a.Lo.Man.Abs,r4a.Lo.Exp,r4a.Hi.Man.Neg,r4a.Hi.Man.Abs,r4a.Hi.Exp) else some (false,0,0,false,0,0)).bind fun m5a=>
 (if m1b=true then (toN x0.Lo.Man.Abs).bind fun m2b=>
 (toN x0.Hi.Man.Abs).bind fun m3b=>
 (toN x1.Lo.Man.Abs).bind fun m4b=>
 (toN x1.Hi.Man.Abs).bind fun m5b=>
 (Fe (⟨(⟨(⟨x0.Lo.Man.Neg,m2b⟩:Af),x0.Lo.Exp⟩:Ae),(⟨(⟨x0.Hi.Man.Neg,m3b⟩:Af),x0.Hi.Exp⟩:Ae)⟩:Aj) (⟨(⟨(⟨x1.Lo.Man.Neg,m4b⟩:Af),x1.Lo.Exp⟩:Ae),(⟨(⟨x1.Hi.Man.Neg,m5b⟩:Af),x1.Hi.Exp⟩:Ae)⟩:Aj)).bind fun r6a=>
 (Dp (⟨(⟨(⟨x0.Lo.Man.Neg,m2b⟩:Af),x0.Lo.Exp⟩:Ae),(⟨(⟨x0.Hi.Man.Neg,m3b⟩:Af),x0.Hi.Exp⟩:Ae)⟩:Aj) (⟨(⟨(⟨x1.Lo.Man.Neg,m4b⟩:Af),x1.Lo.Exp⟩:Ae),(⟨(⟨x1.Hi.Man.Neg,m5b⟩:Af),x1.Hi.Exp⟩:Ae)⟩:Aj)).bind fun r1a=>
 some (r6a.Lo.Man.Neg,r6a.Lo.Man.Abs,r6a.Lo.Exp,r6a.Hi.Man.Neg,r6a.Hi.Man.Abs,r6a.Hi.Exp,r1a.S.Lo.Man.Neg,r1a.S.Lo.Man.Abs,r1a.S.Lo.Exp,r1a.S.Hi.Man.Neg,r1a.S.Hi.Man.Abs,r1a.S.Hi.Exp,r1a.E) else some (false,0,0,false,0,0,false,0,0,false,0,0,1)).bind fun m0a=>
 (Gg x2 x3).bind fun r6b=>
 (FL x0 x3).bind fun r7b=>
 (GC x0 x1).bind fun r8b=>
 (FH x0 x1).bind fun r9b=>
 (Dr x3).bind fun r6d=>
 (if r6d=true then (DN x2).bind fun r7d=>
 some (r7d) else some (false)).bind fun m8d=>
 (Fu m8d).bind fun r9d=>
 (AZ r6b.1 r6b.2 r9d (⟨(⟨(⟨m3a.1,m3a.2.1⟩:Af),m3a.2.2.1⟩:Ae),(⟨(⟨m3a.2.2.2.1,m3a.2.2.2.2.1⟩:Af),m3a.2.2.2.2.2⟩:Ae)⟩:Aj)).bind fun r0e=>
 (if ¬(r0e=true) then some (true) else (Dr x3).bind fun r1e=>
 (if r1e=true then some (r7a) else some (false)).bind fun m2e=>
 (Fu m2e).bind fun r3e=>
 (AZ r7b.1 r7b.2 r3e (⟨(⟨(⟨m5a.1,m5a.2.1⟩:Af),m5a.2.2.1⟩:Ae),(⟨(⟨m5a.2.2.2.1,m5a.2.2.2.2.1⟩:Af),m5a.2.2.2.2.2⟩:Ae)⟩:Aj)).bind fun r4e=>
 some (decide (¬(r4e=true)))).bind fun m5e=>
 (if m5e=true then some (true) else (Fu m1b).bind fun r6e=>
 (AZ r8b.1 r8b.2 r6e (⟨(⟨(⟨m0a.1,m0a.2.1⟩:Af),m0a.2.2.1⟩:Ae),(⟨(⟨m0a.2.2.2.1,m0a.2.2.2.2.1⟩:Af),m0a.2.2.2.2.2.1⟩:Ae)⟩:Aj)).bind fun r7e=>
 some (decide (¬(r7e=true)))).bind fun m8e=>
 (if m8e=true then some (true) else some (decide (¬r9b.2=m0a.2.2.2.2.2.2.2.2.2.2.2.2))).bind fun m9e=>
 (if m9e=true then some (true) else (Bl r9b.1 (⟨(⟨(⟨m0a.2.2.2.2.2.2.1,m0a.2.2.2.2.2.2.2.1⟩:Af),m0a.2.2.2.2.2.2.2.2.1⟩:Ae),(⟨(⟨m0a.2.2.2.2.2.2.2.2.2.1,m0a.2.2.2.2.2.2.2.2.2.2.1⟩:Af),m0a.2.2.2.2.2.2.2.2.2.2.2.1⟩:Ae)⟩:Aj)).bind fun r0f=>
 some (decide (¬(r0f=true)))).bind fun m1f=>
 if m1f=true then some false else (HH x0 x2).bind fun r8a=>
 (if ¬(r7a=true) then some (true) else (DN x2).bind fun r2f=>
 some (decide (¬(r2f=true)))).bind fun m3f=>
 rj (if m3f=true then (if ¬r8a.2=1 then some (true) else some (r8a.1)).bind fun m4f=>
 if m4f=true then some (.error false) else some (.ok ()) else (if ¬r8a.2=0 then some (true) else (toN x0.Lo.Man.Abs).bind fun m5f=>
 (toN x0.Hi.Man.Abs).bind fun m6f=>
 (toN x2.Num.Abs).bind fun m7f=>
 (toN x2.Den).bind fun m8f=>
 (FA (⟨(⟨(⟨x0.Lo.Man.Neg,m5f⟩:Af),x0.Lo.Exp⟩:Ae),(⟨(⟨x0.Hi.Man.Neg,m6f⟩:Af),x0.Hi.Exp⟩:Ae)⟩:Aj) (⟨(⟨x2.Num.Neg,m7f⟩:Af),m8f⟩:BG)).bind fun r9f=>
 some (decide (¬r8a.1=r9f))).bind fun m0g=>
 if m0g=true then some (.error false) else some (.ok ())) fun (m9h:Unit)=>
 (Hf x0).bind fun r9a=>
 (HN x0).bind fun r0b=>
 if ¬(r7a=true) then (En).bind fun r1g=>
 (if r1g=true then some (decide (r9a.2=1)) else some (false)).bind fun m2g=>
 (if m2g=true then some (decide (r0b.2=1)) else some (false)).bind fun m3g=>
 (if m3g=true then some (decide (r0b.1=0)) else some (false)).bind fun m4g=>
 (if m4g=true then (BB r9a.1 (⟨(⟨false,0⟩:Af),0⟩:Ae)).bind fun r5g=>
 some (r5g) else some (false)).bind fun m6g=>
 some m6g else (En).bind fun r7g=>
 (if r7g=true then (toN x0.Lo.Man.Abs).bind fun m8g=>
 (CH (⟨(⟨x0.Lo.Man.Neg,m8g⟩:Af),x0.Lo.Exp⟩:Ae)).bind fun r9g=>
 (toN x0.Hi.Man.Abs).bind fun m0h=>
 (BI (⟨(⟨x0.Hi.Man.Neg,m0h⟩:Af),x0.Hi.Exp⟩:Ae) r9g).bind fun r1h=>
 (Fl r9a.1 r9a.2 0 r1h).bind fun r2h=>
 some (r2h) else some (false)).bind fun m3h=>
 (if m3h=true then some (decide (r0b.2=0)) else some (false)).bind fun m4h=>
 (if m4h=true then (toN x0.Lo.Man.Abs).bind fun m5h=>
 (toN x0.Hi.Man.Abs).bind fun m6h=>
 (Fb (⟨(⟨(⟨x0.Lo.Man.Neg,m5h⟩:Af),x0.Lo.Exp⟩:Ae),(⟨(⟨x0.Hi.Man.Neg,m6h⟩:Af),x0.Hi.Exp⟩:Ae)⟩:Aj)).bind fun r7h=>
 some (decide (r0b.1=r7h)) else some (false)).bind fun m8h=>
 some m8h
end Go.Proofs

