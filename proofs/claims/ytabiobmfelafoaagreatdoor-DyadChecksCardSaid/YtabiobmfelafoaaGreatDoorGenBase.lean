import Derived.Test.YtabiobmfelafoaaGreatDoorProg
import Derived.Test.YtabiobmfelafoaaGreatDoorCor
import Derived.Test.YtabiobmfelafoaaGreatDoorRow
import Derived.Test.YtabiobmfelafoaaGreatDoorDef1
import Derived.Test.YtabiobmfelafoaaGreatDoorLA
namespace Go.Proofs
set_option linter.unusedVariables false
set_option linter.unusedSimpArgs false
set_option maxHeartbeats 4000000
open Go.RowKit Go.Sb Go.Proofs.Sbn
structure AK where
 Neg:Bool
 Abs:List Int
structure Au where
 Man:AK
 Exp:Int
structure Av where
 Lo:Au
 Hi:Au
structure Ai where
 Neg:Bool
 Abs:Nat
structure Ak where
 Man:Ai
 Exp:Int
structure An where
 m:Ai
 e:Int
structure AC where
 Lo:Ak
 Hi:Ak
structure Ar where
 lo:An
 hi:An
structure Cw where
 Num:Ai
 Den:Nat
structure FW where
 Q:Nat
 R:Nat
structure Fb where
 D:Ak
 E:Int
theorem CI:agg Tryz.prog 29 6=true:=by kernel_rfl
theorem Il:fieldAt Tryz.prog 29 0=some 0:=by kernel_rfl
theorem BC:agg Tryz.prog 27 3=true:=by kernel_rfl
theorem Ig:fieldAt Tryz.prog 29 1=some 3:=by kernel_rfl
theorem GB:GE Tryz.prog 27 [.bool false,.slice none 0 0,.int .i64 0]:=Ew (by kernel_rfl)
theorem MW:Tryz.prog.underlying 46=some (.slice 27):=by kernel_rfl
theorem EU:DO Tryz.prog 27 3=true:=by kernel_rfl
theorem DM:fieldAt Tryz.prog 27 0=some 0:=by kernel_rfl
theorem BB:fieldAt Tryz.prog 25 1=some 1:=by kernel_rfl
theorem Dp:Kq Tryz.prog 23=true:=by kernel_rfl
theorem AJ:Tryz.prog.underlying 23=some (.slice 179):=by kernel_rfl
theorem DK:agg Tryz.prog 25 2=true:=by kernel_rfl
theorem en_143:Ent Tryz.prog 143:=ent Tryz.func143 (by kernel_rfl) rfl
theorem Et:fieldAt Tryz.prog 25 0=some 0:=by kernel_rfl
theorem Gf:Kq Tryz.prog 4=true:=by kernel_rfl
theorem OH:Ent Tryz.prog 61:=ent Tryz.func61 (by kernel_rfl) rfl
theorem DV:fieldAt Tryz.prog 27 1=some 2:=by kernel_rfl
theorem EA:Kq Tryz.prog 3=true:=by kernel_rfl
theorem Mr:Ent Tryz.prog 128:=ent Tryz.func128 (by kernel_rfl) rfl
theorem LA:Ent Tryz.prog 45:=ent Tryz.func45 (by kernel_rfl) rfl
theorem IE:GE Tryz.prog 25 [.bool false,.slice none 0 0]:=Ew (by kernel_rfl)
theorem it_3:Tryz.prog.underlying 3=some (.int .i64):=by kernel_rfl
theorem AM:Tryz.prog.underlying 148=some (.int .u64):=by kernel_rfl
theorem LJ:Ent Tryz.prog 179:=ent Tryz.func179 (by kernel_rfl) rfl
theorem GY:DO Tryz.prog 25 2=true:=by kernel_rfl
theorem JL:Ent Tryz.prog 178:=ent Tryz.func178 (by kernel_rfl) rfl
theorem OM:Ent Tryz.prog 96:=ent Tryz.func96 (by kernel_rfl) rfl
theorem Ky:GE Tryz.prog 33 [.int .i64 0]:=Ew (by kernel_rfl)
theorem Kr:Tryz.prog.underlying 20=some (.interface #[]):=by kernel_rfl
theorem LH:Mv Tryz.prog 201=true:=by kernel_rfl
theorem ML:GE Tryz.prog 201 [.int .i64 0]:=Ew (by kernel_rfl)
theorem Mo:DO Tryz.prog 201 1=true:=by kernel_rfl
theorem mo:Tryz.prog.follows .mixedOrders=true:=by kernel_rfl
theorem KM:fieldAt Tryz.prog 201 0=some 0:=by kernel_rfl
theorem Ef:Kq Tryz.prog 33=true:=by kernel_rfl
theorem Ij:DO Tryz.prog 33 1=true:=by kernel_rfl
theorem NP:Ent Tryz.prog 208:=ent Tryz.func208 (by kernel_rfl) rfl
theorem MQ:Ent Tryz.prog 151:=ent Tryz.func151 (by kernel_rfl) rfl
theorem EQ:Ent Tryz.prog 102:=ent Tryz.func102 (by kernel_rfl) rfl
theorem IQ:Ent Tryz.prog 135:=ent Tryz.func135 (by kernel_rfl) rfl
theorem GM:GE Tryz.prog 117 [.bool false,.slice none 0 0]:=Ew (by kernel_rfl)
theorem Ga:DO Tryz.prog 117 2=true:=by kernel_rfl
theorem DU:agg Tryz.prog 117 2=true:=by kernel_rfl
theorem NS:Ent Tryz.prog 137:=ent Tryz.func137 (by kernel_rfl) rfl
theorem Bj:GE Tryz.prog 119 [.bool false,.slice none 0 0,.int .i64 0]:=Ew (by kernel_rfl)
theorem Bn:fieldAt Tryz.prog 117 1=some 1:=by kernel_rfl
theorem Da:Kq Tryz.prog 115=true:=by kernel_rfl
theorem Ao:Tryz.prog.underlying 115=some (.slice 179):=by kernel_rfl
theorem CG:DO Tryz.prog 119 3=true:=by kernel_rfl
theorem en_213:Ent Tryz.prog 213:=ent Tryz.func213 (by kernel_rfl) rfl
theorem Ey:fieldAt Tryz.prog 117 0=some 0:=by kernel_rfl
theorem KO:Ent Tryz.prog 204:=ent Tryz.func204 (by kernel_rfl) rfl
theorem KS:Ent Tryz.prog 152:=ent Tryz.func152 (by kernel_rfl) rfl
theorem Cd:fieldAt Tryz.prog 119 0=some 0:=by kernel_rfl
theorem DA:fieldAt Tryz.prog 119 1=some 2:=by kernel_rfl
theorem MJ:Ent Tryz.prog 201:=ent Tryz.func201 (by kernel_rfl) rfl
theorem sz_115:DO Tryz.prog 115 1=true:=by kernel_rfl
theorem en_202:Ent Tryz.prog 202:=ent Tryz.func202 (by kernel_rfl) rfl
theorem IZ:Ent Tryz.prog 136:=ent Tryz.func136 (by kernel_rfl) rfl
theorem OP:Ent Tryz.prog 60:=ent Tryz.func60 (by kernel_rfl) rfl
theorem en_153:Ent Tryz.prog 153:=ent Tryz.func153 (by kernel_rfl) rfl
theorem MI:Ent Tryz.prog 154:=ent Tryz.func154 (by kernel_rfl) rfl
theorem NX:Ent Tryz.prog 62:=ent Tryz.func62 (by kernel_rfl) rfl
theorem Jc:Ent Tryz.prog 38:=ent Tryz.func38 (by kernel_rfl) rfl
theorem Ap:DO Tryz.prog 179 1=true:=by kernel_rfl
theorem Bg:Kq Tryz.prog 179=true:=by kernel_rfl
theorem Na:Ent Tryz.prog 64:=ent Tryz.func64 (by kernel_rfl) rfl
theorem LZ:Ent Tryz.prog 120:=ent Tryz.func120 (by kernel_rfl) rfl
theorem Je:Ent Tryz.prog 138:=ent Tryz.func138 (by kernel_rfl) rfl
theorem NZ:Ent Tryz.prog 139:=ent Tryz.func139 (by kernel_rfl) rfl
theorem Lj:Ent Tryz.prog 121:=ent Tryz.func121 (by kernel_rfl) rfl
theorem Kn:Ent Tryz.prog 184:=ent Tryz.func184 (by kernel_rfl) rfl
theorem IK:Ent Tryz.prog 185:=ent Tryz.func185 (by kernel_rfl) rfl
theorem Mu:Ent Tryz.prog 203:=ent Tryz.func203 (by kernel_rfl) rfl
theorem LX:Ent Tryz.prog 191:=ent Tryz.func191 (by kernel_rfl) rfl
theorem EM:GE Tryz.prog 179 [.int .u32 0]:=Ew (by kernel_rfl)
theorem KL:Ent Tryz.prog 205:=ent Tryz.func205 (by kernel_rfl) rfl
theorem en_206:Ent Tryz.prog 206:=ent Tryz.func206 (by kernel_rfl) rfl
theorem Mw:Ent Tryz.prog 207:=ent Tryz.func207 (by kernel_rfl) rfl
theorem KZ:Ent Tryz.prog 140:=ent Tryz.func140 (by kernel_rfl) rfl
theorem OK:Ent Tryz.prog 55:=ent Tryz.func55 (by kernel_rfl) rfl
theorem GO:GE Tryz.prog 29 [.bool false,.slice none 0 0,.int .i64 0,.bool false,.slice none 0 0,.int .i64 0]:=Ew (by kernel_rfl)
theorem Gi:DO Tryz.prog 29 6=true:=by kernel_rfl
theorem Kx:Ent Tryz.prog 97:=ent Tryz.func97 (by kernel_rfl) rfl
theorem Kh:Tryz.prog.underlying 230=some (.slice 29):=by kernel_rfl
theorem en_182:Ent Tryz.prog 182:=ent Tryz.func182 (by kernel_rfl) rfl
theorem IP:Ent Tryz.prog 103:=ent Tryz.func103 (by kernel_rfl) rfl
theorem NM:Ent Tryz.prog 187:=ent Tryz.func187 (by kernel_rfl) rfl
theorem ND:Ent Tryz.prog 122:=ent Tryz.func122 (by kernel_rfl) rfl
theorem en_192:Ent Tryz.prog 192:=ent Tryz.func192 (by kernel_rfl) rfl
theorem en_115:Ent Tryz.prog 115:=ent Tryz.func115 (by kernel_rfl) rfl
theorem Mx:Tryz.prog.underlying 4=some .bool:=by kernel_rfl
theorem en_196:Ent Tryz.prog 196:=ent Tryz.func196 (by kernel_rfl) rfl
theorem en_195:Ent Tryz.prog 195:=ent Tryz.func195 (by kernel_rfl) rfl
theorem en_194:Ent Tryz.prog 194:=ent Tryz.func194 (by kernel_rfl) rfl
theorem en_124:Ent Tryz.prog 124:=ent Tryz.func124 (by kernel_rfl) rfl
theorem IN:Ent Tryz.prog 106:=ent Tryz.func106 (by kernel_rfl) rfl
theorem Ow:Ent Tryz.prog 65:=ent Tryz.func65 (by kernel_rfl) rfl
theorem Kl:Ent Tryz.prog 162:=ent Tryz.func162 (by kernel_rfl) rfl
theorem HA:Ent Tryz.prog 161:=ent Tryz.func161 (by kernel_rfl) rfl
theorem Ol:GE Tryz.prog 121 [.bool false,.slice none 0 0,.int .i64 0,.bool false,.slice none 0 0,.int .i64 0]:=Ew (by kernel_rfl)
theorem Oj:DO Tryz.prog 121 6=true:=by kernel_rfl
theorem Jr:agg Tryz.prog 121 6=true:=by kernel_rfl
theorem Kg:Ent Tryz.prog 163:=ent Tryz.func163 (by kernel_rfl) rfl
theorem NJ:GE Tryz.prog 124 [.pointer none]:=Ew (by kernel_rfl)
theorem NF:Ent Tryz.prog 104:=ent Tryz.func104 (by kernel_rfl) rfl
theorem Ox:Ent Tryz.prog 183:=ent Tryz.func183 (by kernel_rfl) rfl
theorem Nx:Ent Tryz.prog 241:=ent Tryz.func241 (by kernel_rfl) rfl
theorem en_193:Ent Tryz.prog 193:=ent Tryz.func193 (by kernel_rfl) rfl
theorem Oi:Ent Tryz.prog 117:=ent Tryz.func117 (by kernel_rfl) rfl
theorem ER:Kq Tryz.prog 124=true:=by kernel_rfl
theorem LI:Tryz.prog.underlying 124=some (.pointer 121):=by kernel_rfl
theorem NG:DO Tryz.prog 124 1=true:=by kernel_rfl
theorem en_118:Ent Tryz.prog 118:=ent Tryz.func118 (by kernel_rfl) rfl
theorem Ki:Ent Tryz.prog 107:=ent Tryz.func107 (by kernel_rfl) rfl
theorem Oo:Ent Tryz.prog 116:=ent Tryz.func116 (by kernel_rfl) rfl
theorem Mz:Ent Tryz.prog 100:=ent Tryz.func100 (by kernel_rfl) rfl
theorem en_32:Ent Tryz.prog 32:=ent Tryz.func32 (by kernel_rfl) rfl
theorem MD:Ent Tryz.prog 144:=ent Tryz.func144 (by kernel_rfl) rfl
theorem OG:Ent Tryz.prog 86:=ent Tryz.func86 (by kernel_rfl) rfl
theorem Li:Ent Tryz.prog 37:=ent Tryz.func37 (by kernel_rfl) rfl
theorem NC:Ent Tryz.prog 76:=ent Tryz.func76 (by kernel_rfl) rfl
theorem Oq:Ent Tryz.prog 186:=ent Tryz.func186 (by kernel_rfl) rfl
theorem Dn:Ent Tryz.prog 105:=ent Tryz.func105 (by kernel_rfl) rfl
theorem NB:Ent Tryz.prog 101:=ent Tryz.func101 (by kernel_rfl) rfl
theorem OI:Ent Tryz.prog 21:=ent Tryz.func21 (by kernel_rfl) rfl
theorem en_190:Ent Tryz.prog 190:=ent Tryz.func190 (by kernel_rfl) rfl
theorem Nz:Ent Tryz.prog 111:=ent Tryz.func111 (by kernel_rfl) rfl
theorem Oc:Ent Tryz.prog 110:=ent Tryz.func110 (by kernel_rfl) rfl
theorem en_25:Ent Tryz.prog 25:=ent Tryz.func25 (by kernel_rfl) rfl
theorem Nn:Ent Tryz.prog 15:=ent Tryz.func15 (by kernel_rfl) rfl
theorem en_131:Ent Tryz.prog 131:=ent Tryz.func131 (by kernel_rfl) rfl
theorem en_47:Ent Tryz.prog 47:=ent Tryz.func47 (by kernel_rfl) rfl
theorem Kj:Ent Tryz.prog 148:=ent Tryz.func148 (by kernel_rfl) rfl
theorem NE:Ent Tryz.prog 130:=ent Tryz.func130 (by kernel_rfl) rfl
theorem en_189:Ent Tryz.prog 189:=ent Tryz.func189 (by kernel_rfl) rfl
theorem MK:Ent Tryz.prog 198:=ent Tryz.func198 (by kernel_rfl) rfl
theorem Np:Ent Tryz.prog 199:=ent Tryz.func199 (by kernel_rfl) rfl
theorem en_129:Ent Tryz.prog 129:=ent Tryz.func129 (by kernel_rfl) rfl
theorem en_46:Ent Tryz.prog 46:=ent Tryz.func46 (by kernel_rfl) rfl
theorem en_23:Ent Tryz.prog 23:=ent Tryz.func23 (by kernel_rfl) rfl
theorem en_83:Ent Tryz.prog 83:=ent Tryz.func83 (by kernel_rfl) rfl
theorem en_17:Ent Tryz.prog 17:=ent Tryz.func17 (by kernel_rfl) rfl
theorem en_18:Ent Tryz.prog 18:=ent Tryz.func18 (by kernel_rfl) rfl
theorem Ls:GE Tryz.prog 65 [.bool false,.slice none 0 0,.slice none 0 0]:=Ew (by kernel_rfl)
theorem Ms:Ent Tryz.prog 149:=ent Tryz.func149 (by kernel_rfl) rfl
theorem LF:GE Tryz.prog 171 [.slice none 0 0,.slice none 0 0]:=Ew (by kernel_rfl)
theorem Km:DO Tryz.prog 171 2=true:=by kernel_rfl
theorem fa_171_1:fieldAt Tryz.prog 171 1=some 1:=by kernel_rfl
theorem en_145:Ent Tryz.prog 145:=ent Tryz.func145 (by kernel_rfl) rfl
theorem Mp:Ent Tryz.prog 146:=ent Tryz.func146 (by kernel_rfl) rfl
theorem JD:DO Tryz.prog 65 3=true:=by kernel_rfl
theorem Mf:ME Tryz.prog 171 0=some 0:=by kernel_rfl
theorem IG:agg Tryz.prog 65 3=true:=by kernel_rfl
theorem en_160:Ent Tryz.prog 160:=ent Tryz.func160 (by kernel_rfl) rfl
theorem Ni:fieldAt Tryz.prog 65 0=some 0:=by kernel_rfl
theorem MX:fieldAt Tryz.prog 65 1=some 2:=by kernel_rfl
theorem NR:Ent Tryz.prog 147:=ent Tryz.func147 (by kernel_rfl) rfl
theorem KU:agg Tryz.prog 171 2=true:=by kernel_rfl
theorem Oa:Ent Tryz.prog 44:=ent Tryz.func44 (by kernel_rfl) rfl
theorem en_26:Ent Tryz.prog 26:=ent Tryz.func26 (by kernel_rfl) rfl
theorem Nu:GE Tryz.prog 154 [.bool false,.slice none 0 0,.int .i64 0,.int .i64 0]:=Ew (by kernel_rfl)
theorem Mq:DO Tryz.prog 154 4=true:=by kernel_rfl
theorem NV:agg Tryz.prog 154 4=true:=by kernel_rfl
theorem en_134:Ent Tryz.prog 134:=ent Tryz.func134 (by kernel_rfl) rfl
theorem fa_154_1:fieldAt Tryz.prog 154 1=some 3:=by kernel_rfl
theorem fa_154_0:fieldAt Tryz.prog 154 0=some 0:=by kernel_rfl
theorem en_50:Ent Tryz.prog 50:=ent Tryz.func50 (by kernel_rfl) rfl
theorem KX:Ent Tryz.prog 155:=ent Tryz.func155 (by kernel_rfl) rfl
theorem Mk:Tryz.prog.underlying 253=some (.slice 25):=by kernel_rfl
theorem en_270:Ent Tryz.prog 270:=ent Tryz.func270 (by kernel_rfl) rfl
theorem en_284:Ent Tryz.prog 284:=ent Tryz.func284 (by kernel_rfl) rfl
theorem en_269:Ent Tryz.prog 269:=ent Tryz.func269 (by kernel_rfl) rfl
theorem ni_274:Mv Tryz.prog 274=true:=by kernel_rfl
theorem LL:Ent Tryz.prog 248:=ent Tryz.func248 (by kernel_rfl) rfl
theorem NN:Ent Tryz.prog 247:=ent Tryz.func247 (by kernel_rfl) rfl
theorem zt_23:GE Tryz.prog 23 [.slice none 0 0]:=Ew (by kernel_rfl)
theorem MM:Tryz.prog.underlying 260=some (.slice 23):=by kernel_rfl
theorem NQ:DO Tryz.prog 23 1=true:=by kernel_rfl
theorem en_255:Ent Tryz.prog 255:=ent Tryz.func255 (by kernel_rfl) rfl
theorem en_274:Ent Tryz.prog 274:=ent Tryz.func274 (by kernel_rfl) rfl
theorem en_254:Ent Tryz.prog 254:=ent Tryz.func254 (by kernel_rfl) rfl
theorem ni_258:Mv Tryz.prog 258=true:=by kernel_rfl
theorem Jt:Ent Tryz.prog 224:=ent Tryz.func224 (by kernel_rfl) rfl
theorem Ot:Ent Tryz.prog 223:=ent Tryz.func223 (by kernel_rfl) rfl
theorem en_226:Ent Tryz.prog 226:=ent Tryz.func226 (by kernel_rfl) rfl
theorem FK:Tryz.prog.underlying 228=some (.slice 179):=by kernel_rfl
theorem en_256:Ent Tryz.prog 256:=ent Tryz.func256 (by kernel_rfl) rfl
theorem Nr:Ent Tryz.prog 225:=ent Tryz.func225 (by kernel_rfl) rfl
theorem Oy:Ent Tryz.prog 222:=ent Tryz.func222 (by kernel_rfl) rfl
theorem NW:Ent Tryz.prog 158:=ent Tryz.func158 (by kernel_rfl) rfl
theorem Iv:Ent Tryz.prog 218:=ent Tryz.func218 (by kernel_rfl) rfl
theorem Ns:Ent Tryz.prog 219:=ent Tryz.func219 (by kernel_rfl) rfl
theorem en_220:Ent Tryz.prog 220:=ent Tryz.func220 (by kernel_rfl) rfl
theorem en_221:Ent Tryz.prog 221:=ent Tryz.func221 (by kernel_rfl) rfl
theorem Mm:Ent Tryz.prog 217:=ent Tryz.func217 (by kernel_rfl) rfl
theorem MC:Ent Tryz.prog 157:=ent Tryz.func157 (by kernel_rfl) rfl
theorem Ml:Ent Tryz.prog 216:=ent Tryz.func216 (by kernel_rfl) rfl
theorem Nt:Ent Tryz.prog 215:=ent Tryz.func215 (by kernel_rfl) rfl
theorem en_246:Ent Tryz.prog 246:=ent Tryz.func246 (by kernel_rfl) rfl
theorem en_214:Ent Tryz.prog 214:=ent Tryz.func214 (by kernel_rfl) rfl
theorem en_156:Ent Tryz.prog 156:=ent Tryz.func156 (by kernel_rfl) rfl
theorem en_63:Ent Tryz.prog 63:=ent Tryz.func63 (by kernel_rfl) rfl
theorem OD:Ent Tryz.prog 66:=ent Tryz.func66 (by kernel_rfl) rfl
theorem en_159:Ent Tryz.prog 159:=ent Tryz.func159 (by kernel_rfl) rfl
theorem en_67:Ent Tryz.prog 67:=ent Tryz.func67 (by kernel_rfl) rfl
def Ff (_w:World) (r:Bool) (v:Value):Prop:=v = .bool r
def IH (w:World) (r:Ai) (v:Value):Prop:=∃(A1:Option Addr) (c1:Nat),v = .agg #[.bool r.Neg,.slice A1 (sz r.Abs) c1]∧RU w A1 c1 r.Abs
def Ln (w:World) (r:Ak × Int) (v:Value):Prop:=∃(A1:Option Addr) (c1:Nat),v = .tuple #[.agg #[.bool r.1.Man.Neg,.slice A1 (sz r.1.Man.Abs) c1,.int .i64 r.1.Exp],.int .i64 r.2]∧RU w A1 c1 r.1.Man.Abs
def JX (_w:World) (_r:Unit) (v:Value):Prop:=v = .tuple #[]
def JS (w:World) (r:Ai) (v:Value):Prop:=∃(A1:Option Addr) (c1:Nat),v = .agg #[.bool r.Neg,.slice A1 (sz r.Abs) c1]∧RU w A1 c1 r.Abs
def Hm (w:World) (r:An) (v:Value):Prop:=∃(A1:Option Addr) (c1:Nat),v = .agg #[.bool r.m.Neg,.slice A1 (sz r.m.Abs) c1,.int .i64 r.e]∧RU w A1 c1 r.m.Abs
def KW (w:World) (r:Ak) (v:Value):Prop:=∃(A1:Option Addr) (c1:Nat),v = .agg #[.bool r.Man.Neg,.slice A1 (sz r.Man.Abs) c1,.int .i64 r.Exp]∧RU w A1 c1 r.Man.Abs
def Lb (w:World) (r:AC) (v:Value):Prop:=∃(A1:Option Addr) (c1:Nat) (A2:Option Addr) (c2:Nat),v = .agg #[.bool r.Lo.Man.Neg,.slice A1 (sz r.Lo.Man.Abs) c1,.int .i64 r.Lo.Exp,.bool r.Hi.Man.Neg,.slice A2 (sz r.Hi.Man.Abs) c2,.int .i64 r.Hi.Exp]∧RU w A1 c1 r.Lo.Man.Abs∧RU w A2 c2 r.Hi.Man.Abs
def HQ (w:World) (r:AC × Int) (v:Value):Prop:=∃(A1:Option Addr) (c1:Nat) (A2:Option Addr) (c2:Nat),v = .tuple #[.agg #[.bool r.1.Lo.Man.Neg,.slice A1 (sz r.1.Lo.Man.Abs) c1,.int .i64 r.1.Lo.Exp,.bool r.1.Hi.Man.Neg,.slice A2 (sz r.1.Hi.Man.Abs) c2,.int .i64 r.1.Hi.Exp],.int .i64 r.2]∧RU w A1 c1 r.1.Lo.Man.Abs∧RU w A2 c2 r.1.Hi.Man.Abs
def Gc (_w:World) (r:Int) (v:Value):Prop:=v = .int .i64 r
def Nb (w:World) (r:Ar) (v:Value):Prop:=∃(A1:Option Addr) (c1:Nat) (A2:Option Addr) (c2:Nat),v = .agg #[.bool r.lo.m.Neg,.slice A1 (sz r.lo.m.Abs) c1,.int .i64 r.lo.e,.bool r.hi.m.Neg,.slice A2 (sz r.hi.m.Abs) c2,.int .i64 r.hi.e]∧RU w A1 c1 r.lo.m.Abs∧RU w A2 c2 r.hi.m.Abs
def Ks (w:World) (r:Nat × Nat) (v:Value):Prop:=∃(A1:Option Addr) (c1:Nat) (A2:Option Addr) (c2:Nat),v = .tuple #[.slice A1 (sz r.1) c1,.slice A2 (sz r.2) c2]∧RU w A1 c1 r.1∧RU w A2 c2 r.2
def rep_33 (_w:World) (r:Int) (v:Value):Prop:=v = .int .i64 r
def MF (w:World) (r:Cw) (v:Value):Prop:=∃(A1:Option Addr) (c1:Nat) (A2:Option Addr) (c2:Nat),v = .agg #[.bool r.Num.Neg,.slice A1 (sz r.Num.Abs) c1,.slice A2 (sz r.Den) c2]∧RU w A1 c1 r.Num.Abs∧RU w A2 c2 r.Den
def Iq (w:World) (r:Nat) (v:Value):Prop:=∃(A1:Option Addr) (c1:Nat),v = .slice A1 (sz r) c1∧RU w A1 c1 r
def rep_171 (w:World) (r:FW) (v:Value):Prop:=∃(A1:Option Addr) (c1:Nat) (A2:Option Addr) (c2:Nat),v = .agg #[.slice A1 (sz r.Q) c1,.slice A2 (sz r.R) c2]∧RU w A1 c1 r.Q∧RU w A2 c2 r.R
def rep_154 (w:World) (r:Fb) (v:Value):Prop:=∃(A1:Option Addr) (c1:Nat),v = .agg #[.bool r.D.Man.Neg,.slice A1 (sz r.D.Man.Abs) c1,.int .i64 r.D.Exp,.int .i64 r.E]∧RU w A1 c1 r.D.Man.Abs
def rep_65_33 (w:World) (r:Cw × Int) (v:Value):Prop:=∃(A1:Option Addr) (c1:Nat) (A2:Option Addr) (c2:Nat),v = .tuple #[.agg #[.bool r.1.Num.Neg,.slice A1 (sz r.1.Num.Abs) c1,.slice A2 (sz r.1.Den) c2],.int .i64 r.2]∧RU w A1 c1 r.1.Num.Abs∧RU w A2 c2 r.1.Den
def Lz (w:World) (r:Ai × Int) (v:Value):Prop:=∃(A1:Option Addr) (c1:Nat),v = .tuple #[.agg #[.bool r.1.Neg,.slice A1 (sz r.1.Abs) c1],.int .i64 r.2]∧RU w A1 c1 r.1.Abs
def Jy (w:World) (r:Nat × Int) (v:Value):Prop:=∃(A1:Option Addr) (c1:Nat),v = .tuple #[.slice A1 (sz r.1) c1,.int .i64 r.2]∧RU w A1 c1 r.1
def KJ (_w:World) (r:Int) (v:Value):Prop:=v = .int .u64 r
def JB (w:World) (r:Nat) (v:Value):Prop:=∃(A1:Option Addr) (c1:Nat),v = .slice A1 (sz r) c1∧RU w A1 c1 r
def MY (w:World) (r:Nat) (v:Value):Prop:=∃(A1:Option Addr) (c1:Nat),v = .slice A1 (sz r) c1∧RU w A1 c1 r
abbrev Bm (x0:List Int):Option (Bool):=Lf.Bm x0
abbrev BL (x0:List Int) (x1:Int):Option (Int):=Lf.BL x0 x1
def Cl (x0:Int):Option (Nat):=(gd (0≤x0∧x0<18446744073709551616)).bind fun _=>some (x0.toNat)
abbrev FA (x0:List Int):Option (Bool):=Lf.FA x0
def CC (x0:Nat):Option (Int):=(gd (sz x0<1073741824)).bind fun _=>some (Lf.tz x0:Int)
def Ck (x0:Nat) (x1:Int):Option (Nat):=(gd (sz x0<1073741824∧0≤x1∧x1<9223372036854775808)).bind fun _=>some (x0/2^x1.toNat)
def CL (x0:Nat):Option (Nat):=(gd (sz x0<1073741824)).bind fun _=>some (x0)
def BG (x0:Nat):Option (Int):=(gd (sz x0<1073741824)).bind fun _=>some (Lf.tz x0:Int)
def BJ (x0:Nat) (x1:Int):Option (Nat):=(gd (sz x0<1073741824∧0≤x1∧x1<9223372036854775808)).bind fun _=>some (x0/2^x1.toNat)
def Bz (x0:Nat):Option (Int):=(gd (sz x0<1073741824)).bind fun _=>some (Lf.bl x0:Int)
def Bp (x0:Nat) (x1:Int):Option (Nat):=(gd (sz x0<1073741824∧0≤x1∧x1<34359738368)).bind fun _=>some (x0*2^x1.toNat)
def Cj (x0:Nat) (x1:Nat):Option (Nat):=(gd (sz x0<1073741824∧sz x1<1073741824∧x1≤x0)).bind fun _=>some (x0 - x1)
def Ci (x0:Nat) (x1:Nat):Option (Int):=(gd (sz x0<1073741824∧sz x1<1073741824)).bind fun _=>some (Lf.cmpw x0 x1)
def Cx (x0:Nat) (x1:Nat):Option (Nat):=(gd (sz x0<1073741824∧sz x1<1073741824)).bind fun _=>some (x0+x1)
def CQ (x0:Nat) (x1:Nat):Option (Nat):=(gd (sz x0<1073741824∧sz x1<1073741824)).bind fun _=>some (x0*x1)
abbrev AN (x0:List Int) (x1:List Int):Option (Bool):=Lf.AN x0 x1
def CV (x0:Nat) (x1:Nat):Option (Nat × Nat):=(gd (sz x0<1073741824∧sz x1<1073741824∧x1≠0)).bind fun _=>some (x0/x1,x0%x1)
def Be (x0:Nat) (x1:Int):Option (Nat):=(gd (sz x0<1073741824∧0≤x1∧x1<34359738368)).bind fun _=>some (x0*2^x1.toNat)
def Bv (x0:Nat) (x1:Nat):Option (Nat):=(gd (sz x0<1073741824∧sz x1<1073741824)).bind fun _=>some (x0+x1)
def Bu (x0:Nat) (x1:Nat):Option (Int):=(gd (sz x0<1073741824∧sz x1<1073741824)).bind fun _=>some (Lf.sgnc x0 x1)
def BK (x0:Nat) (x1:Nat):Option (Nat):=(gd (sz x0<1073741824∧sz x1<1073741824∧x1≤x0)).bind fun _=>some (x0 - x1)
def Bd (x0:Nat) (x1:Nat):Option (FW):=(gd (sz x0<1073741824∧sz x1<1073741824∧x1≠0)).bind fun _=>some (⟨x0/x1,x0%x1⟩)
def BR (x0:Nat):Option (Int):=(gd (sz x0<1073741824)).bind fun _=>some (Lf.bl x0:Int)
def Ds (x0:Nat) (x1:Int):Option (Nat):=(gd (sz x0<1073741824∧0≤x1∧x1<34359738368)).bind fun _=>some (x0*2^x1.toNat)
def Eh (x0:Nat):Option (Nat):=(gd (sz x0<1073741824)).bind fun _=>some (x0)
def JA (x0:Nat) (x1:Int):Option (Nat × Int):=(gd (False)).bind fun _=>some (0,0)
def Kp (x0:Nat) (x1:Nat):Option (Nat × Int):=(gd (False)).bind fun _=>some (0,0)
def Ke (x0:Nat) (x1:Nat):Option (Nat × Int):=(gd (False)).bind fun _=>some (0,0)
def BX (x0:Nat):Option (Nat):=(gd (sz x0<1073741824)).bind fun _=>some (x0)
def BP (x0:AK):Option (Bool):=
 (Bm x0.Abs).bind fun r0a=>
 (if r0a=true then (if ¬(x0.Neg=true) then some (true) else some (decide (0<(x0.Abs.length:Int)))).bind fun m1a=>
 some (m1a) else some (false)).bind fun m2a=>
 some m2a
def Bb (x0:Au):Option (Bool):=
 (BP x0.Man).bind fun r0a=>
 if ¬(r0a=true) then some false else if (x0.Man.Abs.length:Int)=0 then some (decide (x0.Exp=0)) else (BL x0.Man.Abs 0).bind fun r1a=>
 (if r1a=1 then some (decide ((-1048576)≤x0.Exp)) else some (false)).bind fun m2a=>
 (if m2a=true then some (decide (x0.Exp≤1048576)) else some (false)).bind fun m3a=>
 some m3a
def AP (x0:Bool) (x1:Nat):Option (Ai):=
 (if x0=true then some (decide (0<(sz x1:Int))) else some (false)).bind fun m0a=>
 some (⟨m0a,x1⟩:Ai)
def EY (x0:Int):Option (Ai):=
 if x0<0 then (Cl (wu64 (wi64 (-x0)))).bind fun r0a=>
 (AP true r0a).bind fun r1a=>
 some r1a else (Cl (wu64 x0)).bind fun r2a=>
 (AP false r2a).bind fun r3a=>
 some r3a
def CB (x0:AK):Option (Bool):=
 (FA x0.Abs).bind fun r0a=>
 (if r0a=true then (if ¬(x0.Neg=true) then some (true) else some (decide (0<(x0.Abs.length:Int)))).bind fun m1a=>
 some (m1a) else some (false)).bind fun m2a=>
 some m2a
def Co (x0:Bool) (x1:Int):M (Unit):=
 if ¬(x0=true) then some (.error x1) else some (.ok ())
def Hx (x0:Ai):Option (Ai):=
 some x0
def DI (x0:Ai) (x1:Int):Option (An):=
 if (sz x0.Abs:Int)=0 then some (⟨(⟨false,0⟩:Ai),0⟩:An) else (CC x0.Abs).bind fun r0a=>
 (Ck x0.Abs r0a).bind fun r1a=>
 some (⟨(⟨x0.Neg,r1a⟩:Ai),(wi64 (x1+r0a))⟩:An)
def GX (x0:Ai):Option (Ai):=
 (if x0.Neg=true then some (decide (0<(sz x0.Abs:Int))) else some (false)).bind fun m0a=>
 some (⟨m0a,x0.Abs⟩:Ai)
def DL (x0:An):M (Ak):=
 (if (sz x0.m.Abs:Int)≤1024 then some (decide (x0.e≤1048576)) else some (false)).bind fun m0a=>
 (if m0a=true then some (decide ((-1048576)≤x0.e)) else some (false)).bind fun m1a=>
 mb (Co m1a 2) fun r4a=>
 (CL x0.m.Abs).bind fun r2a=>
 (GX (⟨x0.m.Neg,r2a⟩:Ai)).bind fun r3a=>
 some (.ok (⟨r3a,x0.e⟩:Ak))
def HN (x0:AK) (x1:Int):M (Ak × Int):=
 (CB x0).bind fun r0a=>
 mb (Co r0a 1) fun r5a=>
 if (x0.Abs.length:Int)=0 then some (.ok ((⟨(⟨false,0⟩:Ai),0⟩:Ak),0)) else (toN x0.Abs).bind fun m1a=>
 (Hx (⟨x0.Neg,m1a⟩:Ai)).bind fun r2a=>
 (DI r2a (max (-1099511627776) (min x1 1099511627776))).bind fun r3a=>
 mb (DL r3a) fun r4a=>
 some (.ok (r4a,0))
def EC (x0:AK) (x1:Int):Option (Ak × Int):=(HN x0 x1).bind fun q=>match q with | .ok r=>some r | .error n=>some ((⟨(⟨false,0⟩:Ai),0⟩:Ak),n)
def BZ (x0:Ai) (x1:Int):Option (Ak):=
 if (sz x0.Abs:Int)=0 then some (⟨(⟨false,0⟩:Ai),0⟩:Ak) else (BG x0.Abs).bind fun r0a=>
 (BJ x0.Abs r0a).bind fun r1a=>
 some (⟨(⟨x0.Neg,r1a⟩:Ai),(wi64 (x1+r0a))⟩:Ak)
def Ba (x0:Int) (x1:Int):Option (Ak):=
 (EY x0).bind fun r7=>
 (BZ r7 x1).bind fun r0a=>
 some r0a
def DQ (x0:Au):Option (Bool):=
 (CB x0.Man).bind fun r0a=>
 if ¬(r0a=true) then some false else if (x0.Man.Abs.length:Int)=0 then some (decide (x0.Exp=0)) else (nth x0.Man.Abs 0).bind fun u1a=>
 (if (u1a%2)=1 then some (decide (x0.Exp≤1048576)) else some (false)).bind fun m2a=>
 (if m2a=true then some (decide ((-1048576)≤x0.Exp)) else some (false)).bind fun m3a=>
 some m3a
def Eu (x0_0:Au):M (Unit):=
 (DQ x0_0).bind fun r0a=>
 mb (Co r0a 1) fun r1a=>
 some (.ok ())
def GQ (x0:Int):M (Unit):=
 (if 1≤x0 then some (decide (x0≤4096)) else some (false)).bind fun m8=>
 mb (Co m8 1) fun r0a=>
 some (.ok ())
def HB (x0:Int):M (Unit):=
 (if 1≤x0 then some (decide (x0≤5)) else some (false)).bind fun m8=>
 mb (Co m8 1) fun r0a=>
 some (.ok ())
def GR (x0:Ak):Option (An):=
 (Hx x0.Man).bind fun r0a=>
 some (⟨r0a,x0.Exp⟩:An)
def Fl (x0:Ai) (x1:Int):Option (Ai):=
 (Bp x0.Abs x1).bind fun r0a=>
 some (⟨x0.Neg,r0a⟩:Ai)
def Js (x0:Bool) (x1:Int) (x2:Bool) (x3:Bool) (x4:Int):Option (Bool):=
 if x0=true then some false else if x4=1 then (if 0<x1 then some (true) else (if x1=0 then some (x2) else some (false)).bind fun m0a=>
 some (m0a)).bind fun m1a=>
 some m1a else if x4=2 then some (decide (0≤x1)) else if x4=4 then some (decide (¬(x3=true))) else if x4=5 then some x3 else some false
def DZ (x0:An) (x1:Int) (x2:Int) (x3:Bool):Option (An):=
 (Bz x0.m.Abs).bind fun r1a=>
 (if (wi64 (r1a - x1))≤0 then some (decide (¬(x3=true))) else some (false)).bind fun m6a=>
 if m6a=true then (DI x0.m x0.e).bind fun r7a=>
 some r7a else (if (wi64 (r1a - x1))<2 then (Fl x0.m (wi64 (2 - (wi64 (r1a - x1))))).bind fun r3a=>
 some (2,r3a.Neg,r3a.Abs,(wi64 ((wi64 (x0.e - 2))+(wi64 (r1a - x1))))) else some ((wi64 (r1a - x1)),x0.m.Neg,x0.m.Abs,x0.e)).bind fun m0a=>
 (Ck m0a.2.2.1 m0a.1).bind fun r2a=>
 (Bp r2a m0a.1).bind fun r8a=>
 (Cj m0a.2.2.1 r8a).bind fun r4a=>
 (if (sz r4a:Int)=0 then some (decide (¬(x3=true))) else some (false)).bind fun m9a=>
 (Bp 1 (wi64 (m0a.1 - 1))).bind fun r0b=>
 (Ci r4a r0b).bind fun r5a=>
 (if r5a=0 then some (x3) else some (false)).bind fun m1b=>
 (if m1b=true then some (1) else some (r5a)).bind fun m2b=>
 (if 0<(sz r2a:Int) then (nth (limbs r2a) 0).bind fun u3b=>
 some (decide ((u3b%2)=1)) else some (false)).bind fun m4b=>
 (Js m9a m2b m4b m0a.2.1 x2).bind fun r5b=>
 (if r5b=true then (Cx r2a 1).bind fun r6b=>
 some (r6b) else some (r2a)).bind fun m7b=>
 (DI (⟨m0a.2.1,m7b⟩:Ai) (wi64 (m0a.2.2.2+m0a.1))).bind fun r8b=>
 some r8b
def JH (x0:Au) (x1:Int) (x2:Int):M (Ak × Int):=
 mb (Eu x0) fun r4a=>
 mb (GQ x1) fun r5a=>
 mb (HB x2) fun r6a=>
 (toN x0.Man.Abs).bind fun m0a=>
 (GR (⟨(⟨x0.Man.Neg,m0a⟩:Ai),x0.Exp⟩:Ak)).bind fun r1a=>
 (DZ r1a x1 x2 false).bind fun r2a=>
 mb (DL r2a) fun r3a=>
 some (.ok (r3a,0))
def HL (x0:Au) (x1:Int) (x2:Int):Option (Ak × Int):=(JH x0 x1 x2).bind fun q=>match q with | .ok r=>some r | .error n=>some ((⟨(⟨false,0⟩:Ai),0⟩:Ak),n)
def BQ (x0:Int) (x1:Int):Option (AC):=
 (Ba x0 0).bind fun r7=>
 (Ba x1 0).bind fun r0a=>
 some (⟨r7,r0a⟩:AC)
def GI (x0:Ai):Option (Int):=
 if (sz x0.Abs:Int)=0 then some 0 else if x0.Neg=true then some (-1) else some 1
def Bw (x0:An):Option (Int):=
 (GI x0.m).bind fun r0a=>
 some r0a
def Fu (x0:Int) (x1:Int):Option (Int):=
 if x0<x1 then some (-1) else if x1<x0 then some 1 else some 0
def Gk (x0:An):Option (Int):=
 (Bz x0.m.Abs).bind fun r0a=>
 some (wi64 ((wi64 (r0a - 1))+x0.e))
def Gv (x0:Ai):Option (Ai):=
 some (⟨(decide (¬(x0.Neg=true))),x0.Abs⟩:Ai)
def Gw (x0:An):Option (An):=
 (Gv x0.m).bind fun r0a=>
 some (⟨r0a,x0.e⟩:An)
def Hf (x0:Ai) (x1:Ai):Option (Ai):=
 if x0.Neg=x1.Neg then (Cx x0.Abs x1.Abs).bind fun r0a=>
 some (⟨x0.Neg,r0a⟩:Ai) else (Ci x0.Abs x1.Abs).bind fun r1a=>
 if 0≤r1a then (Cj x0.Abs x1.Abs).bind fun r2a=>
 some (⟨x0.Neg,r2a⟩:Ai) else (Cj x1.Abs x0.Abs).bind fun r3a=>
 some (⟨x1.Neg,r3a⟩:Ai)
def Ge (x0:Ai) (x1:Ai) (x2:Int):Option (An):=
 (Hf x0 x1).bind fun r0a=>
 (DI r0a x2).bind fun r1a=>
 some r1a
def CM (x0:An) (x1:An):Option (An):=
 (if (sz x0.m.Abs:Int)=0 then some (x1.e) else some (min x0.e x1.e)).bind fun m5a=>
 (if (sz x1.m.Abs:Int)=0 then some (x0.e) else some (m5a)).bind fun m0a=>
 (if 0<(sz x0.m.Abs:Int) then (Fl x0.m (wi64 (x0.e - m0a))).bind fun r1a=>
 some (r1a.Neg,r1a.Abs) else some (x0.m.Neg,x0.m.Abs)).bind fun m2a=>
 (if 0<(sz x1.m.Abs:Int) then (Fl x1.m (wi64 (x1.e - m0a))).bind fun r3a=>
 some (r3a.Neg,r3a.Abs) else some (x1.m.Neg,x1.m.Abs)).bind fun m4a=>
 (Ge (⟨m2a.1,m2a.2⟩:Ai) (⟨m4a.1,m4a.2⟩:Ai) m0a).bind fun r6a=>
 some r6a
def FS (x0:An) (x1:An):Option (An):=
 (CM x0 x1).bind fun r0a=>
 some r0a
def Ca (x0:An) (x1:An):Option (Int):=
 (Bw x0).bind fun r0a=>
 (Bw x1).bind fun r1a=>
 (if ¬r0a=r1a then some (true) else some (decide (r0a=0))).bind fun m4a=>
 if m4a=true then (Fu r0a r1a).bind fun r5a=>
 some r5a else (Gk x0).bind fun r2a=>
 (Gk x1).bind fun r3a=>
 if ¬r2a=r3a then (Bw x0).bind fun r6a=>
 (Fu r2a r3a).bind fun r7a=>
 some (wi64 (r6a*r7a)) else (Gw x1).bind fun r8a=>
 (FS x0 r8a).bind fun r9a=>
 (Bw r9a).bind fun r0b=>
 some r0b
def Fe (x0:Av):Option (Bool):=
 (DQ x0.Lo).bind fun r0a=>
 if r0a=true then (DQ x0.Hi).bind fun r1a=>
 if r1a=true then (toN x0.Lo.Man.Abs).bind fun m2a=>
 (GR (⟨(⟨x0.Lo.Man.Neg,m2a⟩:Ai),x0.Lo.Exp⟩:Ak)).bind fun r3a=>
 (toN x0.Hi.Man.Abs).bind fun m4a=>
 (GR (⟨(⟨x0.Hi.Man.Neg,m4a⟩:Ai),x0.Hi.Exp⟩:Ak)).bind fun r5a=>
 (Ca r3a r5a).bind fun r6a=>
 some (decide (r6a≤0)) else some false else some false
def Fw (x0_0:Av) (x0_1:Av):M (Unit):=
 (Fe x0_0).bind fun r0a=>
 mb (Co r0a 1) fun r2a=>
 (Fe x0_1).bind fun r1a=>
 mb (Co r1a 1) fun r3a=>
 some (.ok ())
def ED (x0:AC):Option (Ar):=
 (GR x0.Lo).bind fun r0a=>
 (GR x0.Hi).bind fun r1a=>
 some (⟨r0a,r1a⟩:Ar)
def HT (x0:Ai) (x1:Ai):Option (Ai):=
 (CQ x0.Abs x1.Abs).bind fun r0a=>
 some (⟨(decide (¬x0.Neg=x1.Neg)),r0a⟩:Ai)
def Gx (x0:An) (x1:An):Option (An):=
 (HT x0.m x1.m).bind fun r0a=>
 (DI r0a (wi64 (x0.e+x1.e))).bind fun r1a=>
 some r1a
def GC (x0:Ar) (x1:Int):Option (Ar):=
 (DZ x0.lo x1 5 false).bind fun r0a=>
 (DZ x0.hi x1 4 false).bind fun r1a=>
 some (⟨r0a,r1a⟩:Ar)
def FP (x0:Ar):M (AC):=
 mb (DL x0.lo) fun r0a=>
 mb (DL x0.hi) fun r1a=>
 some (.ok (⟨r0a,r1a⟩:AC))
def IS (x0:Ar) (x1:Ar) (x2:Int) (x y:An):Option Ar:=
 (Gx x y).bind fun r0a=>
 (Ca r0a r0a).bind fun r1a=>
 (if r1a<0 then some () else some ()).bind fun m3a=>
 (Ca r0a r0a).bind fun r2a=>
 (if 0<r2a then some () else some ()).bind fun m4a=>
 some (⟨r0a,r0a⟩:Ar)
def FN (x0:Ar) (x1:Ar) (x2:Int) (sr:Ar) (x y:An):Option Ar:=
 (Gx x y).bind fun r0a=>
 (Ca r0a sr.lo).bind fun r3a=>
 (if r3a<0 then some (r0a.m.Neg,r0a.m.Abs,r0a.e) else some (sr.lo.m.Neg,sr.lo.m.Abs,sr.lo.e)).bind fun m1a=>
 (Ca r0a sr.hi).bind fun r4a=>
 (if 0<r4a then some (r0a.m.Neg,r0a.m.Abs,r0a.e) else some (sr.hi.m.Neg,sr.hi.m.Abs,sr.hi.e)).bind fun m2a=>
 some (⟨(⟨(⟨m1a.1,m1a.2.1⟩:Ai),m1a.2.2⟩:An),(⟨(⟨m2a.1,m2a.2.1⟩:Ai),m2a.2.2⟩:An)⟩:Ar)
def HY (x0:Ar) (x1:Ar) (x2:Int):M (AC):=
 (IS x0 x1 x2 x0.lo x1.lo).bind fun s0a=>
 (FN x0 x1 x2 s0a x0.lo x1.hi).bind fun s1a=>
 (FN x0 x1 x2 s1a x0.hi x1.lo).bind fun s2a=>
 (FN x0 x1 x2 s2a x0.hi x1.hi).bind fun s3a=>
 (GC s3a x2).bind fun r4a=>
 mb (FP r4a) fun r5a=>
 some (.ok r5a)
def Fi (x0:Av) (x1:Av) (x2:Int):M (AC × Int):=
 mb (Fw x0 x1) fun r7a=>
 mb (GQ x2) fun r8a=>
 (toN x0.Lo.Man.Abs).bind fun m0a=>
 (toN x0.Hi.Man.Abs).bind fun m1a=>
 (ED (⟨(⟨(⟨x0.Lo.Man.Neg,m0a⟩:Ai),x0.Lo.Exp⟩:Ak),(⟨(⟨x0.Hi.Man.Neg,m1a⟩:Ai),x0.Hi.Exp⟩:Ak)⟩:AC)).bind fun r2a=>
 (toN x1.Lo.Man.Abs).bind fun m3a=>
 (toN x1.Hi.Man.Abs).bind fun m4a=>
 (ED (⟨(⟨(⟨x1.Lo.Man.Neg,m3a⟩:Ai),x1.Lo.Exp⟩:Ak),(⟨(⟨x1.Hi.Man.Neg,m4a⟩:Ai),x1.Hi.Exp⟩:Ak)⟩:AC)).bind fun r5a=>
 mb (HY r2a r5a x2) fun r6a=>
 some (.ok (r6a,0))
def Eb (x0:Av) (x1:Av) (x2:Int):Option (AC × Int):=(Fi x0 x1 x2).bind fun q=>match q with | .ok r=>some r | .error n=>some ((⟨(⟨(⟨false,0⟩:Ai),0⟩:Ak),(⟨(⟨false,0⟩:Ai),0⟩:Ak)⟩:AC),n)
def IJ (x0:Av) (x1:Av) (x2:Int):Option (AC × Int):=
 (Eb x0 x1 x2).bind fun r0a=>
 some (r0a.1,r0a.2)
def Dd (x0:Ai) (x1:Ai):Option (Bool):=
 (if x0.Neg=x1.Neg then (AN (limbs x0.Abs) (limbs x1.Abs)).bind fun r0a=>
 some (r0a) else some (false)).bind fun m1a=>
 some m1a
def Bh (x0:Ak) (x1:Ak):Option (Bool):=
 (Dd x0.Man x1.Man).bind fun r0a=>
 (if r0a=true then some (decide (x0.Exp=x1.Exp)) else some (false)).bind fun m1a=>
 some m1a
def Dy (x0:AC) (x1:AC):Option (Bool):=
 (Bh x0.Lo x1.Lo).bind fun r0a=>
 (if r0a=true then (Bh x0.Hi x1.Hi).bind fun r1a=>
 some (r1a) else some (false)).bind fun m2a=>
 some m2a
def ET (x0:An) (x1:An) (x2:Int) (x3:Int):Option (An):=
 (Bw x0).bind fun r3a=>
 if r3a=0 then some (⟨(⟨false,0⟩:Ai),0⟩:An) else (Bz x1.m.Abs).bind fun r0a=>
 (Bz x0.m.Abs).bind fun r1a=>
 (Bp x0.m.Abs (max 0 (wi64 ((wi64 ((wi64 (x2+2))+r0a)) - r1a)))).bind fun r4a=>
 (CV r4a x1.m.Abs).bind fun r2a=>
 (DZ (⟨(⟨(decide (¬x0.m.Neg=x1.m.Neg)),r2a.1⟩:Ai),(wi64 ((wi64 (x0.e - x1.e)) - (max 0 (wi64 ((wi64 ((wi64 (x2+2))+r0a)) - r1a)))))⟩:An) x2 x3 (decide (0<(sz r2a.2:Int)))).bind fun r5a=>
 some r5a
def Jp (x0:Ar) (x1:Ar) (x2:Int) (x y:An):Option Ar:=
 (ET x y x2 5).bind fun r0a=>
 (ET x y x2 4).bind fun r1a=>
 (Ca r0a r0a).bind fun r2a=>
 (if r2a<0 then some () else some ()).bind fun m4a=>
 (Ca r1a r1a).bind fun r3a=>
 (if 0<r3a then some () else some ()).bind fun m5a=>
 some (⟨r0a,r1a⟩:Ar)
def Gp (x0:Ar) (x1:Ar) (x2:Int) (sr:Ar) (x y:An):Option Ar:=
 (ET x y x2 5).bind fun r0a=>
 (ET x y x2 4).bind fun r1a=>
 (Ca r0a sr.lo).bind fun r4a=>
 (if r4a<0 then some (r0a.m.Neg,r0a.m.Abs,r0a.e) else some (sr.lo.m.Neg,sr.lo.m.Abs,sr.lo.e)).bind fun m2a=>
 (Ca r1a sr.hi).bind fun r5a=>
 (if 0<r5a then some (r1a.m.Neg,r1a.m.Abs,r1a.e) else some (sr.hi.m.Neg,sr.hi.m.Abs,sr.hi.e)).bind fun m3a=>
 some (⟨(⟨(⟨m2a.1,m2a.2.1⟩:Ai),m2a.2.2⟩:An),(⟨(⟨m3a.1,m3a.2.1⟩:Ai),m3a.2.2⟩:An)⟩:Ar)
def Iu (x0:Ar) (x1:Ar) (x2:Int):M (AC):=
 (Bw x1.lo).bind fun r0a=>
 (Bw x1.hi).bind fun r1a=>
 mb (Co (decide (0<(wi64 (r0a*r1a)))) 8) fun r7a=>
 (Jp x0 x1 x2 x0.lo x1.lo).bind fun s2a=>
 (Gp x0 x1 x2 s2a x0.lo x1.hi).bind fun s3a=>
 (Gp x0 x1 x2 s3a x0.hi x1.lo).bind fun s4a=>
 (Gp x0 x1 x2 s4a x0.hi x1.hi).bind fun s5a=>
 mb (FP s5a) fun r6a=>
 some (.ok r6a)
def Fs (x0:Av) (x1:Av) (x2:Int):M (AC × Int):=
 mb (Fw x0 x1) fun r7a=>
 mb (GQ x2) fun r8a=>
 (toN x0.Lo.Man.Abs).bind fun m0a=>
 (toN x0.Hi.Man.Abs).bind fun m1a=>
 (ED (⟨(⟨(⟨x0.Lo.Man.Neg,m0a⟩:Ai),x0.Lo.Exp⟩:Ak),(⟨(⟨x0.Hi.Man.Neg,m1a⟩:Ai),x0.Hi.Exp⟩:Ak)⟩:AC)).bind fun r2a=>
 (toN x1.Lo.Man.Abs).bind fun m3a=>
 (toN x1.Hi.Man.Abs).bind fun m4a=>
 (ED (⟨(⟨(⟨x1.Lo.Man.Neg,m3a⟩:Ai),x1.Lo.Exp⟩:Ak),(⟨(⟨x1.Hi.Man.Neg,m4a⟩:Ai),x1.Hi.Exp⟩:Ak)⟩:AC)).bind fun r5a=>
 mb (Iu r2a r5a x2) fun r6a=>
 some (.ok (r6a,0))
def Er (x0:Av) (x1:Av) (x2:Int):Option (AC × Int):=(Fs x0 x1 x2).bind fun q=>match q with | .ok r=>some r | .error n=>some ((⟨(⟨(⟨false,0⟩:Ai),0⟩:Ak),(⟨(⟨false,0⟩:Ai),0⟩:Ak)⟩:AC),n)
def Im (x0:Av) (x1:Av) (x2:Int):Option (AC × Int):=
 (Er x0 x1 x2).bind fun r0a=>
 some (r0a.1,r0a.2)
def Gb (x0:Nat):Nat→Nat→Option (Nat × Nat)
 | 0,_=>none
 | n2a+1,v0a=>
 (CV x0 v0a).bind fun r3a=>
 (Cx v0a r3a.1).bind fun r4a=>
 (Ck r4a 1).bind fun r1a=>
 (Ci r1a v0a).bind fun r5a=>
 if 0≤r5a then (CQ v0a v0a).bind fun r6a=>
 (Cj x0 r6a).bind fun r7a=>
 some (v0a,r7a) else Gb x0 n2a r1a
def HC (x0:Nat):Option (Nat × Nat):=
 if (sz x0:Int)=0 then some (0,0) else (Bz x0).bind fun r0a=>
 (Bp 1 (wi64 ((wi64 (r0a+1)).tdiv 2))).bind fun r1a=>
 Gb x0 18446744073709551616 r1a
def Ic (x0:An) (x1:Int) (x2:Int):Option (An):=
 (Bw x0).bind fun r3a=>
 if r3a=0 then some (⟨(⟨false,0⟩:Ai),0⟩:An) else (Bz x0.m.Abs).bind fun r0a=>
 (if ¬((wi64 (x0.e - (max 0 (wi64 ((wi64 ((wi64 (2*x1))+4)) - r0a)))))%2)=0 then some (wi64 ((max 0 (wi64 ((wi64 ((wi64 (2*x1))+4)) - r0a)))+1)) else some (max 0 (wi64 ((wi64 ((wi64 (2*x1))+4)) - r0a)))).bind fun m1a=>
 (Bp x0.m.Abs m1a).bind fun r4a=>
 (HC r4a).bind fun r2a=>
 (DZ (⟨(⟨false,r2a.1⟩:Ai),(wi64 ((wi64 (x0.e - m1a)).tdiv 2))⟩:An) x1 x2 (decide (0<(sz r2a.2:Int)))).bind fun r5a=>
 some r5a
def It (x0:Ar) (x1:Ar) (x2:Int):M (AC):=
 (Bw x0.lo).bind fun r0a=>
 mb (Co (decide (0≤r0a)) 3) fun r4a=>
 (Ic x0.lo x2 5).bind fun r1a=>
 (Ic x0.hi x2 4).bind fun r2a=>
 mb (FP (⟨r1a,r2a⟩:Ar)) fun r3a=>
 some (.ok r3a)
def Fx (x0:Av) (x1:Av) (x2:Int):M (AC × Int):=
 mb (Fw x0 x1) fun r7a=>
 mb (GQ x2) fun r8a=>
 (toN x0.Lo.Man.Abs).bind fun m0a=>
 (toN x0.Hi.Man.Abs).bind fun m1a=>
 (ED (⟨(⟨(⟨x0.Lo.Man.Neg,m0a⟩:Ai),x0.Lo.Exp⟩:Ak),(⟨(⟨x0.Hi.Man.Neg,m1a⟩:Ai),x0.Hi.Exp⟩:Ak)⟩:AC)).bind fun r2a=>
 (toN x1.Lo.Man.Abs).bind fun m3a=>
 (toN x1.Hi.Man.Abs).bind fun m4a=>
 (ED (⟨(⟨(⟨x1.Lo.Man.Neg,m3a⟩:Ai),x1.Lo.Exp⟩:Ak),(⟨(⟨x1.Hi.Man.Neg,m4a⟩:Ai),x1.Hi.Exp⟩:Ak)⟩:AC)).bind fun r5a=>
 mb (It r2a r5a x2) fun r6a=>
 some (.ok (r6a,0))
def En (x0:Av) (x1:Av) (x2:Int):Option (AC × Int):=(Fx x0 x1 x2).bind fun q=>match q with | .ok r=>some r | .error n=>some ((⟨(⟨(⟨false,0⟩:Ai),0⟩:Ak),(⟨(⟨false,0⟩:Ai),0⟩:Ak)⟩:AC),n)
def Jq (x0:Av) (x1:Int):Option (AC × Int):=
 (En x0 x0 x1).bind fun r0a=>
 some (r0a.1,r0a.2)
def Dk:Option (Bool):=
 (EY 12).bind fun r3=>
 (EC (⟨r3.Neg,(limbs r3.Abs)⟩:AK) 3).bind fun r9a=>
 (Ba 11 0).bind fun r7a=>
 (HL (⟨(⟨r7a.Man.Neg,(limbs r7a.Man.Abs)⟩:AK),r7a.Exp⟩:Au) 3 1).bind fun r0b=>
 (Ba (-11) 0).bind fun r8a=>
 (HL (⟨(⟨r8a.Man.Neg,(limbs r8a.Man.Abs)⟩:AK),r8a.Exp⟩:Au) 2 5).bind fun r1b=>
 (BQ (-1) 2).bind fun r0a=>
 (BQ (-3) 5).bind fun r1a=>
 (IJ (⟨(⟨(⟨r0a.Lo.Man.Neg,(limbs r0a.Lo.Man.Abs)⟩:AK),r0a.Lo.Exp⟩:Au),(⟨(⟨r0a.Hi.Man.Neg,(limbs r0a.Hi.Man.Abs)⟩:AK),r0a.Hi.Exp⟩:Au)⟩:Av) (⟨(⟨(⟨r1a.Lo.Man.Neg,(limbs r1a.Lo.Man.Abs)⟩:AK),r1a.Lo.Exp⟩:Au),(⟨(⟨r1a.Hi.Man.Neg,(limbs r1a.Hi.Man.Abs)⟩:AK),r1a.Hi.Exp⟩:Au)⟩:Av) 8).bind fun r2b=>
 (if ¬r9a.2=0 then some (true) else some (decide (¬r0b.2=0))).bind fun m5b=>
 (if m5b=true then some (true) else some (decide (¬r1b.2=0))).bind fun m6b=>
 (if m6b=true then some (true) else some (decide (¬r2b.2=0))).bind fun m7b=>
 if m7b=true then some false else (Ba 3 5).bind fun r8b=>
 (Bh r9a.1 r8b).bind fun r9b=>
 if ¬(r9b=true) then some false else (Ba 12 0).bind fun r0c=>
 (Bh r0b.1 r0c).bind fun r1c=>
 if ¬(r1c=true) then some false else (Ba (-12) 0).bind fun r2c=>
 (Bh r1b.1 r2c).bind fun r3c=>
 if ¬(r3c=true) then some false else (BQ (-6) 10).bind fun r4c=>
 (Dy r2b.1 r4c).bind fun r5c=>
 if ¬(r5c=true) then some false else (BQ 1 1).bind fun r2a=>
 (BQ 3 3).bind fun r3a=>
 (Im (⟨(⟨(⟨r2a.Lo.Man.Neg,(limbs r2a.Lo.Man.Abs)⟩:AK),r2a.Lo.Exp⟩:Au),(⟨(⟨r2a.Hi.Man.Neg,(limbs r2a.Hi.Man.Abs)⟩:AK),r2a.Hi.Exp⟩:Au)⟩:Av) (⟨(⟨(⟨r3a.Lo.Man.Neg,(limbs r3a.Lo.Man.Abs)⟩:AK),r3a.Lo.Exp⟩:Au),(⟨(⟨r3a.Hi.Man.Neg,(limbs r3a.Hi.Man.Abs)⟩:AK),r3a.Hi.Exp⟩:Au)⟩:Av) 4).bind fun r3b=>
 (BQ 1 1).bind fun r4a=>
 (BQ (-1) 1).bind fun r5a=>
 (Im (⟨(⟨(⟨r4a.Lo.Man.Neg,(limbs r4a.Lo.Man.Abs)⟩:AK),r4a.Lo.Exp⟩:Au),(⟨(⟨r4a.Hi.Man.Neg,(limbs r4a.Hi.Man.Abs)⟩:AK),r4a.Hi.Exp⟩:Au)⟩:Av) (⟨(⟨(⟨r5a.Lo.Man.Neg,(limbs r5a.Lo.Man.Abs)⟩:AK),r5a.Lo.Exp⟩:Au),(⟨(⟨r5a.Hi.Man.Neg,(limbs r5a.Hi.Man.Abs)⟩:AK),r5a.Hi.Exp⟩:Au)⟩:Av) 4).bind fun r6c=>
 (BQ 2 2).bind fun r6a=>
 (Jq (⟨(⟨(⟨r6a.Lo.Man.Neg,(limbs r6a.Lo.Man.Abs)⟩:AK),r6a.Lo.Exp⟩:Au),(⟨(⟨r6a.Hi.Man.Neg,(limbs r6a.Hi.Man.Abs)⟩:AK),r6a.Hi.Exp⟩:Au)⟩:Av) 4).bind fun r4b=>
 (Ba 5 (-4)).bind fun r7c=>
 (Ba 11 (-5)).bind fun r8c=>
 (Ba 11 (-3)).bind fun r9c=>
 (Ba 3 (-1)).bind fun r0d=>
 (if r3b.2=0 then some (decide (r6c.2=8)) else some (false)).bind fun m1d=>
 (if m1d=true then some (decide (r4b.2=0)) else some (false)).bind fun m2d=>
 (if m2d=true then (Dy r3b.1 (⟨r7c,r8c⟩:AC)).bind fun r3d=>
 some (r3d) else some (false)).bind fun m4d=>
 (if m4d=true then (Dy r4b.1 (⟨r9c,r0d⟩:AC)).bind fun r5d=>
 some (r5d) else some (false)).bind fun m6d=>
 some m6d
def EO (x0:Ai):Option (Ai):=
 (AP (decide (¬(x0.Neg=true))) x0.Abs).bind fun r0a=>
 some r0a
def Ek (x0:Ak):Option (Ak):=
 (EO x0.Man).bind fun r0a=>
 some (⟨r0a,x0.Exp⟩:Ak)
def DP (x0:Ai) (x1:Int):Option (Ai):=
 (Be x0.Abs x1).bind fun r0a=>
 some (⟨x0.Neg,r0a⟩:Ai)
def EN (x0:Ai) (x1:Ai):Option (Ai):=
 if x0.Neg=x1.Neg then (Bv x0.Abs x1.Abs).bind fun r0a=>
 (AP x0.Neg r0a).bind fun r1a=>
 some r1a else (Bu x0.Abs x1.Abs).bind fun r2a=>
 if 0≤r2a then (BK x0.Abs x1.Abs).bind fun r3a=>
 (AP x0.Neg r3a).bind fun r4a=>
 some r4a else (BK x1.Abs x0.Abs).bind fun r5a=>
 (AP x1.Neg r5a).bind fun r6a=>
 some r6a
def Dw (x0:Ak) (x1:Ak):Option (Ak):=
 if (sz x0.Man.Abs:Int)=0 then some x1 else if (sz x1.Man.Abs:Int)=0 then some x0 else (DP x0.Man (wi64 (x0.Exp - (min x0.Exp x1.Exp)))).bind fun r0a=>
 (DP x1.Man (wi64 (x1.Exp - (min x0.Exp x1.Exp)))).bind fun r1a=>
 (EN r0a r1a).bind fun r2a=>
 (BZ r2a (min x0.Exp x1.Exp)).bind fun r3a=>
 some r3a
def DR (x0:Ak):Option (Int):=
 if (sz x0.Man.Abs:Int)=0 then some 0 else if x0.Man.Neg=true then some (-1) else some 1
def DJ (x0:Ak) (x1:Ak):Option (Int):=
 (Ek x1).bind fun r0a=>
 (Dw x0 r0a).bind fun r1a=>
 (DR r1a).bind fun r2a=>
 some r2a
def DY (x0:Av):Option (Bool):=
 (Bb x0.Lo).bind fun r0a=>
 (if r0a=true then (Bb x0.Hi).bind fun r1a=>
 some (r1a) else some (false)).bind fun m2a=>
 (if m2a=true then (toN x0.Lo.Man.Abs).bind fun m3a=>
 (toN x0.Hi.Man.Abs).bind fun m4a=>
 (DJ (⟨(⟨x0.Lo.Man.Neg,m3a⟩:Ai),x0.Lo.Exp⟩:Ak) (⟨(⟨x0.Hi.Man.Neg,m4a⟩:Ai),x0.Hi.Exp⟩:Ak)).bind fun r5a=>
 some (decide (r5a≤0)) else some (false)).bind fun m6a=>
 some m6a
def EK (x0:Bool):Option (Int):=
 if ¬(x0=true) then some 1 else some 0
def BV (x0:Nat) (x1:Nat):Nat→Nat→Nat→Option (Nat)
 | 0,_,_=>none
 | n2a+1,v1a,v0a=>
 if 0<(sz v0a:Int) then (Bd v1a v0a).bind fun r3a=>
 BV x0 x1 n2a v0a r3a.R else some (v1a)
def EF (x0:Nat) (x1:Nat):Option (Nat):=
 (BV x0 x1 18446744073709551616 x0 x1).bind fun m0a=>
 some m0a
def CN:Option (Nat):=
 some 1
def EX (x0:Ai) (x1:Nat):Option (Cw):=
 (EF x0.Abs x1).bind fun r0a=>
 (CN).bind fun r1a=>
 (AN (limbs r0a) (limbs r1a)).bind fun r2a=>
 if r2a=true then some (⟨x0,x1⟩:Cw) else (Bd x0.Abs r0a).bind fun r3a=>
 (AP x0.Neg r3a.Q).bind fun r4a=>
 (Bd x1 r0a).bind fun r5a=>
 some (⟨r4a,r5a.Q⟩:Cw)
def FD (x0:Nat) (x1:Nat) (x2:Nat) (x3:Bool) (x4:Int):Option (Nat):=
 if (sz x1:Int)=0 then some x0 else (if x4=4 then some (decide (¬(x3=true))) else some (false)).bind fun m1a=>
 (if m1a=true then some (true) else (if x4=5 then some (x3) else some (false)).bind fun m2a=>
 some (m2a)).bind fun m3a=>
 (if x4=1 then some (true) else some (decide (x4=2))).bind fun m4a=>
 (if m4a=true then (Bv x1 x1).bind fun r5a=>
 (Bu r5a x2).bind fun r0a=>
 (if 0<r0a then some (true) else (if r0a=0 then (if x4=2 then some (true) else (if 0<(sz x0:Int) then (nth (limbs x0) 0).bind fun u6a=>
 some (decide ((u6a.tmod 2)=1)) else some (false)).bind fun m7a=>
 some (m7a)).bind fun m8a=>
 some (m8a) else some (false)).bind fun m9a=>
 some (m9a)).bind fun m0b=>
 some (m0b) else some (m3a)).bind fun m1b=>
 if m1b=true then (CN).bind fun r2b=>
 (Bv x0 r2b).bind fun r3b=>
 some r3b else some x0
def HG (x0:Nat) (x1:Nat) (x2:Nat) (x3:Bool) (x4:Int) (x5:Int):Option (Ak):=
 (FD x0 x1 x2 x3 x4).bind fun r0a=>
 (AP x3 r0a).bind fun r1a=>
 (BZ r1a x5).bind fun r2a=>
 some r2a
def CS (x0:Au):Option (Bool):=
 (if (x0.Man.Abs.length:Int)≤60 then (if (-3000)≤x0.Exp then some (decide (x0.Exp≤3000)) else some (false)).bind fun m0a=>
 (if m0a=true then some (true) else (Bb x0).bind fun r1a=>
 some (decide (¬(r1a=true)))).bind fun m2a=>
 some (m2a) else some (false)).bind fun m3a=>
 some m3a
def Dq (x0:Av):Option (Bool):=
 (CS x0.Lo).bind fun r0a=>
 (if r0a=true then (CS x0.Hi).bind fun r1a=>
 some (r1a) else some (false)).bind fun m2a=>
 some m2a
def Fj (x0:Ak):Option (Fb):=
 (Bb (⟨(⟨x0.Man.Neg,(limbs x0.Man.Abs)⟩:AK),x0.Exp⟩:Au)).bind fun r0a=>
 if ¬(r0a=true) then some (⟨(⟨(⟨false,0⟩:Ai),0⟩:Ak),2⟩:Fb) else some (⟨x0,0⟩:Fb)
def GV (x0:Ai):Option (Bool):=
 (CB (⟨x0.Neg,(limbs x0.Abs)⟩:AK)).bind fun r0a=>
 some (decide (¬(r0a=true)))
def BS (x0_0:Ai):Option (Int):=
 (GV x0_0).bind fun r0a=>
 if r0a=true then some 0 else some (-1)
def BD (x0_0:Ai):Option (Bool):=
 (BS x0_0).bind fun r7=>
 some (decide (0≤r7))
def HM (x0:Bool) (x1:Int):M (Unit):=
 if ¬(x0=true) then some (.error x1) else some (.ok ())
def FQ (x0_0:Ai):M (Unit):=
 (BD x0_0).bind fun r5=>
 mb (HM (decide (¬(r5=true))) 1) fun r0a=>
 some (.ok ())
def Hp (x0:Nat):Option (Bool):=
 (FA (limbs x0)).bind fun r6=>
 some (decide (¬(r6=true)))
def BW (x0_0:Nat):Option (Int):=
 (Hp x0_0).bind fun r0a=>
 if r0a=true then some 0 else some (-1)
def BI (x0_0:Nat):Option (Bool):=
 (BW x0_0).bind fun r7=>
 some (decide (0≤r7))
def FL (x0:Bool) (x1:Int):M (Unit):=
 if ¬(x0=true) then some (.error x1) else some (.ok ())
def Gr (x0_0:Nat):M (Unit):=
 (BI x0_0).bind fun r5=>
 mb (FL (decide (¬(r5=true))) 1) fun r0a=>
 some (.ok ())
def Hy (x0:Nat):M (Nat):=
 mb (FL (decide ((sz x0:Int)≤1024)) 2) fun r7=>
 (Eh x0).bind fun r0a=>
 some (.ok r0a)
def JI (x0:Nat) (x1:Int):M (Nat × Int):=
 mb (Gr x0) fun r2a=>
 mb (FL (decide (0≤x1)) 1) fun r3a=>
 if (sz x0:Int)=0 then some (.ok (0,0)) else mb (FL (decide (x1≤32768)) 2) fun r4a=>
 (Ds x0 x1).bind fun r0a=>
 mb (Hy r0a) fun r1a=>
 some (.ok (r1a,0))
def HP (x0:Nat) (x1:Int):Option (Nat × Int):=(JI x0 x1).bind fun q=>match q with | .ok r=>some r | .error n=>none
def EZ (x0:Nat) (x1:Int):M (Nat):=
 mb (HM (decide (x1=0)) x1) fun r7=>
 some (.ok x0)
def EJ (x0:Bool) (x1:Nat):Option (Ai):=
 (if x0=true then some (decide (0<(sz x1:Int))) else some (false)).bind fun m0a=>
 some (⟨m0a,x1⟩:Ai)
def Gn (x0:Ai):Option (Ai):=
 (BX x0.Abs).bind fun r0a=>
 some (⟨x0.Neg,r0a⟩:Ai)
def Ei (x0:Int) (x1:Ai):M (Ai):=
 if 0≤x0 then (HP x1.Abs x0).bind fun r0a=>
 mb (EZ r0a.1 r0a.2) fun r5a=>
 (EJ x1.Neg r5a).bind fun r6a=>
 (Gn r6a).bind fun r7a=>
 some (.ok r7a) else if ¬(x1.Neg=true) then (JA x1.Abs (wi64 (-(max x0 (-33792))))).bind fun r1a=>
 mb (EZ r1a.1 r1a.2) fun r8a=>
 (EJ false r8a).bind fun r9a=>
 (Gn r9a).bind fun r0b=>
 some (.ok r0b) else (Kp x1.Abs 1).bind fun r2a=>
 mb (EZ r2a.1 r2a.2) fun r1b=>
 (JA r1b (wi64 (-(max x0 (-33792))))).bind fun r3a=>
 mb (EZ r3a.1 r3a.2) fun r2b=>
 (Ke r2b 1).bind fun r4a=>
 mb (EZ r4a.1 r4a.2) fun r3b=>
 (EJ true r3b).bind fun r4b=>
 (Gn r4b).bind fun r5b=>
 some (.ok r5b)
def Dv (x0_0:Int) (x0_1:Ai) (x1_0:Ai):M (Ai × Int):=
 mb (FQ x1_0) fun r1a=>
 mb (Ei x0_0 x0_1) fun r0a=>
 some (.ok (r0a,0))
def CA (x0_0:Int) (x0_1:Ai) (x1_0:Ai):Option (Ai × Int):=(Dv x0_0 x0_1 x1_0).bind fun q=>match q with | .ok r=>some r | .error n=>none
def FV (x0:Ai) (x1:Int):Option (Ai × Int):=
 (CA x1 x0 x0).bind fun r0a=>
 some (r0a.1,r0a.2)
def Hn (x0:Au):M (Cw × Int):=
 mb (Eu x0) fun r6a=>
 if 0≤x0.Exp then (toN x0.Man.Abs).bind fun m2a=>
 (FV (⟨x0.Man.Neg,m2a⟩:Ai) x0.Exp).bind fun r0a=>
 mb (Co (decide (r0a.2=0)) r0a.2) fun r7a=>
 (BX r0a.1.Abs).bind fun r3a=>
 some (.ok ((⟨(⟨r0a.1.Neg,r3a⟩:Ai),1⟩:Cw),0)) else (HP 1 (wi64 (-x0.Exp))).bind fun r1a=>
 mb (Co (decide (r1a.2=0)) r1a.2) fun r8a=>
 (toN x0.Man.Abs).bind fun m4a=>
 (BX m4a).bind fun r5a=>
 some (.ok ((⟨(⟨x0.Man.Neg,r5a⟩:Ai),r1a.1⟩:Cw),0))
def EV (x0:Au):Option (Cw × Int):=(Hn x0).bind fun q=>match q with | .ok r=>some r | .error n=>some ((⟨(⟨false,0⟩:Ai),0⟩:Cw),n)
def BN (x0:Ak) (x1:Int) (x2:Int) (x3:Ak):Option (Bool):=
 if ¬x2=0 then (if x1=x2 then (Bh x0 (⟨(⟨false,0⟩:Ai),0⟩:Ak)).bind fun r1a=>
 some (r1a) else some (false)).bind fun m2a=>
 some m2a else (Fj x3).bind fun r0a=>
 (if x1=r0a.E then (Bh x0 r0a.D).bind fun r3a=>
 some (r3a) else some (false)).bind fun m4a=>
 some m4a
def Ch (x0:Cw) (x1:Cw):Option (Bool):=
 (Dd x0.Num x1.Num).bind fun r0a=>
 (if r0a=true then (AN (limbs x0.Den) (limbs x1.Den)).bind fun r1a=>
 some (r1a) else some (false)).bind fun m2a=>
 some m2a
def Gs (x0:Ai):Option (Cw):=
 (CN).bind fun r0a=>
 some (⟨x0,r0a⟩:Cw)
def CU (x0:Ak):Option (Cw):=
 if 0≤x0.Exp then (Be x0.Man.Abs x0.Exp).bind fun r0a=>
 (Gs (⟨x0.Man.Neg,r0a⟩:Ai)).bind fun r1a=>
 some r1a else (CN).bind fun r2a=>
 (Be r2a (wi64 (0 - x0.Exp))).bind fun r3a=>
 (EX x0.Man r3a).bind fun r4a=>
 some r4a
def DW (x0:Au) (x1:AK) (x2:Int) (x3:Av):Option (Bool):=
 (CS x0).bind fun r5a=>
 (if ¬(r5a=true) then some (true) else some (decide (60<(x1.Abs.length:Int)))).bind fun m6a=>
 (if m6a=true then some (true) else some (decide (x2<(-3000)))).bind fun m7a=>
 (if m7a=true then some (true) else some (decide (3000<x2))).bind fun m8a=>
 (if m8a=true then some (true) else (Dq x3).bind fun r9a=>
 some (decide (¬(r9a=true)))).bind fun m0b=>
 if m0b=true then (Dk).bind fun r1b=>
 some r1b else (EC x1 x2).bind fun r3a=>
 (BP x1).bind fun r2b=>
 (EK r2b).bind fun r4a=>
 (if r4a=0 then (toN x1.Abs).bind fun m3b=>
 (BZ (⟨x1.Neg,m3b⟩:Ai) x2).bind fun r1a=>
 some (r1a.Man.Neg,r1a.Man.Abs,r1a.Exp) else some (false,0,0)).bind fun m2a=>
 (EV x0).bind fun r0a=>
 (DQ x0).bind fun r4b=>
 (Bb x0).bind fun r5b=>
 if ¬r4b=r5b then some false else (Fe x3).bind fun r6b=>
 (DY x3).bind fun r7b=>
 if ¬r6b=r7b then some false else (BN r3a.1 r3a.2 r4a (⟨(⟨m2a.1,m2a.2.1⟩:Ai),m2a.2.2⟩:Ak)).bind fun r8b=>
 if ¬(r8b=true) then some false else (Bb x0).bind fun r9b=>
 if ¬(r9b=true) then (Dk).bind fun r0c=>
 (if r0c=true then some (decide (r0a.2=1)) else some (false)).bind fun m1c=>
 (if m1c=true then (Ch r0a.1 (⟨(⟨false,0⟩:Ai),0⟩:Cw)).bind fun r2c=>
 some (r2c) else some (false)).bind fun m3c=>
 some m3c else (Dk).bind fun r4c=>
 (if r4c=true then some (decide (r0a.2=0)) else some (false)).bind fun m5c=>
 if m5c=true then (toN x0.Man.Abs).bind fun m6c=>
 (CU (⟨(⟨x0.Man.Neg,m6c⟩:Ai),x0.Exp⟩:Ak)).bind fun r7c=>
 (Ch r0a.1 r7c).bind fun r8c=>
 some r8c else some false
end Go.Proofs

