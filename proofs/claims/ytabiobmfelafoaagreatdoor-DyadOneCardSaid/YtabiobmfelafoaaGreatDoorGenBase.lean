import Derived.Test.YtabiobmfelafoaaGreatDoorProg
import Derived.Test.YtabiobmfelafoaaGreatDoorCor
import Derived.Test.YtabiobmfelafoaaGreatDoorRow
import Derived.Test.YtabiobmfelafoaaGreatDoorDef1
import Derived.Test.YtabiobmfelafoaaGreatDoorLC
namespace Go.Proofs
set_option linter.unusedVariables false
set_option linter.unusedSimpArgs false
set_option maxHeartbeats 4000000
open Go.RowKit Go.Sb Go.Proofs.Sbn
structure AL where
 Neg:Bool
 Abs:List Int
structure Aq where
 Man:AL
 Exp:Int
structure AI where
 Lo:Aq
 Hi:Aq
structure Ah where
 Neg:Bool
 Abs:Nat
structure Al where
 Man:Ah
 Exp:Int
structure An where
 m:Ah
 e:Int
structure AC where
 Lo:Al
 Hi:Al
structure Av where
 lo:An
 hi:An
structure De where
 Num:Ah
 Den:Nat
structure sorobanref01_DividedT where
 Q:Nat
 R:Nat
structure Gm where
 Num:AL
 Den:List Int
theorem CP:agg Tryz.prog 29 6=true:=by kernel_rfl
theorem KL:fieldAt Tryz.prog 29 0=some 0:=by kernel_rfl
theorem Bk:agg Tryz.prog 27 3=true:=by kernel_rfl
theorem KN:fieldAt Tryz.prog 29 1=some 3:=by kernel_rfl
theorem FM:Hq Tryz.prog 27 [.bool false,.slice none 0 0,.int .i64 0]:=EW (by kernel_rfl)
theorem HN:Tryz.prog.underlying 46=some (.slice 27):=by kernel_rfl
theorem DU:DN Tryz.prog 27 3=true:=by kernel_rfl
theorem Gd:fieldAt Tryz.prog 27 0=some 0:=by kernel_rfl
theorem Dl:fieldAt Tryz.prog 25 1=some 1:=by kernel_rfl
theorem EQ:Kz Tryz.prog 23=true:=by kernel_rfl
theorem CA:Tryz.prog.underlying 23=some (.slice 179):=by kernel_rfl
theorem FY:agg Tryz.prog 25 2=true:=by kernel_rfl
theorem en_143:Ent Tryz.prog 143:=ent Tryz.func143 (by kernel_rfl) rfl
theorem Ia:fieldAt Tryz.prog 25 0=some 0:=by kernel_rfl
theorem Ik:Kz Tryz.prog 4=true:=by kernel_rfl
theorem en_61:Ent Tryz.prog 61:=ent Tryz.func61 (by kernel_rfl) rfl
theorem FH:fieldAt Tryz.prog 27 1=some 2:=by kernel_rfl
theorem Ey:Kz Tryz.prog 3=true:=by kernel_rfl
theorem NP:Ent Tryz.prog 128:=ent Tryz.func128 (by kernel_rfl) rfl
theorem en_45:Ent Tryz.prog 45:=ent Tryz.func45 (by kernel_rfl) rfl
theorem Kq:Hq Tryz.prog 25 [.bool false,.slice none 0 0]:=EW (by kernel_rfl)
theorem it_3:Tryz.prog.underlying 3=some (.int .i64):=by kernel_rfl
theorem AO:Tryz.prog.underlying 148=some (.int .u64):=by kernel_rfl
theorem NH:Ent Tryz.prog 179:=ent Tryz.func179 (by kernel_rfl) rfl
theorem IY:DN Tryz.prog 25 2=true:=by kernel_rfl
theorem Ou:Ent Tryz.prog 178:=ent Tryz.func178 (by kernel_rfl) rfl
theorem Pz:Ent Tryz.prog 96:=ent Tryz.func96 (by kernel_rfl) rfl
theorem Iw:Hq Tryz.prog 33 [.int .i64 0]:=EW (by kernel_rfl)
theorem Kx:Tryz.prog.underlying 20=some (.interface #[]):=by kernel_rfl
theorem Ml:NJ Tryz.prog 201=true:=by kernel_rfl
theorem MP:Hq Tryz.prog 201 [.int .i64 0]:=EW (by kernel_rfl)
theorem MJ:DN Tryz.prog 201 1=true:=by kernel_rfl
theorem mo:Tryz.prog.follows .mixedOrders=true:=by kernel_rfl
theorem KW:fieldAt Tryz.prog 201 0=some 0:=by kernel_rfl
theorem Ck:Kz Tryz.prog 33=true:=by kernel_rfl
theorem GA:DN Tryz.prog 33 1=true:=by kernel_rfl
theorem NR:Ent Tryz.prog 208:=ent Tryz.func208 (by kernel_rfl) rfl
theorem MT:Ent Tryz.prog 151:=ent Tryz.func151 (by kernel_rfl) rfl
theorem Dh:Ent Tryz.prog 102:=ent Tryz.func102 (by kernel_rfl) rfl
theorem HC:Ent Tryz.prog 135:=ent Tryz.func135 (by kernel_rfl) rfl
theorem Hl:Hq Tryz.prog 117 [.bool false,.slice none 0 0]:=EW (by kernel_rfl)
theorem Gt:DN Tryz.prog 117 2=true:=by kernel_rfl
theorem DS:agg Tryz.prog 117 2=true:=by kernel_rfl
theorem NE:Ent Tryz.prog 137:=ent Tryz.func137 (by kernel_rfl) rfl
theorem Ba:Hq Tryz.prog 119 [.bool false,.slice none 0 0,.int .i64 0]:=EW (by kernel_rfl)
theorem Bs:fieldAt Tryz.prog 117 1=some 1:=by kernel_rfl
theorem CQ:Kz Tryz.prog 115=true:=by kernel_rfl
theorem Ar:Tryz.prog.underlying 115=some (.slice 179):=by kernel_rfl
theorem BX:DN Tryz.prog 119 3=true:=by kernel_rfl
theorem en_213:Ent Tryz.prog 213:=ent Tryz.func213 (by kernel_rfl) rfl
theorem EC:fieldAt Tryz.prog 117 0=some 0:=by kernel_rfl
theorem Mj:Ent Tryz.prog 204:=ent Tryz.func204 (by kernel_rfl) rfl
theorem Ky:Ent Tryz.prog 152:=ent Tryz.func152 (by kernel_rfl) rfl
theorem BZ:fieldAt Tryz.prog 119 0=some 0:=by kernel_rfl
theorem DE:fieldAt Tryz.prog 119 1=some 2:=by kernel_rfl
theorem Nl:Ent Tryz.prog 201:=ent Tryz.func201 (by kernel_rfl) rfl
theorem sz_115:DN Tryz.prog 115 1=true:=by kernel_rfl
theorem en_202:Ent Tryz.prog 202:=ent Tryz.func202 (by kernel_rfl) rfl
theorem Jh:Ent Tryz.prog 136:=ent Tryz.func136 (by kernel_rfl) rfl
theorem PA:Ent Tryz.prog 60:=ent Tryz.func60 (by kernel_rfl) rfl
theorem en_153:Ent Tryz.prog 153:=ent Tryz.func153 (by kernel_rfl) rfl
theorem OR:Ent Tryz.prog 154:=ent Tryz.func154 (by kernel_rfl) rfl
theorem en_62:Ent Tryz.prog 62:=ent Tryz.func62 (by kernel_rfl) rfl
theorem JQ:Ent Tryz.prog 38:=ent Tryz.func38 (by kernel_rfl) rfl
theorem As:DN Tryz.prog 179 1=true:=by kernel_rfl
theorem AV:Kz Tryz.prog 179=true:=by kernel_rfl
theorem Mg:Ent Tryz.prog 64:=ent Tryz.func64 (by kernel_rfl) rfl
theorem Je:Ent Tryz.prog 120:=ent Tryz.func120 (by kernel_rfl) rfl
theorem Jk:Ent Tryz.prog 138:=ent Tryz.func138 (by kernel_rfl) rfl
theorem MQ:Ent Tryz.prog 139:=ent Tryz.func139 (by kernel_rfl) rfl
theorem JB:Ent Tryz.prog 121:=ent Tryz.func121 (by kernel_rfl) rfl
theorem Lm:Ent Tryz.prog 184:=ent Tryz.func184 (by kernel_rfl) rfl
theorem Jz:Ent Tryz.prog 185:=ent Tryz.func185 (by kernel_rfl) rfl
theorem Nr:Ent Tryz.prog 203:=ent Tryz.func203 (by kernel_rfl) rfl
theorem MW:Ent Tryz.prog 191:=ent Tryz.func191 (by kernel_rfl) rfl
theorem Hc:Hq Tryz.prog 179 [.int .u32 0]:=EW (by kernel_rfl)
theorem Mc:Ent Tryz.prog 205:=ent Tryz.func205 (by kernel_rfl) rfl
theorem en_206:Ent Tryz.prog 206:=ent Tryz.func206 (by kernel_rfl) rfl
theorem NI:Ent Tryz.prog 207:=ent Tryz.func207 (by kernel_rfl) rfl
theorem LR:Ent Tryz.prog 140:=ent Tryz.func140 (by kernel_rfl) rfl
theorem PF:Ent Tryz.prog 55:=ent Tryz.func55 (by kernel_rfl) rfl
theorem Hp:Hq Tryz.prog 29 [.bool false,.slice none 0 0,.int .i64 0,.bool false,.slice none 0 0,.int .i64 0]:=EW (by kernel_rfl)
theorem GJ:DN Tryz.prog 29 6=true:=by kernel_rfl
theorem LD:Ent Tryz.prog 97:=ent Tryz.func97 (by kernel_rfl) rfl
theorem Ln:Tryz.prog.underlying 230=some (.slice 29):=by kernel_rfl
theorem en_182:Ent Tryz.prog 182:=ent Tryz.func182 (by kernel_rfl) rfl
theorem Js:Ent Tryz.prog 103:=ent Tryz.func103 (by kernel_rfl) rfl
theorem Ot:Ent Tryz.prog 187:=ent Tryz.func187 (by kernel_rfl) rfl
theorem NL:Ent Tryz.prog 122:=ent Tryz.func122 (by kernel_rfl) rfl
theorem en_192:Ent Tryz.prog 192:=ent Tryz.func192 (by kernel_rfl) rfl
theorem en_115:Ent Tryz.prog 115:=ent Tryz.func115 (by kernel_rfl) rfl
theorem OM:Tryz.prog.underlying 4=some .bool:=by kernel_rfl
theorem en_196:Ent Tryz.prog 196:=ent Tryz.func196 (by kernel_rfl) rfl
theorem en_195:Ent Tryz.prog 195:=ent Tryz.func195 (by kernel_rfl) rfl
theorem en_194:Ent Tryz.prog 194:=ent Tryz.func194 (by kernel_rfl) rfl
theorem en_124:Ent Tryz.prog 124:=ent Tryz.func124 (by kernel_rfl) rfl
theorem IH:Ent Tryz.prog 106:=ent Tryz.func106 (by kernel_rfl) rfl
theorem Py:Ent Tryz.prog 65:=ent Tryz.func65 (by kernel_rfl) rfl
theorem Le:Ent Tryz.prog 162:=ent Tryz.func162 (by kernel_rfl) rfl
theorem Ip:Ent Tryz.prog 161:=ent Tryz.func161 (by kernel_rfl) rfl
theorem Pd:Hq Tryz.prog 121 [.bool false,.slice none 0 0,.int .i64 0,.bool false,.slice none 0 0,.int .i64 0]:=EW (by kernel_rfl)
theorem OV:DN Tryz.prog 121 6=true:=by kernel_rfl
theorem Ka:agg Tryz.prog 121 6=true:=by kernel_rfl
theorem Lg:Ent Tryz.prog 163:=ent Tryz.func163 (by kernel_rfl) rfl
theorem OX:Hq Tryz.prog 124 [.pointer none]:=EW (by kernel_rfl)
theorem OE:Ent Tryz.prog 104:=ent Tryz.func104 (by kernel_rfl) rfl
theorem OS:Ent Tryz.prog 183:=ent Tryz.func183 (by kernel_rfl) rfl
theorem Pb:Ent Tryz.prog 241:=ent Tryz.func241 (by kernel_rfl) rfl
theorem en_193:Ent Tryz.prog 193:=ent Tryz.func193 (by kernel_rfl) rfl
theorem NN:Ent Tryz.prog 117:=ent Tryz.func117 (by kernel_rfl) rfl
theorem Fg:Kz Tryz.prog 124=true:=by kernel_rfl
theorem MD:Tryz.prog.underlying 124=some (.pointer 121):=by kernel_rfl
theorem Ox:DN Tryz.prog 124 1=true:=by kernel_rfl
theorem en_118:Ent Tryz.prog 118:=ent Tryz.func118 (by kernel_rfl) rfl
theorem Lk:Ent Tryz.prog 107:=ent Tryz.func107 (by kernel_rfl) rfl
theorem OI:Ent Tryz.prog 116:=ent Tryz.func116 (by kernel_rfl) rfl
theorem Nu:Ent Tryz.prog 100:=ent Tryz.func100 (by kernel_rfl) rfl
theorem en_32:Ent Tryz.prog 32:=ent Tryz.func32 (by kernel_rfl) rfl
theorem en_144:Ent Tryz.prog 144:=ent Tryz.func144 (by kernel_rfl) rfl
theorem en_86:Ent Tryz.prog 86:=ent Tryz.func86 (by kernel_rfl) rfl
theorem LF:Ent Tryz.prog 37:=ent Tryz.func37 (by kernel_rfl) rfl
theorem OU:Ent Tryz.prog 76:=ent Tryz.func76 (by kernel_rfl) rfl
theorem OJ:Ent Tryz.prog 186:=ent Tryz.func186 (by kernel_rfl) rfl
theorem CY:Ent Tryz.prog 105:=ent Tryz.func105 (by kernel_rfl) rfl
theorem Oo:Ent Tryz.prog 101:=ent Tryz.func101 (by kernel_rfl) rfl
theorem PB:Ent Tryz.prog 21:=ent Tryz.func21 (by kernel_rfl) rfl
theorem en_190:Ent Tryz.prog 190:=ent Tryz.func190 (by kernel_rfl) rfl
theorem Ov:Ent Tryz.prog 111:=ent Tryz.func111 (by kernel_rfl) rfl
theorem Pm:Ent Tryz.prog 110:=ent Tryz.func110 (by kernel_rfl) rfl
theorem en_25:Ent Tryz.prog 25:=ent Tryz.func25 (by kernel_rfl) rfl
theorem PH:Ent Tryz.prog 15:=ent Tryz.func15 (by kernel_rfl) rfl
theorem OL:Hq Tryz.prog 65 [.bool false,.slice none 0 0,.slice none 0 0]:=EW (by kernel_rfl)
theorem Ni:DN Tryz.prog 65 3=true:=by kernel_rfl
theorem JG:agg Tryz.prog 65 3=true:=by kernel_rfl
theorem MR:fieldAt Tryz.prog 65 0=some 0:=by kernel_rfl
theorem LM:fieldAt Tryz.prog 65 1=some 2:=by kernel_rfl
theorem PK:Ent Tryz.prog 44:=ent Tryz.func44 (by kernel_rfl) rfl
theorem Pc:DN Tryz.prog 3 1=true:=by kernel_rfl
theorem Mi:Ent Tryz.prog 155:=ent Tryz.func155 (by kernel_rfl) rfl
theorem NA:Tryz.prog.underlying 253=some (.slice 25):=by kernel_rfl
theorem en_270:Ent Tryz.prog 270:=ent Tryz.func270 (by kernel_rfl) rfl
theorem en_284:Ent Tryz.prog 284:=ent Tryz.func284 (by kernel_rfl) rfl
theorem en_269:Ent Tryz.prog 269:=ent Tryz.func269 (by kernel_rfl) rfl
theorem ni_274:NJ Tryz.prog 274=true:=by kernel_rfl
theorem MG:Ent Tryz.prog 248:=ent Tryz.func248 (by kernel_rfl) rfl
theorem Pf:Ent Tryz.prog 247:=ent Tryz.func247 (by kernel_rfl) rfl
theorem Nd:Hq Tryz.prog 23 [.slice none 0 0]:=EW (by kernel_rfl)
theorem Jd:Tryz.prog.underlying 260=some (.slice 23):=by kernel_rfl
theorem KO:DN Tryz.prog 23 1=true:=by kernel_rfl
theorem No:Ent Tryz.prog 255:=ent Tryz.func255 (by kernel_rfl) rfl
theorem Pe:Ent Tryz.prog 274:=ent Tryz.func274 (by kernel_rfl) rfl
theorem OP:Ent Tryz.prog 254:=ent Tryz.func254 (by kernel_rfl) rfl
theorem ni_258:NJ Tryz.prog 258=true:=by kernel_rfl
theorem HB:Ent Tryz.prog 224:=ent Tryz.func224 (by kernel_rfl) rfl
theorem Ja:Ent Tryz.prog 223:=ent Tryz.func223 (by kernel_rfl) rfl
theorem MV:Ent Tryz.prog 226:=ent Tryz.func226 (by kernel_rfl) rfl
theorem AP:Tryz.prog.underlying 228=some (.slice 179):=by kernel_rfl
theorem en_256:Ent Tryz.prog 256:=ent Tryz.func256 (by kernel_rfl) rfl
theorem IZ:Ent Tryz.prog 225:=ent Tryz.func225 (by kernel_rfl) rfl
theorem Lv:Ent Tryz.prog 222:=ent Tryz.func222 (by kernel_rfl) rfl
theorem Oq:Ent Tryz.prog 158:=ent Tryz.func158 (by kernel_rfl) rfl
theorem Jj:Ent Tryz.prog 218:=ent Tryz.func218 (by kernel_rfl) rfl
theorem NQ:Ent Tryz.prog 249:=ent Tryz.func249 (by kernel_rfl) rfl
theorem OZ:Ent Tryz.prog 219:=ent Tryz.func219 (by kernel_rfl) rfl
theorem Ma:fieldAt Tryz.prog 252 0=some 0:=by kernel_rfl
theorem Nz:Kz Tryz.prog 249=true:=by kernel_rfl
theorem NM:Ent Tryz.prog 251:=ent Tryz.func251 (by kernel_rfl) rfl
theorem en_252:Ent Tryz.prog 252:=ent Tryz.func252 (by kernel_rfl) rfl
theorem Oy:Ent Tryz.prog 250:=ent Tryz.func250 (by kernel_rfl) rfl
theorem Nn:Ent Tryz.prog 242:=ent Tryz.func242 (by kernel_rfl) rfl
theorem en_220:Ent Tryz.prog 220:=ent Tryz.func220 (by kernel_rfl) rfl
theorem en_253:Ent Tryz.prog 253:=ent Tryz.func253 (by kernel_rfl) rfl
theorem en_221:Ent Tryz.prog 221:=ent Tryz.func221 (by kernel_rfl) rfl
theorem NO:Ent Tryz.prog 217:=ent Tryz.func217 (by kernel_rfl) rfl
theorem ND:Ent Tryz.prog 157:=ent Tryz.func157 (by kernel_rfl) rfl
theorem Ny:Ent Tryz.prog 216:=ent Tryz.func216 (by kernel_rfl) rfl
theorem Pt:Ent Tryz.prog 215:=ent Tryz.func215 (by kernel_rfl) rfl
theorem en_246:Ent Tryz.prog 246:=ent Tryz.func246 (by kernel_rfl) rfl
theorem en_214:Ent Tryz.prog 214:=ent Tryz.func214 (by kernel_rfl) rfl
theorem en_156:Ent Tryz.prog 156:=ent Tryz.func156 (by kernel_rfl) rfl
theorem en_63:Ent Tryz.prog 63:=ent Tryz.func63 (by kernel_rfl) rfl
theorem en_54:Ent Tryz.prog 54:=ent Tryz.func54 (by kernel_rfl) rfl
theorem en_244:Ent Tryz.prog 244:=ent Tryz.func244 (by kernel_rfl) rfl
theorem en_243:Ent Tryz.prog 243:=ent Tryz.func243 (by kernel_rfl) rfl
theorem en_209:Ent Tryz.prog 209:=ent Tryz.func209 (by kernel_rfl) rfl
theorem OO:Ent Tryz.prog 141:=ent Tryz.func141 (by kernel_rfl) rfl
theorem Ph:Ent Tryz.prog 142:=ent Tryz.func142 (by kernel_rfl) rfl
theorem en_56:Ent Tryz.prog 56:=ent Tryz.func56 (by kernel_rfl) rfl
theorem en_33:Ent Tryz.prog 33:=ent Tryz.func33 (by kernel_rfl) rfl
theorem PL:Hq Tryz.prog 3 [.int .i64 0]:=EW (by kernel_rfl)
theorem JT:Ent Tryz.prog 119:=ent Tryz.func119 (by kernel_rfl) rfl
theorem en_41:Ent Tryz.prog 41:=ent Tryz.func41 (by kernel_rfl) rfl
theorem en_36:Ent Tryz.prog 36:=ent Tryz.func36 (by kernel_rfl) rfl
theorem en_81:Ent Tryz.prog 81:=ent Tryz.func81 (by kernel_rfl) rfl
def Fy (_w:World) (r:Bool) (v:Value):Prop:=v = .bool r
def Lp (w:World) (r:Ah) (v:Value):Prop:=∃(A1:Option Addr) (c1:Nat),v = .agg #[.bool r.Neg,.slice A1 (sz r.Abs) c1]∧RU w A1 c1 r.Abs
def Lu (w:World) (r:Al × Int) (v:Value):Prop:=∃(A1:Option Addr) (c1:Nat),v = .tuple #[.agg #[.bool r.1.Man.Neg,.slice A1 (sz r.1.Man.Abs) c1,.int .i64 r.1.Exp],.int .i64 r.2]∧RU w A1 c1 r.1.Man.Abs
def Ki (_w:World) (_r:Unit) (v:Value):Prop:=v = .tuple #[]
def KH (w:World) (r:Ah) (v:Value):Prop:=∃(A1:Option Addr) (c1:Nat),v = .agg #[.bool r.Neg,.slice A1 (sz r.Abs) c1]∧RU w A1 c1 r.Abs
def HW (w:World) (r:An) (v:Value):Prop:=∃(A1:Option Addr) (c1:Nat),v = .agg #[.bool r.m.Neg,.slice A1 (sz r.m.Abs) c1,.int .i64 r.e]∧RU w A1 c1 r.m.Abs
def NF (w:World) (r:Al) (v:Value):Prop:=∃(A1:Option Addr) (c1:Nat),v = .agg #[.bool r.Man.Neg,.slice A1 (sz r.Man.Abs) c1,.int .i64 r.Exp]∧RU w A1 c1 r.Man.Abs
def Mk (w:World) (r:AC) (v:Value):Prop:=∃(A1:Option Addr) (c1:Nat) (A2:Option Addr) (c2:Nat),v = .agg #[.bool r.Lo.Man.Neg,.slice A1 (sz r.Lo.Man.Abs) c1,.int .i64 r.Lo.Exp,.bool r.Hi.Man.Neg,.slice A2 (sz r.Hi.Man.Abs) c2,.int .i64 r.Hi.Exp]∧RU w A1 c1 r.Lo.Man.Abs∧RU w A2 c2 r.Hi.Man.Abs
def IF (w:World) (r:AC × Int) (v:Value):Prop:=∃(A1:Option Addr) (c1:Nat) (A2:Option Addr) (c2:Nat),v = .tuple #[.agg #[.bool r.1.Lo.Man.Neg,.slice A1 (sz r.1.Lo.Man.Abs) c1,.int .i64 r.1.Lo.Exp,.bool r.1.Hi.Man.Neg,.slice A2 (sz r.1.Hi.Man.Abs) c2,.int .i64 r.1.Hi.Exp],.int .i64 r.2]∧RU w A1 c1 r.1.Lo.Man.Abs∧RU w A2 c2 r.1.Hi.Man.Abs
def GI (_w:World) (r:Int) (v:Value):Prop:=v = .int .i64 r
def NX (w:World) (r:Av) (v:Value):Prop:=∃(A1:Option Addr) (c1:Nat) (A2:Option Addr) (c2:Nat),v = .agg #[.bool r.lo.m.Neg,.slice A1 (sz r.lo.m.Abs) c1,.int .i64 r.lo.e,.bool r.hi.m.Neg,.slice A2 (sz r.hi.m.Abs) c2,.int .i64 r.hi.e]∧RU w A1 c1 r.lo.m.Abs∧RU w A2 c2 r.hi.m.Abs
def LA (w:World) (r:Nat × Nat) (v:Value):Prop:=∃(A1:Option Addr) (c1:Nat) (A2:Option Addr) (c2:Nat),v = .tuple #[.slice A1 (sz r.1) c1,.slice A2 (sz r.2) c2]∧RU w A1 c1 r.1∧RU w A2 c2 r.2
def LU (w:World) (r:Nat) (v:Value):Prop:=∃(A1:Option Addr) (c1:Nat),v = .slice A1 (sz r) c1∧RU w A1 c1 r
def rep_65_33 (w:World) (r:De × Int) (v:Value):Prop:=∃(A1:Option Addr) (c1:Nat) (A2:Option Addr) (c2:Nat),v = .tuple #[.agg #[.bool r.1.Num.Neg,.slice A1 (sz r.1.Num.Abs) c1,.slice A2 (sz r.1.Den) c2],.int .i64 r.2]∧RU w A1 c1 r.1.Num.Abs∧RU w A2 c2 r.1.Den
def Mw (w:World) (r:Ah × Int) (v:Value):Prop:=∃(A1:Option Addr) (c1:Nat),v = .tuple #[.agg #[.bool r.1.Neg,.slice A1 (sz r.1.Abs) c1],.int .i64 r.2]∧RU w A1 c1 r.1.Abs
def Hr (w:World) (r:Nat × Int) (v:Value):Prop:=∃(A1:Option Addr) (c1:Nat),v = .tuple #[.slice A1 (sz r.1) c1,.int .i64 r.2]∧RU w A1 c1 r.1
def JA (w:World) (r:Nat) (v:Value):Prop:=∃(A1:Option Addr) (c1:Nat),v = .slice A1 (sz r) c1∧RU w A1 c1 r
def rep_119_119 (w:World) (r:An × An) (v:Value):Prop:=∃(A1:Option Addr) (c1:Nat) (A2:Option Addr) (c2:Nat),v = .tuple #[.agg #[.bool r.1.m.Neg,.slice A1 (sz r.1.m.Abs) c1,.int .i64 r.1.e],.agg #[.bool r.2.m.Neg,.slice A2 (sz r.2.m.Abs) c2,.int .i64 r.2.e]]∧RU w A1 c1 r.1.m.Abs∧RU w A2 c2 r.2.m.Abs
def LO (_w:World) (r:Int × Int) (v:Value):Prop:=v = .tuple #[.int .i64 r.1,.int .i64 r.2]
def KM (_w:World) (r:Int) (v:Value):Prop:=v = .int .u64 r
def Kk (w:World) (r:Nat) (v:Value):Prop:=∃(A1:Option Addr) (c1:Nat),v = .slice A1 (sz r) c1∧RU w A1 c1 r
def rep_228_228 (w:World) (r:Nat × Nat) (v:Value):Prop:=∃(A1:Option Addr) (c1:Nat) (A2:Option Addr) (c2:Nat),v = .tuple #[.slice A1 (sz r.1) c1,.slice A2 (sz r.2) c2]∧RU w A1 c1 r.1∧RU w A2 c2 r.2
abbrev Bt (x0:List Int):Option (Bool):=Lf.Bt x0
abbrev BI (x0:List Int) (x1:Int):Option (Int):=Lf.BI x0 x1
def Cl (x0:Int):Option (Nat):=(gd (0≤x0∧x0<18446744073709551616)).bind fun _=>some (x0.toNat)
abbrev Fo (x0:List Int):Option (Bool):=Lf.Fo x0
def Cv (x0:Nat):Option (Int):=(gd (sz x0<1073741824)).bind fun _=>some (Lf.tz x0:Int)
def Ch (x0:Nat) (x1:Int):Option (Nat):=(gd (sz x0<1073741824∧0≤x1∧x1<9223372036854775808)).bind fun _=>some (x0/2^x1.toNat)
def CE (x0:Nat):Option (Nat):=(gd (sz x0<1073741824)).bind fun _=>some (x0)
def BC (x0:Nat):Option (Int):=(gd (sz x0<1073741824)).bind fun _=>some (Lf.tz x0:Int)
def BG (x0:Nat) (x1:Int):Option (Nat):=(gd (sz x0<1073741824∧0≤x1∧x1<9223372036854775808)).bind fun _=>some (x0/2^x1.toNat)
def Bm (x0:Nat):Option (Int):=(gd (sz x0<1073741824)).bind fun _=>some (Lf.bl x0:Int)
def Bp (x0:Nat) (x1:Int):Option (Nat):=(gd (sz x0<1073741824∧0≤x1∧x1<34359738368)).bind fun _=>some (x0*2^x1.toNat)
def Cg (x0:Nat) (x1:Nat):Option (Nat):=(gd (sz x0<1073741824∧sz x1<1073741824∧x1≤x0)).bind fun _=>some (x0 - x1)
def Cf (x0:Nat) (x1:Nat):Option (Int):=(gd (sz x0<1073741824∧sz x1<1073741824)).bind fun _=>some (Lf.cmpw x0 x1)
def Cq (x0:Nat) (x1:Nat):Option (Nat):=(gd (sz x0<1073741824∧sz x1<1073741824)).bind fun _=>some (x0+x1)
def CL (x0:Nat) (x1:Nat):Option (Nat):=(gd (sz x0<1073741824∧sz x1<1073741824)).bind fun _=>some (x0*x1)
abbrev AM (x0:List Int) (x1:List Int):Option (Bool):=Lf.AM x0 x1
def CN (x0:Nat) (x1:Nat):Option (Nat × Nat):=(gd (sz x0<1073741824∧sz x1<1073741824∧x1≠0)).bind fun _=>some (x0/x1,x0%x1)
def BJ (x0:Nat) (x1:Int):Option (Nat):=(gd (sz x0<1073741824∧0≤x1∧x1<34359738368)).bind fun _=>some (x0*2^x1.toNat)
def Dq (x0:Nat) (x1:Nat):Option (Nat):=(gd (sz x0<1073741824∧sz x1<1073741824)).bind fun _=>some (x0+x1)
def Dn (x0:Nat) (x1:Nat):Option (Int):=(gd (sz x0<1073741824∧sz x1<1073741824)).bind fun _=>some (Lf.sgnc x0 x1)
def BV (x0:Nat) (x1:Nat):Option (sorobanref01_DividedT):=(gd (sz x0<1073741824∧sz x1<1073741824∧x1≠0)).bind fun _=>some (⟨x0/x1,x0%x1⟩)
def DL (x0:Nat):Option (Int):=(gd (sz x0<1073741824)).bind fun _=>some (Lf.bl x0:Int)
def Cr (x0:Nat) (x1:Int):Option (Nat):=(gd (sz x0<1073741824∧0≤x1∧x1<34359738368)).bind fun _=>some (x0*2^x1.toNat)
def Ec (x0:Nat):Option (Nat):=(gd (sz x0<1073741824)).bind fun _=>some (x0)
def Dk (x0:Nat) (x1:Int):Option (Nat):=(gd (sz x0<1073741824∧0≤x1∧x1<9223372036854775808)).bind fun _=>some (x0/2^x1.toNat)
def DQ (x0:Nat) (x1:Nat):Option (Int):=(gd (sz x0<1073741824∧sz x1<1073741824)).bind fun _=>some (Lf.sgnc x0 x1)
def Iu (x0:Nat) (x1:Nat):Option (Nat):=(gd (False)).bind fun _=>some (0)
def Ir (x0:Nat) (x1:Nat):Option (Nat):=(gd (False)).bind fun _=>some (0)
def BU (x0:Nat):Option (Nat):=(gd (sz x0<1073741824)).bind fun _=>some (x0)
def BM (x0:Nat) (x1:Nat):Option (Nat × Nat):=(gd (sz x0<1073741824∧sz x1<1073741824∧x1≠0)).bind fun _=>some (x0/x1,x0%x1)
def Ci (x0:AL):Option (Bool):=
 (Bt x0.Abs).bind fun r0a=>
 (if r0a=true then (if ¬(x0.Neg=true) then some (true) else some (decide (0<(x0.Abs.length:Int)))).bind fun m1a=>
 some (m1a) else some (false)).bind fun m2a=>
 some m2a
def CK (x0:Aq):Option (Bool):=
 (Ci x0.Man).bind fun r0a=>
 if ¬(r0a=true) then some false else if (x0.Man.Abs.length:Int)=0 then some (decide (x0.Exp=0)) else (BI x0.Man.Abs 0).bind fun r1a=>
 (if r1a=1 then some (decide ((-1048576)≤x0.Exp)) else some (false)).bind fun m2a=>
 (if m2a=true then some (decide (x0.Exp≤1048576)) else some (false)).bind fun m3a=>
 some m3a
def Cc (x0:Bool) (x1:Nat):Option (Ah):=
 (if x0=true then some (decide (0<(sz x1:Int))) else some (false)).bind fun m0a=>
 some (⟨m0a,x1⟩:Ah)
def Ft (x0:Int):Option (Ah):=
 if x0<0 then (Cl (wu64 (wi64 (-x0)))).bind fun r0a=>
 (Cc true r0a).bind fun r1a=>
 some r1a else (Cl (wu64 x0)).bind fun r2a=>
 (Cc false r2a).bind fun r3a=>
 some r3a
def BW (x0:AL):Option (Bool):=
 (Fo x0.Abs).bind fun r0a=>
 (if r0a=true then (if ¬(x0.Neg=true) then some (true) else some (decide (0<(x0.Abs.length:Int)))).bind fun m1a=>
 some (m1a) else some (false)).bind fun m2a=>
 some m2a
def Bj (x0:Bool) (x1:Int):M (Unit):=
 if ¬(x0=true) then some (.error x1) else some (.ok ())
def Ic (x0:Ah):Option (Ah):=
 some x0
def Cj (x0:Ah) (x1:Int):Option (An):=
 if (sz x0.Abs:Int)=0 then some (⟨(⟨false,0⟩:Ah),0⟩:An) else (Cv x0.Abs).bind fun r0a=>
 (Ch x0.Abs r0a).bind fun r1a=>
 some (⟨(⟨x0.Neg,r1a⟩:Ah),(wi64 (x1+r0a))⟩:An)
def HE (x0:Ah):Option (Ah):=
 (if x0.Neg=true then some (decide (0<(sz x0.Abs:Int))) else some (false)).bind fun m0a=>
 some (⟨m0a,x0.Abs⟩:Ah)
def Dg (x0:An):M (Al):=
 (if (sz x0.m.Abs:Int)≤1024 then some (decide (x0.e≤1048576)) else some (false)).bind fun m0a=>
 (if m0a=true then some (decide ((-1048576)≤x0.e)) else some (false)).bind fun m1a=>
 mb (Bj m1a 2) fun r4a=>
 (CE x0.m.Abs).bind fun r2a=>
 (HE (⟨x0.m.Neg,r2a⟩:Ah)).bind fun r3a=>
 some (.ok (⟨r3a,x0.e⟩:Al))
def Jr (x0:AL) (x1:Int):M (Al × Int):=
 (BW x0).bind fun r0a=>
 mb (Bj r0a 1) fun r5a=>
 if (x0.Abs.length:Int)=0 then some (.ok ((⟨(⟨false,0⟩:Ah),0⟩:Al),0)) else (toN x0.Abs).bind fun m1a=>
 (Ic (⟨x0.Neg,m1a⟩:Ah)).bind fun r2a=>
 (Cj r2a (max (-1099511627776) (min x1 1099511627776))).bind fun r3a=>
 mb (Dg r3a) fun r4a=>
 some (.ok (r4a,0))
def GN (x0:AL) (x1:Int):Option (Al × Int):=(Jr x0 x1).bind fun q=>match q with | .ok r=>some r | .error n=>some ((⟨(⟨false,0⟩:Ah),0⟩:Al),n)
def DI (x0:Ah) (x1:Int):Option (Al):=
 if (sz x0.Abs:Int)=0 then some (⟨(⟨false,0⟩:Ah),0⟩:Al) else (BC x0.Abs).bind fun r0a=>
 (BG x0.Abs r0a).bind fun r1a=>
 some (⟨(⟨x0.Neg,r1a⟩:Ah),(wi64 (x1+r0a))⟩:Al)
def Bb (x0:Int) (x1:Int):Option (Al):=
 (Ft x0).bind fun r7=>
 (DI r7 x1).bind fun r0a=>
 some r0a
def CD (x0:Aq):Option (Bool):=
 (BW x0.Man).bind fun r0a=>
 if ¬(r0a=true) then some false else if (x0.Man.Abs.length:Int)=0 then some (decide (x0.Exp=0)) else (nth x0.Man.Abs 0).bind fun u1a=>
 (if (u1a%2)=1 then some (decide (x0.Exp≤1048576)) else some (false)).bind fun m2a=>
 (if m2a=true then some (decide ((-1048576)≤x0.Exp)) else some (false)).bind fun m3a=>
 some m3a
def DR (x0_0:Aq):M (Unit):=
 (CD x0_0).bind fun r0a=>
 mb (Bj r0a 1) fun r1a=>
 some (.ok ())
def FA (x0:Int):M (Unit):=
 (if 1≤x0 then some (decide (x0≤4096)) else some (false)).bind fun m8=>
 mb (Bj m8 1) fun r0a=>
 some (.ok ())
def Fh (x0:Int):M (Unit):=
 (if 1≤x0 then some (decide (x0≤5)) else some (false)).bind fun m8=>
 mb (Bj m8 1) fun r0a=>
 some (.ok ())
def Fl (x0:Al):Option (An):=
 (Ic x0.Man).bind fun r0a=>
 some (⟨r0a,x0.Exp⟩:An)
def FS (x0:Ah) (x1:Int):Option (Ah):=
 (Bp x0.Abs x1).bind fun r0a=>
 some (⟨x0.Neg,r0a⟩:Ah)
def Ib (x0:Bool) (x1:Int) (x2:Bool) (x3:Bool) (x4:Int):Option (Bool):=
 if x0=true then some false else if x4=1 then (if 0<x1 then some (true) else (if x1=0 then some (x2) else some (false)).bind fun m0a=>
 some (m0a)).bind fun m1a=>
 some m1a else if x4=2 then some (decide (0≤x1)) else if x4=4 then some (decide (¬(x3=true))) else if x4=5 then some x3 else some false
def CR (x0:An) (x1:Int) (x2:Int) (x3:Bool):Option (An):=
 (Bm x0.m.Abs).bind fun r1a=>
 (if (wi64 (r1a - x1))≤0 then some (decide (¬(x3=true))) else some (false)).bind fun m6a=>
 if m6a=true then (Cj x0.m x0.e).bind fun r7a=>
 some r7a else (if (wi64 (r1a - x1))<2 then (FS x0.m (wi64 (2 - (wi64 (r1a - x1))))).bind fun r3a=>
 some (2,r3a.Neg,r3a.Abs,(wi64 ((wi64 (x0.e - 2))+(wi64 (r1a - x1))))) else some ((wi64 (r1a - x1)),x0.m.Neg,x0.m.Abs,x0.e)).bind fun m0a=>
 (Ch m0a.2.2.1 m0a.1).bind fun r2a=>
 (Bp r2a m0a.1).bind fun r8a=>
 (Cg m0a.2.2.1 r8a).bind fun r4a=>
 (if (sz r4a:Int)=0 then some (decide (¬(x3=true))) else some (false)).bind fun m9a=>
 (Bp 1 (wi64 (m0a.1 - 1))).bind fun r0b=>
 (Cf r4a r0b).bind fun r5a=>
 (if r5a=0 then some (x3) else some (false)).bind fun m1b=>
 (if m1b=true then some (1) else some (r5a)).bind fun m2b=>
 (if 0<(sz r2a:Int) then (nth (limbs r2a) 0).bind fun u3b=>
 some (decide ((u3b%2)=1)) else some (false)).bind fun m4b=>
 (Ib m9a m2b m4b m0a.2.1 x2).bind fun r5b=>
 (if r5b=true then (Cq r2a 1).bind fun r6b=>
 some (r6b) else some (r2a)).bind fun m7b=>
 (Cj (⟨m0a.2.1,m7b⟩:Ah) (wi64 (m0a.2.2.2+m0a.1))).bind fun r8b=>
 some r8b
def Ku (x0:Aq) (x1:Int) (x2:Int):M (Al × Int):=
 mb (DR x0) fun r4a=>
 mb (FA x1) fun r5a=>
 mb (Fh x2) fun r6a=>
 (toN x0.Man.Abs).bind fun m0a=>
 (Fl (⟨(⟨x0.Man.Neg,m0a⟩:Ah),x0.Exp⟩:Al)).bind fun r1a=>
 (CR r1a x1 x2 false).bind fun r2a=>
 mb (Dg r2a) fun r3a=>
 some (.ok (r3a,0))
def IC (x0:Aq) (x1:Int) (x2:Int):Option (Al × Int):=(Ku x0 x1 x2).bind fun q=>match q with | .ok r=>some r | .error n=>some ((⟨(⟨false,0⟩:Ah),0⟩:Al),n)
def BL (x0:Int) (x1:Int):Option (AC):=
 (Bb x0 0).bind fun r7=>
 (Bb x1 0).bind fun r0a=>
 some (⟨r7,r0a⟩:AC)
def Hh (x0:Ah):Option (Int):=
 if (sz x0.Abs:Int)=0 then some 0 else if x0.Neg=true then some (-1) else some 1
def Bz (x0:An):Option (Int):=
 (Hh x0.m).bind fun r0a=>
 some r0a
def FX (x0:Int) (x1:Int):Option (Int):=
 if x0<x1 then some (-1) else if x1<x0 then some 1 else some 0
def EU (x0:An):Option (Int):=
 (Bm x0.m.Abs).bind fun r0a=>
 some (wi64 ((wi64 (r0a - 1))+x0.e))
def GW (x0:Ah):Option (Ah):=
 some (⟨(decide (¬(x0.Neg=true))),x0.Abs⟩:Ah)
def GY (x0:An):Option (An):=
 (GW x0.m).bind fun r0a=>
 some (⟨r0a,x0.e⟩:An)
def HG (x0:Ah) (x1:Ah):Option (Ah):=
 if x0.Neg=x1.Neg then (Cq x0.Abs x1.Abs).bind fun r0a=>
 some (⟨x0.Neg,r0a⟩:Ah) else (Cf x0.Abs x1.Abs).bind fun r1a=>
 if 0≤r1a then (Cg x0.Abs x1.Abs).bind fun r2a=>
 some (⟨x0.Neg,r2a⟩:Ah) else (Cg x1.Abs x0.Abs).bind fun r3a=>
 some (⟨x1.Neg,r3a⟩:Ah)
def Gw (x0:Ah) (x1:Ah) (x2:Int):Option (An):=
 (HG x0 x1).bind fun r0a=>
 (Cj r0a x2).bind fun r1a=>
 some r1a
def CG (x0:An) (x1:An):Option (An):=
 (if (sz x0.m.Abs:Int)=0 then some (x1.e) else some (min x0.e x1.e)).bind fun m5a=>
 (if (sz x1.m.Abs:Int)=0 then some (x0.e) else some (m5a)).bind fun m0a=>
 (if 0<(sz x0.m.Abs:Int) then (FS x0.m (wi64 (x0.e - m0a))).bind fun r1a=>
 some (r1a.Neg,r1a.Abs) else some (x0.m.Neg,x0.m.Abs)).bind fun m2a=>
 (if 0<(sz x1.m.Abs:Int) then (FS x1.m (wi64 (x1.e - m0a))).bind fun r3a=>
 some (r3a.Neg,r3a.Abs) else some (x1.m.Neg,x1.m.Abs)).bind fun m4a=>
 (Gw (⟨m2a.1,m2a.2⟩:Ah) (⟨m4a.1,m4a.2⟩:Ah) m0a).bind fun r6a=>
 some r6a
def Gn (x0:An) (x1:An):Option (An):=
 (CG x0 x1).bind fun r0a=>
 some r0a
def Bq (x0:An) (x1:An):Option (Int):=
 (Bz x0).bind fun r0a=>
 (Bz x1).bind fun r1a=>
 (if ¬r0a=r1a then some (true) else some (decide (r0a=0))).bind fun m4a=>
 if m4a=true then (FX r0a r1a).bind fun r5a=>
 some r5a else (EU x0).bind fun r2a=>
 (EU x1).bind fun r3a=>
 if ¬r2a=r3a then (Bz x0).bind fun r6a=>
 (FX r2a r3a).bind fun r7a=>
 some (wi64 (r6a*r7a)) else (GY x1).bind fun r8a=>
 (Gn x0 r8a).bind fun r9a=>
 (Bz r9a).bind fun r0b=>
 some r0b
def HY (x0:AI):Option (Bool):=
 (CD x0.Lo).bind fun r0a=>
 if r0a=true then (CD x0.Hi).bind fun r1a=>
 if r1a=true then (toN x0.Lo.Man.Abs).bind fun m2a=>
 (Fl (⟨(⟨x0.Lo.Man.Neg,m2a⟩:Ah),x0.Lo.Exp⟩:Al)).bind fun r3a=>
 (toN x0.Hi.Man.Abs).bind fun m4a=>
 (Fl (⟨(⟨x0.Hi.Man.Neg,m4a⟩:Ah),x0.Hi.Exp⟩:Al)).bind fun r5a=>
 (Bq r3a r5a).bind fun r6a=>
 some (decide (r6a≤0)) else some false else some false
def FR (x0_0:AI) (x0_1:AI):M (Unit):=
 (HY x0_0).bind fun r0a=>
 mb (Bj r0a 1) fun r2a=>
 (HY x0_1).bind fun r1a=>
 mb (Bj r1a 1) fun r3a=>
 some (.ok ())
def EK (x0:AC):Option (Av):=
 (Fl x0.Lo).bind fun r0a=>
 (Fl x0.Hi).bind fun r1a=>
 some (⟨r0a,r1a⟩:Av)
def HI (x0:Ah) (x1:Ah):Option (Ah):=
 (CL x0.Abs x1.Abs).bind fun r0a=>
 some (⟨(decide (¬x0.Neg=x1.Neg)),r0a⟩:Ah)
def Du (x0:An) (x1:An):Option (An):=
 (HI x0.m x1.m).bind fun r0a=>
 (Cj r0a (wi64 (x0.e+x1.e))).bind fun r1a=>
 some r1a
def Hb (x0:Av) (x1:Int):Option (Av):=
 (CR x0.lo x1 5 false).bind fun r0a=>
 (CR x0.hi x1 4 false).bind fun r1a=>
 some (⟨r0a,r1a⟩:Av)
def Gk (x0:Av):M (AC):=
 mb (Dg x0.lo) fun r0a=>
 mb (Dg x0.hi) fun r1a=>
 some (.ok (⟨r0a,r1a⟩:AC))
def JC (x0:Av) (x1:Av) (x2:Int) (x y:An):Option Av:=
 (Du x y).bind fun r0a=>
 (Bq r0a r0a).bind fun r1a=>
 (if r1a<0 then some () else some ()).bind fun m3a=>
 (Bq r0a r0a).bind fun r2a=>
 (if 0<r2a then some () else some ()).bind fun m4a=>
 some (⟨r0a,r0a⟩:Av)
def Gp (x0:Av) (x1:Av) (x2:Int) (sr:Av) (x y:An):Option Av:=
 (Du x y).bind fun r0a=>
 (Bq r0a sr.lo).bind fun r3a=>
 (if r3a<0 then some (r0a.m.Neg,r0a.m.Abs,r0a.e) else some (sr.lo.m.Neg,sr.lo.m.Abs,sr.lo.e)).bind fun m1a=>
 (Bq r0a sr.hi).bind fun r4a=>
 (if 0<r4a then some (r0a.m.Neg,r0a.m.Abs,r0a.e) else some (sr.hi.m.Neg,sr.hi.m.Abs,sr.hi.e)).bind fun m2a=>
 some (⟨(⟨(⟨m1a.1,m1a.2.1⟩:Ah),m1a.2.2⟩:An),(⟨(⟨m2a.1,m2a.2.1⟩:Ah),m2a.2.2⟩:An)⟩:Av)
def IR (x0:Av) (x1:Av) (x2:Int):M (AC):=
 (JC x0 x1 x2 x0.lo x1.lo).bind fun s0a=>
 (Gp x0 x1 x2 s0a x0.lo x1.hi).bind fun s1a=>
 (Gp x0 x1 x2 s1a x0.hi x1.lo).bind fun s2a=>
 (Gp x0 x1 x2 s2a x0.hi x1.hi).bind fun s3a=>
 (Hb s3a x2).bind fun r4a=>
 mb (Gk r4a) fun r5a=>
 some (.ok r5a)
def FG (x0:AI) (x1:AI) (x2:Int):M (AC × Int):=
 mb (FR x0 x1) fun r7a=>
 mb (FA x2) fun r8a=>
 (toN x0.Lo.Man.Abs).bind fun m0a=>
 (toN x0.Hi.Man.Abs).bind fun m1a=>
 (EK (⟨(⟨(⟨x0.Lo.Man.Neg,m0a⟩:Ah),x0.Lo.Exp⟩:Al),(⟨(⟨x0.Hi.Man.Neg,m1a⟩:Ah),x0.Hi.Exp⟩:Al)⟩:AC)).bind fun r2a=>
 (toN x1.Lo.Man.Abs).bind fun m3a=>
 (toN x1.Hi.Man.Abs).bind fun m4a=>
 (EK (⟨(⟨(⟨x1.Lo.Man.Neg,m3a⟩:Ah),x1.Lo.Exp⟩:Al),(⟨(⟨x1.Hi.Man.Neg,m4a⟩:Ah),x1.Hi.Exp⟩:Al)⟩:AC)).bind fun r5a=>
 mb (IR r2a r5a x2) fun r6a=>
 some (.ok (r6a,0))
def DZ (x0:AI) (x1:AI) (x2:Int):Option (AC × Int):=(FG x0 x1 x2).bind fun q=>match q with | .ok r=>some r | .error n=>some ((⟨(⟨(⟨false,0⟩:Ah),0⟩:Al),(⟨(⟨false,0⟩:Ah),0⟩:Al)⟩:AC),n)
def Jy (x0:AI) (x1:AI) (x2:Int):Option (AC × Int):=
 (DZ x0 x1 x2).bind fun r0a=>
 some (r0a.1,r0a.2)
def CS (x0:Ah) (x1:Ah):Option (Bool):=
 (if x0.Neg=x1.Neg then (AM (limbs x0.Abs) (limbs x1.Abs)).bind fun r0a=>
 some (r0a) else some (false)).bind fun m1a=>
 some m1a
def AU (x0:Al) (x1:Al):Option (Bool):=
 (CS x0.Man x1.Man).bind fun r0a=>
 (if r0a=true then some (decide (x0.Exp=x1.Exp)) else some (false)).bind fun m1a=>
 some m1a
def Dt (x0:AC) (x1:AC):Option (Bool):=
 (AU x0.Lo x1.Lo).bind fun r0a=>
 (if r0a=true then (AU x0.Hi x1.Hi).bind fun r1a=>
 some (r1a) else some (false)).bind fun m2a=>
 some m2a
def CO (x0:An) (x1:An) (x2:Int) (x3:Int):Option (An):=
 (Bz x0).bind fun r3a=>
 if r3a=0 then some (⟨(⟨false,0⟩:Ah),0⟩:An) else (Bm x1.m.Abs).bind fun r0a=>
 (Bm x0.m.Abs).bind fun r1a=>
 (Bp x0.m.Abs (max 0 (wi64 ((wi64 ((wi64 (x2+2))+r0a)) - r1a)))).bind fun r4a=>
 (CN r4a x1.m.Abs).bind fun r2a=>
 (CR (⟨(⟨(decide (¬x0.m.Neg=x1.m.Neg)),r2a.1⟩:Ah),(wi64 ((wi64 (x0.e - x1.e)) - (max 0 (wi64 ((wi64 ((wi64 (x2+2))+r0a)) - r1a)))))⟩:An) x2 x3 (decide (0<(sz r2a.2:Int)))).bind fun r5a=>
 some r5a
def JJ (x0:Av) (x1:Av) (x2:Int) (x y:An):Option Av:=
 (CO x y x2 5).bind fun r0a=>
 (CO x y x2 4).bind fun r1a=>
 (Bq r0a r0a).bind fun r2a=>
 (if r2a<0 then some () else some ()).bind fun m4a=>
 (Bq r1a r1a).bind fun r3a=>
 (if 0<r3a then some () else some ()).bind fun m5a=>
 some (⟨r0a,r1a⟩:Av)
def GQ (x0:Av) (x1:Av) (x2:Int) (sr:Av) (x y:An):Option Av:=
 (CO x y x2 5).bind fun r0a=>
 (CO x y x2 4).bind fun r1a=>
 (Bq r0a sr.lo).bind fun r4a=>
 (if r4a<0 then some (r0a.m.Neg,r0a.m.Abs,r0a.e) else some (sr.lo.m.Neg,sr.lo.m.Abs,sr.lo.e)).bind fun m2a=>
 (Bq r1a sr.hi).bind fun r5a=>
 (if 0<r5a then some (r1a.m.Neg,r1a.m.Abs,r1a.e) else some (sr.hi.m.Neg,sr.hi.m.Abs,sr.hi.e)).bind fun m3a=>
 some (⟨(⟨(⟨m2a.1,m2a.2.1⟩:Ah),m2a.2.2⟩:An),(⟨(⟨m3a.1,m3a.2.1⟩:Ah),m3a.2.2⟩:An)⟩:Av)
def Jc (x0:Av) (x1:Av) (x2:Int):M (AC):=
 (Bz x1.lo).bind fun r0a=>
 (Bz x1.hi).bind fun r1a=>
 mb (Bj (decide (0<(wi64 (r0a*r1a)))) 8) fun r7a=>
 (JJ x0 x1 x2 x0.lo x1.lo).bind fun s2a=>
 (GQ x0 x1 x2 s2a x0.lo x1.hi).bind fun s3a=>
 (GQ x0 x1 x2 s3a x0.hi x1.lo).bind fun s4a=>
 (GQ x0 x1 x2 s4a x0.hi x1.hi).bind fun s5a=>
 mb (Gk s5a) fun r6a=>
 some (.ok r6a)
def FQ (x0:AI) (x1:AI) (x2:Int):M (AC × Int):=
 mb (FR x0 x1) fun r7a=>
 mb (FA x2) fun r8a=>
 (toN x0.Lo.Man.Abs).bind fun m0a=>
 (toN x0.Hi.Man.Abs).bind fun m1a=>
 (EK (⟨(⟨(⟨x0.Lo.Man.Neg,m0a⟩:Ah),x0.Lo.Exp⟩:Al),(⟨(⟨x0.Hi.Man.Neg,m1a⟩:Ah),x0.Hi.Exp⟩:Al)⟩:AC)).bind fun r2a=>
 (toN x1.Lo.Man.Abs).bind fun m3a=>
 (toN x1.Hi.Man.Abs).bind fun m4a=>
 (EK (⟨(⟨(⟨x1.Lo.Man.Neg,m3a⟩:Ah),x1.Lo.Exp⟩:Al),(⟨(⟨x1.Hi.Man.Neg,m4a⟩:Ah),x1.Hi.Exp⟩:Al)⟩:AC)).bind fun r5a=>
 mb (Jc r2a r5a x2) fun r6a=>
 some (.ok (r6a,0))
def Er (x0:AI) (x1:AI) (x2:Int):Option (AC × Int):=(FQ x0 x1 x2).bind fun q=>match q with | .ok r=>some r | .error n=>some ((⟨(⟨(⟨false,0⟩:Ah),0⟩:Al),(⟨(⟨false,0⟩:Ah),0⟩:Al)⟩:AC),n)
def IU (x0:AI) (x1:AI) (x2:Int):Option (AC × Int):=
 (Er x0 x1 x2).bind fun r0a=>
 some (r0a.1,r0a.2)
def Gx (x0:Nat):Nat→Nat→Option (Nat × Nat)
 | 0,_=>none
 | n2a+1,v0a=>
 (CN x0 v0a).bind fun r3a=>
 (Cq v0a r3a.1).bind fun r4a=>
 (Ch r4a 1).bind fun r1a=>
 (Cf r1a v0a).bind fun r5a=>
 if 0≤r5a then (CL v0a v0a).bind fun r6a=>
 (Cg x0 r6a).bind fun r7a=>
 some (v0a,r7a) else Gx x0 n2a r1a
def It (x0:Nat):Option (Nat × Nat):=
 if (sz x0:Int)=0 then some (0,0) else (Bm x0).bind fun r0a=>
 (Bp 1 (wi64 ((wi64 (r0a+1)).tdiv 2))).bind fun r1a=>
 Gx x0 18446744073709551616 r1a
def IW (x0:An) (x1:Int) (x2:Int):Option (An):=
 (Bz x0).bind fun r3a=>
 if r3a=0 then some (⟨(⟨false,0⟩:Ah),0⟩:An) else (Bm x0.m.Abs).bind fun r0a=>
 (if ¬((wi64 (x0.e - (max 0 (wi64 ((wi64 ((wi64 (2*x1))+4)) - r0a)))))%2)=0 then some (wi64 ((max 0 (wi64 ((wi64 ((wi64 (2*x1))+4)) - r0a)))+1)) else some (max 0 (wi64 ((wi64 ((wi64 (2*x1))+4)) - r0a)))).bind fun m1a=>
 (Bp x0.m.Abs m1a).bind fun r4a=>
 (It r4a).bind fun r2a=>
 (CR (⟨(⟨false,r2a.1⟩:Ah),(wi64 ((wi64 (x0.e - m1a)).tdiv 2))⟩:An) x1 x2 (decide (0<(sz r2a.2:Int)))).bind fun r5a=>
 some r5a
def Ji (x0:Av) (x1:Av) (x2:Int):M (AC):=
 (Bz x0.lo).bind fun r0a=>
 mb (Bj (decide (0≤r0a)) 3) fun r4a=>
 (IW x0.lo x2 5).bind fun r1a=>
 (IW x0.hi x2 4).bind fun r2a=>
 mb (Gk (⟨r1a,r2a⟩:Av)) fun r3a=>
 some (.ok r3a)
def FU (x0:AI) (x1:AI) (x2:Int):M (AC × Int):=
 mb (FR x0 x1) fun r7a=>
 mb (FA x2) fun r8a=>
 (toN x0.Lo.Man.Abs).bind fun m0a=>
 (toN x0.Hi.Man.Abs).bind fun m1a=>
 (EK (⟨(⟨(⟨x0.Lo.Man.Neg,m0a⟩:Ah),x0.Lo.Exp⟩:Al),(⟨(⟨x0.Hi.Man.Neg,m1a⟩:Ah),x0.Hi.Exp⟩:Al)⟩:AC)).bind fun r2a=>
 (toN x1.Lo.Man.Abs).bind fun m3a=>
 (toN x1.Hi.Man.Abs).bind fun m4a=>
 (EK (⟨(⟨(⟨x1.Lo.Man.Neg,m3a⟩:Ah),x1.Lo.Exp⟩:Al),(⟨(⟨x1.Hi.Man.Neg,m4a⟩:Ah),x1.Hi.Exp⟩:Al)⟩:AC)).bind fun r5a=>
 mb (Ji r2a r5a x2) fun r6a=>
 some (.ok (r6a,0))
def El (x0:AI) (x1:AI) (x2:Int):Option (AC × Int):=(FU x0 x1 x2).bind fun q=>match q with | .ok r=>some r | .error n=>some ((⟨(⟨(⟨false,0⟩:Ah),0⟩:Al),(⟨(⟨false,0⟩:Ah),0⟩:Al)⟩:AC),n)
def JR (x0:AI) (x1:Int):Option (AC × Int):=
 (El x0 x0 x1).bind fun r0a=>
 some (r0a.1,r0a.2)
def DV:Option (Bool):=
 (Ft 12).bind fun r3=>
 (GN (⟨r3.Neg,(limbs r3.Abs)⟩:AL) 3).bind fun r9a=>
 (Bb 11 0).bind fun r7a=>
 (IC (⟨(⟨r7a.Man.Neg,(limbs r7a.Man.Abs)⟩:AL),r7a.Exp⟩:Aq) 3 1).bind fun r0b=>
 (Bb (-11) 0).bind fun r8a=>
 (IC (⟨(⟨r8a.Man.Neg,(limbs r8a.Man.Abs)⟩:AL),r8a.Exp⟩:Aq) 2 5).bind fun r1b=>
 (BL (-1) 2).bind fun r0a=>
 (BL (-3) 5).bind fun r1a=>
 (Jy (⟨(⟨(⟨r0a.Lo.Man.Neg,(limbs r0a.Lo.Man.Abs)⟩:AL),r0a.Lo.Exp⟩:Aq),(⟨(⟨r0a.Hi.Man.Neg,(limbs r0a.Hi.Man.Abs)⟩:AL),r0a.Hi.Exp⟩:Aq)⟩:AI) (⟨(⟨(⟨r1a.Lo.Man.Neg,(limbs r1a.Lo.Man.Abs)⟩:AL),r1a.Lo.Exp⟩:Aq),(⟨(⟨r1a.Hi.Man.Neg,(limbs r1a.Hi.Man.Abs)⟩:AL),r1a.Hi.Exp⟩:Aq)⟩:AI) 8).bind fun r2b=>
 (if ¬r9a.2=0 then some (true) else some (decide (¬r0b.2=0))).bind fun m5b=>
 (if m5b=true then some (true) else some (decide (¬r1b.2=0))).bind fun m6b=>
 (if m6b=true then some (true) else some (decide (¬r2b.2=0))).bind fun m7b=>
 if m7b=true then some false else (Bb 3 5).bind fun r8b=>
 (AU r9a.1 r8b).bind fun r9b=>
 if ¬(r9b=true) then some false else (Bb 12 0).bind fun r0c=>
 (AU r0b.1 r0c).bind fun r1c=>
 if ¬(r1c=true) then some false else (Bb (-12) 0).bind fun r2c=>
 (AU r1b.1 r2c).bind fun r3c=>
 if ¬(r3c=true) then some false else (BL (-6) 10).bind fun r4c=>
 (Dt r2b.1 r4c).bind fun r5c=>
 if ¬(r5c=true) then some false else (BL 1 1).bind fun r2a=>
 (BL 3 3).bind fun r3a=>
 (IU (⟨(⟨(⟨r2a.Lo.Man.Neg,(limbs r2a.Lo.Man.Abs)⟩:AL),r2a.Lo.Exp⟩:Aq),(⟨(⟨r2a.Hi.Man.Neg,(limbs r2a.Hi.Man.Abs)⟩:AL),r2a.Hi.Exp⟩:Aq)⟩:AI) (⟨(⟨(⟨r3a.Lo.Man.Neg,(limbs r3a.Lo.Man.Abs)⟩:AL),r3a.Lo.Exp⟩:Aq),(⟨(⟨r3a.Hi.Man.Neg,(limbs r3a.Hi.Man.Abs)⟩:AL),r3a.Hi.Exp⟩:Aq)⟩:AI) 4).bind fun r3b=>
 (BL 1 1).bind fun r4a=>
 (BL (-1) 1).bind fun r5a=>
 (IU (⟨(⟨(⟨r4a.Lo.Man.Neg,(limbs r4a.Lo.Man.Abs)⟩:AL),r4a.Lo.Exp⟩:Aq),(⟨(⟨r4a.Hi.Man.Neg,(limbs r4a.Hi.Man.Abs)⟩:AL),r4a.Hi.Exp⟩:Aq)⟩:AI) (⟨(⟨(⟨r5a.Lo.Man.Neg,(limbs r5a.Lo.Man.Abs)⟩:AL),r5a.Lo.Exp⟩:Aq),(⟨(⟨r5a.Hi.Man.Neg,(limbs r5a.Hi.Man.Abs)⟩:AL),r5a.Hi.Exp⟩:Aq)⟩:AI) 4).bind fun r6c=>
 (BL 2 2).bind fun r6a=>
 (JR (⟨(⟨(⟨r6a.Lo.Man.Neg,(limbs r6a.Lo.Man.Abs)⟩:AL),r6a.Lo.Exp⟩:Aq),(⟨(⟨r6a.Hi.Man.Neg,(limbs r6a.Hi.Man.Abs)⟩:AL),r6a.Hi.Exp⟩:Aq)⟩:AI) 4).bind fun r4b=>
 (Bb 5 (-4)).bind fun r7c=>
 (Bb 11 (-5)).bind fun r8c=>
 (Bb 11 (-3)).bind fun r9c=>
 (Bb 3 (-1)).bind fun r0d=>
 (if r3b.2=0 then some (decide (r6c.2=8)) else some (false)).bind fun m1d=>
 (if m1d=true then some (decide (r4b.2=0)) else some (false)).bind fun m2d=>
 (if m2d=true then (Dt r3b.1 (⟨r7c,r8c⟩:AC)).bind fun r3d=>
 some (r3d) else some (false)).bind fun m4d=>
 (if m4d=true then (Dt r4b.1 (⟨r9c,r0d⟩:AC)).bind fun r5d=>
 some (r5d) else some (false)).bind fun m6d=>
 some m6d
def CH (x0:Nat) (x1:Nat):Nat→Nat→Nat→Option (Nat)
 | 0,_,_=>none
 | n2a+1,v1a,v0a=>
 if 0<(sz v0a:Int) then (BV v1a v0a).bind fun r3a=>
 CH x0 x1 n2a v0a r3a.R else some (v1a)
def Hn (x0:Nat) (x1:Nat):Option (Nat):=
 (CH x0 x1 18446744073709551616 x0 x1).bind fun m0a=>
 some m0a
def Dr:Option (Nat):=
 some 1
def Fv (x0:Ah) (x1:Nat):Option (De):=
 (Hn x0.Abs x1).bind fun r0a=>
 (Dr).bind fun r1a=>
 (AM (limbs r0a) (limbs r1a)).bind fun r2a=>
 if r2a=true then some (⟨x0,x1⟩:De) else (BV x0.Abs r0a).bind fun r3a=>
 (Cc x0.Neg r3a.Q).bind fun r4a=>
 (BV x1 r0a).bind fun r5a=>
 some (⟨r4a,r5a.Q⟩:De)
def Gc (x0:Nat) (x1:Nat) (x2:Nat) (x3:Bool) (x4:Int):Option (Nat):=
 if (sz x1:Int)=0 then some x0 else (if x4=4 then some (decide (¬(x3=true))) else some (false)).bind fun m1a=>
 (if m1a=true then some (true) else (if x4=5 then some (x3) else some (false)).bind fun m2a=>
 some (m2a)).bind fun m3a=>
 (if x4=1 then some (true) else some (decide (x4=2))).bind fun m4a=>
 (if m4a=true then (Dq x1 x1).bind fun r5a=>
 (Dn r5a x2).bind fun r0a=>
 (if 0<r0a then some (true) else (if r0a=0 then (if x4=2 then some (true) else (if 0<(sz x0:Int) then (nth (limbs x0) 0).bind fun u6a=>
 some (decide ((u6a.tmod 2)=1)) else some (false)).bind fun m7a=>
 some (m7a)).bind fun m8a=>
 some (m8a) else some (false)).bind fun m9a=>
 some (m9a)).bind fun m0b=>
 some (m0b) else some (m3a)).bind fun m1b=>
 if m1b=true then (Dr).bind fun r2b=>
 (Dq x0 r2b).bind fun r3b=>
 some r3b else some x0
def Iz (x0:Nat) (x1:Nat) (x2:Nat) (x3:Bool) (x4:Int) (x5:Int):Option (Al):=
 (Gc x0 x1 x2 x3 x4).bind fun r0a=>
 (Cc x3 r0a).bind fun r1a=>
 (DI r1a x5).bind fun r2a=>
 some r2a
def Cn (x0:Aq):Option (Bool):=
 (if (x0.Man.Abs.length:Int)≤60 then (if (-3000)≤x0.Exp then some (decide (x0.Exp≤3000)) else some (false)).bind fun m0a=>
 (if m0a=true then some (true) else (CK x0).bind fun r1a=>
 some (decide (¬(r1a=true)))).bind fun m2a=>
 some (m2a) else some (false)).bind fun m3a=>
 some m3a
def Gl (x0_0:Aq) (x0_1:Aq):M (Unit):=
 (CD x0_0).bind fun r0a=>
 mb (Bj r0a 1) fun r2a=>
 (CD x0_1).bind fun r1a=>
 mb (Bj r1a 1) fun r3a=>
 some (.ok ())
def GL (x0:Ah):Option (Bool):=
 (BW (⟨x0.Neg,(limbs x0.Abs)⟩:AL)).bind fun r0a=>
 some (decide (¬(r0a=true)))
def Bl (x0_0:Ah):Option (Int):=
 (GL x0_0).bind fun r0a=>
 if r0a=true then some 0 else some (-1)
def Bh (x0_0:Ah):Option (Bool):=
 (Bl x0_0).bind fun r7=>
 some (decide (0≤r7))
def IE (x0:Bool) (x1:Int):M (Unit):=
 if ¬(x0=true) then some (.error x1) else some (.ok ())
def Fj (x0_0:Ah):M (Unit):=
 (Bh x0_0).bind fun r5=>
 mb (IE (decide (¬(r5=true))) 1) fun r0a=>
 some (.ok ())
def FD (x0:Nat):Option (Bool):=
 (Fo (limbs x0)).bind fun r6=>
 some (decide (¬(r6=true)))
def BR (x0_0:Nat):Option (Int):=
 (FD x0_0).bind fun r0a=>
 if r0a=true then some 0 else some (-1)
def BF (x0_0:Nat):Option (Bool):=
 (BR x0_0).bind fun r7=>
 some (decide (0≤r7))
def EA (x0:Bool) (x1:Int):M (Unit):=
 if ¬(x0=true) then some (.error x1) else some (.ok ())
def FV (x0_0:Nat):M (Unit):=
 (BF x0_0).bind fun r5=>
 mb (EA (decide (¬(r5=true))) 1) fun r0a=>
 some (.ok ())
def Fz (x0:Nat):M (Nat):=
 mb (EA (decide ((sz x0:Int)≤1024)) 2) fun r7=>
 (Ec x0).bind fun r0a=>
 some (.ok r0a)
def KC (x0:Nat) (x1:Int):M (Nat × Int):=
 mb (FV x0) fun r2a=>
 mb (EA (decide (0≤x1)) 1) fun r3a=>
 if (sz x0:Int)=0 then some (.ok (0,0)) else mb (EA (decide (x1≤32768)) 2) fun r4a=>
 (Cr x0 x1).bind fun r0a=>
 mb (Fz r0a) fun r1a=>
 some (.ok (r1a,0))
def IG (x0:Nat) (x1:Int):Option (Nat × Int):=(KC x0 x1).bind fun q=>match q with | .ok r=>some r | .error n=>none
def Fu (x0:Nat) (x1:Int):M (Nat):=
 mb (IE (decide (x1=0)) x1) fun r7=>
 some (.ok x0)
def Mf (x0:Nat) (x1:Int):M (Nat × Int):=
 mb (FV x0) fun r2a=>
 mb (EA (decide (0≤x1)) 1) fun r3a=>
 (Dk x0 x1).bind fun r0a=>
 mb (Fz r0a) fun r1a=>
 some (.ok (r1a,0))
def Ko (x0:Nat) (x1:Int):Option (Nat × Int):=(Mf x0 x1).bind fun q=>match q with | .ok r=>some r | .error n=>none
def BS (x0_0:Nat) (x0_1:Nat):Option (Int):=
 (FD x0_0).bind fun r0a=>
 if r0a=true then some 0 else (FD x0_1).bind fun r1a=>
 if r1a=true then some 1 else some (-1)
def BE (x0_0:Nat) (x0_1:Nat):Option (Bool):=
 (BS x0_0 x0_1).bind fun r0a=>
 some (decide (0≤r0a))
def EZ (x0_0:Nat) (x0_1:Nat):M (Unit):=
 (BE x0_0 x0_1).bind fun r8=>
 mb (EA (decide (¬(r8=true))) 1) fun r0a=>
 some (.ok ())
def Kd (x0:Nat) (x1:Nat):M (Nat):=
 (DQ x0 x1).bind fun r9=>
 mb (EA (decide (0≤r9)) 3) fun r1a=>
 (Iu x0 x1).bind fun r0a=>
 some (.ok r0a)
def Ff (x0:Nat) (x1:Nat):M (Nat × Int):=
 mb (EZ x0 x1) fun r2a=>
 mb (Kd x0 x1) fun r0a=>
 mb (Fz r0a) fun r1a=>
 some (.ok (r1a,0))
def DJ (x0:Nat) (x1:Nat):Option (Nat × Int):=(Ff x0 x1).bind fun q=>match q with | .ok r=>some r | .error n=>none
def Lq (x0:Nat) (x1:Nat):Option (Nat × Int):=
 (DJ x0 x1).bind fun r9=>
 some (r9.1,r9.2)
def Ev (x0:Nat) (x1:Nat):M (Nat × Int):=
 mb (EZ x0 x1) fun r2a=>
 (Ir x0 x1).bind fun r0a=>
 mb (Fz r0a) fun r1a=>
 some (.ok (r1a,0))
def CX (x0:Nat) (x1:Nat):Option (Nat × Int):=(Ev x0 x1).bind fun q=>match q with | .ok r=>some r | .error n=>none
def Ll (x0:Nat) (x1:Nat):Option (Nat × Int):=
 (CX x0 x1).bind fun r9=>
 some (r9.1,r9.2)
def ES (x0:Bool) (x1:Nat):Option (Ah):=
 (if x0=true then some (decide (0<(sz x1:Int))) else some (false)).bind fun m0a=>
 some (⟨m0a,x1⟩:Ah)
def GR (x0:Ah):Option (Ah):=
 (BU x0.Abs).bind fun r0a=>
 some (⟨x0.Neg,r0a⟩:Ah)
def Eb (x0:Int) (x1:Ah):M (Ah):=
 if 0≤x0 then (IG x1.Abs x0).bind fun r0a=>
 mb (Fu r0a.1 r0a.2) fun r5a=>
 (ES x1.Neg r5a).bind fun r6a=>
 (GR r6a).bind fun r7a=>
 some (.ok r7a) else if ¬(x1.Neg=true) then (Ko x1.Abs (wi64 (-(max x0 (-33792))))).bind fun r1a=>
 mb (Fu r1a.1 r1a.2) fun r8a=>
 (ES false r8a).bind fun r9a=>
 (GR r9a).bind fun r0b=>
 some (.ok r0b) else (Lq x1.Abs 1).bind fun r2a=>
 mb (Fu r2a.1 r2a.2) fun r1b=>
 (Ko r1b (wi64 (-(max x0 (-33792))))).bind fun r3a=>
 mb (Fu r3a.1 r3a.2) fun r2b=>
 (Ll r2b 1).bind fun r4a=>
 mb (Fu r4a.1 r4a.2) fun r3b=>
 (ES true r3b).bind fun r4b=>
 (GR r4b).bind fun r5b=>
 some (.ok r5b)
def Ds (x0_0:Int) (x0_1:Ah) (x1_0:Ah):M (Ah × Int):=
 mb (Fj x1_0) fun r1a=>
 mb (Eb x0_0 x0_1) fun r0a=>
 some (.ok (r0a,0))
def Cu (x0_0:Int) (x0_1:Ah) (x1_0:Ah):Option (Ah × Int):=(Ds x0_0 x0_1 x1_0).bind fun q=>match q with | .ok r=>some r | .error n=>none
def Gq (x0:Ah) (x1:Int):Option (Ah × Int):=
 (Cu x1 x0 x0).bind fun r0a=>
 some (r0a.1,r0a.2)
def Jl (x0:Aq):M (De × Int):=
 mb (DR x0) fun r6a=>
 if 0≤x0.Exp then (toN x0.Man.Abs).bind fun m2a=>
 (Gq (⟨x0.Man.Neg,m2a⟩:Ah) x0.Exp).bind fun r0a=>
 mb (Bj (decide (r0a.2=0)) r0a.2) fun r7a=>
 (BU r0a.1.Abs).bind fun r3a=>
 some (.ok ((⟨(⟨r0a.1.Neg,r3a⟩:Ah),1⟩:De),0)) else (IG 1 (wi64 (-x0.Exp))).bind fun r1a=>
 mb (Bj (decide (r1a.2=0)) r1a.2) fun r8a=>
 (toN x0.Man.Abs).bind fun m4a=>
 (BU m4a).bind fun r5a=>
 some (.ok ((⟨(⟨x0.Man.Neg,r5a⟩:Ah),r1a.1⟩:De),0))
def HF (x0:Aq):Option (De × Int):=(Jl x0).bind fun q=>match q with | .ok r=>some r | .error n=>some ((⟨(⟨false,0⟩:Ah),0⟩:De),n)
def p_sorobanref03_Whole (x0:Ah):Option (De):=
 (Dr).bind fun r0a=>
 some (⟨x0,r0a⟩:De)
def Fq (x0:Al):Option (De):=
 if 0≤x0.Exp then (BJ x0.Man.Abs x0.Exp).bind fun r0a=>
 (p_sorobanref03_Whole (⟨x0.Man.Neg,r0a⟩:Ah)).bind fun r1a=>
 some r1a else (Dr).bind fun r2a=>
 (BJ r2a (wi64 (0 - x0.Exp))).bind fun r3a=>
 (Fv x0.Man r3a).bind fun r4a=>
 some r4a
def Ep (x0:Int):Option (Bool):=
 (if 1≤x0 then some (decide (x0≤5)) else some (false)).bind fun m0a=>
 some m0a
def Ed (x0:Nat) (x1:Nat):Nat→Nat→Nat→Option (Nat)
 | 0,_,_=>none
 | n2a+1,v1a,v0a=>
 if 0<(sz v0a:Int) then (BM v1a v0a).bind fun r3a=>
 Ed x0 x1 n2a v0a r3a.2 else some (v1a)
def Ij (x0:Nat) (x1:Nat):Option (Nat):=
 (Ed x0 x1 18446744073709551616 x0 x1).bind fun m0a=>
 some m0a
def DG (x0:Nat) (x1:Nat):M (Nat × Int):=
 mb (EZ x0 x1) fun r2a=>
 (Ij x0 x1).bind fun r0a=>
 mb (Fz r0a) fun r1a=>
 some (.ok (r1a,0))
def CC (x0:Nat) (x1:Nat):Option (Nat × Int):=(DG x0 x1).bind fun q=>match q with | .ok r=>some r | .error n=>none
def Jm (x0:Nat) (x1:Nat):Option (Nat × Int):=
 (CC x0 x1).bind fun r9=>
 some (r9.1,r9.2)
def Gs (x0:Gm):Option (Bool):=
 (BW x0.Num).bind fun r1a=>
 (if ¬(r1a=true) then some (true) else (Fo x0.Den).bind fun r2a=>
 some (decide (¬(r2a=true)))).bind fun m3a=>
 (if m3a=true then some (true) else some (decide ((x0.Den.length:Int)=0))).bind fun m4a=>
 if m4a=true then some false else (toN x0.Num.Abs).bind fun m5a=>
 (toN x0.Den).bind fun m6a=>
 (Jm m5a m6a).bind fun r0a=>
 (if r0a.2=0 then some (decide ((sz r0a.1:Int)=1)) else some (false)).bind fun m7a=>
 (if m7a=true then (nth (limbs r0a.1) 0).bind fun u8a=>
 some (decide (u8a=1)) else some (false)).bind fun m9a=>
 some m9a
def GV (x0:De):Option (An × An):=
 (Ic x0.Num).bind fun r0a=>
 (Cj r0a 0).bind fun r1a=>
 (Cj (⟨false,x0.Den⟩:Ah) 0).bind fun r2a=>
 some (r1a,r2a)
def Iq (x0:Gm) (x1:Int) (x2:Int):M (Al × Int):=
 (Gs x0).bind fun r1a=>
 mb (Bj r1a 1) fun r6a=>
 mb (FA x1) fun r7a=>
 mb (Fh x2) fun r8a=>
 (toN x0.Num.Abs).bind fun m2a=>
 (toN x0.Den).bind fun m3a=>
 (GV (⟨(⟨x0.Num.Neg,m2a⟩:Ah),m3a⟩:De)).bind fun r0a=>
 (CO r0a.1 r0a.2 x1 x2).bind fun r4a=>
 mb (Dg r4a) fun r5a=>
 some (.ok (r5a,0))
def EX (x0:Gm) (x1:Int) (x2:Int):Option (Al × Int):=(Iq x0 x1 x2).bind fun q=>match q with | .ok r=>some r | .error n=>some ((⟨(⟨false,0⟩:Ah),0⟩:Al),n)
def DB (x0_0:Aq) (x0_1:Aq):Option (Bool):=
 (Cn x0_0).bind fun r0a=>
 (if ¬(r0a=true) then some (true) else (CD x0_0).bind fun r1a=>
 some (decide (¬(r1a=true)))).bind fun m2a=>
 if m2a=true then some false else (Cn x0_1).bind fun r3a=>
 (if ¬(r3a=true) then some (true) else (CD x0_1).bind fun r4a=>
 some (decide (¬(r4a=true)))).bind fun m5a=>
 if m5a=true then some false else some true
def JP (x0:Aq) (x1:Aq):M (Int × Int):=
 mb (Gl x0 x1) fun r5a=>
 (toN x0.Man.Abs).bind fun m0a=>
 (Fl (⟨(⟨x0.Man.Neg,m0a⟩:Ah),x0.Exp⟩:Al)).bind fun r1a=>
 (toN x1.Man.Abs).bind fun m2a=>
 (Fl (⟨(⟨x1.Man.Neg,m2a⟩:Ah),x1.Exp⟩:Al)).bind fun r3a=>
 (Bq r1a r3a).bind fun r4a=>
 some (.ok (r4a,0))
def IN (x0:Aq) (x1:Aq):Option (Int × Int):=(JP x0 x1).bind fun q=>match q with | .ok r=>some r | .error n=>some (0,n)
def JU (x0:Aq):M (Int × Int):=
 mb (DR x0) fun r3a=>
 mb (Bj (decide (0<(x0.Man.Abs.length:Int))) 5) fun r4a=>
 (toN x0.Man.Abs).bind fun m0a=>
 (Fl (⟨(⟨x0.Man.Neg,m0a⟩:Ah),x0.Exp⟩:Al)).bind fun r1a=>
 (EU r1a).bind fun r2a=>
 some (.ok (r2a,0))
def Hm (x0:Aq):Option (Int × Int):=(JU x0).bind fun q=>match q with | .ok r=>some r | .error n=>some (0,n)
def IJ (x0:Aq) (x1:Gm):M (Int × Int):=
 mb (DR x0) fun r8a=>
 (Gs x1).bind fun r1a=>
 mb (Bj r1a 1) fun r9a=>
 (toN x1.Num.Abs).bind fun m2a=>
 (toN x1.Den).bind fun m3a=>
 (GV (⟨(⟨x1.Num.Neg,m2a⟩:Ah),m3a⟩:De)).bind fun r0a=>
 (toN x0.Man.Abs).bind fun m4a=>
 (Fl (⟨(⟨x0.Man.Neg,m4a⟩:Ah),x0.Exp⟩:Al)).bind fun r5a=>
 (Du r5a r0a.2).bind fun r6a=>
 (Bq r6a r0a.1).bind fun r7a=>
 some (.ok (r7a,0))
def FF (x0:Aq) (x1:Gm):Option (Int × Int):=(IJ x0 x1).bind fun q=>match q with | .ok r=>some r | .error n=>some (0,n)
def EF (x0:Aq) (x1:Aq) (x2:Int):Option (Bool):=
 (DB x0 x1).bind fun r6a=>
 (if ¬(r6a=true) then some (true) else (Ep x2).bind fun r7a=>
 some (decide (¬(r7a=true)))).bind fun m8a=>
 if m8a=true then (DV).bind fun r9a=>
 some r9a else (GN x0.Man x0.Exp).bind fun r1a=>
 (IN x0 x1).bind fun r2a=>
 (HF x0).bind fun r0a=>
 (if ¬r1a.2=0 then some (true) else some (decide (¬r2a.2=0))).bind fun m0b=>
 (if m0b=true then some (true) else some (decide (¬r0a.2=0))).bind fun m1b=>
 (if m1b=true then some (true) else (toN x0.Man.Abs).bind fun m2b=>
 (AU r1a.1 (⟨(⟨x0.Man.Neg,m2b⟩:Ah),x0.Exp⟩:Al)).bind fun r3b=>
 some (decide (¬(r3b=true)))).bind fun m4b=>
 (if m4b=true then some (true) else (toN x0.Man.Abs).bind fun m5b=>
 (toN x1.Man.Abs).bind fun m6b=>
 (AU (⟨(⟨x0.Man.Neg,m5b⟩:Ah),x0.Exp⟩:Al) (⟨(⟨x1.Man.Neg,m6b⟩:Ah),x1.Exp⟩:Al)).bind fun r7b=>
 some (decide (¬(decide (r2a.1=0))=r7b))).bind fun m8b=>
 if m8b=true then some false else (Hm x0).bind fun r3a=>
 (if r3a.2=0 then some (wi64 ((wi64 (r3a.1 - x0.Exp))+1)) else some (1)).bind fun m9b=>
 (EX (⟨(⟨r0a.1.Num.Neg,(limbs r0a.1.Num.Abs)⟩:AL),(limbs r0a.1.Den)⟩:Gm) m9b x2).bind fun r4a=>
 (FF x0 (⟨(⟨r0a.1.Num.Neg,(limbs r0a.1.Num.Abs)⟩:AL),(limbs r0a.1.Den)⟩:Gm)).bind fun r5a=>
 (DV).bind fun r0c=>
 (if r0c=true then some (decide (r4a.2=0)) else some (false)).bind fun m1c=>
 (if m1c=true then (toN x0.Man.Abs).bind fun m2c=>
 (AU r4a.1 (⟨(⟨x0.Man.Neg,m2c⟩:Ah),x0.Exp⟩:Al)).bind fun r3c=>
 some (r3c) else some (false)).bind fun m4c=>
 (if m4c=true then some (decide (r5a.2=0)) else some (false)).bind fun m5c=>
 (if m5c=true then some (decide (r5a.1=0)) else some (false)).bind fun m6c=>
 some m6c
end Go.Proofs

