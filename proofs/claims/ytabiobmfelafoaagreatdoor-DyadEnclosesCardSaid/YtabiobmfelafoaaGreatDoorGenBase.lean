import Derived.Test.YtabiobmfelafoaaGreatDoorProg
import Derived.Test.YtabiobmfelafoaaGreatDoorCor
import Derived.Test.YtabiobmfelafoaaGreatDoorRW
import Derived.Test.YtabiobmfelafoaaGreatDoorJD
import Derived.Test.YtabiobmfelafoaaGreatDoorLC
namespace Go.Proofs
set_option linter.unusedVariables false
set_option linter.unusedSimpArgs false
set_option maxHeartbeats 4000000
open Go.RowKit Go.Sb Go.Proofs.Sbn
open Go.Proofs.Tryz
structure Ar where
 Neg:Bool
 Abs:List Int
structure Aq where
 Man:Ar
 Exp:Int
structure Am where
 Lo:Aq
 Hi:Aq
structure Ae where
 Neg:Bool
 Abs:Nat
structure Al where
 Man:Ae
 Exp:Int
structure Aj where
 m:Ae
 e:Int
structure Ao where
 Lo:Al
 Hi:Al
structure An where
 lo:Aj
 hi:Aj
structure Ap where
 Num:Ae
 Den:Nat
structure sorobanref01_DividedT where
 Q:Nat
 R:Nat
structure BT where
 Num:Ar
 Den:List Int
theorem BB:agg prog 29 6=true:=by kernel_rfl
theorem Lp:fieldAt prog 29 0=some 0:=by kernel_rfl
theorem DU:agg prog 27 3=true:=by kernel_rfl
theorem Lj:fieldAt prog 29 1=some 3:=by kernel_rfl
theorem Jn:Ik prog 27 [.bool false,.slice none 0 0,.int .i64 0]:=FP (by kernel_rfl)
theorem LH:prog.underlying 46=some (.slice 27):=by kernel_rfl
theorem Gw:Ep prog 27 3=true:=by kernel_rfl
theorem Jg:fieldAt prog 27 0=some 0:=by kernel_rfl
theorem BI:fieldAt prog 25 1=some 1:=by kernel_rfl
theorem Ci:Mu prog 23=true:=by kernel_rfl
theorem CH:prog.underlying 23=some (.slice 179):=by kernel_rfl
theorem EO:agg prog 25 2=true:=by kernel_rfl
theorem en_143:Ent prog 143:=ent func143 (by kernel_rfl) rfl
theorem Fo:fieldAt prog 25 0=some 0:=by kernel_rfl
theorem Gy:Mu prog 4=true:=by kernel_rfl
theorem en_61:Ent prog 61:=ent func61 (by kernel_rfl) rfl
theorem Ib:fieldAt prog 27 1=some 2:=by kernel_rfl
theorem GR:Mu prog 3=true:=by kernel_rfl
theorem Qr:Ent prog 128:=ent func128 (by kernel_rfl) rfl
theorem SV:Ent prog 45:=ent func45 (by kernel_rfl) rfl
theorem en_14:Ent prog 14:=ent func14 (by kernel_rfl) rfl
theorem HT:Ik prog 25 [.bool false,.slice none 0 0]:=FP (by kernel_rfl)
theorem it_3:prog.underlying 3=some (.int .i64):=by kernel_rfl
theorem AN:prog.underlying 148=some (.int .u64):=by kernel_rfl
theorem PX:Ent prog 179:=ent func179 (by kernel_rfl) rfl
theorem EC:Ep prog 25 2=true:=by kernel_rfl
theorem Sc:Ent prog 178:=ent func178 (by kernel_rfl) rfl
theorem SJ:Ent prog 96:=ent func96 (by kernel_rfl) rfl
theorem JN:Ik prog 33 [.int .i64 0]:=FP (by kernel_rfl)
theorem Mx:prog.underlying 20=some (.interface #[]):=by kernel_rfl
theorem Pw:PU prog 201=true:=by kernel_rfl
theorem Qp:Ik prog 201 [.int .i64 0]:=FP (by kernel_rfl)
theorem Qt:Ep prog 201 1=true:=by kernel_rfl
theorem mo:prog.follows .mixedOrders=true:=by kernel_rfl
theorem NW:fieldAt prog 201 0=some 0:=by kernel_rfl
theorem CO:Mu prog 33=true:=by kernel_rfl
theorem HU:Ep prog 33 1=true:=by kernel_rfl
theorem Qo:Ent prog 208:=ent func208 (by kernel_rfl) rfl
theorem Ps:Ent prog 151:=ent func151 (by kernel_rfl) rfl
theorem FS:Ent prog 102:=ent func102 (by kernel_rfl) rfl
theorem Ls:Ent prog 135:=ent func135 (by kernel_rfl) rfl
theorem HG:Ik prog 117 [.bool false,.slice none 0 0]:=FP (by kernel_rfl)
theorem Hu:Ep prog 117 2=true:=by kernel_rfl
theorem EI:agg prog 117 2=true:=by kernel_rfl
theorem Qk:Ent prog 137:=ent func137 (by kernel_rfl) rfl
theorem Bg:Ik prog 119 [.bool false,.slice none 0 0,.int .i64 0]:=FP (by kernel_rfl)
theorem Bm:fieldAt prog 117 1=some 1:=by kernel_rfl
theorem CZ:Mu prog 115=true:=by kernel_rfl
theorem Au:prog.underlying 115=some (.slice 179):=by kernel_rfl
theorem BC:Ep prog 119 3=true:=by kernel_rfl
theorem en_213:Ent prog 213:=ent func213 (by kernel_rfl) rfl
theorem Eg:fieldAt prog 117 0=some 0:=by kernel_rfl
theorem Oa:Ent prog 204:=ent func204 (by kernel_rfl) rfl
theorem MF:Ent prog 152:=ent func152 (by kernel_rfl) rfl
theorem BJ:fieldAt prog 119 0=some 0:=by kernel_rfl
theorem CK:fieldAt prog 119 1=some 2:=by kernel_rfl
theorem Qb:Ent prog 201:=ent func201 (by kernel_rfl) rfl
theorem sz_115:Ep prog 115 1=true:=by kernel_rfl
theorem en_202:Ent prog 202:=ent func202 (by kernel_rfl) rfl
theorem LY:Ent prog 136:=ent func136 (by kernel_rfl) rfl
theorem en_60:Ent prog 60:=ent func60 (by kernel_rfl) rfl
theorem en_153:Ent prog 153:=ent func153 (by kernel_rfl) rfl
theorem Su:Ent prog 154:=ent func154 (by kernel_rfl) rfl
theorem en_62:Ent prog 62:=ent func62 (by kernel_rfl) rfl
theorem Me:Ent prog 38:=ent func38 (by kernel_rfl) rfl
theorem Av:Ep prog 179 1=true:=by kernel_rfl
theorem AZ:Mu prog 179=true:=by kernel_rfl
theorem Sk:Ent prog 64:=ent func64 (by kernel_rfl) rfl
theorem RB:Ent prog 120:=ent func120 (by kernel_rfl) rfl
theorem Nt:Ent prog 138:=ent func138 (by kernel_rfl) rfl
theorem Si:Ent prog 139:=ent func139 (by kernel_rfl) rfl
theorem ML:Ent prog 121:=ent func121 (by kernel_rfl) rfl
theorem MK:Ent prog 184:=ent func184 (by kernel_rfl) rfl
theorem Ko:Ent prog 185:=ent func185 (by kernel_rfl) rfl
theorem Qd:Ent prog 203:=ent func203 (by kernel_rfl) rfl
theorem NV:Ent prog 191:=ent func191 (by kernel_rfl) rfl
theorem Jr:Ik prog 179 [.int .u32 0]:=FP (by kernel_rfl)
theorem NX:Ent prog 205:=ent func205 (by kernel_rfl) rfl
theorem en_206:Ent prog 206:=ent func206 (by kernel_rfl) rfl
theorem Qx:Ent prog 207:=ent func207 (by kernel_rfl) rfl
theorem LA:Ent prog 140:=ent func140 (by kernel_rfl) rfl
theorem SS:Ent prog 55:=ent func55 (by kernel_rfl) rfl
theorem Gp:Ik prog 29 [.bool false,.slice none 0 0,.int .i64 0,.bool false,.slice none 0 0,.int .i64 0]:=FP (by kernel_rfl)
theorem EG:Ep prog 29 6=true:=by kernel_rfl
theorem NI:Ent prog 97:=ent func97 (by kernel_rfl) rfl
theorem MC:prog.underlying 230=some (.slice 29):=by kernel_rfl
theorem en_182:Ent prog 182:=ent func182 (by kernel_rfl) rfl
theorem Kq:Ent prog 103:=ent func103 (by kernel_rfl) rfl
theorem RA:Ent prog 187:=ent func187 (by kernel_rfl) rfl
theorem MI:Ent prog 122:=ent func122 (by kernel_rfl) rfl
theorem en_192:Ent prog 192:=ent func192 (by kernel_rfl) rfl
theorem PY:Ent prog 115:=ent func115 (by kernel_rfl) rfl
theorem Qw:prog.underlying 4=some .bool:=by kernel_rfl
theorem en_196:Ent prog 196:=ent func196 (by kernel_rfl) rfl
theorem en_195:Ent prog 195:=ent func195 (by kernel_rfl) rfl
theorem en_194:Ent prog 194:=ent func194 (by kernel_rfl) rfl
theorem Qc:Ent prog 124:=ent func124 (by kernel_rfl) rfl
theorem Ju:Ent prog 106:=ent func106 (by kernel_rfl) rfl
theorem RJ:Ent prog 65:=ent func65 (by kernel_rfl) rfl
theorem Pd:Ent prog 162:=ent func162 (by kernel_rfl) rfl
theorem Mi:Ent prog 161:=ent func161 (by kernel_rfl) rfl
theorem Rl:Ik prog 121 [.bool false,.slice none 0 0,.int .i64 0,.bool false,.slice none 0 0,.int .i64 0]:=FP (by kernel_rfl)
theorem Rq:Ep prog 121 6=true:=by kernel_rfl
theorem Ln:agg prog 121 6=true:=by kernel_rfl
theorem Sr:Ent prog 163:=ent func163 (by kernel_rfl) rfl
theorem RI:Ik prog 124 [.pointer none]:=FP (by kernel_rfl)
theorem RN:Ent prog 104:=ent func104 (by kernel_rfl) rfl
theorem Se:Ent prog 183:=ent func183 (by kernel_rfl) rfl
theorem RW:Ent prog 241:=ent func241 (by kernel_rfl) rfl
theorem en_193:Ent prog 193:=ent func193 (by kernel_rfl) rfl
theorem OU:Ent prog 117:=ent func117 (by kernel_rfl) rfl
theorem Gx:Mu prog 124=true:=by kernel_rfl
theorem Po:prog.underlying 124=some (.pointer 121):=by kernel_rfl
theorem Ri:Ep prog 124 1=true:=by kernel_rfl
theorem en_118:Ent prog 118:=ent func118 (by kernel_rfl) rfl
theorem Je:Ent prog 107:=ent func107 (by kernel_rfl) rfl
theorem en_116:Ent prog 116:=ent func116 (by kernel_rfl) rfl
theorem Nx:Ent prog 100:=ent func100 (by kernel_rfl) rfl
theorem SW:Ent prog 32:=ent func32 (by kernel_rfl) rfl
theorem en_144:Ent prog 144:=ent func144 (by kernel_rfl) rfl
theorem en_86:Ent prog 86:=ent func86 (by kernel_rfl) rfl
theorem PI:Ent prog 37:=ent func37 (by kernel_rfl) rfl
theorem Re:Ent prog 76:=ent func76 (by kernel_rfl) rfl
theorem RM:Ent prog 186:=ent func186 (by kernel_rfl) rfl
theorem DD:Ent prog 105:=ent func105 (by kernel_rfl) rfl
theorem en_101:Ent prog 101:=ent func101 (by kernel_rfl) rfl
theorem Ru:Ent prog 21:=ent func21 (by kernel_rfl) rfl
theorem en_190:Ent prog 190:=ent func190 (by kernel_rfl) rfl
theorem Ro:Ent prog 111:=ent func111 (by kernel_rfl) rfl
theorem en_110:Ent prog 110:=ent func110 (by kernel_rfl) rfl
theorem SK:Ent prog 25:=ent func25 (by kernel_rfl) rfl
theorem SP:Ent prog 15:=ent func15 (by kernel_rfl) rfl
theorem HK:Ik prog 65 [.bool false,.slice none 0 0,.slice none 0 0]:=FP (by kernel_rfl)
theorem EM:Ep prog 65 3=true:=by kernel_rfl
theorem Bl:agg prog 65 3=true:=by kernel_rfl
theorem Gv:fieldAt prog 65 0=some 0:=by kernel_rfl
theorem GT:fieldAt prog 65 1=some 2:=by kernel_rfl
theorem Hj:prog.underlying 105=some (.slice 65):=by kernel_rfl
theorem en_125:Ent prog 125:=ent func125 (by kernel_rfl) rfl
theorem Pn:Ent prog 113:=ent func113 (by kernel_rfl) rfl
theorem en_112:Ent prog 112:=ent func112 (by kernel_rfl) rfl
theorem en_30:Ent prog 30:=ent func30 (by kernel_rfl) rfl
theorem en_114:Ent prog 114:=ent func114 (by kernel_rfl) rfl
theorem en_31:Ent prog 31:=ent func31 (by kernel_rfl) rfl
theorem ON:prog.underlying 253=some (.slice 25):=by kernel_rfl
theorem RY:Ent prog 270:=ent func270 (by kernel_rfl) rfl
theorem en_284:Ent prog 284:=ent func284 (by kernel_rfl) rfl
theorem en_269:Ent prog 269:=ent func269 (by kernel_rfl) rfl
theorem ni_274:PU prog 274=true:=by kernel_rfl
theorem OM:Ent prog 248:=ent func248 (by kernel_rfl) rfl
theorem Rm:Ent prog 247:=ent func247 (by kernel_rfl) rfl
theorem OD:Ik prog 23 [.slice none 0 0]:=FP (by kernel_rfl)
theorem Lw:prog.underlying 260=some (.slice 23):=by kernel_rfl
theorem ND:Ep prog 23 1=true:=by kernel_rfl
theorem RS:Ent prog 255:=ent func255 (by kernel_rfl) rfl
theorem en_274:Ent prog 274:=ent func274 (by kernel_rfl) rfl
theorem en_254:Ent prog 254:=ent func254 (by kernel_rfl) rfl
theorem ni_258:PU prog 258=true:=by kernel_rfl
theorem LO:Ent prog 224:=ent func224 (by kernel_rfl) rfl
theorem JU:Ent prog 223:=ent func223 (by kernel_rfl) rfl
theorem Qq:Ent prog 226:=ent func226 (by kernel_rfl) rfl
theorem AG:prog.underlying 228=some (.slice 179):=by kernel_rfl
theorem en_256:Ent prog 256:=ent func256 (by kernel_rfl) rfl
theorem JS:Ent prog 225:=ent func225 (by kernel_rfl) rfl
theorem Nu:Ent prog 222:=ent func222 (by kernel_rfl) rfl
theorem No:Ent prog 218:=ent func218 (by kernel_rfl) rfl
theorem Sl:Ent prog 249:=ent func249 (by kernel_rfl) rfl
theorem Nf:fieldAt prog 252 0=some 0:=by kernel_rfl
theorem Pr:Mu prog 249=true:=by kernel_rfl
theorem Pv:Ent prog 251:=ent func251 (by kernel_rfl) rfl
theorem en_252:Ent prog 252:=ent func252 (by kernel_rfl) rfl
theorem RG:Ent prog 250:=ent func250 (by kernel_rfl) rfl
theorem OY:Ent prog 242:=ent func242 (by kernel_rfl) rfl
theorem Sq:Ent prog 220:=ent func220 (by kernel_rfl) rfl
theorem en_253:Ent prog 253:=ent func253 (by kernel_rfl) rfl
theorem en_221:Ent prog 221:=ent func221 (by kernel_rfl) rfl
theorem Qg:Ent prog 217:=ent func217 (by kernel_rfl) rfl
theorem en_157:Ent prog 157:=ent func157 (by kernel_rfl) rfl
theorem en_216:Ent prog 216:=ent func216 (by kernel_rfl) rfl
theorem en_246:Ent prog 246:=ent func246 (by kernel_rfl) rfl
theorem en_214:Ent prog 214:=ent func214 (by kernel_rfl) rfl
theorem Rz:Ent prog 244:=ent func244 (by kernel_rfl) rfl
theorem en_243:Ent prog 243:=ent func243 (by kernel_rfl) rfl
theorem Pu:Ent prog 209:=ent func209 (by kernel_rfl) rfl
theorem MD:Ent prog 141:=ent func141 (by kernel_rfl) rfl
theorem Rg:Ent prog 142:=ent func142 (by kernel_rfl) rfl
theorem en_89:Ent prog 89:=ent func89 (by kernel_rfl) rfl
theorem Sf:Ent prog 72:=ent func72 (by kernel_rfl) rfl
theorem zt_4:Ik prog 4 [.bool false]:=FP (by kernel_rfl)
theorem SD:Ep prog 4 1=true:=by kernel_rfl
theorem Pt:Ent prog 166:=ent func166 (by kernel_rfl) rfl
theorem en_77:Ent prog 77:=ent func77 (by kernel_rfl) rfl
theorem Od:Ent prog 90:=ent func90 (by kernel_rfl) rfl
theorem en_164:Ent prog 164:=ent func164 (by kernel_rfl) rfl
theorem en_74:Ent prog 74:=ent func74 (by kernel_rfl) rfl
theorem Qu:PU prog 232=true:=by kernel_rfl
theorem zt_232:Ik prog 232 [.int .i64 0]:=FP (by kernel_rfl)
theorem sz_232:Ep prog 232 1=true:=by kernel_rfl
theorem fa_232_0:fieldAt prog 232 0=some 0:=by kernel_rfl
theorem LN:Ent prog 174:=ent func174 (by kernel_rfl) rfl
theorem KN:Ent prog 170:=ent func170 (by kernel_rfl) rfl
theorem IF:Ent prog 169:=ent func169 (by kernel_rfl) rfl
theorem KL:Ent prog 227:=ent func227 (by kernel_rfl) rfl
theorem fa_252_1:fieldAt prog 252 1=some 1:=by kernel_rfl
theorem fl_250:Mu prog 250=true:=by kernel_rfl
theorem en_277:Ent prog 277:=ent func277 (by kernel_rfl) rfl
theorem en_276:Ent prog 276:=ent func276 (by kernel_rfl) rfl
theorem en_275:Ent prog 275:=ent func275 (by kernel_rfl) rfl
theorem en_258:Ent prog 258:=ent func258 (by kernel_rfl) rfl
theorem JZ:Ent prog 228:=ent func228 (by kernel_rfl) rfl
theorem en_294:Ent prog 294:=ent func294 (by kernel_rfl) rfl
theorem en_289:Ent prog 289:=ent func289 (by kernel_rfl) rfl
theorem en_278:Ent prog 278:=ent func278 (by kernel_rfl) rfl
theorem Qs:Ent prog 259:=ent func259 (by kernel_rfl) rfl
theorem KR:Ent prog 230:=ent func230 (by kernel_rfl) rfl
theorem en_295:Ent prog 295:=ent func295 (by kernel_rfl) rfl
theorem en_290:Ent prog 290:=ent func290 (by kernel_rfl) rfl
theorem So:Ent prog 280:=ent func280 (by kernel_rfl) rfl
theorem Rn:Ent prog 279:=ent func279 (by kernel_rfl) rfl
theorem Pk:Ent prog 260:=ent func260 (by kernel_rfl) rfl
theorem en_229:Ent prog 229:=ent func229 (by kernel_rfl) rfl
theorem Mj:Ent prog 231:=ent func231 (by kernel_rfl) rfl
theorem Pe:Ent prog 171:=ent func171 (by kernel_rfl) rfl
theorem en_91:Ent prog 91:=ent func91 (by kernel_rfl) rfl
theorem en_233:Ent prog 233:=ent func233 (by kernel_rfl) rfl
theorem Rx:Ent prog 172:=ent func172 (by kernel_rfl) rfl
theorem en_92:Ent prog 92:=ent func92 (by kernel_rfl) rfl
theorem OR:Ent prog 234:=ent func234 (by kernel_rfl) rfl
theorem Pp:Ent prog 173:=ent func173 (by kernel_rfl) rfl
theorem SU:Ent prog 93:=ent func93 (by kernel_rfl) rfl
theorem en_175:Ent prog 175:=ent func175 (by kernel_rfl) rfl
theorem en_176:Ent prog 176:=ent func176 (by kernel_rfl) rfl
theorem en_94:Ent prog 94:=ent func94 (by kernel_rfl) rfl
theorem en_177:Ent prog 177:=ent func177 (by kernel_rfl) rfl
theorem en_95:Ent prog 95:=ent func95 (by kernel_rfl) rfl
def Gi (_w:World) (r:Bool) (v:Value):Prop:=v = .bool r
def Lg (w:World) (r:Ae) (v:Value):Prop:=∃(A1:Option Addr) (c1:Nat),v = .agg #[.bool r.Neg,.slice A1 (sz r.Abs) c1]∧RU w A1 c1 r.Abs
def OF (w:World) (r:Al × Int) (v:Value):Prop:=∃(A1:Option Addr) (c1:Nat),v = .tuple #[.agg #[.bool r.1.Man.Neg,.slice A1 (sz r.1.Man.Abs) c1,.int .i64 r.1.Exp],.int .i64 r.2]∧RU w A1 c1 r.1.Man.Abs
def KD (_w:World) (_r:Unit) (v:Value):Prop:=v = .tuple #[]
def Ng (w:World) (r:Ae) (v:Value):Prop:=∃(A1:Option Addr) (c1:Nat),v = .agg #[.bool r.Neg,.slice A1 (sz r.Abs) c1]∧RU w A1 c1 r.Abs
def Jd (w:World) (r:Aj) (v:Value):Prop:=∃(A1:Option Addr) (c1:Nat),v = .agg #[.bool r.m.Neg,.slice A1 (sz r.m.Abs) c1,.int .i64 r.e]∧RU w A1 c1 r.m.Abs
def Qi (w:World) (r:Al) (v:Value):Prop:=∃(A1:Option Addr) (c1:Nat),v = .agg #[.bool r.Man.Neg,.slice A1 (sz r.Man.Abs) c1,.int .i64 r.Exp]∧RU w A1 c1 r.Man.Abs
def Ld (w:World) (r:Ao) (v:Value):Prop:=∃(A1:Option Addr) (c1:Nat) (A2:Option Addr) (c2:Nat),v = .agg #[.bool r.Lo.Man.Neg,.slice A1 (sz r.Lo.Man.Abs) c1,.int .i64 r.Lo.Exp,.bool r.Hi.Man.Neg,.slice A2 (sz r.Hi.Man.Abs) c2,.int .i64 r.Hi.Exp]∧RU w A1 c1 r.Lo.Man.Abs∧RU w A2 c2 r.Hi.Man.Abs
def FF (w:World) (r:Ao × Int) (v:Value):Prop:=∃(A1:Option Addr) (c1:Nat) (A2:Option Addr) (c2:Nat),v = .tuple #[.agg #[.bool r.1.Lo.Man.Neg,.slice A1 (sz r.1.Lo.Man.Abs) c1,.int .i64 r.1.Lo.Exp,.bool r.1.Hi.Man.Neg,.slice A2 (sz r.1.Hi.Man.Abs) c2,.int .i64 r.1.Hi.Exp],.int .i64 r.2]∧RU w A1 c1 r.1.Lo.Man.Abs∧RU w A2 c2 r.1.Hi.Man.Abs
def HY (_w:World) (r:Int) (v:Value):Prop:=v = .int .i64 r
def QM (w:World) (r:An) (v:Value):Prop:=∃(A1:Option Addr) (c1:Nat) (A2:Option Addr) (c2:Nat),v = .agg #[.bool r.lo.m.Neg,.slice A1 (sz r.lo.m.Abs) c1,.int .i64 r.lo.e,.bool r.hi.m.Neg,.slice A2 (sz r.hi.m.Abs) c2,.int .i64 r.hi.e]∧RU w A1 c1 r.lo.m.Abs∧RU w A2 c2 r.hi.m.Abs
def NG (w:World) (r:Nat × Nat) (v:Value):Prop:=∃(A1:Option Addr) (c1:Nat) (A2:Option Addr) (c2:Nat),v = .tuple #[.slice A1 (sz r.1) c1,.slice A2 (sz r.2) c2]∧RU w A1 c1 r.1∧RU w A2 c2 r.2
def Oc (w:World) (r:Ap) (v:Value):Prop:=∃(A1:Option Addr) (c1:Nat) (A2:Option Addr) (c2:Nat),v = .agg #[.bool r.Num.Neg,.slice A1 (sz r.Num.Abs) c1,.slice A2 (sz r.Den) c2]∧RU w A1 c1 r.Num.Abs∧RU w A2 c2 r.Den
def Nw (w:World) (r:Nat) (v:Value):Prop:=∃(A1:Option Addr) (c1:Nat),v = .slice A1 (sz r) c1∧RU w A1 c1 r
def KZ (w:World) (r:Ap × Int) (v:Value):Prop:=∃(A1:Option Addr) (c1:Nat) (A2:Option Addr) (c2:Nat),v = .tuple #[.agg #[.bool r.1.Num.Neg,.slice A1 (sz r.1.Num.Abs) c1,.slice A2 (sz r.1.Den) c2],.int .i64 r.2]∧RU w A1 c1 r.1.Num.Abs∧RU w A2 c2 r.1.Den
def OE (w:World) (r:Ae × Int) (v:Value):Prop:=∃(A1:Option Addr) (c1:Nat),v = .tuple #[.agg #[.bool r.1.Neg,.slice A1 (sz r.1.Abs) c1],.int .i64 r.2]∧RU w A1 c1 r.1.Abs
def IK (w:World) (r:Nat × Int) (v:Value):Prop:=∃(A1:Option Addr) (c1:Nat),v = .tuple #[.slice A1 (sz r.1) c1,.int .i64 r.2]∧RU w A1 c1 r.1
def JB (w:World) (r:Nat) (v:Value):Prop:=∃(A1:Option Addr) (c1:Nat),v = .slice A1 (sz r) c1∧RU w A1 c1 r
def rep_119_119 (w:World) (r:Aj × Aj) (v:Value):Prop:=∃(A1:Option Addr) (c1:Nat) (A2:Option Addr) (c2:Nat),v = .tuple #[.agg #[.bool r.1.m.Neg,.slice A1 (sz r.1.m.Abs) c1,.int .i64 r.1.e],.agg #[.bool r.2.m.Neg,.slice A2 (sz r.2.m.Abs) c2,.int .i64 r.2.e]]∧RU w A1 c1 r.1.m.Abs∧RU w A2 c2 r.2.m.Abs
def rep_3_33 (_w:World) (r:Int × Int) (v:Value):Prop:=v = .tuple #[.int .i64 r.1,.int .i64 r.2]
def rep_4_33 (_w:World) (r:Bool × Int) (v:Value):Prop:=v = .tuple #[.bool r.1,.int .i64 r.2]
def rep_23_23 (w:World) (r:Nat × Nat) (v:Value):Prop:=∃(A1:Option Addr) (c1:Nat) (A2:Option Addr) (c2:Nat),v = .tuple #[.slice A1 (sz r.1) c1,.slice A2 (sz r.2) c2]∧RU w A1 c1 r.1∧RU w A2 c2 r.2
def MN (w:World) (r:Nat × Nat × Int) (v:Value):Prop:=∃(A1:Option Addr) (c1:Nat) (A2:Option Addr) (c2:Nat),v = .tuple #[.slice A1 (sz r.1) c1,.slice A2 (sz r.2.1) c2,.int .i64 r.2.2]∧RU w A1 c1 r.1∧RU w A2 c2 r.2.1
def Mh (w:World) (r:Nat × Nat) (v:Value):Prop:=∃(A1:Option Addr) (c1:Nat) (A2:Option Addr) (c2:Nat),v = .tuple #[.slice A1 (sz r.1) c1,.slice A2 (sz r.2) c2]∧RU w A1 c1 r.1∧RU w A2 c2 r.2
def rep_25_4 (w:World) (r:Ae × Bool) (v:Value):Prop:=∃(A1:Option Addr) (c1:Nat),v = .tuple #[.agg #[.bool r.1.Neg,.slice A1 (sz r.1.Abs) c1],.bool r.2]∧RU w A1 c1 r.1.Abs
def MY (_w:World) (r:Int) (v:Value):Prop:=v = .int .u64 r
def Mr (w:World) (r:Nat) (v:Value):Prop:=∃(A1:Option Addr) (c1:Nat),v = .slice A1 (sz r) c1∧RU w A1 c1 r
abbrev Bw (x0:List Int):Option (Bool):=Lf.Bw x0
abbrev BV (x0:List Int) (x1:Int):Option (Int):=Lf.BV x0 x1
def CA (x0:Int):Option (Nat):=(gd (0≤x0∧x0<18446744073709551616)).bind fun _=>some (x0.toNat)
abbrev GI (x0:List Int):Option (Bool):=Lf.GI x0
def CS (x0:Nat):Option (Int):=(gd (sz x0<1073741824)).bind fun _=>some (Lf.tz x0:Int)
def Ct (x0:Nat) (x1:Int):Option (Nat):=(gd (sz x0<1073741824∧0≤x1∧x1<9223372036854775808)).bind fun _=>some (x0/2^x1.toNat)
def Dh (x0:Nat):Option (Nat):=(gd (sz x0<1073741824)).bind fun _=>some (x0)
def BO (x0:Nat):Option (Int):=(gd (sz x0<1073741824)).bind fun _=>some (Lf.tz x0:Int)
def BW (x0:Nat) (x1:Int):Option (Nat):=(gd (sz x0<1073741824∧0≤x1∧x1<9223372036854775808)).bind fun _=>some (x0/2^x1.toNat)
def Bu (x0:Nat):Option (Int):=(gd (sz x0<1073741824)).bind fun _=>some (Lf.bl x0:Int)
def Bq (x0:Nat) (x1:Int):Option (Nat):=(gd (sz x0<1073741824∧0≤x1∧x1<34359738368)).bind fun _=>some (x0*2^x1.toNat)
def Ch (x0:Nat) (x1:Nat):Option (Nat):=(gd (sz x0<1073741824∧sz x1<1073741824∧x1≤x0)).bind fun _=>some (x0 - x1)
def Cv (x0:Nat) (x1:Nat):Option (Int):=(gd (sz x0<1073741824∧sz x1<1073741824)).bind fun _=>some (Lf.cmpw x0 x1)
def CJ (x0:Nat) (x1:Nat):Option (Nat):=(gd (sz x0<1073741824∧sz x1<1073741824)).bind fun _=>some (x0+x1)
def Ds (x0:Nat) (x1:Nat):Option (Nat):=(gd (sz x0<1073741824∧sz x1<1073741824)).bind fun _=>some (x0*x1)
abbrev Ca (x0:List Int) (x1:List Int):Option (Bool):=Lf.Ca x0 x1
def Dp (x0:Nat) (x1:Nat):Option (Nat × Nat):=(gd (sz x0<1073741824∧sz x1<1073741824∧x1≠0)).bind fun _=>some (x0/x1,x0%x1)
def Gr (x0:Nat) (x1:Int):Option (Nat):=(gd (sz x0<1073741824∧0≤x1∧x1<34359738368)).bind fun _=>some (x0*2^x1.toNat)
def Ef (x0:Nat) (x1:Nat):Option (Nat):=(gd (sz x0<1073741824∧sz x1<1073741824)).bind fun _=>some (x0+x1)
def Ee (x0:Nat) (x1:Nat):Option (Int):=(gd (sz x0<1073741824∧sz x1<1073741824)).bind fun _=>some (Lf.sgnc x0 x1)
def Ck (x0:Nat) (x1:Nat):Option (sorobanref01_DividedT):=(gd (sz x0<1073741824∧sz x1<1073741824∧x1≠0)).bind fun _=>some (⟨x0/x1,x0%x1⟩)
def BZ (x0:Nat):Option (Int):=(gd (sz x0<1073741824)).bind fun _=>some (Lf.bl x0:Int)
def DZ (x0:Nat) (x1:Int):Option (Nat):=(gd (sz x0<1073741824∧0≤x1∧x1<34359738368)).bind fun _=>some (x0*2^x1.toNat)
def Fk (x0:Nat):Option (Nat):=(gd (sz x0<1073741824)).bind fun _=>some (x0)
def EL (x0:Nat) (x1:Int):Option (Nat):=(gd (sz x0<1073741824∧0≤x1∧x1<9223372036854775808)).bind fun _=>some (x0/2^x1.toNat)
def CQ (x0:Nat) (x1:Nat):Option (Int):=(gd (sz x0<1073741824∧sz x1<1073741824)).bind fun _=>some (Lf.sgnc x0 x1)
def DV (x0:Nat) (x1:Nat):Option (Nat):=(gd (sz x0<1073741824∧sz x1<1073741824∧x1≤x0)).bind fun _=>some (x0 - x1)
def DW (x0:Nat) (x1:Nat):Option (Nat):=(gd (sz x0<1073741824∧sz x1<1073741824)).bind fun _=>some (x0+x1)
def FU (x0:Nat):Option (Nat):=(gd (sz x0<1073741824)).bind fun _=>some (x0)
def BP (x0:Nat) (x1:Nat):Option (Nat × Nat):=(gd (sz x0<1073741824∧sz x1<1073741824∧x1≠0)).bind fun _=>some (x0/x1,x0%x1)
def CD (x0:Nat) (x1:Nat):Option (Nat):=(gd (sz x0<1073741824∧sz x1<1073741824)).bind fun _=>some (x0*x1)
def Cr (x0:Ar):Option (Bool):=
 (Bw x0.Abs).bind fun r0a=>
 (if r0a=true then (if ¬(x0.Neg=true) then some (true) else some (decide (0<(x0.Abs.length:Int)))).bind fun m1a=>
 some (m1a) else some (false)).bind fun m2a=>
 some m2a
def BM (x0:Aq):Option (Bool):=
 (Cr x0.Man).bind fun r0a=>
 if ¬(r0a=true) then some false else if (x0.Man.Abs.length:Int)=0 then some (decide (x0.Exp=0)) else (BV x0.Man.Abs 0).bind fun r1a=>
 (if r1a=1 then some (decide ((-1048576)≤x0.Exp)) else some (false)).bind fun m2a=>
 (if m2a=true then some (decide (x0.Exp≤1048576)) else some (false)).bind fun m3a=>
 some m3a
def Fe (x0:Am):Option (Bool):=
 (if 20<(x0.Lo.Man.Abs.length:Int) then some (true) else (BM x0.Lo).bind fun r0a=>
 (if r0a=true then (if x0.Lo.Exp<(-800) then some (true) else some (decide (800<x0.Lo.Exp))).bind fun m1a=>
 some (m1a) else some (false)).bind fun m2a=>
 some (m2a)).bind fun m3a=>
 if m3a=true then some false else (if 20<(x0.Hi.Man.Abs.length:Int) then some (true) else (BM x0.Hi).bind fun r4a=>
 (if r4a=true then (if x0.Hi.Exp<(-800) then some (true) else some (decide (800<x0.Hi.Exp))).bind fun m5a=>
 some (m5a) else some (false)).bind fun m6a=>
 some (m6a)).bind fun m7a=>
 if m7a=true then some false else some true
def CY (x0:Bool) (x1:Nat):Option (Ae):=
 (if x0=true then some (decide (0<(sz x1:Int))) else some (false)).bind fun m0a=>
 some (⟨m0a,x1⟩:Ae)
def GD (x0:Int):Option (Ae):=
 if x0<0 then (CA (wu64 (wi64 (-x0)))).bind fun r0a=>
 (CY true r0a).bind fun r1a=>
 some r1a else (CA (wu64 x0)).bind fun r2a=>
 (CY false r2a).bind fun r3a=>
 some r3a
def CT (x0:Ar):Option (Bool):=
 (GI x0.Abs).bind fun r0a=>
 (if r0a=true then (if ¬(x0.Neg=true) then some (true) else some (decide (0<(x0.Abs.length:Int)))).bind fun m1a=>
 some (m1a) else some (false)).bind fun m2a=>
 some m2a
def Cg (x0:Bool) (x1:Int):M (Unit):=
 if ¬(x0=true) then some (.error x1) else some (.ok ())
def JO (x0:Ae):Option (Ae):=
 some x0
def Cz (x0:Ae) (x1:Int):Option (Aj):=
 if (sz x0.Abs:Int)=0 then some (⟨(⟨false,0⟩:Ae),0⟩:Aj) else (CS x0.Abs).bind fun r0a=>
 (Ct x0.Abs r0a).bind fun r1a=>
 some (⟨(⟨x0.Neg,r1a⟩:Ae),(wi64 (x1+r0a))⟩:Aj)
def Jh (x0:Ae):Option (Ae):=
 (if x0.Neg=true then some (decide (0<(sz x0.Abs:Int))) else some (false)).bind fun m0a=>
 some (⟨m0a,x0.Abs⟩:Ae)
def ED (x0:Aj):M (Al):=
 (if (sz x0.m.Abs:Int)≤1024 then some (decide (x0.e≤1048576)) else some (false)).bind fun m0a=>
 (if m0a=true then some (decide ((-1048576)≤x0.e)) else some (false)).bind fun m1a=>
 mb (Cg m1a 2) fun r4a=>
 (Dh x0.m.Abs).bind fun r2a=>
 (Jh (⟨x0.m.Neg,r2a⟩:Ae)).bind fun r3a=>
 some (.ok (⟨r3a,x0.e⟩:Al))
def Nd (x0:Ar) (x1:Int):M (Al × Int):=
 (CT x0).bind fun r0a=>
 mb (Cg r0a 1) fun r5a=>
 if (x0.Abs.length:Int)=0 then some (.ok ((⟨(⟨false,0⟩:Ae),0⟩:Al),0)) else (toN x0.Abs).bind fun m1a=>
 (JO (⟨x0.Neg,m1a⟩:Ae)).bind fun r2a=>
 (Cz r2a (max (-1099511627776) (min x1 1099511627776))).bind fun r3a=>
 mb (ED r3a) fun r4a=>
 some (.ok (r4a,0))
def Mb (x0:Ar) (x1:Int):Option (Al × Int):=(Nd x0 x1).bind fun q=>match q with | .ok r=>some r | .error n=>some ((⟨(⟨false,0⟩:Ae),0⟩:Al),n)
def FM (x0:Ae) (x1:Int):Option (Al):=
 if (sz x0.Abs:Int)=0 then some (⟨(⟨false,0⟩:Ae),0⟩:Al) else (BO x0.Abs).bind fun r0a=>
 (BW x0.Abs r0a).bind fun r1a=>
 some (⟨(⟨x0.Neg,r1a⟩:Ae),(wi64 (x1+r0a))⟩:Al)
def Bh (x0:Int) (x1:Int):Option (Al):=
 (GD x0).bind fun r7=>
 (FM r7 x1).bind fun r0a=>
 some r0a
def FV (x0:Aq):Option (Bool):=
 (CT x0.Man).bind fun r0a=>
 if ¬(r0a=true) then some false else if (x0.Man.Abs.length:Int)=0 then some (decide (x0.Exp=0)) else (nth x0.Man.Abs 0).bind fun u1a=>
 (if (u1a%2)=1 then some (decide (x0.Exp≤1048576)) else some (false)).bind fun m2a=>
 (if m2a=true then some (decide ((-1048576)≤x0.Exp)) else some (false)).bind fun m3a=>
 some m3a
def JX (x0_0:Aq):M (Unit):=
 (FV x0_0).bind fun r0a=>
 mb (Cg r0a 1) fun r1a=>
 some (.ok ())
def Ex (x0:Int):M (Unit):=
 (if 1≤x0 then some (decide (x0≤4096)) else some (false)).bind fun m8=>
 mb (Cg m8 1) fun r0a=>
 some (.ok ())
def JV (x0:Int):M (Unit):=
 (if 1≤x0 then some (decide (x0≤5)) else some (false)).bind fun m8=>
 mb (Cg m8 1) fun r0a=>
 some (.ok ())
def HD (x0:Al):Option (Aj):=
 (JO x0.Man).bind fun r0a=>
 some (⟨r0a,x0.Exp⟩:Aj)
def DR (x0:Ae) (x1:Int):Option (Ae):=
 (Bq x0.Abs x1).bind fun r0a=>
 some (⟨x0.Neg,r0a⟩:Ae)
def JQ (x0:Bool) (x1:Int) (x2:Bool) (x3:Bool) (x4:Int):Option (Bool):=
 if x0=true then some false else if x4=1 then (if 0<x1 then some (true) else (if x1=0 then some (x2) else some (false)).bind fun m0a=>
 some (m0a)).bind fun m1a=>
 some m1a else if x4=2 then some (decide (0≤x1)) else if x4=4 then some (decide (¬(x3=true))) else if x4=5 then some x3 else some false
def AH (x0:Aj) (x1:Int) (x2:Int) (x3:Bool):Option (Aj):=
 (Bu x0.m.Abs).bind fun r1a=>
 (if (wi64 (r1a - x1))≤0 then some (decide (¬(x3=true))) else some (false)).bind fun m6a=>
 if m6a=true then (Cz x0.m x0.e).bind fun r7a=>
 some r7a else (if (wi64 (r1a - x1))<2 then (DR x0.m (wi64 (2 - (wi64 (r1a - x1))))).bind fun r3a=>
 some (2,r3a.Neg,r3a.Abs,(wi64 ((wi64 (x0.e - 2))+(wi64 (r1a - x1))))) else some ((wi64 (r1a - x1)),x0.m.Neg,x0.m.Abs,x0.e)).bind fun m0a=>
 (Ct m0a.2.2.1 m0a.1).bind fun r2a=>
 (Bq r2a m0a.1).bind fun r8a=>
 (Ch m0a.2.2.1 r8a).bind fun r4a=>
 (if (sz r4a:Int)=0 then some (decide (¬(x3=true))) else some (false)).bind fun m9a=>
 (Bq 1 (wi64 (m0a.1 - 1))).bind fun r0b=>
 (Cv r4a r0b).bind fun r5a=>
 (if r5a=0 then some (x3) else some (false)).bind fun m1b=>
 (if m1b=true then some (1) else some (r5a)).bind fun m2b=>
 (if 0<(sz r2a:Int) then (nth (limbs r2a) 0).bind fun u3b=>
 some (decide ((u3b%2)=1)) else some (false)).bind fun m4b=>
 (JQ m9a m2b m4b m0a.2.1 x2).bind fun r5b=>
 (if r5b=true then (CJ r2a 1).bind fun r6b=>
 some (r6b) else some (r2a)).bind fun m7b=>
 (Cz (⟨m0a.2.1,m7b⟩:Ae) (wi64 (m0a.2.2.2+m0a.1))).bind fun r8b=>
 some r8b
def MA (x0:Aq) (x1:Int) (x2:Int):M (Al × Int):=
 mb (JX x0) fun r4a=>
 mb (Ex x1) fun r5a=>
 mb (JV x2) fun r6a=>
 (toN x0.Man.Abs).bind fun m0a=>
 (HD (⟨(⟨x0.Man.Neg,m0a⟩:Ae),x0.Exp⟩:Al)).bind fun r1a=>
 (AH r1a x1 x2 false).bind fun r2a=>
 mb (ED r2a) fun r3a=>
 some (.ok (r3a,0))
def Ki (x0:Aq) (x1:Int) (x2:Int):Option (Al × Int):=(MA x0 x1 x2).bind fun q=>match q with | .ok r=>some r | .error n=>some ((⟨(⟨false,0⟩:Ae),0⟩:Al),n)
def Cc (x0:Int) (x1:Int):Option (Ao):=
 (Bh x0 0).bind fun r7=>
 (Bh x1 0).bind fun r0a=>
 some (⟨r7,r0a⟩:Ao)
def Ix (x0:Ae):Option (Int):=
 if (sz x0.Abs:Int)=0 then some 0 else if x0.Neg=true then some (-1) else some 1
def AU (x0:Aj):Option (Int):=
 (Ix x0.m).bind fun r0a=>
 some r0a
def Hg (x0:Int) (x1:Int):Option (Int):=
 if x0<x1 then some (-1) else if x1<x0 then some 1 else some 0
def Du (x0:Aj):Option (Int):=
 (Bu x0.m.Abs).bind fun r0a=>
 some (wi64 ((wi64 (r0a - 1))+x0.e))
def Hh (x0:Ae):Option (Ae):=
 some (⟨(decide (¬(x0.Neg=true))),x0.Abs⟩:Ae)
def Ei (x0:Aj):Option (Aj):=
 (Hh x0.m).bind fun r0a=>
 some (⟨r0a,x0.e⟩:Aj)
def FC (x0:Ae) (x1:Ae):Option (Ae):=
 if x0.Neg=x1.Neg then (CJ x0.Abs x1.Abs).bind fun r0a=>
 some (⟨x0.Neg,r0a⟩:Ae) else (Cv x0.Abs x1.Abs).bind fun r1a=>
 if 0≤r1a then (Ch x0.Abs x1.Abs).bind fun r2a=>
 some (⟨x0.Neg,r2a⟩:Ae) else (Ch x1.Abs x0.Abs).bind fun r3a=>
 some (⟨x1.Neg,r3a⟩:Ae)
def DI (x0:Ae) (x1:Ae) (x2:Int):Option (Aj):=
 (FC x0 x1).bind fun r0a=>
 (Cz r0a x2).bind fun r1a=>
 some r1a
def Bo (x0:Aj) (x1:Aj):Option (Aj):=
 (if (sz x0.m.Abs:Int)=0 then some (x1.e) else some (min x0.e x1.e)).bind fun m5a=>
 (if (sz x1.m.Abs:Int)=0 then some (x0.e) else some (m5a)).bind fun m0a=>
 (if 0<(sz x0.m.Abs:Int) then (DR x0.m (wi64 (x0.e - m0a))).bind fun r1a=>
 some (r1a.Neg,r1a.Abs) else some (x0.m.Neg,x0.m.Abs)).bind fun m2a=>
 (if 0<(sz x1.m.Abs:Int) then (DR x1.m (wi64 (x1.e - m0a))).bind fun r3a=>
 some (r3a.Neg,r3a.Abs) else some (x1.m.Neg,x1.m.Abs)).bind fun m4a=>
 (DI (⟨m2a.1,m2a.2⟩:Ae) (⟨m4a.1,m4a.2⟩:Ae) m0a).bind fun r6a=>
 some r6a
def BD (x0:Aj) (x1:Aj):Option (Aj):=
 (Bo x0 x1).bind fun r0a=>
 some r0a
def Bb (x0:Aj) (x1:Aj):Option (Int):=
 (AU x0).bind fun r0a=>
 (AU x1).bind fun r1a=>
 (if ¬r0a=r1a then some (true) else some (decide (r0a=0))).bind fun m4a=>
 if m4a=true then (Hg r0a r1a).bind fun r5a=>
 some r5a else (Du x0).bind fun r2a=>
 (Du x1).bind fun r3a=>
 if ¬r2a=r3a then (AU x0).bind fun r6a=>
 (Hg r2a r3a).bind fun r7a=>
 some (wi64 (r6a*r7a)) else (Ei x1).bind fun r8a=>
 (BD x0 r8a).bind fun r9a=>
 (AU r9a).bind fun r0b=>
 some r0b
def Be (x0:Am):Option (Bool):=
 (FV x0.Lo).bind fun r0a=>
 if r0a=true then (FV x0.Hi).bind fun r1a=>
 if r1a=true then (toN x0.Lo.Man.Abs).bind fun m2a=>
 (HD (⟨(⟨x0.Lo.Man.Neg,m2a⟩:Ae),x0.Lo.Exp⟩:Al)).bind fun r3a=>
 (toN x0.Hi.Man.Abs).bind fun m4a=>
 (HD (⟨(⟨x0.Hi.Man.Neg,m4a⟩:Ae),x0.Hi.Exp⟩:Al)).bind fun r5a=>
 (Bb r3a r5a).bind fun r6a=>
 some (decide (r6a≤0)) else some false else some false
def Ba (x0_0:Am) (x0_1:Am):M (Unit):=
 (Be x0_0).bind fun r0a=>
 mb (Cg r0a 1) fun r2a=>
 (Be x0_1).bind fun r1a=>
 mb (Cg r1a 1) fun r3a=>
 some (.ok ())
def BY (x0:Ao):Option (An):=
 (HD x0.Lo).bind fun r0a=>
 (HD x0.Hi).bind fun r1a=>
 some (⟨r0a,r1a⟩:An)
def IW (x0:Ae) (x1:Ae):Option (Ae):=
 (Ds x0.Abs x1.Abs).bind fun r0a=>
 some (⟨(decide (¬x0.Neg=x1.Neg)),r0a⟩:Ae)
def CV (x0:Aj) (x1:Aj):Option (Aj):=
 (IW x0.m x1.m).bind fun r0a=>
 (Cz r0a (wi64 (x0.e+x1.e))).bind fun r1a=>
 some r1a
def GU (x0:An) (x1:Int):Option (An):=
 (AH x0.lo x1 5 false).bind fun r0a=>
 (AH x0.hi x1 4 false).bind fun r1a=>
 some (⟨r0a,r1a⟩:An)
def Cp (x0:An):M (Ao):=
 mb (ED x0.lo) fun r0a=>
 mb (ED x0.hi) fun r1a=>
 some (.ok (⟨r0a,r1a⟩:Ao))
def JT (x0:An) (x1:An) (x2:Int) (x y:Aj):Option An:=
 (CV x y).bind fun r0a=>
 (Bb r0a r0a).bind fun r1a=>
 (if r1a<0 then some () else some ()).bind fun m3a=>
 (Bb r0a r0a).bind fun r2a=>
 (if 0<r2a then some () else some ()).bind fun m4a=>
 some (⟨r0a,r0a⟩:An)
def GA (x0:An) (x1:An) (x2:Int) (sr:An) (x y:Aj):Option An:=
 (CV x y).bind fun r0a=>
 (Bb r0a sr.lo).bind fun r3a=>
 (if r3a<0 then some (r0a.m.Neg,r0a.m.Abs,r0a.e) else some (sr.lo.m.Neg,sr.lo.m.Abs,sr.lo.e)).bind fun m1a=>
 (Bb r0a sr.hi).bind fun r4a=>
 (if 0<r4a then some (r0a.m.Neg,r0a.m.Abs,r0a.e) else some (sr.hi.m.Neg,sr.hi.m.Abs,sr.hi.e)).bind fun m2a=>
 some (⟨(⟨(⟨m1a.1,m1a.2.1⟩:Ae),m1a.2.2⟩:Aj),(⟨(⟨m2a.1,m2a.2.1⟩:Ae),m2a.2.2⟩:Aj)⟩:An)
def Gs (x0:An) (x1:An) (x2:Int):M (Ao):=
 (JT x0 x1 x2 x0.lo x1.lo).bind fun s0a=>
 (GA x0 x1 x2 s0a x0.lo x1.hi).bind fun s1a=>
 (GA x0 x1 x2 s1a x0.hi x1.lo).bind fun s2a=>
 (GA x0 x1 x2 s2a x0.hi x1.hi).bind fun s3a=>
 (GU s3a x2).bind fun r4a=>
 mb (Cp r4a) fun r5a=>
 some (.ok r5a)
def ES (x0:Am) (x1:Am) (x2:Int):M (Ao × Int):=
 mb (Ba x0 x1) fun r7a=>
 mb (Ex x2) fun r8a=>
 (toN x0.Lo.Man.Abs).bind fun m0a=>
 (toN x0.Hi.Man.Abs).bind fun m1a=>
 (BY (⟨(⟨(⟨x0.Lo.Man.Neg,m0a⟩:Ae),x0.Lo.Exp⟩:Al),(⟨(⟨x0.Hi.Man.Neg,m1a⟩:Ae),x0.Hi.Exp⟩:Al)⟩:Ao)).bind fun r2a=>
 (toN x1.Lo.Man.Abs).bind fun m3a=>
 (toN x1.Hi.Man.Abs).bind fun m4a=>
 (BY (⟨(⟨(⟨x1.Lo.Man.Neg,m3a⟩:Ae),x1.Lo.Exp⟩:Al),(⟨(⟨x1.Hi.Man.Neg,m4a⟩:Ae),x1.Hi.Exp⟩:Al)⟩:Ao)).bind fun r5a=>
 mb (Gs r2a r5a x2) fun r6a=>
 some (.ok (r6a,0))
def Dx (x0:Am) (x1:Am) (x2:Int):Option (Ao × Int):=(ES x0 x1 x2).bind fun q=>match q with | .ok r=>some r | .error n=>some ((⟨(⟨(⟨false,0⟩:Ae),0⟩:Al),(⟨(⟨false,0⟩:Ae),0⟩:Al)⟩:Ao),n)
def GJ (x0:Am) (x1:Am) (x2:Int):Option (Ao × Int):=
 (Dx x0 x1 x2).bind fun r0a=>
 some (r0a.1,r0a.2)
def Ht (x0:Ae) (x1:Ae):Option (Bool):=
 (if x0.Neg=x1.Neg then (Ca (limbs x0.Abs) (limbs x1.Abs)).bind fun r0a=>
 some (r0a) else some (false)).bind fun m1a=>
 some m1a
def DG (x0:Al) (x1:Al):Option (Bool):=
 (Ht x0.Man x1.Man).bind fun r0a=>
 (if r0a=true then some (decide (x0.Exp=x1.Exp)) else some (false)).bind fun m1a=>
 some m1a
def El (x0:Ao) (x1:Ao):Option (Bool):=
 (DG x0.Lo x1.Lo).bind fun r0a=>
 (if r0a=true then (DG x0.Hi x1.Hi).bind fun r1a=>
 some (r1a) else some (false)).bind fun m2a=>
 some m2a
def AM (x0:Aj) (x1:Aj) (x2:Int) (x3:Int):Option (Aj):=
 (AU x0).bind fun r3a=>
 if r3a=0 then some (⟨(⟨false,0⟩:Ae),0⟩:Aj) else (Bu x1.m.Abs).bind fun r0a=>
 (Bu x0.m.Abs).bind fun r1a=>
 (Bq x0.m.Abs (max 0 (wi64 ((wi64 ((wi64 (x2+2))+r0a)) - r1a)))).bind fun r4a=>
 (Dp r4a x1.m.Abs).bind fun r2a=>
 (AH (⟨(⟨(decide (¬x0.m.Neg=x1.m.Neg)),r2a.1⟩:Ae),(wi64 ((wi64 (x0.e - x1.e)) - (max 0 (wi64 ((wi64 ((wi64 (x2+2))+r0a)) - r1a)))))⟩:Aj) x2 x3 (decide (0<(sz r2a.2:Int)))).bind fun r5a=>
 some r5a
def IZ (x0:An) (x1:An) (x2:Int) (x y:Aj):Option An:=
 (AM x y x2 5).bind fun r0a=>
 (AM x y x2 4).bind fun r1a=>
 (Bb r0a r0a).bind fun r2a=>
 (if r2a<0 then some () else some ()).bind fun m4a=>
 (Bb r1a r1a).bind fun r3a=>
 (if 0<r3a then some () else some ()).bind fun m5a=>
 some (⟨r0a,r1a⟩:An)
def EH (x0:An) (x1:An) (x2:Int) (sr:An) (x y:Aj):Option An:=
 (AM x y x2 5).bind fun r0a=>
 (AM x y x2 4).bind fun r1a=>
 (Bb r0a sr.lo).bind fun r4a=>
 (if r4a<0 then some (r0a.m.Neg,r0a.m.Abs,r0a.e) else some (sr.lo.m.Neg,sr.lo.m.Abs,sr.lo.e)).bind fun m2a=>
 (Bb r1a sr.hi).bind fun r5a=>
 (if 0<r5a then some (r1a.m.Neg,r1a.m.Abs,r1a.e) else some (sr.hi.m.Neg,sr.hi.m.Abs,sr.hi.e)).bind fun m3a=>
 some (⟨(⟨(⟨m2a.1,m2a.2.1⟩:Ae),m2a.2.2⟩:Aj),(⟨(⟨m3a.1,m3a.2.1⟩:Ae),m3a.2.2⟩:Aj)⟩:An)
def Fj (x0:An) (x1:An) (x2:Int):M (Ao):=
 (AU x1.lo).bind fun r0a=>
 (AU x1.hi).bind fun r1a=>
 mb (Cg (decide (0<(wi64 (r0a*r1a)))) 8) fun r7a=>
 (IZ x0 x1 x2 x0.lo x1.lo).bind fun s2a=>
 (EH x0 x1 x2 s2a x0.lo x1.hi).bind fun s3a=>
 (EH x0 x1 x2 s3a x0.hi x1.lo).bind fun s4a=>
 (EH x0 x1 x2 s4a x0.hi x1.hi).bind fun s5a=>
 mb (Cp s5a) fun r6a=>
 some (.ok r6a)
def Hk (x0:Am) (x1:Am) (x2:Int):M (Ao × Int):=
 mb (Ba x0 x1) fun r7a=>
 mb (Ex x2) fun r8a=>
 (toN x0.Lo.Man.Abs).bind fun m0a=>
 (toN x0.Hi.Man.Abs).bind fun m1a=>
 (BY (⟨(⟨(⟨x0.Lo.Man.Neg,m0a⟩:Ae),x0.Lo.Exp⟩:Al),(⟨(⟨x0.Hi.Man.Neg,m1a⟩:Ae),x0.Hi.Exp⟩:Al)⟩:Ao)).bind fun r2a=>
 (toN x1.Lo.Man.Abs).bind fun m3a=>
 (toN x1.Hi.Man.Abs).bind fun m4a=>
 (BY (⟨(⟨(⟨x1.Lo.Man.Neg,m3a⟩:Ae),x1.Lo.Exp⟩:Al),(⟨(⟨x1.Hi.Man.Neg,m4a⟩:Ae),x1.Hi.Exp⟩:Al)⟩:Ao)).bind fun r5a=>
 mb (Fj r2a r5a x2) fun r6a=>
 some (.ok (r6a,0))
def FA (x0:Am) (x1:Am) (x2:Int):Option (Ao × Int):=(Hk x0 x1 x2).bind fun q=>match q with | .ok r=>some r | .error n=>some ((⟨(⟨(⟨false,0⟩:Ae),0⟩:Al),(⟨(⟨false,0⟩:Ae),0⟩:Al)⟩:Ao),n)
def EP (x0:Am) (x1:Am) (x2:Int):Option (Ao × Int):=
 (FA x0 x1 x2).bind fun r0a=>
 some (r0a.1,r0a.2)
def FI (x0:Nat):Nat→Nat→Option (Nat × Nat)
 | 0,_=>none
 | n2a+1,v0a=>
 (Dp x0 v0a).bind fun r3a=>
 (CJ v0a r3a.1).bind fun r4a=>
 (Ct r4a 1).bind fun r1a=>
 (Cv r1a v0a).bind fun r5a=>
 if 0≤r5a then (Ds v0a v0a).bind fun r6a=>
 (Ch x0 r6a).bind fun r7a=>
 some (v0a,r7a) else FI x0 n2a r1a
def HC (x0:Nat):Option (Nat × Nat):=
 if (sz x0:Int)=0 then some (0,0) else (Bu x0).bind fun r0a=>
 (Bq 1 (wi64 ((wi64 (r0a+1)).tdiv 2))).bind fun r1a=>
 FI x0 18446744073709551616 r1a
def EN (x0:Aj) (x1:Int) (x2:Int):Option (Aj):=
 (AU x0).bind fun r3a=>
 if r3a=0 then some (⟨(⟨false,0⟩:Ae),0⟩:Aj) else (Bu x0.m.Abs).bind fun r0a=>
 (if ¬((wi64 (x0.e - (max 0 (wi64 ((wi64 ((wi64 (2*x1))+4)) - r0a)))))%2)=0 then some (wi64 ((max 0 (wi64 ((wi64 ((wi64 (2*x1))+4)) - r0a)))+1)) else some (max 0 (wi64 ((wi64 ((wi64 (2*x1))+4)) - r0a)))).bind fun m1a=>
 (Bq x0.m.Abs m1a).bind fun r4a=>
 (HC r4a).bind fun r2a=>
 (AH (⟨(⟨false,r2a.1⟩:Ae),(wi64 ((wi64 (x0.e - m1a)).tdiv 2))⟩:Aj) x1 x2 (decide (0<(sz r2a.2:Int)))).bind fun r5a=>
 some r5a
def Ga (x0:An) (x1:An) (x2:Int):M (Ao):=
 (AU x0.lo).bind fun r0a=>
 mb (Cg (decide (0≤r0a)) 3) fun r4a=>
 (EN x0.lo x2 5).bind fun r1a=>
 (EN x0.hi x2 4).bind fun r2a=>
 mb (Cp (⟨r1a,r2a⟩:An)) fun r3a=>
 some (.ok r3a)
def Ha (x0:Am) (x1:Am) (x2:Int):M (Ao × Int):=
 mb (Ba x0 x1) fun r7a=>
 mb (Ex x2) fun r8a=>
 (toN x0.Lo.Man.Abs).bind fun m0a=>
 (toN x0.Hi.Man.Abs).bind fun m1a=>
 (BY (⟨(⟨(⟨x0.Lo.Man.Neg,m0a⟩:Ae),x0.Lo.Exp⟩:Al),(⟨(⟨x0.Hi.Man.Neg,m1a⟩:Ae),x0.Hi.Exp⟩:Al)⟩:Ao)).bind fun r2a=>
 (toN x1.Lo.Man.Abs).bind fun m3a=>
 (toN x1.Hi.Man.Abs).bind fun m4a=>
 (BY (⟨(⟨(⟨x1.Lo.Man.Neg,m3a⟩:Ae),x1.Lo.Exp⟩:Al),(⟨(⟨x1.Hi.Man.Neg,m4a⟩:Ae),x1.Hi.Exp⟩:Al)⟩:Ao)).bind fun r5a=>
 mb (Ga r2a r5a x2) fun r6a=>
 some (.ok (r6a,0))
def Fv (x0:Am) (x1:Am) (x2:Int):Option (Ao × Int):=(Ha x0 x1 x2).bind fun q=>match q with | .ok r=>some r | .error n=>some ((⟨(⟨(⟨false,0⟩:Ae),0⟩:Al),(⟨(⟨false,0⟩:Ae),0⟩:Al)⟩:Ao),n)
def GC (x0:Am) (x1:Int):Option (Ao × Int):=
 (Fv x0 x0 x1).bind fun r0a=>
 some (r0a.1,r0a.2)
def EV:Option (Bool):=
 (GD 12).bind fun r3=>
 (Mb (⟨r3.Neg,(limbs r3.Abs)⟩:Ar) 3).bind fun r9a=>
 (Bh 11 0).bind fun r7a=>
 (Ki (⟨(⟨r7a.Man.Neg,(limbs r7a.Man.Abs)⟩:Ar),r7a.Exp⟩:Aq) 3 1).bind fun r0b=>
 (Bh (-11) 0).bind fun r8a=>
 (Ki (⟨(⟨r8a.Man.Neg,(limbs r8a.Man.Abs)⟩:Ar),r8a.Exp⟩:Aq) 2 5).bind fun r1b=>
 (Cc (-1) 2).bind fun r0a=>
 (Cc (-3) 5).bind fun r1a=>
 (GJ (⟨(⟨(⟨r0a.Lo.Man.Neg,(limbs r0a.Lo.Man.Abs)⟩:Ar),r0a.Lo.Exp⟩:Aq),(⟨(⟨r0a.Hi.Man.Neg,(limbs r0a.Hi.Man.Abs)⟩:Ar),r0a.Hi.Exp⟩:Aq)⟩:Am) (⟨(⟨(⟨r1a.Lo.Man.Neg,(limbs r1a.Lo.Man.Abs)⟩:Ar),r1a.Lo.Exp⟩:Aq),(⟨(⟨r1a.Hi.Man.Neg,(limbs r1a.Hi.Man.Abs)⟩:Ar),r1a.Hi.Exp⟩:Aq)⟩:Am) 8).bind fun r2b=>
 (if ¬r9a.2=0 then some (true) else some (decide (¬r0b.2=0))).bind fun m5b=>
 (if m5b=true then some (true) else some (decide (¬r1b.2=0))).bind fun m6b=>
 (if m6b=true then some (true) else some (decide (¬r2b.2=0))).bind fun m7b=>
 if m7b=true then some false else (Bh 3 5).bind fun r8b=>
 (DG r9a.1 r8b).bind fun r9b=>
 if ¬(r9b=true) then some false else (Bh 12 0).bind fun r0c=>
 (DG r0b.1 r0c).bind fun r1c=>
 if ¬(r1c=true) then some false else (Bh (-12) 0).bind fun r2c=>
 (DG r1b.1 r2c).bind fun r3c=>
 if ¬(r3c=true) then some false else (Cc (-6) 10).bind fun r4c=>
 (El r2b.1 r4c).bind fun r5c=>
 if ¬(r5c=true) then some false else (Cc 1 1).bind fun r2a=>
 (Cc 3 3).bind fun r3a=>
 (EP (⟨(⟨(⟨r2a.Lo.Man.Neg,(limbs r2a.Lo.Man.Abs)⟩:Ar),r2a.Lo.Exp⟩:Aq),(⟨(⟨r2a.Hi.Man.Neg,(limbs r2a.Hi.Man.Abs)⟩:Ar),r2a.Hi.Exp⟩:Aq)⟩:Am) (⟨(⟨(⟨r3a.Lo.Man.Neg,(limbs r3a.Lo.Man.Abs)⟩:Ar),r3a.Lo.Exp⟩:Aq),(⟨(⟨r3a.Hi.Man.Neg,(limbs r3a.Hi.Man.Abs)⟩:Ar),r3a.Hi.Exp⟩:Aq)⟩:Am) 4).bind fun r3b=>
 (Cc 1 1).bind fun r4a=>
 (Cc (-1) 1).bind fun r5a=>
 (EP (⟨(⟨(⟨r4a.Lo.Man.Neg,(limbs r4a.Lo.Man.Abs)⟩:Ar),r4a.Lo.Exp⟩:Aq),(⟨(⟨r4a.Hi.Man.Neg,(limbs r4a.Hi.Man.Abs)⟩:Ar),r4a.Hi.Exp⟩:Aq)⟩:Am) (⟨(⟨(⟨r5a.Lo.Man.Neg,(limbs r5a.Lo.Man.Abs)⟩:Ar),r5a.Lo.Exp⟩:Aq),(⟨(⟨r5a.Hi.Man.Neg,(limbs r5a.Hi.Man.Abs)⟩:Ar),r5a.Hi.Exp⟩:Aq)⟩:Am) 4).bind fun r6c=>
 (Cc 2 2).bind fun r6a=>
 (GC (⟨(⟨(⟨r6a.Lo.Man.Neg,(limbs r6a.Lo.Man.Abs)⟩:Ar),r6a.Lo.Exp⟩:Aq),(⟨(⟨r6a.Hi.Man.Neg,(limbs r6a.Hi.Man.Abs)⟩:Ar),r6a.Hi.Exp⟩:Aq)⟩:Am) 4).bind fun r4b=>
 (Bh 5 (-4)).bind fun r7c=>
 (Bh 11 (-5)).bind fun r8c=>
 (Bh 11 (-3)).bind fun r9c=>
 (Bh 3 (-1)).bind fun r0d=>
 (if r3b.2=0 then some (decide (r6c.2=8)) else some (false)).bind fun m1d=>
 (if m1d=true then some (decide (r4b.2=0)) else some (false)).bind fun m2d=>
 (if m2d=true then (El r3b.1 (⟨r7c,r8c⟩:Ao)).bind fun r3d=>
 some (r3d) else some (false)).bind fun m4d=>
 (if m4d=true then (El r4b.1 (⟨r9c,r0d⟩:Ao)).bind fun r5d=>
 some (r5d) else some (false)).bind fun m6d=>
 some m6d
def Dt (x0:Nat) (x1:Nat):Nat→Nat→Nat→Option (Nat)
 | 0,_,_=>none
 | n2a+1,v1a,v0a=>
 if 0<(sz v0a:Int) then (Ck v1a v0a).bind fun r3a=>
 Dt x0 x1 n2a v0a r3a.R else some (v1a)
def Kt (x0:Nat) (x1:Nat):Option (Nat):=
 (Dt x0 x1 18446744073709551616 x0 x1).bind fun m0a=>
 some m0a
def Kp:Option (Nat):=
 some 1
def Hr (x0:Nat) (x1:Nat) (x2:Nat) (x3:Bool) (x4:Int):Option (Nat):=
 if (sz x1:Int)=0 then some x0 else (if x4=4 then some (decide (¬(x3=true))) else some (false)).bind fun m1a=>
 (if m1a=true then some (true) else (if x4=5 then some (x3) else some (false)).bind fun m2a=>
 some (m2a)).bind fun m3a=>
 (if x4=1 then some (true) else some (decide (x4=2))).bind fun m4a=>
 (if m4a=true then (Ef x1 x1).bind fun r5a=>
 (Ee r5a x2).bind fun r0a=>
 (if 0<r0a then some (true) else (if r0a=0 then (if x4=2 then some (true) else (if 0<(sz x0:Int) then (nth (limbs x0) 0).bind fun u6a=>
 some (decide ((u6a.tmod 2)=1)) else some (false)).bind fun m7a=>
 some (m7a)).bind fun m8a=>
 some (m8a) else some (false)).bind fun m9a=>
 some (m9a)).bind fun m0b=>
 some (m0b) else some (m3a)).bind fun m1b=>
 if m1b=true then (Kp).bind fun r2b=>
 (Ef x0 r2b).bind fun r3b=>
 some r3b else some x0
def GV (x0:Nat) (x1:Nat) (x2:Nat) (x3:Bool) (x4:Int) (x5:Int):Option (Al):=
 (Hr x0 x1 x2 x3 x4).bind fun r0a=>
 (CY x3 r0a).bind fun r1a=>
 (FM r1a x5).bind fun r2a=>
 some r2a
def p_sorobanref04_FromRat (x0:Ap) (x1:Int) (x2:Int):Option (Al):=
 if (sz x0.Num.Abs:Int)=0 then some (⟨(⟨false,0⟩:Ae),0⟩:Al) else (BZ x0.Num.Abs).bind fun r0a=>
 (BZ x0.Den).bind fun r1a=>
 (Gr x0.Num.Abs (max 0 (wi64 (0 - (wi64 ((wi64 (r0a - r1a)) - x1)))))).bind fun r6a=>
 (Gr x0.Den (max 0 (wi64 ((wi64 (r0a - r1a)) - x1)))).bind fun r4a=>
 (Ck r6a r4a).bind fun r2a=>
 (BZ r2a.Q).bind fun r7a=>
 if r7a≤x1 then (GV r2a.Q r2a.R r4a x0.Num.Neg x2 (wi64 ((wi64 (r0a - r1a)) - x1))).bind fun r8a=>
 some r8a else (Gr x0.Num.Abs (max 0 (wi64 (0 - (wi64 ((wi64 ((wi64 (r0a - r1a)) - x1))+1)))))).bind fun r9a=>
 (Gr x0.Den (max 0 (wi64 ((wi64 ((wi64 (r0a - r1a)) - x1))+1)))).bind fun r5a=>
 (Ck r9a r5a).bind fun r3a=>
 (BZ r3a.Q).bind fun r0b=>
 if r0b≤x1 then (GV r3a.Q r3a.R r5a x0.Num.Neg x2 (wi64 ((wi64 ((wi64 (r0a - r1a)) - x1))+1))).bind fun r1b=>
 some r1b else none
def JD (x0:Aj) (x1:Aj):Option (Bool):=
 (AU x0).bind fun r0a=>
 (if r0a=0 then some (true) else (AU x1).bind fun r1a=>
 some (decide (r1a=0))).bind fun m2a=>
 if m2a=true then some true else (Du x0).bind fun r3a=>
 (Du x1).bind fun r4a=>
 some (decide ((wi64 ((max r3a r4a) - (min x0.e x1.e)))≤32770))
def FO (x0:Aj) (x1:Aj) (x2:Int) (x3:Int):Option (Aj):=
 (JD x0 x1).bind fun r3a=>
 if r3a=true then (BD x0 x1).bind fun r4a=>
 (AH r4a x2 x3 false).bind fun r5a=>
 some r5a else (Du x0).bind fun r6a=>
 (Du x1).bind fun r7a=>
 (if r6a<r7a then some (x1.m.Neg,x1.m.Abs,x1.e,x0.m.Neg,x0.m.Abs,x0.e) else some (x0.m.Neg,x0.m.Abs,x0.e,x1.m.Neg,x1.m.Abs,x1.e)).bind fun m0a=>
 (Bu m0a.2.1).bind fun r1a=>
 (Bq m0a.2.1 (max 0 (wi64 ((wi64 (x2+4)) - r1a)))).bind fun r2a=>
 (Du (⟨(⟨m0a.2.2.2.1,m0a.2.2.2.2.1⟩:Ae),m0a.2.2.2.2.2⟩:Aj)).bind fun r8a=>
 if (wi64 ((wi64 (m0a.2.2.1 - (max 0 (wi64 ((wi64 (x2+4)) - r1a))))) - 1))≤r8a then (BD (⟨(⟨m0a.1,r2a⟩:Ae),(wi64 (m0a.2.2.1 - (max 0 (wi64 ((wi64 (x2+4)) - r1a)))))⟩:Aj) (⟨(⟨m0a.2.2.2.1,m0a.2.2.2.2.1⟩:Ae),m0a.2.2.2.2.2⟩:Aj)).bind fun r9a=>
 (AH r9a x2 x3 false).bind fun r0b=>
 some r0b else if m0a.1=m0a.2.2.2.1 then (AH (⟨(⟨m0a.1,r2a⟩:Ae),(wi64 (m0a.2.2.1 - (max 0 (wi64 ((wi64 (x2+4)) - r1a)))))⟩:Aj) x2 x3 true).bind fun r1b=>
 some r1b else (Ch r2a 1).bind fun r2b=>
 (AH (⟨(⟨m0a.1,r2b⟩:Ae),(wi64 (m0a.2.2.1 - (max 0 (wi64 ((wi64 (x2+4)) - r1a)))))⟩:Aj) x2 x3 true).bind fun r3b=>
 some r3b
def GP (x0:An) (x1:An) (x2:Int):M (Ao):=
 (FO x0.lo x1.lo x2 5).bind fun r0a=>
 (FO x0.hi x1.hi x2 4).bind fun r1a=>
 mb (Cp (⟨r0a,r1a⟩:An)) fun r2a=>
 some (.ok r2a)
def Fc (x0:Am) (x1:Am) (x2:Int):M (Ao × Int):=
 mb (Ba x0 x1) fun r7a=>
 mb (Ex x2) fun r8a=>
 (toN x0.Lo.Man.Abs).bind fun m0a=>
 (toN x0.Hi.Man.Abs).bind fun m1a=>
 (BY (⟨(⟨(⟨x0.Lo.Man.Neg,m0a⟩:Ae),x0.Lo.Exp⟩:Al),(⟨(⟨x0.Hi.Man.Neg,m1a⟩:Ae),x0.Hi.Exp⟩:Al)⟩:Ao)).bind fun r2a=>
 (toN x1.Lo.Man.Abs).bind fun m3a=>
 (toN x1.Hi.Man.Abs).bind fun m4a=>
 (BY (⟨(⟨(⟨x1.Lo.Man.Neg,m3a⟩:Ae),x1.Lo.Exp⟩:Al),(⟨(⟨x1.Hi.Man.Neg,m4a⟩:Ae),x1.Hi.Exp⟩:Al)⟩:Ao)).bind fun r5a=>
 mb (GP r2a r5a x2) fun r6a=>
 some (.ok (r6a,0))
def DL (x0:Am) (x1:Am) (x2:Int):Option (Ao × Int):=(Fc x0 x1 x2).bind fun q=>match q with | .ok r=>some r | .error n=>some ((⟨(⟨(⟨false,0⟩:Ae),0⟩:Al),(⟨(⟨false,0⟩:Ae),0⟩:Al)⟩:Ao),n)
def HS (x0:Am) (x1:Am) (x2:Int):Option (Ao × Int):=
 (DL x0 x1 x2).bind fun r0a=>
 some (r0a.1,r0a.2)
def Gm (x0:An) (x1:An) (x2:Int):M (Ao):=
 (Ei x1.hi).bind fun r0a=>
 (FO x0.lo r0a x2 5).bind fun r1a=>
 (Ei x1.lo).bind fun r2a=>
 (FO x0.hi r2a x2 4).bind fun r3a=>
 mb (Cp (⟨r1a,r3a⟩:An)) fun r4a=>
 some (.ok r4a)
def ET (x0:Am) (x1:Am) (x2:Int):M (Ao × Int):=
 mb (Ba x0 x1) fun r7a=>
 mb (Ex x2) fun r8a=>
 (toN x0.Lo.Man.Abs).bind fun m0a=>
 (toN x0.Hi.Man.Abs).bind fun m1a=>
 (BY (⟨(⟨(⟨x0.Lo.Man.Neg,m0a⟩:Ae),x0.Lo.Exp⟩:Al),(⟨(⟨x0.Hi.Man.Neg,m1a⟩:Ae),x0.Hi.Exp⟩:Al)⟩:Ao)).bind fun r2a=>
 (toN x1.Lo.Man.Abs).bind fun m3a=>
 (toN x1.Hi.Man.Abs).bind fun m4a=>
 (BY (⟨(⟨(⟨x1.Lo.Man.Neg,m3a⟩:Ae),x1.Lo.Exp⟩:Al),(⟨(⟨x1.Hi.Man.Neg,m4a⟩:Ae),x1.Hi.Exp⟩:Al)⟩:Ao)).bind fun r5a=>
 mb (Gm r2a r5a x2) fun r6a=>
 some (.ok (r6a,0))
def DA (x0:Am) (x1:Am) (x2:Int):Option (Ao × Int):=(ET x0 x1 x2).bind fun q=>match q with | .ok r=>some r | .error n=>some ((⟨(⟨(⟨false,0⟩:Ae),0⟩:Al),(⟨(⟨false,0⟩:Ae),0⟩:Al)⟩:Ao),n)
def Hw (x0:Am) (x1:Am) (x2:Int):Option (Ao × Int):=
 (DA x0 x1 x2).bind fun r0a=>
 some (r0a.1,r0a.2)
def Fz (x0:Ae):Option (Bool):=
 (CT (⟨x0.Neg,(limbs x0.Abs)⟩:Ar)).bind fun r0a=>
 some (decide (¬(r0a=true)))
def Dg (x0_0:Ae):Option (Int):=
 (Fz x0_0).bind fun r0a=>
 if r0a=true then some 0 else some (-1)
def CE (x0_0:Ae):Option (Bool):=
 (Dg x0_0).bind fun r7=>
 some (decide (0≤r7))
def IU (x0:Bool) (x1:Int):M (Unit):=
 if ¬(x0=true) then some (.error x1) else some (.ok ())
def Kd (x0_0:Ae):M (Unit):=
 (CE x0_0).bind fun r5=>
 mb (IU (decide (¬(r5=true))) 1) fun r0a=>
 some (.ok ())
def Iu (x0:Nat):Option (Bool):=
 (GI (limbs x0)).bind fun r6=>
 some (decide (¬(r6=true)))
def Hm (x0:Bool) (x1:Int):M (Unit):=
 if ¬(x0=true) then some (.error x1) else some (.ok ())
def Gb (x0:Nat):M (Nat):=
 mb (Hm (decide ((sz x0:Int)≤1024)) 2) fun r7=>
 (Fk x0).bind fun r0a=>
 some (.ok r0a)
def Ij (x0:Nat) (x1:Int):M (Nat):=
 mb (IU (decide (x1=0)) x1) fun r7=>
 some (.ok x0)
def Cf (x0_0:Nat) (x0_1:Nat):Option (Int):=
 (Iu x0_0).bind fun r0a=>
 if r0a=true then some 0 else (Iu x0_1).bind fun r1a=>
 if r1a=true then some 1 else some (-1)
def BR (x0_0:Nat) (x0_1:Nat):Option (Bool):=
 (Cf x0_0 x0_1).bind fun r0a=>
 some (decide (0≤r0a))
def DP (x0_0:Nat) (x0_1:Nat):M (Unit):=
 (BR x0_0 x0_1).bind fun r8=>
 mb (Hm (decide (¬(r8=true))) 1) fun r0a=>
 some (.ok ())
def KI (x0:Nat) (x1:Nat):M (Nat):=
 (CQ x0 x1).bind fun r9=>
 mb (Hm (decide (0≤r9)) 3) fun r1a=>
 (DV x0 x1).bind fun r0a=>
 some (.ok r0a)
def EA (x0:Nat) (x1:Nat):M (Nat × Int):=
 mb (DP x0 x1) fun r2a=>
 mb (KI x0 x1) fun r0a=>
 mb (Gb r0a) fun r1a=>
 some (.ok (r1a,0))
def De (x0:Nat) (x1:Nat):Option (Nat × Int):=(EA x0 x1).bind fun q=>match q with | .ok r=>some r | .error n=>none
def Kl (x0:Nat) (x1:Nat):Option (Nat × Int):=
 (De x0 x1).bind fun r9=>
 some (r9.1,r9.2)
def Dy (x0:Nat) (x1:Nat):M (Nat × Int):=
 mb (DP x0 x1) fun r2a=>
 (DW x0 x1).bind fun r0a=>
 mb (Gb r0a) fun r1a=>
 some (.ok (r1a,0))
def Co (x0:Nat) (x1:Nat):Option (Nat × Int):=(Dy x0 x1).bind fun q=>match q with | .ok r=>some r | .error n=>none
def KV (x0:Nat) (x1:Nat):Option (Nat × Int):=
 (Co x0 x1).bind fun r9=>
 some (r9.1,r9.2)
def Gl (x0:Bool) (x1:Nat):Option (Ae):=
 (if x0=true then some (decide (0<(sz x1:Int))) else some (false)).bind fun m0a=>
 some (⟨m0a,x1⟩:Ae)
def JI (x0:Ae):Option (Ae):=
 (FU x0.Abs).bind fun r0a=>
 some (⟨x0.Neg,r0a⟩:Ae)
def Fp (x0:Nat) (x1:Nat):Nat→Nat→Nat→Option (Nat)
 | 0,_,_=>none
 | n2a+1,v1a,v0a=>
 if 0<(sz v0a:Int) then (BP v1a v0a).bind fun r3a=>
 Fp x0 x1 n2a v0a r3a.2 else some (v1a)
def JL (x0:Nat) (x1:Nat):Option (Nat):=
 (Fp x0 x1 18446744073709551616 x0 x1).bind fun m0a=>
 some m0a
def EB (x0:Nat) (x1:Nat):M (Nat × Int):=
 mb (DP x0 x1) fun r2a=>
 (JL x0 x1).bind fun r0a=>
 mb (Gb r0a) fun r1a=>
 some (.ok (r1a,0))
def Dc (x0:Nat) (x1:Nat):Option (Nat × Int):=(EB x0 x1).bind fun q=>match q with | .ok r=>some r | .error n=>none
def IP (x0:Nat) (x1:Nat):Option (Nat × Int):=
 (Dc x0 x1).bind fun r9=>
 some (r9.1,r9.2)
def BN (x0:BT):Option (Bool):=
 (CT x0.Num).bind fun r1a=>
 (if ¬(r1a=true) then some (true) else (GI x0.Den).bind fun r2a=>
 some (decide (¬(r2a=true)))).bind fun m3a=>
 (if m3a=true then some (true) else some (decide ((x0.Den.length:Int)=0))).bind fun m4a=>
 if m4a=true then some false else (toN x0.Num.Abs).bind fun m5a=>
 (toN x0.Den).bind fun m6a=>
 (IP m5a m6a).bind fun r0a=>
 (if r0a.2=0 then some (decide ((sz r0a.1:Int)=1)) else some (false)).bind fun m7a=>
 (if m7a=true then (nth (limbs r0a.1) 0).bind fun u8a=>
 some (decide (u8a=1)) else some (false)).bind fun m9a=>
 some m9a
def Ia (x0:Ap):Option (Aj × Aj):=
 (JO x0.Num).bind fun r0a=>
 (Cz r0a 0).bind fun r1a=>
 (Cz (⟨false,x0.Den⟩:Ae) 0).bind fun r2a=>
 some (r1a,r2a)
def Dn (x0_0:BT) (x0_1:BT):Option (Bool):=
 (if 20<(x0_0.Num.Abs.length:Int) then some (true) else some (decide (20<(x0_0.Den.length:Int)))).bind fun m0a=>
 (if m0a=true then some (true) else (BN x0_0).bind fun r1a=>
 some (decide (¬(r1a=true)))).bind fun m2a=>
 if m2a=true then some false else (if 20<(x0_1.Num.Abs.length:Int) then some (true) else some (decide (20<(x0_1.Den.length:Int)))).bind fun m3a=>
 (if m3a=true then some (true) else (BN x0_1).bind fun r4a=>
 some (decide (¬(r4a=true)))).bind fun m5a=>
 if m5a=true then some false else some true
def Kw (x0:BT) (x1:Int):M (Ao × Int):=
 (BN x0).bind fun r1a=>
 mb (Cg r1a 1) fun r7a=>
 mb (Ex x1) fun r8a=>
 (toN x0.Num.Abs).bind fun m2a=>
 (toN x0.Den).bind fun m3a=>
 (Ia (⟨(⟨x0.Num.Neg,m2a⟩:Ae),m3a⟩:Ap)).bind fun r0a=>
 (AM r0a.1 r0a.2 x1 5).bind fun r4a=>
 (AM r0a.1 r0a.2 x1 4).bind fun r5a=>
 mb (Cp (⟨r4a,r5a⟩:An)) fun r6a=>
 some (.ok (r6a,0))
def GM (x0:BT) (x1:Int):Option (Ao × Int):=(Kw x0 x1).bind fun q=>match q with | .ok r=>some r | .error n=>some ((⟨(⟨(⟨false,0⟩:Ae),0⟩:Al),(⟨(⟨false,0⟩:Ae),0⟩:Al)⟩:Ao),n)
def Hf (x0_0:Am):M (Unit):=
 (Be x0_0).bind fun r0a=>
 mb (Cg r0a 1) fun r1a=>
 some (.ok ())
def LM (x0:Am) (x1:BT):M (Bool × Int):=
 mb (Hf x0) fun r2b=>
 (BN x1).bind fun r1a=>
 mb (Cg r1a 1) fun r3b=>
 (toN x1.Num.Abs).bind fun m2a=>
 (toN x1.Den).bind fun m3a=>
 (Ia (⟨(⟨x1.Num.Neg,m2a⟩:Ae),m3a⟩:Ap)).bind fun r0a=>
 (toN x0.Lo.Man.Abs).bind fun m4a=>
 (HD (⟨(⟨x0.Lo.Man.Neg,m4a⟩:Ae),x0.Lo.Exp⟩:Al)).bind fun r5a=>
 (CV r5a r0a.2).bind fun r6a=>
 (Bb r6a r0a.1).bind fun r7a=>
 if r7a≤0 then (toN x0.Hi.Man.Abs).bind fun m8a=>
 (HD (⟨(⟨x0.Hi.Man.Neg,m8a⟩:Ae),x0.Hi.Exp⟩:Al)).bind fun r9a=>
 (CV r9a r0a.2).bind fun r0b=>
 (Bb r0b r0a.1).bind fun r1b=>
 some (.ok ((decide (0≤r1b)),0)) else some (.ok (false,0))
def Jo (x0:Am) (x1:BT):Option (Bool × Int):=(LM x0 x1).bind fun q=>match q with | .ok r=>some r | .error n=>some (false,n)
def Bj (x0:Ao) (x1:Int) (x2:Ap) (x3:Int):Option (Bool):=
 (if ¬x1=0 then some (true) else some (decide (¬x3=0))).bind fun m1a=>
 if m1a=true then some true else (Jo (⟨(⟨(⟨x0.Lo.Man.Neg,(limbs x0.Lo.Man.Abs)⟩:Ar),x0.Lo.Exp⟩:Aq),(⟨(⟨x0.Hi.Man.Neg,(limbs x0.Hi.Man.Abs)⟩:Ar),x0.Hi.Exp⟩:Aq)⟩:Am) (⟨(⟨x2.Num.Neg,(limbs x2.Num.Abs)⟩:Ar),(limbs x2.Den)⟩:BT)).bind fun r0a=>
 (if r0a.2=0 then some (r0a.1) else some (false)).bind fun m2a=>
 some m2a
def GN (x0:An) (x1:An) (x2:Int):M (Ao):=
 (Bb x1.lo x0.lo).bind fun r2a=>
 (if r2a<0 then some (x1.lo.m.Neg,x1.lo.m.Abs,x1.lo.e) else some (x0.lo.m.Neg,x0.lo.m.Abs,x0.lo.e)).bind fun m0a=>
 (Bb x1.hi x0.hi).bind fun r3a=>
 (if 0<r3a then some (x1.hi.m.Neg,x1.hi.m.Abs,x1.hi.e) else some (x0.hi.m.Neg,x0.hi.m.Abs,x0.hi.e)).bind fun m1a=>
 mb (Cp (⟨(⟨(⟨m0a.1,m0a.2.1⟩:Ae),m0a.2.2⟩:Aj),(⟨(⟨m1a.1,m1a.2.1⟩:Ae),m1a.2.2⟩:Aj)⟩:An)) fun r4a=>
 some (.ok r4a)
def Ff (x0:Am) (x1:Am) (x2:Int):M (Ao × Int):=
 mb (Ba x0 x1) fun r7a=>
 mb (Ex x2) fun r8a=>
 (toN x0.Lo.Man.Abs).bind fun m0a=>
 (toN x0.Hi.Man.Abs).bind fun m1a=>
 (BY (⟨(⟨(⟨x0.Lo.Man.Neg,m0a⟩:Ae),x0.Lo.Exp⟩:Al),(⟨(⟨x0.Hi.Man.Neg,m1a⟩:Ae),x0.Hi.Exp⟩:Al)⟩:Ao)).bind fun r2a=>
 (toN x1.Lo.Man.Abs).bind fun m3a=>
 (toN x1.Hi.Man.Abs).bind fun m4a=>
 (BY (⟨(⟨(⟨x1.Lo.Man.Neg,m3a⟩:Ae),x1.Lo.Exp⟩:Al),(⟨(⟨x1.Hi.Man.Neg,m4a⟩:Ae),x1.Hi.Exp⟩:Al)⟩:Ao)).bind fun r5a=>
 mb (GN r2a r5a x2) fun r6a=>
 some (.ok (r6a,0))
def DJ (x0:Am) (x1:Am) (x2:Int):Option (Ao × Int):=(Ff x0 x1 x2).bind fun q=>match q with | .ok r=>some r | .error n=>some ((⟨(⟨(⟨false,0⟩:Ae),0⟩:Al),(⟨(⟨false,0⟩:Ae),0⟩:Al)⟩:Ao),n)
def FX (x0:Am) (x1:Am):Option (Ao × Int):=
 (DJ x0 x1 1).bind fun r0a=>
 some (r0a.1,r0a.2)
def Hq (x0:Bool) (x1:Int):M (Unit):=
 if ¬(x0=true) then some (.error x1) else some (.ok ())
def Ej (x0_0:Ap) (x0_1:Ap):M (Unit):=
 (BN (⟨(⟨x0_0.Num.Neg,(limbs x0_0.Num.Abs)⟩:Ar),(limbs x0_0.Den)⟩:BT)).bind fun r0a=>
 mb (Hq r0a 1) fun r2a=>
 (BN (⟨(⟨x0_1.Num.Neg,(limbs x0_1.Num.Abs)⟩:Ar),(limbs x0_1.Den)⟩:BT)).bind fun r1a=>
 mb (Hq r1a 1) fun r3a=>
 some (.ok ())
def FT (x0:Int):M (Unit):=
 if ¬x0=0 then some (.error x0) else some (.ok ())
def Hx (x0:Nat) (x1:Nat) (x2:Int):Option (Nat × Nat):=
 if (sz x1:Int)<x2 then (BP x0 x1).bind fun r0a=>
 some (r0a.1,r0a.2) else none
def KA (x0:Nat) (x1:Nat):Option (Nat × Nat):=
 (Hx x0 x1 32).bind fun r9=>
 some (r9.1,r9.2)
def EZ (x0:Nat) (x1:Nat):M (Nat × Nat × Int):=
 mb (DP x0 x1) fun r3a=>
 mb (Hm (decide (0<(sz x1:Int))) 8) fun r4a=>
 (KA x0 x1).bind fun r0a=>
 mb (Gb r0a.1) fun r1a=>
 mb (Gb r0a.2) fun r2a=>
 some (.ok (r1a,r2a,0))
def DM (x0:Nat) (x1:Nat):Option (Nat × Nat × Int):=(EZ x0 x1).bind fun q=>match q with | .ok r=>some r | .error n=>none
def KU (x0:Nat) (x1:Nat):Option (Nat × Nat × Int):=
 (DM x0 x1).bind fun r9=>
 some (r9.1,r9.2.1,r9.2.2)
def Dv (x0:Nat) (x1:Nat):M (Nat × Nat):=
 (KU x0 x1).bind fun r9=>
 mb (FT r9.2.2) fun r0a=>
 some (.ok (r9.1,r9.2.1))
def Gt (x0:Nat) (x1:Nat) (x2:Int):Option (Nat):=
 if (min (sz x0:Int) (sz x1:Int))<x2 then (CD x0 x1).bind fun r0a=>
 some r0a else none
def IB (x0:Nat) (x1:Nat):Option (Nat):=
 (Gt x0 x1 32).bind fun r9=>
 some r9
def Dw (x0:Nat) (x1:Nat):M (Nat × Int):=
 mb (DP x0 x1) fun r2a=>
 (IB x0 x1).bind fun r0a=>
 mb (Gb r0a) fun r1a=>
 some (.ok (r1a,0))
def Cn (x0:Nat) (x1:Nat):Option (Nat × Int):=(Dw x0 x1).bind fun q=>match q with | .ok r=>some r | .error n=>none
def Jq (x0:Nat) (x1:Nat):Option (Nat × Int):=
 (Cn x0 x1).bind fun r9=>
 some (r9.1,r9.2)
def Dr (x0:Bool) (x1:Nat):Option (Ae):=
 (if x0=true then some (decide (0<(sz x1:Int))) else some (false)).bind fun m0a=>
 some (⟨m0a,x1⟩:Ae)
def Cd (x0_0:Ae) (x0_1:Ae):Option (Int):=
 (Fz x0_0).bind fun r0a=>
 if r0a=true then some 0 else (Fz x0_1).bind fun r1a=>
 if r1a=true then some 1 else some (-1)
def BK (x0_0:Ae) (x0_1:Ae):Option (Bool):=
 (Cd x0_0 x0_1).bind fun r0a=>
 some (decide (0≤r0a))
def HA (x0_0:Ae) (x0_1:Ae):M (Unit):=
 (BK x0_0 x0_1).bind fun r8=>
 mb (IU (decide (¬(r8=true))) 1) fun r0a=>
 some (.ok ())
def MJ (x0:Nat) (x1:Nat):M (Int × Int):=
 mb (DP x0 x1) fun r1a=>
 (CQ x0 x1).bind fun r0a=>
 some (.ok (r0a,0))
def Mm (x0:Nat) (x1:Nat):Option (Int × Int):=(MJ x0 x1).bind fun q=>match q with | .ok r=>some r | .error n=>none
def Iv (x0:Nat) (x1:Nat):Option (Int):=
 (Mm x0 x1).bind fun r9=>
 some r9.1
def JJ (x0:Ae) (x1:Ae):M (Ae):=
 if x0.Neg=x1.Neg then (KV x0.Abs x1.Abs).bind fun r0a=>
 mb (Ij r0a.1 r0a.2) fun r3a=>
 (Gl x0.Neg r3a).bind fun r4a=>
 some (.ok r4a) else (Iv x0.Abs x1.Abs).bind fun r5a=>
 if 0≤r5a then (Kl x0.Abs x1.Abs).bind fun r1a=>
 mb (Ij r1a.1 r1a.2) fun r6a=>
 (Gl x0.Neg r6a).bind fun r7a=>
 some (.ok r7a) else (Kl x1.Abs x0.Abs).bind fun r2a=>
 mb (Ij r2a.1 r2a.2) fun r8a=>
 (Gl x1.Neg r8a).bind fun r9a=>
 some (.ok r9a)
def FJ (x0:Ae) (x1:Ae):M (Ae):=
 mb (JJ x0 x1) fun r0a=>
 (JI r0a).bind fun r1a=>
 some (.ok r1a)
def EE (x0_0:Ae) (x0_1:Ae) (x1_0:Ae) (x1_1:Ae):M (Ae × Int):=
 mb (HA x1_0 x1_1) fun r1a=>
 mb (FJ x0_0 x0_1) fun r0a=>
 some (.ok (r0a,0))
def Dk (x0_0:Ae) (x0_1:Ae) (x1_0:Ae) (x1_1:Ae):Option (Ae × Int):=(EE x0_0 x0_1 x1_0 x1_1).bind fun q=>match q with | .ok r=>some r | .error n=>none
def KB (x0:Ae) (x1:Ae):Option (Ae × Int):=
 (Dk x0 x1 x0 x1).bind fun r0a=>
 some (r0a.1,r0a.2)
def HM (x0:Ae) (x1:Nat) (x2:Ae) (x3:Nat):Option (Ae × Bool):=
 (Jq x0.Abs x1).bind fun r0a=>
 (Jq x2.Abs x3).bind fun r1a=>
 (if ¬r0a.2=0 then some (true) else some (decide (¬r1a.2=0))).bind fun m3a=>
 if m3a=true then some ((⟨false,0⟩:Ae),false) else (Dr x0.Neg r0a.1).bind fun r4a=>
 (Dr x2.Neg r1a.1).bind fun r5a=>
 (KB r4a r5a).bind fun r2a=>
 some (r2a.1,(decide (r2a.2=0)))
def FY (x0:Nat) (x1:Nat):M (Nat):=
 (Jq x0 x1).bind fun r9=>
 mb (FT r9.2) fun r0a=>
 some (.ok r9.1)
def IJ (x0:Ap) (x1:Ap):M (Ap):=
 (IP x0.Den x1.Den).bind fun r0a=>
 mb (FT r0a.2) fun r0b=>
 mb (Dv x0.Den r0a.1) fun r3a=>
 mb (Dv x1.Den r0a.1) fun r4a=>
 (HM x0.Num r4a.1 x1.Num r3a.1).bind fun r1a=>
 if r1a.2=true then (IP r1a.1.Abs r0a.1).bind fun r2a=>
 mb (FT r2a.2) fun r1b=>
 mb (Dv r1a.1.Abs r2a.1) fun r5a=>
 mb (Dv r0a.1 r2a.1) fun r6a=>
 (Dr r1a.1.Neg r5a.1).bind fun r7a=>
 mb (FY r3a.1 r4a.1) fun r8a=>
 mb (FY r8a r6a.1) fun r9a=>
 some (.ok (⟨r7a,r9a⟩:Ap)) else none
def Lu (x0:Ap) (x1:Ap):M (Ap × Int):=
 mb (Ej x0 x1) fun r1a=>
 mb (IJ x0 x1) fun r0a=>
 some (.ok (r0a,0))
def JH (x0:Ap) (x1:Ap):Option (Ap × Int):=(Lu x0 x1).bind fun q=>match q with | .ok r=>some r | .error n=>some ((⟨(⟨false,0⟩:Ae),0⟩:Ap),n)
def JC (x0:Ae):Option (Ae):=
 (Dr (decide (¬(x0.Neg=true))) x0.Abs).bind fun r0a=>
 some r0a
def Ge (x0:Ap):Option (Ap):=
 (JC x0.Num).bind fun r0a=>
 some (⟨r0a,x0.Den⟩:Ap)
def LB (x0:Ap) (x1:Ap):M (Ap × Int):=
 mb (Ej x0 x1) fun r2a=>
 (Ge x1).bind fun r0a=>
 mb (IJ x0 r0a) fun r1a=>
 some (.ok (r1a,0))
def JG (x0:Ap) (x1:Ap):Option (Ap × Int):=(LB x0 x1).bind fun q=>match q with | .ok r=>some r | .error n=>some ((⟨(⟨false,0⟩:Ae),0⟩:Ap),n)
def GW (x0:Ae) (x1:Nat):M (Ap):=
 (IP x0.Abs x1).bind fun r0a=>
 mb (FT r0a.2) fun r4a=>
 mb (Dv x0.Abs r0a.1) fun r1a=>
 mb (Dv x1 r0a.1) fun r2a=>
 (Dr x0.Neg r1a.1).bind fun r3a=>
 some (.ok (⟨r3a,r2a.1⟩:Ap))
def FN (x0:Ap) (x1:Ap):M (Ap):=
 mb (GW x0.Num x1.Den) fun r0a=>
 mb (GW x1.Num x0.Den) fun r1a=>
 mb (FY r0a.Num.Abs r1a.Num.Abs) fun r2a=>
 (Dr (decide (¬x0.Num.Neg=x1.Num.Neg)) r2a).bind fun r3a=>
 mb (FY r0a.Den r1a.Den) fun r4a=>
 some (.ok (⟨r3a,r4a⟩:Ap))
def Lx (x0:Ap) (x1:Ap):M (Ap × Int):=
 mb (Ej x0 x1) fun r1a=>
 mb (FN x0 x1) fun r0a=>
 some (.ok (r0a,0))
def IN (x0:Ap) (x1:Ap):Option (Ap × Int):=(Lx x0 x1).bind fun q=>match q with | .ok r=>some r | .error n=>some ((⟨(⟨false,0⟩:Ae),0⟩:Ap),n)
def Ja (x0:Ap):Option (Bool):=
 some (decide ((sz x0.Num.Abs:Int)=0))
def Iz (x0:Ap):Option (Ap):=
 (Dr x0.Num.Neg x0.Den).bind fun r0a=>
 some (⟨r0a,x0.Num.Abs⟩:Ap)
def Kj (x0:Ap) (x1:Ap):M (Ap × Int):=
 mb (Ej x0 x1) fun r3a=>
 (Ja x1).bind fun r0a=>
 mb (Hq (decide (¬(r0a=true))) 8) fun r4a=>
 (Iz x1).bind fun r1a=>
 mb (FN x0 r1a) fun r2a=>
 some (.ok (r2a,0))
def Hl (x0:Ap) (x1:Ap):Option (Ap × Int):=(Kj x0 x1).bind fun q=>match q with | .ok r=>some r | .error n=>some ((⟨(⟨false,0⟩:Ae),0⟩:Ap),n)
def Ic (x0_0:Ap):M (Unit):=
 (BN (⟨(⟨x0_0.Num.Neg,(limbs x0_0.Num.Abs)⟩:Ar),(limbs x0_0.Den)⟩:BT)).bind fun r0a=>
 mb (Hq r0a 1) fun r1a=>
 some (.ok ())
def Lh (x0:Ap):M (Ap × Int):=
 mb (Ic x0) fun r1a=>
 (Ge x0).bind fun r0a=>
 some (.ok (r0a,0))
def JP (x0:Ap):Option (Ap × Int):=(Lh x0).bind fun q=>match q with | .ok r=>some r | .error n=>some ((⟨(⟨false,0⟩:Ae),0⟩:Ap),n)
def EU (x0:Ap) (x1:Int) (x2:Int):Option (Bool):=
 (IN x0 x0).bind fun r1a=>
 (GM (⟨(⟨r1a.1.Num.Neg,(limbs r1a.1.Num.Abs)⟩:Ar),(limbs r1a.1.Den)⟩:BT) x1).bind fun r0a=>
 (if ¬r1a.2=0 then some (true) else some (decide (¬r0a.2=0))).bind fun m5a=>
 if m5a=true then some false else (GC (⟨(⟨(⟨r0a.1.Lo.Man.Neg,(limbs r0a.1.Lo.Man.Abs)⟩:Ar),r0a.1.Lo.Exp⟩:Aq),(⟨(⟨r0a.1.Hi.Man.Neg,(limbs r0a.1.Hi.Man.Abs)⟩:Ar),r0a.1.Hi.Exp⟩:Aq)⟩:Am) x2).bind fun r4a=>
 (if x0.Num.Neg=true then (JP x0).bind fun r2a=>
 some (r2a.2,r2a.1.Num.Neg,r2a.1.Num.Abs,r2a.1.Den) else some (r1a.2,x0.Num.Neg,x0.Num.Abs,x0.Den)).bind fun m3a=>
 (if r4a.2=0 then (Bj r4a.1 r4a.2 (⟨(⟨m3a.2.1,m3a.2.2.1⟩:Ae),m3a.2.2.2⟩:Ap) m3a.1).bind fun r6a=>
 some (r6a) else some (false)).bind fun m7a=>
 some m7a
def Ez (x0:BT) (x1:BT) (x2:Am) (x3:Int) (x4:Int):Option (Bool):=
 (Dn x0 x1).bind fun r6b=>
 (if ¬(r6b=true) then some (true) else (Fe x2).bind fun r7b=>
 some (decide (¬(r7b=true)))).bind fun m8b=>
 (if m8b=true then some (true) else some (decide (x3<1))).bind fun m9b=>
 (if m9b=true then some (true) else some (decide (500<x3))).bind fun m0c=>
 (if m0c=true then some (true) else some (decide (x4<1))).bind fun m1c=>
 (if m1c=true then some (true) else some (decide (500<x4))).bind fun m2c=>
 if m2c=true then (EV).bind fun r3c=>
 some r3c else (GM x0 x3).bind fun r0a=>
 (GM x1 x3).bind fun r2a=>
 (if ¬r0a.2=0 then some (true) else some (decide (¬r2a.2=0))).bind fun m4c=>
 (if m4c=true then some (true) else (toN x0.Num.Abs).bind fun m5c=>
 (toN x0.Den).bind fun m6c=>
 (Bj r0a.1 r0a.2 (⟨(⟨x0.Num.Neg,m5c⟩:Ae),m6c⟩:Ap) r2a.2).bind fun r7c=>
 some (decide (¬(r7c=true)))).bind fun m8c=>
 (if m8c=true then some (true) else (toN x1.Num.Abs).bind fun m9c=>
 (toN x1.Den).bind fun m0d=>
 (Bj r2a.1 r2a.2 (⟨(⟨x1.Num.Neg,m9c⟩:Ae),m0d⟩:Ap) r0a.2).bind fun r1d=>
 some (decide (¬(r1d=true)))).bind fun m2d=>
 if m2d=true then some false else (FX (⟨(⟨(⟨r2a.1.Lo.Man.Neg,(limbs r2a.1.Lo.Man.Abs)⟩:Ar),r2a.1.Lo.Exp⟩:Aq),(⟨(⟨r2a.1.Hi.Man.Neg,(limbs r2a.1.Hi.Man.Abs)⟩:Ar),r2a.1.Hi.Exp⟩:Aq)⟩:Am) x2).bind fun r3a=>
 (if r3a.2=0 then some (r3a.1.Lo.Man.Neg,r3a.1.Lo.Man.Abs,r3a.1.Lo.Exp,r3a.1.Hi.Man.Neg,r3a.1.Hi.Man.Abs,r3a.1.Hi.Exp) else some (r2a.1.Lo.Man.Neg,r2a.1.Lo.Man.Abs,r2a.1.Lo.Exp,r2a.1.Hi.Man.Neg,r2a.1.Hi.Man.Abs,r2a.1.Hi.Exp)).bind fun m1a=>
 (HS (⟨(⟨(⟨r0a.1.Lo.Man.Neg,(limbs r0a.1.Lo.Man.Abs)⟩:Ar),r0a.1.Lo.Exp⟩:Aq),(⟨(⟨r0a.1.Hi.Man.Neg,(limbs r0a.1.Hi.Man.Abs)⟩:Ar),r0a.1.Hi.Exp⟩:Aq)⟩:Am) (⟨(⟨(⟨m1a.1,(limbs m1a.2.1)⟩:Ar),m1a.2.2.1⟩:Aq),(⟨(⟨m1a.2.2.2.1,(limbs m1a.2.2.2.2.1)⟩:Ar),m1a.2.2.2.2.2⟩:Aq)⟩:Am) x4).bind fun r8a=>
 (toN x0.Num.Abs).bind fun m4a=>
 (toN x0.Den).bind fun m5a=>
 (toN x1.Num.Abs).bind fun m6a=>
 (toN x1.Den).bind fun m7a=>
 (JH (⟨(⟨x0.Num.Neg,m4a⟩:Ae),m5a⟩:Ap) (⟨(⟨x1.Num.Neg,m6a⟩:Ae),m7a⟩:Ap)).bind fun r9a=>
 (Bj r8a.1 r8a.2 r9a.1 r9a.2).bind fun r3d=>
 if ¬(r3d=true) then some false else (Hw (⟨(⟨(⟨r0a.1.Lo.Man.Neg,(limbs r0a.1.Lo.Man.Abs)⟩:Ar),r0a.1.Lo.Exp⟩:Aq),(⟨(⟨r0a.1.Hi.Man.Neg,(limbs r0a.1.Hi.Man.Abs)⟩:Ar),r0a.1.Hi.Exp⟩:Aq)⟩:Am) (⟨(⟨(⟨m1a.1,(limbs m1a.2.1)⟩:Ar),m1a.2.2.1⟩:Aq),(⟨(⟨m1a.2.2.2.1,(limbs m1a.2.2.2.2.1)⟩:Ar),m1a.2.2.2.2.2⟩:Aq)⟩:Am) x4).bind fun r0b=>
 (JG (⟨(⟨x0.Num.Neg,m4a⟩:Ae),m5a⟩:Ap) (⟨(⟨x1.Num.Neg,m6a⟩:Ae),m7a⟩:Ap)).bind fun r1b=>
 (Bj r0b.1 r0b.2 r1b.1 r1b.2).bind fun r4d=>
 if ¬(r4d=true) then some false else (GJ (⟨(⟨(⟨r0a.1.Lo.Man.Neg,(limbs r0a.1.Lo.Man.Abs)⟩:Ar),r0a.1.Lo.Exp⟩:Aq),(⟨(⟨r0a.1.Hi.Man.Neg,(limbs r0a.1.Hi.Man.Abs)⟩:Ar),r0a.1.Hi.Exp⟩:Aq)⟩:Am) (⟨(⟨(⟨m1a.1,(limbs m1a.2.1)⟩:Ar),m1a.2.2.1⟩:Aq),(⟨(⟨m1a.2.2.2.1,(limbs m1a.2.2.2.2.1)⟩:Ar),m1a.2.2.2.2.2⟩:Aq)⟩:Am) x4).bind fun r2b=>
 (IN (⟨(⟨x0.Num.Neg,m4a⟩:Ae),m5a⟩:Ap) (⟨(⟨x1.Num.Neg,m6a⟩:Ae),m7a⟩:Ap)).bind fun r3b=>
 (Bj r2b.1 r2b.2 r3b.1 r3b.2).bind fun r5d=>
 if ¬(r5d=true) then some false else (EP (⟨(⟨(⟨r0a.1.Lo.Man.Neg,(limbs r0a.1.Lo.Man.Abs)⟩:Ar),r0a.1.Lo.Exp⟩:Aq),(⟨(⟨r0a.1.Hi.Man.Neg,(limbs r0a.1.Hi.Man.Abs)⟩:Ar),r0a.1.Hi.Exp⟩:Aq)⟩:Am) (⟨(⟨(⟨m1a.1,(limbs m1a.2.1)⟩:Ar),m1a.2.2.1⟩:Aq),(⟨(⟨m1a.2.2.2.1,(limbs m1a.2.2.2.2.1)⟩:Ar),m1a.2.2.2.2.2⟩:Aq)⟩:Am) x4).bind fun r4b=>
 (Hl (⟨(⟨x0.Num.Neg,m4a⟩:Ae),m5a⟩:Ap) (⟨(⟨x1.Num.Neg,m6a⟩:Ae),m7a⟩:Ap)).bind fun r5b=>
 (Bj r4b.1 r4b.2 r5b.1 r5b.2).bind fun r6d=>
 if ¬(r6d=true) then some false else (EV).bind fun r7d=>
 (if r7d=true then (EU (⟨(⟨x0.Num.Neg,m4a⟩:Ae),m5a⟩:Ap) x3 x4).bind fun r8d=>
 some (r8d) else some (false)).bind fun m9d=>
 some m9d
end Go.Proofs

