import Derived.Test.YtabiobmfelafoaaGreatDoorProg
import Derived.Test.YtabiobmfelafoaaGreatDoorCor
import Derived.Test.YtabiobmfelafoaaGreatDoorRow
import Derived.Test.YtabiobmfelafoaaGreatDoorDef1
import Derived.Test.YtabiobmfelafoaaGreatDoorLC
namespace Go.Proofs
set_option linter.unusedVariables false
set_option linter.unusedSimpArgs false
set_option maxHeartbeats 4000000
open Go.RowKit Go.Sb Go.Proofs.Sbn
structure Ay where
 Neg:Bool
 Abs:List Int
structure Aq where
 Man:Ay
 Exp:Int
structure Ao where
 Lo:Aq
 Hi:Aq
structure Ae where
 Neg:Bool
 Abs:Nat
structure Ag where
 Man:Ae
 Exp:Int
structure An where
 m:Ae
 e:Int
structure Al where
 Lo:Ag
 Hi:Ag
structure Ap where
 lo:An
 hi:An
structure Dt where
 Num:Ae
 Den:Nat
structure sorobanref01_DividedT where
 Q:Nat
 R:Nat
structure HB where
 S:Al
 E:Int
structure GV where
 Num:Ay
 Den:List Int
theorem AI:agg Tryz.prog 29 6=true:=by kernel_rfl
theorem Jy:fieldAt Tryz.prog 29 0=some 0:=by kernel_rfl
theorem BT:agg Tryz.prog 27 3=true:=by kernel_rfl
theorem Jv:fieldAt Tryz.prog 29 1=some 3:=by kernel_rfl
theorem Hq:Iw Tryz.prog 27 [.bool false,.slice none 0 0,.int .i64 0]:=FJ (by kernel_rfl)
theorem KE:Tryz.prog.underlying 46=some (.slice 27):=by kernel_rfl
theorem FI:Ex Tryz.prog 27 3=true:=by kernel_rfl
theorem HF:fieldAt Tryz.prog 27 0=some 0:=by kernel_rfl
theorem Eb:fieldAt Tryz.prog 25 1=some 1:=by kernel_rfl
theorem Gf:Mn Tryz.prog 23=true:=by kernel_rfl
theorem Dn:Tryz.prog.underlying 23=some (.slice 179):=by kernel_rfl
theorem GS:agg Tryz.prog 25 2=true:=by kernel_rfl
theorem en_143:Ent Tryz.prog 143:=ent Tryz.func143 (by kernel_rfl) rfl
theorem IP:fieldAt Tryz.prog 25 0=some 0:=by kernel_rfl
theorem HZ:Mn Tryz.prog 4=true:=by kernel_rfl
theorem en_61:Ent Tryz.prog 61:=ent Tryz.func61 (by kernel_rfl) rfl
theorem Hj:fieldAt Tryz.prog 27 1=some 2:=by kernel_rfl
theorem FM:Mn Tryz.prog 3=true:=by kernel_rfl
theorem Pp:Ent Tryz.prog 128:=ent Tryz.func128 (by kernel_rfl) rfl
theorem en_45:Ent Tryz.prog 45:=ent Tryz.func45 (by kernel_rfl) rfl
theorem Lz:Iw Tryz.prog 25 [.bool false,.slice none 0 0]:=FJ (by kernel_rfl)
theorem it_3:Tryz.prog.underlying 3=some (.int .i64):=by kernel_rfl
theorem AW:Tryz.prog.underlying 148=some (.int .u64):=by kernel_rfl
theorem PK:Ent Tryz.prog 179:=ent Tryz.func179 (by kernel_rfl) rfl
theorem Kd:Ex Tryz.prog 25 2=true:=by kernel_rfl
theorem Px:Ent Tryz.prog 178:=ent Tryz.func178 (by kernel_rfl) rfl
theorem RN:Ent Tryz.prog 96:=ent Tryz.func96 (by kernel_rfl) rfl
theorem Jk:Iw Tryz.prog 33 [.int .i64 0]:=FJ (by kernel_rfl)
theorem Ld:Tryz.prog.underlying 20=some (.interface #[]):=by kernel_rfl
theorem MM:PL Tryz.prog 201=true:=by kernel_rfl
theorem Nq:Iw Tryz.prog 201 [.int .i64 0]:=FJ (by kernel_rfl)
theorem No:Ex Tryz.prog 201 1=true:=by kernel_rfl
theorem mo:Tryz.prog.follows .mixedOrders=true:=by kernel_rfl
theorem LL:fieldAt Tryz.prog 201 0=some 0:=by kernel_rfl
theorem BW:Mn Tryz.prog 33=true:=by kernel_rfl
theorem GW:Ex Tryz.prog 33 1=true:=by kernel_rfl
theorem PR:Ent Tryz.prog 208:=ent Tryz.func208 (by kernel_rfl) rfl
theorem Oj:Ent Tryz.prog 151:=ent Tryz.func151 (by kernel_rfl) rfl
theorem DY:Ent Tryz.prog 102:=ent Tryz.func102 (by kernel_rfl) rfl
theorem KQ:Ent Tryz.prog 135:=ent Tryz.func135 (by kernel_rfl) rfl
theorem HD:Iw Tryz.prog 117 [.bool false,.slice none 0 0]:=FJ (by kernel_rfl)
theorem Hd:Ex Tryz.prog 117 2=true:=by kernel_rfl
theorem EF:agg Tryz.prog 117 2=true:=by kernel_rfl
theorem PN:Ent Tryz.prog 137:=ent Tryz.func137 (by kernel_rfl) rfl
theorem Bn:Iw Tryz.prog 119 [.bool false,.slice none 0 0,.int .i64 0]:=FJ (by kernel_rfl)
theorem Bt:fieldAt Tryz.prog 117 1=some 1:=by kernel_rfl
theorem Dk:Mn Tryz.prog 115=true:=by kernel_rfl
theorem As:Tryz.prog.underlying 115=some (.slice 179):=by kernel_rfl
theorem BO:Ex Tryz.prog 119 3=true:=by kernel_rfl
theorem en_213:Ent Tryz.prog 213:=ent Tryz.func213 (by kernel_rfl) rfl
theorem En:fieldAt Tryz.prog 117 0=some 0:=by kernel_rfl
theorem NE:Ent Tryz.prog 204:=ent Tryz.func204 (by kernel_rfl) rfl
theorem Ms:Ent Tryz.prog 152:=ent Tryz.func152 (by kernel_rfl) rfl
theorem BS:fieldAt Tryz.prog 119 0=some 0:=by kernel_rfl
theorem CZ:fieldAt Tryz.prog 119 1=some 2:=by kernel_rfl
theorem Pt:Ent Tryz.prog 201:=ent Tryz.func201 (by kernel_rfl) rfl
theorem sz_115:Ex Tryz.prog 115 1=true:=by kernel_rfl
theorem en_202:Ent Tryz.prog 202:=ent Tryz.func202 (by kernel_rfl) rfl
theorem Ly:Ent Tryz.prog 136:=ent Tryz.func136 (by kernel_rfl) rfl
theorem en_60:Ent Tryz.prog 60:=ent Tryz.func60 (by kernel_rfl) rfl
theorem en_153:Ent Tryz.prog 153:=ent Tryz.func153 (by kernel_rfl) rfl
theorem Rr:Ent Tryz.prog 154:=ent Tryz.func154 (by kernel_rfl) rfl
theorem en_62:Ent Tryz.prog 62:=ent Tryz.func62 (by kernel_rfl) rfl
theorem LC:Ent Tryz.prog 38:=ent Tryz.func38 (by kernel_rfl) rfl
theorem Au:Ex Tryz.prog 179 1=true:=by kernel_rfl
theorem Bg:Mn Tryz.prog 179=true:=by kernel_rfl
theorem NQ:Ent Tryz.prog 64:=ent Tryz.func64 (by kernel_rfl) rfl
theorem MP:Ent Tryz.prog 120:=ent Tryz.func120 (by kernel_rfl) rfl
theorem Ip:Ent Tryz.prog 138:=ent Tryz.func138 (by kernel_rfl) rfl
theorem QF:Ent Tryz.prog 139:=ent Tryz.func139 (by kernel_rfl) rfl
theorem KT:Ent Tryz.prog 121:=ent Tryz.func121 (by kernel_rfl) rfl
theorem Mq:Ent Tryz.prog 184:=ent Tryz.func184 (by kernel_rfl) rfl
theorem Kj:Ent Tryz.prog 185:=ent Tryz.func185 (by kernel_rfl) rfl
theorem Pw:Ent Tryz.prog 203:=ent Tryz.func203 (by kernel_rfl) rfl
theorem Nr:Ent Tryz.prog 191:=ent Tryz.func191 (by kernel_rfl) rfl
theorem HM:Iw Tryz.prog 179 [.int .u32 0]:=FJ (by kernel_rfl)
theorem NB:Ent Tryz.prog 205:=ent Tryz.func205 (by kernel_rfl) rfl
theorem en_206:Ent Tryz.prog 206:=ent Tryz.func206 (by kernel_rfl) rfl
theorem PA:Ent Tryz.prog 207:=ent Tryz.func207 (by kernel_rfl) rfl
theorem KP:Ent Tryz.prog 140:=ent Tryz.func140 (by kernel_rfl) rfl
theorem RJ:Ent Tryz.prog 55:=ent Tryz.func55 (by kernel_rfl) rfl
theorem Cv:Iw Tryz.prog 29 [.bool false,.slice none 0 0,.int .i64 0,.bool false,.slice none 0 0,.int .i64 0]:=FJ (by kernel_rfl)
theorem Bp:Ex Tryz.prog 29 6=true:=by kernel_rfl
theorem MZ:Ent Tryz.prog 97:=ent Tryz.func97 (by kernel_rfl) rfl
theorem Jn:Tryz.prog.underlying 230=some (.slice 29):=by kernel_rfl
theorem en_182:Ent Tryz.prog 182:=ent Tryz.func182 (by kernel_rfl) rfl
theorem Kf:Ent Tryz.prog 103:=ent Tryz.func103 (by kernel_rfl) rfl
theorem QU:Ent Tryz.prog 187:=ent Tryz.func187 (by kernel_rfl) rfl
theorem Mu:Ent Tryz.prog 122:=ent Tryz.func122 (by kernel_rfl) rfl
theorem en_192:Ent Tryz.prog 192:=ent Tryz.func192 (by kernel_rfl) rfl
theorem PP:Ent Tryz.prog 115:=ent Tryz.func115 (by kernel_rfl) rfl
theorem Qv:Tryz.prog.underlying 4=some .bool:=by kernel_rfl
theorem en_196:Ent Tryz.prog 196:=ent Tryz.func196 (by kernel_rfl) rfl
theorem en_195:Ent Tryz.prog 195:=ent Tryz.func195 (by kernel_rfl) rfl
theorem en_194:Ent Tryz.prog 194:=ent Tryz.func194 (by kernel_rfl) rfl
theorem PF:Ent Tryz.prog 124:=ent Tryz.func124 (by kernel_rfl) rfl
theorem HJ:Ent Tryz.prog 106:=ent Tryz.func106 (by kernel_rfl) rfl
theorem Pg:Ent Tryz.prog 65:=ent Tryz.func65 (by kernel_rfl) rfl
theorem It:Ent Tryz.prog 162:=ent Tryz.func162 (by kernel_rfl) rfl
theorem ER:Ent Tryz.prog 161:=ent Tryz.func161 (by kernel_rfl) rfl
theorem Rx:Iw Tryz.prog 121 [.bool false,.slice none 0 0,.int .i64 0,.bool false,.slice none 0 0,.int .i64 0]:=FJ (by kernel_rfl)
theorem QT:Ex Tryz.prog 121 6=true:=by kernel_rfl
theorem Kz:agg Tryz.prog 121 6=true:=by kernel_rfl
theorem IY:Ent Tryz.prog 163:=ent Tryz.func163 (by kernel_rfl) rfl
theorem QK:Iw Tryz.prog 124 [.pointer none]:=FJ (by kernel_rfl)
theorem QO:Ent Tryz.prog 104:=ent Tryz.func104 (by kernel_rfl) rfl
theorem Rn:Ent Tryz.prog 183:=ent Tryz.func183 (by kernel_rfl) rfl
theorem QR:Ent Tryz.prog 241:=ent Tryz.func241 (by kernel_rfl) rfl
theorem en_193:Ent Tryz.prog 193:=ent Tryz.func193 (by kernel_rfl) rfl
theorem Oi:Ent Tryz.prog 117:=ent Tryz.func117 (by kernel_rfl) rfl
theorem Gp:Mn Tryz.prog 124=true:=by kernel_rfl
theorem OF:Tryz.prog.underlying 124=some (.pointer 121):=by kernel_rfl
theorem Qz:Ex Tryz.prog 124 1=true:=by kernel_rfl
theorem en_118:Ent Tryz.prog 118:=ent Tryz.func118 (by kernel_rfl) rfl
theorem IZ:Ent Tryz.prog 107:=ent Tryz.func107 (by kernel_rfl) rfl
theorem Qw:Ent Tryz.prog 116:=ent Tryz.func116 (by kernel_rfl) rfl
theorem Mk:Ent Tryz.prog 100:=ent Tryz.func100 (by kernel_rfl) rfl
theorem en_32:Ent Tryz.prog 32:=ent Tryz.func32 (by kernel_rfl) rfl
theorem en_144:Ent Tryz.prog 144:=ent Tryz.func144 (by kernel_rfl) rfl
theorem en_86:Ent Tryz.prog 86:=ent Tryz.func86 (by kernel_rfl) rfl
theorem OZ:Ent Tryz.prog 37:=ent Tryz.func37 (by kernel_rfl) rfl
theorem OS:Ent Tryz.prog 76:=ent Tryz.func76 (by kernel_rfl) rfl
theorem QN:Ent Tryz.prog 186:=ent Tryz.func186 (by kernel_rfl) rfl
theorem DX:Ent Tryz.prog 105:=ent Tryz.func105 (by kernel_rfl) rfl
theorem QP:Ent Tryz.prog 101:=ent Tryz.func101 (by kernel_rfl) rfl
theorem RH:Ent Tryz.prog 21:=ent Tryz.func21 (by kernel_rfl) rfl
theorem en_190:Ent Tryz.prog 190:=ent Tryz.func190 (by kernel_rfl) rfl
theorem Rz:Ent Tryz.prog 111:=ent Tryz.func111 (by kernel_rfl) rfl
theorem QH:Ent Tryz.prog 110:=ent Tryz.func110 (by kernel_rfl) rfl
theorem en_25:Ent Tryz.prog 25:=ent Tryz.func25 (by kernel_rfl) rfl
theorem Re:Ent Tryz.prog 15:=ent Tryz.func15 (by kernel_rfl) rfl
theorem en_131:Ent Tryz.prog 131:=ent Tryz.func131 (by kernel_rfl) rfl
theorem RI:Ent Tryz.prog 47:=ent Tryz.func47 (by kernel_rfl) rfl
theorem QG:Iw Tryz.prog 65 [.bool false,.slice none 0 0,.slice none 0 0]:=FJ (by kernel_rfl)
theorem Pa:Ex Tryz.prog 65 3=true:=by kernel_rfl
theorem Lb:agg Tryz.prog 65 3=true:=by kernel_rfl
theorem OH:fieldAt Tryz.prog 65 0=some 0:=by kernel_rfl
theorem Nh:fieldAt Tryz.prog 65 1=some 2:=by kernel_rfl
theorem Ry:Ent Tryz.prog 44:=ent Tryz.func44 (by kernel_rfl) rfl
theorem RR:Ent Tryz.prog 26:=ent Tryz.func26 (by kernel_rfl) rfl
theorem Qg:Ent Tryz.prog 28:=ent Tryz.func28 (by kernel_rfl) rfl
theorem en_125:Ent Tryz.prog 125:=ent Tryz.func125 (by kernel_rfl) rfl
theorem OB:Ent Tryz.prog 113:=ent Tryz.func113 (by kernel_rfl) rfl
theorem QI:Ent Tryz.prog 112:=ent Tryz.func112 (by kernel_rfl) rfl
theorem NV:Ent Tryz.prog 30:=ent Tryz.func30 (by kernel_rfl) rfl
theorem Ra:Ent Tryz.prog 114:=ent Tryz.func114 (by kernel_rfl) rfl
theorem RP:Ent Tryz.prog 31:=ent Tryz.func31 (by kernel_rfl) rfl
theorem RW:Ex Tryz.prog 3 1=true:=by kernel_rfl
theorem Nu:Ent Tryz.prog 155:=ent Tryz.func155 (by kernel_rfl) rfl
theorem PI:Tryz.prog.underlying 253=some (.slice 25):=by kernel_rfl
theorem en_270:Ent Tryz.prog 270:=ent Tryz.func270 (by kernel_rfl) rfl
theorem en_284:Ent Tryz.prog 284:=ent Tryz.func284 (by kernel_rfl) rfl
theorem en_269:Ent Tryz.prog 269:=ent Tryz.func269 (by kernel_rfl) rfl
theorem ni_274:PL Tryz.prog 274=true:=by kernel_rfl
theorem OC:Ent Tryz.prog 248:=ent Tryz.func248 (by kernel_rfl) rfl
theorem QC:Ent Tryz.prog 247:=ent Tryz.func247 (by kernel_rfl) rfl
theorem OR:Iw Tryz.prog 23 [.slice none 0 0]:=FJ (by kernel_rfl)
theorem Kx:Tryz.prog.underlying 260=some (.slice 23):=by kernel_rfl
theorem Mv:Ex Tryz.prog 23 1=true:=by kernel_rfl
theorem PH:Ent Tryz.prog 255:=ent Tryz.func255 (by kernel_rfl) rfl
theorem QY:Ent Tryz.prog 274:=ent Tryz.func274 (by kernel_rfl) rfl
theorem Ru:Ent Tryz.prog 254:=ent Tryz.func254 (by kernel_rfl) rfl
theorem ni_258:PL Tryz.prog 258=true:=by kernel_rfl
theorem IT:Ent Tryz.prog 224:=ent Tryz.func224 (by kernel_rfl) rfl
theorem Kv:Ent Tryz.prog 223:=ent Tryz.func223 (by kernel_rfl) rfl
theorem OI:Ent Tryz.prog 226:=ent Tryz.func226 (by kernel_rfl) rfl
theorem AQ:Tryz.prog.underlying 228=some (.slice 179):=by kernel_rfl
theorem en_256:Ent Tryz.prog 256:=ent Tryz.func256 (by kernel_rfl) rfl
theorem Kt:Ent Tryz.prog 225:=ent Tryz.func225 (by kernel_rfl) rfl
theorem MK:Ent Tryz.prog 222:=ent Tryz.func222 (by kernel_rfl) rfl
theorem QV:Ent Tryz.prog 158:=ent Tryz.func158 (by kernel_rfl) rfl
theorem Kw:Ent Tryz.prog 218:=ent Tryz.func218 (by kernel_rfl) rfl
theorem PO:Ent Tryz.prog 249:=ent Tryz.func249 (by kernel_rfl) rfl
theorem RC:Ent Tryz.prog 219:=ent Tryz.func219 (by kernel_rfl) rfl
theorem Np:fieldAt Tryz.prog 252 0=some 0:=by kernel_rfl
theorem Pm:Mn Tryz.prog 249=true:=by kernel_rfl
theorem Pv:Ent Tryz.prog 251:=ent Tryz.func251 (by kernel_rfl) rfl
theorem en_252:Ent Tryz.prog 252:=ent Tryz.func252 (by kernel_rfl) rfl
theorem QL:Ent Tryz.prog 250:=ent Tryz.func250 (by kernel_rfl) rfl
theorem Pn:Ent Tryz.prog 242:=ent Tryz.func242 (by kernel_rfl) rfl
theorem en_220:Ent Tryz.prog 220:=ent Tryz.func220 (by kernel_rfl) rfl
theorem en_253:Ent Tryz.prog 253:=ent Tryz.func253 (by kernel_rfl) rfl
theorem en_221:Ent Tryz.prog 221:=ent Tryz.func221 (by kernel_rfl) rfl
theorem Po:Ent Tryz.prog 217:=ent Tryz.func217 (by kernel_rfl) rfl
theorem Pj:Ent Tryz.prog 157:=ent Tryz.func157 (by kernel_rfl) rfl
theorem Pz:Ent Tryz.prog 216:=ent Tryz.func216 (by kernel_rfl) rfl
theorem Rh:Ent Tryz.prog 215:=ent Tryz.func215 (by kernel_rfl) rfl
theorem en_246:Ent Tryz.prog 246:=ent Tryz.func246 (by kernel_rfl) rfl
theorem en_214:Ent Tryz.prog 214:=ent Tryz.func214 (by kernel_rfl) rfl
theorem en_156:Ent Tryz.prog 156:=ent Tryz.func156 (by kernel_rfl) rfl
theorem en_63:Ent Tryz.prog 63:=ent Tryz.func63 (by kernel_rfl) rfl
theorem en_244:Ent Tryz.prog 244:=ent Tryz.func244 (by kernel_rfl) rfl
theorem en_243:Ent Tryz.prog 243:=ent Tryz.func243 (by kernel_rfl) rfl
theorem en_209:Ent Tryz.prog 209:=ent Tryz.func209 (by kernel_rfl) rfl
theorem en_141:Ent Tryz.prog 141:=ent Tryz.func141 (by kernel_rfl) rfl
theorem en_142:Ent Tryz.prog 142:=ent Tryz.func142 (by kernel_rfl) rfl
theorem en_33:Ent Tryz.prog 33:=ent Tryz.func33 (by kernel_rfl) rfl
theorem zt_3:Iw Tryz.prog 3 [.int .i64 0]:=FJ (by kernel_rfl)
theorem Rb:Ent Tryz.prog 119:=ent Tryz.func119 (by kernel_rfl) rfl
theorem en_41:Ent Tryz.prog 41:=ent Tryz.func41 (by kernel_rfl) rfl
theorem Rt:Ent Tryz.prog 164:=ent Tryz.func164 (by kernel_rfl) rfl
theorem en_74:Ent Tryz.prog 74:=ent Tryz.func74 (by kernel_rfl) rfl
theorem QB:Ent Tryz.prog 165:=ent Tryz.func165 (by kernel_rfl) rfl
theorem en_75:Ent Tryz.prog 75:=ent Tryz.func75 (by kernel_rfl) rfl
theorem zt_4:Iw Tryz.prog 4 [.bool false]:=FJ (by kernel_rfl)
theorem RE:Ex Tryz.prog 4 1=true:=by kernel_rfl
theorem Oz:Ent Tryz.prog 166:=ent Tryz.func166 (by kernel_rfl) rfl
theorem Qh:Ent Tryz.prog 77:=ent Tryz.func77 (by kernel_rfl) rfl
theorem RK:Ent Tryz.prog 35:=ent Tryz.func35 (by kernel_rfl) rfl
theorem RV:Ent Tryz.prog 88:=ent Tryz.func88 (by kernel_rfl) rfl
def FN (_w:World) (r:Bool) (v:Value):Prop:=v = .bool r
def Mm (w:World) (r:Ae) (v:Value):Prop:=∃(A1:Option Addr) (c1:Nat),v = .agg #[.bool r.Neg,.slice A1 (sz r.Abs) c1]∧RU w A1 c1 r.Abs
def Ob (w:World) (r:Ag × Int) (v:Value):Prop:=∃(A1:Option Addr) (c1:Nat),v = .tuple #[.agg #[.bool r.1.Man.Neg,.slice A1 (sz r.1.Man.Abs) c1,.int .i64 r.1.Exp],.int .i64 r.2]∧RU w A1 c1 r.1.Man.Abs
def Lc (_w:World) (_r:Unit) (v:Value):Prop:=v = .tuple #[]
def MI (w:World) (r:Ae) (v:Value):Prop:=∃(A1:Option Addr) (c1:Nat),v = .agg #[.bool r.Neg,.slice A1 (sz r.Abs) c1]∧RU w A1 c1 r.Abs
def IX (w:World) (r:An) (v:Value):Prop:=∃(A1:Option Addr) (c1:Nat),v = .agg #[.bool r.m.Neg,.slice A1 (sz r.m.Abs) c1,.int .i64 r.e]∧RU w A1 c1 r.m.Abs
def Oy (w:World) (r:Ag) (v:Value):Prop:=∃(A1:Option Addr) (c1:Nat),v = .agg #[.bool r.Man.Neg,.slice A1 (sz r.Man.Abs) c1,.int .i64 r.Exp]∧RU w A1 c1 r.Man.Abs
def KA (w:World) (r:Al) (v:Value):Prop:=∃(A1:Option Addr) (c1:Nat) (A2:Option Addr) (c2:Nat),v = .agg #[.bool r.Lo.Man.Neg,.slice A1 (sz r.Lo.Man.Abs) c1,.int .i64 r.Lo.Exp,.bool r.Hi.Man.Neg,.slice A2 (sz r.Hi.Man.Abs) c2,.int .i64 r.Hi.Exp]∧RU w A1 c1 r.Lo.Man.Abs∧RU w A2 c2 r.Hi.Man.Abs
def FC (w:World) (r:Al × Int) (v:Value):Prop:=∃(A1:Option Addr) (c1:Nat) (A2:Option Addr) (c2:Nat),v = .tuple #[.agg #[.bool r.1.Lo.Man.Neg,.slice A1 (sz r.1.Lo.Man.Abs) c1,.int .i64 r.1.Lo.Exp,.bool r.1.Hi.Man.Neg,.slice A2 (sz r.1.Hi.Man.Abs) c2,.int .i64 r.1.Hi.Exp],.int .i64 r.2]∧RU w A1 c1 r.1.Lo.Man.Abs∧RU w A2 c2 r.1.Hi.Man.Abs
def HO (_w:World) (r:Int) (v:Value):Prop:=v = .int .i64 r
def Qq (w:World) (r:Ap) (v:Value):Prop:=∃(A1:Option Addr) (c1:Nat) (A2:Option Addr) (c2:Nat),v = .agg #[.bool r.lo.m.Neg,.slice A1 (sz r.lo.m.Abs) c1,.int .i64 r.lo.e,.bool r.hi.m.Neg,.slice A2 (sz r.hi.m.Abs) c2,.int .i64 r.hi.e]∧RU w A1 c1 r.lo.m.Abs∧RU w A2 c2 r.hi.m.Abs
def Nc (w:World) (r:Nat × Nat) (v:Value):Prop:=∃(A1:Option Addr) (c1:Nat) (A2:Option Addr) (c2:Nat),v = .tuple #[.slice A1 (sz r.1) c1,.slice A2 (sz r.2) c2]∧RU w A1 c1 r.1∧RU w A2 c2 r.2
def NJ (w:World) (r:Nat) (v:Value):Prop:=∃(A1:Option Addr) (c1:Nat),v = .slice A1 (sz r) c1∧RU w A1 c1 r
def rep_65_33 (w:World) (r:Dt × Int) (v:Value):Prop:=∃(A1:Option Addr) (c1:Nat) (A2:Option Addr) (c2:Nat),v = .tuple #[.agg #[.bool r.1.Num.Neg,.slice A1 (sz r.1.Num.Abs) c1,.slice A2 (sz r.1.Den) c2],.int .i64 r.2]∧RU w A1 c1 r.1.Num.Abs∧RU w A2 c2 r.1.Den
def NP (w:World) (r:Ae × Int) (v:Value):Prop:=∃(A1:Option Addr) (c1:Nat),v = .tuple #[.agg #[.bool r.1.Neg,.slice A1 (sz r.1.Abs) c1],.int .i64 r.2]∧RU w A1 c1 r.1.Abs
def IJ (w:World) (r:Nat × Int) (v:Value):Prop:=∃(A1:Option Addr) (c1:Nat),v = .tuple #[.slice A1 (sz r.1) c1,.int .i64 r.2]∧RU w A1 c1 r.1
def KO (w:World) (r:Nat) (v:Value):Prop:=∃(A1:Option Addr) (c1:Nat),v = .slice A1 (sz r) c1∧RU w A1 c1 r
def rep_119_119 (w:World) (r:An × An) (v:Value):Prop:=∃(A1:Option Addr) (c1:Nat) (A2:Option Addr) (c2:Nat),v = .tuple #[.agg #[.bool r.1.m.Neg,.slice A1 (sz r.1.m.Abs) c1,.int .i64 r.1.e],.agg #[.bool r.2.m.Neg,.slice A2 (sz r.2.m.Abs) c2,.int .i64 r.2.e]]∧RU w A1 c1 r.1.m.Abs∧RU w A2 c2 r.2.m.Abs
def rep_3_33 (_w:World) (r:Int × Int) (v:Value):Prop:=v = .tuple #[.int .i64 r.1,.int .i64 r.2]
def rep_4_33 (_w:World) (r:Bool × Int) (v:Value):Prop:=v = .tuple #[.bool r.1,.int .i64 r.2]
def ME (_w:World) (r:Int) (v:Value):Prop:=v = .int .u64 r
def LX (w:World) (r:Nat) (v:Value):Prop:=∃(A1:Option Addr) (c1:Nat),v = .slice A1 (sz r) c1∧RU w A1 c1 r
def rep_228_228 (w:World) (r:Nat × Nat) (v:Value):Prop:=∃(A1:Option Addr) (c1:Nat) (A2:Option Addr) (c2:Nat),v = .tuple #[.slice A1 (sz r.1) c1,.slice A2 (sz r.2) c2]∧RU w A1 c1 r.1∧RU w A2 c2 r.2
abbrev BJ (x0:List Int):Option (Bool):=Lf.BJ x0
abbrev Ce (x0:List Int) (x1:Int):Option (Int):=Lf.Ce x0 x1
def CQ (x0:Int):Option (Nat):=(gd (0≤x0∧x0<18446744073709551616)).bind fun _=>some (x0.toNat)
abbrev Gv (x0:List Int):Option (Bool):=Lf.Gv x0
def De (x0:Nat):Option (Int):=(gd (sz x0<1073741824)).bind fun _=>some (Lf.tz x0:Int)
def CL (x0:Nat) (x1:Int):Option (Nat):=(gd (sz x0<1073741824∧0≤x1∧x1<9223372036854775808)).bind fun _=>some (x0/2^x1.toNat)
def Dr (x0:Nat):Option (Nat):=(gd (sz x0<1073741824)).bind fun _=>some (x0)
def BV (x0:Nat):Option (Int):=(gd (sz x0<1073741824)).bind fun _=>some (Lf.tz x0:Int)
def Cf (x0:Nat) (x1:Int):Option (Nat):=(gd (sz x0<1073741824∧0≤x1∧x1<9223372036854775808)).bind fun _=>some (x0/2^x1.toNat)
def BF (x0:Nat):Option (Int):=(gd (sz x0<1073741824)).bind fun _=>some (Lf.bl x0:Int)
def Bz (x0:Nat) (x1:Int):Option (Nat):=(gd (sz x0<1073741824∧0≤x1∧x1<34359738368)).bind fun _=>some (x0*2^x1.toNat)
def CC (x0:Nat) (x1:Nat):Option (Nat):=(gd (sz x0<1073741824∧sz x1<1073741824∧x1≤x0)).bind fun _=>some (x0 - x1)
def CJ (x0:Nat) (x1:Nat):Option (Int):=(gd (sz x0<1073741824∧sz x1<1073741824)).bind fun _=>some (Lf.cmpw x0 x1)
def Db (x0:Nat) (x1:Nat):Option (Nat):=(gd (sz x0<1073741824∧sz x1<1073741824)).bind fun _=>some (x0+x1)
def Du (x0:Nat) (x1:Nat):Option (Nat):=(gd (sz x0<1073741824∧sz x1<1073741824)).bind fun _=>some (x0*x1)
abbrev AV (x0:List Int) (x1:List Int):Option (Bool):=Lf.AV x0 x1
def Dy (x0:Nat) (x1:Nat):Option (Nat × Nat):=(gd (sz x0<1073741824∧sz x1<1073741824∧x1≠0)).bind fun _=>some (x0/x1,x0%x1)
def BD (x0:Nat) (x1:Int):Option (Nat):=(gd (sz x0<1073741824∧0≤x1∧x1<34359738368)).bind fun _=>some (x0*2^x1.toNat)
def Dz (x0:Nat) (x1:Nat):Option (Nat):=(gd (sz x0<1073741824∧sz x1<1073741824)).bind fun _=>some (x0+x1)
def CD (x0:Nat) (x1:Nat):Option (Int):=(gd (sz x0<1073741824∧sz x1<1073741824)).bind fun _=>some (Lf.sgnc x0 x1)
def Eh (x0:Nat) (x1:Nat):Option (Nat):=(gd (sz x0<1073741824∧sz x1<1073741824∧x1≤x0)).bind fun _=>some (x0 - x1)
def Cg (x0:Nat) (x1:Nat):Option (sorobanref01_DividedT):=(gd (sz x0<1073741824∧sz x1<1073741824∧x1≠0)).bind fun _=>some (⟨x0/x1,x0%x1⟩)
def Fb (x0:Nat) (x1:Nat):Option (Nat):=(gd (sz x0<1073741824∧sz x1<1073741824)).bind fun _=>some (x0*x1)
def DM (x0:Nat):Option (Int):=(gd (sz x0<1073741824)).bind fun _=>some (Lf.bl x0:Int)
def CW (x0:Nat) (x1:Int):Option (Nat):=(gd (sz x0<1073741824∧0≤x1∧x1<34359738368)).bind fun _=>some (x0*2^x1.toNat)
def Fi (x0:Nat):Option (Nat):=(gd (sz x0<1073741824)).bind fun _=>some (x0)
def Ea (x0:Nat) (x1:Int):Option (Nat):=(gd (sz x0<1073741824∧0≤x1∧x1<9223372036854775808)).bind fun _=>some (x0/2^x1.toNat)
def EP (x0:Nat) (x1:Nat):Option (Int):=(gd (sz x0<1073741824∧sz x1<1073741824)).bind fun _=>some (Lf.sgnc x0 x1)
def EQ (x0:Nat) (x1:Nat):Option (Nat):=(gd (sz x0<1073741824∧sz x1<1073741824∧x1≤x0)).bind fun _=>some (x0 - x1)
def EO (x0:Nat) (x1:Nat):Option (Nat):=(gd (sz x0<1073741824∧sz x1<1073741824)).bind fun _=>some (x0+x1)
def Ct (x0:Nat):Option (Nat):=(gd (sz x0<1073741824)).bind fun _=>some (x0)
def Cr (x0:Nat) (x1:Nat):Option (Nat × Nat):=(gd (sz x0<1073741824∧sz x1<1073741824∧x1≠0)).bind fun _=>some (x0/x1,x0%x1)
def CM (x0:Ay):Option (Bool):=
 (BJ x0.Abs).bind fun r0a=>
 (if r0a=true then (if ¬(x0.Neg=true) then some (true) else some (decide (0<(x0.Abs.length:Int)))).bind fun m1a=>
 some (m1a) else some (false)).bind fun m2a=>
 some m2a
def Cy (x0:Aq):Option (Bool):=
 (CM x0.Man).bind fun r0a=>
 if ¬(r0a=true) then some false else if (x0.Man.Abs.length:Int)=0 then some (decide (x0.Exp=0)) else (Ce x0.Man.Abs 0).bind fun r1a=>
 (if r1a=1 then some (decide ((-1048576)≤x0.Exp)) else some (false)).bind fun m2a=>
 (if m2a=true then some (decide (x0.Exp≤1048576)) else some (false)).bind fun m3a=>
 some m3a
def AO (x0:Bool) (x1:Nat):Option (Ae):=
 (if x0=true then some (decide (0<(sz x1:Int))) else some (false)).bind fun m0a=>
 some (⟨m0a,x1⟩:Ae)
def Gy (x0:Int):Option (Ae):=
 if x0<0 then (CQ (wu64 (wi64 (-x0)))).bind fun r0a=>
 (AO true r0a).bind fun r1a=>
 some r1a else (CQ (wu64 x0)).bind fun r2a=>
 (AO false r2a).bind fun r3a=>
 some r3a
def Dd (x0:Ay):Option (Bool):=
 (Gv x0.Abs).bind fun r0a=>
 (if r0a=true then (if ¬(x0.Neg=true) then some (true) else some (decide (0<(x0.Abs.length:Int)))).bind fun m1a=>
 some (m1a) else some (false)).bind fun m2a=>
 some m2a
def BB (x0:Bool) (x1:Int):M (Unit):=
 if ¬(x0=true) then some (.error x1) else some (.ok ())
def IG (x0:Ae):Option (Ae):=
 some x0
def CO (x0:Ae) (x1:Int):Option (An):=
 if (sz x0.Abs:Int)=0 then some (⟨(⟨false,0⟩:Ae),0⟩:An) else (De x0.Abs).bind fun r0a=>
 (CL x0.Abs r0a).bind fun r1a=>
 some (⟨(⟨x0.Neg,r1a⟩:Ae),(wi64 (x1+r0a))⟩:An)
def Jb (x0:Ae):Option (Ae):=
 (if x0.Neg=true then some (decide (0<(sz x0.Abs:Int))) else some (false)).bind fun m0a=>
 some (⟨m0a,x0.Abs⟩:Ae)
def EG (x0:An):M (Ag):=
 (if (sz x0.m.Abs:Int)≤1024 then some (decide (x0.e≤1048576)) else some (false)).bind fun m0a=>
 (if m0a=true then some (decide ((-1048576)≤x0.e)) else some (false)).bind fun m1a=>
 mb (BB m1a 2) fun r4a=>
 (Dr x0.m.Abs).bind fun r2a=>
 (Jb (⟨x0.m.Neg,r2a⟩:Ae)).bind fun r3a=>
 some (.ok (⟨r3a,x0.e⟩:Ag))
def MG (x0:Ay) (x1:Int):M (Ag × Int):=
 (Dd x0).bind fun r0a=>
 mb (BB r0a 1) fun r5a=>
 if (x0.Abs.length:Int)=0 then some (.ok ((⟨(⟨false,0⟩:Ae),0⟩:Ag),0)) else (toN x0.Abs).bind fun m1a=>
 (IG (⟨x0.Neg,m1a⟩:Ae)).bind fun r2a=>
 (CO r2a (max (-1099511627776) (min x1 1099511627776))).bind fun r3a=>
 mb (EG r3a) fun r4a=>
 some (.ok (r4a,0))
def LI (x0:Ay) (x1:Int):Option (Ag × Int):=(MG x0 x1).bind fun q=>match q with | .ok r=>some r | .error n=>some ((⟨(⟨false,0⟩:Ae),0⟩:Ag),n)
def EH (x0:Ae) (x1:Int):Option (Ag):=
 if (sz x0.Abs:Int)=0 then some (⟨(⟨false,0⟩:Ae),0⟩:Ag) else (BV x0.Abs).bind fun r0a=>
 (Cf x0.Abs r0a).bind fun r1a=>
 some (⟨(⟨x0.Neg,r1a⟩:Ae),(wi64 (x1+r0a))⟩:Ag)
def Bl (x0:Int) (x1:Int):Option (Ag):=
 (Gy x0).bind fun r7=>
 (EH r7 x1).bind fun r0a=>
 some r0a
def Ed (x0:Aq):Option (Bool):=
 (Dd x0.Man).bind fun r0a=>
 if ¬(r0a=true) then some false else if (x0.Man.Abs.length:Int)=0 then some (decide (x0.Exp=0)) else (nth x0.Man.Abs 0).bind fun u1a=>
 (if (u1a%2)=1 then some (decide (x0.Exp≤1048576)) else some (false)).bind fun m2a=>
 (if m2a=true then some (decide ((-1048576)≤x0.Exp)) else some (false)).bind fun m3a=>
 some m3a
def Gs (x0_0:Aq):M (Unit):=
 (Ed x0_0).bind fun r0a=>
 mb (BB r0a 1) fun r1a=>
 some (.ok ())
def EN (x0:Int):M (Unit):=
 (if 1≤x0 then some (decide (x0≤4096)) else some (false)).bind fun m8=>
 mb (BB m8 1) fun r0a=>
 some (.ok ())
def JK (x0:Int):M (Unit):=
 (if 1≤x0 then some (decide (x0≤5)) else some (false)).bind fun m8=>
 mb (BB m8 1) fun r0a=>
 some (.ok ())
def FU (x0:Ag):Option (An):=
 (IG x0.Man).bind fun r0a=>
 some (⟨r0a,x0.Exp⟩:An)
def DW (x0:Ae) (x1:Int):Option (Ae):=
 (Bz x0.Abs x1).bind fun r0a=>
 some (⟨x0.Neg,r0a⟩:Ae)
def JB (x0:Bool) (x1:Int) (x2:Bool) (x3:Bool) (x4:Int):Option (Bool):=
 if x0=true then some false else if x4=1 then (if 0<x1 then some (true) else (if x1=0 then some (x2) else some (false)).bind fun m0a=>
 some (m0a)).bind fun m1a=>
 some m1a else if x4=2 then some (decide (0≤x1)) else if x4=4 then some (decide (¬(x3=true))) else if x4=5 then some x3 else some false
def AR (x0:An) (x1:Int) (x2:Int) (x3:Bool):Option (An):=
 (BF x0.m.Abs).bind fun r1a=>
 (if (wi64 (r1a - x1))≤0 then some (decide (¬(x3=true))) else some (false)).bind fun m6a=>
 if m6a=true then (CO x0.m x0.e).bind fun r7a=>
 some r7a else (if (wi64 (r1a - x1))<2 then (DW x0.m (wi64 (2 - (wi64 (r1a - x1))))).bind fun r3a=>
 some (2,r3a.Neg,r3a.Abs,(wi64 ((wi64 (x0.e - 2))+(wi64 (r1a - x1))))) else some ((wi64 (r1a - x1)),x0.m.Neg,x0.m.Abs,x0.e)).bind fun m0a=>
 (CL m0a.2.2.1 m0a.1).bind fun r2a=>
 (Bz r2a m0a.1).bind fun r8a=>
 (CC m0a.2.2.1 r8a).bind fun r4a=>
 (if (sz r4a:Int)=0 then some (decide (¬(x3=true))) else some (false)).bind fun m9a=>
 (Bz 1 (wi64 (m0a.1 - 1))).bind fun r0b=>
 (CJ r4a r0b).bind fun r5a=>
 (if r5a=0 then some (x3) else some (false)).bind fun m1b=>
 (if m1b=true then some (1) else some (r5a)).bind fun m2b=>
 (if 0<(sz r2a:Int) then (nth (limbs r2a) 0).bind fun u3b=>
 some (decide ((u3b%2)=1)) else some (false)).bind fun m4b=>
 (JB m9a m2b m4b m0a.2.1 x2).bind fun r5b=>
 (if r5b=true then (Db r2a 1).bind fun r6b=>
 some (r6b) else some (r2a)).bind fun m7b=>
 (CO (⟨m0a.2.1,m7b⟩:Ae) (wi64 (m0a.2.2.2+m0a.1))).bind fun r8b=>
 some r8b
def Me (x0:Aq) (x1:Int) (x2:Int):M (Ag × Int):=
 mb (Gs x0) fun r4a=>
 mb (EN x1) fun r5a=>
 mb (JK x2) fun r6a=>
 (toN x0.Man.Abs).bind fun m0a=>
 (FU (⟨(⟨x0.Man.Neg,m0a⟩:Ae),x0.Exp⟩:Ag)).bind fun r1a=>
 (AR r1a x1 x2 false).bind fun r2a=>
 mb (EG r2a) fun r3a=>
 some (.ok (r3a,0))
def JW (x0:Aq) (x1:Int) (x2:Int):Option (Ag × Int):=(Me x0 x1 x2).bind fun q=>match q with | .ok r=>some r | .error n=>some ((⟨(⟨false,0⟩:Ae),0⟩:Ag),n)
def Ck (x0:Int) (x1:Int):Option (Al):=
 (Bl x0 0).bind fun r7=>
 (Bl x1 0).bind fun r0a=>
 some (⟨r7,r0a⟩:Al)
def IC (x0:Ae):Option (Int):=
 if (sz x0.Abs:Int)=0 then some 0 else if x0.Neg=true then some (-1) else some 1
def Bo (x0:An):Option (Int):=
 (IC x0.m).bind fun r0a=>
 some r0a
def Fv (x0:Int) (x1:Int):Option (Int):=
 if x0<x1 then some (-1) else if x1<x0 then some 1 else some 0
def DA (x0:An):Option (Int):=
 (BF x0.m.Abs).bind fun r0a=>
 some (wi64 ((wi64 (r0a - 1))+x0.e))
def GX (x0:Ae):Option (Ae):=
 some (⟨(decide (¬(x0.Neg=true))),x0.Abs⟩:Ae)
def Em (x0:An):Option (An):=
 (GX x0.m).bind fun r0a=>
 some (⟨r0a,x0.e⟩:An)
def Fl (x0:Ae) (x1:Ae):Option (Ae):=
 if x0.Neg=x1.Neg then (Db x0.Abs x1.Abs).bind fun r0a=>
 some (⟨x0.Neg,r0a⟩:Ae) else (CJ x0.Abs x1.Abs).bind fun r1a=>
 if 0≤r1a then (CC x0.Abs x1.Abs).bind fun r2a=>
 some (⟨x0.Neg,r2a⟩:Ae) else (CC x1.Abs x0.Abs).bind fun r3a=>
 some (⟨x1.Neg,r3a⟩:Ae)
def DR (x0:Ae) (x1:Ae) (x2:Int):Option (An):=
 (Fl x0 x1).bind fun r0a=>
 (CO r0a x2).bind fun r1a=>
 some r1a
def Bu (x0:An) (x1:An):Option (An):=
 (if (sz x0.m.Abs:Int)=0 then some (x1.e) else some (min x0.e x1.e)).bind fun m5a=>
 (if (sz x1.m.Abs:Int)=0 then some (x0.e) else some (m5a)).bind fun m0a=>
 (if 0<(sz x0.m.Abs:Int) then (DW x0.m (wi64 (x0.e - m0a))).bind fun r1a=>
 some (r1a.Neg,r1a.Abs) else some (x0.m.Neg,x0.m.Abs)).bind fun m2a=>
 (if 0<(sz x1.m.Abs:Int) then (DW x1.m (wi64 (x1.e - m0a))).bind fun r3a=>
 some (r3a.Neg,r3a.Abs) else some (x1.m.Neg,x1.m.Abs)).bind fun m4a=>
 (DR (⟨m2a.1,m2a.2⟩:Ae) (⟨m4a.1,m4a.2⟩:Ae) m0a).bind fun r6a=>
 some r6a
def Ca (x0:An) (x1:An):Option (An):=
 (Bu x0 x1).bind fun r0a=>
 some r0a
def AH (x0:An) (x1:An):Option (Int):=
 (Bo x0).bind fun r0a=>
 (Bo x1).bind fun r1a=>
 (if ¬r0a=r1a then some (true) else some (decide (r0a=0))).bind fun m4a=>
 if m4a=true then (Fv r0a r1a).bind fun r5a=>
 some r5a else (DA x0).bind fun r2a=>
 (DA x1).bind fun r3a=>
 if ¬r2a=r3a then (Bo x0).bind fun r6a=>
 (Fv r2a r3a).bind fun r7a=>
 some (wi64 (r6a*r7a)) else (Em x1).bind fun r8a=>
 (Ca x0 r8a).bind fun r9a=>
 (Bo r9a).bind fun r0b=>
 some r0b
def Br (x0:Ao):Option (Bool):=
 (Ed x0.Lo).bind fun r0a=>
 if r0a=true then (Ed x0.Hi).bind fun r1a=>
 if r1a=true then (toN x0.Lo.Man.Abs).bind fun m2a=>
 (FU (⟨(⟨x0.Lo.Man.Neg,m2a⟩:Ae),x0.Lo.Exp⟩:Ag)).bind fun r3a=>
 (toN x0.Hi.Man.Abs).bind fun m4a=>
 (FU (⟨(⟨x0.Hi.Man.Neg,m4a⟩:Ae),x0.Hi.Exp⟩:Ag)).bind fun r5a=>
 (AH r3a r5a).bind fun r6a=>
 some (decide (r6a≤0)) else some false else some false
def BC (x0_0:Ao) (x0_1:Ao):M (Unit):=
 (Br x0_0).bind fun r0a=>
 mb (BB r0a 1) fun r2a=>
 (Br x0_1).bind fun r1a=>
 mb (BB r1a 1) fun r3a=>
 some (.ok ())
def Cj (x0:Al):Option (Ap):=
 (FU x0.Lo).bind fun r0a=>
 (FU x0.Hi).bind fun r1a=>
 some (⟨r0a,r1a⟩:Ap)
def Je (x0:Ae) (x1:Ae):Option (Ae):=
 (Du x0.Abs x1.Abs).bind fun r0a=>
 some (⟨(decide (¬x0.Neg=x1.Neg)),r0a⟩:Ae)
def DH (x0:An) (x1:An):Option (An):=
 (Je x0.m x1.m).bind fun r0a=>
 (CO r0a (wi64 (x0.e+x1.e))).bind fun r1a=>
 some r1a
def Im (x0:Ap) (x1:Int):Option (Ap):=
 (AR x0.lo x1 5 false).bind fun r0a=>
 (AR x0.hi x1 4 false).bind fun r1a=>
 some (⟨r0a,r1a⟩:Ap)
def Co (x0:Ap):M (Al):=
 mb (EG x0.lo) fun r0a=>
 mb (EG x0.hi) fun r1a=>
 some (.ok (⟨r0a,r1a⟩:Al))
def KZ (x0:Ap) (x1:Ap) (x2:Int) (x y:An):Option Ap:=
 (DH x y).bind fun r0a=>
 (AH r0a r0a).bind fun r1a=>
 (if r1a<0 then some () else some ()).bind fun m3a=>
 (AH r0a r0a).bind fun r2a=>
 (if 0<r2a then some () else some ()).bind fun m4a=>
 some (⟨r0a,r0a⟩:Ap)
def Hp (x0:Ap) (x1:Ap) (x2:Int) (sr:Ap) (x y:An):Option Ap:=
 (DH x y).bind fun r0a=>
 (AH r0a sr.lo).bind fun r3a=>
 (if r3a<0 then some (r0a.m.Neg,r0a.m.Abs,r0a.e) else some (sr.lo.m.Neg,sr.lo.m.Abs,sr.lo.e)).bind fun m1a=>
 (AH r0a sr.hi).bind fun r4a=>
 (if 0<r4a then some (r0a.m.Neg,r0a.m.Abs,r0a.e) else some (sr.hi.m.Neg,sr.hi.m.Abs,sr.hi.e)).bind fun m2a=>
 some (⟨(⟨(⟨m1a.1,m1a.2.1⟩:Ae),m1a.2.2⟩:An),(⟨(⟨m2a.1,m2a.2.1⟩:Ae),m2a.2.2⟩:An)⟩:Ap)
def Ke (x0:Ap) (x1:Ap) (x2:Int):M (Al):=
 (KZ x0 x1 x2 x0.lo x1.lo).bind fun s0a=>
 (Hp x0 x1 x2 s0a x0.lo x1.hi).bind fun s1a=>
 (Hp x0 x1 x2 s1a x0.hi x1.lo).bind fun s2a=>
 (Hp x0 x1 x2 s2a x0.hi x1.hi).bind fun s3a=>
 (Im s3a x2).bind fun r4a=>
 mb (Co r4a) fun r5a=>
 some (.ok r5a)
def GH (x0:Ao) (x1:Ao) (x2:Int):M (Al × Int):=
 mb (BC x0 x1) fun r7a=>
 mb (EN x2) fun r8a=>
 (toN x0.Lo.Man.Abs).bind fun m0a=>
 (toN x0.Hi.Man.Abs).bind fun m1a=>
 (Cj (⟨(⟨(⟨x0.Lo.Man.Neg,m0a⟩:Ae),x0.Lo.Exp⟩:Ag),(⟨(⟨x0.Hi.Man.Neg,m1a⟩:Ae),x0.Hi.Exp⟩:Ag)⟩:Al)).bind fun r2a=>
 (toN x1.Lo.Man.Abs).bind fun m3a=>
 (toN x1.Hi.Man.Abs).bind fun m4a=>
 (Cj (⟨(⟨(⟨x1.Lo.Man.Neg,m3a⟩:Ae),x1.Lo.Exp⟩:Ag),(⟨(⟨x1.Hi.Man.Neg,m4a⟩:Ae),x1.Hi.Exp⟩:Ag)⟩:Al)).bind fun r5a=>
 mb (Ke r2a r5a x2) fun r6a=>
 some (.ok (r6a,0))
def EV (x0:Ao) (x1:Ao) (x2:Int):Option (Al × Int):=(GH x0 x1 x2).bind fun q=>match q with | .ok r=>some r | .error n=>some ((⟨(⟨(⟨false,0⟩:Ae),0⟩:Ag),(⟨(⟨false,0⟩:Ae),0⟩:Ag)⟩:Al),n)
def KM (x0:Ao) (x1:Ao) (x2:Int):Option (Al × Int):=
 (EV x0 x1 x2).bind fun r0a=>
 some (r0a.1,r0a.2)
def EK (x0:Ae) (x1:Ae):Option (Bool):=
 (if x0.Neg=x1.Neg then (AV (limbs x0.Abs) (limbs x1.Abs)).bind fun r0a=>
 some (r0a) else some (false)).bind fun m1a=>
 some m1a
def CH (x0:Ag) (x1:Ag):Option (Bool):=
 (EK x0.Man x1.Man).bind fun r0a=>
 (if r0a=true then some (decide (x0.Exp=x1.Exp)) else some (false)).bind fun m1a=>
 some m1a
def Bw (x0:Al) (x1:Al):Option (Bool):=
 (CH x0.Lo x1.Lo).bind fun r0a=>
 (if r0a=true then (CH x0.Hi x1.Hi).bind fun r1a=>
 some (r1a) else some (false)).bind fun m2a=>
 some m2a
def Gq (x0:An) (x1:An) (x2:Int) (x3:Int):Option (An):=
 (Bo x0).bind fun r3a=>
 if r3a=0 then some (⟨(⟨false,0⟩:Ae),0⟩:An) else (BF x1.m.Abs).bind fun r0a=>
 (BF x0.m.Abs).bind fun r1a=>
 (Bz x0.m.Abs (max 0 (wi64 ((wi64 ((wi64 (x2+2))+r0a)) - r1a)))).bind fun r4a=>
 (Dy r4a x1.m.Abs).bind fun r2a=>
 (AR (⟨(⟨(decide (¬x0.m.Neg=x1.m.Neg)),r2a.1⟩:Ae),(wi64 ((wi64 (x0.e - x1.e)) - (max 0 (wi64 ((wi64 ((wi64 (x2+2))+r0a)) - r1a)))))⟩:An) x2 x3 (decide (0<(sz r2a.2:Int)))).bind fun r5a=>
 some r5a
def LJ (x0:Ap) (x1:Ap) (x2:Int) (x y:An):Option Ap:=
 (Gq x y x2 5).bind fun r0a=>
 (Gq x y x2 4).bind fun r1a=>
 (AH r0a r0a).bind fun r2a=>
 (if r2a<0 then some () else some ()).bind fun m4a=>
 (AH r1a r1a).bind fun r3a=>
 (if 0<r3a then some () else some ()).bind fun m5a=>
 some (⟨r0a,r1a⟩:Ap)
def HN (x0:Ap) (x1:Ap) (x2:Int) (sr:Ap) (x y:An):Option Ap:=
 (Gq x y x2 5).bind fun r0a=>
 (Gq x y x2 4).bind fun r1a=>
 (AH r0a sr.lo).bind fun r4a=>
 (if r4a<0 then some (r0a.m.Neg,r0a.m.Abs,r0a.e) else some (sr.lo.m.Neg,sr.lo.m.Abs,sr.lo.e)).bind fun m2a=>
 (AH r1a sr.hi).bind fun r5a=>
 (if 0<r5a then some (r1a.m.Neg,r1a.m.Abs,r1a.e) else some (sr.hi.m.Neg,sr.hi.m.Abs,sr.hi.e)).bind fun m3a=>
 some (⟨(⟨(⟨m2a.1,m2a.2.1⟩:Ae),m2a.2.2⟩:An),(⟨(⟨m3a.1,m3a.2.1⟩:Ae),m3a.2.2⟩:An)⟩:Ap)
def Ku (x0:Ap) (x1:Ap) (x2:Int):M (Al):=
 (Bo x1.lo).bind fun r0a=>
 (Bo x1.hi).bind fun r1a=>
 mb (BB (decide (0<(wi64 (r0a*r1a)))) 8) fun r7a=>
 (LJ x0 x1 x2 x0.lo x1.lo).bind fun s2a=>
 (HN x0 x1 x2 s2a x0.lo x1.hi).bind fun s3a=>
 (HN x0 x1 x2 s3a x0.hi x1.lo).bind fun s4a=>
 (HN x0 x1 x2 s4a x0.hi x1.hi).bind fun s5a=>
 mb (Co s5a) fun r6a=>
 some (.ok r6a)
def GQ (x0:Ao) (x1:Ao) (x2:Int):M (Al × Int):=
 mb (BC x0 x1) fun r7a=>
 mb (EN x2) fun r8a=>
 (toN x0.Lo.Man.Abs).bind fun m0a=>
 (toN x0.Hi.Man.Abs).bind fun m1a=>
 (Cj (⟨(⟨(⟨x0.Lo.Man.Neg,m0a⟩:Ae),x0.Lo.Exp⟩:Ag),(⟨(⟨x0.Hi.Man.Neg,m1a⟩:Ae),x0.Hi.Exp⟩:Ag)⟩:Al)).bind fun r2a=>
 (toN x1.Lo.Man.Abs).bind fun m3a=>
 (toN x1.Hi.Man.Abs).bind fun m4a=>
 (Cj (⟨(⟨(⟨x1.Lo.Man.Neg,m3a⟩:Ae),x1.Lo.Exp⟩:Ag),(⟨(⟨x1.Hi.Man.Neg,m4a⟩:Ae),x1.Hi.Exp⟩:Ag)⟩:Al)).bind fun r5a=>
 mb (Ku r2a r5a x2) fun r6a=>
 some (.ok (r6a,0))
def Fo (x0:Ao) (x1:Ao) (x2:Int):Option (Al × Int):=(GQ x0 x1 x2).bind fun q=>match q with | .ok r=>some r | .error n=>some ((⟨(⟨(⟨false,0⟩:Ae),0⟩:Ag),(⟨(⟨false,0⟩:Ae),0⟩:Ag)⟩:Al),n)
def Ko (x0:Ao) (x1:Ao) (x2:Int):Option (Al × Int):=
 (Fo x0 x1 x2).bind fun r0a=>
 some (r0a.1,r0a.2)
def HH (x0:Nat):Nat→Nat→Option (Nat × Nat)
 | 0,_=>none
 | n2a+1,v0a=>
 (Dy x0 v0a).bind fun r3a=>
 (Db v0a r3a.1).bind fun r4a=>
 (CL r4a 1).bind fun r1a=>
 (CJ r1a v0a).bind fun r5a=>
 if 0≤r5a then (Du v0a v0a).bind fun r6a=>
 (CC x0 r6a).bind fun r7a=>
 some (v0a,r7a) else HH x0 n2a r1a
def JJ (x0:Nat):Option (Nat × Nat):=
 if (sz x0:Int)=0 then some (0,0) else (BF x0).bind fun r0a=>
 (Bz 1 (wi64 ((wi64 (r0a+1)).tdiv 2))).bind fun r1a=>
 HH x0 18446744073709551616 r1a
def Km (x0:An) (x1:Int) (x2:Int):Option (An):=
 (Bo x0).bind fun r3a=>
 if r3a=0 then some (⟨(⟨false,0⟩:Ae),0⟩:An) else (BF x0.m.Abs).bind fun r0a=>
 (if ¬((wi64 (x0.e - (max 0 (wi64 ((wi64 ((wi64 (2*x1))+4)) - r0a)))))%2)=0 then some (wi64 ((max 0 (wi64 ((wi64 ((wi64 (2*x1))+4)) - r0a)))+1)) else some (max 0 (wi64 ((wi64 ((wi64 (2*x1))+4)) - r0a)))).bind fun m1a=>
 (Bz x0.m.Abs m1a).bind fun r4a=>
 (JJ r4a).bind fun r2a=>
 (AR (⟨(⟨false,r2a.1⟩:Ae),(wi64 ((wi64 (x0.e - m1a)).tdiv 2))⟩:An) x1 x2 (decide (0<(sz r2a.2:Int)))).bind fun r5a=>
 some r5a
def Ky (x0:Ap) (x1:Ap) (x2:Int):M (Al):=
 (Bo x0.lo).bind fun r0a=>
 mb (BB (decide (0≤r0a)) 3) fun r4a=>
 (Km x0.lo x2 5).bind fun r1a=>
 (Km x0.hi x2 4).bind fun r2a=>
 mb (Co (⟨r1a,r2a⟩:Ap)) fun r3a=>
 some (.ok r3a)
def GU (x0:Ao) (x1:Ao) (x2:Int):M (Al × Int):=
 mb (BC x0 x1) fun r7a=>
 mb (EN x2) fun r8a=>
 (toN x0.Lo.Man.Abs).bind fun m0a=>
 (toN x0.Hi.Man.Abs).bind fun m1a=>
 (Cj (⟨(⟨(⟨x0.Lo.Man.Neg,m0a⟩:Ae),x0.Lo.Exp⟩:Ag),(⟨(⟨x0.Hi.Man.Neg,m1a⟩:Ae),x0.Hi.Exp⟩:Ag)⟩:Al)).bind fun r2a=>
 (toN x1.Lo.Man.Abs).bind fun m3a=>
 (toN x1.Hi.Man.Abs).bind fun m4a=>
 (Cj (⟨(⟨(⟨x1.Lo.Man.Neg,m3a⟩:Ae),x1.Lo.Exp⟩:Ag),(⟨(⟨x1.Hi.Man.Neg,m4a⟩:Ae),x1.Hi.Exp⟩:Ag)⟩:Al)).bind fun r5a=>
 mb (Ky r2a r5a x2) fun r6a=>
 some (.ok (r6a,0))
def FB (x0:Ao) (x1:Ao) (x2:Int):Option (Al × Int):=(GU x0 x1 x2).bind fun q=>match q with | .ok r=>some r | .error n=>some ((⟨(⟨(⟨false,0⟩:Ae),0⟩:Ag),(⟨(⟨false,0⟩:Ae),0⟩:Ag)⟩:Al),n)
def LG (x0:Ao) (x1:Int):Option (Al × Int):=
 (FB x0 x0 x1).bind fun r0a=>
 some (r0a.1,r0a.2)
def DU:Option (Bool):=
 (Gy 12).bind fun r3=>
 (LI (⟨r3.Neg,(limbs r3.Abs)⟩:Ay) 3).bind fun r9a=>
 (Bl 11 0).bind fun r7a=>
 (JW (⟨(⟨r7a.Man.Neg,(limbs r7a.Man.Abs)⟩:Ay),r7a.Exp⟩:Aq) 3 1).bind fun r0b=>
 (Bl (-11) 0).bind fun r8a=>
 (JW (⟨(⟨r8a.Man.Neg,(limbs r8a.Man.Abs)⟩:Ay),r8a.Exp⟩:Aq) 2 5).bind fun r1b=>
 (Ck (-1) 2).bind fun r0a=>
 (Ck (-3) 5).bind fun r1a=>
 (KM (⟨(⟨(⟨r0a.Lo.Man.Neg,(limbs r0a.Lo.Man.Abs)⟩:Ay),r0a.Lo.Exp⟩:Aq),(⟨(⟨r0a.Hi.Man.Neg,(limbs r0a.Hi.Man.Abs)⟩:Ay),r0a.Hi.Exp⟩:Aq)⟩:Ao) (⟨(⟨(⟨r1a.Lo.Man.Neg,(limbs r1a.Lo.Man.Abs)⟩:Ay),r1a.Lo.Exp⟩:Aq),(⟨(⟨r1a.Hi.Man.Neg,(limbs r1a.Hi.Man.Abs)⟩:Ay),r1a.Hi.Exp⟩:Aq)⟩:Ao) 8).bind fun r2b=>
 (if ¬r9a.2=0 then some (true) else some (decide (¬r0b.2=0))).bind fun m5b=>
 (if m5b=true then some (true) else some (decide (¬r1b.2=0))).bind fun m6b=>
 (if m6b=true then some (true) else some (decide (¬r2b.2=0))).bind fun m7b=>
 if m7b=true then some false else (Bl 3 5).bind fun r8b=>
 (CH r9a.1 r8b).bind fun r9b=>
 if ¬(r9b=true) then some false else (Bl 12 0).bind fun r0c=>
 (CH r0b.1 r0c).bind fun r1c=>
 if ¬(r1c=true) then some false else (Bl (-12) 0).bind fun r2c=>
 (CH r1b.1 r2c).bind fun r3c=>
 if ¬(r3c=true) then some false else (Ck (-6) 10).bind fun r4c=>
 (Bw r2b.1 r4c).bind fun r5c=>
 if ¬(r5c=true) then some false else (Ck 1 1).bind fun r2a=>
 (Ck 3 3).bind fun r3a=>
 (Ko (⟨(⟨(⟨r2a.Lo.Man.Neg,(limbs r2a.Lo.Man.Abs)⟩:Ay),r2a.Lo.Exp⟩:Aq),(⟨(⟨r2a.Hi.Man.Neg,(limbs r2a.Hi.Man.Abs)⟩:Ay),r2a.Hi.Exp⟩:Aq)⟩:Ao) (⟨(⟨(⟨r3a.Lo.Man.Neg,(limbs r3a.Lo.Man.Abs)⟩:Ay),r3a.Lo.Exp⟩:Aq),(⟨(⟨r3a.Hi.Man.Neg,(limbs r3a.Hi.Man.Abs)⟩:Ay),r3a.Hi.Exp⟩:Aq)⟩:Ao) 4).bind fun r3b=>
 (Ck 1 1).bind fun r4a=>
 (Ck (-1) 1).bind fun r5a=>
 (Ko (⟨(⟨(⟨r4a.Lo.Man.Neg,(limbs r4a.Lo.Man.Abs)⟩:Ay),r4a.Lo.Exp⟩:Aq),(⟨(⟨r4a.Hi.Man.Neg,(limbs r4a.Hi.Man.Abs)⟩:Ay),r4a.Hi.Exp⟩:Aq)⟩:Ao) (⟨(⟨(⟨r5a.Lo.Man.Neg,(limbs r5a.Lo.Man.Abs)⟩:Ay),r5a.Lo.Exp⟩:Aq),(⟨(⟨r5a.Hi.Man.Neg,(limbs r5a.Hi.Man.Abs)⟩:Ay),r5a.Hi.Exp⟩:Aq)⟩:Ao) 4).bind fun r6c=>
 (Ck 2 2).bind fun r6a=>
 (LG (⟨(⟨(⟨r6a.Lo.Man.Neg,(limbs r6a.Lo.Man.Abs)⟩:Ay),r6a.Lo.Exp⟩:Aq),(⟨(⟨r6a.Hi.Man.Neg,(limbs r6a.Hi.Man.Abs)⟩:Ay),r6a.Hi.Exp⟩:Aq)⟩:Ao) 4).bind fun r4b=>
 (Bl 5 (-4)).bind fun r7c=>
 (Bl 11 (-5)).bind fun r8c=>
 (Bl 11 (-3)).bind fun r9c=>
 (Bl 3 (-1)).bind fun r0d=>
 (if r3b.2=0 then some (decide (r6c.2=8)) else some (false)).bind fun m1d=>
 (if m1d=true then some (decide (r4b.2=0)) else some (false)).bind fun m2d=>
 (if m2d=true then (Bw r3b.1 (⟨r7c,r8c⟩:Al)).bind fun r3d=>
 some (r3d) else some (false)).bind fun m4d=>
 (if m4d=true then (Bw r4b.1 (⟨r9c,r0d⟩:Al)).bind fun r5d=>
 some (r5d) else some (false)).bind fun m6d=>
 some m6d
def Gj (x0:Ae):Option (Ae):=
 (AO (decide (¬(x0.Neg=true))) x0.Abs).bind fun r0a=>
 some r0a
def Cx (x0:Ag):Option (Ag):=
 (Gj x0.Man).bind fun r0a=>
 some (⟨r0a,x0.Exp⟩:Ag)
def Hk (x0:Ae) (x1:Int):Option (Ae):=
 (BD x0.Abs x1).bind fun r0a=>
 some (⟨x0.Neg,r0a⟩:Ae)
def Ji (x0:Ae) (x1:Ae):Option (Ae):=
 if x0.Neg=x1.Neg then (Dz x0.Abs x1.Abs).bind fun r0a=>
 (AO x0.Neg r0a).bind fun r1a=>
 some r1a else (CD x0.Abs x1.Abs).bind fun r2a=>
 if 0≤r2a then (Eh x0.Abs x1.Abs).bind fun r3a=>
 (AO x0.Neg r3a).bind fun r4a=>
 some r4a else (Eh x1.Abs x0.Abs).bind fun r5a=>
 (AO x1.Neg r5a).bind fun r6a=>
 some r6a
def Cc (x0:Ag) (x1:Ag):Option (Ag):=
 if (sz x0.Man.Abs:Int)=0 then some x1 else if (sz x1.Man.Abs:Int)=0 then some x0 else (Hk x0.Man (wi64 (x0.Exp - (min x0.Exp x1.Exp)))).bind fun r0a=>
 (Hk x1.Man (wi64 (x1.Exp - (min x0.Exp x1.Exp)))).bind fun r1a=>
 (Ji r0a r1a).bind fun r2a=>
 (EH r2a (min x0.Exp x1.Exp)).bind fun r3a=>
 some r3a
def GL (x0:Ag):Option (Int):=
 if (sz x0.Man.Abs:Int)=0 then some 0 else if x0.Man.Neg=true then some (-1) else some 1
def Bi (x0:Ag) (x1:Ag):Option (Int):=
 (Cx x1).bind fun r0a=>
 (Cc x0 r0a).bind fun r1a=>
 (GL r1a).bind fun r2a=>
 some r2a
def Gl (x0:Ao):Option (Bool):=
 (Cy x0.Lo).bind fun r0a=>
 (if r0a=true then (Cy x0.Hi).bind fun r1a=>
 some (r1a) else some (false)).bind fun m2a=>
 (if m2a=true then (toN x0.Lo.Man.Abs).bind fun m3a=>
 (toN x0.Hi.Man.Abs).bind fun m4a=>
 (Bi (⟨(⟨x0.Lo.Man.Neg,m3a⟩:Ae),x0.Lo.Exp⟩:Ag) (⟨(⟨x0.Hi.Man.Neg,m4a⟩:Ae),x0.Hi.Exp⟩:Ag)).bind fun r5a=>
 some (decide (r5a≤0)) else some (false)).bind fun m6a=>
 some m6a
def DB (x0:Nat) (x1:Nat):Nat→Nat→Nat→Option (Nat)
 | 0,_,_=>none
 | n2a+1,v1a,v0a=>
 if 0<(sz v0a:Int) then (Cg v1a v0a).bind fun r3a=>
 DB x0 x1 n2a v0a r3a.R else some (v1a)
def IF (x0:Nat) (x1:Nat):Option (Nat):=
 (DB x0 x1 18446744073709551616 x0 x1).bind fun m0a=>
 some m0a
def CT:Option (Nat):=
 some 1
def GC (x0:Ae) (x1:Nat):Option (Dt):=
 (IF x0.Abs x1).bind fun r0a=>
 (CT).bind fun r1a=>
 (AV (limbs r0a) (limbs r1a)).bind fun r2a=>
 if r2a=true then some (⟨x0,x1⟩:Dt) else (Cg x0.Abs r0a).bind fun r3a=>
 (AO x0.Neg r3a.Q).bind fun r4a=>
 (Cg x1 r0a).bind fun r5a=>
 some (⟨r4a,r5a.Q⟩:Dt)
def Gk (x0:Ae) (x1:Ae):Option (Ae):=
 (Fb x0.Abs x1.Abs).bind fun r0a=>
 (AO (decide (¬x0.Neg=x1.Neg)) r0a).bind fun r1a=>
 some r1a
def Hx (x0:Ae) (x1:Ae):Option (Int):=
 if ¬x0.Neg=x1.Neg then if x0.Neg=true then some (-1) else some 1 else if x0.Neg=true then (CD x0.Abs x1.Abs).bind fun r0a=>
 some (wi64 (-r0a)) else (CD x0.Abs x1.Abs).bind fun r1a=>
 some r1a
def DF (x0:Dt) (x1:Dt):Option (Int):=
 (AO false x1.Den).bind fun r0a=>
 (Gk x0.Num r0a).bind fun r1a=>
 (AO false x0.Den).bind fun r2a=>
 (Gk x1.Num r2a).bind fun r3a=>
 (Hx r1a r3a).bind fun r4a=>
 some r4a
def Hg (x0:Nat) (x1:Nat) (x2:Nat) (x3:Bool) (x4:Int):Option (Nat):=
 if (sz x1:Int)=0 then some x0 else (if x4=4 then some (decide (¬(x3=true))) else some (false)).bind fun m1a=>
 (if m1a=true then some (true) else (if x4=5 then some (x3) else some (false)).bind fun m2a=>
 some (m2a)).bind fun m3a=>
 (if x4=1 then some (true) else some (decide (x4=2))).bind fun m4a=>
 (if m4a=true then (Dz x1 x1).bind fun r5a=>
 (CD r5a x2).bind fun r0a=>
 (if 0<r0a then some (true) else (if r0a=0 then (if x4=2 then some (true) else (if 0<(sz x0:Int) then (nth (limbs x0) 0).bind fun u6a=>
 some (decide ((u6a.tmod 2)=1)) else some (false)).bind fun m7a=>
 some (m7a)).bind fun m8a=>
 some (m8a) else some (false)).bind fun m9a=>
 some (m9a)).bind fun m0b=>
 some (m0b) else some (m3a)).bind fun m1b=>
 if m1b=true then (CT).bind fun r2b=>
 (Dz x0 r2b).bind fun r3b=>
 some r3b else some x0
def Iq (x0:Nat) (x1:Nat) (x2:Nat) (x3:Bool) (x4:Int) (x5:Int):Option (Ag):=
 (Hg x0 x1 x2 x3 x4).bind fun r0a=>
 (AO x3 r0a).bind fun r1a=>
 (EH r1a x5).bind fun r2a=>
 some r2a
def CR (x0:Ag) (x1:Int) (x2:Int):Option (Ag):=
 (DM x0.Man.Abs).bind fun r0a=>
 if (wi64 (r0a - x1))≤0 then some x0 else (CT).bind fun r3a=>
 (BD r3a (wi64 (r0a - x1))).bind fun r1a=>
 (Cg x0.Man.Abs r1a).bind fun r2a=>
 (Iq r2a.Q r2a.R r1a x0.Man.Neg x2 (wi64 (x0.Exp+(wi64 (r0a - x1))))).bind fun r4a=>
 some r4a
def CB (x0:Aq):Option (Bool):=
 (if (x0.Man.Abs.length:Int)≤60 then (if (-3000)≤x0.Exp then some (decide (x0.Exp≤3000)) else some (false)).bind fun m0a=>
 (if m0a=true then some (true) else (Cy x0).bind fun r1a=>
 some (decide (¬(r1a=true)))).bind fun m2a=>
 some (m2a) else some (false)).bind fun m3a=>
 some m3a
def Dg (x0:Ao):Option (Bool):=
 (CB x0.Lo).bind fun r0a=>
 (if r0a=true then (CB x0.Hi).bind fun r1a=>
 some (r1a) else some (false)).bind fun m2a=>
 some m2a
def Hb (x0:Al) (x1:Int):Option (Al):=
 (CR x0.Lo x1 5).bind fun r0a=>
 (CR x0.Hi x1 4).bind fun r1a=>
 some (⟨r0a,r1a⟩:Al)
def GK (x0:Al) (x1:Al) (x2:Int):Option (Al):=
 (Cc x0.Lo x1.Lo).bind fun r0a=>
 (Cc x0.Hi x1.Hi).bind fun r1a=>
 (Hb (⟨r0a,r1a⟩:Al) x2).bind fun r2a=>
 some r2a
def Ch (x0:Al):Option (Al):=
 (Cx x0.Hi).bind fun r0a=>
 (Cx x0.Lo).bind fun r1a=>
 some (⟨r0a,r1a⟩:Al)
def Jz (x0:An) (x1:An):Option (Bool):=
 (Bo x0).bind fun r0a=>
 (if r0a=0 then some (true) else (Bo x1).bind fun r1a=>
 some (decide (r1a=0))).bind fun m2a=>
 if m2a=true then some true else (DA x0).bind fun r3a=>
 (DA x1).bind fun r4a=>
 some (decide ((wi64 ((max r3a r4a) - (min x0.e x1.e)))≤32770))
def HP (x0:An) (x1:An) (x2:Int) (x3:Int):Option (An):=
 (Jz x0 x1).bind fun r3a=>
 if r3a=true then (Ca x0 x1).bind fun r4a=>
 (AR r4a x2 x3 false).bind fun r5a=>
 some r5a else (DA x0).bind fun r6a=>
 (DA x1).bind fun r7a=>
 (if r6a<r7a then some (x1.m.Neg,x1.m.Abs,x1.e,x0.m.Neg,x0.m.Abs,x0.e) else some (x0.m.Neg,x0.m.Abs,x0.e,x1.m.Neg,x1.m.Abs,x1.e)).bind fun m0a=>
 (BF m0a.2.1).bind fun r1a=>
 (Bz m0a.2.1 (max 0 (wi64 ((wi64 (x2+4)) - r1a)))).bind fun r2a=>
 (DA (⟨(⟨m0a.2.2.2.1,m0a.2.2.2.2.1⟩:Ae),m0a.2.2.2.2.2⟩:An)).bind fun r8a=>
 if (wi64 ((wi64 (m0a.2.2.1 - (max 0 (wi64 ((wi64 (x2+4)) - r1a))))) - 1))≤r8a then (Ca (⟨(⟨m0a.1,r2a⟩:Ae),(wi64 (m0a.2.2.1 - (max 0 (wi64 ((wi64 (x2+4)) - r1a)))))⟩:An) (⟨(⟨m0a.2.2.2.1,m0a.2.2.2.2.1⟩:Ae),m0a.2.2.2.2.2⟩:An)).bind fun r9a=>
 (AR r9a x2 x3 false).bind fun r0b=>
 some r0b else if m0a.1=m0a.2.2.2.1 then (AR (⟨(⟨m0a.1,r2a⟩:Ae),(wi64 (m0a.2.2.1 - (max 0 (wi64 ((wi64 (x2+4)) - r1a)))))⟩:An) x2 x3 true).bind fun r1b=>
 some r1b else (CC r2a 1).bind fun r2b=>
 (AR (⟨(⟨m0a.1,r2b⟩:Ae),(wi64 (m0a.2.2.1 - (max 0 (wi64 ((wi64 (x2+4)) - r1a)))))⟩:An) x2 x3 true).bind fun r3b=>
 some r3b
def GE (x0:Ap) (x1:Ap) (x2:Int):M (Al):=
 (HP x0.lo x1.lo x2 5).bind fun r0a=>
 (HP x0.hi x1.hi x2 4).bind fun r1a=>
 mb (Co (⟨r0a,r1a⟩:Ap)) fun r2a=>
 some (.ok r2a)
def DE (x0:Ao) (x1:Ao) (x2:Int):M (Al × Int):=
 mb (BC x0 x1) fun r7a=>
 mb (EN x2) fun r8a=>
 (toN x0.Lo.Man.Abs).bind fun m0a=>
 (toN x0.Hi.Man.Abs).bind fun m1a=>
 (Cj (⟨(⟨(⟨x0.Lo.Man.Neg,m0a⟩:Ae),x0.Lo.Exp⟩:Ag),(⟨(⟨x0.Hi.Man.Neg,m1a⟩:Ae),x0.Hi.Exp⟩:Ag)⟩:Al)).bind fun r2a=>
 (toN x1.Lo.Man.Abs).bind fun m3a=>
 (toN x1.Hi.Man.Abs).bind fun m4a=>
 (Cj (⟨(⟨(⟨x1.Lo.Man.Neg,m3a⟩:Ae),x1.Lo.Exp⟩:Ag),(⟨(⟨x1.Hi.Man.Neg,m4a⟩:Ae),x1.Hi.Exp⟩:Ag)⟩:Al)).bind fun r5a=>
 mb (GE r2a r5a x2) fun r6a=>
 some (.ok (r6a,0))
def CS (x0:Ao) (x1:Ao) (x2:Int):Option (Al × Int):=(DE x0 x1 x2).bind fun q=>match q with | .ok r=>some r | .error n=>some ((⟨(⟨(⟨false,0⟩:Ae),0⟩:Ag),(⟨(⟨false,0⟩:Ae),0⟩:Ag)⟩:Al),n)
def Gw (x0:Ao) (x1:Ao) (x2:Int):Option (Al × Int):=
 (CS x0 x1 x2).bind fun r0a=>
 some (r0a.1,r0a.2)
def Gd (x0:Ap) (x1:Ap) (x2:Int):M (Al):=
 (Em x1.hi).bind fun r0a=>
 (HP x0.lo r0a x2 5).bind fun r1a=>
 (Em x1.lo).bind fun r2a=>
 (HP x0.hi r2a x2 4).bind fun r3a=>
 mb (Co (⟨r1a,r3a⟩:Ap)) fun r4a=>
 some (.ok r4a)
def Ds (x0:Ao) (x1:Ao) (x2:Int):M (Al × Int):=
 mb (BC x0 x1) fun r7a=>
 mb (EN x2) fun r8a=>
 (toN x0.Lo.Man.Abs).bind fun m0a=>
 (toN x0.Hi.Man.Abs).bind fun m1a=>
 (Cj (⟨(⟨(⟨x0.Lo.Man.Neg,m0a⟩:Ae),x0.Lo.Exp⟩:Ag),(⟨(⟨x0.Hi.Man.Neg,m1a⟩:Ae),x0.Hi.Exp⟩:Ag)⟩:Al)).bind fun r2a=>
 (toN x1.Lo.Man.Abs).bind fun m3a=>
 (toN x1.Hi.Man.Abs).bind fun m4a=>
 (Cj (⟨(⟨(⟨x1.Lo.Man.Neg,m3a⟩:Ae),x1.Lo.Exp⟩:Ag),(⟨(⟨x1.Hi.Man.Neg,m4a⟩:Ae),x1.Hi.Exp⟩:Ag)⟩:Al)).bind fun r5a=>
 mb (Gd r2a r5a x2) fun r6a=>
 some (.ok (r6a,0))
def CK (x0:Ao) (x1:Ao) (x2:Int):Option (Al × Int):=(Ds x0 x1 x2).bind fun q=>match q with | .ok r=>some r | .error n=>some ((⟨(⟨(⟨false,0⟩:Ae),0⟩:Ag),(⟨(⟨false,0⟩:Ae),0⟩:Ag)⟩:Al),n)
def GB (x0:Ao) (x1:Ao) (x2:Int):Option (Al × Int):=
 (CK x0 x1 x2).bind fun r0a=>
 some (r0a.1,r0a.2)
def Hs (x0_0:Aq) (x0_1:Aq):M (Unit):=
 (Ed x0_0).bind fun r0a=>
 mb (BB r0a 1) fun r2a=>
 (Ed x0_1).bind fun r1a=>
 mb (BB r1a 1) fun r3a=>
 some (.ok ())
def Ia (x0:Ae):Option (Bool):=
 (Dd (⟨x0.Neg,(limbs x0.Abs)⟩:Ay)).bind fun r0a=>
 some (decide (¬(r0a=true)))
def BE (x0_0:Ae):Option (Int):=
 (Ia x0_0).bind fun r0a=>
 if r0a=true then some 0 else some (-1)
def Bs (x0_0:Ae):Option (Bool):=
 (BE x0_0).bind fun r7=>
 some (decide (0≤r7))
def JU (x0:Bool) (x1:Int):M (Unit):=
 if ¬(x0=true) then some (.error x1) else some (.ok ())
def Gt (x0_0:Ae):M (Unit):=
 (Bs x0_0).bind fun r5=>
 mb (JU (decide (¬(r5=true))) 1) fun r0a=>
 some (.ok ())
def GD (x0:Nat):Option (Bool):=
 (Gv (limbs x0)).bind fun r6=>
 some (decide (¬(r6=true)))
def Cz (x0_0:Nat):Option (Int):=
 (GD x0_0).bind fun r0a=>
 if r0a=true then some 0 else some (-1)
def BZ (x0_0:Nat):Option (Bool):=
 (Cz x0_0).bind fun r7=>
 some (decide (0≤r7))
def FH (x0:Bool) (x1:Int):M (Unit):=
 if ¬(x0=true) then some (.error x1) else some (.ok ())
def GT (x0_0:Nat):M (Unit):=
 (BZ x0_0).bind fun r5=>
 mb (FH (decide (¬(r5=true))) 1) fun r0a=>
 some (.ok ())
def Gz (x0:Nat):M (Nat):=
 mb (FH (decide ((sz x0:Int)≤1024)) 2) fun r7=>
 (Fi x0).bind fun r0a=>
 some (.ok r0a)
def Mg (x0:Nat) (x1:Int):M (Nat × Int):=
 mb (GT x0) fun r2a=>
 mb (FH (decide (0≤x1)) 1) fun r3a=>
 if (sz x0:Int)=0 then some (.ok (0,0)) else mb (FH (decide (x1≤32768)) 2) fun r4a=>
 (CW x0 x1).bind fun r0a=>
 mb (Gz r0a) fun r1a=>
 some (.ok (r1a,0))
def JZ (x0:Nat) (x1:Int):Option (Nat × Int):=(Mg x0 x1).bind fun q=>match q with | .ok r=>some r | .error n=>none
def Gu (x0:Nat) (x1:Int):M (Nat):=
 mb (JU (decide (x1=0)) x1) fun r7=>
 some (.ok x0)
def NF (x0:Nat) (x1:Int):M (Nat × Int):=
 mb (GT x0) fun r2a=>
 mb (FH (decide (0≤x1)) 1) fun r3a=>
 (Ea x0 x1).bind fun r0a=>
 mb (Gz r0a) fun r1a=>
 some (.ok (r1a,0))
def LS (x0:Nat) (x1:Int):Option (Nat × Int):=(NF x0 x1).bind fun q=>match q with | .ok r=>some r | .error n=>none
def Cu (x0_0:Nat) (x0_1:Nat):Option (Int):=
 (GD x0_0).bind fun r0a=>
 if r0a=true then some 0 else (GD x0_1).bind fun r1a=>
 if r1a=true then some 1 else some (-1)
def BY (x0_0:Nat) (x0_1:Nat):Option (Bool):=
 (Cu x0_0 x0_1).bind fun r0a=>
 some (decide (0≤r0a))
def FZ (x0_0:Nat) (x0_1:Nat):M (Unit):=
 (BY x0_0 x0_1).bind fun r8=>
 mb (FH (decide (¬(r8=true))) 1) fun r0a=>
 some (.ok ())
def Lj (x0:Nat) (x1:Nat):M (Nat):=
 (EP x0 x1).bind fun r9=>
 mb (FH (decide (0≤r9)) 3) fun r1a=>
 (EQ x0 x1).bind fun r0a=>
 some (.ok r0a)
def Gn (x0:Nat) (x1:Nat):M (Nat × Int):=
 mb (FZ x0 x1) fun r2a=>
 mb (Lj x0 x1) fun r0a=>
 mb (Gz r0a) fun r1a=>
 some (.ok (r1a,0))
def EI (x0:Nat) (x1:Nat):Option (Nat × Int):=(Gn x0 x1).bind fun q=>match q with | .ok r=>some r | .error n=>none
def MV (x0:Nat) (x1:Nat):Option (Nat × Int):=
 (EI x0 x1).bind fun r9=>
 some (r9.1,r9.2)
def FF (x0:Nat) (x1:Nat):M (Nat × Int):=
 mb (FZ x0 x1) fun r2a=>
 (EO x0 x1).bind fun r0a=>
 mb (Gz r0a) fun r1a=>
 some (.ok (r1a,0))
def DL (x0:Nat) (x1:Nat):Option (Nat × Int):=(FF x0 x1).bind fun q=>match q with | .ok r=>some r | .error n=>none
def MS (x0:Nat) (x1:Nat):Option (Nat × Int):=
 (DL x0 x1).bind fun r9=>
 some (r9.1,r9.2)
def Gc (x0:Bool) (x1:Nat):Option (Ae):=
 (if x0=true then some (decide (0<(sz x1:Int))) else some (false)).bind fun m0a=>
 some (⟨m0a,x1⟩:Ae)
def HK (x0:Ae):Option (Ae):=
 (Ct x0.Abs).bind fun r0a=>
 some (⟨x0.Neg,r0a⟩:Ae)
def Fe (x0:Int) (x1:Ae):M (Ae):=
 if 0≤x0 then (JZ x1.Abs x0).bind fun r0a=>
 mb (Gu r0a.1 r0a.2) fun r5a=>
 (Gc x1.Neg r5a).bind fun r6a=>
 (HK r6a).bind fun r7a=>
 some (.ok r7a) else if ¬(x1.Neg=true) then (LS x1.Abs (wi64 (-(max x0 (-33792))))).bind fun r1a=>
 mb (Gu r1a.1 r1a.2) fun r8a=>
 (Gc false r8a).bind fun r9a=>
 (HK r9a).bind fun r0b=>
 some (.ok r0b) else (MV x1.Abs 1).bind fun r2a=>
 mb (Gu r2a.1 r2a.2) fun r1b=>
 (LS r1b (wi64 (-(max x0 (-33792))))).bind fun r3a=>
 mb (Gu r3a.1 r3a.2) fun r2b=>
 (MS r2b 1).bind fun r4a=>
 mb (Gu r4a.1 r4a.2) fun r3b=>
 (Gc true r3b).bind fun r4b=>
 (HK r4b).bind fun r5b=>
 some (.ok r5b)
def Ei (x0_0:Int) (x0_1:Ae) (x1_0:Ae):M (Ae × Int):=
 mb (Gt x1_0) fun r1a=>
 mb (Fe x0_0 x0_1) fun r0a=>
 some (.ok (r0a,0))
def Dc (x0_0:Int) (x0_1:Ae) (x1_0:Ae):Option (Ae × Int):=(Ei x0_0 x0_1 x1_0).bind fun q=>match q with | .ok r=>some r | .error n=>none
def Hv (x0:Ae) (x1:Int):Option (Ae × Int):=
 (Dc x1 x0 x0).bind fun r0a=>
 some (r0a.1,r0a.2)
def Kr (x0:Aq):M (Dt × Int):=
 mb (Gs x0) fun r6a=>
 if 0≤x0.Exp then (toN x0.Man.Abs).bind fun m2a=>
 (Hv (⟨x0.Man.Neg,m2a⟩:Ae) x0.Exp).bind fun r0a=>
 mb (BB (decide (r0a.2=0)) r0a.2) fun r7a=>
 (Ct r0a.1.Abs).bind fun r3a=>
 some (.ok ((⟨(⟨r0a.1.Neg,r3a⟩:Ae),1⟩:Dt),0)) else (JZ 1 (wi64 (-x0.Exp))).bind fun r1a=>
 mb (BB (decide (r1a.2=0)) r1a.2) fun r8a=>
 (toN x0.Man.Abs).bind fun m4a=>
 (Ct m4a).bind fun r5a=>
 some (.ok ((⟨(⟨x0.Man.Neg,r5a⟩:Ae),r1a.1⟩:Dt),0))
def IR (x0:Aq):Option (Dt × Int):=(Kr x0).bind fun q=>match q with | .ok r=>some r | .error n=>some ((⟨(⟨false,0⟩:Ae),0⟩:Dt),n)
def p_sorobanref03_Whole (x0:Ae):Option (Dt):=
 (CT).bind fun r0a=>
 some (⟨x0,r0a⟩:Dt)
def Fm (x0:Ag):Option (Dt):=
 if 0≤x0.Exp then (BD x0.Man.Abs x0.Exp).bind fun r0a=>
 (p_sorobanref03_Whole (⟨x0.Man.Neg,r0a⟩:Ae)).bind fun r1a=>
 some r1a else (CT).bind fun r2a=>
 (BD r2a (wi64 (0 - x0.Exp))).bind fun r3a=>
 (GC x0.Man r3a).bind fun r4a=>
 some r4a
def Fj (x0:Nat) (x1:Nat):Nat→Nat→Nat→Option (Nat)
 | 0,_,_=>none
 | n2a+1,v1a,v0a=>
 if 0<(sz v0a:Int) then (Cr v1a v0a).bind fun r3a=>
 Fj x0 x1 n2a v0a r3a.2 else some (v1a)
def JE (x0:Nat) (x1:Nat):Option (Nat):=
 (Fj x0 x1 18446744073709551616 x0 x1).bind fun m0a=>
 some m0a
def EE (x0:Nat) (x1:Nat):M (Nat × Int):=
 mb (FZ x0 x1) fun r2a=>
 (JE x0 x1).bind fun r0a=>
 mb (Gz r0a) fun r1a=>
 some (.ok (r1a,0))
def Dq (x0:Nat) (x1:Nat):Option (Nat × Int):=(EE x0 x1).bind fun q=>match q with | .ok r=>some r | .error n=>none
def KJ (x0:Nat) (x1:Nat):Option (Nat × Int):=
 (Dq x0 x1).bind fun r9=>
 some (r9.1,r9.2)
def FO (x0:GV):Option (Bool):=
 (Dd x0.Num).bind fun r1a=>
 (if ¬(r1a=true) then some (true) else (Gv x0.Den).bind fun r2a=>
 some (decide (¬(r2a=true)))).bind fun m3a=>
 (if m3a=true then some (true) else some (decide ((x0.Den.length:Int)=0))).bind fun m4a=>
 if m4a=true then some false else (toN x0.Num.Abs).bind fun m5a=>
 (toN x0.Den).bind fun m6a=>
 (KJ m5a m6a).bind fun r0a=>
 (if r0a.2=0 then some (decide ((sz r0a.1:Int)=1)) else some (false)).bind fun m7a=>
 (if m7a=true then (nth (limbs r0a.1) 0).bind fun u8a=>
 some (decide (u8a=1)) else some (false)).bind fun m9a=>
 some m9a
def IS (x0:Dt):Option (An × An):=
 (IG x0.Num).bind fun r0a=>
 (CO r0a 0).bind fun r1a=>
 (CO (⟨false,x0.Den⟩:Ae) 0).bind fun r2a=>
 some (r1a,r2a)
def LH (x0:Aq) (x1:Aq):M (Int × Int):=
 mb (Hs x0 x1) fun r5a=>
 (toN x0.Man.Abs).bind fun m0a=>
 (FU (⟨(⟨x0.Man.Neg,m0a⟩:Ae),x0.Exp⟩:Ag)).bind fun r1a=>
 (toN x1.Man.Abs).bind fun m2a=>
 (FU (⟨(⟨x1.Man.Neg,m2a⟩:Ae),x1.Exp⟩:Ag)).bind fun r3a=>
 (AH r1a r3a).bind fun r4a=>
 some (.ok (r4a,0))
def Jo (x0:Aq) (x1:Aq):Option (Int × Int):=(LH x0 x1).bind fun q=>match q with | .ok r=>some r | .error n=>some (0,n)
def ES (x0:Ag) (x1:Dt):Option (Int):=
 (Fm x0).bind fun r0a=>
 (DF r0a x1).bind fun r1a=>
 some r1a
def JR (x0:Al) (x1:Al):Option (Al):=
 (Bi x1.Lo x0.Lo).bind fun r2a=>
 (if r2a<0 then some (x1.Lo.Man.Neg,x1.Lo.Man.Abs,x1.Lo.Exp) else some (x0.Lo.Man.Neg,x0.Lo.Man.Abs,x0.Lo.Exp)).bind fun m0a=>
 (Bi x1.Hi x0.Hi).bind fun r3a=>
 (if 0<r3a then some (x1.Hi.Man.Neg,x1.Hi.Man.Abs,x1.Hi.Exp) else some (x0.Hi.Man.Neg,x0.Hi.Man.Abs,x0.Hi.Exp)).bind fun m1a=>
 some (⟨(⟨(⟨m0a.1,m0a.2.1⟩:Ae),m0a.2.2⟩:Ag),(⟨(⟨m1a.1,m1a.2.1⟩:Ae),m1a.2.2⟩:Ag)⟩:Al)
def GJ (x0:Al) (x1:Al):Option (HB):=
 (Bi x1.Lo x0.Lo).bind fun r2a=>
 (if 0<r2a then some (x1.Lo.Man.Neg,x1.Lo.Man.Abs,x1.Lo.Exp) else some (x0.Lo.Man.Neg,x0.Lo.Man.Abs,x0.Lo.Exp)).bind fun m0a=>
 (Bi x1.Hi x0.Hi).bind fun r3a=>
 (if r3a<0 then some (x1.Hi.Man.Neg,x1.Hi.Man.Abs,x1.Hi.Exp) else some (x0.Hi.Man.Neg,x0.Hi.Man.Abs,x0.Hi.Exp)).bind fun m1a=>
 (Bi (⟨(⟨m0a.1,m0a.2.1⟩:Ae),m0a.2.2⟩:Ag) (⟨(⟨m1a.1,m1a.2.1⟩:Ae),m1a.2.2⟩:Ag)).bind fun r4a=>
 if 0<r4a then some (⟨(⟨(⟨(⟨false,0⟩:Ae),0⟩:Ag),(⟨(⟨false,0⟩:Ae),0⟩:Ag)⟩:Al),5⟩:HB) else some (⟨(⟨(⟨(⟨m0a.1,m0a.2.1⟩:Ae),m0a.2.2⟩:Ag),(⟨(⟨m1a.1,m1a.2.1⟩:Ae),m1a.2.2⟩:Ag)⟩:Al),0⟩:HB)
def GN (x0_0:Ao):M (Unit):=
 (Br x0_0).bind fun r0a=>
 mb (BB r0a 1) fun r1a=>
 some (.ok ())
def Hu (x0:Ap) (x1:Ap) (x2:Int):M (Al):=
 (AH x1.lo x0.lo).bind fun r2a=>
 (if r2a<0 then some (x1.lo.m.Neg,x1.lo.m.Abs,x1.lo.e) else some (x0.lo.m.Neg,x0.lo.m.Abs,x0.lo.e)).bind fun m0a=>
 (AH x1.hi x0.hi).bind fun r3a=>
 (if 0<r3a then some (x1.hi.m.Neg,x1.hi.m.Abs,x1.hi.e) else some (x0.hi.m.Neg,x0.hi.m.Abs,x0.hi.e)).bind fun m1a=>
 mb (Co (⟨(⟨(⟨m0a.1,m0a.2.1⟩:Ae),m0a.2.2⟩:An),(⟨(⟨m1a.1,m1a.2.1⟩:Ae),m1a.2.2⟩:An)⟩:Ap)) fun r4a=>
 some (.ok r4a)
def EX (x0:Ao) (x1:Ao) (x2:Int):M (Al × Int):=
 mb (BC x0 x1) fun r7a=>
 mb (EN x2) fun r8a=>
 (toN x0.Lo.Man.Abs).bind fun m0a=>
 (toN x0.Hi.Man.Abs).bind fun m1a=>
 (Cj (⟨(⟨(⟨x0.Lo.Man.Neg,m0a⟩:Ae),x0.Lo.Exp⟩:Ag),(⟨(⟨x0.Hi.Man.Neg,m1a⟩:Ae),x0.Hi.Exp⟩:Ag)⟩:Al)).bind fun r2a=>
 (toN x1.Lo.Man.Abs).bind fun m3a=>
 (toN x1.Hi.Man.Abs).bind fun m4a=>
 (Cj (⟨(⟨(⟨x1.Lo.Man.Neg,m3a⟩:Ae),x1.Lo.Exp⟩:Ag),(⟨(⟨x1.Hi.Man.Neg,m4a⟩:Ae),x1.Hi.Exp⟩:Ag)⟩:Al)).bind fun r5a=>
 mb (Hu r2a r5a x2) fun r6a=>
 some (.ok (r6a,0))
def DT (x0:Ao) (x1:Ao) (x2:Int):Option (Al × Int):=(EX x0 x1 x2).bind fun q=>match q with | .ok r=>some r | .error n=>some ((⟨(⟨(⟨false,0⟩:Ae),0⟩:Ag),(⟨(⟨false,0⟩:Ae),0⟩:Ag)⟩:Al),n)
def II (x0:Ao) (x1:Ao):Option (Al × Int):=
 (DT x0 x1 1).bind fun r0a=>
 some (r0a.1,r0a.2)
def Fg (x0:Ap) (x1:Ap) (x2:Int):M (Al):=
 (AH x1.lo x0.lo).bind fun r2a=>
 (if 0<r2a then some (x1.lo.m.Neg,x1.lo.m.Abs,x1.lo.e) else some (x0.lo.m.Neg,x0.lo.m.Abs,x0.lo.e)).bind fun m0a=>
 (AH x1.hi x0.hi).bind fun r3a=>
 (if r3a<0 then some (x1.hi.m.Neg,x1.hi.m.Abs,x1.hi.e) else some (x0.hi.m.Neg,x0.hi.m.Abs,x0.hi.e)).bind fun m1a=>
 (AH (⟨(⟨m0a.1,m0a.2.1⟩:Ae),m0a.2.2⟩:An) (⟨(⟨m1a.1,m1a.2.1⟩:Ae),m1a.2.2⟩:An)).bind fun r4a=>
 mb (BB (decide (r4a≤0)) 5) fun r6a=>
 mb (Co (⟨(⟨(⟨m0a.1,m0a.2.1⟩:Ae),m0a.2.2⟩:An),(⟨(⟨m1a.1,m1a.2.1⟩:Ae),m1a.2.2⟩:An)⟩:Ap)) fun r5a=>
 some (.ok r5a)
def Fc (x0:Ao) (x1:Ao) (x2:Int):M (Al × Int):=
 mb (BC x0 x1) fun r7a=>
 mb (EN x2) fun r8a=>
 (toN x0.Lo.Man.Abs).bind fun m0a=>
 (toN x0.Hi.Man.Abs).bind fun m1a=>
 (Cj (⟨(⟨(⟨x0.Lo.Man.Neg,m0a⟩:Ae),x0.Lo.Exp⟩:Ag),(⟨(⟨x0.Hi.Man.Neg,m1a⟩:Ae),x0.Hi.Exp⟩:Ag)⟩:Al)).bind fun r2a=>
 (toN x1.Lo.Man.Abs).bind fun m3a=>
 (toN x1.Hi.Man.Abs).bind fun m4a=>
 (Cj (⟨(⟨(⟨x1.Lo.Man.Neg,m3a⟩:Ae),x1.Lo.Exp⟩:Ag),(⟨(⟨x1.Hi.Man.Neg,m4a⟩:Ae),x1.Hi.Exp⟩:Ag)⟩:Al)).bind fun r5a=>
 mb (Fg r2a r5a x2) fun r6a=>
 some (.ok (r6a,0))
def DN (x0:Ao) (x1:Ao) (x2:Int):Option (Al × Int):=(Fc x0 x1 x2).bind fun q=>match q with | .ok r=>some r | .error n=>some ((⟨(⟨(⟨false,0⟩:Ae),0⟩:Ag),(⟨(⟨false,0⟩:Ae),0⟩:Ag)⟩:Al),n)
def GZ (x0:Ao) (x1:Ao):Option (Al × Int):=
 (DN x0 x1 1).bind fun r0a=>
 some (r0a.1,r0a.2)
def Ls (x0:Ao) (x1:GV):M (Bool × Int):=
 mb (GN x0) fun r2b=>
 (FO x1).bind fun r1a=>
 mb (BB r1a 1) fun r3b=>
 (toN x1.Num.Abs).bind fun m2a=>
 (toN x1.Den).bind fun m3a=>
 (IS (⟨(⟨x1.Num.Neg,m2a⟩:Ae),m3a⟩:Dt)).bind fun r0a=>
 (toN x0.Lo.Man.Abs).bind fun m4a=>
 (FU (⟨(⟨x0.Lo.Man.Neg,m4a⟩:Ae),x0.Lo.Exp⟩:Ag)).bind fun r5a=>
 (DH r5a r0a.2).bind fun r6a=>
 (AH r6a r0a.1).bind fun r7a=>
 if r7a≤0 then (toN x0.Hi.Man.Abs).bind fun m8a=>
 (FU (⟨(⟨x0.Hi.Man.Neg,m8a⟩:Ae),x0.Hi.Exp⟩:Ag)).bind fun r9a=>
 (DH r9a r0a.2).bind fun r0b=>
 (AH r0b r0a.1).bind fun r1b=>
 some (.ok ((decide (0≤r1b)),0)) else some (.ok (false,0))
def FW (x0:Ao) (x1:GV):Option (Bool × Int):=(Ls x0 x1).bind fun q=>match q with | .ok r=>some r | .error n=>some (false,n)
def El (x0_0:Aq):Option (Bool):=
 (CB x0_0).bind fun r0a=>
 (if ¬(r0a=true) then some (true) else (Ed x0_0).bind fun r1a=>
 some (decide (¬(r1a=true)))).bind fun m2a=>
 if m2a=true then some false else some true
def Ep (x0:Ag) (x1:Ag):Option (Bool):=
 (Jo (⟨(⟨x0.Man.Neg,(limbs x0.Man.Abs)⟩:Ay),x0.Exp⟩:Aq) (⟨(⟨x1.Man.Neg,(limbs x1.Man.Abs)⟩:Ay),x1.Exp⟩:Aq)).bind fun r0a=>
 (if r0a.2=0 then some (decide (r0a.1≤0)) else some (false)).bind fun m1a=>
 some m1a
def DV (x0:Al) (x1:Int) (x2:Al) (x3:Int):Option (Bool):=
 (if ¬x1=0 then some (true) else some (decide (¬x3=0))).bind fun m0a=>
 if m0a=true then some true else (Ep x2.Lo x0.Lo).bind fun r1a=>
 (if r1a=true then (Ep x0.Hi x2.Hi).bind fun r2a=>
 some (r2a) else some (false)).bind fun m3a=>
 some m3a
def Ff (x0:Ao) (x1:Ao) (x2:Aq) (x3:Int):Option (Bool):=
 (Dg x0).bind fun r3b=>
 (if ¬(r3b=true) then some (true) else (Dg x1).bind fun r4b=>
 some (decide (¬(r4b=true)))).bind fun m5b=>
 (if m5b=true then some (true) else (El x2).bind fun r6b=>
 some (decide (¬(r6b=true)))).bind fun m7b=>
 (if m7b=true then some (true) else (Br x0).bind fun r8b=>
 some (decide (¬(r8b=true)))).bind fun m9b=>
 (if m9b=true then some (true) else (Br x1).bind fun r0c=>
 some (decide (¬(r0c=true)))).bind fun m1c=>
 if m1c=true then (DU).bind fun r2c=>
 some r2c else (II x0 x1).bind fun r0a=>
 (GZ x0 x1).bind fun r2a=>
 (IR x2).bind fun r1a=>
 (FW x0 (⟨(⟨r1a.1.Num.Neg,(limbs r1a.1.Num.Abs)⟩:Ay),(limbs r1a.1.Den)⟩:GV)).bind fun r5a=>
 (FW x1 (⟨(⟨r1a.1.Num.Neg,(limbs r1a.1.Num.Abs)⟩:Ay),(limbs r1a.1.Den)⟩:GV)).bind fun r6a=>
 (FW (⟨(⟨(⟨r0a.1.Lo.Man.Neg,(limbs r0a.1.Lo.Man.Abs)⟩:Ay),r0a.1.Lo.Exp⟩:Aq),(⟨(⟨r0a.1.Hi.Man.Neg,(limbs r0a.1.Hi.Man.Abs)⟩:Ay),r0a.1.Hi.Exp⟩:Aq)⟩:Ao) (⟨(⟨r1a.1.Num.Neg,(limbs r1a.1.Num.Abs)⟩:Ay),(limbs r1a.1.Den)⟩:GV)).bind fun r7a=>
 (if ¬r0a.2=0 then some (true) else some (decide (¬r1a.2=0))).bind fun m3c=>
 (if m3c=true then some (true) else some (decide (¬r5a.2=0))).bind fun m4c=>
 (if m4c=true then some (true) else some (decide (¬r6a.2=0))).bind fun m5c=>
 (if m5c=true then some (true) else some (decide (¬r7a.2=0))).bind fun m6c=>
 (if m6c=true then some (true) else (if r5a.1=true then some (true) else some (r6a.1)).bind fun m7c=>
 (if m7c=true then some (decide (¬(r7a.1=true))) else some (false)).bind fun m8c=>
 some (m8c)).bind fun m9c=>
 (if m9c=true then some (true) else (toN x0.Lo.Man.Abs).bind fun m0d=>
 (toN x0.Hi.Man.Abs).bind fun m1d=>
 (DV (⟨(⟨(⟨x0.Lo.Man.Neg,m0d⟩:Ae),x0.Lo.Exp⟩:Ag),(⟨(⟨x0.Hi.Man.Neg,m1d⟩:Ae),x0.Hi.Exp⟩:Ag)⟩:Al) r0a.2 r0a.1 r0a.2).bind fun r2d=>
 some (decide (¬(r2d=true)))).bind fun m3d=>
 (if m3d=true then some (true) else (toN x1.Lo.Man.Abs).bind fun m4d=>
 (toN x1.Hi.Man.Abs).bind fun m5d=>
 (DV (⟨(⟨(⟨x1.Lo.Man.Neg,m4d⟩:Ae),x1.Lo.Exp⟩:Ag),(⟨(⟨x1.Hi.Man.Neg,m5d⟩:Ae),x1.Hi.Exp⟩:Ag)⟩:Al) r0a.2 r0a.1 r0a.2).bind fun r6d=>
 some (decide (¬(r6d=true)))).bind fun m7d=>
 if m7d=true then some false else if r2a.2=0 then (FW (⟨(⟨(⟨r2a.1.Lo.Man.Neg,(limbs r2a.1.Lo.Man.Abs)⟩:Ay),r2a.1.Lo.Exp⟩:Aq),(⟨(⟨r2a.1.Hi.Man.Neg,(limbs r2a.1.Hi.Man.Abs)⟩:Ay),r2a.1.Hi.Exp⟩:Aq)⟩:Ao) (⟨(⟨r1a.1.Num.Neg,(limbs r1a.1.Num.Abs)⟩:Ay),(limbs r1a.1.Den)⟩:GV)).bind fun r8a=>
 (if ¬r8a.2=0 then some (true) else (if r5a.1=true then some (r6a.1) else some (false)).bind fun m8d=>
 some (decide (¬r8a.1=m8d))).bind fun m9d=>
 if m9d=true then some false else (GB x0 x1 x3).bind fun r9a=>
 (toN x1.Lo.Man.Abs).bind fun m0e=>
 (toN x1.Hi.Man.Abs).bind fun m1e=>
 (Ch (⟨(⟨(⟨x1.Lo.Man.Neg,m0e⟩:Ae),x1.Lo.Exp⟩:Ag),(⟨(⟨x1.Hi.Man.Neg,m1e⟩:Ae),x1.Hi.Exp⟩:Ag)⟩:Al)).bind fun r3a=>
 (Gw x0 (⟨(⟨(⟨r3a.Lo.Man.Neg,(limbs r3a.Lo.Man.Abs)⟩:Ay),r3a.Lo.Exp⟩:Aq),(⟨(⟨r3a.Hi.Man.Neg,(limbs r3a.Hi.Man.Abs)⟩:Ay),r3a.Hi.Exp⟩:Aq)⟩:Ao) x3).bind fun r0b=>
 (DU).bind fun r2e=>
 (if r2e=true then some (decide (r9a.2=r0b.2)) else some (false)).bind fun m3e=>
 (if m3e=true then (Bw r9a.1 r0b.1).bind fun r4e=>
 some (r4e) else some (false)).bind fun m5e=>
 some m5e else (if ¬r2a.2=5 then some (true) else (if r5a.1=true then some (r6a.1) else some (false)).bind fun m6e=>
 some (m6e)).bind fun m7e=>
 if m7e=true then some false else (GB x0 x1 x3).bind fun r1b=>
 (toN x1.Lo.Man.Abs).bind fun m8e=>
 (toN x1.Hi.Man.Abs).bind fun m9e=>
 (Ch (⟨(⟨(⟨x1.Lo.Man.Neg,m8e⟩:Ae),x1.Lo.Exp⟩:Ag),(⟨(⟨x1.Hi.Man.Neg,m9e⟩:Ae),x1.Hi.Exp⟩:Ag)⟩:Al)).bind fun r4a=>
 (Gw x0 (⟨(⟨(⟨r4a.Lo.Man.Neg,(limbs r4a.Lo.Man.Abs)⟩:Ay),r4a.Lo.Exp⟩:Aq),(⟨(⟨r4a.Hi.Man.Neg,(limbs r4a.Hi.Man.Abs)⟩:Ay),r4a.Hi.Exp⟩:Aq)⟩:Ao) x3).bind fun r2b=>
 (DU).bind fun r0f=>
 (if r0f=true then some (decide (r1b.2=r2b.2)) else some (false)).bind fun m1f=>
 (if m1f=true then (Bw r1b.1 r2b.1).bind fun r2f=>
 some (r2f) else some (false)).bind fun m3f=>
 some m3f
end Go.Proofs

