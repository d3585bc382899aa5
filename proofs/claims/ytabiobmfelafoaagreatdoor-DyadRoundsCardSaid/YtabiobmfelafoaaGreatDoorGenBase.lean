import Derived.Test.YtabiobmfelafoaaGreatDoorProg
import Derived.Test.YtabiobmfelafoaaGreatDoorCor
import Derived.Test.YtabiobmfelafoaaGreatDoorRow
import Derived.Test.YtabiobmfelafoaaGreatDoorDef1
import Derived.Test.YtabiobmfelafoaaGreatDoorLC
namespace Go.Proofs
set_option linter.unusedVariables false
set_option linter.unusedSimpArgs false
set_option maxHeartbeats 4000000
open Go.RowKit Go.Sb Go.Proofs.Sbn
structure AQ where
 Neg:Bool
 Abs:List Int
structure AC where
 Man:AQ
 Exp:Int
structure AJ where
 Lo:AC
 Hi:AC
structure Aj where
 Neg:Bool
 Abs:Nat
structure Al where
 Man:Aj
 Exp:Int
structure Am where
 m:Aj
 e:Int
structure AD where
 Lo:Al
 Hi:Al
structure Av where
 lo:Am
 hi:Am
structure Ha where
 Num:Aj
 Den:Nat
structure FW where
 Q:Nat
 R:Nat
structure Fg where
 D:Al
 E:Int
structure EQ where
 Num:AQ
 Den:List Int
theorem CY:agg Tryz.prog 29 6=true:=by kernel_rfl
theorem Ka:fieldAt Tryz.prog 29 0=some 0:=by kernel_rfl
theorem BG:agg Tryz.prog 27 3=true:=by kernel_rfl
theorem JY:fieldAt Tryz.prog 29 1=some 3:=by kernel_rfl
theorem FR:GB Tryz.prog 27 [.bool false,.slice none 0 0,.int .i64 0]:=ED (by kernel_rfl)
theorem NU:Tryz.prog.underlying 46=some (.slice 27):=by kernel_rfl
theorem EI:DM Tryz.prog 27 3=true:=by kernel_rfl
theorem Gr:fieldAt Tryz.prog 27 0=some 0:=by kernel_rfl
theorem Dn:fieldAt Tryz.prog 25 1=some 1:=by kernel_rfl
theorem CW:JI Tryz.prog 23=true:=by kernel_rfl
theorem AP:Tryz.prog.underlying 23=some (.slice 179):=by kernel_rfl
theorem Ig:agg Tryz.prog 25 2=true:=by kernel_rfl
theorem NZ:Ent Tryz.prog 143:=ent Tryz.func143 (by kernel_rfl) rfl
theorem HK:fieldAt Tryz.prog 25 0=some 0:=by kernel_rfl
theorem HC:JI Tryz.prog 4=true:=by kernel_rfl
theorem OG:Ent Tryz.prog 61:=ent Tryz.func61 (by kernel_rfl) rfl
theorem GH:fieldAt Tryz.prog 27 1=some 2:=by kernel_rfl
theorem Gc:JI Tryz.prog 3=true:=by kernel_rfl
theorem Ms:Ent Tryz.prog 128:=ent Tryz.func128 (by kernel_rfl) rfl
theorem Oc:Ent Tryz.prog 45:=ent Tryz.func45 (by kernel_rfl) rfl
theorem Nf:GB Tryz.prog 25 [.bool false,.slice none 0 0]:=ED (by kernel_rfl)
theorem it_3:Tryz.prog.underlying 3=some (.int .i64):=by kernel_rfl
theorem AF:Tryz.prog.underlying 148=some (.int .u64):=by kernel_rfl
theorem LG:Ent Tryz.prog 179:=ent Tryz.func179 (by kernel_rfl) rfl
theorem Na:DM Tryz.prog 25 2=true:=by kernel_rfl
theorem Md:Ent Tryz.prog 178:=ent Tryz.func178 (by kernel_rfl) rfl
theorem OF:Ent Tryz.prog 96:=ent Tryz.func96 (by kernel_rfl) rfl
theorem KN:GB Tryz.prog 33 [.int .i64 0]:=ED (by kernel_rfl)
theorem LP:Tryz.prog.underlying 20=some (.interface #[]):=by kernel_rfl
theorem Mn:Nc Tryz.prog 201=true:=by kernel_rfl
theorem Nv:GB Tryz.prog 201 [.int .i64 0]:=ED (by kernel_rfl)
theorem Nn:DM Tryz.prog 201 1=true:=by kernel_rfl
theorem mo:Tryz.prog.follows .mixedOrders=true:=by kernel_rfl
theorem LY:fieldAt Tryz.prog 201 0=some 0:=by kernel_rfl
theorem EG:JI Tryz.prog 33=true:=by kernel_rfl
theorem JA:DM Tryz.prog 33 1=true:=by kernel_rfl
theorem MD:Ent Tryz.prog 208:=ent Tryz.func208 (by kernel_rfl) rfl
theorem Mi:Ent Tryz.prog 151:=ent Tryz.func151 (by kernel_rfl) rfl
theorem Fq:Ent Tryz.prog 102:=ent Tryz.func102 (by kernel_rfl) rfl
theorem GY:Ent Tryz.prog 135:=ent Tryz.func135 (by kernel_rfl) rfl
theorem GL:GB Tryz.prog 117 [.bool false,.slice none 0 0]:=ED (by kernel_rfl)
theorem FV:DM Tryz.prog 117 2=true:=by kernel_rfl
theorem DR:agg Tryz.prog 117 2=true:=by kernel_rfl
theorem Mo:Ent Tryz.prog 137:=ent Tryz.func137 (by kernel_rfl) rfl
theorem Bg:GB Tryz.prog 119 [.bool false,.slice none 0 0,.int .i64 0]:=ED (by kernel_rfl)
theorem Bo:fieldAt Tryz.prog 117 1=some 1:=by kernel_rfl
theorem CZ:JI Tryz.prog 115=true:=by kernel_rfl
theorem Aq:Tryz.prog.underlying 115=some (.slice 179):=by kernel_rfl
theorem Cl:DM Tryz.prog 119 3=true:=by kernel_rfl
theorem en_213:Ent Tryz.prog 213:=ent Tryz.func213 (by kernel_rfl) rfl
theorem EB:fieldAt Tryz.prog 117 0=some 0:=by kernel_rfl
theorem KZ:Ent Tryz.prog 204:=ent Tryz.func204 (by kernel_rfl) rfl
theorem JG:Ent Tryz.prog 152:=ent Tryz.func152 (by kernel_rfl) rfl
theorem Ce:fieldAt Tryz.prog 119 0=some 0:=by kernel_rfl
theorem Dx:fieldAt Tryz.prog 119 1=some 2:=by kernel_rfl
theorem Mv:Ent Tryz.prog 201:=ent Tryz.func201 (by kernel_rfl) rfl
theorem sz_115:DM Tryz.prog 115 1=true:=by kernel_rfl
theorem en_202:Ent Tryz.prog 202:=ent Tryz.func202 (by kernel_rfl) rfl
theorem Iv:Ent Tryz.prog 136:=ent Tryz.func136 (by kernel_rfl) rfl
theorem en_60:Ent Tryz.prog 60:=ent Tryz.func60 (by kernel_rfl) rfl
theorem en_153:Ent Tryz.prog 153:=ent Tryz.func153 (by kernel_rfl) rfl
theorem Mz:Ent Tryz.prog 154:=ent Tryz.func154 (by kernel_rfl) rfl
theorem OH:Ent Tryz.prog 62:=ent Tryz.func62 (by kernel_rfl) rfl
theorem IU:Ent Tryz.prog 38:=ent Tryz.func38 (by kernel_rfl) rfl
theorem An:DM Tryz.prog 179 1=true:=by kernel_rfl
theorem AN:JI Tryz.prog 179=true:=by kernel_rfl
theorem NN:Ent Tryz.prog 64:=ent Tryz.func64 (by kernel_rfl) rfl
theorem Od:Ent Tryz.prog 120:=ent Tryz.func120 (by kernel_rfl) rfl
theorem Iw:Ent Tryz.prog 138:=ent Tryz.func138 (by kernel_rfl) rfl
theorem Ly:Ent Tryz.prog 139:=ent Tryz.func139 (by kernel_rfl) rfl
theorem KY:Ent Tryz.prog 121:=ent Tryz.func121 (by kernel_rfl) rfl
theorem Kp:Ent Tryz.prog 184:=ent Tryz.func184 (by kernel_rfl) rfl
theorem IR:Ent Tryz.prog 185:=ent Tryz.func185 (by kernel_rfl) rfl
theorem Mm:Ent Tryz.prog 203:=ent Tryz.func203 (by kernel_rfl) rfl
theorem LA:Ent Tryz.prog 191:=ent Tryz.func191 (by kernel_rfl) rfl
theorem FK:GB Tryz.prog 179 [.int .u32 0]:=ED (by kernel_rfl)
theorem KO:Ent Tryz.prog 205:=ent Tryz.func205 (by kernel_rfl) rfl
theorem en_206:Ent Tryz.prog 206:=ent Tryz.func206 (by kernel_rfl) rfl
theorem MF:Ent Tryz.prog 207:=ent Tryz.func207 (by kernel_rfl) rfl
theorem KT:Ent Tryz.prog 140:=ent Tryz.func140 (by kernel_rfl) rfl
theorem Oe:Ent Tryz.prog 55:=ent Tryz.func55 (by kernel_rfl) rfl
theorem GP:GB Tryz.prog 29 [.bool false,.slice none 0 0,.int .i64 0,.bool false,.slice none 0 0,.int .i64 0]:=ED (by kernel_rfl)
theorem Ge:DM Tryz.prog 29 6=true:=by kernel_rfl
theorem Kw:Ent Tryz.prog 97:=ent Tryz.func97 (by kernel_rfl) rfl
theorem Kq:Tryz.prog.underlying 230=some (.slice 29):=by kernel_rfl
theorem en_182:Ent Tryz.prog 182:=ent Tryz.func182 (by kernel_rfl) rfl
theorem IJ:Ent Tryz.prog 103:=ent Tryz.func103 (by kernel_rfl) rfl
theorem NJ:Ent Tryz.prog 187:=ent Tryz.func187 (by kernel_rfl) rfl
theorem NY:Ent Tryz.prog 122:=ent Tryz.func122 (by kernel_rfl) rfl
theorem en_192:Ent Tryz.prog 192:=ent Tryz.func192 (by kernel_rfl) rfl
theorem en_115:Ent Tryz.prog 115:=ent Tryz.func115 (by kernel_rfl) rfl
theorem Oq:Tryz.prog.underlying 4=some .bool:=by kernel_rfl
theorem en_196:Ent Tryz.prog 196:=ent Tryz.func196 (by kernel_rfl) rfl
theorem en_195:Ent Tryz.prog 195:=ent Tryz.func195 (by kernel_rfl) rfl
theorem en_194:Ent Tryz.prog 194:=ent Tryz.func194 (by kernel_rfl) rfl
theorem en_124:Ent Tryz.prog 124:=ent Tryz.func124 (by kernel_rfl) rfl
theorem ID:Ent Tryz.prog 106:=ent Tryz.func106 (by kernel_rfl) rfl
theorem OA:Ent Tryz.prog 65:=ent Tryz.func65 (by kernel_rfl) rfl
theorem Kg:Ent Tryz.prog 162:=ent Tryz.func162 (by kernel_rfl) rfl
theorem HG:Ent Tryz.prog 161:=ent Tryz.func161 (by kernel_rfl) rfl
theorem Ng:GB Tryz.prog 121 [.bool false,.slice none 0 0,.int .i64 0,.bool false,.slice none 0 0,.int .i64 0]:=ED (by kernel_rfl)
theorem Ny:DM Tryz.prog 121 6=true:=by kernel_rfl
theorem Jk:agg Tryz.prog 121 6=true:=by kernel_rfl
theorem Kr:Ent Tryz.prog 163:=ent Tryz.func163 (by kernel_rfl) rfl
theorem Nh:GB Tryz.prog 124 [.pointer none]:=ED (by kernel_rfl)
theorem NB:Ent Tryz.prog 104:=ent Tryz.func104 (by kernel_rfl) rfl
theorem Ob:Ent Tryz.prog 183:=ent Tryz.func183 (by kernel_rfl) rfl
theorem No:Ent Tryz.prog 241:=ent Tryz.func241 (by kernel_rfl) rfl
theorem en_193:Ent Tryz.prog 193:=ent Tryz.func193 (by kernel_rfl) rfl
theorem NQ:Ent Tryz.prog 117:=ent Tryz.func117 (by kernel_rfl) rfl
theorem EW:JI Tryz.prog 124=true:=by kernel_rfl
theorem LL:Tryz.prog.underlying 124=some (.pointer 121):=by kernel_rfl
theorem NV:DM Tryz.prog 124 1=true:=by kernel_rfl
theorem en_118:Ent Tryz.prog 118:=ent Tryz.func118 (by kernel_rfl) rfl
theorem Kj:Ent Tryz.prog 107:=ent Tryz.func107 (by kernel_rfl) rfl
theorem NR:Ent Tryz.prog 116:=ent Tryz.func116 (by kernel_rfl) rfl
theorem MA:Ent Tryz.prog 100:=ent Tryz.func100 (by kernel_rfl) rfl
theorem en_32:Ent Tryz.prog 32:=ent Tryz.func32 (by kernel_rfl) rfl
theorem ND:Ent Tryz.prog 144:=ent Tryz.func144 (by kernel_rfl) rfl
theorem en_86:Ent Tryz.prog 86:=ent Tryz.func86 (by kernel_rfl) rfl
theorem KL:Ent Tryz.prog 37:=ent Tryz.func37 (by kernel_rfl) rfl
theorem Np:Ent Tryz.prog 76:=ent Tryz.func76 (by kernel_rfl) rfl
theorem Nx:Ent Tryz.prog 186:=ent Tryz.func186 (by kernel_rfl) rfl
theorem Dd:Ent Tryz.prog 105:=ent Tryz.func105 (by kernel_rfl) rfl
theorem NC:Ent Tryz.prog 101:=ent Tryz.func101 (by kernel_rfl) rfl
theorem Ox:Ent Tryz.prog 21:=ent Tryz.func21 (by kernel_rfl) rfl
theorem en_190:Ent Tryz.prog 190:=ent Tryz.func190 (by kernel_rfl) rfl
theorem Nu:Ent Tryz.prog 111:=ent Tryz.func111 (by kernel_rfl) rfl
theorem Nk:Ent Tryz.prog 110:=ent Tryz.func110 (by kernel_rfl) rfl
theorem en_25:Ent Tryz.prog 25:=ent Tryz.func25 (by kernel_rfl) rfl
theorem Oz:Ent Tryz.prog 15:=ent Tryz.func15 (by kernel_rfl) rfl
theorem en_16:Ent Tryz.prog 16:=ent Tryz.func16 (by kernel_rfl) rfl
theorem Jr:Ent Tryz.prog 148:=ent Tryz.func148 (by kernel_rfl) rfl
theorem NK:Ent Tryz.prog 189:=ent Tryz.func189 (by kernel_rfl) rfl
theorem MG:Ent Tryz.prog 198:=ent Tryz.func198 (by kernel_rfl) rfl
theorem OD:Ent Tryz.prog 18:=ent Tryz.func18 (by kernel_rfl) rfl
theorem LH:Ent Tryz.prog 149:=ent Tryz.func149 (by kernel_rfl) rfl
theorem JH:GB Tryz.prog 171 [.slice none 0 0,.slice none 0 0]:=ED (by kernel_rfl)
theorem IN:DM Tryz.prog 171 2=true:=by kernel_rfl
theorem JP:fieldAt Tryz.prog 171 1=some 1:=by kernel_rfl
theorem en_145:Ent Tryz.prog 145:=ent Tryz.func145 (by kernel_rfl) rfl
theorem Mg:Ent Tryz.prog 146:=ent Tryz.func146 (by kernel_rfl) rfl
theorem Lm:agg Tryz.prog 65 3=true:=by kernel_rfl
theorem GF:fieldAt Tryz.prog 65 0=some 0:=by kernel_rfl
theorem GZ:fieldAt Tryz.prog 65 1=some 2:=by kernel_rfl
theorem JJ:Ent Tryz.prog 147:=ent Tryz.func147 (by kernel_rfl) rfl
theorem IZ:fieldAt Tryz.prog 171 0=some 0:=by kernel_rfl
theorem en_212:Ent Tryz.prog 212:=ent Tryz.func212 (by kernel_rfl) rfl
theorem Mh:Ent Tryz.prog 150:=ent Tryz.func150 (by kernel_rfl) rfl
theorem en_59:Ent Tryz.prog 59:=ent Tryz.func59 (by kernel_rfl) rfl
theorem KP:agg Tryz.prog 171 2=true:=by kernel_rfl
theorem en_58:Ent Tryz.prog 58:=ent Tryz.func58 (by kernel_rfl) rfl
theorem en_44:Ent Tryz.prog 44:=ent Tryz.func44 (by kernel_rfl) rfl
theorem Nw:GB Tryz.prog 154 [.bool false,.slice none 0 0,.int .i64 0,.int .i64 0]:=ED (by kernel_rfl)
theorem Mq:DM Tryz.prog 154 4=true:=by kernel_rfl
theorem NO:agg Tryz.prog 154 4=true:=by kernel_rfl
theorem en_134:Ent Tryz.prog 134:=ent Tryz.func134 (by kernel_rfl) rfl
theorem fa_154_1:fieldAt Tryz.prog 154 1=some 3:=by kernel_rfl
theorem fa_154_0:fieldAt Tryz.prog 154 0=some 0:=by kernel_rfl
theorem OE:Ent Tryz.prog 50:=ent Tryz.func50 (by kernel_rfl) rfl
theorem zt_23:GB Tryz.prog 23 [.slice none 0 0]:=ED (by kernel_rfl)
theorem LI:Tryz.prog.underlying 260=some (.slice 23):=by kernel_rfl
theorem Nj:DM Tryz.prog 23 1=true:=by kernel_rfl
theorem Nl:Ent Tryz.prog 255:=ent Tryz.func255 (by kernel_rfl) rfl
theorem en_274:Ent Tryz.prog 274:=ent Tryz.func274 (by kernel_rfl) rfl
theorem en_254:Ent Tryz.prog 254:=ent Tryz.func254 (by kernel_rfl) rfl
theorem ni_258:Nc Tryz.prog 258=true:=by kernel_rfl
theorem Lv:Ent Tryz.prog 224:=ent Tryz.func224 (by kernel_rfl) rfl
theorem Ni:Ent Tryz.prog 223:=ent Tryz.func223 (by kernel_rfl) rfl
theorem Mr:Ent Tryz.prog 226:=ent Tryz.func226 (by kernel_rfl) rfl
theorem AU:Tryz.prog.underlying 228=some (.slice 179):=by kernel_rfl
theorem en_256:Ent Tryz.prog 256:=ent Tryz.func256 (by kernel_rfl) rfl
theorem NX:Ent Tryz.prog 225:=ent Tryz.func225 (by kernel_rfl) rfl
theorem en_222:Ent Tryz.prog 222:=ent Tryz.func222 (by kernel_rfl) rfl
theorem Nt:Ent Tryz.prog 249:=ent Tryz.func249 (by kernel_rfl) rfl
theorem fa_252_0:fieldAt Tryz.prog 252 0=some 0:=by kernel_rfl
theorem fl_249:JI Tryz.prog 249=true:=by kernel_rfl
theorem NE:Ent Tryz.prog 251:=ent Tryz.func251 (by kernel_rfl) rfl
theorem en_242:Ent Tryz.prog 242:=ent Tryz.func242 (by kernel_rfl) rfl
theorem en_53:Ent Tryz.prog 53:=ent Tryz.func53 (by kernel_rfl) rfl
theorem en_54:Ent Tryz.prog 54:=ent Tryz.func54 (by kernel_rfl) rfl
theorem en_244:Ent Tryz.prog 244:=ent Tryz.func244 (by kernel_rfl) rfl
theorem en_243:Ent Tryz.prog 243:=ent Tryz.func243 (by kernel_rfl) rfl
theorem en_209:Ent Tryz.prog 209:=ent Tryz.func209 (by kernel_rfl) rfl
theorem en_141:Ent Tryz.prog 141:=ent Tryz.func141 (by kernel_rfl) rfl
theorem en_142:Ent Tryz.prog 142:=ent Tryz.func142 (by kernel_rfl) rfl
theorem en_56:Ent Tryz.prog 56:=ent Tryz.func56 (by kernel_rfl) rfl
theorem en_57:Ent Tryz.prog 57:=ent Tryz.func57 (by kernel_rfl) rfl
def Fe (_w:World) (r:Bool) (v:Value):Prop:=v = .bool r
def Mj (w:World) (r:Aj) (v:Value):Prop:=∃(A1:Option Addr) (c1:Nat),v = .agg #[.bool r.Neg,.slice A1 (sz r.Abs) c1]∧RU w A1 c1 r.Abs
def Kk (w:World) (r:Al × Int) (v:Value):Prop:=∃(A1:Option Addr) (c1:Nat),v = .tuple #[.agg #[.bool r.1.Man.Neg,.slice A1 (sz r.1.Man.Abs) c1,.int .i64 r.1.Exp],.int .i64 r.2]∧RU w A1 c1 r.1.Man.Abs
def KS (_w:World) (_r:Unit) (v:Value):Prop:=v = .tuple #[]
def JS (w:World) (r:Aj) (v:Value):Prop:=∃(A1:Option Addr) (c1:Nat),v = .agg #[.bool r.Neg,.slice A1 (sz r.Abs) c1]∧RU w A1 c1 r.Abs
def Ho (w:World) (r:Am) (v:Value):Prop:=∃(A1:Option Addr) (c1:Nat),v = .agg #[.bool r.m.Neg,.slice A1 (sz r.m.Abs) c1,.int .i64 r.e]∧RU w A1 c1 r.m.Abs
def Kf (w:World) (r:Al) (v:Value):Prop:=∃(A1:Option Addr) (c1:Nat),v = .agg #[.bool r.Man.Neg,.slice A1 (sz r.Man.Abs) c1,.int .i64 r.Exp]∧RU w A1 c1 r.Man.Abs
def Le (w:World) (r:AD) (v:Value):Prop:=∃(A1:Option Addr) (c1:Nat) (A2:Option Addr) (c2:Nat),v = .agg #[.bool r.Lo.Man.Neg,.slice A1 (sz r.Lo.Man.Abs) c1,.int .i64 r.Lo.Exp,.bool r.Hi.Man.Neg,.slice A2 (sz r.Hi.Man.Abs) c2,.int .i64 r.Hi.Exp]∧RU w A1 c1 r.Lo.Man.Abs∧RU w A2 c2 r.Hi.Man.Abs
def HL (w:World) (r:AD × Int) (v:Value):Prop:=∃(A1:Option Addr) (c1:Nat) (A2:Option Addr) (c2:Nat),v = .tuple #[.agg #[.bool r.1.Lo.Man.Neg,.slice A1 (sz r.1.Lo.Man.Abs) c1,.int .i64 r.1.Lo.Exp,.bool r.1.Hi.Man.Neg,.slice A2 (sz r.1.Hi.Man.Abs) c2,.int .i64 r.1.Hi.Exp],.int .i64 r.2]∧RU w A1 c1 r.1.Lo.Man.Abs∧RU w A2 c2 r.1.Hi.Man.Abs
def FQ (_w:World) (r:Int) (v:Value):Prop:=v = .int .i64 r
def MK (w:World) (r:Av) (v:Value):Prop:=∃(A1:Option Addr) (c1:Nat) (A2:Option Addr) (c2:Nat),v = .agg #[.bool r.lo.m.Neg,.slice A1 (sz r.lo.m.Abs) c1,.int .i64 r.lo.e,.bool r.hi.m.Neg,.slice A2 (sz r.hi.m.Abs) c2,.int .i64 r.hi.e]∧RU w A1 c1 r.lo.m.Abs∧RU w A2 c2 r.hi.m.Abs
def Kt (w:World) (r:Nat × Nat) (v:Value):Prop:=∃(A1:Option Addr) (c1:Nat) (A2:Option Addr) (c2:Nat),v = .tuple #[.slice A1 (sz r.1) c1,.slice A2 (sz r.2) c2]∧RU w A1 c1 r.1∧RU w A2 c2 r.2
def rep_33 (_w:World) (r:Int) (v:Value):Prop:=v = .int .i64 r
def Jp (w:World) (r:Nat) (v:Value):Prop:=∃(A1:Option Addr) (c1:Nat),v = .slice A1 (sz r) c1∧RU w A1 c1 r
def rep_171 (w:World) (r:FW) (v:Value):Prop:=∃(A1:Option Addr) (c1:Nat) (A2:Option Addr) (c2:Nat),v = .agg #[.slice A1 (sz r.Q) c1,.slice A2 (sz r.R) c2]∧RU w A1 c1 r.Q∧RU w A2 c2 r.R
def rep_154 (w:World) (r:Fg) (v:Value):Prop:=∃(A1:Option Addr) (c1:Nat),v = .agg #[.bool r.D.Man.Neg,.slice A1 (sz r.D.Man.Abs) c1,.int .i64 r.D.Exp,.int .i64 r.E]∧RU w A1 c1 r.D.Man.Abs
def Ln (w:World) (r:Nat × Int) (v:Value):Prop:=∃(A1:Option Addr) (c1:Nat),v = .tuple #[.slice A1 (sz r.1) c1,.int .i64 r.2]∧RU w A1 c1 r.1
def KH (w:World) (r:Nat) (v:Value):Prop:=∃(A1:Option Addr) (c1:Nat),v = .slice A1 (sz r) c1∧RU w A1 c1 r
def rep_119_119 (w:World) (r:Am × Am) (v:Value):Prop:=∃(A1:Option Addr) (c1:Nat) (A2:Option Addr) (c2:Nat),v = .tuple #[.agg #[.bool r.1.m.Neg,.slice A1 (sz r.1.m.Abs) c1,.int .i64 r.1.e],.agg #[.bool r.2.m.Neg,.slice A2 (sz r.2.m.Abs) c2,.int .i64 r.2.e]]∧RU w A1 c1 r.1.m.Abs∧RU w A2 c2 r.2.m.Abs
def Kd (_w:World) (r:Int) (v:Value):Prop:=v = .int .u64 r
def Js (w:World) (r:Nat) (v:Value):Prop:=∃(A1:Option Addr) (c1:Nat),v = .slice A1 (sz r) c1∧RU w A1 c1 r
def rep_228_228 (w:World) (r:Nat × Nat) (v:Value):Prop:=∃(A1:Option Addr) (c1:Nat) (A2:Option Addr) (c2:Nat),v = .tuple #[.slice A1 (sz r.1) c1,.slice A2 (sz r.2) c2]∧RU w A1 c1 r.1∧RU w A2 c2 r.2
abbrev Bd (x0:List Int):Option (Bool):=Lf.Bd x0
abbrev BJ (x0:List Int) (x1:Int):Option (Int):=Lf.BJ x0 x1
def Cn (x0:Int):Option (Nat):=(gd (0≤x0∧x0<18446744073709551616)).bind fun _=>some (x0.toNat)
abbrev Fb (x0:List Int):Option (Bool):=Lf.Fb x0
def Cx (x0:Nat):Option (Int):=(gd (sz x0<1073741824)).bind fun _=>some (Lf.tz x0:Int)
def Cj (x0:Nat) (x1:Int):Option (Nat):=(gd (sz x0<1073741824∧0≤x1∧x1<9223372036854775808)).bind fun _=>some (x0/2^x1.toNat)
def CJ (x0:Nat):Option (Nat):=(gd (sz x0<1073741824)).bind fun _=>some (x0)
def BF (x0:Nat):Option (Int):=(gd (sz x0<1073741824)).bind fun _=>some (Lf.tz x0:Int)
def BM (x0:Nat) (x1:Int):Option (Nat):=(gd (sz x0<1073741824∧0≤x1∧x1<9223372036854775808)).bind fun _=>some (x0/2^x1.toNat)
def Bz (x0:Nat):Option (Int):=(gd (sz x0<1073741824)).bind fun _=>some (Lf.bl x0:Int)
def Br (x0:Nat) (x1:Int):Option (Nat):=(gd (sz x0<1073741824∧0≤x1∧x1<34359738368)).bind fun _=>some (x0*2^x1.toNat)
def Cm (x0:Nat) (x1:Nat):Option (Nat):=(gd (sz x0<1073741824∧sz x1<1073741824∧x1≤x0)).bind fun _=>some (x0 - x1)
def Ck (x0:Nat) (x1:Nat):Option (Int):=(gd (sz x0<1073741824∧sz x1<1073741824)).bind fun _=>some (Lf.cmpw x0 x1)
def Cw (x0:Nat) (x1:Nat):Option (Nat):=(gd (sz x0<1073741824∧sz x1<1073741824)).bind fun _=>some (x0+x1)
def CU (x0:Nat) (x1:Nat):Option (Nat):=(gd (sz x0<1073741824∧sz x1<1073741824)).bind fun _=>some (x0*x1)
abbrev BA (x0:List Int) (x1:List Int):Option (Bool):=Lf.BA x0 x1
def CV (x0:Nat) (x1:Nat):Option (Nat × Nat):=(gd (sz x0<1073741824∧sz x1<1073741824∧x1≠0)).bind fun _=>some (x0/x1,x0%x1)
def Bj (x0:Nat) (x1:Int):Option (Nat):=(gd (sz x0<1073741824∧0≤x1∧x1<34359738368)).bind fun _=>some (x0*2^x1.toNat)
def BK (x0:Nat) (x1:Nat):Option (Nat):=(gd (sz x0<1073741824∧sz x1<1073741824)).bind fun _=>some (x0+x1)
def BL (x0:Nat) (x1:Nat):Option (Int):=(gd (sz x0<1073741824∧sz x1<1073741824)).bind fun _=>some (Lf.sgnc x0 x1)
def Bc (x0:Nat) (x1:Nat):Option (FW):=(gd (sz x0<1073741824∧sz x1<1073741824∧x1≠0)).bind fun _=>some (⟨x0/x1,x0%x1⟩)
def AW (x0:Nat):Option (Int):=(gd (sz x0<1073741824)).bind fun _=>some (Lf.bl x0:Int)
def Dq (x0:Nat) (x1:Int):Option (Nat):=(gd (sz x0<1073741824∧0≤x1∧x1<34359738368)).bind fun _=>some (x0*2^x1.toNat)
def Ee (x0:Nat):Option (Nat):=(gd (sz x0<1073741824)).bind fun _=>some (x0)
def DP (x0:Nat) (x1:Int):Option (Nat):=(gd (sz x0<1073741824∧0≤x1∧x1<9223372036854775808)).bind fun _=>some (x0/2^x1.toNat)
def Ex (x0:Nat) (x1:Nat):Option (Int):=(gd (sz x0<1073741824∧sz x1<1073741824)).bind fun _=>some (Lf.sgnc x0 x1)
def BV (x0:Nat) (x1:Nat):Option (Nat × Nat):=(gd (sz x0<1073741824∧sz x1<1073741824∧x1≠0)).bind fun _=>some (x0/x1,x0%x1)
def BP (x0:AQ):Option (Bool):=
 (Bd x0.Abs).bind fun r0a=>
 (if r0a=true then (if ¬(x0.Neg=true) then some (true) else some (decide (0<(x0.Abs.length:Int)))).bind fun m1a=>
 some (m1a) else some (false)).bind fun m2a=>
 some m2a
def BD (x0:AC):Option (Bool):=
 (BP x0.Man).bind fun r0a=>
 if ¬(r0a=true) then some false else if (x0.Man.Abs.length:Int)=0 then some (decide (x0.Exp=0)) else (BJ x0.Man.Abs 0).bind fun r1a=>
 (if r1a=1 then some (decide ((-1048576)≤x0.Exp)) else some (false)).bind fun m2a=>
 (if m2a=true then some (decide (x0.Exp≤1048576)) else some (false)).bind fun m3a=>
 some m3a
def CF (x0:Bool) (x1:Nat):Option (Aj):=
 (if x0=true then some (decide (0<(sz x1:Int))) else some (false)).bind fun m0a=>
 some (⟨m0a,x1⟩:Aj)
def Fa (x0:Int):Option (Aj):=
 if x0<0 then (Cn (wu64 (wi64 (-x0)))).bind fun r0a=>
 (CF true r0a).bind fun r1a=>
 some r1a else (Cn (wu64 x0)).bind fun r2a=>
 (CF false r2a).bind fun r3a=>
 some r3a
def Eb (x0:AQ):Option (Bool):=
 (Fb x0.Abs).bind fun r0a=>
 (if r0a=true then (if ¬(x0.Neg=true) then some (true) else some (decide (0<(x0.Abs.length:Int)))).bind fun m1a=>
 some (m1a) else some (false)).bind fun m2a=>
 some m2a
def CS (x0:Bool) (x1:Int):M (Unit):=
 if ¬(x0=true) then some (.error x1) else some (.ok ())
def Hz (x0:Aj):Option (Aj):=
 some x0
def Cz (x0:Aj) (x1:Int):Option (Am):=
 if (sz x0.Abs:Int)=0 then some (⟨(⟨false,0⟩:Aj),0⟩:Am) else (Cx x0.Abs).bind fun r0a=>
 (Cj x0.Abs r0a).bind fun r1a=>
 some (⟨(⟨x0.Neg,r1a⟩:Aj),(wi64 (x1+r0a))⟩:Am)
def Hc (x0:Aj):Option (Aj):=
 (if x0.Neg=true then some (decide (0<(sz x0.Abs:Int))) else some (false)).bind fun m0a=>
 some (⟨m0a,x0.Abs⟩:Aj)
def DK (x0:Am):M (Al):=
 (if (sz x0.m.Abs:Int)≤1024 then some (decide (x0.e≤1048576)) else some (false)).bind fun m0a=>
 (if m0a=true then some (decide ((-1048576)≤x0.e)) else some (false)).bind fun m1a=>
 mb (CS m1a 2) fun r4a=>
 (CJ x0.m.Abs).bind fun r2a=>
 (Hc (⟨x0.m.Neg,r2a⟩:Aj)).bind fun r3a=>
 some (.ok (⟨r3a,x0.e⟩:Al))
def JR (x0:AQ) (x1:Int):M (Al × Int):=
 (Eb x0).bind fun r0a=>
 mb (CS r0a 1) fun r5a=>
 if (x0.Abs.length:Int)=0 then some (.ok ((⟨(⟨false,0⟩:Aj),0⟩:Al),0)) else (toN x0.Abs).bind fun m1a=>
 (Hz (⟨x0.Neg,m1a⟩:Aj)).bind fun r2a=>
 (Cz r2a (max (-1099511627776) (min x1 1099511627776))).bind fun r3a=>
 mb (DK r3a) fun r4a=>
 some (.ok (r4a,0))
def IV (x0:AQ) (x1:Int):Option (Al × Int):=(JR x0 x1).bind fun q=>match q with | .ok r=>some r | .error n=>some ((⟨(⟨false,0⟩:Aj),0⟩:Al),n)
def Et (x0:Aj) (x1:Int):Option (Al):=
 if (sz x0.Abs:Int)=0 then some (⟨(⟨false,0⟩:Aj),0⟩:Al) else (BF x0.Abs).bind fun r0a=>
 (BM x0.Abs r0a).bind fun r1a=>
 some (⟨(⟨x0.Neg,r1a⟩:Aj),(wi64 (x1+r0a))⟩:Al)
def Be (x0:Int) (x1:Int):Option (Al):=
 (Fa x0).bind fun r7=>
 (Et r7 x1).bind fun r0a=>
 some r0a
def Ef (x0:AC):Option (Bool):=
 (Eb x0.Man).bind fun r0a=>
 if ¬(r0a=true) then some false else if (x0.Man.Abs.length:Int)=0 then some (decide (x0.Exp=0)) else (nth x0.Man.Abs 0).bind fun u1a=>
 (if (u1a%2)=1 then some (decide (x0.Exp≤1048576)) else some (false)).bind fun m2a=>
 (if m2a=true then some (decide ((-1048576)≤x0.Exp)) else some (false)).bind fun m3a=>
 some m3a
def EY (x0_0:AC):M (Unit):=
 (Ef x0_0).bind fun r0a=>
 mb (CS r0a 1) fun r1a=>
 some (.ok ())
def Fi (x0:Int):M (Unit):=
 (if 1≤x0 then some (decide (x0≤4096)) else some (false)).bind fun m8=>
 mb (CS m8 1) fun r0a=>
 some (.ok ())
def EX (x0:Int):M (Unit):=
 (if 1≤x0 then some (decide (x0≤5)) else some (false)).bind fun m8=>
 mb (CS m8 1) fun r0a=>
 some (.ok ())
def GN (x0:Al):Option (Am):=
 (Hz x0.Man).bind fun r0a=>
 some (⟨r0a,x0.Exp⟩:Am)
def Fw (x0:Aj) (x1:Int):Option (Aj):=
 (Br x0.Abs x1).bind fun r0a=>
 some (⟨x0.Neg,r0a⟩:Aj)
def Hx (x0:Bool) (x1:Int) (x2:Bool) (x3:Bool) (x4:Int):Option (Bool):=
 if x0=true then some false else if x4=1 then (if 0<x1 then some (true) else (if x1=0 then some (x2) else some (false)).bind fun m0a=>
 some (m0a)).bind fun m1a=>
 some m1a else if x4=2 then some (decide (0≤x1)) else if x4=4 then some (decide (¬(x3=true))) else if x4=5 then some x3 else some false
def Bf (x0:Am) (x1:Int) (x2:Int) (x3:Bool):Option (Am):=
 (Bz x0.m.Abs).bind fun r1a=>
 (if (wi64 (r1a - x1))≤0 then some (decide (¬(x3=true))) else some (false)).bind fun m6a=>
 if m6a=true then (Cz x0.m x0.e).bind fun r7a=>
 some r7a else (if (wi64 (r1a - x1))<2 then (Fw x0.m (wi64 (2 - (wi64 (r1a - x1))))).bind fun r3a=>
 some (2,r3a.Neg,r3a.Abs,(wi64 ((wi64 (x0.e - 2))+(wi64 (r1a - x1))))) else some ((wi64 (r1a - x1)),x0.m.Neg,x0.m.Abs,x0.e)).bind fun m0a=>
 (Cj m0a.2.2.1 m0a.1).bind fun r2a=>
 (Br r2a m0a.1).bind fun r8a=>
 (Cm m0a.2.2.1 r8a).bind fun r4a=>
 (if (sz r4a:Int)=0 then some (decide (¬(x3=true))) else some (false)).bind fun m9a=>
 (Br 1 (wi64 (m0a.1 - 1))).bind fun r0b=>
 (Ck r4a r0b).bind fun r5a=>
 (if r5a=0 then some (x3) else some (false)).bind fun m1b=>
 (if m1b=true then some (1) else some (r5a)).bind fun m2b=>
 (if 0<(sz r2a:Int) then (nth (limbs r2a) 0).bind fun u3b=>
 some (decide ((u3b%2)=1)) else some (false)).bind fun m4b=>
 (Hx m9a m2b m4b m0a.2.1 x2).bind fun r5b=>
 (if r5b=true then (Cw r2a 1).bind fun r6b=>
 some (r6b) else some (r2a)).bind fun m7b=>
 (Cz (⟨m0a.2.1,m7b⟩:Aj) (wi64 (m0a.2.2.2+m0a.1))).bind fun r8b=>
 some r8b
def Hp (x0:AC) (x1:Int) (x2:Int):M (Al × Int):=
 mb (EY x0) fun r4a=>
 mb (Fi x1) fun r5a=>
 mb (EX x2) fun r6a=>
 (toN x0.Man.Abs).bind fun m0a=>
 (GN (⟨(⟨x0.Man.Neg,m0a⟩:Aj),x0.Exp⟩:Al)).bind fun r1a=>
 (Bf r1a x1 x2 false).bind fun r2a=>
 mb (DK r2a) fun r3a=>
 some (.ok (r3a,0))
def Ec (x0:AC) (x1:Int) (x2:Int):Option (Al × Int):=(Hp x0 x1 x2).bind fun q=>match q with | .ok r=>some r | .error n=>some ((⟨(⟨false,0⟩:Aj),0⟩:Al),n)
def BQ (x0:Int) (x1:Int):Option (AD):=
 (Be x0 0).bind fun r7=>
 (Be x1 0).bind fun r0a=>
 some (⟨r7,r0a⟩:AD)
def GD (x0:Aj):Option (Int):=
 if (sz x0.Abs:Int)=0 then some 0 else if x0.Neg=true then some (-1) else some 1
def BT (x0:Am):Option (Int):=
 (GD x0.m).bind fun r0a=>
 some r0a
def Hd (x0:Int) (x1:Int):Option (Int):=
 if x0<x1 then some (-1) else if x1<x0 then some 1 else some 0
def GR (x0:Am):Option (Int):=
 (Bz x0.m.Abs).bind fun r0a=>
 some (wi64 ((wi64 (r0a - 1))+x0.e))
def Hk (x0:Aj):Option (Aj):=
 some (⟨(decide (¬(x0.Neg=true))),x0.Abs⟩:Aj)
def Hh (x0:Am):Option (Am):=
 (Hk x0.m).bind fun r0a=>
 some (⟨r0a,x0.e⟩:Am)
def HT (x0:Aj) (x1:Aj):Option (Aj):=
 if x0.Neg=x1.Neg then (Cw x0.Abs x1.Abs).bind fun r0a=>
 some (⟨x0.Neg,r0a⟩:Aj) else (Ck x0.Abs x1.Abs).bind fun r1a=>
 if 0≤r1a then (Cm x0.Abs x1.Abs).bind fun r2a=>
 some (⟨x0.Neg,r2a⟩:Aj) else (Cm x1.Abs x0.Abs).bind fun r3a=>
 some (⟨x1.Neg,r3a⟩:Aj)
def GX (x0:Aj) (x1:Aj) (x2:Int):Option (Am):=
 (HT x0 x1).bind fun r0a=>
 (Cz r0a x2).bind fun r1a=>
 some r1a
def DQ (x0:Am) (x1:Am):Option (Am):=
 (if (sz x0.m.Abs:Int)=0 then some (x1.e) else some (min x0.e x1.e)).bind fun m5a=>
 (if (sz x1.m.Abs:Int)=0 then some (x0.e) else some (m5a)).bind fun m0a=>
 (if 0<(sz x0.m.Abs:Int) then (Fw x0.m (wi64 (x0.e - m0a))).bind fun r1a=>
 some (r1a.Neg,r1a.Abs) else some (x0.m.Neg,x0.m.Abs)).bind fun m2a=>
 (if 0<(sz x1.m.Abs:Int) then (Fw x1.m (wi64 (x1.e - m0a))).bind fun r3a=>
 some (r3a.Neg,r3a.Abs) else some (x1.m.Neg,x1.m.Abs)).bind fun m4a=>
 (GX (⟨m2a.1,m2a.2⟩:Aj) (⟨m4a.1,m4a.2⟩:Aj) m0a).bind fun r6a=>
 some r6a
def HE (x0:Am) (x1:Am):Option (Am):=
 (DQ x0 x1).bind fun r0a=>
 some r0a
def CT (x0:Am) (x1:Am):Option (Int):=
 (BT x0).bind fun r0a=>
 (BT x1).bind fun r1a=>
 (if ¬r0a=r1a then some (true) else some (decide (r0a=0))).bind fun m4a=>
 if m4a=true then (Hd r0a r1a).bind fun r5a=>
 some r5a else (GR x0).bind fun r2a=>
 (GR x1).bind fun r3a=>
 if ¬r2a=r3a then (BT x0).bind fun r6a=>
 (Hd r2a r3a).bind fun r7a=>
 some (wi64 (r6a*r7a)) else (Hh x1).bind fun r8a=>
 (HE x0 r8a).bind fun r9a=>
 (BT r9a).bind fun r0b=>
 some r0b
def Hq (x0:AJ):Option (Bool):=
 (Ef x0.Lo).bind fun r0a=>
 if r0a=true then (Ef x0.Hi).bind fun r1a=>
 if r1a=true then (toN x0.Lo.Man.Abs).bind fun m2a=>
 (GN (⟨(⟨x0.Lo.Man.Neg,m2a⟩:Aj),x0.Lo.Exp⟩:Al)).bind fun r3a=>
 (toN x0.Hi.Man.Abs).bind fun m4a=>
 (GN (⟨(⟨x0.Hi.Man.Neg,m4a⟩:Aj),x0.Hi.Exp⟩:Al)).bind fun r5a=>
 (CT r3a r5a).bind fun r6a=>
 some (decide (r6a≤0)) else some false else some false
def Ft (x0_0:AJ) (x0_1:AJ):M (Unit):=
 (Hq x0_0).bind fun r0a=>
 mb (CS r0a 1) fun r2a=>
 (Hq x0_1).bind fun r1a=>
 mb (CS r1a 1) fun r3a=>
 some (.ok ())
def EK (x0:AD):Option (Av):=
 (GN x0.Lo).bind fun r0a=>
 (GN x0.Hi).bind fun r1a=>
 some (⟨r0a,r1a⟩:Av)
def Ia (x0:Aj) (x1:Aj):Option (Aj):=
 (CU x0.Abs x1.Abs).bind fun r0a=>
 some (⟨(decide (¬x0.Neg=x1.Neg)),r0a⟩:Aj)
def Gt (x0:Am) (x1:Am):Option (Am):=
 (Ia x0.m x1.m).bind fun r0a=>
 (Cz r0a (wi64 (x0.e+x1.e))).bind fun r1a=>
 some r1a
def Gy (x0:Av) (x1:Int):Option (Av):=
 (Bf x0.lo x1 5 false).bind fun r0a=>
 (Bf x0.hi x1 4 false).bind fun r1a=>
 some (⟨r0a,r1a⟩:Av)
def FN (x0:Av):M (AD):=
 mb (DK x0.lo) fun r0a=>
 mb (DK x0.hi) fun r1a=>
 some (.ok (⟨r0a,r1a⟩:AD))
def IS (x0:Av) (x1:Av) (x2:Int) (x y:Am):Option Av:=
 (Gt x y).bind fun r0a=>
 (CT r0a r0a).bind fun r1a=>
 (if r1a<0 then some () else some ()).bind fun m3a=>
 (CT r0a r0a).bind fun r2a=>
 (if 0<r2a then some () else some ()).bind fun m4a=>
 some (⟨r0a,r0a⟩:Av)
def FO (x0:Av) (x1:Av) (x2:Int) (sr:Av) (x y:Am):Option Av:=
 (Gt x y).bind fun r0a=>
 (CT r0a sr.lo).bind fun r3a=>
 (if r3a<0 then some (r0a.m.Neg,r0a.m.Abs,r0a.e) else some (sr.lo.m.Neg,sr.lo.m.Abs,sr.lo.e)).bind fun m1a=>
 (CT r0a sr.hi).bind fun r4a=>
 (if 0<r4a then some (r0a.m.Neg,r0a.m.Abs,r0a.e) else some (sr.hi.m.Neg,sr.hi.m.Abs,sr.hi.e)).bind fun m2a=>
 some (⟨(⟨(⟨m1a.1,m1a.2.1⟩:Aj),m1a.2.2⟩:Am),(⟨(⟨m2a.1,m2a.2.1⟩:Aj),m2a.2.2⟩:Am)⟩:Av)
def HP (x0:Av) (x1:Av) (x2:Int):M (AD):=
 (IS x0 x1 x2 x0.lo x1.lo).bind fun s0a=>
 (FO x0 x1 x2 s0a x0.lo x1.hi).bind fun s1a=>
 (FO x0 x1 x2 s1a x0.hi x1.lo).bind fun s2a=>
 (FO x0 x1 x2 s2a x0.hi x1.hi).bind fun s3a=>
 (Gy s3a x2).bind fun r4a=>
 mb (FN r4a) fun r5a=>
 some (.ok r5a)
def Fm (x0:AJ) (x1:AJ) (x2:Int):M (AD × Int):=
 mb (Ft x0 x1) fun r7a=>
 mb (Fi x2) fun r8a=>
 (toN x0.Lo.Man.Abs).bind fun m0a=>
 (toN x0.Hi.Man.Abs).bind fun m1a=>
 (EK (⟨(⟨(⟨x0.Lo.Man.Neg,m0a⟩:Aj),x0.Lo.Exp⟩:Al),(⟨(⟨x0.Hi.Man.Neg,m1a⟩:Aj),x0.Hi.Exp⟩:Al)⟩:AD)).bind fun r2a=>
 (toN x1.Lo.Man.Abs).bind fun m3a=>
 (toN x1.Hi.Man.Abs).bind fun m4a=>
 (EK (⟨(⟨(⟨x1.Lo.Man.Neg,m3a⟩:Aj),x1.Lo.Exp⟩:Al),(⟨(⟨x1.Hi.Man.Neg,m4a⟩:Aj),x1.Hi.Exp⟩:Al)⟩:AD)).bind fun r5a=>
 mb (HP r2a r5a x2) fun r6a=>
 some (.ok (r6a,0))
def DX (x0:AJ) (x1:AJ) (x2:Int):Option (AD × Int):=(Fm x0 x1 x2).bind fun q=>match q with | .ok r=>some r | .error n=>some ((⟨(⟨(⟨false,0⟩:Aj),0⟩:Al),(⟨(⟨false,0⟩:Aj),0⟩:Al)⟩:AD),n)
def II (x0:AJ) (x1:AJ) (x2:Int):Option (AD × Int):=
 (DX x0 x1 x2).bind fun r0a=>
 some (r0a.1,r0a.2)
def DG (x0:Aj) (x1:Aj):Option (Bool):=
 (if x0.Neg=x1.Neg then (BA (limbs x0.Abs) (limbs x1.Abs)).bind fun r0a=>
 some (r0a) else some (false)).bind fun m1a=>
 some m1a
def Bl (x0:Al) (x1:Al):Option (Bool):=
 (DG x0.Man x1.Man).bind fun r0a=>
 (if r0a=true then some (decide (x0.Exp=x1.Exp)) else some (false)).bind fun m1a=>
 some m1a
def Dz (x0:AD) (x1:AD):Option (Bool):=
 (Bl x0.Lo x1.Lo).bind fun r0a=>
 (if r0a=true then (Bl x0.Hi x1.Hi).bind fun r1a=>
 some (r1a) else some (false)).bind fun m2a=>
 some m2a
def Ci (x0:Am) (x1:Am) (x2:Int) (x3:Int):Option (Am):=
 (BT x0).bind fun r3a=>
 if r3a=0 then some (⟨(⟨false,0⟩:Aj),0⟩:Am) else (Bz x1.m.Abs).bind fun r0a=>
 (Bz x0.m.Abs).bind fun r1a=>
 (Br x0.m.Abs (max 0 (wi64 ((wi64 ((wi64 (x2+2))+r0a)) - r1a)))).bind fun r4a=>
 (CV r4a x1.m.Abs).bind fun r2a=>
 (Bf (⟨(⟨(decide (¬x0.m.Neg=x1.m.Neg)),r2a.1⟩:Aj),(wi64 ((wi64 (x0.e - x1.e)) - (max 0 (wi64 ((wi64 ((wi64 (x2+2))+r0a)) - r1a)))))⟩:Am) x2 x3 (decide (0<(sz r2a.2:Int)))).bind fun r5a=>
 some r5a
def Jq (x0:Av) (x1:Av) (x2:Int) (x y:Am):Option Av:=
 (Ci x y x2 5).bind fun r0a=>
 (Ci x y x2 4).bind fun r1a=>
 (CT r0a r0a).bind fun r2a=>
 (if r2a<0 then some () else some ()).bind fun m4a=>
 (CT r1a r1a).bind fun r3a=>
 (if 0<r3a then some () else some ()).bind fun m5a=>
 some (⟨r0a,r1a⟩:Av)
def Gk (x0:Av) (x1:Av) (x2:Int) (sr:Av) (x y:Am):Option Av:=
 (Ci x y x2 5).bind fun r0a=>
 (Ci x y x2 4).bind fun r1a=>
 (CT r0a sr.lo).bind fun r4a=>
 (if r4a<0 then some (r0a.m.Neg,r0a.m.Abs,r0a.e) else some (sr.lo.m.Neg,sr.lo.m.Abs,sr.lo.e)).bind fun m2a=>
 (CT r1a sr.hi).bind fun r5a=>
 (if 0<r5a then some (r1a.m.Neg,r1a.m.Abs,r1a.e) else some (sr.hi.m.Neg,sr.hi.m.Abs,sr.hi.e)).bind fun m3a=>
 some (⟨(⟨(⟨m2a.1,m2a.2.1⟩:Aj),m2a.2.2⟩:Am),(⟨(⟨m3a.1,m3a.2.1⟩:Aj),m3a.2.2⟩:Am)⟩:Av)
def Ir (x0:Av) (x1:Av) (x2:Int):M (AD):=
 (BT x1.lo).bind fun r0a=>
 (BT x1.hi).bind fun r1a=>
 mb (CS (decide (0<(wi64 (r0a*r1a)))) 8) fun r7a=>
 (Jq x0 x1 x2 x0.lo x1.lo).bind fun s2a=>
 (Gk x0 x1 x2 s2a x0.lo x1.hi).bind fun s3a=>
 (Gk x0 x1 x2 s3a x0.hi x1.lo).bind fun s4a=>
 (Gk x0 x1 x2 s4a x0.hi x1.hi).bind fun s5a=>
 mb (FN s5a) fun r6a=>
 some (.ok r6a)
def Fv (x0:AJ) (x1:AJ) (x2:Int):M (AD × Int):=
 mb (Ft x0 x1) fun r7a=>
 mb (Fi x2) fun r8a=>
 (toN x0.Lo.Man.Abs).bind fun m0a=>
 (toN x0.Hi.Man.Abs).bind fun m1a=>
 (EK (⟨(⟨(⟨x0.Lo.Man.Neg,m0a⟩:Aj),x0.Lo.Exp⟩:Al),(⟨(⟨x0.Hi.Man.Neg,m1a⟩:Aj),x0.Hi.Exp⟩:Al)⟩:AD)).bind fun r2a=>
 (toN x1.Lo.Man.Abs).bind fun m3a=>
 (toN x1.Hi.Man.Abs).bind fun m4a=>
 (EK (⟨(⟨(⟨x1.Lo.Man.Neg,m3a⟩:Aj),x1.Lo.Exp⟩:Al),(⟨(⟨x1.Hi.Man.Neg,m4a⟩:Aj),x1.Hi.Exp⟩:Al)⟩:AD)).bind fun r5a=>
 mb (Ir r2a r5a x2) fun r6a=>
 some (.ok (r6a,0))
def Ej (x0:AJ) (x1:AJ) (x2:Int):Option (AD × Int):=(Fv x0 x1 x2).bind fun q=>match q with | .ok r=>some r | .error n=>some ((⟨(⟨(⟨false,0⟩:Aj),0⟩:Al),(⟨(⟨false,0⟩:Aj),0⟩:Al)⟩:AD),n)
def Ij (x0:AJ) (x1:AJ) (x2:Int):Option (AD × Int):=
 (Ej x0 x1 x2).bind fun r0a=>
 some (r0a.1,r0a.2)
def Ga (x0:Nat):Nat→Nat→Option (Nat × Nat)
 | 0,_=>none
 | n2a+1,v0a=>
 (CV x0 v0a).bind fun r3a=>
 (Cw v0a r3a.1).bind fun r4a=>
 (Cj r4a 1).bind fun r1a=>
 (Ck r1a v0a).bind fun r5a=>
 if 0≤r5a then (CU v0a v0a).bind fun r6a=>
 (Cm x0 r6a).bind fun r7a=>
 some (v0a,r7a) else Ga x0 n2a r1a
def HF (x0:Nat):Option (Nat × Nat):=
 if (sz x0:Int)=0 then some (0,0) else (Bz x0).bind fun r0a=>
 (Br 1 (wi64 ((wi64 (r0a+1)).tdiv 2))).bind fun r1a=>
 Ga x0 18446744073709551616 r1a
def Il (x0:Am) (x1:Int) (x2:Int):Option (Am):=
 (BT x0).bind fun r3a=>
 if r3a=0 then some (⟨(⟨false,0⟩:Aj),0⟩:Am) else (Bz x0.m.Abs).bind fun r0a=>
 (if ¬((wi64 (x0.e - (max 0 (wi64 ((wi64 ((wi64 (2*x1))+4)) - r0a)))))%2)=0 then some (wi64 ((max 0 (wi64 ((wi64 ((wi64 (2*x1))+4)) - r0a)))+1)) else some (max 0 (wi64 ((wi64 ((wi64 (2*x1))+4)) - r0a)))).bind fun m1a=>
 (Br x0.m.Abs m1a).bind fun r4a=>
 (HF r4a).bind fun r2a=>
 (Bf (⟨(⟨false,r2a.1⟩:Aj),(wi64 ((wi64 (x0.e - m1a)).tdiv 2))⟩:Am) x1 x2 (decide (0<(sz r2a.2:Int)))).bind fun r5a=>
 some r5a
def It (x0:Av) (x1:Av) (x2:Int):M (AD):=
 (BT x0.lo).bind fun r0a=>
 mb (CS (decide (0≤r0a)) 3) fun r4a=>
 (Il x0.lo x2 5).bind fun r1a=>
 (Il x0.hi x2 4).bind fun r2a=>
 mb (FN (⟨r1a,r2a⟩:Av)) fun r3a=>
 some (.ok r3a)
def FC (x0:AJ) (x1:AJ) (x2:Int):M (AD × Int):=
 mb (Ft x0 x1) fun r7a=>
 mb (Fi x2) fun r8a=>
 (toN x0.Lo.Man.Abs).bind fun m0a=>
 (toN x0.Hi.Man.Abs).bind fun m1a=>
 (EK (⟨(⟨(⟨x0.Lo.Man.Neg,m0a⟩:Aj),x0.Lo.Exp⟩:Al),(⟨(⟨x0.Hi.Man.Neg,m1a⟩:Aj),x0.Hi.Exp⟩:Al)⟩:AD)).bind fun r2a=>
 (toN x1.Lo.Man.Abs).bind fun m3a=>
 (toN x1.Hi.Man.Abs).bind fun m4a=>
 (EK (⟨(⟨(⟨x1.Lo.Man.Neg,m3a⟩:Aj),x1.Lo.Exp⟩:Al),(⟨(⟨x1.Hi.Man.Neg,m4a⟩:Aj),x1.Hi.Exp⟩:Al)⟩:AD)).bind fun r5a=>
 mb (It r2a r5a x2) fun r6a=>
 some (.ok (r6a,0))
def Em (x0:AJ) (x1:AJ) (x2:Int):Option (AD × Int):=(FC x0 x1 x2).bind fun q=>match q with | .ok r=>some r | .error n=>some ((⟨(⟨(⟨false,0⟩:Aj),0⟩:Al),(⟨(⟨false,0⟩:Aj),0⟩:Al)⟩:AD),n)
def IX (x0:AJ) (x1:Int):Option (AD × Int):=
 (Em x0 x0 x1).bind fun r0a=>
 some (r0a.1,r0a.2)
def DT:Option (Bool):=
 (Fa 12).bind fun r3=>
 (IV (⟨r3.Neg,(limbs r3.Abs)⟩:AQ) 3).bind fun r9a=>
 (Be 11 0).bind fun r7a=>
 (Ec (⟨(⟨r7a.Man.Neg,(limbs r7a.Man.Abs)⟩:AQ),r7a.Exp⟩:AC) 3 1).bind fun r0b=>
 (Be (-11) 0).bind fun r8a=>
 (Ec (⟨(⟨r8a.Man.Neg,(limbs r8a.Man.Abs)⟩:AQ),r8a.Exp⟩:AC) 2 5).bind fun r1b=>
 (BQ (-1) 2).bind fun r0a=>
 (BQ (-3) 5).bind fun r1a=>
 (II (⟨(⟨(⟨r0a.Lo.Man.Neg,(limbs r0a.Lo.Man.Abs)⟩:AQ),r0a.Lo.Exp⟩:AC),(⟨(⟨r0a.Hi.Man.Neg,(limbs r0a.Hi.Man.Abs)⟩:AQ),r0a.Hi.Exp⟩:AC)⟩:AJ) (⟨(⟨(⟨r1a.Lo.Man.Neg,(limbs r1a.Lo.Man.Abs)⟩:AQ),r1a.Lo.Exp⟩:AC),(⟨(⟨r1a.Hi.Man.Neg,(limbs r1a.Hi.Man.Abs)⟩:AQ),r1a.Hi.Exp⟩:AC)⟩:AJ) 8).bind fun r2b=>
 (if ¬r9a.2=0 then some (true) else some (decide (¬r0b.2=0))).bind fun m5b=>
 (if m5b=true then some (true) else some (decide (¬r1b.2=0))).bind fun m6b=>
 (if m6b=true then some (true) else some (decide (¬r2b.2=0))).bind fun m7b=>
 if m7b=true then some false else (Be 3 5).bind fun r8b=>
 (Bl r9a.1 r8b).bind fun r9b=>
 if ¬(r9b=true) then some false else (Be 12 0).bind fun r0c=>
 (Bl r0b.1 r0c).bind fun r1c=>
 if ¬(r1c=true) then some false else (Be (-12) 0).bind fun r2c=>
 (Bl r1b.1 r2c).bind fun r3c=>
 if ¬(r3c=true) then some false else (BQ (-6) 10).bind fun r4c=>
 (Dz r2b.1 r4c).bind fun r5c=>
 if ¬(r5c=true) then some false else (BQ 1 1).bind fun r2a=>
 (BQ 3 3).bind fun r3a=>
 (Ij (⟨(⟨(⟨r2a.Lo.Man.Neg,(limbs r2a.Lo.Man.Abs)⟩:AQ),r2a.Lo.Exp⟩:AC),(⟨(⟨r2a.Hi.Man.Neg,(limbs r2a.Hi.Man.Abs)⟩:AQ),r2a.Hi.Exp⟩:AC)⟩:AJ) (⟨(⟨(⟨r3a.Lo.Man.Neg,(limbs r3a.Lo.Man.Abs)⟩:AQ),r3a.Lo.Exp⟩:AC),(⟨(⟨r3a.Hi.Man.Neg,(limbs r3a.Hi.Man.Abs)⟩:AQ),r3a.Hi.Exp⟩:AC)⟩:AJ) 4).bind fun r3b=>
 (BQ 1 1).bind fun r4a=>
 (BQ (-1) 1).bind fun r5a=>
 (Ij (⟨(⟨(⟨r4a.Lo.Man.Neg,(limbs r4a.Lo.Man.Abs)⟩:AQ),r4a.Lo.Exp⟩:AC),(⟨(⟨r4a.Hi.Man.Neg,(limbs r4a.Hi.Man.Abs)⟩:AQ),r4a.Hi.Exp⟩:AC)⟩:AJ) (⟨(⟨(⟨r5a.Lo.Man.Neg,(limbs r5a.Lo.Man.Abs)⟩:AQ),r5a.Lo.Exp⟩:AC),(⟨(⟨r5a.Hi.Man.Neg,(limbs r5a.Hi.Man.Abs)⟩:AQ),r5a.Hi.Exp⟩:AC)⟩:AJ) 4).bind fun r6c=>
 (BQ 2 2).bind fun r6a=>
 (IX (⟨(⟨(⟨r6a.Lo.Man.Neg,(limbs r6a.Lo.Man.Abs)⟩:AQ),r6a.Lo.Exp⟩:AC),(⟨(⟨r6a.Hi.Man.Neg,(limbs r6a.Hi.Man.Abs)⟩:AQ),r6a.Hi.Exp⟩:AC)⟩:AJ) 4).bind fun r4b=>
 (Be 5 (-4)).bind fun r7c=>
 (Be 11 (-5)).bind fun r8c=>
 (Be 11 (-3)).bind fun r9c=>
 (Be 3 (-1)).bind fun r0d=>
 (if r3b.2=0 then some (decide (r6c.2=8)) else some (false)).bind fun m1d=>
 (if m1d=true then some (decide (r4b.2=0)) else some (false)).bind fun m2d=>
 (if m2d=true then (Dz r3b.1 (⟨r7c,r8c⟩:AD)).bind fun r3d=>
 some (r3d) else some (false)).bind fun m4d=>
 (if m4d=true then (Dz r4b.1 (⟨r9c,r0d⟩:AD)).bind fun r5d=>
 some (r5d) else some (false)).bind fun m6d=>
 some m6d
def Ey (x0:Int):Option (Bool):=
 (if 1≤x0 then some (decide (x0≤4096)) else some (false)).bind fun m0a=>
 some m0a
def DV (x0:Bool):Option (Int):=
 if ¬(x0=true) then some 1 else some 0
def Cc (x0:Nat) (x1:Nat):Nat→Nat→Nat→Option (Nat)
 | 0,_,_=>none
 | n2a+1,v1a,v0a=>
 if 0<(sz v0a:Int) then (Bc v1a v0a).bind fun r3a=>
 Cc x0 x1 n2a v0a r3a.R else some (v1a)
def ET (x0:Nat) (x1:Nat):Option (Nat):=
 (Cc x0 x1 18446744073709551616 x0 x1).bind fun m0a=>
 some m0a
def CM:Option (Nat):=
 some 1
def DJ (x0:Nat) (x1:Nat) (x2:Nat) (x3:Bool) (x4:Int):Option (Nat):=
 if (sz x1:Int)=0 then some x0 else (if x4=4 then some (decide (¬(x3=true))) else some (false)).bind fun m1a=>
 (if m1a=true then some (true) else (if x4=5 then some (x3) else some (false)).bind fun m2a=>
 some (m2a)).bind fun m3a=>
 (if x4=1 then some (true) else some (decide (x4=2))).bind fun m4a=>
 (if m4a=true then (BK x1 x1).bind fun r5a=>
 (BL r5a x2).bind fun r0a=>
 (if 0<r0a then some (true) else (if r0a=0 then (if x4=2 then some (true) else (if 0<(sz x0:Int) then (nth (limbs x0) 0).bind fun u6a=>
 some (decide ((u6a.tmod 2)=1)) else some (false)).bind fun m7a=>
 some (m7a)).bind fun m8a=>
 some (m8a) else some (false)).bind fun m9a=>
 some (m9a)).bind fun m0b=>
 some (m0b) else some (m3a)).bind fun m1b=>
 if m1b=true then (CM).bind fun r2b=>
 (BK x0 r2b).bind fun r3b=>
 some r3b else some x0
def CB (x0:Nat) (x1:Nat) (x2:Nat) (x3:Bool) (x4:Int) (x5:Int):Option (Al):=
 (DJ x0 x1 x2 x3 x4).bind fun r0a=>
 (CF x3 r0a).bind fun r1a=>
 (Et r1a x5).bind fun r2a=>
 some r2a
def Bn (x0:Ha) (x1:Int) (x2:Int):Option (Al):=
 if (sz x0.Num.Abs:Int)=0 then some (⟨(⟨false,0⟩:Aj),0⟩:Al) else (AW x0.Num.Abs).bind fun r0a=>
 (AW x0.Den).bind fun r1a=>
 (Bj x0.Num.Abs (max 0 (wi64 (0 - (wi64 ((wi64 (r0a - r1a)) - x1)))))).bind fun r6a=>
 (Bj x0.Den (max 0 (wi64 ((wi64 (r0a - r1a)) - x1)))).bind fun r4a=>
 (Bc r6a r4a).bind fun r2a=>
 (AW r2a.Q).bind fun r7a=>
 if r7a≤x1 then (CB r2a.Q r2a.R r4a x0.Num.Neg x2 (wi64 ((wi64 (r0a - r1a)) - x1))).bind fun r8a=>
 some r8a else (Bj x0.Num.Abs (max 0 (wi64 (0 - (wi64 ((wi64 ((wi64 (r0a - r1a)) - x1))+1)))))).bind fun r9a=>
 (Bj x0.Den (max 0 (wi64 ((wi64 ((wi64 (r0a - r1a)) - x1))+1)))).bind fun r5a=>
 (Bc r9a r5a).bind fun r3a=>
 (AW r3a.Q).bind fun r0b=>
 if r0b≤x1 then (CB r3a.Q r3a.R r5a x0.Num.Neg x2 (wi64 ((wi64 ((wi64 (r0a - r1a)) - x1))+1))).bind fun r1b=>
 some r1b else none
def Bt (x0:Al) (x1:Int) (x2:Int):Option (Al):=
 (AW x0.Man.Abs).bind fun r0a=>
 if (wi64 (r0a - x1))≤0 then some x0 else (CM).bind fun r3a=>
 (Bj r3a (wi64 (r0a - x1))).bind fun r1a=>
 (Bc x0.Man.Abs r1a).bind fun r2a=>
 (CB r2a.Q r2a.R r1a x0.Man.Neg x2 (wi64 (x0.Exp+(wi64 (r0a - x1))))).bind fun r4a=>
 some r4a
def Ep (x0:AC):Option (Bool):=
 (if (x0.Man.Abs.length:Int)≤60 then (if (-3000)≤x0.Exp then some (decide (x0.Exp≤3000)) else some (false)).bind fun m0a=>
 (if m0a=true then some (true) else (BD x0).bind fun r1a=>
 some (decide (¬(r1a=true)))).bind fun m2a=>
 some (m2a) else some (false)).bind fun m3a=>
 some m3a
def Fo (x0:Al):Option (Fg):=
 (BD (⟨(⟨x0.Man.Neg,(limbs x0.Man.Abs)⟩:AQ),x0.Exp⟩:AC)).bind fun r0a=>
 if ¬(r0a=true) then some (⟨(⟨(⟨false,0⟩:Aj),0⟩:Al),2⟩:Fg) else some (⟨x0,0⟩:Fg)
def GC (x0:Nat):Option (Bool):=
 (Fb (limbs x0)).bind fun r6=>
 some (decide (¬(r6=true)))
def HO (x0:Bool) (x1:Int):M (Unit):=
 if ¬(x0=true) then some (.error x1) else some (.ok ())
def Hy (x0:Nat):M (Nat):=
 mb (HO (decide ((sz x0:Int)≤1024)) 2) fun r7=>
 (Ee x0).bind fun r0a=>
 some (.ok r0a)
def BX (x0_0:Nat) (x0_1:Nat):Option (Int):=
 (GC x0_0).bind fun r0a=>
 if r0a=true then some 0 else (GC x0_1).bind fun r1a=>
 if r1a=true then some 1 else some (-1)
def BH (x0_0:Nat) (x0_1:Nat):Option (Bool):=
 (BX x0_0 x0_1).bind fun r0a=>
 some (decide (0≤r0a))
def Gi (x0_0:Nat) (x0_1:Nat):M (Unit):=
 (BH x0_0 x0_1).bind fun r8=>
 mb (HO (decide (¬(r8=true))) 1) fun r0a=>
 some (.ok ())
def Bv (x0:Al) (x1:Int) (x2:Int) (x3:Al):Option (Bool):=
 if ¬x2=0 then (if x1=x2 then (Bl x0 (⟨(⟨false,0⟩:Aj),0⟩:Al)).bind fun r1a=>
 some (r1a) else some (false)).bind fun m2a=>
 some m2a else (Fo x3).bind fun r0a=>
 (if x1=r0a.E then (Bl x0 r0a.D).bind fun r3a=>
 some (r3a) else some (false)).bind fun m4a=>
 some m4a
def DD (x0:EQ):Option (Bool):=
 (if (x0.Num.Abs.length:Int)≤60 then some (decide ((x0.Den.length:Int)≤60)) else some (false)).bind fun m0a=>
 some m0a
def Du (x0:Int):Option (Bool):=
 (if 1≤x0 then some (decide (x0≤5)) else some (false)).bind fun m0a=>
 some m0a
def Ed (x0:Nat) (x1:Nat):Nat→Nat→Nat→Option (Nat)
 | 0,_,_=>none
 | n2a+1,v1a,v0a=>
 if 0<(sz v0a:Int) then (BV v1a v0a).bind fun r3a=>
 Ed x0 x1 n2a v0a r3a.2 else some (v1a)
def Hv (x0:Nat) (x1:Nat):Option (Nat):=
 (Ed x0 x1 18446744073709551616 x0 x1).bind fun m0a=>
 some m0a
def DF (x0:Nat) (x1:Nat):M (Nat × Int):=
 mb (Gi x0 x1) fun r2a=>
 (Hv x0 x1).bind fun r0a=>
 mb (Hy r0a) fun r1a=>
 some (.ok (r1a,0))
def CG (x0:Nat) (x1:Nat):Option (Nat × Int):=(DF x0 x1).bind fun q=>match q with | .ok r=>some r | .error n=>none
def Iz (x0:Nat) (x1:Nat):Option (Nat × Int):=
 (CG x0 x1).bind fun r9=>
 some (r9.1,r9.2)
def Fj (x0:EQ):Option (Bool):=
 (Eb x0.Num).bind fun r1a=>
 (if ¬(r1a=true) then some (true) else (Fb x0.Den).bind fun r2a=>
 some (decide (¬(r2a=true)))).bind fun m3a=>
 (if m3a=true then some (true) else some (decide ((x0.Den.length:Int)=0))).bind fun m4a=>
 if m4a=true then some false else (toN x0.Num.Abs).bind fun m5a=>
 (toN x0.Den).bind fun m6a=>
 (Iz m5a m6a).bind fun r0a=>
 (if r0a.2=0 then some (decide ((sz r0a.1:Int)=1)) else some (false)).bind fun m7a=>
 (if m7a=true then (nth (limbs r0a.1) 0).bind fun u8a=>
 some (decide (u8a=1)) else some (false)).bind fun m9a=>
 some m9a
def HI (x0:Ha):Option (Am × Am):=
 (Hz x0.Num).bind fun r0a=>
 (Cz r0a 0).bind fun r1a=>
 (Cz (⟨false,x0.Den⟩:Aj) 0).bind fun r2a=>
 some (r1a,r2a)
def GE (x0:EQ) (x1:Int) (x2:Int):M (Al × Int):=
 (Fj x0).bind fun r1a=>
 mb (CS r1a 1) fun r6a=>
 mb (Fi x1) fun r7a=>
 mb (EX x2) fun r8a=>
 (toN x0.Num.Abs).bind fun m2a=>
 (toN x0.Den).bind fun m3a=>
 (HI (⟨(⟨x0.Num.Neg,m2a⟩:Aj),m3a⟩:Ha)).bind fun r0a=>
 (Ci r0a.1 r0a.2 x1 x2).bind fun r4a=>
 mb (DK r4a) fun r5a=>
 some (.ok (r5a,0))
def Ek (x0:EQ) (x1:Int) (x2:Int):Option (Al × Int):=(GE x0 x1 x2).bind fun q=>match q with | .ok r=>some r | .error n=>some ((⟨(⟨false,0⟩:Aj),0⟩:Al),n)
def Es (x0:EQ):Option (Bool):=
 (BP x0.Num).bind fun r0a=>
 (if ¬(r0a=true) then some (true) else (Bd x0.Den).bind fun r1a=>
 some (decide (¬(r1a=true)))).bind fun m2a=>
 (if m2a=true then some (true) else some (decide ((x0.Den.length:Int)=0))).bind fun m3a=>
 if m3a=true then some false else (toN x0.Num.Abs).bind fun m4a=>
 (toN x0.Den).bind fun m5a=>
 (ET m4a m5a).bind fun r6a=>
 (CM).bind fun r7a=>
 (BA (limbs r6a) (limbs r7a)).bind fun r8a=>
 some r8a
def DS (x0:AC) (x1:EQ) (x2:Int) (x3:Int):Option (Bool):=
 (Ep x0).bind fun r9a=>
 (if ¬(r9a=true) then some (true) else (DD x1).bind fun r0b=>
 some (decide (¬(r0b=true)))).bind fun m1b=>
 if m1b=true then (DT).bind fun r2b=>
 some r2b else (Ey x2).bind fun r3b=>
 (if r3b=true then (Du x3).bind fun r4b=>
 some (r4b) else some (false)).bind fun m4a=>
 (Ec x0 x2 x3).bind fun r5a=>
 (Ek x1 x2 x3).bind fun r6a=>
 (if m4a=true then (BD x0).bind fun r5b=>
 some (r5b) else some (false)).bind fun m6b=>
 (DV m6b).bind fun r7a=>
 (if m4a=true then (Es x1).bind fun r7b=>
 some (r7b) else some (false)).bind fun m8b=>
 (DV m8b).bind fun r8a=>
 (if r7a=0 then (toN x0.Man.Abs).bind fun m9b=>
 (Bt (⟨(⟨x0.Man.Neg,m9b⟩:Aj),x0.Exp⟩:Al) x2 x3).bind fun r0a=>
 some (r0a.Man.Neg,r0a.Man.Abs,r0a.Exp) else some (false,0,0)).bind fun m1a=>
 (if r8a=0 then (toN x1.Num.Abs).bind fun m0c=>
 (toN x1.Den).bind fun m1c=>
 (Bn (⟨(⟨x1.Num.Neg,m0c⟩:Aj),m1c⟩:Ha) x2 x3).bind fun r2a=>
 some (r2a.Man.Neg,r2a.Man.Abs,r2a.Exp) else some (false,0,0)).bind fun m3a=>
 (DT).bind fun r2c=>
 (if r2c=true then (Bv r5a.1 r5a.2 r7a (⟨(⟨m1a.1,m1a.2.1⟩:Aj),m1a.2.2⟩:Al)).bind fun r3c=>
 some (r3c) else some (false)).bind fun m4c=>
 (if m4c=true then (Bv r6a.1 r6a.2 r8a (⟨(⟨m3a.1,m3a.2.1⟩:Aj),m3a.2.2⟩:Al)).bind fun r5c=>
 some (r5c) else some (false)).bind fun m6c=>
 some m6c
end Go.Proofs

