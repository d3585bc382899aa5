import Derived.Test.YtabiobmfelafoaaGreatDoorProg
import Derived.Test.YtabiobmfelafoaaGreatDoorCor
import Derived.Test.YtabiobmfelafoaaGreatDoorRow
import Derived.Test.YtabiobmfelafoaaGreatDoorDef1
import Derived.Test.YtabiobmfelafoaaGreatDoorLC
namespace Go.Proofs
set_option linter.unusedVariables false
set_option linter.unusedSimpArgs false
set_option maxHeartbeats 4000000
open Go.RowKit Go.Sb Go.Proofs.Sbn
structure AW where
 Neg:Bool
 Abs:List Int
structure Ap where
 Man:AW
 Exp:Int
structure AO where
 Lo:Ap
 Hi:Ap
structure Ah where
 Neg:Bool
 Abs:Nat
structure Ak where
 Man:Ah
 Exp:Int
structure Am where
 m:Ah
 e:Int
structure AI where
 Lo:Ak
 Hi:Ak
structure AB where
 lo:Am
 hi:Am
structure Cz where
 Num:Ah
 Den:Nat
structure Hq where
 Q:Nat
 R:Nat
structure FV where
 Num:AW
 Den:List Int
theorem DE:agg Tryz.prog 29 6=true:=by kernel_rfl
theorem Mc:fieldAt Tryz.prog 29 0=some 0:=by kernel_rfl
theorem Bt:agg Tryz.prog 27 3=true:=by kernel_rfl
theorem Mb:fieldAt Tryz.prog 29 1=some 3:=by kernel_rfl
theorem Hm:HO Tryz.prog 27 [.bool false,.slice none 0 0,.int .i64 0]:=Fs (by kernel_rfl)
theorem LK:Tryz.prog.underlying 46=some (.slice 27):=by kernel_rfl
theorem FA:Ea Tryz.prog 27 3=true:=by kernel_rfl
theorem Ey:fieldAt Tryz.prog 27 0=some 0:=by kernel_rfl
theorem Bf:fieldAt Tryz.prog 25 1=some 1:=by kernel_rfl
theorem BJ:LC Tryz.prog 23=true:=by kernel_rfl
theorem AH:Tryz.prog.underlying 23=some (.slice 179):=by kernel_rfl
theorem Dq:agg Tryz.prog 25 2=true:=by kernel_rfl
theorem Qh:Ent Tryz.prog 143:=ent Tryz.func143 (by kernel_rfl) rfl
theorem DF:fieldAt Tryz.prog 25 0=some 0:=by kernel_rfl
theorem GC:LC Tryz.prog 4=true:=by kernel_rfl
theorem Ra:Ent Tryz.prog 61:=ent Tryz.func61 (by kernel_rfl) rfl
theorem EZ:fieldAt Tryz.prog 27 1=some 2:=by kernel_rfl
theorem EN:LC Tryz.prog 3=true:=by kernel_rfl
theorem Pm:Ent Tryz.prog 128:=ent Tryz.func128 (by kernel_rfl) rfl
theorem PH:Ent Tryz.prog 45:=ent Tryz.func45 (by kernel_rfl) rfl
theorem IJ:HO Tryz.prog 25 [.bool false,.slice none 0 0]:=Fs (by kernel_rfl)
theorem it_3:Tryz.prog.underlying 3=some (.int .i64):=by kernel_rfl
theorem AD:Tryz.prog.underlying 148=some (.int .u64):=by kernel_rfl
theorem NH:Ent Tryz.prog 179:=ent Tryz.func179 (by kernel_rfl) rfl
theorem GU:Ea Tryz.prog 25 2=true:=by kernel_rfl
theorem JO:Ent Tryz.prog 178:=ent Tryz.func178 (by kernel_rfl) rfl
theorem Rh:Ent Tryz.prog 96:=ent Tryz.func96 (by kernel_rfl) rfl
theorem JM:HO Tryz.prog 33 [.int .i64 0]:=Fs (by kernel_rfl)
theorem LG:Tryz.prog.underlying 20=some (.interface #[]):=by kernel_rfl
theorem Nn:Po Tryz.prog 201=true:=by kernel_rfl
theorem NM:HO Tryz.prog 201 [.int .i64 0]:=Fs (by kernel_rfl)
theorem NP:Ea Tryz.prog 201 1=true:=by kernel_rfl
theorem mo:Tryz.prog.follows .mixedOrders=true:=by kernel_rfl
theorem Mj:fieldAt Tryz.prog 201 0=some 0:=by kernel_rfl
theorem Dy:LC Tryz.prog 33=true:=by kernel_rfl
theorem HU:Ea Tryz.prog 33 1=true:=by kernel_rfl
theorem OQ:Ent Tryz.prog 208:=ent Tryz.func208 (by kernel_rfl) rfl
theorem NV:Ent Tryz.prog 151:=ent Tryz.func151 (by kernel_rfl) rfl
theorem EI:Ent Tryz.prog 102:=ent Tryz.func102 (by kernel_rfl) rfl
theorem KK:Ent Tryz.prog 135:=ent Tryz.func135 (by kernel_rfl) rfl
theorem Ib:HO Tryz.prog 117 [.bool false,.slice none 0 0]:=Fs (by kernel_rfl)
theorem Hr:Ea Tryz.prog 117 2=true:=by kernel_rfl
theorem EH:agg Tryz.prog 117 2=true:=by kernel_rfl
theorem OH:Ent Tryz.prog 137:=ent Tryz.func137 (by kernel_rfl) rfl
theorem Bn:HO Tryz.prog 119 [.bool false,.slice none 0 0,.int .i64 0]:=Fs (by kernel_rfl)
theorem BF:fieldAt Tryz.prog 117 1=some 1:=by kernel_rfl
theorem DI:LC Tryz.prog 115=true:=by kernel_rfl
theorem Aq:Tryz.prog.underlying 115=some (.slice 179):=by kernel_rfl
theorem CL:Ea Tryz.prog 119 3=true:=by kernel_rfl
theorem en_213:Ent Tryz.prog 213:=ent Tryz.func213 (by kernel_rfl) rfl
theorem Fz:fieldAt Tryz.prog 117 0=some 0:=by kernel_rfl
theorem MV:Ent Tryz.prog 204:=ent Tryz.func204 (by kernel_rfl) rfl
theorem LN:Ent Tryz.prog 152:=ent Tryz.func152 (by kernel_rfl) rfl
theorem CB:fieldAt Tryz.prog 119 0=some 0:=by kernel_rfl
theorem Ef:fieldAt Tryz.prog 119 1=some 2:=by kernel_rfl
theorem OU:Ent Tryz.prog 201:=ent Tryz.func201 (by kernel_rfl) rfl
theorem sz_115:Ea Tryz.prog 115 1=true:=by kernel_rfl
theorem en_202:Ent Tryz.prog 202:=ent Tryz.func202 (by kernel_rfl) rfl
theorem Ls:Ent Tryz.prog 136:=ent Tryz.func136 (by kernel_rfl) rfl
theorem en_60:Ent Tryz.prog 60:=ent Tryz.func60 (by kernel_rfl) rfl
theorem en_153:Ent Tryz.prog 153:=ent Tryz.func153 (by kernel_rfl) rfl
theorem OG:Ent Tryz.prog 154:=ent Tryz.func154 (by kernel_rfl) rfl
theorem QZ:Ent Tryz.prog 62:=ent Tryz.func62 (by kernel_rfl) rfl
theorem KW:Ent Tryz.prog 38:=ent Tryz.func38 (by kernel_rfl) rfl
theorem An:Ea Tryz.prog 179 1=true:=by kernel_rfl
theorem AQ:LC Tryz.prog 179=true:=by kernel_rfl
theorem Ou:Ent Tryz.prog 64:=ent Tryz.func64 (by kernel_rfl) rfl
theorem Ki:Ent Tryz.prog 120:=ent Tryz.func120 (by kernel_rfl) rfl
theorem Lh:Ent Tryz.prog 138:=ent Tryz.func138 (by kernel_rfl) rfl
theorem Qz:Ent Tryz.prog 139:=ent Tryz.func139 (by kernel_rfl) rfl
theorem Kw:Ent Tryz.prog 121:=ent Tryz.func121 (by kernel_rfl) rfl
theorem ME:Ent Tryz.prog 184:=ent Tryz.func184 (by kernel_rfl) rfl
theorem KG:Ent Tryz.prog 185:=ent Tryz.func185 (by kernel_rfl) rfl
theorem Pg:Ent Tryz.prog 203:=ent Tryz.func203 (by kernel_rfl) rfl
theorem NL:Ent Tryz.prog 191:=ent Tryz.func191 (by kernel_rfl) rfl
theorem Ge:HO Tryz.prog 179 [.int .u32 0]:=Fs (by kernel_rfl)
theorem Nd:Ent Tryz.prog 205:=ent Tryz.func205 (by kernel_rfl) rfl
theorem en_206:Ent Tryz.prog 206:=ent Tryz.func206 (by kernel_rfl) rfl
theorem Ph:Ent Tryz.prog 207:=ent Tryz.func207 (by kernel_rfl) rfl
theorem Ni:Ent Tryz.prog 140:=ent Tryz.func140 (by kernel_rfl) rfl
theorem Re:Ent Tryz.prog 55:=ent Tryz.func55 (by kernel_rfl) rfl
theorem Ii:HO Tryz.prog 29 [.bool false,.slice none 0 0,.int .i64 0,.bool false,.slice none 0 0,.int .i64 0]:=Fs (by kernel_rfl)
theorem HJ:Ea Tryz.prog 29 6=true:=by kernel_rfl
theorem MJ:Ent Tryz.prog 97:=ent Tryz.func97 (by kernel_rfl) rfl
theorem Mx:Tryz.prog.underlying 230=some (.slice 29):=by kernel_rfl
theorem en_182:Ent Tryz.prog 182:=ent Tryz.func182 (by kernel_rfl) rfl
theorem Kz:Ent Tryz.prog 103:=ent Tryz.func103 (by kernel_rfl) rfl
theorem Qs:Ent Tryz.prog 187:=ent Tryz.func187 (by kernel_rfl) rfl
theorem Pi:Ent Tryz.prog 122:=ent Tryz.func122 (by kernel_rfl) rfl
theorem en_192:Ent Tryz.prog 192:=ent Tryz.func192 (by kernel_rfl) rfl
theorem en_115:Ent Tryz.prog 115:=ent Tryz.func115 (by kernel_rfl) rfl
theorem Ps:Tryz.prog.underlying 4=some .bool:=by kernel_rfl
theorem en_196:Ent Tryz.prog 196:=ent Tryz.func196 (by kernel_rfl) rfl
theorem en_195:Ent Tryz.prog 195:=ent Tryz.func195 (by kernel_rfl) rfl
theorem en_194:Ent Tryz.prog 194:=ent Tryz.func194 (by kernel_rfl) rfl
theorem en_124:Ent Tryz.prog 124:=ent Tryz.func124 (by kernel_rfl) rfl
theorem JE:Ent Tryz.prog 106:=ent Tryz.func106 (by kernel_rfl) rfl
theorem Ro:Ent Tryz.prog 65:=ent Tryz.func65 (by kernel_rfl) rfl
theorem Mq:Ent Tryz.prog 162:=ent Tryz.func162 (by kernel_rfl) rfl
theorem Jj:Ent Tryz.prog 161:=ent Tryz.func161 (by kernel_rfl) rfl
theorem Qm:HO Tryz.prog 121 [.bool false,.slice none 0 0,.int .i64 0,.bool false,.slice none 0 0,.int .i64 0]:=Fs (by kernel_rfl)
theorem Qw:Ea Tryz.prog 121 6=true:=by kernel_rfl
theorem Ln:agg Tryz.prog 121 6=true:=by kernel_rfl
theorem MB:Ent Tryz.prog 163:=ent Tryz.func163 (by kernel_rfl) rfl
theorem PT:HO Tryz.prog 124 [.pointer none]:=Fs (by kernel_rfl)
theorem PS:Ent Tryz.prog 104:=ent Tryz.func104 (by kernel_rfl) rfl
theorem Qe:Ent Tryz.prog 183:=ent Tryz.func183 (by kernel_rfl) rfl
theorem QI:Ent Tryz.prog 241:=ent Tryz.func241 (by kernel_rfl) rfl
theorem en_193:Ent Tryz.prog 193:=ent Tryz.func193 (by kernel_rfl) rfl
theorem OK:Ent Tryz.prog 117:=ent Tryz.func117 (by kernel_rfl) rfl
theorem Gd:LC Tryz.prog 124=true:=by kernel_rfl
theorem NW:Tryz.prog.underlying 124=some (.pointer 121):=by kernel_rfl
theorem QK:Ea Tryz.prog 124 1=true:=by kernel_rfl
theorem en_118:Ent Tryz.prog 118:=ent Tryz.func118 (by kernel_rfl) rfl
theorem Mv:Ent Tryz.prog 107:=ent Tryz.func107 (by kernel_rfl) rfl
theorem QM:Ent Tryz.prog 116:=ent Tryz.func116 (by kernel_rfl) rfl
theorem Pj:Ent Tryz.prog 100:=ent Tryz.func100 (by kernel_rfl) rfl
theorem en_32:Ent Tryz.prog 32:=ent Tryz.func32 (by kernel_rfl) rfl
theorem OI:Ent Tryz.prog 144:=ent Tryz.func144 (by kernel_rfl) rfl
theorem Rf:Ent Tryz.prog 86:=ent Tryz.func86 (by kernel_rfl) rfl
theorem Ox:Ent Tryz.prog 37:=ent Tryz.func37 (by kernel_rfl) rfl
theorem Qd:Ent Tryz.prog 76:=ent Tryz.func76 (by kernel_rfl) rfl
theorem QQ:Ent Tryz.prog 186:=ent Tryz.func186 (by kernel_rfl) rfl
theorem DU:Ent Tryz.prog 105:=ent Tryz.func105 (by kernel_rfl) rfl
theorem Qk:Ent Tryz.prog 101:=ent Tryz.func101 (by kernel_rfl) rfl
theorem Rg:Ent Tryz.prog 21:=ent Tryz.func21 (by kernel_rfl) rfl
theorem en_190:Ent Tryz.prog 190:=ent Tryz.func190 (by kernel_rfl) rfl
theorem QF:Ent Tryz.prog 111:=ent Tryz.func111 (by kernel_rfl) rfl
theorem Qx:Ent Tryz.prog 110:=ent Tryz.func110 (by kernel_rfl) rfl
theorem en_25:Ent Tryz.prog 25:=ent Tryz.func25 (by kernel_rfl) rfl
theorem PM:Ent Tryz.prog 15:=ent Tryz.func15 (by kernel_rfl) rfl
theorem en_131:Ent Tryz.prog 131:=ent Tryz.func131 (by kernel_rfl) rfl
theorem en_47:Ent Tryz.prog 47:=ent Tryz.func47 (by kernel_rfl) rfl
theorem Mz:Ent Tryz.prog 148:=ent Tryz.func148 (by kernel_rfl) rfl
theorem PQ:Ent Tryz.prog 130:=ent Tryz.func130 (by kernel_rfl) rfl
theorem OM:Ent Tryz.prog 189:=ent Tryz.func189 (by kernel_rfl) rfl
theorem Mw:Ent Tryz.prog 198:=ent Tryz.func198 (by kernel_rfl) rfl
theorem Qu:Ent Tryz.prog 199:=ent Tryz.func199 (by kernel_rfl) rfl
theorem en_129:Ent Tryz.prog 129:=ent Tryz.func129 (by kernel_rfl) rfl
theorem en_46:Ent Tryz.prog 46:=ent Tryz.func46 (by kernel_rfl) rfl
theorem Rl:Ent Tryz.prog 23:=ent Tryz.func23 (by kernel_rfl) rfl
theorem en_83:Ent Tryz.prog 83:=ent Tryz.func83 (by kernel_rfl) rfl
theorem Qo:HO Tryz.prog 65 [.bool false,.slice none 0 0,.slice none 0 0]:=Fs (by kernel_rfl)
theorem Oa:Ent Tryz.prog 149:=ent Tryz.func149 (by kernel_rfl) rfl
theorem Np:HO Tryz.prog 171 [.slice none 0 0,.slice none 0 0]:=Fs (by kernel_rfl)
theorem LQ:Ea Tryz.prog 171 2=true:=by kernel_rfl
theorem Ow:fieldAt Tryz.prog 171 1=some 1:=by kernel_rfl
theorem QA:Ent Tryz.prog 145:=ent Tryz.func145 (by kernel_rfl) rfl
theorem Nl:Ent Tryz.prog 146:=ent Tryz.func146 (by kernel_rfl) rfl
theorem Ol:Ea Tryz.prog 65 3=true:=by kernel_rfl
theorem Ot:OS Tryz.prog 171 0=some 0:=by kernel_rfl
theorem Kl:agg Tryz.prog 65 3=true:=by kernel_rfl
theorem en_160:Ent Tryz.prog 160:=ent Tryz.func160 (by kernel_rfl) rfl
theorem IE:fieldAt Tryz.prog 65 0=some 0:=by kernel_rfl
theorem HV:fieldAt Tryz.prog 65 1=some 2:=by kernel_rfl
theorem en_200:Ent Tryz.prog 200:=ent Tryz.func200 (by kernel_rfl) rfl
theorem Qn:Ent Tryz.prog 132:=ent Tryz.func132 (by kernel_rfl) rfl
theorem en_181:Ent Tryz.prog 181:=ent Tryz.func181 (by kernel_rfl) rfl
theorem en_99:Ent Tryz.prog 99:=ent Tryz.func99 (by kernel_rfl) rfl
theorem OX:Ent Tryz.prog 147:=ent Tryz.func147 (by kernel_rfl) rfl
theorem fa_171_0:fieldAt Tryz.prog 171 0=some 0:=by kernel_rfl
theorem en_212:Ent Tryz.prog 212:=ent Tryz.func212 (by kernel_rfl) rfl
theorem No:agg Tryz.prog 171 2=true:=by kernel_rfl
theorem Rn:Ent Tryz.prog 44:=ent Tryz.func44 (by kernel_rfl) rfl
theorem Qt:Ea Tryz.prog 3 1=true:=by kernel_rfl
theorem OJ:Tryz.prog.underlying 253=some (.slice 25):=by kernel_rfl
theorem en_270:Ent Tryz.prog 270:=ent Tryz.func270 (by kernel_rfl) rfl
theorem en_284:Ent Tryz.prog 284:=ent Tryz.func284 (by kernel_rfl) rfl
theorem en_269:Ent Tryz.prog 269:=ent Tryz.func269 (by kernel_rfl) rfl
theorem ni_274:Po Tryz.prog 274=true:=by kernel_rfl
theorem NR:Ent Tryz.prog 248:=ent Tryz.func248 (by kernel_rfl) rfl
theorem QG:Ent Tryz.prog 247:=ent Tryz.func247 (by kernel_rfl) rfl
theorem OB:HO Tryz.prog 23 [.slice none 0 0]:=Fs (by kernel_rfl)
theorem Kk:Tryz.prog.underlying 260=some (.slice 23):=by kernel_rfl
theorem LV:Ea Tryz.prog 23 1=true:=by kernel_rfl
theorem Pu:Ent Tryz.prog 255:=ent Tryz.func255 (by kernel_rfl) rfl
theorem QE:Ent Tryz.prog 274:=ent Tryz.func274 (by kernel_rfl) rfl
theorem QO:Ent Tryz.prog 254:=ent Tryz.func254 (by kernel_rfl) rfl
theorem ni_258:Po Tryz.prog 258=true:=by kernel_rfl
theorem IG:Ent Tryz.prog 224:=ent Tryz.func224 (by kernel_rfl) rfl
theorem Kj:Ent Tryz.prog 223:=ent Tryz.func223 (by kernel_rfl) rfl
theorem NG:Ent Tryz.prog 226:=ent Tryz.func226 (by kernel_rfl) rfl
theorem AU:Tryz.prog.underlying 228=some (.slice 179):=by kernel_rfl
theorem en_256:Ent Tryz.prog 256:=ent Tryz.func256 (by kernel_rfl) rfl
theorem Ke:Ent Tryz.prog 225:=ent Tryz.func225 (by kernel_rfl) rfl
theorem Mt:Ent Tryz.prog 222:=ent Tryz.func222 (by kernel_rfl) rfl
theorem en_158:Ent Tryz.prog 158:=ent Tryz.func158 (by kernel_rfl) rfl
theorem Kf:Ent Tryz.prog 218:=ent Tryz.func218 (by kernel_rfl) rfl
theorem ON:Ent Tryz.prog 249:=ent Tryz.func249 (by kernel_rfl) rfl
theorem PU:Ent Tryz.prog 219:=ent Tryz.func219 (by kernel_rfl) rfl
theorem Nq:fieldAt Tryz.prog 252 0=some 0:=by kernel_rfl
theorem Pe:LC Tryz.prog 249=true:=by kernel_rfl
theorem OV:Ent Tryz.prog 251:=ent Tryz.func251 (by kernel_rfl) rfl
theorem en_252:Ent Tryz.prog 252:=ent Tryz.func252 (by kernel_rfl) rfl
theorem QC:Ent Tryz.prog 250:=ent Tryz.func250 (by kernel_rfl) rfl
theorem Pk:Ent Tryz.prog 242:=ent Tryz.func242 (by kernel_rfl) rfl
theorem en_220:Ent Tryz.prog 220:=ent Tryz.func220 (by kernel_rfl) rfl
theorem en_253:Ent Tryz.prog 253:=ent Tryz.func253 (by kernel_rfl) rfl
theorem en_221:Ent Tryz.prog 221:=ent Tryz.func221 (by kernel_rfl) rfl
theorem Pr:Ent Tryz.prog 217:=ent Tryz.func217 (by kernel_rfl) rfl
theorem Ql:Ent Tryz.prog 157:=ent Tryz.func157 (by kernel_rfl) rfl
theorem OT:Ent Tryz.prog 216:=ent Tryz.func216 (by kernel_rfl) rfl
theorem QN:Ent Tryz.prog 215:=ent Tryz.func215 (by kernel_rfl) rfl
theorem en_246:Ent Tryz.prog 246:=ent Tryz.func246 (by kernel_rfl) rfl
theorem en_214:Ent Tryz.prog 214:=ent Tryz.func214 (by kernel_rfl) rfl
theorem en_156:Ent Tryz.prog 156:=ent Tryz.func156 (by kernel_rfl) rfl
theorem en_159:Ent Tryz.prog 159:=ent Tryz.func159 (by kernel_rfl) rfl
theorem Ri:Ent Tryz.prog 67:=ent Tryz.func67 (by kernel_rfl) rfl
theorem en_53:Ent Tryz.prog 53:=ent Tryz.func53 (by kernel_rfl) rfl
theorem en_244:Ent Tryz.prog 244:=ent Tryz.func244 (by kernel_rfl) rfl
theorem en_243:Ent Tryz.prog 243:=ent Tryz.func243 (by kernel_rfl) rfl
theorem en_209:Ent Tryz.prog 209:=ent Tryz.func209 (by kernel_rfl) rfl
theorem en_141:Ent Tryz.prog 141:=ent Tryz.func141 (by kernel_rfl) rfl
theorem en_142:Ent Tryz.prog 142:=ent Tryz.func142 (by kernel_rfl) rfl
theorem Rc:Ent Tryz.prog 57:=ent Tryz.func57 (by kernel_rfl) rfl
theorem Rp:HO Tryz.prog 3 [.int .i64 0]:=Fs (by kernel_rfl)
theorem KZ:Ent Tryz.prog 119:=ent Tryz.func119 (by kernel_rfl) rfl
theorem en_41:Ent Tryz.prog 41:=ent Tryz.func41 (by kernel_rfl) rfl
theorem en_36:Ent Tryz.prog 36:=ent Tryz.func36 (by kernel_rfl) rfl
theorem en_81:Ent Tryz.prog 81:=ent Tryz.func81 (by kernel_rfl) rfl
theorem OR:Ent Tryz.prog 167:=ent Tryz.func167 (by kernel_rfl) rfl
theorem en_82:Ent Tryz.prog 82:=ent Tryz.func82 (by kernel_rfl) rfl
theorem en_84:Ent Tryz.prog 84:=ent Tryz.func84 (by kernel_rfl) rfl
theorem en_85:Ent Tryz.prog 85:=ent Tryz.func85 (by kernel_rfl) rfl
theorem en_168:Ent Tryz.prog 168:=ent Tryz.func168 (by kernel_rfl) rfl
theorem en_87:Ent Tryz.prog 87:=ent Tryz.func87 (by kernel_rfl) rfl
def Gq (_w:World) (r:Bool) (v:Value):Prop:=v = .bool r
def Jm (w:World) (r:Ah) (v:Value):Prop:=∃(A1:Option Addr) (c1:Nat),v = .agg #[.bool r.Neg,.slice A1 (sz r.Abs) c1]∧RU w A1 c1 r.Abs
def Nx (w:World) (r:Ak × Int) (v:Value):Prop:=∃(A1:Option Addr) (c1:Nat),v = .tuple #[.agg #[.bool r.1.Man.Neg,.slice A1 (sz r.1.Man.Abs) c1,.int .i64 r.1.Exp],.int .i64 r.2]∧RU w A1 c1 r.1.Man.Abs
def Ld (_w:World) (_r:Unit) (v:Value):Prop:=v = .tuple #[]
def Mn (w:World) (r:Ah) (v:Value):Prop:=∃(A1:Option Addr) (c1:Nat),v = .agg #[.bool r.Neg,.slice A1 (sz r.Abs) c1]∧RU w A1 c1 r.Abs
def IS (w:World) (r:Am) (v:Value):Prop:=∃(A1:Option Addr) (c1:Nat),v = .agg #[.bool r.m.Neg,.slice A1 (sz r.m.Abs) c1,.int .i64 r.e]∧RU w A1 c1 r.m.Abs
def MZ (w:World) (r:Ak) (v:Value):Prop:=∃(A1:Option Addr) (c1:Nat),v = .agg #[.bool r.Man.Neg,.slice A1 (sz r.Man.Abs) c1,.int .i64 r.Exp]∧RU w A1 c1 r.Man.Abs
def Nr (w:World) (r:AI) (v:Value):Prop:=∃(A1:Option Addr) (c1:Nat) (A2:Option Addr) (c2:Nat),v = .agg #[.bool r.Lo.Man.Neg,.slice A1 (sz r.Lo.Man.Abs) c1,.int .i64 r.Lo.Exp,.bool r.Hi.Man.Neg,.slice A2 (sz r.Hi.Man.Abs) c2,.int .i64 r.Hi.Exp]∧RU w A1 c1 r.Lo.Man.Abs∧RU w A2 c2 r.Hi.Man.Abs
def Jy (w:World) (r:AI × Int) (v:Value):Prop:=∃(A1:Option Addr) (c1:Nat) (A2:Option Addr) (c2:Nat),v = .tuple #[.agg #[.bool r.1.Lo.Man.Neg,.slice A1 (sz r.1.Lo.Man.Abs) c1,.int .i64 r.1.Lo.Exp,.bool r.1.Hi.Man.Neg,.slice A2 (sz r.1.Hi.Man.Abs) c2,.int .i64 r.1.Hi.Exp],.int .i64 r.2]∧RU w A1 c1 r.1.Lo.Man.Abs∧RU w A2 c2 r.1.Hi.Man.Abs
def Fy (_w:World) (r:Int) (v:Value):Prop:=v = .int .i64 r
def PF (w:World) (r:AB) (v:Value):Prop:=∃(A1:Option Addr) (c1:Nat) (A2:Option Addr) (c2:Nat),v = .agg #[.bool r.lo.m.Neg,.slice A1 (sz r.lo.m.Abs) c1,.int .i64 r.lo.e,.bool r.hi.m.Neg,.slice A2 (sz r.hi.m.Abs) c2,.int .i64 r.hi.e]∧RU w A1 c1 r.lo.m.Abs∧RU w A2 c2 r.hi.m.Abs
def MI (w:World) (r:Nat × Nat) (v:Value):Prop:=∃(A1:Option Addr) (c1:Nat) (A2:Option Addr) (c2:Nat),v = .tuple #[.slice A1 (sz r.1) c1,.slice A2 (sz r.2) c2]∧RU w A1 c1 r.1∧RU w A2 c2 r.2
def OL (w:World) (r:Cz) (v:Value):Prop:=∃(A1:Option Addr) (c1:Nat) (A2:Option Addr) (c2:Nat),v = .agg #[.bool r.Num.Neg,.slice A1 (sz r.Num.Abs) c1,.slice A2 (sz r.Den) c2]∧RU w A1 c1 r.Num.Abs∧RU w A2 c2 r.Den
def Jn (w:World) (r:Nat) (v:Value):Prop:=∃(A1:Option Addr) (c1:Nat),v = .slice A1 (sz r) c1∧RU w A1 c1 r
def rep_171 (w:World) (r:Hq) (v:Value):Prop:=∃(A1:Option Addr) (c1:Nat) (A2:Option Addr) (c2:Nat),v = .agg #[.slice A1 (sz r.Q) c1,.slice A2 (sz r.R) c2]∧RU w A1 c1 r.Q∧RU w A2 c2 r.R
def MA (w:World) (r:Ah × Int) (v:Value):Prop:=∃(A1:Option Addr) (c1:Nat),v = .tuple #[.agg #[.bool r.1.Neg,.slice A1 (sz r.1.Abs) c1],.int .i64 r.2]∧RU w A1 c1 r.1.Abs
def Ij (w:World) (r:Nat × Int) (v:Value):Prop:=∃(A1:Option Addr) (c1:Nat),v = .tuple #[.slice A1 (sz r.1) c1,.int .i64 r.2]∧RU w A1 c1 r.1
def KC (w:World) (r:Nat) (v:Value):Prop:=∃(A1:Option Addr) (c1:Nat),v = .slice A1 (sz r) c1∧RU w A1 c1 r
def rep_119_119 (w:World) (r:Am × Am) (v:Value):Prop:=∃(A1:Option Addr) (c1:Nat) (A2:Option Addr) (c2:Nat),v = .tuple #[.agg #[.bool r.1.m.Neg,.slice A1 (sz r.1.m.Abs) c1,.int .i64 r.1.e],.agg #[.bool r.2.m.Neg,.slice A2 (sz r.2.m.Abs) c2,.int .i64 r.2.e]]∧RU w A1 c1 r.1.m.Abs∧RU w A2 c2 r.2.m.Abs
def MX (_w:World) (r:Int × Int) (v:Value):Prop:=v = .tuple #[.int .i64 r.1,.int .i64 r.2]
def Ma (_w:World) (r:Int) (v:Value):Prop:=v = .int .u64 r
def Lw (w:World) (r:Nat) (v:Value):Prop:=∃(A1:Option Addr) (c1:Nat),v = .slice A1 (sz r) c1∧RU w A1 c1 r
def rep_228_228 (w:World) (r:Nat × Nat) (v:Value):Prop:=∃(A1:Option Addr) (c1:Nat) (A2:Option Addr) (c2:Nat),v = .tuple #[.slice A1 (sz r.1) c1,.slice A2 (sz r.2) c2]∧RU w A1 c1 r.1∧RU w A2 c2 r.2
abbrev Bk (x0:List Int):Option (Bool):=Lf.Bk x0
abbrev Ca (x0:List Int) (x1:Int):Option (Int):=Lf.Ca x0 x1
def CM (x0:Int):Option (Nat):=(gd (0≤x0∧x0<18446744073709551616)).bind fun _=>some (x0.toNat)
abbrev Gs (x0:List Int):Option (Bool):=Lf.Gs x0
def Db (x0:Nat):Option (Int):=(gd (sz x0<1073741824)).bind fun _=>some (Lf.tz x0:Int)
def CK (x0:Nat) (x1:Int):Option (Nat):=(gd (sz x0<1073741824∧0≤x1∧x1<9223372036854775808)).bind fun _=>some (x0/2^x1.toNat)
def Dk (x0:Nat):Option (Nat):=(gd (sz x0<1073741824)).bind fun _=>some (x0)
def BS (x0:Nat):Option (Int):=(gd (sz x0<1073741824)).bind fun _=>some (Lf.tz x0:Int)
def BZ (x0:Nat) (x1:Int):Option (Nat):=(gd (sz x0<1073741824∧0≤x1∧x1<9223372036854775808)).bind fun _=>some (x0/2^x1.toNat)
def BA (x0:Nat):Option (Int):=(gd (sz x0<1073741824)).bind fun _=>some (Lf.bl x0:Int)
def BD (x0:Nat) (x1:Int):Option (Nat):=(gd (sz x0<1073741824∧0≤x1∧x1<34359738368)).bind fun _=>some (x0*2^x1.toNat)
def CH (x0:Nat) (x1:Nat):Option (Nat):=(gd (sz x0<1073741824∧sz x1<1073741824∧x1≤x0)).bind fun _=>some (x0 - x1)
def CI (x0:Nat) (x1:Nat):Option (Int):=(gd (sz x0<1073741824∧sz x1<1073741824)).bind fun _=>some (Lf.cmpw x0 x1)
def Da (x0:Nat) (x1:Nat):Option (Nat):=(gd (sz x0<1073741824∧sz x1<1073741824)).bind fun _=>some (x0+x1)
def DB (x0:Nat) (x1:Nat):Option (Nat):=(gd (sz x0<1073741824∧sz x1<1073741824)).bind fun _=>some (x0*x1)
abbrev Bc (x0:List Int) (x1:List Int):Option (Bool):=Lf.Bc x0 x1
def Dv (x0:Nat) (x1:Nat):Option (Nat × Nat):=(gd (sz x0<1073741824∧sz x1<1073741824∧x1≠0)).bind fun _=>some (x0/x1,x0%x1)
def Br (x0:Nat) (x1:Int):Option (Nat):=(gd (sz x0<1073741824∧0≤x1∧x1<34359738368)).bind fun _=>some (x0*2^x1.toNat)
def Bw (x0:Nat) (x1:Nat):Option (Nat):=(gd (sz x0<1073741824∧sz x1<1073741824)).bind fun _=>some (x0+x1)
def Bs (x0:Nat) (x1:Nat):Option (Int):=(gd (sz x0<1073741824∧sz x1<1073741824)).bind fun _=>some (Lf.sgnc x0 x1)
def BY (x0:Nat) (x1:Nat):Option (Nat):=(gd (sz x0<1073741824∧sz x1<1073741824∧x1≤x0)).bind fun _=>some (x0 - x1)
def Bi (x0:Nat) (x1:Nat):Option (Hq):=(gd (sz x0<1073741824∧sz x1<1073741824∧x1≠0)).bind fun _=>some (⟨x0/x1,x0%x1⟩)
def Cy (x0:Nat) (x1:Nat):Option (Nat):=(gd (sz x0<1073741824∧sz x1<1073741824)).bind fun _=>some (x0*x1)
def BN (x0:Nat):Option (Int):=(gd (sz x0<1073741824)).bind fun _=>some (Lf.bl x0:Int)
def CX (x0:Nat) (x1:Int):Option (Nat):=(gd (sz x0<1073741824∧0≤x1∧x1<34359738368)).bind fun _=>some (x0*2^x1.toNat)
def Fb (x0:Nat):Option (Nat):=(gd (sz x0<1073741824)).bind fun _=>some (x0)
def DD (x0:Nat) (x1:Int):Option (Nat):=(gd (sz x0<1073741824∧0≤x1∧x1<9223372036854775808)).bind fun _=>some (x0/2^x1.toNat)
def DX (x0:Nat) (x1:Nat):Option (Int):=(gd (sz x0<1073741824∧sz x1<1073741824)).bind fun _=>some (Lf.sgnc x0 x1)
def DW (x0:Nat) (x1:Nat):Option (Nat):=(gd (sz x0<1073741824∧sz x1<1073741824∧x1≤x0)).bind fun _=>some (x0 - x1)
def DY (x0:Nat) (x1:Nat):Option (Nat):=(gd (sz x0<1073741824∧sz x1<1073741824)).bind fun _=>some (x0+x1)
def Cu (x0:Nat):Option (Nat):=(gd (sz x0<1073741824)).bind fun _=>some (x0)
def Cm (x0:Nat) (x1:Nat):Option (Nat × Nat):=(gd (sz x0<1073741824∧sz x1<1073741824∧x1≠0)).bind fun _=>some (x0/x1,x0%x1)
def Cd (x0:AW):Option (Bool):=
 (Bk x0.Abs).bind fun r0a=>
 (if r0a=true then (if ¬(x0.Neg=true) then some (true) else some (decide (0<(x0.Abs.length:Int)))).bind fun m1a=>
 some (m1a) else some (false)).bind fun m2a=>
 some m2a
def BT (x0:Ap):Option (Bool):=
 (Cd x0.Man).bind fun r0a=>
 if ¬(r0a=true) then some false else if (x0.Man.Abs.length:Int)=0 then some (decide (x0.Exp=0)) else (Ca x0.Man.Abs 0).bind fun r1a=>
 (if r1a=1 then some (decide ((-1048576)≤x0.Exp)) else some (false)).bind fun m2a=>
 (if m2a=true then some (decide (x0.Exp≤1048576)) else some (false)).bind fun m3a=>
 some m3a
def AK (x0:Bool) (x1:Nat):Option (Ah):=
 (if x0=true then some (decide (0<(sz x1:Int))) else some (false)).bind fun m0a=>
 some (⟨m0a,x1⟩:Ah)
def Gv (x0:Int):Option (Ah):=
 if x0<0 then (CM (wu64 (wi64 (-x0)))).bind fun r0a=>
 (AK true r0a).bind fun r1a=>
 some r1a else (CM (wu64 x0)).bind fun r2a=>
 (AK false r2a).bind fun r3a=>
 some r3a
def DC (x0:AW):Option (Bool):=
 (Gs x0.Abs).bind fun r0a=>
 (if r0a=true then (if ¬(x0.Neg=true) then some (true) else some (decide (0<(x0.Abs.length:Int)))).bind fun m1a=>
 some (m1a) else some (false)).bind fun m2a=>
 some m2a
def BR (x0:Bool) (x1:Int):M (Unit):=
 if ¬(x0=true) then some (.error x1) else some (.ok ())
def Je (x0:Ah):Option (Ah):=
 some x0
def Dc (x0:Ah) (x1:Int):Option (Am):=
 if (sz x0.Abs:Int)=0 then some (⟨(⟨false,0⟩:Ah),0⟩:Am) else (Db x0.Abs).bind fun r0a=>
 (CK x0.Abs r0a).bind fun r1a=>
 some (⟨(⟨x0.Neg,r1a⟩:Ah),(wi64 (x1+r0a))⟩:Am)
def IC (x0:Ah):Option (Ah):=
 (if x0.Neg=true then some (decide (0<(sz x0.Abs:Int))) else some (false)).bind fun m0a=>
 some (⟨m0a,x0.Abs⟩:Ah)
def Fp (x0:Am):M (Ak):=
 (if (sz x0.m.Abs:Int)≤1024 then some (decide (x0.e≤1048576)) else some (false)).bind fun m0a=>
 (if m0a=true then some (decide ((-1048576)≤x0.e)) else some (false)).bind fun m1a=>
 mb (BR m1a 2) fun r4a=>
 (Dk x0.m.Abs).bind fun r2a=>
 (IC (⟨x0.m.Neg,r2a⟩:Ah)).bind fun r3a=>
 some (.ok (⟨r3a,x0.e⟩:Ak))
def Me (x0:AW) (x1:Int):M (Ak × Int):=
 (DC x0).bind fun r0a=>
 mb (BR r0a 1) fun r5a=>
 if (x0.Abs.length:Int)=0 then some (.ok ((⟨(⟨false,0⟩:Ah),0⟩:Ak),0)) else (toN x0.Abs).bind fun m1a=>
 (Je (⟨x0.Neg,m1a⟩:Ah)).bind fun r2a=>
 (Dc r2a (max (-1099511627776) (min x1 1099511627776))).bind fun r3a=>
 mb (Fp r3a) fun r4a=>
 some (.ok (r4a,0))
def KS (x0:AW) (x1:Int):Option (Ak × Int):=(Me x0 x1).bind fun q=>match q with | .ok r=>some r | .error n=>some ((⟨(⟨false,0⟩:Ah),0⟩:Ak),n)
def ED (x0:Ah) (x1:Int):Option (Ak):=
 if (sz x0.Abs:Int)=0 then some (⟨(⟨false,0⟩:Ah),0⟩:Ak) else (BS x0.Abs).bind fun r0a=>
 (BZ x0.Abs r0a).bind fun r1a=>
 some (⟨(⟨x0.Neg,r1a⟩:Ah),(wi64 (x1+r0a))⟩:Ak)
def Bj (x0:Int) (x1:Int):Option (Ak):=
 (Gv x0).bind fun r7=>
 (ED r7 x1).bind fun r0a=>
 some r0a
def CF (x0:Ap):Option (Bool):=
 (DC x0.Man).bind fun r0a=>
 if ¬(r0a=true) then some false else if (x0.Man.Abs.length:Int)=0 then some (decide (x0.Exp=0)) else (nth x0.Man.Abs 0).bind fun u1a=>
 (if (u1a%2)=1 then some (decide (x0.Exp≤1048576)) else some (false)).bind fun m2a=>
 (if m2a=true then some (decide ((-1048576)≤x0.Exp)) else some (false)).bind fun m3a=>
 some m3a
def CY (x0_0:Ap):M (Unit):=
 (CF x0_0).bind fun r0a=>
 mb (BR r0a 1) fun r1a=>
 some (.ok ())
def Ik (x0:Int):M (Unit):=
 (if 1≤x0 then some (decide (x0≤4096)) else some (false)).bind fun m8=>
 mb (BR m8 1) fun r0a=>
 some (.ok ())
def Jo (x0:Int):M (Unit):=
 (if 1≤x0 then some (decide (x0≤5)) else some (false)).bind fun m8=>
 mb (BR m8 1) fun r0a=>
 some (.ok ())
def Gg (x0:Ak):Option (Am):=
 (Je x0.Man).bind fun r0a=>
 some (⟨r0a,x0.Exp⟩:Am)
def GJ (x0:Ah) (x1:Int):Option (Ah):=
 (BD x0.Abs x1).bind fun r0a=>
 some (⟨x0.Neg,r0a⟩:Ah)
def Lc (x0:Bool) (x1:Int) (x2:Bool) (x3:Bool) (x4:Int):Option (Bool):=
 if x0=true then some false else if x4=1 then (if 0<x1 then some (true) else (if x1=0 then some (x2) else some (false)).bind fun m0a=>
 some (m0a)).bind fun m1a=>
 some m1a else if x4=2 then some (decide (0≤x1)) else if x4=4 then some (decide (¬(x3=true))) else if x4=5 then some x3 else some false
def ES (x0:Am) (x1:Int) (x2:Int) (x3:Bool):Option (Am):=
 (BA x0.m.Abs).bind fun r1a=>
 (if (wi64 (r1a - x1))≤0 then some (decide (¬(x3=true))) else some (false)).bind fun m6a=>
 if m6a=true then (Dc x0.m x0.e).bind fun r7a=>
 some r7a else (if (wi64 (r1a - x1))<2 then (GJ x0.m (wi64 (2 - (wi64 (r1a - x1))))).bind fun r3a=>
 some (2,r3a.Neg,r3a.Abs,(wi64 ((wi64 (x0.e - 2))+(wi64 (r1a - x1))))) else some ((wi64 (r1a - x1)),x0.m.Neg,x0.m.Abs,x0.e)).bind fun m0a=>
 (CK m0a.2.2.1 m0a.1).bind fun r2a=>
 (BD r2a m0a.1).bind fun r8a=>
 (CH m0a.2.2.1 r8a).bind fun r4a=>
 (if (sz r4a:Int)=0 then some (decide (¬(x3=true))) else some (false)).bind fun m9a=>
 (BD 1 (wi64 (m0a.1 - 1))).bind fun r0b=>
 (CI r4a r0b).bind fun r5a=>
 (if r5a=0 then some (x3) else some (false)).bind fun m1b=>
 (if m1b=true then some (1) else some (r5a)).bind fun m2b=>
 (if 0<(sz r2a:Int) then (nth (limbs r2a) 0).bind fun u3b=>
 some (decide ((u3b%2)=1)) else some (false)).bind fun m4b=>
 (Lc m9a m2b m4b m0a.2.1 x2).bind fun r5b=>
 (if r5b=true then (Da r2a 1).bind fun r6b=>
 some (r6b) else some (r2a)).bind fun m7b=>
 (Dc (⟨m0a.2.1,m7b⟩:Ah) (wi64 (m0a.2.2.2+m0a.1))).bind fun r8b=>
 some r8b
def LH (x0:Ap) (x1:Int) (x2:Int):M (Ak × Int):=
 mb (CY x0) fun r4a=>
 mb (Ik x1) fun r5a=>
 mb (Jo x2) fun r6a=>
 (toN x0.Man.Abs).bind fun m0a=>
 (Gg (⟨(⟨x0.Man.Neg,m0a⟩:Ah),x0.Exp⟩:Ak)).bind fun r1a=>
 (ES r1a x1 x2 false).bind fun r2a=>
 mb (Fp r2a) fun r3a=>
 some (.ok (r3a,0))
def Jv (x0:Ap) (x1:Int) (x2:Int):Option (Ak × Int):=(LH x0 x1 x2).bind fun q=>match q with | .ok r=>some r | .error n=>some ((⟨(⟨false,0⟩:Ah),0⟩:Ak),n)
def Cf (x0:Int) (x1:Int):Option (AI):=
 (Bj x0 0).bind fun r7=>
 (Bj x1 0).bind fun r0a=>
 some (⟨r7,r0a⟩:AI)
def HY (x0:Ah):Option (Int):=
 if (sz x0.Abs:Int)=0 then some 0 else if x0.Neg=true then some (-1) else some 1
def Bz (x0:Am):Option (Int):=
 (HY x0.m).bind fun r0a=>
 some r0a
def Fj (x0:Int) (x1:Int):Option (Int):=
 if x0<x1 then some (-1) else if x1<x0 then some 1 else some 0
def FO (x0:Am):Option (Int):=
 (BA x0.m.Abs).bind fun r0a=>
 some (wi64 ((wi64 (r0a - 1))+x0.e))
def HL (x0:Ah):Option (Ah):=
 some (⟨(decide (¬(x0.Neg=true))),x0.Abs⟩:Ah)
def HN (x0:Am):Option (Am):=
 (HL x0.m).bind fun r0a=>
 some (⟨r0a,x0.e⟩:Am)
def Iw (x0:Ah) (x1:Ah):Option (Ah):=
 if x0.Neg=x1.Neg then (Da x0.Abs x1.Abs).bind fun r0a=>
 some (⟨x0.Neg,r0a⟩:Ah) else (CI x0.Abs x1.Abs).bind fun r1a=>
 if 0≤r1a then (CH x0.Abs x1.Abs).bind fun r2a=>
 some (⟨x0.Neg,r2a⟩:Ah) else (CH x1.Abs x0.Abs).bind fun r3a=>
 some (⟨x1.Neg,r3a⟩:Ah)
def Hv (x0:Ah) (x1:Ah) (x2:Int):Option (Am):=
 (Iw x0 x1).bind fun r0a=>
 (Dc r0a x2).bind fun r1a=>
 some r1a
def Dp (x0:Am) (x1:Am):Option (Am):=
 (if (sz x0.m.Abs:Int)=0 then some (x1.e) else some (min x0.e x1.e)).bind fun m5a=>
 (if (sz x1.m.Abs:Int)=0 then some (x0.e) else some (m5a)).bind fun m0a=>
 (if 0<(sz x0.m.Abs:Int) then (GJ x0.m (wi64 (x0.e - m0a))).bind fun r1a=>
 some (r1a.Neg,r1a.Abs) else some (x0.m.Neg,x0.m.Abs)).bind fun m2a=>
 (if 0<(sz x1.m.Abs:Int) then (GJ x1.m (wi64 (x1.e - m0a))).bind fun r3a=>
 some (r3a.Neg,r3a.Abs) else some (x1.m.Neg,x1.m.Abs)).bind fun m4a=>
 (Hv (⟨m2a.1,m2a.2⟩:Ah) (⟨m4a.1,m4a.2⟩:Ah) m0a).bind fun r6a=>
 some r6a
def Hk (x0:Am) (x1:Am):Option (Am):=
 (Dp x0 x1).bind fun r0a=>
 some r0a
def Bp (x0:Am) (x1:Am):Option (Int):=
 (Bz x0).bind fun r0a=>
 (Bz x1).bind fun r1a=>
 (if ¬r0a=r1a then some (true) else some (decide (r0a=0))).bind fun m4a=>
 if m4a=true then (Fj r0a r1a).bind fun r5a=>
 some r5a else (FO x0).bind fun r2a=>
 (FO x1).bind fun r3a=>
 if ¬r2a=r3a then (Bz x0).bind fun r6a=>
 (Fj r2a r3a).bind fun r7a=>
 some (wi64 (r6a*r7a)) else (HN x1).bind fun r8a=>
 (Hk x0 r8a).bind fun r9a=>
 (Bz r9a).bind fun r0b=>
 some r0b
def IU (x0:AO):Option (Bool):=
 (CF x0.Lo).bind fun r0a=>
 if r0a=true then (CF x0.Hi).bind fun r1a=>
 if r1a=true then (toN x0.Lo.Man.Abs).bind fun m2a=>
 (Gg (⟨(⟨x0.Lo.Man.Neg,m2a⟩:Ah),x0.Lo.Exp⟩:Ak)).bind fun r3a=>
 (toN x0.Hi.Man.Abs).bind fun m4a=>
 (Gg (⟨(⟨x0.Hi.Man.Neg,m4a⟩:Ah),x0.Hi.Exp⟩:Ak)).bind fun r5a=>
 (Bp r3a r5a).bind fun r6a=>
 some (decide (r6a≤0)) else some false else some false
def GP (x0_0:AO) (x0_1:AO):M (Unit):=
 (IU x0_0).bind fun r0a=>
 mb (BR r0a 1) fun r2a=>
 (IU x0_1).bind fun r1a=>
 mb (BR r1a 1) fun r3a=>
 some (.ok ())
def FH (x0:AI):Option (AB):=
 (Gg x0.Lo).bind fun r0a=>
 (Gg x0.Hi).bind fun r1a=>
 some (⟨r0a,r1a⟩:AB)
def IB (x0:Ah) (x1:Ah):Option (Ah):=
 (DB x0.Abs x1.Abs).bind fun r0a=>
 some (⟨(decide (¬x0.Neg=x1.Neg)),r0a⟩:Ah)
def En (x0:Am) (x1:Am):Option (Am):=
 (IB x0.m x1.m).bind fun r0a=>
 (Dc r0a (wi64 (x0.e+x1.e))).bind fun r1a=>
 some r1a
def HQ (x0:AB) (x1:Int):Option (AB):=
 (ES x0.lo x1 5 false).bind fun r0a=>
 (ES x0.hi x1 4 false).bind fun r1a=>
 some (⟨r0a,r1a⟩:AB)
def He (x0:AB):M (AI):=
 mb (Fp x0.lo) fun r0a=>
 mb (Fp x0.hi) fun r1a=>
 some (.ok (⟨r0a,r1a⟩:AI))
def KN (x0:AB) (x1:AB) (x2:Int) (x y:Am):Option AB:=
 (En x y).bind fun r0a=>
 (Bp r0a r0a).bind fun r1a=>
 (if r1a<0 then some () else some ()).bind fun m3a=>
 (Bp r0a r0a).bind fun r2a=>
 (if 0<r2a then some () else some ()).bind fun m4a=>
 some (⟨r0a,r0a⟩:AB)
def Hn (x0:AB) (x1:AB) (x2:Int) (sr:AB) (x y:Am):Option AB:=
 (En x y).bind fun r0a=>
 (Bp r0a sr.lo).bind fun r3a=>
 (if r3a<0 then some (r0a.m.Neg,r0a.m.Abs,r0a.e) else some (sr.lo.m.Neg,sr.lo.m.Abs,sr.lo.e)).bind fun m1a=>
 (Bp r0a sr.hi).bind fun r4a=>
 (if 0<r4a then some (r0a.m.Neg,r0a.m.Abs,r0a.e) else some (sr.hi.m.Neg,sr.hi.m.Abs,sr.hi.e)).bind fun m2a=>
 some (⟨(⟨(⟨m1a.1,m1a.2.1⟩:Ah),m1a.2.2⟩:Am),(⟨(⟨m2a.1,m2a.2.1⟩:Ah),m2a.2.2⟩:Am)⟩:AB)
def JC (x0:AB) (x1:AB) (x2:Int):M (AI):=
 (KN x0 x1 x2 x0.lo x1.lo).bind fun s0a=>
 (Hn x0 x1 x2 s0a x0.lo x1.hi).bind fun s1a=>
 (Hn x0 x1 x2 s1a x0.hi x1.lo).bind fun s2a=>
 (Hn x0 x1 x2 s2a x0.hi x1.hi).bind fun s3a=>
 (HQ s3a x2).bind fun r4a=>
 mb (He r4a) fun r5a=>
 some (.ok r5a)
def GD (x0:AO) (x1:AO) (x2:Int):M (AI × Int):=
 mb (GP x0 x1) fun r7a=>
 mb (Ik x2) fun r8a=>
 (toN x0.Lo.Man.Abs).bind fun m0a=>
 (toN x0.Hi.Man.Abs).bind fun m1a=>
 (FH (⟨(⟨(⟨x0.Lo.Man.Neg,m0a⟩:Ah),x0.Lo.Exp⟩:Ak),(⟨(⟨x0.Hi.Man.Neg,m1a⟩:Ah),x0.Hi.Exp⟩:Ak)⟩:AI)).bind fun r2a=>
 (toN x1.Lo.Man.Abs).bind fun m3a=>
 (toN x1.Hi.Man.Abs).bind fun m4a=>
 (FH (⟨(⟨(⟨x1.Lo.Man.Neg,m3a⟩:Ah),x1.Lo.Exp⟩:Ak),(⟨(⟨x1.Hi.Man.Neg,m4a⟩:Ah),x1.Hi.Exp⟩:Ak)⟩:AI)).bind fun r5a=>
 mb (JC r2a r5a x2) fun r6a=>
 some (.ok (r6a,0))
def EV (x0:AO) (x1:AO) (x2:Int):Option (AI × Int):=(GD x0 x1 x2).bind fun q=>match q with | .ok r=>some r | .error n=>some ((⟨(⟨(⟨false,0⟩:Ah),0⟩:Ak),(⟨(⟨false,0⟩:Ah),0⟩:Ak)⟩:AI),n)
def Kx (x0:AO) (x1:AO) (x2:Int):Option (AI × Int):=
 (EV x0 x1 x2).bind fun r0a=>
 some (r0a.1,r0a.2)
def CW (x0:Ah) (x1:Ah):Option (Bool):=
 (if x0.Neg=x1.Neg then (Bc (limbs x0.Abs) (limbs x1.Abs)).bind fun r0a=>
 some (r0a) else some (false)).bind fun m1a=>
 some m1a
def DL (x0:Ak) (x1:Ak):Option (Bool):=
 (CW x0.Man x1.Man).bind fun r0a=>
 (if r0a=true then some (decide (x0.Exp=x1.Exp)) else some (false)).bind fun m1a=>
 some m1a
def Em (x0:AI) (x1:AI):Option (Bool):=
 (DL x0.Lo x1.Lo).bind fun r0a=>
 (if r0a=true then (DL x0.Hi x1.Hi).bind fun r1a=>
 some (r1a) else some (false)).bind fun m2a=>
 some m2a
def Gf (x0:Am) (x1:Am) (x2:Int) (x3:Int):Option (Am):=
 (Bz x0).bind fun r3a=>
 if r3a=0 then some (⟨(⟨false,0⟩:Ah),0⟩:Am) else (BA x1.m.Abs).bind fun r0a=>
 (BA x0.m.Abs).bind fun r1a=>
 (BD x0.m.Abs (max 0 (wi64 ((wi64 ((wi64 (x2+2))+r0a)) - r1a)))).bind fun r4a=>
 (Dv r4a x1.m.Abs).bind fun r2a=>
 (ES (⟨(⟨(decide (¬x0.m.Neg=x1.m.Neg)),r2a.1⟩:Ah),(wi64 ((wi64 (x0.e - x1.e)) - (max 0 (wi64 ((wi64 ((wi64 (x2+2))+r0a)) - r1a)))))⟩:Am) x2 x3 (decide (0<(sz r2a.2:Int)))).bind fun r5a=>
 some r5a
def KU (x0:AB) (x1:AB) (x2:Int) (x y:Am):Option AB:=
 (Gf x y x2 5).bind fun r0a=>
 (Gf x y x2 4).bind fun r1a=>
 (Bp r0a r0a).bind fun r2a=>
 (if r2a<0 then some () else some ()).bind fun m4a=>
 (Bp r1a r1a).bind fun r3a=>
 (if 0<r3a then some () else some ()).bind fun m5a=>
 some (⟨r0a,r1a⟩:AB)
def HI (x0:AB) (x1:AB) (x2:Int) (sr:AB) (x y:Am):Option AB:=
 (Gf x y x2 5).bind fun r0a=>
 (Gf x y x2 4).bind fun r1a=>
 (Bp r0a sr.lo).bind fun r4a=>
 (if r4a<0 then some (r0a.m.Neg,r0a.m.Abs,r0a.e) else some (sr.lo.m.Neg,sr.lo.m.Abs,sr.lo.e)).bind fun m2a=>
 (Bp r1a sr.hi).bind fun r5a=>
 (if 0<r5a then some (r1a.m.Neg,r1a.m.Abs,r1a.e) else some (sr.hi.m.Neg,sr.hi.m.Abs,sr.hi.e)).bind fun m3a=>
 some (⟨(⟨(⟨m2a.1,m2a.2.1⟩:Ah),m2a.2.2⟩:Am),(⟨(⟨m3a.1,m3a.2.1⟩:Ah),m3a.2.2⟩:Am)⟩:AB)
def Kb (x0:AB) (x1:AB) (x2:Int):M (AI):=
 (Bz x1.lo).bind fun r0a=>
 (Bz x1.hi).bind fun r1a=>
 mb (BR (decide (0<(wi64 (r0a*r1a)))) 8) fun r7a=>
 (KU x0 x1 x2 x0.lo x1.lo).bind fun s2a=>
 (HI x0 x1 x2 s2a x0.lo x1.hi).bind fun s3a=>
 (HI x0 x1 x2 s3a x0.hi x1.lo).bind fun s4a=>
 (HI x0 x1 x2 s4a x0.hi x1.hi).bind fun s5a=>
 mb (He s5a) fun r6a=>
 some (.ok r6a)
def GL (x0:AO) (x1:AO) (x2:Int):M (AI × Int):=
 mb (GP x0 x1) fun r7a=>
 mb (Ik x2) fun r8a=>
 (toN x0.Lo.Man.Abs).bind fun m0a=>
 (toN x0.Hi.Man.Abs).bind fun m1a=>
 (FH (⟨(⟨(⟨x0.Lo.Man.Neg,m0a⟩:Ah),x0.Lo.Exp⟩:Ak),(⟨(⟨x0.Hi.Man.Neg,m1a⟩:Ah),x0.Hi.Exp⟩:Ak)⟩:AI)).bind fun r2a=>
 (toN x1.Lo.Man.Abs).bind fun m3a=>
 (toN x1.Hi.Man.Abs).bind fun m4a=>
 (FH (⟨(⟨(⟨x1.Lo.Man.Neg,m3a⟩:Ah),x1.Lo.Exp⟩:Ak),(⟨(⟨x1.Hi.Man.Neg,m4a⟩:Ah),x1.Hi.Exp⟩:Ak)⟩:AI)).bind fun r5a=>
 mb (Kb r2a r5a x2) fun r6a=>
 some (.ok (r6a,0))
def Fl (x0:AO) (x1:AO) (x2:Int):Option (AI × Int):=(GL x0 x1 x2).bind fun q=>match q with | .ok r=>some r | .error n=>some ((⟨(⟨(⟨false,0⟩:Ah),0⟩:Ak),(⟨(⟨false,0⟩:Ah),0⟩:Ak)⟩:AI),n)
def JV (x0:AO) (x1:AO) (x2:Int):Option (AI × Int):=
 (Fl x0 x1 x2).bind fun r0a=>
 some (r0a.1,r0a.2)
def Hw (x0:Nat):Nat→Nat→Option (Nat × Nat)
 | 0,_=>none
 | n2a+1,v0a=>
 (Dv x0 v0a).bind fun r3a=>
 (Da v0a r3a.1).bind fun r4a=>
 (CK r4a 1).bind fun r1a=>
 (CI r1a v0a).bind fun r5a=>
 if 0≤r5a then (DB v0a v0a).bind fun r6a=>
 (CH x0 r6a).bind fun r7a=>
 some (v0a,r7a) else Hw x0 n2a r1a
def Ji (x0:Nat):Option (Nat × Nat):=
 if (sz x0:Int)=0 then some (0,0) else (BA x0).bind fun r0a=>
 (BD 1 (wi64 ((wi64 (r0a+1)).tdiv 2))).bind fun r1a=>
 Hw x0 18446744073709551616 r1a
def JU (x0:Am) (x1:Int) (x2:Int):Option (Am):=
 (Bz x0).bind fun r3a=>
 if r3a=0 then some (⟨(⟨false,0⟩:Ah),0⟩:Am) else (BA x0.m.Abs).bind fun r0a=>
 (if ¬((wi64 (x0.e - (max 0 (wi64 ((wi64 ((wi64 (2*x1))+4)) - r0a)))))%2)=0 then some (wi64 ((max 0 (wi64 ((wi64 ((wi64 (2*x1))+4)) - r0a)))+1)) else some (max 0 (wi64 ((wi64 ((wi64 (2*x1))+4)) - r0a)))).bind fun m1a=>
 (BD x0.m.Abs m1a).bind fun r4a=>
 (Ji r4a).bind fun r2a=>
 (ES (⟨(⟨false,r2a.1⟩:Ah),(wi64 ((wi64 (x0.e - m1a)).tdiv 2))⟩:Am) x1 x2 (decide (0<(sz r2a.2:Int)))).bind fun r5a=>
 some r5a
def Kd (x0:AB) (x1:AB) (x2:Int):M (AI):=
 (Bz x0.lo).bind fun r0a=>
 mb (BR (decide (0≤r0a)) 3) fun r4a=>
 (JU x0.lo x2 5).bind fun r1a=>
 (JU x0.hi x2 4).bind fun r2a=>
 mb (He (⟨r1a,r2a⟩:AB)) fun r3a=>
 some (.ok r3a)
def GQ (x0:AO) (x1:AO) (x2:Int):M (AI × Int):=
 mb (GP x0 x1) fun r7a=>
 mb (Ik x2) fun r8a=>
 (toN x0.Lo.Man.Abs).bind fun m0a=>
 (toN x0.Hi.Man.Abs).bind fun m1a=>
 (FH (⟨(⟨(⟨x0.Lo.Man.Neg,m0a⟩:Ah),x0.Lo.Exp⟩:Ak),(⟨(⟨x0.Hi.Man.Neg,m1a⟩:Ah),x0.Hi.Exp⟩:Ak)⟩:AI)).bind fun r2a=>
 (toN x1.Lo.Man.Abs).bind fun m3a=>
 (toN x1.Hi.Man.Abs).bind fun m4a=>
 (FH (⟨(⟨(⟨x1.Lo.Man.Neg,m3a⟩:Ah),x1.Lo.Exp⟩:Ak),(⟨(⟨x1.Hi.Man.Neg,m4a⟩:Ah),x1.Hi.Exp⟩:Ak)⟩:AI)).bind fun r5a=>
 mb (Kd r2a r5a x2) fun r6a=>
 some (.ok (r6a,0))
def Fk (x0:AO) (x1:AO) (x2:Int):Option (AI × Int):=(GQ x0 x1 x2).bind fun q=>match q with | .ok r=>some r | .error n=>some ((⟨(⟨(⟨false,0⟩:Ah),0⟩:Ak),(⟨(⟨false,0⟩:Ah),0⟩:Ak)⟩:AI),n)
def Lm (x0:AO) (x1:Int):Option (AI × Int):=
 (Fk x0 x0 x1).bind fun r0a=>
 some (r0a.1,r0a.2)
def Dg:Option (Bool):=
 (Gv 12).bind fun r3=>
 (KS (⟨r3.Neg,(limbs r3.Abs)⟩:AW) 3).bind fun r9a=>
 (Bj 11 0).bind fun r7a=>
 (Jv (⟨(⟨r7a.Man.Neg,(limbs r7a.Man.Abs)⟩:AW),r7a.Exp⟩:Ap) 3 1).bind fun r0b=>
 (Bj (-11) 0).bind fun r8a=>
 (Jv (⟨(⟨r8a.Man.Neg,(limbs r8a.Man.Abs)⟩:AW),r8a.Exp⟩:Ap) 2 5).bind fun r1b=>
 (Cf (-1) 2).bind fun r0a=>
 (Cf (-3) 5).bind fun r1a=>
 (Kx (⟨(⟨(⟨r0a.Lo.Man.Neg,(limbs r0a.Lo.Man.Abs)⟩:AW),r0a.Lo.Exp⟩:Ap),(⟨(⟨r0a.Hi.Man.Neg,(limbs r0a.Hi.Man.Abs)⟩:AW),r0a.Hi.Exp⟩:Ap)⟩:AO) (⟨(⟨(⟨r1a.Lo.Man.Neg,(limbs r1a.Lo.Man.Abs)⟩:AW),r1a.Lo.Exp⟩:Ap),(⟨(⟨r1a.Hi.Man.Neg,(limbs r1a.Hi.Man.Abs)⟩:AW),r1a.Hi.Exp⟩:Ap)⟩:AO) 8).bind fun r2b=>
 (if ¬r9a.2=0 then some (true) else some (decide (¬r0b.2=0))).bind fun m5b=>
 (if m5b=true then some (true) else some (decide (¬r1b.2=0))).bind fun m6b=>
 (if m6b=true then some (true) else some (decide (¬r2b.2=0))).bind fun m7b=>
 if m7b=true then some false else (Bj 3 5).bind fun r8b=>
 (DL r9a.1 r8b).bind fun r9b=>
 if ¬(r9b=true) then some false else (Bj 12 0).bind fun r0c=>
 (DL r0b.1 r0c).bind fun r1c=>
 if ¬(r1c=true) then some false else (Bj (-12) 0).bind fun r2c=>
 (DL r1b.1 r2c).bind fun r3c=>
 if ¬(r3c=true) then some false else (Cf (-6) 10).bind fun r4c=>
 (Em r2b.1 r4c).bind fun r5c=>
 if ¬(r5c=true) then some false else (Cf 1 1).bind fun r2a=>
 (Cf 3 3).bind fun r3a=>
 (JV (⟨(⟨(⟨r2a.Lo.Man.Neg,(limbs r2a.Lo.Man.Abs)⟩:AW),r2a.Lo.Exp⟩:Ap),(⟨(⟨r2a.Hi.Man.Neg,(limbs r2a.Hi.Man.Abs)⟩:AW),r2a.Hi.Exp⟩:Ap)⟩:AO) (⟨(⟨(⟨r3a.Lo.Man.Neg,(limbs r3a.Lo.Man.Abs)⟩:AW),r3a.Lo.Exp⟩:Ap),(⟨(⟨r3a.Hi.Man.Neg,(limbs r3a.Hi.Man.Abs)⟩:AW),r3a.Hi.Exp⟩:Ap)⟩:AO) 4).bind fun r3b=>
 (Cf 1 1).bind fun r4a=>
 (Cf (-1) 1).bind fun r5a=>
 (JV (⟨(⟨(⟨r4a.Lo.Man.Neg,(limbs r4a.Lo.Man.Abs)⟩:AW),r4a.Lo.Exp⟩:Ap),(⟨(⟨r4a.Hi.Man.Neg,(limbs r4a.Hi.Man.Abs)⟩:AW),r4a.Hi.Exp⟩:Ap)⟩:AO) (⟨(⟨(⟨r5a.Lo.Man.Neg,(limbs r5a.Lo.Man.Abs)⟩:AW),r5a.Lo.Exp⟩:Ap),(⟨(⟨r5a.Hi.Man.Neg,(limbs r5a.Hi.Man.Abs)⟩:AW),r5a.Hi.Exp⟩:Ap)⟩:AO) 4).bind fun r6c=>
 (Cf 2 2).bind fun r6a=>
 (Lm (⟨(⟨(⟨r6a.Lo.Man.Neg,(limbs r6a.Lo.Man.Abs)⟩:AW),r6a.Lo.Exp⟩:Ap),(⟨(⟨r6a.Hi.Man.Neg,(limbs r6a.Hi.Man.Abs)⟩:AW),r6a.Hi.Exp⟩:Ap)⟩:AO) 4).bind fun r4b=>
 (Bj 5 (-4)).bind fun r7c=>
 (Bj 11 (-5)).bind fun r8c=>
 (Bj 11 (-3)).bind fun r9c=>
 (Bj 3 (-1)).bind fun r0d=>
 (if r3b.2=0 then some (decide (r6c.2=8)) else some (false)).bind fun m1d=>
 (if m1d=true then some (decide (r4b.2=0)) else some (false)).bind fun m2d=>
 (if m2d=true then (Em r3b.1 (⟨r7c,r8c⟩:AI)).bind fun r3d=>
 some (r3d) else some (false)).bind fun m4d=>
 (if m4d=true then (Em r4b.1 (⟨r9c,r0d⟩:AI)).bind fun r5d=>
 some (r5d) else some (false)).bind fun m6d=>
 some m6d
def FY (x0:Ah):Option (Ah):=
 (AK (decide (¬(x0.Neg=true))) x0.Abs).bind fun r0a=>
 some r0a
def Fg (x0:Ak):Option (Ak):=
 (FY x0.Man).bind fun r0a=>
 some (⟨r0a,x0.Exp⟩:Ak)
def Ex (x0:Ah) (x1:Int):Option (Ah):=
 (Br x0.Abs x1).bind fun r0a=>
 some (⟨x0.Neg,r0a⟩:Ah)
def Gb (x0:Ah) (x1:Ah):Option (Ah):=
 if x0.Neg=x1.Neg then (Bw x0.Abs x1.Abs).bind fun r0a=>
 (AK x0.Neg r0a).bind fun r1a=>
 some r1a else (Bs x0.Abs x1.Abs).bind fun r2a=>
 if 0≤r2a then (BY x0.Abs x1.Abs).bind fun r3a=>
 (AK x0.Neg r3a).bind fun r4a=>
 some r4a else (BY x1.Abs x0.Abs).bind fun r5a=>
 (AK x1.Neg r5a).bind fun r6a=>
 some r6a
def Ec (x0:Ak) (x1:Ak):Option (Ak):=
 if (sz x0.Man.Abs:Int)=0 then some x1 else if (sz x1.Man.Abs:Int)=0 then some x0 else (Ex x0.Man (wi64 (x0.Exp - (min x0.Exp x1.Exp)))).bind fun r0a=>
 (Ex x1.Man (wi64 (x1.Exp - (min x0.Exp x1.Exp)))).bind fun r1a=>
 (Gb r0a r1a).bind fun r2a=>
 (ED r2a (min x0.Exp x1.Exp)).bind fun r3a=>
 some r3a
def CG (x0:Ak):Option (Int):=
 if (sz x0.Man.Abs:Int)=0 then some 0 else if x0.Man.Neg=true then some (-1) else some 1
def Co (x0:Ak) (x1:Ak):Option (Int):=
 (Fg x1).bind fun r0a=>
 (Ec x0 r0a).bind fun r1a=>
 (CG r1a).bind fun r2a=>
 some r2a
def Cp (x0:Nat) (x1:Nat):Nat→Nat→Nat→Option (Nat)
 | 0,_,_=>none
 | n2a+1,v1a,v0a=>
 if 0<(sz v0a:Int) then (Bi v1a v0a).bind fun r3a=>
 Cp x0 x1 n2a v0a r3a.R else some (v1a)
def ER (x0:Nat) (x1:Nat):Option (Nat):=
 (Cp x0 x1 18446744073709551616 x0 x1).bind fun m0a=>
 some m0a
def BM:Option (Nat):=
 some 1
def Gr (x0:Ah) (x1:Nat):Option (Cz):=
 (ER x0.Abs x1).bind fun r0a=>
 (BM).bind fun r1a=>
 (Bc (limbs r0a) (limbs r1a)).bind fun r2a=>
 if r2a=true then some (⟨x0,x1⟩:Cz) else (Bi x0.Abs r0a).bind fun r3a=>
 (AK x0.Neg r3a.Q).bind fun r4a=>
 (Bi x1 r0a).bind fun r5a=>
 some (⟨r4a,r5a.Q⟩:Cz)
def DQ (x0:Ah) (x1:Ah):Option (Ah):=
 (Cy x0.Abs x1.Abs).bind fun r0a=>
 (AK (decide (¬x0.Neg=x1.Neg)) r0a).bind fun r1a=>
 some r1a
def EO (x0:Ah) (x1:Ah):Option (Int):=
 if ¬x0.Neg=x1.Neg then if x0.Neg=true then some (-1) else some 1 else if x0.Neg=true then (Bs x0.Abs x1.Abs).bind fun r0a=>
 some (wi64 (-r0a)) else (Bs x0.Abs x1.Abs).bind fun r1a=>
 some r1a
def Cq (x0:Cz) (x1:Cz):Option (Int):=
 (AK false x1.Den).bind fun r0a=>
 (DQ x0.Num r0a).bind fun r1a=>
 (AK false x0.Den).bind fun r2a=>
 (DQ x1.Num r2a).bind fun r3a=>
 (EO r1a r3a).bind fun r4a=>
 some r4a
def BB (x0:Nat) (x1:Nat) (x2:Nat) (x3:Bool) (x4:Int):Option (Nat):=
 if (sz x1:Int)=0 then some x0 else (if x4=4 then some (decide (¬(x3=true))) else some (false)).bind fun m1a=>
 (if m1a=true then some (true) else (if x4=5 then some (x3) else some (false)).bind fun m2a=>
 some (m2a)).bind fun m3a=>
 (if x4=1 then some (true) else some (decide (x4=2))).bind fun m4a=>
 (if m4a=true then (Bw x1 x1).bind fun r5a=>
 (Bs r5a x2).bind fun r0a=>
 (if 0<r0a then some (true) else (if r0a=0 then (if x4=2 then some (true) else (if 0<(sz x0:Int) then (nth (limbs x0) 0).bind fun u6a=>
 some (decide ((u6a.tmod 2)=1)) else some (false)).bind fun m7a=>
 some (m7a)).bind fun m8a=>
 some (m8a) else some (false)).bind fun m9a=>
 some (m9a)).bind fun m0b=>
 some (m0b) else some (m3a)).bind fun m1b=>
 if m1b=true then (BM).bind fun r2b=>
 (Bw x0 r2b).bind fun r3b=>
 some r3b else some x0
def Js (x0:Nat) (x1:Nat) (x2:Nat) (x3:Bool) (x4:Int) (x5:Int):Option (Ak):=
 (BB x0 x1 x2 x3 x4).bind fun r0a=>
 (AK x3 r0a).bind fun r1a=>
 (ED r1a x5).bind fun r2a=>
 some r2a
def CT (x0:Ap):Option (Bool):=
 (if (x0.Man.Abs.length:Int)≤60 then (if (-3000)≤x0.Exp then some (decide (x0.Exp≤3000)) else some (false)).bind fun m0a=>
 (if m0a=true then some (true) else (BT x0).bind fun r1a=>
 some (decide (¬(r1a=true)))).bind fun m2a=>
 some (m2a) else some (false)).bind fun m3a=>
 some m3a
def Gh (x0_0:Ap) (x0_1:Ap):M (Unit):=
 (CF x0_0).bind fun r0a=>
 mb (BR r0a 1) fun r2a=>
 (CF x0_1).bind fun r1a=>
 mb (BR r1a 1) fun r3a=>
 some (.ok ())
def Ip (x0:Ah):Option (Bool):=
 (DC (⟨x0.Neg,(limbs x0.Abs)⟩:AW)).bind fun r0a=>
 some (decide (¬(r0a=true)))
def Ch (x0_0:Ah):Option (Int):=
 (Ip x0_0).bind fun r0a=>
 if r0a=true then some 0 else some (-1)
def BQ (x0_0:Ah):Option (Bool):=
 (Ch x0_0).bind fun r7=>
 some (decide (0≤r7))
def Jw (x0:Bool) (x1:Int):M (Unit):=
 if ¬(x0=true) then some (.error x1) else some (.ok ())
def Hf (x0_0:Ah):M (Unit):=
 (BQ x0_0).bind fun r5=>
 mb (Jw (decide (¬(r5=true))) 1) fun r0a=>
 some (.ok ())
def GA (x0:Nat):Option (Bool):=
 (Gs (limbs x0)).bind fun r6=>
 some (decide (¬(r6=true)))
def Cr (x0_0:Nat):Option (Int):=
 (GA x0_0).bind fun r0a=>
 if r0a=true then some 0 else some (-1)
def BU (x0_0:Nat):Option (Bool):=
 (Cr x0_0).bind fun r7=>
 some (decide (0≤r7))
def EC (x0:Bool) (x1:Int):M (Unit):=
 if ¬(x0=true) then some (.error x1) else some (.ok ())
def GI (x0_0:Nat):M (Unit):=
 (BU x0_0).bind fun r5=>
 mb (EC (decide (¬(r5=true))) 1) fun r0a=>
 some (.ok ())
def Gn (x0:Nat):M (Nat):=
 mb (EC (decide ((sz x0:Int)≤1024)) 2) fun r7=>
 (Fb x0).bind fun r0a=>
 some (.ok r0a)
def LP (x0:Nat) (x1:Int):M (Nat × Int):=
 mb (GI x0) fun r2a=>
 mb (EC (decide (0≤x1)) 1) fun r3a=>
 if (sz x0:Int)=0 then some (.ok (0,0)) else mb (EC (decide (x1≤32768)) 2) fun r4a=>
 (CX x0 x1).bind fun r0a=>
 mb (Gn r0a) fun r1a=>
 some (.ok (r1a,0))
def Kp (x0:Nat) (x1:Int):Option (Nat × Int):=(LP x0 x1).bind fun q=>match q with | .ok r=>some r | .error n=>none
def FE (x0:Nat) (x1:Int):M (Nat):=
 mb (Jw (decide (x1=0)) x1) fun r7=>
 some (.ok x0)
def LO (x0:Nat) (x1:Int):M (Nat × Int):=
 mb (GI x0) fun r2a=>
 mb (EC (decide (0≤x1)) 1) fun r3a=>
 (DD x0 x1).bind fun r0a=>
 mb (Gn r0a) fun r1a=>
 some (.ok (r1a,0))
def Jz (x0:Nat) (x1:Int):Option (Nat × Int):=(LO x0 x1).bind fun q=>match q with | .ok r=>some r | .error n=>none
def Cx (x0_0:Nat) (x0_1:Nat):Option (Int):=
 (GA x0_0).bind fun r0a=>
 if r0a=true then some 0 else (GA x0_1).bind fun r1a=>
 if r1a=true then some 1 else some (-1)
def BV (x0_0:Nat) (x0_1:Nat):Option (Bool):=
 (Cx x0_0 x0_1).bind fun r0a=>
 some (decide (0≤r0a))
def FP (x0_0:Nat) (x0_1:Nat):M (Unit):=
 (BV x0_0 x0_1).bind fun r8=>
 mb (EC (decide (¬(r8=true))) 1) fun r0a=>
 some (.ok ())
def JR (x0:Nat) (x1:Nat):M (Nat):=
 (DX x0 x1).bind fun r9=>
 mb (EC (decide (0≤r9)) 3) fun r1a=>
 (DW x0 x1).bind fun r0a=>
 some (.ok r0a)
def Ew (x0:Nat) (x1:Nat):M (Nat × Int):=
 mb (FP x0 x1) fun r2a=>
 mb (JR x0 x1) fun r0a=>
 mb (Gn r0a) fun r1a=>
 some (.ok (r1a,0))
def Di (x0:Nat) (x1:Nat):Option (Nat × Int):=(Ew x0 x1).bind fun q=>match q with | .ok r=>some r | .error n=>none
def Kr (x0:Nat) (x1:Nat):Option (Nat × Int):=
 (Di x0 x1).bind fun r9=>
 some (r9.1,r9.2)
def DH (x0:Nat) (x1:Nat):M (Nat × Int):=
 mb (FP x0 x1) fun r2a=>
 (DY x0 x1).bind fun r0a=>
 mb (Gn r0a) fun r1a=>
 some (.ok (r1a,0))
def CE (x0:Nat) (x1:Nat):Option (Nat × Int):=(DH x0 x1).bind fun q=>match q with | .ok r=>some r | .error n=>none
def Kn (x0:Nat) (x1:Nat):Option (Nat × Int):=
 (CE x0 x1).bind fun r9=>
 some (r9.1,r9.2)
def Ez (x0:Bool) (x1:Nat):Option (Ah):=
 (if x0=true then some (decide (0<(sz x1:Int))) else some (false)).bind fun m0a=>
 some (⟨m0a,x1⟩:Ah)
def Gp (x0:Ah):Option (Ah):=
 (Cu x0.Abs).bind fun r0a=>
 some (⟨x0.Neg,r0a⟩:Ah)
def DS (x0:Int) (x1:Ah):M (Ah):=
 if 0≤x0 then (Kp x1.Abs x0).bind fun r0a=>
 mb (FE r0a.1 r0a.2) fun r5a=>
 (Ez x1.Neg r5a).bind fun r6a=>
 (Gp r6a).bind fun r7a=>
 some (.ok r7a) else if ¬(x1.Neg=true) then (Jz x1.Abs (wi64 (-(max x0 (-33792))))).bind fun r1a=>
 mb (FE r1a.1 r1a.2) fun r8a=>
 (Ez false r8a).bind fun r9a=>
 (Gp r9a).bind fun r0b=>
 some (.ok r0b) else (Kr x1.Abs 1).bind fun r2a=>
 mb (FE r2a.1 r2a.2) fun r1b=>
 (Jz r1b (wi64 (-(max x0 (-33792))))).bind fun r3a=>
 mb (FE r3a.1 r3a.2) fun r2b=>
 (Kn r2b 1).bind fun r4a=>
 mb (FE r4a.1 r4a.2) fun r3b=>
 (Ez true r3b).bind fun r4b=>
 (Gp r4b).bind fun r5b=>
 some (.ok r5b)
def CV (x0_0:Int) (x0_1:Ah) (x1_0:Ah):M (Ah × Int):=
 mb (Hf x1_0) fun r1a=>
 mb (DS x0_0 x0_1) fun r0a=>
 some (.ok (r0a,0))
def Cg (x0_0:Int) (x0_1:Ah) (x1_0:Ah):Option (Ah × Int):=(CV x0_0 x0_1 x1_0).bind fun q=>match q with | .ok r=>some r | .error n=>none
def Fa (x0:Ah) (x1:Int):Option (Ah × Int):=
 (Cg x1 x0 x0).bind fun r0a=>
 some (r0a.1,r0a.2)
def Hy (x0:Ah):Option (Cz):=
 (BM).bind fun r0a=>
 some (⟨x0,r0a⟩:Cz)
def Eg (x0:Ak):Option (Cz):=
 if 0≤x0.Exp then (Br x0.Man.Abs x0.Exp).bind fun r0a=>
 (Hy (⟨x0.Man.Neg,r0a⟩:Ah)).bind fun r1a=>
 some r1a else (BM).bind fun r2a=>
 (Br r2a (wi64 (0 - x0.Exp))).bind fun r3a=>
 (Gr x0.Man r3a).bind fun r4a=>
 some r4a
def Er (x0:FV):Option (Bool):=
 (if (x0.Num.Abs.length:Int)≤60 then some (decide ((x0.Den.length:Int)≤60)) else some (false)).bind fun m0a=>
 some m0a
def Fc (x0:Nat) (x1:Nat):Nat→Nat→Nat→Option (Nat)
 | 0,_,_=>none
 | n2a+1,v1a,v0a=>
 if 0<(sz v0a:Int) then (Cm v1a v0a).bind fun r3a=>
 Fc x0 x1 n2a v0a r3a.2 else some (v1a)
def IY (x0:Nat) (x1:Nat):Option (Nat):=
 (Fc x0 x1 18446744073709551616 x0 x1).bind fun m0a=>
 some m0a
def Ev (x0:Nat) (x1:Nat):M (Nat × Int):=
 mb (FP x0 x1) fun r2a=>
 (IY x0 x1).bind fun r0a=>
 mb (Gn r0a) fun r1a=>
 some (.ok (r1a,0))
def Dh (x0:Nat) (x1:Nat):Option (Nat × Int):=(Ev x0 x1).bind fun q=>match q with | .ok r=>some r | .error n=>none
def Ku (x0:Nat) (x1:Nat):Option (Nat × Int):=
 (Dh x0 x1).bind fun r9=>
 some (r9.1,r9.2)
def Gy (x0:FV):Option (Bool):=
 (DC x0.Num).bind fun r1a=>
 (if ¬(r1a=true) then some (true) else (Gs x0.Den).bind fun r2a=>
 some (decide (¬(r2a=true)))).bind fun m3a=>
 (if m3a=true then some (true) else some (decide ((x0.Den.length:Int)=0))).bind fun m4a=>
 if m4a=true then some false else (toN x0.Num.Abs).bind fun m5a=>
 (toN x0.Den).bind fun m6a=>
 (Ku m5a m6a).bind fun r0a=>
 (if r0a.2=0 then some (decide ((sz r0a.1:Int)=1)) else some (false)).bind fun m7a=>
 (if m7a=true then (nth (limbs r0a.1) 0).bind fun u8a=>
 some (decide (u8a=1)) else some (false)).bind fun m9a=>
 some m9a
def Ir (x0:Cz):Option (Am × Am):=
 (Je x0.Num).bind fun r0a=>
 (Dc r0a 0).bind fun r1a=>
 (Dc (⟨false,x0.Den⟩:Ah) 0).bind fun r2a=>
 some (r1a,r2a)
def Ek (x0:FV):Option (Bool):=
 (Cd x0.Num).bind fun r0a=>
 (if ¬(r0a=true) then some (true) else (Bk x0.Den).bind fun r1a=>
 some (decide (¬(r1a=true)))).bind fun m2a=>
 (if m2a=true then some (true) else some (decide ((x0.Den.length:Int)=0))).bind fun m3a=>
 if m3a=true then some false else (toN x0.Num.Abs).bind fun m4a=>
 (toN x0.Den).bind fun m5a=>
 (ER m4a m5a).bind fun r6a=>
 (BM).bind fun r7a=>
 (Bc (limbs r6a) (limbs r7a)).bind fun r8a=>
 some r8a
def JW (x0:Ap) (x1:Ap):M (Int × Int):=
 mb (Gh x0 x1) fun r5a=>
 (toN x0.Man.Abs).bind fun m0a=>
 (Gg (⟨(⟨x0.Man.Neg,m0a⟩:Ah),x0.Exp⟩:Ak)).bind fun r1a=>
 (toN x1.Man.Abs).bind fun m2a=>
 (Gg (⟨(⟨x1.Man.Neg,m2a⟩:Ah),x1.Exp⟩:Ak)).bind fun r3a=>
 (Bp r1a r3a).bind fun r4a=>
 some (.ok (r4a,0))
def HA (x0:Ap) (x1:Ap):Option (Int × Int):=(JW x0 x1).bind fun q=>match q with | .ok r=>some r | .error n=>some (0,n)
def JS (x0:Ap):M (Int × Int):=
 mb (CY x0) fun r3a=>
 mb (BR (decide (0<(x0.Man.Abs.length:Int))) 5) fun r4a=>
 (toN x0.Man.Abs).bind fun m0a=>
 (Gg (⟨(⟨x0.Man.Neg,m0a⟩:Ah),x0.Exp⟩:Ak)).bind fun r1a=>
 (FO r1a).bind fun r2a=>
 some (.ok (r2a,0))
def GW (x0:Ap):Option (Int × Int):=(JS x0).bind fun q=>match q with | .ok r=>some r | .error n=>some (0,n)
def It (x0:Ap) (x1:FV):M (Int × Int):=
 mb (CY x0) fun r8a=>
 (Gy x1).bind fun r1a=>
 mb (BR r1a 1) fun r9a=>
 (toN x1.Num.Abs).bind fun m2a=>
 (toN x1.Den).bind fun m3a=>
 (Ir (⟨(⟨x1.Num.Neg,m2a⟩:Ah),m3a⟩:Cz)).bind fun r0a=>
 (toN x0.Man.Abs).bind fun m4a=>
 (Gg (⟨(⟨x0.Man.Neg,m4a⟩:Ah),x0.Exp⟩:Ak)).bind fun r5a=>
 (En r5a r0a.2).bind fun r6a=>
 (Bp r6a r0a.1).bind fun r7a=>
 some (.ok (r7a,0))
def FI (x0:Ap) (x1:FV):Option (Int × Int):=(It x0 x1).bind fun q=>match q with | .ok r=>some r | .error n=>some (0,n)
def IW (x0:Ap):M (Ah × Int):=
 mb (CY x0) fun r3a=>
 (toN x0.Man.Abs).bind fun m1a=>
 (Fa (⟨x0.Man.Neg,m1a⟩:Ah) x0.Exp).bind fun r0a=>
 mb (BR (decide (r0a.2=0)) r0a.2) fun r4a=>
 (Cu r0a.1.Abs).bind fun r2a=>
 some (.ok ((⟨r0a.1.Neg,r2a⟩:Ah),0))
def GX (x0:Ap):Option (Ah × Int):=(IW x0).bind fun q=>match q with | .ok r=>some r | .error n=>some ((⟨false,0⟩:Ah),n)
def Ci (x0:Ak) (x1:Cz):Option (Int):=
 (Eg x0).bind fun r0a=>
 (Cq r0a x1).bind fun r1a=>
 some r1a
def FT (x0:Ak):Option (Int):=
 (BN x0.Man.Abs).bind fun r0a=>
 some (wi64 ((wi64 (r0a - 1))+x0.Exp))
def FF (x0:Cz) (x1:Int):Option (Ah):=
 (Bi x0.Num.Abs x0.Den).bind fun r0a=>
 (BB r0a.Q r0a.R x0.Den x0.Num.Neg x1).bind fun r1a=>
 (AK x0.Num.Neg r1a).bind fun r2a=>
 some r2a
def Fe (x0:Ak):Option (Ah):=
 (Eg x0).bind fun r0a=>
 (FF r0a 5).bind fun r1a=>
 some r1a
def EJ (x0:Ap) (x1:Ap) (x2:FV):Option (Bool):=
 (CT x0).bind fun r5a=>
 (if ¬(r5a=true) then some (true) else (CT x1).bind fun r6a=>
 some (decide (¬(r6a=true)))).bind fun m7a=>
 (if m7a=true then some (true) else (Er x2).bind fun r8a=>
 some (decide (¬(r8a=true)))).bind fun m9a=>
 if m9a=true then (Dg).bind fun r0b=>
 some r0b else (HA x0 x1).bind fun r0a=>
 (FI x0 x2).bind fun r1a=>
 (GW x0).bind fun r2a=>
 (GX x0).bind fun r3a=>
 (BT x0).bind fun r1b=>
 if ¬(r1b=true) then (Dg).bind fun r2b=>
 (if r2b=true then some (decide (r0a.2=1)) else some (false)).bind fun m3b=>
 (if m3b=true then some (decide (r1a.2=1)) else some (false)).bind fun m4b=>
 (if m4b=true then some (decide (r2a.2=1)) else some (false)).bind fun m5b=>
 (if m5b=true then some (decide (r3a.2=1)) else some (false)).bind fun m6b=>
 (if m6b=true then some (decide (r0a.1=0)) else some (false)).bind fun m7b=>
 (if m7b=true then some (decide (r1a.1=0)) else some (false)).bind fun m8b=>
 (if m8b=true then some (decide (r2a.1=0)) else some (false)).bind fun m9b=>
 (if m9b=true then some (decide ((sz r3a.1.Abs:Int)=0)) else some (false)).bind fun m0c=>
 some m0c else (BT x1).bind fun r1c=>
 (if ¬(r1c=true) then (if ¬r0a.2=1 then some (true) else some (decide (¬r0a.1=0))).bind fun m2c=>
 some (m2c) else some (false)).bind fun m3c=>
 (if m3c=true then some (true) else (BT x1).bind fun r4c=>
 (if r4c=true then (if ¬r0a.2=0 then some (true) else (toN x0.Man.Abs).bind fun m5c=>
 (toN x1.Man.Abs).bind fun m6c=>
 (Co (⟨(⟨x0.Man.Neg,m5c⟩:Ah),x0.Exp⟩:Ak) (⟨(⟨x1.Man.Neg,m6c⟩:Ah),x1.Exp⟩:Ak)).bind fun r7c=>
 some (decide (¬r0a.1=r7c))).bind fun m8c=>
 some (m8c) else some (false)).bind fun m9c=>
 some (m9c)).bind fun m0d=>
 if m0d=true then some false else (Ek x2).bind fun r1d=>
 (if ¬(r1d=true) then (if ¬r1a.2=1 then some (true) else some (decide (¬r1a.1=0))).bind fun m2d=>
 some (m2d) else some (false)).bind fun m3d=>
 (if m3d=true then some (true) else (Ek x2).bind fun r4d=>
 (if r4d=true then (if ¬r1a.2=0 then some (true) else (toN x0.Man.Abs).bind fun m5d=>
 (toN x2.Num.Abs).bind fun m6d=>
 (toN x2.Den).bind fun m7d=>
 (Ci (⟨(⟨x0.Man.Neg,m5d⟩:Ah),x0.Exp⟩:Ak) (⟨(⟨x2.Num.Neg,m6d⟩:Ah),m7d⟩:Cz)).bind fun r8d=>
 some (decide (¬r1a.1=r8d))).bind fun m9d=>
 some (m9d) else some (false)).bind fun m0e=>
 some (m0e)).bind fun m1e=>
 if m1e=true then some false else (toN x0.Man.Abs).bind fun m4a=>
 (CG (⟨(⟨x0.Man.Neg,m4a⟩:Ah),x0.Exp⟩:Ak)).bind fun r2e=>
 if r2e=0 then (Dg).bind fun r3e=>
 (if r3e=true then some (decide (r2a.2=5)) else some (false)).bind fun m4e=>
 (if m4e=true then some (decide (r2a.1=0)) else some (false)).bind fun m5e=>
 (if m5e=true then some (decide (r3a.2=0)) else some (false)).bind fun m6e=>
 (if m6e=true then some (decide ((sz r3a.1.Abs:Int)=0)) else some (false)).bind fun m7e=>
 some m7e else (Dg).bind fun r8e=>
 (if r8e=true then some (decide (r2a.2=0)) else some (false)).bind fun m9e=>
 if m9e=true then (FT (⟨(⟨x0.Man.Neg,m4a⟩:Ah),x0.Exp⟩:Ak)).bind fun r0f=>
 (if r2a.1=r0f then some (decide (r3a.2=0)) else some (false)).bind fun m1f=>
 if m1f=true then (Fe (⟨(⟨x0.Man.Neg,m4a⟩:Ah),x0.Exp⟩:Ak)).bind fun r2f=>
 (CW r3a.1 r2f).bind fun r3f=>
 some r3f else some false else some false
end Go.Proofs

