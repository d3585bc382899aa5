import Derived.Test.YtabiobmfelafoaaGreatDoorProg
import Derived.Test.YtabiobmfelafoaaGreatDoorCor
import Derived.Test.YtabiobmfelafoaaGreatDoorRow
import Derived.Test.YtabiobmfelafoaaGreatDoorLA
namespace Go.Proofs
set_option linter.unusedVariables false
set_option linter.unusedSimpArgs false
set_option maxHeartbeats 4000000
open Go.RowKit Go.Sb Go.Proofs.Sbn
structure AR where
 Neg:Bool
 Abs:List Int
structure AG where
 Man:AR
 Exp:Int
structure Au where
 Lo:AG
 Hi:AG
structure Ai where
 Neg:Bool
 Abs:Nat
structure Aj where
 Man:Ai
 Exp:Int
structure Ao where
 m:Ai
 e:Int
structure Am where
 Lo:Aj
 Hi:Aj
structure Av where
 lo:Ao
 hi:Ao
structure Cg where
 Num:Ai
 Den:Nat
structure Cp where
 Q:Nat
 R:Nat
structure Eu where
 S:Am
 E:Int
theorem BK:agg Tryz.prog 29 6=true:=by kernel_rfl
theorem FI:fieldAt Tryz.prog 29 0=some 0:=by kernel_rfl
theorem Bj:agg Tryz.prog 27 3=true:=by kernel_rfl
theorem FY:fieldAt Tryz.prog 29 1=some 3:=by kernel_rfl
theorem FH:Ha Tryz.prog 27 [.bool false,.slice none 0 0,.int .i64 0]:=Fk (by kernel_rfl)
theorem IW:Tryz.prog.underlying 46=some (.slice 27):=by kernel_rfl
theorem Dq:Es Tryz.prog 27 3=true:=by kernel_rfl
theorem DC:fieldAt Tryz.prog 27 0=some 0:=by kernel_rfl
theorem Bo:fieldAt Tryz.prog 25 1=some 1:=by kernel_rfl
theorem BN:Kb Tryz.prog 23=true:=by kernel_rfl
theorem AD:Tryz.prog.underlying 23=some (.slice 179):=by kernel_rfl
theorem FR:agg Tryz.prog 25 2=true:=by kernel_rfl
theorem en_143:Ent Tryz.prog 143:=ent Tryz.func143 (by kernel_rfl) rfl
theorem DP:fieldAt Tryz.prog 25 0=some 0:=by kernel_rfl
theorem FS:Kb Tryz.prog 4=true:=by kernel_rfl
theorem en_61:Ent Tryz.prog 61:=ent Tryz.func61 (by kernel_rfl) rfl
theorem Ek:fieldAt Tryz.prog 27 1=some 2:=by kernel_rfl
theorem Fl:Kb Tryz.prog 3=true:=by kernel_rfl
theorem Mx:Ent Tryz.prog 128:=ent Tryz.func128 (by kernel_rfl) rfl
theorem La:Ent Tryz.prog 45:=ent Tryz.func45 (by kernel_rfl) rfl
theorem Oj:Ent Tryz.prog 14:=ent Tryz.func14 (by kernel_rfl) rfl
theorem KT:Ha Tryz.prog 25 [.bool false,.slice none 0 0]:=Fk (by kernel_rfl)
theorem it_3:Tryz.prog.underlying 3=some (.int .i64):=by kernel_rfl
theorem AO:Tryz.prog.underlying 148=some (.int .u64):=by kernel_rfl
theorem Lr:Ent Tryz.prog 179:=ent Tryz.func179 (by kernel_rfl) rfl
theorem Jw:Es Tryz.prog 25 2=true:=by kernel_rfl
theorem HP:Ent Tryz.prog 178:=ent Tryz.func178 (by kernel_rfl) rfl
theorem OB:Ent Tryz.prog 96:=ent Tryz.func96 (by kernel_rfl) rfl
theorem LO:Ha Tryz.prog 33 [.int .i64 0]:=Fk (by kernel_rfl)
theorem MI:Tryz.prog.underlying 20=some (.interface #[]):=by kernel_rfl
theorem Ml:NA Tryz.prog 201=true:=by kernel_rfl
theorem NO:Ha Tryz.prog 201 [.int .i64 0]:=Fk (by kernel_rfl)
theorem NF:Es Tryz.prog 201 1=true:=by kernel_rfl
theorem mo:Tryz.prog.follows .mixedOrders=true:=by kernel_rfl
theorem LK:fieldAt Tryz.prog 201 0=some 0:=by kernel_rfl
theorem FW:Kb Tryz.prog 33=true:=by kernel_rfl
theorem Kr:Es Tryz.prog 33 1=true:=by kernel_rfl
theorem en_208:Ent Tryz.prog 208:=ent Tryz.func208 (by kernel_rfl) rfl
theorem Ng:Ent Tryz.prog 151:=ent Tryz.func151 (by kernel_rfl) rfl
theorem Gu:Ent Tryz.prog 102:=ent Tryz.func102 (by kernel_rfl) rfl
theorem ID:Ent Tryz.prog 135:=ent Tryz.func135 (by kernel_rfl) rfl
theorem GW:Ha Tryz.prog 117 [.bool false,.slice none 0 0]:=Fk (by kernel_rfl)
theorem Gv:Es Tryz.prog 117 2=true:=by kernel_rfl
theorem Et:agg Tryz.prog 117 2=true:=by kernel_rfl
theorem Nd:Ent Tryz.prog 137:=ent Tryz.func137 (by kernel_rfl) rfl
theorem Bu:Ha Tryz.prog 119 [.bool false,.slice none 0 0,.int .i64 0]:=Fk (by kernel_rfl)
theorem BA:fieldAt Tryz.prog 117 1=some 1:=by kernel_rfl
theorem Dv:Kb Tryz.prog 115=true:=by kernel_rfl
theorem Ap:Tryz.prog.underlying 115=some (.slice 179):=by kernel_rfl
theorem CU:Es Tryz.prog 119 3=true:=by kernel_rfl
theorem en_213:Ent Tryz.prog 213:=ent Tryz.func213 (by kernel_rfl) rfl
theorem EX:fieldAt Tryz.prog 117 0=some 0:=by kernel_rfl
theorem KH:Ent Tryz.prog 204:=ent Tryz.func204 (by kernel_rfl) rfl
theorem KQ:Ent Tryz.prog 152:=ent Tryz.func152 (by kernel_rfl) rfl
theorem Cl:fieldAt Tryz.prog 119 0=some 0:=by kernel_rfl
theorem DX:fieldAt Tryz.prog 119 1=some 2:=by kernel_rfl
theorem Mo:Ent Tryz.prog 201:=ent Tryz.func201 (by kernel_rfl) rfl
theorem sz_115:Es Tryz.prog 115 1=true:=by kernel_rfl
theorem en_202:Ent Tryz.prog 202:=ent Tryz.func202 (by kernel_rfl) rfl
theorem Jh:Ent Tryz.prog 136:=ent Tryz.func136 (by kernel_rfl) rfl
theorem en_60:Ent Tryz.prog 60:=ent Tryz.func60 (by kernel_rfl) rfl
theorem en_153:Ent Tryz.prog 153:=ent Tryz.func153 (by kernel_rfl) rfl
theorem Mf:Ent Tryz.prog 154:=ent Tryz.func154 (by kernel_rfl) rfl
theorem MR:Ent Tryz.prog 62:=ent Tryz.func62 (by kernel_rfl) rfl
theorem Jk:Ent Tryz.prog 38:=ent Tryz.func38 (by kernel_rfl) rfl
theorem Ar:Es Tryz.prog 179 1=true:=by kernel_rfl
theorem Bk:Kb Tryz.prog 179=true:=by kernel_rfl
theorem Nj:Ent Tryz.prog 64:=ent Tryz.func64 (by kernel_rfl) rfl
theorem NY:Ent Tryz.prog 120:=ent Tryz.func120 (by kernel_rfl) rfl
theorem Jd:Ent Tryz.prog 138:=ent Tryz.func138 (by kernel_rfl) rfl
theorem NS:Ent Tryz.prog 139:=ent Tryz.func139 (by kernel_rfl) rfl
theorem KX:Ent Tryz.prog 121:=ent Tryz.func121 (by kernel_rfl) rfl
theorem Ke:Ent Tryz.prog 184:=ent Tryz.func184 (by kernel_rfl) rfl
theorem IE:Ent Tryz.prog 185:=ent Tryz.func185 (by kernel_rfl) rfl
theorem MB:Ent Tryz.prog 203:=ent Tryz.func203 (by kernel_rfl) rfl
theorem LA:Ent Tryz.prog 191:=ent Tryz.func191 (by kernel_rfl) rfl
theorem Ex:Ha Tryz.prog 179 [.int .u32 0]:=Fk (by kernel_rfl)
theorem KG:Ent Tryz.prog 205:=ent Tryz.func205 (by kernel_rfl) rfl
theorem en_206:Ent Tryz.prog 206:=ent Tryz.func206 (by kernel_rfl) rfl
theorem Mz:Ent Tryz.prog 207:=ent Tryz.func207 (by kernel_rfl) rfl
theorem KJ:Ent Tryz.prog 140:=ent Tryz.func140 (by kernel_rfl) rfl
theorem Oh:Ent Tryz.prog 55:=ent Tryz.func55 (by kernel_rfl) rfl
theorem FU:Ha Tryz.prog 29 [.bool false,.slice none 0 0,.int .i64 0,.bool false,.slice none 0 0,.int .i64 0]:=Fk (by kernel_rfl)
theorem Fx:Es Tryz.prog 29 6=true:=by kernel_rfl
theorem Ks:Ent Tryz.prog 97:=ent Tryz.func97 (by kernel_rfl) rfl
theorem Ki:Tryz.prog.underlying 230=some (.slice 29):=by kernel_rfl
theorem en_182:Ent Tryz.prog 182:=ent Tryz.func182 (by kernel_rfl) rfl
theorem IJ:Ent Tryz.prog 103:=ent Tryz.func103 (by kernel_rfl) rfl
theorem NB:Ent Tryz.prog 187:=ent Tryz.func187 (by kernel_rfl) rfl
theorem Nb:Ent Tryz.prog 122:=ent Tryz.func122 (by kernel_rfl) rfl
theorem en_192:Ent Tryz.prog 192:=ent Tryz.func192 (by kernel_rfl) rfl
theorem en_115:Ent Tryz.prog 115:=ent Tryz.func115 (by kernel_rfl) rfl
theorem Mn:Tryz.prog.underlying 4=some .bool:=by kernel_rfl
theorem en_196:Ent Tryz.prog 196:=ent Tryz.func196 (by kernel_rfl) rfl
theorem en_195:Ent Tryz.prog 195:=ent Tryz.func195 (by kernel_rfl) rfl
theorem en_194:Ent Tryz.prog 194:=ent Tryz.func194 (by kernel_rfl) rfl
theorem en_124:Ent Tryz.prog 124:=ent Tryz.func124 (by kernel_rfl) rfl
theorem IL:Ent Tryz.prog 106:=ent Tryz.func106 (by kernel_rfl) rfl
theorem Ox:Ent Tryz.prog 65:=ent Tryz.func65 (by kernel_rfl) rfl
theorem Kh:Ent Tryz.prog 162:=ent Tryz.func162 (by kernel_rfl) rfl
theorem HM:Ent Tryz.prog 161:=ent Tryz.func161 (by kernel_rfl) rfl
theorem Ob:Ha Tryz.prog 121 [.bool false,.slice none 0 0,.int .i64 0,.bool false,.slice none 0 0,.int .i64 0]:=Fk (by kernel_rfl)
theorem Ny:Es Tryz.prog 121 6=true:=by kernel_rfl
theorem IY:agg Tryz.prog 121 6=true:=by kernel_rfl
theorem Kf:Ent Tryz.prog 163:=ent Tryz.func163 (by kernel_rfl) rfl
theorem NT:Ha Tryz.prog 124 [.pointer none]:=Fk (by kernel_rfl)
theorem NQ:Ent Tryz.prog 104:=ent Tryz.func104 (by kernel_rfl) rfl
theorem NE:Ent Tryz.prog 183:=ent Tryz.func183 (by kernel_rfl) rfl
theorem NR:Ent Tryz.prog 241:=ent Tryz.func241 (by kernel_rfl) rfl
theorem en_193:Ent Tryz.prog 193:=ent Tryz.func193 (by kernel_rfl) rfl
theorem Nl:Ent Tryz.prog 117:=ent Tryz.func117 (by kernel_rfl) rfl
theorem Ft:Kb Tryz.prog 124=true:=by kernel_rfl
theorem LB:Tryz.prog.underlying 124=some (.pointer 121):=by kernel_rfl
theorem Nf:Es Tryz.prog 124 1=true:=by kernel_rfl
theorem en_118:Ent Tryz.prog 118:=ent Tryz.func118 (by kernel_rfl) rfl
theorem Kc:Ent Tryz.prog 107:=ent Tryz.func107 (by kernel_rfl) rfl
theorem Nh:Ent Tryz.prog 116:=ent Tryz.func116 (by kernel_rfl) rfl
theorem Mw:Ent Tryz.prog 100:=ent Tryz.func100 (by kernel_rfl) rfl
theorem en_32:Ent Tryz.prog 32:=ent Tryz.func32 (by kernel_rfl) rfl
theorem Mt:Ent Tryz.prog 144:=ent Tryz.func144 (by kernel_rfl) rfl
theorem en_86:Ent Tryz.prog 86:=ent Tryz.func86 (by kernel_rfl) rfl
theorem LY:Ent Tryz.prog 37:=ent Tryz.func37 (by kernel_rfl) rfl
theorem LM:Ent Tryz.prog 76:=ent Tryz.func76 (by kernel_rfl) rfl
theorem Nv:Ent Tryz.prog 186:=ent Tryz.func186 (by kernel_rfl) rfl
theorem DJ:Ent Tryz.prog 105:=ent Tryz.func105 (by kernel_rfl) rfl
theorem Nr:Ent Tryz.prog 101:=ent Tryz.func101 (by kernel_rfl) rfl
theorem NP:Ent Tryz.prog 21:=ent Tryz.func21 (by kernel_rfl) rfl
theorem en_190:Ent Tryz.prog 190:=ent Tryz.func190 (by kernel_rfl) rfl
theorem No:Ent Tryz.prog 111:=ent Tryz.func111 (by kernel_rfl) rfl
theorem Np:Ent Tryz.prog 110:=ent Tryz.func110 (by kernel_rfl) rfl
theorem Oz:Ent Tryz.prog 25:=ent Tryz.func25 (by kernel_rfl) rfl
theorem Ow:Ent Tryz.prog 15:=ent Tryz.func15 (by kernel_rfl) rfl
theorem en_16:Ent Tryz.prog 16:=ent Tryz.func16 (by kernel_rfl) rfl
theorem Ns:Ent Tryz.prog 131:=ent Tryz.func131 (by kernel_rfl) rfl
theorem en_47:Ent Tryz.prog 47:=ent Tryz.func47 (by kernel_rfl) rfl
theorem HA:Ent Tryz.prog 148:=ent Tryz.func148 (by kernel_rfl) rfl
theorem Mq:Ent Tryz.prog 130:=ent Tryz.func130 (by kernel_rfl) rfl
theorem KK:Ent Tryz.prog 189:=ent Tryz.func189 (by kernel_rfl) rfl
theorem Jp:Ent Tryz.prog 198:=ent Tryz.func198 (by kernel_rfl) rfl
theorem Ly:Ent Tryz.prog 199:=ent Tryz.func199 (by kernel_rfl) rfl
theorem en_129:Ent Tryz.prog 129:=ent Tryz.func129 (by kernel_rfl) rfl
theorem en_46:Ent Tryz.prog 46:=ent Tryz.func46 (by kernel_rfl) rfl
theorem MN:Ent Tryz.prog 23:=ent Tryz.func23 (by kernel_rfl) rfl
theorem en_83:Ent Tryz.prog 83:=ent Tryz.func83 (by kernel_rfl) rfl
theorem Oy:Ent Tryz.prog 17:=ent Tryz.func17 (by kernel_rfl) rfl
theorem OC:Ent Tryz.prog 18:=ent Tryz.func18 (by kernel_rfl) rfl
theorem en_19:Ent Tryz.prog 19:=ent Tryz.func19 (by kernel_rfl) rfl
theorem KI:Ha Tryz.prog 65 [.bool false,.slice none 0 0,.slice none 0 0]:=Fk (by kernel_rfl)
theorem Ka:Ent Tryz.prog 149:=ent Tryz.func149 (by kernel_rfl) rfl
theorem IM:Ha Tryz.prog 171 [.slice none 0 0,.slice none 0 0]:=Fk (by kernel_rfl)
theorem Hz:Es Tryz.prog 171 2=true:=by kernel_rfl
theorem Jo:fieldAt Tryz.prog 171 1=some 1:=by kernel_rfl
theorem en_145:Ent Tryz.prog 145:=ent Tryz.func145 (by kernel_rfl) rfl
theorem LH:Ent Tryz.prog 146:=ent Tryz.func146 (by kernel_rfl) rfl
theorem Fs:Es Tryz.prog 65 3=true:=by kernel_rfl
theorem LT:Mg Tryz.prog 171 0=some 0:=by kernel_rfl
theorem FG:agg Tryz.prog 65 3=true:=by kernel_rfl
theorem Mv:Ent Tryz.prog 160:=ent Tryz.func160 (by kernel_rfl) rfl
theorem Hj:fieldAt Tryz.prog 65 0=some 0:=by kernel_rfl
theorem Il:fieldAt Tryz.prog 65 1=some 2:=by kernel_rfl
theorem en_180:Ent Tryz.prog 180:=ent Tryz.func180 (by kernel_rfl) rfl
theorem ME:Ent Tryz.prog 98:=ent Tryz.func98 (by kernel_rfl) rfl
theorem GX:Tryz.prog.underlying 105=some (.slice 65):=by kernel_rfl
theorem Mr:Ent Tryz.prog 200:=ent Tryz.func200 (by kernel_rfl) rfl
theorem Nx:Ent Tryz.prog 132:=ent Tryz.func132 (by kernel_rfl) rfl
theorem en_181:Ent Tryz.prog 181:=ent Tryz.func181 (by kernel_rfl) rfl
theorem Lc:Ent Tryz.prog 99:=ent Tryz.func99 (by kernel_rfl) rfl
theorem IN:Ent Tryz.prog 147:=ent Tryz.func147 (by kernel_rfl) rfl
theorem IA:fieldAt Tryz.prog 171 0=some 0:=by kernel_rfl
theorem en_212:Ent Tryz.prog 212:=ent Tryz.func212 (by kernel_rfl) rfl
theorem Mi:Ent Tryz.prog 150:=ent Tryz.func150 (by kernel_rfl) rfl
theorem Oe:Ent Tryz.prog 59:=ent Tryz.func59 (by kernel_rfl) rfl
theorem en_20:Ent Tryz.prog 20:=ent Tryz.func20 (by kernel_rfl) rfl
theorem Oo:Ha Tryz.prog 81 [.bool false,.slice none 0 0,.int .i64 0,.bool false,.slice none 0 0,.int .i64 0,.int .i64 0]:=Fk (by kernel_rfl)
theorem NL:Es Tryz.prog 81 7=true:=by kernel_rfl
theorem OA:agg Tryz.prog 81 7=true:=by kernel_rfl
theorem en_108:Ent Tryz.prog 108:=ent Tryz.func108 (by kernel_rfl) rfl
theorem fa_81_1:fieldAt Tryz.prog 81 1=some 6:=by kernel_rfl
theorem fa_81_0:fieldAt Tryz.prog 81 0=some 0:=by kernel_rfl
theorem Om:Ent Tryz.prog 22:=ent Tryz.func22 (by kernel_rfl) rfl
theorem en_239:Ent Tryz.prog 239:=ent Tryz.func239 (by kernel_rfl) rfl
theorem en_266:Ent Tryz.prog 266:=ent Tryz.func266 (by kernel_rfl) rfl
theorem en_240:Ent Tryz.prog 240:=ent Tryz.func240 (by kernel_rfl) rfl
theorem Jm:agg Tryz.prog 171 2=true:=by kernel_rfl
theorem en_188:Ent Tryz.prog 188:=ent Tryz.func188 (by kernel_rfl) rfl
theorem en_58:Ent Tryz.prog 58:=ent Tryz.func58 (by kernel_rfl) rfl
theorem NZ:Ent Tryz.prog 109:=ent Tryz.func109 (by kernel_rfl) rfl
theorem en_24:Ent Tryz.prog 24:=ent Tryz.func24 (by kernel_rfl) rfl
def Gl (_w:World) (r:Bool) (v:Value):Prop:=v = .bool r
def JF (w:World) (r:Ai) (v:Value):Prop:=∃(A1:Option Addr) (c1:Nat),v = .agg #[.bool r.Neg,.slice A1 (sz r.Abs) c1]∧RU w A1 c1 r.Abs
def Lm (w:World) (r:Aj × Int) (v:Value):Prop:=∃(A1:Option Addr) (c1:Nat),v = .tuple #[.agg #[.bool r.1.Man.Neg,.slice A1 (sz r.1.Man.Abs) c1,.int .i64 r.1.Exp],.int .i64 r.2]∧RU w A1 c1 r.1.Man.Abs
def LX (_w:World) (_r:Unit) (v:Value):Prop:=v = .tuple #[]
def JW (w:World) (r:Ai) (v:Value):Prop:=∃(A1:Option Addr) (c1:Nat),v = .agg #[.bool r.Neg,.slice A1 (sz r.Abs) c1]∧RU w A1 c1 r.Abs
def HC (w:World) (r:Ao) (v:Value):Prop:=∃(A1:Option Addr) (c1:Nat),v = .agg #[.bool r.m.Neg,.slice A1 (sz r.m.Abs) c1,.int .i64 r.e]∧RU w A1 c1 r.m.Abs
def IS (w:World) (r:Aj) (v:Value):Prop:=∃(A1:Option Addr) (c1:Nat),v = .agg #[.bool r.Man.Neg,.slice A1 (sz r.Man.Abs) c1,.int .i64 r.Exp]∧RU w A1 c1 r.Man.Abs
def JI (w:World) (r:Am) (v:Value):Prop:=∃(A1:Option Addr) (c1:Nat) (A2:Option Addr) (c2:Nat),v = .agg #[.bool r.Lo.Man.Neg,.slice A1 (sz r.Lo.Man.Abs) c1,.int .i64 r.Lo.Exp,.bool r.Hi.Man.Neg,.slice A2 (sz r.Hi.Man.Abs) c2,.int .i64 r.Hi.Exp]∧RU w A1 c1 r.Lo.Man.Abs∧RU w A2 c2 r.Hi.Man.Abs
def HU (w:World) (r:Am × Int) (v:Value):Prop:=∃(A1:Option Addr) (c1:Nat) (A2:Option Addr) (c2:Nat),v = .tuple #[.agg #[.bool r.1.Lo.Man.Neg,.slice A1 (sz r.1.Lo.Man.Abs) c1,.int .i64 r.1.Lo.Exp,.bool r.1.Hi.Man.Neg,.slice A2 (sz r.1.Hi.Man.Abs) c2,.int .i64 r.1.Hi.Exp],.int .i64 r.2]∧RU w A1 c1 r.1.Lo.Man.Abs∧RU w A2 c2 r.1.Hi.Man.Abs
def Gg (_w:World) (r:Int) (v:Value):Prop:=v = .int .i64 r
def MK (w:World) (r:Av) (v:Value):Prop:=∃(A1:Option Addr) (c1:Nat) (A2:Option Addr) (c2:Nat),v = .agg #[.bool r.lo.m.Neg,.slice A1 (sz r.lo.m.Abs) c1,.int .i64 r.lo.e,.bool r.hi.m.Neg,.slice A2 (sz r.hi.m.Abs) c2,.int .i64 r.hi.e]∧RU w A1 c1 r.lo.m.Abs∧RU w A2 c2 r.hi.m.Abs
def Kp (w:World) (r:Nat × Nat) (v:Value):Prop:=∃(A1:Option Addr) (c1:Nat) (A2:Option Addr) (c2:Nat),v = .tuple #[.slice A1 (sz r.1) c1,.slice A2 (sz r.2) c2]∧RU w A1 c1 r.1∧RU w A2 c2 r.2
def rep_33 (_w:World) (r:Int) (v:Value):Prop:=v = .int .i64 r
def Ms (w:World) (r:Cg) (v:Value):Prop:=∃(A1:Option Addr) (c1:Nat) (A2:Option Addr) (c2:Nat),v = .agg #[.bool r.Num.Neg,.slice A1 (sz r.Num.Abs) c1,.slice A2 (sz r.Den) c2]∧RU w A1 c1 r.Num.Abs∧RU w A2 c2 r.Den
def IR (w:World) (r:Nat) (v:Value):Prop:=∃(A1:Option Addr) (c1:Nat),v = .slice A1 (sz r) c1∧RU w A1 c1 r
def rep_81 (w:World) (r:Eu) (v:Value):Prop:=∃(A1:Option Addr) (c1:Nat) (A2:Option Addr) (c2:Nat),v = .agg #[.bool r.S.Lo.Man.Neg,.slice A1 (sz r.S.Lo.Man.Abs) c1,.int .i64 r.S.Lo.Exp,.bool r.S.Hi.Man.Neg,.slice A2 (sz r.S.Hi.Man.Abs) c2,.int .i64 r.S.Hi.Exp,.int .i64 r.E]∧RU w A1 c1 r.S.Lo.Man.Abs∧RU w A2 c2 r.S.Hi.Man.Abs
def MV (w:World) (r:Cp) (v:Value):Prop:=∃(A1:Option Addr) (c1:Nat) (A2:Option Addr) (c2:Nat),v = .agg #[.slice A1 (sz r.Q) c1,.slice A2 (sz r.R) c2]∧RU w A1 c1 r.Q∧RU w A2 c2 r.R
def rep_23_4 (w:World) (r:Nat × Bool) (v:Value):Prop:=∃(A1:Option Addr) (c1:Nat),v = .tuple #[.slice A1 (sz r.1) c1,.bool r.2]∧RU w A1 c1 r.1
def Kt (_w:World) (r:Int) (v:Value):Prop:=v = .int .u64 r
def Js (w:World) (r:Nat) (v:Value):Prop:=∃(A1:Option Addr) (c1:Nat),v = .slice A1 (sz r) c1∧RU w A1 c1 r
abbrev BT (x0:List Int):Option (Bool):=Lf.BT x0
abbrev BZ (x0:List Int) (x1:Int):Option (Int):=Lf.BZ x0 x1
def CA (x0:Int):Option (Nat):=(gd (0≤x0∧x0<18446744073709551616)).bind fun _=>some (x0.toNat)
abbrev GG (x0:List Int):Option (Bool):=Lf.GG x0
def CR (x0:Nat):Option (Int):=(gd (sz x0<1073741824)).bind fun _=>some (Lf.tz x0:Int)
def Cy (x0:Nat) (x1:Int):Option (Nat):=(gd (sz x0<1073741824∧0≤x1∧x1<9223372036854775808)).bind fun _=>some (x0/2^x1.toNat)
def CW (x0:Nat):Option (Nat):=(gd (sz x0<1073741824)).bind fun _=>some (x0)
def BS (x0:Nat):Option (Int):=(gd (sz x0<1073741824)).bind fun _=>some (Lf.tz x0:Int)
def BV (x0:Nat) (x1:Int):Option (Nat):=(gd (sz x0<1073741824∧0≤x1∧x1<9223372036854775808)).bind fun _=>some (x0/2^x1.toNat)
def BI (x0:Nat):Option (Int):=(gd (sz x0<1073741824)).bind fun _=>some (Lf.bl x0:Int)
def Bz (x0:Nat) (x1:Int):Option (Nat):=(gd (sz x0<1073741824∧0≤x1∧x1<34359738368)).bind fun _=>some (x0*2^x1.toNat)
def Cx (x0:Nat) (x1:Nat):Option (Nat):=(gd (sz x0<1073741824∧sz x1<1073741824∧x1≤x0)).bind fun _=>some (x0 - x1)
def Cw (x0:Nat) (x1:Nat):Option (Int):=(gd (sz x0<1073741824∧sz x1<1073741824)).bind fun _=>some (Lf.cmpw x0 x1)
def CQ (x0:Nat) (x1:Nat):Option (Nat):=(gd (sz x0<1073741824∧sz x1<1073741824)).bind fun _=>some (x0+x1)
def Dc (x0:Nat) (x1:Nat):Option (Nat):=(gd (sz x0<1073741824∧sz x1<1073741824)).bind fun _=>some (x0*x1)
abbrev Bw (x0:List Int) (x1:List Int):Option (Bool):=Lf.Bw x0 x1
def Dk (x0:Nat) (x1:Nat):Option (Nat × Nat):=(gd (sz x0<1073741824∧sz x1<1073741824∧x1≠0)).bind fun _=>some (x0/x1,x0%x1)
def AJ (x0:Nat) (x1:Int):Option (Nat):=(gd (sz x0<1073741824∧0≤x1∧x1<34359738368)).bind fun _=>some (x0*2^x1.toNat)
def Bb (x0:Nat) (x1:Nat):Option (Nat):=(gd (sz x0<1073741824∧sz x1<1073741824)).bind fun _=>some (x0+x1)
def Ba (x0:Nat) (x1:Nat):Option (Int):=(gd (sz x0<1073741824∧sz x1<1073741824)).bind fun _=>some (Lf.sgnc x0 x1)
def Bv (x0:Nat) (x1:Nat):Option (Nat):=(gd (sz x0<1073741824∧sz x1<1073741824∧x1≤x0)).bind fun _=>some (x0 - x1)
def AU (x0:Nat) (x1:Nat):Option (Cp):=(gd (sz x0<1073741824∧sz x1<1073741824∧x1≠0)).bind fun _=>some (⟨x0/x1,x0%x1⟩)
def BH (x0:Nat) (x1:Nat):Option (Nat):=(gd (sz x0<1073741824∧sz x1<1073741824)).bind fun _=>some (x0*x1)
def AM (x0:Nat):Option (Int):=(gd (sz x0<1073741824)).bind fun _=>some (Lf.bl x0:Int)
def Ea (x0:AR):Option (Bool):=
 (BT x0.Abs).bind fun r0a=>
 (if r0a=true then (if ¬(x0.Neg=true) then some (true) else some (decide (0<(x0.Abs.length:Int)))).bind fun m1a=>
 some (m1a) else some (false)).bind fun m2a=>
 some m2a
def AL (x0:AG):Option (Bool):=
 (Ea x0.Man).bind fun r0a=>
 if ¬(r0a=true) then some false else if (x0.Man.Abs.length:Int)=0 then some (decide (x0.Exp=0)) else (BZ x0.Man.Abs 0).bind fun r1a=>
 (if r1a=1 then some (decide ((-1048576)≤x0.Exp)) else some (false)).bind fun m2a=>
 (if m2a=true then some (decide (x0.Exp≤1048576)) else some (false)).bind fun m3a=>
 some m3a
def EE (x0:Au):Option (Bool):=
 (if 20<(x0.Lo.Man.Abs.length:Int) then some (true) else (AL x0.Lo).bind fun r0a=>
 (if r0a=true then (if x0.Lo.Exp<(-800) then some (true) else some (decide (800<x0.Lo.Exp))).bind fun m1a=>
 some (m1a) else some (false)).bind fun m2a=>
 some (m2a)).bind fun m3a=>
 if m3a=true then some false else (if 20<(x0.Hi.Man.Abs.length:Int) then some (true) else (AL x0.Hi).bind fun r4a=>
 (if r4a=true then (if x0.Hi.Exp<(-800) then some (true) else some (decide (800<x0.Hi.Exp))).bind fun m5a=>
 some (m5a) else some (false)).bind fun m6a=>
 some (m6a)).bind fun m7a=>
 if m7a=true then some false else some true
def AE (x0:Bool) (x1:Nat):Option (Ai):=
 (if x0=true then some (decide (0<(sz x1:Int))) else some (false)).bind fun m0a=>
 some (⟨m0a,x1⟩:Ai)
def FC (x0:Int):Option (Ai):=
 if x0<0 then (CA (wu64 (wi64 (-x0)))).bind fun r0a=>
 (AE true r0a).bind fun r1a=>
 some r1a else (CA (wu64 x0)).bind fun r2a=>
 (AE false r2a).bind fun r3a=>
 some r3a
def Gq (x0:AR):Option (Bool):=
 (GG x0.Abs).bind fun r0a=>
 (if r0a=true then (if ¬(x0.Neg=true) then some (true) else some (decide (0<(x0.Abs.length:Int)))).bind fun m1a=>
 some (m1a) else some (false)).bind fun m2a=>
 some m2a
def DD (x0:Bool) (x1:Int):M (Unit):=
 if ¬(x0=true) then some (.error x1) else some (.ok ())
def HJ (x0:Ai):Option (Ai):=
 some x0
def EF (x0:Ai) (x1:Int):Option (Ao):=
 if (sz x0.Abs:Int)=0 then some (⟨(⟨false,0⟩:Ai),0⟩:Ao) else (CR x0.Abs).bind fun r0a=>
 (Cy x0.Abs r0a).bind fun r1a=>
 some (⟨(⟨x0.Neg,r1a⟩:Ai),(wi64 (x1+r0a))⟩:Ao)
def Hk (x0:Ai):Option (Ai):=
 (if x0.Neg=true then some (decide (0<(sz x0.Abs:Int))) else some (false)).bind fun m0a=>
 some (⟨m0a,x0.Abs⟩:Ai)
def Eo (x0:Ao):M (Aj):=
 (if (sz x0.m.Abs:Int)≤1024 then some (decide (x0.e≤1048576)) else some (false)).bind fun m0a=>
 (if m0a=true then some (decide ((-1048576)≤x0.e)) else some (false)).bind fun m1a=>
 mb (DD m1a 2) fun r4a=>
 (CW x0.m.Abs).bind fun r2a=>
 (Hk (⟨x0.m.Neg,r2a⟩:Ai)).bind fun r3a=>
 some (.ok (⟨r3a,x0.e⟩:Aj))
def JQ (x0:AR) (x1:Int):M (Aj × Int):=
 (Gq x0).bind fun r0a=>
 mb (DD r0a 1) fun r5a=>
 if (x0.Abs.length:Int)=0 then some (.ok ((⟨(⟨false,0⟩:Ai),0⟩:Aj),0)) else (toN x0.Abs).bind fun m1a=>
 (HJ (⟨x0.Neg,m1a⟩:Ai)).bind fun r2a=>
 (EF r2a (max (-1099511627776) (min x1 1099511627776))).bind fun r3a=>
 mb (Eo r3a) fun r4a=>
 some (.ok (r4a,0))
def Jf (x0:AR) (x1:Int):Option (Aj × Int):=(JQ x0 x1).bind fun q=>match q with | .ok r=>some r | .error n=>some ((⟨(⟨false,0⟩:Ai),0⟩:Aj),n)
def DE (x0:Ai) (x1:Int):Option (Aj):=
 if (sz x0.Abs:Int)=0 then some (⟨(⟨false,0⟩:Ai),0⟩:Aj) else (BS x0.Abs).bind fun r0a=>
 (BV x0.Abs r0a).bind fun r1a=>
 some (⟨(⟨x0.Neg,r1a⟩:Ai),(wi64 (x1+r0a))⟩:Aj)
def Bi (x0:Int) (x1:Int):Option (Aj):=
 (FC x0).bind fun r7=>
 (DE r7 x1).bind fun r0a=>
 some r0a
def Fc (x0:AG):Option (Bool):=
 (Gq x0.Man).bind fun r0a=>
 if ¬(r0a=true) then some false else if (x0.Man.Abs.length:Int)=0 then some (decide (x0.Exp=0)) else (nth x0.Man.Abs 0).bind fun u1a=>
 (if (u1a%2)=1 then some (decide (x0.Exp≤1048576)) else some (false)).bind fun m2a=>
 (if m2a=true then some (decide ((-1048576)≤x0.Exp)) else some (false)).bind fun m3a=>
 some m3a
def HN (x0_0:AG):M (Unit):=
 (Fc x0_0).bind fun r0a=>
 mb (DD r0a 1) fun r1a=>
 some (.ok ())
def FV (x0:Int):M (Unit):=
 (if 1≤x0 then some (decide (x0≤4096)) else some (false)).bind fun m8=>
 mb (DD m8 1) fun r0a=>
 some (.ok ())
def HK (x0:Int):M (Unit):=
 (if 1≤x0 then some (decide (x0≤5)) else some (false)).bind fun m8=>
 mb (DD m8 1) fun r0a=>
 some (.ok ())
def Hd (x0:Aj):Option (Ao):=
 (HJ x0.Man).bind fun r0a=>
 some (⟨r0a,x0.Exp⟩:Ao)
def FN (x0:Ai) (x1:Int):Option (Ai):=
 (Bz x0.Abs x1).bind fun r0a=>
 some (⟨x0.Neg,r0a⟩:Ai)
def HH (x0:Bool) (x1:Int) (x2:Bool) (x3:Bool) (x4:Int):Option (Bool):=
 if x0=true then some false else if x4=1 then (if 0<x1 then some (true) else (if x1=0 then some (x2) else some (false)).bind fun m0a=>
 some (m0a)).bind fun m1a=>
 some m1a else if x4=2 then some (decide (0≤x1)) else if x4=4 then some (decide (¬(x3=true))) else if x4=5 then some x3 else some false
def Dx (x0:Ao) (x1:Int) (x2:Int) (x3:Bool):Option (Ao):=
 (BI x0.m.Abs).bind fun r1a=>
 (if (wi64 (r1a - x1))≤0 then some (decide (¬(x3=true))) else some (false)).bind fun m6a=>
 if m6a=true then (EF x0.m x0.e).bind fun r7a=>
 some r7a else (if (wi64 (r1a - x1))<2 then (FN x0.m (wi64 (2 - (wi64 (r1a - x1))))).bind fun r3a=>
 some (2,r3a.Neg,r3a.Abs,(wi64 ((wi64 (x0.e - 2))+(wi64 (r1a - x1))))) else some ((wi64 (r1a - x1)),x0.m.Neg,x0.m.Abs,x0.e)).bind fun m0a=>
 (Cy m0a.2.2.1 m0a.1).bind fun r2a=>
 (Bz r2a m0a.1).bind fun r8a=>
 (Cx m0a.2.2.1 r8a).bind fun r4a=>
 (if (sz r4a:Int)=0 then some (decide (¬(x3=true))) else some (false)).bind fun m9a=>
 (Bz 1 (wi64 (m0a.1 - 1))).bind fun r0b=>
 (Cw r4a r0b).bind fun r5a=>
 (if r5a=0 then some (x3) else some (false)).bind fun m1b=>
 (if m1b=true then some (1) else some (r5a)).bind fun m2b=>
 (if 0<(sz r2a:Int) then (nth (limbs r2a) 0).bind fun u3b=>
 some (decide ((u3b%2)=1)) else some (false)).bind fun m4b=>
 (HH m9a m2b m4b m0a.2.1 x2).bind fun r5b=>
 (if r5b=true then (CQ r2a 1).bind fun r6b=>
 some (r6b) else some (r2a)).bind fun m7b=>
 (EF (⟨m0a.2.1,m7b⟩:Ai) (wi64 (m0a.2.2.2+m0a.1))).bind fun r8b=>
 some r8b
def JA (x0:AG) (x1:Int) (x2:Int):M (Aj × Int):=
 mb (HN x0) fun r4a=>
 mb (FV x1) fun r5a=>
 mb (HK x2) fun r6a=>
 (toN x0.Man.Abs).bind fun m0a=>
 (Hd (⟨(⟨x0.Man.Neg,m0a⟩:Ai),x0.Exp⟩:Aj)).bind fun r1a=>
 (Dx r1a x1 x2 false).bind fun r2a=>
 mb (Eo r2a) fun r3a=>
 some (.ok (r3a,0))
def HR (x0:AG) (x1:Int) (x2:Int):Option (Aj × Int):=(JA x0 x1 x2).bind fun q=>match q with | .ok r=>some r | .error n=>some ((⟨(⟨false,0⟩:Ai),0⟩:Aj),n)
def Cd (x0:Int) (x1:Int):Option (Am):=
 (Bi x0 0).bind fun r7=>
 (Bi x1 0).bind fun r0a=>
 some (⟨r7,r0a⟩:Am)
def GV (x0:Ai):Option (Int):=
 if (sz x0.Abs:Int)=0 then some 0 else if x0.Neg=true then some (-1) else some 1
def Bl (x0:Ao):Option (Int):=
 (GV x0.m).bind fun r0a=>
 some r0a
def FO (x0:Int) (x1:Int):Option (Int):=
 if x0<x1 then some (-1) else if x1<x0 then some 1 else some 0
def Gy (x0:Ao):Option (Int):=
 (BI x0.m.Abs).bind fun r0a=>
 some (wi64 ((wi64 (r0a - 1))+x0.e))
def GL (x0:Ai):Option (Ai):=
 some (⟨(decide (¬(x0.Neg=true))),x0.Abs⟩:Ai)
def GI (x0:Ao):Option (Ao):=
 (GL x0.m).bind fun r0a=>
 some (⟨r0a,x0.e⟩:Ao)
def Hl (x0:Ai) (x1:Ai):Option (Ai):=
 if x0.Neg=x1.Neg then (CQ x0.Abs x1.Abs).bind fun r0a=>
 some (⟨x0.Neg,r0a⟩:Ai) else (Cw x0.Abs x1.Abs).bind fun r1a=>
 if 0≤r1a then (Cx x0.Abs x1.Abs).bind fun r2a=>
 some (⟨x0.Neg,r2a⟩:Ai) else (Cx x1.Abs x0.Abs).bind fun r3a=>
 some (⟨x1.Neg,r3a⟩:Ai)
def Gw (x0:Ai) (x1:Ai) (x2:Int):Option (Ao):=
 (Hl x0 x1).bind fun r0a=>
 (EF r0a x2).bind fun r1a=>
 some r1a
def CY (x0:Ao) (x1:Ao):Option (Ao):=
 (if (sz x0.m.Abs:Int)=0 then some (x1.e) else some (min x0.e x1.e)).bind fun m5a=>
 (if (sz x1.m.Abs:Int)=0 then some (x0.e) else some (m5a)).bind fun m0a=>
 (if 0<(sz x0.m.Abs:Int) then (FN x0.m (wi64 (x0.e - m0a))).bind fun r1a=>
 some (r1a.Neg,r1a.Abs) else some (x0.m.Neg,x0.m.Abs)).bind fun m2a=>
 (if 0<(sz x1.m.Abs:Int) then (FN x1.m (wi64 (x1.e - m0a))).bind fun r3a=>
 some (r3a.Neg,r3a.Abs) else some (x1.m.Neg,x1.m.Abs)).bind fun m4a=>
 (Gw (⟨m2a.1,m2a.2⟩:Ai) (⟨m4a.1,m4a.2⟩:Ai) m0a).bind fun r6a=>
 some r6a
def Gm (x0:Ao) (x1:Ao):Option (Ao):=
 (CY x0 x1).bind fun r0a=>
 some r0a
def BC (x0:Ao) (x1:Ao):Option (Int):=
 (Bl x0).bind fun r0a=>
 (Bl x1).bind fun r1a=>
 (if ¬r0a=r1a then some (true) else some (decide (r0a=0))).bind fun m4a=>
 if m4a=true then (FO r0a r1a).bind fun r5a=>
 some r5a else (Gy x0).bind fun r2a=>
 (Gy x1).bind fun r3a=>
 if ¬r2a=r3a then (Bl x0).bind fun r6a=>
 (FO r2a r3a).bind fun r7a=>
 some (wi64 (r6a*r7a)) else (GI x1).bind fun r8a=>
 (Gm x0 r8a).bind fun r9a=>
 (Bl r9a).bind fun r0b=>
 some r0b
def Dn (x0:Au):Option (Bool):=
 (Fc x0.Lo).bind fun r0a=>
 if r0a=true then (Fc x0.Hi).bind fun r1a=>
 if r1a=true then (toN x0.Lo.Man.Abs).bind fun m2a=>
 (Hd (⟨(⟨x0.Lo.Man.Neg,m2a⟩:Ai),x0.Lo.Exp⟩:Aj)).bind fun r3a=>
 (toN x0.Hi.Man.Abs).bind fun m4a=>
 (Hd (⟨(⟨x0.Hi.Man.Neg,m4a⟩:Ai),x0.Hi.Exp⟩:Aj)).bind fun r5a=>
 (BC r3a r5a).bind fun r6a=>
 some (decide (r6a≤0)) else some false else some false
def Du (x0_0:Au) (x0_1:Au):M (Unit):=
 (Dn x0_0).bind fun r0a=>
 mb (DD r0a 1) fun r2a=>
 (Dn x0_1).bind fun r1a=>
 mb (DD r1a 1) fun r3a=>
 some (.ok ())
def Fd (x0:Am):Option (Av):=
 (Hd x0.Lo).bind fun r0a=>
 (Hd x0.Hi).bind fun r1a=>
 some (⟨r0a,r1a⟩:Av)
def HV (x0:Ai) (x1:Ai):Option (Ai):=
 (Dc x0.Abs x1.Abs).bind fun r0a=>
 some (⟨(decide (¬x0.Neg=x1.Neg)),r0a⟩:Ai)
def GK (x0:Ao) (x1:Ao):Option (Ao):=
 (HV x0.m x1.m).bind fun r0a=>
 (EF r0a (wi64 (x0.e+x1.e))).bind fun r1a=>
 some r1a
def GO (x0:Av) (x1:Int):Option (Av):=
 (Dx x0.lo x1 5 false).bind fun r0a=>
 (Dx x0.hi x1 4 false).bind fun r1a=>
 some (⟨r0a,r1a⟩:Av)
def DL (x0:Av):M (Am):=
 mb (Eo x0.lo) fun r0a=>
 mb (Eo x0.hi) fun r1a=>
 some (.ok (⟨r0a,r1a⟩:Am))
def IU (x0:Av) (x1:Av) (x2:Int) (x y:Ao):Option Av:=
 (GK x y).bind fun r0a=>
 (BC r0a r0a).bind fun r1a=>
 (if r1a<0 then some () else some ()).bind fun m3a=>
 (BC r0a r0a).bind fun r2a=>
 (if 0<r2a then some () else some ()).bind fun m4a=>
 some (⟨r0a,r0a⟩:Av)
def Gk (x0:Av) (x1:Av) (x2:Int) (sr:Av) (x y:Ao):Option Av:=
 (GK x y).bind fun r0a=>
 (BC r0a sr.lo).bind fun r3a=>
 (if r3a<0 then some (r0a.m.Neg,r0a.m.Abs,r0a.e) else some (sr.lo.m.Neg,sr.lo.m.Abs,sr.lo.e)).bind fun m1a=>
 (BC r0a sr.hi).bind fun r4a=>
 (if 0<r4a then some (r0a.m.Neg,r0a.m.Abs,r0a.e) else some (sr.hi.m.Neg,sr.hi.m.Abs,sr.hi.e)).bind fun m2a=>
 some (⟨(⟨(⟨m1a.1,m1a.2.1⟩:Ai),m1a.2.2⟩:Ao),(⟨(⟨m2a.1,m2a.2.1⟩:Ai),m2a.2.2⟩:Ao)⟩:Av)
def Ii (x0:Av) (x1:Av) (x2:Int):M (Am):=
 (IU x0 x1 x2 x0.lo x1.lo).bind fun s0a=>
 (Gk x0 x1 x2 s0a x0.lo x1.hi).bind fun s1a=>
 (Gk x0 x1 x2 s1a x0.hi x1.lo).bind fun s2a=>
 (Gk x0 x1 x2 s2a x0.hi x1.hi).bind fun s3a=>
 (GO s3a x2).bind fun r4a=>
 mb (DL r4a) fun r5a=>
 some (.ok r5a)
def FF (x0:Au) (x1:Au) (x2:Int):M (Am × Int):=
 mb (Du x0 x1) fun r7a=>
 mb (FV x2) fun r8a=>
 (toN x0.Lo.Man.Abs).bind fun m0a=>
 (toN x0.Hi.Man.Abs).bind fun m1a=>
 (Fd (⟨(⟨(⟨x0.Lo.Man.Neg,m0a⟩:Ai),x0.Lo.Exp⟩:Aj),(⟨(⟨x0.Hi.Man.Neg,m1a⟩:Ai),x0.Hi.Exp⟩:Aj)⟩:Am)).bind fun r2a=>
 (toN x1.Lo.Man.Abs).bind fun m3a=>
 (toN x1.Hi.Man.Abs).bind fun m4a=>
 (Fd (⟨(⟨(⟨x1.Lo.Man.Neg,m3a⟩:Ai),x1.Lo.Exp⟩:Aj),(⟨(⟨x1.Hi.Man.Neg,m4a⟩:Ai),x1.Hi.Exp⟩:Aj)⟩:Am)).bind fun r5a=>
 mb (Ii r2a r5a x2) fun r6a=>
 some (.ok (r6a,0))
def ED (x0:Au) (x1:Au) (x2:Int):Option (Am × Int):=(FF x0 x1 x2).bind fun q=>match q with | .ok r=>some r | .error n=>some ((⟨(⟨(⟨false,0⟩:Ai),0⟩:Aj),(⟨(⟨false,0⟩:Ai),0⟩:Aj)⟩:Am),n)
def IQ (x0:Au) (x1:Au) (x2:Int):Option (Am × Int):=
 (ED x0 x1 x2).bind fun r0a=>
 some (r0a.1,r0a.2)
def En (x0:Ai) (x1:Ai):Option (Bool):=
 (if x0.Neg=x1.Neg then (Bw (limbs x0.Abs) (limbs x1.Abs)).bind fun r0a=>
 some (r0a) else some (false)).bind fun m1a=>
 some m1a
def Cr (x0:Aj) (x1:Aj):Option (Bool):=
 (En x0.Man x1.Man).bind fun r0a=>
 (if r0a=true then some (decide (x0.Exp=x1.Exp)) else some (false)).bind fun m1a=>
 some m1a
def Br (x0:Am) (x1:Am):Option (Bool):=
 (Cr x0.Lo x1.Lo).bind fun r0a=>
 (if r0a=true then (Cr x0.Hi x1.Hi).bind fun r1a=>
 some (r1a) else some (false)).bind fun m2a=>
 some m2a
def Ct (x0:Ao) (x1:Ao) (x2:Int) (x3:Int):Option (Ao):=
 (Bl x0).bind fun r3a=>
 if r3a=0 then some (⟨(⟨false,0⟩:Ai),0⟩:Ao) else (BI x1.m.Abs).bind fun r0a=>
 (BI x0.m.Abs).bind fun r1a=>
 (Bz x0.m.Abs (max 0 (wi64 ((wi64 ((wi64 (x2+2))+r0a)) - r1a)))).bind fun r4a=>
 (Dk r4a x1.m.Abs).bind fun r2a=>
 (Dx (⟨(⟨(decide (¬x0.m.Neg=x1.m.Neg)),r2a.1⟩:Ai),(wi64 ((wi64 (x0.e - x1.e)) - (max 0 (wi64 ((wi64 ((wi64 (x2+2))+r0a)) - r1a)))))⟩:Ao) x2 x3 (decide (0<(sz r2a.2:Int)))).bind fun r5a=>
 some r5a
def FL (x0:Av) (x1:Av) (x2:Int) (x y:Ao):Option Av:=
 (Ct x y x2 5).bind fun r0a=>
 (Ct x y x2 4).bind fun r1a=>
 (BC r0a r0a).bind fun r2a=>
 (if r2a<0 then some () else some ()).bind fun m4a=>
 (BC r1a r1a).bind fun r3a=>
 (if 0<r3a then some () else some ()).bind fun m5a=>
 some (⟨r0a,r1a⟩:Av)
def BX (x0:Av) (x1:Av) (x2:Int) (sr:Av) (x y:Ao):Option Av:=
 (Ct x y x2 5).bind fun r0a=>
 (Ct x y x2 4).bind fun r1a=>
 (BC r0a sr.lo).bind fun r4a=>
 (if r4a<0 then some (r0a.m.Neg,r0a.m.Abs,r0a.e) else some (sr.lo.m.Neg,sr.lo.m.Abs,sr.lo.e)).bind fun m2a=>
 (BC r1a sr.hi).bind fun r5a=>
 (if 0<r5a then some (r1a.m.Neg,r1a.m.Abs,r1a.e) else some (sr.hi.m.Neg,sr.hi.m.Abs,sr.hi.e)).bind fun m3a=>
 some (⟨(⟨(⟨m2a.1,m2a.2.1⟩:Ai),m2a.2.2⟩:Ao),(⟨(⟨m3a.1,m3a.2.1⟩:Ai),m3a.2.2⟩:Ao)⟩:Av)
def FD (x0:Av) (x1:Av) (x2:Int):M (Am):=
 (Bl x1.lo).bind fun r0a=>
 (Bl x1.hi).bind fun r1a=>
 mb (DD (decide (0<(wi64 (r0a*r1a)))) 8) fun r7a=>
 (FL x0 x1 x2 x0.lo x1.lo).bind fun s2a=>
 (BX x0 x1 x2 s2a x0.lo x1.hi).bind fun s3a=>
 (BX x0 x1 x2 s3a x0.hi x1.lo).bind fun s4a=>
 (BX x0 x1 x2 s4a x0.hi x1.hi).bind fun s5a=>
 mb (DL s5a) fun r6a=>
 some (.ok r6a)
def Ds (x0:Au) (x1:Au) (x2:Int):M (Am × Int):=
 mb (Du x0 x1) fun r7a=>
 mb (FV x2) fun r8a=>
 (toN x0.Lo.Man.Abs).bind fun m0a=>
 (toN x0.Hi.Man.Abs).bind fun m1a=>
 (Fd (⟨(⟨(⟨x0.Lo.Man.Neg,m0a⟩:Ai),x0.Lo.Exp⟩:Aj),(⟨(⟨x0.Hi.Man.Neg,m1a⟩:Ai),x0.Hi.Exp⟩:Aj)⟩:Am)).bind fun r2a=>
 (toN x1.Lo.Man.Abs).bind fun m3a=>
 (toN x1.Hi.Man.Abs).bind fun m4a=>
 (Fd (⟨(⟨(⟨x1.Lo.Man.Neg,m3a⟩:Ai),x1.Lo.Exp⟩:Aj),(⟨(⟨x1.Hi.Man.Neg,m4a⟩:Ai),x1.Hi.Exp⟩:Aj)⟩:Am)).bind fun r5a=>
 mb (FD r2a r5a x2) fun r6a=>
 some (.ok (r6a,0))
def CG (x0:Au) (x1:Au) (x2:Int):Option (Am × Int):=(Ds x0 x1 x2).bind fun q=>match q with | .ok r=>some r | .error n=>some ((⟨(⟨(⟨false,0⟩:Ai),0⟩:Aj),(⟨(⟨false,0⟩:Ai),0⟩:Aj)⟩:Am),n)
def Fw (x0:Au) (x1:Au) (x2:Int):Option (Am × Int):=
 (CG x0 x1 x2).bind fun r0a=>
 some (r0a.1,r0a.2)
def EQ (x0:Nat):Nat→Nat→Option (Nat × Nat)
 | 0,_=>none
 | n2a+1,v0a=>
 (Dk x0 v0a).bind fun r3a=>
 (CQ v0a r3a.1).bind fun r4a=>
 (Cy r4a 1).bind fun r1a=>
 (Cw r1a v0a).bind fun r5a=>
 if 0≤r5a then (Dc v0a v0a).bind fun r6a=>
 (Cx x0 r6a).bind fun r7a=>
 some (v0a,r7a) else EQ x0 n2a r1a
def Gh (x0:Nat):Option (Nat × Nat):=
 if (sz x0:Int)=0 then some (0,0) else (BI x0).bind fun r0a=>
 (Bz 1 (wi64 ((wi64 (r0a+1)).tdiv 2))).bind fun r1a=>
 EQ x0 18446744073709551616 r1a
def Fe (x0:Ao) (x1:Int) (x2:Int):Option (Ao):=
 (Bl x0).bind fun r3a=>
 if r3a=0 then some (⟨(⟨false,0⟩:Ai),0⟩:Ao) else (BI x0.m.Abs).bind fun r0a=>
 (if ¬((wi64 (x0.e - (max 0 (wi64 ((wi64 ((wi64 (2*x1))+4)) - r0a)))))%2)=0 then some (wi64 ((max 0 (wi64 ((wi64 ((wi64 (2*x1))+4)) - r0a)))+1)) else some (max 0 (wi64 ((wi64 ((wi64 (2*x1))+4)) - r0a)))).bind fun m1a=>
 (Bz x0.m.Abs m1a).bind fun r4a=>
 (Gh r4a).bind fun r2a=>
 (Dx (⟨(⟨false,r2a.1⟩:Ai),(wi64 ((wi64 (x0.e - m1a)).tdiv 2))⟩:Ao) x1 x2 (decide (0<(sz r2a.2:Int)))).bind fun r5a=>
 some r5a
def FE (x0:Av) (x1:Av) (x2:Int):M (Am):=
 (Bl x0.lo).bind fun r0a=>
 mb (DD (decide (0≤r0a)) 3) fun r4a=>
 (Fe x0.lo x2 5).bind fun r1a=>
 (Fe x0.hi x2 4).bind fun r2a=>
 mb (DL (⟨r1a,r2a⟩:Av)) fun r3a=>
 some (.ok r3a)
def Dt (x0:Au) (x1:Au) (x2:Int):M (Am × Int):=
 mb (Du x0 x1) fun r7a=>
 mb (FV x2) fun r8a=>
 (toN x0.Lo.Man.Abs).bind fun m0a=>
 (toN x0.Hi.Man.Abs).bind fun m1a=>
 (Fd (⟨(⟨(⟨x0.Lo.Man.Neg,m0a⟩:Ai),x0.Lo.Exp⟩:Aj),(⟨(⟨x0.Hi.Man.Neg,m1a⟩:Ai),x0.Hi.Exp⟩:Aj)⟩:Am)).bind fun r2a=>
 (toN x1.Lo.Man.Abs).bind fun m3a=>
 (toN x1.Hi.Man.Abs).bind fun m4a=>
 (Fd (⟨(⟨(⟨x1.Lo.Man.Neg,m3a⟩:Ai),x1.Lo.Exp⟩:Aj),(⟨(⟨x1.Hi.Man.Neg,m4a⟩:Ai),x1.Hi.Exp⟩:Aj)⟩:Am)).bind fun r5a=>
 mb (FE r2a r5a x2) fun r6a=>
 some (.ok (r6a,0))
def CH (x0:Au) (x1:Au) (x2:Int):Option (Am × Int):=(Dt x0 x1 x2).bind fun q=>match q with | .ok r=>some r | .error n=>some ((⟨(⟨(⟨false,0⟩:Ai),0⟩:Aj),(⟨(⟨false,0⟩:Ai),0⟩:Aj)⟩:Am),n)
def FB (x0:Au) (x1:Int):Option (Am × Int):=
 (CH x0 x0 x1).bind fun r0a=>
 some (r0a.1,r0a.2)
def Ev:Option (Bool):=
 (FC 12).bind fun r3=>
 (Jf (⟨r3.Neg,(limbs r3.Abs)⟩:AR) 3).bind fun r9a=>
 (Bi 11 0).bind fun r7a=>
 (HR (⟨(⟨r7a.Man.Neg,(limbs r7a.Man.Abs)⟩:AR),r7a.Exp⟩:AG) 3 1).bind fun r0b=>
 (Bi (-11) 0).bind fun r8a=>
 (HR (⟨(⟨r8a.Man.Neg,(limbs r8a.Man.Abs)⟩:AR),r8a.Exp⟩:AG) 2 5).bind fun r1b=>
 (Cd (-1) 2).bind fun r0a=>
 (Cd (-3) 5).bind fun r1a=>
 (IQ (⟨(⟨(⟨r0a.Lo.Man.Neg,(limbs r0a.Lo.Man.Abs)⟩:AR),r0a.Lo.Exp⟩:AG),(⟨(⟨r0a.Hi.Man.Neg,(limbs r0a.Hi.Man.Abs)⟩:AR),r0a.Hi.Exp⟩:AG)⟩:Au) (⟨(⟨(⟨r1a.Lo.Man.Neg,(limbs r1a.Lo.Man.Abs)⟩:AR),r1a.Lo.Exp⟩:AG),(⟨(⟨r1a.Hi.Man.Neg,(limbs r1a.Hi.Man.Abs)⟩:AR),r1a.Hi.Exp⟩:AG)⟩:Au) 8).bind fun r2b=>
 (if ¬r9a.2=0 then some (true) else some (decide (¬r0b.2=0))).bind fun m5b=>
 (if m5b=true then some (true) else some (decide (¬r1b.2=0))).bind fun m6b=>
 (if m6b=true then some (true) else some (decide (¬r2b.2=0))).bind fun m7b=>
 if m7b=true then some false else (Bi 3 5).bind fun r8b=>
 (Cr r9a.1 r8b).bind fun r9b=>
 if ¬(r9b=true) then some false else (Bi 12 0).bind fun r0c=>
 (Cr r0b.1 r0c).bind fun r1c=>
 if ¬(r1c=true) then some false else (Bi (-12) 0).bind fun r2c=>
 (Cr r1b.1 r2c).bind fun r3c=>
 if ¬(r3c=true) then some false else (Cd (-6) 10).bind fun r4c=>
 (Br r2b.1 r4c).bind fun r5c=>
 if ¬(r5c=true) then some false else (Cd 1 1).bind fun r2a=>
 (Cd 3 3).bind fun r3a=>
 (Fw (⟨(⟨(⟨r2a.Lo.Man.Neg,(limbs r2a.Lo.Man.Abs)⟩:AR),r2a.Lo.Exp⟩:AG),(⟨(⟨r2a.Hi.Man.Neg,(limbs r2a.Hi.Man.Abs)⟩:AR),r2a.Hi.Exp⟩:AG)⟩:Au) (⟨(⟨(⟨r3a.Lo.Man.Neg,(limbs r3a.Lo.Man.Abs)⟩:AR),r3a.Lo.Exp⟩:AG),(⟨(⟨r3a.Hi.Man.Neg,(limbs r3a.Hi.Man.Abs)⟩:AR),r3a.Hi.Exp⟩:AG)⟩:Au) 4).bind fun r3b=>
 (Cd 1 1).bind fun r4a=>
 (Cd (-1) 1).bind fun r5a=>
 (Fw (⟨(⟨(⟨r4a.Lo.Man.Neg,(limbs r4a.Lo.Man.Abs)⟩:AR),r4a.Lo.Exp⟩:AG),(⟨(⟨r4a.Hi.Man.Neg,(limbs r4a.Hi.Man.Abs)⟩:AR),r4a.Hi.Exp⟩:AG)⟩:Au) (⟨(⟨(⟨r5a.Lo.Man.Neg,(limbs r5a.Lo.Man.Abs)⟩:AR),r5a.Lo.Exp⟩:AG),(⟨(⟨r5a.Hi.Man.Neg,(limbs r5a.Hi.Man.Abs)⟩:AR),r5a.Hi.Exp⟩:AG)⟩:Au) 4).bind fun r6c=>
 (Cd 2 2).bind fun r6a=>
 (FB (⟨(⟨(⟨r6a.Lo.Man.Neg,(limbs r6a.Lo.Man.Abs)⟩:AR),r6a.Lo.Exp⟩:AG),(⟨(⟨r6a.Hi.Man.Neg,(limbs r6a.Hi.Man.Abs)⟩:AR),r6a.Hi.Exp⟩:AG)⟩:Au) 4).bind fun r4b=>
 (Bi 5 (-4)).bind fun r7c=>
 (Bi 11 (-5)).bind fun r8c=>
 (Bi 11 (-3)).bind fun r9c=>
 (Bi 3 (-1)).bind fun r0d=>
 (if r3b.2=0 then some (decide (r6c.2=8)) else some (false)).bind fun m1d=>
 (if m1d=true then some (decide (r4b.2=0)) else some (false)).bind fun m2d=>
 (if m2d=true then (Br r3b.1 (⟨r7c,r8c⟩:Am)).bind fun r3d=>
 some (r3d) else some (false)).bind fun m4d=>
 (if m4d=true then (Br r4b.1 (⟨r9c,r0d⟩:Am)).bind fun r5d=>
 some (r5d) else some (false)).bind fun m6d=>
 some m6d
def ET (x0:Int):Option (Bool):=
 (if 1≤x0 then some (decide (x0≤4096)) else some (false)).bind fun m0a=>
 some m0a
def DF (x0:Ai):Option (Ai):=
 (AE (decide (¬(x0.Neg=true))) x0.Abs).bind fun r0a=>
 some r0a
def EJ (x0:Aj):Option (Aj):=
 (DF x0.Man).bind fun r0a=>
 some (⟨r0a,x0.Exp⟩:Aj)
def CJ (x0:Ai) (x1:Int):Option (Ai):=
 (AJ x0.Abs x1).bind fun r0a=>
 some (⟨x0.Neg,r0a⟩:Ai)
def Fp (x0:Ai) (x1:Ai):Option (Ai):=
 if x0.Neg=x1.Neg then (Bb x0.Abs x1.Abs).bind fun r0a=>
 (AE x0.Neg r0a).bind fun r1a=>
 some r1a else (Ba x0.Abs x1.Abs).bind fun r2a=>
 if 0≤r2a then (Bv x0.Abs x1.Abs).bind fun r3a=>
 (AE x0.Neg r3a).bind fun r4a=>
 some r4a else (Bv x1.Abs x0.Abs).bind fun r5a=>
 (AE x1.Neg r5a).bind fun r6a=>
 some r6a
def DR (x0:Aj) (x1:Aj):Option (Aj):=
 if (sz x0.Man.Abs:Int)=0 then some x1 else if (sz x1.Man.Abs:Int)=0 then some x0 else (CJ x0.Man (wi64 (x0.Exp - (min x0.Exp x1.Exp)))).bind fun r0a=>
 (CJ x1.Man (wi64 (x1.Exp - (min x0.Exp x1.Exp)))).bind fun r1a=>
 (Fp r0a r1a).bind fun r2a=>
 (DE r2a (min x0.Exp x1.Exp)).bind fun r3a=>
 some r3a
def Bp (x0:Aj):Option (Int):=
 if (sz x0.Man.Abs:Int)=0 then some 0 else if x0.Man.Neg=true then some (-1) else some 1
def Ei (x0:Aj) (x1:Aj):Option (Int):=
 (EJ x1).bind fun r0a=>
 (DR x0 r0a).bind fun r1a=>
 (Bp r1a).bind fun r2a=>
 some r2a
def DI (x0:Au):Option (Bool):=
 (AL x0.Lo).bind fun r0a=>
 (if r0a=true then (AL x0.Hi).bind fun r1a=>
 some (r1a) else some (false)).bind fun m2a=>
 (if m2a=true then (toN x0.Lo.Man.Abs).bind fun m3a=>
 (toN x0.Hi.Man.Abs).bind fun m4a=>
 (Ei (⟨(⟨x0.Lo.Man.Neg,m3a⟩:Ai),x0.Lo.Exp⟩:Aj) (⟨(⟨x0.Hi.Man.Neg,m4a⟩:Ai),x0.Hi.Exp⟩:Aj)).bind fun r5a=>
 some (decide (r5a≤0)) else some (false)).bind fun m6a=>
 some m6a
def Dd (x0:Bool):Option (Int):=
 if ¬(x0=true) then some 1 else some 0
def EV (x0:Am):Option (Int):=
 (Bp x0.Lo).bind fun r0a=>
 if 0<r0a then some 1 else (Bp x0.Hi).bind fun r1a=>
 if r1a<0 then some (-1) else some 0
def Ci (x0:Nat) (x1:Nat):Nat→Nat→Nat→Option (Nat)
 | 0,_,_=>none
 | n2a+1,v1a,v0a=>
 if 0<(sz v0a:Int) then (AU v1a v0a).bind fun r3a=>
 Ci x0 x1 n2a v0a r3a.R else some (v1a)
def Fg (x0:Nat) (x1:Nat):Option (Nat):=
 (Ci x0 x1 18446744073709551616 x0 x1).bind fun m0a=>
 some m0a
def BY:Option (Nat):=
 some 1
def Ej (x0:Ai) (x1:Nat):Option (Cg):=
 (Fg x0.Abs x1).bind fun r0a=>
 (BY).bind fun r1a=>
 (Bw (limbs r0a) (limbs r1a)).bind fun r2a=>
 if r2a=true then some (⟨x0,x1⟩:Cg) else (AU x0.Abs r0a).bind fun r3a=>
 (AE x0.Neg r3a.Q).bind fun r4a=>
 (AU x1 r0a).bind fun r5a=>
 some (⟨r4a,r5a.Q⟩:Cg)
def EL (x0:Cg):Option (Cg):=
 (DF x0.Num).bind fun r0a=>
 some (⟨r0a,x0.Den⟩:Cg)
def BE (x0:Aj) (x1:Aj):Option (Cg):=
 (Ej x0.Man x1.Man.Abs).bind fun r1a=>
 (if x1.Man.Neg=true then (EL r1a).bind fun r2a=>
 some (r2a.Num.Neg,r2a.Num.Abs,r2a.Den) else some (r1a.Num.Neg,r1a.Num.Abs,r1a.Den)).bind fun m0a=>
 if 0≤(wi64 (x0.Exp - x1.Exp)) then (CJ (⟨m0a.1,m0a.2.1⟩:Ai) (wi64 (x0.Exp - x1.Exp))).bind fun r3a=>
 (Ej r3a m0a.2.2).bind fun r4a=>
 some r4a else (AJ m0a.2.2 (wi64 (0 - (wi64 (x0.Exp - x1.Exp))))).bind fun r5a=>
 (Ej (⟨m0a.1,m0a.2.1⟩:Ai) r5a).bind fun r6a=>
 some r6a
def DG (x0:Ai) (x1:Ai):Option (Ai):=
 (BH x0.Abs x1.Abs).bind fun r0a=>
 (AE (decide (¬x0.Neg=x1.Neg)) r0a).bind fun r1a=>
 some r1a
def Fo (x0:Ai) (x1:Ai):Option (Int):=
 if ¬x0.Neg=x1.Neg then if x0.Neg=true then some (-1) else some 1 else if x0.Neg=true then (Ba x0.Abs x1.Abs).bind fun r0a=>
 some (wi64 (-r0a)) else (Ba x0.Abs x1.Abs).bind fun r1a=>
 some r1a
def Bh (x0:Cg) (x1:Cg):Option (Int):=
 (AE false x1.Den).bind fun r0a=>
 (DG x0.Num r0a).bind fun r1a=>
 (AE false x0.Den).bind fun r2a=>
 (DG x1.Num r2a).bind fun r3a=>
 (Fo r1a r3a).bind fun r4a=>
 some r4a
def El (x0:Nat) (x1:Nat) (x2:Nat) (x3:Bool) (x4:Int):Option (Nat):=
 if (sz x1:Int)=0 then some x0 else (if x4=4 then some (decide (¬(x3=true))) else some (false)).bind fun m1a=>
 (if m1a=true then some (true) else (if x4=5 then some (x3) else some (false)).bind fun m2a=>
 some (m2a)).bind fun m3a=>
 (if x4=1 then some (true) else some (decide (x4=2))).bind fun m4a=>
 (if m4a=true then (Bb x1 x1).bind fun r5a=>
 (Ba r5a x2).bind fun r0a=>
 (if 0<r0a then some (true) else (if r0a=0 then (if x4=2 then some (true) else (if 0<(sz x0:Int) then (nth (limbs x0) 0).bind fun u6a=>
 some (decide ((u6a.tmod 2)=1)) else some (false)).bind fun m7a=>
 some (m7a)).bind fun m8a=>
 some (m8a) else some (false)).bind fun m9a=>
 some (m9a)).bind fun m0b=>
 some (m0b) else some (m3a)).bind fun m1b=>
 if m1b=true then (BY).bind fun r2b=>
 (Bb x0 r2b).bind fun r3b=>
 some r3b else some x0
def CS (x0:Nat) (x1:Nat) (x2:Nat) (x3:Bool) (x4:Int) (x5:Int):Option (Aj):=
 (El x0 x1 x2 x3 x4).bind fun r0a=>
 (AE x3 r0a).bind fun r1a=>
 (DE r1a x5).bind fun r2a=>
 some r2a
def BO (x0:Cg) (x1:Int) (x2:Int):Option (Aj):=
 if (sz x0.Num.Abs:Int)=0 then some (⟨(⟨false,0⟩:Ai),0⟩:Aj) else (AM x0.Num.Abs).bind fun r0a=>
 (AM x0.Den).bind fun r1a=>
 (AJ x0.Num.Abs (max 0 (wi64 (0 - (wi64 ((wi64 (r0a - r1a)) - x1)))))).bind fun r6a=>
 (AJ x0.Den (max 0 (wi64 ((wi64 (r0a - r1a)) - x1)))).bind fun r4a=>
 (AU r6a r4a).bind fun r2a=>
 (AM r2a.Q).bind fun r7a=>
 if r7a≤x1 then (CS r2a.Q r2a.R r4a x0.Num.Neg x2 (wi64 ((wi64 (r0a - r1a)) - x1))).bind fun r8a=>
 some r8a else (AJ x0.Num.Abs (max 0 (wi64 (0 - (wi64 ((wi64 ((wi64 (r0a - r1a)) - x1))+1)))))).bind fun r9a=>
 (AJ x0.Den (max 0 (wi64 ((wi64 ((wi64 (r0a - r1a)) - x1))+1)))).bind fun r5a=>
 (AU r9a r5a).bind fun r3a=>
 (AM r3a.Q).bind fun r0b=>
 if r0b≤x1 then (CS r3a.Q r3a.R r5a x0.Num.Neg x2 (wi64 ((wi64 ((wi64 (r0a - r1a)) - x1))+1))).bind fun r1b=>
 some r1b else none
def Fa (x0:Am) (x1:Am) (x2:Int):Option (Am):=
 (BE x0.Lo x1.Lo).bind fun r0a=>
 (BE x0.Lo x1.Hi).bind fun r1a=>
 (BE x0.Hi x1.Lo).bind fun r2a=>
 (BE x0.Hi x1.Hi).bind fun r3a=>
 (Bh r1a r0a).bind fun r0b=>
 (if r0b<0 then some (r1a.Num.Neg,r1a.Num.Abs,r1a.Den) else some (r0a.Num.Neg,r0a.Num.Abs,r0a.Den)).bind fun m4a=>
 (Bh r1a r0a).bind fun r1b=>
 (if 0<r1b then some (r1a.Num.Neg,r1a.Num.Abs,r1a.Den) else some (r0a.Num.Neg,r0a.Num.Abs,r0a.Den)).bind fun m5a=>
 (Bh r2a (⟨(⟨m4a.1,m4a.2.1⟩:Ai),m4a.2.2⟩:Cg)).bind fun r2b=>
 (if r2b<0 then some (r2a.Num.Neg,r2a.Num.Abs,r2a.Den) else some (m4a.1,m4a.2.1,m4a.2.2)).bind fun m6a=>
 (Bh r2a (⟨(⟨m5a.1,m5a.2.1⟩:Ai),m5a.2.2⟩:Cg)).bind fun r3b=>
 (if 0<r3b then some (r2a.Num.Neg,r2a.Num.Abs,r2a.Den) else some (m5a.1,m5a.2.1,m5a.2.2)).bind fun m7a=>
 (Bh r3a (⟨(⟨m6a.1,m6a.2.1⟩:Ai),m6a.2.2⟩:Cg)).bind fun r4b=>
 (if r4b<0 then some (r3a.Num.Neg,r3a.Num.Abs,r3a.Den) else some (m6a.1,m6a.2.1,m6a.2.2)).bind fun m8a=>
 (Bh r3a (⟨(⟨m7a.1,m7a.2.1⟩:Ai),m7a.2.2⟩:Cg)).bind fun r5b=>
 (if 0<r5b then some (r3a.Num.Neg,r3a.Num.Abs,r3a.Den) else some (m7a.1,m7a.2.1,m7a.2.2)).bind fun m9a=>
 (BO (⟨(⟨m8a.1,m8a.2.1⟩:Ai),m8a.2.2⟩:Cg) x2 5).bind fun r6b=>
 (BO (⟨(⟨m9a.1,m9a.2.1⟩:Ai),m9a.2.2⟩:Cg) x2 4).bind fun r7b=>
 some (⟨r6b,r7b⟩:Am)
def ER (x0:Am):Option (Eu):=
 (AL (⟨(⟨x0.Lo.Man.Neg,(limbs x0.Lo.Man.Abs)⟩:AR),x0.Lo.Exp⟩:AG)).bind fun r0a=>
 (if ¬(r0a=true) then some (true) else (AL (⟨(⟨x0.Hi.Man.Neg,(limbs x0.Hi.Man.Abs)⟩:AR),x0.Hi.Exp⟩:AG)).bind fun r1a=>
 some (decide (¬(r1a=true)))).bind fun m2a=>
 if m2a=true then some (⟨(⟨(⟨(⟨false,0⟩:Ai),0⟩:Aj),(⟨(⟨false,0⟩:Ai),0⟩:Aj)⟩:Am),2⟩:Eu) else some (⟨x0,0⟩:Eu)
def Bs (x0:Am) (x1:Int) (x2:Int) (x3:Am):Option (Bool):=
 if ¬x2=0 then (if x1=x2 then (Br x0 (⟨(⟨(⟨false,0⟩:Ai),0⟩:Aj),(⟨(⟨false,0⟩:Ai),0⟩:Aj)⟩:Am)).bind fun r1a=>
 some (r1a) else some (false)).bind fun m2a=>
 some m2a else (ER x3).bind fun r0a=>
 (if x1=r0a.E then (Br x0 r0a.S).bind fun r3a=>
 some (r3a) else some (false)).bind fun m4a=>
 some m4a
def CK (x0:Nat) (x1:Int) (x2:Nat):Nat→Nat→Int→Option (Bool)
 | 0,_,_=>none
 | n2a+1,v3a,v0a=>
 if v0a<x1 then (BH v3a x0).bind fun r1a=>
 (Ba r1a x2).bind fun r4a=>
 if 0<r4a then some true else CK x0 x1 x2 n2a r1a (wi64 (v0a+1)) else some false
def Ed (x0:Nat) (x1:Int) (x2:Nat):Option (Bool):=
 CK x0 x1 x2 18446744073709551616 1 0
def EW (x0:Nat):Option (Bool):=
 some (decide ((sz x0:Int)≤1024))
def Da (x0:Nat) (x1:Int):Nat→Nat→Int→Option (Nat × Bool)
 | 0,_,_=>none
 | n3a+1,v0a,v1a=>
 if v1a<x1 then (BH v0a x0).bind fun r2a=>
 (EW r2a).bind fun r4a=>
 if ¬(r4a=true) then some (0,false) else Da x0 x1 n3a r2a (wi64 (v1a+1)) else some (v0a,true)
def Fh (x0:Nat) (x1:Int):Option (Nat × Bool):=
 (if x1=0 then some (true) else (Bw (limbs x0) (limbs 1)).bind fun r0a=>
 some (r0a)).bind fun m1a=>
 if m1a=true then some (1,true) else if (sz x0:Int)=0 then some (x0,true) else Da x0 x1 18446744073709551616 1 0
def BG (x0:Nat) (x1:Int):Nat→Nat→Int→Option (Nat)
 | 0,_,_=>none
 | n3a+1,v0a,v1a=>
 if 0≤v1a then (AJ 1 v1a).bind fun r4a=>
 (Bb v0a r4a).bind fun r2a=>
 (Ed r2a x1 x0).bind fun r5a=>
 (if ¬(r5a=true) then some (r2a) else some (v0a)).bind fun m6a=>
 BG x0 x1 n3a m6a (wi64 (v1a - 1)) else some (v0a)
def EZ (x0:Nat) (x1:Int):Option (Cp):=
 (Ba x0 1).bind fun r1a=>
 if r1a≤0 then some (⟨x0,0⟩:Cp) else (AM x0).bind fun r2a=>
 if r2a≤x1 then (Bv x0 1).bind fun r3a=>
 some (⟨1,r3a⟩:Cp) else (AM x0).bind fun r4a=>
 (gd (x1≠0)).bind fun _=>
 (BG x0 x1 18446744073709551616 0 (wi64 (r4a.tdiv x1))).bind fun m0a=>
 (Fh m0a x1).bind fun r5a=>
 (Bv x0 r5a.1).bind fun r6a=>
 some (⟨m0a,r6a⟩:Cp)
def EO (x0:Aj) (x1:Int) (x2:Int):Option (Aj):=
 (AM x0.Man.Abs).bind fun r0a=>
 if (wi64 (r0a - x1))≤0 then some x0 else (BY).bind fun r3a=>
 (AJ r3a (wi64 (r0a - x1))).bind fun r1a=>
 (AU x0.Man.Abs r1a).bind fun r2a=>
 (CS r2a.Q r2a.R r1a x0.Man.Neg x2 (wi64 (x0.Exp+(wi64 (r0a - x1))))).bind fun r4a=>
 some r4a
def Cf (x0:Aj) (x1:Int) (x2:Int):Option (Aj):=
 if (sz x0.Man.Abs:Int)=0 then some x0 else (if ¬((wi64 (x0.Exp - (wi64 ((wi64 (2*x1))+2)))).tmod 2)=0 then some (wi64 ((wi64 ((wi64 (2*x1))+2))+1)) else some (wi64 ((wi64 (2*x1))+2))).bind fun m0a=>
 (AJ x0.Man.Abs m0a).bind fun r3a=>
 (EZ r3a 2).bind fun r1a=>
 (AJ r1a.Q 1).bind fun r2a=>
 (if 0<(sz r1a.R:Int) then (BY).bind fun r4a=>
 (Bb r2a r4a).bind fun r5a=>
 some (r5a) else some (r2a)).bind fun m6a=>
 (AE false m6a).bind fun r7a=>
 (DE r7a (wi64 ((wi64 ((wi64 (x0.Exp - m0a)).tdiv 2)) - 1))).bind fun r8a=>
 (EO r8a x1 x2).bind fun r9a=>
 some r9a
def ES (x0:Am) (x1:Int):Option (Am):=
 (Cf x0.Lo x1 5).bind fun r0a=>
 (Cf x0.Hi x1 4).bind fun r1a=>
 some (⟨r0a,r1a⟩:Am)
def DM (x0:Au) (x1:Au) (x2:Int):Option (Bool):=
 (EE x0).bind fun r1b=>
 (if ¬(r1b=true) then some (true) else (EE x1).bind fun r2b=>
 some (decide (¬(r2b=true)))).bind fun m3b=>
 (if m3b=true then some (true) else some (decide (500<x2))).bind fun m4b=>
 if m4b=true then (Ev).bind fun r5b=>
 some r5b else (ET x2).bind fun r6b=>
 (if r6b=true then (DI x0).bind fun r7b=>
 some (r7b) else some (false)).bind fun m4a=>
 (if m4a=true then (DI x1).bind fun r8b=>
 some (r8b) else some (false)).bind fun m9b=>
 (Dd m9b).bind fun r5a=>
 (if r5a=0 then (toN x1.Lo.Man.Abs).bind fun m0c=>
 (toN x1.Hi.Man.Abs).bind fun m1c=>
 (EV (⟨(⟨(⟨x1.Lo.Man.Neg,m0c⟩:Ai),x1.Lo.Exp⟩:Aj),(⟨(⟨x1.Hi.Man.Neg,m1c⟩:Ai),x1.Hi.Exp⟩:Aj)⟩:Am)).bind fun r2c=>
 some (decide (r2c=0)) else some (false)).bind fun m3c=>
 (if m3c=true then some (8) else some (r5a)).bind fun m6a=>
 (if m6a=0 then (toN x0.Lo.Man.Abs).bind fun m4c=>
 (toN x0.Hi.Man.Abs).bind fun m5c=>
 (toN x1.Lo.Man.Abs).bind fun m6c=>
 (toN x1.Hi.Man.Abs).bind fun m7c=>
 (Fa (⟨(⟨(⟨x0.Lo.Man.Neg,m4c⟩:Ai),x0.Lo.Exp⟩:Aj),(⟨(⟨x0.Hi.Man.Neg,m5c⟩:Ai),x0.Hi.Exp⟩:Aj)⟩:Am) (⟨(⟨(⟨x1.Lo.Man.Neg,m6c⟩:Ai),x1.Lo.Exp⟩:Aj),(⟨(⟨x1.Hi.Man.Neg,m7c⟩:Ai),x1.Hi.Exp⟩:Aj)⟩:Am) x2).bind fun r0a=>
 some (r0a.Lo.Man.Neg,r0a.Lo.Man.Abs,r0a.Lo.Exp,r0a.Hi.Man.Neg,r0a.Hi.Man.Abs,r0a.Hi.Exp) else some (false,0,0,false,0,0)).bind fun m1a=>
 (Fw x0 x1 x2).bind fun r7a=>
 (Bs r7a.1 r7a.2 m6a (⟨(⟨(⟨m1a.1,m1a.2.1⟩:Ai),m1a.2.2.1⟩:Aj),(⟨(⟨m1a.2.2.2.1,m1a.2.2.2.2.1⟩:Ai),m1a.2.2.2.2.2⟩:Aj)⟩:Am)).bind fun r8c=>
 if ¬(r8c=true) then some false else (Dd m4a).bind fun r8a=>
 (if r8a=0 then (toN x0.Lo.Man.Abs).bind fun m9c=>
 (Bp (⟨(⟨x0.Lo.Man.Neg,m9c⟩:Ai),x0.Lo.Exp⟩:Aj)).bind fun r0d=>
 some (decide (r0d<0)) else some (false)).bind fun m1d=>
 (if m1d=true then some (3) else some (r8a)).bind fun m9a=>
 (if m9a=0 then (toN x0.Lo.Man.Abs).bind fun m2d=>
 (toN x0.Hi.Man.Abs).bind fun m3d=>
 (ES (⟨(⟨(⟨x0.Lo.Man.Neg,m2d⟩:Ai),x0.Lo.Exp⟩:Aj),(⟨(⟨x0.Hi.Man.Neg,m3d⟩:Ai),x0.Hi.Exp⟩:Aj)⟩:Am) x2).bind fun r2a=>
 some (r2a.Lo.Man.Neg,r2a.Lo.Man.Abs,r2a.Lo.Exp,r2a.Hi.Man.Neg,r2a.Hi.Man.Abs,r2a.Hi.Exp) else some (false,0,0,false,0,0)).bind fun m3a=>
 (FB x0 x2).bind fun r0b=>
 (Ev).bind fun r4d=>
 (if r4d=true then (Bs r0b.1 r0b.2 m9a (⟨(⟨(⟨m3a.1,m3a.2.1⟩:Ai),m3a.2.2.1⟩:Aj),(⟨(⟨m3a.2.2.2.1,m3a.2.2.2.2.1⟩:Ai),m3a.2.2.2.2.2⟩:Aj)⟩:Am)).bind fun r5d=>
 some (r5d) else some (false)).bind fun m6d=>
 some m6d
end Go.Proofs

