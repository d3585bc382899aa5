import Derived.Test.YtabiobmfelafoaaGreatDoorProg
import Derived.Test.YtabiobmfelafoaaGreatDoorCor
import Derived.Test.YtabiobmfelafoaaGreatDoorRow
import Derived.Test.YtabiobmfelafoaaGreatDoorLA
namespace Go.Proofs
set_option linter.unusedVariables false
set_option linter.unusedSimpArgs false
set_option maxHeartbeats 4000000
open Go.RowKit Go.Sb Go.Proofs.Sbn
structure Av where
 Neg:Bool
 Abs:List Int
structure Ak where
 Man:Av
 Exp:Int
structure AJ where
 Lo:Ak
 Hi:Ak
structure Ag where
 Neg:Bool
 Abs:Nat
structure Af where
 Man:Ag
 Exp:Int
structure Ao where
 m:Ag
 e:Int
structure AD where
 Lo:Af
 Hi:Af
structure Au where
 lo:Ao
 hi:Ao
structure ED where
 D:Af
 E:Int
theorem CT:agg Tryz.prog 29 6=true:=by kernel_rfl
theorem IN:fieldAt Tryz.prog 29 0=some 0:=by kernel_rfl
theorem AA:agg Tryz.prog 27 3=true:=by kernel_rfl
theorem IM:fieldAt Tryz.prog 29 1=some 3:=by kernel_rfl
theorem Dj:GH Tryz.prog 27 [.bool false,.slice none 0 0,.int .i64 0]:=EZ (by kernel_rfl)
theorem HZ:Tryz.prog.underlying 46=some (.slice 27):=by kernel_rfl
theorem Ct:DW Tryz.prog 27 3=true:=by kernel_rfl
theorem DY:fieldAt Tryz.prog 27 0=some 0:=by kernel_rfl
theorem Cq:fieldAt Tryz.prog 25 1=some 1:=by kernel_rfl
theorem El:IJ Tryz.prog 23=true:=by kernel_rfl
theorem Bs:Tryz.prog.underlying 23=some (.slice 179):=by kernel_rfl
theorem Fo:agg Tryz.prog 25 2=true:=by kernel_rfl
theorem en_143:Ent Tryz.prog 143:=ent Tryz.func143 (by kernel_rfl) rfl
theorem EH:fieldAt Tryz.prog 25 0=some 0:=by kernel_rfl
theorem FL:IJ Tryz.prog 4=true:=by kernel_rfl
theorem en_61:Ent Tryz.prog 61:=ent Tryz.func61 (by kernel_rfl) rfl
theorem DX:fieldAt Tryz.prog 27 1=some 2:=by kernel_rfl
theorem Ev:IJ Tryz.prog 3=true:=by kernel_rfl
theorem KX:Ent Tryz.prog 128:=ent Tryz.func128 (by kernel_rfl) rfl
theorem Ky:Ent Tryz.prog 45:=ent Tryz.func45 (by kernel_rfl) rfl
theorem Jm:GH Tryz.prog 25 [.bool false,.slice none 0 0]:=EZ (by kernel_rfl)
theorem it_3:Tryz.prog.underlying 3=some (.int .i64):=by kernel_rfl
theorem Bf:Tryz.prog.underlying 148=some (.int .u64):=by kernel_rfl
theorem Lb:Ent Tryz.prog 179:=ent Tryz.func179 (by kernel_rfl) rfl
theorem HV:DW Tryz.prog 25 2=true:=by kernel_rfl
theorem IC:Ent Tryz.prog 178:=ent Tryz.func178 (by kernel_rfl) rfl
theorem MA:Ent Tryz.prog 96:=ent Tryz.func96 (by kernel_rfl) rfl
theorem IB:GH Tryz.prog 33 [.int .i64 0]:=EZ (by kernel_rfl)
theorem Ll:Tryz.prog.underlying 20=some (.interface #[]):=by kernel_rfl
theorem KZ:LE Tryz.prog 201=true:=by kernel_rfl
theorem LP:GH Tryz.prog 201 [.int .i64 0]:=EZ (by kernel_rfl)
theorem Mt:DW Tryz.prog 201 1=true:=by kernel_rfl
theorem mo:Tryz.prog.follows .mixedOrders=true:=by kernel_rfl
theorem Ku:fieldAt Tryz.prog 201 0=some 0:=by kernel_rfl
theorem CU:IJ Tryz.prog 33=true:=by kernel_rfl
theorem Ho:DW Tryz.prog 33 1=true:=by kernel_rfl
theorem en_208:Ent Tryz.prog 208:=ent Tryz.func208 (by kernel_rfl) rfl
theorem LV:Ent Tryz.prog 151:=ent Tryz.func151 (by kernel_rfl) rfl
theorem Dz:Ent Tryz.prog 102:=ent Tryz.func102 (by kernel_rfl) rfl
theorem DH:Ent Tryz.prog 135:=ent Tryz.func135 (by kernel_rfl) rfl
theorem FS:GH Tryz.prog 117 [.bool false,.slice none 0 0]:=EZ (by kernel_rfl)
theorem Ff:DW Tryz.prog 117 2=true:=by kernel_rfl
theorem DO:agg Tryz.prog 117 2=true:=by kernel_rfl
theorem KQ:Ent Tryz.prog 137:=ent Tryz.func137 (by kernel_rfl) rfl
theorem As:GH Tryz.prog 119 [.bool false,.slice none 0 0,.int .i64 0]:=EZ (by kernel_rfl)
theorem Br:fieldAt Tryz.prog 117 1=some 1:=by kernel_rfl
theorem CV:IJ Tryz.prog 115=true:=by kernel_rfl
theorem Aq:Tryz.prog.underlying 115=some (.slice 179):=by kernel_rfl
theorem BY:DW Tryz.prog 119 3=true:=by kernel_rfl
theorem en_213:Ent Tryz.prog 213:=ent Tryz.func213 (by kernel_rfl) rfl
theorem Eh:fieldAt Tryz.prog 117 0=some 0:=by kernel_rfl
theorem JI:Ent Tryz.prog 204:=ent Tryz.func204 (by kernel_rfl) rfl
theorem JA:Ent Tryz.prog 152:=ent Tryz.func152 (by kernel_rfl) rfl
theorem Ce:fieldAt Tryz.prog 119 0=some 0:=by kernel_rfl
theorem CZ:fieldAt Tryz.prog 119 1=some 2:=by kernel_rfl
theorem KN:Ent Tryz.prog 201:=ent Tryz.func201 (by kernel_rfl) rfl
theorem sz_115:DW Tryz.prog 115 1=true:=by kernel_rfl
theorem en_202:Ent Tryz.prog 202:=ent Tryz.func202 (by kernel_rfl) rfl
theorem Fi:Ent Tryz.prog 136:=ent Tryz.func136 (by kernel_rfl) rfl
theorem en_60:Ent Tryz.prog 60:=ent Tryz.func60 (by kernel_rfl) rfl
theorem en_153:Ent Tryz.prog 153:=ent Tryz.func153 (by kernel_rfl) rfl
theorem LY:Ent Tryz.prog 154:=ent Tryz.func154 (by kernel_rfl) rfl
theorem Mm:Ent Tryz.prog 62:=ent Tryz.func62 (by kernel_rfl) rfl
theorem HT:Ent Tryz.prog 38:=ent Tryz.func38 (by kernel_rfl) rfl
theorem AC:DW Tryz.prog 179 1=true:=by kernel_rfl
theorem Bz:IJ Tryz.prog 179=true:=by kernel_rfl
theorem Kr:Ent Tryz.prog 64:=ent Tryz.func64 (by kernel_rfl) rfl
theorem GO:Ent Tryz.prog 120:=ent Tryz.func120 (by kernel_rfl) rfl
theorem HW:Ent Tryz.prog 138:=ent Tryz.func138 (by kernel_rfl) rfl
theorem LI:Ent Tryz.prog 139:=ent Tryz.func139 (by kernel_rfl) rfl
theorem Bm:Ent Tryz.prog 121:=ent Tryz.func121 (by kernel_rfl) rfl
theorem IY:Ent Tryz.prog 184:=ent Tryz.func184 (by kernel_rfl) rfl
theorem HI:Ent Tryz.prog 185:=ent Tryz.func185 (by kernel_rfl) rfl
theorem KM:Ent Tryz.prog 203:=ent Tryz.func203 (by kernel_rfl) rfl
theorem Ke:Ent Tryz.prog 191:=ent Tryz.func191 (by kernel_rfl) rfl
theorem FR:GH Tryz.prog 179 [.int .u32 0]:=EZ (by kernel_rfl)
theorem JJ:Ent Tryz.prog 205:=ent Tryz.func205 (by kernel_rfl) rfl
theorem en_206:Ent Tryz.prog 206:=ent Tryz.func206 (by kernel_rfl) rfl
theorem KF:Ent Tryz.prog 207:=ent Tryz.func207 (by kernel_rfl) rfl
theorem JG:Ent Tryz.prog 140:=ent Tryz.func140 (by kernel_rfl) rfl
theorem ME:Ent Tryz.prog 55:=ent Tryz.func55 (by kernel_rfl) rfl
theorem Gb:GH Tryz.prog 29 [.bool false,.slice none 0 0,.int .i64 0,.bool false,.slice none 0 0,.int .i64 0]:=EZ (by kernel_rfl)
theorem Ft:DW Tryz.prog 29 6=true:=by kernel_rfl
theorem Jh:Ent Tryz.prog 97:=ent Tryz.func97 (by kernel_rfl) rfl
theorem IZ:Tryz.prog.underlying 230=some (.slice 29):=by kernel_rfl
theorem en_182:Ent Tryz.prog 182:=ent Tryz.func182 (by kernel_rfl) rfl
theorem Hf:Ent Tryz.prog 103:=ent Tryz.func103 (by kernel_rfl) rfl
theorem Mp:Ent Tryz.prog 187:=ent Tryz.func187 (by kernel_rfl) rfl
theorem Kn:Ent Tryz.prog 122:=ent Tryz.func122 (by kernel_rfl) rfl
theorem en_192:Ent Tryz.prog 192:=ent Tryz.func192 (by kernel_rfl) rfl
theorem KG:Ent Tryz.prog 115:=ent Tryz.func115 (by kernel_rfl) rfl
theorem Lu:Tryz.prog.underlying 4=some .bool:=by kernel_rfl
theorem en_196:Ent Tryz.prog 196:=ent Tryz.func196 (by kernel_rfl) rfl
theorem en_195:Ent Tryz.prog 195:=ent Tryz.func195 (by kernel_rfl) rfl
theorem en_194:Ent Tryz.prog 194:=ent Tryz.func194 (by kernel_rfl) rfl
theorem KJ:Ent Tryz.prog 124:=ent Tryz.func124 (by kernel_rfl) rfl
theorem HF:Ent Tryz.prog 106:=ent Tryz.func106 (by kernel_rfl) rfl
theorem MC:Ent Tryz.prog 65:=ent Tryz.func65 (by kernel_rfl) rfl
theorem IW:Ent Tryz.prog 162:=ent Tryz.func162 (by kernel_rfl) rfl
theorem GL:Ent Tryz.prog 161:=ent Tryz.func161 (by kernel_rfl) rfl
theorem Md:GH Tryz.prog 121 [.bool false,.slice none 0 0,.int .i64 0,.bool false,.slice none 0 0,.int .i64 0]:=EZ (by kernel_rfl)
theorem Ma:DW Tryz.prog 121 6=true:=by kernel_rfl
theorem HS:agg Tryz.prog 121 6=true:=by kernel_rfl
theorem IU:Ent Tryz.prog 163:=ent Tryz.func163 (by kernel_rfl) rfl
theorem Lz:GH Tryz.prog 124 [.pointer none]:=EZ (by kernel_rfl)
theorem Mi:Ent Tryz.prog 104:=ent Tryz.func104 (by kernel_rfl) rfl
theorem LN:Ent Tryz.prog 183:=ent Tryz.func183 (by kernel_rfl) rfl
theorem LS:Ent Tryz.prog 241:=ent Tryz.func241 (by kernel_rfl) rfl
theorem en_193:Ent Tryz.prog 193:=ent Tryz.func193 (by kernel_rfl) rfl
theorem KH:Ent Tryz.prog 117:=ent Tryz.func117 (by kernel_rfl) rfl
theorem Ex:IJ Tryz.prog 124=true:=by kernel_rfl
theorem Kg:Tryz.prog.underlying 124=some (.pointer 121):=by kernel_rfl
theorem Mn:DW Tryz.prog 124 1=true:=by kernel_rfl
theorem en_118:Ent Tryz.prog 118:=ent Tryz.func118 (by kernel_rfl) rfl
theorem Ja:Ent Tryz.prog 107:=ent Tryz.func107 (by kernel_rfl) rfl
theorem LD:Ent Tryz.prog 116:=ent Tryz.func116 (by kernel_rfl) rfl
theorem KB:Ent Tryz.prog 100:=ent Tryz.func100 (by kernel_rfl) rfl
theorem en_32:Ent Tryz.prog 32:=ent Tryz.func32 (by kernel_rfl) rfl
theorem en_144:Ent Tryz.prog 144:=ent Tryz.func144 (by kernel_rfl) rfl
theorem en_86:Ent Tryz.prog 86:=ent Tryz.func86 (by kernel_rfl) rfl
theorem Ji:Ent Tryz.prog 37:=ent Tryz.func37 (by kernel_rfl) rfl
theorem LB:Ent Tryz.prog 76:=ent Tryz.func76 (by kernel_rfl) rfl
theorem LO:Ent Tryz.prog 186:=ent Tryz.func186 (by kernel_rfl) rfl
theorem Dd:Ent Tryz.prog 105:=ent Tryz.func105 (by kernel_rfl) rfl
theorem LM:Ent Tryz.prog 101:=ent Tryz.func101 (by kernel_rfl) rfl
theorem Mz:Ent Tryz.prog 21:=ent Tryz.func21 (by kernel_rfl) rfl
theorem en_190:Ent Tryz.prog 190:=ent Tryz.func190 (by kernel_rfl) rfl
theorem LR:Ent Tryz.prog 111:=ent Tryz.func111 (by kernel_rfl) rfl
theorem LX:Ent Tryz.prog 110:=ent Tryz.func110 (by kernel_rfl) rfl
theorem en_25:Ent Tryz.prog 25:=ent Tryz.func25 (by kernel_rfl) rfl
theorem Lx:Ent Tryz.prog 15:=ent Tryz.func15 (by kernel_rfl) rfl
theorem en_131:Ent Tryz.prog 131:=ent Tryz.func131 (by kernel_rfl) rfl
theorem Mw:Ent Tryz.prog 47:=ent Tryz.func47 (by kernel_rfl) rfl
theorem LU:Ent Tryz.prog 148:=ent Tryz.func148 (by kernel_rfl) rfl
theorem LJ:Ent Tryz.prog 130:=ent Tryz.func130 (by kernel_rfl) rfl
theorem en_189:Ent Tryz.prog 189:=ent Tryz.func189 (by kernel_rfl) rfl
theorem LG:Ent Tryz.prog 198:=ent Tryz.func198 (by kernel_rfl) rfl
theorem LF:Ent Tryz.prog 199:=ent Tryz.func199 (by kernel_rfl) rfl
theorem en_129:Ent Tryz.prog 129:=ent Tryz.func129 (by kernel_rfl) rfl
theorem MB:Ent Tryz.prog 46:=ent Tryz.func46 (by kernel_rfl) rfl
theorem LK:Ent Tryz.prog 23:=ent Tryz.func23 (by kernel_rfl) rfl
theorem MH:Ent Tryz.prog 18:=ent Tryz.func18 (by kernel_rfl) rfl
theorem en_200:Ent Tryz.prog 200:=ent Tryz.func200 (by kernel_rfl) rfl
theorem en_132:Ent Tryz.prog 132:=ent Tryz.func132 (by kernel_rfl) rfl
theorem MD:Ent Tryz.prog 44:=ent Tryz.func44 (by kernel_rfl) rfl
theorem en_48:Ent Tryz.prog 48:=ent Tryz.func48 (by kernel_rfl) rfl
theorem LH:Ent Tryz.prog 125:=ent Tryz.func125 (by kernel_rfl) rfl
theorem JN:fieldAt Tryz.prog 146 1=some 1:=by kernel_rfl
theorem KV:IJ Tryz.prog 144=true:=by kernel_rfl
theorem JF:fieldAt Tryz.prog 146 0=some 0:=by kernel_rfl
theorem KO:IJ Tryz.prog 143=true:=by kernel_rfl
theorem La:Ent Tryz.prog 123:=ent Tryz.func123 (by kernel_rfl) rfl
theorem en_39:Ent Tryz.prog 39:=ent Tryz.func39 (by kernel_rfl) rfl
theorem en_126:Ent Tryz.prog 126:=ent Tryz.func126 (by kernel_rfl) rfl
theorem en_40:Ent Tryz.prog 40:=ent Tryz.func40 (by kernel_rfl) rfl
theorem en_133:Ent Tryz.prog 133:=ent Tryz.func133 (by kernel_rfl) rfl
theorem en_49:Ent Tryz.prog 49:=ent Tryz.func49 (by kernel_rfl) rfl
theorem Mg:GH Tryz.prog 154 [.bool false,.slice none 0 0,.int .i64 0,.int .i64 0]:=EZ (by kernel_rfl)
theorem KY:DW Tryz.prog 154 4=true:=by kernel_rfl
theorem LC:agg Tryz.prog 154 4=true:=by kernel_rfl
theorem en_134:Ent Tryz.prog 134:=ent Tryz.func134 (by kernel_rfl) rfl
theorem fa_154_1:fieldAt Tryz.prog 154 1=some 3:=by kernel_rfl
theorem fa_154_0:fieldAt Tryz.prog 154 0=some 0:=by kernel_rfl
theorem Kw:Ent Tryz.prog 50:=ent Tryz.func50 (by kernel_rfl) rfl
theorem en_51:Ent Tryz.prog 51:=ent Tryz.func51 (by kernel_rfl) rfl
theorem en_52:Ent Tryz.prog 52:=ent Tryz.func52 (by kernel_rfl) rfl
theorem sz_3:DW Tryz.prog 3 1=true:=by kernel_rfl
def Fw (_w:World) (r:Bool) (v:Value):Prop:=v = .bool r
def IX (w:World) (r:Ag) (v:Value):Prop:=∃(A1:Option Addr) (c1:Nat),v = .agg #[.bool r.Neg,.slice A1 (sz r.Abs) c1]∧RU w A1 c1 r.Abs
def Fb (w:World) (r:Af × Int) (v:Value):Prop:=∃(A1:Option Addr) (c1:Nat),v = .tuple #[.agg #[.bool r.1.Man.Neg,.slice A1 (sz r.1.Man.Abs) c1,.int .i64 r.1.Exp],.int .i64 r.2]∧RU w A1 c1 r.1.Man.Abs
def JR (_w:World) (_r:Unit) (v:Value):Prop:=v = .tuple #[]
def IS (w:World) (r:Ag) (v:Value):Prop:=∃(A1:Option Addr) (c1:Nat),v = .agg #[.bool r.Neg,.slice A1 (sz r.Abs) c1]∧RU w A1 c1 r.Abs
def Gf (w:World) (r:Ao) (v:Value):Prop:=∃(A1:Option Addr) (c1:Nat),v = .agg #[.bool r.m.Neg,.slice A1 (sz r.m.Abs) c1,.int .i64 r.e]∧RU w A1 c1 r.m.Abs
def JH (w:World) (r:Af) (v:Value):Prop:=∃(A1:Option Addr) (c1:Nat),v = .agg #[.bool r.Man.Neg,.slice A1 (sz r.Man.Abs) c1,.int .i64 r.Exp]∧RU w A1 c1 r.Man.Abs
def JD (w:World) (r:AD) (v:Value):Prop:=∃(A1:Option Addr) (c1:Nat) (A2:Option Addr) (c2:Nat),v = .agg #[.bool r.Lo.Man.Neg,.slice A1 (sz r.Lo.Man.Abs) c1,.int .i64 r.Lo.Exp,.bool r.Hi.Man.Neg,.slice A2 (sz r.Hi.Man.Abs) c2,.int .i64 r.Hi.Exp]∧RU w A1 c1 r.Lo.Man.Abs∧RU w A2 c2 r.Hi.Man.Abs
def GW (w:World) (r:AD × Int) (v:Value):Prop:=∃(A1:Option Addr) (c1:Nat) (A2:Option Addr) (c2:Nat),v = .tuple #[.agg #[.bool r.1.Lo.Man.Neg,.slice A1 (sz r.1.Lo.Man.Abs) c1,.int .i64 r.1.Lo.Exp,.bool r.1.Hi.Man.Neg,.slice A2 (sz r.1.Hi.Man.Abs) c2,.int .i64 r.1.Hi.Exp],.int .i64 r.2]∧RU w A1 c1 r.1.Lo.Man.Abs∧RU w A2 c2 r.1.Hi.Man.Abs
def Gk (_w:World) (r:Int) (v:Value):Prop:=v = .int .i64 r
def Lp (w:World) (r:Au) (v:Value):Prop:=∃(A1:Option Addr) (c1:Nat) (A2:Option Addr) (c2:Nat),v = .agg #[.bool r.lo.m.Neg,.slice A1 (sz r.lo.m.Abs) c1,.int .i64 r.lo.e,.bool r.hi.m.Neg,.slice A2 (sz r.hi.m.Abs) c2,.int .i64 r.hi.e]∧RU w A1 c1 r.lo.m.Abs∧RU w A2 c2 r.hi.m.Abs
def Jn (w:World) (r:Nat × Nat) (v:Value):Prop:=∃(A1:Option Addr) (c1:Nat) (A2:Option Addr) (c2:Nat),v = .tuple #[.slice A1 (sz r.1) c1,.slice A2 (sz r.2) c2]∧RU w A1 c1 r.1∧RU w A2 c2 r.2
def rep_33 (_w:World) (r:Int) (v:Value):Prop:=v = .int .i64 r
def IV (w:World) (r:Nat) (v:Value):Prop:=∃(A1:Option Addr) (c1:Nat),v = .slice A1 (sz r) c1∧RU w A1 c1 r
def rep_L27 (w:World) (r:Ak) (v:Value):Prop:=∃(A1:Option Addr) (c1:Nat),v = .agg #[.bool r.Man.Neg,.slice A1 r.Man.Abs.length c1,.int .i64 r.Exp]∧RLu w A1 c1 r.Man.Abs
def Lr (w:World) (r:Av) (v:Value):Prop:=∃(A1:Option Addr) (c1:Nat),v = .agg #[.bool r.Neg,.slice A1 r.Abs.length c1]∧RLu w A1 c1 r.Abs
def rep_154 (w:World) (r:ED) (v:Value):Prop:=∃(A1:Option Addr) (c1:Nat),v = .agg #[.bool r.D.Man.Neg,.slice A1 (sz r.D.Man.Abs) c1,.int .i64 r.D.Exp,.int .i64 r.E]∧RU w A1 c1 r.D.Man.Abs
def Ju (_w:World) (r:Int) (v:Value):Prop:=v = .int .u64 r
def It (w:World) (r:Nat) (v:Value):Prop:=∃(A1:Option Addr) (c1:Nat),v = .slice A1 (sz r) c1∧RU w A1 c1 r
abbrev BD (x0:List Int):Option (Bool):=Lf.BD x0
abbrev BI (x0:List Int) (x1:Int):Option (Int):=Lf.BI x0 x1
def CK (x0:Int):Option (Nat):=(gd (0≤x0∧x0<18446744073709551616)).bind fun _=>some (x0.toNat)
abbrev Fu (x0:List Int):Option (Bool):=Lf.Fu x0
def CD (x0:Nat):Option (Int):=(gd (sz x0<1073741824)).bind fun _=>some (Lf.tz x0:Int)
def Cm (x0:Nat) (x1:Int):Option (Nat):=(gd (sz x0<1073741824∧0≤x1∧x1<9223372036854775808)).bind fun _=>some (x0/2^x1.toNat)
def CL (x0:Nat):Option (Nat):=(gd (sz x0<1073741824)).bind fun _=>some (x0)
def BC (x0:Nat):Option (Int):=(gd (sz x0<1073741824)).bind fun _=>some (Lf.tz x0:Int)
def Ca (x0:Nat) (x1:Int):Option (Nat):=(gd (sz x0<1073741824∧0≤x1∧x1<9223372036854775808)).bind fun _=>some (x0/2^x1.toNat)
def Bw (x0:Nat):Option (Int):=(gd (sz x0<1073741824)).bind fun _=>some (Lf.bl x0:Int)
def Bq (x0:Nat) (x1:Int):Option (Nat):=(gd (sz x0<1073741824∧0≤x1∧x1<34359738368)).bind fun _=>some (x0*2^x1.toNat)
def Co (x0:Nat) (x1:Nat):Option (Nat):=(gd (sz x0<1073741824∧sz x1<1073741824∧x1≤x0)).bind fun _=>some (x0 - x1)
def Cn (x0:Nat) (x1:Nat):Option (Int):=(gd (sz x0<1073741824∧sz x1<1073741824)).bind fun _=>some (Lf.cmpw x0 x1)
def CC (x0:Nat) (x1:Nat):Option (Nat):=(gd (sz x0<1073741824∧sz x1<1073741824)).bind fun _=>some (x0+x1)
def CS (x0:Nat) (x1:Nat):Option (Nat):=(gd (sz x0<1073741824∧sz x1<1073741824)).bind fun _=>some (x0*x1)
abbrev BR (x0:List Int) (x1:List Int):Option (Bool):=Lf.BR x0 x1
def CR (x0:Nat) (x1:Nat):Option (Nat × Nat):=(gd (sz x0<1073741824∧sz x1<1073741824∧x1≠0)).bind fun _=>some (x0/x1,x0%x1)
def Cd (x0:Nat) (x1:Int):Option (Nat):=(gd (sz x0<1073741824∧0≤x1∧x1<34359738368)).bind fun _=>some (x0*2^x1.toNat)
def Bv (x0:Nat) (x1:Nat):Option (Nat):=(gd (sz x0<1073741824∧sz x1<1073741824)).bind fun _=>some (x0+x1)
def BL (x0:Nat) (x1:Nat):Option (Int):=(gd (sz x0<1073741824∧sz x1<1073741824)).bind fun _=>some (Lf.sgnc x0 x1)
def BN (x0:Nat) (x1:Nat):Option (Nat):=(gd (sz x0<1073741824∧sz x1<1073741824∧x1≤x0)).bind fun _=>some (x0 - x1)
def Cc (x0:Nat) (x1:Nat):Option (Nat):=(gd (sz x0<1073741824∧sz x1<1073741824)).bind fun _=>some (x0*x1)
def Dx (x0:Av):Option (Bool):=
 (BD x0.Abs).bind fun r0a=>
 (if r0a=true then (if ¬(x0.Neg=true) then some (true) else some (decide (0<(x0.Abs.length:Int)))).bind fun m1a=>
 some (m1a) else some (false)).bind fun m2a=>
 some m2a
def Be (x0:Ak):Option (Bool):=
 (Dx x0.Man).bind fun r0a=>
 if ¬(r0a=true) then some false else if (x0.Man.Abs.length:Int)=0 then some (decide (x0.Exp=0)) else (BI x0.Man.Abs 0).bind fun r1a=>
 (if r1a=1 then some (decide ((-1048576)≤x0.Exp)) else some (false)).bind fun m2a=>
 (if m2a=true then some (decide (x0.Exp≤1048576)) else some (false)).bind fun m3a=>
 some m3a
def AQ (x0:Bool) (x1:Nat):Option (Ag):=
 (if x0=true then some (decide (0<(sz x1:Int))) else some (false)).bind fun m0a=>
 some (⟨m0a,x1⟩:Ag)
def EE (x0:Int):Option (Ag):=
 if x0<0 then (CK (wu64 (wi64 (-x0)))).bind fun r0a=>
 (AQ true r0a).bind fun r1a=>
 some r1a else (CK (wu64 x0)).bind fun r2a=>
 (AQ false r2a).bind fun r3a=>
 some r3a
def Fe (x0:Av):Option (Bool):=
 (Fu x0.Abs).bind fun r0a=>
 (if r0a=true then (if ¬(x0.Neg=true) then some (true) else some (decide (0<(x0.Abs.length:Int)))).bind fun m1a=>
 some (m1a) else some (false)).bind fun m2a=>
 some m2a
def BZ (x0:Bool) (x1:Int):M (Unit):=
 if ¬(x0=true) then some (.error x1) else some (.ok ())
def Gc (x0:Ag):Option (Ag):=
 some x0
def DB (x0:Ag) (x1:Int):Option (Ao):=
 if (sz x0.Abs:Int)=0 then some (⟨(⟨false,0⟩:Ag),0⟩:Ao) else (CD x0.Abs).bind fun r0a=>
 (Cm x0.Abs r0a).bind fun r1a=>
 some (⟨(⟨x0.Neg,r1a⟩:Ag),(wi64 (x1+r0a))⟩:Ao)
def Fz (x0:Ag):Option (Ag):=
 (if x0.Neg=true then some (decide (0<(sz x0.Abs:Int))) else some (false)).bind fun m0a=>
 some (⟨m0a,x0.Abs⟩:Ag)
def BM (x0:Ao):M (Af):=
 (if (sz x0.m.Abs:Int)≤1024 then some (decide (x0.e≤1048576)) else some (false)).bind fun m0a=>
 (if m0a=true then some (decide ((-1048576)≤x0.e)) else some (false)).bind fun m1a=>
 mb (BZ m1a 2) fun r4a=>
 (CL x0.m.Abs).bind fun r2a=>
 (Fz (⟨x0.m.Neg,r2a⟩:Ag)).bind fun r3a=>
 some (.ok (⟨r3a,x0.e⟩:Af))
def IH (x0:Av) (x1:Int):M (Af × Int):=
 (Fe x0).bind fun r0a=>
 mb (BZ r0a 1) fun r5a=>
 if (x0.Abs.length:Int)=0 then some (.ok ((⟨(⟨false,0⟩:Ag),0⟩:Af),0)) else (toN x0.Abs).bind fun m1a=>
 (Gc (⟨x0.Neg,m1a⟩:Ag)).bind fun r2a=>
 (DB r2a (max (-1099511627776) (min x1 1099511627776))).bind fun r3a=>
 mb (BM r3a) fun r4a=>
 some (.ok (r4a,0))
def Ia (x0:Av) (x1:Int):Option (Af × Int):=(IH x0 x1).bind fun q=>match q with | .ok r=>some r | .error n=>some ((⟨(⟨false,0⟩:Ag),0⟩:Af),n)
def Db (x0:Ag) (x1:Int):Option (Af):=
 if (sz x0.Abs:Int)=0 then some (⟨(⟨false,0⟩:Ag),0⟩:Af) else (BC x0.Abs).bind fun r0a=>
 (Ca x0.Abs r0a).bind fun r1a=>
 some (⟨(⟨x0.Neg,r1a⟩:Ag),(wi64 (x1+r0a))⟩:Af)
def AZ (x0:Int) (x1:Int):Option (Af):=
 (EE x0).bind fun r7=>
 (Db r7 x1).bind fun r0a=>
 some r0a
def Ch (x0:Ak):Option (Bool):=
 (Fe x0.Man).bind fun r0a=>
 if ¬(r0a=true) then some false else if (x0.Man.Abs.length:Int)=0 then some (decide (x0.Exp=0)) else (nth x0.Man.Abs 0).bind fun u1a=>
 (if (u1a%2)=1 then some (decide (x0.Exp≤1048576)) else some (false)).bind fun m2a=>
 (if m2a=true then some (decide ((-1048576)≤x0.Exp)) else some (false)).bind fun m3a=>
 some m3a
def Di (x0_0:Ak):M (Unit):=
 (Ch x0_0).bind fun r0a=>
 mb (BZ r0a 1) fun r1a=>
 some (.ok ())
def Ga (x0:Int):M (Unit):=
 (if 1≤x0 then some (decide (x0≤4096)) else some (false)).bind fun m8=>
 mb (BZ m8 1) fun r0a=>
 some (.ok ())
def GN (x0:Int):M (Unit):=
 (if 1≤x0 then some (decide (x0≤5)) else some (false)).bind fun m8=>
 mb (BZ m8 1) fun r0a=>
 some (.ok ())
def DV (x0:Af):Option (Ao):=
 (Gc x0.Man).bind fun r0a=>
 some (⟨r0a,x0.Exp⟩:Ao)
def Eb (x0:Ag) (x1:Int):Option (Ag):=
 (Bq x0.Abs x1).bind fun r0a=>
 some (⟨x0.Neg,r0a⟩:Ag)
def HM (x0:Bool) (x1:Int) (x2:Bool) (x3:Bool) (x4:Int):Option (Bool):=
 if x0=true then some false else if x4=1 then (if 0<x1 then some (true) else (if x1=0 then some (x2) else some (false)).bind fun m0a=>
 some (m0a)).bind fun m1a=>
 some m1a else if x4=2 then some (decide (0≤x1)) else if x4=4 then some (decide (¬(x3=true))) else if x4=5 then some x3 else some false
def DR (x0:Ao) (x1:Int) (x2:Int) (x3:Bool):Option (Ao):=
 (Bw x0.m.Abs).bind fun r1a=>
 (if (wi64 (r1a - x1))≤0 then some (decide (¬(x3=true))) else some (false)).bind fun m6a=>
 if m6a=true then (DB x0.m x0.e).bind fun r7a=>
 some r7a else (if (wi64 (r1a - x1))<2 then (Eb x0.m (wi64 (2 - (wi64 (r1a - x1))))).bind fun r3a=>
 some (2,r3a.Neg,r3a.Abs,(wi64 ((wi64 (x0.e - 2))+(wi64 (r1a - x1))))) else some ((wi64 (r1a - x1)),x0.m.Neg,x0.m.Abs,x0.e)).bind fun m0a=>
 (Cm m0a.2.2.1 m0a.1).bind fun r2a=>
 (Bq r2a m0a.1).bind fun r8a=>
 (Co m0a.2.2.1 r8a).bind fun r4a=>
 (if (sz r4a:Int)=0 then some (decide (¬(x3=true))) else some (false)).bind fun m9a=>
 (Bq 1 (wi64 (m0a.1 - 1))).bind fun r0b=>
 (Cn r4a r0b).bind fun r5a=>
 (if r5a=0 then some (x3) else some (false)).bind fun m1b=>
 (if m1b=true then some (1) else some (r5a)).bind fun m2b=>
 (if 0<(sz r2a:Int) then (nth (limbs r2a) 0).bind fun u3b=>
 some (decide ((u3b%2)=1)) else some (false)).bind fun m4b=>
 (HM m9a m2b m4b m0a.2.1 x2).bind fun r5b=>
 (if r5b=true then (CC r2a 1).bind fun r6b=>
 some (r6b) else some (r2a)).bind fun m7b=>
 (DB (⟨m0a.2.1,m7b⟩:Ag) (wi64 (m0a.2.2.2+m0a.1))).bind fun r8b=>
 some r8b
def Iw (x0:Ak) (x1:Int) (x2:Int):M (Af × Int):=
 mb (Di x0) fun r4a=>
 mb (Ga x1) fun r5a=>
 mb (GN x2) fun r6a=>
 (toN x0.Man.Abs).bind fun m0a=>
 (DV (⟨(⟨x0.Man.Neg,m0a⟩:Ag),x0.Exp⟩:Af)).bind fun r1a=>
 (DR r1a x1 x2 false).bind fun r2a=>
 mb (BM r2a) fun r3a=>
 some (.ok (r3a,0))
def GQ (x0:Ak) (x1:Int) (x2:Int):Option (Af × Int):=(Iw x0 x1 x2).bind fun q=>match q with | .ok r=>some r | .error n=>some ((⟨(⟨false,0⟩:Ag),0⟩:Af),n)
def BS (x0:Int) (x1:Int):Option (AD):=
 (AZ x0 0).bind fun r7=>
 (AZ x1 0).bind fun r0a=>
 some (⟨r7,r0a⟩:AD)
def FM (x0:Ag):Option (Int):=
 if (sz x0.Abs:Int)=0 then some 0 else if x0.Neg=true then some (-1) else some 1
def Bu (x0:Ao):Option (Int):=
 (FM x0.m).bind fun r0a=>
 some r0a
def Gq (x0:Int) (x1:Int):Option (Int):=
 if x0<x1 then some (-1) else if x1<x0 then some 1 else some 0
def Es (x0:Ao):Option (Int):=
 (Bw x0.m.Abs).bind fun r0a=>
 some (wi64 ((wi64 (r0a - 1))+x0.e))
def FC (x0:Ag):Option (Ag):=
 some (⟨(decide (¬(x0.Neg=true))),x0.Abs⟩:Ag)
def DP (x0:Ao):Option (Ao):=
 (FC x0.m).bind fun r0a=>
 some (⟨r0a,x0.e⟩:Ao)
def Er (x0:Ag) (x1:Ag):Option (Ag):=
 if x0.Neg=x1.Neg then (CC x0.Abs x1.Abs).bind fun r0a=>
 some (⟨x0.Neg,r0a⟩:Ag) else (Cn x0.Abs x1.Abs).bind fun r1a=>
 if 0≤r1a then (Co x0.Abs x1.Abs).bind fun r2a=>
 some (⟨x0.Neg,r2a⟩:Ag) else (Co x1.Abs x0.Abs).bind fun r3a=>
 some (⟨x1.Neg,r3a⟩:Ag)
def DD (x0:Ag) (x1:Ag) (x2:Int):Option (Ao):=
 (Er x0 x1).bind fun r0a=>
 (DB r0a x2).bind fun r1a=>
 some r1a
def BA (x0:Ao) (x1:Ao):Option (Ao):=
 (if (sz x0.m.Abs:Int)=0 then some (x1.e) else some (min x0.e x1.e)).bind fun m5a=>
 (if (sz x1.m.Abs:Int)=0 then some (x0.e) else some (m5a)).bind fun m0a=>
 (if 0<(sz x0.m.Abs:Int) then (Eb x0.m (wi64 (x0.e - m0a))).bind fun r1a=>
 some (r1a.Neg,r1a.Abs) else some (x0.m.Neg,x0.m.Abs)).bind fun m2a=>
 (if 0<(sz x1.m.Abs:Int) then (Eb x1.m (wi64 (x1.e - m0a))).bind fun r3a=>
 some (r3a.Neg,r3a.Abs) else some (x1.m.Neg,x1.m.Abs)).bind fun m4a=>
 (DD (⟨m2a.1,m2a.2⟩:Ag) (⟨m4a.1,m4a.2⟩:Ag) m0a).bind fun r6a=>
 some r6a
def Ck (x0:Ao) (x1:Ao):Option (Ao):=
 (BA x0 x1).bind fun r0a=>
 some r0a
def CM (x0:Ao) (x1:Ao):Option (Int):=
 (Bu x0).bind fun r0a=>
 (Bu x1).bind fun r1a=>
 (if ¬r0a=r1a then some (true) else some (decide (r0a=0))).bind fun m4a=>
 if m4a=true then (Gq r0a r1a).bind fun r5a=>
 some r5a else (Es x0).bind fun r2a=>
 (Es x1).bind fun r3a=>
 if ¬r2a=r3a then (Bu x0).bind fun r6a=>
 (Gq r2a r3a).bind fun r7a=>
 some (wi64 (r6a*r7a)) else (DP x1).bind fun r8a=>
 (Ck x0 r8a).bind fun r9a=>
 (Bu r9a).bind fun r0b=>
 some r0b
def GC (x0:AJ):Option (Bool):=
 (Ch x0.Lo).bind fun r0a=>
 if r0a=true then (Ch x0.Hi).bind fun r1a=>
 if r1a=true then (toN x0.Lo.Man.Abs).bind fun m2a=>
 (DV (⟨(⟨x0.Lo.Man.Neg,m2a⟩:Ag),x0.Lo.Exp⟩:Af)).bind fun r3a=>
 (toN x0.Hi.Man.Abs).bind fun m4a=>
 (DV (⟨(⟨x0.Hi.Man.Neg,m4a⟩:Ag),x0.Hi.Exp⟩:Af)).bind fun r5a=>
 (CM r3a r5a).bind fun r6a=>
 some (decide (r6a≤0)) else some false else some false
def EJ (x0_0:AJ) (x0_1:AJ):M (Unit):=
 (GC x0_0).bind fun r0a=>
 mb (BZ r0a 1) fun r2a=>
 (GC x0_1).bind fun r1a=>
 mb (BZ r1a 1) fun r3a=>
 some (.ok ())
def Em (x0:AD):Option (Au):=
 (DV x0.Lo).bind fun r0a=>
 (DV x0.Hi).bind fun r1a=>
 some (⟨r0a,r1a⟩:Au)
def Gs (x0:Ag) (x1:Ag):Option (Ag):=
 (CS x0.Abs x1.Abs).bind fun r0a=>
 some (⟨(decide (¬x0.Neg=x1.Neg)),r0a⟩:Ag)
def DU (x0:Ao) (x1:Ao):Option (Ao):=
 (Gs x0.m x1.m).bind fun r0a=>
 (DB r0a (wi64 (x0.e+x1.e))).bind fun r1a=>
 some r1a
def FI (x0:Au) (x1:Int):Option (Au):=
 (DR x0.lo x1 5 false).bind fun r0a=>
 (DR x0.hi x1 4 false).bind fun r1a=>
 some (⟨r0a,r1a⟩:Au)
def Fa (x0:Au):M (AD):=
 mb (BM x0.lo) fun r0a=>
 mb (BM x0.hi) fun r1a=>
 some (.ok (⟨r0a,r1a⟩:AD))
def HL (x0:Au) (x1:Au) (x2:Int) (x y:Ao):Option Au:=
 (DU x y).bind fun r0a=>
 (CM r0a r0a).bind fun r1a=>
 (if r1a<0 then some () else some ()).bind fun m3a=>
 (CM r0a r0a).bind fun r2a=>
 (if 0<r2a then some () else some ()).bind fun m4a=>
 some (⟨r0a,r0a⟩:Au)
def EY (x0:Au) (x1:Au) (x2:Int) (sr:Au) (x y:Ao):Option Au:=
 (DU x y).bind fun r0a=>
 (CM r0a sr.lo).bind fun r3a=>
 (if r3a<0 then some (r0a.m.Neg,r0a.m.Abs,r0a.e) else some (sr.lo.m.Neg,sr.lo.m.Abs,sr.lo.e)).bind fun m1a=>
 (CM r0a sr.hi).bind fun r4a=>
 (if 0<r4a then some (r0a.m.Neg,r0a.m.Abs,r0a.e) else some (sr.hi.m.Neg,sr.hi.m.Abs,sr.hi.e)).bind fun m2a=>
 some (⟨(⟨(⟨m1a.1,m1a.2.1⟩:Ag),m1a.2.2⟩:Ao),(⟨(⟨m2a.1,m2a.2.1⟩:Ag),m2a.2.2⟩:Ao)⟩:Au)
def GY (x0:Au) (x1:Au) (x2:Int):M (AD):=
 (HL x0 x1 x2 x0.lo x1.lo).bind fun s0a=>
 (EY x0 x1 x2 s0a x0.lo x1.hi).bind fun s1a=>
 (EY x0 x1 x2 s1a x0.hi x1.lo).bind fun s2a=>
 (EY x0 x1 x2 s2a x0.hi x1.hi).bind fun s3a=>
 (FI s3a x2).bind fun r4a=>
 mb (Fa r4a) fun r5a=>
 some (.ok r5a)
def EG (x0:AJ) (x1:AJ) (x2:Int):M (AD × Int):=
 mb (EJ x0 x1) fun r7a=>
 mb (Ga x2) fun r8a=>
 (toN x0.Lo.Man.Abs).bind fun m0a=>
 (toN x0.Hi.Man.Abs).bind fun m1a=>
 (Em (⟨(⟨(⟨x0.Lo.Man.Neg,m0a⟩:Ag),x0.Lo.Exp⟩:Af),(⟨(⟨x0.Hi.Man.Neg,m1a⟩:Ag),x0.Hi.Exp⟩:Af)⟩:AD)).bind fun r2a=>
 (toN x1.Lo.Man.Abs).bind fun m3a=>
 (toN x1.Hi.Man.Abs).bind fun m4a=>
 (Em (⟨(⟨(⟨x1.Lo.Man.Neg,m3a⟩:Ag),x1.Lo.Exp⟩:Af),(⟨(⟨x1.Hi.Man.Neg,m4a⟩:Ag),x1.Hi.Exp⟩:Af)⟩:AD)).bind fun r5a=>
 mb (GY r2a r5a x2) fun r6a=>
 some (.ok (r6a,0))
def DS (x0:AJ) (x1:AJ) (x2:Int):Option (AD × Int):=(EG x0 x1 x2).bind fun q=>match q with | .ok r=>some r | .error n=>some ((⟨(⟨(⟨false,0⟩:Ag),0⟩:Af),(⟨(⟨false,0⟩:Ag),0⟩:Af)⟩:AD),n)
def HD (x0:AJ) (x1:AJ) (x2:Int):Option (AD × Int):=
 (DS x0 x1 x2).bind fun r0a=>
 some (r0a.1,r0a.2)
def DK (x0:Ag) (x1:Ag):Option (Bool):=
 (if x0.Neg=x1.Neg then (BR (limbs x0.Abs) (limbs x1.Abs)).bind fun r0a=>
 some (r0a) else some (false)).bind fun m1a=>
 some m1a
def AG (x0:Af) (x1:Af):Option (Bool):=
 (DK x0.Man x1.Man).bind fun r0a=>
 (if r0a=true then some (decide (x0.Exp=x1.Exp)) else some (false)).bind fun m1a=>
 some m1a
def Dv (x0:AD) (x1:AD):Option (Bool):=
 (AG x0.Lo x1.Lo).bind fun r0a=>
 (if r0a=true then (AG x0.Hi x1.Hi).bind fun r1a=>
 some (r1a) else some (false)).bind fun m2a=>
 some m2a
def EB (x0:Ao) (x1:Ao) (x2:Int) (x3:Int):Option (Ao):=
 (Bu x0).bind fun r3a=>
 if r3a=0 then some (⟨(⟨false,0⟩:Ag),0⟩:Ao) else (Bw x1.m.Abs).bind fun r0a=>
 (Bw x0.m.Abs).bind fun r1a=>
 (Bq x0.m.Abs (max 0 (wi64 ((wi64 ((wi64 (x2+2))+r0a)) - r1a)))).bind fun r4a=>
 (CR r4a x1.m.Abs).bind fun r2a=>
 (DR (⟨(⟨(decide (¬x0.m.Neg=x1.m.Neg)),r2a.1⟩:Ag),(wi64 ((wi64 (x0.e - x1.e)) - (max 0 (wi64 ((wi64 ((wi64 (x2+2))+r0a)) - r1a)))))⟩:Ao) x2 x3 (decide (0<(sz r2a.2:Int)))).bind fun r5a=>
 some r5a
def Ip (x0:Au) (x1:Au) (x2:Int) (x y:Ao):Option Au:=
 (EB x y x2 5).bind fun r0a=>
 (EB x y x2 4).bind fun r1a=>
 (CM r0a r0a).bind fun r2a=>
 (if r2a<0 then some () else some ()).bind fun m4a=>
 (CM r1a r1a).bind fun r3a=>
 (if 0<r3a then some () else some ()).bind fun m5a=>
 some (⟨r0a,r1a⟩:Au)
def FB (x0:Au) (x1:Au) (x2:Int) (sr:Au) (x y:Ao):Option Au:=
 (EB x y x2 5).bind fun r0a=>
 (EB x y x2 4).bind fun r1a=>
 (CM r0a sr.lo).bind fun r4a=>
 (if r4a<0 then some (r0a.m.Neg,r0a.m.Abs,r0a.e) else some (sr.lo.m.Neg,sr.lo.m.Abs,sr.lo.e)).bind fun m2a=>
 (CM r1a sr.hi).bind fun r5a=>
 (if 0<r5a then some (r1a.m.Neg,r1a.m.Abs,r1a.e) else some (sr.hi.m.Neg,sr.hi.m.Abs,sr.hi.e)).bind fun m3a=>
 some (⟨(⟨(⟨m2a.1,m2a.2.1⟩:Ag),m2a.2.2⟩:Ao),(⟨(⟨m3a.1,m3a.2.1⟩:Ag),m3a.2.2⟩:Ao)⟩:Au)
def Hu (x0:Au) (x1:Au) (x2:Int):M (AD):=
 (Bu x1.lo).bind fun r0a=>
 (Bu x1.hi).bind fun r1a=>
 mb (BZ (decide (0<(wi64 (r0a*r1a)))) 8) fun r7a=>
 (Ip x0 x1 x2 x0.lo x1.lo).bind fun s2a=>
 (FB x0 x1 x2 s2a x0.lo x1.hi).bind fun s3a=>
 (FB x0 x1 x2 s3a x0.hi x1.lo).bind fun s4a=>
 (FB x0 x1 x2 s4a x0.hi x1.hi).bind fun s5a=>
 mb (Fa s5a) fun r6a=>
 some (.ok r6a)
def EQ (x0:AJ) (x1:AJ) (x2:Int):M (AD × Int):=
 mb (EJ x0 x1) fun r7a=>
 mb (Ga x2) fun r8a=>
 (toN x0.Lo.Man.Abs).bind fun m0a=>
 (toN x0.Hi.Man.Abs).bind fun m1a=>
 (Em (⟨(⟨(⟨x0.Lo.Man.Neg,m0a⟩:Ag),x0.Lo.Exp⟩:Af),(⟨(⟨x0.Hi.Man.Neg,m1a⟩:Ag),x0.Hi.Exp⟩:Af)⟩:AD)).bind fun r2a=>
 (toN x1.Lo.Man.Abs).bind fun m3a=>
 (toN x1.Hi.Man.Abs).bind fun m4a=>
 (Em (⟨(⟨(⟨x1.Lo.Man.Neg,m3a⟩:Ag),x1.Lo.Exp⟩:Af),(⟨(⟨x1.Hi.Man.Neg,m4a⟩:Ag),x1.Hi.Exp⟩:Af)⟩:AD)).bind fun r5a=>
 mb (Hu r2a r5a x2) fun r6a=>
 some (.ok (r6a,0))
def Ef (x0:AJ) (x1:AJ) (x2:Int):Option (AD × Int):=(EQ x0 x1 x2).bind fun q=>match q with | .ok r=>some r | .error n=>some ((⟨(⟨(⟨false,0⟩:Ag),0⟩:Af),(⟨(⟨false,0⟩:Ag),0⟩:Af)⟩:AD),n)
def Hq (x0:AJ) (x1:AJ) (x2:Int):Option (AD × Int):=
 (Ef x0 x1 x2).bind fun r0a=>
 some (r0a.1,r0a.2)
def Fl (x0:Nat):Nat→Nat→Option (Nat × Nat)
 | 0,_=>none
 | n2a+1,v0a=>
 (CR x0 v0a).bind fun r3a=>
 (CC v0a r3a.1).bind fun r4a=>
 (Cm r4a 1).bind fun r1a=>
 (Cn r1a v0a).bind fun r5a=>
 if 0≤r5a then (CS v0a v0a).bind fun r6a=>
 (Co x0 r6a).bind fun r7a=>
 some (v0a,r7a) else Fl x0 n2a r1a
def GM (x0:Nat):Option (Nat × Nat):=
 if (sz x0:Int)=0 then some (0,0) else (Bw x0).bind fun r0a=>
 (Bq 1 (wi64 ((wi64 (r0a+1)).tdiv 2))).bind fun r1a=>
 Fl x0 18446744073709551616 r1a
def Hl (x0:Ao) (x1:Int) (x2:Int):Option (Ao):=
 (Bu x0).bind fun r3a=>
 if r3a=0 then some (⟨(⟨false,0⟩:Ag),0⟩:Ao) else (Bw x0.m.Abs).bind fun r0a=>
 (if ¬((wi64 (x0.e - (max 0 (wi64 ((wi64 ((wi64 (2*x1))+4)) - r0a)))))%2)=0 then some (wi64 ((max 0 (wi64 ((wi64 ((wi64 (2*x1))+4)) - r0a)))+1)) else some (max 0 (wi64 ((wi64 ((wi64 (2*x1))+4)) - r0a)))).bind fun m1a=>
 (Bq x0.m.Abs m1a).bind fun r4a=>
 (GM r4a).bind fun r2a=>
 (DR (⟨(⟨false,r2a.1⟩:Ag),(wi64 ((wi64 (x0.e - m1a)).tdiv 2))⟩:Ao) x1 x2 (decide (0<(sz r2a.2:Int)))).bind fun r5a=>
 some r5a
def Hw (x0:Au) (x1:Au) (x2:Int):M (AD):=
 (Bu x0.lo).bind fun r0a=>
 mb (BZ (decide (0≤r0a)) 3) fun r4a=>
 (Hl x0.lo x2 5).bind fun r1a=>
 (Hl x0.hi x2 4).bind fun r2a=>
 mb (Fa (⟨r1a,r2a⟩:Au)) fun r3a=>
 some (.ok r3a)
def EO (x0:AJ) (x1:AJ) (x2:Int):M (AD × Int):=
 mb (EJ x0 x1) fun r7a=>
 mb (Ga x2) fun r8a=>
 (toN x0.Lo.Man.Abs).bind fun m0a=>
 (toN x0.Hi.Man.Abs).bind fun m1a=>
 (Em (⟨(⟨(⟨x0.Lo.Man.Neg,m0a⟩:Ag),x0.Lo.Exp⟩:Af),(⟨(⟨x0.Hi.Man.Neg,m1a⟩:Ag),x0.Hi.Exp⟩:Af)⟩:AD)).bind fun r2a=>
 (toN x1.Lo.Man.Abs).bind fun m3a=>
 (toN x1.Hi.Man.Abs).bind fun m4a=>
 (Em (⟨(⟨(⟨x1.Lo.Man.Neg,m3a⟩:Ag),x1.Lo.Exp⟩:Af),(⟨(⟨x1.Hi.Man.Neg,m4a⟩:Ag),x1.Hi.Exp⟩:Af)⟩:AD)).bind fun r5a=>
 mb (Hw r2a r5a x2) fun r6a=>
 some (.ok (r6a,0))
def DZ (x0:AJ) (x1:AJ) (x2:Int):Option (AD × Int):=(EO x0 x1 x2).bind fun q=>match q with | .ok r=>some r | .error n=>some ((⟨(⟨(⟨false,0⟩:Ag),0⟩:Af),(⟨(⟨false,0⟩:Ag),0⟩:Af)⟩:AD),n)
def Ij (x0:AJ) (x1:Int):Option (AD × Int):=
 (DZ x0 x0 x1).bind fun r0a=>
 some (r0a.1,r0a.2)
def Cg:Option (Bool):=
 (EE 12).bind fun r3=>
 (Ia (⟨r3.Neg,(limbs r3.Abs)⟩:Av) 3).bind fun r9a=>
 (AZ 11 0).bind fun r7a=>
 (GQ (⟨(⟨r7a.Man.Neg,(limbs r7a.Man.Abs)⟩:Av),r7a.Exp⟩:Ak) 3 1).bind fun r0b=>
 (AZ (-11) 0).bind fun r8a=>
 (GQ (⟨(⟨r8a.Man.Neg,(limbs r8a.Man.Abs)⟩:Av),r8a.Exp⟩:Ak) 2 5).bind fun r1b=>
 (BS (-1) 2).bind fun r0a=>
 (BS (-3) 5).bind fun r1a=>
 (HD (⟨(⟨(⟨r0a.Lo.Man.Neg,(limbs r0a.Lo.Man.Abs)⟩:Av),r0a.Lo.Exp⟩:Ak),(⟨(⟨r0a.Hi.Man.Neg,(limbs r0a.Hi.Man.Abs)⟩:Av),r0a.Hi.Exp⟩:Ak)⟩:AJ) (⟨(⟨(⟨r1a.Lo.Man.Neg,(limbs r1a.Lo.Man.Abs)⟩:Av),r1a.Lo.Exp⟩:Ak),(⟨(⟨r1a.Hi.Man.Neg,(limbs r1a.Hi.Man.Abs)⟩:Av),r1a.Hi.Exp⟩:Ak)⟩:AJ) 8).bind fun r2b=>
 (if ¬r9a.2=0 then some (true) else some (decide (¬r0b.2=0))).bind fun m5b=>
 (if m5b=true then some (true) else some (decide (¬r1b.2=0))).bind fun m6b=>
 (if m6b=true then some (true) else some (decide (¬r2b.2=0))).bind fun m7b=>
 if m7b=true then some false else (AZ 3 5).bind fun r8b=>
 (AG r9a.1 r8b).bind fun r9b=>
 if ¬(r9b=true) then some false else (AZ 12 0).bind fun r0c=>
 (AG r0b.1 r0c).bind fun r1c=>
 if ¬(r1c=true) then some false else (AZ (-12) 0).bind fun r2c=>
 (AG r1b.1 r2c).bind fun r3c=>
 if ¬(r3c=true) then some false else (BS (-6) 10).bind fun r4c=>
 (Dv r2b.1 r4c).bind fun r5c=>
 if ¬(r5c=true) then some false else (BS 1 1).bind fun r2a=>
 (BS 3 3).bind fun r3a=>
 (Hq (⟨(⟨(⟨r2a.Lo.Man.Neg,(limbs r2a.Lo.Man.Abs)⟩:Av),r2a.Lo.Exp⟩:Ak),(⟨(⟨r2a.Hi.Man.Neg,(limbs r2a.Hi.Man.Abs)⟩:Av),r2a.Hi.Exp⟩:Ak)⟩:AJ) (⟨(⟨(⟨r3a.Lo.Man.Neg,(limbs r3a.Lo.Man.Abs)⟩:Av),r3a.Lo.Exp⟩:Ak),(⟨(⟨r3a.Hi.Man.Neg,(limbs r3a.Hi.Man.Abs)⟩:Av),r3a.Hi.Exp⟩:Ak)⟩:AJ) 4).bind fun r3b=>
 (BS 1 1).bind fun r4a=>
 (BS (-1) 1).bind fun r5a=>
 (Hq (⟨(⟨(⟨r4a.Lo.Man.Neg,(limbs r4a.Lo.Man.Abs)⟩:Av),r4a.Lo.Exp⟩:Ak),(⟨(⟨r4a.Hi.Man.Neg,(limbs r4a.Hi.Man.Abs)⟩:Av),r4a.Hi.Exp⟩:Ak)⟩:AJ) (⟨(⟨(⟨r5a.Lo.Man.Neg,(limbs r5a.Lo.Man.Abs)⟩:Av),r5a.Lo.Exp⟩:Ak),(⟨(⟨r5a.Hi.Man.Neg,(limbs r5a.Hi.Man.Abs)⟩:Av),r5a.Hi.Exp⟩:Ak)⟩:AJ) 4).bind fun r6c=>
 (BS 2 2).bind fun r6a=>
 (Ij (⟨(⟨(⟨r6a.Lo.Man.Neg,(limbs r6a.Lo.Man.Abs)⟩:Av),r6a.Lo.Exp⟩:Ak),(⟨(⟨r6a.Hi.Man.Neg,(limbs r6a.Hi.Man.Abs)⟩:Av),r6a.Hi.Exp⟩:Ak)⟩:AJ) 4).bind fun r4b=>
 (AZ 5 (-4)).bind fun r7c=>
 (AZ 11 (-5)).bind fun r8c=>
 (AZ 11 (-3)).bind fun r9c=>
 (AZ 3 (-1)).bind fun r0d=>
 (if r3b.2=0 then some (decide (r6c.2=8)) else some (false)).bind fun m1d=>
 (if m1d=true then some (decide (r4b.2=0)) else some (false)).bind fun m2d=>
 (if m2d=true then (Dv r3b.1 (⟨r7c,r8c⟩:AD)).bind fun r3d=>
 some (r3d) else some (false)).bind fun m4d=>
 (if m4d=true then (Dv r4b.1 (⟨r9c,r0d⟩:AD)).bind fun r5d=>
 some (r5d) else some (false)).bind fun m6d=>
 some m6d
def Gx (x0:Ag):Option (Ag):=
 (AQ (decide (¬(x0.Neg=true))) x0.Abs).bind fun r0a=>
 some r0a
def EC (x0:Af):Option (Af):=
 (Gx x0.Man).bind fun r0a=>
 some (⟨r0a,x0.Exp⟩:Af)
def DI (x0:Ag) (x1:Int):Option (Ag):=
 (Cd x0.Abs x1).bind fun r0a=>
 some (⟨x0.Neg,r0a⟩:Ag)
def Eu (x0:Ag) (x1:Ag):Option (Ag):=
 if x0.Neg=x1.Neg then (Bv x0.Abs x1.Abs).bind fun r0a=>
 (AQ x0.Neg r0a).bind fun r1a=>
 some r1a else (BL x0.Abs x1.Abs).bind fun r2a=>
 if 0≤r2a then (BN x0.Abs x1.Abs).bind fun r3a=>
 (AQ x0.Neg r3a).bind fun r4a=>
 some r4a else (BN x1.Abs x0.Abs).bind fun r5a=>
 (AQ x1.Neg r5a).bind fun r6a=>
 some r6a
def BJ (x0:Af) (x1:Af):Option (Af):=
 if (sz x0.Man.Abs:Int)=0 then some x1 else if (sz x1.Man.Abs:Int)=0 then some x0 else (DI x0.Man (wi64 (x0.Exp - (min x0.Exp x1.Exp)))).bind fun r0a=>
 (DI x1.Man (wi64 (x1.Exp - (min x0.Exp x1.Exp)))).bind fun r1a=>
 (Eu r0a r1a).bind fun r2a=>
 (Db r2a (min x0.Exp x1.Exp)).bind fun r3a=>
 some r3a
def Cz (x0:Bool):Option (Int):=
 if ¬(x0=true) then some 1 else some 0
def Hg:Option (Nat):=
 some 1
def Et (x0:Ag) (x1:Ag):Option (Ag):=
 (Cc x0.Abs x1.Abs).bind fun r0a=>
 (AQ (decide (¬x0.Neg=x1.Neg)) r0a).bind fun r1a=>
 some r1a
def EX (x0:Nat) (x1:Nat) (x2:Nat) (x3:Bool) (x4:Int):Option (Nat):=
 if (sz x1:Int)=0 then some x0 else (if x4=4 then some (decide (¬(x3=true))) else some (false)).bind fun m1a=>
 (if m1a=true then some (true) else (if x4=5 then some (x3) else some (false)).bind fun m2a=>
 some (m2a)).bind fun m3a=>
 (if x4=1 then some (true) else some (decide (x4=2))).bind fun m4a=>
 (if m4a=true then (Bv x1 x1).bind fun r5a=>
 (BL r5a x2).bind fun r0a=>
 (if 0<r0a then some (true) else (if r0a=0 then (if x4=2 then some (true) else (if 0<(sz x0:Int) then (nth (limbs x0) 0).bind fun u6a=>
 some (decide ((u6a.tmod 2)=1)) else some (false)).bind fun m7a=>
 some (m7a)).bind fun m8a=>
 some (m8a) else some (false)).bind fun m9a=>
 some (m9a)).bind fun m0b=>
 some (m0b) else some (m3a)).bind fun m1b=>
 if m1b=true then (Hg).bind fun r2b=>
 (Bv x0 r2b).bind fun r3b=>
 some r3b else some x0
def GP (x0:Nat) (x1:Nat) (x2:Nat) (x3:Bool) (x4:Int) (x5:Int):Option (Af):=
 (EX x0 x1 x2 x3 x4).bind fun r0a=>
 (AQ x3 r0a).bind fun r1a=>
 (Db r1a x5).bind fun r2a=>
 some r2a
def Dp (x0:Ak):Option (Bool):=
 (if (x0.Man.Abs.length:Int)≤60 then (if (-3000)≤x0.Exp then some (decide (x0.Exp≤3000)) else some (false)).bind fun m0a=>
 (if m0a=true then some (true) else (Be x0).bind fun r1a=>
 some (decide (¬(r1a=true)))).bind fun m2a=>
 some (m2a) else some (false)).bind fun m3a=>
 some m3a
def CW (x0:Af) (x1:Af):Option (Af):=
 (Et x0.Man x1.Man).bind fun r0a=>
 (Db r0a (wi64 (x0.Exp+x1.Exp))).bind fun r1a=>
 some r1a
def Gd (x0:Ao) (x1:Ao):Option (Bool):=
 (Bu x0).bind fun r0a=>
 (if r0a=0 then some (true) else (Bu x1).bind fun r1a=>
 some (decide (r1a=0))).bind fun m2a=>
 if m2a=true then some true else (Es x0).bind fun r3a=>
 (Es x1).bind fun r4a=>
 some (decide ((wi64 ((max r3a r4a) - (min x0.e x1.e)))≤32770))
def Dq (x0:Bool) (x1:List Int):Option (Av):=
 (if x0=true then some (decide (0<(x1.length:Int))) else some (false)).bind fun m0a=>
 some (⟨m0a,x1⟩:Av)
def Dw (x0:Av):Option (Av):=
 (Dq (decide (¬(x0.Neg=true))) x0.Abs).bind fun r0a=>
 some r0a
def Bc (x0:Ak):Option (Ak):=
 (Dw x0.Man).bind fun r0a=>
 some (⟨r0a,x0.Exp⟩:Ak)
def DM (x0_0:Ak) (x0_1:Ak):M (Unit):=
 (Ch x0_0).bind fun r0a=>
 mb (BZ r0a 1) fun r2a=>
 (Ch x0_1).bind fun r1a=>
 mb (BZ r1a 1) fun r3a=>
 some (.ok ())
def BT (x0:Ak) (x1:Ak):M (Af × Int):=
 mb (DM x0 x1) fun r7a=>
 (toN x0.Man.Abs).bind fun m2a=>
 (DV (⟨(⟨x0.Man.Neg,m2a⟩:Ag),x0.Exp⟩:Af)).bind fun r0a=>
 (toN x1.Man.Abs).bind fun m3a=>
 (DV (⟨(⟨x1.Man.Neg,m3a⟩:Ag),x1.Exp⟩:Af)).bind fun r1a=>
 (Gd r0a r1a).bind fun r4a=>
 mb (BZ r4a 2) fun r8a=>
 (Ck r0a r1a).bind fun r5a=>
 mb (BM r5a) fun r6a=>
 some (.ok (r6a,0))
def Bp (x0:Ak) (x1:Ak):Option (Af × Int):=(BT x0 x1).bind fun q=>match q with | .ok r=>some r | .error n=>some ((⟨(⟨false,0⟩:Ag),0⟩:Af),n)
def FO (x0:Ak) (x1:Ak):Option (Af × Int):=
 (Bp x0 x1).bind fun r0a=>
 some (r0a.1,r0a.2)
def GV (x0:Ao) (x1:Ao):Option (Ao):=
 (DP x1).bind fun r0a=>
 (Ck x0 r0a).bind fun r1a=>
 some r1a
def Cj (x0:Ak) (x1:Ak):M (Af × Int):=
 mb (DM x0 x1) fun r7a=>
 (toN x0.Man.Abs).bind fun m2a=>
 (DV (⟨(⟨x0.Man.Neg,m2a⟩:Ag),x0.Exp⟩:Af)).bind fun r0a=>
 (toN x1.Man.Abs).bind fun m3a=>
 (DV (⟨(⟨x1.Man.Neg,m3a⟩:Ag),x1.Exp⟩:Af)).bind fun r1a=>
 (Gd r0a r1a).bind fun r4a=>
 mb (BZ r4a 2) fun r8a=>
 (GV r0a r1a).bind fun r5a=>
 mb (BM r5a) fun r6a=>
 some (.ok (r6a,0))
def BE (x0:Ak) (x1:Ak):Option (Af × Int):=(Cj x0 x1).bind fun q=>match q with | .ok r=>some r | .error n=>some ((⟨(⟨false,0⟩:Ag),0⟩:Af),n)
def FW (x0:Ak) (x1:Ak):Option (Af × Int):=
 (BE x0 x1).bind fun r0a=>
 some (r0a.1,r0a.2)
def GR (x0:Ao) (x1:Ao):Option (Bool):=
 some true
def BG (x0:Ak) (x1:Ak):M (Af × Int):=
 mb (DM x0 x1) fun r7a=>
 (toN x0.Man.Abs).bind fun m2a=>
 (DV (⟨(⟨x0.Man.Neg,m2a⟩:Ag),x0.Exp⟩:Af)).bind fun r0a=>
 (toN x1.Man.Abs).bind fun m3a=>
 (DV (⟨(⟨x1.Man.Neg,m3a⟩:Ag),x1.Exp⟩:Af)).bind fun r1a=>
 (GR r0a r1a).bind fun r4a=>
 mb (BZ r4a 2) fun r8a=>
 (DU r0a r1a).bind fun r5a=>
 mb (BM r5a) fun r6a=>
 some (.ok (r6a,0))
def Bg (x0:Ak) (x1:Ak):Option (Af × Int):=(BG x0 x1).bind fun q=>match q with | .ok r=>some r | .error n=>some ((⟨(⟨false,0⟩:Ag),0⟩:Af),n)
def FX (x0:Ak) (x1:Ak):Option (Af × Int):=
 (Bg x0 x1).bind fun r0a=>
 some (r0a.1,r0a.2)
def Ei (x0:Af):Option (ED):=
 (Be (⟨(⟨x0.Man.Neg,(limbs x0.Man.Abs)⟩:Av),x0.Exp⟩:Ak)).bind fun r0a=>
 if ¬(r0a=true) then some (⟨(⟨(⟨false,0⟩:Ag),0⟩:Af),2⟩:ED) else some (⟨x0,0⟩:ED)
def Ap (x0:Ak) (x1:Int) (x2:Int) (x3:Ak):Option (Bool):=
 if ¬x2=0 then (if x1=x2 then (toN x0.Man.Abs).bind fun m1a=>
 (AG (⟨(⟨x0.Man.Neg,m1a⟩:Ag),x0.Exp⟩:Af) (⟨(⟨false,0⟩:Ag),0⟩:Af)).bind fun r2a=>
 some (r2a) else some (false)).bind fun m3a=>
 some m3a else (toN x3.Man.Abs).bind fun m4a=>
 (Ei (⟨(⟨x3.Man.Neg,m4a⟩:Ag),x3.Exp⟩:Af)).bind fun r0a=>
 (if x1=r0a.E then (toN x0.Man.Abs).bind fun m5a=>
 (AG (⟨(⟨x0.Man.Neg,m5a⟩:Ag),x0.Exp⟩:Af) r0a.D).bind fun r6a=>
 some (r6a) else some (false)).bind fun m7a=>
 some m7a
def Hp (x0:Ak):M (Af × Int):=
 mb (Di x0) fun r4a=>
 (toN x0.Man.Abs).bind fun m0a=>
 (DV (⟨(⟨x0.Man.Neg,m0a⟩:Ag),x0.Exp⟩:Af)).bind fun r1a=>
 (DP r1a).bind fun r2a=>
 mb (BM r2a) fun r3a=>
 some (.ok (r3a,0))
def Fv (x0:Ak):Option (Af × Int):=(Hp x0).bind fun q=>match q with | .ok r=>some r | .error n=>some ((⟨(⟨false,0⟩:Ag),0⟩:Af),n)
def Fd (x0:Ak) (x1:Int):M (Af × Int):=
 mb (Di x0) fun r5a=>
 if (x0.Man.Abs.length:Int)=0 then (toN x0.Man.Abs).bind fun m0a=>
 some (.ok ((⟨(⟨x0.Man.Neg,m0a⟩:Ag),x0.Exp⟩:Af),0)) else (if x1≤4194304 then some (decide ((-4194304)≤x1)) else some (false)).bind fun m1a=>
 mb (BZ m1a 2) fun r6a=>
 (toN x0.Man.Abs).bind fun m2a=>
 (Gc (⟨x0.Man.Neg,m2a⟩:Ag)).bind fun r3a=>
 mb (BM (⟨r3a,(wi64 (x0.Exp+x1))⟩:Ao)) fun r4a=>
 some (.ok (r4a,0))
def CJ (x0:Ak) (x1:Int):Option (Af × Int):=(Fd x0 x1).bind fun q=>match q with | .ok r=>some r | .error n=>some ((⟨(⟨false,0⟩:Ag),0⟩:Af),n)
def Ba (x0:Ak):Option (Int):=
 if (x0.Man.Abs.length:Int)=0 then some 0 else if x0.Man.Neg=true then some (-1) else some 1
def Eg (x0:Ak) (x1:Ak) (x2:Int):Option (Bool):=
 (Dp x0).bind fun r4b=>
 (if ¬(r4b=true) then some (true) else (Dp x1).bind fun r5b=>
 some (decide (¬(r5b=true)))).bind fun m6b=>
 if m6b=true then (Cg).bind fun r7b=>
 some r7b else (Be x0).bind fun r8b=>
 (if r8b=true then (Be x1).bind fun r9b=>
 some (r9b) else some (false)).bind fun m0c=>
 (Cz m0c).bind fun r3a=>
 (if r3a=0 then (toN x0.Man.Abs).bind fun m8a=>
 (toN x1.Man.Abs).bind fun m3b=>
 (BJ (⟨(⟨x0.Man.Neg,m8a⟩:Ag),x0.Exp⟩:Af) (⟨(⟨x1.Man.Neg,m3b⟩:Ag),x1.Exp⟩:Af)).bind fun r9a=>
 (Bc x1).bind fun r0b=>
 (toN r0b.Man.Abs).bind fun m1c=>
 (BJ (⟨(⟨x0.Man.Neg,m8a⟩:Ag),x0.Exp⟩:Af) (⟨(⟨r0b.Man.Neg,m1c⟩:Ag),r0b.Exp⟩:Af)).bind fun r1b=>
 (CW (⟨(⟨x0.Man.Neg,m8a⟩:Ag),x0.Exp⟩:Af) (⟨(⟨x1.Man.Neg,m3b⟩:Ag),x1.Exp⟩:Af)).bind fun r2b=>
 some (r9a.Man.Neg,r9a.Man.Abs,r9a.Exp,r1b.Man.Neg,r1b.Man.Abs,r1b.Exp,r2b.Man.Neg,r2b.Man.Abs,r2b.Exp) else some (false,0,0,false,0,0,false,0,0)).bind fun m0a=>
 (FO x0 x1).bind fun r4a=>
 (FW x0 x1).bind fun r5a=>
 (FX x0 x1).bind fun r6a=>
 (Ap (⟨(⟨r4a.1.Man.Neg,(limbs r4a.1.Man.Abs)⟩:Av),r4a.1.Exp⟩:Ak) r4a.2 r3a (⟨(⟨m0a.1,(limbs m0a.2.1)⟩:Av),m0a.2.2.1⟩:Ak)).bind fun r2c=>
 (if ¬(r2c=true) then some (true) else (Ap (⟨(⟨r5a.1.Man.Neg,(limbs r5a.1.Man.Abs)⟩:Av),r5a.1.Exp⟩:Ak) r5a.2 r3a (⟨(⟨m0a.2.2.2.1,(limbs m0a.2.2.2.2.1)⟩:Av),m0a.2.2.2.2.2.1⟩:Ak)).bind fun r3c=>
 some (decide (¬(r3c=true)))).bind fun m4c=>
 (if m4c=true then some (true) else (Ap (⟨(⟨r6a.1.Man.Neg,(limbs r6a.1.Man.Abs)⟩:Av),r6a.1.Exp⟩:Ak) r6a.2 r3a (⟨(⟨m0a.2.2.2.2.2.2.1,(limbs m0a.2.2.2.2.2.2.2.1)⟩:Av),m0a.2.2.2.2.2.2.2.2⟩:Ak)).bind fun r5c=>
 some (decide (¬(r5c=true)))).bind fun m6c=>
 if m6c=true then some false else (Be x0).bind fun r7c=>
 (Cz r7c).bind fun r2a=>
 (Fv x0).bind fun r7a=>
 (Bc x0).bind fun r8c=>
 (Ap (⟨(⟨r7a.1.Man.Neg,(limbs r7a.1.Man.Abs)⟩:Av),r7a.1.Exp⟩:Ak) r7a.2 r2a r8c).bind fun r9c=>
 if ¬(r9c=true) then some false else (CJ x0 x2).bind fun r1a=>
 (if 1073741824<x2 then some (true) else some (decide (x2<(-1073741824)))).bind fun m0d=>
 (if r2a=0 then some (m0d) else some (false)).bind fun m1d=>
 if m1d=true then (Cg).bind fun r2d=>
 (if r2d=true then (Ba x0).bind fun r3d=>
 (if r3d=0 then some (decide (r1a.2=0)) else some (false)).bind fun m4d=>
 (if m4d=true then some (true) else (Ba x0).bind fun r5d=>
 (if ¬r5d=0 then some (decide (r1a.2=2)) else some (false)).bind fun m6d=>
 some (m6d)).bind fun m7d=>
 some (m7d) else some (false)).bind fun m8d=>
 (if m8d=true then (AG r1a.1 (⟨(⟨false,0⟩:Ag),0⟩:Af)).bind fun r9d=>
 some (r9d) else some (false)).bind fun m0e=>
 some m0e else (Ba x0).bind fun r1e=>
 (if ¬r1e=0 then some (wi64 (x0.Exp+x2)) else some (x0.Exp)).bind fun m2e=>
 (Cg).bind fun r3e=>
 (if r3e=true then (if r2a=0 then some (true) else some (decide (r1a.2=r2a))).bind fun m4e=>
 some (m4e) else some (false)).bind fun m5e=>
 (if m5e=true then (if ¬r2a=0 then some (true) else (Ap (⟨(⟨r1a.1.Man.Neg,(limbs r1a.1.Man.Abs)⟩:Av),r1a.1.Exp⟩:Ak) r1a.2 r2a (⟨x0.Man,m2e⟩:Ak)).bind fun r6e=>
 some (r6e)).bind fun m7e=>
 some (m7e) else some (false)).bind fun m8e=>
 some m8e
end Go.Proofs

