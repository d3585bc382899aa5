import Derived.Test.YtabiobmfelafoaaGreatDoorProg
import Derived.Test.YtabiobmfelafoaaGreatDoorCor
import Derived.Test.YtabiobmfelafoaaGreatDoorRow
import Derived.Test.YtabiobmfelafoaaGreatDoorLA
namespace Go.Proofs
set_option linter.unusedVariables false
set_option linter.unusedSimpArgs false
set_option maxHeartbeats 4000000
open Go.RowKit Go.Sb Go.Proofs.Sbn
structure AD where
 Neg:Bool
 Abs:List Int
structure Al where
 Man:AD
 Exp:Int
structure AM where
 Lo:Al
 Hi:Al
structure Ah where
 Neg:Bool
 Abs:Nat
structure Ae where
 Man:Ah
 Exp:Int
structure Ao where
 m:Ah
 e:Int
structure AI where
 Lo:Ae
 Hi:Ae
structure AF where
 lo:Ao
 hi:Ao
structure sorobanref01_DividedT where
 Q:Nat
 R:Nat
theorem CL:agg Tryz.prog 29 6=true:=by kernel_rfl
theorem IZ:fieldAt Tryz.prog 29 0=some 0:=by kernel_rfl
theorem Ay:agg Tryz.prog 27 3=true:=by kernel_rfl
theorem Je:fieldAt Tryz.prog 29 1=some 3:=by kernel_rfl
theorem AV:GX Tryz.prog 27 [.bool false,.slice none 0 0,.int .i64 0]:=Ft (by kernel_rfl)
theorem Gt:Tryz.prog.underlying 46=some (.slice 27):=by kernel_rfl
theorem AC:Ed Tryz.prog 27 3=true:=by kernel_rfl
theorem FF:fieldAt Tryz.prog 27 0=some 0:=by kernel_rfl
theorem EJ:fieldAt Tryz.prog 25 1=some 1:=by kernel_rfl
theorem Hd:Jj Tryz.prog 23=true:=by kernel_rfl
theorem DJ:Tryz.prog.underlying 23=some (.slice 179):=by kernel_rfl
theorem IB:agg Tryz.prog 25 2=true:=by kernel_rfl
theorem en_143:Ent Tryz.prog 143:=ent Tryz.func143 (by kernel_rfl) rfl
theorem Hp:fieldAt Tryz.prog 25 0=some 0:=by kernel_rfl
theorem Hg:Jj Tryz.prog 4=true:=by kernel_rfl
theorem en_61:Ent Tryz.prog 61:=ent Tryz.func61 (by kernel_rfl) rfl
theorem Gg:fieldAt Tryz.prog 27 1=some 2:=by kernel_rfl
theorem EK:Jj Tryz.prog 3=true:=by kernel_rfl
theorem LF:Ent Tryz.prog 128:=ent Tryz.func128 (by kernel_rfl) rfl
theorem en_45:Ent Tryz.prog 45:=ent Tryz.func45 (by kernel_rfl) rfl
theorem Mz:GX Tryz.prog 25 [.bool false,.slice none 0 0]:=Ft (by kernel_rfl)
theorem it_3:Tryz.prog.underlying 3=some (.int .i64):=by kernel_rfl
theorem BM:Tryz.prog.underlying 148=some (.int .u64):=by kernel_rfl
theorem Ly:Ent Tryz.prog 179:=ent Tryz.func179 (by kernel_rfl) rfl
theorem LQ:Ed Tryz.prog 25 2=true:=by kernel_rfl
theorem Na:Ent Tryz.prog 178:=ent Tryz.func178 (by kernel_rfl) rfl
theorem NA:Ent Tryz.prog 96:=ent Tryz.func96 (by kernel_rfl) rfl
theorem IU:GX Tryz.prog 33 [.int .i64 0]:=Ft (by kernel_rfl)
theorem KC:Tryz.prog.underlying 20=some (.interface #[]):=by kernel_rfl
theorem KW:Mx Tryz.prog 201=true:=by kernel_rfl
theorem Lw:GX Tryz.prog 201 [.int .i64 0]:=Ft (by kernel_rfl)
theorem Lk:Ed Tryz.prog 201 1=true:=by kernel_rfl
theorem mo:Tryz.prog.follows .mixedOrders=true:=by kernel_rfl
theorem Kf:fieldAt Tryz.prog 201 0=some 0:=by kernel_rfl
theorem Dg:Jj Tryz.prog 33=true:=by kernel_rfl
theorem HI:Ed Tryz.prog 33 1=true:=by kernel_rfl
theorem en_208:Ent Tryz.prog 208:=ent Tryz.func208 (by kernel_rfl) rfl
theorem MZ:Ent Tryz.prog 151:=ent Tryz.func151 (by kernel_rfl) rfl
theorem DI:Ent Tryz.prog 102:=ent Tryz.func102 (by kernel_rfl) rfl
theorem EV:Ent Tryz.prog 135:=ent Tryz.func135 (by kernel_rfl) rfl
theorem Gi:GX Tryz.prog 117 [.bool false,.slice none 0 0]:=Ft (by kernel_rfl)
theorem FB:Ed Tryz.prog 117 2=true:=by kernel_rfl
theorem DH:agg Tryz.prog 117 2=true:=by kernel_rfl
theorem Mn:Ent Tryz.prog 137:=ent Tryz.func137 (by kernel_rfl) rfl
theorem AK:GX Tryz.prog 119 [.bool false,.slice none 0 0,.int .i64 0]:=Ft (by kernel_rfl)
theorem Bt:fieldAt Tryz.prog 117 1=some 1:=by kernel_rfl
theorem CM:Jj Tryz.prog 115=true:=by kernel_rfl
theorem Az:Tryz.prog.underlying 115=some (.slice 179):=by kernel_rfl
theorem Ce:Ed Tryz.prog 119 3=true:=by kernel_rfl
theorem en_213:Ent Tryz.prog 213:=ent Tryz.func213 (by kernel_rfl) rfl
theorem Eo:fieldAt Tryz.prog 117 0=some 0:=by kernel_rfl
theorem Ku:Ent Tryz.prog 204:=ent Tryz.func204 (by kernel_rfl) rfl
theorem Km:Ent Tryz.prog 152:=ent Tryz.func152 (by kernel_rfl) rfl
theorem Cd:fieldAt Tryz.prog 119 0=some 0:=by kernel_rfl
theorem CT:fieldAt Tryz.prog 119 1=some 2:=by kernel_rfl
theorem LL:Ent Tryz.prog 201:=ent Tryz.func201 (by kernel_rfl) rfl
theorem sz_115:Ed Tryz.prog 115 1=true:=by kernel_rfl
theorem en_202:Ent Tryz.prog 202:=ent Tryz.func202 (by kernel_rfl) rfl
theorem Gv:Ent Tryz.prog 136:=ent Tryz.func136 (by kernel_rfl) rfl
theorem en_60:Ent Tryz.prog 60:=ent Tryz.func60 (by kernel_rfl) rfl
theorem en_153:Ent Tryz.prog 153:=ent Tryz.func153 (by kernel_rfl) rfl
theorem Ms:Ent Tryz.prog 154:=ent Tryz.func154 (by kernel_rfl) rfl
theorem en_62:Ent Tryz.prog 62:=ent Tryz.func62 (by kernel_rfl) rfl
theorem Im:Ent Tryz.prog 38:=ent Tryz.func38 (by kernel_rfl) rfl
theorem AN:Ed Tryz.prog 179 1=true:=by kernel_rfl
theorem BS:Jj Tryz.prog 179=true:=by kernel_rfl
theorem Kn:Ent Tryz.prog 64:=ent Tryz.func64 (by kernel_rfl) rfl
theorem Hf:Ent Tryz.prog 120:=ent Tryz.func120 (by kernel_rfl) rfl
theorem Iv:Ent Tryz.prog 138:=ent Tryz.func138 (by kernel_rfl) rfl
theorem ME:Ent Tryz.prog 139:=ent Tryz.func139 (by kernel_rfl) rfl
theorem Ci:Ent Tryz.prog 121:=ent Tryz.func121 (by kernel_rfl) rfl
theorem Jw:Ent Tryz.prog 184:=ent Tryz.func184 (by kernel_rfl) rfl
theorem Ii:Ent Tryz.prog 185:=ent Tryz.func185 (by kernel_rfl) rfl
theorem LI:Ent Tryz.prog 203:=ent Tryz.func203 (by kernel_rfl) rfl
theorem KO:Ent Tryz.prog 191:=ent Tryz.func191 (by kernel_rfl) rfl
theorem HA:GX Tryz.prog 179 [.int .u32 0]:=Ft (by kernel_rfl)
theorem Kp:Ent Tryz.prog 205:=ent Tryz.func205 (by kernel_rfl) rfl
theorem en_206:Ent Tryz.prog 206:=ent Tryz.func206 (by kernel_rfl) rfl
theorem Ll:Ent Tryz.prog 207:=ent Tryz.func207 (by kernel_rfl) rfl
theorem JZ:Ent Tryz.prog 140:=ent Tryz.func140 (by kernel_rfl) rfl
theorem Ml:Ent Tryz.prog 55:=ent Tryz.func55 (by kernel_rfl) rfl
theorem Gn:GX Tryz.prog 29 [.bool false,.slice none 0 0,.int .i64 0,.bool false,.slice none 0 0,.int .i64 0]:=Ft (by kernel_rfl)
theorem FS:Ed Tryz.prog 29 6=true:=by kernel_rfl
theorem JG:Ent Tryz.prog 97:=ent Tryz.func97 (by kernel_rfl) rfl
theorem Jx:Tryz.prog.underlying 230=some (.slice 29):=by kernel_rfl
theorem en_182:Ent Tryz.prog 182:=ent Tryz.func182 (by kernel_rfl) rfl
theorem HD:Ent Tryz.prog 103:=ent Tryz.func103 (by kernel_rfl) rfl
theorem Mw:Ent Tryz.prog 187:=ent Tryz.func187 (by kernel_rfl) rfl
theorem Kq:Ent Tryz.prog 122:=ent Tryz.func122 (by kernel_rfl) rfl
theorem en_192:Ent Tryz.prog 192:=ent Tryz.func192 (by kernel_rfl) rfl
theorem Lu:Ent Tryz.prog 115:=ent Tryz.func115 (by kernel_rfl) rfl
theorem Nj:Tryz.prog.underlying 4=some .bool:=by kernel_rfl
theorem en_196:Ent Tryz.prog 196:=ent Tryz.func196 (by kernel_rfl) rfl
theorem en_195:Ent Tryz.prog 195:=ent Tryz.func195 (by kernel_rfl) rfl
theorem en_194:Ent Tryz.prog 194:=ent Tryz.func194 (by kernel_rfl) rfl
theorem LN:Ent Tryz.prog 124:=ent Tryz.func124 (by kernel_rfl) rfl
theorem HS:Ent Tryz.prog 106:=ent Tryz.func106 (by kernel_rfl) rfl
theorem Nu:Ent Tryz.prog 65:=ent Tryz.func65 (by kernel_rfl) rfl
theorem Jy:Ent Tryz.prog 162:=ent Tryz.func162 (by kernel_rfl) rfl
theorem He:Ent Tryz.prog 161:=ent Tryz.func161 (by kernel_rfl) rfl
theorem Mf:GX Tryz.prog 121 [.bool false,.slice none 0 0,.int .i64 0,.bool false,.slice none 0 0,.int .i64 0]:=Ft (by kernel_rfl)
theorem MU:Ed Tryz.prog 121 6=true:=by kernel_rfl
theorem Ix:agg Tryz.prog 121 6=true:=by kernel_rfl
theorem JB:Ent Tryz.prog 163:=ent Tryz.func163 (by kernel_rfl) rfl
theorem Mt:GX Tryz.prog 124 [.pointer none]:=Ft (by kernel_rfl)
theorem Mh:Ent Tryz.prog 104:=ent Tryz.func104 (by kernel_rfl) rfl
theorem MC:Ent Tryz.prog 183:=ent Tryz.func183 (by kernel_rfl) rfl
theorem MK:Ent Tryz.prog 241:=ent Tryz.func241 (by kernel_rfl) rfl
theorem en_193:Ent Tryz.prog 193:=ent Tryz.func193 (by kernel_rfl) rfl
theorem MI:Ent Tryz.prog 117:=ent Tryz.func117 (by kernel_rfl) rfl
theorem EA:Jj Tryz.prog 124=true:=by kernel_rfl
theorem KS:Tryz.prog.underlying 124=some (.pointer 121):=by kernel_rfl
theorem MD:Ed Tryz.prog 124 1=true:=by kernel_rfl
theorem en_118:Ent Tryz.prog 118:=ent Tryz.func118 (by kernel_rfl) rfl
theorem Jt:Ent Tryz.prog 107:=ent Tryz.func107 (by kernel_rfl) rfl
theorem Mg:Ent Tryz.prog 116:=ent Tryz.func116 (by kernel_rfl) rfl
theorem Ls:Ent Tryz.prog 100:=ent Tryz.func100 (by kernel_rfl) rfl
theorem en_32:Ent Tryz.prog 32:=ent Tryz.func32 (by kernel_rfl) rfl
theorem en_144:Ent Tryz.prog 144:=ent Tryz.func144 (by kernel_rfl) rfl
theorem en_86:Ent Tryz.prog 86:=ent Tryz.func86 (by kernel_rfl) rfl
theorem EM:Ent Tryz.prog 37:=ent Tryz.func37 (by kernel_rfl) rfl
theorem Mr:Ent Tryz.prog 76:=ent Tryz.func76 (by kernel_rfl) rfl
theorem Nb:Ent Tryz.prog 186:=ent Tryz.func186 (by kernel_rfl) rfl
theorem Dc:Ent Tryz.prog 105:=ent Tryz.func105 (by kernel_rfl) rfl
theorem Nl:Ent Tryz.prog 101:=ent Tryz.func101 (by kernel_rfl) rfl
theorem Nt:Ent Tryz.prog 21:=ent Tryz.func21 (by kernel_rfl) rfl
theorem en_190:Ent Tryz.prog 190:=ent Tryz.func190 (by kernel_rfl) rfl
theorem MR:Ent Tryz.prog 111:=ent Tryz.func111 (by kernel_rfl) rfl
theorem Nf:Ent Tryz.prog 110:=ent Tryz.func110 (by kernel_rfl) rfl
theorem en_25:Ent Tryz.prog 25:=ent Tryz.func25 (by kernel_rfl) rfl
theorem KA:Ent Tryz.prog 15:=ent Tryz.func15 (by kernel_rfl) rfl
theorem en_16:Ent Tryz.prog 16:=ent Tryz.func16 (by kernel_rfl) rfl
theorem Ns:Ent Tryz.prog 44:=ent Tryz.func44 (by kernel_rfl) rfl
theorem MN:Ent Tryz.prog 125:=ent Tryz.func125 (by kernel_rfl) rfl
theorem Ld:fieldAt Tryz.prog 146 1=some 1:=by kernel_rfl
theorem Nk:Jj Tryz.prog 144=true:=by kernel_rfl
theorem Lg:fieldAt Tryz.prog 146 0=some 0:=by kernel_rfl
theorem MM:Jj Tryz.prog 143=true:=by kernel_rfl
theorem Mk:Ent Tryz.prog 123:=ent Tryz.func123 (by kernel_rfl) rfl
theorem en_39:Ent Tryz.prog 39:=ent Tryz.func39 (by kernel_rfl) rfl
theorem en_126:Ent Tryz.prog 126:=ent Tryz.func126 (by kernel_rfl) rfl
theorem Nv:Ent Tryz.prog 40:=ent Tryz.func40 (by kernel_rfl) rfl
theorem KF:Ent Tryz.prog 51:=ent Tryz.func51 (by kernel_rfl) rfl
theorem Nr:Ed Tryz.prog 3 1=true:=by kernel_rfl
theorem en_33:Ent Tryz.prog 33:=ent Tryz.func33 (by kernel_rfl) rfl
theorem DX:Ent Tryz.prog 34:=ent Tryz.func34 (by kernel_rfl) rfl
theorem zt_3:GX Tryz.prog 3 [.int .i64 0]:=Ft (by kernel_rfl)
theorem JU:Ent Tryz.prog 119:=ent Tryz.func119 (by kernel_rfl) rfl
theorem NB:Ent Tryz.prog 41:=ent Tryz.func41 (by kernel_rfl) rfl
theorem JE:Ent Tryz.prog 35:=ent Tryz.func35 (by kernel_rfl) rfl
theorem en_36:Ent Tryz.prog 36:=ent Tryz.func36 (by kernel_rfl) rfl
theorem Nc:Ent Tryz.prog 42:=ent Tryz.func42 (by kernel_rfl) rfl
theorem HR:Ent Tryz.prog 127:=ent Tryz.func127 (by kernel_rfl) rfl
theorem MP:Ent Tryz.prog 43:=ent Tryz.func43 (by kernel_rfl) rfl
def Fe (_w:World) (r:Bool) (v:Value):Prop:=v = .bool r
def LC (w:World) (r:Ah) (v:Value):Prop:=∃(A1:Option Addr) (c1:Nat),v = .agg #[.bool r.Neg,.slice A1 (sz r.Abs) c1]∧RU w A1 c1 r.Abs
def GJ (w:World) (r:Ae × Int) (v:Value):Prop:=∃(A1:Option Addr) (c1:Nat),v = .tuple #[.agg #[.bool r.1.Man.Neg,.slice A1 (sz r.1.Man.Abs) c1,.int .i64 r.1.Exp],.int .i64 r.2]∧RU w A1 c1 r.1.Man.Abs
def Kz (_w:World) (_r:Unit) (v:Value):Prop:=v = .tuple #[]
def Jc (w:World) (r:Ah) (v:Value):Prop:=∃(A1:Option Addr) (c1:Nat),v = .agg #[.bool r.Neg,.slice A1 (sz r.Abs) c1]∧RU w A1 c1 r.Abs
def Gu (w:World) (r:Ao) (v:Value):Prop:=∃(A1:Option Addr) (c1:Nat),v = .agg #[.bool r.m.Neg,.slice A1 (sz r.m.Abs) c1,.int .i64 r.e]∧RU w A1 c1 r.m.Abs
def LA (w:World) (r:Ae) (v:Value):Prop:=∃(A1:Option Addr) (c1:Nat),v = .agg #[.bool r.Man.Neg,.slice A1 (sz r.Man.Abs) c1,.int .i64 r.Exp]∧RU w A1 c1 r.Man.Abs
def Ki (w:World) (r:AI) (v:Value):Prop:=∃(A1:Option Addr) (c1:Nat) (A2:Option Addr) (c2:Nat),v = .agg #[.bool r.Lo.Man.Neg,.slice A1 (sz r.Lo.Man.Abs) c1,.int .i64 r.Lo.Exp,.bool r.Hi.Man.Neg,.slice A2 (sz r.Hi.Man.Abs) c2,.int .i64 r.Hi.Exp]∧RU w A1 c1 r.Lo.Man.Abs∧RU w A2 c2 r.Hi.Man.Abs
def Hr (w:World) (r:AI × Int) (v:Value):Prop:=∃(A1:Option Addr) (c1:Nat) (A2:Option Addr) (c2:Nat),v = .tuple #[.agg #[.bool r.1.Lo.Man.Neg,.slice A1 (sz r.1.Lo.Man.Abs) c1,.int .i64 r.1.Lo.Exp,.bool r.1.Hi.Man.Neg,.slice A2 (sz r.1.Hi.Man.Abs) c2,.int .i64 r.1.Hi.Exp],.int .i64 r.2]∧RU w A1 c1 r.1.Lo.Man.Abs∧RU w A2 c2 r.1.Hi.Man.Abs
def GV (_w:World) (r:Int) (v:Value):Prop:=v = .int .i64 r
def Mb (w:World) (r:AF) (v:Value):Prop:=∃(A1:Option Addr) (c1:Nat) (A2:Option Addr) (c2:Nat),v = .agg #[.bool r.lo.m.Neg,.slice A1 (sz r.lo.m.Abs) c1,.int .i64 r.lo.e,.bool r.hi.m.Neg,.slice A2 (sz r.hi.m.Abs) c2,.int .i64 r.hi.e]∧RU w A1 c1 r.lo.m.Abs∧RU w A2 c2 r.hi.m.Abs
def JF (w:World) (r:Nat × Nat) (v:Value):Prop:=∃(A1:Option Addr) (c1:Nat) (A2:Option Addr) (c2:Nat),v = .tuple #[.slice A1 (sz r.1) c1,.slice A2 (sz r.2) c2]∧RU w A1 c1 r.1∧RU w A2 c2 r.2
def My (w:World) (r:Nat) (v:Value):Prop:=∃(A1:Option Addr) (c1:Nat),v = .slice A1 (sz r) c1∧RU w A1 c1 r
def rep_27_4 (w:World) (r:Ae × Bool) (v:Value):Prop:=∃(A1:Option Addr) (c1:Nat),v = .tuple #[.agg #[.bool r.1.Man.Neg,.slice A1 (sz r.1.Man.Abs) c1,.int .i64 r.1.Exp],.bool r.2]∧RU w A1 c1 r.1.Man.Abs
def Li (_w:World) (r:Int × Int) (v:Value):Prop:=v = .tuple #[.int .i64 r.1,.int .i64 r.2]
def JR (_w:World) (r:Int) (v:Value):Prop:=v = .int .u64 r
def IJ (w:World) (r:Nat) (v:Value):Prop:=∃(A1:Option Addr) (c1:Nat),v = .slice A1 (sz r) c1∧RU w A1 c1 r
abbrev BJ (x0:List Int):Option (Bool):=Lf.BJ x0
abbrev BO (x0:List Int) (x1:Int):Option (Int):=Lf.BO x0 x1
def Cm (x0:Int):Option (Nat):=(gd (0≤x0∧x0<18446744073709551616)).bind fun _=>some (x0.toNat)
abbrev FR (x0:List Int):Option (Bool):=Lf.FR x0
def Cv (x0:Nat):Option (Int):=(gd (sz x0<1073741824)).bind fun _=>some (Lf.tz x0:Int)
def Cl (x0:Nat) (x1:Int):Option (Nat):=(gd (sz x0<1073741824∧0≤x1∧x1<9223372036854775808)).bind fun _=>some (x0/2^x1.toNat)
def Cz (x0:Nat):Option (Nat):=(gd (sz x0<1073741824)).bind fun _=>some (x0)
def BI (x0:Nat):Option (Int):=(gd (sz x0<1073741824)).bind fun _=>some (Lf.tz x0:Int)
def BN (x0:Nat) (x1:Int):Option (Nat):=(gd (sz x0<1073741824∧0≤x1∧x1<9223372036854775808)).bind fun _=>some (x0/2^x1.toNat)
def Bq (x0:Nat):Option (Int):=(gd (sz x0<1073741824)).bind fun _=>some (Lf.bl x0:Int)
def Bs (x0:Nat) (x1:Int):Option (Nat):=(gd (sz x0<1073741824∧0≤x1∧x1<34359738368)).bind fun _=>some (x0*2^x1.toNat)
def Ck (x0:Nat) (x1:Nat):Option (Nat):=(gd (sz x0<1073741824∧sz x1<1073741824∧x1≤x0)).bind fun _=>some (x0 - x1)
def Cj (x0:Nat) (x1:Nat):Option (Int):=(gd (sz x0<1073741824∧sz x1<1073741824)).bind fun _=>some (Lf.cmpw x0 x1)
def Cr (x0:Nat) (x1:Nat):Option (Nat):=(gd (sz x0<1073741824∧sz x1<1073741824)).bind fun _=>some (x0+x1)
def CE (x0:Nat) (x1:Nat):Option (Nat):=(gd (sz x0<1073741824∧sz x1<1073741824)).bind fun _=>some (x0*x1)
abbrev BT (x0:List Int) (x1:List Int):Option (Bool):=Lf.BT x0 x1
def CI (x0:Nat) (x1:Nat):Option (Nat × Nat):=(gd (sz x0<1073741824∧sz x1<1073741824∧x1≠0)).bind fun _=>some (x0/x1,x0%x1)
def Dj (x0:Nat) (x1:Int):Option (Nat):=(gd (sz x0<1073741824∧0≤x1∧x1<34359738368)).bind fun _=>some (x0*2^x1.toNat)
def CD (x0:Nat) (x1:Nat):Option (Nat):=(gd (sz x0<1073741824∧sz x1<1073741824)).bind fun _=>some (x0+x1)
def CJ (x0:Nat) (x1:Nat):Option (Int):=(gd (sz x0<1073741824∧sz x1<1073741824)).bind fun _=>some (Lf.sgnc x0 x1)
def Di (x0:Nat) (x1:Nat):Option (Nat):=(gd (sz x0<1073741824∧sz x1<1073741824∧x1≤x0)).bind fun _=>some (x0 - x1)
def DQ (x0:Nat) (x1:Nat):Option (sorobanref01_DividedT):=(gd (sz x0<1073741824∧sz x1<1073741824∧x1≠0)).bind fun _=>some (⟨x0/x1,x0%x1⟩)
def CV (x0:Nat):Option (Int):=(gd (sz x0<1073741824)).bind fun _=>some (Lf.bl x0:Int)
def Ds (x0:AD):Option (Bool):=
 (BJ x0.Abs).bind fun r0a=>
 (if r0a=true then (if ¬(x0.Neg=true) then some (true) else some (decide (0<(x0.Abs.length:Int)))).bind fun m1a=>
 some (m1a) else some (false)).bind fun m2a=>
 some m2a
def CB (x0:Al):Option (Bool):=
 (Ds x0.Man).bind fun r0a=>
 if ¬(r0a=true) then some false else if (x0.Man.Abs.length:Int)=0 then some (decide (x0.Exp=0)) else (BO x0.Man.Abs 0).bind fun r1a=>
 (if r1a=1 then some (decide ((-1048576)≤x0.Exp)) else some (false)).bind fun m2a=>
 (if m2a=true then some (decide (x0.Exp≤1048576)) else some (false)).bind fun m3a=>
 some m3a
def Be (x0:Bool) (x1:Nat):Option (Ah):=
 (if x0=true then some (decide (0<(sz x1:Int))) else some (false)).bind fun m0a=>
 some (⟨m0a,x1⟩:Ah)
def Eg (x0:Int):Option (Ah):=
 if x0<0 then (Cm (wu64 (wi64 (-x0)))).bind fun r0a=>
 (Be true r0a).bind fun r1a=>
 some r1a else (Cm (wu64 x0)).bind fun r2a=>
 (Be false r2a).bind fun r3a=>
 some r3a
def Fv (x0:AD):Option (Bool):=
 (FR x0.Abs).bind fun r0a=>
 (if r0a=true then (if ¬(x0.Neg=true) then some (true) else some (decide (0<(x0.Abs.length:Int)))).bind fun m1a=>
 some (m1a) else some (false)).bind fun m2a=>
 some m2a
def BZ (x0:Bool) (x1:Int):M (Unit):=
 if ¬(x0=true) then some (.error x1) else some (.ok ())
def HL (x0:Ah):Option (Ah):=
 some x0
def DA (x0:Ah) (x1:Int):Option (Ao):=
 if (sz x0.Abs:Int)=0 then some (⟨(⟨false,0⟩:Ah),0⟩:Ao) else (Cv x0.Abs).bind fun r0a=>
 (Cl x0.Abs r0a).bind fun r1a=>
 some (⟨(⟨x0.Neg,r1a⟩:Ah),(wi64 (x1+r0a))⟩:Ao)
def Gx (x0:Ah):Option (Ah):=
 (if x0.Neg=true then some (decide (0<(sz x0.Abs:Int))) else some (false)).bind fun m0a=>
 some (⟨m0a,x0.Abs⟩:Ah)
def CG (x0:Ao):M (Ae):=
 (if (sz x0.m.Abs:Int)≤1024 then some (decide (x0.e≤1048576)) else some (false)).bind fun m0a=>
 (if m0a=true then some (decide ((-1048576)≤x0.e)) else some (false)).bind fun m1a=>
 mb (BZ m1a 2) fun r4a=>
 (Cz x0.m.Abs).bind fun r2a=>
 (Gx (⟨x0.m.Neg,r2a⟩:Ah)).bind fun r3a=>
 some (.ok (⟨r3a,x0.e⟩:Ae))
def Jo (x0:AD) (x1:Int):M (Ae × Int):=
 (Fv x0).bind fun r0a=>
 mb (BZ r0a 1) fun r5a=>
 if (x0.Abs.length:Int)=0 then some (.ok ((⟨(⟨false,0⟩:Ah),0⟩:Ae),0)) else (toN x0.Abs).bind fun m1a=>
 (HL (⟨x0.Neg,m1a⟩:Ah)).bind fun r2a=>
 (DA r2a (max (-1099511627776) (min x1 1099511627776))).bind fun r3a=>
 mb (CG r3a) fun r4a=>
 some (.ok (r4a,0))
def Iz (x0:AD) (x1:Int):Option (Ae × Int):=(Jo x0 x1).bind fun q=>match q with | .ok r=>some r | .error n=>some ((⟨(⟨false,0⟩:Ah),0⟩:Ae),n)
def DC (x0:Ah) (x1:Int):Option (Ae):=
 if (sz x0.Abs:Int)=0 then some (⟨(⟨false,0⟩:Ah),0⟩:Ae) else (BI x0.Abs).bind fun r0a=>
 (BN x0.Abs r0a).bind fun r1a=>
 some (⟨(⟨x0.Neg,r1a⟩:Ah),(wi64 (x1+r0a))⟩:Ae)
def AW (x0:Int) (x1:Int):Option (Ae):=
 (Eg x0).bind fun r7=>
 (DC r7 x1).bind fun r0a=>
 some r0a
def CN (x0:Al):Option (Bool):=
 (Fv x0.Man).bind fun r0a=>
 if ¬(r0a=true) then some false else if (x0.Man.Abs.length:Int)=0 then some (decide (x0.Exp=0)) else (nth x0.Man.Abs 0).bind fun u1a=>
 (if (u1a%2)=1 then some (decide (x0.Exp≤1048576)) else some (false)).bind fun m2a=>
 (if m2a=true then some (decide ((-1048576)≤x0.Exp)) else some (false)).bind fun m3a=>
 some m3a
def El (x0_0:Al):M (Unit):=
 (CN x0_0).bind fun r0a=>
 mb (BZ r0a 1) fun r1a=>
 some (.ok ())
def Fd (x0:Int):M (Unit):=
 (if 1≤x0 then some (decide (x0≤4096)) else some (false)).bind fun m8=>
 mb (BZ m8 1) fun r0a=>
 some (.ok ())
def Fu (x0:Int):M (Unit):=
 (if 1≤x0 then some (decide (x0≤5)) else some (false)).bind fun m8=>
 mb (BZ m8 1) fun r0a=>
 some (.ok ())
def DE (x0:Ae):Option (Ao):=
 (HL x0.Man).bind fun r0a=>
 some (⟨r0a,x0.Exp⟩:Ao)
def Db (x0:Ah) (x1:Int):Option (Ah):=
 (Bs x0.Abs x1).bind fun r0a=>
 some (⟨x0.Neg,r0a⟩:Ah)
def Hb (x0:Bool) (x1:Int) (x2:Bool) (x3:Bool) (x4:Int):Option (Bool):=
 if x0=true then some false else if x4=1 then (if 0<x1 then some (true) else (if x1=0 then some (x2) else some (false)).bind fun m0a=>
 some (m0a)).bind fun m1a=>
 some m1a else if x4=2 then some (decide (0≤x1)) else if x4=4 then some (decide (¬(x3=true))) else if x4=5 then some x3 else some false
def AZ (x0:Ao) (x1:Int) (x2:Int) (x3:Bool):Option (Ao):=
 (Bq x0.m.Abs).bind fun r1a=>
 (if (wi64 (r1a - x1))≤0 then some (decide (¬(x3=true))) else some (false)).bind fun m6a=>
 if m6a=true then (DA x0.m x0.e).bind fun r7a=>
 some r7a else (if (wi64 (r1a - x1))<2 then (Db x0.m (wi64 (2 - (wi64 (r1a - x1))))).bind fun r3a=>
 some (2,r3a.Neg,r3a.Abs,(wi64 ((wi64 (x0.e - 2))+(wi64 (r1a - x1))))) else some ((wi64 (r1a - x1)),x0.m.Neg,x0.m.Abs,x0.e)).bind fun m0a=>
 (Cl m0a.2.2.1 m0a.1).bind fun r2a=>
 (Bs r2a m0a.1).bind fun r8a=>
 (Ck m0a.2.2.1 r8a).bind fun r4a=>
 (if (sz r4a:Int)=0 then some (decide (¬(x3=true))) else some (false)).bind fun m9a=>
 (Bs 1 (wi64 (m0a.1 - 1))).bind fun r0b=>
 (Cj r4a r0b).bind fun r5a=>
 (if r5a=0 then some (x3) else some (false)).bind fun m1b=>
 (if m1b=true then some (1) else some (r5a)).bind fun m2b=>
 (if 0<(sz r2a:Int) then (nth (limbs r2a) 0).bind fun u3b=>
 some (decide ((u3b%2)=1)) else some (false)).bind fun m4b=>
 (Hb m9a m2b m4b m0a.2.1 x2).bind fun r5b=>
 (if r5b=true then (Cr r2a 1).bind fun r6b=>
 some (r6b) else some (r2a)).bind fun m7b=>
 (DA (⟨m0a.2.1,m7b⟩:Ah) (wi64 (m0a.2.2.2+m0a.1))).bind fun r8b=>
 some r8b
def HO (x0:Al) (x1:Int) (x2:Int):M (Ae × Int):=
 mb (El x0) fun r4a=>
 mb (Fd x1) fun r5a=>
 mb (Fu x2) fun r6a=>
 (toN x0.Man.Abs).bind fun m0a=>
 (DE (⟨(⟨x0.Man.Neg,m0a⟩:Ah),x0.Exp⟩:Ae)).bind fun r1a=>
 (AZ r1a x1 x2 false).bind fun r2a=>
 mb (CG r2a) fun r3a=>
 some (.ok (r3a,0))
def EI (x0:Al) (x1:Int) (x2:Int):Option (Ae × Int):=(HO x0 x1 x2).bind fun q=>match q with | .ok r=>some r | .error n=>some ((⟨(⟨false,0⟩:Ah),0⟩:Ae),n)
def BU (x0:Int) (x1:Int):Option (AI):=
 (AW x0 0).bind fun r7=>
 (AW x1 0).bind fun r0a=>
 some (⟨r7,r0a⟩:AI)
def Gh (x0:Ah):Option (Int):=
 if (sz x0.Abs:Int)=0 then some 0 else if x0.Neg=true then some (-1) else some 1
def Bl (x0:Ao):Option (Int):=
 (Gh x0.m).bind fun r0a=>
 some r0a
def EY (x0:Int) (x1:Int):Option (Int):=
 if x0<x1 then some (-1) else if x1<x0 then some 1 else some 0
def Dd (x0:Ao):Option (Int):=
 (Bq x0.m.Abs).bind fun r0a=>
 some (wi64 ((wi64 (r0a - 1))+x0.e))
def ET (x0:Ah):Option (Ah):=
 some (⟨(decide (¬(x0.Neg=true))),x0.Abs⟩:Ah)
def Dx (x0:Ao):Option (Ao):=
 (ET x0.m).bind fun r0a=>
 some (⟨r0a,x0.e⟩:Ao)
def Ee (x0:Ah) (x1:Ah):Option (Ah):=
 if x0.Neg=x1.Neg then (Cr x0.Abs x1.Abs).bind fun r0a=>
 some (⟨x0.Neg,r0a⟩:Ah) else (Cj x0.Abs x1.Abs).bind fun r1a=>
 if 0≤r1a then (Ck x0.Abs x1.Abs).bind fun r2a=>
 some (⟨x0.Neg,r2a⟩:Ah) else (Ck x1.Abs x0.Abs).bind fun r3a=>
 some (⟨x1.Neg,r3a⟩:Ah)
def CX (x0:Ah) (x1:Ah) (x2:Int):Option (Ao):=
 (Ee x0 x1).bind fun r0a=>
 (DA r0a x2).bind fun r1a=>
 some r1a
def Bo (x0:Ao) (x1:Ao):Option (Ao):=
 (if (sz x0.m.Abs:Int)=0 then some (x1.e) else some (min x0.e x1.e)).bind fun m5a=>
 (if (sz x1.m.Abs:Int)=0 then some (x0.e) else some (m5a)).bind fun m0a=>
 (if 0<(sz x0.m.Abs:Int) then (Db x0.m (wi64 (x0.e - m0a))).bind fun r1a=>
 some (r1a.Neg,r1a.Abs) else some (x0.m.Neg,x0.m.Abs)).bind fun m2a=>
 (if 0<(sz x1.m.Abs:Int) then (Db x1.m (wi64 (x1.e - m0a))).bind fun r3a=>
 some (r3a.Neg,r3a.Abs) else some (x1.m.Neg,x1.m.Abs)).bind fun m4a=>
 (CX (⟨m2a.1,m2a.2⟩:Ah) (⟨m4a.1,m4a.2⟩:Ah) m0a).bind fun r6a=>
 some r6a
def BD (x0:Ao) (x1:Ao):Option (Ao):=
 (Bo x0 x1).bind fun r0a=>
 some r0a
def Bu (x0:Ao) (x1:Ao):Option (Int):=
 (Bl x0).bind fun r0a=>
 (Bl x1).bind fun r1a=>
 (if ¬r0a=r1a then some (true) else some (decide (r0a=0))).bind fun m4a=>
 if m4a=true then (EY r0a r1a).bind fun r5a=>
 some r5a else (Dd x0).bind fun r2a=>
 (Dd x1).bind fun r3a=>
 if ¬r2a=r3a then (Bl x0).bind fun r6a=>
 (EY r2a r3a).bind fun r7a=>
 some (wi64 (r6a*r7a)) else (Dx x1).bind fun r8a=>
 (BD x0 r8a).bind fun r9a=>
 (Bl r9a).bind fun r0b=>
 some r0b
def GQ (x0:AM):Option (Bool):=
 (CN x0.Lo).bind fun r0a=>
 if r0a=true then (CN x0.Hi).bind fun r1a=>
 if r1a=true then (toN x0.Lo.Man.Abs).bind fun m2a=>
 (DE (⟨(⟨x0.Lo.Man.Neg,m2a⟩:Ah),x0.Lo.Exp⟩:Ae)).bind fun r3a=>
 (toN x0.Hi.Man.Abs).bind fun m4a=>
 (DE (⟨(⟨x0.Hi.Man.Neg,m4a⟩:Ah),x0.Hi.Exp⟩:Ae)).bind fun r5a=>
 (Bu r3a r5a).bind fun r6a=>
 some (decide (r6a≤0)) else some false else some false
def ER (x0_0:AM) (x0_1:AM):M (Unit):=
 (GQ x0_0).bind fun r0a=>
 mb (BZ r0a 1) fun r2a=>
 (GQ x0_1).bind fun r1a=>
 mb (BZ r1a 1) fun r3a=>
 some (.ok ())
def Eu (x0:AI):Option (AF):=
 (DE x0.Lo).bind fun r0a=>
 (DE x0.Hi).bind fun r1a=>
 some (⟨r0a,r1a⟩:AF)
def Hy (x0:Ah) (x1:Ah):Option (Ah):=
 (CE x0.Abs x1.Abs).bind fun r0a=>
 some (⟨(decide (¬x0.Neg=x1.Neg)),r0a⟩:Ah)
def FY (x0:Ao) (x1:Ao):Option (Ao):=
 (Hy x0.m x1.m).bind fun r0a=>
 (DA r0a (wi64 (x0.e+x1.e))).bind fun r1a=>
 some r1a
def Ga (x0:AF) (x1:Int):Option (AF):=
 (AZ x0.lo x1 5 false).bind fun r0a=>
 (AZ x0.hi x1 4 false).bind fun r1a=>
 some (⟨r0a,r1a⟩:AF)
def Fq (x0:AF):M (AI):=
 mb (CG x0.lo) fun r0a=>
 mb (CG x0.hi) fun r1a=>
 some (.ok (⟨r0a,r1a⟩:AI))
def Ik (x0:AF) (x1:AF) (x2:Int) (x y:Ao):Option AF:=
 (FY x y).bind fun r0a=>
 (Bu r0a r0a).bind fun r1a=>
 (if r1a<0 then some () else some ()).bind fun m3a=>
 (Bu r0a r0a).bind fun r2a=>
 (if 0<r2a then some () else some ()).bind fun m4a=>
 some (⟨r0a,r0a⟩:AF)
def Fs (x0:AF) (x1:AF) (x2:Int) (sr:AF) (x y:Ao):Option AF:=
 (FY x y).bind fun r0a=>
 (Bu r0a sr.lo).bind fun r3a=>
 (if r3a<0 then some (r0a.m.Neg,r0a.m.Abs,r0a.e) else some (sr.lo.m.Neg,sr.lo.m.Abs,sr.lo.e)).bind fun m1a=>
 (Bu r0a sr.hi).bind fun r4a=>
 (if 0<r4a then some (r0a.m.Neg,r0a.m.Abs,r0a.e) else some (sr.hi.m.Neg,sr.hi.m.Abs,sr.hi.e)).bind fun m2a=>
 some (⟨(⟨(⟨m1a.1,m1a.2.1⟩:Ah),m1a.2.2⟩:Ao),(⟨(⟨m2a.1,m2a.2.1⟩:Ah),m2a.2.2⟩:Ao)⟩:AF)
def HC (x0:AF) (x1:AF) (x2:Int):M (AI):=
 (Ik x0 x1 x2 x0.lo x1.lo).bind fun s0a=>
 (Fs x0 x1 x2 s0a x0.lo x1.hi).bind fun s1a=>
 (Fs x0 x1 x2 s1a x0.hi x1.lo).bind fun s2a=>
 (Fs x0 x1 x2 s2a x0.hi x1.hi).bind fun s3a=>
 (Ga s3a x2).bind fun r4a=>
 mb (Fq r4a) fun r5a=>
 some (.ok r5a)
def EN (x0:AM) (x1:AM) (x2:Int):M (AI × Int):=
 mb (ER x0 x1) fun r7a=>
 mb (Fd x2) fun r8a=>
 (toN x0.Lo.Man.Abs).bind fun m0a=>
 (toN x0.Hi.Man.Abs).bind fun m1a=>
 (Eu (⟨(⟨(⟨x0.Lo.Man.Neg,m0a⟩:Ah),x0.Lo.Exp⟩:Ae),(⟨(⟨x0.Hi.Man.Neg,m1a⟩:Ah),x0.Hi.Exp⟩:Ae)⟩:AI)).bind fun r2a=>
 (toN x1.Lo.Man.Abs).bind fun m3a=>
 (toN x1.Hi.Man.Abs).bind fun m4a=>
 (Eu (⟨(⟨(⟨x1.Lo.Man.Neg,m3a⟩:Ah),x1.Lo.Exp⟩:Ae),(⟨(⟨x1.Hi.Man.Neg,m4a⟩:Ah),x1.Hi.Exp⟩:Ae)⟩:AI)).bind fun r5a=>
 mb (HC r2a r5a x2) fun r6a=>
 some (.ok (r6a,0))
def DP (x0:AM) (x1:AM) (x2:Int):Option (AI × Int):=(EN x0 x1 x2).bind fun q=>match q with | .ok r=>some r | .error n=>some ((⟨(⟨(⟨false,0⟩:Ah),0⟩:Ae),(⟨(⟨false,0⟩:Ah),0⟩:Ae)⟩:AI),n)
def Ig (x0:AM) (x1:AM) (x2:Int):Option (AI × Int):=
 (DP x0 x1 x2).bind fun r0a=>
 some (r0a.1,r0a.2)
def CR (x0:Ah) (x1:Ah):Option (Bool):=
 (if x0.Neg=x1.Neg then (BT (limbs x0.Abs) (limbs x1.Abs)).bind fun r0a=>
 some (r0a) else some (false)).bind fun m1a=>
 some m1a
def Aq (x0:Ae) (x1:Ae):Option (Bool):=
 (CR x0.Man x1.Man).bind fun r0a=>
 (if r0a=true then some (decide (x0.Exp=x1.Exp)) else some (false)).bind fun m1a=>
 some m1a
def Dp (x0:AI) (x1:AI):Option (Bool):=
 (Aq x0.Lo x1.Lo).bind fun r0a=>
 (if r0a=true then (Aq x0.Hi x1.Hi).bind fun r1a=>
 some (r1a) else some (false)).bind fun m2a=>
 some m2a
def ED (x0:Ao) (x1:Ao) (x2:Int) (x3:Int):Option (Ao):=
 (Bl x0).bind fun r3a=>
 if r3a=0 then some (⟨(⟨false,0⟩:Ah),0⟩:Ao) else (Bq x1.m.Abs).bind fun r0a=>
 (Bq x0.m.Abs).bind fun r1a=>
 (Bs x0.m.Abs (max 0 (wi64 ((wi64 ((wi64 (x2+2))+r0a)) - r1a)))).bind fun r4a=>
 (CI r4a x1.m.Abs).bind fun r2a=>
 (AZ (⟨(⟨(decide (¬x0.m.Neg=x1.m.Neg)),r2a.1⟩:Ah),(wi64 ((wi64 (x0.e - x1.e)) - (max 0 (wi64 ((wi64 ((wi64 (x2+2))+r0a)) - r1a)))))⟩:Ao) x2 x3 (decide (0<(sz r2a.2:Int)))).bind fun r5a=>
 some r5a
def Iu (x0:AF) (x1:AF) (x2:Int) (x y:Ao):Option AF:=
 (ED x y x2 5).bind fun r0a=>
 (ED x y x2 4).bind fun r1a=>
 (Bu r0a r0a).bind fun r2a=>
 (if r2a<0 then some () else some ()).bind fun m4a=>
 (Bu r1a r1a).bind fun r3a=>
 (if 0<r3a then some () else some ()).bind fun m5a=>
 some (⟨r0a,r1a⟩:AF)
def FK (x0:AF) (x1:AF) (x2:Int) (sr:AF) (x y:Ao):Option AF:=
 (ED x y x2 5).bind fun r0a=>
 (ED x y x2 4).bind fun r1a=>
 (Bu r0a sr.lo).bind fun r4a=>
 (if r4a<0 then some (r0a.m.Neg,r0a.m.Abs,r0a.e) else some (sr.lo.m.Neg,sr.lo.m.Abs,sr.lo.e)).bind fun m2a=>
 (Bu r1a sr.hi).bind fun r5a=>
 (if 0<r5a then some (r1a.m.Neg,r1a.m.Abs,r1a.e) else some (sr.hi.m.Neg,sr.hi.m.Abs,sr.hi.e)).bind fun m3a=>
 some (⟨(⟨(⟨m2a.1,m2a.2.1⟩:Ah),m2a.2.2⟩:Ao),(⟨(⟨m3a.1,m3a.2.1⟩:Ah),m3a.2.2⟩:Ao)⟩:AF)
def HT (x0:AF) (x1:AF) (x2:Int):M (AI):=
 (Bl x1.lo).bind fun r0a=>
 (Bl x1.hi).bind fun r1a=>
 mb (BZ (decide (0<(wi64 (r0a*r1a)))) 8) fun r7a=>
 (Iu x0 x1 x2 x0.lo x1.lo).bind fun s2a=>
 (FK x0 x1 x2 s2a x0.lo x1.hi).bind fun s3a=>
 (FK x0 x1 x2 s3a x0.hi x1.lo).bind fun s4a=>
 (FK x0 x1 x2 s4a x0.hi x1.hi).bind fun s5a=>
 mb (Fq s5a) fun r6a=>
 some (.ok r6a)
def Fb (x0:AM) (x1:AM) (x2:Int):M (AI × Int):=
 mb (ER x0 x1) fun r7a=>
 mb (Fd x2) fun r8a=>
 (toN x0.Lo.Man.Abs).bind fun m0a=>
 (toN x0.Hi.Man.Abs).bind fun m1a=>
 (Eu (⟨(⟨(⟨x0.Lo.Man.Neg,m0a⟩:Ah),x0.Lo.Exp⟩:Ae),(⟨(⟨x0.Hi.Man.Neg,m1a⟩:Ah),x0.Hi.Exp⟩:Ae)⟩:AI)).bind fun r2a=>
 (toN x1.Lo.Man.Abs).bind fun m3a=>
 (toN x1.Hi.Man.Abs).bind fun m4a=>
 (Eu (⟨(⟨(⟨x1.Lo.Man.Neg,m3a⟩:Ah),x1.Lo.Exp⟩:Ae),(⟨(⟨x1.Hi.Man.Neg,m4a⟩:Ah),x1.Hi.Exp⟩:Ae)⟩:AI)).bind fun r5a=>
 mb (HT r2a r5a x2) fun r6a=>
 some (.ok (r6a,0))
def DT (x0:AM) (x1:AM) (x2:Int):Option (AI × Int):=(Fb x0 x1 x2).bind fun q=>match q with | .ok r=>some r | .error n=>some ((⟨(⟨(⟨false,0⟩:Ah),0⟩:Ae),(⟨(⟨false,0⟩:Ah),0⟩:Ae)⟩:AI),n)
def HM (x0:AM) (x1:AM) (x2:Int):Option (AI × Int):=
 (DT x0 x1 x2).bind fun r0a=>
 some (r0a.1,r0a.2)
def FE (x0:Nat):Nat→Nat→Option (Nat × Nat)
 | 0,_=>none
 | n2a+1,v0a=>
 (CI x0 v0a).bind fun r3a=>
 (Cr v0a r3a.1).bind fun r4a=>
 (Cl r4a 1).bind fun r1a=>
 (Cj r1a v0a).bind fun r5a=>
 if 0≤r5a then (CE v0a v0a).bind fun r6a=>
 (Ck x0 r6a).bind fun r7a=>
 some (v0a,r7a) else FE x0 n2a r1a
def Hh (x0:Nat):Option (Nat × Nat):=
 if (sz x0:Int)=0 then some (0,0) else (Bq x0).bind fun r0a=>
 (Bs 1 (wi64 ((wi64 (r0a+1)).tdiv 2))).bind fun r1a=>
 FE x0 18446744073709551616 r1a
def HK (x0:Ao) (x1:Int) (x2:Int):Option (Ao):=
 (Bl x0).bind fun r3a=>
 if r3a=0 then some (⟨(⟨false,0⟩:Ah),0⟩:Ao) else (Bq x0.m.Abs).bind fun r0a=>
 (if ¬((wi64 (x0.e - (max 0 (wi64 ((wi64 ((wi64 (2*x1))+4)) - r0a)))))%2)=0 then some (wi64 ((max 0 (wi64 ((wi64 ((wi64 (2*x1))+4)) - r0a)))+1)) else some (max 0 (wi64 ((wi64 ((wi64 (2*x1))+4)) - r0a)))).bind fun m1a=>
 (Bs x0.m.Abs m1a).bind fun r4a=>
 (Hh r4a).bind fun r2a=>
 (AZ (⟨(⟨false,r2a.1⟩:Ah),(wi64 ((wi64 (x0.e - m1a)).tdiv 2))⟩:Ao) x1 x2 (decide (0<(sz r2a.2:Int)))).bind fun r5a=>
 some r5a
def HN (x0:AF) (x1:AF) (x2:Int):M (AI):=
 (Bl x0.lo).bind fun r0a=>
 mb (BZ (decide (0≤r0a)) 3) fun r4a=>
 (HK x0.lo x2 5).bind fun r1a=>
 (HK x0.hi x2 4).bind fun r2a=>
 mb (Fq (⟨r1a,r2a⟩:AF)) fun r3a=>
 some (.ok r3a)
def EZ (x0:AM) (x1:AM) (x2:Int):M (AI × Int):=
 mb (ER x0 x1) fun r7a=>
 mb (Fd x2) fun r8a=>
 (toN x0.Lo.Man.Abs).bind fun m0a=>
 (toN x0.Hi.Man.Abs).bind fun m1a=>
 (Eu (⟨(⟨(⟨x0.Lo.Man.Neg,m0a⟩:Ah),x0.Lo.Exp⟩:Ae),(⟨(⟨x0.Hi.Man.Neg,m1a⟩:Ah),x0.Hi.Exp⟩:Ae)⟩:AI)).bind fun r2a=>
 (toN x1.Lo.Man.Abs).bind fun m3a=>
 (toN x1.Hi.Man.Abs).bind fun m4a=>
 (Eu (⟨(⟨(⟨x1.Lo.Man.Neg,m3a⟩:Ah),x1.Lo.Exp⟩:Ae),(⟨(⟨x1.Hi.Man.Neg,m4a⟩:Ah),x1.Hi.Exp⟩:Ae)⟩:AI)).bind fun r5a=>
 mb (HN r2a r5a x2) fun r6a=>
 some (.ok (r6a,0))
def DY (x0:AM) (x1:AM) (x2:Int):Option (AI × Int):=(EZ x0 x1 x2).bind fun q=>match q with | .ok r=>some r | .error n=>some ((⟨(⟨(⟨false,0⟩:Ah),0⟩:Ae),(⟨(⟨false,0⟩:Ah),0⟩:Ae)⟩:AI),n)
def Ir (x0:AM) (x1:Int):Option (AI × Int):=
 (DY x0 x0 x1).bind fun r0a=>
 some (r0a.1,r0a.2)
def BC:Option (Bool):=
 (Eg 12).bind fun r3=>
 (Iz (⟨r3.Neg,(limbs r3.Abs)⟩:AD) 3).bind fun r9a=>
 (AW 11 0).bind fun r7a=>
 (EI (⟨(⟨r7a.Man.Neg,(limbs r7a.Man.Abs)⟩:AD),r7a.Exp⟩:Al) 3 1).bind fun r0b=>
 (AW (-11) 0).bind fun r8a=>
 (EI (⟨(⟨r8a.Man.Neg,(limbs r8a.Man.Abs)⟩:AD),r8a.Exp⟩:Al) 2 5).bind fun r1b=>
 (BU (-1) 2).bind fun r0a=>
 (BU (-3) 5).bind fun r1a=>
 (Ig (⟨(⟨(⟨r0a.Lo.Man.Neg,(limbs r0a.Lo.Man.Abs)⟩:AD),r0a.Lo.Exp⟩:Al),(⟨(⟨r0a.Hi.Man.Neg,(limbs r0a.Hi.Man.Abs)⟩:AD),r0a.Hi.Exp⟩:Al)⟩:AM) (⟨(⟨(⟨r1a.Lo.Man.Neg,(limbs r1a.Lo.Man.Abs)⟩:AD),r1a.Lo.Exp⟩:Al),(⟨(⟨r1a.Hi.Man.Neg,(limbs r1a.Hi.Man.Abs)⟩:AD),r1a.Hi.Exp⟩:Al)⟩:AM) 8).bind fun r2b=>
 (if ¬r9a.2=0 then some (true) else some (decide (¬r0b.2=0))).bind fun m5b=>
 (if m5b=true then some (true) else some (decide (¬r1b.2=0))).bind fun m6b=>
 (if m6b=true then some (true) else some (decide (¬r2b.2=0))).bind fun m7b=>
 if m7b=true then some false else (AW 3 5).bind fun r8b=>
 (Aq r9a.1 r8b).bind fun r9b=>
 if ¬(r9b=true) then some false else (AW 12 0).bind fun r0c=>
 (Aq r0b.1 r0c).bind fun r1c=>
 if ¬(r1c=true) then some false else (AW (-12) 0).bind fun r2c=>
 (Aq r1b.1 r2c).bind fun r3c=>
 if ¬(r3c=true) then some false else (BU (-6) 10).bind fun r4c=>
 (Dp r2b.1 r4c).bind fun r5c=>
 if ¬(r5c=true) then some false else (BU 1 1).bind fun r2a=>
 (BU 3 3).bind fun r3a=>
 (HM (⟨(⟨(⟨r2a.Lo.Man.Neg,(limbs r2a.Lo.Man.Abs)⟩:AD),r2a.Lo.Exp⟩:Al),(⟨(⟨r2a.Hi.Man.Neg,(limbs r2a.Hi.Man.Abs)⟩:AD),r2a.Hi.Exp⟩:Al)⟩:AM) (⟨(⟨(⟨r3a.Lo.Man.Neg,(limbs r3a.Lo.Man.Abs)⟩:AD),r3a.Lo.Exp⟩:Al),(⟨(⟨r3a.Hi.Man.Neg,(limbs r3a.Hi.Man.Abs)⟩:AD),r3a.Hi.Exp⟩:Al)⟩:AM) 4).bind fun r3b=>
 (BU 1 1).bind fun r4a=>
 (BU (-1) 1).bind fun r5a=>
 (HM (⟨(⟨(⟨r4a.Lo.Man.Neg,(limbs r4a.Lo.Man.Abs)⟩:AD),r4a.Lo.Exp⟩:Al),(⟨(⟨r4a.Hi.Man.Neg,(limbs r4a.Hi.Man.Abs)⟩:AD),r4a.Hi.Exp⟩:Al)⟩:AM) (⟨(⟨(⟨r5a.Lo.Man.Neg,(limbs r5a.Lo.Man.Abs)⟩:AD),r5a.Lo.Exp⟩:Al),(⟨(⟨r5a.Hi.Man.Neg,(limbs r5a.Hi.Man.Abs)⟩:AD),r5a.Hi.Exp⟩:Al)⟩:AM) 4).bind fun r6c=>
 (BU 2 2).bind fun r6a=>
 (Ir (⟨(⟨(⟨r6a.Lo.Man.Neg,(limbs r6a.Lo.Man.Abs)⟩:AD),r6a.Lo.Exp⟩:Al),(⟨(⟨r6a.Hi.Man.Neg,(limbs r6a.Hi.Man.Abs)⟩:AD),r6a.Hi.Exp⟩:Al)⟩:AM) 4).bind fun r4b=>
 (AW 5 (-4)).bind fun r7c=>
 (AW 11 (-5)).bind fun r8c=>
 (AW 11 (-3)).bind fun r9c=>
 (AW 3 (-1)).bind fun r0d=>
 (if r3b.2=0 then some (decide (r6c.2=8)) else some (false)).bind fun m1d=>
 (if m1d=true then some (decide (r4b.2=0)) else some (false)).bind fun m2d=>
 (if m2d=true then (Dp r3b.1 (⟨r7c,r8c⟩:AI)).bind fun r3d=>
 some (r3d) else some (false)).bind fun m4d=>
 (if m4d=true then (Dp r4b.1 (⟨r9c,r0d⟩:AI)).bind fun r5d=>
 some (r5d) else some (false)).bind fun m6d=>
 some m6d
def Es (x0:Int):Option (Bool):=
 (if 1≤x0 then some (decide (x0≤4096)) else some (false)).bind fun m0a=>
 some m0a
def GG (x0:Ah):Option (Ah):=
 (Be (decide (¬(x0.Neg=true))) x0.Abs).bind fun r0a=>
 some r0a
def CC (x0:Ae):Option (Ae):=
 (GG x0.Man).bind fun r0a=>
 some (⟨r0a,x0.Exp⟩:Ae)
def Fj (x0:Ah) (x1:Int):Option (Ah):=
 (Dj x0.Abs x1).bind fun r0a=>
 some (⟨x0.Neg,r0a⟩:Ah)
def GH (x0:Ah) (x1:Ah):Option (Ah):=
 if x0.Neg=x1.Neg then (CD x0.Abs x1.Abs).bind fun r0a=>
 (Be x0.Neg r0a).bind fun r1a=>
 some r1a else (CJ x0.Abs x1.Abs).bind fun r2a=>
 if 0≤r2a then (Di x0.Abs x1.Abs).bind fun r3a=>
 (Be x0.Neg r3a).bind fun r4a=>
 some r4a else (Di x1.Abs x0.Abs).bind fun r5a=>
 (Be x1.Neg r5a).bind fun r6a=>
 some r6a
def Ex (x0:Ae) (x1:Ae):Option (Ae):=
 if (sz x0.Man.Abs:Int)=0 then some x1 else if (sz x1.Man.Abs:Int)=0 then some x0 else (Fj x0.Man (wi64 (x0.Exp - (min x0.Exp x1.Exp)))).bind fun r0a=>
 (Fj x1.Man (wi64 (x1.Exp - (min x0.Exp x1.Exp)))).bind fun r1a=>
 (GH r0a r1a).bind fun r2a=>
 (DC r2a (min x0.Exp x1.Exp)).bind fun r3a=>
 some r3a
def Fo:Option (Nat):=
 some 1
def Fh (x0:Nat) (x1:Nat) (x2:Nat) (x3:Bool) (x4:Int):Option (Nat):=
 if (sz x1:Int)=0 then some x0 else (if x4=4 then some (decide (¬(x3=true))) else some (false)).bind fun m1a=>
 (if m1a=true then some (true) else (if x4=5 then some (x3) else some (false)).bind fun m2a=>
 some (m2a)).bind fun m3a=>
 (if x4=1 then some (true) else some (decide (x4=2))).bind fun m4a=>
 (if m4a=true then (CD x1 x1).bind fun r5a=>
 (CJ r5a x2).bind fun r0a=>
 (if 0<r0a then some (true) else (if r0a=0 then (if x4=2 then some (true) else (if 0<(sz x0:Int) then (nth (limbs x0) 0).bind fun u6a=>
 some (decide ((u6a.tmod 2)=1)) else some (false)).bind fun m7a=>
 some (m7a)).bind fun m8a=>
 some (m8a) else some (false)).bind fun m9a=>
 some (m9a)).bind fun m0b=>
 some (m0b) else some (m3a)).bind fun m1b=>
 if m1b=true then (Fo).bind fun r2b=>
 (CD x0 r2b).bind fun r3b=>
 some r3b else some x0
def Ge (x0:Nat) (x1:Nat) (x2:Nat) (x3:Bool) (x4:Int) (x5:Int):Option (Ae):=
 (Fh x0 x1 x2 x3 x4).bind fun r0a=>
 (Be x3 r0a).bind fun r1a=>
 (DC r1a x5).bind fun r2a=>
 some r2a
def DS (x0:Ae) (x1:Int) (x2:Int):Option (Ae):=
 (CV x0.Man.Abs).bind fun r0a=>
 if (wi64 (r0a - x1))≤0 then some x0 else (Fo).bind fun r3a=>
 (Dj r3a (wi64 (r0a - x1))).bind fun r1a=>
 (DQ x0.Man.Abs r1a).bind fun r2a=>
 (Ge r2a.Q r2a.R r1a x0.Man.Neg x2 (wi64 (x0.Exp+(wi64 (r0a - x1))))).bind fun r4a=>
 some r4a
def Dm (x0:Al):Option (Bool):=
 (if (x0.Man.Abs.length:Int)≤60 then (if (-3000)≤x0.Exp then some (decide (x0.Exp≤3000)) else some (false)).bind fun m0a=>
 (if m0a=true then some (true) else (CB x0).bind fun r1a=>
 some (decide (¬(r1a=true)))).bind fun m2a=>
 some (m2a) else some (false)).bind fun m3a=>
 some m3a
def Gq (x0:Ao) (x1:Ao):Option (Bool):=
 (Bl x0).bind fun r0a=>
 (if r0a=0 then some (true) else (Bl x1).bind fun r1a=>
 some (decide (r1a=0))).bind fun m2a=>
 if m2a=true then some true else (Dd x0).bind fun r3a=>
 (Dd x1).bind fun r4a=>
 some (decide ((wi64 ((max r3a r4a) - (min x0.e x1.e)))≤32770))
def Gs (x0:Bool) (x1:List Int):Option (AD):=
 (if x0=true then some (decide (0<(x1.length:Int))) else some (false)).bind fun m0a=>
 some (⟨m0a,x1⟩:AD)
def Gp (x0:AD):Option (AD):=
 (Gs (decide (¬(x0.Neg=true))) x0.Abs).bind fun r0a=>
 some r0a
def Fi (x0:Al):Option (Al):=
 (Gp x0.Man).bind fun r0a=>
 some (⟨r0a,x0.Exp⟩:Al)
def Ek (x0_0:Al) (x0_1:Al):M (Unit):=
 (CN x0_0).bind fun r0a=>
 mb (BZ r0a 1) fun r2a=>
 (CN x0_1).bind fun r1a=>
 mb (BZ r1a 1) fun r3a=>
 some (.ok ())
def Cy (x0:Al) (x1:Al):M (Ae × Int):=
 mb (Ek x0 x1) fun r7a=>
 (toN x0.Man.Abs).bind fun m2a=>
 (DE (⟨(⟨x0.Man.Neg,m2a⟩:Ah),x0.Exp⟩:Ae)).bind fun r0a=>
 (toN x1.Man.Abs).bind fun m3a=>
 (DE (⟨(⟨x1.Man.Neg,m3a⟩:Ah),x1.Exp⟩:Ae)).bind fun r1a=>
 (Gq r0a r1a).bind fun r4a=>
 mb (BZ r4a 2) fun r8a=>
 (BD r0a r1a).bind fun r5a=>
 mb (CG r5a) fun r6a=>
 some (.ok (r6a,0))
def BX (x0:Al) (x1:Al):Option (Ae × Int):=(Cy x0 x1).bind fun q=>match q with | .ok r=>some r | .error n=>some ((⟨(⟨false,0⟩:Ah),0⟩:Ae),n)
def GN (x0:Al) (x1:Al):Option (Ae × Int):=
 (BX x0 x1).bind fun r0a=>
 some (r0a.1,r0a.2)
def Hq (x0:Ao) (x1:Ao):Option (Ao):=
 (Dx x1).bind fun r0a=>
 (BD x0 r0a).bind fun r1a=>
 some r1a
def CW (x0:Al) (x1:Al):M (Ae × Int):=
 mb (Ek x0 x1) fun r7a=>
 (toN x0.Man.Abs).bind fun m2a=>
 (DE (⟨(⟨x0.Man.Neg,m2a⟩:Ah),x0.Exp⟩:Ae)).bind fun r0a=>
 (toN x1.Man.Abs).bind fun m3a=>
 (DE (⟨(⟨x1.Man.Neg,m3a⟩:Ah),x1.Exp⟩:Ae)).bind fun r1a=>
 (Gq r0a r1a).bind fun r4a=>
 mb (BZ r4a 2) fun r8a=>
 (Hq r0a r1a).bind fun r5a=>
 mb (CG r5a) fun r6a=>
 some (.ok (r6a,0))
def Cn (x0:Al) (x1:Al):Option (Ae × Int):=(CW x0 x1).bind fun q=>match q with | .ok r=>some r | .error n=>some ((⟨(⟨false,0⟩:Ah),0⟩:Ae),n)
def FN (x0:Al) (x1:Al):Option (Ae × Int):=
 (Cn x0 x1).bind fun r0a=>
 some (r0a.1,r0a.2)
def Ip (x0:Al):M (Ae × Int):=
 mb (El x0) fun r4a=>
 (toN x0.Man.Abs).bind fun m0a=>
 (DE (⟨(⟨x0.Man.Neg,m0a⟩:Ah),x0.Exp⟩:Ae)).bind fun r1a=>
 (Dx r1a).bind fun r2a=>
 mb (CG r2a) fun r3a=>
 some (.ok (r3a,0))
def DM (x0:Al):Option (Ae × Int):=(Ip x0).bind fun q=>match q with | .ok r=>some r | .error n=>some ((⟨(⟨false,0⟩:Ah),0⟩:Ae),n)
def Dq (x0_0:Al) (x0_1:Al):Option (Bool):=
 (Dm x0_0).bind fun r0a=>
 (if ¬(r0a=true) then some (true) else (CN x0_0).bind fun r1a=>
 some (decide (¬(r1a=true)))).bind fun m2a=>
 if m2a=true then some false else (Dm x0_1).bind fun r3a=>
 (if ¬(r3a=true) then some (true) else (CN x0_1).bind fun r4a=>
 some (decide (¬(r4a=true)))).bind fun m5a=>
 if m5a=true then some false else some true
def As (x0:Ae) (x1:Int) (x2:Int):Option (Ae × Bool):=
 (EI (⟨(⟨x0.Man.Neg,(limbs x0.Man.Abs)⟩:AD),x0.Exp⟩:Al) x1 x2).bind fun r0a=>
 some (r0a.1,(decide (r0a.2=0)))
def Iw (x0:Al) (x1:Al):M (Int × Int):=
 mb (Ek x0 x1) fun r5a=>
 (toN x0.Man.Abs).bind fun m0a=>
 (DE (⟨(⟨x0.Man.Neg,m0a⟩:Ah),x0.Exp⟩:Ae)).bind fun r1a=>
 (toN x1.Man.Abs).bind fun m2a=>
 (DE (⟨(⟨x1.Man.Neg,m2a⟩:Ah),x1.Exp⟩:Ae)).bind fun r3a=>
 (Bu r1a r3a).bind fun r4a=>
 some (.ok (r4a,0))
def FV (x0:Al) (x1:Al):Option (Int × Int):=(Iw x0 x1).bind fun q=>match q with | .ok r=>some r | .error n=>some (0,n)
def Bj (x0:Ae) (x1:Ae):Option (Bool):=
 (FV (⟨(⟨x0.Man.Neg,(limbs x0.Man.Abs)⟩:AD),x0.Exp⟩:Al) (⟨(⟨x1.Man.Neg,(limbs x1.Man.Abs)⟩:AD),x1.Exp⟩:Al)).bind fun r0a=>
 (if r0a.2=0 then some (decide (r0a.1≤0)) else some (false)).bind fun m1a=>
 some m1a
def IH (x0:Al):M (Int × Int):=
 mb (El x0) fun r3a=>
 mb (BZ (decide (0<(x0.Man.Abs.length:Int))) 5) fun r4a=>
 (toN x0.Man.Abs).bind fun m0a=>
 (DE (⟨(⟨x0.Man.Neg,m0a⟩:Ah),x0.Exp⟩:Ae)).bind fun r1a=>
 (Dd r1a).bind fun r2a=>
 some (.ok (r2a,0))
def Hz (x0:Al):Option (Int × Int):=(IH x0).bind fun q=>match q with | .ok r=>some r | .error n=>some (0,n)
def Ch (x0:Ae) (x1:Ae) (x2:Int):Option (Bool):=
 (Bj x0 x1).bind fun r1b=>
 (if ¬(r1b=true) then some (x1.Man.Neg,x1.Man.Abs,x1.Exp,x0.Man.Neg,x0.Man.Abs,x0.Exp) else some (x0.Man.Neg,x0.Man.Abs,x0.Exp,x1.Man.Neg,x1.Man.Abs,x1.Exp)).bind fun m0a=>
 (As (⟨(⟨m0a.1,m0a.2.1⟩:Ah),m0a.2.2.1⟩:Ae) x2 1).bind fun r1a=>
 (As (⟨(⟨m0a.2.2.2.1,m0a.2.2.2.2.1⟩:Ah),m0a.2.2.2.2.2⟩:Ae) x2 1).bind fun r2a=>
 (if ¬(r1a.2=true) then some (true) else some (decide (¬(r2a.2=true)))).bind fun m2b=>
 (if m2b=true then some (true) else (Bj r1a.1 r2a.1).bind fun r3b=>
 some (decide (¬(r3b=true)))).bind fun m4b=>
 if m4b=true then some false else (As (⟨(⟨m0a.1,m0a.2.1⟩:Ah),m0a.2.2.1⟩:Ae) x2 2).bind fun r3a=>
 (As (⟨(⟨m0a.2.2.2.1,m0a.2.2.2.2.1⟩:Ah),m0a.2.2.2.2.2⟩:Ae) x2 2).bind fun r4a=>
 (if ¬(r3a.2=true) then some (true) else some (decide (¬(r4a.2=true)))).bind fun m5b=>
 (if m5b=true then some (true) else (Bj r3a.1 r4a.1).bind fun r6b=>
 some (decide (¬(r6b=true)))).bind fun m7b=>
 if m7b=true then some false else (As (⟨(⟨m0a.1,m0a.2.1⟩:Ah),m0a.2.2.1⟩:Ae) x2 3).bind fun r5a=>
 (As (⟨(⟨m0a.2.2.2.1,m0a.2.2.2.2.1⟩:Ah),m0a.2.2.2.2.2⟩:Ae) x2 3).bind fun r6a=>
 (if ¬(r5a.2=true) then some (true) else some (decide (¬(r6a.2=true)))).bind fun m8b=>
 (if m8b=true then some (true) else (Bj r5a.1 r6a.1).bind fun r9b=>
 some (decide (¬(r9b=true)))).bind fun m0c=>
 if m0c=true then some false else (As (⟨(⟨m0a.1,m0a.2.1⟩:Ah),m0a.2.2.1⟩:Ae) x2 4).bind fun r7a=>
 (As (⟨(⟨m0a.2.2.2.1,m0a.2.2.2.2.1⟩:Ah),m0a.2.2.2.2.2⟩:Ae) x2 4).bind fun r8a=>
 (if ¬(r7a.2=true) then some (true) else some (decide (¬(r8a.2=true)))).bind fun m1c=>
 (if m1c=true then some (true) else (Bj r7a.1 r8a.1).bind fun r2c=>
 some (decide (¬(r2c=true)))).bind fun m3c=>
 if m3c=true then some false else (As (⟨(⟨m0a.1,m0a.2.1⟩:Ah),m0a.2.2.1⟩:Ae) x2 5).bind fun r9a=>
 (As (⟨(⟨m0a.2.2.2.1,m0a.2.2.2.2.1⟩:Ah),m0a.2.2.2.2.2⟩:Ae) x2 5).bind fun r0b=>
 (if ¬(r9a.2=true) then some (true) else some (decide (¬(r0b.2=true)))).bind fun m4c=>
 (if m4c=true then some (true) else (Bj r9a.1 r0b.1).bind fun r5c=>
 some (decide (¬(r5c=true)))).bind fun m6c=>
 if m6c=true then some false else some true
def Bz (x0:Int):Option (Int):=
 if x0=4 then some 5 else if x0=5 then some 4 else some x0
def Cf (x0:Ae) (x1:Int):Option (Bool):=
 (DM (⟨(⟨x0.Man.Neg,(limbs x0.Man.Abs)⟩:AD),x0.Exp⟩:Al)).bind fun r0a=>
 (As x0 x1 1).bind fun r1a=>
 (Bz 1).bind fun r6b=>
 (As r0a.1 x1 r6b).bind fun r6a=>
 (DM (⟨(⟨r1a.1.Man.Neg,(limbs r1a.1.Man.Abs)⟩:AD),r1a.1.Exp⟩:Al)).bind fun r7a=>
 (if ¬(r1a.2=true) then some (true) else some (decide (¬(r6a.2=true)))).bind fun m7b=>
 (if m7b=true then some (true) else some (decide (¬r0a.2=0))).bind fun m8b=>
 (if m8b=true then some (true) else some (decide (¬r7a.2=0))).bind fun m9b=>
 (if m9b=true then some (true) else (Aq r6a.1 r7a.1).bind fun r0c=>
 some (decide (¬(r0c=true)))).bind fun m1c=>
 if m1c=true then some false else (As x0 x1 2).bind fun r2a=>
 (Bz 2).bind fun r2c=>
 (As r0a.1 x1 r2c).bind fun r8a=>
 (DM (⟨(⟨r2a.1.Man.Neg,(limbs r2a.1.Man.Abs)⟩:AD),r2a.1.Exp⟩:Al)).bind fun r9a=>
 (if ¬(r2a.2=true) then some (true) else some (decide (¬(r8a.2=true)))).bind fun m3c=>
 (if m3c=true then some (true) else some (decide (¬r0a.2=0))).bind fun m4c=>
 (if m4c=true then some (true) else some (decide (¬r9a.2=0))).bind fun m5c=>
 (if m5c=true then some (true) else (Aq r8a.1 r9a.1).bind fun r6c=>
 some (decide (¬(r6c=true)))).bind fun m7c=>
 if m7c=true then some false else (As x0 x1 3).bind fun r3a=>
 (Bz 3).bind fun r8c=>
 (As r0a.1 x1 r8c).bind fun r0b=>
 (DM (⟨(⟨r3a.1.Man.Neg,(limbs r3a.1.Man.Abs)⟩:AD),r3a.1.Exp⟩:Al)).bind fun r1b=>
 (if ¬(r3a.2=true) then some (true) else some (decide (¬(r0b.2=true)))).bind fun m9c=>
 (if m9c=true then some (true) else some (decide (¬r0a.2=0))).bind fun m0d=>
 (if m0d=true then some (true) else some (decide (¬r1b.2=0))).bind fun m1d=>
 (if m1d=true then some (true) else (Aq r0b.1 r1b.1).bind fun r2d=>
 some (decide (¬(r2d=true)))).bind fun m3d=>
 if m3d=true then some false else (As x0 x1 4).bind fun r4a=>
 (Bz 4).bind fun r4d=>
 (As r0a.1 x1 r4d).bind fun r2b=>
 (DM (⟨(⟨r4a.1.Man.Neg,(limbs r4a.1.Man.Abs)⟩:AD),r4a.1.Exp⟩:Al)).bind fun r3b=>
 (if ¬(r4a.2=true) then some (true) else some (decide (¬(r2b.2=true)))).bind fun m5d=>
 (if m5d=true then some (true) else some (decide (¬r0a.2=0))).bind fun m6d=>
 (if m6d=true then some (true) else some (decide (¬r3b.2=0))).bind fun m7d=>
 (if m7d=true then some (true) else (Aq r2b.1 r3b.1).bind fun r8d=>
 some (decide (¬(r8d=true)))).bind fun m9d=>
 if m9d=true then some false else (As x0 x1 5).bind fun r5a=>
 (Bz 5).bind fun r0e=>
 (As r0a.1 x1 r0e).bind fun r4b=>
 (DM (⟨(⟨r5a.1.Man.Neg,(limbs r5a.1.Man.Abs)⟩:AD),r5a.1.Exp⟩:Al)).bind fun r5b=>
 (if ¬(r5a.2=true) then some (true) else some (decide (¬(r4b.2=true)))).bind fun m1e=>
 (if m1e=true then some (true) else some (decide (¬r0a.2=0))).bind fun m2e=>
 (if m2e=true then some (true) else some (decide (¬r5b.2=0))).bind fun m3e=>
 (if m3e=true then some (true) else (Aq r4b.1 r5b.1).bind fun r4e=>
 some (decide (¬(r4e=true)))).bind fun m5e=>
 if m5e=true then some false else some true
def Eh (x0:Al) (x1:Al) (x2:Int):Option (Bool):=
 (Dq x0 x1).bind fun r2b=>
 (if ¬(r2b=true) then some (true) else (Es x2).bind fun r3b=>
 some (decide (¬(r3b=true)))).bind fun m4b=>
 if m4b=true then (BC).bind fun r5b=>
 some r5b else (toN x0.Man.Abs).bind fun m0a=>
 (As (⟨(⟨x0.Man.Neg,m0a⟩:Ah),x0.Exp⟩:Ae) x2 5).bind fun r1a=>
 (As (⟨(⟨x0.Man.Neg,m0a⟩:Ah),x0.Exp⟩:Ae) x2 4).bind fun r2a=>
 (As (⟨(⟨x0.Man.Neg,m0a⟩:Ah),x0.Exp⟩:Ae) x2 3).bind fun r5a=>
 (As (⟨(⟨x0.Man.Neg,m0a⟩:Ah),x0.Exp⟩:Ae) x2 1).bind fun r3a=>
 (As (⟨(⟨x0.Man.Neg,m0a⟩:Ah),x0.Exp⟩:Ae) x2 2).bind fun r4a=>
 (if ¬(r1a.2=true) then some (true) else some (decide (¬(r2a.2=true)))).bind fun m6b=>
 (if m6b=true then some (true) else some (decide (¬(r5a.2=true)))).bind fun m7b=>
 (if m7b=true then some (true) else some (decide (¬(r3a.2=true)))).bind fun m8b=>
 (if m8b=true then some (true) else some (decide (¬(r4a.2=true)))).bind fun m9b=>
 (if m9b=true then some (true) else (Bj r1a.1 (⟨(⟨x0.Man.Neg,m0a⟩:Ah),x0.Exp⟩:Ae)).bind fun r0c=>
 some (decide (¬(r0c=true)))).bind fun m1c=>
 (if m1c=true then some (true) else (Bj (⟨(⟨x0.Man.Neg,m0a⟩:Ah),x0.Exp⟩:Ae) r2a.1).bind fun r2c=>
 some (decide (¬(r2c=true)))).bind fun m3c=>
 if m3c=true then some false else (Hz x0).bind fun r9a=>
 if ¬r9a.2=0 then (BC).bind fun r4c=>
 (if r4c=true then (Aq r1a.1 (⟨(⟨x0.Man.Neg,m0a⟩:Ah),x0.Exp⟩:Ae)).bind fun r5c=>
 some (r5c) else some (false)).bind fun m6c=>
 (if m6c=true then (Aq r2a.1 (⟨(⟨x0.Man.Neg,m0a⟩:Ah),x0.Exp⟩:Ae)).bind fun r7c=>
 some (r7c) else some (false)).bind fun m8c=>
 (if m8c=true then (Aq r3a.1 (⟨(⟨x0.Man.Neg,m0a⟩:Ah),x0.Exp⟩:Ae)).bind fun r9c=>
 some (r9c) else some (false)).bind fun m0d=>
 some m0d else if (wi64 ((wi64 (r9a.1 - x0.Exp))+1))≤x2 then (BC).bind fun r1d=>
 (if r1d=true then (Aq r1a.1 (⟨(⟨x0.Man.Neg,m0a⟩:Ah),x0.Exp⟩:Ae)).bind fun r2d=>
 some (r2d) else some (false)).bind fun m3d=>
 (if m3d=true then (Aq r2a.1 (⟨(⟨x0.Man.Neg,m0a⟩:Ah),x0.Exp⟩:Ae)).bind fun r4d=>
 some (r4d) else some (false)).bind fun m5d=>
 (if m5d=true then (Aq r5a.1 (⟨(⟨x0.Man.Neg,m0a⟩:Ah),x0.Exp⟩:Ae)).bind fun r6d=>
 some (r6d) else some (false)).bind fun m7d=>
 (if m7d=true then (Aq r3a.1 (⟨(⟨x0.Man.Neg,m0a⟩:Ah),x0.Exp⟩:Ae)).bind fun r8d=>
 some (r8d) else some (false)).bind fun m9d=>
 (if m9d=true then (Aq r4a.1 (⟨(⟨x0.Man.Neg,m0a⟩:Ah),x0.Exp⟩:Ae)).bind fun r0e=>
 some (r0e) else some (false)).bind fun m1e=>
 some m1e else (AW 1 (wi64 ((wi64 (r9a.1 - x2))+1))).bind fun r0b=>
 (GN (⟨(⟨r1a.1.Man.Neg,(limbs r1a.1.Man.Abs)⟩:AD),r1a.1.Exp⟩:Al) (⟨(⟨r0b.Man.Neg,(limbs r0b.Man.Abs)⟩:AD),r0b.Exp⟩:Al)).bind fun r1b=>
 (if ¬r1b.2=0 then some (true) else (Aq r1b.1 r2a.1).bind fun r2e=>
 some (decide (¬(r2e=true)))).bind fun m3e=>
 if m3e=true then some false else (if x0.Man.Neg=true then (Aq r5a.1 r2a.1).bind fun r4e=>
 some (decide (¬(r4e=true))) else some (false)).bind fun m5e=>
 (if m5e=true then some (true) else (if ¬(x0.Man.Neg=true) then (Aq r5a.1 r1a.1).bind fun r6e=>
 some (decide (¬(r6e=true))) else some (false)).bind fun m7e=>
 some (m7e)).bind fun m8e=>
 if m8e=true then some false else (FN x0 (⟨(⟨r1a.1.Man.Neg,(limbs r1a.1.Man.Abs)⟩:AD),r1a.1.Exp⟩:Al)).bind fun r6a=>
 (FN (⟨(⟨r2a.1.Man.Neg,(limbs r2a.1.Man.Abs)⟩:AD),r2a.1.Exp⟩:Al) x0).bind fun r7a=>
 (FV (⟨(⟨r6a.1.Man.Neg,(limbs r6a.1.Man.Abs)⟩:AD),r6a.1.Exp⟩:Al) (⟨(⟨r7a.1.Man.Neg,(limbs r7a.1.Man.Abs)⟩:AD),r7a.1.Exp⟩:Al)).bind fun r8a=>
 (if ¬r6a.2=0 then some (true) else some (decide (¬r7a.2=0))).bind fun m9e=>
 (if m9e=true then some (true) else some (decide (¬r8a.2=0))).bind fun m0f=>
 if m0f=true then some false else (if r8a.1<0 then (Aq r3a.1 r1a.1).bind fun r1f=>
 (if ¬(r1f=true) then some (true) else (Aq r4a.1 r1a.1).bind fun r2f=>
 some (decide (¬(r2f=true)))).bind fun m3f=>
 some (m3f) else some (false)).bind fun m4f=>
 (if m4f=true then some (true) else (if 0<r8a.1 then (Aq r3a.1 r2a.1).bind fun r5f=>
 (if ¬(r5f=true) then some (true) else (Aq r4a.1 r2a.1).bind fun r6f=>
 some (decide (¬(r6f=true)))).bind fun m7f=>
 some (m7f) else some (false)).bind fun m8f=>
 some (m8f)).bind fun m9f=>
 if m9f=true then some false else if r8a.1=0 then (Aq r4a.1 r2a.1).bind fun r0g=>
 if r0g=x0.Man.Neg then some false else (Aq r3a.1 r2a.1).bind fun r1g=>
 if ¬(r1g=true) then (Aq r3a.1 r1a.1).bind fun r2g=>
 if ¬(r2g=true) then some false else (BC).bind fun r3g=>
 (if r3g=true then (toN x1.Man.Abs).bind fun m4g=>
 (Ch (⟨(⟨x0.Man.Neg,m0a⟩:Ah),x0.Exp⟩:Ae) (⟨(⟨x1.Man.Neg,m4g⟩:Ah),x1.Exp⟩:Ae) x2).bind fun r5g=>
 some (r5g) else some (false)).bind fun m6g=>
 (if m6g=true then (Cf (⟨(⟨x0.Man.Neg,m0a⟩:Ah),x0.Exp⟩:Ae) x2).bind fun r7g=>
 some (r7g) else some (false)).bind fun m8g=>
 some m8g else (BC).bind fun r9g=>
 (if r9g=true then (toN x1.Man.Abs).bind fun m0h=>
 (Ch (⟨(⟨x0.Man.Neg,m0a⟩:Ah),x0.Exp⟩:Ae) (⟨(⟨x1.Man.Neg,m0h⟩:Ah),x1.Exp⟩:Ae) x2).bind fun r1h=>
 some (r1h) else some (false)).bind fun m2h=>
 (if m2h=true then (Cf (⟨(⟨x0.Man.Neg,m0a⟩:Ah),x0.Exp⟩:Ae) x2).bind fun r3h=>
 some (r3h) else some (false)).bind fun m4h=>
 some m4h else (BC).bind fun r5h=>
 (if r5h=true then (toN x1.Man.Abs).bind fun m6h=>
 (Ch (⟨(⟨x0.Man.Neg,m0a⟩:Ah),x0.Exp⟩:Ae) (⟨(⟨x1.Man.Neg,m6h⟩:Ah),x1.Exp⟩:Ae) x2).bind fun r7h=>
 some (r7h) else some (false)).bind fun m8h=>
 (if m8h=true then (Cf (⟨(⟨x0.Man.Neg,m0a⟩:Ah),x0.Exp⟩:Ae) x2).bind fun r9h=>
 some (r9h) else some (false)).bind fun m0i=>
 some m0i
end Go.Proofs

