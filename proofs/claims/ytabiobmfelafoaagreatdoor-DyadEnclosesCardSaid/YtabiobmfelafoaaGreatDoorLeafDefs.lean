import Derived.Test.YtabiobmfelafoaaGreatDoorLeafLib
namespace Go.Proofs.Lf
set_option linter.unusedVariables false
set_option linter.unusedSimpArgs false
set_option maxHeartbeats 4000000
open Go.RowKit Go.Sb Go.Proofs Go.Proofs.Sbn
open Go.Proofs.Tryz
structure EX where
 Q:List Int
 R:List Int
theorem Av:Ep prog 179 1=true:=by kernel_rfl
theorem AZ:Mu prog 179=true:=by kernel_rfl
theorem AN:prog.underlying 148=some (.int .u64):=by kernel_rfl
theorem AQ:prog.underlying 179=some (.int .u32):=by kernel_rfl
theorem Jr:Ik prog 179 [.int .u32 0]:=FP (by kernel_rfl)
theorem Lm:Ent prog 236:=ent func236 (by kernel_rfl) rfl
theorem Qn:Ent prog 235:=ent func235 (by kernel_rfl) rfl
theorem en_245:Ent prog 245:=ent func245 (by kernel_rfl) rfl
theorem mo:prog.follows .mixedOrders=true:=by kernel_rfl
theorem Qb:Ent prog 201:=ent func201 (by kernel_rfl) rfl
theorem en_265:Ent prog 265:=ent func265 (by kernel_rfl) rfl
theorem NX:Ent prog 205:=ent func205 (by kernel_rfl) rfl
theorem en_237:Ent prog 237:=ent func237 (by kernel_rfl) rfl
theorem Ko:Ent prog 185:=ent func185 (by kernel_rfl) rfl
theorem en_238:Ent prog 238:=ent func238 (by kernel_rfl) rfl
theorem Oa:Ent prog 204:=ent func204 (by kernel_rfl) rfl
theorem Qj:Ent prog 197:=ent func197 (by kernel_rfl) rfl
theorem RV:Ent prog 210:=ent func210 (by kernel_rfl) rfl
theorem Qr:Ent prog 128:=ent func128 (by kernel_rfl) rfl
theorem PX:Ent prog 179:=ent func179 (by kernel_rfl) rfl
theorem Su:Ent prog 154:=ent func154 (by kernel_rfl) rfl
def Kz (w:World) (r:List Int) (v:Value):Prop:=∃(A1:Option Addr) (c1:Nat),v = .slice A1 r.length c1∧RLu w A1 c1 r
def MP (w:World) (r:List Int × List Int) (v:Value):Prop:=∃(A1:Option Addr) (c1:Nat) (A2:Option Addr) (c2:Nat),v = .tuple #[.slice A1 r.1.length c1,.slice A2 r.2.length c2]∧RLu w A1 c1 r.1∧RLu w A2 c2 r.2
def QX (_w:World) (r:Int) (v:Value):Prop:=v = .int .u32 r
def Gi (_w:World) (r:Bool) (v:Value):Prop:=v = .bool r
def MY (_w:World) (r:Int) (v:Value):Prop:=v = .int .u64 r
def OP (w:World) (r:List Int) (v:Value):Prop:=∃(A1:Option Addr) (c1:Nat),v = .slice A1 r.length c1∧RLu w A1 c1 r
def Db (x0:List Int):Nat→List Int→Option (List Int)
 | 0,_=>none
 | n1a+1,v0a=>
 (if 0<(v0a.length:Int) then (nth v0a (wi64 ((v0a.length:Int) - 1))).bind fun u2a=>
 some (decide (u2a=0)) else some (false)).bind fun m3a=>
 if m3a=true then (gd (0≤(0:Int)∧(0:Int)≤(wi64 ((v0a.length:Int) - 1))∧(wi64 ((v0a.length:Int) - 1))≤(v0a.length:Int))).bind fun _=>
 Db x0 n1a ((List.drop 0 v0a).take ((((wi64 ((v0a.length:Int) - 1)):Int).toNat) - 0)) else some (v0a)
def BG (x0:List Int):Option (List Int):=
 (Db x0 18446744073709551616 x0).bind fun m0a=>
 some m0a
def La (x0:Int):Option (List Int):=
 (BG ([(wu32 x0),(wu32 (x0.fdiv (2^min (32:Int).toNat IntKind.u64.bits)))]:List Int)).bind fun r8=>
 some r8
def Bu (x0:List Int):Option (Int):=
 if (x0.length:Int)=0 then some 0 else (nth x0 (wi64 ((x0.length:Int) - 1))).bind fun u0a=>
 (Bf u0a).bind fun r1a=>
 some (wi64 ((wi64 (32*(x0.length:Int))) - r1a))
def Dq (x0:List Int):Nat→Int→Option (Int)
 | 0,_=>none
 | n1a+1,v0a=>
 (if v0a<(x0.length:Int) then (nth x0 v0a).bind fun u2a=>
 some (decide (u2a=0)) else some (false)).bind fun m3a=>
 if m3a=true then Dq x0 n1a (wi64 (v0a+1)) else some (v0a)
def CS (x0:List Int):Option (Int):=
 (Dq x0 18446744073709551616 0).bind fun m0a=>
 if m0a=(x0.length:Int) then some 0 else (nth x0 m0a).bind fun u1a=>
 (Ey u1a).bind fun r2a=>
 some (wi64 ((wi64 (32*m0a))+r2a))
def EY (x0:List Int) (x1:List Int):Nat→Int→Option (Int)
 | 0,_=>none
 | n1a+1,v0a=>
 if 0≤v0a then (nth x0 v0a).bind fun u2a=>
 (nth x1 v0a).bind fun u3a=>
 if ¬u2a=u3a then (nth x0 v0a).bind fun u4a=>
 (nth x1 v0a).bind fun u5a=>
 if u4a<u5a then some (-1) else some 1 else EY x0 x1 n1a (wi64 (v0a - 1)) else some 0
def Cv (x0:List Int) (x1:List Int):Option (Int):=
 if ¬(x0.length:Int)=(x1.length:Int) then some (wi64 ((x0.length:Int) - (x1.length:Int))) else EY x0 x1 18446744073709551616 (wi64 ((x0.length:Int) - 1))
def DB (x0:List Int) (x1:List Int) (m0a:List Int × List Int):Nat→Int→Int→List Int→Option (Int × List Int)
 | 0,_,_,_=>none
 | n6a+1,v2a,v1a,v3a=>
 if v1a<(m0a.1.length:Int) then (nth m0a.1 v1a).bind fun u5a=>
 (if v1a<(m0a.2.length:Int) then (nth m0a.2 v1a).bind fun u7a=>
 some (wu64 ((wu64 (v2a+(wu64 u5a)))+(wu64 u7a))) else some (wu64 (v2a+(wu64 u5a)))).bind fun m4a=>
 (gd (List.length v3a+List.length ([(wu32 m4a)]:List Int)≤35184372088832)).bind fun _=>
 DB x0 x1 m0a n6a (m4a.fdiv (2^min (32:Int).toNat IntKind.u64.bits)) (wi64 (v1a+1)) (v3a++([(wu32 m4a)]:List Int)) else some (v2a,v3a)
def CJ (x0:List Int) (x1:List Int):Option (List Int):=
 (if (x0.length:Int)<(x1.length:Int) then some (x1,x0) else some (x0,x1)).bind fun m1a=>
 (gd (0≤(0:Int)∧(0:Int)≤((wi64 ((m1a.1.length:Int)+1)):Int)∧((wi64 ((m1a.1.length:Int)+1)):Int)≤70368744177664)).bind fun _=>
 (DB x0 x1 m1a 18446744073709551616 0 0 (List.replicate (0:Int).toNat (0:Int))).bind fun m0a=>
 (gd (List.length m0a.2+List.length ([(wu32 m0a.1)]:List Int)≤35184372088832)).bind fun _=>
 (BG (m0a.2++([(wu32 m0a.1)]:List Int))).bind fun r2a=>
 some r2a
def Eu (x0:List Int) (x1:List Int) (r9:List Int):Nat→Int→Int→List Int→Option (List Int)
 | 0,_,_,_=>none
 | n5a+1,v2a,v0a,v1a=>
 if v0a<((r9.length:Nat):Int) then (if v0a<(x1.length:Int) then (nth x1 v0a).bind fun u6a=>
 some (wu64 (v2a+(wu64 u6a))) else some (v2a)).bind fun m3a=>
 (nth v1a v0a).bind fun u4a=>
 (nth v1a v0a).bind fun u8a=>
 (if (wu64 u4a)<m3a then some (1) else some (0)).bind fun m7a=>
 Eu x0 x1 r9 n5a m7a (wi64 (v0a+1)) (List.set v1a (v0a:Int).toNat (wu32 (wu64 ((wu64 u4a) - m3a)))) else some (v1a)
def Ch (x0:List Int) (x1:List Int):Option (List Int):=
 (DF x0).bind fun r9=>
 (Eu x0 x1 r9 18446744073709551616 0 0 r9).bind fun m0a=>
 (BG m0a).bind fun r1a=>
 some r1a
def CU (x0:List Int) (x1:List Int) (v1a:Int) (u3a:Int):Nat→Int→Int→List Int→Option (Int × List Int)
 | 0,_,_,_=>none
 | n7a+1,v4a,v0a,v2a=>
 if v0a<(x1.length:Int) then (nth x1 v0a).bind fun u5a=>
 (nth v2a (wi64 (v1a+v0a))).bind fun u6a=>
 (nth v2a (wi64 (v1a+v0a))).bind fun u8a=>
 CU x0 x1 v1a u3a n7a ((wu64 (v4a+(wu64 ((wu64 ((wu64 u3a)*(wu64 u5a)))+(wu64 u6a))))).fdiv (2^min (32:Int).toNat IntKind.u64.bits)) (wi64 (v0a+1)) (List.set v2a ((wi64 (v1a+v0a)):Int).toNat (wu32 (wu64 (v4a+(wu64 ((wu64 ((wu64 u3a)*(wu64 u5a)))+(wu64 u6a))))))) else some (v4a,v2a)
def Cw (x0:List Int) (x1:List Int):Nat→Int→List Int→Option (List Int)
 | 0,_,_=>none
 | n3a+1,v0a,v2a=>
 if v0a<(x0.length:Int) then ((nth x0 v0a).bind fun u4a=>
 (CU x0 x1 v0a u4a 18446744073709551616 0 0 v2a).bind fun m1a=>
 (nth m1a.2 (wi64 (v0a+(x1.length:Int)))).bind fun u6a=>
 some (List.set m1a.2 ((wi64 (v0a+(x1.length:Int))):Int).toNat (wu32 m1a.1))).bind fun m5a=>
 Cw x0 x1 n3a (wi64 (v0a+1)) m5a else some (v2a)
def Ds (x0:List Int) (x1:List Int):Option (List Int):=
 (gd (0≤((wi64 ((x0.length:Int)+(x1.length:Int))):Int)∧((wi64 ((x0.length:Int)+(x1.length:Int))):Int)≤((wi64 ((x0.length:Int)+(x1.length:Int))):Int)∧((wi64 ((x0.length:Int)+(x1.length:Int))):Int)≤70368744177664)).bind fun _=>
 (Cw x0 x1 18446744073709551616 0 (List.replicate ((wi64 ((x0.length:Int)+(x1.length:Int))):Int).toNat (0:Int))).bind fun m0a=>
 (BG m0a).bind fun r1a=>
 some r1a
def Ce (x0:List Int) (x1:Int):Nat→Int→Int→List Int→Option (Int × List Int)
 | 0,_,_,_=>none
 | n4a+1,v0a,v1a,v2a=>
 if v1a<(x0.length:Int) then (nth x0 v1a).bind fun u3a=>
 (gd (0≤(x1.tmod 32))).bind fun _=>
 (gd (List.length v2a+List.length ([(wu32 (bor .u64 v0a (wu64 ((wu64 u3a)*2^min ((x1.tmod 32):Int).toNat IntKind.u64.bits))))]:List Int)≤35184372088832)).bind fun _=>
 Ce x0 x1 n4a ((bor .u64 v0a (wu64 ((wu64 u3a)*2^min ((x1.tmod 32):Int).toNat IntKind.u64.bits))).fdiv (2^min (32:Int).toNat IntKind.u64.bits)) (wi64 (v1a+1)) (v2a++([(wu32 (bor .u64 v0a (wu64 ((wu64 u3a)*2^min ((x1.tmod 32):Int).toNat IntKind.u64.bits))))]:List Int)) else some (v0a,v2a)
def Bq (x0:List Int) (x1:Int):Option (List Int):=
 if (x0.length:Int)=0 then some ([]:List Int) else (gd (0≤((wi64 (x1.tdiv 32)):Int)∧((wi64 (x1.tdiv 32)):Int)≤((wi64 ((wi64 ((wi64 (x1.tdiv 32))+(x0.length:Int)))+1)):Int)∧((wi64 ((wi64 ((wi64 (x1.tdiv 32))+(x0.length:Int)))+1)):Int)≤70368744177664)).bind fun _=>
 (Ce x0 x1 18446744073709551616 0 0 (List.replicate ((wi64 (x1.tdiv 32)):Int).toNat (0:Int))).bind fun m0a=>
 (gd (List.length m0a.2+List.length ([(wu32 m0a.1)]:List Int)≤35184372088832)).bind fun _=>
 (BG (m0a.2++([(wu32 m0a.1)]:List Int))).bind fun r1a=>
 some r1a
def Ek (x0:List Int) (x1:Int):Nat→Int→List Int→Option (List Int)
 | 0,_,_=>none
 | n3a+1,v0a,v1a=>
 if v0a<(List.length ((List.drop (((wi64 (x1.tdiv 32)):Int).toNat) x0).take (x0.length - (((wi64 (x1.tdiv 32)):Int).toNat))):Int) then (nth ((List.drop (((wi64 (x1.tdiv 32)):Int).toNat) x0).take (x0.length - (((wi64 (x1.tdiv 32)):Int).toNat))) v0a).bind fun u2a=>
 (gd (0≤(x1.tmod 32))).bind fun _=>
 (nth v1a v0a).bind fun u8a=>
 (if (wi64 (v0a+1))<(List.length ((List.drop (((wi64 (x1.tdiv 32)):Int).toNat) x0).take (x0.length - (((wi64 (x1.tdiv 32)):Int).toNat))):Int) then some (decide (0<(x1.tmod 32))) else some (false)).bind fun m4a=>
 (if m4a=true then (nth (List.set v1a (v0a:Int).toNat (u2a.fdiv (2^min ((x1.tmod 32):Int).toNat IntKind.u32.bits))) v0a).bind fun u5a=>
 (nth ((List.drop (((wi64 (x1.tdiv 32)):Int).toNat) x0).take (x0.length - (((wi64 (x1.tdiv 32)):Int).toNat))) (wi64 (v0a+1))).bind fun u6a=>
 (gd (0≤(wi64 (32 - (x1.tmod 32))))).bind fun _=>
 (nth (List.set v1a (v0a:Int).toNat (u2a.fdiv (2^min ((x1.tmod 32):Int).toNat IntKind.u32.bits))) v0a).bind fun u9a=>
 some (List.set (List.set v1a (v0a:Int).toNat (u2a.fdiv (2^min ((x1.tmod 32):Int).toNat IntKind.u32.bits))) (v0a:Int).toNat (bor .u32 u5a (wu32 (u6a*2^min ((wi64 (32 - (x1.tmod 32))):Int).toNat IntKind.u32.bits)))) else some (List.set v1a (v0a:Int).toNat (u2a.fdiv (2^min ((x1.tmod 32):Int).toNat IntKind.u32.bits)))).bind fun m7a=>
 Ek x0 x1 n3a (wi64 (v0a+1)) m7a else some (v1a)
def Ct (x0:List Int) (x1:Int):Option (List Int):=
 if (x0.length:Int)≤(wi64 (x1.tdiv 32)) then some ([]:List Int) else (gd (0≤((wi64 (x1.tdiv 32)):Int)∧((wi64 (x1.tdiv 32)):Int)≤(x0.length:Int)∧(x0.length:Int)≤(x0.length:Int))).bind fun _=>
 (gd (0≤((List.length ((List.drop (((wi64 (x1.tdiv 32)):Int).toNat) x0).take (x0.length - (((wi64 (x1.tdiv 32)):Int).toNat))):Int):Int)∧((List.length ((List.drop (((wi64 (x1.tdiv 32)):Int).toNat) x0).take (x0.length - (((wi64 (x1.tdiv 32)):Int).toNat))):Int):Int)≤((List.length ((List.drop (((wi64 (x1.tdiv 32)):Int).toNat) x0).take (x0.length - (((wi64 (x1.tdiv 32)):Int).toNat))):Int):Int)∧((List.length ((List.drop (((wi64 (x1.tdiv 32)):Int).toNat) x0).take (x0.length - (((wi64 (x1.tdiv 32)):Int).toNat))):Int):Int)≤70368744177664)).bind fun _=>
 (Ek x0 x1 18446744073709551616 0 (List.replicate ((List.length ((List.drop (((wi64 (x1.tdiv 32)):Int).toNat) x0).take (x0.length - (((wi64 (x1.tdiv 32)):Int).toNat))):Int):Int).toNat (0:Int))).bind fun m0a=>
 (BG m0a).bind fun r1a=>
 some r1a
def BU (x0:List Int) (x1:Int):Nat→Int→Int→List Int→Option (Int × List Int)
 | 0,_,_,_=>none
 | n4a+1,v1a,v0a,v2a=>
 if 0≤v0a then (nth x0 v0a).bind fun u3a=>
 (gd ((wu64 x1)≠0)).bind fun _=>
 (gd ((wu64 x1)≠0)).bind fun _=>
 (nth v2a v0a).bind fun u5a=>
 BU x0 x1 n4a ((bor .u64 (wu64 (v1a*2^min (32:Int).toNat IntKind.u64.bits)) (wu64 u3a)).tmod (wu64 x1)) (wi64 (v0a - 1)) (List.set v2a (v0a:Int).toNat (wu32 (wu64 ((bor .u64 (wu64 (v1a*2^min (32:Int).toNat IntKind.u64.bits)) (wu64 u3a)).tdiv (wu64 x1))))) else some (v1a,v2a)
def GY (x0:List Int) (x1:Int):Option (List Int × List Int):=
 (gd (0≤((x0.length:Int):Int)∧((x0.length:Int):Int)≤((x0.length:Int):Int)∧((x0.length:Int):Int)≤70368744177664)).bind fun _=>
 (BU x0 x1 18446744073709551616 0 (wi64 ((x0.length:Int) - 1)) (List.replicate ((x0.length:Int):Int).toNat (0:Int))).bind fun m0a=>
 (BG m0a.2).bind fun r1a=>
 (La m0a.1).bind fun r2a=>
 some (r1a,r2a)
def Gn (x0:List Int) (x1:List Int):Nat→Int→Int→Option (Int)
 | 0,_,_=>none
 | n3a+1,v0a,v1a=>
 (if 4294967296≤v0a then some (true) else (nth x1 (wi64 ((x1.length:Int) - 2))).bind fun u4a=>
 (nth x0 (wi64 ((x1.length:Int) - 2))).bind fun u5a=>
 some (decide ((bor .u64 (wu64 (v1a*2^min (32:Int).toNat IntKind.u64.bits)) (wu64 u5a))<(wu64 (v0a*(wu64 u4a)))))).bind fun m6a=>
 if m6a=true then (nth x1 (wi64 ((x1.length:Int) - 1))).bind fun u2a=>
 if 4294967296≤(wu64 (v1a+(wu64 u2a))) then some (wu64 (v0a - 1)) else Gn x0 x1 n3a (wu64 (v0a - 1)) (wu64 (v1a+(wu64 u2a))) else some (v0a)
def Fw (x0:List Int) (x1:List Int) (m2a:Int):Nat→Int→Int→Int→List Int→Option (Int × Int × List Int)
 | 0,_,_,_,_=>none
 | n6a+1,v4a,v3a,v0a,v1a=>
 if v0a<(x1.length:Int) then (nth x1 v0a).bind fun u5a=>
 (nth v1a v0a).bind fun u7a=>
 (if (wu64 u7a)<(wu64 ((wu64 (wu32 (wu64 (v3a+(wu64 (m2a*(wu64 u5a)))))))+v4a)) then some (1) else some (0)).bind fun m8a=>
 (nth v1a v0a).bind fun u9a=>
 (nth v1a v0a).bind fun u0b=>
 Fw x0 x1 m2a n6a m8a ((wu64 (v3a+(wu64 (m2a*(wu64 u5a))))).fdiv (2^min (32:Int).toNat IntKind.u64.bits)) (wi64 (v0a+1)) (List.set v1a (v0a:Int).toNat (wu32 (u9a - (wu32 (wu64 ((wu64 (wu32 (wu64 (v3a+(wu64 (m2a*(wu64 u5a)))))))+v4a)))))) else some (v4a,v3a,v1a)
def Fs (x0:List Int) (x1:List Int):Nat→Int→Int→List Int→Option (Int × List Int)
 | 0,_,_,_=>none
 | n5a+1,v2a,v0a,v1a=>
 if v0a<(x1.length:Int) then (nth x1 v0a).bind fun u3a=>
 (nth v1a v0a).bind fun u4a=>
 (nth v1a v0a).bind fun u6a=>
 Fs x0 x1 n5a ((wu64 (v2a+(wu64 ((wu64 u4a)+(wu64 u3a))))).fdiv (2^min (32:Int).toNat IntKind.u64.bits)) (wi64 (v0a+1)) (List.set v1a (v0a:Int).toNat (wu32 (wu64 (v2a+(wu64 ((wu64 u4a)+(wu64 u3a))))))) else some (v2a,v1a)
def Jf (x0:List Int) (x1:List Int):Option ((Int) × List Int):=
 (nth x0 (x1.length:Int)).bind fun u3a=>
 (nth x0 (wi64 ((x1.length:Int) - 1))).bind fun u4a=>
 (nth x1 (wi64 ((x1.length:Int) - 1))).bind fun u5a=>
 (gd ((wu64 u5a)≠0)).bind fun _=>
 (nth x1 (wi64 ((x1.length:Int) - 1))).bind fun u6a=>
 (gd ((wu64 u6a)≠0)).bind fun _=>
 (Gn x0 x1 18446744073709551616 (wu64 ((bor .u64 (wu64 ((wu64 u3a)*2^min (32:Int).toNat IntKind.u64.bits)) (wu64 u4a)).tdiv (wu64 u5a))) ((bor .u64 (wu64 ((wu64 u3a)*2^min (32:Int).toNat IntKind.u64.bits)) (wu64 u4a)).tmod (wu64 u6a))).bind fun m2a=>
 (Fw x0 x1 m2a 18446744073709551616 0 0 0 x0).bind fun m0a=>
 (nth m0a.2.2 (x1.length:Int)).bind fun u9a=>
 (nth m0a.2.2 (x1.length:Int)).bind fun u7a=>
 (nth m0a.2.2 (x1.length:Int)).bind fun u1b=>
 (if (wu64 u9a)<(wu64 (m0a.2.1+m0a.1)) then (Fs x0 x1 18446744073709551616 0 0 (List.set m0a.2.2 ((x1.length:Int):Int).toNat (wu32 (u7a - (wu32 (wu64 (m0a.2.1+m0a.1))))))).bind fun m1a=>
 (nth m1a.2 (x1.length:Int)).bind fun u0b=>
 (nth m1a.2 (x1.length:Int)).bind fun u2b=>
 some ((wu64 (m2a - 1)),m1a.1,(List.set m1a.2 ((x1.length:Int):Int).toNat (wu32 (u0b+(wu32 m1a.1))))) else some (m2a,m0a.2.1,(List.set m0a.2.2 ((x1.length:Int):Int).toNat (wu32 (u7a - (wu32 (wu64 (m0a.2.1+m0a.1)))))))).bind fun m8a=>
 some ((wu32 m8a.1),m8a.2.2)
def Fh (x0:List Int) (x1:List Int) (r1a:List Int):Nat→Int→List Int→List Int→Option (List Int × List Int)
 | 0,_,_,_=>none
 | n5a+1,v0a,v3a,v2a=>
 if 0≤v0a then (gd (0≤(v0a:Int)∧(v0a:Int)<(wi64 ((wi64 (v0a+(r1a.length:Int)))+1))∧(wi64 ((wi64 (v0a+(r1a.length:Int)))+1))≤(v2a.length:Int))).bind fun _=>
 (Jf ((List.drop ((v0a:Int).toNat) v2a).take ((((wi64 ((wi64 (v0a+(r1a.length:Int)))+1)):Int).toNat) - ((v0a:Int).toNat))) r1a).bind fun r4a=>
 (nth v3a v0a).bind fun u6a=>
 Fh x0 x1 r1a n5a (wi64 (v0a - 1)) (List.set v3a (v0a:Int).toNat r4a.1) (((v2a).take ((v0a:Int).toNat))++r4a.2++((v2a).drop (((wi64 ((wi64 (v0a+(r1a.length:Int)))+1)):Int).toNat))) else some (v3a,v2a)
def Dp (x0:List Int) (x1:List Int):Option (List Int × List Int):=
 (Cv x0 x1).bind fun r5a=>
 if r5a<0 then some (([]:List Int),x0) else if (x1.length:Int)=1 then (nth x1 0).bind fun u6a=>
 (GY x0 u6a).bind fun r3a=>
 some (r3a.1,r3a.2) else (nth x1 (wi64 ((x1.length:Int) - 1))).bind fun u7a=>
 (Bf u7a).bind fun r1a=>
 (Bq x1 r1a).bind fun r0a=>
 (gd (0≤((wi64 ((x0.length:Int)+1)):Int)∧((wi64 ((x0.length:Int)+1)):Int)≤((wi64 ((x0.length:Int)+1)):Int)∧((wi64 ((x0.length:Int)+1)):Int)≤70368744177664)).bind fun _=>
 (Bq x0 r1a).bind fun r4a=>
 (gd (0≤((wi64 ((((((wi64 ((x0.length:Int)+1)):Int).toNat):Nat):Int) - (r0a.length:Int))):Int)∧((wi64 ((((((wi64 ((x0.length:Int)+1)):Int).toNat):Nat):Int) - (r0a.length:Int))):Int)≤((wi64 ((((((wi64 ((x0.length:Int)+1)):Int).toNat):Nat):Int) - (r0a.length:Int))):Int)∧((wi64 ((((((wi64 ((x0.length:Int)+1)):Int).toNat):Nat):Int) - (r0a.length:Int))):Int)≤70368744177664)).bind fun _=>
 (Fh x0 x1 r0a 18446744073709551616 (wi64 ((wi64 ((((((wi64 ((x0.length:Int)+1)):Int).toNat):Nat):Int) - (r0a.length:Int))) - 1)) (List.replicate ((wi64 ((((((wi64 ((x0.length:Int)+1)):Int).toNat):Nat):Int) - (r0a.length:Int))):Int).toNat (0:Int)) ((r4a).take (List.length (List.replicate ((wi64 ((x0.length:Int)+1)):Int).toNat (0:Int)))++(List.replicate ((wi64 ((x0.length:Int)+1)):Int).toNat (0:Int)).drop r4a.length)).bind fun m2a=>
 (gd (0≤(0:Int)∧(0:Int)≤(r0a.length:Int)∧(r0a.length:Int)≤(m2a.2.length:Int))).bind fun _=>
 (BG m2a.1).bind fun r8a=>
 (BG ((List.drop 0 m2a.2).take ((((r0a.length:Int):Int).toNat) - 0))).bind fun r9a=>
 (Ct r9a r1a).bind fun r0b=>
 some (r8a,r0b)
def Bw (x0:List Int):Option (Bool):=
 (if (x0.length:Int)≤1024 then (if (x0.length:Int)=0 then some (true) else (nth x0 (wi64 ((x0.length:Int) - 1))).bind fun u0a=>
 some (decide (¬u0a=0))).bind fun m1a=>
 some (m1a) else some (false)).bind fun m2a=>
 some m2a
def Bi (x0:List Int) (x1:Int):Option (Int):=
 if (x0.length:Int)≤x1 then some 0 else (nth x0 x1).bind fun u0a=>
 some (wu64 u0a)
def BV (x0:List Int) (x1:Int):Option (Int):=
 (Bi x0 (wi64 (x1.tdiv 32))).bind fun r6=>
 (gd (0≤(x1.tmod 32))).bind fun _=>
 some ((r6.fdiv (2^min ((x1.tmod 32):Int).toNat IntKind.u64.bits)).tmod 2)
def Cm (x0:List Int) (x1:List Int):Nat→Int→Option (Bool)
 | 0,_=>none
 | n1a+1,v0a=>
 if v0a<(x0.length:Int) then (nth x0 v0a).bind fun u2a=>
 (nth x1 v0a).bind fun u3a=>
 if ¬u2a=u3a then some false else Cm x0 x1 n1a (wi64 (v0a+1)) else some true
def Ca (x0:List Int) (x1:List Int):Option (Bool):=
 if ¬(x0.length:Int)=(x1.length:Int) then some false else Cm x0 x1 18446744073709551616 0
def BX (x0:List Int):Nat→Int→Option (Int)
 | 0,_=>none
 | n1a+1,v0a=>
 (if 0<v0a then (nth x0 (wi64 (v0a - 1))).bind fun u2a=>
 some (decide (u2a=0)) else some (false)).bind fun m3a=>
 if m3a=true then BX x0 n1a (wi64 (v0a - 1)) else some (v0a)
def Bk (x0:List Int):Option (List Int):=
 (BX x0 18446744073709551616 (x0.length:Int)).bind fun m0a=>
 (gd (0≤(0:Int)∧(0:Int)≤m0a∧m0a≤(x0.length:Int))).bind fun _=>
 (gd (List.length ([]:List Int)+List.length ((List.drop 0 x0).take (((m0a:Int).toNat) - 0))≤35184372088832)).bind fun _=>
 some (([]:List Int)++((List.drop 0 x0).take (((m0a:Int).toNat) - 0)))
def CA (x0:Int):Option (List Int):=
 (Bk ([(wu32 x0),(wu32 (x0.fdiv (2^min (32:Int).toNat IntKind.u64.bits)))]:List Int)).bind fun r8=>
 some r8
def Fx (x0:List Int) (x1:List Int):Nat→Int→Option (Int)
 | 0,_=>none
 | n1a+1,v0a=>
 if 0≤v0a then (Bi x0 v0a).bind fun r2a=>
 (Bi x1 v0a).bind fun r3a=>
 if r2a<r3a then some (-1) else (Bi x0 v0a).bind fun r4a=>
 (Bi x1 v0a).bind fun r5a=>
 if r5a<r4a then some 1 else Fx x0 x1 n1a (wi64 (v0a - 1)) else some 0
def Ee (x0:List Int) (x1:List Int):Option (Int):=
 Fx x0 x1 18446744073709551616 (wi64 ((max (x0.length:Int) (x1.length:Int)) - 1))
def Gu (x0:List Int):Nat→Int→Int→Option (Int)
 | 0,_,_=>none
 | n2a+1,v0a,v1a=>
 if 0<v1a then Gu x0 n2a (wi64 (v0a+1)) (wu32 (v1a.tdiv 2)) else some (v0a)
def BZ (x0:List Int):Option (Int):=
 if (x0.length:Int)=0 then some 0 else (nth x0 (wi64 ((x0.length:Int) - 1))).bind fun u0a=>
 (Gu x0 18446744073709551616 (wi64 (32*(wi64 ((x0.length:Int) - 1)))) u0a).bind fun m1a=>
 some m1a
def BL (x0:List Int):Nat→Int→Option (Int)
 | 0,_=>none
 | n1a+1,v0a=>
 (if 0<(x0.length:Int) then (BV x0 v0a).bind fun r2a=>
 some (decide (r2a=0)) else some (false)).bind fun m3a=>
 if m3a=true then BL x0 n1a (wi64 (v0a+1)) else some (v0a)
def BO (x0:List Int):Option (Int):=
 (BL x0 18446744073709551616 0).bind fun m0a=>
 some m0a
def Ew (x0:List Int) (x1:List Int):Nat→Int→Int→List Int→Option (List Int)
 | 0,_,_,_=>none
 | n5a+1,v1a,v0a,v2a=>
 if v0a≤(max (x0.length:Int) (x1.length:Int)) then (Bi x0 v0a).bind fun r3a=>
 (Bi x1 v0a).bind fun r4a=>
 (gd (List.length v2a+List.length ([(wu32 (wu64 ((wu64 (r3a+r4a))+v1a)))]:List Int)≤35184372088832)).bind fun _=>
 Ew x0 x1 n5a ((wu64 ((wu64 (r3a+r4a))+v1a)).fdiv (2^min (32:Int).toNat IntKind.u64.bits)) (wi64 (v0a+1)) (v2a++([(wu32 (wu64 ((wu64 (r3a+r4a))+v1a)))]:List Int)) else some (v2a)
def Ef (x0:List Int) (x1:List Int):Option (List Int):=
 (Ew x0 x1 18446744073709551616 0 0 ([]:List Int)).bind fun m0a=>
 (Bk m0a).bind fun r1a=>
 some r1a
def Dz (x0:List Int) (x1:Int):Nat→Int→Int→List Int→Option (Int × List Int)
 | 0,_,_,_=>none
 | n4a+1,v1a,v0a,v2a=>
 if 0≤v0a then (nth x0 v0a).bind fun u3a=>
 (gd ((wu64 x1)≠0)).bind fun _=>
 (nth v2a v0a).bind fun u5a=>
 (gd ((wu64 x1)≠0)).bind fun _=>
 Dz x0 x1 n4a ((wu64 ((wu64 (v1a*2^min (32:Int).toNat IntKind.u64.bits))+(wu64 u3a))).tmod (wu64 x1)) (wi64 (v0a - 1)) (List.set v2a (v0a:Int).toNat (wu32 (wu64 ((wu64 ((wu64 (v1a*2^min (32:Int).toNat IntKind.u64.bits))+(wu64 u3a))).tdiv (wu64 x1))))) else some (v1a,v2a)
def HZ (x0:List Int) (x1:Int):Option (EX):=
 (gd (0≤((x0.length:Int):Int)∧((x0.length:Int):Int)≤((x0.length:Int):Int)∧((x0.length:Int):Int)≤70368744177664)).bind fun _=>
 (Dz x0 x1 18446744073709551616 0 (wi64 ((x0.length:Int) - 1)) (List.replicate ((x0.length:Int):Int).toNat (0:Int))).bind fun m0a=>
 (Bk m0a.2).bind fun r1a=>
 (CA m0a.1).bind fun r2a=>
 some (⟨r1a,r2a⟩:EX)
def CB (x0:List Int) (x1:Int):Nat→Int→Int→List Int→Option (Int × List Int)
 | 0,_,_,_=>none
 | n4a+1,v0a,v1a,v2a=>
 if v1a<(x0.length:Int) then (nth x0 v1a).bind fun u3a=>
 (gd (0≤(x1.tmod 32))).bind fun _=>
 (gd (List.length v2a+List.length ([(wu32 (wu64 ((wu64 ((wu64 u3a)*2^min ((x1.tmod 32):Int).toNat IntKind.u64.bits))+v0a)))]:List Int)≤35184372088832)).bind fun _=>
 CB x0 x1 n4a ((wu64 ((wu64 ((wu64 u3a)*2^min ((x1.tmod 32):Int).toNat IntKind.u64.bits))+v0a)).fdiv (2^min (32:Int).toNat IntKind.u64.bits)) (wi64 (v1a+1)) (v2a++([(wu32 (wu64 ((wu64 ((wu64 u3a)*2^min ((x1.tmod 32):Int).toNat IntKind.u64.bits))+v0a)))]:List Int)) else some (v0a,v2a)
def Gr (x0:List Int) (x1:Int):Option (List Int):=
 if (x0.length:Int)=0 then some x0 else (gd (0≤((wi64 (x1.tdiv 32)):Int)∧((wi64 (x1.tdiv 32)):Int)≤((wi64 ((wi64 ((wi64 (x1.tdiv 32))+(x0.length:Int)))+1)):Int)∧((wi64 ((wi64 ((wi64 (x1.tdiv 32))+(x0.length:Int)))+1)):Int)≤70368744177664)).bind fun _=>
 (CB x0 x1 18446744073709551616 0 0 (List.replicate ((wi64 (x1.tdiv 32)):Int).toNat (0:Int))).bind fun m0a=>
 (gd (List.length m0a.2+List.length ([(wu32 m0a.1)]:List Int)≤35184372088832)).bind fun _=>
 (Bk (m0a.2++([(wu32 m0a.1)]:List Int))).bind fun r1a=>
 some r1a
def Dm (x0:List Int) (x1:Int):Nat→Int→List Int→Option (List Int)
 | 0,_,_=>none
 | n4a+1,v0a,v1a=>
 if v0a<(x0.length:Int) then (Bi x0 (wi64 (v0a+1))).bind fun r2a=>
 (Bi x0 v0a).bind fun r3a=>
 (gd (0≤(x1.tmod 32))).bind fun _=>
 (gd (List.length v1a+List.length ([(wu32 ((wu64 ((wu64 (r2a*2^min (32:Int).toNat IntKind.u64.bits))+r3a)).fdiv (2^min ((x1.tmod 32):Int).toNat IntKind.u64.bits)))]:List Int)≤35184372088832)).bind fun _=>
 Dm x0 x1 n4a (wi64 (v0a+1)) (v1a++([(wu32 ((wu64 ((wu64 (r2a*2^min (32:Int).toNat IntKind.u64.bits))+r3a)).fdiv (2^min ((x1.tmod 32):Int).toNat IntKind.u64.bits)))]:List Int)) else some (v1a)
def BW (x0:List Int) (x1:Int):Option (List Int):=
 if (x0.length:Int)≤(wi64 (x1.tdiv 32)) then some ([]:List Int) else (Dm x0 x1 18446744073709551616 (wi64 (x1.tdiv 32)) ([]:List Int)).bind fun m0a=>
 (Bk m0a).bind fun r1a=>
 some r1a
def FH (x0:List Int):Nat→Int→Option (Int)
 | 0,_=>none
 | n1a+1,v0a=>
 (if 0<v0a then (nth x0 (wi64 (v0a - 1))).bind fun u2a=>
 some (decide (u2a=0)) else some (false)).bind fun m3a=>
 if m3a=true then FH x0 n1a (wi64 (v0a - 1)) else some (v0a)
def HE (x0:List Int):Option (List Int):=
 (FH x0 18446744073709551616 (x0.length:Int)).bind fun m0a=>
 (gd (0≤(0:Int)∧(0:Int)≤m0a∧m0a≤(x0.length:Int))).bind fun _=>
 (gd (List.length ([]:List Int)+List.length ((List.drop 0 x0).take (((m0a:Int).toNat) - 0))≤35184372088832)).bind fun _=>
 some (([]:List Int)++((List.drop 0 x0).take (((m0a:Int).toNat) - 0)))
def FR (x0:List Int) (x1:Int):Nat→Int→Int→List Int→Option (Int × List Int)
 | 0,_,_,_=>none
 | n4a+1,v0a,v1a,v2a=>
 if v1a<(x0.length:Int) then (nth x0 v1a).bind fun u3a=>
 (gd (0≤(x1.tmod 32))).bind fun _=>
 (gd (List.length v2a+List.length ([(wu32 (wu64 ((wu64 ((wu64 u3a)*2^min ((x1.tmod 32):Int).toNat IntKind.u64.bits))+v0a)))]:List Int)≤35184372088832)).bind fun _=>
 FR x0 x1 n4a ((wu64 ((wu64 ((wu64 u3a)*2^min ((x1.tmod 32):Int).toNat IntKind.u64.bits))+v0a)).fdiv (2^min (32:Int).toNat IntKind.u64.bits)) (wi64 (v1a+1)) (v2a++([(wu32 (wu64 ((wu64 ((wu64 u3a)*2^min ((x1.tmod 32):Int).toNat IntKind.u64.bits))+v0a)))]:List Int)) else some (v0a,v2a)
def GG (x0:List Int) (x1:Int):Option (List Int):=
 if (x0.length:Int)=0 then none else (gd (0≤((wi64 (x1.tdiv 32)):Int)∧((wi64 (x1.tdiv 32)):Int)≤((wi64 ((wi64 ((wi64 (x1.tdiv 32))+(x0.length:Int)))+1)):Int)∧((wi64 ((wi64 ((wi64 (x1.tdiv 32))+(x0.length:Int)))+1)):Int)≤70368744177664)).bind fun _=>
 (FR x0 x1 18446744073709551616 0 0 (List.replicate ((wi64 (x1.tdiv 32)):Int).toNat (0:Int))).bind fun m0a=>
 (gd (List.length m0a.2+List.length ([(wu32 m0a.1)]:List Int)≤35184372088832)).bind fun _=>
 (HE (m0a.2++([(wu32 m0a.1)]:List Int))).bind fun r1a=>
 some r1a
def FD (x0:List Int) (x1:List Int):Nat→List Int→Option (List Int)
 | 0,_=>none
 | n1a+1,v0a=>
 if ((List.length v0a:Nat):Int)≤(x0.length:Int) then (gd (List.length v0a+List.length ([0]:List Int)≤35184372088832)).bind fun _=>
 FD x0 x1 n1a (v0a++([0]:List Int)) else some (v0a)
def Eo (x0:List Int) (x1:List Int) (r9a:List Int) (v1a:Int) (u2a:Int) (u3a:Int) (u4a:Int):Nat→Int→Int→Int→List Int→Option (Int × Int × List Int)
 | 0,_,_,_,_=>none
 | n1b+1,v5a,v7a,v0a,v6a=>
 if v0a≤(x1.length:Int) then (Bi r9a v0a).bind fun r8a=>
 (nth v6a (wi64 (v1a+v0a))).bind fun u0b=>
 (nth v6a (wi64 (v1a+v0a))).bind fun u2b=>
 Eo x0 x1 r9a v1a u2a u3a u4a n1b ((wu64 ((wu64 (r8a*(min (wu64 ((wu64 ((wu64 ((wu64 u2a)*2^min (32:Int).toNat IntKind.u64.bits))+(wu64 u3a))).tdiv (wu64 u4a))) 4294967295)))+v5a)).fdiv (2^min (32:Int).toNat IntKind.u64.bits)) ((wu64 ((wu64 ((wu64 u0b) - (wu64 (wu32 (wu64 ((wu64 (r8a*(min (wu64 ((wu64 ((wu64 ((wu64 u2a)*2^min (32:Int).toNat IntKind.u64.bits))+(wu64 u3a))).tdiv (wu64 u4a))) 4294967295)))+v5a)))))) - v7a)).fdiv (2^min (63:Int).toNat IntKind.u64.bits)) (wi64 (v0a+1)) (List.set v6a ((wi64 (v1a+v0a)):Int).toNat (wu32 (wu64 ((wu64 ((wu64 u0b) - (wu64 (wu32 (wu64 ((wu64 (r8a*(min (wu64 ((wu64 ((wu64 ((wu64 u2a)*2^min (32:Int).toNat IntKind.u64.bits))+(wu64 u3a))).tdiv (wu64 u4a))) 4294967295)))+v5a)))))) - v7a)))) else some (v5a,v7a,v6a)
def Et (x0:List Int) (x1:List Int) (r4a:List Int) (v1a:Int):Nat→Int→Int→List Int→Option (Int × List Int)
 | 0,_,_,_=>none
 | n7a+1,v3a,v0a,v2a=>
 if v0a≤(x1.length:Int) then (nth v2a (wi64 (v1a+v0a))).bind fun u5a=>
 (Bi r4a v0a).bind fun r6a=>
 (nth v2a (wi64 (v1a+v0a))).bind fun u8a=>
 Et x0 x1 r4a v1a n7a ((wu64 ((wu64 ((wu64 u5a)+r6a))+v3a)).fdiv (2^min (32:Int).toNat IntKind.u64.bits)) (wi64 (v0a+1)) (List.set v2a ((wi64 (v1a+v0a)):Int).toNat (wu32 (wu64 ((wu64 ((wu64 u5a)+r6a))+v3a)))) else some (v3a,v2a)
def Fq (x0:List Int) (x1:List Int) (r3a:List Int) (v4a:Int):Nat→Int→Int→Int→List Int→Option (Int × Int × Int × List Int)
 | 0,_,_,_,_=>none
 | n7a+1,v5a,v8a,v1a,v6a=>
 if 0<v1a then ((Et x0 x1 r3a v4a 18446744073709551616 0 0 v6a).bind fun m2a=>
 some ((wu64 (v5a - 1)),m2a.1,(wu64 (v1a - m2a.1)),m2a.2)).bind fun m0a=>
 Fq x0 x1 r3a v4a n7a m0a.1 m0a.2.1 m0a.2.2.1 m0a.2.2.2 else some (v5a,v8a,v1a,v6a)
def Ft (x0:List Int) (x1:List Int) (r1a:List Int):Nat→Int→List Int→List Int→Option (List Int × List Int)
 | 0,_,_,_=>none
 | n0b+1,v0a,v2a,v3a=>
 if 0≤v0a then ((nth v2a (wi64 (v0a+(x1.length:Int)))).bind fun u6a=>
 (nth v2a (wi64 ((wi64 (v0a+(x1.length:Int))) - 1))).bind fun u7a=>
 (nth r1a (wi64 ((x1.length:Int) - 1))).bind fun u4a=>
 (gd ((wu64 u4a)≠0)).bind fun _=>
 (Eo x0 x1 r1a v0a u6a u7a u4a 18446744073709551616 0 0 0 v2a).bind fun m5a=>
 (Fq x0 x1 r1a v0a 18446744073709551616 (min (wu64 ((wu64 ((wu64 ((wu64 u6a)*2^min (32:Int).toNat IntKind.u64.bits))+(wu64 u7a))).tdiv (wu64 u4a))) 4294967295) m5a.1 m5a.2.1 m5a.2.2).bind fun m8a=>
 (nth v3a v0a).bind fun u1b=>
 some (m8a.2.2.2,(List.set v3a (v0a:Int).toNat (wu32 m8a.1)))).bind fun m9a=>
 Ft x0 x1 r1a n0b (wi64 (v0a - 1)) m9a.1 m9a.2 else some (v2a,v3a)
def Ck (x0:List Int) (x1:List Int):Option (EX):=
 if (x1.length:Int)=1 then (nth x1 0).bind fun u2a=>
 (HZ x0 u2a).bind fun r3a=>
 some r3a else (Ee x0 x1).bind fun r4a=>
 if r4a<0 then (Bk x0).bind fun r5a=>
 some (⟨([]:List Int),r5a⟩:EX) else (BZ x1).bind fun r0a=>
 (GG x1 (wi64 ((wi64 (32*(x1.length:Int))) - r0a))).bind fun r6a=>
 (GG x0 (wi64 ((wi64 (32*(x1.length:Int))) - r0a))).bind fun r7a=>
 (FD x0 x1 18446744073709551616 r7a).bind fun m8a=>
 (gd (0≤((wi64 ((wi64 ((x0.length:Int) - (x1.length:Int)))+1)):Int)∧((wi64 ((wi64 ((x0.length:Int) - (x1.length:Int)))+1)):Int)≤((wi64 ((wi64 ((x0.length:Int) - (x1.length:Int)))+1)):Int)∧((wi64 ((wi64 ((x0.length:Int) - (x1.length:Int)))+1)):Int)≤70368744177664)).bind fun _=>
 (Ft x0 x1 r6a 18446744073709551616 (wi64 ((x0.length:Int) - (x1.length:Int))) m8a (List.replicate ((wi64 ((wi64 ((x0.length:Int) - (x1.length:Int)))+1)):Int).toNat (0:Int))).bind fun m1a=>
 (Bk m1a.2).bind fun r9a=>
 (Bk m1a.1).bind fun r0b=>
 (BW r0b (wi64 ((wi64 (32*(x1.length:Int))) - r0a))).bind fun r1b=>
 some (⟨r9a,r1b⟩:EX)
def GI (x0:List Int):Option (Bool):=
 (if (x0.length:Int)≤1024 then (if (x0.length:Int)=0 then some (true) else (nth x0 (wi64 ((x0.length:Int) - 1))).bind fun u0a=>
 some (decide (¬u0a=0))).bind fun m1a=>
 some (m1a) else some (false)).bind fun m2a=>
 some m2a
end Go.Proofs.Lf

