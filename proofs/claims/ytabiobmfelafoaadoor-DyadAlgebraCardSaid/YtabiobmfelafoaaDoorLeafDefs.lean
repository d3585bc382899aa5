import Derived.Test.YtabiobmfelafoaaDoorLeafLib
namespace Go.Proofs.Lf
set_option linter.unusedVariables false
set_option linter.unusedSimpArgs false
set_option maxHeartbeats 4000000
open Go.RowKit Go.Sb Go.Proofs Go.Proofs.Sbn
theorem AR:Dx Tryd.prog 97 1=true:=by kernel_rfl
theorem Cr:HS Tryd.prog 97=true:=by kernel_rfl
theorem Bw:Tryd.prog.underlying 101=some (.int .u64):=by kernel_rfl
theorem Cz:Tryd.prog.underlying 97=some (.int .u32):=by kernel_rfl
theorem Ho:FX Tryd.prog 97 [.int .u32 0]:=EF (by kernel_rfl)
theorem GI:Ent Tryd.prog 107:=ent Tryd.func107 (by kernel_rfl) rfl
theorem KP:Ent Tryd.prog 106:=ent Tryd.func106 (by kernel_rfl) rfl
theorem en_110:Ent Tryd.prog 110:=ent Tryd.func110 (by kernel_rfl) rfl
theorem mo:Tryd.prog.follows .mixedOrders=true:=by kernel_rfl
theorem Kq:Ent Tryd.prog 77:=ent Tryd.func77 (by kernel_rfl) rfl
theorem en_112:Ent Tryd.prog 112:=ent Tryd.func112 (by kernel_rfl) rfl
theorem Jv:Ent Tryd.prog 96:=ent Tryd.func96 (by kernel_rfl) rfl
theorem en_108:Ent Tryd.prog 108:=ent Tryd.func108 (by kernel_rfl) rfl
theorem HH:Ent Tryd.prog 88:=ent Tryd.func88 (by kernel_rfl) rfl
theorem en_109:Ent Tryd.prog 109:=ent Tryd.func109 (by kernel_rfl) rfl
theorem Jz:Ent Tryd.prog 95:=ent Tryd.func95 (by kernel_rfl) rfl
theorem CQ:Tryd.prog.underlying 23=some (.slice 97):=by kernel_rfl
theorem JI:Ent Tryd.prog 104:=ent Tryd.func104 (by kernel_rfl) rfl
theorem Ks:Ent Tryd.prog 102:=ent Tryd.func102 (by kernel_rfl) rfl
theorem Ko:Ent Tryd.prog 82:=ent Tryd.func82 (by kernel_rfl) rfl
def GM (w:World) (r:List Int) (v:Value):Prop:=∃(A1:Option Addr) (c1:Nat),v = .slice A1 r.length c1∧RLu w A1 c1 r
def IK (w:World) (r:List Int × List Int) (v:Value):Prop:=∃(A1:Option Addr) (c1:Nat) (A2:Option Addr) (c2:Nat),v = .tuple #[.slice A1 r.1.length c1,.slice A2 r.2.length c2]∧RLu w A1 c1 r.1∧RLu w A2 c2 r.2
def rep_97 (_w:World) (r:Int) (v:Value):Prop:=v = .int .u32 r
def EO (_w:World) (r:Bool) (v:Value):Prop:=v = .bool r
def Iu (_w:World) (r:Int) (v:Value):Prop:=v = .int .u64 r
def Jr (w:World) (r:List Int) (v:Value):Prop:=∃(A1:Option Addr) (c1:Nat),v = .slice A1 r.length c1∧RLu w A1 c1 r
def CU (x0:List Int):Nat→List Int→Option (List Int)
 | 0,_=>none
 | n1a+1,v0a=>
 (if 0<(v0a.length:Int) then (nth v0a (wi64 ((v0a.length:Int) - 1))).bind fun u2a=>
 some (decide (u2a=0)) else some (false)).bind fun m3a=>
 if m3a=true then (gd (0≤(0:Int)∧(0:Int)≤(wi64 ((v0a.length:Int) - 1))∧(wi64 ((v0a.length:Int) - 1))≤(v0a.length:Int))).bind fun _=>
 CU x0 n1a ((List.drop 0 v0a).take ((((wi64 ((v0a.length:Int) - 1)):Int).toNat) - 0)) else some (v0a)
def Bs (x0:List Int):Option (List Int):=
 (CU x0 18446744073709551616 x0).bind fun m0a=>
 some m0a
def GF (x0:Int):Option (List Int):=
 (Bs ([(wu32 x0),(wu32 (x0.fdiv (2^min (32:Int).toNat IntKind.u64.bits)))]:List Int)).bind fun r8=>
 some r8
def Bk (x0:List Int):Option (Int):=
 if (x0.length:Int)=0 then some 0 else (nth x0 (wi64 ((x0.length:Int) - 1))).bind fun u0a=>
 (Bu u0a).bind fun r1a=>
 some (wi64 ((wi64 (32*(x0.length:Int))) - r1a))
def Cm (x0:List Int):Nat→Int→Option (Int)
 | 0,_=>none
 | n1a+1,v0a=>
 (if v0a<(x0.length:Int) then (nth x0 v0a).bind fun u2a=>
 some (decide (u2a=0)) else some (false)).bind fun m3a=>
 if m3a=true then Cm x0 n1a (wi64 (v0a+1)) else some (v0a)
def Cc (x0:List Int):Option (Int):=
 (Cm x0 18446744073709551616 0).bind fun m0a=>
 if m0a=(x0.length:Int) then some 0 else (nth x0 m0a).bind fun u1a=>
 (CP u1a).bind fun r2a=>
 some (wi64 ((wi64 (32*m0a))+r2a))
def Dk (x0:List Int) (x1:List Int):Nat→Int→Option (Int)
 | 0,_=>none
 | n1a+1,v0a=>
 if 0≤v0a then (nth x0 v0a).bind fun u2a=>
 (nth x1 v0a).bind fun u3a=>
 if ¬u2a=u3a then (nth x0 v0a).bind fun u4a=>
 (nth x1 v0a).bind fun u5a=>
 if u4a<u5a then some (-1) else some 1 else Dk x0 x1 n1a (wi64 (v0a - 1)) else some 0
def BN (x0:List Int) (x1:List Int):Option (Int):=
 if ¬(x0.length:Int)=(x1.length:Int) then some (wi64 ((x0.length:Int) - (x1.length:Int))) else Dk x0 x1 18446744073709551616 (wi64 ((x0.length:Int) - 1))
def Cu (x0:List Int) (x1:List Int) (m0a:List Int × List Int):Nat→Int→Int→List Int→Option (Int × List Int)
 | 0,_,_,_=>none
 | n6a+1,v2a,v1a,v3a=>
 if v1a<(m0a.1.length:Int) then (nth m0a.1 v1a).bind fun u5a=>
 (if v1a<(m0a.2.length:Int) then (nth m0a.2 v1a).bind fun u7a=>
 some (wu64 ((wu64 (v2a+(wu64 u5a)))+(wu64 u7a))) else some (wu64 (v2a+(wu64 u5a)))).bind fun m4a=>
 (gd (List.length v3a+List.length ([(wu32 m4a)]:List Int)≤35184372088832)).bind fun _=>
 Cu x0 x1 m0a n6a (m4a.fdiv (2^min (32:Int).toNat IntKind.u64.bits)) (wi64 (v1a+1)) (v3a++([(wu32 m4a)]:List Int)) else some (v2a,v3a)
def Ca (x0:List Int) (x1:List Int):Option (List Int):=
 (if (x0.length:Int)<(x1.length:Int) then some (x1,x0) else some (x0,x1)).bind fun m1a=>
 (gd (0≤(0:Int)∧(0:Int)≤((wi64 ((m1a.1.length:Int)+1)):Int)∧((wi64 ((m1a.1.length:Int)+1)):Int)≤70368744177664)).bind fun _=>
 (Cu x0 x1 m1a 18446744073709551616 0 0 (List.replicate (0:Int).toNat (0:Int))).bind fun m0a=>
 (gd (List.length m0a.2+List.length ([(wu32 m0a.1)]:List Int)≤35184372088832)).bind fun _=>
 (Bs (m0a.2++([(wu32 m0a.1)]:List Int))).bind fun r2a=>
 some r2a
def CL (x0:List Int) (x1:List Int) (r9:List Int):Nat→Int→Int→List Int→Option (List Int)
 | 0,_,_,_=>none
 | n5a+1,v2a,v0a,v1a=>
 if v0a<((r9.length:Nat):Int) then (if v0a<(x1.length:Int) then (nth x1 v0a).bind fun u6a=>
 some (wu64 (v2a+(wu64 u6a))) else some (v2a)).bind fun m3a=>
 (nth v1a v0a).bind fun u4a=>
 (nth v1a v0a).bind fun u8a=>
 (if (wu64 u4a)<m3a then some (1) else some (0)).bind fun m7a=>
 CL x0 x1 r9 n5a m7a (wi64 (v0a+1)) (List.set v1a (v0a:Int).toNat (wu32 (wu64 ((wu64 u4a) - m3a)))) else some (v1a)
def BP (x0:List Int) (x1:List Int):Option (List Int):=
 (Cw x0).bind fun r9=>
 (CL x0 x1 r9 18446744073709551616 0 0 r9).bind fun m0a=>
 (Bs m0a).bind fun r1a=>
 some r1a
def CJ (x0:List Int) (x1:List Int) (v1a:Int) (u3a:Int):Nat→Int→Int→List Int→Option (Int × List Int)
 | 0,_,_,_=>none
 | n7a+1,v4a,v0a,v2a=>
 if v0a<(x1.length:Int) then (nth x1 v0a).bind fun u5a=>
 (nth v2a (wi64 (v1a+v0a))).bind fun u6a=>
 (nth v2a (wi64 (v1a+v0a))).bind fun u8a=>
 CJ x0 x1 v1a u3a n7a ((wu64 (v4a+(wu64 ((wu64 ((wu64 u3a)*(wu64 u5a)))+(wu64 u6a))))).fdiv (2^min (32:Int).toNat IntKind.u64.bits)) (wi64 (v0a+1)) (List.set v2a ((wi64 (v1a+v0a)):Int).toNat (wu32 (wu64 (v4a+(wu64 ((wu64 ((wu64 u3a)*(wu64 u5a)))+(wu64 u6a))))))) else some (v4a,v2a)
def CO (x0:List Int) (x1:List Int):Nat→Int→List Int→Option (List Int)
 | 0,_,_=>none
 | n3a+1,v0a,v2a=>
 if v0a<(x0.length:Int) then ((nth x0 v0a).bind fun u4a=>
 (CJ x0 x1 v0a u4a 18446744073709551616 0 0 v2a).bind fun m1a=>
 (nth m1a.2 (wi64 (v0a+(x1.length:Int)))).bind fun u6a=>
 some (List.set m1a.2 ((wi64 (v0a+(x1.length:Int))):Int).toNat (wu32 m1a.1))).bind fun m5a=>
 CO x0 x1 n3a (wi64 (v0a+1)) m5a else some (v2a)
def Cj (x0:List Int) (x1:List Int):Option (List Int):=
 (gd (0≤((wi64 ((x0.length:Int)+(x1.length:Int))):Int)∧((wi64 ((x0.length:Int)+(x1.length:Int))):Int)≤((wi64 ((x0.length:Int)+(x1.length:Int))):Int)∧((wi64 ((x0.length:Int)+(x1.length:Int))):Int)≤70368744177664)).bind fun _=>
 (CO x0 x1 18446744073709551616 0 (List.replicate ((wi64 ((x0.length:Int)+(x1.length:Int))):Int).toNat (0:Int))).bind fun m0a=>
 (Bs m0a).bind fun r1a=>
 some r1a
def CN (x0:List Int) (x1:Int):Nat→Int→Int→List Int→Option (Int × List Int)
 | 0,_,_,_=>none
 | n4a+1,v0a,v1a,v2a=>
 if v1a<(x0.length:Int) then (nth x0 v1a).bind fun u3a=>
 (gd (0≤(x1.tmod 32))).bind fun _=>
 (gd (List.length v2a+List.length ([(wu32 (bor .u64 v0a (wu64 ((wu64 u3a)*2^min ((x1.tmod 32):Int).toNat IntKind.u64.bits))))]:List Int)≤35184372088832)).bind fun _=>
 CN x0 x1 n4a ((bor .u64 v0a (wu64 ((wu64 u3a)*2^min ((x1.tmod 32):Int).toNat IntKind.u64.bits))).fdiv (2^min (32:Int).toNat IntKind.u64.bits)) (wi64 (v1a+1)) (v2a++([(wu32 (bor .u64 v0a (wu64 ((wu64 u3a)*2^min ((x1.tmod 32):Int).toNat IntKind.u64.bits))))]:List Int)) else some (v0a,v2a)
def Bf (x0:List Int) (x1:Int):Option (List Int):=
 if (x0.length:Int)=0 then some ([]:List Int) else (gd (0≤((wi64 (x1.tdiv 32)):Int)∧((wi64 (x1.tdiv 32)):Int)≤((wi64 ((wi64 ((wi64 (x1.tdiv 32))+(x0.length:Int)))+1)):Int)∧((wi64 ((wi64 ((wi64 (x1.tdiv 32))+(x0.length:Int)))+1)):Int)≤70368744177664)).bind fun _=>
 (CN x0 x1 18446744073709551616 0 0 (List.replicate ((wi64 (x1.tdiv 32)):Int).toNat (0:Int))).bind fun m0a=>
 (gd (List.length m0a.2+List.length ([(wu32 m0a.1)]:List Int)≤35184372088832)).bind fun _=>
 (Bs (m0a.2++([(wu32 m0a.1)]:List Int))).bind fun r1a=>
 some r1a
def CK (x0:List Int) (x1:Int):Nat→Int→List Int→Option (List Int)
 | 0,_,_=>none
 | n3a+1,v0a,v1a=>
 if v0a<(List.length ((List.drop (((wi64 (x1.tdiv 32)):Int).toNat) x0).take (x0.length - (((wi64 (x1.tdiv 32)):Int).toNat))):Int) then (nth ((List.drop (((wi64 (x1.tdiv 32)):Int).toNat) x0).take (x0.length - (((wi64 (x1.tdiv 32)):Int).toNat))) v0a).bind fun u2a=>
 (gd (0≤(x1.tmod 32))).bind fun _=>
 (nth v1a v0a).bind fun u8a=>
 (if (wi64 (v0a+1))<(List.length ((List.drop (((wi64 (x1.tdiv 32)):Int).toNat) x0).take (x0.length - (((wi64 (x1.tdiv 32)):Int).toNat))):Int) then some (decide (0<(x1.tmod 32))) else some (false)).bind fun m4a=>
 (if m4a=true then (nth (List.set v1a (v0a:Int).toNat (u2a.fdiv (2^min ((x1.tmod 32):Int).toNat IntKind.u32.bits))) v0a).bind fun u5a=>
 (nth ((List.drop (((wi64 (x1.tdiv 32)):Int).toNat) x0).take (x0.length - (((wi64 (x1.tdiv 32)):Int).toNat))) (wi64 (v0a+1))).bind fun u6a=>
 (gd (0≤(wi64 (32 - (x1.tmod 32))))).bind fun _=>
 (nth (List.set v1a (v0a:Int).toNat (u2a.fdiv (2^min ((x1.tmod 32):Int).toNat IntKind.u32.bits))) v0a).bind fun u9a=>
 some (List.set (List.set v1a (v0a:Int).toNat (u2a.fdiv (2^min ((x1.tmod 32):Int).toNat IntKind.u32.bits))) (v0a:Int).toNat (bor .u32 u5a (wu32 (u6a*2^min ((wi64 (32 - (x1.tmod 32))):Int).toNat IntKind.u32.bits)))) else some (List.set v1a (v0a:Int).toNat (u2a.fdiv (2^min ((x1.tmod 32):Int).toNat IntKind.u32.bits)))).bind fun m7a=>
 CK x0 x1 n3a (wi64 (v0a+1)) m7a else some (v1a)
def BS (x0:List Int) (x1:Int):Option (List Int):=
 if (x0.length:Int)≤(wi64 (x1.tdiv 32)) then some ([]:List Int) else (gd (0≤((wi64 (x1.tdiv 32)):Int)∧((wi64 (x1.tdiv 32)):Int)≤(x0.length:Int)∧(x0.length:Int)≤(x0.length:Int))).bind fun _=>
 (gd (0≤((List.length ((List.drop (((wi64 (x1.tdiv 32)):Int).toNat) x0).take (x0.length - (((wi64 (x1.tdiv 32)):Int).toNat))):Int):Int)∧((List.length ((List.drop (((wi64 (x1.tdiv 32)):Int).toNat) x0).take (x0.length - (((wi64 (x1.tdiv 32)):Int).toNat))):Int):Int)≤((List.length ((List.drop (((wi64 (x1.tdiv 32)):Int).toNat) x0).take (x0.length - (((wi64 (x1.tdiv 32)):Int).toNat))):Int):Int)∧((List.length ((List.drop (((wi64 (x1.tdiv 32)):Int).toNat) x0).take (x0.length - (((wi64 (x1.tdiv 32)):Int).toNat))):Int):Int)≤70368744177664)).bind fun _=>
 (CK x0 x1 18446744073709551616 0 (List.replicate ((List.length ((List.drop (((wi64 (x1.tdiv 32)):Int).toNat) x0).take (x0.length - (((wi64 (x1.tdiv 32)):Int).toNat))):Int):Int).toNat (0:Int))).bind fun m0a=>
 (Bs m0a).bind fun r1a=>
 some r1a
def Cn (x0:List Int) (x1:Int):Nat→Int→Int→List Int→Option (Int × List Int)
 | 0,_,_,_=>none
 | n4a+1,v1a,v0a,v2a=>
 if 0≤v0a then (nth x0 v0a).bind fun u3a=>
 (gd ((wu64 x1)≠0)).bind fun _=>
 (gd ((wu64 x1)≠0)).bind fun _=>
 (nth v2a v0a).bind fun u5a=>
 Cn x0 x1 n4a ((bor .u64 (wu64 (v1a*2^min (32:Int).toNat IntKind.u64.bits)) (wu64 u3a)).tmod (wu64 x1)) (wi64 (v0a - 1)) (List.set v2a (v0a:Int).toNat (wu32 (wu64 ((bor .u64 (wu64 (v1a*2^min (32:Int).toNat IntKind.u64.bits)) (wu64 u3a)).tdiv (wu64 x1))))) else some (v1a,v2a)
def Ed (x0:List Int) (x1:Int):Option (List Int × List Int):=
 (gd (0≤((x0.length:Int):Int)∧((x0.length:Int):Int)≤((x0.length:Int):Int)∧((x0.length:Int):Int)≤70368744177664)).bind fun _=>
 (Cn x0 x1 18446744073709551616 0 (wi64 ((x0.length:Int) - 1)) (List.replicate ((x0.length:Int):Int).toNat (0:Int))).bind fun m0a=>
 (Bs m0a.2).bind fun r1a=>
 (GF m0a.1).bind fun r2a=>
 some (r1a,r2a)
def DL (x0:List Int) (x1:List Int):Nat→Int→Int→Option (Int)
 | 0,_,_=>none
 | n3a+1,v0a,v1a=>
 (if 4294967296≤v0a then some (true) else (nth x1 (wi64 ((x1.length:Int) - 2))).bind fun u4a=>
 (nth x0 (wi64 ((x1.length:Int) - 2))).bind fun u5a=>
 some (decide ((bor .u64 (wu64 (v1a*2^min (32:Int).toNat IntKind.u64.bits)) (wu64 u5a))<(wu64 (v0a*(wu64 u4a)))))).bind fun m6a=>
 if m6a=true then (nth x1 (wi64 ((x1.length:Int) - 1))).bind fun u2a=>
 if 4294967296≤(wu64 (v1a+(wu64 u2a))) then some (wu64 (v0a - 1)) else DL x0 x1 n3a (wu64 (v0a - 1)) (wu64 (v1a+(wu64 u2a))) else some (v0a)
def Dp (x0:List Int) (x1:List Int) (m2a:Int):Nat→Int→Int→Int→List Int→Option (Int × Int × List Int)
 | 0,_,_,_,_=>none
 | n6a+1,v4a,v3a,v0a,v1a=>
 if v0a<(x1.length:Int) then (nth x1 v0a).bind fun u5a=>
 (nth v1a v0a).bind fun u7a=>
 (if (wu64 u7a)<(wu64 ((wu64 (wu32 (wu64 (v3a+(wu64 (m2a*(wu64 u5a)))))))+v4a)) then some (1) else some (0)).bind fun m8a=>
 (nth v1a v0a).bind fun u9a=>
 (nth v1a v0a).bind fun u0b=>
 Dp x0 x1 m2a n6a m8a ((wu64 (v3a+(wu64 (m2a*(wu64 u5a))))).fdiv (2^min (32:Int).toNat IntKind.u64.bits)) (wi64 (v0a+1)) (List.set v1a (v0a:Int).toNat (wu32 (u9a - (wu32 (wu64 ((wu64 (wu32 (wu64 (v3a+(wu64 (m2a*(wu64 u5a)))))))+v4a)))))) else some (v4a,v3a,v1a)
def Dm (x0:List Int) (x1:List Int):Nat→Int→Int→List Int→Option (Int × List Int)
 | 0,_,_,_=>none
 | n5a+1,v2a,v0a,v1a=>
 if v0a<(x1.length:Int) then (nth x1 v0a).bind fun u3a=>
 (nth v1a v0a).bind fun u4a=>
 (nth v1a v0a).bind fun u6a=>
 Dm x0 x1 n5a ((wu64 (v2a+(wu64 ((wu64 u4a)+(wu64 u3a))))).fdiv (2^min (32:Int).toNat IntKind.u64.bits)) (wi64 (v0a+1)) (List.set v1a (v0a:Int).toNat (wu32 (wu64 (v2a+(wu64 ((wu64 u4a)+(wu64 u3a))))))) else some (v2a,v1a)
def Fv (x0:List Int) (x1:List Int):Option ((Int) × List Int):=
 (nth x0 (x1.length:Int)).bind fun u3a=>
 (nth x0 (wi64 ((x1.length:Int) - 1))).bind fun u4a=>
 (nth x1 (wi64 ((x1.length:Int) - 1))).bind fun u5a=>
 (gd ((wu64 u5a)≠0)).bind fun _=>
 (nth x1 (wi64 ((x1.length:Int) - 1))).bind fun u6a=>
 (gd ((wu64 u6a)≠0)).bind fun _=>
 (DL x0 x1 18446744073709551616 (wu64 ((bor .u64 (wu64 ((wu64 u3a)*2^min (32:Int).toNat IntKind.u64.bits)) (wu64 u4a)).tdiv (wu64 u5a))) ((bor .u64 (wu64 ((wu64 u3a)*2^min (32:Int).toNat IntKind.u64.bits)) (wu64 u4a)).tmod (wu64 u6a))).bind fun m2a=>
 (Dp x0 x1 m2a 18446744073709551616 0 0 0 x0).bind fun m0a=>
 (nth m0a.2.2 (x1.length:Int)).bind fun u9a=>
 (nth m0a.2.2 (x1.length:Int)).bind fun u7a=>
 (nth m0a.2.2 (x1.length:Int)).bind fun u1b=>
 (if (wu64 u9a)<(wu64 (m0a.2.1+m0a.1)) then (Dm x0 x1 18446744073709551616 0 0 (List.set m0a.2.2 ((x1.length:Int):Int).toNat (wu32 (u7a - (wu32 (wu64 (m0a.2.1+m0a.1))))))).bind fun m1a=>
 (nth m1a.2 (x1.length:Int)).bind fun u0b=>
 (nth m1a.2 (x1.length:Int)).bind fun u2b=>
 some ((wu64 (m2a - 1)),m1a.1,(List.set m1a.2 ((x1.length:Int):Int).toNat (wu32 (u0b+(wu32 m1a.1))))) else some (m2a,m0a.2.1,(List.set m0a.2.2 ((x1.length:Int):Int).toNat (wu32 (u7a - (wu32 (wu64 (m0a.2.1+m0a.1)))))))).bind fun m8a=>
 some ((wu32 m8a.1),m8a.2.2)
def Dg (x0:List Int) (x1:List Int) (r1a:List Int):Nat→Int→List Int→List Int→Option (List Int × List Int)
 | 0,_,_,_=>none
 | n5a+1,v0a,v3a,v2a=>
 if 0≤v0a then (gd (0≤(v0a:Int)∧(v0a:Int)<(wi64 ((wi64 (v0a+(r1a.length:Int)))+1))∧(wi64 ((wi64 (v0a+(r1a.length:Int)))+1))≤(v2a.length:Int))).bind fun _=>
 (Fv ((List.drop ((v0a:Int).toNat) v2a).take ((((wi64 ((wi64 (v0a+(r1a.length:Int)))+1)):Int).toNat) - ((v0a:Int).toNat))) r1a).bind fun r4a=>
 (nth v3a v0a).bind fun u6a=>
 Dg x0 x1 r1a n5a (wi64 (v0a - 1)) (List.set v3a (v0a:Int).toNat r4a.1) (((v2a).take ((v0a:Int).toNat))++r4a.2++((v2a).drop (((wi64 ((wi64 (v0a+(r1a.length:Int)))+1)):Int).toNat))) else some (v3a,v2a)
def Cq (x0:List Int) (x1:List Int):Option (List Int × List Int):=
 (BN x0 x1).bind fun r5a=>
 if r5a<0 then some (([]:List Int),x0) else if (x1.length:Int)=1 then (nth x1 0).bind fun u6a=>
 (Ed x0 u6a).bind fun r3a=>
 some (r3a.1,r3a.2) else (nth x1 (wi64 ((x1.length:Int) - 1))).bind fun u7a=>
 (Bu u7a).bind fun r1a=>
 (Bf x1 r1a).bind fun r0a=>
 (gd (0≤((wi64 ((x0.length:Int)+1)):Int)∧((wi64 ((x0.length:Int)+1)):Int)≤((wi64 ((x0.length:Int)+1)):Int)∧((wi64 ((x0.length:Int)+1)):Int)≤70368744177664)).bind fun _=>
 (Bf x0 r1a).bind fun r4a=>
 (gd (0≤((wi64 ((((((wi64 ((x0.length:Int)+1)):Int).toNat):Nat):Int) - (r0a.length:Int))):Int)∧((wi64 ((((((wi64 ((x0.length:Int)+1)):Int).toNat):Nat):Int) - (r0a.length:Int))):Int)≤((wi64 ((((((wi64 ((x0.length:Int)+1)):Int).toNat):Nat):Int) - (r0a.length:Int))):Int)∧((wi64 ((((((wi64 ((x0.length:Int)+1)):Int).toNat):Nat):Int) - (r0a.length:Int))):Int)≤70368744177664)).bind fun _=>
 (Dg x0 x1 r0a 18446744073709551616 (wi64 ((wi64 ((((((wi64 ((x0.length:Int)+1)):Int).toNat):Nat):Int) - (r0a.length:Int))) - 1)) (List.replicate ((wi64 ((((((wi64 ((x0.length:Int)+1)):Int).toNat):Nat):Int) - (r0a.length:Int))):Int).toNat (0:Int)) ((r4a).take (List.length (List.replicate ((wi64 ((x0.length:Int)+1)):Int).toNat (0:Int)))++(List.replicate ((wi64 ((x0.length:Int)+1)):Int).toNat (0:Int)).drop r4a.length)).bind fun m2a=>
 (gd (0≤(0:Int)∧(0:Int)≤(r0a.length:Int)∧(r0a.length:Int)≤(m2a.2.length:Int))).bind fun _=>
 (Bs m2a.1).bind fun r8a=>
 (Bs ((List.drop 0 m2a.2).take ((((r0a.length:Int):Int).toNat) - 0))).bind fun r9a=>
 (BS r9a r1a).bind fun r0b=>
 some (r8a,r0b)
def Bp (x0:List Int):Option (Bool):=
 (if (x0.length:Int)≤1024 then (if (x0.length:Int)=0 then some (true) else (nth x0 (wi64 ((x0.length:Int) - 1))).bind fun u0a=>
 some (decide (¬u0a=0))).bind fun m1a=>
 some (m1a) else some (false)).bind fun m2a=>
 some m2a
def CY (x0:List Int) (x1:Int):Option (Int):=
 if (x0.length:Int)≤x1 then some 0 else (nth x0 x1).bind fun u0a=>
 some (wu64 u0a)
def Bt (x0:List Int) (x1:Int):Option (Int):=
 (CY x0 (wi64 (x1.tdiv 32))).bind fun r6=>
 (gd (0≤(x1.tmod 32))).bind fun _=>
 some ((r6.fdiv (2^min ((x1.tmod 32):Int).toNat IntKind.u64.bits)).tmod 2)
def BK (x0:List Int) (x1:List Int):Nat→Int→Option (Bool)
 | 0,_=>none
 | n1a+1,v0a=>
 if v0a<(x0.length:Int) then (nth x0 v0a).bind fun u2a=>
 (nth x1 v0a).bind fun u3a=>
 if ¬u2a=u3a then some false else BK x0 x1 n1a (wi64 (v0a+1)) else some true
def BD (x0:List Int) (x1:List Int):Option (Bool):=
 if ¬(x0.length:Int)=(x1.length:Int) then some false else BK x0 x1 18446744073709551616 0
def Ce (x0:List Int):Nat→Int→Option (Int)
 | 0,_=>none
 | n1a+1,v0a=>
 (if 0<v0a then (nth x0 (wi64 (v0a - 1))).bind fun u2a=>
 some (decide (u2a=0)) else some (false)).bind fun m3a=>
 if m3a=true then Ce x0 n1a (wi64 (v0a - 1)) else some (v0a)
def CZ (x0:List Int):Option (List Int):=
 (Ce x0 18446744073709551616 (x0.length:Int)).bind fun m0a=>
 (gd (0≤(0:Int)∧(0:Int)≤m0a∧m0a≤(x0.length:Int))).bind fun _=>
 (gd (List.length ([]:List Int)+List.length ((List.drop 0 x0).take (((m0a:Int).toNat) - 0))≤35184372088832)).bind fun _=>
 some (([]:List Int)++((List.drop 0 x0).take (((m0a:Int).toNat) - 0)))
def Cf (x0:Int):Option (List Int):=
 (CZ ([(wu32 x0),(wu32 (x0.fdiv (2^min (32:Int).toNat IntKind.u64.bits)))]:List Int)).bind fun r8=>
 some r8
def Bo (x0:List Int):Nat→Int→Option (Int)
 | 0,_=>none
 | n1a+1,v0a=>
 (if 0<(x0.length:Int) then (Bt x0 v0a).bind fun r2a=>
 some (decide (r2a=0)) else some (false)).bind fun m3a=>
 if m3a=true then Bo x0 n1a (wi64 (v0a+1)) else some (v0a)
def Bq (x0:List Int):Option (Int):=
 (Bo x0 18446744073709551616 0).bind fun m0a=>
 some m0a
def Ck (x0:List Int) (x1:Int):Nat→Int→List Int→Option (List Int)
 | 0,_,_=>none
 | n4a+1,v0a,v1a=>
 if v0a<(x0.length:Int) then (CY x0 (wi64 (v0a+1))).bind fun r2a=>
 (CY x0 v0a).bind fun r3a=>
 (gd (0≤(x1.tmod 32))).bind fun _=>
 (gd (List.length v1a+List.length ([(wu32 ((wu64 ((wu64 (r2a*2^min (32:Int).toNat IntKind.u64.bits))+r3a)).fdiv (2^min ((x1.tmod 32):Int).toNat IntKind.u64.bits)))]:List Int)≤35184372088832)).bind fun _=>
 Ck x0 x1 n4a (wi64 (v0a+1)) (v1a++([(wu32 ((wu64 ((wu64 (r2a*2^min (32:Int).toNat IntKind.u64.bits))+r3a)).fdiv (2^min ((x1.tmod 32):Int).toNat IntKind.u64.bits)))]:List Int)) else some (v1a)
def BJ (x0:List Int) (x1:Int):Option (List Int):=
 if (x0.length:Int)≤(wi64 (x1.tdiv 32)) then some ([]:List Int) else (Ck x0 x1 18446744073709551616 (wi64 (x1.tdiv 32)) ([]:List Int)).bind fun m0a=>
 (CZ m0a).bind fun r1a=>
 some r1a
def EM (x0:List Int):Option (Bool):=
 (if (x0.length:Int)≤1024 then (if (x0.length:Int)=0 then some (true) else (nth x0 (wi64 ((x0.length:Int) - 1))).bind fun u0a=>
 some (decide (¬u0a=0))).bind fun m1a=>
 some (m1a) else some (false)).bind fun m2a=>
 some m2a
end Go.Proofs.Lf

