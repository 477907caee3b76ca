/- What each Go function of this seat computes, in plain terms. -/
import Derived.Test.YthibchijlpflmaaGreatDoorSy
namespace Go.Proofs.YthibchijlpflmaaGreatDoor
open Go SX
abbrev qFa:=List Int
abbrev qFb:=Option Addr
abbrev qFc (x:Int):Value:=.int .i64 x
abbrev qFd (a:Option Addr) {α:Type} (x:List α) (c:Nat):Value:=.slice a x.length c
abbrev qFe (g:Nat):Value:=.pointer (some ⟨g,0,none⟩)
abbrev qFf (a:Option Addr) (x:List Int) (c:Nat):World→Prop:=Sl (eI .i64) 1 (.slice a x.length c) x
abbrev qFg (a:Option Addr) (x:List Int) (c:Nat):RowD:=Ro (eI .i64) 3 1 (.slice a x.length c) x
abbrev qFh (a:Option Addr) (x:List Int) (c:Nat):World→Prop:=Sl (eI .u8) 1 (.slice a x.length c) x
abbrev qFi (a:Option Addr) (x:List Int) (c:Nat):RowD:=Ro (eI .u8) 5 1 (.slice a x.length c) x
def qdn (_F:Nat)(x0:Int):Option Int:=if decide (600<x0) then some 2 else some 0
def qdo (_F:Nat)(r38:(Int×Int)→Option Int)(x0 x1:Int):Option Int:=r38 (x1,iadd .i64 x0 1)
def qbK (F:Nat)(r38:(Int×Int)→Option Int)(x0 x1:Int)(x2:qFa):Option Int:=qdo F r38 x1 (iadd .i64 x0 (x2.length:Int))
def qdm (F:Nat)(r38:(Int×Int)→Option Int)(x1:List (qFa))(x0 x2:Int)(x3:qFa)(r45:(Int×Int)→Option Int)(x4 x5:Int):Option Int:=if decide (x5<(x3.length:Int)) then (idx x3 x5).bind fun x6=>if (decide (x6<0) || decide ((x1.length:Int)≤x6)) then some 3 else if decide (x6≤x4) then some 4 else r45 (x6,iadd .i64 x5 1) else qbK F r38 x0 x2 x3
def qdp (F:Nat)(r38:(Int×Int)→Option Int)(x1:List (qFa))(x0 x2:Int)(x3:qFa):=lp fun r s=>qdm F r38 x1 x0 x2 x3 r s.1 s.2
def qdl (F:Nat)(x1:List (qFa))(r38:(Int×Int)→Option Int)(x0 x2:Int):Option Int:=if decide (x2<(x1.length:Int)) then (idx x1 x2).bind fun x3=>qdp F r38 x1 x0 x2 x3 F (-1,0) else qdn F x0
def vt (F:Nat)(x1:List (qFa)):=lp fun r s=>qdl F x1 r s.1 s.2
def kQ (F:Nat)(x1:List (qFa)):Option Int:=if decide (100<(x1.length:Int)) then some 2 else vt F x1 F (0,0)
def vJ (_F:Nat)(x1 x2 x3:Int):Option Int:=if ((((((decide (x1<0) || decide (7<x1)) || decide (x2<0)) || ((x2:Int) == 1)) || decide (300<x2)) || decide (x3<1)) || decide (16<x3)) then some 3 else some 0
def y8 (F:Nat)(x1:List (qFa))(x4 x5 x6:Int):Option Int:=(kQ F x1).bind fun x10=>if ((x10:Int) != 0) then some x10 else (vJ F x4 x5 x6).bind fun x11=>some x11
def kS (_F:Nat)(x1:qFa):Option (qFa):=(app 8796093022208 ([]:qFa) x1).bind fun x8=>some x8
def qiu (_F:Nat)(x4 x5 x6:Int)(x0:List (qFa)):Option (List (qFa)×Int×Int×Int):=some (x0,x4,x5,x6)
def qgm (F:Nat)(x1:List (qFa))(x4 x5 x6:Int)(r4:(Int×List (qFa))→Option (List (qFa)×Int×Int×Int))(x0:Int)(x2:List (qFa)):Option (List (qFa)×Int×Int×Int):=if decide (x0<(x1.length:Int)) then (idx x1 x0).bind fun x3=>(idx x2 x0).bind fun _x233=>(kS F x3).bind fun x7=>lett (x2.set x0.toNat x7) fun x8=>r4 (iadd .i64 x0 1,x8) else qiu F x4 x5 x6 x2
def qgn (F:Nat)(x1:List (qFa))(x4 x5 x6:Int):=lp fun r s=>qgm F x1 x4 x5 x6 r s.1 s.2
def qei (F:Nat)(x1:List (qFa))(x4 x5 x6:Int)(x20:List (qFa)):Option (List (qFa)×Int×Int×Int):=qgn F x1 x4 x5 x6 F (0,x20)
def qfz (F:Nat)(x1:List (qFa))(x4 x5 x6:Int):Option (List (qFa)×Int×Int×Int):=(mk 4398046511104 (([]:qFa):qFa) (x1.length:Int)).bind fun x0=>qei F x1 x4 x5 x6 x0
def qji (_F:Nat)(x1 x2:Int):Option (Int×Int):=lett (imul .u64 (iconv .u64 x1) (iconv .u64 x2)) fun x3=>some (iconv .u32 (ishr .u64 x3 32),iconv .u32 x3)
def qf5 (_F:Nat)(x1 x2:Int):Option (Int×Int):=lett (imul .u64 (iand .u64 x1 4294967295) (iand .u64 x2 4294967295)) fun x3=>lett (iadd .u64 (imul .u64 (ishr .u64 x1 32) (iand .u64 x2 4294967295)) (ishr .u64 x3 32)) fun x4=>lett (iadd .u64 (iand .u64 x4 4294967295) (imul .u64 (iand .u64 x1 4294967295) (ishr .u64 x2 32))) fun x5=>lett (iadd .u64 (iadd .u64 (imul .u64 (ishr .u64 x1 32) (ishr .u64 x2 32)) (ishr .u64 x4 32)) (ishr .u64 x5 32)) fun x6=>some (x6,imul .u64 x1 x2)
def qcI (F:Nat)(x1 x2:Int):Option (Int×Int):=(qf5 F x1 x2).bind fun x3=>some (x3.1,x3.2)
def vV (_F:Nat)(x64:qFa):Option (qFa):=some x64
def yz (F:Nat)(r3:(qFa×Int)→Option (qFa))(x80:qFa)(x81:Int):Option (qFa):=if decide (x81<(x80.length:Int)) then (sub x80 x81 (x80.length:Int)).bind fun x99=>(sub x80 0 x81).bind fun x0=>lett (yL x81.toNat x80 x0) fun x1=>r3 (x1,iadd .i64 x81 ((min x0.length x99.length:Nat):Int)) else vV F x80
def kN (F:Nat):=lp fun r s=>yz F r s.1 s.2
def qe (F:Nat)(x1:qFa)(x4:Int):Option (qFa):=if decide (x4<0) then none else (qcI F (iconv .u64 (x1.length:Int)) (iconv .u64 x4)).bind fun x6=>if (decide (0<x6.1) || decide (9223372036854775807<x6.2)) then none else (mk 17592186044416 (0:Int) (iconv .i64 x6.2)).bind fun x10=>lett (yL 0 x10 x1) fun x13=>kN F F (x13,((min x1.length x10.length:Nat):Int))
def qct (_F:Nat):Option Int:=some (-1)
def q5 (F:Nat)(x1:qFa)(x4:Int)(r3:Int→Option Int)(x47:Int):Option Int:=if decide (x47<(x1.length:Int)) then (idx x1 x47).bind fun x64=>if ((x4:Int) == x64) then some x47 else r3 (iadd .i64 x47 1) else qct F
def q6 (F:Nat)(x1:qFa)(x4:Int):=lp fun r s=>q5 F x1 x4 r s
def zE (F:Nat)(x1:qFa)(x4:Int):Option Int:=q6 F x1 x4 F 0
def qc0 (_F:Nat)(x35:Int):Option Int:=some x35
def qav (F:Nat)(x1:qFa)(r3:(Int×Int)→Option Int)(x44 x45:Int):Option Int:=if decide (x45<(x1.length:Int)) then (idx x1 x45).bind fun x59=>r3 (imin x44 x59,iadd .i64 x45 1) else qc0 F x44
def qaw (F:Nat)(x1:qFa):=lp fun r s=>qav F x1 r s.1 s.2
def jZ (F:Nat)(x1:qFa):Option Int:=if decide ((x1.length:Int)<1) then none else (idx x1 0).bind fun x5=>qaw F x1 F (x5,1)
def qac (_F:Nat)(x5 x8 x11:qFa)(x17 x19:Int)(x75:qFa):Option (qFa×qFa×qFa×qFa×Int):=(sub x11 0 x19).bind fun x76=>some (x5,x8,x76,x75,x17)
def qab (F:Nat)(x5 x8 x11:qFa)(x17 x19 x23:Int)(r3:(Int×qFa)→Option (qFa×qFa×qFa×qFa×Int))(x93:Int)(x94:qFa):Option (qFa×qFa×qFa×qFa×Int):=if decide (x93<((x11.length-x19.toNat:Nat):Int)) then (idx (x11.drop x19.toNat) x93).bind fun x0=>(idx x94 x0).bind fun _x121=>lett (x94.set x0.toNat x23) fun x1=>r3 (iadd .i64 x93 1,x1) else qac F x5 x8 x11 x17 x19 x94
def qad (F:Nat)(x5 x8 x11:qFa)(x17 x19 x23:Int):=lp fun r s=>qab F x5 x8 x11 x17 x19 x23 r s.1 s.2
def ji (F:Nat)(_x2:List (qFa))(x5 x8 x11 x14:qFa)(x17 x18:Int):Option (qFa×qFa×qFa×qFa×Int):=(zE F x11 x18).bind fun x19=>chk (decide (0≤x19∧x19<(x11.length:Int))) ((jZ F (x11.drop x19.toNat)).bind fun x23=>qad F x5 x8 x11 x17 x19 x23 F (0,x14))
def qae (F:Nat)(x2:List (qFa))(x18:Int)(x0 x1 x3 x4:qFa)(x5:Int):Option (qFa×qFa×qFa×qFa×Int):=(idx x1 x18).bind fun x6=>(idx x0 x18).bind fun x7=>if ((x6:Int) == x7) then (ji F x2 x0 x1 x3 x4 x5 x18).bind fun x8=>some (x8.1,x8.2.1,x8.2.2.1,x8.2.2.2.1,x8.2.2.2.2) else some (x0,x1,x3,x4,x5)
def zI (_F:Nat)(r8:(Int×qFa×qFa×qFa×qFa×Int)→Option (qFa×qFa×qFa×qFa×Int))(x0:Int)(x1 x2 x3 x4:qFa)(x5:Int):Option (qFa×qFa×qFa×qFa×Int):=r8 (iadd .i64 x0 1,x1,x2,x3,x4,x5)
def va (F:Nat)(self:(List (qFa))→(qFa)→(qFa)→(qFa)→(qFa)→Int→Int→Option (qFa×qFa×qFa×qFa×Int))(x2:List (qFa))(x18:Int)(x0:qFa)(r8:(Int×qFa×qFa×qFa×qFa×Int)→Option (qFa×qFa×qFa×qFa×Int))(x1:Int)(x3 x4 x5 x6:qFa)(x7:Int):Option (qFa×qFa×qFa×qFa×Int):=if decide (x1<(x0.length:Int)) then (idx x0 x1).bind fun x8=>(idx x3 x8).bind fun x9=>if ((x9:Int) == 0) then (self x2 x3 x4 x5 x6 x7 x8).bind fun x10=>(idx x10.2.1 x18).bind fun x11=>(idx x10.2.1 x8).bind fun x12=>(idx x10.2.1 x18).bind fun _x791=>lett (x10.2.1.set x18.toNat (imin x11 x12)) fun x13=>zI F r8 x1 x10.1 x13 x10.2.2.1 x10.2.2.2.1 x10.2.2.2.2 else (idx x6 x8).bind fun x14=>if decide (x14<0) then (idx x4 x18).bind fun x15=>(idx x3 x8).bind fun x16=>(idx x4 x18).bind fun _x809=>lett (x4.set x18.toNat (imin x15 x16)) fun x17=>zI F r8 x1 x3 x17 x5 x6 x7 else zI F r8 x1 x3 x4 x5 x6 x7 else qae F x2 x18 x3 x4 x5 x6 x7
def zv (F:Nat)(self:(List (qFa))→(qFa)→(qFa)→(qFa)→(qFa)→Int→Int→Option (qFa×qFa×qFa×qFa×Int))(x2:List (qFa))(x18:Int)(x0:qFa):=lp fun r s=>va F self x2 x18 x0 r s.1 s.2.1 s.2.2.1 s.2.2.2.1 s.2.2.2.2.1 s.2.2.2.2.2
def q8:Nat→(List (qFa))→(qFa)→(qFa)→(qFa)→(qFa)→Int→Int→Option (qFa×qFa×qFa×qFa×Int)
  | 0=>fun _ _ _ _ _ _ _=>none
  | F+1=>fun x2 x5 x8 x11 x14 x17 x18 =>
    let self:=q8 F
    ((idx x5 x18).bind fun _x33=>((idx x8 x18).bind fun _x37=>(lett (x5.set x18.toNat (iadd .i64 x17 1)) fun x41=>(lett (x8.set x18.toNat (iadd .i64 x17 1)) fun x44=>((app 8796093022208 x11 ([x18]:qFa)).bind fun x49=>((idx x2 x18).bind fun x0=>zv F self x2 x18 x0 F (0,x41,x44,x49,x14,iadd .i64 x17 1)))))))
def qgb (_F:Nat)(_x265 _x268 _x271 x0:qFa)(_x275:Int):Option (qFa):=some x0
def vX (_F:Nat)(r9:(Int×qFa×qFa×qFa×qFa×Int)→Option (qFa))(x0:Int)(x1 x2 x3 x4:qFa)(x5:Int):Option (qFa):=r9 (iadd .i64 x0 1,x1,x2,x3,x4,x5)
def qdB (F:Nat)(x1:List (qFa))(r9:(Int×qFa×qFa×qFa×qFa×Int)→Option (qFa))(x0:Int)(x2 x3 x4 x5:qFa)(x6:Int):Option (qFa):=if decide (x0<(x1.length:Int)) then (idx x2 x0).bind fun x7=>if ((x7:Int) == 0) then (q8 F x1 x2 x3 x4 x5 x6 x0).bind fun x8=>vX F r9 x0 x8.1 x8.2.1 x8.2.2.1 x8.2.2.2.1 x8.2.2.2.2 else vX F r9 x0 x2 x3 x4 x5 x6 else qgb F x2 x3 x4 x5 x6
def j1 (F:Nat)(x1:List (qFa)):=lp fun r s=>qdB F x1 r s.1 s.2.1 s.2.2.1 s.2.2.2.1 s.2.2.2.2.1 s.2.2.2.2.2
def qE (F:Nat)(x1:List (qFa))(x0 x2 x3:qFa):Option (qFa):=j1 F x1 F (0,x0,x2,([]:qFa),x3,0)
def qax (F:Nat)(x1:List (qFa)):Option (qFa):=(mk 17592186044416 (0:Int) (x1.length:Int)).bind fun x0=>(mk 17592186044416 (0:Int) (x1.length:Int)).bind fun x2=>(qe F ([-1]:qFa) (x1.length:Int)).bind fun x3=>qE F x1 x0 x2 x3
def qdA (F:Nat)(x1:List (qFa)):Option (qFa×Int):=(kQ F x1).bind fun x7=>if ((x7:Int) != 0) then some (([]:qFa),x7) else (qax F x1).bind fun x8=>some (x8,0)
def jV (_F:Nat)(_x1:List (qFa)):Option Unit:=some ()
def zj (_F:Nat)(x1:qFa):Option (qFa):=if x1.length<4611686018427387904 then some (srt x1) else none
def zH (_F:Nat)(x1:qFa):Option (qFa):=if (Go.Lib.compact x1).length≤x1.length then some (Go.Lib.compact x1) else none
def qcq {σ τ:Type}(_F:Nat)(_yy:σ→(Int×Int)→Option (σ ⊕ τ))(r7:(Int×σ)→Option (σ ⊕ τ))(x0:Int)(x1:σ):Option (σ ⊕ τ):=r7 (iadd .i64 x0 1,x1)
def qbJ {σ τ:Type}(F:Nat)(yy:σ→(Int×Int)→Option (σ ⊕ τ))(r7:(Int×σ)→Option (σ ⊕ τ))(x0:Int)(x1:qFa)(r10:(Int×σ)→Option (σ ⊕ τ))(x2:Int)(x3:σ):Option (σ ⊕ τ):=if decide (x2<(x1.length:Int)) then (idx x1 x2).bind fun x4=>(yy x3 (x0,x4)).bind (Sum.elim (fun x5=>r10 (iadd .i64 x2 1,x5)) (fun x6=>some (.inr x6))) else qcq F yy r7 x0 x3
def jW {σ τ:Type}(F:Nat)(yy:σ→(Int×Int)→Option (σ ⊕ τ))(r7:(Int×σ)→Option (σ ⊕ τ))(x0:Int)(x1:qFa):=lp fun r s=>qbJ F yy r7 x0 x1 r s.1 s.2
def qcp {σ τ:Type}(F:Nat)(yy:σ→(Int×Int)→Option (σ ⊕ τ))(x2:List (qFa))(r7:(Int×σ)→Option (σ ⊕ τ))(x0:Int)(x1:σ):Option (σ ⊕ τ):=if decide (x0<(x2.length:Int)) then (idx x2 x0).bind fun x3=>jW F yy r7 x0 x3 F (0,x1) else some (.inl x1)
def kp {σ τ:Type}(F:Nat)(yy:σ→(Int×Int)→Option (σ ⊕ τ))(x2:List (qFa)):=lp fun r s=>qcp F yy x2 r s.1 s.2
def j9 {σ τ:Type}(F:Nat)(yy:σ→(Int×Int)→Option (σ ⊕ τ))(x2:List (qFa))(s0:σ):Option (σ ⊕ τ):=kp F yy x2 F (0,s0)
def qb1 (_F:Nat)(x0:List (qFa))(x1 x2:Int):Option (List (qFa) ⊕ Empty):=if ((x1:Int) != x2) then (idx x0 x1).bind fun x3=>(idx x0 x2).bind fun x4=>chk (decide (x2.toNat≠x1.toNat)) ((idx x0 x1).bind fun _x438=>(idx x0 x2).bind fun _x444=>(app 8796093022208 x3 ([x2]:qFa)).bind fun x5=>(app 8796093022208 x4 ([x1]:qFa)).bind fun x6=>lett (x0.set x1.toNat x5) fun x7=>lett (x7.set x2.toNat x6) fun x8=>some (.inl x8)) else some (.inl x0)
def qhH (_F:Nat)(x0:List (qFa)):Option (List (qFa)):=some x0
def qfu (F:Nat)(x0:List (qFa))(r5:(Int×List (qFa))→Option (List (qFa)))(x1:Int)(x2:List (qFa)):Option (List (qFa)):=if decide (x1<(x0.length:Int)) then (idx x2 x1).bind fun x3=>(zj F x3).bind fun x4=>chk (decide (x4.length=x3.length)) (lett (x2.set x1.toNat x4) fun x5=>(idx x5 x1).bind fun x6=>(idx x5 x1).bind fun _x871=>(zH F x6).bind fun x7=>lett (x5.set x1.toNat x7) fun x8=>r5 (iadd .i64 x1 1,x8)) else qhH F x2
def qfv (F:Nat)(x0:List (qFa)):=lp fun r s=>qfu F x0 r s.1 s.2
def qeC (F:Nat)(x1:List (qFa)):Option (List (qFa)):=(mk 4398046511104 (([]:qFa):qFa) (x1.length:Int)).bind fun x5=>(jV F x1).bind fun _x256=>(j9 F (fun (x0:List (qFa)) ((x2,x3):(Int×Int))=>qb1 F x0 x2 x3) x1 x5).bind (Sum.elim (fun (x0:List (qFa))=>qfv F x0 F (0,x0)) (fun t=>t.elim))
def qcZ (_F:Nat)(x5:qFa)(x0:Int):Option (Int×qFa):=some (x0,x5)
def vn (_F:Nat)(r38:(Int×Int)→Option (Int×qFa))(x0 x1:Int):Option (Int×qFa):=r38 (x1,iadd .i64 x0 1)
def vo (F:Nat)(r38:(Int×Int)→Option (Int×qFa))(x0 x1:Int)(x2:Bool):Option (Int×qFa):=if x2 then vn F r38 x1 x1 else vn F r38 x1 x0
def vp (F:Nat)(r38:(Int×Int)→Option (Int×qFa))(x0 x1:Int)(_x315 x2:Bool):Option (Int×qFa):=vo F r38 x0 x1 x2
def qap (F:Nat)(x5:qFa)(r38:(Int×Int)→Option (Int×qFa))(x0 x1:Int):Option (Int×qFa):=if decide (x1<(x5.length:Int)) then (idx x5 x1).bind fun x2=>if decide (0≤x2) then if decide (x0<0) then vp F r38 x0 x1 true true else (idx x5 x0).bind fun x3=>vp F r38 x0 x1 false (decide (x2<x3)) else vo F r38 x0 x1 false else qcZ F x5 x0
def kI (F:Nat)(x5:qFa):=lp fun r s=>qap F x5 r s.1 s.2
def vG (F:Nat)(_x2:List (qFa))(x5:qFa):Option (Int×qFa):=kI F x5 F (-1,0)
def jb (_F:Nat)(r3:(Int×qFa)→Option (qFa))(x54:Int)(x0:qFa):Option (qFa):=r3 (iadd .i64 x54 1,x0)
def qbv (F:Nat)(x15:qFa)(r3:(Int×qFa)→Option (qFa))(x54:Int)(x55:qFa):Option (qFa):=if decide (x54<(x15.length:Int)) then (idx x15 x54).bind fun x0=>(idx x55 x0).bind fun x1=>if decide (0≤x1) then (idx x55 x0).bind fun x2=>(idx x55 x0).bind fun _x119=>lett (x55.set x0.toNat (isub .i64 x2 1)) fun x3=>jb F r3 x54 x3 else jb F r3 x54 x55 else some x55
def jc (F:Nat)(x15:qFa):=lp fun r s=>qbv F x15 r s.1 s.2
def qaP (F:Nat)(x2:List (qFa))(x5:qFa)(x8:Int):Option (qFa):=(idx x5 x8).bind fun _x9=>lett (x5.set x8.toNat (-1)) fun x12=>(idx x2 x8).bind fun x15=>jc F x15 F (0,x12)
def qf1 (_F:Nat)(x0:qFa):Option (qFa×Int):=some (x0,0)
def qc9 (F:Nat)(x8:List (qFa))(r5:(qFa×Int×Int×qFa)→Option (qFa×Int))(x0:qFa)(x1 x2:Int)(x3:qFa):Option (qFa×Int):=if decide (0≤x2) then (idx x3 x2).bind fun x4=>(idx x0 x2).bind fun _x272=>lett (x0.set x2.toNat (imax x1 x4)) fun x5=>(qaP F x8 x3 x2).bind fun x6=>(vG F x8 x6).bind fun x7=>r5 (x5,imax x1 x4,x7.1,x7.2) else qf1 F x0
def qdb (F:Nat)(x8:List (qFa)):=lp fun r s=>qc9 F x8 r s.1 s.2.1 s.2.2.1 s.2.2.2
def qbC (F:Nat)(x8:List (qFa))(x86:qFa):Option (qFa×Int):=(mk 17592186044416 (0:Int) (x8.length:Int)).bind fun x87=>(vG F x8 x86).bind fun x0=>qdb F x8 F (x87,0,x0.1,x0.2)
def qda (F:Nat)(x8:List (qFa))(r6:(Int×qFa)→Option (qFa×Int))(x0:Int)(x1:qFa):Option (qFa×Int):=if decide (x0<(x8.length:Int)) then (idx x8 x0).bind fun x2=>(app 8796093022208 x1 ([(x2.length:Int)]:qFa)).bind fun x3=>r6 (iadd .i64 x0 1,x3) else qbC F x8 x1
def qdc (F:Nat)(x8:List (qFa)):=lp fun r s=>qda F x8 r s.1 s.2
def qc8 (F:Nat)(x1:List (qFa)):Option (qFa×Int):=(kQ F x1).bind fun x7=>if ((x7:Int) != 0) then some (([]:qFa),x7) else (qeC F x1).bind fun x8=>qdc F x8 F (0,([]:qFa))
def qaJ (_F:Nat)(_x2:List (qFa))(_x5 _x6 _x7:Int)(_x8 _x11:qFa):Option Unit:=some ()
def qaI (_F:Nat)(_x2:List (qFa))(_x5 _x6 _x7:Int)(_x8 _x11:qFa):Option Unit:=some ()
def qaQ (F:Nat)(x2:List (qFa))(x5 x6 x7:Int)(x8 x11:qFa):Option Unit:=(qaJ F x2 x5 x6 x7 x8 x11).bind fun _x13=>(qaI F x2 x5 x6 x7 x8 x11).bind fun _x16=>some ()
def qdS (_F:Nat)(x12:Int)(x14:List (qFa))(x0:qFa):Option (Bool×qFa):=some ((((x14.length:Int):Int) == x12),x0)
def je (_F:Nat)(r23:(Int×qFa)→Option (Bool×qFa))(x0:Int)(x1:qFa)(x2:(Int×Bool))(x3:Bool):Option (Bool×qFa):=if x3 then some (false,x1) else (app 8796093022208 x1 ([x2.1]:qFa)).bind fun x4=>r23 (iadd .i64 x0 1,x4)
def qbw (F:Nat)(x12:Int)(x14:List (qFa))(r23:(Int×qFa)→Option (Bool×qFa))(x0:Int)(x1:qFa):Option (Bool×qFa):=if decide (x0<(x14.length:Int)) then (idx x14 x0).bind fun x2=>(atoiE x2).bind fun x3=>if (((!x3.2) || decide (x3.1<0)) || decide (4<(x2.length:Int))) then je F r23 x0 x1 x3 true else (itoaC x3.1).bind fun x4=>je F r23 x0 x1 x3 (!(bstr x4 == bstr x2)) else qdS F x12 x14 x1
def jf (F:Nat)(x12:Int)(x14:List (qFa)):=lp fun r s=>qbw F x12 x14 r s.1 s.2
def qT (F:Nat)(_x2:List (qFa))(_x5 _x6 _x7:Int)(x8 _x11:qFa)(x12:Int)(x14:List (qFa)):Option (Bool×qFa):=jf F x12 x14 F (0,x8)
def qaR (_F:Nat)(x2:List (qFa))(_x5 _x6 _x7:Int)(x8 _x11:qFa):Option (Int×List (qFa)):=(idx x8 0).bind fun x16=>if decide (100<x16) then some (3,x2) else (idx x8 0).bind fun x19=>(mk 4398046511104 (([]:qFa):qFa) x19).bind fun x22=>some (0,x22)
def kR (_F:Nat)(x46:List (Int×Int))(x55 x56:Int):Option (List (Int×Int) ⊕ Empty):=(app 4398046511104 x46 ([(x55,x56)]:List (Int×Int))).bind fun x60=>some (.inl x60)
def zG (F:Nat)(x1:List (Int×Int))(x5:List (qFa)):Option (List (Int×Int)):=(j9 F (fun (x46:List (Int×Int)) ((x55,x56):(Int×Int))=>kR F x46 x55 x56) x5 x1).bind (Sum.elim (fun (x46:List (Int×Int))=>some x46) (fun t=>t.elim))
def zQ (F:Nat)(x2:List (qFa)):Option (List (Int×Int)):=(zG F ([]:List (Int×Int)) x2).bind fun x5=>some x5
def qe9 (F:Nat)(x1:List (qFa)):Option (List (Int×Int)×Int):=(kQ F x1).bind fun x7=>if ((x7:Int) != 0) then some (([]:List (Int×Int)),x7) else (jV F x1).bind fun _x8=>(zQ F x1).bind fun x10=>some (x10,0)
def qgS (_F:Nat)(x0:List (qFa)):Option (List (qFa)):=some x0
def qdZ (F:Nat)(x2:List (Int×Int))(r3:(Int×List (qFa))→Option (List (qFa)))(x0:Int)(x1:List (qFa)):Option (List (qFa)):=if decide (x0<(x2.length:Int)) then (idx x2 x0).bind fun x3=>(idx x1 x3.1).bind fun x4=>(idx x1 x3.1).bind fun _x316=>(app 8796093022208 x4 ([x3.2]:qFa)).bind fun x5=>lett (x1.set x3.1.toNat x5) fun x6=>r3 (iadd .i64 x0 1,x6) else qgS F x1
def qd0 (F:Nat)(x2:List (Int×Int)):=lp fun r s=>qdZ F x2 r s.1 s.2
def qcx (F:Nat)(x1:Int)(x2:List (Int×Int)):Option (List (qFa)):=(mk 4398046511104 (([]:qFa):qFa) x1).bind fun x6=>qd0 F x2 F (0,x6)
def zo (_F:Nat)(_x1:List (Int×Int)):Option Unit:=some ()
def qht (_F:Nat):Option Int:=some 0
def qba (F:Nat)(x1:qFa)(r3:Int→Option Int)(x46:Int):Option Int:=if decide (x46<(x1.length:Int)) then (idx x1 x46).bind fun x63=>if ((x63:Int) != 0) then some x63 else r3 (iadd .i64 x46 1) else qht F
def qeP (F:Nat)(x1:qFa):=lp fun r s=>qba F x1 r s
def qe6 (F:Nat)(x1:qFa):Option Int:=qeP F x1 F 0
def vC (_F:Nat)(x1:Int):Option Bool:=some ((x1:Int) != x1)
def jJ (F:Nat)(x1 x2:Int):Option Int:=(vC F x1).bind fun x3=>(vC F x2).bind fun x4=>if x3 then if x4 then some 0 else some (-1) else if x4 then some 1 else if decide (x1<x2) then some (-1) else if decide (x2<x1) then some 1 else some 0
def qen (F:Nat)(x1 x2 x3 x4:Int):Option Int:=(jJ F x1 x3).bind fun x12=>(jJ F x2 x4).bind fun x13=>(qe6 F ([x12,x13]:qFa)).bind fun x16=>some x16
def zR {σ τ:Type}(_F:Nat)(yy:σ→(Int×Int)→Option (σ ⊕ τ))(x2:List (Int×Int))(r1:(Int×σ)→Option (σ ⊕ τ))(x23:Int)(x24:σ):Option (σ ⊕ τ):=if decide (x23<(x2.length:Int)) then (idx x2 x23).bind fun x54=>(yy x24 (x54.1,x54.2)).bind (Sum.elim (fun x58=>r1 (iadd .i64 x23 1,x58)) (fun x59=>some (.inr x59))) else some (.inl x24)
def zl {σ τ:Type}(F:Nat)(yy:σ→(Int×Int)→Option (σ ⊕ τ))(x2:List (Int×Int)):=lp fun r s=>zR F yy x2 r s.1 s.2
def yn {σ τ:Type}(F:Nat)(yy:σ→(Int×Int)→Option (σ ⊕ τ))(x2:List (Int×Int))(s0:σ):Option (σ ⊕ τ):=zl F yy x2 F (0,s0)
def zp (_F:Nat)(x46:List (Int×Int))(x55 x56:Int):Option (List (Int×Int) ⊕ Empty):=(app 4398046511104 x46 ([(x55,x56)]:List (Int×Int))).bind fun x60=>some (.inl x60)
def qQ (F:Nat)(x1 x5:List (Int×Int)):Option (List (Int×Int)):=(yn F (fun (x46:List (Int×Int)) ((x55,x56):(Int×Int))=>zp F x46 x55 x56) x5 x1).bind (Sum.elim (fun (x46:List (Int×Int))=>some x46) (fun t=>t.elim))
def qO (F:Nat)(x2:List (Int×Int)):Option (List (Int×Int)):=(qQ F ([]:List (Int×Int)) x2).bind fun x5=>some x5
def zO (F:Nat)(x1:List (Int×Int)):Option (List (Int×Int)):=sortF (fun a b=>qen F a.1 a.2 b.1 b.2) x1
def qm (F:Nat)(x2:List (Int×Int)):Option (List (Int×Int)):=(qO F x2).bind fun x5=>(zO F x5).bind fun x8=>chk (decide (x8.length=x5.length)) (some x8)
def qgx (F:Nat)(x1:Int)(x2:List (Int×Int)):Option (List (qFa)×Int):=(zo F x2).bind fun _x122=>(qm F x2).bind fun x0=>(qcx F x1 x0).bind fun x3=>some (x3,0)
def qgw (F:Nat)(x1:Int)(x2:List (Int×Int))(r3:(Int×List (Int×Int))→Option (List (qFa)×Int))(x0:Int)(x3:List (Int×Int)):Option (List (qFa)×Int):=if decide (x0<(x2.length:Int)) then (idx x2 x0).bind fun x4=>if (((decide (x4.1<0) || decide (x1≤x4.1)) || decide (x4.2<0)) || decide (x1≤x4.2)) then some (([]:List (qFa)),3) else if decide (((x4.1,x4.2):Int×Int)∈x3) then some (([]:List (qFa)),6) else (sins x3 (x4.1,x4.2)).bind fun x5=>r3 (iadd .i64 x0 1,x5) else qgx F x1 x2
def qgy (F:Nat)(x1:Int)(x2:List (Int×Int)):=lp fun r s=>qgw F x1 x2 r s.1 s.2
def qg7 (F:Nat)(x1:Int)(x2:List (Int×Int)):Option (List (qFa)×Int):=if (decide (x1<0) || decide (100<x1)) then some (([]:List (qFa)),3) else if decide (600<(x2.length:Int)) then some (([]:List (qFa)),2) else qgy F x1 x2 F (0,([]:List (Int×Int)))
def qcj (F:Nat)(x2:List (qFa))(_x5 _x6 _x7:Int)(x8 _x11:qFa):Option (Int×List (qFa)):=(qe9 F x2).bind fun x12=>(idx x8 0).bind fun x31=>(idx x8 1).bind fun x35=>(app 4398046511104 x12.1 ([(x31,x35)]:List (Int×Int))).bind fun x41=>(qg7 F (x2.length:Int) x41).bind fun x44=>some (x44.2,x44.1)
def vg (_F:Nat)(x1:Int)(x4:List (qFa))(_x7 _x8 _x9:Int)(_x10 _x13:qFa):Option Bool:=some (decide ((x4.length:Int)≤x1))
def kV (_F:Nat):Option Int:=some (-1)
def qB (F:Nat)(x1:qFa)(x6:List (qFa))(x9 x10 x11:Int)(x12 x15:qFa)(r3:Int→Option Int)(x66:Int):Option Int:=if decide (x66<(x1.length:Int)) then (idx x1 x66).bind fun x86=>(vg F x86 x6 x9 x10 x11 x12 x15).bind fun x89=>if x89 then some x66 else r3 (iadd .i64 x66 1) else kV F
def qH (F:Nat)(x1:qFa)(x6:List (qFa))(x9 x10 x11:Int)(x12 x15:qFa):=lp fun r s=>qB F x1 x6 x9 x10 x11 x12 x15 r s
def zg (F:Nat)(x1:qFa)(x6:List (qFa))(x9 x10 x11:Int)(x12 x15:qFa):Option Int:=qH F x1 x6 x9 x10 x11 x12 x15 F 0
def qZ (F:Nat)(x1:qFa)(x6:List (qFa))(x9 x10 x11:Int)(x12 x15:qFa):Option Bool:=(zg F x1 x6 x9 x10 x11 x12 x15).bind fun x16=>some (decide (0≤x16))
def ka (F:Nat)(x2:List (qFa))(x5 x6 x7:Int)(x8 x11 x12:qFa):Option Bool:=(qZ F x12 x2 x5 x6 x7 x8 x11).bind fun x16=>some (!x16)
def vw (_F:Nat)(x1:qFa)(x4 x5:Int):Option (qFa):=if 0≤x4∧x4≤x5∧x5≤(x1.length:Int)∧0<x1.length then some (x1.take x4.toNat++x1.drop x5.toNat) else none
def vq (F:Nat)(x2:List (qFa))(x5 x6 x7:Int)(x8 x11:qFa):Option (Int×List (qFa)):=(ka F x2 x5 x6 x7 x8 x11 x8).bind fun x14=>if (!x14) then some (3,x2) else (idx x8 0).bind fun x25=>(idx x2 x25).bind fun x29=>(idx x8 1).bind fun x35=>(zE F x29 x35).bind fun x38=>if decide (x38<0) then some (5,x2) else (idx x2 x25).bind fun _x61=>(vw F x29 x38 (iadd .i64 x38 1)).bind fun x67=>lett (x2.set x25.toNat x67) fun x70=>some (0,x70)
def qcl (F:Nat)(_x2:List (qFa))(_x5 _x6 _x7:Int)(x8 _x11:qFa):Option (Int×Int×Int×Int):=(idx x8 0).bind fun x24=>(idx x8 1).bind fun x28=>(idx x8 2).bind fun x32=>(vJ F x24 x28 x32).bind fun x36=>some (x36,x24,x28,x32)
def y9 (_F:Nat)(x1:qFa):Option (qFa):=(app 70368744177664 ([]:qFa) x1).bind fun x8=>some x8
def qft (F:Nat)(x1:Int)(x2:qFa):Option (Int×qFa):=(y9 F x2).bind fun x10=>some (x1,x10)
def qgj (_F:Nat)(_x1:Int)(_x2:qFa)(_x5 _x6:Int):Option Unit:=some ()
def vf (_F:Nat)(x2 x6:Int)(x15:qFa):Option (Int×qFa):=(idx x15 (iquo .i64 x2 8)).bind fun x30=>chk (decide (0≤(irem x2 8))) ((idx x15 (iquo .i64 x2 8)).bind fun _x36=>lett (x15.set (iquo .i64 x2 8).toNat (ior .u8 x30 (ishr .u8 (iconv .u8 (ishl .u64 x6 7)) (irem x2 8)))) fun x41=>some (iadd .i64 x2 1,x41))
def jH (F:Nat)(x2:Int)(x3:qFa)(x6:Int):Option (Int×qFa):=if (((irem x2 8):Int) == 0) then (app 70368744177664 x3 ([0]:qFa)).bind fun x46=>vf F x2 x6 x46 else vf F x2 x6 x3
def qbs (_F:Nat)(_x1:Int)(x2:qFa)(x5:Int):Option Int:=(idx x2 (iquo .i64 x5 8)).bind fun x7=>chk (decide (0≤(isub .i64 7 (irem x5 8)))) (lett (iand .u64 (iconv .u64 (ishr .u8 x7 (isub .i64 7 (irem x5 8)))) 1) fun x11=>some x11)
def qaO {σ τ:Type}(F:Nat)(yy:σ→Int→Option (σ ⊕ τ))(x4 x6:Int)(x7:qFa)(r1:(Int×σ)→Option (σ ⊕ τ))(x22:Int)(x23:σ):Option (σ ⊕ τ):=if decide (x22<x4) then (qbs F x6 x7 x22).bind fun x44=>(yy x23 x44).bind (Sum.elim (fun x45=>r1 (iadd .i64 x22 1,x45)) (fun x46=>some (.inr x46))) else some (.inl x23)
def ya {σ τ:Type}(F:Nat)(yy:σ→Int→Option (σ ⊕ τ))(x4 x6:Int)(x7:qFa):=lp fun r s=>qaO F yy x4 x6 x7 r s.1 s.2
def qeO {σ τ:Type}(F:Nat)(yy:σ→Int→Option (σ ⊕ τ))(x2 x4 x6:Int)(x7:qFa)(s0:σ):Option (σ ⊕ τ):=ya F yy x4 x6 x7 F (x2,s0)
def qb0 (F:Nat)(x45:Int)(x48:qFa)(x53:Int):Option ((Int×qFa) ⊕ Empty):=(jH F x45 x48 x53).bind fun x54=>some (.inl (x54.1,x54.2))
def qaH (F:Nat)(x1:Int)(x2:qFa)(x5:Int)(x6:qFa):Option (Int×qFa):=(qft F x1 x2).bind fun x12=>(qgj F x5 x6 0 x5).bind fun _x37=>(qeO F (fun ((x45,x48):(Int×qFa)) (x53:Int)=>qb0 F x45 x48 x53) 0 x5 x5 x6 (x12.1,x12.2)).bind (Sum.elim (fun ((x45,x48):(Int×qFa))=>some (x45,x48)) (fun t=>t.elim))
def yd (F:Nat)(x6:Int)(r1:(Int×Int×qFa)→Option (Int×qFa))(x18 x19:Int)(x22:qFa):Option (Int×qFa):=if decide (0≤x18) then chk (decide (0≤x18)) ((jH F x19 x22 (iand .u64 (ishr .u64 x6 x18) 1)).bind fun x40=>r1 (isub .i64 x18 1,x40.1,x40.2)) else some (x19,x22)
def qam (F:Nat)(x6:Int):=lp fun r s=>yd F x6 r s.1 s.2.1 s.2.2
def jI (F:Nat)(x2:Int)(x3:qFa)(x6 x7:Int):Option (Int×qFa):=qam F x6 F (isub .i64 x7 1,x2,x3)
def vQ (F:Nat)(x1:Int)(x2:qFa)(x5 x6:Int):Option (Int×qFa):=(qft F x1 x2).bind fun x9=>(jI F x9.1 x9.2 x5 x6).bind fun x13=>some (x13.1,x13.2)
def vj (_F:Nat)(x9 x10:Int):Option Int:=(idx ([0,1,2,2,3,3,3,3,4,4,4,4,4,4,4,4,5,5,5,5,5,5,5,5,5,5,5,5,5,5,5,5,6,6,6,6,6,6,6,6,6,6,6,6,6,6,6,6,6,6,6,6,6,6,6,6,6,6,6,6,6,6,6,6,7,7,7,7,7,7,7,7,7,7,7,7,7,7,7,7,7,7,7,7,7,7,7,7,7,7,7,7,7,7,7,7,7,7,7,7,7,7,7,7,7,7,7,7,7,7,7,7,7,7,7,7,7,7,7,7,7,7,7,7,7,7,7,7,8,8,8,8,8,8,8,8,8,8,8,8,8,8,8,8,8,8,8,8,8,8,8,8,8,8,8,8,8,8,8,8,8,8,8,8,8,8,8,8,8,8,8,8,8,8,8,8,8,8,8,8,8,8,8,8,8,8,8,8,8,8,8,8,8,8,8,8,8,8,8,8,8,8,8,8,8,8,8,8,8,8,8,8,8,8,8,8,8,8,8,8,8,8,8,8,8,8,8,8,8,8,8,8,8,8,8,8,8,8,8,8,8,8,8,8,8,8,8,8,8,8,8,8,8,8,8,8]:qFa) (iconv .u8 x9)).bind fun x11=>some (iadd .i64 x10 (iconv .i64 x11))
def vi (F:Nat)(x6 x7:Int):Option Int:=if decide (256≤x6) then vj F (ishr .u64 x6 8) (iadd .i64 x7 8) else vj F x6 x7
def vh (F:Nat)(x3 x4:Int):Option Int:=if decide (65536≤x3) then vi F (ishr .u64 x3 16) (iadd .i64 x4 16) else vi F x3 x4
def vu (F:Nat)(x1:Int):Option Int:=if decide (4294967296≤x1) then vh F (ishr .u64 x1 32) 32 else vh F x1 0
def qe7 (F:Nat)(x1:Int):Option Int:=(vu F (iadd .u64 x1 1)).bind fun x2=>some (isub .i64 x2 1)
def qeG (F:Nat)(x1:Int):Option (Int×qFa):=(mk 140737488355328 (0:Int) (iquo .u64 (iadd .u64 x1 7) 8)).bind fun x3=>(vQ F (iconv .i64 x1) x3 1 1).bind fun x6=>some (x6.1,x6.2)
def qf2 (_F:Nat)(x1 x2:Int):Option Int:=chk (decide (0≤x2)) (lett (iand .u64 x1 (isub .u64 (ishl .u64 1 x2) 1)) fun x4=>some x4)
def qaq (F:Nat)(x1:Int):Option (Int×qFa):=(qe7 F x1).bind fun x3=>(qeG F (iconv .u64 x3)).bind fun x4=>(qf2 F (iadd .u64 x1 1) x3).bind fun x7=>(vQ F x4.1 x4.2 x7 x3).bind fun x8=>some (x8.1,x8.2)
def qeE (_F:Nat)(x1:Int):Option Bool:=some (decide (0≤x1) && decide (x1≤1048576))
def qhw (_F:Nat):Option Int:=some 0
def qeT (F:Nat)(x1:qFa)(r3:(Int×Int)→Option Int)(x88 x89:Int):Option Int:=if decide (x89<(x1.length:Int)) then (idx x1 x89).bind fun x0=>(qeE F x0).bind fun x2=>if (!x2) then some 3 else if decide (x0≤x88) then some 4 else r3 (x0,iadd .i64 x89 1) else qhw F
def qeU (F:Nat)(x1:qFa):=lp fun r s=>qeT F x1 r s.1 s.2
def jU (F:Nat)(x1:qFa):Option Int:=if decide (300<(x1.length:Int)) then some 2 else qeU F x1 F (-1,0)
def j3 (F:Nat)(x2:Int)(x3:qFa)(x7:Int)(x8:qFa)(x13:Bool):Option (Int×qFa×Bool):=if (!x13) then (qaH F x2 x3 x7 x8).bind fun x14=>some (x14.1,x14.2,x13) else some (x2,x3,x13)
def vx (F:Nat)(x2:Int)(x3:qFa)(x6:Bool)(x7:Int)(x8:qFa):Option (Int×qFa×Bool):=if x6 then j3 F x2 x3 x7 x8 true else j3 F x2 x3 x7 x8 (decide (8192<(iadd .i64 x2 x7)))
def zm (F:Nat)(x2:Int)(x3:qFa)(x6:Bool)(x7:Int):Option (Int×qFa×Bool):=(qaq F (iconv .u64 x7)).bind fun x8=>(vx F x2 x3 x6 x8.1 x8.2).bind fun x11=>some (x11.1,x11.2.1,x11.2.2)
def qbB (_F:Nat)(x1 x2:Int)(x6:Bool):Option Bool:=some (x6 || decide (x1<x2))
def qc7 (F:Nat)(x1 x2:Int):Option Bool:=(vC F x1).bind fun x3=>if x3 then (vC F x2).bind fun x8=>qbB F x1 x2 (!x8) else qbB F x1 x2 false
def qa0 (_F:Nat)(x1:Int):Option Bool:=some ((x1:Int) != x1)
def yu (_F:Nat)(x32:Int)(x55:Bool):Option (Int×Bool):=some (x32,x55)
def yv (F:Nat)(x32:Int)(x68:Bool):Option (Int×Bool):=yu F x32 x68
def yw (F:Nat)(x32:Int)(x75:Bool):Option (Int×Bool):=yv F x32 x75
def yr (F:Nat)(x1:qFa)(x4 x32:Int):Option (Int×Bool):=if decide (x32<(x1.length:Int)) then (idx x1 x32).bind fun x56=>if ((x56:Int) == x4) then yv F x32 true else (idx x1 x32).bind fun x69=>(qa0 F x69).bind fun x72=>if x72 then (qa0 F x4).bind fun x76=>yw F x32 x76 else yw F x32 false else yu F x32 false
def yl (F:Nat)(x1:qFa)(x4:Int)(r10:(Int×Int)→Option (Int×Bool))(x85 x86:Int):Option (Int×Bool):=if decide (x85<x86) then lett (iconv .i64 (ishr .u64 (iconv .u64 (iadd .i64 x85 x86)) 1)) fun x97=>(idx x1 x97).bind fun x98=>(qc7 F x98 x4).bind fun x0=>if x0 then r10 (iadd .i64 x97 1,x86) else r10 (x85,x97) else yr F x1 x4 x85
def ym (F:Nat)(x1:qFa)(x4:Int):=lp fun r s=>yl F x1 x4 r s.1 s.2
def zB (F:Nat)(x1:qFa)(x4:Int):Option (Int×Bool):=ym F x1 x4 F (0,(x1.length:Int))
def jg (_F:Nat)(x21:qFa)(x22:Bool)(x23:Int):Option (qFa×Bool×Int):=some (x21,x22,iadd .i64 x23 1)
def qaY (F:Nat)(x2:qFa)(x5:Bool)(x6:Int)(x7:Bool):Option (qFa×Bool×Int):=if (x7 != x5) then (app 8796093022208 x2 ([x6]:qFa)).bind fun x31=>jg F x31 x7 0 else jg F x2 x5 x6
def qfJ (_F:Nat)(x66 x0:qFa):Option (qFa×qFa):=some (x66,x0)
def qcK (_F:Nat)(r10:(qFa×Int)→Option (qFa×qFa))(x0:Int)(x1:qFa):Option (qFa×qFa):=r10 (x1,iadd .i64 x0 1)
def qeY (F:Nat)(x1 x4 x66:qFa)(r10:(qFa×Int)→Option (qFa×qFa))(x0:qFa)(x2:Int):Option (qFa×qFa):=if decide (x2<(x4.length:Int)) then (idx x4 x2).bind fun x3=>(zB F x1 x3).bind fun x5=>if (!x5.2) then (app 8796093022208 x0 ([x3]:qFa)).bind fun x6=>qcK F r10 x2 x6 else qcK F r10 x2 x0 else qfJ F x66 x0
def qcL (F:Nat)(x1 x4 x66:qFa):=lp fun r s=>qeY F x1 x4 x66 r s.1 s.2
def qfI (F:Nat)(x1 x4 x66:qFa)(_x67:Bool)(_x68:Int):Option (qFa×qFa):=qcL F x1 x4 x66 F (([]:qFa),0)
def qeZ (F:Nat)(x1 x4:qFa)(r12:(Int×qFa×Bool×Int)→Option (qFa×qFa))(x0:Int)(x2:qFa)(x3:Bool)(x5:Int):Option (qFa×qFa):=if decide (x0<(x1.length:Int)) then (idx x1 x0).bind fun x6=>(zB F x4 x6).bind fun x7=>(qaY F x2 x3 x5 x7.2).bind fun x8=>r12 (iadd .i64 x0 1,x8.1,x8.2.1,x8.2.2) else qfI F x1 x4 x2 x3 x5
def qe0 (F:Nat)(x1 x4:qFa):=lp fun r s=>qeZ F x1 x4 r s.1 s.2.1 s.2.2.1 s.2.2.2
def qf9 (F:Nat)(x1 x4:qFa):Option (qFa×qFa):=qe0 F x1 x4 F (0,([]:qFa),true,0)
def qaA (F:Nat)(x7:qFa)(r1:(Int×Int×qFa×Bool)→Option (Int×qFa×Bool))(x27 x28:Int)(x31:qFa)(x32:Bool):Option (Int×qFa×Bool):=if decide (x27<(x7.length:Int)) then (idx x7 x27).bind fun x55=>(zm F x28 x31 x32 (isub .i64 x55 (imin x27 1))).bind fun x58=>r1 (iadd .i64 x27 1,x58.1,x58.2.1,x58.2.2) else some (x28,x31,x32)
def qaB (F:Nat)(x7:qFa):=lp fun r s=>qaA F x7 r s.1 s.2.1 s.2.2.1 s.2.2.2
def j4 (F:Nat)(x2:Int)(x3:qFa)(x6:Bool)(x7:qFa):Option (Int×qFa×Bool):=(zm F x2 x3 x6 (x7.length:Int)).bind fun x10=>qaB F x7 F (0,x10.1,x10.2.1,x10.2.2)
def qhJ (_F:Nat)(_x1:qFa):Option Unit:=some ()
def qbQ {σ τ:Type}(_F:Nat)(yy:σ→(Int×Int)→Option (σ ⊕ τ))(r31:(Int×σ)→Option (σ ⊕ τ))(x2:qFa)(x0:Int)(x1:σ)(x3:Int):Option (σ ⊕ τ):=(idx x2 x0).bind fun x4=>(yy x1 (x4,x3)).bind (Sum.elim (fun x5=>r31 (iadd .i64 x0 x3,x5)) (fun x6=>some (.inr x6)))
def qbR {σ τ:Type}(F:Nat)(yy:σ→(Int×Int)→Option (σ ⊕ τ))(r31:(Int×σ)→Option (σ ⊕ τ))(r44:Int→Option (σ ⊕ τ))(x2:qFa)(x0:Int)(x1:σ)(x3:Int)(x4:Bool):Option (σ ⊕ τ):=if x4 then r44 (iadd .i64 x3 1) else qbQ F yy r31 x2 x0 x1 x3
def qbP {σ τ:Type}(F:Nat)(yy:σ→(Int×Int)→Option (σ ⊕ τ))(r31:(Int×σ)→Option (σ ⊕ τ))(x2:qFa)(x0:Int)(x1:σ)(r44:Int→Option (σ ⊕ τ))(x3:Int):Option (σ ⊕ τ):=if decide ((iadd .i64 x0 x3)<(x2.length:Int)) then (idx x2 (iadd .i64 x0 x3)).bind fun x4=>(idx x2 x0).bind fun x5=>qbR F yy r31 r44 x2 x0 x1 x3 ((x4:Int) == (iadd .i64 x5 x3)) else qbR F yy r31 r44 x2 x0 x1 x3 false
def vv {σ τ:Type}(F:Nat)(yy:σ→(Int×Int)→Option (σ ⊕ τ))(r31:(Int×σ)→Option (σ ⊕ τ))(x2:qFa)(x0:Int)(x1:σ):=lp fun r s=>qbP F yy r31 x2 x0 x1 r s
def qbO {σ τ:Type}(F:Nat)(yy:σ→(Int×Int)→Option (σ ⊕ τ))(x2:qFa)(r31:(Int×σ)→Option (σ ⊕ τ))(x0:Int)(x1:σ):Option (σ ⊕ τ):=if decide (x0<(x2.length:Int)) then vv F yy r31 x2 x0 x1 F 1 else some (.inl x1)
def zy {σ τ:Type}(F:Nat)(yy:σ→(Int×Int)→Option (σ ⊕ τ))(x2:qFa):=lp fun r s=>qbO F yy x2 r s.1 s.2
def qcA {σ τ:Type}(F:Nat)(yy:σ→(Int×Int)→Option (σ ⊕ τ))(x2:qFa)(s0:σ):Option (σ ⊕ τ):=zy F yy x2 F (0,s0)
def qgz (_F:Nat)(x0:List (Int×Int))(x1 x2:Int)(r8:(Int×qFa)→Option ((qFa×List (Int×Int)) ⊕ Empty))(x3:Int)(x4:qFa):Option ((qFa×List (Int×Int)) ⊕ Empty):=if decide (x3<x2) then (app 8796093022208 x4 ([iadd .i64 x1 x3]:qFa)).bind fun x5=>r8 (iadd .i64 x3 1,x5) else some (.inl (x4,x0))
def qgA (F:Nat)(x0:List (Int×Int))(x1 x2:Int):=lp fun r s=>qgz F x0 x1 x2 r s.1 s.2
def qcz (F:Nat)(x4:Int)(x0:qFa)(x1:List (Int×Int))(x2 x3:Int):Option ((qFa×List (Int×Int)) ⊕ Empty):=if decide (x4≤x3) then (app 4398046511104 x1 ([(x2,x3)]:List (Int×Int))).bind fun x5=>some (.inl (x0,x5)) else qgA F x1 x2 x3 F (0,x0)
def qg9 (F:Nat)(x1:qFa)(x4:Int):Option (List (Int×Int)×qFa):=(qhJ F x1).bind fun _x188=>(qcA F (fun ((x0,x2):(qFa×List (Int×Int))) ((x3,x5):(Int×Int))=>qcz F x4 x0 x2 x3 x5) x1 (([]:qFa),([]:List (Int×Int)))).bind (Sum.elim (fun ((x0,x2):(qFa×List (Int×Int)))=>some (x2,x0)) (fun t=>t.elim))
def qcD (_F:Nat)(x1:Int):Option Int:=lett (ixor .u64 (ishl .u64 (iconv .u64 x1) 1) (iconv .u64 (ishr .i64 x1 63))) fun x2=>some x2
def yV (F:Nat)(r5:(Int×Int×Int×qFa×Bool)→Option (Int×qFa×Bool))(x8 x74:Int)(x0:(Int×Int))(x1:Int)(x2:qFa)(x3:Bool):Option (Int×qFa×Bool):=(zm F x1 x2 x3 (isub .i64 x0.2 x8)).bind fun x4=>r5 (isub .i64 (iadd .i64 x0.1 x0.2) 1,iadd .i64 x74 1,x4.1,x4.2.1,x4.2.2)
def qbA (F:Nat)(x8:Int)(x9:List (Int×Int))(r5:(Int×Int×Int×qFa×Bool)→Option (Int×qFa×Bool))(x73 x74 x75:Int)(x78:qFa)(x79:Bool):Option (Int×qFa×Bool):=if decide (x74<(x9.length:Int)) then (idx x9 x74).bind fun x0=>if ((x74:Int) == 0) then (qcD F (isub .i64 x0.1 x73)).bind fun x1=>(zm F x75 x78 x79 (iconv .i64 x1)).bind fun x2=>yV F r5 x8 x74 x0 x2.1 x2.2.1 x2.2.2 else (zm F x75 x78 x79 (isub .i64 (isub .i64 x0.1 x73) 2)).bind fun x3=>yV F r5 x8 x74 x0 x3.1 x3.2.1 x3.2.2 else some (x75,x78,x79)
def yW (F:Nat)(x8:Int)(x9:List (Int×Int)):=lp fun r s=>qbA F x8 x9 r s.1 s.2.1 s.2.2.1 s.2.2.2.1 s.2.2.2.2
def qa5 (F:Nat)(x2:Int)(x3:qFa)(x6:Bool)(x7 x8:Int)(x9:List (Int×Int)):Option (Int×qFa×Bool):=(zm F x2 x3 x6 (x9.length:Int)).bind fun x12=>yW F x8 x9 F (x7,0,x12.1,x12.2.1,x12.2.2)
def qem (F:Nat)(x1 x2:Int):Option (Int×Int×Int):=(vu F (iadd .u64 x1 1)).bind fun x3=>chk ((x2:Int) != 0) (chk (decide (0≤(imul .i64 (iquo .i64 (isub .i64 x3 1) x2) x2))) (chk (decide (0≤(iadd .i64 (imul .i64 (iquo .i64 (isub .i64 x3 1) x2) x2) x2))) (some (iquo .i64 (isub .i64 x3 1) x2,ishl .u64 1 (imul .i64 (iquo .i64 (isub .i64 x3 1) x2) x2),ishl .u64 1 (iadd .i64 (imul .i64 (iquo .i64 (isub .i64 x3 1) x2) x2) x2)))))
def qb7 (F:Nat)(x1:Int):Option (Int×Int):=(vu F (isub .u64 x1 1)).bind fun x2=>chk (decide (0≤x2)) (some (x2,isub .u64 (ishl .u64 1 x2) x1))
def qbI (F:Nat)(x1:Int)(x2:qFa)(x5 x6:Int):Option (Int×qFa):=(qb7 F x6).bind fun x9=>if decide (x5<x9.2) then (vQ F x1 x2 x5 (isub .i64 x9.1 1)).bind fun x14=>some (x14.1,x14.2) else (vQ F x1 x2 (iadd .u64 x5 x9.2) x9.1).bind fun x17=>some (x17.1,x17.2)
def qel (F:Nat)(x1 x2:Int):Option (Int×qFa×Int):=if ((decide (x2<1) || decide (16<x2)) || decide (1099511627776<x1)) then some (0,([]:qFa),3) else (qem F x1 x2).bind fun x9=>(qeG F (iconv .u64 x9.1)).bind fun x10=>(qbI F x10.1 x10.2 (isub .u64 (iadd .u64 x1 1) x9.2.1) (isub .u64 x9.2.2 x9.2.1)).bind fun x13=>some (x13.1,x13.2,0)
def qiv (_F:Nat)(x0:Int)(x1:qFa):Option (Int×qFa×Bool):=some (x0,x1,true)
def qgr (F:Nat)(x5:qFa)(x8:Int)(r3:(Int×Int×qFa)→Option (Int×qFa×Bool))(x0 x1:Int)(x2:qFa):Option (Int×qFa×Bool):=if decide (x0<(x5.length:Int)) then (idx x5 x0).bind fun x3=>(qel F x3 x8).bind fun x4=>if (((x4.2.2:Int) != 0) || decide (8192<(iadd .i64 x1 x4.1))) then some (0,([]:qFa),false) else (qaH F x1 x2 x4.1 x4.2.1).bind fun x6=>r3 (iadd .i64 x0 1,x6.1,x6.2) else qiv F x1 x2
def qgs (F:Nat)(x5:qFa)(x8:Int):=lp fun r s=>qgr F x5 x8 r s.1 s.2.1 s.2.2
def qcP (F:Nat)(x1:Int)(x2 x5:qFa)(x8:Int):Option (Int×qFa×Bool):=qgs F x5 x8 F (0,x1,x2)
def qb6 (_F:Nat)(x4 x8:Int):Option (Int×Int×Bool):=some (x8,x4,true)
def qbG (F:Nat)(x2:Int)(x3:Bool)(x4:Int):Option (Int×Int×Bool):=if x3 then lett (iconv .u64 (isub .i64 (isub .i64 x4 x2) 1)) fun x9=>qb6 F x4 x9 else (qcD F (isub .i64 x4 x2)).bind fun x10=>qb6 F x4 x10
def qgu (_F:Nat)(x75:qFa):Option (qFa):=some x75
def qgt (F:Nat)(x1:qFa)(r3:(qFa×Int×Int×Bool)→Option (qFa))(x98:qFa)(x99 x0:Int)(x2:Bool):Option (qFa):=if decide (x99<(x1.length:Int)) then (idx x1 x99).bind fun x3=>(qbG F x0 x2 x3).bind fun x4=>(app 8796093022208 x98 ([x4.1]:qFa)).bind fun x5=>r3 (x5,iadd .i64 x99 1,x4.2.1,x4.2.2) else qgu F x98
def qgv (F:Nat)(x1:qFa):=lp fun r s=>qgt F x1 r s.1 s.2.1 s.2.2.1 s.2.2.2
def qfF (F:Nat)(x1:qFa)(x4:Int):Option (qFa):=qgv F x1 F (([]:qFa),0,x4,false)
def yU (F:Nat)(x52:Int)(x55:qFa)(x56 x76:Bool)(x77:Int)(x80:qFa):Option (Int×qFa×Bool):=(vx F x52 x55 (x56 || (!x76)) x77 x80).bind fun x82=>some (x82.1,x82.2.1,x82.2.2)
def yT (F:Nat)(x7 x16:Int)(x51:qFa)(x52:Int)(x55:qFa)(x56:Bool):Option (Int×qFa×Bool):=(qfF F x51 x7).bind fun x85=>(qcP F 0 ([]:qFa) x85 x16).bind fun x88=>yU F x52 x55 x56 x88.2.2 x88.1 x88.2.1
def yS (F:Nat)(x7 x15 x16:Int)(x33:qFa)(x34:Int)(x37:qFa)(x38:Bool):Option (Int×qFa×Bool):=if (((x33.length:Int):Int) == 0) then some (x34,x37,x38) else if decide (0<x15) then (qg9 F x33 x15).bind fun x0=>(qa5 F x34 x37 x38 x7 x15 x0.1).bind fun x1=>yT F x7 x16 x0.2 x1.1 x1.2.1 x1.2.2 else yT F x7 x16 x33 x34 x37 x38
def v6 (F:Nat)(x2:Int)(x3:qFa)(x6:Bool)(x7:Int)(x8 x11:qFa)(x14 x15 x16:Int):Option (Int×qFa×Bool):=(zm F x2 x3 x6 (x8.length:Int)).bind fun x18=>if (((x8.length:Int):Int) == 0) then some (x18.1,x18.2.1,x18.2.2) else if decide (0<x14) then (qf9 F x11 x8).bind fun x0=>(j4 F x18.1 x18.2.1 x18.2.2 x0.1).bind fun x1=>yS F x7 x15 x16 x0.2 x1.1 x1.2.1 x1.2.2 else yS F x7 x15 x16 x8 x18.1 x18.2.1 x18.2.2
def qfg (F:Nat)(x1:Int)(x2:qFa)(x5 _x6 _x7:Int):Option Int:=if (decide (x1<0) || decide (1048576<x1)) then some 3 else if decide (0<x5) then (jU F x2).bind fun x14=>some x14 else some 0
def qbj (F:Nat)(x1:Int)(x2 x5:qFa)(x8 x9 x10 x25:Int):Option (Int×qFa×Int):=if ((x25:Int) != 0) then some (0,([]:qFa),x25) else (v6 F 0 ([]:qFa) false x1 x2 x5 x8 x9 x10).bind fun x28=>if x28.2.2 then some (0,([]:qFa),8) else some (x28.1,x28.2.1,0)
def qbi (F:Nat)(x1:Int)(x2 x5:qFa)(x8 x9 x10 x22:Int):Option (Int×qFa×Int):=if ((x22:Int) == 0) then (qfg F x1 x5 x8 x9 x10).bind fun x34=>qbj F x1 x2 x5 x8 x9 x10 x34 else qbj F x1 x2 x5 x8 x9 x10 x22
def qbh (F:Nat)(x1:Int)(x2 x5:qFa)(x8 x9 x10 x19:Int):Option (Int×qFa×Int):=if ((x19:Int) == 0) then (jU F x2).bind fun x36=>qbi F x1 x2 x5 x8 x9 x10 x36 else qbi F x1 x2 x5 x8 x9 x10 x19
def qbk (F:Nat)(x1:Int)(x2 x5:qFa)(x8 x9 x10 x13:Int)(x40:Bool):Option (Int×qFa×Int):=if x40 then qbh F x1 x2 x5 x8 x9 x10 3 else qbh F x1 x2 x5 x8 x9 x10 x13
def qff (F:Nat)(x1:Int)(x2 x5:qFa)(x8 x9 x10:Int):Option (Int×qFa×Int):=(vJ F x8 x9 x10).bind fun x13=>if ((x13:Int) == 0) then qbk F x1 x2 x5 x8 x9 x10 x13 (decide (x1<0) || decide (1048576<x1)) else qbk F x1 x2 x5 x8 x9 x10 x13 false
def qb9 (F:Nat)(x1:List (qFa))(x4:qFa)(x7 x9 x10 x18:Int)(x21 x29:qFa):Option (Int×Int×qFa×Bool):=(qff F (x1.length:Int) x4 x29 x7 x9 x10).bind fun x30=>if (((x30.2.2:Int) != 0) || decide (8192<(iadd .i64 x18 x30.1))) then some (0,0,([]:qFa),false) else (qaH F x18 x21 x30.1 x30.2.1).bind fun x37=>some (x7,x37.1,x37.2,true)
def qb8 (F:Nat)(x1:List (qFa))(x4:qFa)(x7 x9 x10 x18:Int)(x21:qFa):Option (Int×Int×qFa×Bool):=if decide (0<x7) then (idx x1 (isub .i64 (x1.length:Int) x7)).bind fun x41=>qb9 F x1 x4 x7 x9 x10 x18 x21 x41 else qb9 F x1 x4 x7 x9 x10 x18 x21 ([]:qFa)
def qf8 (F:Nat)(x1:List (qFa))(x4:qFa)(x7 x8 x9 x10:Int):Option (Int×Int×qFa×Bool):=if decide (0<x8) then (qaq F (iconv .u64 x7)).bind fun x46=>qb8 F x1 x4 x7 x9 x10 x46.1 x46.2 else qb8 F x1 x4 x7 x9 x10 0 ([]:qFa)
def qfH (_F:Nat)(x96:Bool)(x97 x98:Int)(x0:qFa):Option (Int×Int×qFa×Bool):=some (x97,x98,x0,x96)
def vD (_F:Nat)(r14:(Bool×Int×Int×Int×qFa)→Option (Int×Int×qFa×Bool))(x0:Int)(x1:Bool)(x2 x3:Int)(x4:qFa):Option (Int×Int×qFa×Bool):=r14 (x1,iadd .i64 x0 1,x2,x3,x4)
def qcJ (F:Nat)(r14:(Bool×Int×Int×Int×qFa)→Option (Int×Int×qFa×Bool))(x0:Bool)(x1 x2 x3:Int)(x4:qFa)(x5:(Int×Int×qFa×Bool))(x6:Bool):Option (Int×Int×qFa×Bool):=if x6 then vD F r14 x1 true x5.1 x5.2.1 x5.2.2.1 else vD F r14 x1 x0 x2 x3 x4
def qeV (F:Nat)(x1:List (qFa))(x4:qFa)(x7 x8 x9:Int)(r14:(Bool×Int×Int×Int×qFa)→Option (Int×Int×qFa×Bool))(x0:Bool)(x2 x3 x5:Int)(x6:qFa):Option (Int×Int×qFa×Bool):=if decide (x2<(iadd .i64 (imin x7 (x1.length:Int)) 1)) then (qf8 F x1 x4 x2 x7 x8 x9).bind fun x10=>if x10.2.2.2 then qcJ F r14 x0 x2 x3 x5 x6 x10 ((!x0) || decide (x10.2.1<x5)) else qcJ F r14 x0 x2 x3 x5 x6 x10 false else qfH F x0 x3 x5 x6
def vE (F:Nat)(x1:List (qFa))(x4:qFa)(x7 x8 x9:Int):=lp fun r s=>qeV F x1 x4 x7 x8 x9 r s.1 s.2.1 s.2.2.1 s.2.2.2.1 s.2.2.2.2
def qf7 (F:Nat)(x1:List (qFa))(x4:qFa)(x7 x8 x9:Int):Option (Int×Int×qFa×Bool):=vE F x1 x4 x7 x8 x9 F (false,0,0,0,([]:qFa))
def qaV (_F:Nat)(x2 x3 x4 x5 x0:Int)(x1 x6 x7:qFa):Option (Bool×Int×Int×Int×Int×Int×qFa×qFa×qFa):=some (true,x2,x3,x4,x5,x0,x1,x6,x7)
def yp (F:Nat)(r43:(Int×Int×qFa×qFa×qFa)→Option (Bool×Int×Int×Int×Int×Int×qFa×qFa×qFa))(x0 x1:Int)(x2:qFa)(x3:Int)(x4 x5 x6:qFa):Option (Bool×Int×Int×Int×Int×Int×qFa×qFa×qFa):=(qaH F x1 x2 x3 x4).bind fun x7=>r43 (iadd .i64 x0 1,x7.1,x7.2,x5,x6)
def yo (F:Nat)(r43:(Int×Int×qFa×qFa×qFa)→Option (Bool×Int×Int×Int×Int×Int×qFa×qFa×qFa))(x2 x3 x4 x5 x0 x1:Int)(x6 x7 x8:qFa)(x9 x10:Int)(x11:qFa)(x12:Bool):Option (Bool×Int×Int×Int×Int×Int×qFa×qFa×qFa):=if x12 then some (false,x2,x3,x4,x5,x1,x6,x7,x8) else (app 8796093022208 x7 ([x9]:qFa)).bind fun x13=>(app 8796093022208 x8 ([x1]:qFa)).bind fun x14=>yp F r43 x0 x1 x6 x10 x11 x13 x14
def vI (F:Nat)(r43:(Int×Int×qFa×qFa×qFa)→Option (Bool×Int×Int×Int×Int×Int×qFa×qFa×qFa))(x2 x3 x4 x5 x0 x1:Int)(x6 x7 x8:qFa)(x9:Bool)(x10 x11:Int)(x12:qFa):Option (Bool×Int×Int×Int×Int×Int×qFa×qFa×qFa):=if (!x9) then yo F r43 x2 x3 x4 x5 x0 x1 x6 x7 x8 x10 x11 x12 true else yo F r43 x2 x3 x4 x5 x0 x1 x6 x7 x8 x10 x11 x12 (decide (8192<(iadd .i64 x1 x11)))
def qaU (F:Nat)(x2 x3 x4 x5:Int)(x16:List (qFa))(r43:(Int×Int×qFa×qFa×qFa)→Option (Bool×Int×Int×Int×Int×Int×qFa×qFa×qFa))(x0 x1:Int)(x6 x7 x8:qFa):Option (Bool×Int×Int×Int×Int×Int×qFa×qFa×qFa):=if decide (x0<(x16.length:Int)) then (idx x16 x0).bind fun x9=>(sub x16 0 x0).bind fun x10=>(qf7 F x10 x9 x3 x4 x5).bind fun x11=>vI F r43 x2 x3 x4 x5 x0 x1 x6 x7 x8 x11.2.2.2 x11.1 x11.2.1 x11.2.2.1 else qaV F x2 x3 x4 x5 x1 x6 x7 x8
def zr (F:Nat)(x2 x3 x4 x5:Int)(x16:List (qFa)):=lp fun r s=>qaU F x2 x3 x4 x5 x16 r s.1 s.2.1 s.2.2.1 s.2.2.2.1 s.2.2.2.2
def qcQ (F:Nat)(x2 x3 x4 x5 x6:Int)(x7 x10 x13:qFa)(x16:List (qFa)):Option (Bool×Int×Int×Int×Int×Int×qFa×qFa×qFa):=zr F x2 x3 x4 x5 x16 F (0,x6,x7,x10,x13)
def vN (_F:Nat)(x48 x49 x50 x51 x52 x53:Int)(x56 x59 x62:qFa):Option (Int×Int×Int×Int×Int×qFa×qFa×qFa×Int):=some (x49,x50,x51,x52,x53,x56,x59,x62,x48)
def vO (F:Nat)(x12:Int)(x74:Bool)(x75 x76 x77 x78 x79:Int)(x82 x85 x88:qFa):Option (Int×Int×Int×Int×Int×qFa×qFa×qFa×Int):=if x74 then vN F 8 x75 x76 x77 x78 x79 x82 x85 x88 else vN F x12 x75 x76 x77 x78 x79 x82 x85 x88
def qat (F:Nat)(x1:List (qFa))(x4 x5 x6 x12:Int):Option (Int×Int×Int×Int×Int×qFa×qFa×qFa×Int):=if ((x12:Int) == 0) then (qcQ F (x1.length:Int) x4 x5 x6 0 ([]:qFa) ([]:qFa) ([]:qFa) x1).bind fun x90=>vO F x12 (!x90.1) x90.2.1 x90.2.2.1 x90.2.2.2.1 x90.2.2.2.2.1 x90.2.2.2.2.2.1 x90.2.2.2.2.2.2.1 x90.2.2.2.2.2.2.2.1 x90.2.2.2.2.2.2.2.2 else vO F x12 false (x1.length:Int) x4 x5 x6 0 ([]:qFa) ([]:qFa) ([]:qFa)
def qcy (F:Nat)(x1:List (qFa))(x4 x5 x6:Int):Option (Int×Int×Int×Int×Int×qFa×qFa×qFa×Int):=(kQ F x1).bind fun x9=>if ((x9:Int) == 0) then (vJ F x4 x5 x6).bind fun x97=>qat F x1 x4 x5 x6 x97 else qat F x1 x4 x5 x6 x9
def qaT (F:Nat)(x1:List (qFa))(x4 x5 x6:Int):Option (Int×Int×Int×Int×Int×qFa×Int):=(qcy F x1 x4 x5 x6).bind fun x10=>if ((x10.2.2.2.2.2.2.2.2:Int) != 0) then some (0,0,0,0,0,([]:qFa),x10.2.2.2.2.2.2.2.2) else some (x10.1,x10.2.1,x10.2.2.1,x10.2.2.2.1,x10.2.2.2.2.1,x10.2.2.2.2.2.1,0)
def jQ (_F:Nat)(x21 _x22 _x23 _x24 _x25 x26:Int)(_x29:qFa):Option (Int×qFa):=(itoaC x26).bind fun x30=>some (x21,x30)
def qbD (F:Nat)(x2:List (qFa))(x5 x6 x7:Int)(_x8 _x11:qFa):Option (Int×qFa):=(qaT F x2 x5 x6 x7).bind fun x31=>jQ F x31.2.2.2.2.2.2 x31.1 x31.2.1 x31.2.2.1 x31.2.2.2.1 x31.2.2.2.2.1 x31.2.2.2.2.2.1
def qeF (F:Nat)(x1:List (qFa))(x4 x5 x6:Int):Option (qFa×qFa×Int):=(qcy F x1 x4 x5 x6).bind fun x9=>if ((x9.2.2.2.2.2.2.2.2:Int) != 0) then some (([]:qFa),([]:qFa),x9.2.2.2.2.2.2.2.2) else some (x9.2.2.2.2.2.2.1,x9.2.2.2.2.2.2.2.1,0)
def qhu (_F:Nat):Option Int:=some 0
def qeR (F:Nat)(x1:qFa)(x4:Int)(r3:(Int×Int)→Option Int)(x92 x93:Int):Option Int:=if decide (x93<(x1.length:Int)) then (idx x1 x93).bind fun x0=>if (decide (x0<0) || decide (x4<x0)) then some 3 else if decide (x0<x92) then some 4 else r3 (x0,iadd .i64 x93 1) else qhu F
def qeS (F:Nat)(x1:qFa)(x4:Int):=lp fun r s=>qeR F x1 x4 r s.1 s.2
def qde (F:Nat)(x1:qFa)(x4:Int):Option Int:=if (decide (x4<0) || decide (1048576<x4)) then some 3 else if decide (300<(x1.length:Int)) then some 2 else qeS F x1 x4 F (0,0)
def qhv (_F:Nat)(x35:Int):Option Int:=some x35
def qas (F:Nat)(r13:Int→Option Int)(x46:Int)(x65:Bool):Option Int:=if x65 then r13 (iadd .i64 x46 1) else qhv F x46
def qdY (F:Nat)(x1 x2:Int)(r13:Int→Option Int)(x46:Int):Option Int:=if decide (0<x1) then chk (decide (0≤(iadd .i64 x46 1))) (qas F r13 x46 (decide ((ishl .i64 x1 (iadd .i64 x46 1))≤(iadd .i64 x2 1)))) else qas F r13 x46 false
def qco (F:Nat)(x1 x2:Int):=lp fun r s=>qdY F x1 x2 r s
def qdj (F:Nat)(x1 x2:Int):Option Int:=qco F x1 x2 F 0
def qbx (F:Nat)(x7:Int)(r1:(Int×qFa×Int)→Option (Int×qFa×Int))(x16:Int)(x19:qFa)(x20:Int):Option (Int×qFa×Int):=if decide (x20<x7) then (vQ F x16 x19 0 1).bind fun x34=>r1 (x34.1,x34.2,iadd .i64 x20 1) else some (x16,x19,x20)
def qby (F:Nat)(x7:Int):=lp fun r s=>qbx F x7 r s.1 s.2.1 s.2.2
def vS (F:Nat)(x2:Int)(x3:qFa)(x6 x7:Int):Option (Int×qFa×Int):=qby F x7 F (x2,x3,x6)
def qgp (F:Nat)(x1:qFa)(x4 x6 x0:Int)(x2:qFa)(x3 x5:Int)(x7:qFa):Option (Int×Int×Int×Int×qFa×Int×qFa×Bool):=(vS F x0 x2 x3 (iadd .i64 (ishr .i64 x4 x6) 1)).bind fun x8=>some ((x1.length:Int),x4,x6,x5,x7,x8.1,x8.2.1,true)
def qgo (F:Nat)(x1:qFa)(x4 x6:Int)(r3:(Int×Int×qFa×Int×Int×qFa)→Option (Int×Int×Int×Int×qFa×Int×qFa×Bool))(x0 x2:Int)(x3:qFa)(x5 x7:Int)(x8:qFa):Option (Int×Int×Int×Int×qFa×Int×qFa×Bool):=if decide (x0<(x1.length:Int)) then (idx x1 x0).bind fun x9=>chk (decide (0≤x6)) ((vQ F x7 x8 (iconv .u64 (iand .i64 x9 (isub .i64 (ishl .i64 1 x6) 1))) x6).bind fun x10=>chk (decide (0≤x6)) ((vS F x2 x3 x5 (ishr .i64 x9 x6)).bind fun x11=>(vQ F x11.1 x11.2.1 1 1).bind fun x12=>r3 (iadd .i64 x0 1,x12.1,x12.2,x11.2.2,x10.1,x10.2))) else qgp F x1 x4 x6 x2 x3 x5 x7 x8
def qgq (F:Nat)(x1:qFa)(x4 x6:Int):=lp fun r s=>qgo F x1 x4 x6 r s.1 s.2.1 s.2.2.1 s.2.2.2.1 s.2.2.2.2.1 s.2.2.2.2.2
def qfB (F:Nat)(x1:qFa)(x4:Int):Option (Int×Int×Int×Int×qFa×Int×qFa×Bool):=(qdj F (x1.length:Int) x4).bind fun x6=>chk (decide (0≤x6)) (if (decide (8192<(imul .i64 (x1.length:Int) x6)) || (decide (8192<(iadd .i64 (x1.length:Int) (iadd .i64 (ishr .i64 x4 x6) 1))))) then some (0,0,0,0,([]:qFa),0,([]:qFa),false) else qgq F x1 x4 x6 F (0,0,([]:qFa),0,0,([]:qFa)))
def qdd (F:Nat)(x1:qFa)(x4:Int):Option (Int×Int×Int×Int×qFa×Int×qFa×Int):=(qde F x1 x4).bind fun x8=>if ((x8:Int) != 0) then some (0,0,0,0,([]:qFa),0,([]:qFa),x8) else (qfB F x1 x4).bind fun x9=>if (!x9.2.2.2.2.2.2.2) then some (0,0,0,0,([]:qFa),0,([]:qFa),8) else some (x9.1,x9.2.1,x9.2.2.1,x9.2.2.2.1,x9.2.2.2.2.1,x9.2.2.2.2.2.1,x9.2.2.2.2.2.2.1,0)
def qbt (F:Nat)(x1:List (qFa))(x4 x5 x6 x7 x8:Int)(x9:qFa):Option (Int×Int×Int×Int×Int×qFa×Int×Int×Int×Int×qFa×Int×qFa×Int):=(qeF F x1 x5 x6 x7).bind fun x15=>if ((x15.2.2:Int) != 0) then some (0,0,0,0,0,([]:qFa),0,0,0,0,([]:qFa),0,([]:qFa),x15.2.2) else (qdd F x15.2.1 x8).bind fun x21=>if ((x21.2.2.2.2.2.2.2:Int) != 0) then some (0,0,0,0,0,([]:qFa),0,0,0,0,([]:qFa),0,([]:qFa),x21.2.2.2.2.2.2.2) else some (x4,x5,x6,x7,x8,x9,x21.1,x21.2.1,x21.2.2.1,x21.2.2.2.1,x21.2.2.2.2.1,x21.2.2.2.2.2.1,x21.2.2.2.2.2.2.1,0)
def qcC (F:Nat)(x1:List (qFa))(x4 x5 x6:Int):Option (Int×Int×Int×Int×Int×qFa×Int×Int×Int×Int×qFa×Int×qFa×Int):=(qaT F x1 x4 x5 x6).bind fun x10=>if ((x10.2.2.2.2.2.2:Int) != 0) then some (0,0,0,0,0,([]:qFa),0,0,0,0,([]:qFa),0,([]:qFa),x10.2.2.2.2.2.2) else (qbt F x1 x10.1 x10.2.1 x10.2.2.1 x10.2.2.2.1 x10.2.2.2.2.1 x10.2.2.2.2.2.1).bind fun x15=>some (x15.1,x15.2.1,x15.2.2.1,x15.2.2.2.1,x15.2.2.2.2.1,x15.2.2.2.2.2.1,x15.2.2.2.2.2.2.1,x15.2.2.2.2.2.2.2.1,x15.2.2.2.2.2.2.2.2.1,x15.2.2.2.2.2.2.2.2.2.1,x15.2.2.2.2.2.2.2.2.2.2.1,x15.2.2.2.2.2.2.2.2.2.2.2.1,x15.2.2.2.2.2.2.2.2.2.2.2.2.1,x15.2.2.2.2.2.2.2.2.2.2.2.2.2)
def qa9 (_F:Nat)(x36:Bool):Option Int:=if x36 then some 1 else some 0
def qci (F:Nat)(x1:Int)(x2:qFa):Option Int:=if (decide (x1<0) || decide (8192<x1)) then some 3 else if (((x2.length:Int):Int) != (iquo .i64 (iadd .i64 x1 7) 8)) then some 1 else if (((irem x1 8):Int) != 0) then (idx x2 (isub .i64 (x2.length:Int) 1)).bind fun x39=>chk (decide (0≤(irem x1 8))) (qa9 F (((ishl .u8 x39 (irem x1 8)):Int) != 0)) else qa9 F false
def qfb (F:Nat)(x1 x2 x3 x4 x5:Int)(x6:qFa):Option Int:=if (decide (x1<0) || decide (100<x1)) then some 3 else (vJ F x2 x3 x4).bind fun x15=>if ((x15:Int) != 0) then some x15 else (qci F x5 x6).bind fun x16=>some x16
def qhx (_F:Nat):Option (Int×Int×Bool):=some (0,0,false)
def qe2 (F:Nat)(x1:Int)(x2:qFa)(x5:Int)(r3:Int→Option (Int×Int×Bool))(x33:Int):Option (Int×Int×Bool):=if decide (x33<x1) then (qbs F x1 x2 x33).bind fun x44=>if ((x44:Int) == 1) then some (iconv .u64 (isub .i64 x33 x5),iadd .i64 x33 1,true) else r3 (iadd .i64 x33 1) else qhx F
def qe3 (F:Nat)(x1:Int)(x2:qFa)(x5:Int):=lp fun r s=>qe2 F x1 x2 x5 r s
def qdC (F:Nat)(x1:Int)(x2:qFa)(x5:Int):Option (Int×Int×Bool):=qe3 F x1 x2 x5 F x5
def qcv (F:Nat)(x1:Int)(x2:qFa)(x5:Int):Option (Int×Int×Int):=(qdC F x1 x2 x5).bind fun x7=>if (!x7.2.2) then some (0,0,7) else some (x7.1,x7.2.1,0)
def qfr (_F:Nat)(x24:Int):Option (Int×Bool):=some (x24,true)
def qfq (F:Nat)(x1:Int)(x2:qFa)(x5 x6:Int)(r3:(Int×Int)→Option (Int×Bool))(x29 x30:Int):Option (Int×Bool):=if decide (x30<x6) then (qbs F x1 x2 (iadd .i64 x5 x30)).bind fun x38=>r3 (ior .u64 (ishl .u64 x29 1) x38,iadd .i64 x30 1) else qfr F x29
def qfs (F:Nat)(x1:Int)(x2:qFa)(x5 x6:Int):=lp fun r s=>qfq F x1 x2 x5 x6 r s.1 s.2
def jG (F:Nat)(x1:Int)(x2:qFa)(x5 x6:Int):Option (Int×Bool):=if decide ((isub .i64 x1 x5)<x6) then some (0,false) else qfs F x1 x2 x5 x6 F (0,0)
def kG (F:Nat)(x1:Int)(x2:qFa)(x5:Int):Option (Int×Int×Int):=(qcv F x1 x2 x5).bind fun x7=>if ((x7.2.2:Int) != 0) then some (0,0,x7.2.2) else if decide (64≤x7.1) then some (0,0,3) else (jG F x1 x2 x7.2.1 (iconv .i64 x7.1)).bind fun x10=>if (!x10.2) then some (0,0,7) else chk (decide (0≤x7.1)) (lett (iadd .u64 x10.1 (isub .u64 (ishl .u64 1 x7.1) 1)) fun x16=>if decide (1099511627776<x16) then some (0,0,3) else some (x16,iadd .i64 x7.2.1 (iconv .i64 x7.1),0))
def jT (F:Nat)(x1:Int)(x2:qFa)(x5:Int):Option (Int×Int×Int):=(kG F x1 x2 x5).bind fun x7=>some (x7.1,x7.2.1,x7.2.2)
def qeo (_F:Nat)(x13:(Int×Int×Int))(x18:Bool):Option (Int×Int×Bool):=if x18 then some (0,0,false) else some (iconv .i64 x13.1,x13.2.1,true)
def qfG (F:Nat)(_x1 x2 _x3 _x4 x5:Int)(x6:qFa)(x9 x10:Int):Option (Int×Int×Bool):=if ((x2:Int) == 0) then some (0,x9,true) else (jT F x5 x6 x9).bind fun x13=>if ((x13.2.2:Int) != 0) then qeo F x13 true else qeo F x13 (decide ((iconv .u64 (imin x2 x10))<x13.1))
def yH (_F:Nat)(x1:Bool):Option (Unit ⊕ Unit):=if (!x1) then some (.inr ()) else some (.inl ())
def zS (F:Nat)(x2:Int)(x3:qFa)(x6 x7:Int):Option ((Int×Int×Int) ⊕ (Int×Int)):=(jT F x2 x3 x6).bind fun x9=>lbnd (yH F (((x9.2.2:Int) == 0) && decide (x9.1≤(iconv .u64 x7)))) (fun _x11=>some (.inl (iconv .i64 x9.1,x2,x9.2.1))) (fun _x12=>some (.inr (x2,x6)))
def qdt (_F:Nat)(x4 x99:Int):Option Int:=if decide (x4<x99) then some 8 else some 0
def qbL (_F:Nat)(r23:(Int×Int)→Option Int)(x4 x0 x1 x2:Int)(x3:Bool):Option Int:=if x3 then some 3 else lett (imin (iadd .i64 x0 (imin x2 (iadd .i64 x4 1))) (iadd .i64 x4 1)) fun x5=>r23 (x5,iadd .i64 x1 1)
def qds (F:Nat)(x1:qFa)(x4:Int)(r23:(Int×Int)→Option Int)(x0 x2:Int):Option Int:=if decide (x2<(x1.length:Int)) then (idx x1 x2).bind fun x3=>if decide (x3<0) then qbL F r23 x4 x0 x2 x3 true else qbL F r23 x4 x0 x2 x3 (decide (x3<1) && decide (0<x2)) else qdt F x4 x0
def qbM (F:Nat)(x1:qFa)(x4:Int):=lp fun r s=>qds F x1 x4 r s.1 s.2
def qep (F:Nat)(x1:qFa)(x4:Int):Option Int:=if decide ((iadd .i64 x4 1)<(x1.length:Int)) then some 2 else qbM F x1 x4 F (0,0)
def qbN (_F:Nat)(x0:qFa):Option (qFa):=some x0
def qdu (F:Nat)(x0 x1:qFa)(x2:Bool):Option (qFa):=if x2 then (app 8796093022208 x1 x0).bind fun x3=>qbN F x3 else qbN F x1
def qaW (_F:Nat)(r10:(qFa×qFa×Bool×Int)→Option (qFa))(x0:qFa)(x1:Bool)(x2 x3:Int)(x4:qFa):Option (qFa):=(sub x0 x3 (x0.length:Int)).bind fun x5=>r10 (x5,x4,(!x1),iadd .i64 x2 1)
def qcR (F:Nat)(x4:qFa)(r10:(qFa×qFa×Bool×Int)→Option (qFa))(x0 x1:qFa)(x2:Bool)(x3:Int):Option (qFa):=if decide (x3<(x4.length:Int)) then (idx x4 x3).bind fun x5=>if x2 then (sub x0 0 x5).bind fun x6=>(app 8796093022208 x1 x6).bind fun x7=>qaW F r10 x0 x2 x3 x5 x7 else qaW F r10 x0 x2 x3 x5 x1 else qdu F x0 x1 x2
def qaX (F:Nat)(x4:qFa):=lp fun r s=>qcR F x4 r s.1 s.2.1 s.2.2.1 s.2.2.2
def qfK (F:Nat)(x1 x4:qFa):Option (qFa):=qaX F x4 F (x1,([]:qFa),true,0)
def qbd (F:Nat)(x1 x4:qFa)(x10:Int):Option (qFa×Int):=if ((x10:Int) != 0) then some (([]:qFa),x10) else (qfK F x1 x4).bind fun x12=>some (x12,0)
def qfc (F:Nat)(x1 x4:qFa):Option (qFa×Int):=(jU F x1).bind fun x7=>if ((x7:Int) == 0) then (qep F x4 (x1.length:Int)).bind fun x16=>qbd F x1 x4 x16 else qbd F x1 x4 x7
def qc1 (_F:Nat)(x72:qFa)(x73 x74:Int):Option ((qFa×Int×Int) ⊕ (Int×Int)):=some (.inl (x72,x73,x74))
def qay (F:Nat)(x3:qFa)(x7:Int)(x10:qFa)(r3:(qFa×Int×Int×Int)→Option ((qFa×Int×Int) ⊕ (Int×Int)))(x93:qFa)(x94 x95 x96:Int):Option ((qFa×Int×Int) ⊕ (Int×Int)):=if decide (x94<(x10.length:Int)) then lbnd (zS F x95 x3 x96 x7) (fun x0=>(idx x93 x94).bind fun _x127=>lett (x93.set x94.toNat (iadd .i64 x0.1 (imin x94 1))) fun x1=>r3 (x1,iadd .i64 x94 1,x0.2.1,x0.2.2)) (fun x2=>some (.inr (x2.1,x2.2))) else qc1 F x93 x95 x96
def qaz (F:Nat)(x3:qFa)(x7:Int)(x10:qFa):=lp fun r s=>qay F x3 x7 x10 r s.1 s.2.1 s.2.2.1 s.2.2.2
def j2 (F:Nat)(x2:Int)(x3:qFa)(x6 x7:Int):Option ((qFa×Int×Int) ⊕ (Int×Int)):=lbnd (zS F x2 x3 x6 (iadd .i64 x7 1)) (fun x8=>(mk 17592186044416 (0:Int) x8.1).bind fun x10=>qaz F x3 x7 x10 F (x10,0,x8.2.1,x8.2.2)) (fun x9=>some (.inr (x9.1,x9.2)))
def qbl (_F:Nat)(x1:Int):Option Int:=lett (ixor .i64 (iconv .i64 (ishr .u64 x1 1)) (isub .i64 0 (iconv .i64 (iand .u64 x1 1)))) fun x2=>some x2
def qdU (_F:Nat)(x0:List (Int×Int))(x1 x2:Int):Option ((List (Int×Int)×Int×Int) ⊕ (Int×Int)):=some (.inl (x0,x1,x2))
def yA (F:Nat)(r13:(List (Int×Int)×Int×Int×Int×Int)→Option ((List (Int×Int)×Int×Int) ⊕ (Int×Int)))(x3:qFa)(x8 x9:Int)(x0:List (Int×Int))(x1:Int)(x2:(Int×Int×Int))(x4:Int):Option ((List (Int×Int)×Int×Int) ⊕ (Int×Int)):=lbnd (zS F x2.2.1 x3 x2.2.2 x9) (fun x5=>(idx x0 x1).bind fun _x247=>lett (x0.set x1.toNat (x4,iadd .i64 x5.1 x8)) fun x6=>(idx x6 x1).bind fun x7=>r13 (x6,iadd .i64 x4 (isub .i64 x7.2 1),iadd .i64 x1 1,x5.2.1,x5.2.2)) (fun x10=>some (.inr (x10.1,x10.2)))
def qa4 (F:Nat)(x3:qFa)(x8 x9:Int)(x13:List (Int×Int))(r13:(List (Int×Int)×Int×Int×Int×Int)→Option ((List (Int×Int)×Int×Int) ⊕ (Int×Int)))(x0:List (Int×Int))(x1 x2 x4 x5:Int):Option ((List (Int×Int)×Int×Int) ⊕ (Int×Int)):=if decide (x2<(x13.length:Int)) then lbnd (zS F x4 x3 x5 2097152) (fun x6=>if ((x2:Int) == 0) then (qbl F (iconv .u64 x6.1)).bind fun x7=>yA F r13 x3 x8 x9 x0 x2 x6 (iadd .i64 x1 x7) else yA F r13 x3 x8 x9 x0 x2 x6 (iadd .i64 x1 (iadd .i64 x6.1 2))) (fun x10=>some (.inr (x10.1,x10.2))) else qdU F x0 x4 x5
def yB (F:Nat)(x3:qFa)(x8 x9:Int)(x13:List (Int×Int)):=lp fun r s=>qa4 F x3 x8 x9 x13 r s.1 s.2.1 s.2.2.1 s.2.2.2.1 s.2.2.2.2
def qa3 (F:Nat)(x2:Int)(x3:qFa)(x6 x7 x8 x9:Int):Option ((List (Int×Int)×Int×Int) ⊕ (Int×Int)):=chk ((x8:Int) != 0) (lbnd (zS F x2 x3 x6 (iquo .i64 x9 x8)) (fun x11=>(mk 8796093022208 (((0:Int),(0:Int)):(Int×Int)) x11.1).bind fun x13=>yB F x3 x8 x9 x13 F (x13,x7,0,x11.2.1,x11.2.2)) (fun x12=>some (.inr (x12.1,x12.2))))
def qaa (_F:Nat)(x15:qFa):Option (qFa):=some x15
def jh (F:Nat)(x1:qFa)(c3:Nat)(x4:Int):Option (qFa):=if decide (x4<0) then none else lett (isub .i64 x4 (isub .i64 (c3:Int) (x1.length:Int))) fun x16=>if decide (0<x16) then (sub x1 0 (c3:Int)).bind fun x17=>(appz 8796093022208 x17 (0:Int) x16).bind fun x18=>(sub x18 0 (x1.length:Int)).bind fun x21=>qaa F x21 else qaa F x1
def vU (_F:Nat)(x0:qFa):Option (qFa):=some x0
def qU (F:Nat)(x1:List (qFa))(r5:(qFa×Int)→Option (qFa))(x0:qFa)(x2:Int):Option (qFa):=if decide (x2<(x1.length:Int)) then (idx x1 x2).bind fun x3=>(app 8796093022208 x0 x3).bind fun x4=>r5 (x4,iadd .i64 x2 1) else vU F x0
def zV (F:Nat)(x1:List (qFa)):=lp fun r s=>qU F x1 r s.1 s.2
def kM (F:Nat)(x1:List (qFa))(x43:Int):Option (qFa):=(jh F ([]:qFa) 0 x43).bind fun x44=>zV F x1 F (x44,0)
def qV (F:Nat)(x1:List (qFa))(r6:(Int×Int)→Option (qFa))(x0 x2:Int):Option (qFa):=if decide (x2<(x1.length:Int)) then (idx x1 x2).bind fun x3=>if decide ((iadd .i64 x0 (x3.length:Int))<0) then none else r6 (iadd .i64 x0 (x3.length:Int),iadd .i64 x2 1) else kM F x1 x0
def zW (F:Nat)(x1:List (qFa)):=lp fun r s=>qV F x1 r s.1 s.2
def zU (F:Nat)(x1:List (qFa)):Option (qFa):=zW F x1 F (0,0)
def qcB (_F:Nat)(x1 x2 x3:Int):Option Bool:=some (decide (x2≤x1) && decide (x1≤x3))
def qga (_F:Nat)(x0:qFa):Option (qFa×Int):=some (x0,0)
def qbT (_F:Nat)(r32:(qFa×Int)→Option (qFa×Int))(x0:Int)(x1:qFa):Option (qFa×Int):=r32 (x1,iadd .i64 x0 1)
def qdw (F:Nat)(r32:(qFa×Int)→Option (qFa×Int))(x0:Int)(x1:(Int×Int))(r35:(qFa×Int)→Option (qFa×Int))(x2:qFa)(x3:Int):Option (qFa×Int):=if decide (x3<x1.2) then (app 8796093022208 x2 ([iadd .i64 x1.1 x3]:qFa)).bind fun x4=>r35 (x4,iadd .i64 x3 1) else qbT F r32 x0 x2
def qdy (F:Nat)(r32:(qFa×Int)→Option (qFa×Int))(x0:Int)(x1:(Int×Int)):=lp fun r s=>qdw F r32 x0 x1 r s.1 s.2
def qdv (F:Nat)(x1:List (Int×Int))(r32:(qFa×Int)→Option (qFa×Int))(x0:qFa)(x2:Int):Option (qFa×Int):=if decide (x2<(x1.length:Int)) then (idx x1 x2).bind fun x3=>qdy F r32 x2 x3 F (x0,0) else qga F x0
def jY (F:Nat)(x1:List (Int×Int)):=lp fun r s=>qdv F x1 r s.1 s.2
def qbS (F:Nat)(x1:List (Int×Int)):Option (qFa×Int):=jY F x1 F (([]:qFa),0)
def jX (_F:Nat)(r44:(Int×Int)→Option (qFa×Int))(x0 x1:Int)(x2:(Int×Int))(x3:Bool):Option (qFa×Int):=if x3 then some (([]:qFa),3) else if decide (x2.1<(iadd .i64 x0 2)) then some (([]:qFa),4) else r44 (isub .i64 (iadd .i64 x2.1 x2.2) 1,iadd .i64 x1 1)
def qdx (F:Nat)(x1:List (Int×Int))(r44:(Int×Int)→Option (qFa×Int))(x0 x2:Int):Option (qFa×Int):=if decide (x2<(x1.length:Int)) then (idx x1 x2).bind fun x3=>(qcB F x3.1 0 1048576).bind fun x4=>if (!x4) then jX F r44 x0 x2 x3 (!x4) else (qcB F x3.2 1 300).bind fun x5=>if (!x5) then jX F r44 x0 x2 x3 (!x5) else jX F r44 x0 x2 x3 (decide (1048576<(isub .i64 (iadd .i64 x3.1 x3.2) 1))) else qbS F x1
def qbU (F:Nat)(x1:List (Int×Int)):=lp fun r s=>qdx F x1 r s.1 s.2
def qer (F:Nat)(x1:List (Int×Int)):Option (qFa×Int):=if decide (300<(x1.length:Int)) then some (([]:qFa),2) else qbU F x1 F (-2,0)
def qbe (F:Nat)(x4:qFa)(x7:(qFa×Int))(x12:Int):Option (qFa×Int):=if ((x12:Int) != 0) then some (([]:qFa),x12) else (zU F ([x7.1,x4]:List (qFa))).bind fun x16=>(zj F x16).bind fun x19=>chk (decide (x19.length=x16.length)) ((kS F x19).bind fun x29=>(zH F x29).bind fun x32=>if decide ((x32.length:Int)<(x19.length:Int)) then some (([]:qFa),6) else if decide (300<(x19.length:Int)) then some (([]:qFa),2) else some (x19,0))
def qfd (F:Nat)(x1:List (Int×Int))(x4:qFa):Option (qFa×Int):=(qer F x1).bind fun x7=>if ((x7.2:Int) == 0) then (jU F x4).bind fun x38=>qbe F x4 x7 x38 else qbe F x4 x7 x7.2
def ku (F:Nat)(x1:Int)(x2:qFa)(x5:Int)(x8:(Int×Int)):Option (Int×Int×Bool):=(jG F x1 x2 x5 x8.1).bind fun x14=>some (isub .u64 x14.1 x8.2,iadd .i64 x5 x8.1,x14.2)
def kd (F:Nat)(x1:Int)(x2:qFa)(x5 x6:Int):Option (Int×Int×Bool):=(qb7 F x6).bind fun x8=>if decide (0<x8.2) then (jG F x1 x2 x5 (isub .i64 x8.1 1)).bind fun x15=>if (!x15.2) then some (0,0,false) else if decide (x15.1<x8.2) then some (x15.1,isub .i64 (iadd .i64 x5 x8.1) 1,true) else ku F x1 x2 x5 x8 else ku F x1 x2 x5 x8
def qdk (_F:Nat)(x1 x2:Int)(x3:Bool):Option (Int×Int×Int):=if (!x3) then some (0,0,7) else if decide (1099511627776<x1) then some (0,0,3) else some (x1,x2,0)
def qbH (F:Nat)(x1:Int)(x2:qFa)(x5 x6:Int):Option (Int×Int×Int):=(qdC F x1 x2 x5).bind fun x8=>if (!x8.2.2) then some (0,0,7) else if decide (41≤(imul .u64 x8.1 (iconv .u64 x6))) then some (0,0,3) else chk (decide (0≤(imul .i64 (iconv .i64 x8.1) x6))) (lett (ishl .u64 1 (imul .i64 (iconv .i64 x8.1) x6)) fun x12=>chk (decide (0≤x6)) ((kd F x1 x2 x8.2.1 (isub .u64 (ishl .u64 x12 x6) x12)).bind fun x20=>(qdk F (isub .u64 (iadd .u64 x12 x20.1) 1) x20.2.1 x20.2.2).bind fun x21=>some (x21.1,x21.2.1,x21.2.2)))
def yN (F:Nat)(x8:Int):Option (Bool×Int×Bool):=(qeE F x8).bind fun x9=>some (x9,x8,true)
def yb (F:Nat)(x2:Int)(x3:Bool)(x4:Int):Option (Bool×Int×Bool):=if decide (2097152<x4) then some (false,x2,x3) else if x3 then yN F (iadd .i64 x2 (iadd .i64 (iconv .i64 x4) 1)) else (qbl F x4).bind fun x10=>yN F (iadd .i64 x2 x10)
def qfD (_F:Nat)(x0:Int)(x1:qFa):Option (qFa×Int×Int):=some (x1,x0,0)
def qfC (F:Nat)(x1:Int)(x2:qFa)(x7 x8:Int)(r3:(Int×qFa×Int×Int×Bool)→Option (qFa×Int×Int))(x0:Int)(x3:qFa)(x4 x5:Int)(x6:Bool):Option (qFa×Int×Int):=if decide (x4<x8) then (qbH F x1 x2 x0 x7).bind fun x9=>if ((x9.2.2:Int) != 0) then some (([]:qFa),0,x9.2.2) else (yb F x5 x6 x9.1).bind fun x10=>if (!x10.1) then some (([]:qFa),0,3) else (app 8796093022208 x3 ([x10.2.1]:qFa)).bind fun x11=>r3 (x9.2.1,x11,iadd .i64 x4 1,x10.2.1,x10.2.2) else qfD F x0 x3
def qfE (F:Nat)(x1:Int)(x2:qFa)(x7 x8:Int):=lp fun r s=>qfC F x1 x2 x7 x8 r s.1 s.2.1 s.2.2.1 s.2.2.2.1 s.2.2.2.2
def qf3 (F:Nat)(x1:Int)(x2:qFa)(x5 x6 x7 x8:Int):Option (qFa×Int×Int):=qfE F x1 x2 x7 x8 F (x5,([]:qFa),0,x6,false)
def yQ (F:Nat)(x3:qFa)(x7 x13:Int)(x15:(Int×Int×Int))(x31:qFa)(x42:List (Int×Int))(x43 x44:Int):Option ((qFa×Int×Int) ⊕ (Int×Int)):=(qfd F x42 ([]:qFa)).bind fun x45=>lbnd (yH F (((x45.2:Int) == 0) && decide ((x45.1.length:Int)≤(isub .i64 x15.1 (x31.length:Int))))) (fun _x49=>(qf3 F x43 x3 x44 x7 x13 (isub .i64 (isub .i64 x15.1 (x31.length:Int)) (x45.1.length:Int))).bind fun x54=>lbnd (yH F ((x54.2.2:Int) == 0)) (fun _x57=>(zU F ([x31,x45.1,x54.1]:List (qFa))).bind fun x61=>(zj F x61).bind fun x64=>chk (decide (x64.length=x61.length)) (some (.inl (x64,x43,x54.2.1)))) (fun _x58=>some (.inr (x43,x44)))) (fun _x50=>some (.inr (x43,x44)))
def yP (F:Nat)(x3:qFa)(x7 x12 x13:Int)(x15:(Int×Int×Int))(x31:qFa)(x32 x33:Int):Option ((qFa×Int×Int) ⊕ (Int×Int)):=if (((isub .i64 x15.1 (x31.length:Int)):Int) == 0) then some (.inl (x31,x32,x33)) else if decide (0<x12) then lbnd (qa3 F x32 x3 x33 x7 x12 (isub .i64 x15.1 (x31.length:Int))) (fun x66=>yQ F x3 x7 x13 x15 x31 x66.1 x66.2.1 x66.2.2) (fun x67=>some (.inr (x67.1,x67.2))) else yQ F x3 x7 x13 x15 x31 ([]:List (Int×Int)) x32 x33
def vY (F:Nat)(x2:Int)(x3:qFa)(x6 x7:Int)(x8:qFa)(x11 x12 x13:Int):Option ((qFa×Int×Int) ⊕ (Int×Int)):=lbnd (zS F x2 x3 x6 300) (fun x15=>if ((x15.1:Int) == 0) then some (.inl (([]:qFa),x15.2.1,x15.2.2)) else if decide (0<x11) then lbnd (j2 F x15.2.1 x3 x15.2.2 (x8.length:Int)) (fun x72=>(qfc F x8 x72.1).bind fun x76=>lbnd (yH F (((x76.2:Int) == 0) && decide ((x76.1.length:Int)≤x15.1))) (fun _x80=>yP F x3 x7 x12 x13 x15 x76.1 x72.2.1 x72.2.2) (fun _x81=>some (.inr (x72.2.1,x72.2.2)))) (fun x73=>some (.inr (x73.1,x73.2))) else yP F x3 x7 x12 x13 x15 ([]:qFa) x15.2.1 x15.2.2) (fun x16=>some (.inr (x16.1,x16.2)))
def qdT (_F:Nat)(x17:(qFa×Int×Int)):Option (qFa×Bool×Int×Int):=some (x17.1,true,x17.2.1,x17.2.2)
def qbz (F:Nat)(x3:qFa)(x6:Int)(x17:(qFa×Int×Int))(x25:(Int×qFa×Bool))(r4:Int→Option (qFa×Bool×Int×Int))(x75:Int):Option (qFa×Bool×Int×Int):=if decide (x75<x25.1) then (qbs F x25.1 x25.2.1 x75).bind fun x92=>(qbs F x17.2.1 x3 (iadd .i64 x6 x75)).bind fun x93=>lbnd (yH F ((x92:Int) == x93)) (fun _x94=>r4 (iadd .i64 x75 1)) (fun _x95=>some (([]:qFa),false,x17.2.1,x17.2.2)) else qdT F x17
def yR (F:Nat)(x3:qFa)(x6:Int)(x17:(qFa×Int×Int))(x25:(Int×qFa×Bool)):=lp fun r s=>qbz F x3 x6 x17 x25 r s
def jk (F:Nat)(x3:qFa)(x6:Int)(x17:(qFa×Int×Int))(x25:(Int×qFa×Bool)):Option (qFa×Bool×Int×Int):=yR F x3 x6 x17 x25 F 0
def vZ (F:Nat)(x2:Int)(x3:qFa)(x6 x7:Int)(x8:qFa)(x11 x12 x13:Int):Option (qFa×Bool×Int×Int):=lbnd (vY F x2 x3 x6 x7 x8 x11 x12 x13) (fun x17=>(jU F x17.1).bind fun x21=>lbnd (yH F ((x21:Int) == 0)) (fun _x22=>(v6 F 0 ([]:qFa) false x7 x17.1 x8 x11 x12 x13).bind fun x25=>if (!x25.2.2) then lbnd (yH F ((x25.1:Int) == (isub .i64 x17.2.2 x6))) (fun _x98=>jk F x3 x6 x17 x25) (fun _x99=>some (([]:qFa),false,x17.2.1,x17.2.2)) else lbnd (yH F false) (fun _x100=>jk F x3 x6 x17 x25) (fun _x101=>some (([]:qFa),false,x17.2.1,x17.2.2))) (fun _x23=>some (([]:qFa),false,x17.2.1,x17.2.2))) (fun x18=>some (([]:qFa),false,x18.1,x18.2))
def qaK (F:Nat)(x1:Int)(x2:qFa)(x5 x6:Int)(x7:qFa)(x10 x11 x12:Int):Option (qFa×Int×Int):=(vZ F x1 x2 x5 x6 x7 x10 x11 x12).bind fun x16=>if (!x16.2.1) then some (([]:qFa),0,1) else some (x16.1,x16.2.2.2,0)
def qeX (_F:Nat)(x5:Int)(x0:List (qFa))(x1:Int):Option (List (qFa)×Bool):=some (x0,((x1:Int) == x5))
def qbb (_F:Nat)(r8:(List (qFa)×Int×Int)→Option (List (qFa)×Bool))(x0:Int)(x1:List (qFa))(x2:Int):Option (List (qFa)×Bool):=r8 (x1,x2,iadd .i64 x0 1)
def qeW (F:Nat)(x1 x2 x3 x4 x5:Int)(x6:qFa)(r8:(List (qFa)×Int×Int)→Option (List (qFa)×Bool))(x0:List (qFa))(x7 x8:Int):Option (List (qFa)×Bool):=if decide (x8<x1) then (qfG F x1 x2 x3 x4 x5 x6 x7 x8).bind fun x9=>if (!x9.2.2) then some (([]:List (qFa)),false) else if decide (0<x9.1) then (idx x0 (isub .i64 x8 x9.1)).bind fun x10=>(qaK F x5 x6 x9.2.1 x8 x10 x9.1 x3 x4).bind fun x11=>if ((x11.2.2:Int) != 0) then some (([]:List (qFa)),false) else (app 2199023255552 x0 ([x11.1]:List (qFa))).bind fun x12=>qbb F r8 x8 x12 x11.2.1 else (qaK F x5 x6 x9.2.1 x8 ([]:qFa) x9.1 x3 x4).bind fun x13=>if ((x13.2.2:Int) != 0) then some (([]:List (qFa)),false) else (app 2199023255552 x0 ([x13.1]:List (qFa))).bind fun x14=>qbb F r8 x8 x14 x13.2.1 else qeX F x5 x0 x7
def qbc (F:Nat)(x1 x2 x3 x4 x5:Int)(x6:qFa):=lp fun r s=>qeW F x1 x2 x3 x4 x5 x6 r s.1 s.2.1 s.2.2
def qg8 (F:Nat)(x1 x2 x3 x4 x5:Int)(x6:qFa):Option (List (qFa)×Bool):=qbc F x1 x2 x3 x4 x5 x6 F (([]:List (qFa)),0,0)
def qbV (_F:Nat):Option Bool:=some true
def kz (F:Nat)(x1 x4:qFa)(r3:Int→Option Bool)(x0:Int):Option Bool:=if decide (x0<(x1.length:Int)) then (idx x1 x0).bind fun x2=>(idx x4 x0).bind fun x3=>if ((x2:Int) != x3) then some false else r3 (iadd .i64 x0 1) else qbV F
def kA (F:Nat)(x1 x4:qFa):=lp fun r s=>kz F x1 x4 r s
def zb (F:Nat)(x1 x4:qFa):Option Bool:=if (((x1.length:Int):Int) != (x4.length:Int)) then some false else kA F x1 x4 F 0
def qdr (_F:Nat)(x14:(List (qFa)×Bool))(x34:Bool):Option (List (qFa)×Int):=if x34 then some (([]:List (qFa)),1) else some (x14.1,0)
def qf6 (F:Nat)(x1 x2 x3 x4 x5:Int)(x6:qFa):Option (List (qFa)×Int):=(qfb F x1 x2 x3 x4 x5 x6).bind fun x13=>if ((x13:Int) != 0) then some (([]:List (qFa)),x13) else (qg8 F x1 x2 x3 x4 x5 x6).bind fun x14=>if (!x14.2) then some (([]:List (qFa)),1) else (qaT F x14.1 x2 x3 x4).bind fun x28=>if ((x28.2.2.2.2.2.2:Int) != 0) then qdr F x14 true else (zb F x28.2.2.2.2.2.1 x6).bind fun x36=>qdr F x14 (!x36)
def qcO (_F:Nat)(x34:Bool):Option Bool:=some x34
def qcN (F:Nat)(x9 x20:qFa)(x31:Bool):Option Bool:=if x31 then (zb F x9 x20).bind fun x35=>qcO F x35 else qcO F false
def qfe (F:Nat)(x1 x2 x3 x4:Int)(x5:qFa)(x8:Int)(x9:qFa)(x12 x13 x14 x15:Int)(x16:qFa)(x19:Int)(x20:qFa):Option Bool:=if ((((((x1:Int) == x12) && ((x2:Int) == x13)) && ((x3:Int) == x14)) && ((x4:Int) == x15)) && ((x8:Int) == x19)) then (zb F x5 x16).bind fun x36=>qcN F x9 x20 x36 else qcN F x9 x20 false
def qe1 (F:Nat)(x1:List (qFa))(x4 x5 x6 x7 x8:Int)(x9:qFa):Option (Int×Int×Int×Int×Int×qFa×Int×Int×Int×Int×qFa×Int×qFa×Int):=(qeF F x1 x5 x6 x7).bind fun x15=>if ((x15.2.2:Int) != 0) then some (0,0,0,0,0,([]:qFa),0,0,0,0,([]:qFa),0,([]:qFa),x15.2.2) else (qdd F x15.2.1 x8).bind fun x21=>if ((x21.2.2.2.2.2.2.2:Int) != 0) then some (0,0,0,0,0,([]:qFa),0,0,0,0,([]:qFa),0,([]:qFa),x21.2.2.2.2.2.2.2) else some (x4,x5,x6,x7,x8,x9,x21.1,x21.2.1,x21.2.2.1,x21.2.2.2.1,x21.2.2.2.2.1,x21.2.2.2.2.2.1,x21.2.2.2.2.2.2.1,0)
def qau (_F:Nat)(x49:Bool):Option Int:=if x49 then some 4 else some 0
def qes (F:Nat)(x1 x2 x3 x4 x5:Int)(x6:qFa)(x9 x10 x11 x12:Int)(x13:qFa)(x16:Int)(x17:qFa):Option Int:=(qf6 F x1 x2 x3 x4 x5 x6).bind fun x21=>if ((x21.2:Int) != 0) then some x21.2 else (qe1 F x21.1 x1 x2 x3 x4 x5 x6).bind fun x39=>if ((x39.2.2.2.2.2.2.2.2.2.2.2.2.2:Int) != 0) then qau F true else (qfe F x39.2.2.2.2.2.2.1 x39.2.2.2.2.2.2.2.1 x39.2.2.2.2.2.2.2.2.1 x39.2.2.2.2.2.2.2.2.2.1 x39.2.2.2.2.2.2.2.2.2.2.1 x39.2.2.2.2.2.2.2.2.2.2.2.1 x39.2.2.2.2.2.2.2.2.2.2.2.2.1 x9 x10 x11 x12 x13 x16 x17).bind fun x51=>qau F (!x51)
def qeq (_F:Nat)(_x1:Int)(_x2:qFa)(_x5:Int):Option Unit:=some ()
def yc {σ τ:Type}(_F:Nat)(_yy:σ→Int→Option (σ ⊕ τ))(r3:(Int×σ)→Option (σ ⊕ τ))(x36:Int)(x81:σ):Option (σ ⊕ τ):=r3 (iadd .i64 x36 1,x81)
def yY {σ τ:Type}(F:Nat)(yy:σ→Int→Option (σ ⊕ τ))(x2:Int)(x3:qFa)(x7:Int)(r3:(Int×σ)→Option (σ ⊕ τ))(x36:Int)(x37:σ):Option (σ ⊕ τ):=if decide (x36<x2) then (qbs F x2 x3 x36).bind fun x89=>if ((x89:Int) == x7) then (yy x37 x36).bind (Sum.elim (fun x91=>yc F yy r3 x36 x91) (fun x92=>some (.inr x92))) else yc F yy r3 x36 x37 else some (.inl x37)
def zA {σ τ:Type}(F:Nat)(yy:σ→Int→Option (σ ⊕ τ))(x2:Int)(x3:qFa)(x7:Int):=lp fun r s=>yY F yy x2 x3 x7 r s.1 s.2
def qcM {σ τ:Type}(F:Nat)(yy:σ→Int→Option (σ ⊕ τ))(x2:Int)(x3:qFa)(x7:Int)(s0:σ):Option (σ ⊕ τ):=zA F yy x2 x3 x7 F (0,s0)
def zk (_F:Nat)(x31 x37:Int):Option (Int ⊕ (Int×Int)):=if ((x31:Int) == 0) then some (.inr (x37,x31)) else some (.inl (isub .i64 x31 1))
def qaZ (F:Nat)(x1:Int)(x2:qFa)(x5 x6:Int):Option Int:=(qeq F x1 x2 x5).bind fun _x25=>(qcM F (fun (x31:Int) (x37:Int)=>zk F x31 x37) x1 x2 x5 x6).bind (Sum.elim (fun (_x31:Int)=>some (-1)) (fun ((x35,_x36):(Int×Int))=>some x35))
def qcn (F:Nat)(_x1 _x2 x3 x4:Int)(x5:qFa)(x8:Int)(x9:qFa)(x12:Int):Option Int:=(qaZ F x8 x9 1 x12).bind fun x14=>(jG F x4 x5 (imul .i64 x12 x3) x3).bind fun x15=>chk (decide (0≤x3)) (lett (ior .i64 (ishl .i64 (isub .i64 x14 x12) x3) (iconv .i64 x15.1)) fun x17=>some x17)
def qdi (_F:Nat)(x13:Bool):Option Bool:=some x13
def qeD (F:Nat)(x1:Int)(x2:qFa)(x5:Int)(x6:qFa):Option Bool:=if ((x1:Int) == x5) then (zb F x2 x6).bind fun x14=>qdi F x14 else qdi F false
def qdg (_F:Nat)(x99:qFa)(x0:Bool):Option (qFa×Int):=if x0 then some (([]:qFa),1) else some (x99,0)
def qbF (F:Nat)(x8:Int)(x9 x99:qFa)(x0:(Int×Int×Int×Int×qFa×Int×qFa×Bool))(x1:Bool):Option (qFa×Int):=if x1 then qdg F x99 true else (qeD F x0.2.2.2.2.2.1 x0.2.2.2.2.2.2.1 x8 x9).bind fun x2=>qdg F x99 (!x2)
def vr (F:Nat)(x2 x4:Int)(x5:qFa)(x8:Int)(x9 x99:qFa):Option (qFa×Int):=(qde F x99 x2).bind fun x0=>if ((x0:Int) != 0) then some (([]:qFa),1) else (qfB F x99 x2).bind fun x1=>if (!x1.2.2.2.2.2.2.2) then qbF F x8 x9 x99 x1 true else (qeD F x1.2.2.2.1 x1.2.2.2.2.1 x4 x5).bind fun x3=>qbF F x8 x9 x99 x1 (!x3)
def qdf (F:Nat)(x1 x2 x3 x4:Int)(x5:qFa)(x8:Int)(x9:qFa)(r9:(qFa×Int)→Option (qFa×Int))(x0:qFa)(x6:Int):Option (qFa×Int):=if decide (x6<x1) then (qcn F x1 x2 x3 x4 x5 x8 x9 x6).bind fun x7=>(app 8796093022208 x0 ([x7]:qFa)).bind fun x10=>r9 (x10,iadd .i64 x6 1) else vr F x2 x4 x5 x8 x9 x0
def qdh (F:Nat)(x1 x2 x3 x4:Int)(x5:qFa)(x8:Int)(x9:qFa):=lp fun r s=>qdf F x1 x2 x3 x4 x5 x8 x9 r s.1 s.2
def zY (F:Nat)(x1 x2 x3 x4:Int)(x5:qFa)(x8:Int)(x9:qFa)(x49:Bool):Option (qFa×Int):=if x49 then some (([]:qFa),1) else qdh F x1 x2 x3 x4 x5 x8 x9 F (([]:qFa),0)
def qar (F:Nat)(x1 x2 x3 x4:Int)(x5:qFa)(x8:Int)(x9:qFa):Option (qFa×Int):=if (((decide (x1<0) || decide (300<x1)) || decide (x2<0)) || decide (1048576<x2)) then some (([]:qFa),3) else (qdj F x1 x2).bind fun x0=>if ((x3:Int) != x0) then zY F x1 x2 x3 x4 x5 x8 x9 true else (qci F x4 x5).bind fun x6=>if ((x6:Int) != 0) then zY F x1 x2 x3 x4 x5 x8 x9 true else (qci F x8 x9).bind fun x7=>if ((x7:Int) != 0) then zY F x1 x2 x3 x4 x5 x8 x9 true else if ((x4:Int) != (imul .i64 x1 x3)) then zY F x1 x2 x3 x4 x5 x8 x9 true else (qaZ F x8 x9 1 (isub .i64 x1 1)).bind fun x10=>if decide (x10<0) then zY F x1 x2 x3 x4 x5 x8 x9 (decide (0<x1)) else zY F x1 x2 x3 x4 x5 x8 x9 false
def qe8 (F:Nat)(x1 x2 x3 x4:Int)(x5:qFa)(x8:Int)(x9:qFa):Option Int:=(qar F x1 x2 x3 x4 x5 x8 x9).bind fun x13=>some x13.2
def qej (F:Nat)(x1 x2 x3 x4:Int)(x5:qFa)(x8:Int)(x9:qFa)(x12 x20:Int):Option (Int×Int):=if ((x20:Int) != 0) then some (0,x20) else (qcn F x1 x2 x3 x4 x5 x8 x9 x12).bind fun x22=>some (x22,0)
def qek (F:Nat)(x1 x2 x3 x4:Int)(x5:qFa)(x8:Int)(x9:qFa)(x12 x14:Int)(x26:Bool):Option (Int×Int):=if x26 then qej F x1 x2 x3 x4 x5 x8 x9 x12 3 else qej F x1 x2 x3 x4 x5 x8 x9 x12 x14
def qfA (F:Nat)(x1 x2 x3 x4:Int)(x5:qFa)(x8:Int)(x9:qFa)(x12:Int):Option (Int×Int):=(qe8 F x1 x2 x3 x4 x5 x8 x9).bind fun x14=>if ((x14:Int) == 0) then qek F x1 x2 x3 x4 x5 x8 x9 x12 x14 (decide (x12<0) || decide (x1≤x12)) else qek F x1 x2 x3 x4 x5 x8 x9 x12 x14 false
def yq (F:Nat)(x7:qFa)(x22:Int)(x24:(Int×Int×Bool))(x31:qFa)(x32 x33 x34 x35 x36 x37 x38 x39 x40 x41 x42:Int):Option (qFa×Int×Int×Int×Int×Int×Int×Int×Int×Int×Int×Int):=(qaK F x36 x7 x24.2.1 x22 x31 x24.1 x34 x35).bind fun x47=>some (x47.1,x32,x33,x34,x35,x36,x37,x38,x39,x40,x41,x42)
def yF:Nat→Int→Int→Int→Int→Int→(qFa)→Int→Int→Int→Int→(qFa)→Int→(qFa)→Int→Int→Option (qFa×Int×Int×Int×Int×Int×Int×Int×Int×Int×Int×Int)
  | 0=>fun _ _ _ _ _ _ _ _ _ _ _ _ _ _ _=>none
  | F+1=>fun x2 x3 x4 x5 x6 x7 x10 x11 x12 x13 x14 x17 x18 x21 x22 =>
    let self:=yF F
    ((qfA F x10 x11 x12 x13 x14 x17 x18 x22).bind fun x23=>((qfG F x2 x3 x4 x5 x6 x7 x23.1 x22).bind fun x24=>(if (decide (0<x24.1)) then ((self x2 x3 x4 x5 x6 x7 x10 x11 x12 x13 x14 x17 x18 (iadd .i64 x21 1) (isub .i64 x22 x24.1)).bind fun x50=>yq F x7 x22 x24 x50.1 x50.2.1 x50.2.2.1 x50.2.2.2.1 x50.2.2.2.2.1 x50.2.2.2.2.2.1 x50.2.2.2.2.2.2.1 x50.2.2.2.2.2.2.2.1 x50.2.2.2.2.2.2.2.2.1 x50.2.2.2.2.2.2.2.2.2.1 x50.2.2.2.2.2.2.2.2.2.2.1 x50.2.2.2.2.2.2.2.2.2.2.2) else yq F x7 x22 x24 ([]:qFa) x2 x3 x4 x5 x6 x10 x11 x12 x13 x17 (iadd .i64 x21 1))))
def qbf (F:Nat)(x1 x2 x3 x4 x5:Int)(x6:qFa)(x9 x10 x11 x12:Int)(x13:qFa)(x16:Int)(x17:qFa)(x20 x28:Int):Option (qFa×Int×Int):=if ((x28:Int) != 0) then some (([]:qFa),0,x28) else (yF F x1 x2 x3 x4 x5 x6 x9 x10 x11 x12 x13 x16 x17 0 x20).bind fun x31=>some (x31.1,x31.2.2.2.2.2.2.2.2.2.2.2,0)
def qbg (F:Nat)(x1 x2 x3 x4 x5:Int)(x6:qFa)(x9 x10 x11 x12:Int)(x13:qFa)(x16:Int)(x17:qFa)(x20 x22:Int)(x37:Bool):Option (qFa×Int×Int):=if x37 then qbf F x1 x2 x3 x4 x5 x6 x9 x10 x11 x12 x13 x16 x17 x20 3 else qbf F x1 x2 x3 x4 x5 x6 x9 x10 x11 x12 x13 x16 x17 x20 x22
def qcr (F:Nat)(x1 x2 x3 x4 x5:Int)(x6:qFa)(x9 x10 x11 x12:Int)(x13:qFa)(x16:Int)(x17:qFa)(x20:Int):Option (qFa×Int×Int):=(qes F x1 x2 x3 x4 x5 x6 x9 x10 x11 x12 x13 x16 x17).bind fun x22=>if ((x22:Int) == 0) then qbg F x1 x2 x3 x4 x5 x6 x9 x10 x11 x12 x13 x16 x17 x20 x22 (decide (x20<0) || decide (x1≤x20)) else qbg F x1 x2 x3 x4 x5 x6 x9 x10 x11 x12 x13 x16 x17 x20 x22 false
def qb3 (_F:Nat)(x82:List (qFa)):Option (qFa):=(joinM x82 ([32]:qFa)).bind fun x83=>some x83
def qb2 (F:Nat)(x12:qFa)(r3:(List (qFa)×Int)→Option (qFa))(x0:List (qFa))(x1:Int):Option (qFa):=if decide (x1<(x12.length:Int)) then (idx x12 x1).bind fun x2=>(itoaC x2).bind fun x3=>(app 4398046511104 x0 ([x3]:List (qFa))).bind fun x4=>r3 (x4,iadd .i64 x1 1) else qb3 F x0
def qb4 (F:Nat)(x12:qFa):=lp fun r s=>qb2 F x12 r s.1 s.2
def jS (F:Nat)(_x2:List (qFa))(_x5 _x6 _x7:Int)(_x8 _x11 x12:qFa):Option (qFa):=qb4 F x12 F (([]:List (qFa)),0)
def jR (F:Nat)(x2:List (qFa))(x5 x6 x7:Int)(x8 x11:qFa)(x29 x30 x31 x32 x33 x34:Int)(x37:qFa)(x38 x39 x40 x41:Int)(x44:qFa)(x45:Int)(x48:qFa):Option (Int×qFa):=if ((x29:Int) != 0) then some (x29,x11) else (idx x8 0).bind fun x57=>(qcr F x30 x31 x32 x33 x34 x37 x38 x39 x40 x41 x44 x45 x48 x57).bind fun x61=>(jS F x2 x5 x6 x7 x8 x11 x61.1).bind fun x64=>some (x61.2.2,x64)
def qbE (F:Nat)(x2:List (qFa))(x5 x6 x7:Int)(x8 x11:qFa):Option (Int×qFa):=(qcC F x2 x5 x6 x7).bind fun x66=>jR F x2 x5 x6 x7 x8 x11 x66.2.2.2.2.2.2.2.2.2.2.2.2.2 x66.1 x66.2.1 x66.2.2.1 x66.2.2.2.1 x66.2.2.2.2.1 x66.2.2.2.2.2.1 x66.2.2.2.2.2.2.1 x66.2.2.2.2.2.2.2.1 x66.2.2.2.2.2.2.2.2.1 x66.2.2.2.2.2.2.2.2.2.1 x66.2.2.2.2.2.2.2.2.2.2.1 x66.2.2.2.2.2.2.2.2.2.2.2.1 x66.2.2.2.2.2.2.2.2.2.2.2.2.1
def qfM (_F:Nat)(x1:Int)(x3:List (qFa)):Option Bool:=some (decide (x1<0) || decide ((x3.length:Int)≤x1))
def yx (_F:Nat):Option Int:=some (-1)
def kg (F:Nat)(x1:qFa)(x5:List (qFa))(r3:Int→Option Int)(x58:Int):Option Int:=if decide (x58<(x1.length:Int)) then (idx x1 x58).bind fun x78=>(qfM F x78 x5).bind fun x81=>if x81 then some x58 else r3 (iadd .i64 x58 1) else yx F
def kj (F:Nat)(x1:qFa)(x5:List (qFa)):=lp fun r s=>kg F x1 x5 r s
def kH (F:Nat)(x1:qFa)(x5:List (qFa)):Option Int:=kj F x1 x5 F 0
def ke (F:Nat)(x1:qFa)(x5:List (qFa)):Option Bool:=(kH F x1 x5).bind fun x8=>some (decide (0≤x8))
def qdD (F:Nat)(x1:List (qFa))(x4:qFa):Option Int:=(kQ F x1).bind fun x10=>if ((x10:Int) != 0) then some x10 else (ke F x4 x1).bind fun x13=>if x13 then some 3 else some 0
def qhK (_F:Nat)(x0:qFa):Option (qFa):=some x0
def qdE (_F:Nat)(r48:(qFa×qFa)→Option (qFa))(x0 x1:qFa):Option (qFa):=(sub x1 1 (x1.length:Int)).bind fun x2=>r48 (x0,x2)
def qcb (_F:Nat)(r56:(qFa×qFa×Int)→Option (qFa))(x0:Int)(x1 x2:qFa):Option (qFa):=r56 (x1,x2,iadd .i64 x0 1)
def qca (F:Nat)(r48:(qFa×qFa)→Option (qFa))(x0:Int)(x1:qFa)(r56:(qFa×qFa×Int)→Option (qFa))(x2 x3:qFa)(x4:Int):Option (qFa):=if decide (x4<(x1.length:Int)) then (idx x1 x4).bind fun x5=>(idx x2 x5).bind fun x6=>if decide (x6<0) then (idx x2 x0).bind fun x7=>(idx x2 x5).bind fun _x2035=>lett (x2.set x5.toNat (iadd .i64 x7 1)) fun x8=>(app 8796093022208 x3 ([x5]:qFa)).bind fun x9=>qcb F r56 x4 x8 x9 else qcb F r56 x4 x2 x3 else qdE F r48 x2 x3
def v8 (F:Nat)(r48:(qFa×qFa)→Option (qFa))(x0:Int)(x1:qFa):=lp fun r s=>qca F r48 x0 x1 r s.1 s.2.1 s.2.2
def qfN (F:Nat)(x1:List (qFa))(r48:(qFa×qFa)→Option (qFa))(x0 x2:qFa):Option (qFa):=if decide (0<(x2.length:Int)) then (idx x2 0).bind fun x3=>(idx x1 x3).bind fun x4=>v8 F r48 x3 x4 F (x0,x2,0) else qhK F x0
def v7 (F:Nat)(x1:List (qFa)):=lp fun r s=>qfN F x1 r s.1 s.2
def qcU (F:Nat)(x1:List (qFa))(x4:Int):Option (qFa):=(qe F ([-1]:qFa) (x1.length:Int)).bind fun x8=>(idx x8 x4).bind fun _x11=>lett (x8.set x4.toNat 0) fun x14=>v7 F x1 F (x14,([x4]:qFa))
def qha (F:Nat)(x1:List (qFa))(x4:Int):Option (qFa×Int):=(qdD F x1 ([x4]:qFa)).bind fun x12=>if ((x12:Int) != 0) then some (([]:qFa),x12) else (qcU F x1 x4).bind fun x13=>some (x13,0)
def qaj (_F:Nat)(x26:(qFa×Int))(x43:qFa):Option (Int×qFa):=some (x26.2,x43)
def qck (F:Nat)(x2:List (qFa))(x5 x6 x7:Int)(x8 x11:qFa):Option (Int×qFa):=(ka F x2 x5 x6 x7 x8 x11 x8).bind fun x14=>if (!x14) then some (3,x11) else (idx x8 0).bind fun x22=>(qha F x2 x22).bind fun x26=>(idx x8 1).bind fun x44=>(idx x26.1 x44).bind fun x47=>(itoaC x47).bind fun x50=>(idx x8 1).bind fun x51=>(idx x26.1 x51).bind fun x54=>if decide (x54<0) then qaj F x26 ([110,111,110,101]:qFa) else qaj F x26 x50
def qf4 (_F:Nat)(x47:List (Int×Int))(x56 x57:Int):Option (List (Int×Int) ⊕ Empty):=(app 4398046511104 x47 ([(x57,x56)]:List (Int×Int))).bind fun x61=>some (.inl x61)
def qdq (F:Nat)(x1:List (qFa)):Option (List (Int×Int)):=(jV F x1).bind fun _x35=>(j9 F (fun (x47:List (Int×Int)) ((x56,x57):(Int×Int))=>qf4 F x47 x56 x57) x1 ([]:List (Int×Int))).bind (Sum.elim (fun (x47:List (Int×Int))=>some x47) (fun t=>t.elim))
def qfa (F:Nat)(x1:List (qFa)):Option (List (qFa)×Int):=(kQ F x1).bind fun x8=>if ((x8:Int) != 0) then some (([]:List (qFa)),x8) else (qdq F x1).bind fun x20=>(zo F x20).bind fun _x23=>(qm F x20).bind fun x25=>(qcx F (x1.length:Int) x25).bind fun x28=>some (x28,0)
def qhc (_F:Nat)(x1:Int)(x3:qFa)(x7:Int):Option Bool:=(idx x3 x1).bind fun x16=>(idx x3 x7).bind fun x20=>some ((x16:Int) == (isub .i64 x20 1))
def yO (_F:Nat):Option Int:=some (-1)
def kv (F:Nat)(x1 x5:qFa)(x9:Int)(r3:Int→Option Int)(x60:Int):Option Int:=if decide (x60<(x1.length:Int)) then (idx x1 x60).bind fun x80=>(qhc F x80 x5 x9).bind fun x83=>if x83 then some x60 else r3 (iadd .i64 x60 1) else yO F
def kw (F:Nat)(x1 x5:qFa)(x9:Int):=lp fun r s=>kv F x1 x5 x9 r s
def kT (F:Nat)(x1 x5:qFa)(x9:Int):Option Int:=kw F x1 x5 x9 F 0
def qgB (_F:Nat)(x0:qFa):Option (qFa×Int):=some (x0,0)
def qcE (F:Nat)(x1:List (qFa))(x5:Int)(x18:qFa)(r3:(qFa×Int)→Option (qFa×Int))(x0:qFa)(x2:Int):Option (qFa×Int):=if ((x2:Int) != x5) then (idx x1 x2).bind fun x3=>(kT F x3 x18 x2).bind fun x4=>(idx x1 x2).bind fun x6=>(idx x6 x4).bind fun x7=>(app 8796093022208 x0 ([x7]:qFa)).bind fun x8=>r3 (x8,x7) else qgB F x0
def qet (F:Nat)(x1:List (qFa))(x5:Int)(x18:qFa):=lp fun r s=>qcE F x1 x5 x18 r s.1 s.2
def qhb (F:Nat)(x1:List (qFa))(x4 x5:Int):Option (qFa×Int):=(qdD F x1 ([x4,x5]:qFa)).bind fun x13=>if ((x13:Int) != 0) then some (([]:qFa),x13) else (qfa F x1).bind fun x14=>(qcU F x14.1 x5).bind fun x18=>(idx x18 x4).bind fun x26=>if decide (x26<0) then some (([]:qFa),5) else qet F x1 x5 x18 F (([x4]:qFa),x4)
def jd (_F:Nat)(x19:Int)(x20:qFa):Option (Int×qFa):=some (x19,x20)
def vR (F:Nat)(x2:List (qFa))(x5 x6 x7:Int)(x8 x11 x12:qFa)(x15 x16:Int):Option (Int×qFa):=(jS F x2 x5 x6 x7 x8 x11 x12).bind fun x21=>if ((x15:Int) == x16) then jd F 0 ([110,111,110,101]:qFa) else jd F x15 x21
def qcm (F:Nat)(x2:List (qFa))(x5 x6 x7:Int)(x8 x11:qFa):Option (Int×qFa):=(idx x8 0).bind fun x23=>(idx x8 1).bind fun x27=>(qhb F x2 x23 x27).bind fun x31=>(vR F x2 x5 x6 x7 x8 x11 x31.1 x31.2 5).bind fun x34=>some (x34.1,x34.2)
def kL (F:Nat)(x3:List (qFa))(x6 x7 x8:Int)(x9 x12:qFa):Option (Int×qFa):=(idx x9 0).bind fun x36=>(ka F x3 x6 x7 x8 x9 x12 ([x36]:qFa)).bind fun x42=>if (!x42) then some (3,x12) else (qdA F x3).bind fun x46=>(idx x9 0).bind fun x58=>(idx x46.1 x58).bind fun x62=>(itoaC x62).bind fun x66=>some (x46.2,x66)
def vT (_F:Nat)(x0 x1:qFa)(x2 x3:Int):Option ((qFa×qFa) ⊕ Empty):=(idx x1 x2).bind fun x4=>(idx x1 x2).bind fun _x150=>lett (x1.set x2.toNat (iadd .i64 x4 1)) fun x5=>(idx x0 x3).bind fun x6=>(idx x0 x3).bind fun _x159=>lett (x0.set x3.toNat (iadd .i64 x6 1)) fun x7=>some (.inl (x7,x5))
def yX (F:Nat)(x1:List (qFa))(x27 x30:qFa):Option (qFa×qFa×Int):=(jV F x1).bind fun _x98=>(j9 F (fun ((x0,x2):(qFa×qFa)) ((x3,x4):(Int×Int))=>vT F x0 x2 x3 x4) x1 (x27,x30)).bind (Sum.elim (fun ((x0,x2):(qFa×qFa))=>some (x2,x0,0)) (fun t=>t.elim))
def qcH (F:Nat)(x1:List (qFa)):Option (qFa×qFa×Int):=(kQ F x1).bind fun x9=>if ((x9:Int) != 0) then some (([]:qFa),([]:qFa),x9) else (mk 17592186044416 (0:Int) (x1.length:Int)).bind fun x0=>(mk 17592186044416 (0:Int) (x1.length:Int)).bind fun x2=>yX F x1 x2 x0
def qfL (_F:Nat)(x0:qFa):Option (qFa×Int):=some (x0,0)
def qa1 (_F:Nat)(r18:(qFa×qFa)→Option (qFa×Int))(x0:qFa)(x1:Int)(x2:qFa):Option (qFa×Int):=(app 8796093022208 x0 ([x1]:qFa)).bind fun x3=>r18 (x2,x3)
def qcT (F:Nat)(r18:(qFa×qFa)→Option (qFa×Int))(x0:qFa)(x1:Int)(x2:qFa)(r21:(qFa×Int)→Option (qFa×Int))(x3:qFa)(x4:Int):Option (qFa×Int):=if decide (x4<(x2.length:Int)) then (idx x2 x4).bind fun x5=>(idx x3 x5).bind fun x6=>(idx x3 x5).bind fun _x1139=>lett (x3.set x5.toNat (isub .i64 x6 1)) fun x7=>r21 (x7,iadd .i64 x4 1) else qa1 F r18 x0 x1 x3
def qa2 (F:Nat)(r18:(qFa×qFa)→Option (qFa×Int))(x0:qFa)(x1:Int)(x2:qFa):=lp fun r s=>qcT F r18 x0 x1 x2 r s.1 s.2
def qcS (F:Nat)(x1:List (qFa))(r18:(qFa×qFa)→Option (qFa×Int))(x0 x2:qFa):Option (qFa×Int):=if decide ((x2.length:Int)<(x0.length:Int)) then (zE F x0 0).bind fun x3=>if decide (x3<0) then some (([]:qFa),4) else (idx x0 x3).bind fun _x964=>lett (x0.set x3.toNat (-1)) fun x4=>(idx x1 x3).bind fun x5=>qa2 F r18 x2 x3 x5 F (x4,0) else qfL F x2
def vW (F:Nat)(x1:List (qFa)):=lp fun r s=>qcS F x1 r s.1 s.2
def qdz (F:Nat)(x1:List (qFa)):Option (qFa×Int):=(qcH F x1).bind fun x5=>if ((x5.2.2:Int) != 0) then some (([]:qFa),x5.2.2) else vW F x1 F (x5.2.1,([]:qFa))
def qaS (F:Nat)(x2:List (qFa))(x5 x6 x7:Int)(x8 x11:qFa):Option (Int×qFa):=(qdz F x2).bind fun x12=>(vR F x2 x5 x6 x7 x8 x11 x12.1 x12.2 4).bind fun x15=>some (x15.1,x15.2)
def kK (F:Nat)(x3:List (qFa))(x6 x7 x8:Int)(x9 x12:qFa):Option (Int×qFa):=(idx x9 0).bind fun x36=>(ka F x3 x6 x7 x8 x9 x12 ([x36]:qFa)).bind fun x42=>if (!x42) then some (3,x12) else (qc8 F x3).bind fun x46=>(idx x9 0).bind fun x58=>(idx x46.1 x58).bind fun x62=>(itoaC x62).bind fun x66=>some (x46.2,x66)
def qgk (_F:Nat)(_x1:List (qFa)):Option Unit:=some ()
def jN {σ τ:Type}(_F:Nat)(_yy:σ→qFa→Option (σ ⊕ τ))(r115:(Int×σ)→Option (σ ⊕ τ))(x0:Int)(x1:σ):Option (σ ⊕ τ):=r115 (iadd .i64 x0 1,x1)
def jO {σ τ:Type}(_F:Nat)(_yy:σ→qFa→Option (σ ⊕ τ))(r163:(Int×σ)→Option (σ ⊕ τ))(x0:Int)(x1:σ):Option (σ ⊕ τ):=r163 (iadd .i64 x0 1,x1)
def jP {σ τ:Type}(_F:Nat)(_yy:σ→qFa→Option (σ ⊕ τ))(r171:(Int×σ)→Option (σ ⊕ τ))(x0:Int)(x1:σ):Option (σ ⊕ τ):=r171 (iadd .i64 x0 1,x1)
def jM {σ τ:Type}(F:Nat)(yy:σ→qFa→Option (σ ⊕ τ))(r163:(Int×σ)→Option (σ ⊕ τ))(x2:List (qFa))(x0 x1 x3:Int)(x4:qFa)(r171:(Int×σ)→Option (σ ⊕ τ))(x5:Int)(x6:σ):Option (σ ⊕ τ):=if decide (x5<(x4.length:Int)) then (idx x4 x5).bind fun x7=>(idx x2 x3).bind fun x8=>(zB F x8 x7).bind fun x9=>if (x9.2 && decide (x0<x3)) then (yy x6 ([x0,x3,x7]:qFa)).bind (Sum.elim (fun x10=>jP F yy r171 x5 x10) (fun x11=>some (.inr x11))) else jP F yy r171 x5 x6 else jO F yy r163 x1 x6
def yf {σ τ:Type}(F:Nat)(yy:σ→qFa→Option (σ ⊕ τ))(r163:(Int×σ)→Option (σ ⊕ τ))(x2:List (qFa))(x0 x1 x3:Int)(x4:qFa):=lp fun r s=>jM F yy r163 x2 x0 x1 x3 x4 r s.1 s.2
def jL {σ τ:Type}(F:Nat)(yy:σ→qFa→Option (σ ⊕ τ))(r115:(Int×σ)→Option (σ ⊕ τ))(x2:List (qFa))(x0:Int)(x1:qFa)(r163:(Int×σ)→Option (σ ⊕ τ))(x3:Int)(x4:σ):Option (σ ⊕ τ):=if decide (x3<(x1.length:Int)) then (idx x1 x3).bind fun x5=>(sub x1 (iadd .i64 x3 1) (x1.length:Int)).bind fun x6=>yf F yy r163 x2 x0 x3 x5 x6 F (0,x4) else jN F yy r115 x0 x4
def zd {σ τ:Type}(F:Nat)(yy:σ→qFa→Option (σ ⊕ τ))(r115:(Int×σ)→Option (σ ⊕ τ))(x2:List (qFa))(x0:Int)(x1:qFa):=lp fun r s=>jL F yy r115 x2 x0 x1 r s.1 s.2
def jK {σ τ:Type}(F:Nat)(yy:σ→qFa→Option (σ ⊕ τ))(x2:List (qFa))(r115:(Int×σ)→Option (σ ⊕ τ))(x0:Int)(x1:σ):Option (σ ⊕ τ):=if decide (x0<(x2.length:Int)) then (idx x2 x0).bind fun x3=>zd F yy r115 x2 x0 x3 F (0,x1) else some (.inl x1)
def qN {σ τ:Type}(F:Nat)(yy:σ→qFa→Option (σ ⊕ τ))(x2:List (qFa)):=lp fun r s=>jK F yy x2 r s.1 s.2
def qeQ {σ τ:Type}(F:Nat)(yy:σ→qFa→Option (σ ⊕ τ))(x2:List (qFa))(s0:σ):Option (σ ⊕ τ):=qN F yy x2 F (0,s0)
def qan (_F:Nat)(x0:Int)(x1:qFa)(r8:(Int×qFa)→Option ((Int×qFa) ⊕ Empty))(x2:Int)(x3:qFa):Option ((Int×qFa) ⊕ Empty):=if decide (x2<3) then chk (decide (x1.length=3)) ((idx x1 x2).bind fun x4=>(idx x3 x4).bind fun x5=>(idx x3 x4).bind fun _x494=>lett (x3.set x4.toNat (iadd .i64 x5 1)) fun x6=>r8 (iadd .i64 x2 1,x6)) else some (.inl (iadd .i64 x0 1,x3))
def qao (F:Nat)(x0:Int)(x1:qFa):=lp fun r s=>qan F x0 x1 r s.1 s.2
def ye (F:Nat)(x0:Int)(x1 x2:qFa):Option ((Int×qFa) ⊕ Empty):=chk (decide (x2.length=3)) (chk (decide (x2.length=3)) (qao F x0 x2 F (0,x1)))
def qeh (F:Nat)(x1:List (qFa)):Option (qFa×Int×Int):=(kQ F x1).bind fun x9=>if ((x9:Int) != 0) then some (([]:qFa),0,x9) else (mk 17592186044416 (0:Int) (x1.length:Int)).bind fun x10=>(qeC F x1).bind fun x0=>(qgk F x0).bind fun _x260=>(qeQ F (fun ((x2,x3):(Int×qFa)) (x4:qFa)=>ye F x2 x3 x4) x0 (0,x10)).bind (Sum.elim (fun ((x2,x3):(Int×qFa))=>some (x3,x2,0)) (fun t=>t.elim))
def qak (F:Nat)(x2:List (qFa))(_x5 _x6 _x7:Int)(_x8 _x11:qFa):Option (Int×qFa):=(qeh F x2).bind fun x12=>(itoaC x12.2.1).bind fun x15=>some (x12.2.2,x15)
def qs (_F:Nat)(x0:Int)(x1:List (qFa))(x2 x3 x4:Int)(_x232 x5:qFa):Option (List (qFa)×Int×Int×Int×qFa×Int):=if ((x0:Int) != 0) then some (([]:List (qFa)),0,0,0,([]:qFa),x0) else some (x1,x2,x3,x4,x5,0)
def jm (F:Nat)(x10:(List (qFa)×Int×Int×Int))(x14:List (qFa)):Option (List (qFa)×Int×Int×Int×qFa×Int):=(sub x14 1 (x14.length:Int)).bind fun x0=>(qT F x10.1 x10.2.1 x10.2.2.1 x10.2.2.2 ([]:qFa) ([111,107]:qFa) 1 x0).bind fun x1=>if x1.1 then (qaR F x10.1 x10.2.1 x10.2.2.1 x10.2.2.2 x1.2 ([111,107]:qFa)).bind fun x2=>qs F x2.1 x2.2 x10.2.1 x10.2.2.1 x10.2.2.2 x1.2 ([111,107]:qFa) else qs F 1 x10.1 x10.2.1 x10.2.2.1 x10.2.2.2 x1.2 ([111,107]:qFa)
def jn (F:Nat)(x10:(List (qFa)×Int×Int×Int))(x14:List (qFa)):Option (List (qFa)×Int×Int×Int×qFa×Int):=(sub x14 1 (x14.length:Int)).bind fun x0=>(qT F x10.1 x10.2.1 x10.2.2.1 x10.2.2.2 ([]:qFa) ([111,107]:qFa) 2 x0).bind fun x1=>if x1.1 then (qcj F x10.1 x10.2.1 x10.2.2.1 x10.2.2.2 x1.2 ([111,107]:qFa)).bind fun x2=>qs F x2.1 x2.2 x10.2.1 x10.2.2.1 x10.2.2.2 x1.2 ([111,107]:qFa) else qs F 1 x10.1 x10.2.1 x10.2.2.1 x10.2.2.2 x1.2 ([111,107]:qFa)
def jo (F:Nat)(x10:(List (qFa)×Int×Int×Int))(x14:List (qFa)):Option (List (qFa)×Int×Int×Int×qFa×Int):=(sub x14 1 (x14.length:Int)).bind fun x0=>(qT F x10.1 x10.2.1 x10.2.2.1 x10.2.2.2 ([]:qFa) ([111,107]:qFa) 2 x0).bind fun x1=>if x1.1 then (vq F x10.1 x10.2.1 x10.2.2.1 x10.2.2.2 x1.2 ([111,107]:qFa)).bind fun x2=>qs F x2.1 x2.2 x10.2.1 x10.2.2.1 x10.2.2.2 x1.2 ([111,107]:qFa) else qs F 1 x10.1 x10.2.1 x10.2.2.1 x10.2.2.2 x1.2 ([111,107]:qFa)
def jp (F:Nat)(x10:(List (qFa)×Int×Int×Int))(x14:List (qFa)):Option (List (qFa)×Int×Int×Int×qFa×Int):=(sub x14 1 (x14.length:Int)).bind fun x0=>(qT F x10.1 x10.2.1 x10.2.2.1 x10.2.2.2 ([]:qFa) ([111,107]:qFa) 3 x0).bind fun x1=>if x1.1 then (qcl F x10.1 x10.2.1 x10.2.2.1 x10.2.2.2 x1.2 ([111,107]:qFa)).bind fun x2=>qs F x2.1 x10.1 x2.2.1 x2.2.2.1 x2.2.2.2 x1.2 ([111,107]:qFa) else qs F 1 x10.1 x10.2.1 x10.2.2.1 x10.2.2.2 x1.2 ([111,107]:qFa)
def jq (F:Nat)(x10:(List (qFa)×Int×Int×Int))(x14:List (qFa)):Option (List (qFa)×Int×Int×Int×qFa×Int):=(sub x14 1 (x14.length:Int)).bind fun x0=>(qT F x10.1 x10.2.1 x10.2.2.1 x10.2.2.2 ([]:qFa) ([111,107]:qFa) 0 x0).bind fun x1=>if x1.1 then (qbD F x10.1 x10.2.1 x10.2.2.1 x10.2.2.2 x1.2 ([111,107]:qFa)).bind fun x2=>qs F x2.1 x10.1 x10.2.1 x10.2.2.1 x10.2.2.2 x1.2 x2.2 else qs F 1 x10.1 x10.2.1 x10.2.2.1 x10.2.2.2 x1.2 ([111,107]:qFa)
def jr (F:Nat)(x10:(List (qFa)×Int×Int×Int))(x14:List (qFa)):Option (List (qFa)×Int×Int×Int×qFa×Int):=(sub x14 1 (x14.length:Int)).bind fun x0=>(qT F x10.1 x10.2.1 x10.2.2.1 x10.2.2.2 ([]:qFa) ([111,107]:qFa) 1 x0).bind fun x1=>if x1.1 then (qbE F x10.1 x10.2.1 x10.2.2.1 x10.2.2.2 x1.2 ([111,107]:qFa)).bind fun x2=>qs F x2.1 x10.1 x10.2.1 x10.2.2.1 x10.2.2.2 x1.2 x2.2 else qs F 1 x10.1 x10.2.1 x10.2.2.1 x10.2.2.2 x1.2 ([111,107]:qFa)
def js (F:Nat)(x10:(List (qFa)×Int×Int×Int))(x14:List (qFa)):Option (List (qFa)×Int×Int×Int×qFa×Int):=(sub x14 1 (x14.length:Int)).bind fun x0=>(qT F x10.1 x10.2.1 x10.2.2.1 x10.2.2.2 ([]:qFa) ([111,107]:qFa) 2 x0).bind fun x1=>if x1.1 then (qck F x10.1 x10.2.1 x10.2.2.1 x10.2.2.2 x1.2 ([111,107]:qFa)).bind fun x2=>qs F x2.1 x10.1 x10.2.1 x10.2.2.1 x10.2.2.2 x1.2 x2.2 else qs F 1 x10.1 x10.2.1 x10.2.2.1 x10.2.2.2 x1.2 ([111,107]:qFa)
def jt (F:Nat)(x10:(List (qFa)×Int×Int×Int))(x14:List (qFa)):Option (List (qFa)×Int×Int×Int×qFa×Int):=(sub x14 1 (x14.length:Int)).bind fun x0=>(qT F x10.1 x10.2.1 x10.2.2.1 x10.2.2.2 ([]:qFa) ([111,107]:qFa) 2 x0).bind fun x1=>if x1.1 then (qcm F x10.1 x10.2.1 x10.2.2.1 x10.2.2.2 x1.2 ([111,107]:qFa)).bind fun x2=>qs F x2.1 x10.1 x10.2.1 x10.2.2.1 x10.2.2.2 x1.2 x2.2 else qs F 1 x10.1 x10.2.1 x10.2.2.1 x10.2.2.2 x1.2 ([111,107]:qFa)
def ju (F:Nat)(x10:(List (qFa)×Int×Int×Int))(x14:List (qFa)):Option (List (qFa)×Int×Int×Int×qFa×Int):=(sub x14 1 (x14.length:Int)).bind fun x0=>(qT F x10.1 x10.2.1 x10.2.2.1 x10.2.2.2 ([]:qFa) ([111,107]:qFa) 1 x0).bind fun x1=>if x1.1 then (kL F x10.1 x10.2.1 x10.2.2.1 x10.2.2.2 x1.2 ([111,107]:qFa)).bind fun x2=>qs F x2.1 x10.1 x10.2.1 x10.2.2.1 x10.2.2.2 x1.2 x2.2 else qs F 1 x10.1 x10.2.1 x10.2.2.1 x10.2.2.2 x1.2 ([111,107]:qFa)
def jv (F:Nat)(x10:(List (qFa)×Int×Int×Int))(x14:List (qFa)):Option (List (qFa)×Int×Int×Int×qFa×Int):=(sub x14 1 (x14.length:Int)).bind fun x0=>(qT F x10.1 x10.2.1 x10.2.2.1 x10.2.2.2 ([]:qFa) ([111,107]:qFa) 0 x0).bind fun x1=>if x1.1 then (qaS F x10.1 x10.2.1 x10.2.2.1 x10.2.2.2 x1.2 ([111,107]:qFa)).bind fun x2=>qs F x2.1 x10.1 x10.2.1 x10.2.2.1 x10.2.2.2 x1.2 x2.2 else qs F 1 x10.1 x10.2.1 x10.2.2.1 x10.2.2.2 x1.2 ([111,107]:qFa)
def jw (F:Nat)(x10:(List (qFa)×Int×Int×Int))(x14:List (qFa)):Option (List (qFa)×Int×Int×Int×qFa×Int):=(sub x14 1 (x14.length:Int)).bind fun x0=>(qT F x10.1 x10.2.1 x10.2.2.1 x10.2.2.2 ([]:qFa) ([111,107]:qFa) 1 x0).bind fun x1=>if x1.1 then (kK F x10.1 x10.2.1 x10.2.2.1 x10.2.2.2 x1.2 ([111,107]:qFa)).bind fun x2=>qs F x2.1 x10.1 x10.2.1 x10.2.2.1 x10.2.2.2 x1.2 x2.2 else qs F 1 x10.1 x10.2.1 x10.2.2.1 x10.2.2.2 x1.2 ([111,107]:qFa)
def jx (F:Nat)(x10:(List (qFa)×Int×Int×Int))(x14:List (qFa)):Option (List (qFa)×Int×Int×Int×qFa×Int):=(sub x14 1 (x14.length:Int)).bind fun x0=>(qT F x10.1 x10.2.1 x10.2.2.1 x10.2.2.2 ([]:qFa) ([111,107]:qFa) 0 x0).bind fun x1=>if x1.1 then (qak F x10.1 x10.2.1 x10.2.2.1 x10.2.2.2 x1.2 ([111,107]:qFa)).bind fun x2=>qs F x2.1 x10.1 x10.2.1 x10.2.2.1 x10.2.2.2 x1.2 x2.2 else qs F 1 x10.1 x10.2.1 x10.2.2.1 x10.2.2.2 x1.2 ([111,107]:qFa)
def qcG (F:Nat)(x10:(List (qFa)×Int×Int×Int)):Option (List (qFa)×Int×Int×Int×qFa×Int):=qs F 1 x10.1 x10.2.1 x10.2.2.1 x10.2.2.2 ([]:qFa) ([111,107]:qFa)
def qb5 (F:Nat)(x1:List (qFa))(x4 x5 x6:Int)(x7:qFa):Option (List (qFa)×Int×Int×Int×qFa×Int):=(qfz F x1 x4 x5 x6).bind fun x10=>(splitM x7 ([32]:qFa)).bind fun x14=>(idx x14 0).bind fun x0=>(qaQ F x10.1 x10.2.1 x10.2.2.1 x10.2.2.2 ([]:qFa) ([111,107]:qFa)).bind fun _x414=>if (bstr x0 == bstr ([110,111,100,101,115]:qFa)) then jm F x10 x14 else if (bstr x0 == bstr ([97,114,99]:qFa)) then jn F x10 x14 else if (bstr x0 == bstr ([100,114,111,112]:qFa)) then jo F x10 x14 else if (bstr x0 == bstr ([104,111,119]:qFa)) then jp F x10 x14 else if (bstr x0 == bstr ([98,105,116,115]:qFa)) then jq F x10 x14 else if (bstr x0 == bstr ([108,105,115,116]:qFa)) then jr F x10 x14 else if (bstr x0 == bstr ([102,97,114]:qFa)) then js F x10 x14 else if (bstr x0 == bstr ([119,97,121]:qFa)) then jt F x10 x14 else if (bstr x0 == bstr ([112,97,114,116]:qFa)) then ju F x10 x14 else if (bstr x0 == bstr ([111,114,100,101,114]:qFa)) then jv F x10 x14 else if (bstr x0 == bstr ([99,111,114,101]:qFa)) then jw F x10 x14 else if (bstr x0 == bstr ([116,104,114,101,101,115]:qFa)) then jx F x10 x14 else qcG F x10
def qhI (_F:Nat)(x0:qFa)(x1:List (qFa))(x2 x3 x4:Int):Option (List (qFa)×Int×Int×Int×qFa×Int):=(bstrM x0).bind fun x5=>some (x1,x2,x3,x4,x5,0)
def qfw (_F:Nat)(r19:(Int×qFa×List (qFa)×Int×Int×Int)→Option (List (qFa)×Int×Int×Int×qFa×Int))(x0:Int)(x1:qFa)(x2:List (qFa))(x3 x4 x5:Int):Option (List (qFa)×Int×Int×Int×qFa×Int):=r19 (iadd .i64 x0 1,x1,x2,x3,x4,x5)
def qfx (F:Nat)(r19:(Int×qFa×List (qFa)×Int×Int×Int)→Option (List (qFa)×Int×Int×Int×qFa×Int))(x0:Int)(x1 x2:qFa)(x3:List (qFa))(x4 x5 x6:Int):Option (List (qFa)×Int×Int×Int×qFa×Int):=(app 9223372036854775807 x2 ([10]:qFa)).bind fun x7=>(app 140737488355328 x1 (x7.map b8)).bind fun x8=>qfw F r19 x0 x8 x3 x4 x5 x6
def qli (F:Nat)(x11:List (qFa))(r19:(Int×qFa×List (qFa)×Int×Int×Int)→Option (List (qFa)×Int×Int×Int×qFa×Int))(x0:Int)(x1:qFa)(x2:List (qFa))(x3 x4 x5:Int):Option (List (qFa)×Int×Int×Int×qFa×Int):=if decide (x0<(x11.length:Int)) then (idx x11 x0).bind fun x6=>if (bstr x6 == bstr ([]:qFa)) then qfw F r19 x0 x1 x2 x3 x4 x5 else (qb5 F x2 x3 x4 x5 x6).bind fun x7=>if ((x7.2.2.2.2.2:Int) != 0) then (itoaC x7.2.2.2.2.2).bind fun x8=>(app 9223372036854775807 ([101,114,114,111,114,32]:qFa) x8).bind fun x9=>qfx F r19 x0 x1 x9 x2 x3 x4 x5 else qfx F r19 x0 x1 x7.2.2.2.2.1 x7.1 x7.2.1 x7.2.2.1 x7.2.2.2.1 else qhI F x1 x2 x3 x4 x5
def qfy (F:Nat)(x11:List (qFa)):=lp fun r s=>qli F x11 r s.1 s.2.1 s.2.2.1 s.2.2.2.1 s.2.2.2.2.1 s.2.2.2.2.2
def qgl (F:Nat)(x1:List (qFa))(x4 x5 x6:Int)(x11:List (qFa))(x16:Int):Option (List (qFa)×Int×Int×Int×qFa×Int):=if ((x16:Int) != 0) then some (([]:List (qFa)),0,0,0,([]:qFa),x16) else (qfz F x1 x4 x5 x6).bind fun x18=>qfy F x11 F (0,([]:qFa),x18.1,x18.2.1,x18.2.2.1,x18.2.2.2)
def qlh (F:Nat)(x1:List (qFa))(x4 x5 x6:Int)(x7:qFa):Option (List (qFa)×Int×Int×Int×qFa×Int):=(y8 F x1 x4 x5 x6).bind fun x10=>(splitM x7 ([10]:qFa)).bind fun x11=>if (((x10:Int) == 0) && decide (100<(x11.length:Int))) then qgl F x1 x4 x5 x6 x11 2 else qgl F x1 x4 x5 x6 x11 x10
def qdV (_F:Nat)(x9:Bool):Option Bool:=some x9
def qee (F:Nat) :Option Bool:=(qlh F ([]:List (qFa)) 2 3 1 ([110,111,100,101,115,32,52,10,97,114,99,32,48,32,49,10,97,114,99,32,49,32,50,10,97,114,99,32,50,32,48,10,97,114,99,32,48,32,49,10,10,108,105,115,116,32,48,10,102,97,114,32,48,32,50,10,102,97,114,32,48,32,51,10,119,97,121,32,49,32,48,10,112,97,114,116,32,50,10,111,114,100,101,114,10,99,111,114,101,32,49,10,116,104,114,101,101,115,10,100,114,111,112,32,50,32,48,10,111,114,100,101,114,10,100,114,111,112,32,50,32,48,10,104,111,119,32,56,32,48,32,49,10,119,104,97,116,10,102,97,114,32,48,32,52,10,98,105,116,115]:qFa)).bind fun x1=>if ((((x1.2.2.2.2.2:Int) == 0) && (bstr x1.2.2.2.2.1 == bstr ([111,107,10,111,107,10,111,107,10,111,107,10,101,114,114,111,114,32,54,10,49,10,50,10,110,111,110,101,10,49,32,50,32,48,10,48,10,110,111,110,101,10,50,10,49,10,111,107,10,48,32,49,32,50,32,51,10,101,114,114,111,114,32,53,10,101,114,114,111,114,32,51,10,101,114,114,111,114,32,49,10,101,114,114,111,114,32,51,10,50,48,10]:qFa))) && (((x1.1.length:Int):Int) == 4)) then (y8 F x1.1 x1.2.1 x1.2.2.1 x1.2.2.2.1).bind fun x10=>qdV F ((x10:Int) == 0) else qdV F false
def qfl (F:Nat)(x1:List (qFa))(x4 x5 x6:Int)(x7:qFa):Option (List (qFa)×Int×Int×Int×qFa×Int):=(y8 F x1 x4 x5 x6).bind fun x12=>if ((x12:Int) != 0) then some (([]:List (qFa)),0,0,0,([]:qFa),x12) else (qb5 F x1 x4 x5 x6 x7).bind fun x13=>some (x13.1,x13.2.1,x13.2.2.1,x13.2.2.2.1,x13.2.2.2.2.1,x13.2.2.2.2.2)
def qhs (_F:Nat):Option Bool:=some true
def qeM (F:Nat)(x1 x4:qFa)(r3:Int→Option Bool)(x0:Int):Option Bool:=if decide (x0<(x1.length:Int)) then (idx x1 x0).bind fun x2=>(idx x4 x0).bind fun x3=>if ((x2:Int) != x3) then some false else r3 (iadd .i64 x0 1) else qhs F
def qeN (F:Nat)(x1 x4:qFa):=lp fun r s=>qeM F x1 x4 r s
def qe5 (F:Nat)(x1 x4:qFa):Option Bool:=if (((x1.length:Int):Int) != (x4.length:Int)) then some false else qeN F x1 x4 F 0
def qgR (_F:Nat):Option Bool:=some true
def qdW (F:Nat)(x1 x4:List (qFa))(r3:Int→Option Bool)(x0:Int):Option Bool:=if decide (x0<(x1.length:Int)) then (idx x1 x0).bind fun x2=>(idx x4 x0).bind fun x3=>(qe5 F x2 x3).bind fun x5=>if (!x5) then some false else r3 (iadd .i64 x0 1) else qgR F
def qdX (F:Nat)(x1 x4:List (qFa)):=lp fun r s=>qdW F x1 x4 r s
def qeg (F:Nat)(x1 x4:List (qFa)):Option Bool:=if (((x1.length:Int):Int) != (x4.length:Int)) then some false else qdX F x1 x4 F 0
def qef (F:Nat)(x1 x4:List (qFa)):Option Bool:=(qeg F x1 x4).bind fun x9=>some x9
def qch (F:Nat)(x1:List (qFa))(x4 x5 x6:Int)(x7:List (qFa))(x10 x11 x12:Int):Option Bool:=(qef F x1 x7).bind fun x15=>some (x15 && (((x4:Int) == x10) && (((x5:Int) == x11) && ((x6:Int) == x12))))
def qcg (_F:Nat)(x23:Bool):Option Bool:=some x23
def qgi (F:Nat)(x1:List (qFa))(x4 x5 x6:Int)(x7:qFa):Option Bool:=(qfl F x1 x4 x5 x6 x7).bind fun x9=>(qee F).bind fun x15=>if (!x15) then some false else if ((x9.2.2.2.2.2:Int) != 0) then if (bstr x9.2.2.2.2.1 == bstr ([]:qFa)) then (qch F x9.1 x9.2.1 x9.2.2.1 x9.2.2.2.1 ([]:List (qFa)) 0 0 0).bind fun x24=>qcg F x24 else qcg F false else if (bstr x9.2.2.2.2.1 == bstr ([111,107]:qFa)) then (y8 F x9.1 x9.2.1 x9.2.2.1 x9.2.2.2.1).bind fun x27=>some ((x27:Int) == 0) else (qch F x9.1 x9.2.1 x9.2.2.1 x9.2.2.2.1 x1 x4 x5 x6).bind fun x28=>some x28
end Go.Proofs.YthibchijlpflmaaGreatDoor
