/- What each Go function of this seat computes, in plain terms. -/
import Derived.Test.YthibchijlpflmaaGreatDoorSy
namespace Go.Proofs.YthibchijlpflmaaGreatDoor
open Go SX
abbrev qDU:=List Int
abbrev qDV:=Option Addr
abbrev qDW (x:Int):Value:=.int .i64 x
abbrev qDX (a:Option Addr) {α:Type} (x:List α) (c:Nat):Value:=.slice a x.length c
abbrev qDY (g:Nat):Value:=.pointer (some ⟨g,0,none⟩)
abbrev qDZ (a:Option Addr) (x:List Int) (c:Nat):World→Prop:=Sl (eI .i64) 1 (.slice a x.length c) x
abbrev qD0 (a:Option Addr) (x:List Int) (c:Nat):RowD:=Ro (eI .i64) 3 1 (.slice a x.length c) x
abbrev qD1 (a:Option Addr) (x:List Int) (c:Nat):World→Prop:=Sl (eI .u8) 1 (.slice a x.length c) x
abbrev qD2 (a:Option Addr) (x:List Int) (c:Nat):RowD:=Ro (eI .u8) 5 1 (.slice a x.length c) x
def qcY (_F:Nat)(x0:Int):Option Int:=if decide (600<x0) then some 2 else some 0
def qcZ (_F:Nat)(r38:(Int×Int)→Option Int)(x0 x1:Int):Option Int:=r38 (x1,iadd .i64 x0 1)
def qbg (F:Nat)(r38:(Int×Int)→Option Int)(x0 x1:Int)(x2:qDU):Option Int:=qcZ F r38 x1 (iadd .i64 x0 (x2.length:Int))
def qcX (F:Nat)(r38:(Int×Int)→Option Int)(x1:List (qDU))(x0 x2:Int)(x3:qDU)(r45:(Int×Int)→Option Int)(x4 x5:Int):Option Int:=if decide (x5<(x3.length:Int)) then (idx x3 x5).bind fun x6=>if (decide (x6<0) || decide ((x1.length:Int)≤x6)) then some 3 else if decide (x6≤x4) then some 4 else r45 (x6,iadd .i64 x5 1) else qbg F r38 x0 x2 x3
def qc0 (F:Nat)(r38:(Int×Int)→Option Int)(x1:List (qDU))(x0 x2:Int)(x3:qDU):=lp fun r s=>qcX F r38 x1 x0 x2 x3 r s.1 s.2
def qcW (F:Nat)(x1:List (qDU))(r38:(Int×Int)→Option Int)(x0 x2:Int):Option Int:=if decide (x2<(x1.length:Int)) then (idx x1 x2).bind fun x3=>qc0 F r38 x1 x0 x2 x3 F (-1,0) else qcY F x0
def vh (F:Nat)(x1:List (qDU)):=lp fun r s=>qcW F x1 r s.1 s.2
def kM (F:Nat)(x1:List (qDU)):Option Int:=if decide (100<(x1.length:Int)) then some 2 else vh F x1 F (0,0)
def vv (_F:Nat)(x1 x2 x3:Int):Option Int:=if ((((((decide (x1<0) || decide (7<x1)) || decide (x2<0)) || ((x2:Int) == 1)) || decide (300<x2)) || decide (x3<1)) || decide (16<x3)) then some 3 else some 0
def vu (F:Nat)(x1:List (qDU))(x4 x5 x6:Int):Option Int:=(kM F x1).bind fun x10=>if ((x10:Int) != 0) then some x10 else (vv F x4 x5 x6).bind fun x11=>some x11
def kP (_F:Nat)(x1:qDU):Option (qDU):=(app 8796093022208 ([]:qDU) x1).bind fun x8=>some x8
def qh8 (_F:Nat)(x4 x5 x6:Int)(x0:List (qDU)):Option (List (qDU)×Int×Int×Int):=some (x0,x4,x5,x6)
def qf0 (F:Nat)(x1:List (qDU))(x4 x5 x6:Int)(r4:(Int×List (qDU))→Option (List (qDU)×Int×Int×Int))(x0:Int)(x2:List (qDU)):Option (List (qDU)×Int×Int×Int):=if decide (x0<(x1.length:Int)) then (idx x1 x0).bind fun x3=>(idx x2 x0).bind fun _x233=>(kP F x3).bind fun x7=>lett (x2.set x0.toNat x7) fun x8=>r4 (iadd .i64 x0 1,x8) else qh8 F x4 x5 x6 x2
def qf2 (F:Nat)(x1:List (qDU))(x4 x5 x6:Int):=lp fun r s=>qf0 F x1 x4 x5 x6 r s.1 s.2
def qf1 (F:Nat)(x1:List (qDU))(x4 x5 x6:Int)(x20:List (qDU)):Option (List (qDU)×Int×Int×Int):=qf2 F x1 x4 x5 x6 F (0,x20)
def qfh (F:Nat)(x1:List (qDU))(x4 x5 x6:Int):Option (List (qDU)×Int×Int×Int):=(mk 4398046511104 (([]:qDU):qDU) (x1.length:Int)).bind fun x0=>qf1 F x1 x4 x5 x6 x0
def qi5 (_F:Nat)(x1 x2:Int):Option (Int×Int):=lett (imul .u64 (iconv .u64 x1) (iconv .u64 x2)) fun x3=>some (iconv .u32 (ishr .u64 x3 32),iconv .u32 x3)
def qfL (_F:Nat)(x1 x2:Int):Option (Int×Int):=lett (imul .u64 (iand .u64 x1 4294967295) (iand .u64 x2 4294967295)) fun x3=>lett (iadd .u64 (imul .u64 (ishr .u64 x1 32) (iand .u64 x2 4294967295)) (ishr .u64 x3 32)) fun x4=>lett (iadd .u64 (iand .u64 x4 4294967295) (imul .u64 (iand .u64 x1 4294967295) (ishr .u64 x2 32))) fun x5=>lett (iadd .u64 (iadd .u64 (imul .u64 (ishr .u64 x1 32) (ishr .u64 x2 32)) (ishr .u64 x4 32)) (ishr .u64 x5 32)) fun x6=>some (x6,imul .u64 x1 x2)
def qcm (F:Nat)(x1 x2:Int):Option (Int×Int):=(qfL F x1 x2).bind fun x3=>some (x3.1,x3.2)
def vL (_F:Nat)(x64:qDU):Option (qDU):=some x64
def yx (F:Nat)(r3:(qDU×Int)→Option (qDU))(x80:qDU)(x81:Int):Option (qDU):=if decide (x81<(x80.length:Int)) then (sub x80 x81 (x80.length:Int)).bind fun x99=>(sub x80 0 x81).bind fun x0=>lett (yH x81.toNat x80 x0) fun x1=>r3 (x1,iadd .i64 x81 ((min x0.length x99.length:Nat):Int)) else vL F x80
def kJ (F:Nat):=lp fun r s=>yx F r s.1 s.2
def yf (F:Nat)(x1:qDU)(x4:Int):Option (qDU):=if decide (x4<0) then none else (qcm F (iconv .u64 (x1.length:Int)) (iconv .u64 x4)).bind fun x6=>if (decide (0<x6.1) || decide (9223372036854775807<x6.2)) then none else (mk 17592186044416 (0:Int) (iconv .i64 x6.2)).bind fun x10=>lett (yH 0 x10 x1) fun x13=>kJ F F (x13,((min x1.length x10.length:Nat):Int))
def qbY (_F:Nat):Option Int:=some (-1)
def kU (F:Nat)(x1:qDU)(x4:Int)(r3:Int→Option Int)(x47:Int):Option Int:=if decide (x47<(x1.length:Int)) then (idx x1 x47).bind fun x64=>if ((x4:Int) == x64) then some x47 else r3 (iadd .i64 x47 1) else qbY F
def kV (F:Nat)(x1:qDU)(x4:Int):=lp fun r s=>kU F x1 x4 r s
def kR (F:Nat)(x1:qDU)(x4:Int):Option Int:=kV F x1 x4 F 0
def qcF (_F:Nat)(x35:Int):Option Int:=some x35
def j8 (F:Nat)(x1:qDU)(r3:(Int×Int)→Option Int)(x44 x45:Int):Option Int:=if decide (x45<(x1.length:Int)) then (idx x1 x45).bind fun x59=>r3 (imin x44 x59,iadd .i64 x45 1) else qcF F x44
def j9 (F:Nat)(x1:qDU):=lp fun r s=>j8 F x1 r s.1 s.2
def jv (F:Nat)(x1:qDU):Option Int:=if decide ((x1.length:Int)<1) then none else (idx x1 0).bind fun x5=>j9 F x1 F (x5,1)
def jH (_F:Nat)(x5 x8 x11:qDU)(x17 x19:Int)(x75:qDU):Option (qDU×qDU×qDU×qDU×Int):=(sub x11 0 x19).bind fun x76=>some (x5,x8,x76,x75,x17)
def jG (F:Nat)(x5 x8 x11:qDU)(x17 x19 x23:Int)(r3:(Int×qDU)→Option (qDU×qDU×qDU×qDU×Int))(x93:Int)(x94:qDU):Option (qDU×qDU×qDU×qDU×Int):=if decide (x93<((x11.length-x19.toNat:Nat):Int)) then (idx (x11.drop x19.toNat) x93).bind fun x0=>(idx x94 x0).bind fun _x121=>lett (x94.set x0.toNat x23) fun x1=>r3 (iadd .i64 x93 1,x1) else jH F x5 x8 x11 x17 x19 x94
def jI (F:Nat)(x5 x8 x11:qDU)(x17 x19 x23:Int):=lp fun r s=>jG F x5 x8 x11 x17 x19 x23 r s.1 s.2
def vY (F:Nat)(_x2:List (qDU))(x5 x8 x11 x14:qDU)(x17 x18:Int):Option (qDU×qDU×qDU×qDU×Int):=(kR F x11 x18).bind fun x19=>chk (decide (0≤x19∧x19<(x11.length:Int))) ((jv F (x11.drop x19.toNat)).bind fun x23=>jI F x5 x8 x11 x17 x19 x23 F (0,x14))
def jJ (F:Nat)(x2:List (qDU))(x18:Int)(x0 x1 x3 x4:qDU)(x5:Int):Option (qDU×qDU×qDU×qDU×Int):=(idx x1 x18).bind fun x6=>(idx x0 x18).bind fun x7=>if ((x6:Int) == x7) then (vY F x2 x0 x1 x3 x4 x5 x18).bind fun x8=>some (x8.1,x8.2.1,x8.2.2.1,x8.2.2.2.1,x8.2.2.2.2) else some (x0,x1,x3,x4,x5)
def zF (_F:Nat)(r8:(Int×qDU×qDU×qDU×qDU×Int)→Option (qDU×qDU×qDU×qDU×Int))(x0:Int)(x1 x2 x3 x4:qDU)(x5:Int):Option (qDU×qDU×qDU×qDU×Int):=r8 (iadd .i64 x0 1,x1,x2,x3,x4,x5)
def yX (F:Nat)(self:(List (qDU))→(qDU)→(qDU)→(qDU)→(qDU)→Int→Int→Option (qDU×qDU×qDU×qDU×Int))(x2:List (qDU))(x18:Int)(x0:qDU)(r8:(Int×qDU×qDU×qDU×qDU×Int)→Option (qDU×qDU×qDU×qDU×Int))(x1:Int)(x3 x4 x5 x6:qDU)(x7:Int):Option (qDU×qDU×qDU×qDU×Int):=if decide (x1<(x0.length:Int)) then (idx x0 x1).bind fun x8=>(idx x3 x8).bind fun x9=>if ((x9:Int) == 0) then (self x2 x3 x4 x5 x6 x7 x8).bind fun x10=>(idx x10.2.1 x18).bind fun x11=>(idx x10.2.1 x8).bind fun x12=>(idx x10.2.1 x18).bind fun _x791=>lett (x10.2.1.set x18.toNat (imin x11 x12)) fun x13=>zF F r8 x1 x10.1 x13 x10.2.2.1 x10.2.2.2.1 x10.2.2.2.2 else (idx x6 x8).bind fun x14=>if decide (x14<0) then (idx x4 x18).bind fun x15=>(idx x3 x8).bind fun x16=>(idx x4 x18).bind fun _x809=>lett (x4.set x18.toNat (imin x15 x16)) fun x17=>zF F r8 x1 x3 x17 x5 x6 x7 else zF F r8 x1 x3 x4 x5 x6 x7 else jJ F x2 x18 x3 x4 x5 x6 x7
def zm (F:Nat)(self:(List (qDU))→(qDU)→(qDU)→(qDU)→(qDU)→Int→Int→Option (qDU×qDU×qDU×qDU×Int))(x2:List (qDU))(x18:Int)(x0:qDU):=lp fun r s=>yX F self x2 x18 x0 r s.1 s.2.1 s.2.2.1 s.2.2.2.1 s.2.2.2.2.1 s.2.2.2.2.2
def qX:Nat→(List (qDU))→(qDU)→(qDU)→(qDU)→(qDU)→Int→Int→Option (qDU×qDU×qDU×qDU×Int)
  | 0=>fun _ _ _ _ _ _ _=>none
  | F+1=>fun x2 x5 x8 x11 x14 x17 x18 =>
    let self:=qX F
    ((idx x5 x18).bind fun _x33=>((idx x8 x18).bind fun _x37=>(lett (x5.set x18.toNat (iadd .i64 x17 1)) fun x41=>(lett (x8.set x18.toNat (iadd .i64 x17 1)) fun x44=>((app 8796093022208 x11 ([x18]:qDU)).bind fun x49=>((idx x2 x18).bind fun x0=>zm F self x2 x18 x0 F (0,x41,x44,x49,x14,iadd .i64 x17 1)))))))
def qfQ (_F:Nat)(_x265 _x268 _x271 x0:qDU)(_x275:Int):Option (qDU):=some x0
def vN (_F:Nat)(r9:(Int×qDU×qDU×qDU×qDU×Int)→Option (qDU))(x0:Int)(x1 x2 x3 x4:qDU)(x5:Int):Option (qDU):=r9 (iadd .i64 x0 1,x1,x2,x3,x4,x5)
def qdc (F:Nat)(x1:List (qDU))(r9:(Int×qDU×qDU×qDU×qDU×Int)→Option (qDU))(x0:Int)(x2 x3 x4 x5:qDU)(x6:Int):Option (qDU):=if decide (x0<(x1.length:Int)) then (idx x2 x0).bind fun x7=>if ((x7:Int) == 0) then (qX F x1 x2 x3 x4 x5 x6 x0).bind fun x8=>vN F r9 x0 x8.1 x8.2.1 x8.2.2.1 x8.2.2.2.1 x8.2.2.2.2 else vN F r9 x0 x2 x3 x4 x5 x6 else qfQ F x2 x3 x4 x5 x6
def jw (F:Nat)(x1:List (qDU)):=lp fun r s=>qdc F x1 r s.1 s.2.1 s.2.2.1 s.2.2.2.1 s.2.2.2.2.1 s.2.2.2.2.2
def qdd (F:Nat)(x1:List (qDU))(x0 x2 x3:qDU):Option (qDU):=jw F x1 F (0,x0,x2,([]:qDU),x3,0)
def qaa (F:Nat)(x1:List (qDU)):Option (qDU):=(mk 17592186044416 (0:Int) (x1.length:Int)).bind fun x0=>(mk 17592186044416 (0:Int) (x1.length:Int)).bind fun x2=>(yf F ([-1]:qDU) (x1.length:Int)).bind fun x3=>qdd F x1 x0 x2 x3
def qdb (F:Nat)(x1:List (qDU)):Option (qDU×Int):=(kM F x1).bind fun x7=>if ((x7:Int) != 0) then some (([]:qDU),x7) else (qaa F x1).bind fun x8=>some (x8,0)
def qao (_F:Nat)(_x1:List (qDU)):Option Unit:=some ()
def zb (_F:Nat)(x1:qDU):Option (qDU):=if x1.length<4611686018427387904 then some (srt x1) else none
def zD (_F:Nat)(x1:qDU):Option (qDU):=if (Go.Lib.compact x1).length≤x1.length then some (Go.Lib.compact x1) else none
def qbR {σ τ:Type}(_F:Nat)(_yy:σ→(Int×Int)→Option (σ ⊕ τ))(r7:(Int×σ)→Option (σ ⊕ τ))(x0:Int)(x1:σ):Option (σ ⊕ τ):=r7 (iadd .i64 x0 1,x1)
def qbf {σ τ:Type}(F:Nat)(yy:σ→(Int×Int)→Option (σ ⊕ τ))(r7:(Int×σ)→Option (σ ⊕ τ))(x0:Int)(x1:qDU)(r10:(Int×σ)→Option (σ ⊕ τ))(x2:Int)(x3:σ):Option (σ ⊕ τ):=if decide (x2<(x1.length:Int)) then (idx x1 x2).bind fun x4=>(yy x3 (x0,x4)).bind (Sum.elim (fun x5=>r10 (iadd .i64 x2 1,x5)) (fun x6=>some (.inr x6))) else qbR F yy r7 x0 x3
def js {σ τ:Type}(F:Nat)(yy:σ→(Int×Int)→Option (σ ⊕ τ))(r7:(Int×σ)→Option (σ ⊕ τ))(x0:Int)(x1:qDU):=lp fun r s=>qbf F yy r7 x0 x1 r s.1 s.2
def qbQ {σ τ:Type}(F:Nat)(yy:σ→(Int×Int)→Option (σ ⊕ τ))(x2:List (qDU))(r7:(Int×σ)→Option (σ ⊕ τ))(x0:Int)(x1:σ):Option (σ ⊕ τ):=if decide (x0<(x2.length:Int)) then (idx x2 x0).bind fun x3=>js F yy r7 x0 x3 F (0,x1) else some (.inl x1)
def km {σ τ:Type}(F:Nat)(yy:σ→(Int×Int)→Option (σ ⊕ τ))(x2:List (qDU)):=lp fun r s=>qbQ F yy x2 r s.1 s.2
def jE {σ τ:Type}(F:Nat)(yy:σ→(Int×Int)→Option (σ ⊕ τ))(x2:List (qDU))(s0:σ):Option (σ ⊕ τ):=km F yy x2 F (0,s0)
def qbw (_F:Nat)(x0:List (qDU))(x1 x2:Int):Option (List (qDU) ⊕ Empty):=if ((x1:Int) != x2) then (idx x0 x1).bind fun x3=>(idx x0 x2).bind fun x4=>chk (decide (x2.toNat≠x1.toNat)) ((idx x0 x1).bind fun _x438=>(idx x0 x2).bind fun _x444=>(app 8796093022208 x3 ([x2]:qDU)).bind fun x5=>(app 8796093022208 x4 ([x1]:qDU)).bind fun x6=>lett (x0.set x1.toNat x5) fun x7=>lett (x7.set x2.toNat x6) fun x8=>some (.inl x8)) else some (.inl x0)
def qhp (_F:Nat)(x0:List (qDU)):Option (List (qDU)):=some x0
def qfa (F:Nat)(x0:List (qDU))(r5:(Int×List (qDU))→Option (List (qDU)))(x1:Int)(x2:List (qDU)):Option (List (qDU)):=if decide (x1<(x0.length:Int)) then (idx x2 x1).bind fun x3=>(zb F x3).bind fun x4=>chk (decide (x4.length=x3.length)) (lett (x2.set x1.toNat x4) fun x5=>(idx x5 x1).bind fun x6=>(idx x5 x1).bind fun _x871=>(zD F x6).bind fun x7=>lett (x5.set x1.toNat x7) fun x8=>r5 (iadd .i64 x1 1,x8)) else qhp F x2
def qfb (F:Nat)(x0:List (qDU)):=lp fun r s=>qfa F x0 r s.1 s.2
def qec (F:Nat)(x1:List (qDU)):Option (List (qDU)):=(mk 4398046511104 (([]:qDU):qDU) (x1.length:Int)).bind fun x5=>(qao F x1).bind fun _x256=>(jE F (fun (x0:List (qDU)) ((x2,x3):(Int×Int))=>qbw F x0 x2 x3) x1 x5).bind (Sum.elim (fun (x0:List (qDU))=>qfb F x0 F (0,x0)) (fun t=>t.elim))
def qcE (_F:Nat)(x5:qDU)(x0:Int):Option (Int×qDU):=some (x0,x5)
def jX (_F:Nat)(r38:(Int×Int)→Option (Int×qDU))(x0 x1:Int):Option (Int×qDU):=r38 (x1,iadd .i64 x0 1)
def jY (F:Nat)(r38:(Int×Int)→Option (Int×qDU))(x0 x1:Int)(x2:Bool):Option (Int×qDU):=if x2 then jX F r38 x1 x1 else jX F r38 x1 x0
def jZ (F:Nat)(r38:(Int×Int)→Option (Int×qDU))(x0 x1:Int)(_x315 x2:Bool):Option (Int×qDU):=jY F r38 x0 x1 x2
def qgn (F:Nat)(x5:qDU)(r38:(Int×Int)→Option (Int×qDU))(x0 x1:Int):Option (Int×qDU):=if decide (x1<(x5.length:Int)) then (idx x5 x1).bind fun x2=>if decide (0≤x2) then if decide (x0<0) then jZ F r38 x0 x1 true true else (idx x5 x0).bind fun x3=>jZ F r38 x0 x1 false (decide (x2<x3)) else jY F r38 x0 x1 false else qcE F x5 x0
def vf (F:Nat)(x5:qDU):=lp fun r s=>qgn F x5 r s.1 s.2
def qb0 (F:Nat)(_x2:List (qDU))(x5:qDU):Option (Int×qDU):=vf F x5 F (-1,0)
def qa3 (_F:Nat)(r3:(Int×qDU)→Option (qDU))(x54:Int)(x0:qDU):Option (qDU):=r3 (iadd .i64 x54 1,x0)
def qhg (F:Nat)(x15:qDU)(r3:(Int×qDU)→Option (qDU))(x54:Int)(x55:qDU):Option (qDU):=if decide (x54<(x15.length:Int)) then (idx x15 x54).bind fun x0=>(idx x55 x0).bind fun x1=>if decide (0≤x1) then (idx x55 x0).bind fun x2=>(idx x55 x0).bind fun _x119=>lett (x55.set x0.toNat (isub .i64 x2 1)) fun x3=>qa3 F r3 x54 x3 else qa3 F r3 x54 x55 else some x55
def qdv (F:Nat)(x15:qDU):=lp fun r s=>qhg F x15 r s.1 s.2
def qfc (F:Nat)(x2:List (qDU))(x5:qDU)(x8:Int):Option (qDU):=(idx x5 x8).bind fun _x9=>lett (x5.set x8.toNat (-1)) fun x12=>(idx x2 x8).bind fun x15=>qdv F x15 F (0,x12)
def qfF (_F:Nat)(x0:qDU):Option (qDU×Int):=some (x0,0)
def qi0 (F:Nat)(x8:List (qDU))(r5:(qDU×Int×Int×qDU)→Option (qDU×Int))(x0:qDU)(x1 x2:Int)(x3:qDU):Option (qDU×Int):=if decide (0≤x2) then (idx x3 x2).bind fun x4=>(idx x0 x2).bind fun _x272=>lett (x0.set x2.toNat (imax x1 x4)) fun x5=>(qfc F x8 x3 x2).bind fun x6=>(qb0 F x8 x6).bind fun x7=>r5 (x5,imax x1 x4,x7.1,x7.2) else qfF F x0
def qi2 (F:Nat)(x8:List (qDU)):=lp fun r s=>qi0 F x8 r s.1 s.2.1 s.2.2.1 s.2.2.2
def qfE (F:Nat)(x8:List (qDU))(x86:qDU):Option (qDU×Int):=(mk 17592186044416 (0:Int) (x8.length:Int)).bind fun x87=>(qb0 F x8 x86).bind fun x0=>qi2 F x8 F (x87,0,x0.1,x0.2)
def qi1 (F:Nat)(x8:List (qDU))(r6:(Int×qDU)→Option (qDU×Int))(x0:Int)(x1:qDU):Option (qDU×Int):=if decide (x0<(x8.length:Int)) then (idx x8 x0).bind fun x2=>(app 8796093022208 x1 ([(x2.length:Int)]:qDU)).bind fun x3=>r6 (iadd .i64 x0 1,x3) else qfE F x8 x1
def qi3 (F:Nat)(x8:List (qDU)):=lp fun r s=>qi1 F x8 r s.1 s.2
def qho (F:Nat)(x1:List (qDU)):Option (qDU×Int):=(kM F x1).bind fun x7=>if ((x7:Int) != 0) then some (([]:qDU),x7) else (qec F x1).bind fun x8=>qi3 F x8 F (0,([]:qDU))
def qan (_F:Nat)(_x2:List (qDU))(_x5 _x6 _x7:Int)(_x8 _x11:qDU):Option Unit:=some ()
def qam (_F:Nat)(_x2:List (qDU))(_x5 _x6 _x7:Int)(_x8 _x11:qDU):Option Unit:=some ()
def qct (F:Nat)(x2:List (qDU))(x5 x6 x7:Int)(x8 x11:qDU):Option Unit:=(qan F x2 x5 x6 x7 x8 x11).bind fun _x13=>(qam F x2 x5 x6 x7 x8 x11).bind fun _x16=>some ()
def qdw (_F:Nat)(x12:Int)(x14:List (qDU))(x0:qDU):Option (Bool×qDU):=some ((((x14.length:Int):Int) == x12),x0)
def vV (_F:Nat)(r23:(Int×qDU)→Option (Bool×qDU))(x0:Int)(x1:qDU)(x2:(Int×Bool))(x3:Bool):Option (Bool×qDU):=if x3 then some (false,x1) else (app 8796093022208 x1 ([x2.1]:qDU)).bind fun x4=>r23 (iadd .i64 x0 1,x4)
def yJ (F:Nat)(x12:Int)(x14:List (qDU))(r23:(Int×qDU)→Option (Bool×qDU))(x0:Int)(x1:qDU):Option (Bool×qDU):=if decide (x0<(x14.length:Int)) then (idx x14 x0).bind fun x2=>(atoiE x2).bind fun x3=>if (((!x3.2) || decide (x3.1<0)) || decide (4<(x2.length:Int))) then vV F r23 x0 x1 x3 true else (itoaC x3.1).bind fun x4=>vV F r23 x0 x1 x3 (!(bstr x4 == bstr x2)) else qdw F x12 x14 x1
def zN (F:Nat)(x12:Int)(x14:List (qDU)):=lp fun r s=>yJ F x12 x14 r s.1 s.2
def qQ (F:Nat)(_x2:List (qDU))(_x5 _x6 _x7:Int)(x8 _x11:qDU)(x12:Int)(x14:List (qDU)):Option (Bool×qDU):=zN F x12 x14 F (0,x8)
def qfg (_F:Nat)(x2:List (qDU))(_x5 _x6 _x7:Int)(x8 _x11:qDU):Option (Int×List (qDU)):=(idx x8 0).bind fun x16=>if decide (100<x16) then some (3,x2) else (idx x8 0).bind fun x19=>(mk 4398046511104 (([]:qDU):qDU) x19).bind fun x22=>some (0,x22)
def kN (_F:Nat)(x46:List (Int×Int))(x55 x56:Int):Option (List (Int×Int) ⊕ Empty):=(app 4398046511104 x46 ([(x55,x56)]:List (Int×Int))).bind fun x60=>some (.inl x60)
def kY (F:Nat)(x1:List (Int×Int))(x5:List (qDU)):Option (List (Int×Int)):=(jE F (fun (x46:List (Int×Int)) ((x55,x56):(Int×Int))=>kN F x46 x55 x56) x5 x1).bind (Sum.elim (fun (x46:List (Int×Int))=>some x46) (fun t=>t.elim))
def vt (F:Nat)(x2:List (qDU)):Option (List (Int×Int)):=(kY F ([]:List (Int×Int)) x2).bind fun x5=>some x5
def qi4 (F:Nat)(x1:List (qDU)):Option (List (Int×Int)×Int):=(kM F x1).bind fun x7=>if ((x7:Int) != 0) then some (([]:List (Int×Int)),x7) else (qao F x1).bind fun _x8=>(vt F x1).bind fun x10=>some (x10,0)
def qgq (_F:Nat)(x0:List (qDU)):Option (List (qDU)):=some x0
def qdB (F:Nat)(x2:List (Int×Int))(r3:(Int×List (qDU))→Option (List (qDU)))(x0:Int)(x1:List (qDU)):Option (List (qDU)):=if decide (x0<(x2.length:Int)) then (idx x2 x0).bind fun x3=>(idx x1 x3.1).bind fun x4=>(idx x1 x3.1).bind fun _x316=>(app 8796093022208 x4 ([x3.2]:qDU)).bind fun x5=>lett (x1.set x3.1.toNat x5) fun x6=>r3 (iadd .i64 x0 1,x6) else qgq F x1
def qdC (F:Nat)(x2:List (Int×Int)):=lp fun r s=>qdB F x2 r s.1 s.2
def qb5 (F:Nat)(x1:Int)(x2:List (Int×Int)):Option (List (qDU)):=(mk 4398046511104 (([]:qDU):qDU) x1).bind fun x6=>qdC F x2 F (0,x6)
def zJ (_F:Nat)(_x1:List (Int×Int)):Option Unit:=some ()
def qg6 (_F:Nat):Option Int:=some 0
def qaO (F:Nat)(x1:qDU)(r3:Int→Option Int)(x46:Int):Option Int:=if decide (x46<(x1.length:Int)) then (idx x1 x46).bind fun x63=>if ((x63:Int) != 0) then some x63 else r3 (iadd .i64 x46 1) else qg6 F
def qeo (F:Nat)(x1:qDU):=lp fun r s=>qaO F x1 r s
def qeL (F:Nat)(x1:qDU):Option Int:=qeo F x1 F 0
def vo (_F:Nat)(x1:Int):Option Bool:=some ((x1:Int) != x1)
def jh (F:Nat)(x1 x2:Int):Option Int:=(vo F x1).bind fun x3=>(vo F x2).bind fun x4=>if x3 then if x4 then some 0 else some (-1) else if x4 then some 1 else if decide (x1<x2) then some (-1) else if decide (x2<x1) then some 1 else some 0
def qdW (F:Nat)(x1 x2 x3 x4:Int):Option Int:=(jh F x1 x3).bind fun x12=>(jh F x2 x4).bind fun x13=>(qeL F ([x12,x13]:qDU)).bind fun x16=>some x16
def zP {σ τ:Type}(_F:Nat)(yy:σ→(Int×Int)→Option (σ ⊕ τ))(x2:List (Int×Int))(r1:(Int×σ)→Option (σ ⊕ τ))(x23:Int)(x24:σ):Option (σ ⊕ τ):=if decide (x23<(x2.length:Int)) then (idx x2 x23).bind fun x54=>(yy x24 (x54.1,x54.2)).bind (Sum.elim (fun x58=>r1 (iadd .i64 x23 1,x58)) (fun x59=>some (.inr x59))) else some (.inl x24)
def zg {σ τ:Type}(F:Nat)(yy:σ→(Int×Int)→Option (σ ⊕ τ))(x2:List (Int×Int)):=lp fun r s=>zP F yy x2 r s.1 s.2
def yn {σ τ:Type}(F:Nat)(yy:σ→(Int×Int)→Option (σ ⊕ τ))(x2:List (Int×Int))(s0:σ):Option (σ ⊕ τ):=zg F yy x2 F (0,s0)
def zk (_F:Nat)(x46:List (Int×Int))(x55 x56:Int):Option (List (Int×Int) ⊕ Empty):=(app 4398046511104 x46 ([(x55,x56)]:List (Int×Int))).bind fun x60=>some (.inl x60)
def qN (F:Nat)(x1 x5:List (Int×Int)):Option (List (Int×Int)):=(yn F (fun (x46:List (Int×Int)) ((x55,x56):(Int×Int))=>zk F x46 x55 x56) x5 x1).bind (Sum.elim (fun (x46:List (Int×Int))=>some x46) (fun t=>t.elim))
def qM (F:Nat)(x2:List (Int×Int)):Option (List (Int×Int)):=(qN F ([]:List (Int×Int)) x2).bind fun x5=>some x5
def zL (F:Nat)(x1:List (Int×Int)):Option (List (Int×Int)):=sortF (fun a b=>qdW F a.1 a.2 b.1 b.2) x1
def ql (F:Nat)(x2:List (Int×Int)):Option (List (Int×Int)):=(qM F x2).bind fun x5=>(zL F x5).bind fun x8=>chk (decide (x8.length=x5.length)) (some x8)
def qia (F:Nat)(x1:Int)(x2:List (Int×Int)):Option (List (qDU)×Int):=(zJ F x2).bind fun _x122=>(ql F x2).bind fun x0=>(qb5 F x1 x0).bind fun x3=>some (x3,0)
def qml (F:Nat)(x1:Int)(x2:List (Int×Int))(r3:(Int×List (Int×Int))→Option (List (qDU)×Int))(x0:Int)(x3:List (Int×Int)):Option (List (qDU)×Int):=if decide (x0<(x2.length:Int)) then (idx x2 x0).bind fun x4=>if (((decide (x4.1<0) || decide (x1≤x4.1)) || decide (x4.2<0)) || decide (x1≤x4.2)) then some (([]:List (qDU)),3) else if decide (((x4.1,x4.2):Int×Int)∈x3) then some (([]:List (qDU)),6) else (sins x3 (x4.1,x4.2)).bind fun x5=>r3 (iadd .i64 x0 1,x5) else qia F x1 x2
def qmm (F:Nat)(x1:Int)(x2:List (Int×Int)):=lp fun r s=>qml F x1 x2 r s.1 s.2
def qk0 (F:Nat)(x1:Int)(x2:List (Int×Int)):Option (List (qDU)×Int):=if (decide (x1<0) || decide (100<x1)) then some (([]:List (qDU)),3) else if decide (600<(x2.length:Int)) then some (([]:List (qDU)),2) else qmm F x1 x2 F (0,([]:List (Int×Int)))
def qgo (F:Nat)(x2:List (qDU))(_x5 _x6 _x7:Int)(x8 _x11:qDU):Option (Int×List (qDU)):=(qi4 F x2).bind fun x12=>(idx x8 0).bind fun x31=>(idx x8 1).bind fun x35=>(app 4398046511104 x12.1 ([(x31,x35)]:List (Int×Int))).bind fun x41=>(qk0 F (x2.length:Int) x41).bind fun x44=>some (x44.2,x44.1)
def qby (_F:Nat)(x1:Int)(x4:List (qDU))(_x7 _x8 _x9:Int)(_x10 _x13:qDU):Option Bool:=some (decide ((x4.length:Int)≤x1))
def kT (_F:Nat):Option Int:=some (-1)
def zy (F:Nat)(x1:qDU)(x6:List (qDU))(x9 x10 x11:Int)(x12 x15:qDU)(r3:Int→Option Int)(x66:Int):Option Int:=if decide (x66<(x1.length:Int)) then (idx x1 x66).bind fun x86=>(qby F x86 x6 x9 x10 x11 x12 x15).bind fun x89=>if x89 then some x66 else r3 (iadd .i64 x66 1) else kT F
def zA (F:Nat)(x1:qDU)(x6:List (qDU))(x9 x10 x11:Int)(x12 x15:qDU):=lp fun r s=>zy F x1 x6 x9 x10 x11 x12 x15 r s
def zK (F:Nat)(x1:qDU)(x6:List (qDU))(x9 x10 x11:Int)(x12 x15:qDU):Option Int:=zA F x1 x6 x9 x10 x11 x12 x15 F 0
def zx (F:Nat)(x1:qDU)(x6:List (qDU))(x9 x10 x11:Int)(x12 x15:qDU):Option Bool:=(zK F x1 x6 x9 x10 x11 x12 x15).bind fun x16=>some (decide (0≤x16))
def k9 (F:Nat)(x2:List (qDU))(x5 x6 x7:Int)(x8 x11 x12:qDU):Option Bool:=(zx F x12 x2 x5 x6 x7 x8 x11).bind fun x16=>some (!x16)
def j7 (_F:Nat)(x1:qDU)(x4 x5:Int):Option (qDU):=if 0≤x4∧x4≤x5∧x5≤(x1.length:Int)∧0<x1.length then some (x1.take x4.toNat++x1.drop x5.toNat) else none
def qfH (F:Nat)(x2:List (qDU))(x5 x6 x7:Int)(x8 x11:qDU):Option (Int×List (qDU)):=(k9 F x2 x5 x6 x7 x8 x11 x8).bind fun x14=>if (!x14) then some (3,x2) else (idx x8 0).bind fun x25=>(idx x2 x25).bind fun x29=>(idx x8 1).bind fun x35=>(kR F x29 x35).bind fun x38=>if decide (x38<0) then some (5,x2) else (idx x2 x25).bind fun _x61=>(j7 F x29 x38 (iadd .i64 x38 1)).bind fun x67=>lett (x2.set x25.toNat x67) fun x70=>some (0,x70)
def qbM (F:Nat)(_x2:List (qDU))(_x5 _x6 _x7:Int)(x8 _x11:qDU):Option (Int×Int×Int×Int):=(idx x8 0).bind fun x24=>(idx x8 1).bind fun x28=>(idx x8 2).bind fun x32=>(vv F x24 x28 x32).bind fun x36=>some (x36,x24,x28,x32)
def yW (_F:Nat)(x1:qDU):Option (qDU):=(app 70368744177664 ([]:qDU) x1).bind fun x8=>some x8
def qe9 (F:Nat)(x1:Int)(x2:qDU):Option (Int×qDU):=(yW F x2).bind fun x10=>some (x1,x10)
def qfX (_F:Nat)(_x1:Int)(_x2:qDU)(_x5 _x6:Int):Option Unit:=some ()
def yZ (_F:Nat)(x2 x6:Int)(x15:qDU):Option (Int×qDU):=(idx x15 (iquo .i64 x2 8)).bind fun x30=>chk (decide (0≤(irem x2 8))) ((idx x15 (iquo .i64 x2 8)).bind fun _x36=>lett (x15.set (iquo .i64 x2 8).toNat (ior .u8 x30 (ishr .u8 (iconv .u8 (ishl .u64 x6 7)) (irem x2 8)))) fun x41=>some (iadd .i64 x2 1,x41))
def jf (F:Nat)(x2:Int)(x3:qDU)(x6:Int):Option (Int×qDU):=if (((irem x2 8):Int) == 0) then (app 70368744177664 x3 ([0]:qDU)).bind fun x46=>yZ F x2 x6 x46 else yZ F x2 x6 x3
def qa1 (_F:Nat)(_x1:Int)(x2:qDU)(x5:Int):Option Int:=(idx x2 (iquo .i64 x5 8)).bind fun x7=>chk (decide (0≤(isub .i64 7 (irem x5 8)))) (lett (iand .u64 (iconv .u64 (ishr .u8 x7 (isub .i64 7 (irem x5 8)))) 1) fun x11=>some x11)
def qau {σ τ:Type}(F:Nat)(yy:σ→Int→Option (σ ⊕ τ))(x4 x6:Int)(x7:qDU)(r1:(Int×σ)→Option (σ ⊕ τ))(x22:Int)(x23:σ):Option (σ ⊕ τ):=if decide (x22<x4) then (qa1 F x6 x7 x22).bind fun x44=>(yy x23 x44).bind (Sum.elim (fun x45=>r1 (iadd .i64 x22 1,x45)) (fun x46=>some (.inr x46))) else some (.inl x23)
def yT {σ τ:Type}(F:Nat)(yy:σ→Int→Option (σ ⊕ τ))(x4 x6:Int)(x7:qDU):=lp fun r s=>qau F yy x4 x6 x7 r s.1 s.2
def qen {σ τ:Type}(F:Nat)(yy:σ→Int→Option (σ ⊕ τ))(x2 x4 x6:Int)(x7:qDU)(s0:σ):Option (σ ⊕ τ):=yT F yy x4 x6 x7 F (x2,s0)
def qcM (F:Nat)(x45:Int)(x48:qDU)(x53:Int):Option ((Int×qDU) ⊕ Empty):=(jf F x45 x48 x53).bind fun x54=>some (.inl (x54.1,x54.2))
def qal (F:Nat)(x1:Int)(x2:qDU)(x5:Int)(x6:qDU):Option (Int×qDU):=(qe9 F x1 x2).bind fun x12=>(qfX F x5 x6 0 x5).bind fun _x37=>(qen F (fun ((x45,x48):(Int×qDU)) (x53:Int)=>qcM F x45 x48 x53) 0 x5 x5 x6 (x12.1,x12.2)).bind (Sum.elim (fun ((x45,x48):(Int×qDU))=>some (x45,x48)) (fun t=>t.elim))
def yc (F:Nat)(x6:Int)(r1:(Int×Int×qDU)→Option (Int×qDU))(x18 x19:Int)(x22:qDU):Option (Int×qDU):=if decide (0≤x18) then chk (decide (0≤x18)) ((jf F x19 x22 (iand .u64 (ishr .u64 x6 x18) 1)).bind fun x40=>r1 (isub .i64 x18 1,x40.1,x40.2)) else some (x19,x22)
def jU (F:Nat)(x6:Int):=lp fun r s=>yc F x6 r s.1 s.2.1 s.2.2
def jg (F:Nat)(x2:Int)(x3:qDU)(x6 x7:Int):Option (Int×qDU):=jU F x6 F (isub .i64 x7 1,x2,x3)
def vG (F:Nat)(x1:Int)(x2:qDU)(x5 x6:Int):Option (Int×qDU):=(qe9 F x1 x2).bind fun x9=>(jg F x9.1 x9.2 x5 x6).bind fun x13=>some (x13.1,x13.2)
def va (_F:Nat)(x9 x10:Int):Option Int:=(idx ([0,1,2,2,3,3,3,3,4,4,4,4,4,4,4,4,5,5,5,5,5,5,5,5,5,5,5,5,5,5,5,5,6,6,6,6,6,6,6,6,6,6,6,6,6,6,6,6,6,6,6,6,6,6,6,6,6,6,6,6,6,6,6,6,7,7,7,7,7,7,7,7,7,7,7,7,7,7,7,7,7,7,7,7,7,7,7,7,7,7,7,7,7,7,7,7,7,7,7,7,7,7,7,7,7,7,7,7,7,7,7,7,7,7,7,7,7,7,7,7,7,7,7,7,7,7,7,7,8,8,8,8,8,8,8,8,8,8,8,8,8,8,8,8,8,8,8,8,8,8,8,8,8,8,8,8,8,8,8,8,8,8,8,8,8,8,8,8,8,8,8,8,8,8,8,8,8,8,8,8,8,8,8,8,8,8,8,8,8,8,8,8,8,8,8,8,8,8,8,8,8,8,8,8,8,8,8,8,8,8,8,8,8,8,8,8,8,8,8,8,8,8,8,8,8,8,8,8,8,8,8,8,8,8,8,8,8,8,8,8,8,8,8,8,8,8,8,8,8,8,8,8,8,8,8,8]:qDU) (iconv .u8 x9)).bind fun x11=>some (iadd .i64 x10 (iconv .i64 x11))
def y9 (F:Nat)(x6 x7:Int):Option Int:=if decide (256≤x6) then va F (ishr .u64 x6 8) (iadd .i64 x7 8) else va F x6 x7
def y8 (F:Nat)(x3 x4:Int):Option Int:=if decide (65536≤x3) then y9 F (ishr .u64 x3 16) (iadd .i64 x4 16) else y9 F x3 x4
def vi (F:Nat)(x1:Int):Option Int:=if decide (4294967296≤x1) then y8 F (ishr .u64 x1 32) 32 else y8 F x1 0
def qeM (F:Nat)(x1:Int):Option Int:=(vi F (iadd .u64 x1 1)).bind fun x2=>some (isub .i64 x2 1)
def qeh (F:Nat)(x1:Int):Option (Int×qDU):=(mk 140737488355328 (0:Int) (iquo .u64 (iadd .u64 x1 7) 8)).bind fun x3=>(vG F (iconv .i64 x1) x3 1 1).bind fun x6=>some (x6.1,x6.2)
def qfI (_F:Nat)(x1 x2:Int):Option Int:=chk (decide (0≤x2)) (lett (iand .u64 x1 (isub .u64 (ishl .u64 1 x2) 1)) fun x4=>some x4)
def j2 (F:Nat)(x1:Int):Option (Int×qDU):=(qeM F x1).bind fun x3=>(qeh F (iconv .u64 x3)).bind fun x4=>(qfI F (iadd .u64 x1 1) x3).bind fun x7=>(vG F x4.1 x4.2 x7 x3).bind fun x8=>some (x8.1,x8.2)
def qef (_F:Nat)(x1:Int):Option Bool:=some (decide (0≤x1) && decide (x1≤1048576))
def qg9 (_F:Nat):Option Int:=some 0
def qez (F:Nat)(x1:qDU)(r3:(Int×Int)→Option Int)(x88 x89:Int):Option Int:=if decide (x89<(x1.length:Int)) then (idx x1 x89).bind fun x0=>(qef F x0).bind fun x2=>if (!x2) then some 3 else if decide (x0≤x88) then some 4 else r3 (x0,iadd .i64 x89 1) else qg9 F
def qeA (F:Nat)(x1:qDU):=lp fun r s=>qez F x1 r s.1 s.2
def jr (F:Nat)(x1:qDU):Option Int:=if decide (300<(x1.length:Int)) then some 2 else qeA F x1 F (-1,0)
def jy (F:Nat)(x2:Int)(x3:qDU)(x7:Int)(x8:qDU)(x13:Bool):Option (Int×qDU×Bool):=if (!x13) then (qal F x2 x3 x7 x8).bind fun x14=>some (x14.1,x14.2,x13) else some (x2,x3,x13)
def vk (F:Nat)(x2:Int)(x3:qDU)(x6:Bool)(x7:Int)(x8:qDU):Option (Int×qDU×Bool):=if x6 then jy F x2 x3 x7 x8 true else jy F x2 x3 x7 x8 (decide (8192<(iadd .i64 x2 x7)))
def zi (F:Nat)(x2:Int)(x3:qDU)(x6:Bool)(x7:Int):Option (Int×qDU×Bool):=(j2 F (iconv .u64 x7)).bind fun x8=>(vk F x2 x3 x6 x8.1 x8.2).bind fun x11=>some (x11.1,x11.2.1,x11.2.2)
def qa9 (_F:Nat)(x1 x2:Int)(x6:Bool):Option Bool:=some (x6 || decide (x1<x2))
def qcN (F:Nat)(x1 x2:Int):Option Bool:=(vo F x1).bind fun x3=>if x3 then (vo F x2).bind fun x8=>qa9 F x1 x2 (!x8) else qa9 F x1 x2 false
def qaE (_F:Nat)(x1:Int):Option Bool:=some ((x1:Int) != x1)
def yr (_F:Nat)(x32:Int)(x55:Bool):Option (Int×Bool):=some (x32,x55)
def yu (F:Nat)(x32:Int)(x68:Bool):Option (Int×Bool):=yr F x32 x68
def yv (F:Nat)(x32:Int)(x75:Bool):Option (Int×Bool):=yu F x32 x75
def yq (F:Nat)(x1:qDU)(x4 x32:Int):Option (Int×Bool):=if decide (x32<(x1.length:Int)) then (idx x1 x32).bind fun x56=>if ((x56:Int) == x4) then yu F x32 true else (idx x1 x32).bind fun x69=>(qaE F x69).bind fun x72=>if x72 then (qaE F x4).bind fun x76=>yv F x32 x76 else yv F x32 false else yr F x32 false
def yl (F:Nat)(x1:qDU)(x4:Int)(r10:(Int×Int)→Option (Int×Bool))(x85 x86:Int):Option (Int×Bool):=if decide (x85<x86) then lett (iconv .i64 (ishr .u64 (iconv .u64 (iadd .i64 x85 x86)) 1)) fun x97=>(idx x1 x97).bind fun x98=>(qcN F x98 x4).bind fun x0=>if x0 then r10 (iadd .i64 x97 1,x86) else r10 (x85,x97) else yq F x1 x4 x85
def ym (F:Nat)(x1:qDU)(x4:Int):=lp fun r s=>yl F x1 x4 r s.1 s.2
def zu (F:Nat)(x1:qDU)(x4:Int):Option (Int×Bool):=ym F x1 x4 F (0,(x1.length:Int))
def vW (_F:Nat)(x21:qDU)(x22:Bool)(x23:Int):Option (qDU×Bool×Int):=some (x21,x22,iadd .i64 x23 1)
def qaC (F:Nat)(x2:qDU)(x5:Bool)(x6:Int)(x7:Bool):Option (qDU×Bool×Int):=if (x7 != x5) then (app 8796093022208 x2 ([x6]:qDU)).bind fun x31=>vW F x31 x7 0 else vW F x2 x5 x6
def qfr (_F:Nat)(x66 x0:qDU):Option (qDU×qDU):=some (x66,x0)
def qco (_F:Nat)(r10:(qDU×Int)→Option (qDU×qDU))(x0:Int)(x1:qDU):Option (qDU×qDU):=r10 (x1,iadd .i64 x0 1)
def qeE (F:Nat)(x1 x4 x66:qDU)(r10:(qDU×Int)→Option (qDU×qDU))(x0:qDU)(x2:Int):Option (qDU×qDU):=if decide (x2<(x4.length:Int)) then (idx x4 x2).bind fun x3=>(zu F x1 x3).bind fun x5=>if (!x5.2) then (app 8796093022208 x0 ([x3]:qDU)).bind fun x6=>qco F r10 x2 x6 else qco F r10 x2 x0 else qfr F x66 x0
def qcp (F:Nat)(x1 x4 x66:qDU):=lp fun r s=>qeE F x1 x4 x66 r s.1 s.2
def qfq (F:Nat)(x1 x4 x66:qDU)(_x67:Bool)(_x68:Int):Option (qDU×qDU):=qcp F x1 x4 x66 F (([]:qDU),0)
def qeF (F:Nat)(x1 x4:qDU)(r12:(Int×qDU×Bool×Int)→Option (qDU×qDU))(x0:Int)(x2:qDU)(x3:Bool)(x5:Int):Option (qDU×qDU):=if decide (x0<(x1.length:Int)) then (idx x1 x0).bind fun x6=>(zu F x4 x6).bind fun x7=>(qaC F x2 x3 x5 x7.2).bind fun x8=>r12 (iadd .i64 x0 1,x8.1,x8.2.1,x8.2.2) else qfq F x1 x4 x2 x3 x5
def qeG (F:Nat)(x1 x4:qDU):=lp fun r s=>qeF F x1 x4 r s.1 s.2.1 s.2.2.1 s.2.2.2
def qfO (F:Nat)(x1 x4:qDU):Option (qDU×qDU):=qeG F x1 x4 F (0,([]:qDU),true,0)
def qad (F:Nat)(x7:qDU)(r1:(Int×Int×qDU×Bool)→Option (Int×qDU×Bool))(x27 x28:Int)(x31:qDU)(x32:Bool):Option (Int×qDU×Bool):=if decide (x27<(x7.length:Int)) then (idx x7 x27).bind fun x55=>(zi F x28 x31 x32 (isub .i64 x55 (imin x27 1))).bind fun x58=>r1 (iadd .i64 x27 1,x58.1,x58.2.1,x58.2.2) else some (x28,x31,x32)
def qae (F:Nat)(x7:qDU):=lp fun r s=>qad F x7 r s.1 s.2.1 s.2.2.1 s.2.2.2
def jz (F:Nat)(x2:Int)(x3:qDU)(x6:Bool)(x7:qDU):Option (Int×qDU×Bool):=(zi F x2 x3 x6 (x7.length:Int)).bind fun x10=>qae F x7 F (0,x10.1,x10.2.1,x10.2.2)
def qhs (_F:Nat)(_x1:qDU):Option Unit:=some ()
def qbm {σ τ:Type}(_F:Nat)(yy:σ→(Int×Int)→Option (σ ⊕ τ))(r31:(Int×σ)→Option (σ ⊕ τ))(x2:qDU)(x0:Int)(x1:σ)(x3:Int):Option (σ ⊕ τ):=(idx x2 x0).bind fun x4=>(yy x1 (x4,x3)).bind (Sum.elim (fun x5=>r31 (iadd .i64 x0 x3,x5)) (fun x6=>some (.inr x6)))
def qbn {σ τ:Type}(F:Nat)(yy:σ→(Int×Int)→Option (σ ⊕ τ))(r31:(Int×σ)→Option (σ ⊕ τ))(r44:Int→Option (σ ⊕ τ))(x2:qDU)(x0:Int)(x1:σ)(x3:Int)(x4:Bool):Option (σ ⊕ τ):=if x4 then r44 (iadd .i64 x3 1) else qbm F yy r31 x2 x0 x1 x3
def qbl {σ τ:Type}(F:Nat)(yy:σ→(Int×Int)→Option (σ ⊕ τ))(r31:(Int×σ)→Option (σ ⊕ τ))(x2:qDU)(x0:Int)(x1:σ)(r44:Int→Option (σ ⊕ τ))(x3:Int):Option (σ ⊕ τ):=if decide ((iadd .i64 x0 x3)<(x2.length:Int)) then (idx x2 (iadd .i64 x0 x3)).bind fun x4=>(idx x2 x0).bind fun x5=>qbn F yy r31 r44 x2 x0 x1 x3 ((x4:Int) == (iadd .i64 x5 x3)) else qbn F yy r31 r44 x2 x0 x1 x3 false
def vj {σ τ:Type}(F:Nat)(yy:σ→(Int×Int)→Option (σ ⊕ τ))(r31:(Int×σ)→Option (σ ⊕ τ))(x2:qDU)(x0:Int)(x1:σ):=lp fun r s=>qbl F yy r31 x2 x0 x1 r s
def qbk {σ τ:Type}(F:Nat)(yy:σ→(Int×Int)→Option (σ ⊕ τ))(x2:qDU)(r31:(Int×σ)→Option (σ ⊕ τ))(x0:Int)(x1:σ):Option (σ ⊕ τ):=if decide (x0<(x2.length:Int)) then vj F yy r31 x2 x0 x1 F 1 else some (.inl x1)
def zp {σ τ:Type}(F:Nat)(yy:σ→(Int×Int)→Option (σ ⊕ τ))(x2:qDU):=lp fun r s=>qbk F yy x2 r s.1 s.2
def qb8 {σ τ:Type}(F:Nat)(yy:σ→(Int×Int)→Option (σ ⊕ τ))(x2:qDU)(s0:σ):Option (σ ⊕ τ):=zp F yy x2 F (0,s0)
def qgb (_F:Nat)(x0:List (Int×Int))(x1 x2:Int)(r8:(Int×qDU)→Option ((qDU×List (Int×Int)) ⊕ Empty))(x3:Int)(x4:qDU):Option ((qDU×List (Int×Int)) ⊕ Empty):=if decide (x3<x2) then (app 8796093022208 x4 ([iadd .i64 x1 x3]:qDU)).bind fun x5=>r8 (iadd .i64 x3 1,x5) else some (.inl (x4,x0))
def qgc (F:Nat)(x0:List (Int×Int))(x1 x2:Int):=lp fun r s=>qgb F x0 x1 x2 r s.1 s.2
def qb7 (F:Nat)(x4:Int)(x0:qDU)(x1:List (Int×Int))(x2 x3:Int):Option ((qDU×List (Int×Int)) ⊕ Empty):=if decide (x4≤x3) then (app 4398046511104 x1 ([(x2,x3)]:List (Int×Int))).bind fun x5=>some (.inl (x0,x5)) else qgc F x1 x2 x3 F (0,x0)
def qgN (F:Nat)(x1:qDU)(x4:Int):Option (List (Int×Int)×qDU):=(qhs F x1).bind fun _x188=>(qb8 F (fun ((x0,x2):(qDU×List (Int×Int))) ((x3,x5):(Int×Int))=>qb7 F x4 x0 x2 x3 x5) x1 (([]:qDU),([]:List (Int×Int)))).bind (Sum.elim (fun ((x0,x2):(qDU×List (Int×Int)))=>some (x2,x0)) (fun t=>t.elim))
def qca (_F:Nat)(x1:Int):Option Int:=lett (ixor .u64 (ishl .u64 (iconv .u64 x1) 1) (iconv .u64 (ishr .i64 x1 63))) fun x2=>some x2
def yR (F:Nat)(r5:(Int×Int×Int×qDU×Bool)→Option (Int×qDU×Bool))(x8 x74:Int)(x0:(Int×Int))(x1:Int)(x2:qDU)(x3:Bool):Option (Int×qDU×Bool):=(zi F x1 x2 x3 (isub .i64 x0.2 x8)).bind fun x4=>r5 (isub .i64 (iadd .i64 x0.1 x0.2) 1,iadd .i64 x74 1,x4.1,x4.2.1,x4.2.2)
def qa8 (F:Nat)(x8:Int)(x9:List (Int×Int))(r5:(Int×Int×Int×qDU×Bool)→Option (Int×qDU×Bool))(x73 x74 x75:Int)(x78:qDU)(x79:Bool):Option (Int×qDU×Bool):=if decide (x74<(x9.length:Int)) then (idx x9 x74).bind fun x0=>if ((x74:Int) == 0) then (qca F (isub .i64 x0.1 x73)).bind fun x1=>(zi F x75 x78 x79 (iconv .i64 x1)).bind fun x2=>yR F r5 x8 x74 x0 x2.1 x2.2.1 x2.2.2 else (zi F x75 x78 x79 (isub .i64 (isub .i64 x0.1 x73) 2)).bind fun x3=>yR F r5 x8 x74 x0 x3.1 x3.2.1 x3.2.2 else some (x75,x78,x79)
def yS (F:Nat)(x8:Int)(x9:List (Int×Int)):=lp fun r s=>qa8 F x8 x9 r s.1 s.2.1 s.2.2.1 s.2.2.2.1 s.2.2.2.2
def qaJ (F:Nat)(x2:Int)(x3:qDU)(x6:Bool)(x7 x8:Int)(x9:List (Int×Int)):Option (Int×qDU×Bool):=(zi F x2 x3 x6 (x9.length:Int)).bind fun x12=>yS F x8 x9 F (x7,0,x12.1,x12.2.1,x12.2.2)
def qdV (F:Nat)(x1 x2:Int):Option (Int×Int×Int):=(vi F (iadd .u64 x1 1)).bind fun x3=>chk ((x2:Int) != 0) (chk (decide (0≤(imul .i64 (iquo .i64 (isub .i64 x3 1) x2) x2))) (chk (decide (0≤(iadd .i64 (imul .i64 (iquo .i64 (isub .i64 x3 1) x2) x2) x2))) (some (iquo .i64 (isub .i64 x3 1) x2,ishl .u64 1 (imul .i64 (iquo .i64 (isub .i64 x3 1) x2) x2),ishl .u64 1 (iadd .i64 (imul .i64 (iquo .i64 (isub .i64 x3 1) x2) x2) x2)))))
def qbD (F:Nat)(x1:Int):Option (Int×Int):=(vi F (isub .u64 x1 1)).bind fun x2=>chk (decide (0≤x2)) (some (x2,isub .u64 (ishl .u64 1 x2) x1))
def qbe (F:Nat)(x1:Int)(x2:qDU)(x5 x6:Int):Option (Int×qDU):=(qbD F x6).bind fun x9=>if decide (x5<x9.2) then (vG F x1 x2 x5 (isub .i64 x9.1 1)).bind fun x14=>some (x14.1,x14.2) else (vG F x1 x2 (iadd .u64 x5 x9.2) x9.1).bind fun x17=>some (x17.1,x17.2)
def qdU (F:Nat)(x1 x2:Int):Option (Int×qDU×Int):=if ((decide (x2<1) || decide (16<x2)) || decide (1099511627776<x1)) then some (0,([]:qDU),3) else (qdV F x1 x2).bind fun x9=>(qeh F (iconv .u64 x9.1)).bind fun x10=>(qbe F x10.1 x10.2 (isub .u64 (iadd .u64 x1 1) x9.2.1) (isub .u64 x9.2.2 x9.2.1)).bind fun x13=>some (x13.1,x13.2,0)
def qh9 (_F:Nat)(x0:Int)(x1:qDU):Option (Int×qDU×Bool):=some (x0,x1,true)
def qf6 (F:Nat)(x5:qDU)(x8:Int)(r3:(Int×Int×qDU)→Option (Int×qDU×Bool))(x0 x1:Int)(x2:qDU):Option (Int×qDU×Bool):=if decide (x0<(x5.length:Int)) then (idx x5 x0).bind fun x3=>(qdU F x3 x8).bind fun x4=>if (((x4.2.2:Int) != 0) || decide (8192<(iadd .i64 x1 x4.1))) then some (0,([]:qDU),false) else (qal F x1 x2 x4.1 x4.2.1).bind fun x6=>r3 (iadd .i64 x0 1,x6.1,x6.2) else qh9 F x1 x2
def qf7 (F:Nat)(x5:qDU)(x8:Int):=lp fun r s=>qf6 F x5 x8 r s.1 s.2.1 s.2.2
def qfn (F:Nat)(x1:Int)(x2 x5:qDU)(x8:Int):Option (Int×qDU×Bool):=qf7 F x5 x8 F (0,x1,x2)
def qbC (_F:Nat)(x4 x8:Int):Option (Int×Int×Bool):=some (x8,x4,true)
def qbc (F:Nat)(x2:Int)(x3:Bool)(x4:Int):Option (Int×Int×Bool):=if x3 then lett (iconv .u64 (isub .i64 (isub .i64 x4 x2) 1)) fun x9=>qbC F x4 x9 else (qca F (isub .i64 x4 x2)).bind fun x10=>qbC F x4 x10
def qf9 (_F:Nat)(x75:qDU):Option (qDU):=some x75
def qf8 (F:Nat)(x1:qDU)(r3:(qDU×Int×Int×Bool)→Option (qDU))(x98:qDU)(x99 x0:Int)(x2:Bool):Option (qDU):=if decide (x99<(x1.length:Int)) then (idx x1 x99).bind fun x3=>(qbc F x0 x2 x3).bind fun x4=>(app 8796093022208 x98 ([x4.1]:qDU)).bind fun x5=>r3 (x5,iadd .i64 x99 1,x4.2.1,x4.2.2) else qf9 F x98
def qga (F:Nat)(x1:qDU):=lp fun r s=>qf8 F x1 r s.1 s.2.1 s.2.2.1 s.2.2.2
def qgL (F:Nat)(x1:qDU)(x4:Int):Option (qDU):=qga F x1 F (([]:qDU),0,x4,false)
def qa7 (F:Nat)(x52:Int)(x55:qDU)(x56 x76:Bool)(x77:Int)(x80:qDU):Option (Int×qDU×Bool):=(vk F x52 x55 (x56 || (!x76)) x77 x80).bind fun x82=>some (x82.1,x82.2.1,x82.2.2)
def yQ (F:Nat)(x7 x16:Int)(x51:qDU)(x52:Int)(x55:qDU)(x56:Bool):Option (Int×qDU×Bool):=(qgL F x51 x7).bind fun x85=>(qfn F 0 ([]:qDU) x85 x16).bind fun x88=>qa7 F x52 x55 x56 x88.2.2 x88.1 x88.2.1
def yP (F:Nat)(x7 x15 x16:Int)(x33:qDU)(x34:Int)(x37:qDU)(x38:Bool):Option (Int×qDU×Bool):=if (((x33.length:Int):Int) == 0) then some (x34,x37,x38) else if decide (0<x15) then (qgN F x33 x15).bind fun x0=>(qaJ F x34 x37 x38 x7 x15 x0.1).bind fun x1=>yQ F x7 x16 x0.2 x1.1 x1.2.1 x1.2.2 else yQ F x7 x16 x33 x34 x37 x38
def vQ (F:Nat)(x2:Int)(x3:qDU)(x6:Bool)(x7:Int)(x8 x11:qDU)(x14 x15 x16:Int):Option (Int×qDU×Bool):=(zi F x2 x3 x6 (x8.length:Int)).bind fun x18=>if (((x8.length:Int):Int) == 0) then some (x18.1,x18.2.1,x18.2.2) else if decide (0<x14) then (qfO F x11 x8).bind fun x0=>(jz F x18.1 x18.2.1 x18.2.2 x0.1).bind fun x1=>yP F x7 x15 x16 x0.2 x1.1 x1.2.1 x1.2.2 else yP F x7 x15 x16 x8 x18.1 x18.2.1 x18.2.2
def qeU (F:Nat)(x1:Int)(x2:qDU)(x5 _x6 _x7:Int):Option Int:=if (decide (x1<0) || decide (1048576<x1)) then some 3 else if decide (0<x5) then (jr F x2).bind fun x14=>some x14 else some 0
def qaX (F:Nat)(x1:Int)(x2 x5:qDU)(x8 x9 x10 x25:Int):Option (Int×qDU×Int):=if ((x25:Int) != 0) then some (0,([]:qDU),x25) else (vQ F 0 ([]:qDU) false x1 x2 x5 x8 x9 x10).bind fun x28=>if x28.2.2 then some (0,([]:qDU),8) else some (x28.1,x28.2.1,0)
def qaW (F:Nat)(x1:Int)(x2 x5:qDU)(x8 x9 x10 x22:Int):Option (Int×qDU×Int):=if ((x22:Int) == 0) then (qeU F x1 x5 x8 x9 x10).bind fun x34=>qaX F x1 x2 x5 x8 x9 x10 x34 else qaX F x1 x2 x5 x8 x9 x10 x22
def qaV (F:Nat)(x1:Int)(x2 x5:qDU)(x8 x9 x10 x19:Int):Option (Int×qDU×Int):=if ((x19:Int) == 0) then (jr F x2).bind fun x36=>qaW F x1 x2 x5 x8 x9 x10 x36 else qaW F x1 x2 x5 x8 x9 x10 x19
def qaY (F:Nat)(x1:Int)(x2 x5:qDU)(x8 x9 x10 x13:Int)(x40:Bool):Option (Int×qDU×Int):=if x40 then qaV F x1 x2 x5 x8 x9 x10 3 else qaV F x1 x2 x5 x8 x9 x10 x13
def qeT (F:Nat)(x1:Int)(x2 x5:qDU)(x8 x9 x10:Int):Option (Int×qDU×Int):=(vv F x8 x9 x10).bind fun x13=>if ((x13:Int) == 0) then qaY F x1 x2 x5 x8 x9 x10 x13 (decide (x1<0) || decide (1048576<x1)) else qaY F x1 x2 x5 x8 x9 x10 x13 false
def qbF (F:Nat)(x1:List (qDU))(x4:qDU)(x7 x9 x10 x18:Int)(x21 x29:qDU):Option (Int×Int×qDU×Bool):=(qeT F (x1.length:Int) x4 x29 x7 x9 x10).bind fun x30=>if (((x30.2.2:Int) != 0) || decide (8192<(iadd .i64 x18 x30.1))) then some (0,0,([]:qDU),false) else (qal F x18 x21 x30.1 x30.2.1).bind fun x37=>some (x7,x37.1,x37.2,true)
def qbE (F:Nat)(x1:List (qDU))(x4:qDU)(x7 x9 x10 x18:Int)(x21:qDU):Option (Int×Int×qDU×Bool):=if decide (0<x7) then (idx x1 (isub .i64 (x1.length:Int) x7)).bind fun x41=>qbF F x1 x4 x7 x9 x10 x18 x21 x41 else qbF F x1 x4 x7 x9 x10 x18 x21 ([]:qDU)
def qfN (F:Nat)(x1:List (qDU))(x4:qDU)(x7 x8 x9 x10:Int):Option (Int×Int×qDU×Bool):=if decide (0<x8) then (j2 F (iconv .u64 x7)).bind fun x46=>qbE F x1 x4 x7 x9 x10 x46.1 x46.2 else qbE F x1 x4 x7 x9 x10 0 ([]:qDU)
def qfp (_F:Nat)(x96:Bool)(x97 x98:Int)(x0:qDU):Option (Int×Int×qDU×Bool):=some (x97,x98,x0,x96)
def vp (_F:Nat)(r14:(Bool×Int×Int×Int×qDU)→Option (Int×Int×qDU×Bool))(x0:Int)(x1:Bool)(x2 x3:Int)(x4:qDU):Option (Int×Int×qDU×Bool):=r14 (x1,iadd .i64 x0 1,x2,x3,x4)
def qcn (F:Nat)(r14:(Bool×Int×Int×Int×qDU)→Option (Int×Int×qDU×Bool))(x0:Bool)(x1 x2 x3:Int)(x4:qDU)(x5:(Int×Int×qDU×Bool))(x6:Bool):Option (Int×Int×qDU×Bool):=if x6 then vp F r14 x1 true x5.1 x5.2.1 x5.2.2.1 else vp F r14 x1 x0 x2 x3 x4
def qeB (F:Nat)(x1:List (qDU))(x4:qDU)(x7 x8 x9:Int)(r14:(Bool×Int×Int×Int×qDU)→Option (Int×Int×qDU×Bool))(x0:Bool)(x2 x3 x5:Int)(x6:qDU):Option (Int×Int×qDU×Bool):=if decide (x2<(iadd .i64 (imin x7 (x1.length:Int)) 1)) then (qfN F x1 x4 x2 x7 x8 x9).bind fun x10=>if x10.2.2.2 then qcn F r14 x0 x2 x3 x5 x6 x10 ((!x0) || decide (x10.2.1<x5)) else qcn F r14 x0 x2 x3 x5 x6 x10 false else qfp F x0 x3 x5 x6
def vq (F:Nat)(x1:List (qDU))(x4:qDU)(x7 x8 x9:Int):=lp fun r s=>qeB F x1 x4 x7 x8 x9 r s.1 s.2.1 s.2.2.1 s.2.2.2.1 s.2.2.2.2
def qhr (F:Nat)(x1:List (qDU))(x4:qDU)(x7 x8 x9:Int):Option (Int×Int×qDU×Bool):=vq F x1 x4 x7 x8 x9 F (false,0,0,0,([]:qDU))
def qax (_F:Nat)(x2 x3 x4 x5 x0:Int)(x1 x6 x7:qDU):Option (Bool×Int×Int×Int×Int×Int×qDU×qDU×qDU):=some (true,x2,x3,x4,x5,x0,x1,x6,x7)
def qaz (F:Nat)(r43:(Int×Int×qDU×qDU×qDU)→Option (Bool×Int×Int×Int×Int×Int×qDU×qDU×qDU))(x0 x1:Int)(x2:qDU)(x3:Int)(x4 x5 x6:qDU):Option (Bool×Int×Int×Int×Int×Int×qDU×qDU×qDU):=(qal F x1 x2 x3 x4).bind fun x7=>r43 (iadd .i64 x0 1,x7.1,x7.2,x5,x6)
def yo (F:Nat)(r43:(Int×Int×qDU×qDU×qDU)→Option (Bool×Int×Int×Int×Int×Int×qDU×qDU×qDU))(x2 x3 x4 x5 x0 x1:Int)(x6 x7 x8:qDU)(x9 x10:Int)(x11:qDU)(x12:Bool):Option (Bool×Int×Int×Int×Int×Int×qDU×qDU×qDU):=if x12 then some (false,x2,x3,x4,x5,x1,x6,x7,x8) else (app 8796093022208 x7 ([x9]:qDU)).bind fun x13=>(app 8796093022208 x8 ([x1]:qDU)).bind fun x14=>qaz F r43 x0 x1 x6 x10 x11 x13 x14
def qay (F:Nat)(r43:(Int×Int×qDU×qDU×qDU)→Option (Bool×Int×Int×Int×Int×Int×qDU×qDU×qDU))(x2 x3 x4 x5 x0 x1:Int)(x6 x7 x8:qDU)(x9:Bool)(x10 x11:Int)(x12:qDU):Option (Bool×Int×Int×Int×Int×Int×qDU×qDU×qDU):=if (!x9) then yo F r43 x2 x3 x4 x5 x0 x1 x6 x7 x8 x10 x11 x12 true else yo F r43 x2 x3 x4 x5 x0 x1 x6 x7 x8 x10 x11 x12 (decide (8192<(iadd .i64 x1 x11)))
def qaw (F:Nat)(x2 x3 x4 x5:Int)(x16:List (qDU))(r43:(Int×Int×qDU×qDU×qDU)→Option (Bool×Int×Int×Int×Int×Int×qDU×qDU×qDU))(x0 x1:Int)(x6 x7 x8:qDU):Option (Bool×Int×Int×Int×Int×Int×qDU×qDU×qDU):=if decide (x0<(x16.length:Int)) then (idx x16 x0).bind fun x9=>(sub x16 0 x0).bind fun x10=>(qhr F x10 x9 x3 x4 x5).bind fun x11=>qay F r43 x2 x3 x4 x5 x0 x1 x6 x7 x8 x11.2.2.2 x11.1 x11.2.1 x11.2.2.1 else qax F x2 x3 x4 x5 x1 x6 x7 x8
def kO (F:Nat)(x2 x3 x4 x5:Int)(x16:List (qDU)):=lp fun r s=>qaw F x2 x3 x4 x5 x16 r s.1 s.2.1 s.2.2.1 s.2.2.2.1 s.2.2.2.2
def qcv (F:Nat)(x2 x3 x4 x5 x6:Int)(x7 x10 x13:qDU)(x16:List (qDU)):Option (Bool×Int×Int×Int×Int×Int×qDU×qDU×qDU):=kO F x2 x3 x4 x5 x16 F (0,x6,x7,x10,x13)
def vA (_F:Nat)(x48 x49 x50 x51 x52 x53:Int)(x56 x59 x62:qDU):Option (Int×Int×Int×Int×Int×qDU×qDU×qDU×Int):=some (x49,x50,x51,x52,x53,x56,x59,x62,x48)
def vB (F:Nat)(x12:Int)(x74:Bool)(x75 x76 x77 x78 x79:Int)(x82 x85 x88:qDU):Option (Int×Int×Int×Int×Int×qDU×qDU×qDU×Int):=if x74 then vA F 8 x75 x76 x77 x78 x79 x82 x85 x88 else vA F x12 x75 x76 x77 x78 x79 x82 x85 x88
def j5 (F:Nat)(x1:List (qDU))(x4 x5 x6 x12:Int):Option (Int×Int×Int×Int×Int×qDU×qDU×qDU×Int):=if ((x12:Int) == 0) then (qcv F (x1.length:Int) x4 x5 x6 0 ([]:qDU) ([]:qDU) ([]:qDU) x1).bind fun x90=>vB F x12 (!x90.1) x90.2.1 x90.2.2.1 x90.2.2.2.1 x90.2.2.2.2.1 x90.2.2.2.2.2.1 x90.2.2.2.2.2.2.1 x90.2.2.2.2.2.2.2.1 x90.2.2.2.2.2.2.2.2 else vB F x12 false (x1.length:Int) x4 x5 x6 0 ([]:qDU) ([]:qDU) ([]:qDU)
def qb6 (F:Nat)(x1:List (qDU))(x4 x5 x6:Int):Option (Int×Int×Int×Int×Int×qDU×qDU×qDU×Int):=(kM F x1).bind fun x9=>if ((x9:Int) == 0) then (vv F x4 x5 x6).bind fun x97=>j5 F x1 x4 x5 x6 x97 else j5 F x1 x4 x5 x6 x9
def qbS (F:Nat)(x1:List (qDU))(x4 x5 x6:Int):Option (Int×Int×Int×Int×Int×qDU×Int):=(qb6 F x1 x4 x5 x6).bind fun x10=>if ((x10.2.2.2.2.2.2.2.2:Int) != 0) then some (0,0,0,0,0,([]:qDU),x10.2.2.2.2.2.2.2.2) else some (x10.1,x10.2.1,x10.2.2.1,x10.2.2.2.1,x10.2.2.2.2.1,x10.2.2.2.2.2.1,0)
def qed (_F:Nat)(x21 _x22 _x23 _x24 _x25 x26:Int)(_x29:qDU):Option (Int×qDU):=(itoaC x26).bind fun x30=>some (x21,x30)
def qfG (F:Nat)(x2:List (qDU))(x5 x6 x7:Int)(_x8 _x11:qDU):Option (Int×qDU):=(qbS F x2 x5 x6 x7).bind fun x31=>qed F x31.2.2.2.2.2.2 x31.1 x31.2.1 x31.2.2.1 x31.2.2.2.1 x31.2.2.2.2.1 x31.2.2.2.2.2.1
def qeg (F:Nat)(x1:List (qDU))(x4 x5 x6:Int):Option (qDU×qDU×Int):=(qb6 F x1 x4 x5 x6).bind fun x9=>if ((x9.2.2.2.2.2.2.2.2:Int) != 0) then some (([]:qDU),([]:qDU),x9.2.2.2.2.2.2.2.2) else some (x9.2.2.2.2.2.2.1,x9.2.2.2.2.2.2.2.1,0)
def qg7 (_F:Nat):Option Int:=some 0
def qex (F:Nat)(x1:qDU)(x4:Int)(r3:(Int×Int)→Option Int)(x92 x93:Int):Option Int:=if decide (x93<(x1.length:Int)) then (idx x1 x93).bind fun x0=>if (decide (x0<0) || decide (x4<x0)) then some 3 else if decide (x0<x92) then some 4 else r3 (x0,iadd .i64 x93 1) else qg7 F
def qey (F:Nat)(x1:qDU)(x4:Int):=lp fun r s=>qex F x1 x4 r s.1 s.2
def qcP (F:Nat)(x1:qDU)(x4:Int):Option Int:=if (decide (x4<0) || decide (1048576<x4)) then some 3 else if decide (300<(x1.length:Int)) then some 2 else qey F x1 x4 F (0,0)
def qg8 (_F:Nat)(x35:Int):Option Int:=some x35
def j4 (F:Nat)(r13:Int→Option Int)(x46:Int)(x65:Bool):Option Int:=if x65 then r13 (iadd .i64 x46 1) else qg8 F x46
def qdA (F:Nat)(x1 x2:Int)(r13:Int→Option Int)(x46:Int):Option Int:=if decide (0<x1) then chk (decide (0≤(iadd .i64 x46 1))) (j4 F r13 x46 (decide ((ishl .i64 x1 (iadd .i64 x46 1))≤(iadd .i64 x2 1)))) else j4 F r13 x46 false
def qbP (F:Nat)(x1 x2:Int):=lp fun r s=>qdA F x1 x2 r s
def qcU (F:Nat)(x1 x2:Int):Option Int:=qbP F x1 x2 F 0
def qa4 (F:Nat)(x7:Int)(r1:(Int×qDU×Int)→Option (Int×qDU×Int))(x16:Int)(x19:qDU)(x20:Int):Option (Int×qDU×Int):=if decide (x20<x7) then (vG F x16 x19 0 1).bind fun x34=>r1 (x34.1,x34.2,iadd .i64 x20 1) else some (x16,x19,x20)
def qa5 (F:Nat)(x7:Int):=lp fun r s=>qa4 F x7 r s.1 s.2.1 s.2.2
def vI (F:Nat)(x2:Int)(x3:qDU)(x6 x7:Int):Option (Int×qDU×Int):=qa5 F x7 F (x2,x3,x6)
def qf4 (F:Nat)(x1:qDU)(x4 x6 x0:Int)(x2:qDU)(x3 x5:Int)(x7:qDU):Option (Int×Int×Int×Int×qDU×Int×qDU×Bool):=(vI F x0 x2 x3 (iadd .i64 (ishr .i64 x4 x6) 1)).bind fun x8=>some ((x1.length:Int),x4,x6,x5,x7,x8.1,x8.2.1,true)
def qf3 (F:Nat)(x1:qDU)(x4 x6:Int)(r3:(Int×Int×qDU×Int×Int×qDU)→Option (Int×Int×Int×Int×qDU×Int×qDU×Bool))(x0 x2:Int)(x3:qDU)(x5 x7:Int)(x8:qDU):Option (Int×Int×Int×Int×qDU×Int×qDU×Bool):=if decide (x0<(x1.length:Int)) then (idx x1 x0).bind fun x9=>chk (decide (0≤x6)) ((vG F x7 x8 (iconv .u64 (iand .i64 x9 (isub .i64 (ishl .i64 1 x6) 1))) x6).bind fun x10=>chk (decide (0≤x6)) ((vI F x2 x3 x5 (ishr .i64 x9 x6)).bind fun x11=>(vG F x11.1 x11.2.1 1 1).bind fun x12=>r3 (iadd .i64 x0 1,x12.1,x12.2,x11.2.2,x10.1,x10.2))) else qf4 F x1 x4 x6 x2 x3 x5 x7 x8
def qf5 (F:Nat)(x1:qDU)(x4 x6:Int):=lp fun r s=>qf3 F x1 x4 x6 r s.1 s.2.1 s.2.2.1 s.2.2.2.1 s.2.2.2.2.1 s.2.2.2.2.2
def qfj (F:Nat)(x1:qDU)(x4:Int):Option (Int×Int×Int×Int×qDU×Int×qDU×Bool):=(qcU F (x1.length:Int) x4).bind fun x6=>chk (decide (0≤x6)) (if (decide (8192<(imul .i64 (x1.length:Int) x6)) || (decide (8192<(iadd .i64 (x1.length:Int) (iadd .i64 (ishr .i64 x4 x6) 1))))) then some (0,0,0,0,([]:qDU),0,([]:qDU),false) else qf5 F x1 x4 x6 F (0,0,([]:qDU),0,0,([]:qDU)))
def qcO (F:Nat)(x1:qDU)(x4:Int):Option (Int×Int×Int×Int×qDU×Int×qDU×Int):=(qcP F x1 x4).bind fun x8=>if ((x8:Int) != 0) then some (0,0,0,0,([]:qDU),0,([]:qDU),x8) else (qfj F x1 x4).bind fun x9=>if (!x9.2.2.2.2.2.2.2) then some (0,0,0,0,([]:qDU),0,([]:qDU),8) else some (x9.1,x9.2.1,x9.2.2.1,x9.2.2.2.1,x9.2.2.2.2.1,x9.2.2.2.2.2.1,x9.2.2.2.2.2.2.1,0)
def qa2 (F:Nat)(x1:List (qDU))(x4 x5 x6 x7 x8:Int)(x9:qDU):Option (Int×Int×Int×Int×Int×qDU×Int×Int×Int×Int×qDU×Int×qDU×Int):=(qeg F x1 x5 x6 x7).bind fun x15=>if ((x15.2.2:Int) != 0) then some (0,0,0,0,0,([]:qDU),0,0,0,0,([]:qDU),0,([]:qDU),x15.2.2) else (qcO F x15.2.1 x8).bind fun x21=>if ((x21.2.2.2.2.2.2.2:Int) != 0) then some (0,0,0,0,0,([]:qDU),0,0,0,0,([]:qDU),0,([]:qDU),x21.2.2.2.2.2.2.2) else some (x4,x5,x6,x7,x8,x9,x21.1,x21.2.1,x21.2.2.1,x21.2.2.2.1,x21.2.2.2.2.1,x21.2.2.2.2.2.1,x21.2.2.2.2.2.2.1,0)
def qd1 (F:Nat)(x1:List (qDU))(x4 x5 x6:Int):Option (Int×Int×Int×Int×Int×qDU×Int×Int×Int×Int×qDU×Int×qDU×Int):=(qbS F x1 x4 x5 x6).bind fun x10=>if ((x10.2.2.2.2.2.2:Int) != 0) then some (0,0,0,0,0,([]:qDU),0,0,0,0,([]:qDU),0,([]:qDU),x10.2.2.2.2.2.2) else (qa2 F x1 x10.1 x10.2.1 x10.2.2.1 x10.2.2.2.1 x10.2.2.2.2.1 x10.2.2.2.2.2.1).bind fun x15=>some (x15.1,x15.2.1,x15.2.2.1,x15.2.2.2.1,x15.2.2.2.2.1,x15.2.2.2.2.2.1,x15.2.2.2.2.2.2.1,x15.2.2.2.2.2.2.2.1,x15.2.2.2.2.2.2.2.2.1,x15.2.2.2.2.2.2.2.2.2.1,x15.2.2.2.2.2.2.2.2.2.2.1,x15.2.2.2.2.2.2.2.2.2.2.2.1,x15.2.2.2.2.2.2.2.2.2.2.2.2.1,x15.2.2.2.2.2.2.2.2.2.2.2.2.2)
def qaN (_F:Nat)(x36:Bool):Option Int:=if x36 then some 1 else some 0
def qbL (F:Nat)(x1:Int)(x2:qDU):Option Int:=if (decide (x1<0) || decide (8192<x1)) then some 3 else if (((x2.length:Int):Int) != (iquo .i64 (iadd .i64 x1 7) 8)) then some 1 else if (((irem x1 8):Int) != 0) then (idx x2 (isub .i64 (x2.length:Int) 1)).bind fun x39=>chk (decide (0≤(irem x1 8))) (qaN F (((ishl .u8 x39 (irem x1 8)):Int) != 0)) else qaN F false
def qeP (F:Nat)(x1 x2 x3 x4 x5:Int)(x6:qDU):Option Int:=if (decide (x1<0) || decide (100<x1)) then some 3 else (vv F x2 x3 x4).bind fun x15=>if ((x15:Int) != 0) then some x15 else (qbL F x5 x6).bind fun x16=>some x16
def qha (_F:Nat):Option (Int×Int×Bool):=some (0,0,false)
def qeI (F:Nat)(x1:Int)(x2:qDU)(x5:Int)(r3:Int→Option (Int×Int×Bool))(x33:Int):Option (Int×Int×Bool):=if decide (x33<x1) then (qa1 F x1 x2 x33).bind fun x44=>if ((x44:Int) == 1) then some (iconv .u64 (isub .i64 x33 x5),iadd .i64 x33 1,true) else r3 (iadd .i64 x33 1) else qha F
def qeJ (F:Nat)(x1:Int)(x2:qDU)(x5:Int):=lp fun r s=>qeI F x1 x2 x5 r s
def qde (F:Nat)(x1:Int)(x2:qDU)(x5:Int):Option (Int×Int×Bool):=qeJ F x1 x2 x5 F x5
def qb2 (F:Nat)(x1:Int)(x2:qDU)(x5:Int):Option (Int×Int×Int):=(qde F x1 x2 x5).bind fun x7=>if (!x7.2.2) then some (0,0,7) else some (x7.1,x7.2.1,0)
def qe7 (_F:Nat)(x24:Int):Option (Int×Bool):=some (x24,true)
def qe6 (F:Nat)(x1:Int)(x2:qDU)(x5 x6:Int)(r3:(Int×Int)→Option (Int×Bool))(x29 x30:Int):Option (Int×Bool):=if decide (x30<x6) then (qa1 F x1 x2 (iadd .i64 x5 x30)).bind fun x38=>r3 (ior .u64 (ishl .u64 x29 1) x38,iadd .i64 x30 1) else qe7 F x29
def qe8 (F:Nat)(x1:Int)(x2:qDU)(x5 x6:Int):=lp fun r s=>qe6 F x1 x2 x5 x6 r s.1 s.2
def je (F:Nat)(x1:Int)(x2:qDU)(x5 x6:Int):Option (Int×Bool):=if decide ((isub .i64 x1 x5)<x6) then some (0,false) else qe8 F x1 x2 x5 x6 F (0,0)
def kD (F:Nat)(x1:Int)(x2:qDU)(x5:Int):Option (Int×Int×Int):=(qb2 F x1 x2 x5).bind fun x7=>if ((x7.2.2:Int) != 0) then some (0,0,x7.2.2) else if decide (64≤x7.1) then some (0,0,3) else (je F x1 x2 x7.2.1 (iconv .i64 x7.1)).bind fun x10=>if (!x10.2) then some (0,0,7) else chk (decide (0≤x7.1)) (lett (iadd .u64 x10.1 (isub .u64 (ishl .u64 1 x7.1) 1)) fun x16=>if decide (1099511627776<x16) then some (0,0,3) else some (x16,iadd .i64 x7.2.1 (iconv .i64 x7.1),0))
def jq (F:Nat)(x1:Int)(x2:qDU)(x5:Int):Option (Int×Int×Int):=(kD F x1 x2 x5).bind fun x7=>some (x7.1,x7.2.1,x7.2.2)
def qdX (_F:Nat)(x13:(Int×Int×Int))(x18:Bool):Option (Int×Int×Bool):=if x18 then some (0,0,false) else some (iconv .i64 x13.1,x13.2.1,true)
def qfo (F:Nat)(_x1 x2 _x3 _x4 x5:Int)(x6:qDU)(x9 x10:Int):Option (Int×Int×Bool):=if ((x2:Int) == 0) then some (0,x9,true) else (jq F x5 x6 x9).bind fun x13=>if ((x13.2.2:Int) != 0) then qdX F x13 true else qdX F x13 (decide ((iconv .u64 (imin x2 x10))<x13.1))
def yE (_F:Nat)(x1:Bool):Option (Unit ⊕ Unit):=if (!x1) then some (.inr ()) else some (.inl ())
def zQ (F:Nat)(x2:Int)(x3:qDU)(x6 x7:Int):Option ((Int×Int×Int) ⊕ (Int×Int)):=(jq F x2 x3 x6).bind fun x9=>lbnd (yE F (((x9.2.2:Int) == 0) && decide (x9.1≤(iconv .u64 x7)))) (fun _x11=>some (.inl (iconv .i64 x9.1,x2,x9.2.1))) (fun _x12=>some (.inr (x2,x6)))
def qc4 (_F:Nat)(x4 x99:Int):Option Int:=if decide (x4<x99) then some 8 else some 0
def qbh (_F:Nat)(r23:(Int×Int)→Option Int)(x4 x0 x1 x2:Int)(x3:Bool):Option Int:=if x3 then some 3 else lett (imin (iadd .i64 x0 (imin x2 (iadd .i64 x4 1))) (iadd .i64 x4 1)) fun x5=>r23 (x5,iadd .i64 x1 1)
def qc3 (F:Nat)(x1:qDU)(x4:Int)(r23:(Int×Int)→Option Int)(x0 x2:Int):Option Int:=if decide (x2<(x1.length:Int)) then (idx x1 x2).bind fun x3=>if decide (x3<0) then qbh F r23 x4 x0 x2 x3 true else qbh F r23 x4 x0 x2 x3 (decide (x3<1) && decide (0<x2)) else qc4 F x4 x0
def qbi (F:Nat)(x1:qDU)(x4:Int):=lp fun r s=>qc3 F x1 x4 r s.1 s.2
def qdY (F:Nat)(x1:qDU)(x4:Int):Option Int:=if decide ((iadd .i64 x4 1)<(x1.length:Int)) then some 2 else qbi F x1 x4 F (0,0)
def qbj (_F:Nat)(x0:qDU):Option (qDU):=some x0
def qc5 (F:Nat)(x0 x1:qDU)(x2:Bool):Option (qDU):=if x2 then (app 8796093022208 x1 x0).bind fun x3=>qbj F x3 else qbj F x1
def qaA (_F:Nat)(r10:(qDU×qDU×Bool×Int)→Option (qDU))(x0:qDU)(x1:Bool)(x2 x3:Int)(x4:qDU):Option (qDU):=(sub x0 x3 (x0.length:Int)).bind fun x5=>r10 (x5,x4,(!x1),iadd .i64 x2 1)
def qcw (F:Nat)(x4:qDU)(r10:(qDU×qDU×Bool×Int)→Option (qDU))(x0 x1:qDU)(x2:Bool)(x3:Int):Option (qDU):=if decide (x3<(x4.length:Int)) then (idx x4 x3).bind fun x5=>if x2 then (sub x0 0 x5).bind fun x6=>(app 8796093022208 x1 x6).bind fun x7=>qaA F r10 x0 x2 x3 x5 x7 else qaA F r10 x0 x2 x3 x5 x1 else qc5 F x0 x1 x2
def qaB (F:Nat)(x4:qDU):=lp fun r s=>qcw F x4 r s.1 s.2.1 s.2.2.1 s.2.2.2
def qfs (F:Nat)(x1 x4:qDU):Option (qDU):=qaB F x4 F (x1,([]:qDU),true,0)
def qaR (F:Nat)(x1 x4:qDU)(x10:Int):Option (qDU×Int):=if ((x10:Int) != 0) then some (([]:qDU),x10) else (qfs F x1 x4).bind fun x12=>some (x12,0)
def qeQ (F:Nat)(x1 x4:qDU):Option (qDU×Int):=(jr F x1).bind fun x7=>if ((x7:Int) == 0) then (qdY F x4 (x1.length:Int)).bind fun x16=>qaR F x1 x4 x16 else qaR F x1 x4 x7
def qcG (_F:Nat)(x72:qDU)(x73 x74:Int):Option ((qDU×Int×Int) ⊕ (Int×Int)):=some (.inl (x72,x73,x74))
def qab (F:Nat)(x3:qDU)(x7:Int)(x10:qDU)(r3:(qDU×Int×Int×Int)→Option ((qDU×Int×Int) ⊕ (Int×Int)))(x93:qDU)(x94 x95 x96:Int):Option ((qDU×Int×Int) ⊕ (Int×Int)):=if decide (x94<(x10.length:Int)) then lbnd (zQ F x95 x3 x96 x7) (fun x0=>(idx x93 x94).bind fun _x127=>lett (x93.set x94.toNat (iadd .i64 x0.1 (imin x94 1))) fun x1=>r3 (x1,iadd .i64 x94 1,x0.2.1,x0.2.2)) (fun x2=>some (.inr (x2.1,x2.2))) else qcG F x93 x95 x96
def qac (F:Nat)(x3:qDU)(x7:Int)(x10:qDU):=lp fun r s=>qab F x3 x7 x10 r s.1 s.2.1 s.2.2.1 s.2.2.2
def jx (F:Nat)(x2:Int)(x3:qDU)(x6 x7:Int):Option ((qDU×Int×Int) ⊕ (Int×Int)):=lbnd (zQ F x2 x3 x6 (iadd .i64 x7 1)) (fun x8=>(mk 17592186044416 (0:Int) x8.1).bind fun x10=>qac F x3 x7 x10 F (x10,0,x8.2.1,x8.2.2)) (fun x9=>some (.inr (x9.1,x9.2)))
def qaZ (_F:Nat)(x1:Int):Option Int:=lett (ixor .i64 (iconv .i64 (ishr .u64 x1 1)) (isub .i64 0 (iconv .i64 (iand .u64 x1 1)))) fun x2=>some x2
def qdy (_F:Nat)(x0:List (Int×Int))(x1 x2:Int):Option ((List (Int×Int)×Int×Int) ⊕ (Int×Int)):=some (.inl (x0,x1,x2))
def yz (F:Nat)(r13:(List (Int×Int)×Int×Int×Int×Int)→Option ((List (Int×Int)×Int×Int) ⊕ (Int×Int)))(x3:qDU)(x8 x9:Int)(x0:List (Int×Int))(x1:Int)(x2:(Int×Int×Int))(x4:Int):Option ((List (Int×Int)×Int×Int) ⊕ (Int×Int)):=lbnd (zQ F x2.2.1 x3 x2.2.2 x9) (fun x5=>(idx x0 x1).bind fun _x247=>lett (x0.set x1.toNat (x4,iadd .i64 x5.1 x8)) fun x6=>(idx x6 x1).bind fun x7=>r13 (x6,iadd .i64 x4 (isub .i64 x7.2 1),iadd .i64 x1 1,x5.2.1,x5.2.2)) (fun x10=>some (.inr (x10.1,x10.2)))
def qaI (F:Nat)(x3:qDU)(x8 x9:Int)(x13:List (Int×Int))(r13:(List (Int×Int)×Int×Int×Int×Int)→Option ((List (Int×Int)×Int×Int) ⊕ (Int×Int)))(x0:List (Int×Int))(x1 x2 x4 x5:Int):Option ((List (Int×Int)×Int×Int) ⊕ (Int×Int)):=if decide (x2<(x13.length:Int)) then lbnd (zQ F x4 x3 x5 2097152) (fun x6=>if ((x2:Int) == 0) then (qaZ F (iconv .u64 x6.1)).bind fun x7=>yz F r13 x3 x8 x9 x0 x2 x6 (iadd .i64 x1 x7) else yz F r13 x3 x8 x9 x0 x2 x6 (iadd .i64 x1 (iadd .i64 x6.1 2))) (fun x10=>some (.inr (x10.1,x10.2))) else qdy F x0 x4 x5
def yA (F:Nat)(x3:qDU)(x8 x9:Int)(x13:List (Int×Int)):=lp fun r s=>qaI F x3 x8 x9 x13 r s.1 s.2.1 s.2.2.1 s.2.2.2.1 s.2.2.2.2
def qaH (F:Nat)(x2:Int)(x3:qDU)(x6 x7 x8 x9:Int):Option ((List (Int×Int)×Int×Int) ⊕ (Int×Int)):=chk ((x8:Int) != 0) (lbnd (zQ F x2 x3 x6 (iquo .i64 x9 x8)) (fun x11=>(mk 8796093022208 (((0:Int),(0:Int)):(Int×Int)) x11.1).bind fun x13=>yA F x3 x8 x9 x13 F (x13,x7,0,x11.2.1,x11.2.2)) (fun x12=>some (.inr (x12.1,x12.2))))
def jF (_F:Nat)(x15:qDU):Option (qDU):=some x15
def vX (F:Nat)(x1:qDU)(c3:Nat)(x4:Int):Option (qDU):=if decide (x4<0) then none else lett (isub .i64 x4 (isub .i64 (c3:Int) (x1.length:Int))) fun x16=>if decide (0<x16) then (sub x1 0 (c3:Int)).bind fun x17=>(appz 8796093022208 x17 (0:Int) x16).bind fun x18=>(sub x18 0 (x1.length:Int)).bind fun x21=>jF F x21 else jF F x1
def vK (_F:Nat)(x0:qDU):Option (qDU):=some x0
def qR (F:Nat)(x1:List (qDU))(r5:(qDU×Int)→Option (qDU))(x0:qDU)(x2:Int):Option (qDU):=if decide (x2<(x1.length:Int)) then (idx x1 x2).bind fun x3=>(app 8796093022208 x0 x3).bind fun x4=>r5 (x4,iadd .i64 x2 1) else vK F x0
def zS (F:Nat)(x1:List (qDU)):=lp fun r s=>qR F x1 r s.1 s.2
def kI (F:Nat)(x1:List (qDU))(x43:Int):Option (qDU):=(vX F ([]:qDU) 0 x43).bind fun x44=>zS F x1 F (x44,0)
def qS (F:Nat)(x1:List (qDU))(r6:(Int×Int)→Option (qDU))(x0 x2:Int):Option (qDU):=if decide (x2<(x1.length:Int)) then (idx x1 x2).bind fun x3=>if decide ((iadd .i64 x0 (x3.length:Int))<0) then none else r6 (iadd .i64 x0 (x3.length:Int),iadd .i64 x2 1) else kI F x1 x0
def zT (F:Nat)(x1:List (qDU)):=lp fun r s=>qS F x1 r s.1 s.2
def zR (F:Nat)(x1:List (qDU)):Option (qDU):=zT F x1 F (0,0)
def qb9 (_F:Nat)(x1 x2 x3:Int):Option Bool:=some (decide (x2≤x1) && decide (x1≤x3))
def qfP (_F:Nat)(x0:qDU):Option (qDU×Int):=some (x0,0)
def qbp (_F:Nat)(r32:(qDU×Int)→Option (qDU×Int))(x0:Int)(x1:qDU):Option (qDU×Int):=r32 (x1,iadd .i64 x0 1)
def qc7 (F:Nat)(r32:(qDU×Int)→Option (qDU×Int))(x0:Int)(x1:(Int×Int))(r35:(qDU×Int)→Option (qDU×Int))(x2:qDU)(x3:Int):Option (qDU×Int):=if decide (x3<x1.2) then (app 8796093022208 x2 ([iadd .i64 x1.1 x3]:qDU)).bind fun x4=>r35 (x4,iadd .i64 x3 1) else qbp F r32 x0 x2
def qc9 (F:Nat)(r32:(qDU×Int)→Option (qDU×Int))(x0:Int)(x1:(Int×Int)):=lp fun r s=>qc7 F r32 x0 x1 r s.1 s.2
def qc6 (F:Nat)(x1:List (Int×Int))(r32:(qDU×Int)→Option (qDU×Int))(x0:qDU)(x2:Int):Option (qDU×Int):=if decide (x2<(x1.length:Int)) then (idx x1 x2).bind fun x3=>qc9 F r32 x2 x3 F (x0,0) else qfP F x0
def ju (F:Nat)(x1:List (Int×Int)):=lp fun r s=>qc6 F x1 r s.1 s.2
def qbo (F:Nat)(x1:List (Int×Int)):Option (qDU×Int):=ju F x1 F (([]:qDU),0)
def jt (_F:Nat)(r44:(Int×Int)→Option (qDU×Int))(x0 x1:Int)(x2:(Int×Int))(x3:Bool):Option (qDU×Int):=if x3 then some (([]:qDU),3) else if decide (x2.1<(iadd .i64 x0 2)) then some (([]:qDU),4) else r44 (isub .i64 (iadd .i64 x2.1 x2.2) 1,iadd .i64 x1 1)
def qc8 (F:Nat)(x1:List (Int×Int))(r44:(Int×Int)→Option (qDU×Int))(x0 x2:Int):Option (qDU×Int):=if decide (x2<(x1.length:Int)) then (idx x1 x2).bind fun x3=>(qb9 F x3.1 0 1048576).bind fun x4=>if (!x4) then jt F r44 x0 x2 x3 (!x4) else (qb9 F x3.2 1 300).bind fun x5=>if (!x5) then jt F r44 x0 x2 x3 (!x5) else jt F r44 x0 x2 x3 (decide (1048576<(isub .i64 (iadd .i64 x3.1 x3.2) 1))) else qbo F x1
def qbq (F:Nat)(x1:List (Int×Int)):=lp fun r s=>qc8 F x1 r s.1 s.2
def qd0 (F:Nat)(x1:List (Int×Int)):Option (qDU×Int):=if decide (300<(x1.length:Int)) then some (([]:qDU),2) else qbq F x1 F (-2,0)
def qaS (F:Nat)(x4:qDU)(x7:(qDU×Int))(x12:Int):Option (qDU×Int):=if ((x12:Int) != 0) then some (([]:qDU),x12) else (zR F ([x7.1,x4]:List (qDU))).bind fun x16=>(zb F x16).bind fun x19=>chk (decide (x19.length=x16.length)) ((kP F x19).bind fun x29=>(zD F x29).bind fun x32=>if decide ((x32.length:Int)<(x19.length:Int)) then some (([]:qDU),6) else if decide (300<(x19.length:Int)) then some (([]:qDU),2) else some (x19,0))
def qeR (F:Nat)(x1:List (Int×Int))(x4:qDU):Option (qDU×Int):=(qd0 F x1).bind fun x7=>if ((x7.2:Int) == 0) then (jr F x4).bind fun x38=>qaS F x4 x7 x38 else qaS F x4 x7 x7.2
def kq (F:Nat)(x1:Int)(x2:qDU)(x5:Int)(x8:(Int×Int)):Option (Int×Int×Bool):=(je F x1 x2 x5 x8.1).bind fun x14=>some (isub .u64 x14.1 x8.2,iadd .i64 x5 x8.1,x14.2)
def zZ (F:Nat)(x1:Int)(x2:qDU)(x5 x6:Int):Option (Int×Int×Bool):=(qbD F x6).bind fun x8=>if decide (0<x8.2) then (je F x1 x2 x5 (isub .i64 x8.1 1)).bind fun x15=>if (!x15.2) then some (0,0,false) else if decide (x15.1<x8.2) then some (x15.1,isub .i64 (iadd .i64 x5 x8.1) 1,true) else kq F x1 x2 x5 x8 else kq F x1 x2 x5 x8
def qcV (_F:Nat)(x1 x2:Int)(x3:Bool):Option (Int×Int×Int):=if (!x3) then some (0,0,7) else if decide (1099511627776<x1) then some (0,0,3) else some (x1,x2,0)
def qbd (F:Nat)(x1:Int)(x2:qDU)(x5 x6:Int):Option (Int×Int×Int):=(qde F x1 x2 x5).bind fun x8=>if (!x8.2.2) then some (0,0,7) else if decide (41≤(imul .u64 x8.1 (iconv .u64 x6))) then some (0,0,3) else chk (decide (0≤(imul .i64 (iconv .i64 x8.1) x6))) (lett (ishl .u64 1 (imul .i64 (iconv .i64 x8.1) x6)) fun x12=>chk (decide (0≤x6)) ((zZ F x1 x2 x8.2.1 (isub .u64 (ishl .u64 x12 x6) x12)).bind fun x20=>(qcV F (isub .u64 (iadd .u64 x12 x20.1) 1) x20.2.1 x20.2.2).bind fun x21=>some (x21.1,x21.2.1,x21.2.2)))
def yK (F:Nat)(x8:Int):Option (Bool×Int×Bool):=(qef F x8).bind fun x9=>some (x9,x8,true)
def ya (F:Nat)(x2:Int)(x3:Bool)(x4:Int):Option (Bool×Int×Bool):=if decide (2097152<x4) then some (false,x2,x3) else if x3 then yK F (iadd .i64 x2 (iadd .i64 (iconv .i64 x4) 1)) else (qaZ F x4).bind fun x10=>yK F (iadd .i64 x2 x10)
def qfl (_F:Nat)(x0:Int)(x1:qDU):Option (qDU×Int×Int):=some (x1,x0,0)
def qfk (F:Nat)(x1:Int)(x2:qDU)(x7 x8:Int)(r3:(Int×qDU×Int×Int×Bool)→Option (qDU×Int×Int))(x0:Int)(x3:qDU)(x4 x5:Int)(x6:Bool):Option (qDU×Int×Int):=if decide (x4<x8) then (qbd F x1 x2 x0 x7).bind fun x9=>if ((x9.2.2:Int) != 0) then some (([]:qDU),0,x9.2.2) else (ya F x5 x6 x9.1).bind fun x10=>if (!x10.1) then some (([]:qDU),0,3) else (app 8796093022208 x3 ([x10.2.1]:qDU)).bind fun x11=>r3 (x9.2.1,x11,iadd .i64 x4 1,x10.2.1,x10.2.2) else qfl F x0 x3
def qfm (F:Nat)(x1:Int)(x2:qDU)(x7 x8:Int):=lp fun r s=>qfk F x1 x2 x7 x8 r s.1 s.2.1 s.2.2.1 s.2.2.2.1 s.2.2.2.2
def qfJ (F:Nat)(x1:Int)(x2:qDU)(x5 x6 x7 x8:Int):Option (qDU×Int×Int):=qfm F x1 x2 x7 x8 F (x5,([]:qDU),0,x6,false)
def yN (F:Nat)(x3:qDU)(x7 x13:Int)(x15:(Int×Int×Int))(x31:qDU)(x42:List (Int×Int))(x43 x44:Int):Option ((qDU×Int×Int) ⊕ (Int×Int)):=(qeR F x42 ([]:qDU)).bind fun x45=>lbnd (yE F (((x45.2:Int) == 0) && decide ((x45.1.length:Int)≤(isub .i64 x15.1 (x31.length:Int))))) (fun _x49=>(qfJ F x43 x3 x44 x7 x13 (isub .i64 (isub .i64 x15.1 (x31.length:Int)) (x45.1.length:Int))).bind fun x54=>lbnd (yE F ((x54.2.2:Int) == 0)) (fun _x57=>(zR F ([x31,x45.1,x54.1]:List (qDU))).bind fun x61=>(zb F x61).bind fun x64=>chk (decide (x64.length=x61.length)) (some (.inl (x64,x43,x54.2.1)))) (fun _x58=>some (.inr (x43,x44)))) (fun _x50=>some (.inr (x43,x44)))
def yM (F:Nat)(x3:qDU)(x7 x12 x13:Int)(x15:(Int×Int×Int))(x31:qDU)(x32 x33:Int):Option ((qDU×Int×Int) ⊕ (Int×Int)):=if (((isub .i64 x15.1 (x31.length:Int)):Int) == 0) then some (.inl (x31,x32,x33)) else if decide (0<x12) then lbnd (qaH F x32 x3 x33 x7 x12 (isub .i64 x15.1 (x31.length:Int))) (fun x66=>yN F x3 x7 x13 x15 x31 x66.1 x66.2.1 x66.2.2) (fun x67=>some (.inr (x67.1,x67.2))) else yN F x3 x7 x13 x15 x31 ([]:List (Int×Int)) x32 x33
def vO (F:Nat)(x2:Int)(x3:qDU)(x6 x7:Int)(x8:qDU)(x11 x12 x13:Int):Option ((qDU×Int×Int) ⊕ (Int×Int)):=lbnd (zQ F x2 x3 x6 300) (fun x15=>if ((x15.1:Int) == 0) then some (.inl (([]:qDU),x15.2.1,x15.2.2)) else if decide (0<x11) then lbnd (jx F x15.2.1 x3 x15.2.2 (x8.length:Int)) (fun x72=>(qeQ F x8 x72.1).bind fun x76=>lbnd (yE F (((x76.2:Int) == 0) && decide ((x76.1.length:Int)≤x15.1))) (fun _x80=>yM F x3 x7 x12 x13 x15 x76.1 x72.2.1 x72.2.2) (fun _x81=>some (.inr (x72.2.1,x72.2.2)))) (fun x73=>some (.inr (x73.1,x73.2))) else yM F x3 x7 x12 x13 x15 ([]:qDU) x15.2.1 x15.2.2) (fun x16=>some (.inr (x16.1,x16.2)))
def qdx (_F:Nat)(x17:(qDU×Int×Int)):Option (qDU×Bool×Int×Int):=some (x17.1,true,x17.2.1,x17.2.2)
def qa6 (F:Nat)(x3:qDU)(x6:Int)(x17:(qDU×Int×Int))(x25:(Int×qDU×Bool))(r4:Int→Option (qDU×Bool×Int×Int))(x75:Int):Option (qDU×Bool×Int×Int):=if decide (x75<x25.1) then (qa1 F x25.1 x25.2.1 x75).bind fun x92=>(qa1 F x17.2.1 x3 (iadd .i64 x6 x75)).bind fun x93=>lbnd (yE F ((x92:Int) == x93)) (fun _x94=>r4 (iadd .i64 x75 1)) (fun _x95=>some (([]:qDU),false,x17.2.1,x17.2.2)) else qdx F x17
def yO (F:Nat)(x3:qDU)(x6:Int)(x17:(qDU×Int×Int))(x25:(Int×qDU×Bool)):=lp fun r s=>qa6 F x3 x6 x17 x25 r s
def vZ (F:Nat)(x3:qDU)(x6:Int)(x17:(qDU×Int×Int))(x25:(Int×qDU×Bool)):Option (qDU×Bool×Int×Int):=yO F x3 x6 x17 x25 F 0
def vP (F:Nat)(x2:Int)(x3:qDU)(x6 x7:Int)(x8:qDU)(x11 x12 x13:Int):Option (qDU×Bool×Int×Int):=lbnd (vO F x2 x3 x6 x7 x8 x11 x12 x13) (fun x17=>(jr F x17.1).bind fun x21=>lbnd (yE F ((x21:Int) == 0)) (fun _x22=>(vQ F 0 ([]:qDU) false x7 x17.1 x8 x11 x12 x13).bind fun x25=>if (!x25.2.2) then lbnd (yE F ((x25.1:Int) == (isub .i64 x17.2.2 x6))) (fun _x98=>vZ F x3 x6 x17 x25) (fun _x99=>some (([]:qDU),false,x17.2.1,x17.2.2)) else lbnd (yE F false) (fun _x100=>vZ F x3 x6 x17 x25) (fun _x101=>some (([]:qDU),false,x17.2.1,x17.2.2))) (fun _x23=>some (([]:qDU),false,x17.2.1,x17.2.2))) (fun x18=>some (([]:qDU),false,x18.1,x18.2))
def qap (F:Nat)(x1:Int)(x2:qDU)(x5 x6:Int)(x7:qDU)(x10 x11 x12:Int):Option (qDU×Int×Int):=(vP F x1 x2 x5 x6 x7 x10 x11 x12).bind fun x16=>if (!x16.2.1) then some (([]:qDU),0,1) else some (x16.1,x16.2.2.2,0)
def qeD (_F:Nat)(x5:Int)(x0:List (qDU))(x1:Int):Option (List (qDU)×Bool):=some (x0,((x1:Int) == x5))
def qaP (_F:Nat)(r8:(List (qDU)×Int×Int)→Option (List (qDU)×Bool))(x0:Int)(x1:List (qDU))(x2:Int):Option (List (qDU)×Bool):=r8 (x1,x2,iadd .i64 x0 1)
def qeC (F:Nat)(x1 x2 x3 x4 x5:Int)(x6:qDU)(r8:(List (qDU)×Int×Int)→Option (List (qDU)×Bool))(x0:List (qDU))(x7 x8:Int):Option (List (qDU)×Bool):=if decide (x8<x1) then (qfo F x1 x2 x3 x4 x5 x6 x7 x8).bind fun x9=>if (!x9.2.2) then some (([]:List (qDU)),false) else if decide (0<x9.1) then (idx x0 (isub .i64 x8 x9.1)).bind fun x10=>(qap F x5 x6 x9.2.1 x8 x10 x9.1 x3 x4).bind fun x11=>if ((x11.2.2:Int) != 0) then some (([]:List (qDU)),false) else (app 2199023255552 x0 ([x11.1]:List (qDU))).bind fun x12=>qaP F r8 x8 x12 x11.2.1 else (qap F x5 x6 x9.2.1 x8 ([]:qDU) x9.1 x3 x4).bind fun x13=>if ((x13.2.2:Int) != 0) then some (([]:List (qDU)),false) else (app 2199023255552 x0 ([x13.1]:List (qDU))).bind fun x14=>qaP F r8 x8 x14 x13.2.1 else qeD F x5 x0 x7
def qaQ (F:Nat)(x1 x2 x3 x4 x5:Int)(x6:qDU):=lp fun r s=>qeC F x1 x2 x3 x4 x5 x6 r s.1 s.2.1 s.2.2
def qgM (F:Nat)(x1 x2 x3 x4 x5:Int)(x6:qDU):Option (List (qDU)×Bool):=qaQ F x1 x2 x3 x4 x5 x6 F (([]:List (qDU)),0,0)
def qbr (_F:Nat):Option Bool:=some true
def ky (F:Nat)(x1 x4:qDU)(r3:Int→Option Bool)(x0:Int):Option Bool:=if decide (x0<(x1.length:Int)) then (idx x1 x0).bind fun x2=>(idx x4 x0).bind fun x3=>if ((x2:Int) != x3) then some false else r3 (iadd .i64 x0 1) else qbr F
def kz (F:Nat)(x1 x4:qDU):=lp fun r s=>ky F x1 x4 r s
def q8 (F:Nat)(x1 x4:qDU):Option Bool:=if (((x1.length:Int):Int) != (x4.length:Int)) then some false else kz F x1 x4 F 0
def qc2 (_F:Nat)(x14:(List (qDU)×Bool))(x34:Bool):Option (List (qDU)×Int):=if x34 then some (([]:List (qDU)),1) else some (x14.1,0)
def qfM (F:Nat)(x1 x2 x3 x4 x5:Int)(x6:qDU):Option (List (qDU)×Int):=(qeP F x1 x2 x3 x4 x5 x6).bind fun x13=>if ((x13:Int) != 0) then some (([]:List (qDU)),x13) else (qgM F x1 x2 x3 x4 x5 x6).bind fun x14=>if (!x14.2) then some (([]:List (qDU)),1) else (qbS F x14.1 x2 x3 x4).bind fun x28=>if ((x28.2.2.2.2.2.2:Int) != 0) then qc2 F x14 true else (q8 F x28.2.2.2.2.2.1 x6).bind fun x36=>qc2 F x14 (!x36)
def qcs (_F:Nat)(x34:Bool):Option Bool:=some x34
def qcr (F:Nat)(x9 x20:qDU)(x31:Bool):Option Bool:=if x31 then (q8 F x9 x20).bind fun x35=>qcs F x35 else qcs F false
def qeS (F:Nat)(x1 x2 x3 x4:Int)(x5:qDU)(x8:Int)(x9:qDU)(x12 x13 x14 x15:Int)(x16:qDU)(x19:Int)(x20:qDU):Option Bool:=if ((((((x1:Int) == x12) && ((x2:Int) == x13)) && ((x3:Int) == x14)) && ((x4:Int) == x15)) && ((x8:Int) == x19)) then (q8 F x5 x16).bind fun x36=>qcr F x9 x20 x36 else qcr F x9 x20 false
def qeH (F:Nat)(x1:List (qDU))(x4 x5 x6 x7 x8:Int)(x9:qDU):Option (Int×Int×Int×Int×Int×qDU×Int×Int×Int×Int×qDU×Int×qDU×Int):=(qeg F x1 x5 x6 x7).bind fun x15=>if ((x15.2.2:Int) != 0) then some (0,0,0,0,0,([]:qDU),0,0,0,0,([]:qDU),0,([]:qDU),x15.2.2) else (qcO F x15.2.1 x8).bind fun x21=>if ((x21.2.2.2.2.2.2.2:Int) != 0) then some (0,0,0,0,0,([]:qDU),0,0,0,0,([]:qDU),0,([]:qDU),x21.2.2.2.2.2.2.2) else some (x4,x5,x6,x7,x8,x9,x21.1,x21.2.1,x21.2.2.1,x21.2.2.2.1,x21.2.2.2.2.1,x21.2.2.2.2.2.1,x21.2.2.2.2.2.2.1,0)
def j6 (_F:Nat)(x49:Bool):Option Int:=if x49 then some 4 else some 0
def qd2 (F:Nat)(x1 x2 x3 x4 x5:Int)(x6:qDU)(x9 x10 x11 x12:Int)(x13:qDU)(x16:Int)(x17:qDU):Option Int:=(qfM F x1 x2 x3 x4 x5 x6).bind fun x21=>if ((x21.2:Int) != 0) then some x21.2 else (qeH F x21.1 x1 x2 x3 x4 x5 x6).bind fun x39=>if ((x39.2.2.2.2.2.2.2.2.2.2.2.2.2:Int) != 0) then j6 F true else (qeS F x39.2.2.2.2.2.2.1 x39.2.2.2.2.2.2.2.1 x39.2.2.2.2.2.2.2.2.1 x39.2.2.2.2.2.2.2.2.2.1 x39.2.2.2.2.2.2.2.2.2.2.1 x39.2.2.2.2.2.2.2.2.2.2.2.1 x39.2.2.2.2.2.2.2.2.2.2.2.2.1 x9 x10 x11 x12 x13 x16 x17).bind fun x51=>j6 F (!x51)
def qdZ (_F:Nat)(_x1:Int)(_x2:qDU)(_x5:Int):Option Unit:=some ()
def yb {σ τ:Type}(_F:Nat)(_yy:σ→Int→Option (σ ⊕ τ))(r3:(Int×σ)→Option (σ ⊕ τ))(x36:Int)(x81:σ):Option (σ ⊕ τ):=r3 (iadd .i64 x36 1,x81)
def yU {σ τ:Type}(F:Nat)(yy:σ→Int→Option (σ ⊕ τ))(x2:Int)(x3:qDU)(x7:Int)(r3:(Int×σ)→Option (σ ⊕ τ))(x36:Int)(x37:σ):Option (σ ⊕ τ):=if decide (x36<x2) then (qa1 F x2 x3 x36).bind fun x89=>if ((x89:Int) == x7) then (yy x37 x36).bind (Sum.elim (fun x91=>yb F yy r3 x36 x91) (fun x92=>some (.inr x92))) else yb F yy r3 x36 x37 else some (.inl x37)
def zr {σ τ:Type}(F:Nat)(yy:σ→Int→Option (σ ⊕ τ))(x2:Int)(x3:qDU)(x7:Int):=lp fun r s=>yU F yy x2 x3 x7 r s.1 s.2
def qcq {σ τ:Type}(F:Nat)(yy:σ→Int→Option (σ ⊕ τ))(x2:Int)(x3:qDU)(x7:Int)(s0:σ):Option (σ ⊕ τ):=zr F yy x2 x3 x7 F (0,s0)
def zd (_F:Nat)(x31 x37:Int):Option (Int ⊕ (Int×Int)):=if ((x31:Int) == 0) then some (.inr (x37,x31)) else some (.inl (isub .i64 x31 1))
def qaD (F:Nat)(x1:Int)(x2:qDU)(x5 x6:Int):Option Int:=(qdZ F x1 x2 x5).bind fun _x25=>(qcq F (fun (x31:Int) (x37:Int)=>zd F x31 x37) x1 x2 x5 x6).bind (Sum.elim (fun (_x31:Int)=>some (-1)) (fun ((x35,_x36):(Int×Int))=>some x35))
def qbO (F:Nat)(_x1 _x2 x3 x4:Int)(x5:qDU)(x8:Int)(x9:qDU)(x12:Int):Option Int:=(qaD F x8 x9 1 x12).bind fun x14=>(je F x4 x5 (imul .i64 x12 x3) x3).bind fun x15=>chk (decide (0≤x3)) (lett (ior .i64 (ishl .i64 (isub .i64 x14 x12) x3) (iconv .i64 x15.1)) fun x17=>some x17)
def qcT (_F:Nat)(x13:Bool):Option Bool:=some x13
def qee (F:Nat)(x1:Int)(x2:qDU)(x5:Int)(x6:qDU):Option Bool:=if ((x1:Int) == x5) then (q8 F x2 x6).bind fun x14=>qcT F x14 else qcT F false
def qcR (_F:Nat)(x99:qDU)(x0:Bool):Option (qDU×Int):=if x0 then some (([]:qDU),1) else some (x99,0)
def qbb (F:Nat)(x8:Int)(x9 x99:qDU)(x0:(Int×Int×Int×Int×qDU×Int×qDU×Bool))(x1:Bool):Option (qDU×Int):=if x1 then qcR F x99 true else (qee F x0.2.2.2.2.2.1 x0.2.2.2.2.2.2.1 x8 x9).bind fun x2=>qcR F x99 (!x2)
def vg (F:Nat)(x2 x4:Int)(x5:qDU)(x8:Int)(x9 x99:qDU):Option (qDU×Int):=(qcP F x99 x2).bind fun x0=>if ((x0:Int) != 0) then some (([]:qDU),1) else (qfj F x99 x2).bind fun x1=>if (!x1.2.2.2.2.2.2.2) then qbb F x8 x9 x99 x1 true else (qee F x1.2.2.2.1 x1.2.2.2.2.1 x4 x5).bind fun x3=>qbb F x8 x9 x99 x1 (!x3)
def qcQ (F:Nat)(x1 x2 x3 x4:Int)(x5:qDU)(x8:Int)(x9:qDU)(r9:(qDU×Int)→Option (qDU×Int))(x0:qDU)(x6:Int):Option (qDU×Int):=if decide (x6<x1) then (qbO F x1 x2 x3 x4 x5 x8 x9 x6).bind fun x7=>(app 8796093022208 x0 ([x7]:qDU)).bind fun x10=>r9 (x10,iadd .i64 x6 1) else vg F x2 x4 x5 x8 x9 x0
def qcS (F:Nat)(x1 x2 x3 x4:Int)(x5:qDU)(x8:Int)(x9:qDU):=lp fun r s=>qcQ F x1 x2 x3 x4 x5 x8 x9 r s.1 s.2
def zX (F:Nat)(x1 x2 x3 x4:Int)(x5:qDU)(x8:Int)(x9:qDU)(x49:Bool):Option (qDU×Int):=if x49 then some (([]:qDU),1) else qcS F x1 x2 x3 x4 x5 x8 x9 F (([]:qDU),0)
def j3 (F:Nat)(x1 x2 x3 x4:Int)(x5:qDU)(x8:Int)(x9:qDU):Option (qDU×Int):=if (((decide (x1<0) || decide (300<x1)) || decide (x2<0)) || decide (1048576<x2)) then some (([]:qDU),3) else (qcU F x1 x2).bind fun x0=>if ((x3:Int) != x0) then zX F x1 x2 x3 x4 x5 x8 x9 true else (qbL F x4 x5).bind fun x6=>if ((x6:Int) != 0) then zX F x1 x2 x3 x4 x5 x8 x9 true else (qbL F x8 x9).bind fun x7=>if ((x7:Int) != 0) then zX F x1 x2 x3 x4 x5 x8 x9 true else if ((x4:Int) != (imul .i64 x1 x3)) then zX F x1 x2 x3 x4 x5 x8 x9 true else (qaD F x8 x9 1 (isub .i64 x1 1)).bind fun x10=>if decide (x10<0) then zX F x1 x2 x3 x4 x5 x8 x9 (decide (0<x1)) else zX F x1 x2 x3 x4 x5 x8 x9 false
def qeN (F:Nat)(x1 x2 x3 x4:Int)(x5:qDU)(x8:Int)(x9:qDU):Option Int:=(j3 F x1 x2 x3 x4 x5 x8 x9).bind fun x13=>some x13.2
def qdS (F:Nat)(x1 x2 x3 x4:Int)(x5:qDU)(x8:Int)(x9:qDU)(x12 x20:Int):Option (Int×Int):=if ((x20:Int) != 0) then some (0,x20) else (qbO F x1 x2 x3 x4 x5 x8 x9 x12).bind fun x22=>some (x22,0)
def qdT (F:Nat)(x1 x2 x3 x4:Int)(x5:qDU)(x8:Int)(x9:qDU)(x12 x14:Int)(x26:Bool):Option (Int×Int):=if x26 then qdS F x1 x2 x3 x4 x5 x8 x9 x12 3 else qdS F x1 x2 x3 x4 x5 x8 x9 x12 x14
def qfi (F:Nat)(x1 x2 x3 x4:Int)(x5:qDU)(x8:Int)(x9:qDU)(x12:Int):Option (Int×Int):=(qeN F x1 x2 x3 x4 x5 x8 x9).bind fun x14=>if ((x14:Int) == 0) then qdT F x1 x2 x3 x4 x5 x8 x9 x12 x14 (decide (x12<0) || decide (x1≤x12)) else qdT F x1 x2 x3 x4 x5 x8 x9 x12 x14 false
def yp (F:Nat)(x7:qDU)(x22:Int)(x24:(Int×Int×Bool))(x31:qDU)(x32 x33 x34 x35 x36 x37 x38 x39 x40 x41 x42:Int):Option (qDU×Int×Int×Int×Int×Int×Int×Int×Int×Int×Int×Int):=(qap F x36 x7 x24.2.1 x22 x31 x24.1 x34 x35).bind fun x47=>some (x47.1,x32,x33,x34,x35,x36,x37,x38,x39,x40,x41,x42)
def yC:Nat→Int→Int→Int→Int→Int→(qDU)→Int→Int→Int→Int→(qDU)→Int→(qDU)→Int→Int→Option (qDU×Int×Int×Int×Int×Int×Int×Int×Int×Int×Int×Int)
  | 0=>fun _ _ _ _ _ _ _ _ _ _ _ _ _ _ _=>none
  | F+1=>fun x2 x3 x4 x5 x6 x7 x10 x11 x12 x13 x14 x17 x18 x21 x22 =>
    let self:=yC F
    ((qfi F x10 x11 x12 x13 x14 x17 x18 x22).bind fun x23=>((qfo F x2 x3 x4 x5 x6 x7 x23.1 x22).bind fun x24=>(if (decide (0<x24.1)) then ((self x2 x3 x4 x5 x6 x7 x10 x11 x12 x13 x14 x17 x18 (iadd .i64 x21 1) (isub .i64 x22 x24.1)).bind fun x50=>yp F x7 x22 x24 x50.1 x50.2.1 x50.2.2.1 x50.2.2.2.1 x50.2.2.2.2.1 x50.2.2.2.2.2.1 x50.2.2.2.2.2.2.1 x50.2.2.2.2.2.2.2.1 x50.2.2.2.2.2.2.2.2.1 x50.2.2.2.2.2.2.2.2.2.1 x50.2.2.2.2.2.2.2.2.2.2.1 x50.2.2.2.2.2.2.2.2.2.2.2) else yp F x7 x22 x24 ([]:qDU) x2 x3 x4 x5 x6 x10 x11 x12 x13 x17 (iadd .i64 x21 1))))
def qaT (F:Nat)(x1 x2 x3 x4 x5:Int)(x6:qDU)(x9 x10 x11 x12:Int)(x13:qDU)(x16:Int)(x17:qDU)(x20 x28:Int):Option (qDU×Int×Int):=if ((x28:Int) != 0) then some (([]:qDU),0,x28) else (yC F x1 x2 x3 x4 x5 x6 x9 x10 x11 x12 x13 x16 x17 0 x20).bind fun x31=>some (x31.1,x31.2.2.2.2.2.2.2.2.2.2.2,0)
def qaU (F:Nat)(x1 x2 x3 x4 x5:Int)(x6:qDU)(x9 x10 x11 x12:Int)(x13:qDU)(x16:Int)(x17:qDU)(x20 x22:Int)(x37:Bool):Option (qDU×Int×Int):=if x37 then qaT F x1 x2 x3 x4 x5 x6 x9 x10 x11 x12 x13 x16 x17 x20 3 else qaT F x1 x2 x3 x4 x5 x6 x9 x10 x11 x12 x13 x16 x17 x20 x22
def qbT (F:Nat)(x1 x2 x3 x4 x5:Int)(x6:qDU)(x9 x10 x11 x12:Int)(x13:qDU)(x16:Int)(x17:qDU)(x20:Int):Option (qDU×Int×Int):=(qd2 F x1 x2 x3 x4 x5 x6 x9 x10 x11 x12 x13 x16 x17).bind fun x22=>if ((x22:Int) == 0) then qaU F x1 x2 x3 x4 x5 x6 x9 x10 x11 x12 x13 x16 x17 x20 x22 (decide (x20<0) || decide (x1≤x20)) else qaU F x1 x2 x3 x4 x5 x6 x9 x10 x11 x12 x13 x16 x17 x20 x22 false
def qbA (_F:Nat)(x82:List (qDU)):Option (qDU):=(joinM x82 ([32]:qDU)).bind fun x83=>some x83
def qbz (F:Nat)(x12:qDU)(r3:(List (qDU)×Int)→Option (qDU))(x0:List (qDU))(x1:Int):Option (qDU):=if decide (x1<(x12.length:Int)) then (idx x12 x1).bind fun x2=>(itoaC x2).bind fun x3=>(app 4398046511104 x0 ([x3]:List (qDU))).bind fun x4=>r3 (x4,iadd .i64 x1 1) else qbA F x0
def qbB (F:Nat)(x12:qDU):=lp fun r s=>qbz F x12 r s.1 s.2
def jp (F:Nat)(_x2:List (qDU))(_x5 _x6 _x7:Int)(_x8 _x11 x12:qDU):Option (qDU):=qbB F x12 F (([]:List (qDU)),0)
def qbx (F:Nat)(x2:List (qDU))(x5 x6 x7:Int)(x8 x11:qDU)(x29 x30 x31 x32 x33 x34:Int)(x37:qDU)(x38 x39 x40 x41:Int)(x44:qDU)(x45:Int)(x48:qDU):Option (Int×qDU):=if ((x29:Int) != 0) then some (x29,x11) else (idx x8 0).bind fun x57=>(qbT F x30 x31 x32 x33 x34 x37 x38 x39 x40 x41 x44 x45 x48 x57).bind fun x61=>(jp F x2 x5 x6 x7 x8 x11 x61.1).bind fun x64=>some (x61.2.2,x64)
def qba (F:Nat)(x2:List (qDU))(x5 x6 x7:Int)(x8 x11:qDU):Option (Int×qDU):=(qd1 F x2 x5 x6 x7).bind fun x66=>qbx F x2 x5 x6 x7 x8 x11 x66.2.2.2.2.2.2.2.2.2.2.2.2.2 x66.1 x66.2.1 x66.2.2.1 x66.2.2.2.1 x66.2.2.2.2.1 x66.2.2.2.2.2.1 x66.2.2.2.2.2.2.1 x66.2.2.2.2.2.2.2.1 x66.2.2.2.2.2.2.2.2.1 x66.2.2.2.2.2.2.2.2.2.1 x66.2.2.2.2.2.2.2.2.2.2.1 x66.2.2.2.2.2.2.2.2.2.2.2.1 x66.2.2.2.2.2.2.2.2.2.2.2.2.1
def qfu (_F:Nat)(x1:Int)(x3:List (qDU)):Option Bool:=some (decide (x1<0) || decide ((x3.length:Int)≤x1))
def yw (_F:Nat):Option Int:=some (-1)
def kd (F:Nat)(x1:qDU)(x5:List (qDU))(r3:Int→Option Int)(x58:Int):Option Int:=if decide (x58<(x1.length:Int)) then (idx x1 x58).bind fun x78=>(qfu F x78 x5).bind fun x81=>if x81 then some x58 else r3 (iadd .i64 x58 1) else yw F
def ke (F:Nat)(x1:qDU)(x5:List (qDU)):=lp fun r s=>kd F x1 x5 r s
def kE (F:Nat)(x1:qDU)(x5:List (qDU)):Option Int:=ke F x1 x5 F 0
def ka (F:Nat)(x1:qDU)(x5:List (qDU)):Option Bool:=(kE F x1 x5).bind fun x8=>some (decide (0≤x8))
def qdf (F:Nat)(x1:List (qDU))(x4:qDU):Option Int:=(kM F x1).bind fun x10=>if ((x10:Int) != 0) then some x10 else (ka F x4 x1).bind fun x13=>if x13 then some 3 else some 0
def qht (_F:Nat)(x0:qDU):Option (qDU):=some x0
def qdg (_F:Nat)(r48:(qDU×qDU)→Option (qDU))(x0 x1:qDU):Option (qDU):=(sub x1 1 (x1.length:Int)).bind fun x2=>r48 (x0,x2)
def qbH (_F:Nat)(r56:(qDU×qDU×Int)→Option (qDU))(x0:Int)(x1 x2:qDU):Option (qDU):=r56 (x1,x2,iadd .i64 x0 1)
def qbG (F:Nat)(r48:(qDU×qDU)→Option (qDU))(x0:Int)(x1:qDU)(r56:(qDU×qDU×Int)→Option (qDU))(x2 x3:qDU)(x4:Int):Option (qDU):=if decide (x4<(x1.length:Int)) then (idx x1 x4).bind fun x5=>(idx x2 x5).bind fun x6=>if decide (x6<0) then (idx x2 x0).bind fun x7=>(idx x2 x5).bind fun _x2035=>lett (x2.set x5.toNat (iadd .i64 x7 1)) fun x8=>(app 8796093022208 x3 ([x5]:qDU)).bind fun x9=>qbH F r56 x4 x8 x9 else qbH F r56 x4 x2 x3 else qdg F r48 x2 x3
def vS (F:Nat)(r48:(qDU×qDU)→Option (qDU))(x0:Int)(x1:qDU):=lp fun r s=>qbG F r48 x0 x1 r s.1 s.2.1 s.2.2
def qfv (F:Nat)(x1:List (qDU))(r48:(qDU×qDU)→Option (qDU))(x0 x2:qDU):Option (qDU):=if decide (0<(x2.length:Int)) then (idx x2 0).bind fun x3=>(idx x1 x3).bind fun x4=>vS F r48 x3 x4 F (x0,x2,0) else qht F x0
def vR (F:Nat)(x1:List (qDU)):=lp fun r s=>qfv F x1 r s.1 s.2
def qcz (F:Nat)(x1:List (qDU))(x4:Int):Option (qDU):=(yf F ([-1]:qDU) (x1.length:Int)).bind fun x8=>(idx x8 x4).bind fun _x11=>lett (x8.set x4.toNat 0) fun x14=>vR F x1 F (x14,([x4]:qDU))
def qk1 (F:Nat)(x1:List (qDU))(x4:Int):Option (qDU×Int):=(qdf F x1 ([x4]:qDU)).bind fun x12=>if ((x12:Int) != 0) then some (([]:qDU),x12) else (qcz F x1 x4).bind fun x13=>some (x13,0)
def qb1 (_F:Nat)(x26:(qDU×Int))(x43:qDU):Option (Int×qDU):=some (x26.2,x43)
def qgp (F:Nat)(x2:List (qDU))(x5 x6 x7:Int)(x8 x11:qDU):Option (Int×qDU):=(k9 F x2 x5 x6 x7 x8 x11 x8).bind fun x14=>if (!x14) then some (3,x11) else (idx x8 0).bind fun x22=>(qk1 F x2 x22).bind fun x26=>(idx x8 1).bind fun x44=>(idx x26.1 x44).bind fun x47=>(itoaC x47).bind fun x50=>(idx x8 1).bind fun x51=>(idx x26.1 x51).bind fun x54=>if decide (x54<0) then qb1 F x26 ([110,111,110,101]:qDU) else qb1 F x26 x50
def qfK (_F:Nat)(x47:List (Int×Int))(x56 x57:Int):Option (List (Int×Int) ⊕ Empty):=(app 4398046511104 x47 ([(x57,x56)]:List (Int×Int))).bind fun x61=>some (.inl x61)
def qc1 (F:Nat)(x1:List (qDU)):Option (List (Int×Int)):=(qao F x1).bind fun _x35=>(jE F (fun (x47:List (Int×Int)) ((x56,x57):(Int×Int))=>qfK F x47 x56 x57) x1 ([]:List (Int×Int))).bind (Sum.elim (fun (x47:List (Int×Int))=>some x47) (fun t=>t.elim))
def qeO (F:Nat)(x1:List (qDU)):Option (List (qDU)×Int):=(kM F x1).bind fun x8=>if ((x8:Int) != 0) then some (([]:List (qDU)),x8) else (qc1 F x1).bind fun x20=>(zJ F x20).bind fun _x23=>(ql F x20).bind fun x25=>(qb5 F (x1.length:Int) x25).bind fun x28=>some (x28,0)
def qgP (_F:Nat)(x1:Int)(x3:qDU)(x7:Int):Option Bool:=(idx x3 x1).bind fun x16=>(idx x3 x7).bind fun x20=>some ((x16:Int) == (isub .i64 x20 1))
def yL (_F:Nat):Option Int:=some (-1)
def ku (F:Nat)(x1 x5:qDU)(x9:Int)(r3:Int→Option Int)(x60:Int):Option Int:=if decide (x60<(x1.length:Int)) then (idx x1 x60).bind fun x80=>(qgP F x80 x5 x9).bind fun x83=>if x83 then some x60 else r3 (iadd .i64 x60 1) else yL F
def kv (F:Nat)(x1 x5:qDU)(x9:Int):=lp fun r s=>ku F x1 x5 x9 r s
def kQ (F:Nat)(x1 x5:qDU)(x9:Int):Option Int:=kv F x1 x5 x9 F 0
def qgd (_F:Nat)(x0:qDU):Option (qDU×Int):=some (x0,0)
def qcb (F:Nat)(x1:List (qDU))(x5:Int)(x18:qDU)(r3:(qDU×Int)→Option (qDU×Int))(x0:qDU)(x2:Int):Option (qDU×Int):=if ((x2:Int) != x5) then (idx x1 x2).bind fun x3=>(kQ F x3 x18 x2).bind fun x4=>(idx x1 x2).bind fun x6=>(idx x6 x4).bind fun x7=>(app 8796093022208 x0 ([x7]:qDU)).bind fun x8=>r3 (x8,x7) else qgd F x0
def qd3 (F:Nat)(x1:List (qDU))(x5:Int)(x18:qDU):=lp fun r s=>qcb F x1 x5 x18 r s.1 s.2
def qgO (F:Nat)(x1:List (qDU))(x4 x5:Int):Option (qDU×Int):=(qdf F x1 ([x4,x5]:qDU)).bind fun x13=>if ((x13:Int) != 0) then some (([]:qDU),x13) else (qeO F x1).bind fun x14=>(qcz F x14.1 x5).bind fun x18=>(idx x18 x4).bind fun x26=>if decide (x26<0) then some (([]:qDU),5) else qd3 F x1 x5 x18 F (([x4]:qDU),x4)
def vU (_F:Nat)(x19:Int)(x20:qDU):Option (Int×qDU):=some (x19,x20)
def vH (F:Nat)(x2:List (qDU))(x5 x6 x7:Int)(x8 x11 x12:qDU)(x15 x16:Int):Option (Int×qDU):=(jp F x2 x5 x6 x7 x8 x11 x12).bind fun x21=>if ((x15:Int) == x16) then vU F 0 ([110,111,110,101]:qDU) else vU F x15 x21
def qbN (F:Nat)(x2:List (qDU))(x5 x6 x7:Int)(x8 x11:qDU):Option (Int×qDU):=(idx x8 0).bind fun x23=>(idx x8 1).bind fun x27=>(qgO F x2 x23 x27).bind fun x31=>(vH F x2 x5 x6 x7 x8 x11 x31.1 x31.2 5).bind fun x34=>some (x34.1,x34.2)
def kF (F:Nat)(x3:List (qDU))(x6 x7 x8:Int)(x9 x12:qDU):Option (Int×qDU):=(idx x9 0).bind fun x36=>(k9 F x3 x6 x7 x8 x9 x12 ([x36]:qDU)).bind fun x42=>if (!x42) then some (3,x12) else (qdb F x3).bind fun x46=>(idx x9 0).bind fun x58=>(idx x46.1 x58).bind fun x62=>(itoaC x62).bind fun x66=>some (x46.2,x66)
def vJ (_F:Nat)(x0 x1:qDU)(x2 x3:Int):Option ((qDU×qDU) ⊕ Empty):=(idx x1 x2).bind fun x4=>(idx x1 x2).bind fun _x150=>lett (x1.set x2.toNat (iadd .i64 x4 1)) fun x5=>(idx x0 x3).bind fun x6=>(idx x0 x3).bind fun _x159=>lett (x0.set x3.toNat (iadd .i64 x6 1)) fun x7=>some (.inl (x7,x5))
def qcu (F:Nat)(x1:List (qDU))(x27 x30:qDU):Option (qDU×qDU×Int):=(qao F x1).bind fun _x98=>(jE F (fun ((x0,x2):(qDU×qDU)) ((x3,x4):(Int×Int))=>vJ F x0 x2 x3 x4) x1 (x27,x30)).bind (Sum.elim (fun ((x0,x2):(qDU×qDU))=>some (x2,x0,0)) (fun t=>t.elim))
def qcl (F:Nat)(x1:List (qDU)):Option (qDU×qDU×Int):=(kM F x1).bind fun x9=>if ((x9:Int) != 0) then some (([]:qDU),([]:qDU),x9) else (mk 17592186044416 (0:Int) (x1.length:Int)).bind fun x0=>(mk 17592186044416 (0:Int) (x1.length:Int)).bind fun x2=>qcu F x1 x2 x0
def qft (_F:Nat)(x0:qDU):Option (qDU×Int):=some (x0,0)
def qaF (_F:Nat)(r18:(qDU×qDU)→Option (qDU×Int))(x0:qDU)(x1:Int)(x2:qDU):Option (qDU×Int):=(app 8796093022208 x0 ([x1]:qDU)).bind fun x3=>r18 (x2,x3)
def qcy (F:Nat)(r18:(qDU×qDU)→Option (qDU×Int))(x0:qDU)(x1:Int)(x2:qDU)(r21:(qDU×Int)→Option (qDU×Int))(x3:qDU)(x4:Int):Option (qDU×Int):=if decide (x4<(x2.length:Int)) then (idx x2 x4).bind fun x5=>(idx x3 x5).bind fun x6=>(idx x3 x5).bind fun _x1139=>lett (x3.set x5.toNat (isub .i64 x6 1)) fun x7=>r21 (x7,iadd .i64 x4 1) else qaF F r18 x0 x1 x3
def qaG (F:Nat)(r18:(qDU×qDU)→Option (qDU×Int))(x0:qDU)(x1:Int)(x2:qDU):=lp fun r s=>qcy F r18 x0 x1 x2 r s.1 s.2
def qcx (F:Nat)(x1:List (qDU))(r18:(qDU×qDU)→Option (qDU×Int))(x0 x2:qDU):Option (qDU×Int):=if decide ((x2.length:Int)<(x0.length:Int)) then (kR F x0 0).bind fun x3=>if decide (x3<0) then some (([]:qDU),4) else (idx x0 x3).bind fun _x964=>lett (x0.set x3.toNat (-1)) fun x4=>(idx x1 x3).bind fun x5=>qaG F r18 x2 x3 x5 F (x4,0) else qft F x2
def vM (F:Nat)(x1:List (qDU)):=lp fun r s=>qcx F x1 r s.1 s.2
def qda (F:Nat)(x1:List (qDU)):Option (qDU×Int):=(qcl F x1).bind fun x5=>if ((x5.2.2:Int) != 0) then some (([]:qDU),x5.2.2) else vM F x1 F (x5.2.1,([]:qDU))
def qav (F:Nat)(x2:List (qDU))(x5 x6 x7:Int)(x8 x11:qDU):Option (Int×qDU):=(qda F x2).bind fun x12=>(vH F x2 x5 x6 x7 x8 x11 x12.1 x12.2 4).bind fun x15=>some (x15.1,x15.2)
def jO (F:Nat)(x3:List (qDU))(x6 x7 x8:Int)(x9 x12:qDU):Option (Int×qDU):=(idx x9 0).bind fun x36=>(k9 F x3 x6 x7 x8 x9 x12 ([x36]:qDU)).bind fun x42=>if (!x42) then some (3,x12) else (qho F x3).bind fun x46=>(idx x9 0).bind fun x58=>(idx x46.1 x58).bind fun x62=>(itoaC x62).bind fun x66=>some (x46.2,x66)
def qfY (_F:Nat)(_x1:List (qDU)):Option Unit:=some ()
def jm {σ τ:Type}(_F:Nat)(_yy:σ→qDU→Option (σ ⊕ τ))(r115:(Int×σ)→Option (σ ⊕ τ))(x0:Int)(x1:σ):Option (σ ⊕ τ):=r115 (iadd .i64 x0 1,x1)
def jn {σ τ:Type}(_F:Nat)(_yy:σ→qDU→Option (σ ⊕ τ))(r163:(Int×σ)→Option (σ ⊕ τ))(x0:Int)(x1:σ):Option (σ ⊕ τ):=r163 (iadd .i64 x0 1,x1)
def jo {σ τ:Type}(_F:Nat)(_yy:σ→qDU→Option (σ ⊕ τ))(r171:(Int×σ)→Option (σ ⊕ τ))(x0:Int)(x1:σ):Option (σ ⊕ τ):=r171 (iadd .i64 x0 1,x1)
def jl {σ τ:Type}(F:Nat)(yy:σ→qDU→Option (σ ⊕ τ))(r163:(Int×σ)→Option (σ ⊕ τ))(x2:List (qDU))(x0 x1 x3:Int)(x4:qDU)(r171:(Int×σ)→Option (σ ⊕ τ))(x5:Int)(x6:σ):Option (σ ⊕ τ):=if decide (x5<(x4.length:Int)) then (idx x4 x5).bind fun x7=>(idx x2 x3).bind fun x8=>(zu F x8 x7).bind fun x9=>if (x9.2 && decide (x0<x3)) then (yy x6 ([x0,x3,x7]:qDU)).bind (Sum.elim (fun x10=>jo F yy r171 x5 x10) (fun x11=>some (.inr x11))) else jo F yy r171 x5 x6 else jn F yy r163 x1 x6
def ye {σ τ:Type}(F:Nat)(yy:σ→qDU→Option (σ ⊕ τ))(r163:(Int×σ)→Option (σ ⊕ τ))(x2:List (qDU))(x0 x1 x3:Int)(x4:qDU):=lp fun r s=>jl F yy r163 x2 x0 x1 x3 x4 r s.1 s.2
def jk {σ τ:Type}(F:Nat)(yy:σ→qDU→Option (σ ⊕ τ))(r115:(Int×σ)→Option (σ ⊕ τ))(x2:List (qDU))(x0:Int)(x1:qDU)(r163:(Int×σ)→Option (σ ⊕ τ))(x3:Int)(x4:σ):Option (σ ⊕ τ):=if decide (x3<(x1.length:Int)) then (idx x1 x3).bind fun x5=>(sub x1 (iadd .i64 x3 1) (x1.length:Int)).bind fun x6=>ye F yy r163 x2 x0 x3 x5 x6 F (0,x4) else jm F yy r115 x0 x4
def q9 {σ τ:Type}(F:Nat)(yy:σ→qDU→Option (σ ⊕ τ))(r115:(Int×σ)→Option (σ ⊕ τ))(x2:List (qDU))(x0:Int)(x1:qDU):=lp fun r s=>jk F yy r115 x2 x0 x1 r s.1 s.2
def ji {σ τ:Type}(F:Nat)(yy:σ→qDU→Option (σ ⊕ τ))(x2:List (qDU))(r115:(Int×σ)→Option (σ ⊕ τ))(x0:Int)(x1:σ):Option (σ ⊕ τ):=if decide (x0<(x2.length:Int)) then (idx x2 x0).bind fun x3=>q9 F yy r115 x2 x0 x3 F (0,x1) else some (.inl x1)
def qL {σ τ:Type}(F:Nat)(yy:σ→qDU→Option (σ ⊕ τ))(x2:List (qDU)):=lp fun r s=>ji F yy x2 r s.1 s.2
def qep {σ τ:Type}(F:Nat)(yy:σ→qDU→Option (σ ⊕ τ))(x2:List (qDU))(s0:σ):Option (σ ⊕ τ):=qL F yy x2 F (0,s0)
def jV (_F:Nat)(x0:Int)(x1:qDU)(r8:(Int×qDU)→Option ((Int×qDU) ⊕ Empty))(x2:Int)(x3:qDU):Option ((Int×qDU) ⊕ Empty):=if decide (x2<3) then chk (decide (x1.length=3)) ((idx x1 x2).bind fun x4=>(idx x3 x4).bind fun x5=>(idx x3 x4).bind fun _x494=>lett (x3.set x4.toNat (iadd .i64 x5 1)) fun x6=>r8 (iadd .i64 x2 1,x6)) else some (.inl (iadd .i64 x0 1,x3))
def jW (F:Nat)(x0:Int)(x1:qDU):=lp fun r s=>jV F x0 x1 r s.1 s.2
def yd (F:Nat)(x0:Int)(x1 x2:qDU):Option ((Int×qDU) ⊕ Empty):=chk (decide (x2.length=3)) (chk (decide (x2.length=3)) (jW F x0 x2 F (0,x1)))
def qdR (F:Nat)(x1:List (qDU)):Option (qDU×Int×Int):=(kM F x1).bind fun x9=>if ((x9:Int) != 0) then some (([]:qDU),0,x9) else (mk 17592186044416 (0:Int) (x1.length:Int)).bind fun x10=>(qec F x1).bind fun x0=>(qfY F x0).bind fun _x260=>(qep F (fun ((x2,x3):(Int×qDU)) (x4:qDU)=>yd F x2 x3 x4) x0 (0,x10)).bind (Sum.elim (fun ((x2,x3):(Int×qDU))=>some (x3,x2,0)) (fun t=>t.elim))
def jR (F:Nat)(x2:List (qDU))(_x5 _x6 _x7:Int)(_x8 _x11:qDU):Option (Int×qDU):=(qdR F x2).bind fun x12=>(itoaC x12.2.1).bind fun x15=>some (x12.2.2,x15)
def qz (_F:Nat)(x0:Int)(x1:List (qDU))(x2 x3 x4:Int)(_x232 x5:qDU):Option (List (qDU)×Int×Int×Int×qDU×Int):=if ((x0:Int) != 0) then some (([]:List (qDU)),0,0,0,([]:qDU),x0) else some (x1,x2,x3,x4,x5,0)
def qeq (F:Nat)(x10:(List (qDU)×Int×Int×Int))(x14:List (qDU)):Option (List (qDU)×Int×Int×Int×qDU×Int):=(sub x14 1 (x14.length:Int)).bind fun x0=>(qQ F x10.1 x10.2.1 x10.2.2.1 x10.2.2.2 ([]:qDU) ([111,107]:qDU) 1 x0).bind fun x1=>if x1.1 then (qfg F x10.1 x10.2.1 x10.2.2.1 x10.2.2.2 x1.2 ([111,107]:qDU)).bind fun x2=>qz F x2.1 x2.2 x10.2.1 x10.2.2.1 x10.2.2.2 x1.2 ([111,107]:qDU) else qz F 1 x10.1 x10.2.1 x10.2.2.1 x10.2.2.2 x1.2 ([111,107]:qDU)
def qer (F:Nat)(x10:(List (qDU)×Int×Int×Int))(x14:List (qDU)):Option (List (qDU)×Int×Int×Int×qDU×Int):=(sub x14 1 (x14.length:Int)).bind fun x0=>(qQ F x10.1 x10.2.1 x10.2.2.1 x10.2.2.2 ([]:qDU) ([111,107]:qDU) 2 x0).bind fun x1=>if x1.1 then (qgo F x10.1 x10.2.1 x10.2.2.1 x10.2.2.2 x1.2 ([111,107]:qDU)).bind fun x2=>qz F x2.1 x2.2 x10.2.1 x10.2.2.1 x10.2.2.2 x1.2 ([111,107]:qDU) else qz F 1 x10.1 x10.2.1 x10.2.2.1 x10.2.2.2 x1.2 ([111,107]:qDU)
def qes (F:Nat)(x10:(List (qDU)×Int×Int×Int))(x14:List (qDU)):Option (List (qDU)×Int×Int×Int×qDU×Int):=(sub x14 1 (x14.length:Int)).bind fun x0=>(qQ F x10.1 x10.2.1 x10.2.2.1 x10.2.2.2 ([]:qDU) ([111,107]:qDU) 2 x0).bind fun x1=>if x1.1 then (qfH F x10.1 x10.2.1 x10.2.2.1 x10.2.2.2 x1.2 ([111,107]:qDU)).bind fun x2=>qz F x2.1 x2.2 x10.2.1 x10.2.2.1 x10.2.2.2 x1.2 ([111,107]:qDU) else qz F 1 x10.1 x10.2.1 x10.2.2.1 x10.2.2.2 x1.2 ([111,107]:qDU)
def qcf (F:Nat)(x10:(List (qDU)×Int×Int×Int))(x14:List (qDU)):Option (List (qDU)×Int×Int×Int×qDU×Int):=(sub x14 1 (x14.length:Int)).bind fun x0=>(qQ F x10.1 x10.2.1 x10.2.2.1 x10.2.2.2 ([]:qDU) ([111,107]:qDU) 3 x0).bind fun x1=>if x1.1 then (qbM F x10.1 x10.2.1 x10.2.2.1 x10.2.2.2 x1.2 ([111,107]:qDU)).bind fun x2=>qz F x2.1 x10.1 x2.2.1 x2.2.2.1 x2.2.2.2 x1.2 ([111,107]:qDU) else qz F 1 x10.1 x10.2.1 x10.2.2.1 x10.2.2.2 x1.2 ([111,107]:qDU)
def qet (F:Nat)(x10:(List (qDU)×Int×Int×Int))(x14:List (qDU)):Option (List (qDU)×Int×Int×Int×qDU×Int):=(sub x14 1 (x14.length:Int)).bind fun x0=>(qQ F x10.1 x10.2.1 x10.2.2.1 x10.2.2.2 ([]:qDU) ([111,107]:qDU) 0 x0).bind fun x1=>if x1.1 then (qfG F x10.1 x10.2.1 x10.2.2.1 x10.2.2.2 x1.2 ([111,107]:qDU)).bind fun x2=>qz F x2.1 x10.1 x10.2.1 x10.2.2.1 x10.2.2.2 x1.2 x2.2 else qz F 1 x10.1 x10.2.1 x10.2.2.1 x10.2.2.2 x1.2 ([111,107]:qDU)
def qcg (F:Nat)(x10:(List (qDU)×Int×Int×Int))(x14:List (qDU)):Option (List (qDU)×Int×Int×Int×qDU×Int):=(sub x14 1 (x14.length:Int)).bind fun x0=>(qQ F x10.1 x10.2.1 x10.2.2.1 x10.2.2.2 ([]:qDU) ([111,107]:qDU) 1 x0).bind fun x1=>if x1.1 then (qba F x10.1 x10.2.1 x10.2.2.1 x10.2.2.2 x1.2 ([111,107]:qDU)).bind fun x2=>qz F x2.1 x10.1 x10.2.1 x10.2.2.1 x10.2.2.2 x1.2 x2.2 else qz F 1 x10.1 x10.2.1 x10.2.2.1 x10.2.2.2 x1.2 ([111,107]:qDU)
def qeu (F:Nat)(x10:(List (qDU)×Int×Int×Int))(x14:List (qDU)):Option (List (qDU)×Int×Int×Int×qDU×Int):=(sub x14 1 (x14.length:Int)).bind fun x0=>(qQ F x10.1 x10.2.1 x10.2.2.1 x10.2.2.2 ([]:qDU) ([111,107]:qDU) 2 x0).bind fun x1=>if x1.1 then (qgp F x10.1 x10.2.1 x10.2.2.1 x10.2.2.2 x1.2 ([111,107]:qDU)).bind fun x2=>qz F x2.1 x10.1 x10.2.1 x10.2.2.1 x10.2.2.2 x1.2 x2.2 else qz F 1 x10.1 x10.2.1 x10.2.2.1 x10.2.2.2 x1.2 ([111,107]:qDU)
def qch (F:Nat)(x10:(List (qDU)×Int×Int×Int))(x14:List (qDU)):Option (List (qDU)×Int×Int×Int×qDU×Int):=(sub x14 1 (x14.length:Int)).bind fun x0=>(qQ F x10.1 x10.2.1 x10.2.2.1 x10.2.2.2 ([]:qDU) ([111,107]:qDU) 2 x0).bind fun x1=>if x1.1 then (qbN F x10.1 x10.2.1 x10.2.2.1 x10.2.2.2 x1.2 ([111,107]:qDU)).bind fun x2=>qz F x2.1 x10.1 x10.2.1 x10.2.2.1 x10.2.2.2 x1.2 x2.2 else qz F 1 x10.1 x10.2.1 x10.2.2.1 x10.2.2.2 x1.2 ([111,107]:qDU)
def qci (F:Nat)(x10:(List (qDU)×Int×Int×Int))(x14:List (qDU)):Option (List (qDU)×Int×Int×Int×qDU×Int):=(sub x14 1 (x14.length:Int)).bind fun x0=>(qQ F x10.1 x10.2.1 x10.2.2.1 x10.2.2.2 ([]:qDU) ([111,107]:qDU) 1 x0).bind fun x1=>if x1.1 then (kF F x10.1 x10.2.1 x10.2.2.1 x10.2.2.2 x1.2 ([111,107]:qDU)).bind fun x2=>qz F x2.1 x10.1 x10.2.1 x10.2.2.1 x10.2.2.2 x1.2 x2.2 else qz F 1 x10.1 x10.2.1 x10.2.2.1 x10.2.2.2 x1.2 ([111,107]:qDU)
def qcj (F:Nat)(x10:(List (qDU)×Int×Int×Int))(x14:List (qDU)):Option (List (qDU)×Int×Int×Int×qDU×Int):=(sub x14 1 (x14.length:Int)).bind fun x0=>(qQ F x10.1 x10.2.1 x10.2.2.1 x10.2.2.2 ([]:qDU) ([111,107]:qDU) 0 x0).bind fun x1=>if x1.1 then (qav F x10.1 x10.2.1 x10.2.2.1 x10.2.2.2 x1.2 ([111,107]:qDU)).bind fun x2=>qz F x2.1 x10.1 x10.2.1 x10.2.2.1 x10.2.2.2 x1.2 x2.2 else qz F 1 x10.1 x10.2.1 x10.2.2.1 x10.2.2.2 x1.2 ([111,107]:qDU)
def qev (F:Nat)(x10:(List (qDU)×Int×Int×Int))(x14:List (qDU)):Option (List (qDU)×Int×Int×Int×qDU×Int):=(sub x14 1 (x14.length:Int)).bind fun x0=>(qQ F x10.1 x10.2.1 x10.2.2.1 x10.2.2.2 ([]:qDU) ([111,107]:qDU) 1 x0).bind fun x1=>if x1.1 then (jO F x10.1 x10.2.1 x10.2.2.1 x10.2.2.2 x1.2 ([111,107]:qDU)).bind fun x2=>qz F x2.1 x10.1 x10.2.1 x10.2.2.1 x10.2.2.2 x1.2 x2.2 else qz F 1 x10.1 x10.2.1 x10.2.2.1 x10.2.2.2 x1.2 ([111,107]:qDU)
def qck (F:Nat)(x10:(List (qDU)×Int×Int×Int))(x14:List (qDU)):Option (List (qDU)×Int×Int×Int×qDU×Int):=(sub x14 1 (x14.length:Int)).bind fun x0=>(qQ F x10.1 x10.2.1 x10.2.2.1 x10.2.2.2 ([]:qDU) ([111,107]:qDU) 0 x0).bind fun x1=>if x1.1 then (jR F x10.1 x10.2.1 x10.2.2.1 x10.2.2.2 x1.2 ([111,107]:qDU)).bind fun x2=>qz F x2.1 x10.1 x10.2.1 x10.2.2.1 x10.2.2.2 x1.2 x2.2 else qz F 1 x10.1 x10.2.1 x10.2.2.1 x10.2.2.2 x1.2 ([111,107]:qDU)
def qew (F:Nat)(x10:(List (qDU)×Int×Int×Int)):Option (List (qDU)×Int×Int×Int×qDU×Int):=qz F 1 x10.1 x10.2.1 x10.2.2.1 x10.2.2.2 ([]:qDU) ([111,107]:qDU)
def zO (F:Nat)(x1:List (qDU))(x4 x5 x6:Int)(x7:qDU):Option (List (qDU)×Int×Int×Int×qDU×Int):=(qfh F x1 x4 x5 x6).bind fun x10=>(splitM x7 ([32]:qDU)).bind fun x14=>(idx x14 0).bind fun x0=>(qct F x10.1 x10.2.1 x10.2.2.1 x10.2.2.2 ([]:qDU) ([111,107]:qDU)).bind fun _x414=>if (bstr x0 == bstr ([110,111,100,101,115]:qDU)) then qeq F x10 x14 else if (bstr x0 == bstr ([97,114,99]:qDU)) then qer F x10 x14 else if (bstr x0 == bstr ([100,114,111,112]:qDU)) then qes F x10 x14 else if (bstr x0 == bstr ([104,111,119]:qDU)) then qcf F x10 x14 else if (bstr x0 == bstr ([98,105,116,115]:qDU)) then qet F x10 x14 else if (bstr x0 == bstr ([108,105,115,116]:qDU)) then qcg F x10 x14 else if (bstr x0 == bstr ([102,97,114]:qDU)) then qeu F x10 x14 else if (bstr x0 == bstr ([119,97,121]:qDU)) then qch F x10 x14 else if (bstr x0 == bstr ([112,97,114,116]:qDU)) then qci F x10 x14 else if (bstr x0 == bstr ([111,114,100,101,114]:qDU)) then qcj F x10 x14 else if (bstr x0 == bstr ([99,111,114,101]:qDU)) then qev F x10 x14 else if (bstr x0 == bstr ([116,104,114,101,101,115]:qDU)) then qck F x10 x14 else qew F x10
def qhq (_F:Nat)(x0:qDU)(x1:List (qDU))(x2 x3 x4:Int):Option (List (qDU)×Int×Int×Int×qDU×Int):=(bstrM x0).bind fun x5=>some (x1,x2,x3,x4,x5,0)
def qfd (_F:Nat)(r19:(Int×qDU×List (qDU)×Int×Int×Int)→Option (List (qDU)×Int×Int×Int×qDU×Int))(x0:Int)(x1:qDU)(x2:List (qDU))(x3 x4 x5:Int):Option (List (qDU)×Int×Int×Int×qDU×Int):=r19 (iadd .i64 x0 1,x1,x2,x3,x4,x5)
def qfe (F:Nat)(r19:(Int×qDU×List (qDU)×Int×Int×Int)→Option (List (qDU)×Int×Int×Int×qDU×Int))(x0:Int)(x1 x2:qDU)(x3:List (qDU))(x4 x5 x6:Int):Option (List (qDU)×Int×Int×Int×qDU×Int):=(app 9223372036854775807 x2 ([10]:qDU)).bind fun x7=>(app 140737488355328 x1 (x7.map b8)).bind fun x8=>qfd F r19 x0 x8 x3 x4 x5 x6
def qkZ (F:Nat)(x11:List (qDU))(r19:(Int×qDU×List (qDU)×Int×Int×Int)→Option (List (qDU)×Int×Int×Int×qDU×Int))(x0:Int)(x1:qDU)(x2:List (qDU))(x3 x4 x5:Int):Option (List (qDU)×Int×Int×Int×qDU×Int):=if decide (x0<(x11.length:Int)) then (idx x11 x0).bind fun x6=>if (bstr x6 == bstr ([]:qDU)) then qfd F r19 x0 x1 x2 x3 x4 x5 else (zO F x2 x3 x4 x5 x6).bind fun x7=>if ((x7.2.2.2.2.2:Int) != 0) then (itoaC x7.2.2.2.2.2).bind fun x8=>(app 9223372036854775807 ([101,114,114,111,114,32]:qDU) x8).bind fun x9=>qfe F r19 x0 x1 x9 x2 x3 x4 x5 else qfe F r19 x0 x1 x7.2.2.2.2.1 x7.1 x7.2.1 x7.2.2.1 x7.2.2.2.1 else qhq F x1 x2 x3 x4 x5
def qff (F:Nat)(x11:List (qDU)):=lp fun r s=>qkZ F x11 r s.1 s.2.1 s.2.2.1 s.2.2.2.1 s.2.2.2.2.1 s.2.2.2.2.2
def qfZ (F:Nat)(x1:List (qDU))(x4 x5 x6:Int)(x11:List (qDU))(x16:Int):Option (List (qDU)×Int×Int×Int×qDU×Int):=if ((x16:Int) != 0) then some (([]:List (qDU)),0,0,0,([]:qDU),x16) else (qfh F x1 x4 x5 x6).bind fun x18=>qff F x11 F (0,([]:qDU),x18.1,x18.2.1,x18.2.2.1,x18.2.2.2)
def qkY (F:Nat)(x1:List (qDU))(x4 x5 x6:Int)(x7:qDU):Option (List (qDU)×Int×Int×Int×qDU×Int):=(vu F x1 x4 x5 x6).bind fun x10=>(splitM x7 ([10]:qDU)).bind fun x11=>if (((x10:Int) == 0) && decide (100<(x11.length:Int))) then qfZ F x1 x4 x5 x6 x11 2 else qfZ F x1 x4 x5 x6 x11 x10
def qdz (_F:Nat)(x9:Bool):Option Bool:=some x9
def qdQ (F:Nat) :Option Bool:=(qkY F ([]:List (qDU)) 2 3 1 ([110,111,100,101,115,32,52,10,97,114,99,32,48,32,49,10,97,114,99,32,49,32,50,10,97,114,99,32,50,32,48,10,97,114,99,32,48,32,49,10,10,108,105,115,116,32,48,10,102,97,114,32,48,32,50,10,102,97,114,32,48,32,51,10,119,97,121,32,49,32,48,10,112,97,114,116,32,50,10,111,114,100,101,114,10,99,111,114,101,32,49,10,116,104,114,101,101,115,10,100,114,111,112,32,50,32,48,10,111,114,100,101,114,10,100,114,111,112,32,50,32,48,10,104,111,119,32,56,32,48,32,49,10,119,104,97,116,10,102,97,114,32,48,32,52,10,98,105,116,115]:qDU)).bind fun x1=>if ((((x1.2.2.2.2.2:Int) == 0) && (bstr x1.2.2.2.2.1 == bstr ([111,107,10,111,107,10,111,107,10,111,107,10,101,114,114,111,114,32,54,10,49,10,50,10,110,111,110,101,10,49,32,50,32,48,10,48,10,110,111,110,101,10,50,10,49,10,111,107,10,48,32,49,32,50,32,51,10,101,114,114,111,114,32,53,10,101,114,114,111,114,32,51,10,101,114,114,111,114,32,49,10,101,114,114,111,114,32,51,10,50,48,10]:qDU))) && (((x1.1.length:Int):Int) == 4)) then (vu F x1.1 x1.2.1 x1.2.2.1 x1.2.2.2.1).bind fun x10=>qdz F ((x10:Int) == 0) else qdz F false
def j1 (F:Nat)(x1:List (qDU))(x4 x5 x6:Int)(x7:qDU):Option (List (qDU)×Int×Int×Int×qDU×Int):=(vu F x1 x4 x5 x6).bind fun x12=>if ((x12:Int) != 0) then some (([]:List (qDU)),0,0,0,([]:qDU),x12) else (zO F x1 x4 x5 x6 x7).bind fun x13=>some (x13.1,x13.2.1,x13.2.2.1,x13.2.2.2.1,x13.2.2.2.2.1,x13.2.2.2.2.2)
def vF (_F:Nat)(r1:(Int×qDU)→Option (qDU))(x6:Int)(x7:qDU):Option (qDU):=(app 9223372036854775807 ([iconv .u8 (iadd .i64 48 (irem x6 10))]:qDU) x7).bind fun x15=>if (((iquo .i64 x6 10):Int) == 0) then some x15 else r1 (iquo .i64 x6 10,x15)
def jT (F:Nat):=lp fun r s=>vF F r s.1 s.2
def vy (F:Nat)(x1:Int):Option (qDU):=jT F F (x1,([]:qDU))
def qhn (_F:Nat):Option Bool:=some true
def qce (_F:Nat)(r9:Int→Option Bool)(x0:Int):Option Bool:=r9 (iadd .i64 x0 1)
def qe5 (F:Nat)(x1:List (qDU))(x4 x5 x6:Int)(x0:List (qDU))(x2 x3 x7:Int)(x8 x9 x10:qDU)(r9:Int→Option Bool)(x11:Int):Option Bool:=if decide (x11<(([x8,x9,x10,([111,114,100,101,114]:qDU),([116,104,114,101,101,115]:qDU)]:List (qDU)).length:Int)) then (idx ([x8,x9,x10,([111,114,100,101,114]:qDU),([116,104,114,101,101,115]:qDU)]:List (qDU)) x11).bind fun x12=>(j1 F x1 x4 x5 x6 x12).bind fun x13=>(j1 F x0 x2 x3 x7 x12).bind fun x14=>if (((x13.2.2.2.2.2:Int) == 8) || ((x14.2.2.2.2.2:Int) == 8)) then qce F r9 x11 else if ((!(bstr x13.2.2.2.2.1 == bstr x14.2.2.2.2.1)) || ((x13.2.2.2.2.2:Int) != x14.2.2.2.2.2)) then some false else qce F r9 x11 else qhn F
def qbv (F:Nat)(x1:List (qDU))(x4 x5 x6:Int)(x0:List (qDU))(x2 x3 x7:Int)(x8 x9 x10:qDU):=lp fun r s=>qe5 F x1 x4 x5 x6 x0 x2 x3 x7 x8 x9 x10 r s
def qcL (F:Nat)(x1:List (qDU))(x4 x5 x6 x10 x11:Int)(x0:qDU)(x2:Int)(x3:List (qDU))(x7 x8 x9:Int):Option Bool:=if ((x2:Int) != 0) then some (bstr x0 == bstr ([]:qDU)) else (vy F x10).bind fun x12=>(app 9223372036854775807 ([108,105,115,116,32]:qDU) x12).bind fun x13=>(vy F x10).bind fun x14=>(app 9223372036854775807 ([119,97,121,32]:qDU) x14).bind fun x15=>(app 9223372036854775807 x15 ([32]:qDU)).bind fun x16=>(vy F x11).bind fun x17=>(app 9223372036854775807 x16 x17).bind fun x18=>(vy F x10).bind fun x19=>(app 9223372036854775807 ([112,97,114,116,32]:qDU) x19).bind fun x20=>qbv F x1 x4 x5 x6 x3 x7 x8 x9 x13 x18 x20 F 0
def qhm (F:Nat)(x1:List (qDU))(x4 x5 x6 x7 x8 x9 x10 x11:Int):Option Bool:=(qdQ F).bind fun x15=>if (!x15) then some false else if (((((((((decide (x7<0) || decide (99<x7)) || decide (x8<0)) || decide (999<x8)) || decide (x9<0)) || decide (99<x9)) || decide (x10<0)) || decide (200<x10)) || decide (x11<0)) || decide (200<x11)) then some true else (vy F x7).bind fun x0=>(app 9223372036854775807 ([104,111,119,32]:qDU) x0).bind fun x2=>(app 9223372036854775807 x2 ([32]:qDU)).bind fun x3=>(vy F x8).bind fun x12=>(app 9223372036854775807 x3 x12).bind fun x13=>(app 9223372036854775807 x13 ([32]:qDU)).bind fun x14=>(vy F x9).bind fun x16=>(app 9223372036854775807 x14 x16).bind fun x17=>(j1 F x1 x4 x5 x6 x17).bind fun x18=>qcL F x1 x4 x5 x6 x10 x11 x18.2.2.2.2.1 x18.2.2.2.2.2 x18.1 x18.2.1 x18.2.2.1 x18.2.2.2.1
end Go.Proofs.YthibchijlpflmaaGreatDoor
