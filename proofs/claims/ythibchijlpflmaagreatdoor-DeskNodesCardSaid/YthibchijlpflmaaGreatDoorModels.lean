/- What each Go function of this seat computes, in plain terms. -/
import Derived.Test.YthibchijlpflmaaGreatDoorSy
namespace Go.Proofs.YthibchijlpflmaaGreatDoor
open Go SX
abbrev qD0:=List Int
abbrev qD1:=Option Addr
abbrev qD2 (x:Int):Value:=.int .i64 x
abbrev qD3 (a:Option Addr) {α:Type} (x:List α) (c:Nat):Value:=.slice a x.length c
abbrev qD4 (g:Nat):Value:=.pointer (some ⟨g,0,none⟩)
abbrev qD5 (a:Option Addr) (x:List Int) (c:Nat):World→Prop:=Sl (eI .i64) 1 (.slice a x.length c) x
abbrev qD6 (a:Option Addr) (x:List Int) (c:Nat):RowD:=Ro (eI .i64) 3 1 (.slice a x.length c) x
abbrev qD7 (a:Option Addr) (x:List Int) (c:Nat):World→Prop:=Sl (eI .u8) 1 (.slice a x.length c) x
abbrev qD8 (a:Option Addr) (x:List Int) (c:Nat):RowD:=Ro (eI .u8) 5 1 (.slice a x.length c) x
def qcW (_F:Nat)(x0:Int):Option Int:=if decide (600<x0) then some 2 else some 0
def qcX (_F:Nat)(r38:(Int×Int)→Option Int)(x0 x1:Int):Option Int:=r38 (x1,iadd .i64 x0 1)
def qbi (F:Nat)(r38:(Int×Int)→Option Int)(x0 x1:Int)(x2:qD0):Option Int:=qcX F r38 x1 (iadd .i64 x0 (x2.length:Int))
def qcV (F:Nat)(r38:(Int×Int)→Option Int)(x1:List (qD0))(x0 x2:Int)(x3:qD0)(r45:(Int×Int)→Option Int)(x4 x5:Int):Option Int:=if decide (x5<(x3.length:Int)) then (idx x3 x5).bind fun x6=>if (decide (x6<0) || decide ((x1.length:Int)≤x6)) then some 3 else if decide (x6≤x4) then some 4 else r45 (x6,iadd .i64 x5 1) else qbi F r38 x0 x2 x3
def qcY (F:Nat)(r38:(Int×Int)→Option Int)(x1:List (qD0))(x0 x2:Int)(x3:qD0):=lp fun r s=>qcV F r38 x1 x0 x2 x3 r s.1 s.2
def qcU (F:Nat)(x1:List (qD0))(r38:(Int×Int)→Option Int)(x0 x2:Int):Option Int:=if decide (x2<(x1.length:Int)) then (idx x1 x2).bind fun x3=>qcY F r38 x1 x0 x2 x3 F (-1,0) else qcW F x0
def vd (F:Nat)(x1:List (qD0)):=lp fun r s=>qcU F x1 r s.1 s.2
def kB (F:Nat)(x1:List (qD0)):Option Int:=if decide (100<(x1.length:Int)) then some 2 else vd F x1 F (0,0)
def vr (_F:Nat)(x1 x2 x3:Int):Option Int:=if ((((((decide (x1<0) || decide (7<x1)) || decide (x2<0)) || ((x2:Int) == 1)) || decide (300<x2)) || decide (x3<1)) || decide (16<x3)) then some 3 else some 0
def yP (F:Nat)(x1:List (qD0))(x4 x5 x6:Int):Option Int:=(kB F x1).bind fun x10=>if ((x10:Int) != 0) then some x10 else (vr F x4 x5 x6).bind fun x11=>some x11
def kE (_F:Nat)(x1:qD0):Option (qD0):=(app 8796093022208 ([]:qD0) x1).bind fun x8=>some x8
def qhV (_F:Nat)(x4 x5 x6:Int)(x0:List (qD0)):Option (List (qD0)×Int×Int×Int):=some (x0,x4,x5,x6)
def qfN (F:Nat)(x1:List (qD0))(x4 x5 x6:Int)(r4:(Int×List (qD0))→Option (List (qD0)×Int×Int×Int))(x0:Int)(x2:List (qD0)):Option (List (qD0)×Int×Int×Int):=if decide (x0<(x1.length:Int)) then (idx x1 x0).bind fun x3=>(idx x2 x0).bind fun _x233=>(kE F x3).bind fun x7=>lett (x2.set x0.toNat x7) fun x8=>r4 (iadd .i64 x0 1,x8) else qhV F x4 x5 x6 x2
def qfP (F:Nat)(x1:List (qD0))(x4 x5 x6:Int):=lp fun r s=>qfN F x1 x4 x5 x6 r s.1 s.2
def qfO (F:Nat)(x1:List (qD0))(x4 x5 x6:Int)(x20:List (qD0)):Option (List (qD0)×Int×Int×Int):=qfP F x1 x4 x5 x6 F (0,x20)
def qe3 (F:Nat)(x1:List (qD0))(x4 x5 x6:Int):Option (List (qD0)×Int×Int×Int):=(mk 4398046511104 (([]:qD0):qD0) (x1.length:Int)).bind fun x0=>qfO F x1 x4 x5 x6 x0
def qiS (_F:Nat)(x1 x2:Int):Option (Int×Int):=lett (imul .u64 (iconv .u64 x1) (iconv .u64 x2)) fun x3=>some (iconv .u32 (ishr .u64 x3 32),iconv .u32 x3)
def qfx (_F:Nat)(x1 x2:Int):Option (Int×Int):=lett (imul .u64 (iand .u64 x1 4294967295) (iand .u64 x2 4294967295)) fun x3=>lett (iadd .u64 (imul .u64 (ishr .u64 x1 32) (iand .u64 x2 4294967295)) (ishr .u64 x3 32)) fun x4=>lett (iadd .u64 (iand .u64 x4 4294967295) (imul .u64 (iand .u64 x1 4294967295) (ishr .u64 x2 32))) fun x5=>lett (iadd .u64 (iadd .u64 (imul .u64 (ishr .u64 x1 32) (ishr .u64 x2 32)) (ishr .u64 x4 32)) (ishr .u64 x5 32)) fun x6=>some (x6,imul .u64 x1 x2)
def qcg (F:Nat)(x1 x2:Int):Option (Int×Int):=(qfx F x1 x2).bind fun x3=>some (x3.1,x3.2)
def vF (_F:Nat)(x64:qD0):Option (qD0):=some x64
def ym (F:Nat)(r3:(qD0×Int)→Option (qD0))(x80:qD0)(x81:Int):Option (qD0):=if decide (x81<(x80.length:Int)) then (sub x80 x81 (x80.length:Int)).bind fun x99=>(sub x80 0 x81).bind fun x0=>lett (yz x81.toNat x80 x0) fun x1=>r3 (x1,iadd .i64 x81 ((min x0.length x99.length:Nat):Int)) else vF F x80
def ky (F:Nat):=lp fun r s=>ym F r s.1 s.2
def k6 (F:Nat)(x1:qD0)(x4:Int):Option (qD0):=if decide (x4<0) then none else (qcg F (iconv .u64 (x1.length:Int)) (iconv .u64 x4)).bind fun x6=>if (decide (0<x6.1) || decide (9223372036854775807<x6.2)) then none else (mk 17592186044416 (0:Int) (iconv .i64 x6.2)).bind fun x10=>lett (yz 0 x10 x1) fun x13=>ky F F (x13,((min x1.length x10.length:Nat):Int))
def qbW (_F:Nat):Option Int:=some (-1)
def kK (F:Nat)(x1:qD0)(x4:Int)(r3:Int→Option Int)(x47:Int):Option Int:=if decide (x47<(x1.length:Int)) then (idx x1 x47).bind fun x64=>if ((x4:Int) == x64) then some x47 else r3 (iadd .i64 x47 1) else qbW F
def kL (F:Nat)(x1:qD0)(x4:Int):=lp fun r s=>kK F x1 x4 r s
def kF (F:Nat)(x1:qD0)(x4:Int):Option Int:=kL F x1 x4 F 0
def qcy (_F:Nat)(x35:Int):Option Int:=some x35
def j3 (F:Nat)(x1:qD0)(r3:(Int×Int)→Option Int)(x44 x45:Int):Option Int:=if decide (x45<(x1.length:Int)) then (idx x1 x45).bind fun x59=>r3 (imin x44 x59,iadd .i64 x45 1) else qcy F x44
def j4 (F:Nat)(x1:qD0):=lp fun r s=>j3 F x1 r s.1 s.2
def jv (F:Nat)(x1:qD0):Option Int:=if decide ((x1.length:Int)<1) then none else (idx x1 0).bind fun x5=>j4 F x1 F (x5,1)
def jG (_F:Nat)(x5 x8 x11:qD0)(x17 x19:Int)(x75:qD0):Option (qD0×qD0×qD0×qD0×Int):=(sub x11 0 x19).bind fun x76=>some (x5,x8,x76,x75,x17)
def jF (F:Nat)(x5 x8 x11:qD0)(x17 x19 x23:Int)(r3:(Int×qD0)→Option (qD0×qD0×qD0×qD0×Int))(x93:Int)(x94:qD0):Option (qD0×qD0×qD0×qD0×Int):=if decide (x93<((x11.length-x19.toNat:Nat):Int)) then (idx (x11.drop x19.toNat) x93).bind fun x0=>(idx x94 x0).bind fun _x121=>lett (x94.set x0.toNat x23) fun x1=>r3 (iadd .i64 x93 1,x1) else jG F x5 x8 x11 x17 x19 x94
def jH (F:Nat)(x5 x8 x11:qD0)(x17 x19 x23:Int):=lp fun r s=>jF F x5 x8 x11 x17 x19 x23 r s.1 s.2
def vS (F:Nat)(_x2:List (qD0))(x5 x8 x11 x14:qD0)(x17 x18:Int):Option (qD0×qD0×qD0×qD0×Int):=(kF F x11 x18).bind fun x19=>chk (decide (0≤x19∧x19<(x11.length:Int))) ((jv F (x11.drop x19.toNat)).bind fun x23=>jH F x5 x8 x11 x17 x19 x23 F (0,x14))
def jI (F:Nat)(x2:List (qD0))(x18:Int)(x0 x1 x3 x4:qD0)(x5:Int):Option (qD0×qD0×qD0×qD0×Int):=(idx x1 x18).bind fun x6=>(idx x0 x18).bind fun x7=>if ((x6:Int) == x7) then (vS F x2 x0 x1 x3 x4 x5 x18).bind fun x8=>some (x8.1,x8.2.1,x8.2.2.1,x8.2.2.2.1,x8.2.2.2.2) else some (x0,x1,x3,x4,x5)
def zA (_F:Nat)(r8:(Int×qD0×qD0×qD0×qD0×Int)→Option (qD0×qD0×qD0×qD0×Int))(x0:Int)(x1 x2 x3 x4:qD0)(x5:Int):Option (qD0×qD0×qD0×qD0×Int):=r8 (iadd .i64 x0 1,x1,x2,x3,x4,x5)
def yR (F:Nat)(self:(List (qD0))→(qD0)→(qD0)→(qD0)→(qD0)→Int→Int→Option (qD0×qD0×qD0×qD0×Int))(x2:List (qD0))(x18:Int)(x0:qD0)(r8:(Int×qD0×qD0×qD0×qD0×Int)→Option (qD0×qD0×qD0×qD0×Int))(x1:Int)(x3 x4 x5 x6:qD0)(x7:Int):Option (qD0×qD0×qD0×qD0×Int):=if decide (x1<(x0.length:Int)) then (idx x0 x1).bind fun x8=>(idx x3 x8).bind fun x9=>if ((x9:Int) == 0) then (self x2 x3 x4 x5 x6 x7 x8).bind fun x10=>(idx x10.2.1 x18).bind fun x11=>(idx x10.2.1 x8).bind fun x12=>(idx x10.2.1 x18).bind fun _x791=>lett (x10.2.1.set x18.toNat (imin x11 x12)) fun x13=>zA F r8 x1 x10.1 x13 x10.2.2.1 x10.2.2.2.1 x10.2.2.2.2 else (idx x6 x8).bind fun x14=>if decide (x14<0) then (idx x4 x18).bind fun x15=>(idx x3 x8).bind fun x16=>(idx x4 x18).bind fun _x809=>lett (x4.set x18.toNat (imin x15 x16)) fun x17=>zA F r8 x1 x3 x17 x5 x6 x7 else zA F r8 x1 x3 x4 x5 x6 x7 else jI F x2 x18 x3 x4 x5 x6 x7
def za (F:Nat)(self:(List (qD0))→(qD0)→(qD0)→(qD0)→(qD0)→Int→Int→Option (qD0×qD0×qD0×qD0×Int))(x2:List (qD0))(x18:Int)(x0:qD0):=lp fun r s=>yR F self x2 x18 x0 r s.1 s.2.1 s.2.2.1 s.2.2.2.1 s.2.2.2.2.1 s.2.2.2.2.2
def qT:Nat→(List (qD0))→(qD0)→(qD0)→(qD0)→(qD0)→Int→Int→Option (qD0×qD0×qD0×qD0×Int)
  | 0=>fun _ _ _ _ _ _ _=>none
  | F+1=>fun x2 x5 x8 x11 x14 x17 x18 =>
    let self:=qT F
    ((idx x5 x18).bind fun _x33=>((idx x8 x18).bind fun _x37=>(lett (x5.set x18.toNat (iadd .i64 x17 1)) fun x41=>(lett (x8.set x18.toNat (iadd .i64 x17 1)) fun x44=>((app 8796093022208 x11 ([x18]:qD0)).bind fun x49=>((idx x2 x18).bind fun x0=>za F self x2 x18 x0 F (0,x41,x44,x49,x14,iadd .i64 x17 1)))))))
def qfC (_F:Nat)(_x265 _x268 _x271 x0:qD0)(_x275:Int):Option (qD0):=some x0
def vH (_F:Nat)(r9:(Int×qD0×qD0×qD0×qD0×Int)→Option (qD0))(x0:Int)(x1 x2 x3 x4:qD0)(x5:Int):Option (qD0):=r9 (iadd .i64 x0 1,x1,x2,x3,x4,x5)
def qc9 (F:Nat)(x1:List (qD0))(r9:(Int×qD0×qD0×qD0×qD0×Int)→Option (qD0))(x0:Int)(x2 x3 x4 x5:qD0)(x6:Int):Option (qD0):=if decide (x0<(x1.length:Int)) then (idx x2 x0).bind fun x7=>if ((x7:Int) == 0) then (qT F x1 x2 x3 x4 x5 x6 x0).bind fun x8=>vH F r9 x0 x8.1 x8.2.1 x8.2.2.1 x8.2.2.2.1 x8.2.2.2.2 else vH F r9 x0 x2 x3 x4 x5 x6 else qfC F x2 x3 x4 x5 x6
def jw (F:Nat)(x1:List (qD0)):=lp fun r s=>qc9 F x1 r s.1 s.2.1 s.2.2.1 s.2.2.2.1 s.2.2.2.2.1 s.2.2.2.2.2
def qda (F:Nat)(x1:List (qD0))(x0 x2 x3:qD0):Option (qD0):=jw F x1 F (0,x0,x2,([]:qD0),x3,0)
def j5 (F:Nat)(x1:List (qD0)):Option (qD0):=(mk 17592186044416 (0:Int) (x1.length:Int)).bind fun x0=>(mk 17592186044416 (0:Int) (x1.length:Int)).bind fun x2=>(k6 F ([-1]:qD0) (x1.length:Int)).bind fun x3=>qda F x1 x0 x2 x3
def qc8 (F:Nat)(x1:List (qD0)):Option (qD0×Int):=(kB F x1).bind fun x7=>if ((x7:Int) != 0) then some (([]:qD0),x7) else (j5 F x1).bind fun x8=>some (x8,0)
def qbF (_F:Nat)(_x1:List (qD0)):Option Unit:=some ()
def q5 (_F:Nat)(x1:qD0):Option (qD0):=if x1.length<4611686018427387904 then some (srt x1) else none
def zy (_F:Nat)(x1:qD0):Option (qD0):=if (Go.Lib.compact x1).length≤x1.length then some (Go.Lib.compact x1) else none
def qbQ {σ τ:Type}(_F:Nat)(_yy:σ→(Int×Int)→Option (σ ⊕ τ))(r7:(Int×σ)→Option (σ ⊕ τ))(x0:Int)(x1:σ):Option (σ ⊕ τ):=r7 (iadd .i64 x0 1,x1)
def qbh {σ τ:Type}(F:Nat)(yy:σ→(Int×Int)→Option (σ ⊕ τ))(r7:(Int×σ)→Option (σ ⊕ τ))(x0:Int)(x1:qD0)(r10:(Int×σ)→Option (σ ⊕ τ))(x2:Int)(x3:σ):Option (σ ⊕ τ):=if decide (x2<(x1.length:Int)) then (idx x1 x2).bind fun x4=>(yy x3 (x0,x4)).bind (Sum.elim (fun x5=>r10 (iadd .i64 x2 1,x5)) (fun x6=>some (.inr x6))) else qbQ F yy r7 x0 x3
def js {σ τ:Type}(F:Nat)(yy:σ→(Int×Int)→Option (σ ⊕ τ))(r7:(Int×σ)→Option (σ ⊕ τ))(x0:Int)(x1:qD0):=lp fun r s=>qbh F yy r7 x0 x1 r s.1 s.2
def qbP {σ τ:Type}(F:Nat)(yy:σ→(Int×Int)→Option (σ ⊕ τ))(x2:List (qD0))(r7:(Int×σ)→Option (σ ⊕ τ))(x0:Int)(x1:σ):Option (σ ⊕ τ):=if decide (x0<(x2.length:Int)) then (idx x2 x0).bind fun x3=>js F yy r7 x0 x3 F (0,x1) else some (.inl x1)
def zV {σ τ:Type}(F:Nat)(yy:σ→(Int×Int)→Option (σ ⊕ τ))(x2:List (qD0)):=lp fun r s=>qbP F yy x2 r s.1 s.2
def jD {σ τ:Type}(F:Nat)(yy:σ→(Int×Int)→Option (σ ⊕ τ))(x2:List (qD0))(s0:σ):Option (σ ⊕ τ):=zV F yy x2 F (0,s0)
def qbx (_F:Nat)(x0:List (qD0))(x1 x2:Int):Option (List (qD0) ⊕ Empty):=if ((x1:Int) != x2) then (idx x0 x1).bind fun x3=>(idx x0 x2).bind fun x4=>chk (decide (x2.toNat≠x1.toNat)) ((idx x0 x1).bind fun _x438=>(idx x0 x2).bind fun _x444=>(app 8796093022208 x3 ([x2]:qD0)).bind fun x5=>(app 8796093022208 x4 ([x1]:qD0)).bind fun x6=>lett (x0.set x1.toNat x5) fun x7=>lett (x7.set x2.toNat x6) fun x8=>some (.inl x8)) else some (.inl x0)
def qha (_F:Nat)(x0:List (qD0)):Option (List (qD0)):=some x0
def qeY (F:Nat)(x0:List (qD0))(r5:(Int×List (qD0))→Option (List (qD0)))(x1:Int)(x2:List (qD0)):Option (List (qD0)):=if decide (x1<(x0.length:Int)) then (idx x2 x1).bind fun x3=>(q5 F x3).bind fun x4=>chk (decide (x4.length=x3.length)) (lett (x2.set x1.toNat x4) fun x5=>(idx x5 x1).bind fun x6=>(idx x5 x1).bind fun _x871=>(zy F x6).bind fun x7=>lett (x5.set x1.toNat x7) fun x8=>r5 (iadd .i64 x1 1,x8)) else qha F x2
def qeZ (F:Nat)(x0:List (qD0)):=lp fun r s=>qeY F x0 r s.1 s.2
def qd4 (F:Nat)(x1:List (qD0)):Option (List (qD0)):=(mk 4398046511104 (([]:qD0):qD0) (x1.length:Int)).bind fun x5=>(qbF F x1).bind fun _x256=>(jD F (fun (x0:List (qD0)) ((x2,x3):(Int×Int))=>qbx F x0 x2 x3) x1 x5).bind (Sum.elim (fun (x0:List (qD0))=>qeZ F x0 F (0,x0)) (fun t=>t.elim))
def qcx (_F:Nat)(x5:qD0)(x0:Int):Option (Int×qD0):=some (x0,x5)
def y8 (_F:Nat)(r38:(Int×Int)→Option (Int×qD0))(x0 x1:Int):Option (Int×qD0):=r38 (x1,iadd .i64 x0 1)
def y9 (F:Nat)(r38:(Int×Int)→Option (Int×qD0))(x0 x1:Int)(x2:Bool):Option (Int×qD0):=if x2 then y8 F r38 x1 x1 else y8 F r38 x1 x0
def va (F:Nat)(r38:(Int×Int)→Option (Int×qD0))(x0 x1:Int)(_x315 x2:Bool):Option (Int×qD0):=y9 F r38 x0 x1 x2
def jV (F:Nat)(x5:qD0)(r38:(Int×Int)→Option (Int×qD0))(x0 x1:Int):Option (Int×qD0):=if decide (x1<(x5.length:Int)) then (idx x5 x1).bind fun x2=>if decide (0≤x2) then if decide (x0<0) then va F r38 x0 x1 true true else (idx x5 x0).bind fun x3=>va F r38 x0 x1 false (decide (x2<x3)) else y9 F r38 x0 x1 false else qcx F x5 x0
def kq (F:Nat)(x5:qD0):=lp fun r s=>jV F x5 r s.1 s.2
def vo (F:Nat)(_x2:List (qD0))(x5:qD0):Option (Int×qD0):=kq F x5 F (-1,0)
def vM (_F:Nat)(r3:(Int×qD0)→Option (qD0))(x54:Int)(x0:qD0):Option (qD0):=r3 (iadd .i64 x54 1,x0)
def qa1 (F:Nat)(x15:qD0)(r3:(Int×qD0)→Option (qD0))(x54:Int)(x55:qD0):Option (qD0):=if decide (x54<(x15.length:Int)) then (idx x15 x54).bind fun x0=>(idx x55 x0).bind fun x1=>if decide (0≤x1) then (idx x55 x0).bind fun x2=>(idx x55 x0).bind fun _x119=>lett (x55.set x0.toNat (isub .i64 x2 1)) fun x3=>vM F r3 x54 x3 else vM F r3 x54 x55 else some x55
def vN (F:Nat)(x15:qD0):=lp fun r s=>qa1 F x15 r s.1 s.2
def qan (F:Nat)(x2:List (qD0))(x5:qD0)(x8:Int):Option (qD0):=(idx x5 x8).bind fun _x9=>lett (x5.set x8.toNat (-1)) fun x12=>(idx x2 x8).bind fun x15=>vN F x15 F (0,x12)
def qfr (_F:Nat)(x0:qD0):Option (qD0×Int):=some (x0,0)
def qcI (F:Nat)(x8:List (qD0))(r5:(qD0×Int×Int×qD0)→Option (qD0×Int))(x0:qD0)(x1 x2:Int)(x3:qD0):Option (qD0×Int):=if decide (0≤x2) then (idx x3 x2).bind fun x4=>(idx x0 x2).bind fun _x272=>lett (x0.set x2.toNat (imax x1 x4)) fun x5=>(qan F x8 x3 x2).bind fun x6=>(vo F x8 x6).bind fun x7=>r5 (x5,imax x1 x4,x7.1,x7.2) else qfr F x0
def qcK (F:Nat)(x8:List (qD0)):=lp fun r s=>qcI F x8 r s.1 s.2.1 s.2.2.1 s.2.2.2
def qbb (F:Nat)(x8:List (qD0))(x86:qD0):Option (qD0×Int):=(mk 17592186044416 (0:Int) (x8.length:Int)).bind fun x87=>(vo F x8 x86).bind fun x0=>qcK F x8 F (x87,0,x0.1,x0.2)
def qcJ (F:Nat)(x8:List (qD0))(r6:(Int×qD0)→Option (qD0×Int))(x0:Int)(x1:qD0):Option (qD0×Int):=if decide (x0<(x8.length:Int)) then (idx x8 x0).bind fun x2=>(app 8796093022208 x1 ([(x2.length:Int)]:qD0)).bind fun x3=>r6 (iadd .i64 x0 1,x3) else qbb F x8 x1
def qcL (F:Nat)(x8:List (qD0)):=lp fun r s=>qcJ F x8 r s.1 s.2
def qcH (F:Nat)(x1:List (qD0)):Option (qD0×Int):=(kB F x1).bind fun x7=>if ((x7:Int) != 0) then some (([]:qD0),x7) else (qd4 F x1).bind fun x8=>qcL F x8 F (0,([]:qD0))
def qag (_F:Nat)(_x2:List (qD0))(_x5 _x6 _x7:Int)(_x8 _x11:qD0):Option Unit:=some ()
def qaf (_F:Nat)(_x2:List (qD0))(_x5 _x6 _x7:Int)(_x8 _x11:qD0):Option Unit:=some ()
def qcn (F:Nat)(x2:List (qD0))(x5 x6 x7:Int)(x8 x11:qD0):Option Unit:=(qag F x2 x5 x6 x7 x8 x11).bind fun _x13=>(qaf F x2 x5 x6 x7 x8 x11).bind fun _x16=>some ()
def qdp (_F:Nat)(x12:Int)(x14:List (qD0))(x0:qD0):Option (Bool×qD0):=some ((((x14.length:Int):Int) == x12),x0)
def vP (_F:Nat)(r23:(Int×qD0)→Option (Bool×qD0))(x0:Int)(x1:qD0)(x2:(Int×Bool))(x3:Bool):Option (Bool×qD0):=if x3 then some (false,x1) else (app 8796093022208 x1 ([x2.1]:qD0)).bind fun x4=>r23 (iadd .i64 x0 1,x4)
def yB (F:Nat)(x12:Int)(x14:List (qD0))(r23:(Int×qD0)→Option (Bool×qD0))(x0:Int)(x1:qD0):Option (Bool×qD0):=if decide (x0<(x14.length:Int)) then (idx x14 x0).bind fun x2=>(atoiE x2).bind fun x3=>if (((!x3.2) || decide (x3.1<0)) || decide (4<(x2.length:Int))) then vP F r23 x0 x1 x3 true else (itoaC x3.1).bind fun x4=>vP F r23 x0 x1 x3 (!(bstr x4 == bstr x2)) else qdp F x12 x14 x1
def zG (F:Nat)(x12:Int)(x14:List (qD0)):=lp fun r s=>yB F x12 x14 r s.1 s.2
def qM (F:Nat)(_x2:List (qD0))(_x5 _x6 _x7:Int)(x8 _x11:qD0)(x12:Int)(x14:List (qD0)):Option (Bool×qD0):=zG F x12 x14 F (0,x8)
def qao (_F:Nat)(x2:List (qD0))(_x5 _x6 _x7:Int)(x8 _x11:qD0):Option (Int×List (qD0)):=(idx x8 0).bind fun x16=>if decide (100<x16) then some (3,x2) else (idx x8 0).bind fun x19=>(mk 4398046511104 (([]:qD0):qD0) x19).bind fun x22=>some (0,x22)
def kC (_F:Nat)(x46:List (Int×Int))(x55 x56:Int):Option (List (Int×Int) ⊕ Empty):=(app 4398046511104 x46 ([(x55,x56)]:List (Int×Int))).bind fun x60=>some (.inl x60)
def kO (F:Nat)(x1:List (Int×Int))(x5:List (qD0)):Option (List (Int×Int)):=(jD F (fun (x46:List (Int×Int)) ((x55,x56):(Int×Int))=>kC F x46 x55 x56) x5 x1).bind (Sum.elim (fun (x46:List (Int×Int))=>some x46) (fun t=>t.elim))
def vp (F:Nat)(x2:List (qD0)):Option (List (Int×Int)):=(kO F ([]:List (Int×Int)) x2).bind fun x5=>some x5
def qiQ (F:Nat)(x1:List (qD0)):Option (List (Int×Int)×Int):=(kB F x1).bind fun x7=>if ((x7:Int) != 0) then some (([]:List (Int×Int)),x7) else (qbF F x1).bind fun _x8=>(vp F x1).bind fun x10=>some (x10,0)
def qgg (_F:Nat)(x0:List (qD0)):Option (List (qD0)):=some x0
def qjz (F:Nat)(x2:List (Int×Int))(r3:(Int×List (qD0))→Option (List (qD0)))(x0:Int)(x1:List (qD0)):Option (List (qD0)):=if decide (x0<(x2.length:Int)) then (idx x2 x0).bind fun x3=>(idx x1 x3.1).bind fun x4=>(idx x1 x3.1).bind fun _x316=>(app 8796093022208 x4 ([x3.2]:qD0)).bind fun x5=>lett (x1.set x3.1.toNat x5) fun x6=>r3 (iadd .i64 x0 1,x6) else qgg F x1
def qjA (F:Nat)(x2:List (Int×Int)):=lp fun r s=>qjz F x2 r s.1 s.2
def qfY (F:Nat)(x1:Int)(x2:List (Int×Int)):Option (List (qD0)):=(mk 4398046511104 (([]:qD0):qD0) x1).bind fun x6=>qjA F x2 F (0,x6)
def yw (_F:Nat)(_x1:List (Int×Int)):Option Unit:=some ()
def qgV (_F:Nat):Option Int:=some 0
def qkp (F:Nat)(x1:qD0)(r3:Int→Option Int)(x46:Int):Option Int:=if decide (x46<(x1.length:Int)) then (idx x1 x46).bind fun x63=>if ((x63:Int) != 0) then some x63 else r3 (iadd .i64 x46 1) else qgV F
def qkq (F:Nat)(x1:qD0):=lp fun r s=>qkp F x1 r s
def qiP (F:Nat)(x1:qD0):Option Int:=qkq F x1 F 0
def vX (_F:Nat)(x1:Int):Option Bool:=some ((x1:Int) != x1)
def qcF (F:Nat)(x1 x2:Int):Option Int:=(vX F x1).bind fun x3=>(vX F x2).bind fun x4=>if x3 then if x4 then some 0 else some (-1) else if x4 then some 1 else if decide (x1<x2) then some (-1) else if decide (x2<x1) then some 1 else some 0
def qhY (F:Nat)(x1 x2 x3 x4:Int):Option Int:=(qcF F x1 x3).bind fun x12=>(qcF F x2 x4).bind fun x13=>(qiP F ([x12,x13]:qD0)).bind fun x16=>some x16
def vq {σ τ:Type}(_F:Nat)(yy:σ→(Int×Int)→Option (σ ⊕ τ))(x2:List (Int×Int))(r1:(Int×σ)→Option (σ ⊕ τ))(x23:Int)(x24:σ):Option (σ ⊕ τ):=if decide (x23<(x2.length:Int)) then (idx x2 x23).bind fun x54=>(yy x24 (x54.1,x54.2)).bind (Sum.elim (fun x58=>r1 (iadd .i64 x23 1,x58)) (fun x59=>some (.inr x59))) else some (.inl x24)
def kN {σ τ:Type}(F:Nat)(yy:σ→(Int×Int)→Option (σ ⊕ τ))(x2:List (Int×Int)):=lp fun r s=>vq F yy x2 r s.1 s.2
def vU {σ τ:Type}(F:Nat)(yy:σ→(Int×Int)→Option (σ ⊕ τ))(x2:List (Int×Int))(s0:σ):Option (σ ⊕ τ):=kN F yy x2 F (0,s0)
def q8 (_F:Nat)(x46:List (Int×Int))(x55 x56:Int):Option (List (Int×Int) ⊕ Empty):=(app 4398046511104 x46 ([(x55,x56)]:List (Int×Int))).bind fun x60=>some (.inl x60)
def zk (F:Nat)(x1 x5:List (Int×Int)):Option (List (Int×Int)):=(vU F (fun (x46:List (Int×Int)) ((x55,x56):(Int×Int))=>q8 F x46 x55 x56) x5 x1).bind (Sum.elim (fun (x46:List (Int×Int))=>some x46) (fun t=>t.elim))
def zQ (F:Nat)(x2:List (Int×Int)):Option (List (Int×Int)):=(zk F ([]:List (Int×Int)) x2).bind fun x5=>some x5
def kT (F:Nat)(x1:List (Int×Int)):Option (List (Int×Int)):=sortF (fun a b=>qhY F a.1 a.2 b.1 b.2) x1
def qJ (F:Nat)(x2:List (Int×Int)):Option (List (Int×Int)):=(zQ F x2).bind fun x5=>(kT F x5).bind fun x8=>chk (decide (x8.length=x5.length)) (some x8)
def qhX (F:Nat)(x1:Int)(x2:List (Int×Int)):Option (List (qD0)×Int):=(yw F x2).bind fun _x122=>(qJ F x2).bind fun x0=>(qfY F x1 x0).bind fun x3=>some (x3,0)
def qmf (F:Nat)(x1:Int)(x2:List (Int×Int))(r3:(Int×List (Int×Int))→Option (List (qD0)×Int))(x0:Int)(x3:List (Int×Int)):Option (List (qD0)×Int):=if decide (x0<(x2.length:Int)) then (idx x2 x0).bind fun x4=>if (((decide (x4.1<0) || decide (x1≤x4.1)) || decide (x4.2<0)) || decide (x1≤x4.2)) then some (([]:List (qD0)),3) else if decide (((x4.1,x4.2):Int×Int)∈x3) then some (([]:List (qD0)),6) else (sins x3 (x4.1,x4.2)).bind fun x5=>r3 (iadd .i64 x0 1,x5) else qhX F x1 x2
def qmg (F:Nat)(x1:Int)(x2:List (Int×Int)):=lp fun r s=>qmf F x1 x2 r s.1 s.2
def qkT (F:Nat)(x1:Int)(x2:List (Int×Int)):Option (List (qD0)×Int):=if (decide (x1<0) || decide (100<x1)) then some (([]:List (qD0)),3) else if decide (600<(x2.length:Int)) then some (([]:List (qD0)),2) else qmg F x1 x2 F (0,([]:List (Int×Int)))
def qgc (F:Nat)(x2:List (qD0))(_x5 _x6 _x7:Int)(x8 _x11:qD0):Option (Int×List (qD0)):=(qiQ F x2).bind fun x12=>(idx x8 0).bind fun x31=>(idx x8 1).bind fun x35=>(app 4398046511104 x12.1 ([(x31,x35)]:List (Int×Int))).bind fun x41=>(qkT F (x2.length:Int) x41).bind fun x44=>some (x44.2,x44.1)
def qbz (_F:Nat)(x1:Int)(x4:List (qD0))(_x7 _x8 _x9:Int)(_x10 _x13:qD0):Option Bool:=some (decide ((x4.length:Int)≤x1))
def kJ (_F:Nat):Option Int:=some (-1)
def zu (F:Nat)(x1:qD0)(x6:List (qD0))(x9 x10 x11:Int)(x12 x15:qD0)(r3:Int→Option Int)(x66:Int):Option Int:=if decide (x66<(x1.length:Int)) then (idx x1 x66).bind fun x86=>(qbz F x86 x6 x9 x10 x11 x12 x15).bind fun x89=>if x89 then some x66 else r3 (iadd .i64 x66 1) else kJ F
def zv (F:Nat)(x1:qD0)(x6:List (qD0))(x9 x10 x11:Int)(x12 x15:qD0):=lp fun r s=>zu F x1 x6 x9 x10 x11 x12 x15 r s
def zD (F:Nat)(x1:qD0)(x6:List (qD0))(x9 x10 x11:Int)(x12 x15:qD0):Option Int:=zv F x1 x6 x9 x10 x11 x12 x15 F 0
def zr (F:Nat)(x1:qD0)(x6:List (qD0))(x9 x10 x11:Int)(x12 x15:qD0):Option Bool:=(zD F x1 x6 x9 x10 x11 x12 x15).bind fun x16=>some (decide (0≤x16))
def kV (F:Nat)(x2:List (qD0))(x5 x6 x7:Int)(x8 x11 x12:qD0):Option Bool:=(zr F x12 x2 x5 x6 x7 x8 x11).bind fun x16=>some (!x16)
def j2 (_F:Nat)(x1:qD0)(x4 x5:Int):Option (qD0):=if 0≤x4∧x4≤x5∧x5≤(x1.length:Int)∧0<x1.length then some (x1.take x4.toNat++x1.drop x5.toNat) else none
def qft (F:Nat)(x2:List (qD0))(x5 x6 x7:Int)(x8 x11:qD0):Option (Int×List (qD0)):=(kV F x2 x5 x6 x7 x8 x11 x8).bind fun x14=>if (!x14) then some (3,x2) else (idx x8 0).bind fun x25=>(idx x2 x25).bind fun x29=>(idx x8 1).bind fun x35=>(kF F x29 x35).bind fun x38=>if decide (x38<0) then some (5,x2) else (idx x2 x25).bind fun _x61=>(j2 F x29 x38 (iadd .i64 x38 1)).bind fun x67=>lett (x2.set x25.toNat x67) fun x70=>some (0,x70)
def qge (F:Nat)(_x2:List (qD0))(_x5 _x6 _x7:Int)(x8 _x11:qD0):Option (Int×Int×Int×Int):=(idx x8 0).bind fun x24=>(idx x8 1).bind fun x28=>(idx x8 2).bind fun x32=>(vr F x24 x28 x32).bind fun x36=>some (x36,x24,x28,x32)
def yQ (_F:Nat)(x1:qD0):Option (qD0):=(app 70368744177664 ([]:qD0) x1).bind fun x8=>some x8
def qeX (F:Nat)(x1:Int)(x2:qD0):Option (Int×qD0):=(yQ F x2).bind fun x10=>some (x1,x10)
def qfK (_F:Nat)(_x1:Int)(_x2:qD0)(_x5 _x6:Int):Option Unit:=some ()
def yT (_F:Nat)(x2 x6:Int)(x15:qD0):Option (Int×qD0):=(idx x15 (iquo .i64 x2 8)).bind fun x30=>chk (decide (0≤(irem x2 8))) ((idx x15 (iquo .i64 x2 8)).bind fun _x36=>lett (x15.set (iquo .i64 x2 8).toNat (ior .u8 x30 (ishr .u8 (iconv .u8 (ishl .u64 x6 7)) (irem x2 8)))) fun x41=>some (iadd .i64 x2 1,x41))
def jg (F:Nat)(x2:Int)(x3:qD0)(x6:Int):Option (Int×qD0):=if (((irem x2 8):Int) == 0) then (app 70368744177664 x3 ([0]:qD0)).bind fun x46=>yT F x2 x6 x46 else yT F x2 x6 x3
def qaY (_F:Nat)(_x1:Int)(x2:qD0)(x5:Int):Option Int:=(idx x2 (iquo .i64 x5 8)).bind fun x7=>chk (decide (0≤(isub .i64 7 (irem x5 8)))) (lett (iand .u64 (iconv .u64 (ishr .u8 x7 (isub .i64 7 (irem x5 8)))) 1) fun x11=>some x11)
def qam {σ τ:Type}(F:Nat)(yy:σ→Int→Option (σ ⊕ τ))(x4 x6:Int)(x7:qD0)(r1:(Int×σ)→Option (σ ⊕ τ))(x22:Int)(x23:σ):Option (σ ⊕ τ):=if decide (x22<x4) then (qaY F x6 x7 x22).bind fun x44=>(yy x23 x44).bind (Sum.elim (fun x45=>r1 (iadd .i64 x22 1,x45)) (fun x46=>some (.inr x46))) else some (.inl x23)
def yL {σ τ:Type}(F:Nat)(yy:σ→Int→Option (σ ⊕ τ))(x4 x6:Int)(x7:qD0):=lp fun r s=>qam F yy x4 x6 x7 r s.1 s.2
def qef {σ τ:Type}(F:Nat)(yy:σ→Int→Option (σ ⊕ τ))(x2 x4 x6:Int)(x7:qD0)(s0:σ):Option (σ ⊕ τ):=yL F yy x4 x6 x7 F (x2,s0)
def qcE (F:Nat)(x45:Int)(x48:qD0)(x53:Int):Option ((Int×qD0) ⊕ Empty):=(jg F x45 x48 x53).bind fun x54=>some (.inl (x54.1,x54.2))
def qae (F:Nat)(x1:Int)(x2:qD0)(x5:Int)(x6:qD0):Option (Int×qD0):=(qeX F x1 x2).bind fun x12=>(qfK F x5 x6 0 x5).bind fun _x37=>(qef F (fun ((x45,x48):(Int×qD0)) (x53:Int)=>qcE F x45 x48 x53) 0 x5 x5 x6 (x12.1,x12.2)).bind (Sum.elim (fun ((x45,x48):(Int×qD0))=>some (x45,x48)) (fun t=>t.elim))
def kY (F:Nat)(x6:Int)(r1:(Int×Int×qD0)→Option (Int×qD0))(x18 x19:Int)(x22:qD0):Option (Int×qD0):=if decide (0≤x18) then chk (decide (0≤x18)) ((jg F x19 x22 (iand .u64 (ishr .u64 x6 x18) 1)).bind fun x40=>r1 (isub .i64 x18 1,x40.1,x40.2)) else some (x19,x22)
def jS (F:Nat)(x6:Int):=lp fun r s=>kY F x6 r s.1 s.2.1 s.2.2
def jh (F:Nat)(x2:Int)(x3:qD0)(x6 x7:Int):Option (Int×qD0):=jS F x6 F (isub .i64 x7 1,x2,x3)
def vA (F:Nat)(x1:Int)(x2:qD0)(x5 x6:Int):Option (Int×qD0):=(qeX F x1 x2).bind fun x9=>(jh F x9.1 x9.2 x5 x6).bind fun x13=>some (x13.1,x13.2)
def yW (_F:Nat)(x9 x10:Int):Option Int:=(idx ([0,1,2,2,3,3,3,3,4,4,4,4,4,4,4,4,5,5,5,5,5,5,5,5,5,5,5,5,5,5,5,5,6,6,6,6,6,6,6,6,6,6,6,6,6,6,6,6,6,6,6,6,6,6,6,6,6,6,6,6,6,6,6,6,7,7,7,7,7,7,7,7,7,7,7,7,7,7,7,7,7,7,7,7,7,7,7,7,7,7,7,7,7,7,7,7,7,7,7,7,7,7,7,7,7,7,7,7,7,7,7,7,7,7,7,7,7,7,7,7,7,7,7,7,7,7,7,7,8,8,8,8,8,8,8,8,8,8,8,8,8,8,8,8,8,8,8,8,8,8,8,8,8,8,8,8,8,8,8,8,8,8,8,8,8,8,8,8,8,8,8,8,8,8,8,8,8,8,8,8,8,8,8,8,8,8,8,8,8,8,8,8,8,8,8,8,8,8,8,8,8,8,8,8,8,8,8,8,8,8,8,8,8,8,8,8,8,8,8,8,8,8,8,8,8,8,8,8,8,8,8,8,8,8,8,8,8,8,8,8,8,8,8,8,8,8,8,8,8,8,8,8,8,8,8,8]:qD0) (iconv .u8 x9)).bind fun x11=>some (iadd .i64 x10 (iconv .i64 x11))
def yV (F:Nat)(x6 x7:Int):Option Int:=if decide (256≤x6) then yW F (ishr .u64 x6 8) (iadd .i64 x7 8) else yW F x6 x7
def yU (F:Nat)(x3 x4:Int):Option Int:=if decide (65536≤x3) then yV F (ishr .u64 x3 16) (iadd .i64 x4 16) else yV F x3 x4
def ve (F:Nat)(x1:Int):Option Int:=if decide (4294967296≤x1) then yU F (ishr .u64 x1 32) 32 else yU F x1 0
def qeD (F:Nat)(x1:Int):Option Int:=(ve F (iadd .u64 x1 1)).bind fun x2=>some (isub .i64 x2 1)
def qd9 (F:Nat)(x1:Int):Option (Int×qD0):=(mk 140737488355328 (0:Int) (iquo .u64 (iadd .u64 x1 7) 8)).bind fun x3=>(vA F (iconv .i64 x1) x3 1 1).bind fun x6=>some (x6.1,x6.2)
def qfu (_F:Nat)(x1 x2:Int):Option Int:=chk (decide (0≤x2)) (lett (iand .u64 x1 (isub .u64 (ishl .u64 1 x2) 1)) fun x4=>some x4)
def jW (F:Nat)(x1:Int):Option (Int×qD0):=(qeD F x1).bind fun x3=>(qd9 F (iconv .u64 x3)).bind fun x4=>(qfu F (iadd .u64 x1 1) x3).bind fun x7=>(vA F x4.1 x4.2 x7 x3).bind fun x8=>some (x8.1,x8.2)
def qd7 (_F:Nat)(x1:Int):Option Bool:=some (decide (0≤x1) && decide (x1≤1048576))
def qgY (_F:Nat):Option Int:=some 0
def qeq (F:Nat)(x1:qD0)(r3:(Int×Int)→Option Int)(x88 x89:Int):Option Int:=if decide (x89<(x1.length:Int)) then (idx x1 x89).bind fun x0=>(qd7 F x0).bind fun x2=>if (!x2) then some 3 else if decide (x0≤x88) then some 4 else r3 (x0,iadd .i64 x89 1) else qgY F
def qer (F:Nat)(x1:qD0):=lp fun r s=>qeq F x1 r s.1 s.2
def jr (F:Nat)(x1:qD0):Option Int:=if decide (300<(x1.length:Int)) then some 2 else qer F x1 F (-1,0)
def jy (F:Nat)(x2:Int)(x3:qD0)(x7:Int)(x8:qD0)(x13:Bool):Option (Int×qD0×Bool):=if (!x13) then (qae F x2 x3 x7 x8).bind fun x14=>some (x14.1,x14.2,x13) else some (x2,x3,x13)
def vh (F:Nat)(x2:Int)(x3:qD0)(x6:Bool)(x7:Int)(x8:qD0):Option (Int×qD0×Bool):=if x6 then jy F x2 x3 x7 x8 true else jy F x2 x3 x7 x8 (decide (8192<(iadd .i64 x2 x7)))
def q7 (F:Nat)(x2:Int)(x3:qD0)(x6:Bool)(x7:Int):Option (Int×qD0×Bool):=(jW F (iconv .u64 x7)).bind fun x8=>(vh F x2 x3 x6 x8.1 x8.2).bind fun x11=>some (x11.1,x11.2.1,x11.2.2)
def qba (_F:Nat)(x1 x2:Int)(x6:Bool):Option Bool:=some (x6 || decide (x1<x2))
def qcG (F:Nat)(x1 x2:Int):Option Bool:=(vX F x1).bind fun x3=>if x3 then (vX F x2).bind fun x8=>qba F x1 x2 (!x8) else qba F x1 x2 false
def qaA (_F:Nat)(x1:Int):Option Bool:=some ((x1:Int) != x1)
def yh (_F:Nat)(x32:Int)(x55:Bool):Option (Int×Bool):=some (x32,x55)
def yi (F:Nat)(x32:Int)(x68:Bool):Option (Int×Bool):=yh F x32 x68
def yj (F:Nat)(x32:Int)(x75:Bool):Option (Int×Bool):=yi F x32 x75
def yg (F:Nat)(x1:qD0)(x4 x32:Int):Option (Int×Bool):=if decide (x32<(x1.length:Int)) then (idx x1 x32).bind fun x56=>if ((x56:Int) == x4) then yi F x32 true else (idx x1 x32).bind fun x69=>(qaA F x69).bind fun x72=>if x72 then (qaA F x4).bind fun x76=>yj F x32 x76 else yj F x32 false else yh F x32 false
def yc (F:Nat)(x1:qD0)(x4:Int)(r10:(Int×Int)→Option (Int×Bool))(x85 x86:Int):Option (Int×Bool):=if decide (x85<x86) then lett (iconv .i64 (ishr .u64 (iconv .u64 (iadd .i64 x85 x86)) 1)) fun x97=>(idx x1 x97).bind fun x98=>(qcG F x98 x4).bind fun x0=>if x0 then r10 (iadd .i64 x97 1,x86) else r10 (x85,x97) else yg F x1 x4 x85
def yd (F:Nat)(x1:qD0)(x4:Int):=lp fun r s=>yc F x1 x4 r s.1 s.2
def zl (F:Nat)(x1:qD0)(x4:Int):Option (Int×Bool):=yd F x1 x4 F (0,(x1.length:Int))
def vQ (_F:Nat)(x21:qD0)(x22:Bool)(x23:Int):Option (qD0×Bool×Int):=some (x21,x22,iadd .i64 x23 1)
def qaw (F:Nat)(x2:qD0)(x5:Bool)(x6:Int)(x7:Bool):Option (qD0×Bool×Int):=if (x7 != x5) then (app 8796093022208 x2 ([x6]:qD0)).bind fun x31=>vQ F x31 x7 0 else vQ F x2 x5 x6
def qfd (_F:Nat)(x66 x0:qD0):Option (qD0×qD0):=some (x66,x0)
def qci (_F:Nat)(r10:(qD0×Int)→Option (qD0×qD0))(x0:Int)(x1:qD0):Option (qD0×qD0):=r10 (x1,iadd .i64 x0 1)
def qev (F:Nat)(x1 x4 x66:qD0)(r10:(qD0×Int)→Option (qD0×qD0))(x0:qD0)(x2:Int):Option (qD0×qD0):=if decide (x2<(x4.length:Int)) then (idx x4 x2).bind fun x3=>(zl F x1 x3).bind fun x5=>if (!x5.2) then (app 8796093022208 x0 ([x3]:qD0)).bind fun x6=>qci F r10 x2 x6 else qci F r10 x2 x0 else qfd F x66 x0
def qcj (F:Nat)(x1 x4 x66:qD0):=lp fun r s=>qev F x1 x4 x66 r s.1 s.2
def qfc (F:Nat)(x1 x4 x66:qD0)(_x67:Bool)(_x68:Int):Option (qD0×qD0):=qcj F x1 x4 x66 F (([]:qD0),0)
def qew (F:Nat)(x1 x4:qD0)(r12:(Int×qD0×Bool×Int)→Option (qD0×qD0))(x0:Int)(x2:qD0)(x3:Bool)(x5:Int):Option (qD0×qD0):=if decide (x0<(x1.length:Int)) then (idx x1 x0).bind fun x6=>(zl F x4 x6).bind fun x7=>(qaw F x2 x3 x5 x7.2).bind fun x8=>r12 (iadd .i64 x0 1,x8.1,x8.2.1,x8.2.2) else qfc F x1 x4 x2 x3 x5
def qex (F:Nat)(x1 x4:qD0):=lp fun r s=>qew F x1 x4 r s.1 s.2.1 s.2.2.1 s.2.2.2
def qfA (F:Nat)(x1 x4:qD0):Option (qD0×qD0):=qex F x1 x4 F (0,([]:qD0),true,0)
def j8 (F:Nat)(x7:qD0)(r1:(Int×Int×qD0×Bool)→Option (Int×qD0×Bool))(x27 x28:Int)(x31:qD0)(x32:Bool):Option (Int×qD0×Bool):=if decide (x27<(x7.length:Int)) then (idx x7 x27).bind fun x55=>(q7 F x28 x31 x32 (isub .i64 x55 (imin x27 1))).bind fun x58=>r1 (iadd .i64 x27 1,x58.1,x58.2.1,x58.2.2) else some (x28,x31,x32)
def j9 (F:Nat)(x7:qD0):=lp fun r s=>j8 F x7 r s.1 s.2.1 s.2.2.1 s.2.2.2
def jz (F:Nat)(x2:Int)(x3:qD0)(x6:Bool)(x7:qD0):Option (Int×qD0×Bool):=(q7 F x2 x3 x6 (x7.length:Int)).bind fun x10=>j9 F x7 F (0,x10.1,x10.2.1,x10.2.2)
def qhe (_F:Nat)(_x1:qD0):Option Unit:=some ()
def qbo {σ τ:Type}(_F:Nat)(yy:σ→(Int×Int)→Option (σ ⊕ τ))(r31:(Int×σ)→Option (σ ⊕ τ))(x2:qD0)(x0:Int)(x1:σ)(x3:Int):Option (σ ⊕ τ):=(idx x2 x0).bind fun x4=>(yy x1 (x4,x3)).bind (Sum.elim (fun x5=>r31 (iadd .i64 x0 x3,x5)) (fun x6=>some (.inr x6)))
def qbp {σ τ:Type}(F:Nat)(yy:σ→(Int×Int)→Option (σ ⊕ τ))(r31:(Int×σ)→Option (σ ⊕ τ))(r44:Int→Option (σ ⊕ τ))(x2:qD0)(x0:Int)(x1:σ)(x3:Int)(x4:Bool):Option (σ ⊕ τ):=if x4 then r44 (iadd .i64 x3 1) else qbo F yy r31 x2 x0 x1 x3
def qbn {σ τ:Type}(F:Nat)(yy:σ→(Int×Int)→Option (σ ⊕ τ))(r31:(Int×σ)→Option (σ ⊕ τ))(x2:qD0)(x0:Int)(x1:σ)(r44:Int→Option (σ ⊕ τ))(x3:Int):Option (σ ⊕ τ):=if decide ((iadd .i64 x0 x3)<(x2.length:Int)) then (idx x2 (iadd .i64 x0 x3)).bind fun x4=>(idx x2 x0).bind fun x5=>qbp F yy r31 r44 x2 x0 x1 x3 ((x4:Int) == (iadd .i64 x5 x3)) else qbp F yy r31 r44 x2 x0 x1 x3 false
def vf {σ τ:Type}(F:Nat)(yy:σ→(Int×Int)→Option (σ ⊕ τ))(r31:(Int×σ)→Option (σ ⊕ τ))(x2:qD0)(x0:Int)(x1:σ):=lp fun r s=>qbn F yy r31 x2 x0 x1 r s
def qbm {σ τ:Type}(F:Nat)(yy:σ→(Int×Int)→Option (σ ⊕ τ))(x2:qD0)(r31:(Int×σ)→Option (σ ⊕ τ))(x0:Int)(x1:σ):Option (σ ⊕ τ):=if decide (x0<(x2.length:Int)) then vf F yy r31 x2 x0 x1 F 1 else some (.inl x1)
def zi {σ τ:Type}(F:Nat)(yy:σ→(Int×Int)→Option (σ ⊕ τ))(x2:qD0):=lp fun r s=>qbm F yy x2 r s.1 s.2
def qb4 {σ τ:Type}(F:Nat)(yy:σ→(Int×Int)→Option (σ ⊕ τ))(x2:qD0)(s0:σ):Option (σ ⊕ τ):=zi F yy x2 F (0,s0)
def qfZ (_F:Nat)(x0:List (Int×Int))(x1 x2:Int)(r8:(Int×qD0)→Option ((qD0×List (Int×Int)) ⊕ Empty))(x3:Int)(x4:qD0):Option ((qD0×List (Int×Int)) ⊕ Empty):=if decide (x3<x2) then (app 8796093022208 x4 ([iadd .i64 x1 x3]:qD0)).bind fun x5=>r8 (iadd .i64 x3 1,x5) else some (.inl (x4,x0))
def qf0 (F:Nat)(x0:List (Int×Int))(x1 x2:Int):=lp fun r s=>qfZ F x0 x1 x2 r s.1 s.2
def qb3 (F:Nat)(x4:Int)(x0:qD0)(x1:List (Int×Int))(x2 x3:Int):Option ((qD0×List (Int×Int)) ⊕ Empty):=if decide (x4≤x3) then (app 4398046511104 x1 ([(x2,x3)]:List (Int×Int))).bind fun x5=>some (.inl (x0,x5)) else qf0 F x1 x2 x3 F (0,x0)
def qgC (F:Nat)(x1:qD0)(x4:Int):Option (List (Int×Int)×qD0):=(qhe F x1).bind fun _x188=>(qb4 F (fun ((x0,x2):(qD0×List (Int×Int))) ((x3,x5):(Int×Int))=>qb3 F x4 x0 x2 x3 x5) x1 (([]:qD0),([]:List (Int×Int)))).bind (Sum.elim (fun ((x0,x2):(qD0×List (Int×Int)))=>some (x2,x0)) (fun t=>t.elim))
def qb6 (_F:Nat)(x1:Int):Option Int:=lett (ixor .u64 (ishl .u64 (iconv .u64 x1) 1) (iconv .u64 (ishr .i64 x1 63))) fun x2=>some x2
def yJ (F:Nat)(r5:(Int×Int×Int×qD0×Bool)→Option (Int×qD0×Bool))(x8 x74:Int)(x0:(Int×Int))(x1:Int)(x2:qD0)(x3:Bool):Option (Int×qD0×Bool):=(q7 F x1 x2 x3 (isub .i64 x0.2 x8)).bind fun x4=>r5 (isub .i64 (iadd .i64 x0.1 x0.2) 1,iadd .i64 x74 1,x4.1,x4.2.1,x4.2.2)
def qa8 (F:Nat)(x8:Int)(x9:List (Int×Int))(r5:(Int×Int×Int×qD0×Bool)→Option (Int×qD0×Bool))(x73 x74 x75:Int)(x78:qD0)(x79:Bool):Option (Int×qD0×Bool):=if decide (x74<(x9.length:Int)) then (idx x9 x74).bind fun x0=>if ((x74:Int) == 0) then (qb6 F (isub .i64 x0.1 x73)).bind fun x1=>(q7 F x75 x78 x79 (iconv .i64 x1)).bind fun x2=>yJ F r5 x8 x74 x0 x2.1 x2.2.1 x2.2.2 else (q7 F x75 x78 x79 (isub .i64 (isub .i64 x0.1 x73) 2)).bind fun x3=>yJ F r5 x8 x74 x0 x3.1 x3.2.1 x3.2.2 else some (x75,x78,x79)
def yK (F:Nat)(x8:Int)(x9:List (Int×Int)):=lp fun r s=>qa8 F x8 x9 r s.1 s.2.1 s.2.2.1 s.2.2.2.1 s.2.2.2.2
def qaF (F:Nat)(x2:Int)(x3:qD0)(x6:Bool)(x7 x8:Int)(x9:List (Int×Int)):Option (Int×qD0×Bool):=(q7 F x2 x3 x6 (x9.length:Int)).bind fun x12=>yK F x8 x9 F (x7,0,x12.1,x12.2.1,x12.2.2)
def qdO (F:Nat)(x1 x2:Int):Option (Int×Int×Int):=(ve F (iadd .u64 x1 1)).bind fun x3=>chk ((x2:Int) != 0) (chk (decide (0≤(imul .i64 (iquo .i64 (isub .i64 x3 1) x2) x2))) (chk (decide (0≤(iadd .i64 (imul .i64 (iquo .i64 (isub .i64 x3 1) x2) x2) x2))) (some (iquo .i64 (isub .i64 x3 1) x2,ishl .u64 1 (imul .i64 (iquo .i64 (isub .i64 x3 1) x2) x2),ishl .u64 1 (iadd .i64 (imul .i64 (iquo .i64 (isub .i64 x3 1) x2) x2) x2)))))
def qbE (F:Nat)(x1:Int):Option (Int×Int):=(ve F (isub .u64 x1 1)).bind fun x2=>chk (decide (0≤x2)) (some (x2,isub .u64 (ishl .u64 1 x2) x1))
def qbg (F:Nat)(x1:Int)(x2:qD0)(x5 x6:Int):Option (Int×qD0):=(qbE F x6).bind fun x9=>if decide (x5<x9.2) then (vA F x1 x2 x5 (isub .i64 x9.1 1)).bind fun x14=>some (x14.1,x14.2) else (vA F x1 x2 (iadd .u64 x5 x9.2) x9.1).bind fun x17=>some (x17.1,x17.2)
def qdN (F:Nat)(x1 x2:Int):Option (Int×qD0×Int):=if ((decide (x2<1) || decide (16<x2)) || decide (1099511627776<x1)) then some (0,([]:qD0),3) else (qdO F x1 x2).bind fun x9=>(qd9 F (iconv .u64 x9.1)).bind fun x10=>(qbg F x10.1 x10.2 (isub .u64 (iadd .u64 x1 1) x9.2.1) (isub .u64 x9.2.2 x9.2.1)).bind fun x13=>some (x13.1,x13.2,0)
def qhW (_F:Nat)(x0:Int)(x1:qD0):Option (Int×qD0×Bool):=some (x0,x1,true)
def qfT (F:Nat)(x5:qD0)(x8:Int)(r3:(Int×Int×qD0)→Option (Int×qD0×Bool))(x0 x1:Int)(x2:qD0):Option (Int×qD0×Bool):=if decide (x0<(x5.length:Int)) then (idx x5 x0).bind fun x3=>(qdN F x3 x8).bind fun x4=>if (((x4.2.2:Int) != 0) || decide (8192<(iadd .i64 x1 x4.1))) then some (0,([]:qD0),false) else (qae F x1 x2 x4.1 x4.2.1).bind fun x6=>r3 (iadd .i64 x0 1,x6.1,x6.2) else qhW F x1 x2
def qfU (F:Nat)(x5:qD0)(x8:Int):=lp fun r s=>qfT F x5 x8 r s.1 s.2.1 s.2.2
def qe9 (F:Nat)(x1:Int)(x2 x5:qD0)(x8:Int):Option (Int×qD0×Bool):=qfU F x5 x8 F (0,x1,x2)
def qbD (_F:Nat)(x4 x8:Int):Option (Int×Int×Bool):=some (x8,x4,true)
def qbe (F:Nat)(x2:Int)(x3:Bool)(x4:Int):Option (Int×Int×Bool):=if x3 then lett (iconv .u64 (isub .i64 (isub .i64 x4 x2) 1)) fun x9=>qbD F x4 x9 else (qb6 F (isub .i64 x4 x2)).bind fun x10=>qbD F x4 x10
def qfW (_F:Nat)(x75:qD0):Option (qD0):=some x75
def qfV (F:Nat)(x1:qD0)(r3:(qD0×Int×Int×Bool)→Option (qD0))(x98:qD0)(x99 x0:Int)(x2:Bool):Option (qD0):=if decide (x99<(x1.length:Int)) then (idx x1 x99).bind fun x3=>(qbe F x0 x2 x3).bind fun x4=>(app 8796093022208 x98 ([x4.1]:qD0)).bind fun x5=>r3 (x5,iadd .i64 x99 1,x4.2.1,x4.2.2) else qfW F x98
def qfX (F:Nat)(x1:qD0):=lp fun r s=>qfV F x1 r s.1 s.2.1 s.2.2.1 s.2.2.2
def qgA (F:Nat)(x1:qD0)(x4:Int):Option (qD0):=qfX F x1 F (([]:qD0),0,x4,false)
def qa7 (F:Nat)(x52:Int)(x55:qD0)(x56 x76:Bool)(x77:Int)(x80:qD0):Option (Int×qD0×Bool):=(vh F x52 x55 (x56 || (!x76)) x77 x80).bind fun x82=>some (x82.1,x82.2.1,x82.2.2)
def yI (F:Nat)(x7 x16:Int)(x51:qD0)(x52:Int)(x55:qD0)(x56:Bool):Option (Int×qD0×Bool):=(qgA F x51 x7).bind fun x85=>(qe9 F 0 ([]:qD0) x85 x16).bind fun x88=>qa7 F x52 x55 x56 x88.2.2 x88.1 x88.2.1
def yH (F:Nat)(x7 x15 x16:Int)(x33:qD0)(x34:Int)(x37:qD0)(x38:Bool):Option (Int×qD0×Bool):=if (((x33.length:Int):Int) == 0) then some (x34,x37,x38) else if decide (0<x15) then (qgC F x33 x15).bind fun x0=>(qaF F x34 x37 x38 x7 x15 x0.1).bind fun x1=>yI F x7 x16 x0.2 x1.1 x1.2.1 x1.2.2 else yI F x7 x16 x33 x34 x37 x38
def vK (F:Nat)(x2:Int)(x3:qD0)(x6:Bool)(x7:Int)(x8 x11:qD0)(x14 x15 x16:Int):Option (Int×qD0×Bool):=(q7 F x2 x3 x6 (x8.length:Int)).bind fun x18=>if (((x8.length:Int):Int) == 0) then some (x18.1,x18.2.1,x18.2.2) else if decide (0<x14) then (qfA F x11 x8).bind fun x0=>(jz F x18.1 x18.2.1 x18.2.2 x0.1).bind fun x1=>yH F x7 x15 x16 x0.2 x1.1 x1.2.1 x1.2.2 else yH F x7 x15 x16 x8 x18.1 x18.2.1 x18.2.2
def qeK (F:Nat)(x1:Int)(x2:qD0)(x5 _x6 _x7:Int):Option Int:=if (decide (x1<0) || decide (1048576<x1)) then some 3 else if decide (0<x5) then (jr F x2).bind fun x14=>some x14 else some 0
def qaT (F:Nat)(x1:Int)(x2 x5:qD0)(x8 x9 x10 x25:Int):Option (Int×qD0×Int):=if ((x25:Int) != 0) then some (0,([]:qD0),x25) else (vK F 0 ([]:qD0) false x1 x2 x5 x8 x9 x10).bind fun x28=>if x28.2.2 then some (0,([]:qD0),8) else some (x28.1,x28.2.1,0)
def qaS (F:Nat)(x1:Int)(x2 x5:qD0)(x8 x9 x10 x22:Int):Option (Int×qD0×Int):=if ((x22:Int) == 0) then (qeK F x1 x5 x8 x9 x10).bind fun x34=>qaT F x1 x2 x5 x8 x9 x10 x34 else qaT F x1 x2 x5 x8 x9 x10 x22
def qaR (F:Nat)(x1:Int)(x2 x5:qD0)(x8 x9 x10 x19:Int):Option (Int×qD0×Int):=if ((x19:Int) == 0) then (jr F x2).bind fun x36=>qaS F x1 x2 x5 x8 x9 x10 x36 else qaS F x1 x2 x5 x8 x9 x10 x19
def qaU (F:Nat)(x1:Int)(x2 x5:qD0)(x8 x9 x10 x13:Int)(x40:Bool):Option (Int×qD0×Int):=if x40 then qaR F x1 x2 x5 x8 x9 x10 3 else qaR F x1 x2 x5 x8 x9 x10 x13
def qeJ (F:Nat)(x1:Int)(x2 x5:qD0)(x8 x9 x10:Int):Option (Int×qD0×Int):=(vr F x8 x9 x10).bind fun x13=>if ((x13:Int) == 0) then qaU F x1 x2 x5 x8 x9 x10 x13 (decide (x1<0) || decide (1048576<x1)) else qaU F x1 x2 x5 x8 x9 x10 x13 false
def qbH (F:Nat)(x1:List (qD0))(x4:qD0)(x7 x9 x10 x18:Int)(x21 x29:qD0):Option (Int×Int×qD0×Bool):=(qeJ F (x1.length:Int) x4 x29 x7 x9 x10).bind fun x30=>if (((x30.2.2:Int) != 0) || decide (8192<(iadd .i64 x18 x30.1))) then some (0,0,([]:qD0),false) else (qae F x18 x21 x30.1 x30.2.1).bind fun x37=>some (x7,x37.1,x37.2,true)
def qbG (F:Nat)(x1:List (qD0))(x4:qD0)(x7 x9 x10 x18:Int)(x21:qD0):Option (Int×Int×qD0×Bool):=if decide (0<x7) then (idx x1 (isub .i64 (x1.length:Int) x7)).bind fun x41=>qbH F x1 x4 x7 x9 x10 x18 x21 x41 else qbH F x1 x4 x7 x9 x10 x18 x21 ([]:qD0)
def qfz (F:Nat)(x1:List (qD0))(x4:qD0)(x7 x8 x9 x10:Int):Option (Int×Int×qD0×Bool):=if decide (0<x8) then (jW F (iconv .u64 x7)).bind fun x46=>qbG F x1 x4 x7 x9 x10 x46.1 x46.2 else qbG F x1 x4 x7 x9 x10 0 ([]:qD0)
def qfb (_F:Nat)(x96:Bool)(x97 x98:Int)(x0:qD0):Option (Int×Int×qD0×Bool):=some (x97,x98,x0,x96)
def vl (_F:Nat)(r14:(Bool×Int×Int×Int×qD0)→Option (Int×Int×qD0×Bool))(x0:Int)(x1:Bool)(x2 x3:Int)(x4:qD0):Option (Int×Int×qD0×Bool):=r14 (x1,iadd .i64 x0 1,x2,x3,x4)
def qch (F:Nat)(r14:(Bool×Int×Int×Int×qD0)→Option (Int×Int×qD0×Bool))(x0:Bool)(x1 x2 x3:Int)(x4:qD0)(x5:(Int×Int×qD0×Bool))(x6:Bool):Option (Int×Int×qD0×Bool):=if x6 then vl F r14 x1 true x5.1 x5.2.1 x5.2.2.1 else vl F r14 x1 x0 x2 x3 x4
def qes (F:Nat)(x1:List (qD0))(x4:qD0)(x7 x8 x9:Int)(r14:(Bool×Int×Int×Int×qD0)→Option (Int×Int×qD0×Bool))(x0:Bool)(x2 x3 x5:Int)(x6:qD0):Option (Int×Int×qD0×Bool):=if decide (x2<(iadd .i64 (imin x7 (x1.length:Int)) 1)) then (qfz F x1 x4 x2 x7 x8 x9).bind fun x10=>if x10.2.2.2 then qch F r14 x0 x2 x3 x5 x6 x10 ((!x0) || decide (x10.2.1<x5)) else qch F r14 x0 x2 x3 x5 x6 x10 false else qfb F x0 x3 x5 x6
def vm (F:Nat)(x1:List (qD0))(x4:qD0)(x7 x8 x9:Int):=lp fun r s=>qes F x1 x4 x7 x8 x9 r s.1 s.2.1 s.2.2.1 s.2.2.2.1 s.2.2.2.2
def qhd (F:Nat)(x1:List (qD0))(x4:qD0)(x7 x8 x9:Int):Option (Int×Int×qD0×Bool):=vm F x1 x4 x7 x8 x9 F (false,0,0,0,([]:qD0))
def qar (_F:Nat)(x2 x3 x4 x5 x0:Int)(x1 x6 x7:qD0):Option (Bool×Int×Int×Int×Int×Int×qD0×qD0×qD0):=some (true,x2,x3,x4,x5,x0,x1,x6,x7)
def qat (F:Nat)(r43:(Int×Int×qD0×qD0×qD0)→Option (Bool×Int×Int×Int×Int×Int×qD0×qD0×qD0))(x0 x1:Int)(x2:qD0)(x3:Int)(x4 x5 x6:qD0):Option (Bool×Int×Int×Int×Int×Int×qD0×qD0×qD0):=(qae F x1 x2 x3 x4).bind fun x7=>r43 (iadd .i64 x0 1,x7.1,x7.2,x5,x6)
def ye (F:Nat)(r43:(Int×Int×qD0×qD0×qD0)→Option (Bool×Int×Int×Int×Int×Int×qD0×qD0×qD0))(x2 x3 x4 x5 x0 x1:Int)(x6 x7 x8:qD0)(x9 x10:Int)(x11:qD0)(x12:Bool):Option (Bool×Int×Int×Int×Int×Int×qD0×qD0×qD0):=if x12 then some (false,x2,x3,x4,x5,x1,x6,x7,x8) else (app 8796093022208 x7 ([x9]:qD0)).bind fun x13=>(app 8796093022208 x8 ([x1]:qD0)).bind fun x14=>qat F r43 x0 x1 x6 x10 x11 x13 x14
def qas (F:Nat)(r43:(Int×Int×qD0×qD0×qD0)→Option (Bool×Int×Int×Int×Int×Int×qD0×qD0×qD0))(x2 x3 x4 x5 x0 x1:Int)(x6 x7 x8:qD0)(x9:Bool)(x10 x11:Int)(x12:qD0):Option (Bool×Int×Int×Int×Int×Int×qD0×qD0×qD0):=if (!x9) then ye F r43 x2 x3 x4 x5 x0 x1 x6 x7 x8 x10 x11 x12 true else ye F r43 x2 x3 x4 x5 x0 x1 x6 x7 x8 x10 x11 x12 (decide (8192<(iadd .i64 x1 x11)))
def qaq (F:Nat)(x2 x3 x4 x5:Int)(x16:List (qD0))(r43:(Int×Int×qD0×qD0×qD0)→Option (Bool×Int×Int×Int×Int×Int×qD0×qD0×qD0))(x0 x1:Int)(x6 x7 x8:qD0):Option (Bool×Int×Int×Int×Int×Int×qD0×qD0×qD0):=if decide (x0<(x16.length:Int)) then (idx x16 x0).bind fun x9=>(sub x16 0 x0).bind fun x10=>(qhd F x10 x9 x3 x4 x5).bind fun x11=>qas F r43 x2 x3 x4 x5 x0 x1 x6 x7 x8 x11.2.2.2 x11.1 x11.2.1 x11.2.2.1 else qar F x2 x3 x4 x5 x1 x6 x7 x8
def kD (F:Nat)(x2 x3 x4 x5:Int)(x16:List (qD0)):=lp fun r s=>qaq F x2 x3 x4 x5 x16 r s.1 s.2.1 s.2.2.1 s.2.2.2.1 s.2.2.2.2
def qcp (F:Nat)(x2 x3 x4 x5 x6:Int)(x7 x10 x13:qD0)(x16:List (qD0)):Option (Bool×Int×Int×Int×Int×Int×qD0×qD0×qD0):=kD F x2 x3 x4 x5 x16 F (0,x6,x7,x10,x13)
def vv (_F:Nat)(x48 x49 x50 x51 x52 x53:Int)(x56 x59 x62:qD0):Option (Int×Int×Int×Int×Int×qD0×qD0×qD0×Int):=some (x49,x50,x51,x52,x53,x56,x59,x62,x48)
def vw (F:Nat)(x12:Int)(x74:Bool)(x75 x76 x77 x78 x79:Int)(x82 x85 x88:qD0):Option (Int×Int×Int×Int×Int×qD0×qD0×qD0×Int):=if x74 then vv F 8 x75 x76 x77 x78 x79 x82 x85 x88 else vv F x12 x75 x76 x77 x78 x79 x82 x85 x88
def jZ (F:Nat)(x1:List (qD0))(x4 x5 x6 x12:Int):Option (Int×Int×Int×Int×Int×qD0×qD0×qD0×Int):=if ((x12:Int) == 0) then (qcp F (x1.length:Int) x4 x5 x6 0 ([]:qD0) ([]:qD0) ([]:qD0) x1).bind fun x90=>vw F x12 (!x90.1) x90.2.1 x90.2.2.1 x90.2.2.2.1 x90.2.2.2.2.1 x90.2.2.2.2.2.1 x90.2.2.2.2.2.2.1 x90.2.2.2.2.2.2.2.1 x90.2.2.2.2.2.2.2.2 else vw F x12 false (x1.length:Int) x4 x5 x6 0 ([]:qD0) ([]:qD0) ([]:qD0)
def qb2 (F:Nat)(x1:List (qD0))(x4 x5 x6:Int):Option (Int×Int×Int×Int×Int×qD0×qD0×qD0×Int):=(kB F x1).bind fun x9=>if ((x9:Int) == 0) then (vr F x4 x5 x6).bind fun x97=>jZ F x1 x4 x5 x6 x97 else jZ F x1 x4 x5 x6 x9
def qbR (F:Nat)(x1:List (qD0))(x4 x5 x6:Int):Option (Int×Int×Int×Int×Int×qD0×Int):=(qb2 F x1 x4 x5 x6).bind fun x10=>if ((x10.2.2.2.2.2.2.2.2:Int) != 0) then some (0,0,0,0,0,([]:qD0),x10.2.2.2.2.2.2.2.2) else some (x10.1,x10.2.1,x10.2.2.1,x10.2.2.2.1,x10.2.2.2.2.1,x10.2.2.2.2.2.1,0)
def qd5 (_F:Nat)(x21 _x22 _x23 _x24 _x25 x26:Int)(_x29:qD0):Option (Int×qD0):=(itoaC x26).bind fun x30=>some (x21,x30)
def qfs (F:Nat)(x2:List (qD0))(x5 x6 x7:Int)(_x8 _x11:qD0):Option (Int×qD0):=(qbR F x2 x5 x6 x7).bind fun x31=>qd5 F x31.2.2.2.2.2.2 x31.1 x31.2.1 x31.2.2.1 x31.2.2.2.1 x31.2.2.2.2.1 x31.2.2.2.2.2.1
def qd8 (F:Nat)(x1:List (qD0))(x4 x5 x6:Int):Option (qD0×qD0×Int):=(qb2 F x1 x4 x5 x6).bind fun x9=>if ((x9.2.2.2.2.2.2.2.2:Int) != 0) then some (([]:qD0),([]:qD0),x9.2.2.2.2.2.2.2.2) else some (x9.2.2.2.2.2.2.1,x9.2.2.2.2.2.2.2.1,0)
def qgW (_F:Nat):Option Int:=some 0
def qeo (F:Nat)(x1:qD0)(x4:Int)(r3:(Int×Int)→Option Int)(x92 x93:Int):Option Int:=if decide (x93<(x1.length:Int)) then (idx x1 x93).bind fun x0=>if (decide (x0<0) || decide (x4<x0)) then some 3 else if decide (x0<x92) then some 4 else r3 (x0,iadd .i64 x93 1) else qgW F
def qep (F:Nat)(x1:qD0)(x4:Int):=lp fun r s=>qeo F x1 x4 r s.1 s.2
def qcN (F:Nat)(x1:qD0)(x4:Int):Option Int:=if (decide (x4<0) || decide (1048576<x4)) then some 3 else if decide (300<(x1.length:Int)) then some 2 else qep F x1 x4 F (0,0)
def qgX (_F:Nat)(x35:Int):Option Int:=some x35
def jY (F:Nat)(r13:Int→Option Int)(x46:Int)(x65:Bool):Option Int:=if x65 then r13 (iadd .i64 x46 1) else qgX F x46
def qdw (F:Nat)(x1 x2:Int)(r13:Int→Option Int)(x46:Int):Option Int:=if decide (0<x1) then chk (decide (0≤(iadd .i64 x46 1))) (jY F r13 x46 (decide ((ishl .i64 x1 (iadd .i64 x46 1))≤(iadd .i64 x2 1)))) else jY F r13 x46 false
def qbO (F:Nat)(x1 x2:Int):=lp fun r s=>qdw F x1 x2 r s
def qcS (F:Nat)(x1 x2:Int):Option Int:=qbO F x1 x2 F 0
def qa2 (F:Nat)(x7:Int)(r1:(Int×qD0×Int)→Option (Int×qD0×Int))(x16:Int)(x19:qD0)(x20:Int):Option (Int×qD0×Int):=if decide (x20<x7) then (vA F x16 x19 0 1).bind fun x34=>r1 (x34.1,x34.2,iadd .i64 x20 1) else some (x16,x19,x20)
def qa3 (F:Nat)(x7:Int):=lp fun r s=>qa2 F x7 r s.1 s.2.1 s.2.2
def vC (F:Nat)(x2:Int)(x3:qD0)(x6 x7:Int):Option (Int×qD0×Int):=qa3 F x7 F (x2,x3,x6)
def qfR (F:Nat)(x1:qD0)(x4 x6 x0:Int)(x2:qD0)(x3 x5:Int)(x7:qD0):Option (Int×Int×Int×Int×qD0×Int×qD0×Bool):=(vC F x0 x2 x3 (iadd .i64 (ishr .i64 x4 x6) 1)).bind fun x8=>some ((x1.length:Int),x4,x6,x5,x7,x8.1,x8.2.1,true)
def qfQ (F:Nat)(x1:qD0)(x4 x6:Int)(r3:(Int×Int×qD0×Int×Int×qD0)→Option (Int×Int×Int×Int×qD0×Int×qD0×Bool))(x0 x2:Int)(x3:qD0)(x5 x7:Int)(x8:qD0):Option (Int×Int×Int×Int×qD0×Int×qD0×Bool):=if decide (x0<(x1.length:Int)) then (idx x1 x0).bind fun x9=>chk (decide (0≤x6)) ((vA F x7 x8 (iconv .u64 (iand .i64 x9 (isub .i64 (ishl .i64 1 x6) 1))) x6).bind fun x10=>chk (decide (0≤x6)) ((vC F x2 x3 x5 (ishr .i64 x9 x6)).bind fun x11=>(vA F x11.1 x11.2.1 1 1).bind fun x12=>r3 (iadd .i64 x0 1,x12.1,x12.2,x11.2.2,x10.1,x10.2))) else qfR F x1 x4 x6 x2 x3 x5 x7 x8
def qfS (F:Nat)(x1:qD0)(x4 x6:Int):=lp fun r s=>qfQ F x1 x4 x6 r s.1 s.2.1 s.2.2.1 s.2.2.2.1 s.2.2.2.2.1 s.2.2.2.2.2
def qe5 (F:Nat)(x1:qD0)(x4:Int):Option (Int×Int×Int×Int×qD0×Int×qD0×Bool):=(qcS F (x1.length:Int) x4).bind fun x6=>chk (decide (0≤x6)) (if (decide (8192<(imul .i64 (x1.length:Int) x6)) || (decide (8192<(iadd .i64 (x1.length:Int) (iadd .i64 (ishr .i64 x4 x6) 1))))) then some (0,0,0,0,([]:qD0),0,([]:qD0),false) else qfS F x1 x4 x6 F (0,0,([]:qD0),0,0,([]:qD0)))
def qcM (F:Nat)(x1:qD0)(x4:Int):Option (Int×Int×Int×Int×qD0×Int×qD0×Int):=(qcN F x1 x4).bind fun x8=>if ((x8:Int) != 0) then some (0,0,0,0,([]:qD0),0,([]:qD0),x8) else (qe5 F x1 x4).bind fun x9=>if (!x9.2.2.2.2.2.2.2) then some (0,0,0,0,([]:qD0),0,([]:qD0),8) else some (x9.1,x9.2.1,x9.2.2.1,x9.2.2.2.1,x9.2.2.2.2.1,x9.2.2.2.2.2.1,x9.2.2.2.2.2.2.1,0)
def qaZ (F:Nat)(x1:List (qD0))(x4 x5 x6 x7 x8:Int)(x9:qD0):Option (Int×Int×Int×Int×Int×qD0×Int×Int×Int×Int×qD0×Int×qD0×Int):=(qd8 F x1 x5 x6 x7).bind fun x15=>if ((x15.2.2:Int) != 0) then some (0,0,0,0,0,([]:qD0),0,0,0,0,([]:qD0),0,([]:qD0),x15.2.2) else (qcM F x15.2.1 x8).bind fun x21=>if ((x21.2.2.2.2.2.2.2:Int) != 0) then some (0,0,0,0,0,([]:qD0),0,0,0,0,([]:qD0),0,([]:qD0),x21.2.2.2.2.2.2.2) else some (x4,x5,x6,x7,x8,x9,x21.1,x21.2.1,x21.2.2.1,x21.2.2.2.1,x21.2.2.2.2.1,x21.2.2.2.2.2.1,x21.2.2.2.2.2.2.1,0)
def qdT (F:Nat)(x1:List (qD0))(x4 x5 x6:Int):Option (Int×Int×Int×Int×Int×qD0×Int×Int×Int×Int×qD0×Int×qD0×Int):=(qbR F x1 x4 x5 x6).bind fun x10=>if ((x10.2.2.2.2.2.2:Int) != 0) then some (0,0,0,0,0,([]:qD0),0,0,0,0,([]:qD0),0,([]:qD0),x10.2.2.2.2.2.2) else (qaZ F x1 x10.1 x10.2.1 x10.2.2.1 x10.2.2.2.1 x10.2.2.2.2.1 x10.2.2.2.2.2.1).bind fun x15=>some (x15.1,x15.2.1,x15.2.2.1,x15.2.2.2.1,x15.2.2.2.2.1,x15.2.2.2.2.2.1,x15.2.2.2.2.2.2.1,x15.2.2.2.2.2.2.2.1,x15.2.2.2.2.2.2.2.2.1,x15.2.2.2.2.2.2.2.2.2.1,x15.2.2.2.2.2.2.2.2.2.2.1,x15.2.2.2.2.2.2.2.2.2.2.2.1,x15.2.2.2.2.2.2.2.2.2.2.2.2.1,x15.2.2.2.2.2.2.2.2.2.2.2.2.2)
def qaK (_F:Nat)(x36:Bool):Option Int:=if x36 then some 1 else some 0
def qbM (F:Nat)(x1:Int)(x2:qD0):Option Int:=if (decide (x1<0) || decide (8192<x1)) then some 3 else if (((x2.length:Int):Int) != (iquo .i64 (iadd .i64 x1 7) 8)) then some 1 else if (((irem x1 8):Int) != 0) then (idx x2 (isub .i64 (x2.length:Int) 1)).bind fun x39=>chk (decide (0≤(irem x1 8))) (qaK F (((ishl .u8 x39 (irem x1 8)):Int) != 0)) else qaK F false
def qeF (F:Nat)(x1 x2 x3 x4 x5:Int)(x6:qD0):Option Int:=if (decide (x1<0) || decide (100<x1)) then some 3 else (vr F x2 x3 x4).bind fun x15=>if ((x15:Int) != 0) then some x15 else (qbM F x5 x6).bind fun x16=>some x16
def qgZ (_F:Nat):Option (Int×Int×Bool):=some (0,0,false)
def qez (F:Nat)(x1:Int)(x2:qD0)(x5:Int)(r3:Int→Option (Int×Int×Bool))(x33:Int):Option (Int×Int×Bool):=if decide (x33<x1) then (qaY F x1 x2 x33).bind fun x44=>if ((x44:Int) == 1) then some (iconv .u64 (isub .i64 x33 x5),iadd .i64 x33 1,true) else r3 (iadd .i64 x33 1) else qgZ F
def qeA (F:Nat)(x1:Int)(x2:qD0)(x5:Int):=lp fun r s=>qez F x1 x2 x5 r s
def qdb (F:Nat)(x1:Int)(x2:qD0)(x5:Int):Option (Int×Int×Bool):=qeA F x1 x2 x5 F x5
def qbZ (F:Nat)(x1:Int)(x2:qD0)(x5:Int):Option (Int×Int×Int):=(qdb F x1 x2 x5).bind fun x7=>if (!x7.2.2) then some (0,0,7) else some (x7.1,x7.2.1,0)
def qeV (_F:Nat)(x24:Int):Option (Int×Bool):=some (x24,true)
def qeU (F:Nat)(x1:Int)(x2:qD0)(x5 x6:Int)(r3:(Int×Int)→Option (Int×Bool))(x29 x30:Int):Option (Int×Bool):=if decide (x30<x6) then (qaY F x1 x2 (iadd .i64 x5 x30)).bind fun x38=>r3 (ior .u64 (ishl .u64 x29 1) x38,iadd .i64 x30 1) else qeV F x29
def qeW (F:Nat)(x1:Int)(x2:qD0)(x5 x6:Int):=lp fun r s=>qeU F x1 x2 x5 x6 r s.1 s.2
def jf (F:Nat)(x1:Int)(x2:qD0)(x5 x6:Int):Option (Int×Bool):=if decide ((isub .i64 x1 x5)<x6) then some (0,false) else qeW F x1 x2 x5 x6 F (0,0)
def kp (F:Nat)(x1:Int)(x2:qD0)(x5:Int):Option (Int×Int×Int):=(qbZ F x1 x2 x5).bind fun x7=>if ((x7.2.2:Int) != 0) then some (0,0,x7.2.2) else if decide (64≤x7.1) then some (0,0,3) else (jf F x1 x2 x7.2.1 (iconv .i64 x7.1)).bind fun x10=>if (!x10.2) then some (0,0,7) else chk (decide (0≤x7.1)) (lett (iadd .u64 x10.1 (isub .u64 (ishl .u64 1 x7.1) 1)) fun x16=>if decide (1099511627776<x16) then some (0,0,3) else some (x16,iadd .i64 x7.2.1 (iconv .i64 x7.1),0))
def jq (F:Nat)(x1:Int)(x2:qD0)(x5:Int):Option (Int×Int×Int):=(kp F x1 x2 x5).bind fun x7=>some (x7.1,x7.2.1,x7.2.2)
def qdP (_F:Nat)(x13:(Int×Int×Int))(x18:Bool):Option (Int×Int×Bool):=if x18 then some (0,0,false) else some (iconv .i64 x13.1,x13.2.1,true)
def qfa (F:Nat)(_x1 x2 _x3 _x4 x5:Int)(x6:qD0)(x9 x10:Int):Option (Int×Int×Bool):=if ((x2:Int) == 0) then some (0,x9,true) else (jq F x5 x6 x9).bind fun x13=>if ((x13.2.2:Int) != 0) then qdP F x13 true else qdP F x13 (decide ((iconv .u64 (imin x2 x10))<x13.1))
def yu (_F:Nat)(x1:Bool):Option (Unit ⊕ Unit):=if (!x1) then some (.inr ()) else some (.inl ())
def zI (F:Nat)(x2:Int)(x3:qD0)(x6 x7:Int):Option ((Int×Int×Int) ⊕ (Int×Int)):=(jq F x2 x3 x6).bind fun x9=>lbnd (yu F (((x9.2.2:Int) == 0) && decide (x9.1≤(iconv .u64 x7)))) (fun _x11=>some (.inl (iconv .i64 x9.1,x2,x9.2.1))) (fun _x12=>some (.inr (x2,x6)))
def qc1 (_F:Nat)(x4 x99:Int):Option Int:=if decide (x4<x99) then some 8 else some 0
def qbj (_F:Nat)(r23:(Int×Int)→Option Int)(x4 x0 x1 x2:Int)(x3:Bool):Option Int:=if x3 then some 3 else lett (imin (iadd .i64 x0 (imin x2 (iadd .i64 x4 1))) (iadd .i64 x4 1)) fun x5=>r23 (x5,iadd .i64 x1 1)
def qc0 (F:Nat)(x1:qD0)(x4:Int)(r23:(Int×Int)→Option Int)(x0 x2:Int):Option Int:=if decide (x2<(x1.length:Int)) then (idx x1 x2).bind fun x3=>if decide (x3<0) then qbj F r23 x4 x0 x2 x3 true else qbj F r23 x4 x0 x2 x3 (decide (x3<1) && decide (0<x2)) else qc1 F x4 x0
def qbk (F:Nat)(x1:qD0)(x4:Int):=lp fun r s=>qc0 F x1 x4 r s.1 s.2
def qdQ (F:Nat)(x1:qD0)(x4:Int):Option Int:=if decide ((iadd .i64 x4 1)<(x1.length:Int)) then some 2 else qbk F x1 x4 F (0,0)
def qbl (_F:Nat)(x0:qD0):Option (qD0):=some x0
def qc2 (F:Nat)(x0 x1:qD0)(x2:Bool):Option (qD0):=if x2 then (app 8796093022208 x1 x0).bind fun x3=>qbl F x3 else qbl F x1
def qau (_F:Nat)(r10:(qD0×qD0×Bool×Int)→Option (qD0))(x0:qD0)(x1:Bool)(x2 x3:Int)(x4:qD0):Option (qD0):=(sub x0 x3 (x0.length:Int)).bind fun x5=>r10 (x5,x4,(!x1),iadd .i64 x2 1)
def qcq (F:Nat)(x4:qD0)(r10:(qD0×qD0×Bool×Int)→Option (qD0))(x0 x1:qD0)(x2:Bool)(x3:Int):Option (qD0):=if decide (x3<(x4.length:Int)) then (idx x4 x3).bind fun x5=>if x2 then (sub x0 0 x5).bind fun x6=>(app 8796093022208 x1 x6).bind fun x7=>qau F r10 x0 x2 x3 x5 x7 else qau F r10 x0 x2 x3 x5 x1 else qc2 F x0 x1 x2
def qav (F:Nat)(x4:qD0):=lp fun r s=>qcq F x4 r s.1 s.2.1 s.2.2.1 s.2.2.2
def qfe (F:Nat)(x1 x4:qD0):Option (qD0):=qav F x4 F (x1,([]:qD0),true,0)
def qaN (F:Nat)(x1 x4:qD0)(x10:Int):Option (qD0×Int):=if ((x10:Int) != 0) then some (([]:qD0),x10) else (qfe F x1 x4).bind fun x12=>some (x12,0)
def qeG (F:Nat)(x1 x4:qD0):Option (qD0×Int):=(jr F x1).bind fun x7=>if ((x7:Int) == 0) then (qdQ F x4 (x1.length:Int)).bind fun x16=>qaN F x1 x4 x16 else qaN F x1 x4 x7
def qcz (_F:Nat)(x72:qD0)(x73 x74:Int):Option ((qD0×Int×Int) ⊕ (Int×Int)):=some (.inl (x72,x73,x74))
def j6 (F:Nat)(x3:qD0)(x7:Int)(x10:qD0)(r3:(qD0×Int×Int×Int)→Option ((qD0×Int×Int) ⊕ (Int×Int)))(x93:qD0)(x94 x95 x96:Int):Option ((qD0×Int×Int) ⊕ (Int×Int)):=if decide (x94<(x10.length:Int)) then lbnd (zI F x95 x3 x96 x7) (fun x0=>(idx x93 x94).bind fun _x127=>lett (x93.set x94.toNat (iadd .i64 x0.1 (imin x94 1))) fun x1=>r3 (x1,iadd .i64 x94 1,x0.2.1,x0.2.2)) (fun x2=>some (.inr (x2.1,x2.2))) else qcz F x93 x95 x96
def j7 (F:Nat)(x3:qD0)(x7:Int)(x10:qD0):=lp fun r s=>j6 F x3 x7 x10 r s.1 s.2.1 s.2.2.1 s.2.2.2
def jx (F:Nat)(x2:Int)(x3:qD0)(x6 x7:Int):Option ((qD0×Int×Int) ⊕ (Int×Int)):=lbnd (zI F x2 x3 x6 (iadd .i64 x7 1)) (fun x8=>(mk 17592186044416 (0:Int) x8.1).bind fun x10=>j7 F x3 x7 x10 F (x10,0,x8.2.1,x8.2.2)) (fun x9=>some (.inr (x9.1,x9.2)))
def qaV (_F:Nat)(x1:Int):Option Int:=lett (ixor .i64 (iconv .i64 (ishr .u64 x1 1)) (isub .i64 0 (iconv .i64 (iand .u64 x1 1)))) fun x2=>some x2
def qdr (_F:Nat)(x0:List (Int×Int))(x1 x2:Int):Option ((List (Int×Int)×Int×Int) ⊕ (Int×Int)):=some (.inl (x0,x1,x2))
def yn (F:Nat)(r13:(List (Int×Int)×Int×Int×Int×Int)→Option ((List (Int×Int)×Int×Int) ⊕ (Int×Int)))(x3:qD0)(x8 x9:Int)(x0:List (Int×Int))(x1:Int)(x2:(Int×Int×Int))(x4:Int):Option ((List (Int×Int)×Int×Int) ⊕ (Int×Int)):=lbnd (zI F x2.2.1 x3 x2.2.2 x9) (fun x5=>(idx x0 x1).bind fun _x247=>lett (x0.set x1.toNat (x4,iadd .i64 x5.1 x8)) fun x6=>(idx x6 x1).bind fun x7=>r13 (x6,iadd .i64 x4 (isub .i64 x7.2 1),iadd .i64 x1 1,x5.2.1,x5.2.2)) (fun x10=>some (.inr (x10.1,x10.2)))
def qaE (F:Nat)(x3:qD0)(x8 x9:Int)(x13:List (Int×Int))(r13:(List (Int×Int)×Int×Int×Int×Int)→Option ((List (Int×Int)×Int×Int) ⊕ (Int×Int)))(x0:List (Int×Int))(x1 x2 x4 x5:Int):Option ((List (Int×Int)×Int×Int) ⊕ (Int×Int)):=if decide (x2<(x13.length:Int)) then lbnd (zI F x4 x3 x5 2097152) (fun x6=>if ((x2:Int) == 0) then (qaV F (iconv .u64 x6.1)).bind fun x7=>yn F r13 x3 x8 x9 x0 x2 x6 (iadd .i64 x1 x7) else yn F r13 x3 x8 x9 x0 x2 x6 (iadd .i64 x1 (iadd .i64 x6.1 2))) (fun x10=>some (.inr (x10.1,x10.2))) else qdr F x0 x4 x5
def yo (F:Nat)(x3:qD0)(x8 x9:Int)(x13:List (Int×Int)):=lp fun r s=>qaE F x3 x8 x9 x13 r s.1 s.2.1 s.2.2.1 s.2.2.2.1 s.2.2.2.2
def qaD (F:Nat)(x2:Int)(x3:qD0)(x6 x7 x8 x9:Int):Option ((List (Int×Int)×Int×Int) ⊕ (Int×Int)):=chk ((x8:Int) != 0) (lbnd (zI F x2 x3 x6 (iquo .i64 x9 x8)) (fun x11=>(mk 8796093022208 (((0:Int),(0:Int)):(Int×Int)) x11.1).bind fun x13=>yo F x3 x8 x9 x13 F (x13,x7,0,x11.2.1,x11.2.2)) (fun x12=>some (.inr (x12.1,x12.2))))
def jE (_F:Nat)(x15:qD0):Option (qD0):=some x15
def vR (F:Nat)(x1:qD0)(c3:Nat)(x4:Int):Option (qD0):=if decide (x4<0) then none else lett (isub .i64 x4 (isub .i64 (c3:Int) (x1.length:Int))) fun x16=>if decide (0<x16) then (sub x1 0 (c3:Int)).bind fun x17=>(appz 8796093022208 x17 (0:Int) x16).bind fun x18=>(sub x18 0 (x1.length:Int)).bind fun x21=>jE F x21 else jE F x1
def vE (_F:Nat)(x0:qD0):Option (qD0):=some x0
def qN (F:Nat)(x1:List (qD0))(r5:(qD0×Int)→Option (qD0))(x0:qD0)(x2:Int):Option (qD0):=if decide (x2<(x1.length:Int)) then (idx x1 x2).bind fun x3=>(app 8796093022208 x0 x3).bind fun x4=>r5 (x4,iadd .i64 x2 1) else vE F x0
def zL (F:Nat)(x1:List (qD0)):=lp fun r s=>qN F x1 r s.1 s.2
def kx (F:Nat)(x1:List (qD0))(x43:Int):Option (qD0):=(vR F ([]:qD0) 0 x43).bind fun x44=>zL F x1 F (x44,0)
def qO (F:Nat)(x1:List (qD0))(r6:(Int×Int)→Option (qD0))(x0 x2:Int):Option (qD0):=if decide (x2<(x1.length:Int)) then (idx x1 x2).bind fun x3=>if decide ((iadd .i64 x0 (x3.length:Int))<0) then none else r6 (iadd .i64 x0 (x3.length:Int),iadd .i64 x2 1) else kx F x1 x0
def zM (F:Nat)(x1:List (qD0)):=lp fun r s=>qO F x1 r s.1 s.2
def zK (F:Nat)(x1:List (qD0)):Option (qD0):=zM F x1 F (0,0)
def qb5 (_F:Nat)(x1 x2 x3:Int):Option Bool:=some (decide (x2≤x1) && decide (x1≤x3))
def qfB (_F:Nat)(x0:qD0):Option (qD0×Int):=some (x0,0)
def qbr (_F:Nat)(r32:(qD0×Int)→Option (qD0×Int))(x0:Int)(x1:qD0):Option (qD0×Int):=r32 (x1,iadd .i64 x0 1)
def qc4 (F:Nat)(r32:(qD0×Int)→Option (qD0×Int))(x0:Int)(x1:(Int×Int))(r35:(qD0×Int)→Option (qD0×Int))(x2:qD0)(x3:Int):Option (qD0×Int):=if decide (x3<x1.2) then (app 8796093022208 x2 ([iadd .i64 x1.1 x3]:qD0)).bind fun x4=>r35 (x4,iadd .i64 x3 1) else qbr F r32 x0 x2
def qc6 (F:Nat)(r32:(qD0×Int)→Option (qD0×Int))(x0:Int)(x1:(Int×Int)):=lp fun r s=>qc4 F r32 x0 x1 r s.1 s.2
def qc3 (F:Nat)(x1:List (Int×Int))(r32:(qD0×Int)→Option (qD0×Int))(x0:qD0)(x2:Int):Option (qD0×Int):=if decide (x2<(x1.length:Int)) then (idx x1 x2).bind fun x3=>qc6 F r32 x2 x3 F (x0,0) else qfB F x0
def ju (F:Nat)(x1:List (Int×Int)):=lp fun r s=>qc3 F x1 r s.1 s.2
def qbq (F:Nat)(x1:List (Int×Int)):Option (qD0×Int):=ju F x1 F (([]:qD0),0)
def jt (_F:Nat)(r44:(Int×Int)→Option (qD0×Int))(x0 x1:Int)(x2:(Int×Int))(x3:Bool):Option (qD0×Int):=if x3 then some (([]:qD0),3) else if decide (x2.1<(iadd .i64 x0 2)) then some (([]:qD0),4) else r44 (isub .i64 (iadd .i64 x2.1 x2.2) 1,iadd .i64 x1 1)
def qc5 (F:Nat)(x1:List (Int×Int))(r44:(Int×Int)→Option (qD0×Int))(x0 x2:Int):Option (qD0×Int):=if decide (x2<(x1.length:Int)) then (idx x1 x2).bind fun x3=>(qb5 F x3.1 0 1048576).bind fun x4=>if (!x4) then jt F r44 x0 x2 x3 (!x4) else (qb5 F x3.2 1 300).bind fun x5=>if (!x5) then jt F r44 x0 x2 x3 (!x5) else jt F r44 x0 x2 x3 (decide (1048576<(isub .i64 (iadd .i64 x3.1 x3.2) 1))) else qbq F x1
def qbs (F:Nat)(x1:List (Int×Int)):=lp fun r s=>qc5 F x1 r s.1 s.2
def qdS (F:Nat)(x1:List (Int×Int)):Option (qD0×Int):=if decide (300<(x1.length:Int)) then some (([]:qD0),2) else qbs F x1 F (-2,0)
def qaO (F:Nat)(x4:qD0)(x7:(qD0×Int))(x12:Int):Option (qD0×Int):=if ((x12:Int) != 0) then some (([]:qD0),x12) else (zK F ([x7.1,x4]:List (qD0))).bind fun x16=>(q5 F x16).bind fun x19=>chk (decide (x19.length=x16.length)) ((kE F x19).bind fun x29=>(zy F x29).bind fun x32=>if decide ((x32.length:Int)<(x19.length:Int)) then some (([]:qD0),6) else if decide (300<(x19.length:Int)) then some (([]:qD0),2) else some (x19,0))
def qeH (F:Nat)(x1:List (Int×Int))(x4:qD0):Option (qD0×Int):=(qdS F x1).bind fun x7=>if ((x7.2:Int) == 0) then (jr F x4).bind fun x38=>qaO F x4 x7 x38 else qaO F x4 x7 x7.2
def zX (F:Nat)(x1:Int)(x2:qD0)(x5:Int)(x8:(Int×Int)):Option (Int×Int×Bool):=(jf F x1 x2 x5 x8.1).bind fun x14=>some (isub .u64 x14.1 x8.2,iadd .i64 x5 x8.1,x14.2)
def zS (F:Nat)(x1:Int)(x2:qD0)(x5 x6:Int):Option (Int×Int×Bool):=(qbE F x6).bind fun x8=>if decide (0<x8.2) then (jf F x1 x2 x5 (isub .i64 x8.1 1)).bind fun x15=>if (!x15.2) then some (0,0,false) else if decide (x15.1<x8.2) then some (x15.1,isub .i64 (iadd .i64 x5 x8.1) 1,true) else zX F x1 x2 x5 x8 else zX F x1 x2 x5 x8
def qcT (_F:Nat)(x1 x2:Int)(x3:Bool):Option (Int×Int×Int):=if (!x3) then some (0,0,7) else if decide (1099511627776<x1) then some (0,0,3) else some (x1,x2,0)
def qbf (F:Nat)(x1:Int)(x2:qD0)(x5 x6:Int):Option (Int×Int×Int):=(qdb F x1 x2 x5).bind fun x8=>if (!x8.2.2) then some (0,0,7) else if decide (41≤(imul .u64 x8.1 (iconv .u64 x6))) then some (0,0,3) else chk (decide (0≤(imul .i64 (iconv .i64 x8.1) x6))) (lett (ishl .u64 1 (imul .i64 (iconv .i64 x8.1) x6)) fun x12=>chk (decide (0≤x6)) ((zS F x1 x2 x8.2.1 (isub .u64 (ishl .u64 x12 x6) x12)).bind fun x20=>(qcT F (isub .u64 (iadd .u64 x12 x20.1) 1) x20.2.1 x20.2.2).bind fun x21=>some (x21.1,x21.2.1,x21.2.2)))
def yC (F:Nat)(x8:Int):Option (Bool×Int×Bool):=(qd7 F x8).bind fun x9=>some (x9,x8,true)
def kW (F:Nat)(x2:Int)(x3:Bool)(x4:Int):Option (Bool×Int×Bool):=if decide (2097152<x4) then some (false,x2,x3) else if x3 then yC F (iadd .i64 x2 (iadd .i64 (iconv .i64 x4) 1)) else (qaV F x4).bind fun x10=>yC F (iadd .i64 x2 x10)
def qe7 (_F:Nat)(x0:Int)(x1:qD0):Option (qD0×Int×Int):=some (x1,x0,0)
def qe6 (F:Nat)(x1:Int)(x2:qD0)(x7 x8:Int)(r3:(Int×qD0×Int×Int×Bool)→Option (qD0×Int×Int))(x0:Int)(x3:qD0)(x4 x5:Int)(x6:Bool):Option (qD0×Int×Int):=if decide (x4<x8) then (qbf F x1 x2 x0 x7).bind fun x9=>if ((x9.2.2:Int) != 0) then some (([]:qD0),0,x9.2.2) else (kW F x5 x6 x9.1).bind fun x10=>if (!x10.1) then some (([]:qD0),0,3) else (app 8796093022208 x3 ([x10.2.1]:qD0)).bind fun x11=>r3 (x9.2.1,x11,iadd .i64 x4 1,x10.2.1,x10.2.2) else qe7 F x0 x3
def qe8 (F:Nat)(x1:Int)(x2:qD0)(x7 x8:Int):=lp fun r s=>qe6 F x1 x2 x7 x8 r s.1 s.2.1 s.2.2.1 s.2.2.2.1 s.2.2.2.2
def qfv (F:Nat)(x1:Int)(x2:qD0)(x5 x6 x7 x8:Int):Option (qD0×Int×Int):=qe8 F x1 x2 x7 x8 F (x5,([]:qD0),0,x6,false)
def yF (F:Nat)(x3:qD0)(x7 x13:Int)(x15:(Int×Int×Int))(x31:qD0)(x42:List (Int×Int))(x43 x44:Int):Option ((qD0×Int×Int) ⊕ (Int×Int)):=(qeH F x42 ([]:qD0)).bind fun x45=>lbnd (yu F (((x45.2:Int) == 0) && decide ((x45.1.length:Int)≤(isub .i64 x15.1 (x31.length:Int))))) (fun _x49=>(qfv F x43 x3 x44 x7 x13 (isub .i64 (isub .i64 x15.1 (x31.length:Int)) (x45.1.length:Int))).bind fun x54=>lbnd (yu F ((x54.2.2:Int) == 0)) (fun _x57=>(zK F ([x31,x45.1,x54.1]:List (qD0))).bind fun x61=>(q5 F x61).bind fun x64=>chk (decide (x64.length=x61.length)) (some (.inl (x64,x43,x54.2.1)))) (fun _x58=>some (.inr (x43,x44)))) (fun _x50=>some (.inr (x43,x44)))
def yE (F:Nat)(x3:qD0)(x7 x12 x13:Int)(x15:(Int×Int×Int))(x31:qD0)(x32 x33:Int):Option ((qD0×Int×Int) ⊕ (Int×Int)):=if (((isub .i64 x15.1 (x31.length:Int)):Int) == 0) then some (.inl (x31,x32,x33)) else if decide (0<x12) then lbnd (qaD F x32 x3 x33 x7 x12 (isub .i64 x15.1 (x31.length:Int))) (fun x66=>yF F x3 x7 x13 x15 x31 x66.1 x66.2.1 x66.2.2) (fun x67=>some (.inr (x67.1,x67.2))) else yF F x3 x7 x13 x15 x31 ([]:List (Int×Int)) x32 x33
def vI (F:Nat)(x2:Int)(x3:qD0)(x6 x7:Int)(x8:qD0)(x11 x12 x13:Int):Option ((qD0×Int×Int) ⊕ (Int×Int)):=lbnd (zI F x2 x3 x6 300) (fun x15=>if ((x15.1:Int) == 0) then some (.inl (([]:qD0),x15.2.1,x15.2.2)) else if decide (0<x11) then lbnd (jx F x15.2.1 x3 x15.2.2 (x8.length:Int)) (fun x72=>(qeG F x8 x72.1).bind fun x76=>lbnd (yu F (((x76.2:Int) == 0) && decide ((x76.1.length:Int)≤x15.1))) (fun _x80=>yE F x3 x7 x12 x13 x15 x76.1 x72.2.1 x72.2.2) (fun _x81=>some (.inr (x72.2.1,x72.2.2)))) (fun x73=>some (.inr (x73.1,x73.2))) else yE F x3 x7 x12 x13 x15 ([]:qD0) x15.2.1 x15.2.2) (fun x16=>some (.inr (x16.1,x16.2)))
def qdq (_F:Nat)(x17:(qD0×Int×Int)):Option (qD0×Bool×Int×Int):=some (x17.1,true,x17.2.1,x17.2.2)
def qa6 (F:Nat)(x3:qD0)(x6:Int)(x17:(qD0×Int×Int))(x25:(Int×qD0×Bool))(r4:Int→Option (qD0×Bool×Int×Int))(x75:Int):Option (qD0×Bool×Int×Int):=if decide (x75<x25.1) then (qaY F x25.1 x25.2.1 x75).bind fun x92=>(qaY F x17.2.1 x3 (iadd .i64 x6 x75)).bind fun x93=>lbnd (yu F ((x92:Int) == x93)) (fun _x94=>r4 (iadd .i64 x75 1)) (fun _x95=>some (([]:qD0),false,x17.2.1,x17.2.2)) else qdq F x17
def yG (F:Nat)(x3:qD0)(x6:Int)(x17:(qD0×Int×Int))(x25:(Int×qD0×Bool)):=lp fun r s=>qa6 F x3 x6 x17 x25 r s
def vT (F:Nat)(x3:qD0)(x6:Int)(x17:(qD0×Int×Int))(x25:(Int×qD0×Bool)):Option (qD0×Bool×Int×Int):=yG F x3 x6 x17 x25 F 0
def vJ (F:Nat)(x2:Int)(x3:qD0)(x6 x7:Int)(x8:qD0)(x11 x12 x13:Int):Option (qD0×Bool×Int×Int):=lbnd (vI F x2 x3 x6 x7 x8 x11 x12 x13) (fun x17=>(jr F x17.1).bind fun x21=>lbnd (yu F ((x21:Int) == 0)) (fun _x22=>(vK F 0 ([]:qD0) false x7 x17.1 x8 x11 x12 x13).bind fun x25=>if (!x25.2.2) then lbnd (yu F ((x25.1:Int) == (isub .i64 x17.2.2 x6))) (fun _x98=>vT F x3 x6 x17 x25) (fun _x99=>some (([]:qD0),false,x17.2.1,x17.2.2)) else lbnd (yu F false) (fun _x100=>vT F x3 x6 x17 x25) (fun _x101=>some (([]:qD0),false,x17.2.1,x17.2.2))) (fun _x23=>some (([]:qD0),false,x17.2.1,x17.2.2))) (fun x18=>some (([]:qD0),false,x18.1,x18.2))
def qah (F:Nat)(x1:Int)(x2:qD0)(x5 x6:Int)(x7:qD0)(x10 x11 x12:Int):Option (qD0×Int×Int):=(vJ F x1 x2 x5 x6 x7 x10 x11 x12).bind fun x16=>if (!x16.2.1) then some (([]:qD0),0,1) else some (x16.1,x16.2.2.2,0)
def qeu (_F:Nat)(x5:Int)(x0:List (qD0))(x1:Int):Option (List (qD0)×Bool):=some (x0,((x1:Int) == x5))
def qaL (_F:Nat)(r8:(List (qD0)×Int×Int)→Option (List (qD0)×Bool))(x0:Int)(x1:List (qD0))(x2:Int):Option (List (qD0)×Bool):=r8 (x1,x2,iadd .i64 x0 1)
def qet (F:Nat)(x1 x2 x3 x4 x5:Int)(x6:qD0)(r8:(List (qD0)×Int×Int)→Option (List (qD0)×Bool))(x0:List (qD0))(x7 x8:Int):Option (List (qD0)×Bool):=if decide (x8<x1) then (qfa F x1 x2 x3 x4 x5 x6 x7 x8).bind fun x9=>if (!x9.2.2) then some (([]:List (qD0)),false) else if decide (0<x9.1) then (idx x0 (isub .i64 x8 x9.1)).bind fun x10=>(qah F x5 x6 x9.2.1 x8 x10 x9.1 x3 x4).bind fun x11=>if ((x11.2.2:Int) != 0) then some (([]:List (qD0)),false) else (app 2199023255552 x0 ([x11.1]:List (qD0))).bind fun x12=>qaL F r8 x8 x12 x11.2.1 else (qah F x5 x6 x9.2.1 x8 ([]:qD0) x9.1 x3 x4).bind fun x13=>if ((x13.2.2:Int) != 0) then some (([]:List (qD0)),false) else (app 2199023255552 x0 ([x13.1]:List (qD0))).bind fun x14=>qaL F r8 x8 x14 x13.2.1 else qeu F x5 x0 x7
def qaM (F:Nat)(x1 x2 x3 x4 x5:Int)(x6:qD0):=lp fun r s=>qet F x1 x2 x3 x4 x5 x6 r s.1 s.2.1 s.2.2
def qgB (F:Nat)(x1 x2 x3 x4 x5:Int)(x6:qD0):Option (List (qD0)×Bool):=qaM F x1 x2 x3 x4 x5 x6 F (([]:List (qD0)),0,0)
def qbt (_F:Nat):Option Bool:=some true
def ka (F:Nat)(x1 x4:qD0)(r3:Int→Option Bool)(x0:Int):Option Bool:=if decide (x0<(x1.length:Int)) then (idx x1 x0).bind fun x2=>(idx x4 x0).bind fun x3=>if ((x2:Int) != x3) then some false else r3 (iadd .i64 x0 1) else qbt F
def kd (F:Nat)(x1 x4:qD0):=lp fun r s=>ka F x1 x4 r s
def qX (F:Nat)(x1 x4:qD0):Option Bool:=if (((x1.length:Int):Int) != (x4.length:Int)) then some false else kd F x1 x4 F 0
def qcZ (_F:Nat)(x14:(List (qD0)×Bool))(x34:Bool):Option (List (qD0)×Int):=if x34 then some (([]:List (qD0)),1) else some (x14.1,0)
def qfy (F:Nat)(x1 x2 x3 x4 x5:Int)(x6:qD0):Option (List (qD0)×Int):=(qeF F x1 x2 x3 x4 x5 x6).bind fun x13=>if ((x13:Int) != 0) then some (([]:List (qD0)),x13) else (qgB F x1 x2 x3 x4 x5 x6).bind fun x14=>if (!x14.2) then some (([]:List (qD0)),1) else (qbR F x14.1 x2 x3 x4).bind fun x28=>if ((x28.2.2.2.2.2.2:Int) != 0) then qcZ F x14 true else (qX F x28.2.2.2.2.2.1 x6).bind fun x36=>qcZ F x14 (!x36)
def qcm (_F:Nat)(x34:Bool):Option Bool:=some x34
def qcl (F:Nat)(x9 x20:qD0)(x31:Bool):Option Bool:=if x31 then (qX F x9 x20).bind fun x35=>qcm F x35 else qcm F false
def qeI (F:Nat)(x1 x2 x3 x4:Int)(x5:qD0)(x8:Int)(x9:qD0)(x12 x13 x14 x15:Int)(x16:qD0)(x19:Int)(x20:qD0):Option Bool:=if ((((((x1:Int) == x12) && ((x2:Int) == x13)) && ((x3:Int) == x14)) && ((x4:Int) == x15)) && ((x8:Int) == x19)) then (qX F x5 x16).bind fun x36=>qcl F x9 x20 x36 else qcl F x9 x20 false
def qey (F:Nat)(x1:List (qD0))(x4 x5 x6 x7 x8:Int)(x9:qD0):Option (Int×Int×Int×Int×Int×qD0×Int×Int×Int×Int×qD0×Int×qD0×Int):=(qd8 F x1 x5 x6 x7).bind fun x15=>if ((x15.2.2:Int) != 0) then some (0,0,0,0,0,([]:qD0),0,0,0,0,([]:qD0),0,([]:qD0),x15.2.2) else (qcM F x15.2.1 x8).bind fun x21=>if ((x21.2.2.2.2.2.2.2:Int) != 0) then some (0,0,0,0,0,([]:qD0),0,0,0,0,([]:qD0),0,([]:qD0),x21.2.2.2.2.2.2.2) else some (x4,x5,x6,x7,x8,x9,x21.1,x21.2.1,x21.2.2.1,x21.2.2.2.1,x21.2.2.2.2.1,x21.2.2.2.2.2.1,x21.2.2.2.2.2.2.1,0)
def j1 (_F:Nat)(x49:Bool):Option Int:=if x49 then some 4 else some 0
def qdU (F:Nat)(x1 x2 x3 x4 x5:Int)(x6:qD0)(x9 x10 x11 x12:Int)(x13:qD0)(x16:Int)(x17:qD0):Option Int:=(qfy F x1 x2 x3 x4 x5 x6).bind fun x21=>if ((x21.2:Int) != 0) then some x21.2 else (qey F x21.1 x1 x2 x3 x4 x5 x6).bind fun x39=>if ((x39.2.2.2.2.2.2.2.2.2.2.2.2.2:Int) != 0) then j1 F true else (qeI F x39.2.2.2.2.2.2.1 x39.2.2.2.2.2.2.2.1 x39.2.2.2.2.2.2.2.2.1 x39.2.2.2.2.2.2.2.2.2.1 x39.2.2.2.2.2.2.2.2.2.2.1 x39.2.2.2.2.2.2.2.2.2.2.2.1 x39.2.2.2.2.2.2.2.2.2.2.2.2.1 x9 x10 x11 x12 x13 x16 x17).bind fun x51=>j1 F (!x51)
def qdR (_F:Nat)(_x1:Int)(_x2:qD0)(_x5:Int):Option Unit:=some ()
def kX {σ τ:Type}(_F:Nat)(_yy:σ→Int→Option (σ ⊕ τ))(r3:(Int×σ)→Option (σ ⊕ τ))(x36:Int)(x81:σ):Option (σ ⊕ τ):=r3 (iadd .i64 x36 1,x81)
def yM {σ τ:Type}(F:Nat)(yy:σ→Int→Option (σ ⊕ τ))(x2:Int)(x3:qD0)(x7:Int)(r3:(Int×σ)→Option (σ ⊕ τ))(x36:Int)(x37:σ):Option (σ ⊕ τ):=if decide (x36<x2) then (qaY F x2 x3 x36).bind fun x89=>if ((x89:Int) == x7) then (yy x37 x36).bind (Sum.elim (fun x91=>kX F yy r3 x36 x91) (fun x92=>some (.inr x92))) else kX F yy r3 x36 x37 else some (.inl x37)
def zj {σ τ:Type}(F:Nat)(yy:σ→Int→Option (σ ⊕ τ))(x2:Int)(x3:qD0)(x7:Int):=lp fun r s=>yM F yy x2 x3 x7 r s.1 s.2
def qck {σ τ:Type}(F:Nat)(yy:σ→Int→Option (σ ⊕ τ))(x2:Int)(x3:qD0)(x7:Int)(s0:σ):Option (σ ⊕ τ):=zj F yy x2 x3 x7 F (0,s0)
def q6 (_F:Nat)(x31 x37:Int):Option (Int ⊕ (Int×Int)):=if ((x31:Int) == 0) then some (.inr (x37,x31)) else some (.inl (isub .i64 x31 1))
def qax (F:Nat)(x1:Int)(x2:qD0)(x5 x6:Int):Option Int:=(qdR F x1 x2 x5).bind fun _x25=>(qck F (fun (x31:Int) (x37:Int)=>q6 F x31 x37) x1 x2 x5 x6).bind (Sum.elim (fun (_x31:Int)=>some (-1)) (fun ((x35,_x36):(Int×Int))=>some x35))
def qbN (F:Nat)(_x1 _x2 x3 x4:Int)(x5:qD0)(x8:Int)(x9:qD0)(x12:Int):Option Int:=(qax F x8 x9 1 x12).bind fun x14=>(jf F x4 x5 (imul .i64 x12 x3) x3).bind fun x15=>chk (decide (0≤x3)) (lett (ior .i64 (ishl .i64 (isub .i64 x14 x12) x3) (iconv .i64 x15.1)) fun x17=>some x17)
def qcR (_F:Nat)(x13:Bool):Option Bool:=some x13
def qd6 (F:Nat)(x1:Int)(x2:qD0)(x5:Int)(x6:qD0):Option Bool:=if ((x1:Int) == x5) then (qX F x2 x6).bind fun x14=>qcR F x14 else qcR F false
def qcP (_F:Nat)(x99:qD0)(x0:Bool):Option (qD0×Int):=if x0 then some (([]:qD0),1) else some (x99,0)
def qbd (F:Nat)(x8:Int)(x9 x99:qD0)(x0:(Int×Int×Int×Int×qD0×Int×qD0×Bool))(x1:Bool):Option (qD0×Int):=if x1 then qcP F x99 true else (qd6 F x0.2.2.2.2.2.1 x0.2.2.2.2.2.2.1 x8 x9).bind fun x2=>qcP F x99 (!x2)
def vb (F:Nat)(x2 x4:Int)(x5:qD0)(x8:Int)(x9 x99:qD0):Option (qD0×Int):=(qcN F x99 x2).bind fun x0=>if ((x0:Int) != 0) then some (([]:qD0),1) else (qe5 F x99 x2).bind fun x1=>if (!x1.2.2.2.2.2.2.2) then qbd F x8 x9 x99 x1 true else (qd6 F x1.2.2.2.1 x1.2.2.2.2.1 x4 x5).bind fun x3=>qbd F x8 x9 x99 x1 (!x3)
def qcO (F:Nat)(x1 x2 x3 x4:Int)(x5:qD0)(x8:Int)(x9:qD0)(r9:(qD0×Int)→Option (qD0×Int))(x0:qD0)(x6:Int):Option (qD0×Int):=if decide (x6<x1) then (qbN F x1 x2 x3 x4 x5 x8 x9 x6).bind fun x7=>(app 8796093022208 x0 ([x7]:qD0)).bind fun x10=>r9 (x10,iadd .i64 x6 1) else vb F x2 x4 x5 x8 x9 x0
def qcQ (F:Nat)(x1 x2 x3 x4:Int)(x5:qD0)(x8:Int)(x9:qD0):=lp fun r s=>qcO F x1 x2 x3 x4 x5 x8 x9 r s.1 s.2
def zP (F:Nat)(x1 x2 x3 x4:Int)(x5:qD0)(x8:Int)(x9:qD0)(x49:Bool):Option (qD0×Int):=if x49 then some (([]:qD0),1) else qcQ F x1 x2 x3 x4 x5 x8 x9 F (([]:qD0),0)
def jX (F:Nat)(x1 x2 x3 x4:Int)(x5:qD0)(x8:Int)(x9:qD0):Option (qD0×Int):=if (((decide (x1<0) || decide (300<x1)) || decide (x2<0)) || decide (1048576<x2)) then some (([]:qD0),3) else (qcS F x1 x2).bind fun x0=>if ((x3:Int) != x0) then zP F x1 x2 x3 x4 x5 x8 x9 true else (qbM F x4 x5).bind fun x6=>if ((x6:Int) != 0) then zP F x1 x2 x3 x4 x5 x8 x9 true else (qbM F x8 x9).bind fun x7=>if ((x7:Int) != 0) then zP F x1 x2 x3 x4 x5 x8 x9 true else if ((x4:Int) != (imul .i64 x1 x3)) then zP F x1 x2 x3 x4 x5 x8 x9 true else (qax F x8 x9 1 (isub .i64 x1 1)).bind fun x10=>if decide (x10<0) then zP F x1 x2 x3 x4 x5 x8 x9 (decide (0<x1)) else zP F x1 x2 x3 x4 x5 x8 x9 false
def qeE (F:Nat)(x1 x2 x3 x4:Int)(x5:qD0)(x8:Int)(x9:qD0):Option Int:=(jX F x1 x2 x3 x4 x5 x8 x9).bind fun x13=>some x13.2
def qdL (F:Nat)(x1 x2 x3 x4:Int)(x5:qD0)(x8:Int)(x9:qD0)(x12 x20:Int):Option (Int×Int):=if ((x20:Int) != 0) then some (0,x20) else (qbN F x1 x2 x3 x4 x5 x8 x9 x12).bind fun x22=>some (x22,0)
def qdM (F:Nat)(x1 x2 x3 x4:Int)(x5:qD0)(x8:Int)(x9:qD0)(x12 x14:Int)(x26:Bool):Option (Int×Int):=if x26 then qdL F x1 x2 x3 x4 x5 x8 x9 x12 3 else qdL F x1 x2 x3 x4 x5 x8 x9 x12 x14
def qe4 (F:Nat)(x1 x2 x3 x4:Int)(x5:qD0)(x8:Int)(x9:qD0)(x12:Int):Option (Int×Int):=(qeE F x1 x2 x3 x4 x5 x8 x9).bind fun x14=>if ((x14:Int) == 0) then qdM F x1 x2 x3 x4 x5 x8 x9 x12 x14 (decide (x12<0) || decide (x1≤x12)) else qdM F x1 x2 x3 x4 x5 x8 x9 x12 x14 false
def yf (F:Nat)(x7:qD0)(x22:Int)(x24:(Int×Int×Bool))(x31:qD0)(x32 x33 x34 x35 x36 x37 x38 x39 x40 x41 x42:Int):Option (qD0×Int×Int×Int×Int×Int×Int×Int×Int×Int×Int×Int):=(qah F x36 x7 x24.2.1 x22 x31 x24.1 x34 x35).bind fun x47=>some (x47.1,x32,x33,x34,x35,x36,x37,x38,x39,x40,x41,x42)
def yq:Nat→Int→Int→Int→Int→Int→(qD0)→Int→Int→Int→Int→(qD0)→Int→(qD0)→Int→Int→Option (qD0×Int×Int×Int×Int×Int×Int×Int×Int×Int×Int×Int)
  | 0=>fun _ _ _ _ _ _ _ _ _ _ _ _ _ _ _=>none
  | F+1=>fun x2 x3 x4 x5 x6 x7 x10 x11 x12 x13 x14 x17 x18 x21 x22 =>
    let self:=yq F
    ((qe4 F x10 x11 x12 x13 x14 x17 x18 x22).bind fun x23=>((qfa F x2 x3 x4 x5 x6 x7 x23.1 x22).bind fun x24=>(if (decide (0<x24.1)) then ((self x2 x3 x4 x5 x6 x7 x10 x11 x12 x13 x14 x17 x18 (iadd .i64 x21 1) (isub .i64 x22 x24.1)).bind fun x50=>yf F x7 x22 x24 x50.1 x50.2.1 x50.2.2.1 x50.2.2.2.1 x50.2.2.2.2.1 x50.2.2.2.2.2.1 x50.2.2.2.2.2.2.1 x50.2.2.2.2.2.2.2.1 x50.2.2.2.2.2.2.2.2.1 x50.2.2.2.2.2.2.2.2.2.1 x50.2.2.2.2.2.2.2.2.2.2.1 x50.2.2.2.2.2.2.2.2.2.2.2) else yf F x7 x22 x24 ([]:qD0) x2 x3 x4 x5 x6 x10 x11 x12 x13 x17 (iadd .i64 x21 1))))
def qaP (F:Nat)(x1 x2 x3 x4 x5:Int)(x6:qD0)(x9 x10 x11 x12:Int)(x13:qD0)(x16:Int)(x17:qD0)(x20 x28:Int):Option (qD0×Int×Int):=if ((x28:Int) != 0) then some (([]:qD0),0,x28) else (yq F x1 x2 x3 x4 x5 x6 x9 x10 x11 x12 x13 x16 x17 0 x20).bind fun x31=>some (x31.1,x31.2.2.2.2.2.2.2.2.2.2.2,0)
def qaQ (F:Nat)(x1 x2 x3 x4 x5:Int)(x6:qD0)(x9 x10 x11 x12:Int)(x13:qD0)(x16:Int)(x17:qD0)(x20 x22:Int)(x37:Bool):Option (qD0×Int×Int):=if x37 then qaP F x1 x2 x3 x4 x5 x6 x9 x10 x11 x12 x13 x16 x17 x20 3 else qaP F x1 x2 x3 x4 x5 x6 x9 x10 x11 x12 x13 x16 x17 x20 x22
def qbS (F:Nat)(x1 x2 x3 x4 x5:Int)(x6:qD0)(x9 x10 x11 x12:Int)(x13:qD0)(x16:Int)(x17:qD0)(x20:Int):Option (qD0×Int×Int):=(qdU F x1 x2 x3 x4 x5 x6 x9 x10 x11 x12 x13 x16 x17).bind fun x22=>if ((x22:Int) == 0) then qaQ F x1 x2 x3 x4 x5 x6 x9 x10 x11 x12 x13 x16 x17 x20 x22 (decide (x20<0) || decide (x1≤x20)) else qaQ F x1 x2 x3 x4 x5 x6 x9 x10 x11 x12 x13 x16 x17 x20 x22 false
def qbB (_F:Nat)(x82:List (qD0)):Option (qD0):=(joinM x82 ([32]:qD0)).bind fun x83=>some x83
def qbA (F:Nat)(x12:qD0)(r3:(List (qD0)×Int)→Option (qD0))(x0:List (qD0))(x1:Int):Option (qD0):=if decide (x1<(x12.length:Int)) then (idx x12 x1).bind fun x2=>(itoaC x2).bind fun x3=>(app 4398046511104 x0 ([x3]:List (qD0))).bind fun x4=>r3 (x4,iadd .i64 x1 1) else qbB F x0
def qbC (F:Nat)(x12:qD0):=lp fun r s=>qbA F x12 r s.1 s.2
def jp (F:Nat)(_x2:List (qD0))(_x5 _x6 _x7:Int)(_x8 _x11 x12:qD0):Option (qD0):=qbC F x12 F (([]:List (qD0)),0)
def qby (F:Nat)(x2:List (qD0))(x5 x6 x7:Int)(x8 x11:qD0)(x29 x30 x31 x32 x33 x34:Int)(x37:qD0)(x38 x39 x40 x41:Int)(x44:qD0)(x45:Int)(x48:qD0):Option (Int×qD0):=if ((x29:Int) != 0) then some (x29,x11) else (idx x8 0).bind fun x57=>(qbS F x30 x31 x32 x33 x34 x37 x38 x39 x40 x41 x44 x45 x48 x57).bind fun x61=>(jp F x2 x5 x6 x7 x8 x11 x61.1).bind fun x64=>some (x61.2.2,x64)
def qbc (F:Nat)(x2:List (qD0))(x5 x6 x7:Int)(x8 x11:qD0):Option (Int×qD0):=(qdT F x2 x5 x6 x7).bind fun x66=>qby F x2 x5 x6 x7 x8 x11 x66.2.2.2.2.2.2.2.2.2.2.2.2.2 x66.1 x66.2.1 x66.2.2.1 x66.2.2.2.1 x66.2.2.2.2.1 x66.2.2.2.2.2.1 x66.2.2.2.2.2.2.1 x66.2.2.2.2.2.2.2.1 x66.2.2.2.2.2.2.2.2.1 x66.2.2.2.2.2.2.2.2.2.1 x66.2.2.2.2.2.2.2.2.2.2.1 x66.2.2.2.2.2.2.2.2.2.2.2.1 x66.2.2.2.2.2.2.2.2.2.2.2.2.1
def qhf (_F:Nat)(x1:Int)(x3:List (qD0)):Option Bool:=some (decide (x1<0) || decide ((x3.length:Int)≤x1))
def yl (_F:Nat):Option Int:=some (-1)
def qay (F:Nat)(x1:qD0)(x5:List (qD0))(r3:Int→Option Int)(x58:Int):Option Int:=if decide (x58<(x1.length:Int)) then (idx x1 x58).bind fun x78=>(qhf F x78 x5).bind fun x81=>if x81 then some x58 else r3 (iadd .i64 x58 1) else yl F
def qaz (F:Nat)(x1:qD0)(x5:List (qD0)):=lp fun r s=>qay F x1 x5 r s
def yO (F:Nat)(x1:qD0)(x5:List (qD0)):Option Int:=qaz F x1 x5 F 0
def yk (F:Nat)(x1:qD0)(x5:List (qD0)):Option Bool:=(yO F x1 x5).bind fun x8=>some (decide (0≤x8))
def qgD (F:Nat)(x1:List (qD0))(x4:qD0):Option Int:=(kB F x1).bind fun x10=>if ((x10:Int) != 0) then some x10 else (yk F x4 x1).bind fun x13=>if x13 then some 3 else some 0
def qhg (_F:Nat)(x0:qD0):Option (qD0):=some x0
def qhh (_F:Nat)(r48:(qD0×qD0)→Option (qD0))(x0 x1:qD0):Option (qD0):=(sub x1 1 (x1.length:Int)).bind fun x2=>r48 (x0,x2)
def qfg (_F:Nat)(r56:(qD0×qD0×Int)→Option (qD0))(x0:Int)(x1 x2:qD0):Option (qD0):=r56 (x1,x2,iadd .i64 x0 1)
def qkX (F:Nat)(r48:(qD0×qD0)→Option (qD0))(x0:Int)(x1:qD0)(r56:(qD0×qD0×Int)→Option (qD0))(x2 x3:qD0)(x4:Int):Option (qD0):=if decide (x4<(x1.length:Int)) then (idx x1 x4).bind fun x5=>(idx x2 x5).bind fun x6=>if decide (x6<0) then (idx x2 x0).bind fun x7=>(idx x2 x5).bind fun _x2035=>lett (x2.set x5.toNat (iadd .i64 x7 1)) fun x8=>(app 8796093022208 x3 ([x5]:qD0)).bind fun x9=>qfg F r56 x4 x8 x9 else qfg F r56 x4 x2 x3 else qhh F r48 x2 x3
def qhi (F:Nat)(r48:(qD0×qD0)→Option (qD0))(x0:Int)(x1:qD0):=lp fun r s=>qkX F r48 x0 x1 r s.1 s.2.1 s.2.2
def qkW (F:Nat)(x1:List (qD0))(r48:(qD0×qD0)→Option (qD0))(x0 x2:qD0):Option (qD0):=if decide (0<(x2.length:Int)) then (idx x2 0).bind fun x3=>(idx x1 x3).bind fun x4=>qhi F r48 x3 x4 F (x0,x2,0) else qhg F x0
def qfh (F:Nat)(x1:List (qD0)):=lp fun r s=>qkW F x1 r s.1 s.2
def qil (F:Nat)(x1:List (qD0))(x4:Int):Option (qD0):=(k6 F ([-1]:qD0) (x1.length:Int)).bind fun x8=>(idx x8 x4).bind fun _x11=>lett (x8.set x4.toNat 0) fun x14=>qfh F x1 F (x14,([x4]:qD0))
def qkU (F:Nat)(x1:List (qD0))(x4:Int):Option (qD0×Int):=(qgD F x1 ([x4]:qD0)).bind fun x12=>if ((x12:Int) != 0) then some (([]:qD0),x12) else (qil F x1 x4).bind fun x13=>some (x13,0)
def qbY (_F:Nat)(x26:(qD0×Int))(x43:qD0):Option (Int×qD0):=some (x26.2,x43)
def qgd (F:Nat)(x2:List (qD0))(x5 x6 x7:Int)(x8 x11:qD0):Option (Int×qD0):=(kV F x2 x5 x6 x7 x8 x11 x8).bind fun x14=>if (!x14) then some (3,x11) else (idx x8 0).bind fun x22=>(qkU F x2 x22).bind fun x26=>(idx x8 1).bind fun x44=>(idx x26.1 x44).bind fun x47=>(itoaC x47).bind fun x50=>(idx x8 1).bind fun x51=>(idx x26.1 x51).bind fun x54=>if decide (x54<0) then qbY F x26 ([110,111,110,101]:qD0) else qbY F x26 x50
def qfw (_F:Nat)(x47:List (Int×Int))(x56 x57:Int):Option (List (Int×Int) ⊕ Empty):=(app 4398046511104 x47 ([(x57,x56)]:List (Int×Int))).bind fun x61=>some (.inl x61)
def qhc (F:Nat)(x1:List (qD0)):Option (List (Int×Int)):=(qbF F x1).bind fun _x35=>(jD F (fun (x47:List (Int×Int)) ((x56,x57):(Int×Int))=>qfw F x47 x56 x57) x1 ([]:List (Int×Int))).bind (Sum.elim (fun (x47:List (Int×Int))=>some x47) (fun t=>t.elim))
def qiR (F:Nat)(x1:List (qD0)):Option (List (qD0)×Int):=(kB F x1).bind fun x8=>if ((x8:Int) != 0) then some (([]:List (qD0)),x8) else (qhc F x1).bind fun x20=>(yw F x20).bind fun _x23=>(qJ F x20).bind fun x25=>(qfY F (x1.length:Int) x25).bind fun x28=>some (x28,0)
def qiT (_F:Nat)(x1:Int)(x3:qD0)(x7:Int):Option Bool:=(idx x3 x1).bind fun x16=>(idx x3 x7).bind fun x20=>some ((x16:Int) == (isub .i64 x20 1))
def yD (_F:Nat):Option Int:=some (-1)
def qa4 (F:Nat)(x1 x5:qD0)(x9:Int)(r3:Int→Option Int)(x60:Int):Option Int:=if decide (x60<(x1.length:Int)) then (idx x1 x60).bind fun x80=>(qiT F x80 x5 x9).bind fun x83=>if x83 then some x60 else r3 (iadd .i64 x60 1) else yD F
def qa5 (F:Nat)(x1 x5:qD0)(x9:Int):=lp fun r s=>qa4 F x1 x5 x9 r s
def vg (F:Nat)(x1 x5:qD0)(x9:Int):Option Int:=qa5 F x1 x5 x9 F 0
def qhZ (_F:Nat)(x0:qD0):Option (qD0×Int):=some (x0,0)
def qmh (F:Nat)(x1:List (qD0))(x5:Int)(x18:qD0)(r3:(qD0×Int)→Option (qD0×Int))(x0:qD0)(x2:Int):Option (qD0×Int):=if ((x2:Int) != x5) then (idx x1 x2).bind fun x3=>(vg F x3 x18 x2).bind fun x4=>(idx x1 x2).bind fun x6=>(idx x6 x4).bind fun x7=>(app 8796093022208 x0 ([x7]:qD0)).bind fun x8=>r3 (x8,x7) else qhZ F x0
def qmi (F:Nat)(x1:List (qD0))(x5:Int)(x18:qD0):=lp fun r s=>qmh F x1 x5 x18 r s.1 s.2
def qkV (F:Nat)(x1:List (qD0))(x4 x5:Int):Option (qD0×Int):=(qgD F x1 ([x4,x5]:qD0)).bind fun x13=>if ((x13:Int) != 0) then some (([]:qD0),x13) else (qiR F x1).bind fun x14=>(qil F x14.1 x5).bind fun x18=>(idx x18 x4).bind fun x26=>if decide (x26<0) then some (([]:qD0),5) else qmi F x1 x5 x18 F (([x4]:qD0),x4)
def vO (_F:Nat)(x19:Int)(x20:qD0):Option (Int×qD0):=some (x19,x20)
def vB (F:Nat)(x2:List (qD0))(x5 x6 x7:Int)(x8 x11 x12:qD0)(x15 x16:Int):Option (Int×qD0):=(jp F x2 x5 x6 x7 x8 x11 x12).bind fun x21=>if ((x15:Int) == x16) then vO F 0 ([110,111,110,101]:qD0) else vO F x15 x21
def qgf (F:Nat)(x2:List (qD0))(x5 x6 x7:Int)(x8 x11:qD0):Option (Int×qD0):=(idx x8 0).bind fun x23=>(idx x8 1).bind fun x27=>(qkV F x2 x23 x27).bind fun x31=>(vB F x2 x5 x6 x7 x8 x11 x31.1 x31.2 5).bind fun x34=>some (x34.1,x34.2)
def kw (F:Nat)(x3:List (qD0))(x6 x7 x8:Int)(x9 x12:qD0):Option (Int×qD0):=(idx x9 0).bind fun x36=>(kV F x3 x6 x7 x8 x9 x12 ([x36]:qD0)).bind fun x42=>if (!x42) then some (3,x12) else (qc8 F x3).bind fun x46=>(idx x9 0).bind fun x58=>(idx x46.1 x58).bind fun x62=>(itoaC x62).bind fun x66=>some (x46.2,x66)
def vD (_F:Nat)(x0 x1:qD0)(x2 x3:Int):Option ((qD0×qD0) ⊕ Empty):=(idx x1 x2).bind fun x4=>(idx x1 x2).bind fun _x150=>lett (x1.set x2.toNat (iadd .i64 x4 1)) fun x5=>(idx x0 x3).bind fun x6=>(idx x0 x3).bind fun _x159=>lett (x0.set x3.toNat (iadd .i64 x6 1)) fun x7=>some (.inl (x7,x5))
def qco (F:Nat)(x1:List (qD0))(x27 x30:qD0):Option (qD0×qD0×Int):=(qbF F x1).bind fun _x98=>(jD F (fun ((x0,x2):(qD0×qD0)) ((x3,x4):(Int×Int))=>vD F x0 x2 x3 x4) x1 (x27,x30)).bind (Sum.elim (fun ((x0,x2):(qD0×qD0))=>some (x2,x0,0)) (fun t=>t.elim))
def qcf (F:Nat)(x1:List (qD0)):Option (qD0×qD0×Int):=(kB F x1).bind fun x9=>if ((x9:Int) != 0) then some (([]:qD0),([]:qD0),x9) else (mk 17592186044416 (0:Int) (x1.length:Int)).bind fun x0=>(mk 17592186044416 (0:Int) (x1.length:Int)).bind fun x2=>qco F x1 x2 x0
def qff (_F:Nat)(x0:qD0):Option (qD0×Int):=some (x0,0)
def qaB (_F:Nat)(r18:(qD0×qD0)→Option (qD0×Int))(x0:qD0)(x1:Int)(x2:qD0):Option (qD0×Int):=(app 8796093022208 x0 ([x1]:qD0)).bind fun x3=>r18 (x2,x3)
def qcs (F:Nat)(r18:(qD0×qD0)→Option (qD0×Int))(x0:qD0)(x1:Int)(x2:qD0)(r21:(qD0×Int)→Option (qD0×Int))(x3:qD0)(x4:Int):Option (qD0×Int):=if decide (x4<(x2.length:Int)) then (idx x2 x4).bind fun x5=>(idx x3 x5).bind fun x6=>(idx x3 x5).bind fun _x1139=>lett (x3.set x5.toNat (isub .i64 x6 1)) fun x7=>r21 (x7,iadd .i64 x4 1) else qaB F r18 x0 x1 x3
def qaC (F:Nat)(r18:(qD0×qD0)→Option (qD0×Int))(x0:qD0)(x1:Int)(x2:qD0):=lp fun r s=>qcs F r18 x0 x1 x2 r s.1 s.2
def qcr (F:Nat)(x1:List (qD0))(r18:(qD0×qD0)→Option (qD0×Int))(x0 x2:qD0):Option (qD0×Int):=if decide ((x2.length:Int)<(x0.length:Int)) then (kF F x0 0).bind fun x3=>if decide (x3<0) then some (([]:qD0),4) else (idx x0 x3).bind fun _x964=>lett (x0.set x3.toNat (-1)) fun x4=>(idx x1 x3).bind fun x5=>qaC F r18 x2 x3 x5 F (x4,0) else qff F x2
def vG (F:Nat)(x1:List (qD0)):=lp fun r s=>qcr F x1 r s.1 s.2
def qc7 (F:Nat)(x1:List (qD0)):Option (qD0×Int):=(qcf F x1).bind fun x5=>if ((x5.2.2:Int) != 0) then some (([]:qD0),x5.2.2) else vG F x1 F (x5.2.1,([]:qD0))
def qap (F:Nat)(x2:List (qD0))(x5 x6 x7:Int)(x8 x11:qD0):Option (Int×qD0):=(qc7 F x2).bind fun x12=>(vB F x2 x5 x6 x7 x8 x11 x12.1 x12.2 4).bind fun x15=>some (x15.1,x15.2)
def kv (F:Nat)(x3:List (qD0))(x6 x7 x8:Int)(x9 x12:qD0):Option (Int×qD0):=(idx x9 0).bind fun x36=>(kV F x3 x6 x7 x8 x9 x12 ([x36]:qD0)).bind fun x42=>if (!x42) then some (3,x12) else (qcH F x3).bind fun x46=>(idx x9 0).bind fun x58=>(idx x46.1 x58).bind fun x62=>(itoaC x62).bind fun x66=>some (x46.2,x66)
def qfL (_F:Nat)(_x1:List (qD0)):Option Unit:=some ()
def jm {σ τ:Type}(_F:Nat)(_yy:σ→qD0→Option (σ ⊕ τ))(r115:(Int×σ)→Option (σ ⊕ τ))(x0:Int)(x1:σ):Option (σ ⊕ τ):=r115 (iadd .i64 x0 1,x1)
def jn {σ τ:Type}(_F:Nat)(_yy:σ→qD0→Option (σ ⊕ τ))(r163:(Int×σ)→Option (σ ⊕ τ))(x0:Int)(x1:σ):Option (σ ⊕ τ):=r163 (iadd .i64 x0 1,x1)
def jo {σ τ:Type}(_F:Nat)(_yy:σ→qD0→Option (σ ⊕ τ))(r171:(Int×σ)→Option (σ ⊕ τ))(x0:Int)(x1:σ):Option (σ ⊕ τ):=r171 (iadd .i64 x0 1,x1)
def jl {σ τ:Type}(F:Nat)(yy:σ→qD0→Option (σ ⊕ τ))(r163:(Int×σ)→Option (σ ⊕ τ))(x2:List (qD0))(x0 x1 x3:Int)(x4:qD0)(r171:(Int×σ)→Option (σ ⊕ τ))(x5:Int)(x6:σ):Option (σ ⊕ τ):=if decide (x5<(x4.length:Int)) then (idx x4 x5).bind fun x7=>(idx x2 x3).bind fun x8=>(zl F x8 x7).bind fun x9=>if (x9.2 && decide (x0<x3)) then (yy x6 ([x0,x3,x7]:qD0)).bind (Sum.elim (fun x10=>jo F yy r171 x5 x10) (fun x11=>some (.inr x11))) else jo F yy r171 x5 x6 else jn F yy r163 x1 x6
def k5 {σ τ:Type}(F:Nat)(yy:σ→qD0→Option (σ ⊕ τ))(r163:(Int×σ)→Option (σ ⊕ τ))(x2:List (qD0))(x0 x1 x3:Int)(x4:qD0):=lp fun r s=>jl F yy r163 x2 x0 x1 x3 x4 r s.1 s.2
def jk {σ τ:Type}(F:Nat)(yy:σ→qD0→Option (σ ⊕ τ))(r115:(Int×σ)→Option (σ ⊕ τ))(x2:List (qD0))(x0:Int)(x1:qD0)(r163:(Int×σ)→Option (σ ⊕ τ))(x3:Int)(x4:σ):Option (σ ⊕ τ):=if decide (x3<(x1.length:Int)) then (idx x1 x3).bind fun x5=>(sub x1 (iadd .i64 x3 1) (x1.length:Int)).bind fun x6=>k5 F yy r163 x2 x0 x3 x5 x6 F (0,x4) else jm F yy r115 x0 x4
def qY {σ τ:Type}(F:Nat)(yy:σ→qD0→Option (σ ⊕ τ))(r115:(Int×σ)→Option (σ ⊕ τ))(x2:List (qD0))(x0:Int)(x1:qD0):=lp fun r s=>jk F yy r115 x2 x0 x1 r s.1 s.2
def ji {σ τ:Type}(F:Nat)(yy:σ→qD0→Option (σ ⊕ τ))(x2:List (qD0))(r115:(Int×σ)→Option (σ ⊕ τ))(x0:Int)(x1:σ):Option (σ ⊕ τ):=if decide (x0<(x2.length:Int)) then (idx x2 x0).bind fun x3=>qY F yy r115 x2 x0 x3 F (0,x1) else some (.inl x1)
def qI {σ τ:Type}(F:Nat)(yy:σ→qD0→Option (σ ⊕ τ))(x2:List (qD0)):=lp fun r s=>ji F yy x2 r s.1 s.2
def qeg {σ τ:Type}(F:Nat)(yy:σ→qD0→Option (σ ⊕ τ))(x2:List (qD0))(s0:σ):Option (σ ⊕ τ):=qI F yy x2 F (0,s0)
def jT (_F:Nat)(x0:Int)(x1:qD0)(r8:(Int×qD0)→Option ((Int×qD0) ⊕ Empty))(x2:Int)(x3:qD0):Option ((Int×qD0) ⊕ Empty):=if decide (x2<3) then chk (decide (x1.length=3)) ((idx x1 x2).bind fun x4=>(idx x3 x4).bind fun x5=>(idx x3 x4).bind fun _x494=>lett (x3.set x4.toNat (iadd .i64 x5 1)) fun x6=>r8 (iadd .i64 x2 1,x6)) else some (.inl (iadd .i64 x0 1,x3))
def jU (F:Nat)(x0:Int)(x1:qD0):=lp fun r s=>jT F x0 x1 r s.1 s.2
def kZ (F:Nat)(x0:Int)(x1 x2:qD0):Option ((Int×qD0) ⊕ Empty):=chk (decide (x2.length=3)) (chk (decide (x2.length=3)) (jU F x0 x2 F (0,x1)))
def qdK (F:Nat)(x1:List (qD0)):Option (qD0×Int×Int):=(kB F x1).bind fun x9=>if ((x9:Int) != 0) then some (([]:qD0),0,x9) else (mk 17592186044416 (0:Int) (x1.length:Int)).bind fun x10=>(qd4 F x1).bind fun x0=>(qfL F x0).bind fun _x260=>(qeg F (fun ((x2,x3):(Int×qD0)) (x4:qD0)=>kZ F x2 x3 x4) x0 (0,x10)).bind (Sum.elim (fun ((x2,x3):(Int×qD0))=>some (x3,x2,0)) (fun t=>t.elim))
def jO (F:Nat)(x2:List (qD0))(_x5 _x6 _x7:Int)(_x8 _x11:qD0):Option (Int×qD0):=(qdK F x2).bind fun x12=>(itoaC x12.2.1).bind fun x15=>some (x12.2.2,x15)
def qy (_F:Nat)(x0:Int)(x1:List (qD0))(x2 x3 x4:Int)(_x232 x5:qD0):Option (List (qD0)×Int×Int×Int×qD0×Int):=if ((x0:Int) != 0) then some (([]:List (qD0)),0,0,0,([]:qD0),x0) else some (x1,x2,x3,x4,x5,0)
def qb9 (F:Nat)(x10:(List (qD0)×Int×Int×Int))(x14:List (qD0)):Option (List (qD0)×Int×Int×Int×qD0×Int):=(sub x14 1 (x14.length:Int)).bind fun x0=>(qM F x10.1 x10.2.1 x10.2.2.1 x10.2.2.2 ([]:qD0) ([111,107]:qD0) 1 x0).bind fun x1=>if x1.1 then (qao F x10.1 x10.2.1 x10.2.2.1 x10.2.2.2 x1.2 ([111,107]:qD0)).bind fun x2=>qy F x2.1 x2.2 x10.2.1 x10.2.2.1 x10.2.2.2 x1.2 ([111,107]:qD0) else qy F 1 x10.1 x10.2.1 x10.2.2.1 x10.2.2.2 x1.2 ([111,107]:qD0)
def qeh (F:Nat)(x10:(List (qD0)×Int×Int×Int))(x14:List (qD0)):Option (List (qD0)×Int×Int×Int×qD0×Int):=(sub x14 1 (x14.length:Int)).bind fun x0=>(qM F x10.1 x10.2.1 x10.2.2.1 x10.2.2.2 ([]:qD0) ([111,107]:qD0) 2 x0).bind fun x1=>if x1.1 then (qgc F x10.1 x10.2.1 x10.2.2.1 x10.2.2.2 x1.2 ([111,107]:qD0)).bind fun x2=>qy F x2.1 x2.2 x10.2.1 x10.2.2.1 x10.2.2.2 x1.2 ([111,107]:qD0) else qy F 1 x10.1 x10.2.1 x10.2.2.1 x10.2.2.2 x1.2 ([111,107]:qD0)
def qei (F:Nat)(x10:(List (qD0)×Int×Int×Int))(x14:List (qD0)):Option (List (qD0)×Int×Int×Int×qD0×Int):=(sub x14 1 (x14.length:Int)).bind fun x0=>(qM F x10.1 x10.2.1 x10.2.2.1 x10.2.2.2 ([]:qD0) ([111,107]:qD0) 2 x0).bind fun x1=>if x1.1 then (qft F x10.1 x10.2.1 x10.2.2.1 x10.2.2.2 x1.2 ([111,107]:qD0)).bind fun x2=>qy F x2.1 x2.2 x10.2.1 x10.2.2.1 x10.2.2.2 x1.2 ([111,107]:qD0) else qy F 1 x10.1 x10.2.1 x10.2.2.1 x10.2.2.2 x1.2 ([111,107]:qD0)
def qej (F:Nat)(x10:(List (qD0)×Int×Int×Int))(x14:List (qD0)):Option (List (qD0)×Int×Int×Int×qD0×Int):=(sub x14 1 (x14.length:Int)).bind fun x0=>(qM F x10.1 x10.2.1 x10.2.2.1 x10.2.2.2 ([]:qD0) ([111,107]:qD0) 3 x0).bind fun x1=>if x1.1 then (qge F x10.1 x10.2.1 x10.2.2.1 x10.2.2.2 x1.2 ([111,107]:qD0)).bind fun x2=>qy F x2.1 x10.1 x2.2.1 x2.2.2.1 x2.2.2.2 x1.2 ([111,107]:qD0) else qy F 1 x10.1 x10.2.1 x10.2.2.1 x10.2.2.2 x1.2 ([111,107]:qD0)
def qek (F:Nat)(x10:(List (qD0)×Int×Int×Int))(x14:List (qD0)):Option (List (qD0)×Int×Int×Int×qD0×Int):=(sub x14 1 (x14.length:Int)).bind fun x0=>(qM F x10.1 x10.2.1 x10.2.2.1 x10.2.2.2 ([]:qD0) ([111,107]:qD0) 0 x0).bind fun x1=>if x1.1 then (qfs F x10.1 x10.2.1 x10.2.2.1 x10.2.2.2 x1.2 ([111,107]:qD0)).bind fun x2=>qy F x2.1 x10.1 x10.2.1 x10.2.2.1 x10.2.2.2 x1.2 x2.2 else qy F 1 x10.1 x10.2.1 x10.2.2.1 x10.2.2.2 x1.2 ([111,107]:qD0)
def qca (F:Nat)(x10:(List (qD0)×Int×Int×Int))(x14:List (qD0)):Option (List (qD0)×Int×Int×Int×qD0×Int):=(sub x14 1 (x14.length:Int)).bind fun x0=>(qM F x10.1 x10.2.1 x10.2.2.1 x10.2.2.2 ([]:qD0) ([111,107]:qD0) 1 x0).bind fun x1=>if x1.1 then (qbc F x10.1 x10.2.1 x10.2.2.1 x10.2.2.2 x1.2 ([111,107]:qD0)).bind fun x2=>qy F x2.1 x10.1 x10.2.1 x10.2.2.1 x10.2.2.2 x1.2 x2.2 else qy F 1 x10.1 x10.2.1 x10.2.2.1 x10.2.2.2 x1.2 ([111,107]:qD0)
def qel (F:Nat)(x10:(List (qD0)×Int×Int×Int))(x14:List (qD0)):Option (List (qD0)×Int×Int×Int×qD0×Int):=(sub x14 1 (x14.length:Int)).bind fun x0=>(qM F x10.1 x10.2.1 x10.2.2.1 x10.2.2.2 ([]:qD0) ([111,107]:qD0) 2 x0).bind fun x1=>if x1.1 then (qgd F x10.1 x10.2.1 x10.2.2.1 x10.2.2.2 x1.2 ([111,107]:qD0)).bind fun x2=>qy F x2.1 x10.1 x10.2.1 x10.2.2.1 x10.2.2.2 x1.2 x2.2 else qy F 1 x10.1 x10.2.1 x10.2.2.1 x10.2.2.2 x1.2 ([111,107]:qD0)
def qem (F:Nat)(x10:(List (qD0)×Int×Int×Int))(x14:List (qD0)):Option (List (qD0)×Int×Int×Int×qD0×Int):=(sub x14 1 (x14.length:Int)).bind fun x0=>(qM F x10.1 x10.2.1 x10.2.2.1 x10.2.2.2 ([]:qD0) ([111,107]:qD0) 2 x0).bind fun x1=>if x1.1 then (qgf F x10.1 x10.2.1 x10.2.2.1 x10.2.2.2 x1.2 ([111,107]:qD0)).bind fun x2=>qy F x2.1 x10.1 x10.2.1 x10.2.2.1 x10.2.2.2 x1.2 x2.2 else qy F 1 x10.1 x10.2.1 x10.2.2.1 x10.2.2.2 x1.2 ([111,107]:qD0)
def qcb (F:Nat)(x10:(List (qD0)×Int×Int×Int))(x14:List (qD0)):Option (List (qD0)×Int×Int×Int×qD0×Int):=(sub x14 1 (x14.length:Int)).bind fun x0=>(qM F x10.1 x10.2.1 x10.2.2.1 x10.2.2.2 ([]:qD0) ([111,107]:qD0) 1 x0).bind fun x1=>if x1.1 then (kw F x10.1 x10.2.1 x10.2.2.1 x10.2.2.2 x1.2 ([111,107]:qD0)).bind fun x2=>qy F x2.1 x10.1 x10.2.1 x10.2.2.1 x10.2.2.2 x1.2 x2.2 else qy F 1 x10.1 x10.2.1 x10.2.2.1 x10.2.2.2 x1.2 ([111,107]:qD0)
def qcc (F:Nat)(x10:(List (qD0)×Int×Int×Int))(x14:List (qD0)):Option (List (qD0)×Int×Int×Int×qD0×Int):=(sub x14 1 (x14.length:Int)).bind fun x0=>(qM F x10.1 x10.2.1 x10.2.2.1 x10.2.2.2 ([]:qD0) ([111,107]:qD0) 0 x0).bind fun x1=>if x1.1 then (qap F x10.1 x10.2.1 x10.2.2.1 x10.2.2.2 x1.2 ([111,107]:qD0)).bind fun x2=>qy F x2.1 x10.1 x10.2.1 x10.2.2.1 x10.2.2.2 x1.2 x2.2 else qy F 1 x10.1 x10.2.1 x10.2.2.1 x10.2.2.2 x1.2 ([111,107]:qD0)
def qcd (F:Nat)(x10:(List (qD0)×Int×Int×Int))(x14:List (qD0)):Option (List (qD0)×Int×Int×Int×qD0×Int):=(sub x14 1 (x14.length:Int)).bind fun x0=>(qM F x10.1 x10.2.1 x10.2.2.1 x10.2.2.2 ([]:qD0) ([111,107]:qD0) 1 x0).bind fun x1=>if x1.1 then (kv F x10.1 x10.2.1 x10.2.2.1 x10.2.2.2 x1.2 ([111,107]:qD0)).bind fun x2=>qy F x2.1 x10.1 x10.2.1 x10.2.2.1 x10.2.2.2 x1.2 x2.2 else qy F 1 x10.1 x10.2.1 x10.2.2.1 x10.2.2.2 x1.2 ([111,107]:qD0)
def qce (F:Nat)(x10:(List (qD0)×Int×Int×Int))(x14:List (qD0)):Option (List (qD0)×Int×Int×Int×qD0×Int):=(sub x14 1 (x14.length:Int)).bind fun x0=>(qM F x10.1 x10.2.1 x10.2.2.1 x10.2.2.2 ([]:qD0) ([111,107]:qD0) 0 x0).bind fun x1=>if x1.1 then (jO F x10.1 x10.2.1 x10.2.2.1 x10.2.2.2 x1.2 ([111,107]:qD0)).bind fun x2=>qy F x2.1 x10.1 x10.2.1 x10.2.2.1 x10.2.2.2 x1.2 x2.2 else qy F 1 x10.1 x10.2.1 x10.2.2.1 x10.2.2.2 x1.2 ([111,107]:qD0)
def qen (F:Nat)(x10:(List (qD0)×Int×Int×Int)):Option (List (qD0)×Int×Int×Int×qD0×Int):=qy F 1 x10.1 x10.2.1 x10.2.2.1 x10.2.2.2 ([]:qD0) ([111,107]:qD0)
def zH (F:Nat)(x1:List (qD0))(x4 x5 x6:Int)(x7:qD0):Option (List (qD0)×Int×Int×Int×qD0×Int):=(qe3 F x1 x4 x5 x6).bind fun x10=>(splitM x7 ([32]:qD0)).bind fun x14=>(idx x14 0).bind fun x0=>(qcn F x10.1 x10.2.1 x10.2.2.1 x10.2.2.2 ([]:qD0) ([111,107]:qD0)).bind fun _x414=>if (bstr x0 == bstr ([110,111,100,101,115]:qD0)) then qb9 F x10 x14 else if (bstr x0 == bstr ([97,114,99]:qD0)) then qeh F x10 x14 else if (bstr x0 == bstr ([100,114,111,112]:qD0)) then qei F x10 x14 else if (bstr x0 == bstr ([104,111,119]:qD0)) then qej F x10 x14 else if (bstr x0 == bstr ([98,105,116,115]:qD0)) then qek F x10 x14 else if (bstr x0 == bstr ([108,105,115,116]:qD0)) then qca F x10 x14 else if (bstr x0 == bstr ([102,97,114]:qD0)) then qel F x10 x14 else if (bstr x0 == bstr ([119,97,121]:qD0)) then qem F x10 x14 else if (bstr x0 == bstr ([112,97,114,116]:qD0)) then qcb F x10 x14 else if (bstr x0 == bstr ([111,114,100,101,114]:qD0)) then qcc F x10 x14 else if (bstr x0 == bstr ([99,111,114,101]:qD0)) then qcd F x10 x14 else if (bstr x0 == bstr ([116,104,114,101,101,115]:qD0)) then qce F x10 x14 else qen F x10
def qhb (_F:Nat)(x0:qD0)(x1:List (qD0))(x2 x3 x4:Int):Option (List (qD0)×Int×Int×Int×qD0×Int):=(bstrM x0).bind fun x5=>some (x1,x2,x3,x4,x5,0)
def qe0 (_F:Nat)(r19:(Int×qD0×List (qD0)×Int×Int×Int)→Option (List (qD0)×Int×Int×Int×qD0×Int))(x0:Int)(x1:qD0)(x2:List (qD0))(x3 x4 x5:Int):Option (List (qD0)×Int×Int×Int×qD0×Int):=r19 (iadd .i64 x0 1,x1,x2,x3,x4,x5)
def qe1 (F:Nat)(r19:(Int×qD0×List (qD0)×Int×Int×Int)→Option (List (qD0)×Int×Int×Int×qD0×Int))(x0:Int)(x1 x2:qD0)(x3:List (qD0))(x4 x5 x6:Int):Option (List (qD0)×Int×Int×Int×qD0×Int):=(app 9223372036854775807 x2 ([10]:qD0)).bind fun x7=>(app 140737488355328 x1 (x7.map b8)).bind fun x8=>qe0 F r19 x0 x8 x3 x4 x5 x6
def qkS (F:Nat)(x11:List (qD0))(r19:(Int×qD0×List (qD0)×Int×Int×Int)→Option (List (qD0)×Int×Int×Int×qD0×Int))(x0:Int)(x1:qD0)(x2:List (qD0))(x3 x4 x5:Int):Option (List (qD0)×Int×Int×Int×qD0×Int):=if decide (x0<(x11.length:Int)) then (idx x11 x0).bind fun x6=>if (bstr x6 == bstr ([]:qD0)) then qe0 F r19 x0 x1 x2 x3 x4 x5 else (zH F x2 x3 x4 x5 x6).bind fun x7=>if ((x7.2.2.2.2.2:Int) != 0) then (itoaC x7.2.2.2.2.2).bind fun x8=>(app 9223372036854775807 ([101,114,114,111,114,32]:qD0) x8).bind fun x9=>qe1 F r19 x0 x1 x9 x2 x3 x4 x5 else qe1 F r19 x0 x1 x7.2.2.2.2.1 x7.1 x7.2.1 x7.2.2.1 x7.2.2.2.1 else qhb F x1 x2 x3 x4 x5
def qe2 (F:Nat)(x11:List (qD0)):=lp fun r s=>qkS F x11 r s.1 s.2.1 s.2.2.1 s.2.2.2.1 s.2.2.2.2.1 s.2.2.2.2.2
def qfM (F:Nat)(x1:List (qD0))(x4 x5 x6:Int)(x11:List (qD0))(x16:Int):Option (List (qD0)×Int×Int×Int×qD0×Int):=if ((x16:Int) != 0) then some (([]:List (qD0)),0,0,0,([]:qD0),x16) else (qe3 F x1 x4 x5 x6).bind fun x18=>qe2 F x11 F (0,([]:qD0),x18.1,x18.2.1,x18.2.2.1,x18.2.2.2)
def qkR (F:Nat)(x1:List (qD0))(x4 x5 x6:Int)(x7:qD0):Option (List (qD0)×Int×Int×Int×qD0×Int):=(yP F x1 x4 x5 x6).bind fun x10=>(splitM x7 ([10]:qD0)).bind fun x11=>if (((x10:Int) == 0) && decide (100<(x11.length:Int))) then qfM F x1 x4 x5 x6 x11 2 else qfM F x1 x4 x5 x6 x11 x10
def qdv (_F:Nat)(x9:Bool):Option Bool:=some x9
def qdJ (F:Nat) :Option Bool:=(qkR F ([]:List (qD0)) 2 3 1 ([110,111,100,101,115,32,52,10,97,114,99,32,48,32,49,10,97,114,99,32,49,32,50,10,97,114,99,32,50,32,48,10,97,114,99,32,48,32,49,10,10,108,105,115,116,32,48,10,102,97,114,32,48,32,50,10,102,97,114,32,48,32,51,10,119,97,121,32,49,32,48,10,112,97,114,116,32,50,10,111,114,100,101,114,10,99,111,114,101,32,49,10,116,104,114,101,101,115,10,100,114,111,112,32,50,32,48,10,111,114,100,101,114,10,100,114,111,112,32,50,32,48,10,104,111,119,32,56,32,48,32,49,10,119,104,97,116,10,102,97,114,32,48,32,52,10,98,105,116,115]:qD0)).bind fun x1=>if ((((x1.2.2.2.2.2:Int) == 0) && (bstr x1.2.2.2.2.1 == bstr ([111,107,10,111,107,10,111,107,10,111,107,10,101,114,114,111,114,32,54,10,49,10,50,10,110,111,110,101,10,49,32,50,32,48,10,48,10,110,111,110,101,10,50,10,49,10,111,107,10,48,32,49,32,50,32,51,10,101,114,114,111,114,32,53,10,101,114,114,111,114,32,51,10,101,114,114,111,114,32,49,10,101,114,114,111,114,32,51,10,50,48,10]:qD0))) && (((x1.1.length:Int):Int) == 4)) then (yP F x1.1 x1.2.1 x1.2.2.1 x1.2.2.2.1).bind fun x10=>qdv F ((x10:Int) == 0) else qdv F false
def vY (F:Nat)(x1:List (qD0))(x4 x5 x6:Int)(x7:qD0):Option (List (qD0)×Int×Int×Int×qD0×Int):=(yP F x1 x4 x5 x6).bind fun x12=>if ((x12:Int) != 0) then some (([]:List (qD0)),0,0,0,([]:qD0),x12) else (zH F x1 x4 x5 x6 x7).bind fun x13=>some (x13.1,x13.2.1,x13.2.2.1,x13.2.2.2.1,x13.2.2.2.2.1,x13.2.2.2.2.2)
def vz (_F:Nat)(r1:(Int×qD0)→Option (qD0))(x6:Int)(x7:qD0):Option (qD0):=(app 9223372036854775807 ([iconv .u8 (iadd .i64 48 (irem x6 10))]:qD0) x7).bind fun x15=>if (((iquo .i64 x6 10):Int) == 0) then some x15 else r1 (iquo .i64 x6 10,x15)
def jR (F:Nat):=lp fun r s=>vz F r s.1 s.2
def je (F:Nat)(x1:Int):Option (qD0):=jR F F (x1,([]:qD0))
def qa9 (_F:Nat)(x0:qD0)(x1:Int)(x2:(List (qD0)×Int×Int×Int×qD0×Int))(x3:qD0)(x4:Int)(x5:Bool):Option Bool:=some ((((((x5 && ((x1:Int) == 0)) && (bstr x0 == bstr ([48]:qD0))) && ((x2.2.2.2.2.2:Int) == 0)) && (bstr x2.2.2.2.2.1 == bstr ([48]:qD0))) && ((x4:Int) == 0)) && (bstr x3 == bstr ([]:qD0)))
def jb (F:Nat)(x8:Int)(x55:(List (qD0)×Int×Int×Int×qD0×Int))(x83:qD0)(x84:Int)(x0:qD0)(x1:Int)(x2:(List (qD0)×Int×Int×Int×qD0×Int))(x3:qD0)(x4:Int)(x5:qD0):Option Bool:=if ((((x55.2.2.2.2.2:Int) == 0) && (bstr x55.2.2.2.2.1 == bstr x5)) && ((x84:Int) == 0)) then (je F x8).bind fun x6=>qa9 F x0 x1 x2 x3 x4 (bstr x83 == bstr x6) else qa9 F x0 x1 x2 x3 x4 false
def jc (F:Nat)(r18:(qD0×Int)→Option Bool)(x0:Int)(x1:qD0):Option Bool:=(je F x0).bind fun x2=>(app 9223372036854775807 x1 x2).bind fun x3=>r18 (x3,iadd .i64 x0 1)
def qcD (F:Nat)(x7 x8:Int)(x55:(List (qD0)×Int×Int×Int×qD0×Int))(x83:qD0)(x84:Int)(x0:qD0)(x1:Int)(x2:(List (qD0)×Int×Int×Int×qD0×Int))(x3:qD0)(x4:Int)(r18:(qD0×Int)→Option Bool)(x5:qD0)(x6:Int):Option Bool:=if decide (x6<x7) then if decide (0<x6) then (app 9223372036854775807 x5 ([32]:qD0)).bind fun x9=>jc F r18 x6 x9 else jc F r18 x6 x5 else jb F x8 x55 x83 x84 x0 x1 x2 x3 x4 x5
def jd (F:Nat)(x7 x8:Int)(x55:(List (qD0)×Int×Int×Int×qD0×Int))(x83:qD0)(x84:Int)(x0:qD0)(x1:Int)(x2:(List (qD0)×Int×Int×Int×qD0×Int))(x3:qD0)(x4:Int):=lp fun r s=>qcD F x7 x8 x55 x83 x84 x0 x1 x2 x3 x4 r s.1 s.2
def qdu (F:Nat)(x7 x8:Int)(x55:(List (qD0)×Int×Int×Int×qD0×Int))(x83:qD0)(x84:Int)(x0:qD0)(x1:Int)(x2:(List (qD0)×Int×Int×Int×qD0×Int))(x3:qD0)(x4:Int):Option Bool:=jd F x7 x8 x55 x83 x84 x0 x1 x2 x3 x4 F (([]:qD0),0)
def qdt (F:Nat)(x7 x8:Int)(x48:List (qD0))(x49 x50 x51:Int)(x55:(List (qD0)×Int×Int×Int×qD0×Int))(x83:qD0)(x84:Int)(x0:qD0)(x1:Int):Option Bool:=(vY F x48 x49 x50 x51 ([116,104,114,101,101,115]:qD0)).bind fun x2=>(je F x8).bind fun x3=>(app 9223372036854775807 ([108,105,115,116,32]:qD0) x3).bind fun x4=>(vY F x48 x49 x50 x51 x4).bind fun x5=>qdu F x7 x8 x55 x83 x84 x0 x1 x2 x5.2.2.2.2.1 x5.2.2.2.2.2
def qds (F:Nat)(x7 x8:Int)(x48:List (qD0))(x49 x50 x51:Int)(x55:(List (qD0)×Int×Int×Int×qD0×Int))(x83:qD0)(x84:Int):Option Bool:=(je F x8).bind fun x0=>(app 9223372036854775807 ([99,111,114,101,32]:qD0) x0).bind fun x1=>(vY F x48 x49 x50 x51 x1).bind fun x2=>qdt F x7 x8 x48 x49 x50 x51 x55 x83 x84 x2.2.2.2.2.1 x2.2.2.2.2.2
def qbL (F:Nat)(x1:List (qD0))(x4 x5 x6 x7 x8 x45:Int)(x48:List (qD0))(x49 x50 x51:Int):Option Bool:=if ((x45:Int) != 0) then (yP F x1 x4 x5 x6).bind fun x54=>some ((x54:Int) != 0) else (vY F x48 x49 x50 x51 ([111,114,100,101,114]:qD0)).bind fun x55=>(je F x8).bind fun x0=>(app 9223372036854775807 ([112,97,114,116,32]:qD0) x0).bind fun x2=>(vY F x48 x49 x50 x51 x2).bind fun x3=>qds F x7 x8 x48 x49 x50 x51 x55 x3.2.2.2.2.1 x3.2.2.2.2.2
def qfJ (F:Nat)(x1:List (qD0))(x4 x5 x6 x7 x8:Int):Option Bool:=(qdJ F).bind fun x12=>if (!x12) then some false else if (((decide (x7<1) || decide (100<x7)) || decide (x8<0)) || decide (x7≤x8)) then some true else (je F x7).bind fun x0=>(app 9223372036854775807 ([110,111,100,101,115,32]:qD0) x0).bind fun x2=>(vY F x1 x4 x5 x6 x2).bind fun x3=>qbL F x1 x4 x5 x6 x7 x8 x3.2.2.2.2.2 x3.1 x3.2.1 x3.2.2.1 x3.2.2.2.1
end Go.Proofs.YthibchijlpflmaaGreatDoor
