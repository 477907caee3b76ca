/- What each Go function of this seat computes, in plain terms. -/
import Derived.Test.YthibchijlpflmaaGreatDoorSy
namespace Go.Proofs.YthibchijlpflmaaGreatDoor
open Go SX
abbrev qFm:=List Int
abbrev qFn:=Option Addr
abbrev qFo (x:Int):Value:=.int .i64 x
abbrev qFp (a:Option Addr) {α:Type} (x:List α) (c:Nat):Value:=.slice a x.length c
abbrev qFq (g:Nat):Value:=.pointer (some ⟨g,0,none⟩)
abbrev qFr (a:Option Addr) (x:List Int) (c:Nat):World→Prop:=Sl (eI .i64) 1 (.slice a x.length c) x
abbrev qFs (a:Option Addr) (x:List Int) (c:Nat):RowD:=Ro (eI .i64) 3 1 (.slice a x.length c) x
abbrev qFt (a:Option Addr) (x:List Int) (c:Nat):World→Prop:=Sl (eI .u8) 1 (.slice a x.length c) x
abbrev qFu (a:Option Addr) (x:List Int) (c:Nat):RowD:=Ro (eI .u8) 5 1 (.slice a x.length c) x
def qdp (_F:Nat)(x0:Int):Option Int:=if decide (600<x0) then some 2 else some 0
def qdq (_F:Nat)(r38:(Int×Int)→Option Int)(x0 x1:Int):Option Int:=r38 (x1,iadd .i64 x0 1)
def qbF (F:Nat)(r38:(Int×Int)→Option Int)(x0 x1:Int)(x2:qFm):Option Int:=qdq F r38 x1 (iadd .i64 x0 (x2.length:Int))
def qdo (F:Nat)(r38:(Int×Int)→Option Int)(x1:List (qFm))(x0 x2:Int)(x3:qFm)(r45:(Int×Int)→Option Int)(x4 x5:Int):Option Int:=if decide (x5<(x3.length:Int)) then (idx x3 x5).bind fun x6=>if (decide (x6<0) || decide ((x1.length:Int)≤x6)) then some 3 else if decide (x6≤x4) then some 4 else r45 (x6,iadd .i64 x5 1) else qbF F r38 x0 x2 x3
def qdr (F:Nat)(r38:(Int×Int)→Option Int)(x1:List (qFm))(x0 x2:Int)(x3:qFm):=lp fun r s=>qdo F r38 x1 x0 x2 x3 r s.1 s.2
def qdn (F:Nat)(x1:List (qFm))(r38:(Int×Int)→Option Int)(x0 x2:Int):Option Int:=if decide (x2<(x1.length:Int)) then (idx x1 x2).bind fun x3=>qdr F r38 x1 x0 x2 x3 F (-1,0) else qdp F x0
def vn (F:Nat)(x1:List (qFm)):=lp fun r s=>qdn F x1 r s.1 s.2
def kQ (F:Nat)(x1:List (qFm)):Option Int:=if decide (100<(x1.length:Int)) then some 2 else vn F x1 F (0,0)
def vD (_F:Nat)(x1 x2 x3:Int):Option Int:=if ((((((decide (x1<0) || decide (7<x1)) || decide (x2<0)) || ((x2:Int) == 1)) || decide (300<x2)) || decide (x3<1)) || decide (16<x3)) then some 3 else some 0
def jA (F:Nat)(x1:List (qFm))(x4 x5 x6:Int):Option Int:=(kQ F x1).bind fun x10=>if ((x10:Int) != 0) then some x10 else (vD F x4 x5 x6).bind fun x11=>some x11
def kT (_F:Nat)(x1:qFm):Option (qFm):=(app 8796093022208 ([]:qFm) x1).bind fun x8=>some x8
def qix (_F:Nat)(x4 x5 x6:Int)(x0:List (qFm)):Option (List (qFm)×Int×Int×Int):=some (x0,x4,x5,x6)
def qgm (F:Nat)(x1:List (qFm))(x4 x5 x6:Int)(r4:(Int×List (qFm))→Option (List (qFm)×Int×Int×Int))(x0:Int)(x2:List (qFm)):Option (List (qFm)×Int×Int×Int):=if decide (x0<(x1.length:Int)) then (idx x1 x0).bind fun x3=>(idx x2 x0).bind fun _x233=>(kT F x3).bind fun x7=>lett (x2.set x0.toNat x7) fun x8=>r4 (iadd .i64 x0 1,x8) else qix F x4 x5 x6 x2
def qgo (F:Nat)(x1:List (qFm))(x4 x5 x6:Int):=lp fun r s=>qgm F x1 x4 x5 x6 r s.1 s.2
def qgn (F:Nat)(x1:List (qFm))(x4 x5 x6:Int)(x20:List (qFm)):Option (List (qFm)×Int×Int×Int):=qgo F x1 x4 x5 x6 F (0,x20)
def qfD (F:Nat)(x1:List (qFm))(x4 x5 x6:Int):Option (List (qFm)×Int×Int×Int):=(mk 4398046511104 (([]:qFm):qFm) (x1.length:Int)).bind fun x0=>qgn F x1 x4 x5 x6 x0
def qjn (_F:Nat)(x1 x2:Int):Option (Int×Int):=lett (imul .u64 (iconv .u64 x1) (iconv .u64 x2)) fun x3=>some (iconv .u32 (ishr .u64 x3 32),iconv .u32 x3)
def qf7 (_F:Nat)(x1 x2:Int):Option (Int×Int):=lett (imul .u64 (iand .u64 x1 4294967295) (iand .u64 x2 4294967295)) fun x3=>lett (iadd .u64 (imul .u64 (ishr .u64 x1 32) (iand .u64 x2 4294967295)) (ishr .u64 x3 32)) fun x4=>lett (iadd .u64 (iand .u64 x4 4294967295) (imul .u64 (iand .u64 x1 4294967295) (ishr .u64 x2 32))) fun x5=>lett (iadd .u64 (iadd .u64 (imul .u64 (ishr .u64 x1 32) (ishr .u64 x2 32)) (ishr .u64 x4 32)) (ishr .u64 x5 32)) fun x6=>some (x6,imul .u64 x1 x2)
def qcH (F:Nat)(x1 x2:Int):Option (Int×Int):=(qf7 F x1 x2).bind fun x3=>some (x3.1,x3.2)
def vR (_F:Nat)(x64:qFm):Option (qFm):=some x64
def yw (F:Nat)(r3:(qFm×Int)→Option (qFm))(x80:qFm)(x81:Int):Option (qFm):=if decide (x81<(x80.length:Int)) then (sub x80 x81 (x80.length:Int)).bind fun x99=>(sub x80 0 x81).bind fun x0=>lett (yI x81.toNat x80 x0) fun x1=>r3 (x1,iadd .i64 x81 ((min x0.length x99.length:Nat):Int)) else vR F x80
def kN (F:Nat):=lp fun r s=>yw F r s.1 s.2
def yd (F:Nat)(x1:qFm)(x4:Int):Option (qFm):=if decide (x4<0) then none else (qcH F (iconv .u64 (x1.length:Int)) (iconv .u64 x4)).bind fun x6=>if (decide (0<x6.1) || decide (9223372036854775807<x6.2)) then none else (mk 17592186044416 (0:Int) (iconv .i64 x6.2)).bind fun x10=>lett (yI 0 x10 x1) fun x13=>kN F F (x13,((min x1.length x10.length:Nat):Int))
def qcs (_F:Nat):Option Int:=some (-1)
def qY (F:Nat)(x1:qFm)(x4:Int)(r3:Int→Option Int)(x47:Int):Option Int:=if decide (x47<(x1.length:Int)) then (idx x1 x47).bind fun x64=>if ((x4:Int) == x64) then some x47 else r3 (iadd .i64 x47 1) else qcs F
def qZ (F:Nat)(x1:qFm)(x4:Int):=lp fun r s=>qY F x1 x4 r s
def zB (F:Nat)(x1:qFm)(x4:Int):Option Int:=qZ F x1 x4 F 0
def qc1 (_F:Nat)(x35:Int):Option Int:=some x35
def qae (F:Nat)(x1:qFm)(r3:(Int×Int)→Option Int)(x44 x45:Int):Option Int:=if decide (x45<(x1.length:Int)) then (idx x1 x45).bind fun x59=>r3 (imin x44 x59,iadd .i64 x45 1) else qc1 F x44
def qaf (F:Nat)(x1:qFm):=lp fun r s=>qae F x1 r s.1 s.2
def jI (F:Nat)(x1:qFm):Option Int:=if decide ((x1.length:Int)<1) then none else (idx x1 0).bind fun x5=>qaf F x1 F (x5,1)
def jT (_F:Nat)(x5 x8 x11:qFm)(x17 x19:Int)(x75:qFm):Option (qFm×qFm×qFm×qFm×Int):=(sub x11 0 x19).bind fun x76=>some (x5,x8,x76,x75,x17)
def jS (F:Nat)(x5 x8 x11:qFm)(x17 x19 x23:Int)(r3:(Int×qFm)→Option (qFm×qFm×qFm×qFm×Int))(x93:Int)(x94:qFm):Option (qFm×qFm×qFm×qFm×Int):=if decide (x93<((x11.length-x19.toNat:Nat):Int)) then (idx (x11.drop x19.toNat) x93).bind fun x0=>(idx x94 x0).bind fun _x121=>lett (x94.set x0.toNat x23) fun x1=>r3 (iadd .i64 x93 1,x1) else jT F x5 x8 x11 x17 x19 x94
def jU (F:Nat)(x5 x8 x11:qFm)(x17 x19 x23:Int):=lp fun r s=>jS F x5 x8 x11 x17 x19 x23 r s.1 s.2
def je (F:Nat)(_x2:List (qFm))(x5 x8 x11 x14:qFm)(x17 x18:Int):Option (qFm×qFm×qFm×qFm×Int):=(zB F x11 x18).bind fun x19=>chk (decide (0≤x19∧x19<(x11.length:Int))) ((jI F (x11.drop x19.toNat)).bind fun x23=>jU F x5 x8 x11 x17 x19 x23 F (0,x14))
def jV (F:Nat)(x2:List (qFm))(x18:Int)(x0 x1 x3 x4:qFm)(x5:Int):Option (qFm×qFm×qFm×qFm×Int):=(idx x1 x18).bind fun x6=>(idx x0 x18).bind fun x7=>if ((x6:Int) == x7) then (je F x2 x0 x1 x3 x4 x5 x18).bind fun x8=>some (x8.1,x8.2.1,x8.2.2.1,x8.2.2.2.1,x8.2.2.2.2) else some (x0,x1,x3,x4,x5)
def zF (_F:Nat)(r8:(Int×qFm×qFm×qFm×qFm×Int)→Option (qFm×qFm×qFm×qFm×Int))(x0:Int)(x1 x2 x3 x4:qFm)(x5:Int):Option (qFm×qFm×qFm×qFm×Int):=r8 (iadd .i64 x0 1,x1,x2,x3,x4,x5)
def yX (F:Nat)(self:(List (qFm))→(qFm)→(qFm)→(qFm)→(qFm)→Int→Int→Option (qFm×qFm×qFm×qFm×Int))(x2:List (qFm))(x18:Int)(x0:qFm)(r8:(Int×qFm×qFm×qFm×qFm×Int)→Option (qFm×qFm×qFm×qFm×Int))(x1:Int)(x3 x4 x5 x6:qFm)(x7:Int):Option (qFm×qFm×qFm×qFm×Int):=if decide (x1<(x0.length:Int)) then (idx x0 x1).bind fun x8=>(idx x3 x8).bind fun x9=>if ((x9:Int) == 0) then (self x2 x3 x4 x5 x6 x7 x8).bind fun x10=>(idx x10.2.1 x18).bind fun x11=>(idx x10.2.1 x8).bind fun x12=>(idx x10.2.1 x18).bind fun _x791=>lett (x10.2.1.set x18.toNat (imin x11 x12)) fun x13=>zF F r8 x1 x10.1 x13 x10.2.2.1 x10.2.2.2.1 x10.2.2.2.2 else (idx x6 x8).bind fun x14=>if decide (x14<0) then (idx x4 x18).bind fun x15=>(idx x3 x8).bind fun x16=>(idx x4 x18).bind fun _x809=>lett (x4.set x18.toNat (imin x15 x16)) fun x17=>zF F r8 x1 x3 x17 x5 x6 x7 else zF F r8 x1 x3 x4 x5 x6 x7 else jV F x2 x18 x3 x4 x5 x6 x7
def zp (F:Nat)(self:(List (qFm))→(qFm)→(qFm)→(qFm)→(qFm)→Int→Int→Option (qFm×qFm×qFm×qFm×Int))(x2:List (qFm))(x18:Int)(x0:qFm):=lp fun r s=>yX F self x2 x18 x0 r s.1 s.2.1 s.2.2.1 s.2.2.2.1 s.2.2.2.2.1 s.2.2.2.2.2
def q6:Nat→(List (qFm))→(qFm)→(qFm)→(qFm)→(qFm)→Int→Int→Option (qFm×qFm×qFm×qFm×Int)
  | 0=>fun _ _ _ _ _ _ _=>none
  | F+1=>fun x2 x5 x8 x11 x14 x17 x18 =>
    let self:=q6 F
    ((idx x5 x18).bind fun _x33=>((idx x8 x18).bind fun _x37=>(lett (x5.set x18.toNat (iadd .i64 x17 1)) fun x41=>(lett (x8.set x18.toNat (iadd .i64 x17 1)) fun x44=>((app 8796093022208 x11 ([x18]:qFm)).bind fun x49=>((idx x2 x18).bind fun x0=>zp F self x2 x18 x0 F (0,x41,x44,x49,x14,iadd .i64 x17 1)))))))
def qgc (_F:Nat)(_x265 _x268 _x271 x0:qFm)(_x275:Int):Option (qFm):=some x0
def vT (_F:Nat)(r9:(Int×qFm×qFm×qFm×qFm×Int)→Option (qFm))(x0:Int)(x1 x2 x3 x4:qFm)(x5:Int):Option (qFm):=r9 (iadd .i64 x0 1,x1,x2,x3,x4,x5)
def qdD (F:Nat)(x1:List (qFm))(r9:(Int×qFm×qFm×qFm×qFm×Int)→Option (qFm))(x0:Int)(x2 x3 x4 x5:qFm)(x6:Int):Option (qFm):=if decide (x0<(x1.length:Int)) then (idx x2 x0).bind fun x7=>if ((x7:Int) == 0) then (q6 F x1 x2 x3 x4 x5 x6 x0).bind fun x8=>vT F r9 x0 x8.1 x8.2.1 x8.2.2.1 x8.2.2.2.1 x8.2.2.2.2 else vT F r9 x0 x2 x3 x4 x5 x6 else qgc F x2 x3 x4 x5 x6
def jJ (F:Nat)(x1:List (qFm)):=lp fun r s=>qdD F x1 r s.1 s.2.1 s.2.2.1 s.2.2.2.1 s.2.2.2.2.1 s.2.2.2.2.2
def qdE (F:Nat)(x1:List (qFm))(x0 x2 x3:qFm):Option (qFm):=jJ F x1 F (0,x0,x2,([]:qFm),x3,0)
def qag (F:Nat)(x1:List (qFm)):Option (qFm):=(mk 17592186044416 (0:Int) (x1.length:Int)).bind fun x0=>(mk 17592186044416 (0:Int) (x1.length:Int)).bind fun x2=>(yd F ([-1]:qFm) (x1.length:Int)).bind fun x3=>qdE F x1 x0 x2 x3
def qdC (F:Nat)(x1:List (qFm)):Option (qFm×Int):=(kQ F x1).bind fun x7=>if ((x7:Int) != 0) then some (([]:qFm),x7) else (qag F x1).bind fun x8=>some (x8,0)
def jE (_F:Nat)(_x1:List (qFm)):Option Unit:=some ()
def zg (_F:Nat)(x1:qFm):Option (qFm):=if x1.length<4611686018427387904 then some (srt x1) else none
def zE (_F:Nat)(x1:qFm):Option (qFm):=if (Go.Lib.compact x1).length≤x1.length then some (Go.Lib.compact x1) else none
def qco {σ τ:Type}(_F:Nat)(_yy:σ→(Int×Int)→Option (σ ⊕ τ))(r7:(Int×σ)→Option (σ ⊕ τ))(x0:Int)(x1:σ):Option (σ ⊕ τ):=r7 (iadd .i64 x0 1,x1)
def qbE {σ τ:Type}(F:Nat)(yy:σ→(Int×Int)→Option (σ ⊕ τ))(r7:(Int×σ)→Option (σ ⊕ τ))(x0:Int)(x1:qFm)(r10:(Int×σ)→Option (σ ⊕ τ))(x2:Int)(x3:σ):Option (σ ⊕ τ):=if decide (x2<(x1.length:Int)) then (idx x1 x2).bind fun x4=>(yy x3 (x0,x4)).bind (Sum.elim (fun x5=>r10 (iadd .i64 x2 1,x5)) (fun x6=>some (.inr x6))) else qco F yy r7 x0 x3
def jF {σ τ:Type}(F:Nat)(yy:σ→(Int×Int)→Option (σ ⊕ τ))(r7:(Int×σ)→Option (σ ⊕ τ))(x0:Int)(x1:qFm):=lp fun r s=>qbE F yy r7 x0 x1 r s.1 s.2
def qcn {σ τ:Type}(F:Nat)(yy:σ→(Int×Int)→Option (σ ⊕ τ))(x2:List (qFm))(r7:(Int×σ)→Option (σ ⊕ τ))(x0:Int)(x1:σ):Option (σ ⊕ τ):=if decide (x0<(x2.length:Int)) then (idx x2 x0).bind fun x3=>jF F yy r7 x0 x3 F (0,x1) else some (.inl x1)
def kq {σ τ:Type}(F:Nat)(yy:σ→(Int×Int)→Option (σ ⊕ τ))(x2:List (qFm)):=lp fun r s=>qcn F yy x2 r s.1 s.2
def jQ {σ τ:Type}(F:Nat)(yy:σ→(Int×Int)→Option (σ ⊕ τ))(x2:List (qFm))(s0:σ):Option (σ ⊕ τ):=kq F yy x2 F (0,s0)
def qbV (_F:Nat)(x0:List (qFm))(x1 x2:Int):Option (List (qFm) ⊕ Empty):=if ((x1:Int) != x2) then (idx x0 x1).bind fun x3=>(idx x0 x2).bind fun x4=>chk (decide (x2.toNat≠x1.toNat)) ((idx x0 x1).bind fun _x438=>(idx x0 x2).bind fun _x444=>(app 8796093022208 x3 ([x2]:qFm)).bind fun x5=>(app 8796093022208 x4 ([x1]:qFm)).bind fun x6=>lett (x0.set x1.toNat x5) fun x7=>lett (x7.set x2.toNat x6) fun x8=>some (.inl x8)) else some (.inl x0)
def qhK (_F:Nat)(x0:List (qFm)):Option (List (qFm)):=some x0
def qfz (F:Nat)(x0:List (qFm))(r5:(Int×List (qFm))→Option (List (qFm)))(x1:Int)(x2:List (qFm)):Option (List (qFm)):=if decide (x1<(x0.length:Int)) then (idx x2 x1).bind fun x3=>(zg F x3).bind fun x4=>chk (decide (x4.length=x3.length)) (lett (x2.set x1.toNat x4) fun x5=>(idx x5 x1).bind fun x6=>(idx x5 x1).bind fun _x871=>(zE F x6).bind fun x7=>lett (x5.set x1.toNat x7) fun x8=>r5 (iadd .i64 x1 1,x8)) else qhK F x2
def qfA (F:Nat)(x0:List (qFm)):=lp fun r s=>qfz F x0 r s.1 s.2
def qeI (F:Nat)(x1:List (qFm)):Option (List (qFm)):=(mk 4398046511104 (([]:qFm):qFm) (x1.length:Int)).bind fun x5=>(jE F x1).bind fun _x256=>(jQ F (fun (x0:List (qFm)) ((x2,x3):(Int×Int))=>qbV F x0 x2 x3) x1 x5).bind (Sum.elim (fun (x0:List (qFm))=>qfA F x0 F (0,x0)) (fun t=>t.elim))
def qcZ (_F:Nat)(x5:qFm)(x0:Int):Option (Int×qFm):=some (x0,x5)
def vi (_F:Nat)(r38:(Int×Int)→Option (Int×qFm))(x0 x1:Int):Option (Int×qFm):=r38 (x1,iadd .i64 x0 1)
def vj (F:Nat)(r38:(Int×Int)→Option (Int×qFm))(x0 x1:Int)(x2:Bool):Option (Int×qFm):=if x2 then vi F r38 x1 x1 else vi F r38 x1 x0
def vk (F:Nat)(r38:(Int×Int)→Option (Int×qFm))(x0 x1:Int)(_x315 x2:Bool):Option (Int×qFm):=vj F r38 x0 x1 x2
def j7 (F:Nat)(x5:qFm)(r38:(Int×Int)→Option (Int×qFm))(x0 x1:Int):Option (Int×qFm):=if decide (x1<(x5.length:Int)) then (idx x5 x1).bind fun x2=>if decide (0≤x2) then if decide (x0<0) then vk F r38 x0 x1 true true else (idx x5 x0).bind fun x3=>vk F r38 x0 x1 false (decide (x2<x3)) else vj F r38 x0 x1 false else qcZ F x5 x0
def kH (F:Nat)(x5:qFm):=lp fun r s=>j7 F x5 r s.1 s.2
def vA (F:Nat)(_x2:List (qFm))(x5:qFm):Option (Int×qFm):=kH F x5 F (-1,0)
def v6 (_F:Nat)(r3:(Int×qFm)→Option (qFm))(x54:Int)(x0:qFm):Option (qFm):=r3 (iadd .i64 x54 1,x0)
def qbp (F:Nat)(x15:qFm)(r3:(Int×qFm)→Option (qFm))(x54:Int)(x55:qFm):Option (qFm):=if decide (x54<(x15.length:Int)) then (idx x15 x54).bind fun x0=>(idx x55 x0).bind fun x1=>if decide (0≤x1) then (idx x55 x0).bind fun x2=>(idx x55 x0).bind fun _x119=>lett (x55.set x0.toNat (isub .i64 x2 1)) fun x3=>v6 F r3 x54 x3 else v6 F r3 x54 x55 else some x55
def v7 (F:Nat)(x15:qFm):=lp fun r s=>qbp F x15 r s.1 s.2
def qax (F:Nat)(x2:List (qFm))(x5:qFm)(x8:Int):Option (qFm):=(idx x5 x8).bind fun _x9=>lett (x5.set x8.toNat (-1)) fun x12=>(idx x2 x8).bind fun x15=>v7 F x15 F (0,x12)
def qf3 (_F:Nat)(x0:qFm):Option (qFm×Int):=some (x0,0)
def qdb (F:Nat)(x8:List (qFm))(r5:(qFm×Int×Int×qFm)→Option (qFm×Int))(x0:qFm)(x1 x2:Int)(x3:qFm):Option (qFm×Int):=if decide (0≤x2) then (idx x3 x2).bind fun x4=>(idx x0 x2).bind fun _x272=>lett (x0.set x2.toNat (imax x1 x4)) fun x5=>(qax F x8 x3 x2).bind fun x6=>(vA F x8 x6).bind fun x7=>r5 (x5,imax x1 x4,x7.1,x7.2) else qf3 F x0
def qdd (F:Nat)(x8:List (qFm)):=lp fun r s=>qdb F x8 r s.1 s.2.1 s.2.2.1 s.2.2.2
def qbx (F:Nat)(x8:List (qFm))(x86:qFm):Option (qFm×Int):=(mk 17592186044416 (0:Int) (x8.length:Int)).bind fun x87=>(vA F x8 x86).bind fun x0=>qdd F x8 F (x87,0,x0.1,x0.2)
def qdc (F:Nat)(x8:List (qFm))(r6:(Int×qFm)→Option (qFm×Int))(x0:Int)(x1:qFm):Option (qFm×Int):=if decide (x0<(x8.length:Int)) then (idx x8 x0).bind fun x2=>(app 8796093022208 x1 ([(x2.length:Int)]:qFm)).bind fun x3=>r6 (iadd .i64 x0 1,x3) else qbx F x8 x1
def qde (F:Nat)(x8:List (qFm)):=lp fun r s=>qdc F x8 r s.1 s.2
def qda (F:Nat)(x1:List (qFm)):Option (qFm×Int):=(kQ F x1).bind fun x7=>if ((x7:Int) != 0) then some (([]:qFm),x7) else (qeI F x1).bind fun x8=>qde F x8 F (0,([]:qFm))
def qar (_F:Nat)(_x2:List (qFm))(_x5 _x6 _x7:Int)(_x8 _x11:qFm):Option Unit:=some ()
def qaq (_F:Nat)(_x2:List (qFm))(_x5 _x6 _x7:Int)(_x8 _x11:qFm):Option Unit:=some ()
def qcO (F:Nat)(x2:List (qFm))(x5 x6 x7:Int)(x8 x11:qFm):Option Unit:=(qar F x2 x5 x6 x7 x8 x11).bind fun _x13=>(qaq F x2 x5 x6 x7 x8 x11).bind fun _x16=>some ()
def qdV (_F:Nat)(x12:Int)(x14:List (qFm))(x0:qFm):Option (Bool×qFm):=some ((((x14.length:Int):Int) == x12),x0)
def ja (_F:Nat)(r23:(Int×qFm)→Option (Bool×qFm))(x0:Int)(x1:qFm)(x2:(Int×Bool))(x3:Bool):Option (Bool×qFm):=if x3 then some (false,x1) else (app 8796093022208 x1 ([x2.1]:qFm)).bind fun x4=>r23 (iadd .i64 x0 1,x4)
def qbq (F:Nat)(x12:Int)(x14:List (qFm))(r23:(Int×qFm)→Option (Bool×qFm))(x0:Int)(x1:qFm):Option (Bool×qFm):=if decide (x0<(x14.length:Int)) then (idx x14 x0).bind fun x2=>(atoiE x2).bind fun x3=>if (((!x3.2) || decide (x3.1<0)) || decide (4<(x2.length:Int))) then ja F r23 x0 x1 x3 true else (itoaC x3.1).bind fun x4=>ja F r23 x0 x1 x3 (!(bstr x4 == bstr x2)) else qdV F x12 x14 x1
def jb (F:Nat)(x12:Int)(x14:List (qFm)):=lp fun r s=>qbq F x12 x14 r s.1 s.2
def qR (F:Nat)(_x2:List (qFm))(_x5 _x6 _x7:Int)(x8 _x11:qFm)(x12:Int)(x14:List (qFm)):Option (Bool×qFm):=jb F x12 x14 F (0,x8)
def qaz (_F:Nat)(x2:List (qFm))(_x5 _x6 _x7:Int)(x8 _x11:qFm):Option (Int×List (qFm)):=(idx x8 0).bind fun x16=>if decide (100<x16) then some (3,x2) else (idx x8 0).bind fun x19=>(mk 4398046511104 (([]:qFm):qFm) x19).bind fun x22=>some (0,x22)
def kR (_F:Nat)(x46:List (Int×Int))(x55 x56:Int):Option (List (Int×Int) ⊕ Empty):=(app 4398046511104 x46 ([(x55,x56)]:List (Int×Int))).bind fun x60=>some (.inl x60)
def zD (F:Nat)(x1:List (Int×Int))(x5:List (qFm)):Option (List (Int×Int)):=(jQ F (fun (x46:List (Int×Int)) ((x55,x56):(Int×Int))=>kR F x46 x55 x56) x5 x1).bind (Sum.elim (fun (x46:List (Int×Int))=>some x46) (fun t=>t.elim))
def zN (F:Nat)(x2:List (qFm)):Option (List (Int×Int)):=(zD F ([]:List (Int×Int)) x2).bind fun x5=>some x5
def qfg (F:Nat)(x1:List (qFm)):Option (List (Int×Int)×Int):=(kQ F x1).bind fun x7=>if ((x7:Int) != 0) then some (([]:List (Int×Int)),x7) else (jE F x1).bind fun _x8=>(zN F x1).bind fun x10=>some (x10,0)
def qgS (_F:Nat)(x0:List (qFm)):Option (List (qFm)):=some x0
def qd3 (F:Nat)(x2:List (Int×Int))(r3:(Int×List (qFm))→Option (List (qFm)))(x0:Int)(x1:List (qFm)):Option (List (qFm)):=if decide (x0<(x2.length:Int)) then (idx x2 x0).bind fun x3=>(idx x1 x3.1).bind fun x4=>(idx x1 x3.1).bind fun _x316=>(app 8796093022208 x4 ([x3.2]:qFm)).bind fun x5=>lett (x1.set x3.1.toNat x5) fun x6=>r3 (iadd .i64 x0 1,x6) else qgS F x1
def qd4 (F:Nat)(x2:List (Int×Int)):=lp fun r s=>qd3 F x2 r s.1 s.2
def qcy (F:Nat)(x1:Int)(x2:List (Int×Int)):Option (List (qFm)):=(mk 4398046511104 (([]:qFm):qFm) x1).bind fun x6=>qd4 F x2 F (0,x6)
def zm (_F:Nat)(_x1:List (Int×Int)):Option Unit:=some ()
def qhv (_F:Nat):Option Int:=some 0
def qaS (F:Nat)(x1:qFm)(r3:Int→Option Int)(x46:Int):Option Int:=if decide (x46<(x1.length:Int)) then (idx x1 x46).bind fun x63=>if ((x63:Int) != 0) then some x63 else r3 (iadd .i64 x46 1) else qhv F
def qeV (F:Nat)(x1:qFm):=lp fun r s=>qaS F x1 r s
def qfd (F:Nat)(x1:qFm):Option Int:=qeV F x1 F 0
def vw (_F:Nat)(x1:Int):Option Bool:=some ((x1:Int) != x1)
def jt (F:Nat)(x1 x2:Int):Option Int:=(vw F x1).bind fun x3=>(vw F x2).bind fun x4=>if x3 then if x4 then some 0 else some (-1) else if x4 then some 1 else if decide (x1<x2) then some (-1) else if decide (x2<x1) then some 1 else some 0
def qer (F:Nat)(x1 x2 x3 x4:Int):Option Int:=(jt F x1 x3).bind fun x12=>(jt F x2 x4).bind fun x13=>(qfd F ([x12,x13]:qFm)).bind fun x16=>some x16
def zO {σ τ:Type}(_F:Nat)(yy:σ→(Int×Int)→Option (σ ⊕ τ))(x2:List (Int×Int))(r1:(Int×σ)→Option (σ ⊕ τ))(x23:Int)(x24:σ):Option (σ ⊕ τ):=if decide (x23<(x2.length:Int)) then (idx x2 x23).bind fun x54=>(yy x24 (x54.1,x54.2)).bind (Sum.elim (fun x58=>r1 (iadd .i64 x23 1,x58)) (fun x59=>some (.inr x59))) else some (.inl x24)
def zj {σ τ:Type}(F:Nat)(yy:σ→(Int×Int)→Option (σ ⊕ τ))(x2:List (Int×Int)):=lp fun r s=>zO F yy x2 r s.1 s.2
def ym {σ τ:Type}(F:Nat)(yy:σ→(Int×Int)→Option (σ ⊕ τ))(x2:List (Int×Int))(s0:σ):Option (σ ⊕ τ):=zj F yy x2 F (0,s0)
def zn (_F:Nat)(x46:List (Int×Int))(x55 x56:Int):Option (List (Int×Int) ⊕ Empty):=(app 4398046511104 x46 ([(x55,x56)]:List (Int×Int))).bind fun x60=>some (.inl x60)
def qO (F:Nat)(x1 x5:List (Int×Int)):Option (List (Int×Int)):=(ym F (fun (x46:List (Int×Int)) ((x55,x56):(Int×Int))=>zn F x46 x55 x56) x5 x1).bind (Sum.elim (fun (x46:List (Int×Int))=>some x46) (fun t=>t.elim))
def qM (F:Nat)(x2:List (Int×Int)):Option (List (Int×Int)):=(qO F ([]:List (Int×Int)) x2).bind fun x5=>some x5
def zL (F:Nat)(x1:List (Int×Int)):Option (List (Int×Int)):=sortF (fun a b=>qer F a.1 a.2 b.1 b.2) x1
def ql (F:Nat)(x2:List (Int×Int)):Option (List (Int×Int)):=(qM F x2).bind fun x5=>(zL F x5).bind fun x8=>chk (decide (x8.length=x5.length)) (some x8)
def qgy (F:Nat)(x1:Int)(x2:List (Int×Int)):Option (List (qFm)×Int):=(zm F x2).bind fun _x122=>(ql F x2).bind fun x0=>(qcy F x1 x0).bind fun x3=>some (x3,0)
def qgx (F:Nat)(x1:Int)(x2:List (Int×Int))(r3:(Int×List (Int×Int))→Option (List (qFm)×Int))(x0:Int)(x3:List (Int×Int)):Option (List (qFm)×Int):=if decide (x0<(x2.length:Int)) then (idx x2 x0).bind fun x4=>if (((decide (x4.1<0) || decide (x1≤x4.1)) || decide (x4.2<0)) || decide (x1≤x4.2)) then some (([]:List (qFm)),3) else if decide (((x4.1,x4.2):Int×Int)∈x3) then some (([]:List (qFm)),6) else (sins x3 (x4.1,x4.2)).bind fun x5=>r3 (iadd .i64 x0 1,x5) else qgy F x1 x2
def qgz (F:Nat)(x1:Int)(x2:List (Int×Int)):=lp fun r s=>qgx F x1 x2 r s.1 s.2
def qg7 (F:Nat)(x1:Int)(x2:List (Int×Int)):Option (List (qFm)×Int):=if (decide (x1<0) || decide (100<x1)) then some (([]:List (qFm)),3) else if decide (600<(x2.length:Int)) then some (([]:List (qFm)),2) else qgz F x1 x2 F (0,([]:List (Int×Int)))
def qch (F:Nat)(x2:List (qFm))(_x5 _x6 _x7:Int)(x8 _x11:qFm):Option (Int×List (qFm)):=(qfg F x2).bind fun x12=>(idx x8 0).bind fun x31=>(idx x8 1).bind fun x35=>(app 4398046511104 x12.1 ([(x31,x35)]:List (Int×Int))).bind fun x41=>(qg7 F (x2.length:Int) x41).bind fun x44=>some (x44.2,x44.1)
def va (_F:Nat)(x1:Int)(x4:List (qFm))(_x7 _x8 _x9:Int)(_x10 _x13:qFm):Option Bool:=some (decide ((x4.length:Int)≤x1))
def kW (_F:Nat):Option Int:=some (-1)
def qA (F:Nat)(x1:qFm)(x6:List (qFm))(x9 x10 x11:Int)(x12 x15:qFm)(r3:Int→Option Int)(x66:Int):Option Int:=if decide (x66<(x1.length:Int)) then (idx x1 x66).bind fun x86=>(va F x86 x6 x9 x10 x11 x12 x15).bind fun x89=>if x89 then some x66 else r3 (iadd .i64 x66 1) else kW F
def qF (F:Nat)(x1:qFm)(x6:List (qFm))(x9 x10 x11:Int)(x12 x15:qFm):=lp fun r s=>qA F x1 x6 x9 x10 x11 x12 x15 r s
def zb (F:Nat)(x1:qFm)(x6:List (qFm))(x9 x10 x11:Int)(x12 x15:qFm):Option Int:=qF F x1 x6 x9 x10 x11 x12 x15 F 0
def qX (F:Nat)(x1:qFm)(x6:List (qFm))(x9 x10 x11:Int)(x12 x15:qFm):Option Bool:=(zb F x1 x6 x9 x10 x11 x12 x15).bind fun x16=>some (decide (0≤x16))
def zX (F:Nat)(x2:List (qFm))(x5 x6 x7:Int)(x8 x11 x12:qFm):Option Bool:=(qX F x12 x2 x5 x6 x7 x8 x11).bind fun x16=>some (!x16)
def vq (_F:Nat)(x1:qFm)(x4 x5:Int):Option (qFm):=if 0≤x4∧x4≤x5∧x5≤(x1.length:Int)∧0<x1.length then some (x1.take x4.toNat++x1.drop x5.toNat) else none
def vl (F:Nat)(x2:List (qFm))(x5 x6 x7:Int)(x8 x11:qFm):Option (Int×List (qFm)):=(zX F x2 x5 x6 x7 x8 x11 x8).bind fun x14=>if (!x14) then some (3,x2) else (idx x8 0).bind fun x25=>(idx x2 x25).bind fun x29=>(idx x8 1).bind fun x35=>(zB F x29 x35).bind fun x38=>if decide (x38<0) then some (5,x2) else (idx x2 x25).bind fun _x61=>(vq F x29 x38 (iadd .i64 x38 1)).bind fun x67=>lett (x2.set x25.toNat x67) fun x70=>some (0,x70)
def qcj (F:Nat)(_x2:List (qFm))(_x5 _x6 _x7:Int)(x8 _x11:qFm):Option (Int×Int×Int×Int):=(idx x8 0).bind fun x24=>(idx x8 1).bind fun x28=>(idx x8 2).bind fun x32=>(vD F x24 x28 x32).bind fun x36=>some (x36,x24,x28,x32)
def yW (_F:Nat)(x1:qFm):Option (qFm):=(app 70368744177664 ([]:qFm) x1).bind fun x8=>some x8
def qfy (F:Nat)(x1:Int)(x2:qFm):Option (Int×qFm):=(yW F x2).bind fun x10=>some (x1,x10)
def qgk (_F:Nat)(_x1:Int)(_x2:qFm)(_x5 _x6:Int):Option Unit:=some ()
def y9 (_F:Nat)(x2 x6:Int)(x15:qFm):Option (Int×qFm):=(idx x15 (iquo .i64 x2 8)).bind fun x30=>chk (decide (0≤(irem x2 8))) ((idx x15 (iquo .i64 x2 8)).bind fun _x36=>lett (x15.set (iquo .i64 x2 8).toNat (ior .u8 x30 (ishr .u8 (iconv .u8 (ishl .u64 x6 7)) (irem x2 8)))) fun x41=>some (iadd .i64 x2 1,x41))
def jr (F:Nat)(x2:Int)(x3:qFm)(x6:Int):Option (Int×qFm):=if (((irem x2 8):Int) == 0) then (app 70368744177664 x3 ([0]:qFm)).bind fun x46=>y9 F x2 x6 x46 else y9 F x2 x6 x3
def qbm (_F:Nat)(_x1:Int)(x2:qFm)(x5:Int):Option Int:=(idx x2 (iquo .i64 x5 8)).bind fun x7=>chk (decide (0≤(isub .i64 7 (irem x5 8)))) (lett (iand .u64 (iconv .u64 (ishr .u8 x7 (isub .i64 7 (irem x5 8)))) 1) fun x11=>some x11)
def qaw {σ τ:Type}(F:Nat)(yy:σ→Int→Option (σ ⊕ τ))(x4 x6:Int)(x7:qFm)(r1:(Int×σ)→Option (σ ⊕ τ))(x22:Int)(x23:σ):Option (σ ⊕ τ):=if decide (x22<x4) then (qbm F x6 x7 x22).bind fun x44=>(yy x23 x44).bind (Sum.elim (fun x45=>r1 (iadd .i64 x22 1,x45)) (fun x46=>some (.inr x46))) else some (.inl x23)
def yT {σ τ:Type}(F:Nat)(yy:σ→Int→Option (σ ⊕ τ))(x4 x6:Int)(x7:qFm):=lp fun r s=>qaw F yy x4 x6 x7 r s.1 s.2
def qeU {σ τ:Type}(F:Nat)(yy:σ→Int→Option (σ ⊕ τ))(x2 x4 x6:Int)(x7:qFm)(s0:σ):Option (σ ⊕ τ):=yT F yy x4 x6 x7 F (x2,s0)
def qc8 (F:Nat)(x45:Int)(x48:qFm)(x53:Int):Option ((Int×qFm) ⊕ Empty):=(jr F x45 x48 x53).bind fun x54=>some (.inl (x54.1,x54.2))
def qap (F:Nat)(x1:Int)(x2:qFm)(x5:Int)(x6:qFm):Option (Int×qFm):=(qfy F x1 x2).bind fun x12=>(qgk F x5 x6 0 x5).bind fun _x37=>(qeU F (fun ((x45,x48):(Int×qFm)) (x53:Int)=>qc8 F x45 x48 x53) 0 x5 x5 x6 (x12.1,x12.2)).bind (Sum.elim (fun ((x45,x48):(Int×qFm))=>some (x45,x48)) (fun t=>t.elim))
def ya (F:Nat)(x6:Int)(r1:(Int×Int×qFm)→Option (Int×qFm))(x18 x19:Int)(x22:qFm):Option (Int×qFm):=if decide (0≤x18) then chk (decide (0≤x18)) ((jr F x19 x22 (iand .u64 (ishr .u64 x6 x18) 1)).bind fun x40=>r1 (isub .i64 x18 1,x40.1,x40.2)) else some (x19,x22)
def j4 (F:Nat)(x6:Int):=lp fun r s=>ya F x6 r s.1 s.2.1 s.2.2
def js (F:Nat)(x2:Int)(x3:qFm)(x6 x7:Int):Option (Int×qFm):=j4 F x6 F (isub .i64 x7 1,x2,x3)
def vM (F:Nat)(x1:Int)(x2:qFm)(x5 x6:Int):Option (Int×qFm):=(qfy F x1 x2).bind fun x9=>(js F x9.1 x9.2 x5 x6).bind fun x13=>some (x13.1,x13.2)
def ve (_F:Nat)(x9 x10:Int):Option Int:=(idx ([0,1,2,2,3,3,3,3,4,4,4,4,4,4,4,4,5,5,5,5,5,5,5,5,5,5,5,5,5,5,5,5,6,6,6,6,6,6,6,6,6,6,6,6,6,6,6,6,6,6,6,6,6,6,6,6,6,6,6,6,6,6,6,6,7,7,7,7,7,7,7,7,7,7,7,7,7,7,7,7,7,7,7,7,7,7,7,7,7,7,7,7,7,7,7,7,7,7,7,7,7,7,7,7,7,7,7,7,7,7,7,7,7,7,7,7,7,7,7,7,7,7,7,7,7,7,7,7,8,8,8,8,8,8,8,8,8,8,8,8,8,8,8,8,8,8,8,8,8,8,8,8,8,8,8,8,8,8,8,8,8,8,8,8,8,8,8,8,8,8,8,8,8,8,8,8,8,8,8,8,8,8,8,8,8,8,8,8,8,8,8,8,8,8,8,8,8,8,8,8,8,8,8,8,8,8,8,8,8,8,8,8,8,8,8,8,8,8,8,8,8,8,8,8,8,8,8,8,8,8,8,8,8,8,8,8,8,8,8,8,8,8,8,8,8,8,8,8,8,8,8,8,8,8,8,8]:qFm) (iconv .u8 x9)).bind fun x11=>some (iadd .i64 x10 (iconv .i64 x11))
def vd (F:Nat)(x6 x7:Int):Option Int:=if decide (256≤x6) then ve F (ishr .u64 x6 8) (iadd .i64 x7 8) else ve F x6 x7
def vb (F:Nat)(x3 x4:Int):Option Int:=if decide (65536≤x3) then vd F (ishr .u64 x3 16) (iadd .i64 x4 16) else vd F x3 x4
def vo (F:Nat)(x1:Int):Option Int:=if decide (4294967296≤x1) then vb F (ishr .u64 x1 32) 32 else vb F x1 0
def qfe (F:Nat)(x1:Int):Option Int:=(vo F (iadd .u64 x1 1)).bind fun x2=>some (isub .i64 x2 1)
def qeM (F:Nat)(x1:Int):Option (Int×qFm):=(mk 140737488355328 (0:Int) (iquo .u64 (iadd .u64 x1 7) 8)).bind fun x3=>(vM F (iconv .i64 x1) x3 1 1).bind fun x6=>some (x6.1,x6.2)
def qf4 (_F:Nat)(x1 x2:Int):Option Int:=chk (decide (0≤x2)) (lett (iand .u64 x1 (isub .u64 (ishl .u64 1 x2) 1)) fun x4=>some x4)
def j9 (F:Nat)(x1:Int):Option (Int×qFm):=(qfe F x1).bind fun x3=>(qeM F (iconv .u64 x3)).bind fun x4=>(qf4 F (iadd .u64 x1 1) x3).bind fun x7=>(vM F x4.1 x4.2 x7 x3).bind fun x8=>some (x8.1,x8.2)
def qeK (_F:Nat)(x1:Int):Option Bool:=some (decide (0≤x1) && decide (x1≤1048576))
def qhy (_F:Nat):Option Int:=some 0
def qe0 (F:Nat)(x1:qFm)(r3:(Int×Int)→Option Int)(x88 x89:Int):Option Int:=if decide (x89<(x1.length:Int)) then (idx x1 x89).bind fun x0=>(qeK F x0).bind fun x2=>if (!x2) then some 3 else if decide (x0≤x88) then some 4 else r3 (x0,iadd .i64 x89 1) else qhy F
def qe1 (F:Nat)(x1:qFm):=lp fun r s=>qe0 F x1 r s.1 s.2
def jD (F:Nat)(x1:qFm):Option Int:=if decide (300<(x1.length:Int)) then some 2 else qe1 F x1 F (-1,0)
def jL (F:Nat)(x2:Int)(x3:qFm)(x7:Int)(x8:qFm)(x13:Bool):Option (Int×qFm×Bool):=if (!x13) then (qap F x2 x3 x7 x8).bind fun x14=>some (x14.1,x14.2,x13) else some (x2,x3,x13)
def vr (F:Nat)(x2:Int)(x3:qFm)(x6:Bool)(x7:Int)(x8:qFm):Option (Int×qFm×Bool):=if x6 then jL F x2 x3 x7 x8 true else jL F x2 x3 x7 x8 (decide (8192<(iadd .i64 x2 x7)))
def zk (F:Nat)(x2:Int)(x3:qFm)(x6:Bool)(x7:Int):Option (Int×qFm×Bool):=(j9 F (iconv .u64 x7)).bind fun x8=>(vr F x2 x3 x6 x8.1 x8.2).bind fun x11=>some (x11.1,x11.2.1,x11.2.2)
def qbw (_F:Nat)(x1 x2:Int)(x6:Bool):Option Bool:=some (x6 || decide (x1<x2))
def qc9 (F:Nat)(x1 x2:Int):Option Bool:=(vw F x1).bind fun x3=>if x3 then (vw F x2).bind fun x8=>qbw F x1 x2 (!x8) else qbw F x1 x2 false
def qaJ (_F:Nat)(x1:Int):Option Bool:=some ((x1:Int) != x1)
def yq (_F:Nat)(x32:Int)(x55:Bool):Option (Int×Bool):=some (x32,x55)
def yr (F:Nat)(x32:Int)(x68:Bool):Option (Int×Bool):=yq F x32 x68
def yu (F:Nat)(x32:Int)(x75:Bool):Option (Int×Bool):=yr F x32 x75
def yp (F:Nat)(x1:qFm)(x4 x32:Int):Option (Int×Bool):=if decide (x32<(x1.length:Int)) then (idx x1 x32).bind fun x56=>if ((x56:Int) == x4) then yr F x32 true else (idx x1 x32).bind fun x69=>(qaJ F x69).bind fun x72=>if x72 then (qaJ F x4).bind fun x76=>yu F x32 x76 else yu F x32 false else yq F x32 false
def yk (F:Nat)(x1:qFm)(x4:Int)(r10:(Int×Int)→Option (Int×Bool))(x85 x86:Int):Option (Int×Bool):=if decide (x85<x86) then lett (iconv .i64 (ishr .u64 (iconv .u64 (iadd .i64 x85 x86)) 1)) fun x97=>(idx x1 x97).bind fun x98=>(qc9 F x98 x4).bind fun x0=>if x0 then r10 (iadd .i64 x97 1,x86) else r10 (x85,x97) else yp F x1 x4 x85
def yl (F:Nat)(x1:qFm)(x4:Int):=lp fun r s=>yk F x1 x4 r s.1 s.2
def zx (F:Nat)(x1:qFm)(x4:Int):Option (Int×Bool):=yl F x1 x4 F (0,(x1.length:Int))
def jc (_F:Nat)(x21:qFm)(x22:Bool)(x23:Int):Option (qFm×Bool×Int):=some (x21,x22,iadd .i64 x23 1)
def qaH (F:Nat)(x2:qFm)(x5:Bool)(x6:Int)(x7:Bool):Option (qFm×Bool×Int):=if (x7 != x5) then (app 8796093022208 x2 ([x6]:qFm)).bind fun x31=>jc F x31 x7 0 else jc F x2 x5 x6
def qfN (_F:Nat)(x66 x0:qFm):Option (qFm×qFm):=some (x66,x0)
def qcJ (_F:Nat)(r10:(qFm×Int)→Option (qFm×qFm))(x0:Int)(x1:qFm):Option (qFm×qFm):=r10 (x1,iadd .i64 x0 1)
def qe5 (F:Nat)(x1 x4 x66:qFm)(r10:(qFm×Int)→Option (qFm×qFm))(x0:qFm)(x2:Int):Option (qFm×qFm):=if decide (x2<(x4.length:Int)) then (idx x4 x2).bind fun x3=>(zx F x1 x3).bind fun x5=>if (!x5.2) then (app 8796093022208 x0 ([x3]:qFm)).bind fun x6=>qcJ F r10 x2 x6 else qcJ F r10 x2 x0 else qfN F x66 x0
def qcK (F:Nat)(x1 x4 x66:qFm):=lp fun r s=>qe5 F x1 x4 x66 r s.1 s.2
def qfM (F:Nat)(x1 x4 x66:qFm)(_x67:Bool)(_x68:Int):Option (qFm×qFm):=qcK F x1 x4 x66 F (([]:qFm),0)
def qe6 (F:Nat)(x1 x4:qFm)(r12:(Int×qFm×Bool×Int)→Option (qFm×qFm))(x0:Int)(x2:qFm)(x3:Bool)(x5:Int):Option (qFm×qFm):=if decide (x0<(x1.length:Int)) then (idx x1 x0).bind fun x6=>(zx F x4 x6).bind fun x7=>(qaH F x2 x3 x5 x7.2).bind fun x8=>r12 (iadd .i64 x0 1,x8.1,x8.2.1,x8.2.2) else qfM F x1 x4 x2 x3 x5
def qe7 (F:Nat)(x1 x4:qFm):=lp fun r s=>qe6 F x1 x4 r s.1 s.2.1 s.2.2.1 s.2.2.2
def qga (F:Nat)(x1 x4:qFm):Option (qFm×qFm):=qe7 F x1 x4 F (0,([]:qFm),true,0)
def qaj (F:Nat)(x7:qFm)(r1:(Int×Int×qFm×Bool)→Option (Int×qFm×Bool))(x27 x28:Int)(x31:qFm)(x32:Bool):Option (Int×qFm×Bool):=if decide (x27<(x7.length:Int)) then (idx x7 x27).bind fun x55=>(zk F x28 x31 x32 (isub .i64 x55 (imin x27 1))).bind fun x58=>r1 (iadd .i64 x27 1,x58.1,x58.2.1,x58.2.2) else some (x28,x31,x32)
def qak (F:Nat)(x7:qFm):=lp fun r s=>qaj F x7 r s.1 s.2.1 s.2.2.1 s.2.2.2
def jM (F:Nat)(x2:Int)(x3:qFm)(x6:Bool)(x7:qFm):Option (Int×qFm×Bool):=(zk F x2 x3 x6 (x7.length:Int)).bind fun x10=>qak F x7 F (0,x10.1,x10.2.1,x10.2.2)
def qhM (_F:Nat)(_x1:qFm):Option Unit:=some ()
def qbL {σ τ:Type}(_F:Nat)(yy:σ→(Int×Int)→Option (σ ⊕ τ))(r31:(Int×σ)→Option (σ ⊕ τ))(x2:qFm)(x0:Int)(x1:σ)(x3:Int):Option (σ ⊕ τ):=(idx x2 x0).bind fun x4=>(yy x1 (x4,x3)).bind (Sum.elim (fun x5=>r31 (iadd .i64 x0 x3,x5)) (fun x6=>some (.inr x6)))
def qbM {σ τ:Type}(F:Nat)(yy:σ→(Int×Int)→Option (σ ⊕ τ))(r31:(Int×σ)→Option (σ ⊕ τ))(r44:Int→Option (σ ⊕ τ))(x2:qFm)(x0:Int)(x1:σ)(x3:Int)(x4:Bool):Option (σ ⊕ τ):=if x4 then r44 (iadd .i64 x3 1) else qbL F yy r31 x2 x0 x1 x3
def qbK {σ τ:Type}(F:Nat)(yy:σ→(Int×Int)→Option (σ ⊕ τ))(r31:(Int×σ)→Option (σ ⊕ τ))(x2:qFm)(x0:Int)(x1:σ)(r44:Int→Option (σ ⊕ τ))(x3:Int):Option (σ ⊕ τ):=if decide ((iadd .i64 x0 x3)<(x2.length:Int)) then (idx x2 (iadd .i64 x0 x3)).bind fun x4=>(idx x2 x0).bind fun x5=>qbM F yy r31 r44 x2 x0 x1 x3 ((x4:Int) == (iadd .i64 x5 x3)) else qbM F yy r31 r44 x2 x0 x1 x3 false
def vp {σ τ:Type}(F:Nat)(yy:σ→(Int×Int)→Option (σ ⊕ τ))(r31:(Int×σ)→Option (σ ⊕ τ))(x2:qFm)(x0:Int)(x1:σ):=lp fun r s=>qbK F yy r31 x2 x0 x1 r s
def qbJ {σ τ:Type}(F:Nat)(yy:σ→(Int×Int)→Option (σ ⊕ τ))(x2:qFm)(r31:(Int×σ)→Option (σ ⊕ τ))(x0:Int)(x1:σ):Option (σ ⊕ τ):=if decide (x0<(x2.length:Int)) then vp F yy r31 x2 x0 x1 F 1 else some (.inl x1)
def zv {σ τ:Type}(F:Nat)(yy:σ→(Int×Int)→Option (σ ⊕ τ))(x2:qFm):=lp fun r s=>qbJ F yy x2 r s.1 s.2
def qcB {σ τ:Type}(F:Nat)(yy:σ→(Int×Int)→Option (σ ⊕ τ))(x2:qFm)(s0:σ):Option (σ ⊕ τ):=zv F yy x2 F (0,s0)
def qgA (_F:Nat)(x0:List (Int×Int))(x1 x2:Int)(r8:(Int×qFm)→Option ((qFm×List (Int×Int)) ⊕ Empty))(x3:Int)(x4:qFm):Option ((qFm×List (Int×Int)) ⊕ Empty):=if decide (x3<x2) then (app 8796093022208 x4 ([iadd .i64 x1 x3]:qFm)).bind fun x5=>r8 (iadd .i64 x3 1,x5) else some (.inl (x4,x0))
def qgB (F:Nat)(x0:List (Int×Int))(x1 x2:Int):=lp fun r s=>qgA F x0 x1 x2 r s.1 s.2
def qcA (F:Nat)(x4:Int)(x0:qFm)(x1:List (Int×Int))(x2 x3:Int):Option ((qFm×List (Int×Int)) ⊕ Empty):=if decide (x4≤x3) then (app 4398046511104 x1 ([(x2,x3)]:List (Int×Int))).bind fun x5=>some (.inl (x0,x5)) else qgB F x1 x2 x3 F (0,x0)
def qg9 (F:Nat)(x1:qFm)(x4:Int):Option (List (Int×Int)×qFm):=(qhM F x1).bind fun _x188=>(qcB F (fun ((x0,x2):(qFm×List (Int×Int))) ((x3,x5):(Int×Int))=>qcA F x4 x0 x2 x3 x5) x1 (([]:qFm),([]:List (Int×Int)))).bind (Sum.elim (fun ((x0,x2):(qFm×List (Int×Int)))=>some (x2,x0)) (fun t=>t.elim))
def qcD (_F:Nat)(x1:Int):Option Int:=lett (ixor .u64 (ishl .u64 (iconv .u64 x1) 1) (iconv .u64 (ishr .i64 x1 63))) fun x2=>some x2
def yR (F:Nat)(r5:(Int×Int×Int×qFm×Bool)→Option (Int×qFm×Bool))(x8 x74:Int)(x0:(Int×Int))(x1:Int)(x2:qFm)(x3:Bool):Option (Int×qFm×Bool):=(zk F x1 x2 x3 (isub .i64 x0.2 x8)).bind fun x4=>r5 (isub .i64 (iadd .i64 x0.1 x0.2) 1,iadd .i64 x74 1,x4.1,x4.2.1,x4.2.2)
def qbv (F:Nat)(x8:Int)(x9:List (Int×Int))(r5:(Int×Int×Int×qFm×Bool)→Option (Int×qFm×Bool))(x73 x74 x75:Int)(x78:qFm)(x79:Bool):Option (Int×qFm×Bool):=if decide (x74<(x9.length:Int)) then (idx x9 x74).bind fun x0=>if ((x74:Int) == 0) then (qcD F (isub .i64 x0.1 x73)).bind fun x1=>(zk F x75 x78 x79 (iconv .i64 x1)).bind fun x2=>yR F r5 x8 x74 x0 x2.1 x2.2.1 x2.2.2 else (zk F x75 x78 x79 (isub .i64 (isub .i64 x0.1 x73) 2)).bind fun x3=>yR F r5 x8 x74 x0 x3.1 x3.2.1 x3.2.2 else some (x75,x78,x79)
def yS (F:Nat)(x8:Int)(x9:List (Int×Int)):=lp fun r s=>qbv F x8 x9 r s.1 s.2.1 s.2.2.1 s.2.2.2.1 s.2.2.2.2
def qaO (F:Nat)(x2:Int)(x3:qFm)(x6:Bool)(x7 x8:Int)(x9:List (Int×Int)):Option (Int×qFm×Bool):=(zk F x2 x3 x6 (x9.length:Int)).bind fun x12=>yS F x8 x9 F (x7,0,x12.1,x12.2.1,x12.2.2)
def qeq (F:Nat)(x1 x2:Int):Option (Int×Int×Int):=(vo F (iadd .u64 x1 1)).bind fun x3=>chk ((x2:Int) != 0) (chk (decide (0≤(imul .i64 (iquo .i64 (isub .i64 x3 1) x2) x2))) (chk (decide (0≤(iadd .i64 (imul .i64 (iquo .i64 (isub .i64 x3 1) x2) x2) x2))) (some (iquo .i64 (isub .i64 x3 1) x2,ishl .u64 1 (imul .i64 (iquo .i64 (isub .i64 x3 1) x2) x2),ishl .u64 1 (iadd .i64 (imul .i64 (iquo .i64 (isub .i64 x3 1) x2) x2) x2)))))
def qb4 (F:Nat)(x1:Int):Option (Int×Int):=(vo F (isub .u64 x1 1)).bind fun x2=>chk (decide (0≤x2)) (some (x2,isub .u64 (ishl .u64 1 x2) x1))
def qbD (F:Nat)(x1:Int)(x2:qFm)(x5 x6:Int):Option (Int×qFm):=(qb4 F x6).bind fun x9=>if decide (x5<x9.2) then (vM F x1 x2 x5 (isub .i64 x9.1 1)).bind fun x14=>some (x14.1,x14.2) else (vM F x1 x2 (iadd .u64 x5 x9.2) x9.1).bind fun x17=>some (x17.1,x17.2)
def qep (F:Nat)(x1 x2:Int):Option (Int×qFm×Int):=if ((decide (x2<1) || decide (16<x2)) || decide (1099511627776<x1)) then some (0,([]:qFm),3) else (qeq F x1 x2).bind fun x9=>(qeM F (iconv .u64 x9.1)).bind fun x10=>(qbD F x10.1 x10.2 (isub .u64 (iadd .u64 x1 1) x9.2.1) (isub .u64 x9.2.2 x9.2.1)).bind fun x13=>some (x13.1,x13.2,0)
def qiy (_F:Nat)(x0:Int)(x1:qFm):Option (Int×qFm×Bool):=some (x0,x1,true)
def qgs (F:Nat)(x5:qFm)(x8:Int)(r3:(Int×Int×qFm)→Option (Int×qFm×Bool))(x0 x1:Int)(x2:qFm):Option (Int×qFm×Bool):=if decide (x0<(x5.length:Int)) then (idx x5 x0).bind fun x3=>(qep F x3 x8).bind fun x4=>if (((x4.2.2:Int) != 0) || decide (8192<(iadd .i64 x1 x4.1))) then some (0,([]:qFm),false) else (qap F x1 x2 x4.1 x4.2.1).bind fun x6=>r3 (iadd .i64 x0 1,x6.1,x6.2) else qiy F x1 x2
def qgt (F:Nat)(x5:qFm)(x8:Int):=lp fun r s=>qgs F x5 x8 r s.1 s.2.1 s.2.2
def qfJ (F:Nat)(x1:Int)(x2 x5:qFm)(x8:Int):Option (Int×qFm×Bool):=qgt F x5 x8 F (0,x1,x2)
def qb3 (_F:Nat)(x4 x8:Int):Option (Int×Int×Bool):=some (x8,x4,true)
def qbB (F:Nat)(x2:Int)(x3:Bool)(x4:Int):Option (Int×Int×Bool):=if x3 then lett (iconv .u64 (isub .i64 (isub .i64 x4 x2) 1)) fun x9=>qb3 F x4 x9 else (qcD F (isub .i64 x4 x2)).bind fun x10=>qb3 F x4 x10
def qgv (_F:Nat)(x75:qFm):Option (qFm):=some x75
def qgu (F:Nat)(x1:qFm)(r3:(qFm×Int×Int×Bool)→Option (qFm))(x98:qFm)(x99 x0:Int)(x2:Bool):Option (qFm):=if decide (x99<(x1.length:Int)) then (idx x1 x99).bind fun x3=>(qbB F x0 x2 x3).bind fun x4=>(app 8796093022208 x98 ([x4.1]:qFm)).bind fun x5=>r3 (x5,iadd .i64 x99 1,x4.2.1,x4.2.2) else qgv F x98
def qgw (F:Nat)(x1:qFm):=lp fun r s=>qgu F x1 r s.1 s.2.1 s.2.2.1 s.2.2.2
def qg6 (F:Nat)(x1:qFm)(x4:Int):Option (qFm):=qgw F x1 F (([]:qFm),0,x4,false)
def qbu (F:Nat)(x52:Int)(x55:qFm)(x56 x76:Bool)(x77:Int)(x80:qFm):Option (Int×qFm×Bool):=(vr F x52 x55 (x56 || (!x76)) x77 x80).bind fun x82=>some (x82.1,x82.2.1,x82.2.2)
def yQ (F:Nat)(x7 x16:Int)(x51:qFm)(x52:Int)(x55:qFm)(x56:Bool):Option (Int×qFm×Bool):=(qg6 F x51 x7).bind fun x85=>(qfJ F 0 ([]:qFm) x85 x16).bind fun x88=>qbu F x52 x55 x56 x88.2.2 x88.1 x88.2.1
def yP (F:Nat)(x7 x15 x16:Int)(x33:qFm)(x34:Int)(x37:qFm)(x38:Bool):Option (Int×qFm×Bool):=if (((x33.length:Int):Int) == 0) then some (x34,x37,x38) else if decide (0<x15) then (qg9 F x33 x15).bind fun x0=>(qaO F x34 x37 x38 x7 x15 x0.1).bind fun x1=>yQ F x7 x16 x0.2 x1.1 x1.2.1 x1.2.2 else yQ F x7 x16 x33 x34 x37 x38
def vW (F:Nat)(x2:Int)(x3:qFm)(x6:Bool)(x7:Int)(x8 x11:qFm)(x14 x15 x16:Int):Option (Int×qFm×Bool):=(zk F x2 x3 x6 (x8.length:Int)).bind fun x18=>if (((x8.length:Int):Int) == 0) then some (x18.1,x18.2.1,x18.2.2) else if decide (0<x14) then (qga F x11 x8).bind fun x0=>(jM F x18.1 x18.2.1 x18.2.2 x0.1).bind fun x1=>yP F x7 x15 x16 x0.2 x1.1 x1.2.1 x1.2.2 else yP F x7 x15 x16 x8 x18.1 x18.2.1 x18.2.2
def qfn (F:Nat)(x1:Int)(x2:qFm)(x5 _x6 _x7:Int):Option Int:=if (decide (x1<0) || decide (1048576<x1)) then some 3 else if decide (0<x5) then (jD F x2).bind fun x14=>some x14 else some 0
def qbd (F:Nat)(x1:Int)(x2 x5:qFm)(x8 x9 x10 x25:Int):Option (Int×qFm×Int):=if ((x25:Int) != 0) then some (0,([]:qFm),x25) else (vW F 0 ([]:qFm) false x1 x2 x5 x8 x9 x10).bind fun x28=>if x28.2.2 then some (0,([]:qFm),8) else some (x28.1,x28.2.1,0)
def qbc (F:Nat)(x1:Int)(x2 x5:qFm)(x8 x9 x10 x22:Int):Option (Int×qFm×Int):=if ((x22:Int) == 0) then (qfn F x1 x5 x8 x9 x10).bind fun x34=>qbd F x1 x2 x5 x8 x9 x10 x34 else qbd F x1 x2 x5 x8 x9 x10 x22
def qbb (F:Nat)(x1:Int)(x2 x5:qFm)(x8 x9 x10 x19:Int):Option (Int×qFm×Int):=if ((x19:Int) == 0) then (jD F x2).bind fun x36=>qbc F x1 x2 x5 x8 x9 x10 x36 else qbc F x1 x2 x5 x8 x9 x10 x19
def qbe (F:Nat)(x1:Int)(x2 x5:qFm)(x8 x9 x10 x13:Int)(x40:Bool):Option (Int×qFm×Int):=if x40 then qbb F x1 x2 x5 x8 x9 x10 3 else qbb F x1 x2 x5 x8 x9 x10 x13
def qfm (F:Nat)(x1:Int)(x2 x5:qFm)(x8 x9 x10:Int):Option (Int×qFm×Int):=(vD F x8 x9 x10).bind fun x13=>if ((x13:Int) == 0) then qbe F x1 x2 x5 x8 x9 x10 x13 (decide (x1<0) || decide (1048576<x1)) else qbe F x1 x2 x5 x8 x9 x10 x13 false
def qb6 (F:Nat)(x1:List (qFm))(x4:qFm)(x7 x9 x10 x18:Int)(x21 x29:qFm):Option (Int×Int×qFm×Bool):=(qfm F (x1.length:Int) x4 x29 x7 x9 x10).bind fun x30=>if (((x30.2.2:Int) != 0) || decide (8192<(iadd .i64 x18 x30.1))) then some (0,0,([]:qFm),false) else (qap F x18 x21 x30.1 x30.2.1).bind fun x37=>some (x7,x37.1,x37.2,true)
def qb5 (F:Nat)(x1:List (qFm))(x4:qFm)(x7 x9 x10 x18:Int)(x21:qFm):Option (Int×Int×qFm×Bool):=if decide (0<x7) then (idx x1 (isub .i64 (x1.length:Int) x7)).bind fun x41=>qb6 F x1 x4 x7 x9 x10 x18 x21 x41 else qb6 F x1 x4 x7 x9 x10 x18 x21 ([]:qFm)
def qf9 (F:Nat)(x1:List (qFm))(x4:qFm)(x7 x8 x9 x10:Int):Option (Int×Int×qFm×Bool):=if decide (0<x8) then (j9 F (iconv .u64 x7)).bind fun x46=>qb5 F x1 x4 x7 x9 x10 x46.1 x46.2 else qb5 F x1 x4 x7 x9 x10 0 ([]:qFm)
def qfL (_F:Nat)(x96:Bool)(x97 x98:Int)(x0:qFm):Option (Int×Int×qFm×Bool):=some (x97,x98,x0,x96)
def vx (_F:Nat)(r14:(Bool×Int×Int×Int×qFm)→Option (Int×Int×qFm×Bool))(x0:Int)(x1:Bool)(x2 x3:Int)(x4:qFm):Option (Int×Int×qFm×Bool):=r14 (x1,iadd .i64 x0 1,x2,x3,x4)
def qcI (F:Nat)(r14:(Bool×Int×Int×Int×qFm)→Option (Int×Int×qFm×Bool))(x0:Bool)(x1 x2 x3:Int)(x4:qFm)(x5:(Int×Int×qFm×Bool))(x6:Bool):Option (Int×Int×qFm×Bool):=if x6 then vx F r14 x1 true x5.1 x5.2.1 x5.2.2.1 else vx F r14 x1 x0 x2 x3 x4
def qe2 (F:Nat)(x1:List (qFm))(x4:qFm)(x7 x8 x9:Int)(r14:(Bool×Int×Int×Int×qFm)→Option (Int×Int×qFm×Bool))(x0:Bool)(x2 x3 x5:Int)(x6:qFm):Option (Int×Int×qFm×Bool):=if decide (x2<(iadd .i64 (imin x7 (x1.length:Int)) 1)) then (qf9 F x1 x4 x2 x7 x8 x9).bind fun x10=>if x10.2.2.2 then qcI F r14 x0 x2 x3 x5 x6 x10 ((!x0) || decide (x10.2.1<x5)) else qcI F r14 x0 x2 x3 x5 x6 x10 false else qfL F x0 x3 x5 x6
def vy (F:Nat)(x1:List (qFm))(x4:qFm)(x7 x8 x9:Int):=lp fun r s=>qe2 F x1 x4 x7 x8 x9 r s.1 s.2.1 s.2.2.1 s.2.2.2.1 s.2.2.2.2
def qhL (F:Nat)(x1:List (qFm))(x4:qFm)(x7 x8 x9:Int):Option (Int×Int×qFm×Bool):=vy F x1 x4 x7 x8 x9 F (false,0,0,0,([]:qFm))
def qaC (_F:Nat)(x2 x3 x4 x5 x0:Int)(x1 x6 x7:qFm):Option (Bool×Int×Int×Int×Int×Int×qFm×qFm×qFm):=some (true,x2,x3,x4,x5,x0,x1,x6,x7)
def qaE (F:Nat)(r43:(Int×Int×qFm×qFm×qFm)→Option (Bool×Int×Int×Int×Int×Int×qFm×qFm×qFm))(x0 x1:Int)(x2:qFm)(x3:Int)(x4 x5 x6:qFm):Option (Bool×Int×Int×Int×Int×Int×qFm×qFm×qFm):=(qap F x1 x2 x3 x4).bind fun x7=>r43 (iadd .i64 x0 1,x7.1,x7.2,x5,x6)
def yn (F:Nat)(r43:(Int×Int×qFm×qFm×qFm)→Option (Bool×Int×Int×Int×Int×Int×qFm×qFm×qFm))(x2 x3 x4 x5 x0 x1:Int)(x6 x7 x8:qFm)(x9 x10:Int)(x11:qFm)(x12:Bool):Option (Bool×Int×Int×Int×Int×Int×qFm×qFm×qFm):=if x12 then some (false,x2,x3,x4,x5,x1,x6,x7,x8) else (app 8796093022208 x7 ([x9]:qFm)).bind fun x13=>(app 8796093022208 x8 ([x1]:qFm)).bind fun x14=>qaE F r43 x0 x1 x6 x10 x11 x13 x14
def qaD (F:Nat)(r43:(Int×Int×qFm×qFm×qFm)→Option (Bool×Int×Int×Int×Int×Int×qFm×qFm×qFm))(x2 x3 x4 x5 x0 x1:Int)(x6 x7 x8:qFm)(x9:Bool)(x10 x11:Int)(x12:qFm):Option (Bool×Int×Int×Int×Int×Int×qFm×qFm×qFm):=if (!x9) then yn F r43 x2 x3 x4 x5 x0 x1 x6 x7 x8 x10 x11 x12 true else yn F r43 x2 x3 x4 x5 x0 x1 x6 x7 x8 x10 x11 x12 (decide (8192<(iadd .i64 x1 x11)))
def qaB (F:Nat)(x2 x3 x4 x5:Int)(x16:List (qFm))(r43:(Int×Int×qFm×qFm×qFm)→Option (Bool×Int×Int×Int×Int×Int×qFm×qFm×qFm))(x0 x1:Int)(x6 x7 x8:qFm):Option (Bool×Int×Int×Int×Int×Int×qFm×qFm×qFm):=if decide (x0<(x16.length:Int)) then (idx x16 x0).bind fun x9=>(sub x16 0 x0).bind fun x10=>(qhL F x10 x9 x3 x4 x5).bind fun x11=>qaD F r43 x2 x3 x4 x5 x0 x1 x6 x7 x8 x11.2.2.2 x11.1 x11.2.1 x11.2.2.1 else qaC F x2 x3 x4 x5 x1 x6 x7 x8
def kS (F:Nat)(x2 x3 x4 x5:Int)(x16:List (qFm)):=lp fun r s=>qaB F x2 x3 x4 x5 x16 r s.1 s.2.1 s.2.2.1 s.2.2.2.1 s.2.2.2.2
def qcQ (F:Nat)(x2 x3 x4 x5 x6:Int)(x7 x10 x13:qFm)(x16:List (qFm)):Option (Bool×Int×Int×Int×Int×Int×qFm×qFm×qFm):=kS F x2 x3 x4 x5 x16 F (0,x6,x7,x10,x13)
def vI (_F:Nat)(x48 x49 x50 x51 x52 x53:Int)(x56 x59 x62:qFm):Option (Int×Int×Int×Int×Int×qFm×qFm×qFm×Int):=some (x49,x50,x51,x52,x53,x56,x59,x62,x48)
def vJ (F:Nat)(x12:Int)(x74:Bool)(x75 x76 x77 x78 x79:Int)(x82 x85 x88:qFm):Option (Int×Int×Int×Int×Int×qFm×qFm×qFm×Int):=if x74 then vI F 8 x75 x76 x77 x78 x79 x82 x85 x88 else vI F x12 x75 x76 x77 x78 x79 x82 x85 x88
def qac (F:Nat)(x1:List (qFm))(x4 x5 x6 x12:Int):Option (Int×Int×Int×Int×Int×qFm×qFm×qFm×Int):=if ((x12:Int) == 0) then (qcQ F (x1.length:Int) x4 x5 x6 0 ([]:qFm) ([]:qFm) ([]:qFm) x1).bind fun x90=>vJ F x12 (!x90.1) x90.2.1 x90.2.2.1 x90.2.2.2.1 x90.2.2.2.2.1 x90.2.2.2.2.2.1 x90.2.2.2.2.2.2.1 x90.2.2.2.2.2.2.2.1 x90.2.2.2.2.2.2.2.2 else vJ F x12 false (x1.length:Int) x4 x5 x6 0 ([]:qFm) ([]:qFm) ([]:qFm)
def qcz (F:Nat)(x1:List (qFm))(x4 x5 x6:Int):Option (Int×Int×Int×Int×Int×qFm×qFm×qFm×Int):=(kQ F x1).bind fun x9=>if ((x9:Int) == 0) then (vD F x4 x5 x6).bind fun x97=>qac F x1 x4 x5 x6 x97 else qac F x1 x4 x5 x6 x9
def qcp (F:Nat)(x1:List (qFm))(x4 x5 x6:Int):Option (Int×Int×Int×Int×Int×qFm×Int):=(qcz F x1 x4 x5 x6).bind fun x10=>if ((x10.2.2.2.2.2.2.2.2:Int) != 0) then some (0,0,0,0,0,([]:qFm),x10.2.2.2.2.2.2.2.2) else some (x10.1,x10.2.1,x10.2.2.1,x10.2.2.2.1,x10.2.2.2.2.1,x10.2.2.2.2.2.1,0)
def qbY (_F:Nat)(x21 _x22 _x23 _x24 _x25 x26:Int)(_x29:qFm):Option (Int×qFm):=(itoaC x26).bind fun x30=>some (x21,x30)
def qby (F:Nat)(x2:List (qFm))(x5 x6 x7:Int)(_x8 _x11:qFm):Option (Int×qFm):=(qcp F x2 x5 x6 x7).bind fun x31=>qbY F x31.2.2.2.2.2.2 x31.1 x31.2.1 x31.2.2.1 x31.2.2.2.1 x31.2.2.2.2.1 x31.2.2.2.2.2.1
def qeL (F:Nat)(x1:List (qFm))(x4 x5 x6:Int):Option (qFm×qFm×Int):=(qcz F x1 x4 x5 x6).bind fun x9=>if ((x9.2.2.2.2.2.2.2.2:Int) != 0) then some (([]:qFm),([]:qFm),x9.2.2.2.2.2.2.2.2) else some (x9.2.2.2.2.2.2.1,x9.2.2.2.2.2.2.2.1,0)
def qhw (_F:Nat):Option Int:=some 0
def qeY (F:Nat)(x1:qFm)(x4:Int)(r3:(Int×Int)→Option Int)(x92 x93:Int):Option Int:=if decide (x93<(x1.length:Int)) then (idx x1 x93).bind fun x0=>if (decide (x0<0) || decide (x4<x0)) then some 3 else if decide (x0<x92) then some 4 else r3 (x0,iadd .i64 x93 1) else qhw F
def qeZ (F:Nat)(x1:qFm)(x4:Int):=lp fun r s=>qeY F x1 x4 r s.1 s.2
def qdg (F:Nat)(x1:qFm)(x4:Int):Option Int:=if (decide (x4<0) || decide (1048576<x4)) then some 3 else if decide (300<(x1.length:Int)) then some 2 else qeZ F x1 x4 F (0,0)
def qhx (_F:Nat)(x35:Int):Option Int:=some x35
def qab (F:Nat)(r13:Int→Option Int)(x46:Int)(x65:Bool):Option Int:=if x65 then r13 (iadd .i64 x46 1) else qhx F x46
def qd2 (F:Nat)(x1 x2:Int)(r13:Int→Option Int)(x46:Int):Option Int:=if decide (0<x1) then chk (decide (0≤(iadd .i64 x46 1))) (qab F r13 x46 (decide ((ishl .i64 x1 (iadd .i64 x46 1))≤(iadd .i64 x2 1)))) else qab F r13 x46 false
def qcm (F:Nat)(x1 x2:Int):=lp fun r s=>qd2 F x1 x2 r s
def qdl (F:Nat)(x1 x2:Int):Option Int:=qcm F x1 x2 F 0
def qbr (F:Nat)(x7:Int)(r1:(Int×qFm×Int)→Option (Int×qFm×Int))(x16:Int)(x19:qFm)(x20:Int):Option (Int×qFm×Int):=if decide (x20<x7) then (vM F x16 x19 0 1).bind fun x34=>r1 (x34.1,x34.2,iadd .i64 x20 1) else some (x16,x19,x20)
def qbs (F:Nat)(x7:Int):=lp fun r s=>qbr F x7 r s.1 s.2.1 s.2.2
def vO (F:Nat)(x2:Int)(x3:qFm)(x6 x7:Int):Option (Int×qFm×Int):=qbs F x7 F (x2,x3,x6)
def qgq (F:Nat)(x1:qFm)(x4 x6 x0:Int)(x2:qFm)(x3 x5:Int)(x7:qFm):Option (Int×Int×Int×Int×qFm×Int×qFm×Bool):=(vO F x0 x2 x3 (iadd .i64 (ishr .i64 x4 x6) 1)).bind fun x8=>some ((x1.length:Int),x4,x6,x5,x7,x8.1,x8.2.1,true)
def qgp (F:Nat)(x1:qFm)(x4 x6:Int)(r3:(Int×Int×qFm×Int×Int×qFm)→Option (Int×Int×Int×Int×qFm×Int×qFm×Bool))(x0 x2:Int)(x3:qFm)(x5 x7:Int)(x8:qFm):Option (Int×Int×Int×Int×qFm×Int×qFm×Bool):=if decide (x0<(x1.length:Int)) then (idx x1 x0).bind fun x9=>chk (decide (0≤x6)) ((vM F x7 x8 (iconv .u64 (iand .i64 x9 (isub .i64 (ishl .i64 1 x6) 1))) x6).bind fun x10=>chk (decide (0≤x6)) ((vO F x2 x3 x5 (ishr .i64 x9 x6)).bind fun x11=>(vM F x11.1 x11.2.1 1 1).bind fun x12=>r3 (iadd .i64 x0 1,x12.1,x12.2,x11.2.2,x10.1,x10.2))) else qgq F x1 x4 x6 x2 x3 x5 x7 x8
def qgr (F:Nat)(x1:qFm)(x4 x6:Int):=lp fun r s=>qgp F x1 x4 x6 r s.1 s.2.1 s.2.2.1 s.2.2.2.1 s.2.2.2.2.1 s.2.2.2.2.2
def qfF (F:Nat)(x1:qFm)(x4:Int):Option (Int×Int×Int×Int×qFm×Int×qFm×Bool):=(qdl F (x1.length:Int) x4).bind fun x6=>chk (decide (0≤x6)) (if (decide (8192<(imul .i64 (x1.length:Int) x6)) || (decide (8192<(iadd .i64 (x1.length:Int) (iadd .i64 (ishr .i64 x4 x6) 1))))) then some (0,0,0,0,([]:qFm),0,([]:qFm),false) else qgr F x1 x4 x6 F (0,0,([]:qFm),0,0,([]:qFm)))
def qdf (F:Nat)(x1:qFm)(x4:Int):Option (Int×Int×Int×Int×qFm×Int×qFm×Int):=(qdg F x1 x4).bind fun x8=>if ((x8:Int) != 0) then some (0,0,0,0,([]:qFm),0,([]:qFm),x8) else (qfF F x1 x4).bind fun x9=>if (!x9.2.2.2.2.2.2.2) then some (0,0,0,0,([]:qFm),0,([]:qFm),8) else some (x9.1,x9.2.1,x9.2.2.1,x9.2.2.2.1,x9.2.2.2.2.1,x9.2.2.2.2.2.1,x9.2.2.2.2.2.2.1,0)
def qbn (F:Nat)(x1:List (qFm))(x4 x5 x6 x7 x8:Int)(x9:qFm):Option (Int×Int×Int×Int×Int×qFm×Int×Int×Int×Int×qFm×Int×qFm×Int):=(qeL F x1 x5 x6 x7).bind fun x15=>if ((x15.2.2:Int) != 0) then some (0,0,0,0,0,([]:qFm),0,0,0,0,([]:qFm),0,([]:qFm),x15.2.2) else (qdf F x15.2.1 x8).bind fun x21=>if ((x21.2.2.2.2.2.2.2:Int) != 0) then some (0,0,0,0,0,([]:qFm),0,0,0,0,([]:qFm),0,([]:qFm),x21.2.2.2.2.2.2.2) else some (x4,x5,x6,x7,x8,x9,x21.1,x21.2.1,x21.2.2.1,x21.2.2.2.1,x21.2.2.2.2.1,x21.2.2.2.2.2.1,x21.2.2.2.2.2.2.1,0)
def qew (F:Nat)(x1:List (qFm))(x4 x5 x6:Int):Option (Int×Int×Int×Int×Int×qFm×Int×Int×Int×Int×qFm×Int×qFm×Int):=(qcp F x1 x4 x5 x6).bind fun x10=>if ((x10.2.2.2.2.2.2:Int) != 0) then some (0,0,0,0,0,([]:qFm),0,0,0,0,([]:qFm),0,([]:qFm),x10.2.2.2.2.2.2) else (qbn F x1 x10.1 x10.2.1 x10.2.2.1 x10.2.2.2.1 x10.2.2.2.2.1 x10.2.2.2.2.2.1).bind fun x15=>some (x15.1,x15.2.1,x15.2.2.1,x15.2.2.2.1,x15.2.2.2.2.1,x15.2.2.2.2.2.1,x15.2.2.2.2.2.2.1,x15.2.2.2.2.2.2.2.1,x15.2.2.2.2.2.2.2.2.1,x15.2.2.2.2.2.2.2.2.2.1,x15.2.2.2.2.2.2.2.2.2.2.1,x15.2.2.2.2.2.2.2.2.2.2.2.1,x15.2.2.2.2.2.2.2.2.2.2.2.2.1,x15.2.2.2.2.2.2.2.2.2.2.2.2.2)
def qaR (_F:Nat)(x36:Bool):Option Int:=if x36 then some 1 else some 0
def qcg (F:Nat)(x1:Int)(x2:qFm):Option Int:=if (decide (x1<0) || decide (8192<x1)) then some 3 else if (((x2.length:Int):Int) != (iquo .i64 (iadd .i64 x1 7) 8)) then some 1 else if (((irem x1 8):Int) != 0) then (idx x2 (isub .i64 (x2.length:Int) 1)).bind fun x39=>chk (decide (0≤(irem x1 8))) (qaR F (((ishl .u8 x39 (irem x1 8)):Int) != 0)) else qaR F false
def qfi (F:Nat)(x1 x2 x3 x4 x5:Int)(x6:qFm):Option Int:=if (decide (x1<0) || decide (100<x1)) then some 3 else (vD F x2 x3 x4).bind fun x15=>if ((x15:Int) != 0) then some x15 else (qcg F x5 x6).bind fun x16=>some x16
def qhz (_F:Nat):Option (Int×Int×Bool):=some (0,0,false)
def qe9 (F:Nat)(x1:Int)(x2:qFm)(x5:Int)(r3:Int→Option (Int×Int×Bool))(x33:Int):Option (Int×Int×Bool):=if decide (x33<x1) then (qbm F x1 x2 x33).bind fun x44=>if ((x44:Int) == 1) then some (iconv .u64 (isub .i64 x33 x5),iadd .i64 x33 1,true) else r3 (iadd .i64 x33 1) else qhz F
def qfa (F:Nat)(x1:Int)(x2:qFm)(x5:Int):=lp fun r s=>qe9 F x1 x2 x5 r s
def qdF (F:Nat)(x1:Int)(x2:qFm)(x5:Int):Option (Int×Int×Bool):=qfa F x1 x2 x5 F x5
def qcu (F:Nat)(x1:Int)(x2:qFm)(x5:Int):Option (Int×Int×Int):=(qdF F x1 x2 x5).bind fun x7=>if (!x7.2.2) then some (0,0,7) else some (x7.1,x7.2.1,0)
def qfw (_F:Nat)(x24:Int):Option (Int×Bool):=some (x24,true)
def qfv (F:Nat)(x1:Int)(x2:qFm)(x5 x6:Int)(r3:(Int×Int)→Option (Int×Bool))(x29 x30:Int):Option (Int×Bool):=if decide (x30<x6) then (qbm F x1 x2 (iadd .i64 x5 x30)).bind fun x38=>r3 (ior .u64 (ishl .u64 x29 1) x38,iadd .i64 x30 1) else qfw F x29
def qfx (F:Nat)(x1:Int)(x2:qFm)(x5 x6:Int):=lp fun r s=>qfv F x1 x2 x5 x6 r s.1 s.2
def jq (F:Nat)(x1:Int)(x2:qFm)(x5 x6:Int):Option (Int×Bool):=if decide ((isub .i64 x1 x5)<x6) then some (0,false) else qfx F x1 x2 x5 x6 F (0,0)
def kF (F:Nat)(x1:Int)(x2:qFm)(x5:Int):Option (Int×Int×Int):=(qcu F x1 x2 x5).bind fun x7=>if ((x7.2.2:Int) != 0) then some (0,0,x7.2.2) else if decide (64≤x7.1) then some (0,0,3) else (jq F x1 x2 x7.2.1 (iconv .i64 x7.1)).bind fun x10=>if (!x10.2) then some (0,0,7) else chk (decide (0≤x7.1)) (lett (iadd .u64 x10.1 (isub .u64 (ishl .u64 1 x7.1) 1)) fun x16=>if decide (1099511627776<x16) then some (0,0,3) else some (x16,iadd .i64 x7.2.1 (iconv .i64 x7.1),0))
def jC (F:Nat)(x1:Int)(x2:qFm)(x5:Int):Option (Int×Int×Int):=(kF F x1 x2 x5).bind fun x7=>some (x7.1,x7.2.1,x7.2.2)
def qes (_F:Nat)(x13:(Int×Int×Int))(x18:Bool):Option (Int×Int×Bool):=if x18 then some (0,0,false) else some (iconv .i64 x13.1,x13.2.1,true)
def qfK (F:Nat)(_x1 x2 _x3 _x4 x5:Int)(x6:qFm)(x9 x10:Int):Option (Int×Int×Bool):=if ((x2:Int) == 0) then some (0,x9,true) else (jC F x5 x6 x9).bind fun x13=>if ((x13.2.2:Int) != 0) then qes F x13 true else qes F x13 (decide ((iconv .u64 (imin x2 x10))<x13.1))
def yE (_F:Nat)(x1:Bool):Option (Unit ⊕ Unit):=if (!x1) then some (.inr ()) else some (.inl ())
def zP (F:Nat)(x2:Int)(x3:qFm)(x6 x7:Int):Option ((Int×Int×Int) ⊕ (Int×Int)):=(jC F x2 x3 x6).bind fun x9=>lbnd (yE F (((x9.2.2:Int) == 0) && decide (x9.1≤(iconv .u64 x7)))) (fun _x11=>some (.inl (iconv .i64 x9.1,x2,x9.2.1))) (fun _x12=>some (.inr (x2,x6)))
def qdv (_F:Nat)(x4 x99:Int):Option Int:=if decide (x4<x99) then some 8 else some 0
def qbG (_F:Nat)(r23:(Int×Int)→Option Int)(x4 x0 x1 x2:Int)(x3:Bool):Option Int:=if x3 then some 3 else lett (imin (iadd .i64 x0 (imin x2 (iadd .i64 x4 1))) (iadd .i64 x4 1)) fun x5=>r23 (x5,iadd .i64 x1 1)
def qdu (F:Nat)(x1:qFm)(x4:Int)(r23:(Int×Int)→Option Int)(x0 x2:Int):Option Int:=if decide (x2<(x1.length:Int)) then (idx x1 x2).bind fun x3=>if decide (x3<0) then qbG F r23 x4 x0 x2 x3 true else qbG F r23 x4 x0 x2 x3 (decide (x3<1) && decide (0<x2)) else qdv F x4 x0
def qbH (F:Nat)(x1:qFm)(x4:Int):=lp fun r s=>qdu F x1 x4 r s.1 s.2
def qet (F:Nat)(x1:qFm)(x4:Int):Option Int:=if decide ((iadd .i64 x4 1)<(x1.length:Int)) then some 2 else qbH F x1 x4 F (0,0)
def qbI (_F:Nat)(x0:qFm):Option (qFm):=some x0
def qdw (F:Nat)(x0 x1:qFm)(x2:Bool):Option (qFm):=if x2 then (app 8796093022208 x1 x0).bind fun x3=>qbI F x3 else qbI F x1
def qaF (_F:Nat)(r10:(qFm×qFm×Bool×Int)→Option (qFm))(x0:qFm)(x1:Bool)(x2 x3:Int)(x4:qFm):Option (qFm):=(sub x0 x3 (x0.length:Int)).bind fun x5=>r10 (x5,x4,(!x1),iadd .i64 x2 1)
def qcR (F:Nat)(x4:qFm)(r10:(qFm×qFm×Bool×Int)→Option (qFm))(x0 x1:qFm)(x2:Bool)(x3:Int):Option (qFm):=if decide (x3<(x4.length:Int)) then (idx x4 x3).bind fun x5=>if x2 then (sub x0 0 x5).bind fun x6=>(app 8796093022208 x1 x6).bind fun x7=>qaF F r10 x0 x2 x3 x5 x7 else qaF F r10 x0 x2 x3 x5 x1 else qdw F x0 x1 x2
def qaG (F:Nat)(x4:qFm):=lp fun r s=>qcR F x4 r s.1 s.2.1 s.2.2.1 s.2.2.2
def qfO (F:Nat)(x1 x4:qFm):Option (qFm):=qaG F x4 F (x1,([]:qFm),true,0)
def qa7 (F:Nat)(x1 x4:qFm)(x10:Int):Option (qFm×Int):=if ((x10:Int) != 0) then some (([]:qFm),x10) else (qfO F x1 x4).bind fun x12=>some (x12,0)
def qfj (F:Nat)(x1 x4:qFm):Option (qFm×Int):=(jD F x1).bind fun x7=>if ((x7:Int) == 0) then (qet F x4 (x1.length:Int)).bind fun x16=>qa7 F x1 x4 x16 else qa7 F x1 x4 x7
def qc2 (_F:Nat)(x72:qFm)(x73 x74:Int):Option ((qFm×Int×Int) ⊕ (Int×Int)):=some (.inl (x72,x73,x74))
def qah (F:Nat)(x3:qFm)(x7:Int)(x10:qFm)(r3:(qFm×Int×Int×Int)→Option ((qFm×Int×Int) ⊕ (Int×Int)))(x93:qFm)(x94 x95 x96:Int):Option ((qFm×Int×Int) ⊕ (Int×Int)):=if decide (x94<(x10.length:Int)) then lbnd (zP F x95 x3 x96 x7) (fun x0=>(idx x93 x94).bind fun _x127=>lett (x93.set x94.toNat (iadd .i64 x0.1 (imin x94 1))) fun x1=>r3 (x1,iadd .i64 x94 1,x0.2.1,x0.2.2)) (fun x2=>some (.inr (x2.1,x2.2))) else qc2 F x93 x95 x96
def qai (F:Nat)(x3:qFm)(x7:Int)(x10:qFm):=lp fun r s=>qah F x3 x7 x10 r s.1 s.2.1 s.2.2.1 s.2.2.2
def jK (F:Nat)(x2:Int)(x3:qFm)(x6 x7:Int):Option ((qFm×Int×Int) ⊕ (Int×Int)):=lbnd (zP F x2 x3 x6 (iadd .i64 x7 1)) (fun x8=>(mk 17592186044416 (0:Int) x8.1).bind fun x10=>qai F x3 x7 x10 F (x10,0,x8.2.1,x8.2.2)) (fun x9=>some (.inr (x9.1,x9.2)))
def qbf (_F:Nat)(x1:Int):Option Int:=lett (ixor .i64 (iconv .i64 (ishr .u64 x1 1)) (isub .i64 0 (iconv .i64 (iand .u64 x1 1)))) fun x2=>some x2
def qdX (_F:Nat)(x0:List (Int×Int))(x1 x2:Int):Option ((List (Int×Int)×Int×Int) ⊕ (Int×Int)):=some (.inl (x0,x1,x2))
def yx (F:Nat)(r13:(List (Int×Int)×Int×Int×Int×Int)→Option ((List (Int×Int)×Int×Int) ⊕ (Int×Int)))(x3:qFm)(x8 x9:Int)(x0:List (Int×Int))(x1:Int)(x2:(Int×Int×Int))(x4:Int):Option ((List (Int×Int)×Int×Int) ⊕ (Int×Int)):=lbnd (zP F x2.2.1 x3 x2.2.2 x9) (fun x5=>(idx x0 x1).bind fun _x247=>lett (x0.set x1.toNat (x4,iadd .i64 x5.1 x8)) fun x6=>(idx x6 x1).bind fun x7=>r13 (x6,iadd .i64 x4 (isub .i64 x7.2 1),iadd .i64 x1 1,x5.2.1,x5.2.2)) (fun x10=>some (.inr (x10.1,x10.2)))
def qaN (F:Nat)(x3:qFm)(x8 x9:Int)(x13:List (Int×Int))(r13:(List (Int×Int)×Int×Int×Int×Int)→Option ((List (Int×Int)×Int×Int) ⊕ (Int×Int)))(x0:List (Int×Int))(x1 x2 x4 x5:Int):Option ((List (Int×Int)×Int×Int) ⊕ (Int×Int)):=if decide (x2<(x13.length:Int)) then lbnd (zP F x4 x3 x5 2097152) (fun x6=>if ((x2:Int) == 0) then (qbf F (iconv .u64 x6.1)).bind fun x7=>yx F r13 x3 x8 x9 x0 x2 x6 (iadd .i64 x1 x7) else yx F r13 x3 x8 x9 x0 x2 x6 (iadd .i64 x1 (iadd .i64 x6.1 2))) (fun x10=>some (.inr (x10.1,x10.2))) else qdX F x0 x4 x5
def yz (F:Nat)(x3:qFm)(x8 x9:Int)(x13:List (Int×Int)):=lp fun r s=>qaN F x3 x8 x9 x13 r s.1 s.2.1 s.2.2.1 s.2.2.2.1 s.2.2.2.2
def qaM (F:Nat)(x2:Int)(x3:qFm)(x6 x7 x8 x9:Int):Option ((List (Int×Int)×Int×Int) ⊕ (Int×Int)):=chk ((x8:Int) != 0) (lbnd (zP F x2 x3 x6 (iquo .i64 x9 x8)) (fun x11=>(mk 8796093022208 (((0:Int),(0:Int)):(Int×Int)) x11.1).bind fun x13=>yz F x3 x8 x9 x13 F (x13,x7,0,x11.2.1,x11.2.2)) (fun x12=>some (.inr (x12.1,x12.2))))
def jR (_F:Nat)(x15:qFm):Option (qFm):=some x15
def jd (F:Nat)(x1:qFm)(c3:Nat)(x4:Int):Option (qFm):=if decide (x4<0) then none else lett (isub .i64 x4 (isub .i64 (c3:Int) (x1.length:Int))) fun x16=>if decide (0<x16) then (sub x1 0 (c3:Int)).bind fun x17=>(appz 8796093022208 x17 (0:Int) x16).bind fun x18=>(sub x18 0 (x1.length:Int)).bind fun x21=>jR F x21 else jR F x1
def vQ (_F:Nat)(x0:qFm):Option (qFm):=some x0
def qS (F:Nat)(x1:List (qFm))(r5:(qFm×Int)→Option (qFm))(x0:qFm)(x2:Int):Option (qFm):=if decide (x2<(x1.length:Int)) then (idx x1 x2).bind fun x3=>(app 8796093022208 x0 x3).bind fun x4=>r5 (x4,iadd .i64 x2 1) else vQ F x0
def zS (F:Nat)(x1:List (qFm)):=lp fun r s=>qS F x1 r s.1 s.2
def kM (F:Nat)(x1:List (qFm))(x43:Int):Option (qFm):=(jd F ([]:qFm) 0 x43).bind fun x44=>zS F x1 F (x44,0)
def qT (F:Nat)(x1:List (qFm))(r6:(Int×Int)→Option (qFm))(x0 x2:Int):Option (qFm):=if decide (x2<(x1.length:Int)) then (idx x1 x2).bind fun x3=>if decide ((iadd .i64 x0 (x3.length:Int))<0) then none else r6 (iadd .i64 x0 (x3.length:Int),iadd .i64 x2 1) else kM F x1 x0
def zT (F:Nat)(x1:List (qFm)):=lp fun r s=>qT F x1 r s.1 s.2
def zR (F:Nat)(x1:List (qFm)):Option (qFm):=zT F x1 F (0,0)
def qcC (_F:Nat)(x1 x2 x3:Int):Option Bool:=some (decide (x2≤x1) && decide (x1≤x3))
def qgb (_F:Nat)(x0:qFm):Option (qFm×Int):=some (x0,0)
def qbO (_F:Nat)(r32:(qFm×Int)→Option (qFm×Int))(x0:Int)(x1:qFm):Option (qFm×Int):=r32 (x1,iadd .i64 x0 1)
def qdy (F:Nat)(r32:(qFm×Int)→Option (qFm×Int))(x0:Int)(x1:(Int×Int))(r35:(qFm×Int)→Option (qFm×Int))(x2:qFm)(x3:Int):Option (qFm×Int):=if decide (x3<x1.2) then (app 8796093022208 x2 ([iadd .i64 x1.1 x3]:qFm)).bind fun x4=>r35 (x4,iadd .i64 x3 1) else qbO F r32 x0 x2
def qdA (F:Nat)(r32:(qFm×Int)→Option (qFm×Int))(x0:Int)(x1:(Int×Int)):=lp fun r s=>qdy F r32 x0 x1 r s.1 s.2
def qdx (F:Nat)(x1:List (Int×Int))(r32:(qFm×Int)→Option (qFm×Int))(x0:qFm)(x2:Int):Option (qFm×Int):=if decide (x2<(x1.length:Int)) then (idx x1 x2).bind fun x3=>qdA F r32 x2 x3 F (x0,0) else qgb F x0
def jH (F:Nat)(x1:List (Int×Int)):=lp fun r s=>qdx F x1 r s.1 s.2
def qbN (F:Nat)(x1:List (Int×Int)):Option (qFm×Int):=jH F x1 F (([]:qFm),0)
def jG (_F:Nat)(r44:(Int×Int)→Option (qFm×Int))(x0 x1:Int)(x2:(Int×Int))(x3:Bool):Option (qFm×Int):=if x3 then some (([]:qFm),3) else if decide (x2.1<(iadd .i64 x0 2)) then some (([]:qFm),4) else r44 (isub .i64 (iadd .i64 x2.1 x2.2) 1,iadd .i64 x1 1)
def qdz (F:Nat)(x1:List (Int×Int))(r44:(Int×Int)→Option (qFm×Int))(x0 x2:Int):Option (qFm×Int):=if decide (x2<(x1.length:Int)) then (idx x1 x2).bind fun x3=>(qcC F x3.1 0 1048576).bind fun x4=>if (!x4) then jG F r44 x0 x2 x3 (!x4) else (qcC F x3.2 1 300).bind fun x5=>if (!x5) then jG F r44 x0 x2 x3 (!x5) else jG F r44 x0 x2 x3 (decide (1048576<(isub .i64 (iadd .i64 x3.1 x3.2) 1))) else qbN F x1
def qbP (F:Nat)(x1:List (Int×Int)):=lp fun r s=>qdz F x1 r s.1 s.2
def qev (F:Nat)(x1:List (Int×Int)):Option (qFm×Int):=if decide (300<(x1.length:Int)) then some (([]:qFm),2) else qbP F x1 F (-2,0)
def qa8 (F:Nat)(x4:qFm)(x7:(qFm×Int))(x12:Int):Option (qFm×Int):=if ((x12:Int) != 0) then some (([]:qFm),x12) else (zR F ([x7.1,x4]:List (qFm))).bind fun x16=>(zg F x16).bind fun x19=>chk (decide (x19.length=x16.length)) ((kT F x19).bind fun x29=>(zE F x29).bind fun x32=>if decide ((x32.length:Int)<(x19.length:Int)) then some (([]:qFm),6) else if decide (300<(x19.length:Int)) then some (([]:qFm),2) else some (x19,0))
def qfk (F:Nat)(x1:List (Int×Int))(x4:qFm):Option (qFm×Int):=(qev F x1).bind fun x7=>if ((x7.2:Int) == 0) then (jD F x4).bind fun x38=>qa8 F x4 x7 x38 else qa8 F x4 x7 x7.2
def kv (F:Nat)(x1:Int)(x2:qFm)(x5:Int)(x8:(Int×Int)):Option (Int×Int×Bool):=(jq F x1 x2 x5 x8.1).bind fun x14=>some (isub .u64 x14.1 x8.2,iadd .i64 x5 x8.1,x14.2)
def zY (F:Nat)(x1:Int)(x2:qFm)(x5 x6:Int):Option (Int×Int×Bool):=(qb4 F x6).bind fun x8=>if decide (0<x8.2) then (jq F x1 x2 x5 (isub .i64 x8.1 1)).bind fun x15=>if (!x15.2) then some (0,0,false) else if decide (x15.1<x8.2) then some (x15.1,isub .i64 (iadd .i64 x5 x8.1) 1,true) else kv F x1 x2 x5 x8 else kv F x1 x2 x5 x8
def qdm (_F:Nat)(x1 x2:Int)(x3:Bool):Option (Int×Int×Int):=if (!x3) then some (0,0,7) else if decide (1099511627776<x1) then some (0,0,3) else some (x1,x2,0)
def qbC (F:Nat)(x1:Int)(x2:qFm)(x5 x6:Int):Option (Int×Int×Int):=(qdF F x1 x2 x5).bind fun x8=>if (!x8.2.2) then some (0,0,7) else if decide (41≤(imul .u64 x8.1 (iconv .u64 x6))) then some (0,0,3) else chk (decide (0≤(imul .i64 (iconv .i64 x8.1) x6))) (lett (ishl .u64 1 (imul .i64 (iconv .i64 x8.1) x6)) fun x12=>chk (decide (0≤x6)) ((zY F x1 x2 x8.2.1 (isub .u64 (ishl .u64 x12 x6) x12)).bind fun x20=>(qdm F (isub .u64 (iadd .u64 x12 x20.1) 1) x20.2.1 x20.2.2).bind fun x21=>some (x21.1,x21.2.1,x21.2.2)))
def yK (F:Nat)(x8:Int):Option (Bool×Int×Bool):=(qeK F x8).bind fun x9=>some (x9,x8,true)
def k8 (F:Nat)(x2:Int)(x3:Bool)(x4:Int):Option (Bool×Int×Bool):=if decide (2097152<x4) then some (false,x2,x3) else if x3 then yK F (iadd .i64 x2 (iadd .i64 (iconv .i64 x4) 1)) else (qbf F x4).bind fun x10=>yK F (iadd .i64 x2 x10)
def qfH (_F:Nat)(x0:Int)(x1:qFm):Option (qFm×Int×Int):=some (x1,x0,0)
def qfG (F:Nat)(x1:Int)(x2:qFm)(x7 x8:Int)(r3:(Int×qFm×Int×Int×Bool)→Option (qFm×Int×Int))(x0:Int)(x3:qFm)(x4 x5:Int)(x6:Bool):Option (qFm×Int×Int):=if decide (x4<x8) then (qbC F x1 x2 x0 x7).bind fun x9=>if ((x9.2.2:Int) != 0) then some (([]:qFm),0,x9.2.2) else (k8 F x5 x6 x9.1).bind fun x10=>if (!x10.1) then some (([]:qFm),0,3) else (app 8796093022208 x3 ([x10.2.1]:qFm)).bind fun x11=>r3 (x9.2.1,x11,iadd .i64 x4 1,x10.2.1,x10.2.2) else qfH F x0 x3
def qfI (F:Nat)(x1:Int)(x2:qFm)(x7 x8:Int):=lp fun r s=>qfG F x1 x2 x7 x8 r s.1 s.2.1 s.2.2.1 s.2.2.2.1 s.2.2.2.2
def qf5 (F:Nat)(x1:Int)(x2:qFm)(x5 x6 x7 x8:Int):Option (qFm×Int×Int):=qfI F x1 x2 x7 x8 F (x5,([]:qFm),0,x6,false)
def yN (F:Nat)(x3:qFm)(x7 x13:Int)(x15:(Int×Int×Int))(x31:qFm)(x42:List (Int×Int))(x43 x44:Int):Option ((qFm×Int×Int) ⊕ (Int×Int)):=(qfk F x42 ([]:qFm)).bind fun x45=>lbnd (yE F (((x45.2:Int) == 0) && decide ((x45.1.length:Int)≤(isub .i64 x15.1 (x31.length:Int))))) (fun _x49=>(qf5 F x43 x3 x44 x7 x13 (isub .i64 (isub .i64 x15.1 (x31.length:Int)) (x45.1.length:Int))).bind fun x54=>lbnd (yE F ((x54.2.2:Int) == 0)) (fun _x57=>(zR F ([x31,x45.1,x54.1]:List (qFm))).bind fun x61=>(zg F x61).bind fun x64=>chk (decide (x64.length=x61.length)) (some (.inl (x64,x43,x54.2.1)))) (fun _x58=>some (.inr (x43,x44)))) (fun _x50=>some (.inr (x43,x44)))
def yM (F:Nat)(x3:qFm)(x7 x12 x13:Int)(x15:(Int×Int×Int))(x31:qFm)(x32 x33:Int):Option ((qFm×Int×Int) ⊕ (Int×Int)):=if (((isub .i64 x15.1 (x31.length:Int)):Int) == 0) then some (.inl (x31,x32,x33)) else if decide (0<x12) then lbnd (qaM F x32 x3 x33 x7 x12 (isub .i64 x15.1 (x31.length:Int))) (fun x66=>yN F x3 x7 x13 x15 x31 x66.1 x66.2.1 x66.2.2) (fun x67=>some (.inr (x67.1,x67.2))) else yN F x3 x7 x13 x15 x31 ([]:List (Int×Int)) x32 x33
def vU (F:Nat)(x2:Int)(x3:qFm)(x6 x7:Int)(x8:qFm)(x11 x12 x13:Int):Option ((qFm×Int×Int) ⊕ (Int×Int)):=lbnd (zP F x2 x3 x6 300) (fun x15=>if ((x15.1:Int) == 0) then some (.inl (([]:qFm),x15.2.1,x15.2.2)) else if decide (0<x11) then lbnd (jK F x15.2.1 x3 x15.2.2 (x8.length:Int)) (fun x72=>(qfj F x8 x72.1).bind fun x76=>lbnd (yE F (((x76.2:Int) == 0) && decide ((x76.1.length:Int)≤x15.1))) (fun _x80=>yM F x3 x7 x12 x13 x15 x76.1 x72.2.1 x72.2.2) (fun _x81=>some (.inr (x72.2.1,x72.2.2)))) (fun x73=>some (.inr (x73.1,x73.2))) else yM F x3 x7 x12 x13 x15 ([]:qFm) x15.2.1 x15.2.2) (fun x16=>some (.inr (x16.1,x16.2)))
def qdW (_F:Nat)(x17:(qFm×Int×Int)):Option (qFm×Bool×Int×Int):=some (x17.1,true,x17.2.1,x17.2.2)
def qbt (F:Nat)(x3:qFm)(x6:Int)(x17:(qFm×Int×Int))(x25:(Int×qFm×Bool))(r4:Int→Option (qFm×Bool×Int×Int))(x75:Int):Option (qFm×Bool×Int×Int):=if decide (x75<x25.1) then (qbm F x25.1 x25.2.1 x75).bind fun x92=>(qbm F x17.2.1 x3 (iadd .i64 x6 x75)).bind fun x93=>lbnd (yE F ((x92:Int) == x93)) (fun _x94=>r4 (iadd .i64 x75 1)) (fun _x95=>some (([]:qFm),false,x17.2.1,x17.2.2)) else qdW F x17
def yO (F:Nat)(x3:qFm)(x6:Int)(x17:(qFm×Int×Int))(x25:(Int×qFm×Bool)):=lp fun r s=>qbt F x3 x6 x17 x25 r s
def jf (F:Nat)(x3:qFm)(x6:Int)(x17:(qFm×Int×Int))(x25:(Int×qFm×Bool)):Option (qFm×Bool×Int×Int):=yO F x3 x6 x17 x25 F 0
def vV (F:Nat)(x2:Int)(x3:qFm)(x6 x7:Int)(x8:qFm)(x11 x12 x13:Int):Option (qFm×Bool×Int×Int):=lbnd (vU F x2 x3 x6 x7 x8 x11 x12 x13) (fun x17=>(jD F x17.1).bind fun x21=>lbnd (yE F ((x21:Int) == 0)) (fun _x22=>(vW F 0 ([]:qFm) false x7 x17.1 x8 x11 x12 x13).bind fun x25=>if (!x25.2.2) then lbnd (yE F ((x25.1:Int) == (isub .i64 x17.2.2 x6))) (fun _x98=>jf F x3 x6 x17 x25) (fun _x99=>some (([]:qFm),false,x17.2.1,x17.2.2)) else lbnd (yE F false) (fun _x100=>jf F x3 x6 x17 x25) (fun _x101=>some (([]:qFm),false,x17.2.1,x17.2.2))) (fun _x23=>some (([]:qFm),false,x17.2.1,x17.2.2))) (fun x18=>some (([]:qFm),false,x18.1,x18.2))
def qas (F:Nat)(x1:Int)(x2:qFm)(x5 x6:Int)(x7:qFm)(x10 x11 x12:Int):Option (qFm×Int×Int):=(vV F x1 x2 x5 x6 x7 x10 x11 x12).bind fun x16=>if (!x16.2.1) then some (([]:qFm),0,1) else some (x16.1,x16.2.2.2,0)
def qe4 (_F:Nat)(x5:Int)(x0:List (qFm))(x1:Int):Option (List (qFm)×Bool):=some (x0,((x1:Int) == x5))
def qa5 (_F:Nat)(r8:(List (qFm)×Int×Int)→Option (List (qFm)×Bool))(x0:Int)(x1:List (qFm))(x2:Int):Option (List (qFm)×Bool):=r8 (x1,x2,iadd .i64 x0 1)
def qe3 (F:Nat)(x1 x2 x3 x4 x5:Int)(x6:qFm)(r8:(List (qFm)×Int×Int)→Option (List (qFm)×Bool))(x0:List (qFm))(x7 x8:Int):Option (List (qFm)×Bool):=if decide (x8<x1) then (qfK F x1 x2 x3 x4 x5 x6 x7 x8).bind fun x9=>if (!x9.2.2) then some (([]:List (qFm)),false) else if decide (0<x9.1) then (idx x0 (isub .i64 x8 x9.1)).bind fun x10=>(qas F x5 x6 x9.2.1 x8 x10 x9.1 x3 x4).bind fun x11=>if ((x11.2.2:Int) != 0) then some (([]:List (qFm)),false) else (app 2199023255552 x0 ([x11.1]:List (qFm))).bind fun x12=>qa5 F r8 x8 x12 x11.2.1 else (qas F x5 x6 x9.2.1 x8 ([]:qFm) x9.1 x3 x4).bind fun x13=>if ((x13.2.2:Int) != 0) then some (([]:List (qFm)),false) else (app 2199023255552 x0 ([x13.1]:List (qFm))).bind fun x14=>qa5 F r8 x8 x14 x13.2.1 else qe4 F x5 x0 x7
def qa6 (F:Nat)(x1 x2 x3 x4 x5:Int)(x6:qFm):=lp fun r s=>qe3 F x1 x2 x3 x4 x5 x6 r s.1 s.2.1 s.2.2
def qg8 (F:Nat)(x1 x2 x3 x4 x5:Int)(x6:qFm):Option (List (qFm)×Bool):=qa6 F x1 x2 x3 x4 x5 x6 F (([]:List (qFm)),0,0)
def qbQ (_F:Nat):Option Bool:=some true
def kA (F:Nat)(x1 x4:qFm)(r3:Int→Option Bool)(x0:Int):Option Bool:=if decide (x0<(x1.length:Int)) then (idx x1 x0).bind fun x2=>(idx x4 x0).bind fun x3=>if ((x2:Int) != x3) then some false else r3 (iadd .i64 x0 1) else qbQ F
def kB (F:Nat)(x1 x4:qFm):=lp fun r s=>kA F x1 x4 r s
def q9 (F:Nat)(x1 x4:qFm):Option Bool:=if (((x1.length:Int):Int) != (x4.length:Int)) then some false else kB F x1 x4 F 0
def qdt (_F:Nat)(x14:(List (qFm)×Bool))(x34:Bool):Option (List (qFm)×Int):=if x34 then some (([]:List (qFm)),1) else some (x14.1,0)
def qf8 (F:Nat)(x1 x2 x3 x4 x5:Int)(x6:qFm):Option (List (qFm)×Int):=(qfi F x1 x2 x3 x4 x5 x6).bind fun x13=>if ((x13:Int) != 0) then some (([]:List (qFm)),x13) else (qg8 F x1 x2 x3 x4 x5 x6).bind fun x14=>if (!x14.2) then some (([]:List (qFm)),1) else (qcp F x14.1 x2 x3 x4).bind fun x28=>if ((x28.2.2.2.2.2.2:Int) != 0) then qdt F x14 true else (q9 F x28.2.2.2.2.2.1 x6).bind fun x36=>qdt F x14 (!x36)
def qcN (_F:Nat)(x34:Bool):Option Bool:=some x34
def qcM (F:Nat)(x9 x20:qFm)(x31:Bool):Option Bool:=if x31 then (q9 F x9 x20).bind fun x35=>qcN F x35 else qcN F false
def qfl (F:Nat)(x1 x2 x3 x4:Int)(x5:qFm)(x8:Int)(x9:qFm)(x12 x13 x14 x15:Int)(x16:qFm)(x19:Int)(x20:qFm):Option Bool:=if ((((((x1:Int) == x12) && ((x2:Int) == x13)) && ((x3:Int) == x14)) && ((x4:Int) == x15)) && ((x8:Int) == x19)) then (q9 F x5 x16).bind fun x36=>qcM F x9 x20 x36 else qcM F x9 x20 false
def qe8 (F:Nat)(x1:List (qFm))(x4 x5 x6 x7 x8:Int)(x9:qFm):Option (Int×Int×Int×Int×Int×qFm×Int×Int×Int×Int×qFm×Int×qFm×Int):=(qeL F x1 x5 x6 x7).bind fun x15=>if ((x15.2.2:Int) != 0) then some (0,0,0,0,0,([]:qFm),0,0,0,0,([]:qFm),0,([]:qFm),x15.2.2) else (qdf F x15.2.1 x8).bind fun x21=>if ((x21.2.2.2.2.2.2.2:Int) != 0) then some (0,0,0,0,0,([]:qFm),0,0,0,0,([]:qFm),0,([]:qFm),x21.2.2.2.2.2.2.2) else some (x4,x5,x6,x7,x8,x9,x21.1,x21.2.1,x21.2.2.1,x21.2.2.2.1,x21.2.2.2.2.1,x21.2.2.2.2.2.1,x21.2.2.2.2.2.2.1,0)
def qad (_F:Nat)(x49:Bool):Option Int:=if x49 then some 4 else some 0
def qex (F:Nat)(x1 x2 x3 x4 x5:Int)(x6:qFm)(x9 x10 x11 x12:Int)(x13:qFm)(x16:Int)(x17:qFm):Option Int:=(qf8 F x1 x2 x3 x4 x5 x6).bind fun x21=>if ((x21.2:Int) != 0) then some x21.2 else (qe8 F x21.1 x1 x2 x3 x4 x5 x6).bind fun x39=>if ((x39.2.2.2.2.2.2.2.2.2.2.2.2.2:Int) != 0) then qad F true else (qfl F x39.2.2.2.2.2.2.1 x39.2.2.2.2.2.2.2.1 x39.2.2.2.2.2.2.2.2.1 x39.2.2.2.2.2.2.2.2.2.1 x39.2.2.2.2.2.2.2.2.2.2.1 x39.2.2.2.2.2.2.2.2.2.2.2.1 x39.2.2.2.2.2.2.2.2.2.2.2.2.1 x9 x10 x11 x12 x13 x16 x17).bind fun x51=>qad F (!x51)
def qeu (_F:Nat)(_x1:Int)(_x2:qFm)(_x5:Int):Option Unit:=some ()
def k9 {σ τ:Type}(_F:Nat)(_yy:σ→Int→Option (σ ⊕ τ))(r3:(Int×σ)→Option (σ ⊕ τ))(x36:Int)(x81:σ):Option (σ ⊕ τ):=r3 (iadd .i64 x36 1,x81)
def yU {σ τ:Type}(F:Nat)(yy:σ→Int→Option (σ ⊕ τ))(x2:Int)(x3:qFm)(x7:Int)(r3:(Int×σ)→Option (σ ⊕ τ))(x36:Int)(x37:σ):Option (σ ⊕ τ):=if decide (x36<x2) then (qbm F x2 x3 x36).bind fun x89=>if ((x89:Int) == x7) then (yy x37 x36).bind (Sum.elim (fun x91=>k9 F yy r3 x36 x91) (fun x92=>some (.inr x92))) else k9 F yy r3 x36 x37 else some (.inl x37)
def zw {σ τ:Type}(F:Nat)(yy:σ→Int→Option (σ ⊕ τ))(x2:Int)(x3:qFm)(x7:Int):=lp fun r s=>yU F yy x2 x3 x7 r s.1 s.2
def qcL {σ τ:Type}(F:Nat)(yy:σ→Int→Option (σ ⊕ τ))(x2:Int)(x3:qFm)(x7:Int)(s0:σ):Option (σ ⊕ τ):=zw F yy x2 x3 x7 F (0,s0)
def zi (_F:Nat)(x31 x37:Int):Option (Int ⊕ (Int×Int)):=if ((x31:Int) == 0) then some (.inr (x37,x31)) else some (.inl (isub .i64 x31 1))
def qaI (F:Nat)(x1:Int)(x2:qFm)(x5 x6:Int):Option Int:=(qeu F x1 x2 x5).bind fun _x25=>(qcL F (fun (x31:Int) (x37:Int)=>zi F x31 x37) x1 x2 x5 x6).bind (Sum.elim (fun (_x31:Int)=>some (-1)) (fun ((x35,_x36):(Int×Int))=>some x35))
def qcl (F:Nat)(_x1 _x2 x3 x4:Int)(x5:qFm)(x8:Int)(x9:qFm)(x12:Int):Option Int:=(qaI F x8 x9 1 x12).bind fun x14=>(jq F x4 x5 (imul .i64 x12 x3) x3).bind fun x15=>chk (decide (0≤x3)) (lett (ior .i64 (ishl .i64 (isub .i64 x14 x12) x3) (iconv .i64 x15.1)) fun x17=>some x17)
def qdk (_F:Nat)(x13:Bool):Option Bool:=some x13
def qeJ (F:Nat)(x1:Int)(x2:qFm)(x5:Int)(x6:qFm):Option Bool:=if ((x1:Int) == x5) then (q9 F x2 x6).bind fun x14=>qdk F x14 else qdk F false
def qdi (_F:Nat)(x99:qFm)(x0:Bool):Option (qFm×Int):=if x0 then some (([]:qFm),1) else some (x99,0)
def qbA (F:Nat)(x8:Int)(x9 x99:qFm)(x0:(Int×Int×Int×Int×qFm×Int×qFm×Bool))(x1:Bool):Option (qFm×Int):=if x1 then qdi F x99 true else (qeJ F x0.2.2.2.2.2.1 x0.2.2.2.2.2.2.1 x8 x9).bind fun x2=>qdi F x99 (!x2)
def vm (F:Nat)(x2 x4:Int)(x5:qFm)(x8:Int)(x9 x99:qFm):Option (qFm×Int):=(qdg F x99 x2).bind fun x0=>if ((x0:Int) != 0) then some (([]:qFm),1) else (qfF F x99 x2).bind fun x1=>if (!x1.2.2.2.2.2.2.2) then qbA F x8 x9 x99 x1 true else (qeJ F x1.2.2.2.1 x1.2.2.2.2.1 x4 x5).bind fun x3=>qbA F x8 x9 x99 x1 (!x3)
def qdh (F:Nat)(x1 x2 x3 x4:Int)(x5:qFm)(x8:Int)(x9:qFm)(r9:(qFm×Int)→Option (qFm×Int))(x0:qFm)(x6:Int):Option (qFm×Int):=if decide (x6<x1) then (qcl F x1 x2 x3 x4 x5 x8 x9 x6).bind fun x7=>(app 8796093022208 x0 ([x7]:qFm)).bind fun x10=>r9 (x10,iadd .i64 x6 1) else vm F x2 x4 x5 x8 x9 x0
def qdj (F:Nat)(x1 x2 x3 x4:Int)(x5:qFm)(x8:Int)(x9:qFm):=lp fun r s=>qdh F x1 x2 x3 x4 x5 x8 x9 r s.1 s.2
def zV (F:Nat)(x1 x2 x3 x4:Int)(x5:qFm)(x8:Int)(x9:qFm)(x49:Bool):Option (qFm×Int):=if x49 then some (([]:qFm),1) else qdj F x1 x2 x3 x4 x5 x8 x9 F (([]:qFm),0)
def qaa (F:Nat)(x1 x2 x3 x4:Int)(x5:qFm)(x8:Int)(x9:qFm):Option (qFm×Int):=if (((decide (x1<0) || decide (300<x1)) || decide (x2<0)) || decide (1048576<x2)) then some (([]:qFm),3) else (qdl F x1 x2).bind fun x0=>if ((x3:Int) != x0) then zV F x1 x2 x3 x4 x5 x8 x9 true else (qcg F x4 x5).bind fun x6=>if ((x6:Int) != 0) then zV F x1 x2 x3 x4 x5 x8 x9 true else (qcg F x8 x9).bind fun x7=>if ((x7:Int) != 0) then zV F x1 x2 x3 x4 x5 x8 x9 true else if ((x4:Int) != (imul .i64 x1 x3)) then zV F x1 x2 x3 x4 x5 x8 x9 true else (qaI F x8 x9 1 (isub .i64 x1 1)).bind fun x10=>if decide (x10<0) then zV F x1 x2 x3 x4 x5 x8 x9 (decide (0<x1)) else zV F x1 x2 x3 x4 x5 x8 x9 false
def qff (F:Nat)(x1 x2 x3 x4:Int)(x5:qFm)(x8:Int)(x9:qFm):Option Int:=(qaa F x1 x2 x3 x4 x5 x8 x9).bind fun x13=>some x13.2
def qen (F:Nat)(x1 x2 x3 x4:Int)(x5:qFm)(x8:Int)(x9:qFm)(x12 x20:Int):Option (Int×Int):=if ((x20:Int) != 0) then some (0,x20) else (qcl F x1 x2 x3 x4 x5 x8 x9 x12).bind fun x22=>some (x22,0)
def qeo (F:Nat)(x1 x2 x3 x4:Int)(x5:qFm)(x8:Int)(x9:qFm)(x12 x14:Int)(x26:Bool):Option (Int×Int):=if x26 then qen F x1 x2 x3 x4 x5 x8 x9 x12 3 else qen F x1 x2 x3 x4 x5 x8 x9 x12 x14
def qfE (F:Nat)(x1 x2 x3 x4:Int)(x5:qFm)(x8:Int)(x9:qFm)(x12:Int):Option (Int×Int):=(qff F x1 x2 x3 x4 x5 x8 x9).bind fun x14=>if ((x14:Int) == 0) then qeo F x1 x2 x3 x4 x5 x8 x9 x12 x14 (decide (x12<0) || decide (x1≤x12)) else qeo F x1 x2 x3 x4 x5 x8 x9 x12 x14 false
def yo (F:Nat)(x7:qFm)(x22:Int)(x24:(Int×Int×Bool))(x31:qFm)(x32 x33 x34 x35 x36 x37 x38 x39 x40 x41 x42:Int):Option (qFm×Int×Int×Int×Int×Int×Int×Int×Int×Int×Int×Int):=(qas F x36 x7 x24.2.1 x22 x31 x24.1 x34 x35).bind fun x47=>some (x47.1,x32,x33,x34,x35,x36,x37,x38,x39,x40,x41,x42)
def yC:Nat→Int→Int→Int→Int→Int→(qFm)→Int→Int→Int→Int→(qFm)→Int→(qFm)→Int→Int→Option (qFm×Int×Int×Int×Int×Int×Int×Int×Int×Int×Int×Int)
  | 0=>fun _ _ _ _ _ _ _ _ _ _ _ _ _ _ _=>none
  | F+1=>fun x2 x3 x4 x5 x6 x7 x10 x11 x12 x13 x14 x17 x18 x21 x22 =>
    let self:=yC F
    ((qfE F x10 x11 x12 x13 x14 x17 x18 x22).bind fun x23=>((qfK F x2 x3 x4 x5 x6 x7 x23.1 x22).bind fun x24=>(if (decide (0<x24.1)) then ((self x2 x3 x4 x5 x6 x7 x10 x11 x12 x13 x14 x17 x18 (iadd .i64 x21 1) (isub .i64 x22 x24.1)).bind fun x50=>yo F x7 x22 x24 x50.1 x50.2.1 x50.2.2.1 x50.2.2.2.1 x50.2.2.2.2.1 x50.2.2.2.2.2.1 x50.2.2.2.2.2.2.1 x50.2.2.2.2.2.2.2.1 x50.2.2.2.2.2.2.2.2.1 x50.2.2.2.2.2.2.2.2.2.1 x50.2.2.2.2.2.2.2.2.2.2.1 x50.2.2.2.2.2.2.2.2.2.2.2) else yo F x7 x22 x24 ([]:qFm) x2 x3 x4 x5 x6 x10 x11 x12 x13 x17 (iadd .i64 x21 1))))
def qa9 (F:Nat)(x1 x2 x3 x4 x5:Int)(x6:qFm)(x9 x10 x11 x12:Int)(x13:qFm)(x16:Int)(x17:qFm)(x20 x28:Int):Option (qFm×Int×Int):=if ((x28:Int) != 0) then some (([]:qFm),0,x28) else (yC F x1 x2 x3 x4 x5 x6 x9 x10 x11 x12 x13 x16 x17 0 x20).bind fun x31=>some (x31.1,x31.2.2.2.2.2.2.2.2.2.2.2,0)
def qba (F:Nat)(x1 x2 x3 x4 x5:Int)(x6:qFm)(x9 x10 x11 x12:Int)(x13:qFm)(x16:Int)(x17:qFm)(x20 x22:Int)(x37:Bool):Option (qFm×Int×Int):=if x37 then qa9 F x1 x2 x3 x4 x5 x6 x9 x10 x11 x12 x13 x16 x17 x20 3 else qa9 F x1 x2 x3 x4 x5 x6 x9 x10 x11 x12 x13 x16 x17 x20 x22
def qcq (F:Nat)(x1 x2 x3 x4 x5:Int)(x6:qFm)(x9 x10 x11 x12:Int)(x13:qFm)(x16:Int)(x17:qFm)(x20:Int):Option (qFm×Int×Int):=(qex F x1 x2 x3 x4 x5 x6 x9 x10 x11 x12 x13 x16 x17).bind fun x22=>if ((x22:Int) == 0) then qba F x1 x2 x3 x4 x5 x6 x9 x10 x11 x12 x13 x16 x17 x20 x22 (decide (x20<0) || decide (x1≤x20)) else qba F x1 x2 x3 x4 x5 x6 x9 x10 x11 x12 x13 x16 x17 x20 x22 false
def qb1 (_F:Nat)(x82:List (qFm)):Option (qFm):=(joinM x82 ([32]:qFm)).bind fun x83=>some x83
def qb0 (F:Nat)(x12:qFm)(r3:(List (qFm)×Int)→Option (qFm))(x0:List (qFm))(x1:Int):Option (qFm):=if decide (x1<(x12.length:Int)) then (idx x12 x1).bind fun x2=>(itoaC x2).bind fun x3=>(app 4398046511104 x0 ([x3]:List (qFm))).bind fun x4=>r3 (x4,iadd .i64 x1 1) else qb1 F x0
def qb2 (F:Nat)(x12:qFm):=lp fun r s=>qb0 F x12 r s.1 s.2
def jB (F:Nat)(_x2:List (qFm))(_x5 _x6 _x7:Int)(_x8 _x11 x12:qFm):Option (qFm):=qb2 F x12 F (([]:List (qFm)),0)
def qbZ (F:Nat)(x2:List (qFm))(x5 x6 x7:Int)(x8 x11:qFm)(x29 x30 x31 x32 x33 x34:Int)(x37:qFm)(x38 x39 x40 x41:Int)(x44:qFm)(x45:Int)(x48:qFm):Option (Int×qFm):=if ((x29:Int) != 0) then some (x29,x11) else (idx x8 0).bind fun x57=>(qcq F x30 x31 x32 x33 x34 x37 x38 x39 x40 x41 x44 x45 x48 x57).bind fun x61=>(jB F x2 x5 x6 x7 x8 x11 x61.1).bind fun x64=>some (x61.2.2,x64)
def qbz (F:Nat)(x2:List (qFm))(x5 x6 x7:Int)(x8 x11:qFm):Option (Int×qFm):=(qew F x2 x5 x6 x7).bind fun x66=>qbZ F x2 x5 x6 x7 x8 x11 x66.2.2.2.2.2.2.2.2.2.2.2.2.2 x66.1 x66.2.1 x66.2.2.1 x66.2.2.2.1 x66.2.2.2.2.1 x66.2.2.2.2.2.1 x66.2.2.2.2.2.2.1 x66.2.2.2.2.2.2.2.1 x66.2.2.2.2.2.2.2.2.1 x66.2.2.2.2.2.2.2.2.2.1 x66.2.2.2.2.2.2.2.2.2.2.1 x66.2.2.2.2.2.2.2.2.2.2.2.1 x66.2.2.2.2.2.2.2.2.2.2.2.2.1
def qfQ (_F:Nat)(x1:Int)(x3:List (qFm)):Option Bool:=some (decide (x1<0) || decide ((x3.length:Int)≤x1))
def yv (_F:Nat):Option Int:=some (-1)
def kd (F:Nat)(x1:qFm)(x5:List (qFm))(r3:Int→Option Int)(x58:Int):Option Int:=if decide (x58<(x1.length:Int)) then (idx x1 x58).bind fun x78=>(qfQ F x78 x5).bind fun x81=>if x81 then some x58 else r3 (iadd .i64 x58 1) else yv F
def ke (F:Nat)(x1:qFm)(x5:List (qFm)):=lp fun r s=>kd F x1 x5 r s
def kG (F:Nat)(x1:qFm)(x5:List (qFm)):Option Int:=ke F x1 x5 F 0
def zZ (F:Nat)(x1:qFm)(x5:List (qFm)):Option Bool:=(kG F x1 x5).bind fun x8=>some (decide (0≤x8))
def qdG (F:Nat)(x1:List (qFm))(x4:qFm):Option Int:=(kQ F x1).bind fun x10=>if ((x10:Int) != 0) then some x10 else (zZ F x4 x1).bind fun x13=>if x13 then some 3 else some 0
def qhN (_F:Nat)(x0:qFm):Option (qFm):=some x0
def qdH (_F:Nat)(r48:(qFm×qFm)→Option (qFm))(x0 x1:qFm):Option (qFm):=(sub x1 1 (x1.length:Int)).bind fun x2=>r48 (x0,x2)
def qb8 (_F:Nat)(r56:(qFm×qFm×Int)→Option (qFm))(x0:Int)(x1 x2:qFm):Option (qFm):=r56 (x1,x2,iadd .i64 x0 1)
def qb7 (F:Nat)(r48:(qFm×qFm)→Option (qFm))(x0:Int)(x1:qFm)(r56:(qFm×qFm×Int)→Option (qFm))(x2 x3:qFm)(x4:Int):Option (qFm):=if decide (x4<(x1.length:Int)) then (idx x1 x4).bind fun x5=>(idx x2 x5).bind fun x6=>if decide (x6<0) then (idx x2 x0).bind fun x7=>(idx x2 x5).bind fun _x2035=>lett (x2.set x5.toNat (iadd .i64 x7 1)) fun x8=>(app 8796093022208 x3 ([x5]:qFm)).bind fun x9=>qb8 F r56 x4 x8 x9 else qb8 F r56 x4 x2 x3 else qdH F r48 x2 x3
def vY (F:Nat)(r48:(qFm×qFm)→Option (qFm))(x0:Int)(x1:qFm):=lp fun r s=>qb7 F r48 x0 x1 r s.1 s.2.1 s.2.2
def qfR (F:Nat)(x1:List (qFm))(r48:(qFm×qFm)→Option (qFm))(x0 x2:qFm):Option (qFm):=if decide (0<(x2.length:Int)) then (idx x2 0).bind fun x3=>(idx x1 x3).bind fun x4=>vY F r48 x3 x4 F (x0,x2,0) else qhN F x0
def vX (F:Nat)(x1:List (qFm)):=lp fun r s=>qfR F x1 r s.1 s.2
def qcU (F:Nat)(x1:List (qFm))(x4:Int):Option (qFm):=(yd F ([-1]:qFm) (x1.length:Int)).bind fun x8=>(idx x8 x4).bind fun _x11=>lett (x8.set x4.toNat 0) fun x14=>vX F x1 F (x14,([x4]:qFm))
def qha (F:Nat)(x1:List (qFm))(x4:Int):Option (qFm×Int):=(qdG F x1 ([x4]:qFm)).bind fun x12=>if ((x12:Int) != 0) then some (([]:qFm),x12) else (qcU F x1 x4).bind fun x13=>some (x13,0)
def j1 (_F:Nat)(x26:(qFm×Int))(x43:qFm):Option (Int×qFm):=some (x26.2,x43)
def qci (F:Nat)(x2:List (qFm))(x5 x6 x7:Int)(x8 x11:qFm):Option (Int×qFm):=(zX F x2 x5 x6 x7 x8 x11 x8).bind fun x14=>if (!x14) then some (3,x11) else (idx x8 0).bind fun x22=>(qha F x2 x22).bind fun x26=>(idx x8 1).bind fun x44=>(idx x26.1 x44).bind fun x47=>(itoaC x47).bind fun x50=>(idx x8 1).bind fun x51=>(idx x26.1 x51).bind fun x54=>if decide (x54<0) then j1 F x26 ([110,111,110,101]:qFm) else j1 F x26 x50
def qf6 (_F:Nat)(x47:List (Int×Int))(x56 x57:Int):Option (List (Int×Int) ⊕ Empty):=(app 4398046511104 x47 ([(x57,x56)]:List (Int×Int))).bind fun x61=>some (.inl x61)
def qds (F:Nat)(x1:List (qFm)):Option (List (Int×Int)):=(jE F x1).bind fun _x35=>(jQ F (fun (x47:List (Int×Int)) ((x56,x57):(Int×Int))=>qf6 F x47 x56 x57) x1 ([]:List (Int×Int))).bind (Sum.elim (fun (x47:List (Int×Int))=>some x47) (fun t=>t.elim))
def qfh (F:Nat)(x1:List (qFm)):Option (List (qFm)×Int):=(kQ F x1).bind fun x8=>if ((x8:Int) != 0) then some (([]:List (qFm)),x8) else (qds F x1).bind fun x20=>(zm F x20).bind fun _x23=>(ql F x20).bind fun x25=>(qcy F (x1.length:Int) x25).bind fun x28=>some (x28,0)
def qhc (_F:Nat)(x1:Int)(x3:qFm)(x7:Int):Option Bool:=(idx x3 x1).bind fun x16=>(idx x3 x7).bind fun x20=>some ((x16:Int) == (isub .i64 x20 1))
def yL (_F:Nat):Option Int:=some (-1)
def kw (F:Nat)(x1 x5:qFm)(x9:Int)(r3:Int→Option Int)(x60:Int):Option Int:=if decide (x60<(x1.length:Int)) then (idx x1 x60).bind fun x80=>(qhc F x80 x5 x9).bind fun x83=>if x83 then some x60 else r3 (iadd .i64 x60 1) else yL F
def kx (F:Nat)(x1 x5:qFm)(x9:Int):=lp fun r s=>kw F x1 x5 x9 r s
def kU (F:Nat)(x1 x5:qFm)(x9:Int):Option Int:=kx F x1 x5 x9 F 0
def qgC (_F:Nat)(x0:qFm):Option (qFm×Int):=some (x0,0)
def qcE (F:Nat)(x1:List (qFm))(x5:Int)(x18:qFm)(r3:(qFm×Int)→Option (qFm×Int))(x0:qFm)(x2:Int):Option (qFm×Int):=if ((x2:Int) != x5) then (idx x1 x2).bind fun x3=>(kU F x3 x18 x2).bind fun x4=>(idx x1 x2).bind fun x6=>(idx x6 x4).bind fun x7=>(app 8796093022208 x0 ([x7]:qFm)).bind fun x8=>r3 (x8,x7) else qgC F x0
def qey (F:Nat)(x1:List (qFm))(x5:Int)(x18:qFm):=lp fun r s=>qcE F x1 x5 x18 r s.1 s.2
def qhb (F:Nat)(x1:List (qFm))(x4 x5:Int):Option (qFm×Int):=(qdG F x1 ([x4,x5]:qFm)).bind fun x13=>if ((x13:Int) != 0) then some (([]:qFm),x13) else (qfh F x1).bind fun x14=>(qcU F x14.1 x5).bind fun x18=>(idx x18 x4).bind fun x26=>if decide (x26<0) then some (([]:qFm),5) else qey F x1 x5 x18 F (([x4]:qFm),x4)
def v8 (_F:Nat)(x19:Int)(x20:qFm):Option (Int×qFm):=some (x19,x20)
def vN (F:Nat)(x2:List (qFm))(x5 x6 x7:Int)(x8 x11 x12:qFm)(x15 x16:Int):Option (Int×qFm):=(jB F x2 x5 x6 x7 x8 x11 x12).bind fun x21=>if ((x15:Int) == x16) then v8 F 0 ([110,111,110,101]:qFm) else v8 F x15 x21
def qck (F:Nat)(x2:List (qFm))(x5 x6 x7:Int)(x8 x11:qFm):Option (Int×qFm):=(idx x8 0).bind fun x23=>(idx x8 1).bind fun x27=>(qhb F x2 x23 x27).bind fun x31=>(vN F x2 x5 x6 x7 x8 x11 x31.1 x31.2 5).bind fun x34=>some (x34.1,x34.2)
def kL (F:Nat)(x3:List (qFm))(x6 x7 x8:Int)(x9 x12:qFm):Option (Int×qFm):=(idx x9 0).bind fun x36=>(zX F x3 x6 x7 x8 x9 x12 ([x36]:qFm)).bind fun x42=>if (!x42) then some (3,x12) else (qdC F x3).bind fun x46=>(idx x9 0).bind fun x58=>(idx x46.1 x58).bind fun x62=>(itoaC x62).bind fun x66=>some (x46.2,x66)
def vP (_F:Nat)(x0 x1:qFm)(x2 x3:Int):Option ((qFm×qFm) ⊕ Empty):=(idx x1 x2).bind fun x4=>(idx x1 x2).bind fun _x150=>lett (x1.set x2.toNat (iadd .i64 x4 1)) fun x5=>(idx x0 x3).bind fun x6=>(idx x0 x3).bind fun _x159=>lett (x0.set x3.toNat (iadd .i64 x6 1)) fun x7=>some (.inl (x7,x5))
def qcP (F:Nat)(x1:List (qFm))(x27 x30:qFm):Option (qFm×qFm×Int):=(jE F x1).bind fun _x98=>(jQ F (fun ((x0,x2):(qFm×qFm)) ((x3,x4):(Int×Int))=>vP F x0 x2 x3 x4) x1 (x27,x30)).bind (Sum.elim (fun ((x0,x2):(qFm×qFm))=>some (x2,x0,0)) (fun t=>t.elim))
def qcG (F:Nat)(x1:List (qFm)):Option (qFm×qFm×Int):=(kQ F x1).bind fun x9=>if ((x9:Int) != 0) then some (([]:qFm),([]:qFm),x9) else (mk 17592186044416 (0:Int) (x1.length:Int)).bind fun x0=>(mk 17592186044416 (0:Int) (x1.length:Int)).bind fun x2=>qcP F x1 x2 x0
def qfP (_F:Nat)(x0:qFm):Option (qFm×Int):=some (x0,0)
def qaK (_F:Nat)(r18:(qFm×qFm)→Option (qFm×Int))(x0:qFm)(x1:Int)(x2:qFm):Option (qFm×Int):=(app 8796093022208 x0 ([x1]:qFm)).bind fun x3=>r18 (x2,x3)
def qcT (F:Nat)(r18:(qFm×qFm)→Option (qFm×Int))(x0:qFm)(x1:Int)(x2:qFm)(r21:(qFm×Int)→Option (qFm×Int))(x3:qFm)(x4:Int):Option (qFm×Int):=if decide (x4<(x2.length:Int)) then (idx x2 x4).bind fun x5=>(idx x3 x5).bind fun x6=>(idx x3 x5).bind fun _x1139=>lett (x3.set x5.toNat (isub .i64 x6 1)) fun x7=>r21 (x7,iadd .i64 x4 1) else qaK F r18 x0 x1 x3
def qaL (F:Nat)(r18:(qFm×qFm)→Option (qFm×Int))(x0:qFm)(x1:Int)(x2:qFm):=lp fun r s=>qcT F r18 x0 x1 x2 r s.1 s.2
def qcS (F:Nat)(x1:List (qFm))(r18:(qFm×qFm)→Option (qFm×Int))(x0 x2:qFm):Option (qFm×Int):=if decide ((x2.length:Int)<(x0.length:Int)) then (zB F x0 0).bind fun x3=>if decide (x3<0) then some (([]:qFm),4) else (idx x0 x3).bind fun _x964=>lett (x0.set x3.toNat (-1)) fun x4=>(idx x1 x3).bind fun x5=>qaL F r18 x2 x3 x5 F (x4,0) else qfP F x2
def vS (F:Nat)(x1:List (qFm)):=lp fun r s=>qcS F x1 r s.1 s.2
def qdB (F:Nat)(x1:List (qFm)):Option (qFm×Int):=(qcG F x1).bind fun x5=>if ((x5.2.2:Int) != 0) then some (([]:qFm),x5.2.2) else vS F x1 F (x5.2.1,([]:qFm))
def qaA (F:Nat)(x2:List (qFm))(x5 x6 x7:Int)(x8 x11:qFm):Option (Int×qFm):=(qdB F x2).bind fun x12=>(vN F x2 x5 x6 x7 x8 x11 x12.1 x12.2 4).bind fun x15=>some (x15.1,x15.2)
def kK (F:Nat)(x3:List (qFm))(x6 x7 x8:Int)(x9 x12:qFm):Option (Int×qFm):=(idx x9 0).bind fun x36=>(zX F x3 x6 x7 x8 x9 x12 ([x36]:qFm)).bind fun x42=>if (!x42) then some (3,x12) else (qda F x3).bind fun x46=>(idx x9 0).bind fun x58=>(idx x46.1 x58).bind fun x62=>(itoaC x62).bind fun x66=>some (x46.2,x66)
def qgl (_F:Nat)(_x1:List (qFm)):Option Unit:=some ()
def jx {σ τ:Type}(_F:Nat)(_yy:σ→qFm→Option (σ ⊕ τ))(r115:(Int×σ)→Option (σ ⊕ τ))(x0:Int)(x1:σ):Option (σ ⊕ τ):=r115 (iadd .i64 x0 1,x1)
def jy {σ τ:Type}(_F:Nat)(_yy:σ→qFm→Option (σ ⊕ τ))(r163:(Int×σ)→Option (σ ⊕ τ))(x0:Int)(x1:σ):Option (σ ⊕ τ):=r163 (iadd .i64 x0 1,x1)
def jz {σ τ:Type}(_F:Nat)(_yy:σ→qFm→Option (σ ⊕ τ))(r171:(Int×σ)→Option (σ ⊕ τ))(x0:Int)(x1:σ):Option (σ ⊕ τ):=r171 (iadd .i64 x0 1,x1)
def jw {σ τ:Type}(F:Nat)(yy:σ→qFm→Option (σ ⊕ τ))(r163:(Int×σ)→Option (σ ⊕ τ))(x2:List (qFm))(x0 x1 x3:Int)(x4:qFm)(r171:(Int×σ)→Option (σ ⊕ τ))(x5:Int)(x6:σ):Option (σ ⊕ τ):=if decide (x5<(x4.length:Int)) then (idx x4 x5).bind fun x7=>(idx x2 x3).bind fun x8=>(zx F x8 x7).bind fun x9=>if (x9.2 && decide (x0<x3)) then (yy x6 ([x0,x3,x7]:qFm)).bind (Sum.elim (fun x10=>jz F yy r171 x5 x10) (fun x11=>some (.inr x11))) else jz F yy r171 x5 x6 else jy F yy r163 x1 x6
def yc {σ τ:Type}(F:Nat)(yy:σ→qFm→Option (σ ⊕ τ))(r163:(Int×σ)→Option (σ ⊕ τ))(x2:List (qFm))(x0 x1 x3:Int)(x4:qFm):=lp fun r s=>jw F yy r163 x2 x0 x1 x3 x4 r s.1 s.2
def jv {σ τ:Type}(F:Nat)(yy:σ→qFm→Option (σ ⊕ τ))(r115:(Int×σ)→Option (σ ⊕ τ))(x2:List (qFm))(x0:Int)(x1:qFm)(r163:(Int×σ)→Option (σ ⊕ τ))(x3:Int)(x4:σ):Option (σ ⊕ τ):=if decide (x3<(x1.length:Int)) then (idx x1 x3).bind fun x5=>(sub x1 (iadd .i64 x3 1) (x1.length:Int)).bind fun x6=>yc F yy r163 x2 x0 x3 x5 x6 F (0,x4) else jx F yy r115 x0 x4
def za {σ τ:Type}(F:Nat)(yy:σ→qFm→Option (σ ⊕ τ))(r115:(Int×σ)→Option (σ ⊕ τ))(x2:List (qFm))(x0:Int)(x1:qFm):=lp fun r s=>jv F yy r115 x2 x0 x1 r s.1 s.2
def ju {σ τ:Type}(F:Nat)(yy:σ→qFm→Option (σ ⊕ τ))(x2:List (qFm))(r115:(Int×σ)→Option (σ ⊕ τ))(x0:Int)(x1:σ):Option (σ ⊕ τ):=if decide (x0<(x2.length:Int)) then (idx x2 x0).bind fun x3=>za F yy r115 x2 x0 x3 F (0,x1) else some (.inl x1)
def qL {σ τ:Type}(F:Nat)(yy:σ→qFm→Option (σ ⊕ τ))(x2:List (qFm)):=lp fun r s=>ju F yy x2 r s.1 s.2
def qeW {σ τ:Type}(F:Nat)(yy:σ→qFm→Option (σ ⊕ τ))(x2:List (qFm))(s0:σ):Option (σ ⊕ τ):=qL F yy x2 F (0,s0)
def j5 (_F:Nat)(x0:Int)(x1:qFm)(r8:(Int×qFm)→Option ((Int×qFm) ⊕ Empty))(x2:Int)(x3:qFm):Option ((Int×qFm) ⊕ Empty):=if decide (x2<3) then chk (decide (x1.length=3)) ((idx x1 x2).bind fun x4=>(idx x3 x4).bind fun x5=>(idx x3 x4).bind fun _x494=>lett (x3.set x4.toNat (iadd .i64 x5 1)) fun x6=>r8 (iadd .i64 x2 1,x6)) else some (.inl (iadd .i64 x0 1,x3))
def j6 (F:Nat)(x0:Int)(x1:qFm):=lp fun r s=>j5 F x0 x1 r s.1 s.2
def yb (F:Nat)(x0:Int)(x1 x2:qFm):Option ((Int×qFm) ⊕ Empty):=chk (decide (x2.length=3)) (chk (decide (x2.length=3)) (j6 F x0 x2 F (0,x1)))
def qem (F:Nat)(x1:List (qFm)):Option (qFm×Int×Int):=(kQ F x1).bind fun x9=>if ((x9:Int) != 0) then some (([]:qFm),0,x9) else (mk 17592186044416 (0:Int) (x1.length:Int)).bind fun x10=>(qeI F x1).bind fun x0=>(qgl F x0).bind fun _x260=>(qeW F (fun ((x2,x3):(Int×qFm)) (x4:qFm)=>yb F x2 x3 x4) x0 (0,x10)).bind (Sum.elim (fun ((x2,x3):(Int×qFm))=>some (x3,x2,0)) (fun t=>t.elim))
def j2 (F:Nat)(x2:List (qFm))(_x5 _x6 _x7:Int)(_x8 _x11:qFm):Option (Int×qFm):=(qem F x2).bind fun x12=>(itoaC x12.2.1).bind fun x15=>some (x12.2.2,x15)
def qr (_F:Nat)(x0:Int)(x1:List (qFm))(x2 x3 x4:Int)(_x232 x5:qFm):Option (List (qFm)×Int×Int×Int×qFm×Int):=if ((x0:Int) != 0) then some (([]:List (qFm)),0,0,0,([]:qFm),x0) else some (x1,x2,x3,x4,x5,0)
def qaT (F:Nat)(x10:(List (qFm)×Int×Int×Int))(x14:List (qFm)):Option (List (qFm)×Int×Int×Int×qFm×Int):=(sub x14 1 (x14.length:Int)).bind fun x0=>(qR F x10.1 x10.2.1 x10.2.2.1 x10.2.2.2 ([]:qFm) ([111,107]:qFm) 1 x0).bind fun x1=>if x1.1 then (qaz F x10.1 x10.2.1 x10.2.2.1 x10.2.2.2 x1.2 ([111,107]:qFm)).bind fun x2=>qr F x2.1 x2.2 x10.2.1 x10.2.2.1 x10.2.2.2 x1.2 ([111,107]:qFm) else qr F 1 x10.1 x10.2.1 x10.2.2.1 x10.2.2.2 x1.2 ([111,107]:qFm)
def qaU (F:Nat)(x10:(List (qFm)×Int×Int×Int))(x14:List (qFm)):Option (List (qFm)×Int×Int×Int×qFm×Int):=(sub x14 1 (x14.length:Int)).bind fun x0=>(qR F x10.1 x10.2.1 x10.2.2.1 x10.2.2.2 ([]:qFm) ([111,107]:qFm) 2 x0).bind fun x1=>if x1.1 then (qch F x10.1 x10.2.1 x10.2.2.1 x10.2.2.2 x1.2 ([111,107]:qFm)).bind fun x2=>qr F x2.1 x2.2 x10.2.1 x10.2.2.1 x10.2.2.2 x1.2 ([111,107]:qFm) else qr F 1 x10.1 x10.2.1 x10.2.2.1 x10.2.2.2 x1.2 ([111,107]:qFm)
def qaV (F:Nat)(x10:(List (qFm)×Int×Int×Int))(x14:List (qFm)):Option (List (qFm)×Int×Int×Int×qFm×Int):=(sub x14 1 (x14.length:Int)).bind fun x0=>(qR F x10.1 x10.2.1 x10.2.2.1 x10.2.2.2 ([]:qFm) ([111,107]:qFm) 2 x0).bind fun x1=>if x1.1 then (vl F x10.1 x10.2.1 x10.2.2.1 x10.2.2.2 x1.2 ([111,107]:qFm)).bind fun x2=>qr F x2.1 x2.2 x10.2.1 x10.2.2.1 x10.2.2.2 x1.2 ([111,107]:qFm) else qr F 1 x10.1 x10.2.1 x10.2.2.1 x10.2.2.2 x1.2 ([111,107]:qFm)
def qaW (F:Nat)(x10:(List (qFm)×Int×Int×Int))(x14:List (qFm)):Option (List (qFm)×Int×Int×Int×qFm×Int):=(sub x14 1 (x14.length:Int)).bind fun x0=>(qR F x10.1 x10.2.1 x10.2.2.1 x10.2.2.2 ([]:qFm) ([111,107]:qFm) 3 x0).bind fun x1=>if x1.1 then (qcj F x10.1 x10.2.1 x10.2.2.1 x10.2.2.2 x1.2 ([111,107]:qFm)).bind fun x2=>qr F x2.1 x10.1 x2.2.1 x2.2.2.1 x2.2.2.2 x1.2 ([111,107]:qFm) else qr F 1 x10.1 x10.2.1 x10.2.2.1 x10.2.2.2 x1.2 ([111,107]:qFm)
def qaX (F:Nat)(x10:(List (qFm)×Int×Int×Int))(x14:List (qFm)):Option (List (qFm)×Int×Int×Int×qFm×Int):=(sub x14 1 (x14.length:Int)).bind fun x0=>(qR F x10.1 x10.2.1 x10.2.2.1 x10.2.2.2 ([]:qFm) ([111,107]:qFm) 0 x0).bind fun x1=>if x1.1 then (qby F x10.1 x10.2.1 x10.2.2.1 x10.2.2.2 x1.2 ([111,107]:qFm)).bind fun x2=>qr F x2.1 x10.1 x10.2.1 x10.2.2.1 x10.2.2.2 x1.2 x2.2 else qr F 1 x10.1 x10.2.1 x10.2.2.1 x10.2.2.2 x1.2 ([111,107]:qFm)
def qaY (F:Nat)(x10:(List (qFm)×Int×Int×Int))(x14:List (qFm)):Option (List (qFm)×Int×Int×Int×qFm×Int):=(sub x14 1 (x14.length:Int)).bind fun x0=>(qR F x10.1 x10.2.1 x10.2.2.1 x10.2.2.2 ([]:qFm) ([111,107]:qFm) 1 x0).bind fun x1=>if x1.1 then (qbz F x10.1 x10.2.1 x10.2.2.1 x10.2.2.2 x1.2 ([111,107]:qFm)).bind fun x2=>qr F x2.1 x10.1 x10.2.1 x10.2.2.1 x10.2.2.2 x1.2 x2.2 else qr F 1 x10.1 x10.2.1 x10.2.2.1 x10.2.2.2 x1.2 ([111,107]:qFm)
def qaZ (F:Nat)(x10:(List (qFm)×Int×Int×Int))(x14:List (qFm)):Option (List (qFm)×Int×Int×Int×qFm×Int):=(sub x14 1 (x14.length:Int)).bind fun x0=>(qR F x10.1 x10.2.1 x10.2.2.1 x10.2.2.2 ([]:qFm) ([111,107]:qFm) 2 x0).bind fun x1=>if x1.1 then (qci F x10.1 x10.2.1 x10.2.2.1 x10.2.2.2 x1.2 ([111,107]:qFm)).bind fun x2=>qr F x2.1 x10.1 x10.2.1 x10.2.2.1 x10.2.2.2 x1.2 x2.2 else qr F 1 x10.1 x10.2.1 x10.2.2.1 x10.2.2.2 x1.2 ([111,107]:qFm)
def qa0 (F:Nat)(x10:(List (qFm)×Int×Int×Int))(x14:List (qFm)):Option (List (qFm)×Int×Int×Int×qFm×Int):=(sub x14 1 (x14.length:Int)).bind fun x0=>(qR F x10.1 x10.2.1 x10.2.2.1 x10.2.2.2 ([]:qFm) ([111,107]:qFm) 2 x0).bind fun x1=>if x1.1 then (qck F x10.1 x10.2.1 x10.2.2.1 x10.2.2.2 x1.2 ([111,107]:qFm)).bind fun x2=>qr F x2.1 x10.1 x10.2.1 x10.2.2.1 x10.2.2.2 x1.2 x2.2 else qr F 1 x10.1 x10.2.1 x10.2.2.1 x10.2.2.2 x1.2 ([111,107]:qFm)
def qa1 (F:Nat)(x10:(List (qFm)×Int×Int×Int))(x14:List (qFm)):Option (List (qFm)×Int×Int×Int×qFm×Int):=(sub x14 1 (x14.length:Int)).bind fun x0=>(qR F x10.1 x10.2.1 x10.2.2.1 x10.2.2.2 ([]:qFm) ([111,107]:qFm) 1 x0).bind fun x1=>if x1.1 then (kL F x10.1 x10.2.1 x10.2.2.1 x10.2.2.2 x1.2 ([111,107]:qFm)).bind fun x2=>qr F x2.1 x10.1 x10.2.1 x10.2.2.1 x10.2.2.2 x1.2 x2.2 else qr F 1 x10.1 x10.2.1 x10.2.2.1 x10.2.2.2 x1.2 ([111,107]:qFm)
def qa2 (F:Nat)(x10:(List (qFm)×Int×Int×Int))(x14:List (qFm)):Option (List (qFm)×Int×Int×Int×qFm×Int):=(sub x14 1 (x14.length:Int)).bind fun x0=>(qR F x10.1 x10.2.1 x10.2.2.1 x10.2.2.2 ([]:qFm) ([111,107]:qFm) 0 x0).bind fun x1=>if x1.1 then (qaA F x10.1 x10.2.1 x10.2.2.1 x10.2.2.2 x1.2 ([111,107]:qFm)).bind fun x2=>qr F x2.1 x10.1 x10.2.1 x10.2.2.1 x10.2.2.2 x1.2 x2.2 else qr F 1 x10.1 x10.2.1 x10.2.2.1 x10.2.2.2 x1.2 ([111,107]:qFm)
def qa3 (F:Nat)(x10:(List (qFm)×Int×Int×Int))(x14:List (qFm)):Option (List (qFm)×Int×Int×Int×qFm×Int):=(sub x14 1 (x14.length:Int)).bind fun x0=>(qR F x10.1 x10.2.1 x10.2.2.1 x10.2.2.2 ([]:qFm) ([111,107]:qFm) 1 x0).bind fun x1=>if x1.1 then (kK F x10.1 x10.2.1 x10.2.2.1 x10.2.2.2 x1.2 ([111,107]:qFm)).bind fun x2=>qr F x2.1 x10.1 x10.2.1 x10.2.2.1 x10.2.2.2 x1.2 x2.2 else qr F 1 x10.1 x10.2.1 x10.2.2.1 x10.2.2.2 x1.2 ([111,107]:qFm)
def qa4 (F:Nat)(x10:(List (qFm)×Int×Int×Int))(x14:List (qFm)):Option (List (qFm)×Int×Int×Int×qFm×Int):=(sub x14 1 (x14.length:Int)).bind fun x0=>(qR F x10.1 x10.2.1 x10.2.2.1 x10.2.2.2 ([]:qFm) ([111,107]:qFm) 0 x0).bind fun x1=>if x1.1 then (j2 F x10.1 x10.2.1 x10.2.2.1 x10.2.2.2 x1.2 ([111,107]:qFm)).bind fun x2=>qr F x2.1 x10.1 x10.2.1 x10.2.2.1 x10.2.2.2 x1.2 x2.2 else qr F 1 x10.1 x10.2.1 x10.2.2.1 x10.2.2.2 x1.2 ([111,107]:qFm)
def qeX (F:Nat)(x10:(List (qFm)×Int×Int×Int)):Option (List (qFm)×Int×Int×Int×qFm×Int):=qr F 1 x10.1 x10.2.1 x10.2.2.1 x10.2.2.2 ([]:qFm) ([111,107]:qFm)
def qc0 (F:Nat)(x1:List (qFm))(x4 x5 x6:Int)(x7:qFm):Option (List (qFm)×Int×Int×Int×qFm×Int):=(qfD F x1 x4 x5 x6).bind fun x10=>(splitM x7 ([32]:qFm)).bind fun x14=>(idx x14 0).bind fun x0=>(qcO F x10.1 x10.2.1 x10.2.2.1 x10.2.2.2 ([]:qFm) ([111,107]:qFm)).bind fun _x414=>if (bstr x0 == bstr ([110,111,100,101,115]:qFm)) then qaT F x10 x14 else if (bstr x0 == bstr ([97,114,99]:qFm)) then qaU F x10 x14 else if (bstr x0 == bstr ([100,114,111,112]:qFm)) then qaV F x10 x14 else if (bstr x0 == bstr ([104,111,119]:qFm)) then qaW F x10 x14 else if (bstr x0 == bstr ([98,105,116,115]:qFm)) then qaX F x10 x14 else if (bstr x0 == bstr ([108,105,115,116]:qFm)) then qaY F x10 x14 else if (bstr x0 == bstr ([102,97,114]:qFm)) then qaZ F x10 x14 else if (bstr x0 == bstr ([119,97,121]:qFm)) then qa0 F x10 x14 else if (bstr x0 == bstr ([112,97,114,116]:qFm)) then qa1 F x10 x14 else if (bstr x0 == bstr ([111,114,100,101,114]:qFm)) then qa2 F x10 x14 else if (bstr x0 == bstr ([99,111,114,101]:qFm)) then qa3 F x10 x14 else if (bstr x0 == bstr ([116,104,114,101,101,115]:qFm)) then qa4 F x10 x14 else qeX F x10
def qfC (_F:Nat)(x0:qFm)(x1:List (qFm))(x2 x3 x4:Int):Option (List (qFm)×Int×Int×Int×qFm×Int):=(bstrM x0).bind fun x5=>some (x1,x2,x3,x4,x5,0)
def qbW (_F:Nat)(r19:(Int×qFm×List (qFm)×Int×Int×Int)→Option (List (qFm)×Int×Int×Int×qFm×Int))(x0:Int)(x1:qFm)(x2:List (qFm))(x3 x4 x5:Int):Option (List (qFm)×Int×Int×Int×qFm×Int):=r19 (iadd .i64 x0 1,x1,x2,x3,x4,x5)
def qbX (F:Nat)(r19:(Int×qFm×List (qFm)×Int×Int×Int)→Option (List (qFm)×Int×Int×Int×qFm×Int))(x0:Int)(x1 x2:qFm)(x3:List (qFm))(x4 x5 x6:Int):Option (List (qFm)×Int×Int×Int×qFm×Int):=(app 9223372036854775807 x2 ([10]:qFm)).bind fun x7=>(app 140737488355328 x1 (x7.map b8)).bind fun x8=>qbW F r19 x0 x8 x3 x4 x5 x6
def qfB (F:Nat)(x11:List (qFm))(r19:(Int×qFm×List (qFm)×Int×Int×Int)→Option (List (qFm)×Int×Int×Int×qFm×Int))(x0:Int)(x1:qFm)(x2:List (qFm))(x3 x4 x5:Int):Option (List (qFm)×Int×Int×Int×qFm×Int):=if decide (x0<(x11.length:Int)) then (idx x11 x0).bind fun x6=>if (bstr x6 == bstr ([]:qFm)) then qbW F r19 x0 x1 x2 x3 x4 x5 else (qc0 F x2 x3 x4 x5 x6).bind fun x7=>if ((x7.2.2.2.2.2:Int) != 0) then (itoaC x7.2.2.2.2.2).bind fun x8=>(app 9223372036854775807 ([101,114,114,111,114,32]:qFm) x8).bind fun x9=>qbX F r19 x0 x1 x9 x2 x3 x4 x5 else qbX F r19 x0 x1 x7.2.2.2.2.1 x7.1 x7.2.1 x7.2.2.1 x7.2.2.2.1 else qfC F x1 x2 x3 x4 x5
def j8 (F:Nat)(x11:List (qFm)):=lp fun r s=>qfB F x11 r s.1 s.2.1 s.2.2.1 s.2.2.2.1 s.2.2.2.2.1 s.2.2.2.2.2
def qcx (F:Nat)(x1:List (qFm))(x4 x5 x6:Int)(x11:List (qFm))(x16:Int):Option (List (qFm)×Int×Int×Int×qFm×Int):=if ((x16:Int) != 0) then some (([]:List (qFm)),0,0,0,([]:qFm),x16) else (qfD F x1 x4 x5 x6).bind fun x18=>j8 F x11 F (0,([]:qFm),x18.1,x18.2.1,x18.2.2.1,x18.2.2.2)
def qay (F:Nat)(x1:List (qFm))(x4 x5 x6:Int)(x7:qFm):Option (List (qFm)×Int×Int×Int×qFm×Int):=(jA F x1 x4 x5 x6).bind fun x10=>(splitM x7 ([10]:qFm)).bind fun x11=>if (((x10:Int) == 0) && decide (100<(x11.length:Int))) then qcx F x1 x4 x5 x6 x11 2 else qcx F x1 x4 x5 x6 x11 x10
def qdZ (_F:Nat)(x9:Bool):Option Bool:=some x9
def qej (F:Nat) :Option Bool:=(qay F ([]:List (qFm)) 2 3 1 ([110,111,100,101,115,32,52,10,97,114,99,32,48,32,49,10,97,114,99,32,49,32,50,10,97,114,99,32,50,32,48,10,97,114,99,32,48,32,49,10,10,108,105,115,116,32,48,10,102,97,114,32,48,32,50,10,102,97,114,32,48,32,51,10,119,97,121,32,49,32,48,10,112,97,114,116,32,50,10,111,114,100,101,114,10,99,111,114,101,32,49,10,116,104,114,101,101,115,10,100,114,111,112,32,50,32,48,10,111,114,100,101,114,10,100,114,111,112,32,50,32,48,10,104,111,119,32,56,32,48,32,49,10,119,104,97,116,10,102,97,114,32,48,32,52,10,98,105,116,115]:qFm)).bind fun x1=>if ((((x1.2.2.2.2.2:Int) == 0) && (bstr x1.2.2.2.2.1 == bstr ([111,107,10,111,107,10,111,107,10,111,107,10,101,114,114,111,114,32,54,10,49,10,50,10,110,111,110,101,10,49,32,50,32,48,10,48,10,110,111,110,101,10,50,10,49,10,111,107,10,48,32,49,32,50,32,51,10,101,114,114,111,114,32,53,10,101,114,114,111,114,32,51,10,101,114,114,111,114,32,49,10,101,114,114,111,114,32,51,10,50,48,10]:qFm))) && (((x1.1.length:Int):Int) == 4)) then (jA F x1.1 x1.2.1 x1.2.2.1 x1.2.2.2.1).bind fun x10=>qdZ F ((x10:Int) == 0) else qdZ F false
def qhu (_F:Nat):Option Bool:=some true
def qeS (F:Nat)(x1 x4:qFm)(r3:Int→Option Bool)(x0:Int):Option Bool:=if decide (x0<(x1.length:Int)) then (idx x1 x0).bind fun x2=>(idx x4 x0).bind fun x3=>if ((x2:Int) != x3) then some false else r3 (iadd .i64 x0 1) else qhu F
def qeT (F:Nat)(x1 x4:qFm):=lp fun r s=>qeS F x1 x4 r s
def qfc (F:Nat)(x1 x4:qFm):Option Bool:=if (((x1.length:Int):Int) != (x4.length:Int)) then some false else qeT F x1 x4 F 0
def qgR (_F:Nat):Option Bool:=some true
def qd0 (F:Nat)(x1 x4:List (qFm))(r3:Int→Option Bool)(x0:Int):Option Bool:=if decide (x0<(x1.length:Int)) then (idx x1 x0).bind fun x2=>(idx x4 x0).bind fun x3=>(qfc F x2 x3).bind fun x5=>if (!x5) then some false else r3 (iadd .i64 x0 1) else qgR F
def qd1 (F:Nat)(x1 x4:List (qFm)):=lp fun r s=>qd0 F x1 x4 r s
def qel (F:Nat)(x1 x4:List (qFm)):Option Bool:=if (((x1.length:Int):Int) != (x4.length:Int)) then some false else qd1 F x1 x4 F 0
def qek (F:Nat)(x1 x4:List (qFm)):Option Bool:=(qel F x1 x4).bind fun x9=>some x9
def qcf (F:Nat)(x1:List (qFm))(x4 x5 x6:Int)(x7:List (qFm))(x10 x11 x12:Int):Option Bool:=(qek F x1 x7).bind fun x15=>some (x15 && (((x4:Int) == x10) && (((x5:Int) == x11) && ((x6:Int) == x12))))
def qdY (_F:Nat)(x42:Bool):Option Bool:=some x42
def qce (F:Nat)(x12:(List (qFm)×Int×Int×Int×qFm×Int))(x39:Bool):Option Bool:=if x39 then (jA F x12.1 x12.2.1 x12.2.2.1 x12.2.2.2.1).bind fun x43=>qdY F ((x43:Int) == 0) else qdY F false
def qcd (F:Nat)(x12 x28:(List (qFm)×Int×Int×Int×qFm×Int))(x36:Bool):Option Bool:=if x36 then (qcf F x12.1 x12.2.1 x12.2.2.1 x12.2.2.2.1 x28.1 x28.2.1 x28.2.2.1 x28.2.2.2.1).bind fun x44=>qce F x12 x44 else qce F x12 false
def qgj (F:Nat)(x1:List (qFm))(x4 x5 x6:Int)(x7 x8:qFm):Option Bool:=(app 9223372036854775807 x7 ([10]:qFm)).bind fun x10=>(app 9223372036854775807 x10 x8).bind fun x11=>(qay F x1 x4 x5 x6 x11).bind fun x12=>(qej F).bind fun x18=>if (!x18) then some false else if ((x12.2.2.2.2.2:Int) != 0) then (qcf F x12.1 x12.2.1 x12.2.2.1 x12.2.2.2.1 ([]:List (qFm)) 0 0 0).bind fun x22=>some (x22 && (bstr x12.2.2.2.2.1 == bstr ([]:qFm))) else (qay F x1 x4 x5 x6 x7).bind fun x24=>(qay F x24.1 x24.2.1 x24.2.2.1 x24.2.2.2.1 x8).bind fun x28=>if (((x24.2.2.2.2.2:Int) == 0) && ((x28.2.2.2.2.2:Int) == 0)) then (app 9223372036854775807 x24.2.2.2.2.1 x28.2.2.2.2.1).bind fun x45=>qcd F x12 x28 (bstr x12.2.2.2.2.1 == bstr x45) else qcd F x12 x28 false
end Go.Proofs.YthibchijlpflmaaGreatDoor
