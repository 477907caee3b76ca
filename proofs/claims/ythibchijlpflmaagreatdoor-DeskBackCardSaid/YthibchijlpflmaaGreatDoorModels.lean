/- What each Go function of this seat computes, in plain terms. -/
import Derived.Test.YthibchijlpflmaaGreatDoorSy
namespace Go.Proofs.YthibchijlpflmaaGreatDoor
open Go SX
abbrev qsO:=List Int
abbrev qsP:=Option Addr
abbrev qsQ (x:Int):Value:=.int .i64 x
abbrev qsR (a:Option Addr) {α:Type} (x:List α) (c:Nat):Value:=.slice a x.length c
abbrev qsS (g:Nat):Value:=.pointer (some ⟨g,0,none⟩)
abbrev qsT (a:Option Addr) (x:List Int) (c:Nat):World→Prop:=Sl (eI .i64) 1 (.slice a x.length c) x
abbrev qsU (a:Option Addr) (x:List Int) (c:Nat):RowD:=Ro (eI .i64) 3 1 (.slice a x.length c) x
abbrev qsV (a:Option Addr) (x:List Int) (c:Nat):World→Prop:=Sl (eI .u8) 1 (.slice a x.length c) x
abbrev qsW (a:Option Addr) (x:List Int) (c:Nat):RowD:=Ro (eI .u8) 5 1 (.slice a x.length c) x
def qa0 (_F:Nat)(x0:Int):Option Int :=
  (if (decide (600<x0)) then some 2 else some 0)
def qa1 (_F:Nat)(rec38:(Int×Int)→Option Int)(x0:Int)(x1:Int):Option Int :=
  rec38 (x1,iadd .i64 x0 1)
def jo (F:Nat)(rec38:(Int×Int)→Option Int)(x0:Int)(x1:Int)(x2:qsO):Option Int :=
  qa1 F rec38 x1 (iadd .i64 x0 (x2.length:Int))
def jn (F:Nat)(rec38:(Int×Int)→Option Int)(x1:List (qsO))(x0:Int)(x2:Int)(x3:qsO)(rec45:(Int×Int)→Option Int)(x4:Int)(x5:Int):Option Int :=
  (if (decide (x5<(x3.length:Int))) then ((idx x3 x5).bind fun x6=>(if ((decide (x6<0)) || (decide ((x1.length:Int)≤x6))) then some 3 else (if (decide (x6≤x4)) then some 4 else rec45 (x6,iadd .i64 x5 1)))) else jo F rec38 x0 x2 x3)
def ym (F:Nat)(rec38:(Int×Int)→Option Int)(x1:List (qsO))(x0:Int)(x2:Int)(x3:qsO):Nat→(Int×Int)→Option Int
  | 0=>fun _=>none
  | k+1=>fun s=>jn F rec38 x1 x0 x2 x3 (ym F rec38 x1 x0 x2 x3 k) s.1 s.2
def jm (F:Nat)(x1:List (qsO))(rec38:(Int×Int)→Option Int)(x0:Int)(x2:Int):Option Int :=
  (if (decide (x2<(x1.length:Int))) then ((idx x1 x2).bind fun x3=>ym F rec38 x1 x0 x2 x3 F (-1,0)) else qa0 F x0)
def zq (F:Nat)(x1:List (qsO)):Nat→(Int×Int)→Option Int
  | 0=>fun _=>none
  | k+1=>fun s=>jm F x1 (zq F x1 k) s.1 s.2
def kd (F:Nat)(x1:List (qsO)):Option Int :=
  (if (decide (100<(x1.length:Int))) then some 2 else zq F x1 F (0,0))
def yC (_F:Nat)(x1:Int)(x2:Int)(x3:Int):Option Int :=
  (if (((((((decide (x1<0)) || (decide (7<x1))) || (decide (x2<0))) || ((x2:Int) == 1)) || (decide (300<x2))) || (decide (x3<1))) || (decide (16<x3))) then some 3 else some 0)
def ya (F:Nat)(x1:List (qsO))(x4:Int)(x5:Int)(x6:Int):Option Int :=
  ((kd F x1).bind fun x10=>(if ((x10:Int) != 0) then some x10 else ((yC F x4 x5 x6).bind fun x11=>some x11)))
def yB (_F:Nat)(x1:qsO):Option (qsO) :=
  ((app 8796093022208 ([]:qsO) x1).bind fun x8=>some x8)
def qf8 (_F:Nat)(x4:Int)(x5:Int)(x6:Int)(x0:List (qsO)):Option (List (qsO)×Int×Int×Int) :=
  some (x0,x4,x5,x6)
def qbT (F:Nat)(x1:List (qsO))(x4:Int)(x5:Int)(x6:Int)(rec4:(Int×List (qsO))→Option (List (qsO)×Int×Int×Int))(x0:Int)(x2:List (qsO)):Option (List (qsO)×Int×Int×Int) :=
  (if (decide (x0<(x1.length:Int))) then ((idx x1 x0).bind fun x3=>((idx x2 x0).bind fun _x233=>((yB F x3).bind fun x7=>(lett (x2.set x0.toNat x7) fun x8=>rec4 (iadd .i64 x0 1,x8))))) else qf8 F x4 x5 x6 x2)
def vW (F:Nat)(x1:List (qsO))(x4:Int)(x5:Int)(x6:Int):Nat→(Int×List (qsO))→Option (List (qsO)×Int×Int×Int)
  | 0=>fun _=>none
  | k+1=>fun s=>qbT F x1 x4 x5 x6 (vW F x1 x4 x5 x6 k) s.1 s.2
def qbU (F:Nat)(x1:List (qsO))(x4:Int)(x5:Int)(x6:Int)(x20:List (qsO)):Option (List (qsO)×Int×Int×Int) :=
  vW F x1 x4 x5 x6 F (0,x20)
def qc1 (F:Nat)(x1:List (qsO))(x4:Int)(x5:Int)(x6:Int):Option (List (qsO)×Int×Int×Int) :=
  ((mk 4398046511104 (([]:qsO):qsO) (x1.length:Int)).bind fun x0=>qbU F x1 x4 x5 x6 x0)
def qhe (_F:Nat)(x1:Int)(x2:Int):Option (Int×Int) :=
  (lett (imul .u64 (iconv .u64 x1) (iconv .u64 x2)) fun x3=>some (iconv .u32 (ishr .u64 x3 32),iconv .u32 x3))
def qdI (_F:Nat)(x1:Int)(x2:Int):Option (Int×Int) :=
  (lett (imul .u64 (iand .u64 x1 4294967295) (iand .u64 x2 4294967295)) fun x3=>(lett (iadd .u64 (imul .u64 (ishr .u64 x1 32) (iand .u64 x2 4294967295)) (ishr .u64 x3 32)) fun x4=>(lett (iadd .u64 (iand .u64 x4 4294967295) (imul .u64 (iand .u64 x1 4294967295) (ishr .u64 x2 32))) fun x5=>(lett (iadd .u64 (iadd .u64 (imul .u64 (ishr .u64 x1 32) (ishr .u64 x2 32)) (ishr .u64 x4 32)) (ishr .u64 x5 32)) fun x6=>some (x6,imul .u64 x1 x2)))))
def qao (F:Nat)(x1:Int)(x2:Int):Option (Int×Int) :=
  ((qdI F x1 x2).bind fun x3=>some (x3.1,x3.2))
def yL (_F:Nat)(x64:qsO):Option (qsO) :=
  some x64
def zK (F:Nat)(rec3:(qsO×Int)→Option (qsO))(x80:qsO)(x81:Int):Option (qsO) :=
  (if (decide (x81<(x80.length:Int))) then ((sub x80 x81 (x80.length:Int)).bind fun x99=>((sub x80 0 x81).bind fun x0=>(lett (kS x81.toNat x80 x0) fun x1=>rec3 (x1,iadd .i64 x81 ((min x0.length x99.length:Nat):Int))))) else yL F x80)
def zL (F:Nat):Nat→(qsO×Int)→Option (qsO)
  | 0=>fun _=>none
  | k+1=>fun s=>zK F (zL F k) s.1 s.2
def ql (F:Nat)(x1:qsO)(x4:Int):Option (qsO) :=
  (if (decide (x4<0)) then none else ((qao F (iconv .u64 (x1.length:Int)) (iconv .u64 x4)).bind fun x6=>(if ((decide (0<x6.1)) || (decide (9223372036854775807<x6.2))) then none else ((mk 17592186044416 (0:Int) (iconv .i64 x6.2)).bind fun x10=>(lett (kS 0 x10 x1) fun x13=>zL F F (x13,((min x1.length x10.length:Nat):Int)))))))
def jX (_F:Nat):Option Int :=
  some (-1)
def kX (F:Nat)(x1:qsO)(x4:Int)(rec3:Int→Option Int)(x47:Int):Option Int :=
  (if (decide (x47<(x1.length:Int))) then ((idx x1 x47).bind fun x64=>(if ((x4:Int) == x64) then some x47 else rec3 (iadd .i64 x47 1))) else jX F)
def zO (F:Nat)(x1:qsO)(x4:Int):Nat→Int→Option Int
  | 0=>fun _=>none
  | k+1=>fun s=>kX F x1 x4 (zO F x1 x4 k) s
def kQ (F:Nat)(x1:qsO)(x4:Int):Option Int :=
  zO F x1 x4 F 0
def qaJ (_F:Nat)(x35:Int):Option Int :=
  some x35
def qaI (F:Nat)(x1:qsO)(rec3:(Int×Int)→Option Int)(x44:Int)(x45:Int):Option Int :=
  (if (decide (x45<(x1.length:Int))) then ((idx x1 x45).bind fun x59=>rec3 (imin x44 x59,iadd .i64 x45 1)) else qaJ F x44)
def yp (F:Nat)(x1:qsO):Nat→(Int×Int)→Option Int
  | 0=>fun _=>none
  | k+1=>fun s=>qaI F x1 (yp F x1 k) s.1 s.2
def qcj (F:Nat)(x1:qsO):Option Int :=
  (if (decide ((x1.length:Int)<1)) then none else ((idx x1 0).bind fun x5=>yp F x1 F (x5,1)))
def j4 (_F:Nat)(x5:qsO)(x8:qsO)(x11:qsO)(x17:Int)(x19:Int)(x75:qsO):Option (qsO×qsO×qsO×qsO×Int) :=
  ((sub x11 0 x19).bind fun x76=>some (x5,x8,x76,x75,x17))
def j3 (F:Nat)(x5:qsO)(x8:qsO)(x11:qsO)(x17:Int)(x19:Int)(x23:Int)(rec3:(Int×qsO)→Option (qsO×qsO×qsO×qsO×Int))(x93:Int)(x94:qsO):Option (qsO×qsO×qsO×qsO×Int) :=
  (if (decide (x93<((x11.length-x19.toNat:Nat):Int))) then ((idx (x11.drop x19.toNat) x93).bind fun x0=>((idx x94 x0).bind fun _x121=>(lett (x94.set x0.toNat x23) fun x1=>rec3 (iadd .i64 x93 1,x1)))) else j4 F x5 x8 x11 x17 x19 x94)
def yc (F:Nat)(x5:qsO)(x8:qsO)(x11:qsO)(x17:Int)(x19:Int)(x23:Int):Nat→(Int×qsO)→Option (qsO×qsO×qsO×qsO×Int)
  | 0=>fun _=>none
  | k+1=>fun s=>j3 F x5 x8 x11 x17 x19 x23 (yc F x5 x8 x11 x17 x19 x23 k) s.1 s.2
def qbr (F:Nat)(_x2:List (qsO))(x5:qsO)(x8:qsO)(x11:qsO)(x14:qsO)(x17:Int)(x18:Int):Option (qsO×qsO×qsO×qsO×Int) :=
  ((kQ F x11 x18).bind fun x19=>(chk (decide (0≤x19∧x19<(x11.length:Int))) (((qcj F (x11.drop x19.toNat)).bind fun x23=>yc F x5 x8 x11 x17 x19 x23 F (0,x14)))))
def j6 (F:Nat)(x2:List (qsO))(x18:Int)(x0:qsO)(x1:qsO)(x3:qsO)(x4:qsO)(x5:Int):Option (qsO×qsO×qsO×qsO×Int) :=
  ((idx x1 x18).bind fun x6=>((idx x0 x18).bind fun x7=>(if ((x6:Int) == x7) then ((qbr F x2 x0 x1 x3 x4 x5 x18).bind fun x8=>some (x8.1,x8.2.1,x8.2.2.1,x8.2.2.2.1,x8.2.2.2.2)) else some (x0,x1,x3,x4,x5))))
def yd (_F:Nat)(rec8:(Int×qsO×qsO×qsO×qsO×Int)→Option (qsO×qsO×qsO×qsO×Int))(x0:Int)(x1:qsO)(x2:qsO)(x3:qsO)(x4:qsO)(x5:Int):Option (qsO×qsO×qsO×qsO×Int) :=
  rec8 (iadd .i64 x0 1,x1,x2,x3,x4,x5)
def j5 (F:Nat)(self:(List (qsO))→(qsO)→(qsO)→(qsO)→(qsO)→Int→Int→Option (qsO×qsO×qsO×qsO×Int))(x2:List (qsO))(x18:Int)(x0:qsO)(rec8:(Int×qsO×qsO×qsO×qsO×Int)→Option (qsO×qsO×qsO×qsO×Int))(x1:Int)(x3:qsO)(x4:qsO)(x5:qsO)(x6:qsO)(x7:Int):Option (qsO×qsO×qsO×qsO×Int) :=
  (if (decide (x1<(x0.length:Int))) then ((idx x0 x1).bind fun x8=>((idx x3 x8).bind fun x9=>(if ((x9:Int) == 0) then ((self x2 x3 x4 x5 x6 x7 x8).bind fun x10=>((idx x10.2.1 x18).bind fun x11=>((idx x10.2.1 x8).bind fun x12=>((idx x10.2.1 x18).bind fun _x791=>(lett (x10.2.1.set x18.toNat (imin x11 x12)) fun x13=>yd F rec8 x1 x10.1 x13 x10.2.2.1 x10.2.2.2.1 x10.2.2.2.2))))) else ((idx x6 x8).bind fun x14=>(if (decide (x14<0)) then ((idx x4 x18).bind fun x15=>((idx x3 x8).bind fun x16=>((idx x4 x18).bind fun _x809=>(lett (x4.set x18.toNat (imin x15 x16)) fun x17=>yd F rec8 x1 x3 x17 x5 x6 x7)))) else yd F rec8 x1 x3 x4 x5 x6 x7))))) else j6 F x2 x18 x3 x4 x5 x6 x7)
def ku (F:Nat)(self:(List (qsO))→(qsO)→(qsO)→(qsO)→(qsO)→Int→Int→Option (qsO×qsO×qsO×qsO×Int))(x2:List (qsO))(x18:Int)(x0:qsO):Nat→(Int×qsO×qsO×qsO×qsO×Int)→Option (qsO×qsO×qsO×qsO×Int)
  | 0=>fun _=>none
  | k+1=>fun s=>j5 F self x2 x18 x0 (ku F self x2 x18 x0 k) s.1 s.2.1 s.2.2.1 s.2.2.2.1 s.2.2.2.2.1 s.2.2.2.2.2
def zF:Nat→(List (qsO))→(qsO)→(qsO)→(qsO)→(qsO)→Int→Int→Option (qsO×qsO×qsO×qsO×Int)
  | 0=>fun _ _ _ _ _ _ _=>none
  | F+1=>fun x2 x5 x8 x11 x14 x17 x18 =>
    let self:=zF F
    ((idx x5 x18).bind fun _x33=>((idx x8 x18).bind fun _x37=>(lett (x5.set x18.toNat (iadd .i64 x17 1)) fun x41=>(lett (x8.set x18.toNat (iadd .i64 x17 1)) fun x44=>((app 8796093022208 x11 ([x18]:qsO)).bind fun x49=>((idx x2 x18).bind fun x0=>ku F self x2 x18 x0 F (0,x41,x44,x49,x14,iadd .i64 x17 1)))))))
def qdW (_F:Nat)(_x265:qsO)(_x268:qsO)(_x271:qsO)(x0:qsO)(_x275:Int):Option (qsO) :=
  some x0
def qay (_F:Nat)(rec9:(Int×qsO×qsO×qsO×qsO×Int)→Option (qsO))(x0:Int)(x1:qsO)(x2:qsO)(x3:qsO)(x4:qsO)(x5:Int):Option (qsO) :=
  rec9 (iadd .i64 x0 1,x1,x2,x3,x4,x5)
def qdV (F:Nat)(x1:List (qsO))(rec9:(Int×qsO×qsO×qsO×qsO×Int)→Option (qsO))(x0:Int)(x2:qsO)(x3:qsO)(x4:qsO)(x5:qsO)(x6:Int):Option (qsO) :=
  (if (decide (x0<(x1.length:Int))) then ((idx x2 x0).bind fun x7=>(if ((x7:Int) == 0) then ((zF F x1 x2 x3 x4 x5 x6 x0).bind fun x8=>qay F rec9 x0 x8.1 x8.2.1 x8.2.2.1 x8.2.2.2.1 x8.2.2.2.2) else qay F rec9 x0 x2 x3 x4 x5 x6)) else qdW F x2 x3 x4 x5 x6)
def y9 (F:Nat)(x1:List (qsO)):Nat→(Int×qsO×qsO×qsO×qsO×Int)→Option (qsO)
  | 0=>fun _=>none
  | k+1=>fun s=>qdV F x1 (y9 F x1 k) s.1 s.2.1 s.2.2.1 s.2.2.2.1 s.2.2.2.2.1 s.2.2.2.2.2
def qQ (F:Nat)(x1:List (qsO))(x0:qsO)(x2:qsO)(x3:qsO):Option (qsO) :=
  y9 F x1 F (0,x0,x2,([]:qsO),x3,0)
def qfI (F:Nat)(x1:List (qsO)):Option (qsO) :=
  ((mk 17592186044416 (0:Int) (x1.length:Int)).bind fun x0=>((mk 17592186044416 (0:Int) (x1.length:Int)).bind fun x2=>((ql F ([-1]:qsO) (x1.length:Int)).bind fun x3=>qQ F x1 x0 x2 x3)))
def qfH (F:Nat)(x1:List (qsO)):Option (qsO×Int) :=
  ((kd F x1).bind fun x7=>(if ((x7:Int) != 0) then some (([]:qsO),x7) else ((qfI F x1).bind fun x8=>some (x8,0))))
def qaH (_F:Nat)(_x1:List (qsO)):Option Unit :=
  some ()
def k5 (_F:Nat)(x1:qsO):Option (qsO) :=
  if x1.length<4611686018427387904 then some (srt x1) else none
def yb (_F:Nat)(x1:qsO):Option (qsO) :=
  if (Go.Lib.compact x1).length≤x1.length then some (Go.Lib.compact x1) else none
def jU {σ τ:Type}(_F:Nat)(_yy:σ→(Int×Int)→Option (σ ⊕ τ))(rec7:(Int×σ)→Option (σ ⊕ τ))(x0:Int)(x1:σ):Option (σ ⊕ τ) :=
  rec7 (iadd .i64 x0 1,x1)
def jl {σ τ:Type}(F:Nat)(yy:σ→(Int×Int)→Option (σ ⊕ τ))(rec7:(Int×σ)→Option (σ ⊕ τ))(x0:Int)(x1:qsO)(rec10:(Int×σ)→Option (σ ⊕ τ))(x2:Int)(x3:σ):Option (σ ⊕ τ) :=
  (if (decide (x2<(x1.length:Int))) then ((idx x1 x2).bind fun x4=>((yy x3 (x0,x4)).bind (Sum.elim (fun x5=>rec10 (iadd .i64 x2 1,x5)) (fun x6=>some (.inr x6))))) else jU F yy rec7 x0 x3)
def yl {σ τ:Type}(F:Nat)(yy:σ→(Int×Int)→Option (σ ⊕ τ))(rec7:(Int×σ)→Option (σ ⊕ τ))(x0:Int)(x1:qsO):Nat→(Int×σ)→Option (σ ⊕ τ)
  | 0=>fun _=>none
  | k+1=>fun s=>jl F yy rec7 x0 x1 (yl F yy rec7 x0 x1 k) s.1 s.2
def jT {σ τ:Type}(F:Nat)(yy:σ→(Int×Int)→Option (σ ⊕ τ))(x2:List (qsO))(rec7:(Int×σ)→Option (σ ⊕ τ))(x0:Int)(x1:σ):Option (σ ⊕ τ) :=
  (if (decide (x0<(x2.length:Int))) then ((idx x2 x0).bind fun x3=>yl F yy rec7 x0 x3 F (0,x1)) else some (.inl x1))
def zJ {σ τ:Type}(F:Nat)(yy:σ→(Int×Int)→Option (σ ⊕ τ))(x2:List (qsO)):Nat→(Int×σ)→Option (σ ⊕ τ)
  | 0=>fun _=>none
  | k+1=>fun s=>jT F yy x2 (zJ F yy x2 k) s.1 s.2
def ve {σ τ:Type}(F:Nat)(yy:σ→(Int×Int)→Option (σ ⊕ τ))(x2:List (qsO))(s0:σ):Option (σ ⊕ τ) :=
  zJ F yy x2 F (0,s0)
def qfq (_F:Nat)(x0:List (qsO))(x1:Int)(x2:Int):Option (List (qsO) ⊕ Empty) :=
  (if ((x1:Int) != x2) then ((idx x0 x1).bind fun x3=>((idx x0 x2).bind fun x4=>(chk (decide (x2.toNat≠x1.toNat)) (((idx x0 x1).bind fun _x438=>((idx x0 x2).bind fun _x444=>((app 8796093022208 x3 ([x2]:qsO)).bind fun x5=>((app 8796093022208 x4 ([x1]:qsO)).bind fun x6=>(lett (x0.set x1.toNat x5) fun x7=>(lett (x7.set x2.toNat x6) fun x8=>some (.inl x8))))))))))) else some (.inl x0))
def qfp (_F:Nat)(x0:List (qsO)):Option (List (qsO)) :=
  some x0
def qfo (F:Nat)(x0:List (qsO))(rec5:(Int×List (qsO))→Option (List (qsO)))(x1:Int)(x2:List (qsO)):Option (List (qsO)) :=
  (if (decide (x1<(x0.length:Int))) then ((idx x2 x1).bind fun x3=>((k5 F x3).bind fun x4=>(chk (decide (x4.length=x3.length)) ((lett (x2.set x1.toNat x4) fun x5=>((idx x5 x1).bind fun x6=>((idx x5 x1).bind fun _x871=>((yb F x6).bind fun x7=>(lett (x5.set x1.toNat x7) fun x8=>rec5 (iadd .i64 x1 1,x8)))))))))) else qfp F x2)
def qaU (F:Nat)(x0:List (qsO)):Nat→(Int×List (qsO))→Option (List (qsO))
  | 0=>fun _=>none
  | k+1=>fun s=>qfo F x0 (qaU F x0 k) s.1 s.2
def qfn (F:Nat)(x1:List (qsO)):Option (List (qsO)) :=
  ((mk 4398046511104 (([]:qsO):qsO) (x1.length:Int)).bind fun x5=>((qaH F x1).bind fun _x256=>((ve F (fun (x0:List (qsO)) ((x2,x3):(Int×Int))=>qfq F x0 x2 x3) x1 x5).bind (Sum.elim (fun (x0:List (qsO))=>qaU F x0 F (0,x0)) (fun t=>t.elim)))))
def qaG (_F:Nat)(x5:qsO)(x0:Int):Option (Int×qsO) :=
  some (x0,x5)
def vp (_F:Nat)(rec38:(Int×Int)→Option (Int×qsO))(x0:Int)(x1:Int):Option (Int×qsO) :=
  rec38 (x1,iadd .i64 x0 1)
def vq (F:Nat)(rec38:(Int×Int)→Option (Int×qsO))(x0:Int)(x1:Int)(x2:Bool):Option (Int×qsO) :=
  (if x2 then vp F rec38 x1 x1 else vp F rec38 x1 x0)
def vr (F:Nat)(rec38:(Int×Int)→Option (Int×qsO))(x0:Int)(x1:Int)(_x315:Bool)(x2:Bool):Option (Int×qsO) :=
  vq F rec38 x0 x1 x2
def qaF (F:Nat)(x5:qsO)(rec38:(Int×Int)→Option (Int×qsO))(x0:Int)(x1:Int):Option (Int×qsO) :=
  (if (decide (x1<(x5.length:Int))) then ((idx x5 x1).bind fun x2=>(if (decide (0≤x2)) then (if (decide (x0<0)) then vr F rec38 x0 x1 true true else ((idx x5 x0).bind fun x3=>vr F rec38 x0 x1 false (decide (x2<x3)))) else vq F rec38 x0 x1 false)) else qaG F x5 x0)
def zI (F:Nat)(x5:qsO):Nat→(Int×Int)→Option (Int×qsO)
  | 0=>fun _=>none
  | k+1=>fun s=>qaF F x5 (zI F x5 k) s.1 s.2
def jZ (F:Nat)(_x2:List (qsO))(x5:qsO):Option (Int×qsO) :=
  zI F x5 F (-1,0)
def vY (_F:Nat)(rec3:(Int×qsO)→Option (qsO))(x54:Int)(x0:qsO):Option (qsO) :=
  rec3 (iadd .i64 x54 1,x0)
def qbn (F:Nat)(x15:qsO)(rec3:(Int×qsO)→Option (qsO))(x54:Int)(x55:qsO):Option (qsO) :=
  (if (decide (x54<(x15.length:Int))) then ((idx x15 x54).bind fun x0=>((idx x55 x0).bind fun x1=>(if (decide (0≤x1)) then ((idx x55 x0).bind fun x2=>((idx x55 x0).bind fun _x119=>(lett (x55.set x0.toNat (isub .i64 x2 1)) fun x3=>vY F rec3 x54 x3))) else vY F rec3 x54 x55))) else some x55)
def kZ (F:Nat)(x15:qsO):Nat→(Int×qsO)→Option (qsO)
  | 0=>fun _=>none
  | k+1=>fun s=>qbn F x15 (kZ F x15 k) s.1 s.2
def qcW (F:Nat)(x2:List (qsO))(x5:qsO)(x8:Int):Option (qsO) :=
  ((idx x5 x8).bind fun _x9=>(lett (x5.set x8.toNat (-1)) fun x12=>((idx x2 x8).bind fun x15=>kZ F x15 F (0,x12))))
def qdz (_F:Nat)(x0:qsO):Option (qsO×Int) :=
  some (x0,0)
def qdw (F:Nat)(x8:List (qsO))(rec5:(qsO×Int×Int×qsO)→Option (qsO×Int))(x0:qsO)(x1:Int)(x2:Int)(x3:qsO):Option (qsO×Int) :=
  (if (decide (0≤x2)) then ((idx x3 x2).bind fun x4=>((idx x0 x2).bind fun _x272=>(lett (x0.set x2.toNat (imax x1 x4)) fun x5=>((qcW F x8 x3 x2).bind fun x6=>((jZ F x8 x6).bind fun x7=>rec5 (x5,imax x1 x4,x7.1,x7.2)))))) else qdz F x0)
def jg (F:Nat)(x8:List (qsO)):Nat→(qsO×Int×Int×qsO)→Option (qsO×Int)
  | 0=>fun _=>none
  | k+1=>fun s=>qdw F x8 (jg F x8 k) s.1 s.2.1 s.2.2.1 s.2.2.2
def qdy (F:Nat)(x8:List (qsO))(x86:qsO):Option (qsO×Int) :=
  ((mk 17592186044416 (0:Int) (x8.length:Int)).bind fun x87=>((jZ F x8 x86).bind fun x0=>jg F x8 F (x87,0,x0.1,x0.2)))
def qdx (F:Nat)(x8:List (qsO))(rec6:(Int×qsO)→Option (qsO×Int))(x0:Int)(x1:qsO):Option (qsO×Int) :=
  (if (decide (x0<(x8.length:Int))) then ((idx x8 x0).bind fun x2=>((app 8796093022208 x1 ([(x2.length:Int)]:qsO)).bind fun x3=>rec6 (iadd .i64 x0 1,x3))) else qdy F x8 x1)
def jh (F:Nat)(x8:List (qsO)):Nat→(Int×qsO)→Option (qsO×Int)
  | 0=>fun _=>none
  | k+1=>fun s=>qdx F x8 (jh F x8 k) s.1 s.2
def qfm (F:Nat)(x1:List (qsO)):Option (qsO×Int) :=
  ((kd F x1).bind fun x7=>(if ((x7:Int) != 0) then some (([]:qsO),x7) else ((qfn F x1).bind fun x8=>jh F x8 F (0,([]:qsO)))))
def vC (_F:Nat)(_x2:List (qsO))(_x5:Int)(_x6:Int)(_x7:Int)(_x8:qsO)(_x11:qsO):Option Unit :=
  some ()
def vB (_F:Nat)(_x2:List (qsO))(_x5:Int)(_x6:Int)(_x7:Int)(_x8:qsO)(_x11:qsO):Option Unit :=
  some ()
def vI (F:Nat)(x2:List (qsO))(x5:Int)(x6:Int)(x7:Int)(x8:qsO)(x11:qsO):Option Unit :=
  ((vC F x2 x5 x6 x7 x8 x11).bind fun _x13=>((vB F x2 x5 x6 x7 x8 x11).bind fun _x16=>some ()))
def qbo (_F:Nat)(x12:Int)(x14:List (qsO))(x0:qsO):Option (Bool×qsO) :=
  some ((((x14.length:Int):Int) == x12),x0)
def yN (_F:Nat)(rec23:(Int×qsO)→Option (Bool×qsO))(x0:Int)(x1:qsO)(x2:(Int×Bool))(x3:Bool):Option (Bool×qsO) :=
  (if x3 then some (false,x1) else ((app 8796093022208 x1 ([x2.1]:qsO)).bind fun x4=>rec23 (iadd .i64 x0 1,x4)))
def kq (F:Nat)(x12:Int)(x14:List (qsO))(rec23:(Int×qsO)→Option (Bool×qsO))(x0:Int)(x1:qsO):Option (Bool×qsO) :=
  (if (decide (x0<(x14.length:Int))) then ((idx x14 x0).bind fun x2=>((atoiE x2).bind fun x3=>(if (((!x3.2) || (decide (x3.1<0))) || (decide (4<(x2.length:Int)))) then yN F rec23 x0 x1 x3 true else ((itoaC x3.1).bind fun x4=>yN F rec23 x0 x1 x3 (!(bstr x4 == bstr x2)))))) else qbo F x12 x14 x1)
def zk (F:Nat)(x12:Int)(x14:List (qsO)):Nat→(Int×qsO)→Option (Bool×qsO)
  | 0=>fun _=>none
  | k+1=>fun s=>kq F x12 x14 (zk F x12 x14 k) s.1 s.2
def q8 (F:Nat)(_x2:List (qsO))(_x5:Int)(_x6:Int)(_x7:Int)(x8:qsO)(_x11:qsO)(x12:Int)(x14:List (qsO)):Option (Bool×qsO) :=
  zk F x12 x14 F (0,x8)
def qcZ (_F:Nat)(x2:List (qsO))(_x5:Int)(_x6:Int)(_x7:Int)(x8:qsO)(_x11:qsO):Option (Int×List (qsO)) :=
  ((idx x8 0).bind fun x16=>(if (decide (100<x16)) then some (3,x2) else ((idx x8 0).bind fun x19=>((mk 4398046511104 (([]:qsO):qsO) x19).bind fun x22=>some (0,x22)))))
def ke (_F:Nat)(x46:List (Int×Int))(x55:Int)(x56:Int):Option (List (Int×Int) ⊕ Empty) :=
  ((app 4398046511104 x46 ([(x55,x56)]:List (Int×Int))).bind fun x60=>some (.inl x60))
def zA (F:Nat)(x1:List (Int×Int))(x5:List (qsO)):Option (List (Int×Int)) :=
  ((ve F (fun (x46:List (Int×Int)) ((x55,x56):(Int×Int))=>ke F x46 x55 x56) x5 x1).bind (Sum.elim (fun (x46:List (Int×Int))=>some x46) (fun t=>t.elim)))
def zG (F:Nat)(x2:List (qsO)):Option (List (Int×Int)) :=
  ((zA F ([]:List (Int×Int)) x2).bind fun x5=>some x5)
def qcO (F:Nat)(x1:List (qsO)):Option (List (Int×Int)×Int) :=
  ((kd F x1).bind fun x7=>(if ((x7:Int) != 0) then some (([]:List (Int×Int)),x7) else ((qaH F x1).bind fun _x8=>((zG F x1).bind fun x10=>some (x10,0)))))
def qeq (_F:Nat)(x0:List (qsO)):Option (List (qsO)) :=
  some x0
def jV (F:Nat)(x2:List (Int×Int))(rec3:(Int×List (qsO))→Option (List (qsO)))(x0:Int)(x1:List (qsO)):Option (List (qsO)) :=
  (if (decide (x0<(x2.length:Int))) then ((idx x2 x0).bind fun x3=>((idx x1 x3.1).bind fun x4=>((idx x1 x3.1).bind fun _x316=>((app 8796093022208 x4 ([x3.2]:qsO)).bind fun x5=>(lett (x1.set x3.1.toNat x5) fun x6=>rec3 (iadd .i64 x0 1,x6)))))) else qeq F x1)
def yF (F:Nat)(x2:List (Int×Int)):Nat→(Int×List (qsO))→Option (List (qsO))
  | 0=>fun _=>none
  | k+1=>fun s=>jV F x2 (yF F x2 k) s.1 s.2
def j1 (F:Nat)(x1:Int)(x2:List (Int×Int)):Option (List (qsO)) :=
  ((mk 4398046511104 (([]:qsO):qsO) x1).bind fun x6=>yF F x2 F (0,x6))
def z8 (_F:Nat)(_x1:List (Int×Int)):Option Unit :=
  some ()
def qeR (_F:Nat):Option Int :=
  some 0
def kV (F:Nat)(x1:qsO)(rec3:Int→Option Int)(x46:Int):Option Int :=
  (if (decide (x46<(x1.length:Int))) then ((idx x1 x46).bind fun x63=>(if ((x63:Int) != 0) then some x63 else rec3 (iadd .i64 x46 1))) else qeR F)
def yx (F:Nat)(x1:qsO):Nat→Int→Option Int
  | 0=>fun _=>none
  | k+1=>fun s=>kV F x1 (yx F x1 k) s
def qcN (F:Nat)(x1:qsO):Option Int :=
  yx F x1 F 0
def yU (_F:Nat)(x1:Int):Option Bool :=
  some ((x1:Int) != x1)
def y2 (F:Nat)(x1:Int)(x2:Int):Option Int :=
  ((yU F x1).bind fun x3=>((yU F x2).bind fun x4=>(if x3 then (if x4 then some 0 else some (-1)) else (if x4 then some 1 else (if (decide (x1<x2)) then some (-1) else (if (decide (x2<x1)) then some 1 else some 0))))))
def qbZ (F:Nat)(x1:Int)(x2:Int)(x3:Int)(x4:Int):Option Int :=
  ((y2 F x1 x3).bind fun x12=>((y2 F x2 x4).bind fun x13=>((qcN F ([x12,x13]:qsO)).bind fun x16=>some x16)))
def zH {σ τ:Type}(_F:Nat)(yy:σ→(Int×Int)→Option (σ ⊕ τ))(x2:List (Int×Int))(rec1:(Int×σ)→Option (σ ⊕ τ))(x23:Int)(x24:σ):Option (σ ⊕ τ) :=
  (if (decide (x23<(x2.length:Int))) then ((idx x2 x23).bind fun x54=>((yy x24 (x54.1,x54.2)).bind (Sum.elim (fun x58=>rec1 (iadd .i64 x23 1,x58)) (fun x59=>some (.inr x59))))) else some (.inl x24))
def za {σ τ:Type}(F:Nat)(yy:σ→(Int×Int)→Option (σ ⊕ τ))(x2:List (Int×Int)):Nat→(Int×σ)→Option (σ ⊕ τ)
  | 0=>fun _=>none
  | k+1=>fun s=>zH F yy x2 (za F yy x2 k) s.1 s.2
def kI {σ τ:Type}(F:Nat)(yy:σ→(Int×Int)→Option (σ ⊕ τ))(x2:List (Int×Int))(s0:σ):Option (σ ⊕ τ) :=
  za F yy x2 F (0,s0)
def zl (_F:Nat)(x46:List (Int×Int))(x55:Int)(x56:Int):Option (List (Int×Int) ⊕ Empty) :=
  ((app 4398046511104 x46 ([(x55,x56)]:List (Int×Int))).bind fun x60=>some (.inl x60))
def q5 (F:Nat)(x1:List (Int×Int))(x5:List (Int×Int)):Option (List (Int×Int)) :=
  ((kI F (fun (x46:List (Int×Int)) ((x55,x56):(Int×Int))=>zl F x46 x55 x56) x5 x1).bind (Sum.elim (fun (x46:List (Int×Int))=>some x46) (fun t=>t.elim)))
def qY (F:Nat)(x2:List (Int×Int)):Option (List (Int×Int)) :=
  ((q5 F ([]:List (Int×Int)) x2).bind fun x5=>some x5)
def zD (F:Nat)(x1:List (Int×Int)):Option (List (Int×Int)) :=
  sortF (fun a b=>qbZ F a.1 a.2 b.1 b.2) x1
def qD (F:Nat)(x2:List (Int×Int)):Option (List (Int×Int)) :=
  ((qY F x2).bind fun x5=>((zD F x5).bind fun x8=>(chk (decide (x8.length=x5.length)) (some x8))))
def qd6 (F:Nat)(x1:Int)(x2:List (Int×Int)):Option (List (qsO)×Int) :=
  ((z8 F x2).bind fun _x122=>((qD F x2).bind fun x0=>((j1 F x1 x0).bind fun x3=>some (x3,0))))
def qbY (F:Nat)(x1:Int)(x2:List (Int×Int))(rec3:(Int×List (Int×Int))→Option (List (qsO)×Int))(x0:Int)(x3:List (Int×Int)):Option (List (qsO)×Int) :=
  (if (decide (x0<(x2.length:Int))) then ((idx x2 x0).bind fun x4=>(if ((((decide (x4.1<0)) || (decide (x1≤x4.1))) || (decide (x4.2<0))) || (decide (x1≤x4.2))) then some (([]:List (qsO)),3) else (if (decide (((x4.1,x4.2):Int×Int)∈x3)) then some (([]:List (qsO)),6) else ((sins x3 (x4.1,x4.2)).bind fun x5=>rec3 (iadd .i64 x0 1,x5))))) else qd6 F x1 x2)
def vX (F:Nat)(x1:Int)(x2:List (Int×Int)):Nat→(Int×List (Int×Int))→Option (List (qsO)×Int)
  | 0=>fun _=>none
  | k+1=>fun s=>qbY F x1 x2 (vX F x1 x2 k) s.1 s.2
def qeF (F:Nat)(x1:Int)(x2:List (Int×Int)):Option (List (qsO)×Int) :=
  (if ((decide (x1<0)) || (decide (100<x1))) then some (([]:List (qsO)),3) else (if (decide (600<(x2.length:Int))) then some (([]:List (qsO)),2) else vX F x1 x2 F (0,([]:List (Int×Int)))))
def qby (F:Nat)(x2:List (qsO))(_x5:Int)(_x6:Int)(_x7:Int)(x8:qsO)(_x11:qsO):Option (Int×List (qsO)) :=
  ((qcO F x2).bind fun x12=>((idx x8 0).bind fun x31=>((idx x8 1).bind fun x35=>((app 4398046511104 x12.1 ([(x31,x35)]:List (Int×Int))).bind fun x41=>((qeF F (x2.length:Int) x41).bind fun x44=>some (x44.2,x44.1))))))
def y3 (_F:Nat)(x1:Int)(x4:List (qsO))(_x7:Int)(_x8:Int)(_x9:Int)(_x10:qsO)(_x13:qsO):Option Bool :=
  some (decide ((x4.length:Int)≤x1))
def kg (_F:Nat):Option Int :=
  some (-1)
def qR (F:Nat)(x1:qsO)(x6:List (qsO))(x9:Int)(x10:Int)(x11:Int)(x12:qsO)(x15:qsO)(rec3:Int→Option Int)(x66:Int):Option Int :=
  (if (decide (x66<(x1.length:Int))) then ((idx x1 x66).bind fun x86=>((y3 F x86 x6 x9 x10 x11 x12 x15).bind fun x89=>(if x89 then some x66 else rec3 (iadd .i64 x66 1)))) else kg F)
def qL (F:Nat)(x1:qsO)(x6:List (qsO))(x9:Int)(x10:Int)(x11:Int)(x12:qsO)(x15:qsO):Nat→Int→Option Int
  | 0=>fun _=>none
  | k+1=>fun s=>qR F x1 x6 x9 x10 x11 x12 x15 (qL F x1 x6 x9 x10 x11 x12 x15 k) s
def zC (F:Nat)(x1:qsO)(x6:List (qsO))(x9:Int)(x10:Int)(x11:Int)(x12:qsO)(x15:qsO):Option Int :=
  qL F x1 x6 x9 x10 x11 x12 x15 F 0
def zv (F:Nat)(x1:qsO)(x6:List (qsO))(x9:Int)(x10:Int)(x11:Int)(x12:qsO)(x15:qsO):Option Bool :=
  ((zC F x1 x6 x9 x10 x11 x12 x15).bind fun x16=>some (decide (0≤x16)))
def kB (F:Nat)(x2:List (qsO))(x5:Int)(x6:Int)(x7:Int)(x8:qsO)(x11:qsO)(x12:qsO):Option Bool :=
  ((zv F x12 x2 x5 x6 x7 x8 x11).bind fun x16=>some (!x16))
def yn (_F:Nat)(x1:qsO)(x4 x5:Int):Option (qsO) :=
  if 0≤x4∧x4≤x5∧x5≤(x1.length:Int)∧0<x1.length then some (x1.take x4.toNat++x1.drop x5.toNat) else none
def ji (F:Nat)(x2:List (qsO))(x5:Int)(x6:Int)(x7:Int)(x8:qsO)(x11:qsO):Option (Int×List (qsO)) :=
  ((kB F x2 x5 x6 x7 x8 x11 x8).bind fun x14=>(if (!x14) then some (3,x2) else ((idx x8 0).bind fun x25=>((idx x2 x25).bind fun x29=>((idx x8 1).bind fun x35=>((kQ F x29 x35).bind fun x38=>(if (decide (x38<0)) then some (5,x2) else ((idx x2 x25).bind fun _x61=>((yn F x29 x38 (iadd .i64 x38 1)).bind fun x67=>(lett (x2.set x25.toNat x67) fun x70=>some (0,x70)))))))))))
def qen (F:Nat)(_x2:List (qsO))(_x5:Int)(_x6:Int)(_x7:Int)(x8:qsO)(_x11:qsO):Option (Int×Int×Int×Int) :=
  ((idx x8 0).bind fun x24=>((idx x8 1).bind fun x28=>((idx x8 2).bind fun x32=>((yC F x24 x28 x32).bind fun x36=>some (x36,x24,x28,x32)))))
def j2 (_F:Nat)(x1:qsO):Option (qsO) :=
  ((app 70368744177664 ([]:qsO) x1).bind fun x8=>some x8)
def qgK (F:Nat)(x1:Int)(x2:qsO):Option (Int×qsO) :=
  ((j2 F x2).bind fun x10=>some (x1,x10))
def qf5 (_F:Nat)(_x1:Int)(_x2:qsO)(_x5:Int)(_x6:Int):Option Unit :=
  some ()
def jx (_F:Nat)(x2:Int)(x6:Int)(x15:qsO):Option (Int×qsO) :=
  ((idx x15 (iquo .i64 x2 8)).bind fun x30=>(chk (decide (0≤(irem x2 8))) (((idx x15 (iquo .i64 x2 8)).bind fun _x36=>(lett (x15.set (iquo .i64 x2 8).toNat (ior .u8 x30 (ishr .u8 (iconv .u8 (ishl .u64 x6 7)) (irem x2 8)))) fun x41=>some (iadd .i64 x2 1,x41))))))
def qaS (F:Nat)(x2:Int)(x3:qsO)(x6:Int):Option (Int×qsO) :=
  (if (((irem x2 8):Int) == 0) then ((app 70368744177664 x3 ([0]:qsO)).bind fun x46=>jx F x2 x6 x46) else jx F x2 x6 x3)
def qbx (_F:Nat)(_x1:Int)(x2:qsO)(x5:Int):Option Int :=
  ((idx x2 (iquo .i64 x5 8)).bind fun x7=>(chk (decide (0≤(isub .i64 7 (irem x5 8)))) ((lett (iand .u64 (iconv .u64 (ishr .u8 x7 (isub .i64 7 (irem x5 8)))) 1) fun x11=>some x11))))
def qcV {σ τ:Type}(F:Nat)(yy:σ→Int→Option (σ ⊕ τ))(x4:Int)(x6:Int)(x7:qsO)(rec1:(Int×σ)→Option (σ ⊕ τ))(x22:Int)(x23:σ):Option (σ ⊕ τ) :=
  (if (decide (x22<x4)) then ((qbx F x6 x7 x22).bind fun x44=>((yy x23 x44).bind (Sum.elim (fun x45=>rec1 (iadd .i64 x22 1,x45)) (fun x46=>some (.inr x46))))) else some (.inl x23))
def vH {σ τ:Type}(F:Nat)(yy:σ→Int→Option (σ ⊕ τ))(x4:Int)(x6:Int)(x7:qsO):Nat→(Int×σ)→Option (σ ⊕ τ)
  | 0=>fun _=>none
  | k+1=>fun s=>qcV F yy x4 x6 x7 (vH F yy x4 x6 x7 k) s.1 s.2
def qeQ {σ τ:Type}(F:Nat)(yy:σ→Int→Option (σ ⊕ τ))(x2:Int)(x4:Int)(x6:Int)(x7:qsO)(s0:σ):Option (σ ⊕ τ) :=
  vH F yy x4 x6 x7 F (x2,s0)
def qfi (F:Nat)(x45:Int)(x48:qsO)(x53:Int):Option ((Int×qsO) ⊕ Empty) :=
  ((qaS F x45 x48 x53).bind fun x54=>some (.inl (x54.1,x54.2)))
def qb9 (F:Nat)(x1:Int)(x2:qsO)(x5:Int)(x6:qsO):Option (Int×qsO) :=
  ((qgK F x1 x2).bind fun x12=>((qf5 F x5 x6 0 x5).bind fun _x37=>((qeQ F (fun ((x45,x48):(Int×qsO)) (x53:Int)=>qfi F x45 x48 x53) 0 x5 x5 x6 (x12.1,x12.2)).bind (Sum.elim (fun ((x45,x48):(Int×qsO))=>some (x45,x48)) (fun t=>t.elim)))))
def qaE (F:Nat)(x6:Int)(rec1:(Int×Int×qsO)→Option (Int×qsO))(x18:Int)(x19:Int)(x22:qsO):Option (Int×qsO) :=
  (if (decide (0≤x18)) then (chk (decide (0≤x18)) (((qaS F x19 x22 (iand .u64 (ishr .u64 x6 x18) 1)).bind fun x40=>rec1 (isub .i64 x18 1,x40.1,x40.2)))) else some (x19,x22))
def yk (F:Nat)(x6:Int):Nat→(Int×Int×qsO)→Option (Int×qsO)
  | 0=>fun _=>none
  | k+1=>fun s=>qaE F x6 (yk F x6 k) s.1 s.2.1 s.2.2
def qcb (F:Nat)(x2:Int)(x3:qsO)(x6:Int)(x7:Int):Option (Int×qsO) :=
  yk F x6 F (isub .i64 x7 1,x2,x3)
def jw (F:Nat)(x1:Int)(x2:qsO)(x5:Int)(x6:Int):Option (Int×qsO) :=
  ((qgK F x1 x2).bind fun x9=>((qcb F x9.1 x9.2 x5 x6).bind fun x13=>some (x13.1,x13.2)))
def jE (_F:Nat)(x9:Int)(x10:Int):Option Int :=
  ((idx ([0,1,2,2,3,3,3,3,4,4,4,4,4,4,4,4,5,5,5,5,5,5,5,5,5,5,5,5,5,5,5,5,6,6,6,6,6,6,6,6,6,6,6,6,6,6,6,6,6,6,6,6,6,6,6,6,6,6,6,6,6,6,6,6,7,7,7,7,7,7,7,7,7,7,7,7,7,7,7,7,7,7,7,7,7,7,7,7,7,7,7,7,7,7,7,7,7,7,7,7,7,7,7,7,7,7,7,7,7,7,7,7,7,7,7,7,7,7,7,7,7,7,7,7,7,7,7,7,8,8,8,8,8,8,8,8,8,8,8,8,8,8,8,8,8,8,8,8,8,8,8,8,8,8,8,8,8,8,8,8,8,8,8,8,8,8,8,8,8,8,8,8,8,8,8,8,8,8,8,8,8,8,8,8,8,8,8,8,8,8,8,8,8,8,8,8,8,8,8,8,8,8,8,8,8,8,8,8,8,8,8,8,8,8,8,8,8,8,8,8,8,8,8,8,8,8,8,8,8,8,8,8,8,8,8,8,8,8,8,8,8,8,8,8,8,8,8,8,8,8,8,8,8,8,8,8]:qsO) (iconv .u8 x9)).bind fun x11=>some (iadd .i64 x10 (iconv .i64 x11)))
def jD (F:Nat)(x6:Int)(x7:Int):Option Int :=
  (if (decide (256≤x6)) then jE F (ishr .u64 x6 8) (iadd .i64 x7 8) else jE F x6 x7)
def jC (F:Nat)(x3:Int)(x4:Int):Option Int :=
  (if (decide (65536≤x3)) then jD F (ishr .u64 x3 16) (iadd .i64 x4 16) else jD F x3 x4)
def jp (F:Nat)(x1:Int):Option Int :=
  (if (decide (4294967296≤x1)) then jC F (ishr .u64 x1 32) 32 else jC F x1 0)
def qhb (F:Nat)(x1:Int):Option Int :=
  ((jp F (iadd .u64 x1 1)).bind fun x2=>some (isub .i64 x2 1))
def qfJ (F:Nat)(x1:Int):Option (Int×qsO) :=
  ((mk 140737488355328 (0:Int) (iquo .u64 (iadd .u64 x1 7) 8)).bind fun x3=>((jw F (iconv .i64 x1) x3 1 1).bind fun x6=>some (x6.1,x6.2)))
def qh0 (_F:Nat)(x1:Int)(x2:Int):Option Int :=
  (chk (decide (0≤x2)) ((lett (iand .u64 x1 (isub .u64 (ishl .u64 1 x2) 1)) fun x4=>some x4)))
def qbA (F:Nat)(x1:Int):Option (Int×qsO) :=
  ((qhb F x1).bind fun x3=>((qfJ F (iconv .u64 x3)).bind fun x4=>((qh0 F (iadd .u64 x1 1) x3).bind fun x7=>((jw F x4.1 x4.2 x7 x3).bind fun x8=>some (x8.1,x8.2)))))
def qfx (_F:Nat)(x1:Int):Option Bool :=
  some ((decide (0≤x1)) && (decide (x1≤1048576)))
def qeX (_F:Nat):Option Int :=
  some 0
def qeW (F:Nat)(x1:qsO)(rec3:(Int×Int)→Option Int)(x88:Int)(x89:Int):Option Int :=
  (if (decide (x89<(x1.length:Int))) then ((idx x1 x89).bind fun x0=>((qfx F x0).bind fun x2=>(if (!x2) then some 3 else (if (decide (x0≤x88)) then some 4 else rec3 (x0,iadd .i64 x89 1))))) else qeX F)
def qan (F:Nat)(x1:qsO):Nat→(Int×Int)→Option Int
  | 0=>fun _=>none
  | k+1=>fun s=>qeW F x1 (qan F x1 k) s.1 s.2
def jS (F:Nat)(x1:qsO):Option Int :=
  (if (decide (300<(x1.length:Int))) then some 2 else qan F x1 F (-1,0))
def jJ (F:Nat)(x2:Int)(x3:qsO)(x7:Int)(x8:qsO)(x13:Bool):Option (Int×qsO×Bool) :=
  (if (!x13) then ((qb9 F x2 x3 x7 x8).bind fun x14=>some (x14.1,x14.2,x13)) else some (x2,x3,x13))
def qa9 (F:Nat)(x2:Int)(x3:qsO)(x6:Bool)(x7:Int)(x8:qsO):Option (Int×qsO×Bool) :=
  (if x6 then jJ F x2 x3 x7 x8 true else jJ F x2 x3 x7 x8 (decide (8192<(iadd .i64 x2 x7))))
def zV (F:Nat)(x2:Int)(x3:qsO)(x6:Bool)(x7:Int):Option (Int×qsO×Bool) :=
  ((qbA F (iconv .u64 x7)).bind fun x8=>((qa9 F x2 x3 x6 x8.1 x8.2).bind fun x11=>some (x11.1,x11.2.1,x11.2.2)))
def qaT (_F:Nat)(x1:Int)(x2:Int)(x6:Bool):Option Bool :=
  some (x6 || (decide (x1<x2)))
def qfl (F:Nat)(x1:Int)(x2:Int):Option Bool :=
  ((yU F x1).bind fun x3=>(if x3 then ((yU F x2).bind fun x8=>qaT F x1 x2 (!x8)) else qaT F x1 x2 false))
def qax (_F:Nat)(x1:Int):Option Bool :=
  some ((x1:Int) != x1)
def kK (_F:Nat)(x32:Int)(x55:Bool):Option (Int×Bool) :=
  some (x32,x55)
def kL (F:Nat)(x32:Int)(x68:Bool):Option (Int×Bool) :=
  kK F x32 x68
def kM (F:Nat)(x32:Int)(x75:Bool):Option (Int×Bool) :=
  kL F x32 x75
def y8 (F:Nat)(x1:qsO)(x4:Int)(x32:Int):Option (Int×Bool) :=
  (if (decide (x32<(x1.length:Int))) then ((idx x1 x32).bind fun x56=>(if ((x56:Int) == x4) then kL F x32 true else ((idx x1 x32).bind fun x69=>((qax F x69).bind fun x72=>(if x72 then ((qax F x4).bind fun x76=>kM F x32 x76) else kM F x32 false))))) else kK F x32 false)
def yR (F:Nat)(x1:qsO)(x4:Int)(rec10:(Int×Int)→Option (Int×Bool))(x85:Int)(x86:Int):Option (Int×Bool) :=
  (if (decide (x85<x86)) then (lett (iconv .i64 (ishr .u64 (iconv .u64 (iadd .i64 x85 x86)) 1)) fun x97=>((idx x1 x97).bind fun x98=>((qfl F x98 x4).bind fun x0=>(if x0 then rec10 (iadd .i64 x97 1,x86) else rec10 (x85,x97))))) else y8 F x1 x4 x85)
def zS (F:Nat)(x1:qsO)(x4:Int):Nat→(Int×Int)→Option (Int×Bool)
  | 0=>fun _=>none
  | k+1=>fun s=>yR F x1 x4 (zS F x1 x4 k) s.1 s.2
def kp (F:Nat)(x1:qsO)(x4:Int):Option (Int×Bool) :=
  zS F x1 x4 F (0,(x1.length:Int))
def v8 (_F:Nat)(x21:qsO)(x22:Bool)(x23:Int):Option (qsO×Bool×Int) :=
  some (x21,x22,iadd .i64 x23 1)
def qdc (F:Nat)(x2:qsO)(x5:Bool)(x6:Int)(x7:Bool):Option (qsO×Bool×Int) :=
  (if (x7 != x5) then ((app 8796093022208 x2 ([x6]:qsO)).bind fun x31=>v8 F x31 x7 0) else v8 F x2 x5 x6)
def qfE (_F:Nat)(x66:qsO)(x0:qsO):Option (qsO×qsO) :=
  some (x66,x0)
def qcy (_F:Nat)(rec10:(qsO×Int)→Option (qsO×qsO))(x0:Int)(x1:qsO):Option (qsO×qsO) :=
  rec10 (x1,iadd .i64 x0 1)
def qe2 (F:Nat)(x1:qsO)(x4:qsO)(x66:qsO)(rec10:(qsO×Int)→Option (qsO×qsO))(x0:qsO)(x2:Int):Option (qsO×qsO) :=
  (if (decide (x2<(x4.length:Int))) then ((idx x4 x2).bind fun x3=>((kp F x1 x3).bind fun x5=>(if (!x5.2) then ((app 8796093022208 x0 ([x3]:qsO)).bind fun x6=>qcy F rec10 x2 x6) else qcy F rec10 x2 x0))) else qfE F x66 x0)
def vT (F:Nat)(x1:qsO)(x4:qsO)(x66:qsO):Nat→(qsO×Int)→Option (qsO×qsO)
  | 0=>fun _=>none
  | k+1=>fun s=>qe2 F x1 x4 x66 (vT F x1 x4 x66 k) s.1 s.2
def qfD (F:Nat)(x1:qsO)(x4:qsO)(x66:qsO)(_x67:Bool)(_x68:Int):Option (qsO×qsO) :=
  vT F x1 x4 x66 F (([]:qsO),0)
def qe3 (F:Nat)(x1:qsO)(x4:qsO)(rec12:(Int×qsO×Bool×Int)→Option (qsO×qsO))(x0:Int)(x2:qsO)(x3:Bool)(x5:Int):Option (qsO×qsO) :=
  (if (decide (x0<(x1.length:Int))) then ((idx x1 x0).bind fun x6=>((kp F x4 x6).bind fun x7=>((qdc F x2 x3 x5 x7.2).bind fun x8=>rec12 (iadd .i64 x0 1,x8.1,x8.2.1,x8.2.2)))) else qfD F x1 x4 x2 x3 x5)
def qap (F:Nat)(x1:qsO)(x4:qsO):Nat→(Int×qsO×Bool×Int)→Option (qsO×qsO)
  | 0=>fun _=>none
  | k+1=>fun s=>qe3 F x1 x4 (qap F x1 x4 k) s.1 s.2.1 s.2.2.1 s.2.2.2
def qh4 (F:Nat)(x1:qsO)(x4:qsO):Option (qsO×qsO) :=
  qap F x1 x4 F (0,([]:qsO),true,0)
def qaM (F:Nat)(x7:qsO)(rec1:(Int×Int×qsO×Bool)→Option (Int×qsO×Bool))(x27:Int)(x28:Int)(x31:qsO)(x32:Bool):Option (Int×qsO×Bool) :=
  (if (decide (x27<(x7.length:Int))) then ((idx x7 x27).bind fun x55=>((zV F x28 x31 x32 (isub .i64 x55 (imin x27 1))).bind fun x58=>rec1 (iadd .i64 x27 1,x58.1,x58.2.1,x58.2.2))) else some (x28,x31,x32))
def yr (F:Nat)(x7:qsO):Nat→(Int×Int×qsO×Bool)→Option (Int×qsO×Bool)
  | 0=>fun _=>none
  | k+1=>fun s=>qaM F x7 (yr F x7 k) s.1 s.2.1 s.2.2.1 s.2.2.2
def qcl (F:Nat)(x2:Int)(x3:qsO)(x6:Bool)(x7:qsO):Option (Int×qsO×Bool) :=
  ((zV F x2 x3 x6 (x7.length:Int)).bind fun x10=>yr F x7 F (0,x10.1,x10.2.1,x10.2.2))
def qh5 (_F:Nat)(_x1:qsO):Option Unit :=
  some ()
def qdO {σ τ:Type}(_F:Nat)(yy:σ→(Int×Int)→Option (σ ⊕ τ))(rec31:(Int×σ)→Option (σ ⊕ τ))(x2:qsO)(x0:Int)(x1:σ)(x3:Int):Option (σ ⊕ τ) :=
  ((idx x2 x0).bind fun x4=>((yy x1 (x4,x3)).bind (Sum.elim (fun x5=>rec31 (iadd .i64 x0 x3,x5)) (fun x6=>some (.inr x6)))))
def qa7 {σ τ:Type}(F:Nat)(yy:σ→(Int×Int)→Option (σ ⊕ τ))(rec31:(Int×σ)→Option (σ ⊕ τ))(rec44:Int→Option (σ ⊕ τ))(x2:qsO)(x0:Int)(x1:σ)(x3:Int)(x4:Bool):Option (σ ⊕ τ) :=
  (if x4 then rec44 (iadd .i64 x3 1) else qdO F yy rec31 x2 x0 x1 x3)
def qdN {σ τ:Type}(F:Nat)(yy:σ→(Int×Int)→Option (σ ⊕ τ))(rec31:(Int×σ)→Option (σ ⊕ τ))(x2:qsO)(x0:Int)(x1:σ)(rec44:Int→Option (σ ⊕ τ))(x3:Int):Option (σ ⊕ τ) :=
  (if (decide ((iadd .i64 x0 x3)<(x2.length:Int))) then ((idx x2 (iadd .i64 x0 x3)).bind fun x4=>((idx x2 x0).bind fun x5=>qa7 F yy rec31 rec44 x2 x0 x1 x3 ((x4:Int) == (iadd .i64 x5 x3)))) else qa7 F yy rec31 rec44 x2 x0 x1 x3 false)
def y6 {σ τ:Type}(F:Nat)(yy:σ→(Int×Int)→Option (σ ⊕ τ))(rec31:(Int×σ)→Option (σ ⊕ τ))(x2:qsO)(x0:Int)(x1:σ):Nat→Int→Option (σ ⊕ τ)
  | 0=>fun _=>none
  | k+1=>fun s=>qdN F yy rec31 x2 x0 x1 (y6 F yy rec31 x2 x0 x1 k) s
def qdM {σ τ:Type}(F:Nat)(yy:σ→(Int×Int)→Option (σ ⊕ τ))(x2:qsO)(rec31:(Int×σ)→Option (σ ⊕ τ))(x0:Int)(x1:σ):Option (σ ⊕ τ) :=
  (if (decide (x0<(x2.length:Int))) then y6 F yy rec31 x2 x0 x1 F 1 else some (.inl x1))
def zN {σ τ:Type}(F:Nat)(yy:σ→(Int×Int)→Option (σ ⊕ τ))(x2:qsO):Nat→(Int×σ)→Option (σ ⊕ τ)
  | 0=>fun _=>none
  | k+1=>fun s=>qdM F yy x2 (zN F yy x2 k) s.1 s.2
def qgl {σ τ:Type}(F:Nat)(yy:σ→(Int×Int)→Option (σ ⊕ τ))(x2:qsO)(s0:σ):Option (σ ⊕ τ) :=
  zN F yy x2 F (0,s0)
def qgj (_F:Nat)(x0:List (Int×Int))(x1:Int)(x2:Int)(rec8:(Int×qsO)→Option ((qsO×List (Int×Int)) ⊕ Empty))(x3:Int)(x4:qsO):Option ((qsO×List (Int×Int)) ⊕ Empty) :=
  (if (decide (x3<x2)) then ((app 8796093022208 x4 ([iadd .i64 x1 x3]:qsO)).bind fun x5=>rec8 (iadd .i64 x3 1,x5)) else some (.inl (x4,x0)))
def qb0 (F:Nat)(x0:List (Int×Int))(x1:Int)(x2:Int):Nat→(Int×qsO)→Option ((qsO×List (Int×Int)) ⊕ Empty)
  | 0=>fun _=>none
  | k+1=>fun s=>qgj F x0 x1 x2 (qb0 F x0 x1 x2 k) s.1 s.2
def qgk (F:Nat)(x4:Int)(x0:qsO)(x1:List (Int×Int))(x2:Int)(x3:Int):Option ((qsO×List (Int×Int)) ⊕ Empty) :=
  (if (decide (x4≤x3)) then ((app 4398046511104 x1 ([(x2,x3)]:List (Int×Int))).bind fun x5=>some (.inl (x0,x5))) else qb0 F x1 x2 x3 F (0,x0))
def qiH (F:Nat)(x1:qsO)(x4:Int):Option (List (Int×Int)×qsO) :=
  ((qh5 F x1).bind fun _x188=>((qgl F (fun ((x0,x2):(qsO×List (Int×Int))) ((x3,x5):(Int×Int))=>qgk F x4 x0 x2 x3 x5) x1 (([]:qsO),([]:List (Int×Int)))).bind (Sum.elim (fun ((x0,x2):(qsO×List (Int×Int)))=>some (x2,x0)) (fun t=>t.elim))))
def qeb (_F:Nat)(x1:Int):Option Int :=
  (lett (ixor .u64 (ishl .u64 (iconv .u64 x1) 1) (iconv .u64 (ishr .i64 x1 63))) fun x2=>some x2)
def jf (F:Nat)(rec5:(Int×Int×Int×qsO×Bool)→Option (Int×qsO×Bool))(x8:Int)(x74:Int)(x0:(Int×Int))(x1:Int)(x2:qsO)(x3:Bool):Option (Int×qsO×Bool) :=
  ((zV F x1 x2 x3 (isub .i64 x0.2 x8)).bind fun x4=>rec5 (isub .i64 (iadd .i64 x0.1 x0.2) 1,iadd .i64 x74 1,x4.1,x4.2.1,x4.2.2))
def qbv (F:Nat)(x8:Int)(x9:List (Int×Int))(rec5:(Int×Int×Int×qsO×Bool)→Option (Int×qsO×Bool))(x73:Int)(x74:Int)(x75:Int)(x78:qsO)(x79:Bool):Option (Int×qsO×Bool) :=
  (if (decide (x74<(x9.length:Int))) then ((idx x9 x74).bind fun x0=>(if ((x74:Int) == 0) then ((qeb F (isub .i64 x0.1 x73)).bind fun x1=>((zV F x75 x78 x79 (iconv .i64 x1)).bind fun x2=>jf F rec5 x8 x74 x0 x2.1 x2.2.1 x2.2.2)) else ((zV F x75 x78 x79 (isub .i64 (isub .i64 x0.1 x73) 2)).bind fun x3=>jf F rec5 x8 x74 x0 x3.1 x3.2.1 x3.2.2))) else some (x75,x78,x79))
def k6 (F:Nat)(x8:Int)(x9:List (Int×Int)):Nat→(Int×Int×Int×qsO×Bool)→Option (Int×qsO×Bool)
  | 0=>fun _=>none
  | k+1=>fun s=>qbv F x8 x9 (k6 F x8 x9 k) s.1 s.2.1 s.2.2.1 s.2.2.2.1 s.2.2.2.2
def qdl (F:Nat)(x2:Int)(x3:qsO)(x6:Bool)(x7:Int)(x8:Int)(x9:List (Int×Int)):Option (Int×qsO×Bool) :=
  ((zV F x2 x3 x6 (x9.length:Int)).bind fun x12=>k6 F x8 x9 F (x7,0,x12.1,x12.2.1,x12.2.2))
def qgg (F:Nat)(x1:Int)(x2:Int):Option (Int×Int×Int) :=
  ((jp F (iadd .u64 x1 1)).bind fun x3=>(chk ((x2:Int) != 0) ((chk (decide (0≤(imul .i64 (iquo .i64 (isub .i64 x3 1) x2) x2))) ((chk (decide (0≤(iadd .i64 (imul .i64 (iquo .i64 (isub .i64 x3 1) x2) x2) x2))) (some (iquo .i64 (isub .i64 x3 1) x2,ishl .u64 1 (imul .i64 (iquo .i64 (isub .i64 x3 1) x2) x2),ishl .u64 1 (iadd .i64 (imul .i64 (iquo .i64 (isub .i64 x3 1) x2) x2) x2)))))))))
def qc5 (F:Nat)(x1:Int):Option (Int×Int) :=
  ((jp F (isub .u64 x1 1)).bind fun x2=>(chk (decide (0≤x2)) (some (x2,isub .u64 (ishl .u64 1 x2) x1))))
def qdG (F:Nat)(x1:Int)(x2:qsO)(x5:Int)(x6:Int):Option (Int×qsO) :=
  ((qc5 F x6).bind fun x9=>(if (decide (x5<x9.2)) then ((jw F x1 x2 x5 (isub .i64 x9.1 1)).bind fun x14=>some (x14.1,x14.2)) else ((jw F x1 x2 (iadd .u64 x5 x9.2) x9.1).bind fun x17=>some (x17.1,x17.2))))
def qgf (F:Nat)(x1:Int)(x2:Int):Option (Int×qsO×Int) :=
  (if (((decide (x2<1)) || (decide (16<x2))) || (decide (1099511627776<x1))) then some (0,([]:qsO),3) else ((qgg F x1 x2).bind fun x9=>((qfJ F (iconv .u64 x9.1)).bind fun x10=>((qdG F x10.1 x10.2 (isub .u64 (iadd .u64 x1 1) x9.2.1) (isub .u64 x9.2.2 x9.2.1)).bind fun x13=>some (x13.1,x13.2,0)))))
def qgc (_F:Nat)(x0:Int)(x1:qsO):Option (Int×qsO×Bool) :=
  some (x0,x1,true)
def qgb (F:Nat)(x5:qsO)(x8:Int)(rec3:(Int×Int×qsO)→Option (Int×qsO×Bool))(x0:Int)(x1:Int)(x2:qsO):Option (Int×qsO×Bool) :=
  (if (decide (x0<(x5.length:Int))) then ((idx x5 x0).bind fun x3=>((qgf F x3 x8).bind fun x4=>(if (((x4.2.2:Int) != 0) || (decide (8192<(iadd .i64 x1 x4.1)))) then some (0,([]:qsO),false) else ((qb9 F x1 x2 x4.1 x4.2.1).bind fun x6=>rec3 (iadd .i64 x0 1,x6.1,x6.2))))) else qgc F x1 x2)
def qbW (F:Nat)(x5:qsO)(x8:Int):Nat→(Int×Int×qsO)→Option (Int×qsO×Bool)
  | 0=>fun _=>none
  | k+1=>fun s=>qgb F x5 x8 (qbW F x5 x8 k) s.1 s.2.1 s.2.2
def qeE (F:Nat)(x1:Int)(x2:qsO)(x5:qsO)(x8:Int):Option (Int×qsO×Bool) :=
  qbW F x5 x8 F (0,x1,x2)
def jB (_F:Nat)(x4:Int)(x8:Int):Option (Int×Int×Bool) :=
  some (x8,x4,true)
def qdE (F:Nat)(x2:Int)(x3:Bool)(x4:Int):Option (Int×Int×Bool) :=
  (if x3 then (lett (iconv .u64 (isub .i64 (isub .i64 x4 x2) 1)) fun x9=>jB F x4 x9) else ((qeb F (isub .i64 x4 x2)).bind fun x10=>jB F x4 x10))
def qge (_F:Nat)(x75:qsO):Option (qsO) :=
  some x75
def qgd (F:Nat)(x1:qsO)(rec3:(qsO×Int×Int×Bool)→Option (qsO))(x98:qsO)(x99:Int)(x0:Int)(x2:Bool):Option (qsO) :=
  (if (decide (x99<(x1.length:Int))) then ((idx x1 x99).bind fun x3=>((qdE F x0 x2 x3).bind fun x4=>((app 8796093022208 x98 ([x4.1]:qsO)).bind fun x5=>rec3 (x5,iadd .i64 x99 1,x4.2.1,x4.2.2)))) else qge F x98)
def qbX (F:Nat)(x1:qsO):Nat→(qsO×Int×Int×Bool)→Option (qsO)
  | 0=>fun _=>none
  | k+1=>fun s=>qgd F x1 (qbX F x1 k) s.1 s.2.1 s.2.2.1 s.2.2.2
def qgM (F:Nat)(x1:qsO)(x4:Int):Option (qsO) :=
  qbX F x1 F (([]:qsO),0,x4,false)
def yQ (F:Nat)(x52:Int)(x55:qsO)(x56:Bool)(x76:Bool)(x77:Int)(x80:qsO):Option (Int×qsO×Bool) :=
  ((qa9 F x52 x55 (x56 || (!x76)) x77 x80).bind fun x82=>some (x82.1,x82.2.1,x82.2.2))
def je (F:Nat)(x7:Int)(x16:Int)(x51:qsO)(x52:Int)(x55:qsO)(x56:Bool):Option (Int×qsO×Bool) :=
  ((qgM F x51 x7).bind fun x85=>((qeE F 0 ([]:qsO) x85 x16).bind fun x88=>yQ F x52 x55 x56 x88.2.2 x88.1 x88.2.1))
def jd (F:Nat)(x7:Int)(x15:Int)(x16:Int)(x33:qsO)(x34:Int)(x37:qsO)(x38:Bool):Option (Int×qsO×Bool) :=
  (if (((x33.length:Int):Int) == 0) then some (x34,x37,x38) else (if (decide (0<x15)) then ((qiH F x33 x15).bind fun x0=>((qdl F x34 x37 x38 x7 x15 x0.1).bind fun x1=>je F x7 x16 x0.2 x1.1 x1.2.1 x1.2.2)) else je F x7 x16 x33 x34 x37 x38))
def qaz (F:Nat)(x2:Int)(x3:qsO)(x6:Bool)(x7:Int)(x8:qsO)(x11:qsO)(x14:Int)(x15:Int)(x16:Int):Option (Int×qsO×Bool) :=
  ((zV F x2 x3 x6 (x8.length:Int)).bind fun x18=>(if (((x8.length:Int):Int) == 0) then some (x18.1,x18.2.1,x18.2.2) else (if (decide (0<x14)) then ((qh4 F x11 x8).bind fun x0=>((qcl F x18.1 x18.2.1 x18.2.2 x0.1).bind fun x1=>jd F x7 x15 x16 x0.2 x1.1 x1.2.1 x1.2.2)) else jd F x7 x15 x16 x8 x18.1 x18.2.1 x18.2.2)))
def qhm (F:Nat)(x1:Int)(x2:qsO)(x5:Int)(_x6:Int)(_x7:Int):Option Int :=
  (if ((decide (x1<0)) || (decide (1048576<x1))) then some 3 else (if (decide (0<x5)) then ((jS F x2).bind fun x14=>some x14) else some 0))
def qcG (F:Nat)(x1:Int)(x2:qsO)(x5:qsO)(x8:Int)(x9:Int)(x10:Int)(x25:Int):Option (Int×qsO×Int) :=
  (if ((x25:Int) != 0) then some (0,([]:qsO),x25) else ((qaz F 0 ([]:qsO) false x1 x2 x5 x8 x9 x10).bind fun x28=>(if x28.2.2 then some (0,([]:qsO),8) else some (x28.1,x28.2.1,0))))
def qcF (F:Nat)(x1:Int)(x2:qsO)(x5:qsO)(x8:Int)(x9:Int)(x10:Int)(x22:Int):Option (Int×qsO×Int) :=
  (if ((x22:Int) == 0) then ((qhm F x1 x5 x8 x9 x10).bind fun x34=>qcG F x1 x2 x5 x8 x9 x10 x34) else qcG F x1 x2 x5 x8 x9 x10 x22)
def qcE (F:Nat)(x1:Int)(x2:qsO)(x5:qsO)(x8:Int)(x9:Int)(x10:Int)(x19:Int):Option (Int×qsO×Int) :=
  (if ((x19:Int) == 0) then ((jS F x2).bind fun x36=>qcF F x1 x2 x5 x8 x9 x10 x36) else qcF F x1 x2 x5 x8 x9 x10 x19)
def qcH (F:Nat)(x1:Int)(x2:qsO)(x5:qsO)(x8:Int)(x9:Int)(x10:Int)(x13:Int)(x40:Bool):Option (Int×qsO×Int) :=
  (if x40 then qcE F x1 x2 x5 x8 x9 x10 3 else qcE F x1 x2 x5 x8 x9 x10 x13)
def qhl (F:Nat)(x1:Int)(x2:qsO)(x5:qsO)(x8:Int)(x9:Int)(x10:Int):Option (Int×qsO×Int) :=
  ((yC F x8 x9 x10).bind fun x13=>(if ((x13:Int) == 0) then qcH F x1 x2 x5 x8 x9 x10 x13 ((decide (x1<0)) || (decide (1048576<x1))) else qcH F x1 x2 x5 x8 x9 x10 x13 false))
def qda (F:Nat)(x1:List (qsO))(x4:qsO)(x7:Int)(x9:Int)(x10:Int)(x18:Int)(x21:qsO)(x29:qsO):Option (Int×Int×qsO×Bool) :=
  ((qhl F (x1.length:Int) x4 x29 x7 x9 x10).bind fun x30=>(if (((x30.2.2:Int) != 0) || (decide (8192<(iadd .i64 x18 x30.1)))) then some (0,0,([]:qsO),false) else ((qb9 F x18 x21 x30.1 x30.2.1).bind fun x37=>some (x7,x37.1,x37.2,true))))
def qc9 (F:Nat)(x1:List (qsO))(x4:qsO)(x7:Int)(x9:Int)(x10:Int)(x18:Int)(x21:qsO):Option (Int×Int×qsO×Bool) :=
  (if (decide (0<x7)) then ((idx x1 (isub .i64 (x1.length:Int) x7)).bind fun x41=>qda F x1 x4 x7 x9 x10 x18 x21 x41) else qda F x1 x4 x7 x9 x10 x18 x21 ([]:qsO))
def qh3 (F:Nat)(x1:List (qsO))(x4:qsO)(x7:Int)(x8:Int)(x9:Int)(x10:Int):Option (Int×Int×qsO×Bool) :=
  (if (decide (0<x8)) then ((qbA F (iconv .u64 x7)).bind fun x46=>qc9 F x1 x4 x7 x9 x10 x46.1 x46.2) else qc9 F x1 x4 x7 x9 x10 0 ([]:qsO))
def qfC (_F:Nat)(x96:Bool)(x97:Int)(x98:Int)(x0:qsO):Option (Int×Int×qsO×Bool) :=
  some (x97,x98,x0,x96)
def qcu (_F:Nat)(rec14:(Bool×Int×Int×Int×qsO)→Option (Int×Int×qsO×Bool))(x0:Int)(x1:Bool)(x2:Int)(x3:Int)(x4:qsO):Option (Int×Int×qsO×Bool) :=
  rec14 (x1,iadd .i64 x0 1,x2,x3,x4)
def qcv (F:Nat)(rec14:(Bool×Int×Int×Int×qsO)→Option (Int×Int×qsO×Bool))(x0:Bool)(x1:Int)(x2:Int)(x3:Int)(x4:qsO)(x5:(Int×Int×qsO×Bool))(x6:Bool):Option (Int×Int×qsO×Bool) :=
  (if x6 then qcu F rec14 x1 true x5.1 x5.2.1 x5.2.2.1 else qcu F rec14 x1 x0 x2 x3 x4)
def qeZ (F:Nat)(x1:List (qsO))(x4:qsO)(x7:Int)(x8:Int)(x9:Int)(rec14:(Bool×Int×Int×Int×qsO)→Option (Int×Int×qsO×Bool))(x0:Bool)(x2:Int)(x3:Int)(x5:Int)(x6:qsO):Option (Int×Int×qsO×Bool) :=
  (if (decide (x2<(iadd .i64 (imin x7 (x1.length:Int)) 1))) then ((qh3 F x1 x4 x2 x7 x8 x9).bind fun x10=>(if x10.2.2.2 then qcv F rec14 x0 x2 x3 x5 x6 x10 ((!x0) || (decide (x10.2.1<x5))) else qcv F rec14 x0 x2 x3 x5 x6 x10 false)) else qfC F x0 x3 x5 x6)
def yV (F:Nat)(x1:List (qsO))(x4:qsO)(x7:Int)(x8:Int)(x9:Int):Nat→(Bool×Int×Int×Int×qsO)→Option (Int×Int×qsO×Bool)
  | 0=>fun _=>none
  | k+1=>fun s=>qeZ F x1 x4 x7 x8 x9 (yV F x1 x4 x7 x8 x9 k) s.1 s.2.1 s.2.2.1 s.2.2.2.1 s.2.2.2.2
def qfB (F:Nat)(x1:List (qsO))(x4:qsO)(x7:Int)(x8:Int)(x9:Int):Option (Int×Int×qsO×Bool) :=
  yV F x1 x4 x7 x8 x9 F (false,0,0,0,([]:qsO))
def qa4 (_F:Nat)(x2:Int)(x3:Int)(x4:Int)(x5:Int)(x0:Int)(x1:qsO)(x6:qsO)(x7:qsO):Option (Bool×Int×Int×Int×Int×Int×qsO×qsO×qsO) :=
  some (true,x2,x3,x4,x5,x0,x1,x6,x7)
def yA (F:Nat)(rec43:(Int×Int×qsO×qsO×qsO)→Option (Bool×Int×Int×Int×Int×Int×qsO×qsO×qsO))(x0:Int)(x1:Int)(x2:qsO)(x3:Int)(x4:qsO)(x5:qsO)(x6:qsO):Option (Bool×Int×Int×Int×Int×Int×qsO×qsO×qsO) :=
  ((qb9 F x1 x2 x3 x4).bind fun x7=>rec43 (iadd .i64 x0 1,x7.1,x7.2,x5,x6))
def vK (F:Nat)(rec43:(Int×Int×qsO×qsO×qsO)→Option (Bool×Int×Int×Int×Int×Int×qsO×qsO×qsO))(x2:Int)(x3:Int)(x4:Int)(x5:Int)(x0:Int)(x1:Int)(x6:qsO)(x7:qsO)(x8:qsO)(x9:Int)(x10:Int)(x11:qsO)(x12:Bool):Option (Bool×Int×Int×Int×Int×Int×qsO×qsO×qsO) :=
  (if x12 then some (false,x2,x3,x4,x5,x1,x6,x7,x8) else ((app 8796093022208 x7 ([x9]:qsO)).bind fun x13=>((app 8796093022208 x8 ([x1]:qsO)).bind fun x14=>yA F rec43 x0 x1 x6 x10 x11 x13 x14)))
def vJ (F:Nat)(rec43:(Int×Int×qsO×qsO×qsO)→Option (Bool×Int×Int×Int×Int×Int×qsO×qsO×qsO))(x2:Int)(x3:Int)(x4:Int)(x5:Int)(x0:Int)(x1:Int)(x6:qsO)(x7:qsO)(x8:qsO)(x9:Bool)(x10:Int)(x11:Int)(x12:qsO):Option (Bool×Int×Int×Int×Int×Int×qsO×qsO×qsO) :=
  (if (!x9) then vK F rec43 x2 x3 x4 x5 x0 x1 x6 x7 x8 x10 x11 x12 true else vK F rec43 x2 x3 x4 x5 x0 x1 x6 x7 x8 x10 x11 x12 (decide (8192<(iadd .i64 x1 x11))))
def qa3 (F:Nat)(x2:Int)(x3:Int)(x4:Int)(x5:Int)(x16:List (qsO))(rec43:(Int×Int×qsO×qsO×qsO)→Option (Bool×Int×Int×Int×Int×Int×qsO×qsO×qsO))(x0:Int)(x1:Int)(x6:qsO)(x7:qsO)(x8:qsO):Option (Bool×Int×Int×Int×Int×Int×qsO×qsO×qsO) :=
  (if (decide (x0<(x16.length:Int))) then ((idx x16 x0).bind fun x9=>((sub x16 0 x0).bind fun x10=>((qfB F x10 x9 x3 x4 x5).bind fun x11=>vJ F rec43 x2 x3 x4 x5 x0 x1 x6 x7 x8 x11.2.2.2 x11.1 x11.2.1 x11.2.2.1))) else qa4 F x2 x3 x4 x5 x1 x6 x7 x8)
def zi (F:Nat)(x2:Int)(x3:Int)(x4:Int)(x5:Int)(x16:List (qsO)):Nat→(Int×Int×qsO×qsO×qsO)→Option (Bool×Int×Int×Int×Int×Int×qsO×qsO×qsO)
  | 0=>fun _=>none
  | k+1=>fun s=>qa3 F x2 x3 x4 x5 x16 (zi F x2 x3 x4 x5 x16 k) s.1 s.2.1 s.2.2.1 s.2.2.2.1 s.2.2.2.2
def qc8 (F:Nat)(x2:Int)(x3:Int)(x4:Int)(x5:Int)(x6:Int)(x7:qsO)(x10:qsO)(x13:qsO)(x16:List (qsO)):Option (Bool×Int×Int×Int×Int×Int×qsO×qsO×qsO) :=
  zi F x2 x3 x4 x5 x16 F (0,x6,x7,x10,x13)
def qbD (_F:Nat)(x48:Int)(x49:Int)(x50:Int)(x51:Int)(x52:Int)(x53:Int)(x56:qsO)(x59:qsO)(x62:qsO):Option (Int×Int×Int×Int×Int×qsO×qsO×qsO×Int) :=
  some (x49,x50,x51,x52,x53,x56,x59,x62,x48)
def qbE (F:Nat)(x12:Int)(x74:Bool)(x75:Int)(x76:Int)(x77:Int)(x78:Int)(x79:Int)(x82:qsO)(x85:qsO)(x88:qsO):Option (Int×Int×Int×Int×Int×qsO×qsO×qsO×Int) :=
  (if x74 then qbD F 8 x75 x76 x77 x78 x79 x82 x85 x88 else qbD F x12 x75 x76 x77 x78 x79 x82 x85 x88)
def qbC (F:Nat)(x1:List (qsO))(x4:Int)(x5:Int)(x6:Int)(x12:Int):Option (Int×Int×Int×Int×Int×qsO×qsO×qsO×Int) :=
  (if ((x12:Int) == 0) then ((qc8 F (x1.length:Int) x4 x5 x6 0 ([]:qsO) ([]:qsO) ([]:qsO) x1).bind fun x90=>qbE F x12 (!x90.1) x90.2.1 x90.2.2.1 x90.2.2.2.1 x90.2.2.2.2.1 x90.2.2.2.2.2.1 x90.2.2.2.2.2.2.1 x90.2.2.2.2.2.2.2.1 x90.2.2.2.2.2.2.2.2) else qbE F x12 false (x1.length:Int) x4 x5 x6 0 ([]:qsO) ([]:qsO) ([]:qsO))
def qd8 (F:Nat)(x1:List (qsO))(x4:Int)(x5:Int)(x6:Int):Option (Int×Int×Int×Int×Int×qsO×qsO×qsO×Int) :=
  ((kd F x1).bind fun x9=>(if ((x9:Int) == 0) then ((yC F x4 x5 x6).bind fun x97=>qbC F x1 x4 x5 x6 x97) else qbC F x1 x4 x5 x6 x9))
def qa2 (F:Nat)(x1:List (qsO))(x4:Int)(x5:Int)(x6:Int):Option (Int×Int×Int×Int×Int×qsO×Int) :=
  ((qd8 F x1 x4 x5 x6).bind fun x10=>(if ((x10.2.2.2.2.2.2.2.2:Int) != 0) then some (0,0,0,0,0,([]:qsO),x10.2.2.2.2.2.2.2.2) else some (x10.1,x10.2.1,x10.2.2.1,x10.2.2.2.1,x10.2.2.2.2.1,x10.2.2.2.2.2.1,0)))
def jz (_F:Nat)(x21:Int)(_x22:Int)(_x23:Int)(_x24:Int)(_x25:Int)(x26:Int)(_x29:qsO):Option (Int×qsO) :=
  ((itoaC x26).bind fun x30=>some (x21,x30))
def qdA (F:Nat)(x2:List (qsO))(x5:Int)(x6:Int)(x7:Int)(_x8:qsO)(_x11:qsO):Option (Int×qsO) :=
  ((qa2 F x2 x5 x6 x7).bind fun x31=>jz F x31.2.2.2.2.2.2 x31.1 x31.2.1 x31.2.2.1 x31.2.2.2.1 x31.2.2.2.2.1 x31.2.2.2.2.2.1)
def qfA (F:Nat)(x1:List (qsO))(x4:Int)(x5:Int)(x6:Int):Option (qsO×qsO×Int) :=
  ((qd8 F x1 x4 x5 x6).bind fun x9=>(if ((x9.2.2.2.2.2.2.2.2:Int) != 0) then some (([]:qsO),([]:qsO),x9.2.2.2.2.2.2.2.2) else some (x9.2.2.2.2.2.2.1,x9.2.2.2.2.2.2.2.1,0)))
def qeU (_F:Nat):Option Int :=
  some 0
def qeT (F:Nat)(x1:qsO)(x4:Int)(rec3:(Int×Int)→Option Int)(x92:Int)(x93:Int):Option Int :=
  (if (decide (x93<(x1.length:Int))) then ((idx x1 x93).bind fun x0=>(if ((decide (x0<0)) || (decide (x4<x0))) then some 3 else (if (decide (x0<x92)) then some 4 else rec3 (x0,iadd .i64 x93 1)))) else qeU F)
def qam (F:Nat)(x1:qsO)(x4:Int):Nat→(Int×Int)→Option Int
  | 0=>fun _=>none
  | k+1=>fun s=>qeT F x1 x4 (qam F x1 x4 k) s.1 s.2
def qeC (F:Nat)(x1:qsO)(x4:Int):Option Int :=
  (if ((decide (x4<0)) || (decide (1048576<x4))) then some 3 else (if (decide (300<(x1.length:Int))) then some 2 else qam F x1 x4 F (0,0)))
def qeV (_F:Nat)(x35:Int):Option Int :=
  some x35
def qbB (F:Nat)(rec13:Int→Option Int)(x46:Int)(x65:Bool):Option Int :=
  (if x65 then rec13 (iadd .i64 x46 1) else qeV F x46)
def qep (F:Nat)(x1:Int)(x2:Int)(rec13:Int→Option Int)(x46:Int):Option Int :=
  (if (decide (0<x1)) then (chk (decide (0≤(iadd .i64 x46 1))) (qbB F rec13 x46 (decide ((ishl .i64 x1 (iadd .i64 x46 1))≤(iadd .i64 x2 1))))) else qbB F rec13 x46 false)
def vu (F:Nat)(x1:Int)(x2:Int):Nat→Int→Option Int
  | 0=>fun _=>none
  | k+1=>fun s=>qep F x1 x2 (vu F x1 x2 k) s
def qeD (F:Nat)(x1:Int)(x2:Int):Option Int :=
  vu F x1 x2 F 0
def qbp (F:Nat)(x7:Int)(rec1:(Int×qsO×Int)→Option (Int×qsO×Int))(x16:Int)(x19:qsO)(x20:Int):Option (Int×qsO×Int) :=
  (if (decide (x20<x7)) then ((jw F x16 x19 0 1).bind fun x34=>rec1 (x34.1,x34.2,iadd .i64 x20 1)) else some (x16,x19,x20))
def yO (F:Nat)(x7:Int):Nat→(Int×qsO×Int)→Option (Int×qsO×Int)
  | 0=>fun _=>none
  | k+1=>fun s=>qbp F x7 (yO F x7 k) s.1 s.2.1 s.2.2
def qau (F:Nat)(x2:Int)(x3:qsO)(x6:Int)(x7:Int):Option (Int×qsO×Int) :=
  yO F x7 F (x2,x3,x6)
def qga (F:Nat)(x1:qsO)(x4:Int)(x6:Int)(x0:Int)(x2:qsO)(x3:Int)(x5:Int)(x7:qsO):Option (Int×Int×Int×Int×qsO×Int×qsO×Bool) :=
  ((qau F x0 x2 x3 (iadd .i64 (ishr .i64 x4 x6) 1)).bind fun x8=>some ((x1.length:Int),x4,x6,x5,x7,x8.1,x8.2.1,true))
def qf9 (F:Nat)(x1:qsO)(x4:Int)(x6:Int)(rec3:(Int×Int×qsO×Int×Int×qsO)→Option (Int×Int×Int×Int×qsO×Int×qsO×Bool))(x0:Int)(x2:Int)(x3:qsO)(x5:Int)(x7:Int)(x8:qsO):Option (Int×Int×Int×Int×qsO×Int×qsO×Bool) :=
  (if (decide (x0<(x1.length:Int))) then ((idx x1 x0).bind fun x9=>(chk (decide (0≤x6)) (((jw F x7 x8 (iconv .u64 (iand .i64 x9 (isub .i64 (ishl .i64 1 x6) 1))) x6).bind fun x10=>(chk (decide (0≤x6)) (((qau F x2 x3 x5 (ishr .i64 x9 x6)).bind fun x11=>((jw F x11.1 x11.2.1 1 1).bind fun x12=>rec3 (iadd .i64 x0 1,x12.1,x12.2,x11.2.2,x10.1,x10.2))))))))) else qga F x1 x4 x6 x2 x3 x5 x7 x8)
def qbV (F:Nat)(x1:qsO)(x4:Int)(x6:Int):Nat→(Int×Int×qsO×Int×Int×qsO)→Option (Int×Int×Int×Int×qsO×Int×qsO×Bool)
  | 0=>fun _=>none
  | k+1=>fun s=>qf9 F x1 x4 x6 (qbV F x1 x4 x6 k) s.1 s.2.1 s.2.2.1 s.2.2.2.1 s.2.2.2.2.1 s.2.2.2.2.2
def qgL (F:Nat)(x1:qsO)(x4:Int):Option (Int×Int×Int×Int×qsO×Int×qsO×Bool) :=
  ((qeD F (x1.length:Int) x4).bind fun x6=>(chk (decide (0≤x6)) ((if ((decide (8192<(imul .i64 (x1.length:Int) x6))) || (decide (8192<(iadd .i64 (x1.length:Int) (iadd .i64 (ishr .i64 x4 x6) 1))))) then some (0,0,0,0,([]:qsO),0,([]:qsO),false) else qbV F x1 x4 x6 F (0,0,([]:qsO),0,0,([]:qsO))))))
def qeB (F:Nat)(x1:qsO)(x4:Int):Option (Int×Int×Int×Int×qsO×Int×qsO×Int) :=
  ((qeC F x1 x4).bind fun x8=>(if ((x8:Int) != 0) then some (0,0,0,0,([]:qsO),0,([]:qsO),x8) else ((qgL F x1 x4).bind fun x9=>(if (!x9.2.2.2.2.2.2.2) then some (0,0,0,0,([]:qsO),0,([]:qsO),8) else some (x9.1,x9.2.1,x9.2.2.1,x9.2.2.2.1,x9.2.2.2.2.1,x9.2.2.2.2.2.1,x9.2.2.2.2.2.2.1,0)))))
def qgo (F:Nat)(x1:List (qsO))(x4:Int)(x5:Int)(x6:Int)(x7:Int)(x8:Int)(x9:qsO):Option (Int×Int×Int×Int×Int×qsO×Int×Int×Int×Int×qsO×Int×qsO×Int) :=
  ((qfA F x1 x5 x6 x7).bind fun x15=>(if ((x15.2.2:Int) != 0) then some (0,0,0,0,0,([]:qsO),0,0,0,0,([]:qsO),0,([]:qsO),x15.2.2) else ((qeB F x15.2.1 x8).bind fun x21=>(if ((x21.2.2.2.2.2.2.2:Int) != 0) then some (0,0,0,0,0,([]:qsO),0,0,0,0,([]:qsO),0,([]:qsO),x21.2.2.2.2.2.2.2) else some (x4,x5,x6,x7,x8,x9,x21.1,x21.2.1,x21.2.2.1,x21.2.2.2.1,x21.2.2.2.2.1,x21.2.2.2.2.2.1,x21.2.2.2.2.2.2.1,0)))))
def qea (F:Nat)(x1:List (qsO))(x4:Int)(x5:Int)(x6:Int):Option (Int×Int×Int×Int×Int×qsO×Int×Int×Int×Int×qsO×Int×qsO×Int) :=
  ((qa2 F x1 x4 x5 x6).bind fun x10=>(if ((x10.2.2.2.2.2.2:Int) != 0) then some (0,0,0,0,0,([]:qsO),0,0,0,0,([]:qsO),0,([]:qsO),x10.2.2.2.2.2.2) else ((qgo F x1 x10.1 x10.2.1 x10.2.2.1 x10.2.2.2.1 x10.2.2.2.2.1 x10.2.2.2.2.2.1).bind fun x15=>some (x15.1,x15.2.1,x15.2.2.1,x15.2.2.2.1,x15.2.2.2.2.1,x15.2.2.2.2.2.1,x15.2.2.2.2.2.2.1,x15.2.2.2.2.2.2.2.1,x15.2.2.2.2.2.2.2.2.1,x15.2.2.2.2.2.2.2.2.2.1,x15.2.2.2.2.2.2.2.2.2.2.1,x15.2.2.2.2.2.2.2.2.2.2.2.1,x15.2.2.2.2.2.2.2.2.2.2.2.2.1,x15.2.2.2.2.2.2.2.2.2.2.2.2.2))))
def qct (_F:Nat)(x36:Bool):Option Int :=
  (if x36 then some 1 else some 0)
def qcM (F:Nat)(x1:Int)(x2:qsO):Option Int :=
  (if ((decide (x1<0)) || (decide (8192<x1))) then some 3 else (if (((x2.length:Int):Int) != (iquo .i64 (iadd .i64 x1 7) 8)) then some 1 else (if (((irem x1 8):Int) != 0) then ((idx x2 (isub .i64 (x2.length:Int) 1)).bind fun x39=>(chk (decide (0≤(irem x1 8))) (qct F (((ishl .u8 x39 (irem x1 8)):Int) != 0)))) else qct F false)))
def qhf (F:Nat)(x1:Int)(x2:Int)(x3:Int)(x4:Int)(x5:Int)(x6:qsO):Option Int :=
  (if ((decide (x1<0)) || (decide (100<x1))) then some 3 else ((yC F x2 x3 x4).bind fun x15=>(if ((x15:Int) != 0) then some x15 else ((qcM F x5 x6).bind fun x16=>some x16))))
def qe8 (_F:Nat):Option (Int×Int×Bool) :=
  some (0,0,false)
def qe7 (F:Nat)(x1:Int)(x2:qsO)(x5:Int)(rec3:Int→Option (Int×Int×Bool))(x33:Int):Option (Int×Int×Bool) :=
  (if (decide (x33<x1)) then ((qbx F x1 x2 x33).bind fun x44=>(if ((x44:Int) == 1) then some (iconv .u64 (isub .i64 x33 x5),iadd .i64 x33 1,true) else rec3 (iadd .i64 x33 1))) else qe8 F)
def qaq (F:Nat)(x1:Int)(x2:qsO)(x5:Int):Nat→Int→Option (Int×Int×Bool)
  | 0=>fun _=>none
  | k+1=>fun s=>qe7 F x1 x2 x5 (qaq F x1 x2 x5 k) s
def qeH (F:Nat)(x1:Int)(x2:qsO)(x5:Int):Option (Int×Int×Bool) :=
  qaq F x1 x2 x5 F x5
def qcK (F:Nat)(x1:Int)(x2:qsO)(x5:Int):Option (Int×Int×Int) :=
  ((qeH F x1 x2 x5).bind fun x7=>(if (!x7.2.2) then some (0,0,7) else some (x7.1,x7.2.1,0)))
def qfk (_F:Nat)(x24:Int):Option (Int×Bool) :=
  some (x24,true)
def qfj (F:Nat)(x1:Int)(x2:qsO)(x5:Int)(x6:Int)(rec3:(Int×Int)→Option (Int×Bool))(x29:Int)(x30:Int):Option (Int×Bool) :=
  (if (decide (x30<x6)) then ((qbx F x1 x2 (iadd .i64 x5 x30)).bind fun x38=>rec3 (ior .u64 (ishl .u64 x29 1) x38,iadd .i64 x30 1)) else qfk F x29)
def qaR (F:Nat)(x1:Int)(x2:qsO)(x5:Int)(x6:Int):Nat→(Int×Int)→Option (Int×Bool)
  | 0=>fun _=>none
  | k+1=>fun s=>qfj F x1 x2 x5 x6 (qaR F x1 x2 x5 x6 k) s.1 s.2
def qca (F:Nat)(x1:Int)(x2:qsO)(x5:Int)(x6:Int):Option (Int×Bool) :=
  (if (decide ((isub .i64 x1 x5)<x6)) then some (0,false) else qaR F x1 x2 x5 x6 F (0,0))
def k9 (F:Nat)(x1:Int)(x2:qsO)(x5:Int):Option (Int×Int×Int) :=
  ((qcK F x1 x2 x5).bind fun x7=>(if ((x7.2.2:Int) != 0) then some (0,0,x7.2.2) else (if (decide (64≤x7.1)) then some (0,0,3) else ((qca F x1 x2 x7.2.1 (iconv .i64 x7.1)).bind fun x10=>(if (!x10.2) then some (0,0,7) else (chk (decide (0≤x7.1)) ((lett (iadd .u64 x10.1 (isub .u64 (ishl .u64 1 x7.1) 1)) fun x16=>(if (decide (1099511627776<x16)) then some (0,0,3) else some (x16,iadd .i64 x7.2.1 (iconv .i64 x7.1),0))))))))))
def qaW (F:Nat)(x1:Int)(x2:qsO)(x5:Int):Option (Int×Int×Int) :=
  ((k9 F x1 x2 x5).bind fun x7=>some (x7.1,x7.2.1,x7.2.2))
def qd7 (_F:Nat)(x13:(Int×Int×Int))(x18:Bool):Option (Int×Int×Bool) :=
  (if x18 then some (0,0,false) else some (iconv .i64 x13.1,x13.2.1,true))
def qgN (F:Nat)(_x1:Int)(x2:Int)(_x3:Int)(_x4:Int)(x5:Int)(x6:qsO)(x9:Int)(x10:Int):Option (Int×Int×Bool) :=
  (if ((x2:Int) == 0) then some (0,x9,true) else ((qaW F x5 x6 x9).bind fun x13=>(if ((x13.2.2:Int) != 0) then qd7 F x13 true else qd7 F x13 (decide ((iconv .u64 (imin x2 x10))<x13.1)))))
def va (_F:Nat)(x1:Bool):Option (Unit ⊕ Unit) :=
  (if (!x1) then some (.inr ()) else some (.inl ()))
def km (F:Nat)(x2:Int)(x3:qsO)(x6:Int)(x7:Int):Option ((Int×Int×Int) ⊕ (Int×Int)) :=
  ((qaW F x2 x3 x6).bind fun x9=>(lbnd (va F (((x9.2.2:Int) == 0) && (decide (x9.1≤(iconv .u64 x7))))) (fun _x11=>some (.inl (iconv .i64 x9.1,x2,x9.2.1))) (fun _x12=>some (.inr (x2,x6)))))
def qdK (_F:Nat)(x4:Int)(x99:Int):Option Int :=
  (if (decide (x4<x99)) then some 8 else some 0)
def qa5 (_F:Nat)(rec23:(Int×Int)→Option Int)(x4:Int)(x0:Int)(x1:Int)(x2:Int)(x3:Bool):Option Int :=
  (if x3 then some 3 else (lett (imin (iadd .i64 x0 (imin x2 (iadd .i64 x4 1))) (iadd .i64 x4 1)) fun x5=>rec23 (x5,iadd .i64 x1 1)))
def qdJ (F:Nat)(x1:qsO)(x4:Int)(rec23:(Int×Int)→Option Int)(x0:Int)(x2:Int):Option Int :=
  (if (decide (x2<(x1.length:Int))) then ((idx x1 x2).bind fun x3=>(if (decide (x3<0)) then qa5 F rec23 x4 x0 x2 x3 true else qa5 F rec23 x4 x0 x2 x3 ((decide (x3<1)) && (decide (0<x2))))) else qdK F x4 x0)
def y5 (F:Nat)(x1:qsO)(x4:Int):Nat→(Int×Int)→Option Int
  | 0=>fun _=>none
  | k+1=>fun s=>qdJ F x1 x4 (y5 F x1 x4 k) s.1 s.2
def qgh (F:Nat)(x1:qsO)(x4:Int):Option Int :=
  (if (decide ((iadd .i64 x4 1)<(x1.length:Int))) then some 2 else y5 F x1 x4 F (0,0))
def qa6 (_F:Nat)(x0:qsO):Option (qsO) :=
  some x0
def qdL (F:Nat)(x0:qsO)(x1:qsO)(x2:Bool):Option (qsO) :=
  (if x2 then ((app 8796093022208 x1 x0).bind fun x3=>qa6 F x3) else qa6 F x1)
def qav (_F:Nat)(rec10:(qsO×qsO×Bool×Int)→Option (qsO))(x0:qsO)(x1:Bool)(x2:Int)(x3:Int)(x4:qsO):Option (qsO) :=
  ((sub x0 x3 (x0.length:Int)).bind fun x5=>rec10 (x5,x4,(!x1),iadd .i64 x2 1))
def qdb (F:Nat)(x4:qsO)(rec10:(qsO×qsO×Bool×Int)→Option (qsO))(x0:qsO)(x1:qsO)(x2:Bool)(x3:Int):Option (qsO) :=
  (if (decide (x3<(x4.length:Int))) then ((idx x4 x3).bind fun x5=>(if x2 then ((sub x0 0 x5).bind fun x6=>((app 8796093022208 x1 x6).bind fun x7=>qav F rec10 x0 x2 x3 x5 x7)) else qav F rec10 x0 x2 x3 x5 x1)) else qdL F x0 x1 x2)
def yJ (F:Nat)(x4:qsO):Nat→(qsO×qsO×Bool×Int)→Option (qsO)
  | 0=>fun _=>none
  | k+1=>fun s=>qdb F x4 (yJ F x4 k) s.1 s.2.1 s.2.2.1 s.2.2.2
def qfF (F:Nat)(x1:qsO)(x4:qsO):Option (qsO) :=
  yJ F x4 F (x1,([]:qsO),true,0)
def qcx (F:Nat)(x1:qsO)(x4:qsO)(x10:Int):Option (qsO×Int) :=
  (if ((x10:Int) != 0) then some (([]:qsO),x10) else ((qfF F x1 x4).bind fun x12=>some (x12,0)))
def qhh (F:Nat)(x1:qsO)(x4:qsO):Option (qsO×Int) :=
  ((jS F x1).bind fun x7=>(if ((x7:Int) == 0) then ((qgh F x4 (x1.length:Int)).bind fun x16=>qcx F x1 x4 x16) else qcx F x1 x4 x7))
def qaL (_F:Nat)(x72:qsO)(x73:Int)(x74:Int):Option ((qsO×Int×Int) ⊕ (Int×Int)) :=
  some (.inl (x72,x73,x74))
def qaK (F:Nat)(x3:qsO)(x7:Int)(x10:qsO)(rec3:(qsO×Int×Int×Int)→Option ((qsO×Int×Int) ⊕ (Int×Int)))(x93:qsO)(x94:Int)(x95:Int)(x96:Int):Option ((qsO×Int×Int) ⊕ (Int×Int)) :=
  (if (decide (x94<(x10.length:Int))) then (lbnd (km F x95 x3 x96 x7) (fun x0=>((idx x93 x94).bind fun _x127=>(lett (x93.set x94.toNat (iadd .i64 x0.1 (imin x94 1))) fun x1=>rec3 (x1,iadd .i64 x94 1,x0.2.1,x0.2.2)))) (fun x2=>some (.inr (x2.1,x2.2)))) else qaL F x93 x95 x96)
def yq (F:Nat)(x3:qsO)(x7:Int)(x10:qsO):Nat→(qsO×Int×Int×Int)→Option ((qsO×Int×Int) ⊕ (Int×Int))
  | 0=>fun _=>none
  | k+1=>fun s=>qaK F x3 x7 x10 (yq F x3 x7 x10 k) s.1 s.2.1 s.2.2.1 s.2.2.2
def qck (F:Nat)(x2:Int)(x3:qsO)(x6:Int)(x7:Int):Option ((qsO×Int×Int) ⊕ (Int×Int)) :=
  (lbnd (km F x2 x3 x6 (iadd .i64 x7 1)) (fun x8=>((mk 17592186044416 (0:Int) x8.1).bind fun x10=>yq F x3 x7 x10 F (x10,0,x8.2.1,x8.2.2))) (fun x9=>some (.inr (x9.1,x9.2))))
def qcI (_F:Nat)(x1:Int):Option Int :=
  (lett (ixor .i64 (iconv .i64 (ishr .u64 x1 1)) (isub .i64 0 (iconv .i64 (iand .u64 x1 1)))) fun x2=>some x2)
def qbu (_F:Nat)(x0:List (Int×Int))(x1:Int)(x2:Int):Option ((List (Int×Int)×Int×Int) ⊕ (Int×Int)) :=
  some (.inl (x0,x1,x2))
def vN (F:Nat)(rec13:(List (Int×Int)×Int×Int×Int×Int)→Option ((List (Int×Int)×Int×Int) ⊕ (Int×Int)))(x3:qsO)(x8:Int)(x9:Int)(x0:List (Int×Int))(x1:Int)(x2:(Int×Int×Int))(x4:Int):Option ((List (Int×Int)×Int×Int) ⊕ (Int×Int)) :=
  (lbnd (km F x2.2.1 x3 x2.2.2 x9) (fun x5=>((idx x0 x1).bind fun _x247=>(lett (x0.set x1.toNat (x4,iadd .i64 x5.1 x8)) fun x6=>((idx x6 x1).bind fun x7=>rec13 (x6,iadd .i64 x4 (isub .i64 x7.2 1),iadd .i64 x1 1,x5.2.1,x5.2.2))))) (fun x10=>some (.inr (x10.1,x10.2))))
def qa8 (F:Nat)(x3:qsO)(x8:Int)(x9:Int)(x13:List (Int×Int))(rec13:(List (Int×Int)×Int×Int×Int×Int)→Option ((List (Int×Int)×Int×Int) ⊕ (Int×Int)))(x0:List (Int×Int))(x1:Int)(x2:Int)(x4:Int)(x5:Int):Option ((List (Int×Int)×Int×Int) ⊕ (Int×Int)) :=
  (if (decide (x2<(x13.length:Int))) then (lbnd (km F x4 x3 x5 2097152) (fun x6=>(if ((x2:Int) == 0) then ((qcI F (iconv .u64 x6.1)).bind fun x7=>vN F rec13 x3 x8 x9 x0 x2 x6 (iadd .i64 x1 x7)) else vN F rec13 x3 x8 x9 x0 x2 x6 (iadd .i64 x1 (iadd .i64 x6.1 2)))) (fun x10=>some (.inr (x10.1,x10.2)))) else qbu F x0 x4 x5)
def kR (F:Nat)(x3:qsO)(x8:Int)(x9:Int)(x13:List (Int×Int)):Nat→(List (Int×Int)×Int×Int×Int×Int)→Option ((List (Int×Int)×Int×Int) ⊕ (Int×Int))
  | 0=>fun _=>none
  | k+1=>fun s=>qa8 F x3 x8 x9 x13 (kR F x3 x8 x9 x13 k) s.1 s.2.1 s.2.2.1 s.2.2.2.1 s.2.2.2.2
def qdk (F:Nat)(x2:Int)(x3:qsO)(x6:Int)(x7:Int)(x8:Int)(x9:Int):Option ((List (Int×Int)×Int×Int) ⊕ (Int×Int)) :=
  (chk ((x8:Int) != 0) ((lbnd (km F x2 x3 x6 (iquo .i64 x9 x8)) (fun x11=>((mk 8796093022208 (((0:Int),(0:Int)):(Int×Int)) x11.1).bind fun x13=>kR F x3 x8 x9 x13 F (x13,x7,0,x11.2.1,x11.2.2))) (fun x12=>some (.inr (x12.1,x12.2))))))
def vf (_F:Nat)(x15:qsO):Option (qsO) :=
  some x15
def qbq (F:Nat)(x1:qsO)(c3:Nat)(x4:Int):Option (qsO) :=
  (if (decide (x4<0)) then none else (lett (isub .i64 x4 (isub .i64 (c3:Int) (x1.length:Int))) fun x16=>(if (decide (0<x16)) then ((sub x1 0 (c3:Int)).bind fun x17=>((appz 8796093022208 x17 (0:Int) x16).bind fun x18=>((sub x18 0 (x1.length:Int)).bind fun x21=>vf F x21))) else vf F x1)))
def jI (_F:Nat)(x0:qsO):Option (qsO) :=
  some x0
def jF (F:Nat)(x1:List (qsO))(rec5:(qsO×Int)→Option (qsO))(x0:qsO)(x2:Int):Option (qsO) :=
  (if (decide (x2<(x1.length:Int))) then ((idx x1 x2).bind fun x3=>((app 8796093022208 x0 x3).bind fun x4=>rec5 (x4,iadd .i64 x2 1))) else jI F x0)
def kN (F:Nat)(x1:List (qsO)):Nat→(qsO×Int)→Option (qsO)
  | 0=>fun _=>none
  | k+1=>fun s=>jF F x1 (kN F x1 k) s.1 s.2
def jH (F:Nat)(x1:List (qsO))(x43:Int):Option (qsO) :=
  ((qbq F ([]:qsO) 0 x43).bind fun x44=>kN F x1 F (x44,0))
def jG (F:Nat)(x1:List (qsO))(rec6:(Int×Int)→Option (qsO))(x0:Int)(x2:Int):Option (qsO) :=
  (if (decide (x2<(x1.length:Int))) then ((idx x1 x2).bind fun x3=>(if (decide ((iadd .i64 x0 (x3.length:Int))<0)) then none else rec6 (iadd .i64 x0 (x3.length:Int),iadd .i64 x2 1))) else jH F x1 x0)
def kO (F:Nat)(x1:List (qsO)):Nat→(Int×Int)→Option (qsO)
  | 0=>fun _=>none
  | k+1=>fun s=>jG F x1 (kO F x1 k) s.1 s.2
def vv (F:Nat)(x1:List (qsO)):Option (qsO) :=
  kO F x1 F (0,0)
def qd9 (_F:Nat)(x1:Int)(x2:Int)(x3:Int):Option Bool :=
  some ((decide (x2≤x1)) && (decide (x1≤x3)))
def qdT (_F:Nat)(x0:qsO):Option (qsO×Int) :=
  some (x0,0)
def qdU (_F:Nat)(rec32:(qsO×Int)→Option (qsO×Int))(x0:Int)(x1:qsO):Option (qsO×Int) :=
  rec32 (x1,iadd .i64 x0 1)
def qdQ (F:Nat)(rec32:(qsO×Int)→Option (qsO×Int))(x0:Int)(x1:(Int×Int))(rec35:(qsO×Int)→Option (qsO×Int))(x2:qsO)(x3:Int):Option (qsO×Int) :=
  (if (decide (x3<x1.2)) then ((app 8796093022208 x2 ([iadd .i64 x1.1 x3]:qsO)).bind fun x4=>rec35 (x4,iadd .i64 x3 1)) else qdU F rec32 x0 x2)
def jr (F:Nat)(rec32:(qsO×Int)→Option (qsO×Int))(x0:Int)(x1:(Int×Int)):Nat→(qsO×Int)→Option (qsO×Int)
  | 0=>fun _=>none
  | k+1=>fun s=>qdQ F rec32 x0 x1 (jr F rec32 x0 x1 k) s.1 s.2
def qdP (F:Nat)(x1:List (Int×Int))(rec32:(qsO×Int)→Option (qsO×Int))(x0:qsO)(x2:Int):Option (qsO×Int) :=
  (if (decide (x2<(x1.length:Int))) then ((idx x1 x2).bind fun x3=>jr F rec32 x2 x3 F (x0,0)) else qdT F x0)
def ko (F:Nat)(x1:List (Int×Int)):Nat→(qsO×Int)→Option (qsO×Int)
  | 0=>fun _=>none
  | k+1=>fun s=>qdP F x1 (ko F x1 k) s.1 s.2
def qdS (F:Nat)(x1:List (Int×Int)):Option (qsO×Int) :=
  ko F x1 F (([]:qsO),0)
def jq (_F:Nat)(rec44:(Int×Int)→Option (qsO×Int))(x0:Int)(x1:Int)(x2:(Int×Int))(x3:Bool):Option (qsO×Int) :=
  (if x3 then some (([]:qsO),3) else (if (decide (x2.1<(iadd .i64 x0 2))) then some (([]:qsO),4) else rec44 (isub .i64 (iadd .i64 x2.1 x2.2) 1,iadd .i64 x1 1)))
def qdR (F:Nat)(x1:List (Int×Int))(rec44:(Int×Int)→Option (qsO×Int))(x0:Int)(x2:Int):Option (qsO×Int) :=
  (if (decide (x2<(x1.length:Int))) then ((idx x1 x2).bind fun x3=>((qd9 F x3.1 0 1048576).bind fun x4=>(if (!x4) then jq F rec44 x0 x2 x3 (!x4) else ((qd9 F x3.2 1 300).bind fun x5=>(if (!x5) then jq F rec44 x0 x2 x3 (!x5) else jq F rec44 x0 x2 x3 (decide (1048576<(isub .i64 (iadd .i64 x3.1 x3.2) 1)))))))) else qdS F x1)
def y7 (F:Nat)(x1:List (Int×Int)):Nat→(Int×Int)→Option (qsO×Int)
  | 0=>fun _=>none
  | k+1=>fun s=>qdR F x1 (y7 F x1 k) s.1 s.2
def qgm (F:Nat)(x1:List (Int×Int)):Option (qsO×Int) :=
  (if (decide (300<(x1.length:Int))) then some (([]:qsO),2) else y7 F x1 F (-2,0))
def qcz (F:Nat)(x4:qsO)(x7:(qsO×Int))(x12:Int):Option (qsO×Int) :=
  (if ((x12:Int) != 0) then some (([]:qsO),x12) else ((vv F ([x7.1,x4]:List (qsO))).bind fun x16=>((k5 F x16).bind fun x19=>(chk (decide (x19.length=x16.length)) (((yB F x19).bind fun x29=>((yb F x29).bind fun x32=>(if (decide ((x32.length:Int)<(x19.length:Int))) then some (([]:qsO),6) else (if (decide (300<(x19.length:Int))) then some (([]:qsO),2) else some (x19,0))))))))))
def qhi (F:Nat)(x1:List (Int×Int))(x4:qsO):Option (qsO×Int) :=
  ((qgm F x1).bind fun x7=>(if ((x7.2:Int) == 0) then ((jS F x4).bind fun x38=>qcz F x4 x7 x38) else qcz F x4 x7 x7.2))
def v7 (F:Nat)(x1:Int)(x2:qsO)(x5:Int)(x8:(Int×Int)):Option (Int×Int×Bool) :=
  ((qca F x1 x2 x5 x8.1).bind fun x14=>some (isub .u64 x14.1 x8.2,iadd .i64 x5 x8.1,x14.2))
def qc4 (F:Nat)(x1:Int)(x2:qsO)(x5:Int)(x6:Int):Option (Int×Int×Bool) :=
  ((qc5 F x6).bind fun x8=>(if (decide (0<x8.2)) then ((qca F x1 x2 x5 (isub .i64 x8.1 1)).bind fun x15=>(if (!x15.2) then some (0,0,false) else (if (decide (x15.1<x8.2)) then some (x15.1,isub .i64 (iadd .i64 x5 x8.1) 1,true) else v7 F x1 x2 x5 x8))) else v7 F x1 x2 x5 x8))
def qfy (_F:Nat)(x1:Int)(x2:Int)(x3:Bool):Option (Int×Int×Int) :=
  (if (!x3) then some (0,0,7) else (if (decide (1099511627776<x1)) then some (0,0,3) else some (x1,x2,0)))
def qdF (F:Nat)(x1:Int)(x2:qsO)(x5:Int)(x6:Int):Option (Int×Int×Int) :=
  ((qeH F x1 x2 x5).bind fun x8=>(if (!x8.2.2) then some (0,0,7) else (if (decide (41≤(imul .u64 x8.1 (iconv .u64 x6)))) then some (0,0,3) else (chk (decide (0≤(imul .i64 (iconv .i64 x8.1) x6))) ((lett (ishl .u64 1 (imul .i64 (iconv .i64 x8.1) x6)) fun x12=>(chk (decide (0≤x6)) (((qc4 F x1 x2 x8.2.1 (isub .u64 (ishl .u64 x12 x6) x12)).bind fun x20=>((qfy F (isub .u64 (iadd .u64 x12 x20.1) 1) x20.2.1 x20.2.2).bind fun x21=>some (x21.1,x21.2.1,x21.2.2)))))))))))
def v6 (F:Nat)(x8:Int):Option (Bool×Int×Bool) :=
  ((qfx F x8).bind fun x9=>some (x9,x8,true))
def qc3 (F:Nat)(x2:Int)(x3:Bool)(x4:Int):Option (Bool×Int×Bool) :=
  (if (decide (2097152<x4)) then some (false,x2,x3) else (if x3 then v6 F (iadd .i64 x2 (iadd .i64 (iconv .i64 x4) 1)) else ((qcI F x4).bind fun x10=>v6 F (iadd .i64 x2 x10))))
def qfw (_F:Nat)(x0:Int)(x1:qsO):Option (qsO×Int×Int) :=
  some (x1,x0,0)
def qfv (F:Nat)(x1:Int)(x2:qsO)(x7:Int)(x8:Int)(rec3:(Int×qsO×Int×Int×Bool)→Option (qsO×Int×Int))(x0:Int)(x3:qsO)(x4:Int)(x5:Int)(x6:Bool):Option (qsO×Int×Int) :=
  (if (decide (x4<x8)) then ((qdF F x1 x2 x0 x7).bind fun x9=>(if ((x9.2.2:Int) != 0) then some (([]:qsO),0,x9.2.2) else ((qc3 F x5 x6 x9.1).bind fun x10=>(if (!x10.1) then some (([]:qsO),0,3) else ((app 8796093022208 x3 ([x10.2.1]:qsO)).bind fun x11=>rec3 (x9.2.1,x11,iadd .i64 x4 1,x10.2.1,x10.2.2)))))) else qfw F x0 x3)
def qaZ (F:Nat)(x1:Int)(x2:qsO)(x7:Int)(x8:Int):Nat→(Int×qsO×Int×Int×Bool)→Option (qsO×Int×Int)
  | 0=>fun _=>none
  | k+1=>fun s=>qfv F x1 x2 x7 x8 (qaZ F x1 x2 x7 x8 k) s.1 s.2.1 s.2.2.1 s.2.2.2.1 s.2.2.2.2
def qh1 (F:Nat)(x1:Int)(x2:qsO)(x5:Int)(x6:Int)(x7:Int)(x8:Int):Option (qsO×Int×Int) :=
  qaZ F x1 x2 x7 x8 F (x5,([]:qsO),0,x6,false)
def jb (F:Nat)(x3:qsO)(x7:Int)(x13:Int)(x15:(Int×Int×Int))(x31:qsO)(x42:List (Int×Int))(x43:Int)(x44:Int):Option ((qsO×Int×Int) ⊕ (Int×Int)) :=
  ((qhi F x42 ([]:qsO)).bind fun x45=>(lbnd (va F (((x45.2:Int) == 0) && (decide ((x45.1.length:Int)≤(isub .i64 x15.1 (x31.length:Int)))))) (fun _x49=>((qh1 F x43 x3 x44 x7 x13 (isub .i64 (isub .i64 x15.1 (x31.length:Int)) (x45.1.length:Int))).bind fun x54=>(lbnd (va F ((x54.2.2:Int) == 0)) (fun _x57=>((vv F ([x31,x45.1,x54.1]:List (qsO))).bind fun x61=>((k5 F x61).bind fun x64=>(chk (decide (x64.length=x61.length)) (some (.inl (x64,x43,x54.2.1))))))) (fun _x58=>some (.inr (x43,x44)))))) (fun _x50=>some (.inr (x43,x44)))))
def ja (F:Nat)(x3:qsO)(x7:Int)(x12:Int)(x13:Int)(x15:(Int×Int×Int))(x31:qsO)(x32:Int)(x33:Int):Option ((qsO×Int×Int) ⊕ (Int×Int)) :=
  (if (((isub .i64 x15.1 (x31.length:Int)):Int) == 0) then some (.inl (x31,x32,x33)) else (if (decide (0<x12)) then (lbnd (qdk F x32 x3 x33 x7 x12 (isub .i64 x15.1 (x31.length:Int))) (fun x66=>jb F x3 x7 x13 x15 x31 x66.1 x66.2.1 x66.2.2) (fun x67=>some (.inr (x67.1,x67.2)))) else jb F x3 x7 x13 x15 x31 ([]:List (Int×Int)) x32 x33))
def qdi (F:Nat)(x2:Int)(x3:qsO)(x6:Int)(x7:Int)(x8:qsO)(x11:Int)(x12:Int)(x13:Int):Option ((qsO×Int×Int) ⊕ (Int×Int)) :=
  (lbnd (km F x2 x3 x6 300) (fun x15=>(if ((x15.1:Int) == 0) then some (.inl (([]:qsO),x15.2.1,x15.2.2)) else (if (decide (0<x11)) then (lbnd (qck F x15.2.1 x3 x15.2.2 (x8.length:Int)) (fun x72=>((qhh F x8 x72.1).bind fun x76=>(lbnd (va F (((x76.2:Int) == 0) && (decide ((x76.1.length:Int)≤x15.1)))) (fun _x80=>ja F x3 x7 x12 x13 x15 x76.1 x72.2.1 x72.2.2) (fun _x81=>some (.inr (x72.2.1,x72.2.2)))))) (fun x73=>some (.inr (x73.1,x73.2)))) else ja F x3 x7 x12 x13 x15 ([]:qsO) x15.2.1 x15.2.2))) (fun x16=>some (.inr (x16.1,x16.2))))
def qbt (_F:Nat)(x17:(qsO×Int×Int)):Option (qsO×Bool×Int×Int) :=
  some (x17.1,true,x17.2.1,x17.2.2)
def qbs (F:Nat)(x3:qsO)(x6:Int)(x17:(qsO×Int×Int))(x25:(Int×qsO×Bool))(rec4:Int→Option (qsO×Bool×Int×Int))(x75:Int):Option (qsO×Bool×Int×Int) :=
  (if (decide (x75<x25.1)) then ((qbx F x25.1 x25.2.1 x75).bind fun x92=>((qbx F x17.2.1 x3 (iadd .i64 x6 x75)).bind fun x93=>(lbnd (va F ((x92:Int) == x93)) (fun _x94=>rec4 (iadd .i64 x75 1)) (fun _x95=>some (([]:qsO),false,x17.2.1,x17.2.2))))) else qbt F x17)
def yP (F:Nat)(x3:qsO)(x6:Int)(x17:(qsO×Int×Int))(x25:(Int×qsO×Bool)):Nat→Int→Option (qsO×Bool×Int×Int)
  | 0=>fun _=>none
  | k+1=>fun s=>qbs F x3 x6 x17 x25 (yP F x3 x6 x17 x25 k) s
def jc (F:Nat)(x3:qsO)(x6:Int)(x17:(qsO×Int×Int))(x25:(Int×qsO×Bool)):Option (qsO×Bool×Int×Int) :=
  yP F x3 x6 x17 x25 F 0
def qdj (F:Nat)(x2:Int)(x3:qsO)(x6:Int)(x7:Int)(x8:qsO)(x11:Int)(x12:Int)(x13:Int):Option (qsO×Bool×Int×Int) :=
  (lbnd (qdi F x2 x3 x6 x7 x8 x11 x12 x13) (fun x17=>((jS F x17.1).bind fun x21=>(lbnd (va F ((x21:Int) == 0)) (fun _x22=>((qaz F 0 ([]:qsO) false x7 x17.1 x8 x11 x12 x13).bind fun x25=>(if (!x25.2.2) then (lbnd (va F ((x25.1:Int) == (isub .i64 x17.2.2 x6))) (fun _x98=>jc F x3 x6 x17 x25) (fun _x99=>some (([]:qsO),false,x17.2.1,x17.2.2))) else (lbnd (va F false) (fun _x100=>jc F x3 x6 x17 x25) (fun _x101=>some (([]:qsO),false,x17.2.1,x17.2.2)))))) (fun _x23=>some (([]:qsO),false,x17.2.1,x17.2.2))))) (fun x18=>some (([]:qsO),false,x18.1,x18.2)))
def qdX (F:Nat)(x1:Int)(x2:qsO)(x5:Int)(x6:Int)(x7:qsO)(x10:Int)(x11:Int)(x12:Int):Option (qsO×Int×Int) :=
  ((qdj F x1 x2 x5 x6 x7 x10 x11 x12).bind fun x16=>(if (!x16.2.1) then some (([]:qsO),0,1) else some (x16.1,x16.2.2.2,0)))
def qe1 (_F:Nat)(x5:Int)(x0:List (qsO))(x1:Int):Option (List (qsO)×Bool) :=
  some (x0,((x1:Int) == x5))
def qcw (_F:Nat)(rec8:(List (qsO)×Int×Int)→Option (List (qsO)×Bool))(x0:Int)(x1:List (qsO))(x2:Int):Option (List (qsO)×Bool) :=
  rec8 (x1,x2,iadd .i64 x0 1)
def qe0 (F:Nat)(x1:Int)(x2:Int)(x3:Int)(x4:Int)(x5:Int)(x6:qsO)(rec8:(List (qsO)×Int×Int)→Option (List (qsO)×Bool))(x0:List (qsO))(x7:Int)(x8:Int):Option (List (qsO)×Bool) :=
  (if (decide (x8<x1)) then ((qgN F x1 x2 x3 x4 x5 x6 x7 x8).bind fun x9=>(if (!x9.2.2) then some (([]:List (qsO)),false) else (if (decide (0<x9.1)) then ((idx x0 (isub .i64 x8 x9.1)).bind fun x10=>((qdX F x5 x6 x9.2.1 x8 x10 x9.1 x3 x4).bind fun x11=>(if ((x11.2.2:Int) != 0) then some (([]:List (qsO)),false) else ((app 2199023255552 x0 ([x11.1]:List (qsO))).bind fun x12=>qcw F rec8 x8 x12 x11.2.1)))) else ((qdX F x5 x6 x9.2.1 x8 ([]:qsO) x9.1 x3 x4).bind fun x13=>(if ((x13.2.2:Int) != 0) then some (([]:List (qsO)),false) else ((app 2199023255552 x0 ([x13.1]:List (qsO))).bind fun x14=>qcw F rec8 x8 x14 x13.2.1)))))) else qe1 F x5 x0 x7)
def vS (F:Nat)(x1:Int)(x2:Int)(x3:Int)(x4:Int)(x5:Int)(x6:qsO):Nat→(List (qsO)×Int×Int)→Option (List (qsO)×Bool)
  | 0=>fun _=>none
  | k+1=>fun s=>qe0 F x1 x2 x3 x4 x5 x6 (vS F x1 x2 x3 x4 x5 x6 k) s.1 s.2.1 s.2.2
def qhg (F:Nat)(x1:Int)(x2:Int)(x3:Int)(x4:Int)(x5:Int)(x6:qsO):Option (List (qsO)×Bool) :=
  vS F x1 x2 x3 x4 x5 x6 F (([]:List (qsO)),0,0)
def jt (_F:Nat):Option Bool :=
  some true
def js (F:Nat)(x1:qsO)(x4:qsO)(rec3:Int→Option Bool)(x0:Int):Option Bool :=
  (if (decide (x0<(x1.length:Int))) then ((idx x1 x0).bind fun x2=>((idx x4 x0).bind fun x3=>(if ((x2:Int) != x3) then some false else rec3 (iadd .i64 x0 1)))) else jt F)
def kG (F:Nat)(x1:qsO)(x4:qsO):Nat→Int→Option Bool
  | 0=>fun _=>none
  | k+1=>fun s=>js F x1 x4 (kG F x1 x4 k) s
def kr (F:Nat)(x1:qsO)(x4:qsO):Option Bool :=
  (if (((x1.length:Int):Int) != (x4.length:Int)) then some false else kG F x1 x4 F 0)
def qc7 (_F:Nat)(x14:(List (qsO)×Bool))(x34:Bool):Option (List (qsO)×Int) :=
  (if x34 then some (([]:List (qsO)),1) else some (x14.1,0))
def qh2 (F:Nat)(x1:Int)(x2:Int)(x3:Int)(x4:Int)(x5:Int)(x6:qsO):Option (List (qsO)×Int) :=
  ((qhf F x1 x2 x3 x4 x5 x6).bind fun x13=>(if ((x13:Int) != 0) then some (([]:List (qsO)),x13) else ((qhg F x1 x2 x3 x4 x5 x6).bind fun x14=>(if (!x14.2) then some (([]:List (qsO)),1) else ((qa2 F x14.1 x2 x3 x4).bind fun x28=>(if ((x28.2.2.2.2.2.2:Int) != 0) then qc7 F x14 true else ((kr F x28.2.2.2.2.2.1 x6).bind fun x36=>qc7 F x14 (!x36))))))))
def qcD (_F:Nat)(x34:Bool):Option Bool :=
  some x34
def qcC (F:Nat)(x9:qsO)(x20:qsO)(x31:Bool):Option Bool :=
  (if x31 then ((kr F x9 x20).bind fun x35=>qcD F x35) else qcD F false)
def qhk (F:Nat)(x1:Int)(x2:Int)(x3:Int)(x4:Int)(x5:qsO)(x8:Int)(x9:qsO)(x12:Int)(x13:Int)(x14:Int)(x15:Int)(x16:qsO)(x19:Int)(x20:qsO):Option Bool :=
  (if ((((((x1:Int) == x12) && ((x2:Int) == x13)) && ((x3:Int) == x14)) && ((x4:Int) == x15)) && ((x8:Int) == x19)) then ((kr F x5 x16).bind fun x36=>qcC F x9 x20 x36) else qcC F x9 x20 false)
def qe6 (F:Nat)(x1:List (qsO))(x4:Int)(x5:Int)(x6:Int)(x7:Int)(x8:Int)(x9:qsO):Option (Int×Int×Int×Int×Int×qsO×Int×Int×Int×Int×qsO×Int×qsO×Int) :=
  ((qfA F x1 x5 x6 x7).bind fun x15=>(if ((x15.2.2:Int) != 0) then some (0,0,0,0,0,([]:qsO),0,0,0,0,([]:qsO),0,([]:qsO),x15.2.2) else ((qeB F x15.2.1 x8).bind fun x21=>(if ((x21.2.2.2.2.2.2.2:Int) != 0) then some (0,0,0,0,0,([]:qsO),0,0,0,0,([]:qsO),0,([]:qsO),x21.2.2.2.2.2.2.2) else some (x4,x5,x6,x7,x8,x9,x21.1,x21.2.1,x21.2.2.1,x21.2.2.2.1,x21.2.2.2.2.1,x21.2.2.2.2.2.1,x21.2.2.2.2.2.2.1,0)))))
def qbF (_F:Nat)(x49:Bool):Option Int :=
  (if x49 then some 4 else some 0)
def qgn (F:Nat)(x1:Int)(x2:Int)(x3:Int)(x4:Int)(x5:Int)(x6:qsO)(x9:Int)(x10:Int)(x11:Int)(x12:Int)(x13:qsO)(x16:Int)(x17:qsO):Option Int :=
  ((qh2 F x1 x2 x3 x4 x5 x6).bind fun x21=>(if ((x21.2:Int) != 0) then some x21.2 else ((qe6 F x21.1 x1 x2 x3 x4 x5 x6).bind fun x39=>(if ((x39.2.2.2.2.2.2.2.2.2.2.2.2.2:Int) != 0) then qbF F true else ((qhk F x39.2.2.2.2.2.2.1 x39.2.2.2.2.2.2.2.1 x39.2.2.2.2.2.2.2.2.1 x39.2.2.2.2.2.2.2.2.2.1 x39.2.2.2.2.2.2.2.2.2.2.1 x39.2.2.2.2.2.2.2.2.2.2.2.1 x39.2.2.2.2.2.2.2.2.2.2.2.2.1 x9 x10 x11 x12 x13 x16 x17).bind fun x51=>qbF F (!x51))))))
def qgi (_F:Nat)(_x1:Int)(_x2:qsO)(_x5:Int):Option Unit :=
  some ()
def qaw {σ τ:Type}(_F:Nat)(_yy:σ→Int→Option (σ ⊕ τ))(rec3:(Int×σ)→Option (σ ⊕ τ))(x36:Int)(x81:σ):Option (σ ⊕ τ) :=
  rec3 (iadd .i64 x36 1,x81)
def qdd {σ τ:Type}(F:Nat)(yy:σ→Int→Option (σ ⊕ τ))(x2:Int)(x3:qsO)(x7:Int)(rec3:(Int×σ)→Option (σ ⊕ τ))(x36:Int)(x37:σ):Option (σ ⊕ τ) :=
  (if (decide (x36<x2)) then ((qbx F x2 x3 x36).bind fun x89=>(if ((x89:Int) == x7) then ((yy x37 x36).bind (Sum.elim (fun x91=>qaw F yy rec3 x36 x91) (fun x92=>some (.inr x92)))) else qaw F yy rec3 x36 x37)) else some (.inl x37))
def yK {σ τ:Type}(F:Nat)(yy:σ→Int→Option (σ ⊕ τ))(x2:Int)(x3:qsO)(x7:Int):Nat→(Int×σ)→Option (σ ⊕ τ)
  | 0=>fun _=>none
  | k+1=>fun s=>qdd F yy x2 x3 x7 (yK F yy x2 x3 x7 k) s.1 s.2
def qe5 {σ τ:Type}(F:Nat)(yy:σ→Int→Option (σ ⊕ τ))(x2:Int)(x3:qsO)(x7:Int)(s0:σ):Option (σ ⊕ τ) :=
  yK F yy x2 x3 x7 F (0,s0)
def qe4 (_F:Nat)(x31:Int)(x37:Int):Option (Int ⊕ (Int×Int)) :=
  (if ((x31:Int) == 0) then some (.inr (x37,x31)) else some (.inl (isub .i64 x31 1)))
def qeG (F:Nat)(x1:Int)(x2:qsO)(x5:Int)(x6:Int):Option Int :=
  ((qgi F x1 x2 x5).bind fun _x25=>((qe5 F (fun (x31:Int) (x37:Int)=>qe4 F x31 x37) x1 x2 x5 x6).bind (Sum.elim (fun (_x31:Int)=>some (-1)) (fun ((x35,_x36):(Int×Int))=>some x35))))
def qhK (F:Nat)(_x1:Int)(_x2:Int)(x3:Int)(x4:Int)(x5:qsO)(x8:Int)(x9:qsO)(x12:Int):Option Int :=
  ((qeG F x8 x9 1 x12).bind fun x14=>((qca F x4 x5 (imul .i64 x12 x3) x3).bind fun x15=>(chk (decide (0≤x3)) ((lett (ior .i64 (ishl .i64 (isub .i64 x14 x12) x3) (iconv .i64 x15.1)) fun x17=>some x17)))))
def qc2 (_F:Nat)(x13:Bool):Option Bool :=
  some x13
def qfu (F:Nat)(x1:Int)(x2:qsO)(x5:Int)(x6:qsO):Option Bool :=
  (if ((x1:Int) == x5) then ((kr F x2 x6).bind fun x14=>qc2 F x14) else qc2 F false)
def qaY (_F:Nat)(x99:qsO)(x0:Bool):Option (qsO×Int) :=
  (if x0 then some (([]:qsO),1) else some (x99,0))
def qaX (F:Nat)(x8:Int)(x9:qsO)(x99:qsO)(x0:(Int×Int×Int×Int×qsO×Int×qsO×Bool))(x1:Bool):Option (qsO×Int) :=
  (if x1 then qaY F x99 true else ((qfu F x0.2.2.2.2.2.1 x0.2.2.2.2.2.2.1 x8 x9).bind fun x2=>qaY F x99 (!x2)))
def qdD (F:Nat)(x2:Int)(x4:Int)(x5:qsO)(x8:Int)(x9:qsO)(x99:qsO):Option (qsO×Int) :=
  ((qeC F x99 x2).bind fun x0=>(if ((x0:Int) != 0) then some (([]:qsO),1) else ((qgL F x99 x2).bind fun x1=>(if (!x1.2.2.2.2.2.2.2) then qaX F x8 x9 x99 x1 true else ((qfu F x1.2.2.2.1 x1.2.2.2.2.1 x4 x5).bind fun x3=>qaX F x8 x9 x99 x1 (!x3))))))
def qdC (F:Nat)(x1:Int)(x2:Int)(x3:Int)(x4:Int)(x5:qsO)(x8:Int)(x9:qsO)(rec9:(qsO×Int)→Option (qsO×Int))(x0:qsO)(x6:Int):Option (qsO×Int) :=
  (if (decide (x6<x1)) then ((qhK F x1 x2 x3 x4 x5 x8 x9 x6).bind fun x7=>((app 8796093022208 x0 ([x7]:qsO)).bind fun x10=>rec9 (x10,iadd .i64 x6 1))) else qdD F x2 x4 x5 x8 x9 x0)
def jk (F:Nat)(x1:Int)(x2:Int)(x3:Int)(x4:Int)(x5:qsO)(x8:Int)(x9:qsO):Nat→(qsO×Int)→Option (qsO×Int)
  | 0=>fun _=>none
  | k+1=>fun s=>qdC F x1 x2 x3 x4 x5 x8 x9 (jk F x1 x2 x3 x4 x5 x8 x9 k) s.1 s.2
def kJ (F:Nat)(x1:Int)(x2:Int)(x3:Int)(x4:Int)(x5:qsO)(x8:Int)(x9:qsO)(x49:Bool):Option (qsO×Int) :=
  (if x49 then some (([]:qsO),1) else jk F x1 x2 x3 x4 x5 x8 x9 F (([]:qsO),0))
def qft (F:Nat)(x1:Int)(x2:Int)(x3:Int)(x4:Int)(x5:qsO)(x8:Int)(x9:qsO):Option (qsO×Int) :=
  (if ((((decide (x1<0)) || (decide (300<x1))) || (decide (x2<0))) || (decide (1048576<x2))) then some (([]:qsO),3) else ((qeD F x1 x2).bind fun x0=>(if ((x3:Int) != x0) then kJ F x1 x2 x3 x4 x5 x8 x9 true else ((qcM F x4 x5).bind fun x6=>(if ((x6:Int) != 0) then kJ F x1 x2 x3 x4 x5 x8 x9 true else ((qcM F x8 x9).bind fun x7=>(if ((x7:Int) != 0) then kJ F x1 x2 x3 x4 x5 x8 x9 true else (if ((x4:Int) != (imul .i64 x1 x3)) then kJ F x1 x2 x3 x4 x5 x8 x9 true else ((qeG F x8 x9 1 (isub .i64 x1 1)).bind fun x10=>(if (decide (x10<0)) then kJ F x1 x2 x3 x4 x5 x8 x9 (decide (0<x1)) else kJ F x1 x2 x3 x4 x5 x8 x9 false))))))))))
def qhc (F:Nat)(x1:Int)(x2:Int)(x3:Int)(x4:Int)(x5:qsO)(x8:Int)(x9:qsO):Option Int :=
  ((qft F x1 x2 x3 x4 x5 x8 x9).bind fun x13=>some x13.2)
def qd4 (F:Nat)(x1:Int)(x2:Int)(x3:Int)(x4:Int)(x5:qsO)(x8:Int)(x9:qsO)(x12:Int)(x20:Int):Option (Int×Int) :=
  (if ((x20:Int) != 0) then some (0,x20) else ((qhK F x1 x2 x3 x4 x5 x8 x9 x12).bind fun x22=>some (x22,0)))
def qd5 (F:Nat)(x1:Int)(x2:Int)(x3:Int)(x4:Int)(x5:qsO)(x8:Int)(x9:qsO)(x12:Int)(x14:Int)(x26:Bool):Option (Int×Int) :=
  (if x26 then qd4 F x1 x2 x3 x4 x5 x8 x9 x12 3 else qd4 F x1 x2 x3 x4 x5 x8 x9 x12 x14)
def qiG (F:Nat)(x1:Int)(x2:Int)(x3:Int)(x4:Int)(x5:qsO)(x8:Int)(x9:qsO)(x12:Int):Option (Int×Int) :=
  ((qhc F x1 x2 x3 x4 x5 x8 x9).bind fun x14=>(if ((x14:Int) == 0) then qd5 F x1 x2 x3 x4 x5 x8 x9 x12 x14 ((decide (x12<0)) || (decide (x1≤x12))) else qd5 F x1 x2 x3 x4 x5 x8 x9 x12 x14 false))
def vL (F:Nat)(x7:qsO)(x22:Int)(x24:(Int×Int×Bool))(x31:qsO)(x32:Int)(x33:Int)(x34:Int)(x35:Int)(x36:Int)(x37:Int)(x38:Int)(x39:Int)(x40:Int)(x41:Int)(x42:Int):Option (qsO×Int×Int×Int×Int×Int×Int×Int×Int×Int×Int×Int) :=
  ((qdX F x36 x7 x24.2.1 x22 x31 x24.1 x34 x35).bind fun x47=>some (x47.1,x32,x33,x34,x35,x36,x37,x38,x39,x40,x41,x42))
def vo:Nat→Int→Int→Int→Int→Int→(qsO)→Int→Int→Int→Int→(qsO)→Int→(qsO)→Int→Int→Option (qsO×Int×Int×Int×Int×Int×Int×Int×Int×Int×Int×Int)
  | 0=>fun _ _ _ _ _ _ _ _ _ _ _ _ _ _ _=>none
  | F+1=>fun x2 x3 x4 x5 x6 x7 x10 x11 x12 x13 x14 x17 x18 x21 x22 =>
    let self:=vo F
    ((qiG F x10 x11 x12 x13 x14 x17 x18 x22).bind fun x23=>((qgN F x2 x3 x4 x5 x6 x7 x23.1 x22).bind fun x24=>(if (decide (0<x24.1)) then ((self x2 x3 x4 x5 x6 x7 x10 x11 x12 x13 x14 x17 x18 (iadd .i64 x21 1) (isub .i64 x22 x24.1)).bind fun x50=>vL F x7 x22 x24 x50.1 x50.2.1 x50.2.2.1 x50.2.2.2.1 x50.2.2.2.2.1 x50.2.2.2.2.2.1 x50.2.2.2.2.2.2.1 x50.2.2.2.2.2.2.2.1 x50.2.2.2.2.2.2.2.2.1 x50.2.2.2.2.2.2.2.2.2.1 x50.2.2.2.2.2.2.2.2.2.2.1 x50.2.2.2.2.2.2.2.2.2.2.2) else vL F x7 x22 x24 ([]:qsO) x2 x3 x4 x5 x6 x10 x11 x12 x13 x17 (iadd .i64 x21 1))))
def qcA (F:Nat)(x1:Int)(x2:Int)(x3:Int)(x4:Int)(x5:Int)(x6:qsO)(x9:Int)(x10:Int)(x11:Int)(x12:Int)(x13:qsO)(x16:Int)(x17:qsO)(x20:Int)(x28:Int):Option (qsO×Int×Int) :=
  (if ((x28:Int) != 0) then some (([]:qsO),0,x28) else ((vo F x1 x2 x3 x4 x5 x6 x9 x10 x11 x12 x13 x16 x17 0 x20).bind fun x31=>some (x31.1,x31.2.2.2.2.2.2.2.2.2.2.2,0)))
def qcB (F:Nat)(x1:Int)(x2:Int)(x3:Int)(x4:Int)(x5:Int)(x6:qsO)(x9:Int)(x10:Int)(x11:Int)(x12:Int)(x13:qsO)(x16:Int)(x17:qsO)(x20:Int)(x22:Int)(x37:Bool):Option (qsO×Int×Int) :=
  (if x37 then qcA F x1 x2 x3 x4 x5 x6 x9 x10 x11 x12 x13 x16 x17 x20 3 else qcA F x1 x2 x3 x4 x5 x6 x9 x10 x11 x12 x13 x16 x17 x20 x22)
def qhj (F:Nat)(x1:Int)(x2:Int)(x3:Int)(x4:Int)(x5:Int)(x6:qsO)(x9:Int)(x10:Int)(x11:Int)(x12:Int)(x13:qsO)(x16:Int)(x17:qsO)(x20:Int):Option (qsO×Int×Int) :=
  ((qgn F x1 x2 x3 x4 x5 x6 x9 x10 x11 x12 x13 x16 x17).bind fun x22=>(if ((x22:Int) == 0) then qcB F x1 x2 x3 x4 x5 x6 x9 x10 x11 x12 x13 x16 x17 x20 x22 ((decide (x20<0)) || (decide (x1≤x20))) else qcB F x1 x2 x3 x4 x5 x6 x9 x10 x11 x12 x13 x16 x17 x20 x22 false))
def qci (_F:Nat)(x82:List (qsO)):Option (qsO) :=
  ((joinM x82 ([32]:qsO)).bind fun x83=>some x83)
def qch (F:Nat)(x12:qsO)(rec3:(List (qsO)×Int)→Option (qsO))(x0:List (qsO))(x1:Int):Option (qsO) :=
  (if (decide (x1<(x12.length:Int))) then ((idx x12 x1).bind fun x2=>((itoaC x2).bind fun x3=>((app 4398046511104 x0 ([x3]:List (qsO))).bind fun x4=>rec3 (x4,iadd .i64 x1 1)))) else qci F x0)
def y4 (F:Nat)(x12:qsO):Nat→(List (qsO)×Int)→Option (qsO)
  | 0=>fun _=>none
  | k+1=>fun s=>qch F x12 (y4 F x12 k) s.1 s.2
def qaV (F:Nat)(_x2:List (qsO))(_x5:Int)(_x6:Int)(_x7:Int)(_x8:qsO)(_x11:qsO)(x12:qsO):Option (qsO) :=
  y4 F x12 F (([]:List (qsO)),0)
def jA (F:Nat)(x2:List (qsO))(x5:Int)(x6:Int)(x7:Int)(x8:qsO)(x11:qsO)(x29:Int)(x30:Int)(x31:Int)(x32:Int)(x33:Int)(x34:Int)(x37:qsO)(x38:Int)(x39:Int)(x40:Int)(x41:Int)(x44:qsO)(x45:Int)(x48:qsO):Option (Int×qsO) :=
  (if ((x29:Int) != 0) then some (x29,x11) else ((idx x8 0).bind fun x57=>((qhj F x30 x31 x32 x33 x34 x37 x38 x39 x40 x41 x44 x45 x48 x57).bind fun x61=>((qaV F x2 x5 x6 x7 x8 x11 x61.1).bind fun x64=>some (x61.2.2,x64)))))
def qdB (F:Nat)(x2:List (qsO))(x5:Int)(x6:Int)(x7:Int)(x8:qsO)(x11:qsO):Option (Int×qsO) :=
  ((qea F x2 x5 x6 x7).bind fun x66=>jA F x2 x5 x6 x7 x8 x11 x66.2.2.2.2.2.2.2.2.2.2.2.2.2 x66.1 x66.2.1 x66.2.2.1 x66.2.2.2.1 x66.2.2.2.2.1 x66.2.2.2.2.2.1 x66.2.2.2.2.2.2.1 x66.2.2.2.2.2.2.2.1 x66.2.2.2.2.2.2.2.2.1 x66.2.2.2.2.2.2.2.2.2.1 x66.2.2.2.2.2.2.2.2.2.2.1 x66.2.2.2.2.2.2.2.2.2.2.2.1 x66.2.2.2.2.2.2.2.2.2.2.2.2.1)
def qdm (_F:Nat)(x1:Int)(x3:List (qsO)):Option Bool :=
  some ((decide (x1<0)) || (decide ((x3.length:Int)≤x1)))
def kP (_F:Nat):Option Int :=
  some (-1)
def zm (F:Nat)(x1:qsO)(x5:List (qsO))(rec3:Int→Option Int)(x58:Int):Option Int :=
  (if (decide (x58<(x1.length:Int))) then ((idx x1 x58).bind fun x78=>((qdm F x78 x5).bind fun x81=>(if x81 then some x58 else rec3 (iadd .i64 x58 1)))) else kP F)
def qT (F:Nat)(x1:qsO)(x5:List (qsO)):Nat→Int→Option Int
  | 0=>fun _=>none
  | k+1=>fun s=>zm F x1 x5 (qT F x1 x5 k) s
def z6 (F:Nat)(x1:qsO)(x5:List (qsO)):Option Int :=
  qT F x1 x5 F 0
def zQ (F:Nat)(x1:qsO)(x5:List (qsO)):Option Bool :=
  ((z6 F x1 x5).bind fun x8=>some (decide (0≤x8)))
def qba (F:Nat)(x1:List (qsO))(x4:qsO):Option Int :=
  ((kd F x1).bind fun x10=>(if ((x10:Int) != 0) then some x10 else ((zQ F x4 x1).bind fun x13=>(if x13 then some 3 else some 0))))
def qfK (_F:Nat)(x0:qsO):Option (qsO) :=
  some x0
def qbc (_F:Nat)(rec48:(qsO×qsO)→Option (qsO))(x0:qsO)(x1:qsO):Option (qsO) :=
  ((sub x1 1 (x1.length:Int)).bind fun x2=>rec48 (x0,x2))
def jK (_F:Nat)(rec56:(qsO×qsO×Int)→Option (qsO))(x0:Int)(x1:qsO)(x2:qsO):Option (qsO) :=
  rec56 (x1,x2,iadd .i64 x0 1)
def vw (F:Nat)(rec48:(qsO×qsO)→Option (qsO))(x0:Int)(x1:qsO)(rec56:(qsO×qsO×Int)→Option (qsO))(x2:qsO)(x3:qsO)(x4:Int):Option (qsO) :=
  (if (decide (x4<(x1.length:Int))) then ((idx x1 x4).bind fun x5=>((idx x2 x5).bind fun x6=>(if (decide (x6<0)) then ((idx x2 x0).bind fun x7=>((idx x2 x5).bind fun _x2035=>(lett (x2.set x5.toNat (iadd .i64 x7 1)) fun x8=>((app 8796093022208 x3 ([x5]:qsO)).bind fun x9=>jK F rec56 x4 x8 x9)))) else jK F rec56 x4 x2 x3))) else qbc F rec48 x2 x3)
def kv (F:Nat)(rec48:(qsO×qsO)→Option (qsO))(x0:Int)(x1:qsO):Nat→(qsO×qsO×Int)→Option (qsO)
  | 0=>fun _=>none
  | k+1=>fun s=>vw F rec48 x0 x1 (kv F rec48 x0 x1 k) s.1 s.2.1 s.2.2
def qbb (F:Nat)(x1:List (qsO))(rec48:(qsO×qsO)→Option (qsO))(x0:qsO)(x2:qsO):Option (qsO) :=
  (if (decide (0<(x2.length:Int))) then ((idx x2 0).bind fun x3=>((idx x1 x3).bind fun x4=>kv F rec48 x3 x4 F (x0,x2,0))) else qfK F x0)
def zM (F:Nat)(x1:List (qsO)):Nat→(qsO×qsO)→Option (qsO)
  | 0=>fun _=>none
  | k+1=>fun s=>qbb F x1 (zM F x1 k) s.1 s.2
def qaA (F:Nat)(x1:List (qsO))(x4:Int):Option (qsO) :=
  ((ql F ([-1]:qsO) (x1.length:Int)).bind fun x8=>((idx x8 x4).bind fun _x11=>(lett (x8.set x4.toNat 0) fun x14=>zM F x1 F (x14,([x4]:qsO)))))
def qeI (F:Nat)(x1:List (qsO))(x4:Int):Option (qsO×Int) :=
  ((qba F x1 ([x4]:qsO)).bind fun x12=>(if ((x12:Int) != 0) then some (([]:qsO),x12) else ((qaA F x1 x4).bind fun x13=>some (x13,0))))
def vn (_F:Nat)(x26:(qsO×Int))(x43:qsO):Option (Int×qsO) :=
  some (x26.2,x43)
def qbz (F:Nat)(x2:List (qsO))(x5:Int)(x6:Int)(x7:Int)(x8:qsO)(x11:qsO):Option (Int×qsO) :=
  ((kB F x2 x5 x6 x7 x8 x11 x8).bind fun x14=>(if (!x14) then some (3,x11) else ((idx x8 0).bind fun x22=>((qeI F x2 x22).bind fun x26=>((idx x8 1).bind fun x44=>((idx x26.1 x44).bind fun x47=>((itoaC x47).bind fun x50=>((idx x8 1).bind fun x51=>((idx x26.1 x51).bind fun x54=>(if (decide (x54<0)) then vn F x26 ([110,111,110,101]:qsO) else vn F x26 x50))))))))))
def qdH (_F:Nat)(x47:List (Int×Int))(x56:Int)(x57:Int):Option (List (Int×Int) ⊕ Empty) :=
  ((app 4398046511104 x47 ([(x57,x56)]:List (Int×Int))).bind fun x61=>some (.inl x61))
def qfz (F:Nat)(x1:List (qsO)):Option (List (Int×Int)) :=
  ((qaH F x1).bind fun _x35=>((ve F (fun (x47:List (Int×Int)) ((x56,x57):(Int×Int))=>qdH F x47 x56 x57) x1 ([]:List (Int×Int))).bind (Sum.elim (fun (x47:List (Int×Int))=>some x47) (fun t=>t.elim))))
def qhd (F:Nat)(x1:List (qsO)):Option (List (qsO)×Int) :=
  ((kd F x1).bind fun x8=>(if ((x8:Int) != 0) then some (([]:List (qsO)),x8) else ((qfz F x1).bind fun x20=>((z8 F x20).bind fun _x23=>((qD F x20).bind fun x25=>((j1 F (x1.length:Int) x25).bind fun x28=>some (x28,0)))))))
def qhn (_F:Nat)(x1:Int)(x3:qsO)(x7:Int):Option Bool :=
  ((idx x3 x1).bind fun x16=>((idx x3 x7).bind fun x20=>some ((x16:Int) == (isub .i64 x20 1))))
def k4 (_F:Nat):Option Int :=
  some (-1)
def k3 (F:Nat)(x1:qsO)(x5:qsO)(x9:Int)(rec3:Int→Option Int)(x60:Int):Option Int :=
  (if (decide (x60<(x1.length:Int))) then ((idx x1 x60).bind fun x80=>((qhn F x80 x5 x9).bind fun x83=>(if x83 then some x60 else rec3 (iadd .i64 x60 1)))) else k4 F)
def zr (F:Nat)(x1:qsO)(x5:qsO)(x9:Int):Nat→Int→Option Int
  | 0=>fun _=>none
  | k+1=>fun s=>k3 F x1 x5 x9 (zr F x1 x5 x9 k) s
def yo (F:Nat)(x1:qsO)(x5:qsO)(x9:Int):Option Int :=
  zr F x1 x5 x9 F 0
def qgq (_F:Nat)(x0:qsO):Option (qsO×Int) :=
  some (x0,0)
def qgp (F:Nat)(x1:List (qsO))(x5:Int)(x18:qsO)(rec3:(qsO×Int)→Option (qsO×Int))(x0:qsO)(x2:Int):Option (qsO×Int) :=
  (if ((x2:Int) != x5) then ((idx x1 x2).bind fun x3=>((yo F x3 x18 x2).bind fun x4=>((idx x1 x2).bind fun x6=>((idx x6 x4).bind fun x7=>((app 8796093022208 x0 ([x7]:qsO)).bind fun x8=>rec3 (x8,x7)))))) else qgq F x0)
def qb1 (F:Nat)(x1:List (qsO))(x5:Int)(x18:qsO):Nat→(qsO×Int)→Option (qsO×Int)
  | 0=>fun _=>none
  | k+1=>fun s=>qgp F x1 x5 x18 (qb1 F x1 x5 x18 k) s.1 s.2
def qiI (F:Nat)(x1:List (qsO))(x4:Int)(x5:Int):Option (qsO×Int) :=
  ((qba F x1 ([x4,x5]:qsO)).bind fun x13=>(if ((x13:Int) != 0) then some (([]:qsO),x13) else ((qhd F x1).bind fun x14=>((qaA F x14.1 x5).bind fun x18=>((idx x18 x4).bind fun x26=>(if (decide (x26<0)) then some (([]:qsO),5) else qb1 F x1 x5 x18 F (([x4]:qsO),x4)))))))
def vZ (_F:Nat)(x19:Int)(x20:qsO):Option (Int×qsO) :=
  some (x19,x20)
def qat (F:Nat)(x2:List (qsO))(x5:Int)(x6:Int)(x7:Int)(x8:qsO)(x11:qsO)(x12:qsO)(x15:Int)(x16:Int):Option (Int×qsO) :=
  ((qaV F x2 x5 x6 x7 x8 x11 x12).bind fun x21=>(if ((x15:Int) == x16) then vZ F 0 ([110,111,110,101]:qsO) else vZ F x15 x21))
def qeo (F:Nat)(x2:List (qsO))(x5:Int)(x6:Int)(x7:Int)(x8:qsO)(x11:qsO):Option (Int×qsO) :=
  ((idx x8 0).bind fun x23=>((idx x8 1).bind fun x27=>((qiI F x2 x23 x27).bind fun x31=>((qat F x2 x5 x6 x7 x8 x11 x31.1 x31.2 5).bind fun x34=>some (x34.1,x34.2)))))
def vk (F:Nat)(x3:List (qsO))(x6:Int)(x7:Int)(x8:Int)(x9:qsO)(x12:qsO):Option (Int×qsO) :=
  ((idx x9 0).bind fun x36=>((kB F x3 x6 x7 x8 x9 x12 ([x36]:qsO)).bind fun x42=>(if (!x42) then some (3,x12) else ((qfH F x3).bind fun x46=>((idx x9 0).bind fun x58=>((idx x46.1 x58).bind fun x62=>((itoaC x62).bind fun x66=>some (x46.2,x66))))))))
def qc6 (_F:Nat)(x0:qsO)(x1:qsO)(x2:Int)(x3:Int):Option ((qsO×qsO) ⊕ Empty) :=
  ((idx x1 x2).bind fun x4=>((idx x1 x2).bind fun _x150=>(lett (x1.set x2.toNat (iadd .i64 x4 1)) fun x5=>((idx x0 x3).bind fun x6=>((idx x0 x3).bind fun _x159=>(lett (x0.set x3.toNat (iadd .i64 x6 1)) fun x7=>some (.inl (x7,x5))))))))
def yI (F:Nat)(x1:List (qsO))(x27:qsO)(x30:qsO):Option (qsO×qsO×Int) :=
  ((qaH F x1).bind fun _x98=>((ve F (fun ((x0,x2):(qsO×qsO)) ((x3,x4):(Int×Int))=>qc6 F x0 x2 x3 x4) x1 (x27,x30)).bind (Sum.elim (fun ((x0,x2):(qsO×qsO))=>some (x2,x0,0)) (fun t=>t.elim))))
def qeY (F:Nat)(x1:List (qsO)):Option (qsO×qsO×Int) :=
  ((kd F x1).bind fun x9=>(if ((x9:Int) != 0) then some (([]:qsO),([]:qsO),x9) else ((mk 17592186044416 (0:Int) (x1.length:Int)).bind fun x0=>((mk 17592186044416 (0:Int) (x1.length:Int)).bind fun x2=>yI F x1 x2 x0))))
def qdg (_F:Nat)(x0:qsO):Option (qsO×Int) :=
  some (x0,0)
def qdh (_F:Nat)(rec18:(qsO×qsO)→Option (qsO×Int))(x0:qsO)(x1:Int)(x2:qsO):Option (qsO×Int) :=
  ((app 8796093022208 x0 ([x1]:qsO)).bind fun x3=>rec18 (x2,x3))
def qdf (F:Nat)(rec18:(qsO×qsO)→Option (qsO×Int))(x0:qsO)(x1:Int)(x2:qsO)(rec21:(qsO×Int)→Option (qsO×Int))(x3:qsO)(x4:Int):Option (qsO×Int) :=
  (if (decide (x4<(x2.length:Int))) then ((idx x2 x4).bind fun x5=>((idx x3 x5).bind fun x6=>((idx x3 x5).bind fun _x1139=>(lett (x3.set x5.toNat (isub .i64 x6 1)) fun x7=>rec21 (x7,iadd .i64 x4 1))))) else qdh F rec18 x0 x1 x3)
def vM (F:Nat)(rec18:(qsO×qsO)→Option (qsO×Int))(x0:qsO)(x1:Int)(x2:qsO):Nat→(qsO×Int)→Option (qsO×Int)
  | 0=>fun _=>none
  | k+1=>fun s=>qdf F rec18 x0 x1 x2 (vM F rec18 x0 x1 x2 k) s.1 s.2
def qde (F:Nat)(x1:List (qsO))(rec18:(qsO×qsO)→Option (qsO×Int))(x0:qsO)(x2:qsO):Option (qsO×Int) :=
  (if (decide ((x2.length:Int)<(x0.length:Int))) then ((kQ F x0 0).bind fun x3=>(if (decide (x3<0)) then some (([]:qsO),4) else ((idx x0 x3).bind fun _x964=>(lett (x0.set x3.toNat (-1)) fun x4=>((idx x1 x3).bind fun x5=>vM F rec18 x2 x3 x5 F (x4,0)))))) else qdg F x2)
def ka (F:Nat)(x1:List (qsO)):Nat→(qsO×qsO)→Option (qsO×Int)
  | 0=>fun _=>none
  | k+1=>fun s=>qde F x1 (ka F x1 k) s.1 s.2
def qfG (F:Nat)(x1:List (qsO)):Option (qsO×Int) :=
  ((qeY F x1).bind fun x5=>(if ((x5.2.2:Int) != 0) then some (([]:qsO),x5.2.2) else ka F x1 F (x5.2.1,([]:qsO))))
def qc0 (F:Nat)(x2:List (qsO))(x5:Int)(x6:Int)(x7:Int)(x8:qsO)(x11:qsO):Option (Int×qsO) :=
  ((qfG F x2).bind fun x12=>((qat F x2 x5 x6 x7 x8 x11 x12.1 x12.2 4).bind fun x15=>some (x15.1,x15.2)))
def vj (F:Nat)(x3:List (qsO))(x6:Int)(x7:Int)(x8:Int)(x9:qsO)(x12:qsO):Option (Int×qsO) :=
  ((idx x9 0).bind fun x36=>((kB F x3 x6 x7 x8 x9 x12 ([x36]:qsO)).bind fun x42=>(if (!x42) then some (3,x12) else ((qfm F x3).bind fun x46=>((idx x9 0).bind fun x58=>((idx x46.1 x58).bind fun x62=>((itoaC x62).bind fun x66=>some (x46.2,x66))))))))
def qf7 (_F:Nat)(_x1:List (qsO)):Option Unit :=
  some ()
def qcf {σ τ:Type}(_F:Nat)(_yy:σ→qsO→Option (σ ⊕ τ))(rec115:(Int×σ)→Option (σ ⊕ τ))(x0:Int)(x1:σ):Option (σ ⊕ τ) :=
  rec115 (iadd .i64 x0 1,x1)
def qcg {σ τ:Type}(_F:Nat)(_yy:σ→qsO→Option (σ ⊕ τ))(rec163:(Int×σ)→Option (σ ⊕ τ))(x0:Int)(x1:σ):Option (σ ⊕ τ) :=
  rec163 (iadd .i64 x0 1,x1)
def jy {σ τ:Type}(_F:Nat)(_yy:σ→qsO→Option (σ ⊕ τ))(rec171:(Int×σ)→Option (σ ⊕ τ))(x0:Int)(x1:σ):Option (σ ⊕ τ) :=
  rec171 (iadd .i64 x0 1,x1)
def qce {σ τ:Type}(F:Nat)(yy:σ→qsO→Option (σ ⊕ τ))(rec163:(Int×σ)→Option (σ ⊕ τ))(x2:List (qsO))(x0:Int)(x1:Int)(x3:Int)(x4:qsO)(rec171:(Int×σ)→Option (σ ⊕ τ))(x5:Int)(x6:σ):Option (σ ⊕ τ) :=
  (if (decide (x5<(x4.length:Int))) then ((idx x4 x5).bind fun x7=>((idx x2 x3).bind fun x8=>((kp F x8 x7).bind fun x9=>(if (x9.2 && (decide (x0<x3))) then ((yy x6 ([x0,x3,x7]:qsO)).bind (Sum.elim (fun x10=>jy F yy rec171 x5 x10) (fun x11=>some (.inr x11)))) else jy F yy rec171 x5 x6)))) else qcg F yy rec163 x1 x6)
def yg {σ τ:Type}(F:Nat)(yy:σ→qsO→Option (σ ⊕ τ))(rec163:(Int×σ)→Option (σ ⊕ τ))(x2:List (qsO))(x0:Int)(x1:Int)(x3:Int)(x4:qsO):Nat→(Int×σ)→Option (σ ⊕ τ)
  | 0=>fun _=>none
  | k+1=>fun s=>qce F yy rec163 x2 x0 x1 x3 x4 (yg F yy rec163 x2 x0 x1 x3 x4 k) s.1 s.2
def qcd {σ τ:Type}(F:Nat)(yy:σ→qsO→Option (σ ⊕ τ))(rec115:(Int×σ)→Option (σ ⊕ τ))(x2:List (qsO))(x0:Int)(x1:qsO)(rec163:(Int×σ)→Option (σ ⊕ τ))(x3:Int)(x4:σ):Option (σ ⊕ τ) :=
  (if (decide (x3<(x1.length:Int))) then ((idx x1 x3).bind fun x5=>((sub x1 (iadd .i64 x3 1) (x1.length:Int)).bind fun x6=>yg F yy rec163 x2 x0 x3 x5 x6 F (0,x4))) else qcf F yy rec115 x0 x4)
def zw {σ τ:Type}(F:Nat)(yy:σ→qsO→Option (σ ⊕ τ))(rec115:(Int×σ)→Option (σ ⊕ τ))(x2:List (qsO))(x0:Int)(x1:qsO):Nat→(Int×σ)→Option (σ ⊕ τ)
  | 0=>fun _=>none
  | k+1=>fun s=>qcd F yy rec115 x2 x0 x1 (zw F yy rec115 x2 x0 x1 k) s.1 s.2
def qcc {σ τ:Type}(F:Nat)(yy:σ→qsO→Option (σ ⊕ τ))(x2:List (qsO))(rec115:(Int×σ)→Option (σ ⊕ τ))(x0:Int)(x1:σ):Option (σ ⊕ τ) :=
  (if (decide (x0<(x2.length:Int))) then ((idx x2 x0).bind fun x3=>zw F yy rec115 x2 x0 x3 F (0,x1)) else some (.inl x1))
def q6 {σ τ:Type}(F:Nat)(yy:σ→qsO→Option (σ ⊕ τ))(x2:List (qsO)):Nat→(Int×σ)→Option (σ ⊕ τ)
  | 0=>fun _=>none
  | k+1=>fun s=>qcc F yy x2 (q6 F yy x2 k) s.1 s.2
def qeS {σ τ:Type}(F:Nat)(yy:σ→qsO→Option (σ ⊕ τ))(x2:List (qsO))(s0:σ):Option (σ ⊕ τ) :=
  q6 F yy x2 F (0,s0)
def qel (_F:Nat)(x0:Int)(x1:qsO)(rec8:(Int×qsO)→Option ((Int×qsO) ⊕ Empty))(x2:Int)(x3:qsO):Option ((Int×qsO) ⊕ Empty) :=
  (if (decide (x2<3)) then (chk (decide (x1.length=3)) (((idx x1 x2).bind fun x4=>((idx x3 x4).bind fun x5=>((idx x3 x4).bind fun _x494=>(lett (x3.set x4.toNat (iadd .i64 x5 1)) fun x6=>rec8 (iadd .i64 x2 1,x6))))))) else some (.inl (iadd .i64 x0 1,x3)))
def jR (F:Nat)(x0:Int)(x1:qsO):Nat→(Int×qsO)→Option ((Int×qsO) ⊕ Empty)
  | 0=>fun _=>none
  | k+1=>fun s=>qel F x0 x1 (jR F x0 x1 k) s.1 s.2
def qem (F:Nat)(x0:Int)(x1:qsO)(x2:qsO):Option ((Int×qsO) ⊕ Empty) :=
  (chk (decide (x2.length=3)) ((chk (decide (x2.length=3)) (jR F x0 x2 F (0,x1)))))
def qf6 (F:Nat)(x1:List (qsO)):Option (qsO×Int×Int) :=
  ((kd F x1).bind fun x9=>(if ((x9:Int) != 0) then some (([]:qsO),0,x9) else ((mk 17592186044416 (0:Int) (x1.length:Int)).bind fun x10=>((qfn F x1).bind fun x0=>((qf7 F x0).bind fun _x260=>((qeS F (fun ((x2,x3):(Int×qsO)) (x4:qsO)=>qem F x2 x3 x4) x0 (0,x10)).bind (Sum.elim (fun ((x2,x3):(Int×qsO))=>some (x3,x2,0)) (fun t=>t.elim))))))))
def qcJ (F:Nat)(x2:List (qsO))(_x5:Int)(_x6:Int)(_x7:Int)(_x8:qsO)(_x11:qsO):Option (Int×qsO) :=
  ((qf6 F x2).bind fun x12=>((itoaC x12.2.1).bind fun x15=>some (x12.2.2,x15)))
def qK (_F:Nat)(x0:Int)(x1:List (qsO))(x2:Int)(x3:Int)(x4:Int)(_x232:qsO)(x5:qsO):Option (List (qsO)×Int×Int×Int×qsO×Int) :=
  (if ((x0:Int) != 0) then some (([]:List (qsO)),0,0,0,([]:qsO),x0) else some (x1,x2,x3,x4,x5,0))
def qac (F:Nat)(x10:(List (qsO)×Int×Int×Int))(x14:List (qsO)):Option (List (qsO)×Int×Int×Int×qsO×Int) :=
  ((sub x14 1 (x14.length:Int)).bind fun x0=>((q8 F x10.1 x10.2.1 x10.2.2.1 x10.2.2.2 ([]:qsO) ([111,107]:qsO) 1 x0).bind fun x1=>(if x1.1 then ((qcZ F x10.1 x10.2.1 x10.2.2.1 x10.2.2.2 x1.2 ([111,107]:qsO)).bind fun x2=>qK F x2.1 x2.2 x10.2.1 x10.2.2.1 x10.2.2.2 x1.2 ([111,107]:qsO)) else qK F 1 x10.1 x10.2.1 x10.2.2.1 x10.2.2.2 x1.2 ([111,107]:qsO))))
def vP (F:Nat)(x10:(List (qsO)×Int×Int×Int))(x14:List (qsO)):Option (List (qsO)×Int×Int×Int×qsO×Int) :=
  ((sub x14 1 (x14.length:Int)).bind fun x0=>((q8 F x10.1 x10.2.1 x10.2.2.1 x10.2.2.2 ([]:qsO) ([111,107]:qsO) 2 x0).bind fun x1=>(if x1.1 then ((qby F x10.1 x10.2.1 x10.2.2.1 x10.2.2.2 x1.2 ([111,107]:qsO)).bind fun x2=>qK F x2.1 x2.2 x10.2.1 x10.2.2.1 x10.2.2.2 x1.2 ([111,107]:qsO)) else qK F 1 x10.1 x10.2.1 x10.2.2.1 x10.2.2.2 x1.2 ([111,107]:qsO))))
def vQ (F:Nat)(x10:(List (qsO)×Int×Int×Int))(x14:List (qsO)):Option (List (qsO)×Int×Int×Int×qsO×Int) :=
  ((sub x14 1 (x14.length:Int)).bind fun x0=>((q8 F x10.1 x10.2.1 x10.2.2.1 x10.2.2.2 ([]:qsO) ([111,107]:qsO) 2 x0).bind fun x1=>(if x1.1 then ((ji F x10.1 x10.2.1 x10.2.2.1 x10.2.2.2 x1.2 ([111,107]:qsO)).bind fun x2=>qK F x2.1 x2.2 x10.2.1 x10.2.2.1 x10.2.2.2 x1.2 ([111,107]:qsO)) else qK F 1 x10.1 x10.2.1 x10.2.2.1 x10.2.2.2 x1.2 ([111,107]:qsO))))
def qad (F:Nat)(x10:(List (qsO)×Int×Int×Int))(x14:List (qsO)):Option (List (qsO)×Int×Int×Int×qsO×Int) :=
  ((sub x14 1 (x14.length:Int)).bind fun x0=>((q8 F x10.1 x10.2.1 x10.2.2.1 x10.2.2.2 ([]:qsO) ([111,107]:qsO) 3 x0).bind fun x1=>(if x1.1 then ((qen F x10.1 x10.2.1 x10.2.2.1 x10.2.2.2 x1.2 ([111,107]:qsO)).bind fun x2=>qK F x2.1 x10.1 x2.2.1 x2.2.2.1 x2.2.2.2 x1.2 ([111,107]:qsO)) else qK F 1 x10.1 x10.2.1 x10.2.2.1 x10.2.2.2 x1.2 ([111,107]:qsO))))
def qae (F:Nat)(x10:(List (qsO)×Int×Int×Int))(x14:List (qsO)):Option (List (qsO)×Int×Int×Int×qsO×Int) :=
  ((sub x14 1 (x14.length:Int)).bind fun x0=>((q8 F x10.1 x10.2.1 x10.2.2.1 x10.2.2.2 ([]:qsO) ([111,107]:qsO) 0 x0).bind fun x1=>(if x1.1 then ((qdA F x10.1 x10.2.1 x10.2.2.1 x10.2.2.2 x1.2 ([111,107]:qsO)).bind fun x2=>qK F x2.1 x10.1 x10.2.1 x10.2.2.1 x10.2.2.2 x1.2 x2.2) else qK F 1 x10.1 x10.2.1 x10.2.2.1 x10.2.2.2 x1.2 ([111,107]:qsO))))
def qaf (F:Nat)(x10:(List (qsO)×Int×Int×Int))(x14:List (qsO)):Option (List (qsO)×Int×Int×Int×qsO×Int) :=
  ((sub x14 1 (x14.length:Int)).bind fun x0=>((q8 F x10.1 x10.2.1 x10.2.2.1 x10.2.2.2 ([]:qsO) ([111,107]:qsO) 1 x0).bind fun x1=>(if x1.1 then ((qdB F x10.1 x10.2.1 x10.2.2.1 x10.2.2.2 x1.2 ([111,107]:qsO)).bind fun x2=>qK F x2.1 x10.1 x10.2.1 x10.2.2.1 x10.2.2.2 x1.2 x2.2) else qK F 1 x10.1 x10.2.1 x10.2.2.1 x10.2.2.2 x1.2 ([111,107]:qsO))))
def vR (F:Nat)(x10:(List (qsO)×Int×Int×Int))(x14:List (qsO)):Option (List (qsO)×Int×Int×Int×qsO×Int) :=
  ((sub x14 1 (x14.length:Int)).bind fun x0=>((q8 F x10.1 x10.2.1 x10.2.2.1 x10.2.2.2 ([]:qsO) ([111,107]:qsO) 2 x0).bind fun x1=>(if x1.1 then ((qbz F x10.1 x10.2.1 x10.2.2.1 x10.2.2.2 x1.2 ([111,107]:qsO)).bind fun x2=>qK F x2.1 x10.1 x10.2.1 x10.2.2.1 x10.2.2.2 x1.2 x2.2) else qK F 1 x10.1 x10.2.1 x10.2.2.1 x10.2.2.2 x1.2 ([111,107]:qsO))))
def qag (F:Nat)(x10:(List (qsO)×Int×Int×Int))(x14:List (qsO)):Option (List (qsO)×Int×Int×Int×qsO×Int) :=
  ((sub x14 1 (x14.length:Int)).bind fun x0=>((q8 F x10.1 x10.2.1 x10.2.2.1 x10.2.2.2 ([]:qsO) ([111,107]:qsO) 2 x0).bind fun x1=>(if x1.1 then ((qeo F x10.1 x10.2.1 x10.2.2.1 x10.2.2.2 x1.2 ([111,107]:qsO)).bind fun x2=>qK F x2.1 x10.1 x10.2.1 x10.2.2.1 x10.2.2.2 x1.2 x2.2) else qK F 1 x10.1 x10.2.1 x10.2.2.1 x10.2.2.2 x1.2 ([111,107]:qsO))))
def qah (F:Nat)(x10:(List (qsO)×Int×Int×Int))(x14:List (qsO)):Option (List (qsO)×Int×Int×Int×qsO×Int) :=
  ((sub x14 1 (x14.length:Int)).bind fun x0=>((q8 F x10.1 x10.2.1 x10.2.2.1 x10.2.2.2 ([]:qsO) ([111,107]:qsO) 1 x0).bind fun x1=>(if x1.1 then ((vk F x10.1 x10.2.1 x10.2.2.1 x10.2.2.2 x1.2 ([111,107]:qsO)).bind fun x2=>qK F x2.1 x10.1 x10.2.1 x10.2.2.1 x10.2.2.2 x1.2 x2.2) else qK F 1 x10.1 x10.2.1 x10.2.2.1 x10.2.2.2 x1.2 ([111,107]:qsO))))
def qai (F:Nat)(x10:(List (qsO)×Int×Int×Int))(x14:List (qsO)):Option (List (qsO)×Int×Int×Int×qsO×Int) :=
  ((sub x14 1 (x14.length:Int)).bind fun x0=>((q8 F x10.1 x10.2.1 x10.2.2.1 x10.2.2.2 ([]:qsO) ([111,107]:qsO) 0 x0).bind fun x1=>(if x1.1 then ((qc0 F x10.1 x10.2.1 x10.2.2.1 x10.2.2.2 x1.2 ([111,107]:qsO)).bind fun x2=>qK F x2.1 x10.1 x10.2.1 x10.2.2.1 x10.2.2.2 x1.2 x2.2) else qK F 1 x10.1 x10.2.1 x10.2.2.1 x10.2.2.2 x1.2 ([111,107]:qsO))))
def qaj (F:Nat)(x10:(List (qsO)×Int×Int×Int))(x14:List (qsO)):Option (List (qsO)×Int×Int×Int×qsO×Int) :=
  ((sub x14 1 (x14.length:Int)).bind fun x0=>((q8 F x10.1 x10.2.1 x10.2.2.1 x10.2.2.2 ([]:qsO) ([111,107]:qsO) 1 x0).bind fun x1=>(if x1.1 then ((vj F x10.1 x10.2.1 x10.2.2.1 x10.2.2.2 x1.2 ([111,107]:qsO)).bind fun x2=>qK F x2.1 x10.1 x10.2.1 x10.2.2.1 x10.2.2.2 x1.2 x2.2) else qK F 1 x10.1 x10.2.1 x10.2.2.1 x10.2.2.2 x1.2 ([111,107]:qsO))))
def qak (F:Nat)(x10:(List (qsO)×Int×Int×Int))(x14:List (qsO)):Option (List (qsO)×Int×Int×Int×qsO×Int) :=
  ((sub x14 1 (x14.length:Int)).bind fun x0=>((q8 F x10.1 x10.2.1 x10.2.2.1 x10.2.2.2 ([]:qsO) ([111,107]:qsO) 0 x0).bind fun x1=>(if x1.1 then ((qcJ F x10.1 x10.2.1 x10.2.2.1 x10.2.2.2 x1.2 ([111,107]:qsO)).bind fun x2=>qK F x2.1 x10.1 x10.2.1 x10.2.2.1 x10.2.2.2 x1.2 x2.2) else qK F 1 x10.1 x10.2.1 x10.2.2.1 x10.2.2.2 x1.2 ([111,107]:qsO))))
def qal (F:Nat)(x10:(List (qsO)×Int×Int×Int)):Option (List (qsO)×Int×Int×Int×qsO×Int) :=
  qK F 1 x10.1 x10.2.1 x10.2.2.1 x10.2.2.2 ([]:qsO) ([111,107]:qsO)
def yh (F:Nat)(x1:List (qsO))(x4:Int)(x5:Int)(x6:Int)(x7:qsO):Option (List (qsO)×Int×Int×Int×qsO×Int) :=
  ((qc1 F x1 x4 x5 x6).bind fun x10=>((splitM x7 ([32]:qsO)).bind fun x14=>((idx x14 0).bind fun x0=>((vI F x10.1 x10.2.1 x10.2.2.1 x10.2.2.2 ([]:qsO) ([111,107]:qsO)).bind fun _x414=>(if (bstr x0 == bstr ([110,111,100,101,115]:qsO)) then qac F x10 x14 else (if (bstr x0 == bstr ([97,114,99]:qsO)) then vP F x10 x14 else (if (bstr x0 == bstr ([100,114,111,112]:qsO)) then vQ F x10 x14 else (if (bstr x0 == bstr ([104,111,119]:qsO)) then qad F x10 x14 else (if (bstr x0 == bstr ([98,105,116,115]:qsO)) then qae F x10 x14 else (if (bstr x0 == bstr ([108,105,115,116]:qsO)) then qaf F x10 x14 else (if (bstr x0 == bstr ([102,97,114]:qsO)) then vR F x10 x14 else (if (bstr x0 == bstr ([119,97,121]:qsO)) then qag F x10 x14 else (if (bstr x0 == bstr ([112,97,114,116]:qsO)) then qah F x10 x14 else (if (bstr x0 == bstr ([111,114,100,101,114]:qsO)) then qai F x10 x14 else (if (bstr x0 == bstr ([99,111,114,101]:qsO)) then qaj F x10 x14 else (if (bstr x0 == bstr ([116,104,114,101,101,115]:qsO)) then qak F x10 x14 else qal F x10))))))))))))))))
def qfs (_F:Nat)(x0:qsO)(x1:List (qsO))(x2:Int)(x3:Int)(x4:Int):Option (List (qsO)×Int×Int×Int×qsO×Int) :=
  ((bstrM x0).bind fun x5=>some (x1,x2,x3,x4,x5,0))
def qcX (_F:Nat)(rec19:(Int×qsO×List (qsO)×Int×Int×Int)→Option (List (qsO)×Int×Int×Int×qsO×Int))(x0:Int)(x1:qsO)(x2:List (qsO))(x3:Int)(x4:Int)(x5:Int):Option (List (qsO)×Int×Int×Int×qsO×Int) :=
  rec19 (iadd .i64 x0 1,x1,x2,x3,x4,x5)
def qcY (F:Nat)(rec19:(Int×qsO×List (qsO)×Int×Int×Int)→Option (List (qsO)×Int×Int×Int×qsO×Int))(x0:Int)(x1:qsO)(x2:qsO)(x3:List (qsO))(x4:Int)(x5:Int)(x6:Int):Option (List (qsO)×Int×Int×Int×qsO×Int) :=
  ((app 9223372036854775807 x2 ([10]:qsO)).bind fun x7=>((app 140737488355328 x1 (x7.map b8)).bind fun x8=>qcX F rec19 x0 x8 x3 x4 x5 x6))
def qfr (F:Nat)(x11:List (qsO))(rec19:(Int×qsO×List (qsO)×Int×Int×Int)→Option (List (qsO)×Int×Int×Int×qsO×Int))(x0:Int)(x1:qsO)(x2:List (qsO))(x3:Int)(x4:Int)(x5:Int):Option (List (qsO)×Int×Int×Int×qsO×Int) :=
  (if (decide (x0<(x11.length:Int))) then ((idx x11 x0).bind fun x6=>(if (bstr x6 == bstr ([]:qsO)) then qcX F rec19 x0 x1 x2 x3 x4 x5 else ((yh F x2 x3 x4 x5 x6).bind fun x7=>(if ((x7.2.2.2.2.2:Int) != 0) then ((itoaC x7.2.2.2.2.2).bind fun x8=>((app 9223372036854775807 ([101,114,114,111,114,32]:qsO) x8).bind fun x9=>qcY F rec19 x0 x1 x9 x2 x3 x4 x5)) else qcY F rec19 x0 x1 x7.2.2.2.2.1 x7.1 x7.2.1 x7.2.2.1 x7.2.2.2.1)))) else qfs F x1 x2 x3 x4 x5)
def vt (F:Nat)(x11:List (qsO)):Nat→(Int×qsO×List (qsO)×Int×Int×Int)→Option (List (qsO)×Int×Int×Int×qsO×Int)
  | 0=>fun _=>none
  | k+1=>fun s=>qfr F x11 (vt F x11 k) s.1 s.2.1 s.2.2.1 s.2.2.2.1 s.2.2.2.2.1 s.2.2.2.2.2
def qd3 (F:Nat)(x1:List (qsO))(x4:Int)(x5:Int)(x6:Int)(x11:List (qsO))(x16:Int):Option (List (qsO)×Int×Int×Int×qsO×Int) :=
  (if ((x16:Int) != 0) then some (([]:List (qsO)),0,0,0,([]:qsO),x16) else ((qc1 F x1 x4 x5 x6).bind fun x18=>vt F x11 F (0,([]:qsO),x18.1,x18.2.1,x18.2.2.1,x18.2.2.2)))
def qiF (F:Nat)(x1:List (qsO))(x4:Int)(x5:Int)(x6:Int)(x7:qsO):Option (List (qsO)×Int×Int×Int×qsO×Int) :=
  ((ya F x1 x4 x5 x6).bind fun x10=>((splitM x7 ([10]:qsO)).bind fun x11=>(if (((x10:Int) == 0) && (decide (100<(x11.length:Int)))) then qd3 F x1 x4 x5 x6 x11 2 else qd3 F x1 x4 x5 x6 x11 x10)))
def qbw (_F:Nat)(x9:Bool):Option Bool :=
  some x9
def qbQ (F:Nat) :Option Bool :=
  ((qiF F ([]:List (qsO)) 2 3 1 ([110,111,100,101,115,32,52,10,97,114,99,32,48,32,49,10,97,114,99,32,49,32,50,10,97,114,99,32,50,32,48,10,97,114,99,32,48,32,49,10,10,108,105,115,116,32,48,10,102,97,114,32,48,32,50,10,102,97,114,32,48,32,51,10,119,97,121,32,49,32,48,10,112,97,114,116,32,50,10,111,114,100,101,114,10,99,111,114,101,32,49,10,116,104,114,101,101,115,10,100,114,111,112,32,50,32,48,10,111,114,100,101,114,10,100,114,111,112,32,50,32,48,10,104,111,119,32,56,32,48,32,49,10,119,104,97,116,10,102,97,114,32,48,32,52,10,98,105,116,115]:qsO)).bind fun x1=>(if ((((x1.2.2.2.2.2:Int) == 0) && (bstr x1.2.2.2.2.1 == bstr ([111,107,10,111,107,10,111,107,10,111,107,10,101,114,114,111,114,32,54,10,49,10,50,10,110,111,110,101,10,49,32,50,32,48,10,48,10,110,111,110,101,10,50,10,49,10,111,107,10,48,32,49,32,50,32,51,10,101,114,114,111,114,32,53,10,101,114,114,111,114,32,51,10,101,114,114,111,114,32,49,10,101,114,114,111,114,32,51,10,50,48,10]:qsO))) && (((x1.1.length:Int):Int) == 4)) then ((ya F x1.1 x1.2.1 x1.2.2.1 x1.2.2.2.1).bind fun x10=>qbw F ((x10:Int) == 0)) else qbw F false))
def vV (F:Nat)(x1:List (qsO))(x4:Int)(x5:Int)(x6:Int)(x7:qsO):Option (List (qsO)×Int×Int×Int×qsO×Int) :=
  ((ya F x1 x4 x5 x6).bind fun x12=>(if ((x12:Int) != 0) then some (([]:List (qsO)),0,0,0,([]:qsO),x12) else ((yh F x1 x4 x5 x6 x7).bind fun x13=>some (x13.1,x13.2.1,x13.2.2.1,x13.2.2.2.1,x13.2.2.2.2.1,x13.2.2.2.2.2))))
def yG (_F:Nat)(rec1:(Int×qsO)→Option (qsO))(x6:Int)(x7:qsO):Option (qsO) :=
  ((app 9223372036854775807 ([iconv .u8 (iadd .i64 48 (irem x6 10))]:qsO) x7).bind fun x15=>(if (((iquo .i64 x6 10):Int) == 0) then some x15 else rec1 (iquo .i64 x6 10,x15)))
def yH (F:Nat):Nat→(Int×qsO)→Option (qsO)
  | 0=>fun _=>none
  | k+1=>fun s=>yG F (yH F k) s.1 s.2
def qb8 (F:Nat)(x1:Int):Option (qsO) :=
  yH F F (x1,([]:qsO))
def qeP (_F:Nat):Option Bool :=
  some true
def qab (F:Nat)(x1:qsO)(x4:qsO)(rec3:Int→Option Bool)(x0:Int):Option Bool :=
  (if (decide (x0<(x1.length:Int))) then ((idx x1 x0).bind fun x2=>((idx x4 x0).bind fun x3=>(if ((x2:Int) != x3) then some false else rec3 (iadd .i64 x0 1)))) else qeP F)
def yT (F:Nat)(x1:qsO)(x4:qsO):Nat→Int→Option Bool
  | 0=>fun _=>none
  | k+1=>fun s=>qab F x1 x4 (yT F x1 x4 k) s
def qcL (F:Nat)(x1:qsO)(x4:qsO):Option Bool :=
  (if (((x1.length:Int):Int) != (x4.length:Int)) then some false else yT F x1 x4 F 0)
def qek (_F:Nat):Option Bool :=
  some true
def jQ (F:Nat)(x1:List (qsO))(x4:List (qsO))(rec3:Int→Option Bool)(x0:Int):Option Bool :=
  (if (decide (x0<(x1.length:Int))) then ((idx x1 x0).bind fun x2=>((idx x4 x0).bind fun x3=>((qcL F x2 x3).bind fun x5=>(if (!x5) then some false else rec3 (iadd .i64 x0 1))))) else qek F)
def yE (F:Nat)(x1:List (qsO))(x4:List (qsO)):Nat→Int→Option Bool
  | 0=>fun _=>none
  | k+1=>fun s=>jQ F x1 x4 (yE F x1 x4 k) s
def qbS (F:Nat)(x1:List (qsO))(x4:List (qsO)):Option Bool :=
  (if (((x1.length:Int):Int) != (x4.length:Int)) then some false else yE F x1 x4 F 0)
def qbR (F:Nat)(x1:List (qsO))(x4:List (qsO)):Option Bool :=
  ((qbS F x1 x4).bind fun x9=>some x9)
def vG (F:Nat)(x1:List (qsO))(x4:Int)(x5:Int)(x6:Int)(x7:List (qsO))(x10:Int)(x11:Int)(x12:Int):Option Bool :=
  ((qbR F x1 x7).bind fun x15=>some (x15 && (((x4:Int) == x10) && (((x5:Int) == x11) && ((x6:Int) == x12)))))
def qcs (_F:Nat)(x70:Bool):Option Bool :=
  some x70
def j9 (_F:Nat)(x93:Bool):Option Bool :=
  some x93
def qaa (F:Nat)(x96:Bool):Option Bool :=
  j9 F x96
def j8 (F:Nat)(x7:Int)(x8:Int)(x79:(List (qsO)×Int×Int×Int×qsO×Int))(x86:Bool):Option Bool :=
  (if (x86 && ((x79.2.2.2.2.2:Int) == 0)) then (if (bstr x79.2.2.2.2.1 == bstr ([49]:qsO)) then qaa F true else qaa F ((bstr x79.2.2.2.2.1 == bstr ([48]:qsO)) && ((x7:Int) == x8))) else j9 F false)
def qeA (F:Nat)(x1:List (qsO))(x4:Int)(x5:Int)(x6:Int)(x7:Int)(x8:Int):Option Bool :=
  ((qbQ F).bind fun x12=>(if (!x12) then some false else (if ((((decide (x7<0)) || (decide (200<x7))) || (decide (x8<0))) || (decide (200<x8))) then some true else ((qb8 F x7).bind fun x20=>((app 9223372036854775807 ([32]:qsO) x20).bind fun x21=>((app 9223372036854775807 x21 ([32]:qsO)).bind fun x22=>((qb8 F x8).bind fun x23=>((app 9223372036854775807 x22 x23).bind fun x24=>((app 9223372036854775807 ([97,114,99]:qsO) x24).bind fun x25=>((vV F x1 x4 x5 x6 x25).bind fun x26=>(if ((x26.2.2.2.2.2:Int) != 0) then (if ((x26.2.2.2.2.2:Int) != 6) then ((vG F x26.1 x26.2.1 x26.2.2.1 x26.2.2.2.1 ([]:List (qsO)) 0 0 0).bind fun x54=>some x54) else ((app 9223372036854775807 ([100,114,111,112]:qsO) x24).bind fun x55=>((vV F x1 x4 x5 x6 x55).bind fun x56=>((app 9223372036854775807 ([97,114,99]:qsO) x24).bind fun x60=>((vV F x56.1 x56.2.1 x56.2.2.1 x56.2.2.2.1 x60).bind fun x61=>(if (((((x56.2.2.2.2.2:Int) == 0) && (bstr x56.2.2.2.2.1 == bstr ([111,107]:qsO))) && ((x61.2.2.2.2.2:Int) == 0)) && (bstr x61.2.2.2.2.1 == bstr ([111,107]:qsO))) then ((vG F x61.1 x61.2.1 x61.2.2.1 x61.2.2.2.1 x1 x4 x5 x6).bind fun x71=>qcs F x71) else qcs F false)))))) else ((app 9223372036854775807 ([100,114,111,112]:qsO) x24).bind fun x73=>((vV F x26.1 x26.2.1 x26.2.2.1 x26.2.2.2.1 x73).bind fun x74=>((app 9223372036854775807 ([102,97,114]:qsO) x24).bind fun x78=>((vV F x26.1 x26.2.1 x26.2.2.1 x26.2.2.2.1 x78).bind fun x79=>(if (((x74.2.2.2.2.2:Int) == 0) && (bstr x74.2.2.2.2.1 == bstr ([111,107]:qsO))) then ((vG F x74.1 x74.2.1 x74.2.2.1 x74.2.2.2.1 x1 x4 x5 x6).bind fun x98=>j8 F x7 x8 x79 x98) else j8 F x7 x8 x79 false))))))))))))))))
end Go.Proofs.YthibchijlpflmaaGreatDoor
