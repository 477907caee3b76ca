/- What each Go function of this seat computes, in plain terms. -/
import Derived.Test.YtmhggdbfbmkpeaaGreatSy
namespace Go.Proofs.YtmhggdbfbmkpeaaGreat
open Go SX
abbrev qAq:=List Int
abbrev qAr:=Option Addr
abbrev qAs (x:Int):Value:=.int .i64 x
def qdN (_F:Nat)(x0:Int):Option Int :=
  (if (decide (600<x0)) then some 2 else some 0)
def qdO (_F:Nat)(rec38:(Int×Int)→Option Int)(x0:Int)(x1:Int):Option Int :=
  rec38 (x1,iadd .i64 x0 1)
def qbE (F:Nat)(rec38:(Int×Int)→Option Int)(x0:Int)(x1:Int)(x2:qAq):Option Int :=
  qdO F rec38 x1 (iadd .i64 x0 (x2.length:Int))
def qbD (F:Nat)(rec38:(Int×Int)→Option Int)(x1:List (qAq))(x0:Int)(x2:Int)(x3:qAq)(rec45:(Int×Int)→Option Int)(x4:Int)(x5:Int):Option Int :=
  (if (decide (x5<(x3.length:Int))) then ((idx x3 x5).bind fun x6=>(if ((decide (x6<0)) || (decide ((x1.length:Int)≤x6))) then some 3 else (if (decide (x6≤x4)) then some 4 else rec45 (x6,iadd .i64 x5 1)))) else qbE F rec38 x0 x2 x3)
def yI (F:Nat)(rec38:(Int×Int)→Option Int)(x1:List (qAq))(x0:Int)(x2:Int)(x3:qAq):Nat→(Int×Int)→Option Int
  | 0=>fun _=>none
  | k+1=>fun s=>qbD F rec38 x1 x0 x2 x3 (yI F rec38 x1 x0 x2 x3 k) s.1 s.2
def qbC (F:Nat)(x1:List (qAq))(rec38:(Int×Int)→Option Int)(x0:Int)(x2:Int):Option Int :=
  (if (decide (x2<(x1.length:Int))) then ((idx x1 x2).bind fun x3=>yI F rec38 x1 x0 x2 x3 F (-1,0)) else qdN F x0)
def zi (F:Nat)(x1:List (qAq)):Nat→(Int×Int)→Option Int
  | 0=>fun _=>none
  | k+1=>fun s=>qbC F x1 (zi F x1 k) s.1 s.2
def qez (F:Nat)(x1:List (qAq)):Option Int :=
  (if (decide (100<(x1.length:Int))) then some 2 else zi F x1 F (0,0))
def qcx (_F:Nat)(x1:Int)(x2:Int)(x3:Int):Option Int :=
  (if (((((((decide (x1<0)) || (decide (7<x1))) || (decide (x2<0))) || ((x2:Int) == 1)) || (decide (300<x2))) || (decide (x3<1))) || (decide (16<x3))) then some 3 else some 0)
def yr (_F:Nat)(x1:qAq):Option (qAq) :=
  ((app 70368744177664 ([]:qAq) x1).bind fun x8=>some x8)
def qfn (F:Nat)(x1:Int)(x2:qAq):Option (Int×qAq) :=
  ((yr F x2).bind fun x10=>some (x1,x10))
def qf6 (_F:Nat)(_x1:Int)(_x2:qAq)(_x5:Int)(_x6:Int):Option Unit :=
  some ()
def yu (_F:Nat)(x2:Int)(x6:Int)(x15:qAq):Option (Int×qAq) :=
  ((idx x15 (iquo .i64 x2 8)).bind fun x30=>(chk (decide (0≤(irem x2 8))) (((idx x15 (iquo .i64 x2 8)).bind fun _x36=>(lett (x15.set (iquo .i64 x2 8).toNat (ior .u8 x30 (ishr .u8 (iconv .u8 (ishl .u64 x6 7)) (irem x2 8)))) fun x41=>some (iadd .i64 x2 1,x41))))))
def jo (F:Nat)(x2:Int)(x3:qAq)(x6:Int):Option (Int×qAq) :=
  (if (((irem x2 8):Int) == 0) then ((app 70368744177664 x3 ([0]:qAq)).bind fun x46=>yu F x2 x6 x46) else yu F x2 x6 x3)
def qbb (_F:Nat)(_x1:Int)(x2:qAq)(x5:Int):Option Int :=
  ((idx x2 (iquo .i64 x5 8)).bind fun x7=>(chk (decide (0≤(isub .i64 7 (irem x5 8)))) ((lett (iand .u64 (iconv .u64 (ishr .u8 x7 (isub .i64 7 (irem x5 8)))) 1) fun x11=>some x11))))
def qaE {σ τ:Type}(F:Nat)(yy:σ→Int→Option (σ ⊕ τ))(x4:Int)(x6:Int)(x7:qAq)(rec1:(Int×σ)→Option (σ ⊕ τ))(x22:Int)(x23:σ):Option (σ ⊕ τ) :=
  (if (decide (x22<x4)) then ((qbb F x6 x7 x22).bind fun x44=>((yy x23 x44).bind (Sum.elim (fun x45=>rec1 (iadd .i64 x22 1,x45)) (fun x46=>some (.inr x46))))) else some (.inl x23))
def zZ {σ τ:Type}(F:Nat)(yy:σ→Int→Option (σ ⊕ τ))(x4:Int)(x6:Int)(x7:qAq):Nat→(Int×σ)→Option (σ ⊕ τ)
  | 0=>fun _=>none
  | k+1=>fun s=>qaE F yy x4 x6 x7 (zZ F yy x4 x6 x7 k) s.1 s.2
def qeT {σ τ:Type}(F:Nat)(yy:σ→Int→Option (σ ⊕ τ))(x2:Int)(x4:Int)(x6:Int)(x7:qAq)(s0:σ):Option (σ ⊕ τ) :=
  zZ F yy x4 x6 x7 F (x2,s0)
def qbX (F:Nat)(x45:Int)(x48:qAq)(x53:Int):Option ((Int×qAq) ⊕ Empty) :=
  ((jo F x45 x48 x53).bind fun x54=>some (.inl (x54.1,x54.2)))
def qaj (F:Nat)(x1:Int)(x2:qAq)(x5:Int)(x6:qAq):Option (Int×qAq) :=
  ((qfn F x1 x2).bind fun x12=>((qf6 F x5 x6 0 x5).bind fun _x37=>((qeT F (fun ((x45,x48):(Int×qAq)) (x53:Int)=>qbX F x45 x48 x53) 0 x5 x5 x6 (x12.1,x12.2)).bind (Sum.elim (fun ((x45,x48):(Int×qAq))=>some (x45,x48)) (fun t=>t.elim)))))
def zU (F:Nat)(x6:Int)(rec1:(Int×Int×qAq)→Option (Int×qAq))(x18:Int)(x19:Int)(x22:qAq):Option (Int×qAq) :=
  (if (decide (0≤x18)) then (chk (decide (0≤x18)) (((jo F x19 x22 (iand .u64 (ishr .u64 x6 x18) 1)).bind fun x40=>rec1 (isub .i64 x18 1,x40.1,x40.2)))) else some (x19,x22))
def zV (F:Nat)(x6:Int):Nat→(Int×Int×qAq)→Option (Int×qAq)
  | 0=>fun _=>none
  | k+1=>fun s=>zU F x6 (zV F x6 k) s.1 s.2.1 s.2.2
def jp (F:Nat)(x2:Int)(x3:qAq)(x6:Int)(x7:Int):Option (Int×qAq) :=
  zV F x6 F (isub .i64 x7 1,x2,x3)
def vB (F:Nat)(x1:Int)(x2:qAq)(x5:Int)(x6:Int):Option (Int×qAq) :=
  ((qfn F x1 x2).bind fun x9=>((jp F x9.1 x9.2 x5 x6).bind fun x13=>some (x13.1,x13.2)))
def yx (_F:Nat)(x9:Int)(x10:Int):Option Int :=
  ((idx ([0,1,2,2,3,3,3,3,4,4,4,4,4,4,4,4,5,5,5,5,5,5,5,5,5,5,5,5,5,5,5,5,6,6,6,6,6,6,6,6,6,6,6,6,6,6,6,6,6,6,6,6,6,6,6,6,6,6,6,6,6,6,6,6,7,7,7,7,7,7,7,7,7,7,7,7,7,7,7,7,7,7,7,7,7,7,7,7,7,7,7,7,7,7,7,7,7,7,7,7,7,7,7,7,7,7,7,7,7,7,7,7,7,7,7,7,7,7,7,7,7,7,7,7,7,7,7,7,8,8,8,8,8,8,8,8,8,8,8,8,8,8,8,8,8,8,8,8,8,8,8,8,8,8,8,8,8,8,8,8,8,8,8,8,8,8,8,8,8,8,8,8,8,8,8,8,8,8,8,8,8,8,8,8,8,8,8,8,8,8,8,8,8,8,8,8,8,8,8,8,8,8,8,8,8,8,8,8,8,8,8,8,8,8,8,8,8,8,8,8,8,8,8,8,8,8,8,8,8,8,8,8,8,8,8,8,8,8,8,8,8,8,8,8,8,8,8,8,8,8,8,8,8,8,8,8]:qAq) (iconv .u8 x9)).bind fun x11=>some (iadd .i64 x10 (iconv .i64 x11)))
def yw (F:Nat)(x6:Int)(x7:Int):Option Int :=
  (if (decide (256≤x6)) then yx F (ishr .u64 x6 8) (iadd .i64 x7 8) else yx F x6 x7)
def yv (F:Nat)(x3:Int)(x4:Int):Option Int :=
  (if (decide (65536≤x3)) then yw F (ishr .u64 x3 16) (iadd .i64 x4 16) else yw F x3 x4)
def yJ (F:Nat)(x1:Int):Option Int :=
  (if (decide (4294967296≤x1)) then yv F (ishr .u64 x1 32) 32 else yv F x1 0)
def qe1 (F:Nat)(x1:Int):Option Int :=
  ((yJ F (iadd .u64 x1 1)).bind fun x2=>some (isub .i64 x2 1))
def qeK (F:Nat)(x1:Int):Option (Int×qAq) :=
  ((mk 140737488355328 (0:Int) (iquo .u64 (iadd .u64 x1 7) 8)).bind fun x3=>((vB F (iconv .i64 x1) x3 1 1).bind fun x6=>some (x6.1,x6.2)))
def qfN (_F:Nat)(x1:Int)(x2:Int):Option Int :=
  (chk (decide (0≤x2)) ((lett (iand .u64 x1 (isub .u64 (ishl .u64 1 x2) 1)) fun x4=>some x4)))
def j4 (F:Nat)(x1:Int):Option (Int×qAq) :=
  ((qe1 F x1).bind fun x3=>((qeK F (iconv .u64 x3)).bind fun x4=>((qfN F (iadd .u64 x1 1) x3).bind fun x7=>((vB F x4.1 x4.2 x7 x3).bind fun x8=>some (x8.1,x8.2)))))
def qeI (_F:Nat)(x1:Int):Option Bool :=
  some ((decide (0≤x1)) && (decide (x1≤1048576)))
def qg3 (_F:Nat):Option Int :=
  some 0
def qc5 (F:Nat)(x1:qAq)(rec3:(Int×Int)→Option Int)(x88:Int)(x89:Int):Option Int :=
  (if (decide (x89<(x1.length:Int))) then ((idx x1 x89).bind fun x0=>((qeI F x0).bind fun x2=>(if (!x2) then some 3 else (if (decide (x0≤x88)) then some 4 else rec3 (x0,iadd .i64 x89 1))))) else qg3 F)
def vX (F:Nat)(x1:qAq):Nat→(Int×Int)→Option Int
  | 0=>fun _=>none
  | k+1=>fun s=>qc5 F x1 (vX F x1 k) s.1 s.2
def js (F:Nat)(x1:qAq):Option Int :=
  (if (decide (300<(x1.length:Int))) then some 2 else vX F x1 F (-1,0))
def yz (F:Nat)(x2:Int)(x3:qAq)(x7:Int)(x8:qAq)(x13:Bool):Option (Int×qAq×Bool) :=
  (if (!x13) then ((qaj F x2 x3 x7 x8).bind fun x14=>some (x14.1,x14.2,x13)) else some (x2,x3,x13))
def yM (F:Nat)(x2:Int)(x3:qAq)(x6:Bool)(x7:Int)(x8:qAq):Option (Int×qAq×Bool) :=
  (if x6 then yz F x2 x3 x7 x8 true else yz F x2 x3 x7 x8 (decide (8192<(iadd .i64 x2 x7))))
def zb (F:Nat)(x2:Int)(x3:qAq)(x6:Bool)(x7:Int):Option (Int×qAq×Bool) :=
  ((j4 F (iconv .u64 x7)).bind fun x8=>((yM F x2 x3 x6 x8.1 x8.2).bind fun x11=>some (x11.1,x11.2.1,x11.2.2)))
def qaY (_F:Nat)(x1:Int):Option Bool :=
  some ((x1:Int) != x1)
def jq (_F:Nat)(x1:Int)(x2:Int)(x6:Bool):Option Bool :=
  some (x6 || (decide (x1<x2)))
def j3 (F:Nat)(x1:Int)(x2:Int):Option Bool :=
  ((qaY F x1).bind fun x3=>(if x3 then ((qaY F x2).bind fun x8=>jq F x1 x2 (!x8)) else jq F x1 x2 false))
def yp (_F:Nat)(x1:Int):Option Bool :=
  some ((x1:Int) != x1)
def kR (_F:Nat)(x32:Int)(x55:Bool):Option (Int×Bool) :=
  some (x32,x55)
def kS (F:Nat)(x32:Int)(x68:Bool):Option (Int×Bool) :=
  kR F x32 x68
def kT (F:Nat)(x32:Int)(x75:Bool):Option (Int×Bool) :=
  kS F x32 x75
def za (F:Nat)(x1:qAq)(x4:Int)(x32:Int):Option (Int×Bool) :=
  (if (decide (x32<(x1.length:Int))) then ((idx x1 x32).bind fun x56=>(if ((x56:Int) == x4) then kS F x32 true else ((idx x1 x32).bind fun x69=>((yp F x69).bind fun x72=>(if x72 then ((yp F x4).bind fun x76=>kT F x32 x76) else kT F x32 false))))) else kR F x32 false)
def q7 (F:Nat)(x1:qAq)(x4:Int)(rec10:(Int×Int)→Option (Int×Bool))(x85:Int)(x86:Int):Option (Int×Bool) :=
  (if (decide (x85<x86)) then (lett (iconv .i64 (ishr .u64 (iconv .u64 (iadd .i64 x85 x86)) 1)) fun x97=>((idx x1 x97).bind fun x98=>((j3 F x98 x4).bind fun x0=>(if x0 then rec10 (iadd .i64 x97 1,x86) else rec10 (x85,x97))))) else za F x1 x4 x85)
def qC (F:Nat)(x1:qAq)(x4:Int):Nat→(Int×Int)→Option (Int×Bool)
  | 0=>fun _=>none
  | k+1=>fun s=>q7 F x1 x4 (qC F x1 x4 k) s.1 s.2
def qI (F:Nat)(x1:qAq)(x4:Int):Option (Int×Bool) :=
  qC F x1 x4 F (0,(x1.length:Int))
def vJ (_F:Nat)(x21:qAq)(x22:Bool)(x23:Int):Option (qAq×Bool×Int) :=
  some (x21,x22,iadd .i64 x23 1)
def qaI (F:Nat)(x2:qAq)(x5:Bool)(x6:Int)(x7:Bool):Option (qAq×Bool×Int) :=
  (if (x7 != x5) then ((app 8796093022208 x2 ([x6]:qAq)).bind fun x31=>vJ F x31 x7 0) else vJ F x2 x5 x6)
def qfv (_F:Nat)(x66:qAq)(x0:qAq):Option (qAq×qAq) :=
  some (x66,x0)
def qdb (_F:Nat)(rec10:(qAq×Int)→Option (qAq×qAq))(x0:Int)(x1:qAq):Option (qAq×qAq) :=
  rec10 (x1,iadd .i64 x0 1)
def qc9 (F:Nat)(x1:qAq)(x4:qAq)(x66:qAq)(rec10:(qAq×Int)→Option (qAq×qAq))(x0:qAq)(x2:Int):Option (qAq×qAq) :=
  (if (decide (x2<(x4.length:Int))) then ((idx x4 x2).bind fun x3=>((qI F x1 x3).bind fun x5=>(if (!x5.2) then ((app 8796093022208 x0 ([x3]:qAq)).bind fun x6=>qdb F rec10 x2 x6) else qdb F rec10 x2 x0))) else qfv F x66 x0)
def yU (F:Nat)(x1:qAq)(x4:qAq)(x66:qAq):Nat→(qAq×Int)→Option (qAq×qAq)
  | 0=>fun _=>none
  | k+1=>fun s=>qc9 F x1 x4 x66 (yU F x1 x4 x66 k) s.1 s.2
def qfu (F:Nat)(x1:qAq)(x4:qAq)(x66:qAq)(_x67:Bool)(_x68:Int):Option (qAq×qAq) :=
  yU F x1 x4 x66 F (([]:qAq),0)
def qda (F:Nat)(x1:qAq)(x4:qAq)(rec12:(Int×qAq×Bool×Int)→Option (qAq×qAq))(x0:Int)(x2:qAq)(x3:Bool)(x5:Int):Option (qAq×qAq) :=
  (if (decide (x0<(x1.length:Int))) then ((idx x1 x0).bind fun x6=>((qI F x4 x6).bind fun x7=>((qaI F x2 x3 x5 x7.2).bind fun x8=>rec12 (iadd .i64 x0 1,x8.1,x8.2.1,x8.2.2)))) else qfu F x1 x4 x2 x3 x5)
def vY (F:Nat)(x1:qAq)(x4:qAq):Nat→(Int×qAq×Bool×Int)→Option (qAq×qAq)
  | 0=>fun _=>none
  | k+1=>fun s=>qda F x1 x4 (vY F x1 x4 k) s.1 s.2.1 s.2.2.1 s.2.2.2
def qfS (F:Nat)(x1:qAq)(x4:qAq):Option (qAq×qAq) :=
  vY F x1 x4 F (0,([]:qAq),true,0)
def yN (F:Nat)(x7:qAq)(rec1:(Int×Int×qAq×Bool)→Option (Int×qAq×Bool))(x27:Int)(x28:Int)(x31:qAq)(x32:Bool):Option (Int×qAq×Bool) :=
  (if (decide (x27<(x7.length:Int))) then ((idx x7 x27).bind fun x55=>((zb F x28 x31 x32 (isub .i64 x55 (imin x27 1))).bind fun x58=>rec1 (iadd .i64 x27 1,x58.1,x58.2.1,x58.2.2))) else some (x28,x31,x32))
def zX (F:Nat)(x7:qAq):Nat→(Int×Int×qAq×Bool)→Option (Int×qAq×Bool)
  | 0=>fun _=>none
  | k+1=>fun s=>yN F x7 (zX F x7 k) s.1 s.2.1 s.2.2.1 s.2.2.2
def jv (F:Nat)(x2:Int)(x3:qAq)(x6:Bool)(x7:qAq):Option (Int×qAq×Bool) :=
  ((zb F x2 x3 x6 (x7.length:Int)).bind fun x10=>zX F x7 F (0,x10.1,x10.2.1,x10.2.2))
def qhb (_F:Nat)(_x1:qAq):Option Unit :=
  some ()
def qbK {σ τ:Type}(_F:Nat)(yy:σ→(Int×Int)→Option (σ ⊕ τ))(rec31:(Int×σ)→Option (σ ⊕ τ))(x2:qAq)(x0:Int)(x1:σ)(x3:Int):Option (σ ⊕ τ) :=
  ((idx x2 x0).bind fun x4=>((yy x1 (x4,x3)).bind (Sum.elim (fun x5=>rec31 (iadd .i64 x0 x3,x5)) (fun x6=>some (.inr x6)))))
def qbL {σ τ:Type}(F:Nat)(yy:σ→(Int×Int)→Option (σ ⊕ τ))(rec31:(Int×σ)→Option (σ ⊕ τ))(rec44:Int→Option (σ ⊕ τ))(x2:qAq)(x0:Int)(x1:σ)(x3:Int)(x4:Bool):Option (σ ⊕ τ) :=
  (if x4 then rec44 (iadd .i64 x3 1) else qbK F yy rec31 x2 x0 x1 x3)
def qbJ {σ τ:Type}(F:Nat)(yy:σ→(Int×Int)→Option (σ ⊕ τ))(rec31:(Int×σ)→Option (σ ⊕ τ))(x2:qAq)(x0:Int)(x1:σ)(rec44:Int→Option (σ ⊕ τ))(x3:Int):Option (σ ⊕ τ) :=
  (if (decide ((iadd .i64 x0 x3)<(x2.length:Int))) then ((idx x2 (iadd .i64 x0 x3)).bind fun x4=>((idx x2 x0).bind fun x5=>qbL F yy rec31 rec44 x2 x0 x1 x3 ((x4:Int) == (iadd .i64 x5 x3)))) else qbL F yy rec31 rec44 x2 x0 x1 x3 false)
def kN {σ τ:Type}(F:Nat)(yy:σ→(Int×Int)→Option (σ ⊕ τ))(rec31:(Int×σ)→Option (σ ⊕ τ))(x2:qAq)(x0:Int)(x1:σ):Nat→Int→Option (σ ⊕ τ)
  | 0=>fun _=>none
  | k+1=>fun s=>qbJ F yy rec31 x2 x0 x1 (kN F yy rec31 x2 x0 x1 k) s
def qbI {σ τ:Type}(F:Nat)(yy:σ→(Int×Int)→Option (σ ⊕ τ))(x2:qAq)(rec31:(Int×σ)→Option (σ ⊕ τ))(x0:Int)(x1:σ):Option (σ ⊕ τ) :=
  (if (decide (x0<(x2.length:Int))) then kN F yy rec31 x2 x0 x1 F 1 else some (.inl x1))
def q9 {σ τ:Type}(F:Nat)(yy:σ→(Int×Int)→Option (σ ⊕ τ))(x2:qAq):Nat→(Int×σ)→Option (σ ⊕ τ)
  | 0=>fun _=>none
  | k+1=>fun s=>qbI F yy x2 (q9 F yy x2 k) s.1 s.2
def qcK {σ τ:Type}(F:Nat)(yy:σ→(Int×Int)→Option (σ ⊕ τ))(x2:qAq)(s0:σ):Option (σ ⊕ τ) :=
  q9 F yy x2 F (0,s0)
def qeD (_F:Nat)(x0:List (Int×Int))(x1:Int)(x2:Int)(rec8:(Int×qAq)→Option ((qAq×List (Int×Int)) ⊕ Empty))(x3:Int)(x4:qAq):Option ((qAq×List (Int×Int)) ⊕ Empty) :=
  (if (decide (x3<x2)) then ((app 8796093022208 x4 ([iadd .i64 x1 x3]:qAq)).bind fun x5=>rec8 (iadd .i64 x3 1,x5)) else some (.inl (x4,x0)))
def qbf (F:Nat)(x0:List (Int×Int))(x1:Int)(x2:Int):Nat→(Int×qAq)→Option ((qAq×List (Int×Int)) ⊕ Empty)
  | 0=>fun _=>none
  | k+1=>fun s=>qeD F x0 x1 x2 (qbf F x0 x1 x2 k) s.1 s.2
def qcJ (F:Nat)(x4:Int)(x0:qAq)(x1:List (Int×Int))(x2:Int)(x3:Int):Option ((qAq×List (Int×Int)) ⊕ Empty) :=
  (if (decide (x4≤x3)) then ((app 4398046511104 x1 ([(x2,x3)]:List (Int×Int))).bind fun x5=>some (.inl (x0,x5))) else qbf F x1 x2 x3 F (0,x0))
def qgC (F:Nat)(x1:qAq)(x4:Int):Option (List (Int×Int)×qAq) :=
  ((qhb F x1).bind fun _x188=>((qcK F (fun ((x0,x2):(qAq×List (Int×Int))) ((x3,x5):(Int×Int))=>qcJ F x4 x0 x2 x3 x5) x1 (([]:qAq),([]:List (Int×Int)))).bind (Sum.elim (fun ((x0,x2):(qAq×List (Int×Int)))=>some (x2,x0)) (fun t=>t.elim))))
def qcN (_F:Nat)(x1:Int):Option Int :=
  (lett (ixor .u64 (ishl .u64 (iconv .u64 x1) 1) (iconv .u64 (ishr .i64 x1 63))) fun x2=>some x2)
def yg (F:Nat)(rec5:(Int×Int×Int×qAq×Bool)→Option (Int×qAq×Bool))(x8:Int)(x74:Int)(x0:(Int×Int))(x1:Int)(x2:qAq)(x3:Bool):Option (Int×qAq×Bool) :=
  ((zb F x1 x2 x3 (isub .i64 x0.2 x8)).bind fun x4=>rec5 (isub .i64 (iadd .i64 x0.1 x0.2) 1,iadd .i64 x74 1,x4.1,x4.2.1,x4.2.2))
def vN (F:Nat)(x8:Int)(x9:List (Int×Int))(rec5:(Int×Int×Int×qAq×Bool)→Option (Int×qAq×Bool))(x73:Int)(x74:Int)(x75:Int)(x78:qAq)(x79:Bool):Option (Int×qAq×Bool) :=
  (if (decide (x74<(x9.length:Int))) then ((idx x9 x74).bind fun x0=>(if ((x74:Int) == 0) then ((qcN F (isub .i64 x0.1 x73)).bind fun x1=>((zb F x75 x78 x79 (iconv .i64 x1)).bind fun x2=>yg F rec5 x8 x74 x0 x2.1 x2.2.1 x2.2.2)) else ((zb F x75 x78 x79 (isub .i64 (isub .i64 x0.1 x73) 2)).bind fun x3=>yg F rec5 x8 x74 x0 x3.1 x3.2.1 x3.2.2))) else some (x75,x78,x79))
def zy (F:Nat)(x8:Int)(x9:List (Int×Int)):Nat→(Int×Int×Int×qAq×Bool)→Option (Int×qAq×Bool)
  | 0=>fun _=>none
  | k+1=>fun s=>vN F x8 x9 (zy F x8 x9 k) s.1 s.2.1 s.2.2.1 s.2.2.2.1 s.2.2.2.2
def qaL (F:Nat)(x2:Int)(x3:qAq)(x6:Bool)(x7:Int)(x8:Int)(x9:List (Int×Int)):Option (Int×qAq×Bool) :=
  ((zb F x2 x3 x6 (x9.length:Int)).bind fun x12=>zy F x8 x9 F (x7,0,x12.1,x12.2.1,x12.2.2))
def qey (F:Nat)(x1:Int)(x2:Int):Option (Int×Int×Int) :=
  ((yJ F (iadd .u64 x1 1)).bind fun x3=>(chk ((x2:Int) != 0) ((chk (decide (0≤(imul .i64 (iquo .i64 (isub .i64 x3 1) x2) x2))) ((chk (decide (0≤(iadd .i64 (imul .i64 (iquo .i64 (isub .i64 x3 1) x2) x2) x2))) (some (iquo .i64 (isub .i64 x3 1) x2,ishl .u64 1 (imul .i64 (iquo .i64 (isub .i64 x3 1) x2) x2),ishl .u64 1 (iadd .i64 (imul .i64 (iquo .i64 (isub .i64 x3 1) x2) x2) x2)))))))))
def qb0 (F:Nat)(x1:Int):Option (Int×Int) :=
  ((yJ F (isub .u64 x1 1)).bind fun x2=>(chk (decide (0≤x2)) (some (x2,isub .u64 (ishl .u64 1 x2) x1))))
def qbB (F:Nat)(x1:Int)(x2:qAq)(x5:Int)(x6:Int):Option (Int×qAq) :=
  ((qb0 F x6).bind fun x9=>(if (decide (x5<x9.2)) then ((vB F x1 x2 x5 (isub .i64 x9.1 1)).bind fun x14=>some (x14.1,x14.2)) else ((vB F x1 x2 (iadd .u64 x5 x9.2) x9.1).bind fun x17=>some (x17.1,x17.2))))
def qex (F:Nat)(x1:Int)(x2:Int):Option (Int×qAq×Int) :=
  (if (((decide (x2<1)) || (decide (16<x2))) || (decide (1099511627776<x1))) then some (0,([]:qAq),3) else ((qey F x1 x2).bind fun x9=>((qeK F (iconv .u64 x9.1)).bind fun x10=>((qbB F x10.1 x10.2 (isub .u64 (iadd .u64 x1 1) x9.2.1) (isub .u64 x9.2.2 x9.2.1)).bind fun x13=>some (x13.1,x13.2,0)))))
def qhZ (_F:Nat)(x0:Int)(x1:qAq):Option (Int×qAq×Bool) :=
  some (x0,x1,true)
def qev (F:Nat)(x5:qAq)(x8:Int)(rec3:(Int×Int×qAq)→Option (Int×qAq×Bool))(x0:Int)(x1:Int)(x2:qAq):Option (Int×qAq×Bool) :=
  (if (decide (x0<(x5.length:Int))) then ((idx x5 x0).bind fun x3=>((qex F x3 x8).bind fun x4=>(if (((x4.2.2:Int) != 0) || (decide (8192<(iadd .i64 x1 x4.1)))) then some (0,([]:qAq),false) else ((qaj F x1 x2 x4.1 x4.2.1).bind fun x6=>rec3 (iadd .i64 x0 1,x6.1,x6.2))))) else qhZ F x1 x2)
def qbd (F:Nat)(x5:qAq)(x8:Int):Nat→(Int×Int×qAq)→Option (Int×qAq×Bool)
  | 0=>fun _=>none
  | k+1=>fun s=>qev F x5 x8 (qbd F x5 x8 k) s.1 s.2.1 s.2.2
def qdj (F:Nat)(x1:Int)(x2:qAq)(x5:qAq)(x8:Int):Option (Int×qAq×Bool) :=
  qbd F x5 x8 F (0,x1,x2)
def qbZ (_F:Nat)(x4:Int)(x8:Int):Option (Int×Int×Bool) :=
  some (x8,x4,true)
def qbz (F:Nat)(x2:Int)(x3:Bool)(x4:Int):Option (Int×Int×Bool) :=
  (if x3 then (lett (iconv .u64 (isub .i64 (isub .i64 x4 x2) 1)) fun x9=>qbZ F x4 x9) else ((qcN F (isub .i64 x4 x2)).bind fun x10=>qbZ F x4 x10))
def qf8 (_F:Nat)(x75:qAq):Option (qAq) :=
  some x75
def qew (F:Nat)(x1:qAq)(rec3:(qAq×Int×Int×Bool)→Option (qAq))(x98:qAq)(x99:Int)(x0:Int)(x2:Bool):Option (qAq) :=
  (if (decide (x99<(x1.length:Int))) then ((idx x1 x99).bind fun x3=>((qbz F x0 x2 x3).bind fun x4=>((app 8796093022208 x98 ([x4.1]:qAq)).bind fun x5=>rec3 (x5,iadd .i64 x99 1,x4.2.1,x4.2.2)))) else qf8 F x98)
def qbe (F:Nat)(x1:qAq):Nat→(qAq×Int×Int×Bool)→Option (qAq)
  | 0=>fun _=>none
  | k+1=>fun s=>qew F x1 (qbe F x1 k) s.1 s.2.1 s.2.2.1 s.2.2.2
def qfr (F:Nat)(x1:qAq)(x4:Int):Option (qAq) :=
  qbe F x1 F (([]:qAq),0,x4,false)
def yf (F:Nat)(x52:Int)(x55:qAq)(x56:Bool)(x76:Bool)(x77:Int)(x80:qAq):Option (Int×qAq×Bool) :=
  ((yM F x52 x55 (x56 || (!x76)) x77 x80).bind fun x82=>some (x82.1,x82.2.1,x82.2.2))
def ye (F:Nat)(x7:Int)(x16:Int)(x51:qAq)(x52:Int)(x55:qAq)(x56:Bool):Option (Int×qAq×Bool) :=
  ((qfr F x51 x7).bind fun x85=>((qdj F 0 ([]:qAq) x85 x16).bind fun x88=>yf F x52 x55 x56 x88.2.2 x88.1 x88.2.1))
def yd (F:Nat)(x7:Int)(x15:Int)(x16:Int)(x33:qAq)(x34:Int)(x37:qAq)(x38:Bool):Option (Int×qAq×Bool) :=
  (if (((x33.length:Int):Int) == 0) then some (x34,x37,x38) else (if (decide (0<x15)) then ((qgC F x33 x15).bind fun x0=>((qaL F x34 x37 x38 x7 x15 x0.1).bind fun x1=>ye F x7 x16 x0.2 x1.1 x1.2.1 x1.2.2)) else ye F x7 x16 x33 x34 x37 x38))
def vG (F:Nat)(x2:Int)(x3:qAq)(x6:Bool)(x7:Int)(x8:qAq)(x11:qAq)(x14:Int)(x15:Int)(x16:Int):Option (Int×qAq×Bool) :=
  ((zb F x2 x3 x6 (x8.length:Int)).bind fun x18=>(if (((x8.length:Int):Int) == 0) then some (x18.1,x18.2.1,x18.2.2) else (if (decide (0<x14)) then ((qfS F x11 x8).bind fun x0=>((jv F x18.1 x18.2.1 x18.2.2 x0.1).bind fun x1=>yd F x7 x15 x16 x0.2 x1.1 x1.2.1 x1.2.2)) else yd F x7 x15 x16 x8 x18.1 x18.2.1 x18.2.2)))
def qe8 (F:Nat)(x1:Int)(x2:qAq)(x5:Int)(_x6:Int)(_x7:Int):Option Int :=
  (if ((decide (x1<0)) || (decide (1048576<x1))) then some 3 else (if (decide (0<x5)) then ((js F x2).bind fun x14=>some x14) else some 0))
def qa2 (F:Nat)(x1:Int)(x2:qAq)(x5:qAq)(x8:Int)(x9:Int)(x10:Int)(x25:Int):Option (Int×qAq×Int) :=
  (if ((x25:Int) != 0) then some (0,([]:qAq),x25) else ((vG F 0 ([]:qAq) false x1 x2 x5 x8 x9 x10).bind fun x28=>(if x28.2.2 then some (0,([]:qAq),8) else some (x28.1,x28.2.1,0))))
def v8 (F:Nat)(x1:Int)(x2:qAq)(x5:qAq)(x8:Int)(x9:Int)(x10:Int)(x22:Int):Option (Int×qAq×Int) :=
  (if ((x22:Int) == 0) then ((qe8 F x1 x5 x8 x9 x10).bind fun x34=>qa2 F x1 x2 x5 x8 x9 x10 x34) else qa2 F x1 x2 x5 x8 x9 x10 x22)
def v7 (F:Nat)(x1:Int)(x2:qAq)(x5:qAq)(x8:Int)(x9:Int)(x10:Int)(x19:Int):Option (Int×qAq×Int) :=
  (if ((x19:Int) == 0) then ((js F x2).bind fun x36=>v8 F x1 x2 x5 x8 x9 x10 x36) else v8 F x1 x2 x5 x8 x9 x10 x19)
def qa3 (F:Nat)(x1:Int)(x2:qAq)(x5:qAq)(x8:Int)(x9:Int)(x10:Int)(x13:Int)(x40:Bool):Option (Int×qAq×Int) :=
  (if x40 then v7 F x1 x2 x5 x8 x9 x10 3 else v7 F x1 x2 x5 x8 x9 x10 x13)
def qe7 (F:Nat)(x1:Int)(x2:qAq)(x5:qAq)(x8:Int)(x9:Int)(x10:Int):Option (Int×qAq×Int) :=
  ((qcx F x8 x9 x10).bind fun x13=>(if ((x13:Int) == 0) then qa3 F x1 x2 x5 x8 x9 x10 x13 ((decide (x1<0)) || (decide (1048576<x1))) else qa3 F x1 x2 x5 x8 x9 x10 x13 false))
def qb2 (F:Nat)(x1:List (qAq))(x4:qAq)(x7:Int)(x9:Int)(x10:Int)(x18:Int)(x21:qAq)(x29:qAq):Option (Int×Int×qAq×Bool) :=
  ((qe7 F (x1.length:Int) x4 x29 x7 x9 x10).bind fun x30=>(if (((x30.2.2:Int) != 0) || (decide (8192<(iadd .i64 x18 x30.1)))) then some (0,0,([]:qAq),false) else ((qaj F x18 x21 x30.1 x30.2.1).bind fun x37=>some (x7,x37.1,x37.2,true))))
def qb1 (F:Nat)(x1:List (qAq))(x4:qAq)(x7:Int)(x9:Int)(x10:Int)(x18:Int)(x21:qAq):Option (Int×Int×qAq×Bool) :=
  (if (decide (0<x7)) then ((idx x1 (isub .i64 (x1.length:Int) x7)).bind fun x41=>qb2 F x1 x4 x7 x9 x10 x18 x21 x41) else qb2 F x1 x4 x7 x9 x10 x18 x21 ([]:qAq))
def qfR (F:Nat)(x1:List (qAq))(x4:qAq)(x7:Int)(x8:Int)(x9:Int)(x10:Int):Option (Int×Int×qAq×Bool) :=
  (if (decide (0<x8)) then ((j4 F (iconv .u64 x7)).bind fun x46=>qb1 F x1 x4 x7 x9 x10 x46.1 x46.2) else qb1 F x1 x4 x7 x9 x10 0 ([]:qAq))
def qft (_F:Nat)(x96:Bool)(x97:Int)(x98:Int)(x0:qAq):Option (Int×Int×qAq×Bool) :=
  some (x97,x98,x0,x96)
def yT (_F:Nat)(rec14:(Bool×Int×Int×Int×qAq)→Option (Int×Int×qAq×Bool))(x0:Int)(x1:Bool)(x2:Int)(x3:Int)(x4:qAq):Option (Int×Int×qAq×Bool) :=
  rec14 (x1,iadd .i64 x0 1,x2,x3,x4)
def qc7 (F:Nat)(rec14:(Bool×Int×Int×Int×qAq)→Option (Int×Int×qAq×Bool))(x0:Bool)(x1:Int)(x2:Int)(x3:Int)(x4:qAq)(x5:(Int×Int×qAq×Bool))(x6:Bool):Option (Int×Int×qAq×Bool) :=
  (if x6 then yT F rec14 x1 true x5.1 x5.2.1 x5.2.2.1 else yT F rec14 x1 x0 x2 x3 x4)
def qc6 (F:Nat)(x1:List (qAq))(x4:qAq)(x7:Int)(x8:Int)(x9:Int)(rec14:(Bool×Int×Int×Int×qAq)→Option (Int×Int×qAq×Bool))(x0:Bool)(x2:Int)(x3:Int)(x5:Int)(x6:qAq):Option (Int×Int×qAq×Bool) :=
  (if (decide (x2<(iadd .i64 (imin x7 (x1.length:Int)) 1))) then ((qfR F x1 x4 x2 x7 x8 x9).bind fun x10=>(if x10.2.2.2 then qc7 F rec14 x0 x2 x3 x5 x6 x10 ((!x0) || (decide (x10.2.1<x5))) else qc7 F rec14 x0 x2 x3 x5 x6 x10 false)) else qft F x0 x3 x5 x6)
def ke (F:Nat)(x1:List (qAq))(x4:qAq)(x7:Int)(x8:Int)(x9:Int):Nat→(Bool×Int×Int×Int×qAq)→Option (Int×Int×qAq×Bool)
  | 0=>fun _=>none
  | k+1=>fun s=>qc6 F x1 x4 x7 x8 x9 (ke F x1 x4 x7 x8 x9 k) s.1 s.2.1 s.2.2.1 s.2.2.2.1 s.2.2.2.2
def qfQ (F:Nat)(x1:List (qAq))(x4:qAq)(x7:Int)(x8:Int)(x9:Int):Option (Int×Int×qAq×Bool) :=
  ke F x1 x4 x7 x8 x9 F (false,0,0,0,([]:qAq))
def qaF (_F:Nat)(x2:Int)(x3:Int)(x4:Int)(x5:Int)(x0:Int)(x1:qAq)(x6:qAq)(x7:qAq):Option (Bool×Int×Int×Int×Int×Int×qAq×qAq×qAq) :=
  some (true,x2,x3,x4,x5,x0,x1,x6,x7)
def kL (F:Nat)(rec43:(Int×Int×qAq×qAq×qAq)→Option (Bool×Int×Int×Int×Int×Int×qAq×qAq×qAq))(x0:Int)(x1:Int)(x2:qAq)(x3:Int)(x4:qAq)(x5:qAq)(x6:qAq):Option (Bool×Int×Int×Int×Int×Int×qAq×qAq×qAq) :=
  ((qaj F x1 x2 x3 x4).bind fun x7=>rec43 (iadd .i64 x0 1,x7.1,x7.2,x5,x6))
def kK (F:Nat)(rec43:(Int×Int×qAq×qAq×qAq)→Option (Bool×Int×Int×Int×Int×Int×qAq×qAq×qAq))(x2:Int)(x3:Int)(x4:Int)(x5:Int)(x0:Int)(x1:Int)(x6:qAq)(x7:qAq)(x8:qAq)(x9:Int)(x10:Int)(x11:qAq)(x12:Bool):Option (Bool×Int×Int×Int×Int×Int×qAq×qAq×qAq) :=
  (if x12 then some (false,x2,x3,x4,x5,x1,x6,x7,x8) else ((app 8796093022208 x7 ([x9]:qAq)).bind fun x13=>((app 8796093022208 x8 ([x1]:qAq)).bind fun x14=>kL F rec43 x0 x1 x6 x10 x11 x13 x14)))
def vb (F:Nat)(rec43:(Int×Int×qAq×qAq×qAq)→Option (Bool×Int×Int×Int×Int×Int×qAq×qAq×qAq))(x2:Int)(x3:Int)(x4:Int)(x5:Int)(x0:Int)(x1:Int)(x6:qAq)(x7:qAq)(x8:qAq)(x9:Bool)(x10:Int)(x11:Int)(x12:qAq):Option (Bool×Int×Int×Int×Int×Int×qAq×qAq×qAq) :=
  (if (!x9) then kK F rec43 x2 x3 x4 x5 x0 x1 x6 x7 x8 x10 x11 x12 true else kK F rec43 x2 x3 x4 x5 x0 x1 x6 x7 x8 x10 x11 x12 (decide (8192<(iadd .i64 x1 x11))))
def va (F:Nat)(x2:Int)(x3:Int)(x4:Int)(x5:Int)(x16:List (qAq))(rec43:(Int×Int×qAq×qAq×qAq)→Option (Bool×Int×Int×Int×Int×Int×qAq×qAq×qAq))(x0:Int)(x1:Int)(x6:qAq)(x7:qAq)(x8:qAq):Option (Bool×Int×Int×Int×Int×Int×qAq×qAq×qAq) :=
  (if (decide (x0<(x16.length:Int))) then ((idx x16 x0).bind fun x9=>((sub x16 0 x0).bind fun x10=>((qfQ F x10 x9 x3 x4 x5).bind fun x11=>vb F rec43 x2 x3 x4 x5 x0 x1 x6 x7 x8 x11.2.2.2 x11.1 x11.2.1 x11.2.2.1))) else qaF F x2 x3 x4 x5 x1 x6 x7 x8)
def qN (F:Nat)(x2:Int)(x3:Int)(x4:Int)(x5:Int)(x16:List (qAq)):Nat→(Int×Int×qAq×qAq×qAq)→Option (Bool×Int×Int×Int×Int×Int×qAq×qAq×qAq)
  | 0=>fun _=>none
  | k+1=>fun s=>va F x2 x3 x4 x5 x16 (qN F x2 x3 x4 x5 x16 k) s.1 s.2.1 s.2.2.1 s.2.2.2.1 s.2.2.2.2
def qdk (F:Nat)(x2:Int)(x3:Int)(x4:Int)(x5:Int)(x6:Int)(x7:qAq)(x10:qAq)(x13:qAq)(x16:List (qAq)):Option (Bool×Int×Int×Int×Int×Int×qAq×qAq×qAq) :=
  qN F x2 x3 x4 x5 x16 F (0,x6,x7,x10,x13)
def vt (_F:Nat)(x48:Int)(x49:Int)(x50:Int)(x51:Int)(x52:Int)(x53:Int)(x56:qAq)(x59:qAq)(x62:qAq):Option (Int×Int×Int×Int×Int×qAq×qAq×qAq×Int) :=
  some (x49,x50,x51,x52,x53,x56,x59,x62,x48)
def vu (F:Nat)(x12:Int)(x74:Bool)(x75:Int)(x76:Int)(x77:Int)(x78:Int)(x79:Int)(x82:qAq)(x85:qAq)(x88:qAq):Option (Int×Int×Int×Int×Int×qAq×qAq×qAq×Int) :=
  (if x74 then vt F 8 x75 x76 x77 x78 x79 x82 x85 x88 else vt F x12 x75 x76 x77 x78 x79 x82 x85 x88)
def j8 (F:Nat)(x1:List (qAq))(x4:Int)(x5:Int)(x6:Int)(x12:Int):Option (Int×Int×Int×Int×Int×qAq×qAq×qAq×Int) :=
  (if ((x12:Int) == 0) then ((qdk F (x1.length:Int) x4 x5 x6 0 ([]:qAq) ([]:qAq) ([]:qAq) x1).bind fun x90=>vu F x12 (!x90.1) x90.2.1 x90.2.2.1 x90.2.2.2.1 x90.2.2.2.2.1 x90.2.2.2.2.2.1 x90.2.2.2.2.2.2.1 x90.2.2.2.2.2.2.2.1 x90.2.2.2.2.2.2.2.2) else vu F x12 false (x1.length:Int) x4 x5 x6 0 ([]:qAq) ([]:qAq) ([]:qAq))
def qcI (F:Nat)(x1:List (qAq))(x4:Int)(x5:Int)(x6:Int):Option (Int×Int×Int×Int×Int×qAq×qAq×qAq×Int) :=
  ((qez F x1).bind fun x9=>(if ((x9:Int) == 0) then ((qcx F x4 x5 x6).bind fun x97=>j8 F x1 x4 x5 x6 x97) else j8 F x1 x4 x5 x6 x9))
def qdQ (F:Nat)(x1:List (qAq))(x4:Int)(x5:Int)(x6:Int):Option (Int×Int×Int×Int×Int×qAq×Int) :=
  ((qcI F x1 x4 x5 x6).bind fun x10=>(if ((x10.2.2.2.2.2.2.2.2:Int) != 0) then some (0,0,0,0,0,([]:qAq),x10.2.2.2.2.2.2.2.2) else some (x10.1,x10.2.1,x10.2.2.1,x10.2.2.2.1,x10.2.2.2.2.1,x10.2.2.2.2.2.1,0)))
def qeJ (F:Nat)(x1:List (qAq))(x4:Int)(x5:Int)(x6:Int):Option (qAq×qAq×Int) :=
  ((qcI F x1 x4 x5 x6).bind fun x9=>(if ((x9.2.2.2.2.2.2.2.2:Int) != 0) then some (([]:qAq),([]:qAq),x9.2.2.2.2.2.2.2.2) else some (x9.2.2.2.2.2.2.1,x9.2.2.2.2.2.2.2.1,0)))
def qg1 (_F:Nat):Option Int :=
  some 0
def qc4 (F:Nat)(x1:qAq)(x4:Int)(rec3:(Int×Int)→Option Int)(x92:Int)(x93:Int):Option Int :=
  (if (decide (x93<(x1.length:Int))) then ((idx x1 x93).bind fun x0=>(if ((decide (x0<0)) || (decide (x4<x0))) then some 3 else (if (decide (x0<x92)) then some 4 else rec3 (x0,iadd .i64 x93 1)))) else qg1 F)
def vW (F:Nat)(x1:qAq)(x4:Int):Nat→(Int×Int)→Option Int
  | 0=>fun _=>none
  | k+1=>fun s=>qc4 F x1 x4 (vW F x1 x4 k) s.1 s.2
def qdI (F:Nat)(x1:qAq)(x4:Int):Option Int :=
  (if ((decide (x4<0)) || (decide (1048576<x4))) then some 3 else (if (decide (300<(x1.length:Int))) then some 2 else vW F x1 x4 F (0,0)))
def qg2 (_F:Nat)(x35:Int):Option Int :=
  some x35
def j6 (F:Nat)(rec13:Int→Option Int)(x46:Int)(x65:Bool):Option Int :=
  (if x65 then rec13 (iadd .i64 x46 1) else qg2 F x46)
def qcw (F:Nat)(x1:Int)(x2:Int)(rec13:Int→Option Int)(x46:Int):Option Int :=
  (if (decide (0<x1)) then (chk (decide (0≤(iadd .i64 x46 1))) (j6 F rec13 x46 (decide ((ishl .i64 x1 (iadd .i64 x46 1))≤(iadd .i64 x2 1))))) else j6 F rec13 x46 false)
def yn (F:Nat)(x1:Int)(x2:Int):Nat→Int→Option Int
  | 0=>fun _=>none
  | k+1=>fun s=>qcw F x1 x2 (yn F x1 x2 k) s
def qdK (F:Nat)(x1:Int)(x2:Int):Option Int :=
  yn F x1 x2 F 0
def vI (F:Nat)(x7:Int)(rec1:(Int×qAq×Int)→Option (Int×qAq×Int))(x16:Int)(x19:qAq)(x20:Int):Option (Int×qAq×Int) :=
  (if (decide (x20<x7)) then ((vB F x16 x19 0 1).bind fun x34=>rec1 (x34.1,x34.2,iadd .i64 x20 1)) else some (x16,x19,x20))
def ko (F:Nat)(x7:Int):Nat→(Int×qAq×Int)→Option (Int×qAq×Int)
  | 0=>fun _=>none
  | k+1=>fun s=>vI F x7 (ko F x7 k) s.1 s.2.1 s.2.2
def vC (F:Nat)(x2:Int)(x3:qAq)(x6:Int)(x7:Int):Option (Int×qAq×Int) :=
  ko F x7 F (x2,x3,x6)
def qf7 (F:Nat)(x1:qAq)(x4:Int)(x6:Int)(x0:Int)(x2:qAq)(x3:Int)(x5:Int)(x7:qAq):Option (Int×Int×Int×Int×qAq×Int×qAq×Bool) :=
  ((vC F x0 x2 x3 (iadd .i64 (ishr .i64 x4 x6) 1)).bind fun x8=>some ((x1.length:Int),x4,x6,x5,x7,x8.1,x8.2.1,true))
def qeu (F:Nat)(x1:qAq)(x4:Int)(x6:Int)(rec3:(Int×Int×qAq×Int×Int×qAq)→Option (Int×Int×Int×Int×qAq×Int×qAq×Bool))(x0:Int)(x2:Int)(x3:qAq)(x5:Int)(x7:Int)(x8:qAq):Option (Int×Int×Int×Int×qAq×Int×qAq×Bool) :=
  (if (decide (x0<(x1.length:Int))) then ((idx x1 x0).bind fun x9=>(chk (decide (0≤x6)) (((vB F x7 x8 (iconv .u64 (iand .i64 x9 (isub .i64 (ishl .i64 1 x6) 1))) x6).bind fun x10=>(chk (decide (0≤x6)) (((vC F x2 x3 x5 (ishr .i64 x9 x6)).bind fun x11=>((vB F x11.1 x11.2.1 1 1).bind fun x12=>rec3 (iadd .i64 x0 1,x12.1,x12.2,x11.2.2,x10.1,x10.2))))))))) else qf7 F x1 x4 x6 x2 x3 x5 x7 x8)
def qbc (F:Nat)(x1:qAq)(x4:Int)(x6:Int):Nat→(Int×Int×qAq×Int×Int×qAq)→Option (Int×Int×Int×Int×qAq×Int×qAq×Bool)
  | 0=>fun _=>none
  | k+1=>fun s=>qeu F x1 x4 x6 (qbc F x1 x4 x6 k) s.1 s.2.1 s.2.2.1 s.2.2.2.1 s.2.2.2.2.1 s.2.2.2.2.2
def qfp (F:Nat)(x1:qAq)(x4:Int):Option (Int×Int×Int×Int×qAq×Int×qAq×Bool) :=
  ((qdK F (x1.length:Int) x4).bind fun x6=>(chk (decide (0≤x6)) ((if ((decide (8192<(imul .i64 (x1.length:Int) x6))) || (decide (8192<(iadd .i64 (x1.length:Int) (iadd .i64 (ishr .i64 x4 x6) 1))))) then some (0,0,0,0,([]:qAq),0,([]:qAq),false) else qbc F x1 x4 x6 F (0,0,([]:qAq),0,0,([]:qAq))))))
def qdH (F:Nat)(x1:qAq)(x4:Int):Option (Int×Int×Int×Int×qAq×Int×qAq×Int) :=
  ((qdI F x1 x4).bind fun x8=>(if ((x8:Int) != 0) then some (0,0,0,0,([]:qAq),0,([]:qAq),x8) else ((qfp F x1 x4).bind fun x9=>(if (!x9.2.2.2.2.2.2.2) then some (0,0,0,0,([]:qAq),0,([]:qAq),8) else some (x9.1,x9.2.1,x9.2.2.1,x9.2.2.2.1,x9.2.2.2.2.1,x9.2.2.2.2.2.1,x9.2.2.2.2.2.2.1,0)))))
def qbg (F:Nat)(x1:List (qAq))(x4:Int)(x5:Int)(x6:Int)(x7:Int)(x8:Int)(x9:qAq):Option (Int×Int×Int×Int×Int×qAq×Int×Int×Int×Int×qAq×Int×qAq×Int) :=
  ((qeJ F x1 x5 x6 x7).bind fun x15=>(if ((x15.2.2:Int) != 0) then some (0,0,0,0,0,([]:qAq),0,0,0,0,([]:qAq),0,([]:qAq),x15.2.2) else ((qdH F x15.2.1 x8).bind fun x21=>(if ((x21.2.2.2.2.2.2.2:Int) != 0) then some (0,0,0,0,0,([]:qAq),0,0,0,0,([]:qAq),0,([]:qAq),x21.2.2.2.2.2.2.2) else some (x4,x5,x6,x7,x8,x9,x21.1,x21.2.1,x21.2.2.1,x21.2.2.2.1,x21.2.2.2.2.1,x21.2.2.2.2.2.1,x21.2.2.2.2.2.2.1,0)))))
def qcM (F:Nat)(x1:List (qAq))(x4:Int)(x5:Int)(x6:Int):Option (Int×Int×Int×Int×Int×qAq×Int×Int×Int×Int×qAq×Int×qAq×Int) :=
  ((qdQ F x1 x4 x5 x6).bind fun x10=>(if ((x10.2.2.2.2.2.2:Int) != 0) then some (0,0,0,0,0,([]:qAq),0,0,0,0,([]:qAq),0,([]:qAq),x10.2.2.2.2.2.2) else ((qbg F x1 x10.1 x10.2.1 x10.2.2.1 x10.2.2.2.1 x10.2.2.2.2.1 x10.2.2.2.2.2.1).bind fun x15=>some (x15.1,x15.2.1,x15.2.2.1,x15.2.2.2.1,x15.2.2.2.2.1,x15.2.2.2.2.2.1,x15.2.2.2.2.2.2.1,x15.2.2.2.2.2.2.2.1,x15.2.2.2.2.2.2.2.2.1,x15.2.2.2.2.2.2.2.2.2.1,x15.2.2.2.2.2.2.2.2.2.2.1,x15.2.2.2.2.2.2.2.2.2.2.2.1,x15.2.2.2.2.2.2.2.2.2.2.2.2.1,x15.2.2.2.2.2.2.2.2.2.2.2.2.2))))
def qaX (_F:Nat)(x36:Bool):Option Int :=
  (if x36 then some 1 else some 0)
def qcu (F:Nat)(x1:Int)(x2:qAq):Option Int :=
  (if ((decide (x1<0)) || (decide (8192<x1))) then some 3 else (if (((x2.length:Int):Int) != (iquo .i64 (iadd .i64 x1 7) 8)) then some 1 else (if (((irem x1 8):Int) != 0) then ((idx x2 (isub .i64 (x2.length:Int) 1)).bind fun x39=>(chk (decide (0≤(irem x1 8))) (qaX F (((ishl .u8 x39 (irem x1 8)):Int) != 0)))) else qaX F false)))
def qe3 (F:Nat)(x1:Int)(x2:Int)(x3:Int)(x4:Int)(x5:Int)(x6:qAq):Option Int :=
  (if ((decide (x1<0)) || (decide (100<x1))) then some 3 else ((qcx F x2 x3 x4).bind fun x15=>(if ((x15:Int) != 0) then some x15 else ((qcu F x5 x6).bind fun x16=>some x16))))
def qg4 (_F:Nat):Option (Int×Int×Bool) :=
  some (0,0,false)
def qdf (F:Nat)(x1:Int)(x2:qAq)(x5:Int)(rec3:Int→Option (Int×Int×Bool))(x33:Int):Option (Int×Int×Bool) :=
  (if (decide (x33<x1)) then ((qbb F x1 x2 x33).bind fun x44=>(if ((x44:Int) == 1) then some (iconv .u64 (isub .i64 x33 x5),iadd .i64 x33 1,true) else rec3 (iadd .i64 x33 1))) else qg4 F)
def ja (F:Nat)(x1:Int)(x2:qAq)(x5:Int):Nat→Int→Option (Int×Int×Bool)
  | 0=>fun _=>none
  | k+1=>fun s=>qdf F x1 x2 x5 (ja F x1 x2 x5 k) s
def qdT (F:Nat)(x1:Int)(x2:qAq)(x5:Int):Option (Int×Int×Bool) :=
  ja F x1 x2 x5 F x5
def qcE (F:Nat)(x1:Int)(x2:qAq)(x5:Int):Option (Int×Int×Int) :=
  ((qdT F x1 x2 x5).bind fun x7=>(if (!x7.2.2) then some (0,0,7) else some (x7.1,x7.2.1,0)))
def qfm (_F:Nat)(x24:Int):Option (Int×Bool) :=
  some (x24,true)
def qdG (F:Nat)(x1:Int)(x2:qAq)(x5:Int)(x6:Int)(rec3:(Int×Int)→Option (Int×Bool))(x29:Int)(x30:Int):Option (Int×Bool) :=
  (if (decide (x30<x6)) then ((qbb F x1 x2 (iadd .i64 x5 x30)).bind fun x38=>rec3 (ior .u64 (ishl .u64 x29 1) x38,iadd .i64 x30 1)) else qfm F x29)
def j2 (F:Nat)(x1:Int)(x2:qAq)(x5:Int)(x6:Int):Nat→(Int×Int)→Option (Int×Bool)
  | 0=>fun _=>none
  | k+1=>fun s=>qdG F x1 x2 x5 x6 (j2 F x1 x2 x5 x6 k) s.1 s.2
def jn (F:Nat)(x1:Int)(x2:qAq)(x5:Int)(x6:Int):Option (Int×Bool) :=
  (if (decide ((isub .i64 x1 x5)<x6)) then some (0,false) else j2 F x1 x2 x5 x6 F (0,0))
def zT (F:Nat)(x1:Int)(x2:qAq)(x5:Int):Option (Int×Int×Int) :=
  ((qcE F x1 x2 x5).bind fun x7=>(if ((x7.2.2:Int) != 0) then some (0,0,x7.2.2) else (if (decide (64≤x7.1)) then some (0,0,3) else ((jn F x1 x2 x7.2.1 (iconv .i64 x7.1)).bind fun x10=>(if (!x10.2) then some (0,0,7) else (chk (decide (0≤x7.1)) ((lett (iadd .u64 x10.1 (isub .u64 (ishl .u64 1 x7.1) 1)) fun x16=>(if (decide (1099511627776<x16)) then some (0,0,3) else some (x16,iadd .i64 x7.2.1 (iconv .i64 x7.1),0))))))))))
def jr (F:Nat)(x1:Int)(x2:qAq)(x5:Int):Option (Int×Int×Int) :=
  ((zT F x1 x2 x5).bind fun x7=>some (x7.1,x7.2.1,x7.2.2))
def qeA (_F:Nat)(x13:(Int×Int×Int))(x18:Bool):Option (Int×Int×Bool) :=
  (if x18 then some (0,0,false) else some (iconv .i64 x13.1,x13.2.1,true))
def qfs (F:Nat)(_x1:Int)(x2:Int)(_x3:Int)(_x4:Int)(x5:Int)(x6:qAq)(x9:Int)(x10:Int):Option (Int×Int×Bool) :=
  (if ((x2:Int) == 0) then some (0,x9,true) else ((jr F x5 x6 x9).bind fun x13=>(if ((x13.2.2:Int) != 0) then qeA F x13 true else qeA F x13 (decide ((iconv .u64 (imin x2 x10))<x13.1)))))
def k9 (_F:Nat)(x1:Bool):Option (Unit ⊕ Unit) :=
  (if (!x1) then some (.inr ()) else some (.inl ()))
def zB (F:Nat)(x2:Int)(x3:qAq)(x6:Int)(x7:Int):Option ((Int×Int×Int) ⊕ (Int×Int)) :=
  ((jr F x2 x3 x6).bind fun x9=>(lbnd (k9 F (((x9.2.2:Int) == 0) && (decide (x9.1≤(iconv .u64 x7))))) (fun _x11=>some (.inl (iconv .i64 x9.1,x2,x9.2.1))) (fun _x12=>some (.inr (x2,x6)))))
def qdR (_F:Nat)(x4:Int)(x99:Int):Option Int :=
  (if (decide (x4<x99)) then some 8 else some 0)
def qbG (_F:Nat)(rec23:(Int×Int)→Option Int)(x4:Int)(x0:Int)(x1:Int)(x2:Int)(x3:Bool):Option Int :=
  (if x3 then some 3 else (lett (imin (iadd .i64 x0 (imin x2 (iadd .i64 x4 1))) (iadd .i64 x4 1)) fun x5=>rec23 (x5,iadd .i64 x1 1)))
def qbF (F:Nat)(x1:qAq)(x4:Int)(rec23:(Int×Int)→Option Int)(x0:Int)(x2:Int):Option Int :=
  (if (decide (x2<(x1.length:Int))) then ((idx x1 x2).bind fun x3=>(if (decide (x3<0)) then qbG F rec23 x4 x0 x2 x3 true else qbG F rec23 x4 x0 x2 x3 ((decide (x3<1)) && (decide (0<x2))))) else qdR F x4 x0)
def kM (F:Nat)(x1:qAq)(x4:Int):Nat→(Int×Int)→Option Int
  | 0=>fun _=>none
  | k+1=>fun s=>qbF F x1 x4 (kM F x1 x4 k) s.1 s.2
def qeB (F:Nat)(x1:qAq)(x4:Int):Option Int :=
  (if (decide ((iadd .i64 x4 1)<(x1.length:Int))) then some 2 else kM F x1 x4 F (0,0))
def qbH (_F:Nat)(x0:qAq):Option (qAq) :=
  some x0
def qdS (F:Nat)(x0:qAq)(x1:qAq)(x2:Bool):Option (qAq) :=
  (if x2 then ((app 8796093022208 x1 x0).bind fun x3=>qbH F x3) else qbH F x1)
def qaH (_F:Nat)(rec10:(qAq×qAq×Bool×Int)→Option (qAq))(x0:qAq)(x1:Bool)(x2:Int)(x3:Int)(x4:qAq):Option (qAq) :=
  ((sub x0 x3 (x0.length:Int)).bind fun x5=>rec10 (x5,x4,(!x1),iadd .i64 x2 1))
def qaG (F:Nat)(x4:qAq)(rec10:(qAq×qAq×Bool×Int)→Option (qAq))(x0:qAq)(x1:qAq)(x2:Bool)(x3:Int):Option (qAq) :=
  (if (decide (x3<(x4.length:Int))) then ((idx x4 x3).bind fun x5=>(if x2 then ((sub x0 0 x5).bind fun x6=>((app 8796093022208 x1 x6).bind fun x7=>qaH F rec10 x0 x2 x3 x5 x7)) else qaH F rec10 x0 x2 x3 x5 x1)) else qdS F x0 x1 x2)
def kA (F:Nat)(x4:qAq):Nat→(qAq×qAq×Bool×Int)→Option (qAq)
  | 0=>fun _=>none
  | k+1=>fun s=>qaG F x4 (kA F x4 k) s.1 s.2.1 s.2.2.1 s.2.2.2
def qfw (F:Nat)(x1:qAq)(x4:qAq):Option (qAq) :=
  kA F x4 F (x1,([]:qAq),true,0)
def qa0 (F:Nat)(x1:qAq)(x4:qAq)(x10:Int):Option (qAq×Int) :=
  (if ((x10:Int) != 0) then some (([]:qAq),x10) else ((qfw F x1 x4).bind fun x12=>some (x12,0)))
def qe4 (F:Nat)(x1:qAq)(x4:qAq):Option (qAq×Int) :=
  ((js F x1).bind fun x7=>(if ((x7:Int) == 0) then ((qeB F x4 (x1.length:Int)).bind fun x16=>qa0 F x1 x4 x16) else qa0 F x1 x4 x7))
def qaa (_F:Nat)(x72:qAq)(x73:Int)(x74:Int):Option ((qAq×Int×Int) ⊕ (Int×Int)) :=
  some (.inl (x72,x73,x74))
def yL (F:Nat)(x3:qAq)(x7:Int)(x10:qAq)(rec3:(qAq×Int×Int×Int)→Option ((qAq×Int×Int) ⊕ (Int×Int)))(x93:qAq)(x94:Int)(x95:Int)(x96:Int):Option ((qAq×Int×Int) ⊕ (Int×Int)) :=
  (if (decide (x94<(x10.length:Int))) then (lbnd (zB F x95 x3 x96 x7) (fun x0=>((idx x93 x94).bind fun _x127=>(lett (x93.set x94.toNat (iadd .i64 x0.1 (imin x94 1))) fun x1=>rec3 (x1,iadd .i64 x94 1,x0.2.1,x0.2.2)))) (fun x2=>some (.inr (x2.1,x2.2)))) else qaa F x93 x95 x96)
def zW (F:Nat)(x3:qAq)(x7:Int)(x10:qAq):Nat→(qAq×Int×Int×Int)→Option ((qAq×Int×Int) ⊕ (Int×Int))
  | 0=>fun _=>none
  | k+1=>fun s=>yL F x3 x7 x10 (zW F x3 x7 x10 k) s.1 s.2.1 s.2.2.1 s.2.2.2
def ju (F:Nat)(x2:Int)(x3:qAq)(x6:Int)(x7:Int):Option ((qAq×Int×Int) ⊕ (Int×Int)) :=
  (lbnd (zB F x2 x3 x6 (iadd .i64 x7 1)) (fun x8=>((mk 17592186044416 (0:Int) x8.1).bind fun x10=>zW F x3 x7 x10 F (x10,0,x8.2.1,x8.2.2))) (fun x9=>some (.inr (x9.1,x9.2))))
def qa4 (_F:Nat)(x1:Int):Option Int :=
  (lett (ixor .i64 (iconv .i64 (ishr .u64 x1 1)) (isub .i64 0 (iconv .i64 (iand .u64 x1 1)))) fun x2=>some x2)
def qbh (_F:Nat)(x0:List (Int×Int))(x1:Int)(x2:Int):Option ((List (Int×Int)×Int×Int) ⊕ (Int×Int)) :=
  some (.inl (x0,x1,x2))
def kU (F:Nat)(rec13:(List (Int×Int)×Int×Int×Int×Int)→Option ((List (Int×Int)×Int×Int) ⊕ (Int×Int)))(x3:qAq)(x8:Int)(x9:Int)(x0:List (Int×Int))(x1:Int)(x2:(Int×Int×Int))(x4:Int):Option ((List (Int×Int)×Int×Int) ⊕ (Int×Int)) :=
  (lbnd (zB F x2.2.1 x3 x2.2.2 x9) (fun x5=>((idx x0 x1).bind fun _x247=>(lett (x0.set x1.toNat (x4,iadd .i64 x5.1 x8)) fun x6=>((idx x6 x1).bind fun x7=>rec13 (x6,iadd .i64 x4 (isub .i64 x7.2 1),iadd .i64 x1 1,x5.2.1,x5.2.2))))) (fun x10=>some (.inr (x10.1,x10.2))))
def ve (F:Nat)(x3:qAq)(x8:Int)(x9:Int)(x13:List (Int×Int))(rec13:(List (Int×Int)×Int×Int×Int×Int)→Option ((List (Int×Int)×Int×Int) ⊕ (Int×Int)))(x0:List (Int×Int))(x1:Int)(x2:Int)(x4:Int)(x5:Int):Option ((List (Int×Int)×Int×Int) ⊕ (Int×Int)) :=
  (if (decide (x2<(x13.length:Int))) then (lbnd (zB F x4 x3 x5 2097152) (fun x6=>(if ((x2:Int) == 0) then ((qa4 F (iconv .u64 x6.1)).bind fun x7=>kU F rec13 x3 x8 x9 x0 x2 x6 (iadd .i64 x1 x7)) else kU F rec13 x3 x8 x9 x0 x2 x6 (iadd .i64 x1 (iadd .i64 x6.1 2)))) (fun x10=>some (.inr (x10.1,x10.2)))) else qbh F x0 x4 x5)
def zn (F:Nat)(x3:qAq)(x8:Int)(x9:Int)(x13:List (Int×Int)):Nat→(List (Int×Int)×Int×Int×Int×Int)→Option ((List (Int×Int)×Int×Int) ⊕ (Int×Int))
  | 0=>fun _=>none
  | k+1=>fun s=>ve F x3 x8 x9 x13 (zn F x3 x8 x9 x13 k) s.1 s.2.1 s.2.2.1 s.2.2.2.1 s.2.2.2.2
def qaK (F:Nat)(x2:Int)(x3:qAq)(x6:Int)(x7:Int)(x8:Int)(x9:Int):Option ((List (Int×Int)×Int×Int) ⊕ (Int×Int)) :=
  (chk ((x8:Int) != 0) ((lbnd (zB F x2 x3 x6 (iquo .i64 x9 x8)) (fun x11=>((mk 8796093022208 (((0:Int),(0:Int)):(Int×Int)) x11.1).bind fun x13=>zn F x3 x8 x9 x13 F (x13,x7,0,x11.2.1,x11.2.2))) (fun x12=>some (.inr (x12.1,x12.2))))))
def jE (_F:Nat)(x15:qAq):Option (qAq) :=
  some x15
def vK (F:Nat)(x1:qAq)(c3:Nat)(x4:Int):Option (qAq) :=
  (if (decide (x4<0)) then none else (lett (isub .i64 x4 (isub .i64 (c3:Int) (x1.length:Int))) fun x16=>(if (decide (0<x16)) then ((sub x1 0 (c3:Int)).bind fun x17=>((appz 8796093022208 x17 (0:Int) x16).bind fun x18=>((sub x18 0 (x1.length:Int)).bind fun x21=>jE F x21))) else jE F x1)))
def vD (_F:Nat)(x0:qAq):Option (qAq) :=
  some x0
def qK (F:Nat)(x1:List (qAq))(rec5:(qAq×Int)→Option (qAq))(x0:qAq)(x2:Int):Option (qAq) :=
  (if (decide (x2<(x1.length:Int))) then ((idx x1 x2).bind fun x3=>((app 8796093022208 x0 x3).bind fun x4=>rec5 (x4,iadd .i64 x2 1))) else vD F x0)
def qR (F:Nat)(x1:List (qAq)):Nat→(qAq×Int)→Option (qAq)
  | 0=>fun _=>none
  | k+1=>fun s=>qK F x1 (qR F x1 k) s.1 s.2
def ka (F:Nat)(x1:List (qAq))(x43:Int):Option (qAq) :=
  ((vK F ([]:qAq) 0 x43).bind fun x44=>qR F x1 F (x44,0))
def qL (F:Nat)(x1:List (qAq))(rec6:(Int×Int)→Option (qAq))(x0:Int)(x2:Int):Option (qAq) :=
  (if (decide (x2<(x1.length:Int))) then ((idx x1 x2).bind fun x3=>(if (decide ((iadd .i64 x0 (x3.length:Int))<0)) then none else rec6 (iadd .i64 x0 (x3.length:Int),iadd .i64 x2 1))) else ka F x1 x0)
def qS (F:Nat)(x1:List (qAq)):Nat→(Int×Int)→Option (qAq)
  | 0=>fun _=>none
  | k+1=>fun s=>qL F x1 (qS F x1 k) s.1 s.2
def zE (F:Nat)(x1:List (qAq)):Option (qAq) :=
  qS F x1 F (0,0)
def zw (_F:Nat)(x1:qAq):Option (qAq) :=
  if x1.length<4611686018427387904 then some (srt x1) else none
def qcL (_F:Nat)(x1:Int)(x2:Int)(x3:Int):Option Bool :=
  some ((decide (x2≤x1)) && (decide (x1≤x3)))
def qfT (_F:Nat)(x0:qAq):Option (qAq×Int) :=
  some (x0,0)
def qbQ (_F:Nat)(rec32:(qAq×Int)→Option (qAq×Int))(x0:Int)(x1:qAq):Option (qAq×Int) :=
  rec32 (x1,iadd .i64 x0 1)
def qbN (F:Nat)(rec32:(qAq×Int)→Option (qAq×Int))(x0:Int)(x1:(Int×Int))(rec35:(qAq×Int)→Option (qAq×Int))(x2:qAq)(x3:Int):Option (qAq×Int) :=
  (if (decide (x3<x1.2)) then ((app 8796093022208 x2 ([iadd .i64 x1.1 x3]:qAq)).bind fun x4=>rec35 (x4,iadd .i64 x3 1)) else qbQ F rec32 x0 x2)
def yK (F:Nat)(rec32:(qAq×Int)→Option (qAq×Int))(x0:Int)(x1:(Int×Int)):Nat→(qAq×Int)→Option (qAq×Int)
  | 0=>fun _=>none
  | k+1=>fun s=>qbN F rec32 x0 x1 (yK F rec32 x0 x1 k) s.1 s.2
def qbM (F:Nat)(x1:List (Int×Int))(rec32:(qAq×Int)→Option (qAq×Int))(x0:qAq)(x2:Int):Option (qAq×Int) :=
  (if (decide (x2<(x1.length:Int))) then ((idx x1 x2).bind fun x3=>yK F rec32 x2 x3 F (x0,0)) else qfT F x0)
def zm (F:Nat)(x1:List (Int×Int)):Nat→(qAq×Int)→Option (qAq×Int)
  | 0=>fun _=>none
  | k+1=>fun s=>qbM F x1 (zm F x1 k) s.1 s.2
def qbP (F:Nat)(x1:List (Int×Int)):Option (qAq×Int) :=
  zm F x1 F (([]:qAq),0)
def jt (_F:Nat)(rec44:(Int×Int)→Option (qAq×Int))(x0:Int)(x1:Int)(x2:(Int×Int))(x3:Bool):Option (qAq×Int) :=
  (if x3 then some (([]:qAq),3) else (if (decide (x2.1<(iadd .i64 x0 2))) then some (([]:qAq),4) else rec44 (isub .i64 (iadd .i64 x2.1 x2.2) 1,iadd .i64 x1 1)))
def qbO (F:Nat)(x1:List (Int×Int))(rec44:(Int×Int)→Option (qAq×Int))(x0:Int)(x2:Int):Option (qAq×Int) :=
  (if (decide (x2<(x1.length:Int))) then ((idx x1 x2).bind fun x3=>((qcL F x3.1 0 1048576).bind fun x4=>(if (!x4) then jt F rec44 x0 x2 x3 (!x4) else ((qcL F x3.2 1 300).bind fun x5=>(if (!x5) then jt F rec44 x0 x2 x3 (!x5) else jt F rec44 x0 x2 x3 (decide (1048576<(isub .i64 (iadd .i64 x3.1 x3.2) 1)))))))) else qbP F x1)
def kO (F:Nat)(x1:List (Int×Int)):Nat→(Int×Int)→Option (qAq×Int)
  | 0=>fun _=>none
  | k+1=>fun s=>qbO F x1 (kO F x1 k) s.1 s.2
def qeE (F:Nat)(x1:List (Int×Int)):Option (qAq×Int) :=
  (if (decide (300<(x1.length:Int))) then some (([]:qAq),2) else kO F x1 F (-2,0))
def kr (_F:Nat)(x1:qAq):Option (qAq) :=
  if (Go.Lib.compact x1).length≤x1.length then some (Go.Lib.compact x1) else none
def vd (_F:Nat)(x1:qAq):Option (qAq) :=
  ((app 8796093022208 ([]:qAq) x1).bind fun x8=>some x8)
def qa1 (F:Nat)(x4:qAq)(x7:(qAq×Int))(x12:Int):Option (qAq×Int) :=
  (if ((x12:Int) != 0) then some (([]:qAq),x12) else ((zE F ([x7.1,x4]:List (qAq))).bind fun x16=>((zw F x16).bind fun x19=>(chk (decide (x19.length=x16.length)) (((vd F x19).bind fun x29=>((kr F x29).bind fun x32=>(if (decide ((x32.length:Int)<(x19.length:Int))) then some (([]:qAq),6) else (if (decide (300<(x19.length:Int))) then some (([]:qAq),2) else some (x19,0))))))))))
def qe5 (F:Nat)(x1:List (Int×Int))(x4:qAq):Option (qAq×Int) :=
  ((qeE F x1).bind fun x7=>(if ((x7.2:Int) == 0) then ((js F x4).bind fun x38=>qa1 F x4 x7 x38) else qa1 F x4 x7 x7.2))
def zv (F:Nat)(x1:Int)(x2:qAq)(x5:Int)(x8:(Int×Int)):Option (Int×Int×Bool) :=
  ((jn F x1 x2 x5 x8.1).bind fun x14=>some (isub .u64 x14.1 x8.2,iadd .i64 x5 x8.1,x14.2))
def zp (F:Nat)(x1:Int)(x2:qAq)(x5:Int)(x6:Int):Option (Int×Int×Bool) :=
  ((qb0 F x6).bind fun x8=>(if (decide (0<x8.2)) then ((jn F x1 x2 x5 (isub .i64 x8.1 1)).bind fun x15=>(if (!x15.2) then some (0,0,false) else (if (decide (x15.1<x8.2)) then some (x15.1,isub .i64 (iadd .i64 x5 x8.1) 1,true) else zv F x1 x2 x5 x8))) else zv F x1 x2 x5 x8))
def qdM (_F:Nat)(x1:Int)(x2:Int)(x3:Bool):Option (Int×Int×Int) :=
  (if (!x3) then some (0,0,7) else (if (decide (1099511627776<x1)) then some (0,0,3) else some (x1,x2,0)))
def qbA (F:Nat)(x1:Int)(x2:qAq)(x5:Int)(x6:Int):Option (Int×Int×Int) :=
  ((qdT F x1 x2 x5).bind fun x8=>(if (!x8.2.2) then some (0,0,7) else (if (decide (41≤(imul .u64 x8.1 (iconv .u64 x6)))) then some (0,0,3) else (chk (decide (0≤(imul .i64 (iconv .i64 x8.1) x6))) ((lett (ishl .u64 1 (imul .i64 (iconv .i64 x8.1) x6)) fun x12=>(chk (decide (0≤x6)) (((zp F x1 x2 x8.2.1 (isub .u64 (ishl .u64 x12 x6) x12)).bind fun x20=>((qdM F (isub .u64 (iadd .u64 x12 x20.1) 1) x20.2.1 x20.2.2).bind fun x21=>some (x21.1,x21.2.1,x21.2.2)))))))))))
def ya (F:Nat)(x8:Int):Option (Bool×Int×Bool) :=
  ((qeI F x8).bind fun x9=>some (x9,x8,true))
def kz (F:Nat)(x2:Int)(x3:Bool)(x4:Int):Option (Bool×Int×Bool) :=
  (if (decide (2097152<x4)) then some (false,x2,x3) else (if x3 then ya F (iadd .i64 x2 (iadd .i64 (iconv .i64 x4) 1)) else ((qa4 F x4).bind fun x10=>ya F (iadd .i64 x2 x10))))
def qfq (_F:Nat)(x0:Int)(x1:qAq):Option (qAq×Int×Int) :=
  some (x1,x0,0)
def qdL (F:Nat)(x1:Int)(x2:qAq)(x7:Int)(x8:Int)(rec3:(Int×qAq×Int×Int×Bool)→Option (qAq×Int×Int))(x0:Int)(x3:qAq)(x4:Int)(x5:Int)(x6:Bool):Option (qAq×Int×Int) :=
  (if (decide (x4<x8)) then ((qbA F x1 x2 x0 x7).bind fun x9=>(if ((x9.2.2:Int) != 0) then some (([]:qAq),0,x9.2.2) else ((kz F x5 x6 x9.1).bind fun x10=>(if (!x10.1) then some (([]:qAq),0,3) else ((app 8796093022208 x3 ([x10.2.1]:qAq)).bind fun x11=>rec3 (x9.2.1,x11,iadd .i64 x4 1,x10.2.1,x10.2.2)))))) else qfq F x0 x3)
def j7 (F:Nat)(x1:Int)(x2:qAq)(x7:Int)(x8:Int):Nat→(Int×qAq×Int×Int×Bool)→Option (qAq×Int×Int)
  | 0=>fun _=>none
  | k+1=>fun s=>qdL F x1 x2 x7 x8 (j7 F x1 x2 x7 x8 k) s.1 s.2.1 s.2.2.1 s.2.2.2.1 s.2.2.2.2
def qfO (F:Nat)(x1:Int)(x2:qAq)(x5:Int)(x6:Int)(x7:Int)(x8:Int):Option (qAq×Int×Int) :=
  j7 F x1 x2 x7 x8 F (x5,([]:qAq),0,x6,false)
def yc (F:Nat)(x3:qAq)(x7:Int)(x13:Int)(x15:(Int×Int×Int))(x31:qAq)(x42:List (Int×Int))(x43:Int)(x44:Int):Option ((qAq×Int×Int) ⊕ (Int×Int)) :=
  ((qe5 F x42 ([]:qAq)).bind fun x45=>(lbnd (k9 F (((x45.2:Int) == 0) && (decide ((x45.1.length:Int)≤(isub .i64 x15.1 (x31.length:Int)))))) (fun _x49=>((qfO F x43 x3 x44 x7 x13 (isub .i64 (isub .i64 x15.1 (x31.length:Int)) (x45.1.length:Int))).bind fun x54=>(lbnd (k9 F ((x54.2.2:Int) == 0)) (fun _x57=>((zE F ([x31,x45.1,x54.1]:List (qAq))).bind fun x61=>((zw F x61).bind fun x64=>(chk (decide (x64.length=x61.length)) (some (.inl (x64,x43,x54.2.1))))))) (fun _x58=>some (.inr (x43,x44)))))) (fun _x50=>some (.inr (x43,x44)))))
def yb (F:Nat)(x3:qAq)(x7:Int)(x12:Int)(x13:Int)(x15:(Int×Int×Int))(x31:qAq)(x32:Int)(x33:Int):Option ((qAq×Int×Int) ⊕ (Int×Int)) :=
  (if (((isub .i64 x15.1 (x31.length:Int)):Int) == 0) then some (.inl (x31,x32,x33)) else (if (decide (0<x12)) then (lbnd (qaK F x32 x3 x33 x7 x12 (isub .i64 x15.1 (x31.length:Int))) (fun x66=>yc F x3 x7 x13 x15 x31 x66.1 x66.2.1 x66.2.2) (fun x67=>some (.inr (x67.1,x67.2)))) else yc F x3 x7 x13 x15 x31 ([]:List (Int×Int)) x32 x33))
def vE (F:Nat)(x2:Int)(x3:qAq)(x6:Int)(x7:Int)(x8:qAq)(x11:Int)(x12:Int)(x13:Int):Option ((qAq×Int×Int) ⊕ (Int×Int)) :=
  (lbnd (zB F x2 x3 x6 300) (fun x15=>(if ((x15.1:Int) == 0) then some (.inl (([]:qAq),x15.2.1,x15.2.2)) else (if (decide (0<x11)) then (lbnd (ju F x15.2.1 x3 x15.2.2 (x8.length:Int)) (fun x72=>((qe4 F x8 x72.1).bind fun x76=>(lbnd (k9 F (((x76.2:Int) == 0) && (decide ((x76.1.length:Int)≤x15.1)))) (fun _x80=>yb F x3 x7 x12 x13 x15 x76.1 x72.2.1 x72.2.2) (fun _x81=>some (.inr (x72.2.1,x72.2.2)))))) (fun x73=>some (.inr (x73.1,x73.2)))) else yb F x3 x7 x12 x13 x15 ([]:qAq) x15.2.1 x15.2.2))) (fun x16=>some (.inr (x16.1,x16.2))))
def qdW (_F:Nat)(x17:(qAq×Int×Int)):Option (qAq×Bool×Int×Int) :=
  some (x17.1,true,x17.2.1,x17.2.2)
def vL (F:Nat)(x3:qAq)(x6:Int)(x17:(qAq×Int×Int))(x25:(Int×qAq×Bool))(rec4:Int→Option (qAq×Bool×Int×Int))(x75:Int):Option (qAq×Bool×Int×Int) :=
  (if (decide (x75<x25.1)) then ((qbb F x25.1 x25.2.1 x75).bind fun x92=>((qbb F x17.2.1 x3 (iadd .i64 x6 x75)).bind fun x93=>(lbnd (k9 F ((x92:Int) == x93)) (fun _x94=>rec4 (iadd .i64 x75 1)) (fun _x95=>some (([]:qAq),false,x17.2.1,x17.2.2))))) else qdW F x17)
def zx (F:Nat)(x3:qAq)(x6:Int)(x17:(qAq×Int×Int))(x25:(Int×qAq×Bool)):Nat→Int→Option (qAq×Bool×Int×Int)
  | 0=>fun _=>none
  | k+1=>fun s=>vL F x3 x6 x17 x25 (zx F x3 x6 x17 x25 k) s
def vM (F:Nat)(x3:qAq)(x6:Int)(x17:(qAq×Int×Int))(x25:(Int×qAq×Bool)):Option (qAq×Bool×Int×Int) :=
  zx F x3 x6 x17 x25 F 0
def vF (F:Nat)(x2:Int)(x3:qAq)(x6:Int)(x7:Int)(x8:qAq)(x11:Int)(x12:Int)(x13:Int):Option (qAq×Bool×Int×Int) :=
  (lbnd (vE F x2 x3 x6 x7 x8 x11 x12 x13) (fun x17=>((js F x17.1).bind fun x21=>(lbnd (k9 F ((x21:Int) == 0)) (fun _x22=>((vG F 0 ([]:qAq) false x7 x17.1 x8 x11 x12 x13).bind fun x25=>(if (!x25.2.2) then (lbnd (k9 F ((x25.1:Int) == (isub .i64 x17.2.2 x6))) (fun _x98=>vM F x3 x6 x17 x25) (fun _x99=>some (([]:qAq),false,x17.2.1,x17.2.2))) else (lbnd (k9 F false) (fun _x100=>vM F x3 x6 x17 x25) (fun _x101=>some (([]:qAq),false,x17.2.1,x17.2.2)))))) (fun _x23=>some (([]:qAq),false,x17.2.1,x17.2.2))))) (fun x18=>some (([]:qAq),false,x18.1,x18.2)))
def qak (F:Nat)(x1:Int)(x2:qAq)(x5:Int)(x6:Int)(x7:qAq)(x10:Int)(x11:Int)(x12:Int):Option (qAq×Int×Int) :=
  ((vF F x1 x2 x5 x6 x7 x10 x11 x12).bind fun x16=>(if (!x16.2.1) then some (([]:qAq),0,1) else some (x16.1,x16.2.2.2,0)))
def qeU (_F:Nat)(x5:Int)(x0:List (qAq))(x1:Int):Option (List (qAq)×Bool) :=
  some (x0,((x1:Int) == x5))
def qaZ (_F:Nat)(rec8:(List (qAq)×Int×Int)→Option (List (qAq)×Bool))(x0:Int)(x1:List (qAq))(x2:Int):Option (List (qAq)×Bool) :=
  rec8 (x1,x2,iadd .i64 x0 1)
def qc8 (F:Nat)(x1:Int)(x2:Int)(x3:Int)(x4:Int)(x5:Int)(x6:qAq)(rec8:(List (qAq)×Int×Int)→Option (List (qAq)×Bool))(x0:List (qAq))(x7:Int)(x8:Int):Option (List (qAq)×Bool) :=
  (if (decide (x8<x1)) then ((qfs F x1 x2 x3 x4 x5 x6 x7 x8).bind fun x9=>(if (!x9.2.2) then some (([]:List (qAq)),false) else (if (decide (0<x9.1)) then ((idx x0 (isub .i64 x8 x9.1)).bind fun x10=>((qak F x5 x6 x9.2.1 x8 x10 x9.1 x3 x4).bind fun x11=>(if ((x11.2.2:Int) != 0) then some (([]:List (qAq)),false) else ((app 2199023255552 x0 ([x11.1]:List (qAq))).bind fun x12=>qaZ F rec8 x8 x12 x11.2.1)))) else ((qak F x5 x6 x9.2.1 x8 ([]:qAq) x9.1 x3 x4).bind fun x13=>(if ((x13.2.2:Int) != 0) then some (([]:List (qAq)),false) else ((app 2199023255552 x0 ([x13.1]:List (qAq))).bind fun x14=>qaZ F rec8 x8 x14 x13.2.1)))))) else qeU F x5 x0 x7)
def k8 (F:Nat)(x1:Int)(x2:Int)(x3:Int)(x4:Int)(x5:Int)(x6:qAq):Nat→(List (qAq)×Int×Int)→Option (List (qAq)×Bool)
  | 0=>fun _=>none
  | k+1=>fun s=>qc8 F x1 x2 x3 x4 x5 x6 (k8 F x1 x2 x3 x4 x5 x6 k) s.1 s.2.1 s.2.2
def qgB (F:Nat)(x1:Int)(x2:Int)(x3:Int)(x4:Int)(x5:Int)(x6:qAq):Option (List (qAq)×Bool) :=
  k8 F x1 x2 x3 x4 x5 x6 F (([]:List (qAq)),0,0)
def qbR (_F:Nat):Option Bool :=
  some true
def zr (F:Nat)(x1:qAq)(x4:qAq)(rec3:Int→Option Bool)(x0:Int):Option Bool :=
  (if (decide (x0<(x1.length:Int))) then ((idx x1 x0).bind fun x2=>((idx x4 x0).bind fun x3=>(if ((x2:Int) != x3) then some false else rec3 (iadd .i64 x0 1)))) else qbR F)
def qU (F:Nat)(x1:qAq)(x4:qAq):Nat→Int→Option Bool
  | 0=>fun _=>none
  | k+1=>fun s=>zr F x1 x4 (qU F x1 x4 k) s
def q6 (F:Nat)(x1:qAq)(x4:qAq):Option Bool :=
  (if (((x1.length:Int):Int) != (x4.length:Int)) then some false else qU F x1 x4 F 0)
def qdP (_F:Nat)(x14:(List (qAq)×Bool))(x34:Bool):Option (List (qAq)×Int) :=
  (if x34 then some (([]:List (qAq)),1) else some (x14.1,0))
def qfP (F:Nat)(x1:Int)(x2:Int)(x3:Int)(x4:Int)(x5:Int)(x6:qAq):Option (List (qAq)×Int) :=
  ((qe3 F x1 x2 x3 x4 x5 x6).bind fun x13=>(if ((x13:Int) != 0) then some (([]:List (qAq)),x13) else ((qgB F x1 x2 x3 x4 x5 x6).bind fun x14=>(if (!x14.2) then some (([]:List (qAq)),1) else ((qdQ F x14.1 x2 x3 x4).bind fun x28=>(if ((x28.2.2.2.2.2.2:Int) != 0) then qdP F x14 true else ((q6 F x28.2.2.2.2.2.1 x6).bind fun x36=>qdP F x14 (!x36))))))))
def qde (_F:Nat)(x34:Bool):Option Bool :=
  some x34
def qdd (F:Nat)(x9:qAq)(x20:qAq)(x31:Bool):Option Bool :=
  (if x31 then ((q6 F x9 x20).bind fun x35=>qde F x35) else qde F false)
def qe6 (F:Nat)(x1:Int)(x2:Int)(x3:Int)(x4:Int)(x5:qAq)(x8:Int)(x9:qAq)(x12:Int)(x13:Int)(x14:Int)(x15:Int)(x16:qAq)(x19:Int)(x20:qAq):Option Bool :=
  (if ((((((x1:Int) == x12) && ((x2:Int) == x13)) && ((x3:Int) == x14)) && ((x4:Int) == x15)) && ((x8:Int) == x19)) then ((q6 F x5 x16).bind fun x36=>qdd F x9 x20 x36) else qdd F x9 x20 false)
def qeV (F:Nat)(x1:List (qAq))(x4:Int)(x5:Int)(x6:Int)(x7:Int)(x8:Int)(x9:qAq):Option (Int×Int×Int×Int×Int×qAq×Int×Int×Int×Int×qAq×Int×qAq×Int) :=
  ((qeJ F x1 x5 x6 x7).bind fun x15=>(if ((x15.2.2:Int) != 0) then some (0,0,0,0,0,([]:qAq),0,0,0,0,([]:qAq),0,([]:qAq),x15.2.2) else ((qdH F x15.2.1 x8).bind fun x21=>(if ((x21.2.2.2.2.2.2.2:Int) != 0) then some (0,0,0,0,0,([]:qAq),0,0,0,0,([]:qAq),0,([]:qAq),x21.2.2.2.2.2.2.2) else some (x4,x5,x6,x7,x8,x9,x21.1,x21.2.1,x21.2.2.1,x21.2.2.2.1,x21.2.2.2.2.1,x21.2.2.2.2.2.1,x21.2.2.2.2.2.2.1,0)))))
def j9 (_F:Nat)(x49:Bool):Option Int :=
  (if x49 then some 4 else some 0)
def vh (F:Nat)(x1:Int)(x2:Int)(x3:Int)(x4:Int)(x5:Int)(x6:qAq)(x9:Int)(x10:Int)(x11:Int)(x12:Int)(x13:qAq)(x16:Int)(x17:qAq):Option Int :=
  ((qfP F x1 x2 x3 x4 x5 x6).bind fun x21=>(if ((x21.2:Int) != 0) then some x21.2 else ((qeV F x21.1 x1 x2 x3 x4 x5 x6).bind fun x39=>(if ((x39.2.2.2.2.2.2.2.2.2.2.2.2.2:Int) != 0) then j9 F true else ((qe6 F x39.2.2.2.2.2.2.1 x39.2.2.2.2.2.2.2.1 x39.2.2.2.2.2.2.2.2.1 x39.2.2.2.2.2.2.2.2.2.1 x39.2.2.2.2.2.2.2.2.2.2.1 x39.2.2.2.2.2.2.2.2.2.2.2.1 x39.2.2.2.2.2.2.2.2.2.2.2.2.1 x9 x10 x11 x12 x13 x16 x17).bind fun x51=>j9 F (!x51))))))
def qeC (_F:Nat)(_x1:Int)(_x2:qAq)(_x5:Int):Option Unit :=
  some ()
def kB {σ τ:Type}(_F:Nat)(_yy:σ→Int→Option (σ ⊕ τ))(rec3:(Int×σ)→Option (σ ⊕ τ))(x36:Int)(x81:σ):Option (σ ⊕ τ) :=
  rec3 (iadd .i64 x36 1,x81)
def yo {σ τ:Type}(F:Nat)(yy:σ→Int→Option (σ ⊕ τ))(x2:Int)(x3:qAq)(x7:Int)(rec3:(Int×σ)→Option (σ ⊕ τ))(x36:Int)(x37:σ):Option (σ ⊕ τ) :=
  (if (decide (x36<x2)) then ((qbb F x2 x3 x36).bind fun x89=>(if ((x89:Int) == x7) then ((yy x37 x36).bind (Sum.elim (fun x91=>kB F yy rec3 x36 x91) (fun x92=>some (.inr x92)))) else kB F yy rec3 x36 x37)) else some (.inl x37))
def qW {σ τ:Type}(F:Nat)(yy:σ→Int→Option (σ ⊕ τ))(x2:Int)(x3:qAq)(x7:Int):Nat→(Int×σ)→Option (σ ⊕ τ)
  | 0=>fun _=>none
  | k+1=>fun s=>yo F yy x2 x3 x7 (qW F yy x2 x3 x7 k) s.1 s.2
def qdc {σ τ:Type}(F:Nat)(yy:σ→Int→Option (σ ⊕ τ))(x2:Int)(x3:qAq)(x7:Int)(s0:σ):Option (σ ⊕ τ) :=
  qW F yy x2 x3 x7 F (0,s0)
def q5 (_F:Nat)(x31:Int)(x37:Int):Option (Int ⊕ (Int×Int)) :=
  (if ((x31:Int) == 0) then some (.inr (x37,x31)) else some (.inl (isub .i64 x31 1)))
def qaJ (F:Nat)(x1:Int)(x2:qAq)(x5:Int)(x6:Int):Option Int :=
  ((qeC F x1 x2 x5).bind fun _x25=>((qdc F (fun (x31:Int) (x37:Int)=>q5 F x31 x37) x1 x2 x5 x6).bind (Sum.elim (fun (_x31:Int)=>some (-1)) (fun ((x35,_x36):(Int×Int))=>some x35))))
def qcv (F:Nat)(_x1:Int)(_x2:Int)(x3:Int)(x4:Int)(x5:qAq)(x8:Int)(x9:qAq)(x12:Int):Option Int :=
  ((qaJ F x8 x9 1 x12).bind fun x14=>((jn F x4 x5 (imul .i64 x12 x3) x3).bind fun x15=>(chk (decide (0≤x3)) ((lett (ior .i64 (ishl .i64 (isub .i64 x14 x12) x3) (iconv .i64 x15.1)) fun x17=>some x17)))))
def qbY (_F:Nat)(x13:Bool):Option Bool :=
  some x13
def qeH (F:Nat)(x1:Int)(x2:qAq)(x5:Int)(x6:qAq):Option Bool :=
  (if ((x1:Int) == x5) then ((q6 F x2 x6).bind fun x14=>qbY F x14) else qbY F false)
def qdJ (_F:Nat)(x99:qAq)(x0:Bool):Option (qAq×Int) :=
  (if x0 then some (([]:qAq),1) else some (x99,0))
def qby (F:Nat)(x8:Int)(x9:qAq)(x99:qAq)(x0:(Int×Int×Int×Int×qAq×Int×qAq×Bool))(x1:Bool):Option (qAq×Int) :=
  (if x1 then qdJ F x99 true else ((qeH F x0.2.2.2.2.2.1 x0.2.2.2.2.2.2.1 x8 x9).bind fun x2=>qdJ F x99 (!x2)))
def yG (F:Nat)(x2:Int)(x4:Int)(x5:qAq)(x8:Int)(x9:qAq)(x99:qAq):Option (qAq×Int) :=
  ((qdI F x99 x2).bind fun x0=>(if ((x0:Int) != 0) then some (([]:qAq),1) else ((qfp F x99 x2).bind fun x1=>(if (!x1.2.2.2.2.2.2.2) then qby F x8 x9 x99 x1 true else ((qeH F x1.2.2.2.1 x1.2.2.2.2.1 x4 x5).bind fun x3=>qby F x8 x9 x99 x1 (!x3))))))
def qbx (F:Nat)(x1:Int)(x2:Int)(x3:Int)(x4:Int)(x5:qAq)(x8:Int)(x9:qAq)(rec9:(qAq×Int)→Option (qAq×Int))(x0:qAq)(x6:Int):Option (qAq×Int) :=
  (if (decide (x6<x1)) then ((qcv F x1 x2 x3 x4 x5 x8 x9 x6).bind fun x7=>((app 8796093022208 x0 ([x7]:qAq)).bind fun x10=>rec9 (x10,iadd .i64 x6 1))) else yG F x2 x4 x5 x8 x9 x0)
def yH (F:Nat)(x1:Int)(x2:Int)(x3:Int)(x4:Int)(x5:qAq)(x8:Int)(x9:qAq):Nat→(qAq×Int)→Option (qAq×Int)
  | 0=>fun _=>none
  | k+1=>fun s=>qbx F x1 x2 x3 x4 x5 x8 x9 (yH F x1 x2 x3 x4 x5 x8 x9 k) s.1 s.2
def zH (F:Nat)(x1:Int)(x2:Int)(x3:Int)(x4:Int)(x5:qAq)(x8:Int)(x9:qAq)(x49:Bool):Option (qAq×Int) :=
  (if x49 then some (([]:qAq),1) else yH F x1 x2 x3 x4 x5 x8 x9 F (([]:qAq),0))
def j5 (F:Nat)(x1:Int)(x2:Int)(x3:Int)(x4:Int)(x5:qAq)(x8:Int)(x9:qAq):Option (qAq×Int) :=
  (if ((((decide (x1<0)) || (decide (300<x1))) || (decide (x2<0))) || (decide (1048576<x2))) then some (([]:qAq),3) else ((qdK F x1 x2).bind fun x0=>(if ((x3:Int) != x0) then zH F x1 x2 x3 x4 x5 x8 x9 true else ((qcu F x4 x5).bind fun x6=>(if ((x6:Int) != 0) then zH F x1 x2 x3 x4 x5 x8 x9 true else ((qcu F x8 x9).bind fun x7=>(if ((x7:Int) != 0) then zH F x1 x2 x3 x4 x5 x8 x9 true else (if ((x4:Int) != (imul .i64 x1 x3)) then zH F x1 x2 x3 x4 x5 x8 x9 true else ((qaJ F x8 x9 1 (isub .i64 x1 1)).bind fun x10=>(if (decide (x10<0)) then zH F x1 x2 x3 x4 x5 x8 x9 (decide (0<x1)) else zH F x1 x2 x3 x4 x5 x8 x9 false))))))))))
def qe2 (F:Nat)(x1:Int)(x2:Int)(x3:Int)(x4:Int)(x5:qAq)(x8:Int)(x9:qAq):Option Int :=
  ((j5 F x1 x2 x3 x4 x5 x8 x9).bind fun x13=>some x13.2)
def qes (F:Nat)(x1:Int)(x2:Int)(x3:Int)(x4:Int)(x5:qAq)(x8:Int)(x9:qAq)(x12:Int)(x20:Int):Option (Int×Int) :=
  (if ((x20:Int) != 0) then some (0,x20) else ((qcv F x1 x2 x3 x4 x5 x8 x9 x12).bind fun x22=>some (x22,0)))
def qet (F:Nat)(x1:Int)(x2:Int)(x3:Int)(x4:Int)(x5:qAq)(x8:Int)(x9:qAq)(x12:Int)(x14:Int)(x26:Bool):Option (Int×Int) :=
  (if x26 then qes F x1 x2 x3 x4 x5 x8 x9 x12 3 else qes F x1 x2 x3 x4 x5 x8 x9 x12 x14)
def qfo (F:Nat)(x1:Int)(x2:Int)(x3:Int)(x4:Int)(x5:qAq)(x8:Int)(x9:qAq)(x12:Int):Option (Int×Int) :=
  ((qe2 F x1 x2 x3 x4 x5 x8 x9).bind fun x14=>(if ((x14:Int) == 0) then qet F x1 x2 x3 x4 x5 x8 x9 x12 x14 ((decide (x12<0)) || (decide (x1≤x12))) else qet F x1 x2 x3 x4 x5 x8 x9 x12 x14 false))
def kQ (F:Nat)(x7:qAq)(x22:Int)(x24:(Int×Int×Bool))(x31:qAq)(x32:Int)(x33:Int)(x34:Int)(x35:Int)(x36:Int)(x37:Int)(x38:Int)(x39:Int)(x40:Int)(x41:Int)(x42:Int):Option (qAq×Int×Int×Int×Int×Int×Int×Int×Int×Int×Int×Int) :=
  ((qak F x36 x7 x24.2.1 x22 x31 x24.1 x34 x35).bind fun x47=>some (x47.1,x32,x33,x34,x35,x36,x37,x38,x39,x40,x41,x42))
def kX:Nat→Int→Int→Int→Int→Int→(qAq)→Int→Int→Int→Int→(qAq)→Int→(qAq)→Int→Int→Option (qAq×Int×Int×Int×Int×Int×Int×Int×Int×Int×Int×Int)
  | 0=>fun _ _ _ _ _ _ _ _ _ _ _ _ _ _ _=>none
  | F+1=>fun x2 x3 x4 x5 x6 x7 x10 x11 x12 x13 x14 x17 x18 x21 x22 =>
    let self:=kX F
    ((qfo F x10 x11 x12 x13 x14 x17 x18 x22).bind fun x23=>((qfs F x2 x3 x4 x5 x6 x7 x23.1 x22).bind fun x24=>(if (decide (0<x24.1)) then ((self x2 x3 x4 x5 x6 x7 x10 x11 x12 x13 x14 x17 x18 (iadd .i64 x21 1) (isub .i64 x22 x24.1)).bind fun x50=>kQ F x7 x22 x24 x50.1 x50.2.1 x50.2.2.1 x50.2.2.2.1 x50.2.2.2.2.1 x50.2.2.2.2.2.1 x50.2.2.2.2.2.2.1 x50.2.2.2.2.2.2.2.1 x50.2.2.2.2.2.2.2.2.1 x50.2.2.2.2.2.2.2.2.2.1 x50.2.2.2.2.2.2.2.2.2.2.1 x50.2.2.2.2.2.2.2.2.2.2.2) else kQ F x7 x22 x24 ([]:qAq) x2 x3 x4 x5 x6 x10 x11 x12 x13 x17 (iadd .i64 x21 1))))
def vZ (F:Nat)(x1:Int)(x2:Int)(x3:Int)(x4:Int)(x5:Int)(x6:qAq)(x9:Int)(x10:Int)(x11:Int)(x12:Int)(x13:qAq)(x16:Int)(x17:qAq)(x20:Int)(x28:Int):Option (qAq×Int×Int) :=
  (if ((x28:Int) != 0) then some (([]:qAq),0,x28) else ((kX F x1 x2 x3 x4 x5 x6 x9 x10 x11 x12 x13 x16 x17 0 x20).bind fun x31=>some (x31.1,x31.2.2.2.2.2.2.2.2.2.2.2,0)))
def v6 (F:Nat)(x1:Int)(x2:Int)(x3:Int)(x4:Int)(x5:Int)(x6:qAq)(x9:Int)(x10:Int)(x11:Int)(x12:Int)(x13:qAq)(x16:Int)(x17:qAq)(x20:Int)(x22:Int)(x37:Bool):Option (qAq×Int×Int) :=
  (if x37 then vZ F x1 x2 x3 x4 x5 x6 x9 x10 x11 x12 x13 x16 x17 x20 3 else vZ F x1 x2 x3 x4 x5 x6 x9 x10 x11 x12 x13 x16 x17 x20 x22)
def kP (F:Nat)(x1:Int)(x2:Int)(x3:Int)(x4:Int)(x5:Int)(x6:qAq)(x9:Int)(x10:Int)(x11:Int)(x12:Int)(x13:qAq)(x16:Int)(x17:qAq)(x20:Int):Option (qAq×Int×Int) :=
  ((vh F x1 x2 x3 x4 x5 x6 x9 x10 x11 x12 x13 x16 x17).bind fun x22=>(if ((x22:Int) == 0) then v6 F x1 x2 x3 x4 x5 x6 x9 x10 x11 x12 x13 x16 x17 x20 x22 ((decide (x20<0)) || (decide (x1≤x20))) else v6 F x1 x2 x3 x4 x5 x6 x9 x10 x11 x12 x13 x16 x17 x20 x22 false))
def vv (F:Nat)(x21:Int)(x23:(qAq×Int×Int))(x31:Int):Option (Bool×Int) :=
  (if ((x31:Int) != 0) then some (false,x31) else ((qI F x23.1 x21).bind fun x33=>some (x33.2,0)))
def vw (F:Nat)(x21:Int)(x23:(qAq×Int×Int))(x37:Bool):Option (Bool×Int) :=
  (if x37 then vv F x21 x23 3 else vv F x21 x23 x23.2.2)
def kF (F:Nat)(x1:Int)(x2:Int)(x3:Int)(x4:Int)(x5:Int)(x6:qAq)(x9:Int)(x10:Int)(x11:Int)(x12:Int)(x13:qAq)(x16:Int)(x17:qAq)(x20:Int)(x21:Int):Option (Bool×Int) :=
  ((kP F x1 x2 x3 x4 x5 x6 x9 x10 x11 x12 x13 x16 x17 x20).bind fun x23=>(if ((x23.2.2:Int) == 0) then vw F x21 x23 ((decide (x21<0)) || (decide (x1≤x21))) else vw F x21 x23 false))
def zu (_F:Nat)(x1:Int)(x2:Int)(x3:Int):Option Bool :=
  some ((decide (x2≤x1)) && (decide (x1≤x3)))
def qdh (_F:Nat)(x0:Int):Option Int :=
  (if (decide (600<x0)) then some 2 else some 0)
def kh (_F:Nat)(rec138:(Int×Int)→Option Int)(x0:Int)(x1:Int):Option Int :=
  rec138 (x1,iadd .i64 x0 1)
def kj (_F:Nat)(rec161:(Int×Int)→Option Int)(x0:Int)(x1:Int)(x2:Bool):Option Int :=
  (if x2 then some 4 else rec161 (iadd .i64 x0 1,iadd .i64 x1 1))
def jJ (F:Nat)(rec138:(Int×Int)→Option Int)(x1:List (qAq))(x0:Int)(rec161:(Int×Int)→Option Int)(x2:Int)(x3:Int):Option Int :=
  ((idx x1 x0).bind fun x4=>(if (decide (x3<(x4.length:Int))) then ((idx x1 x0).bind fun x5=>((idx x5 x3).bind fun x6=>((zu F x6 0 (isub .i64 (x1.length:Int) 1)).bind fun x7=>(if (!x7) then some 3 else (if (decide (0<x3)) then ((idx x1 x0).bind fun x8=>((idx x8 x3).bind fun x9=>((idx x1 x0).bind fun x10=>((idx x10 (isub .i64 x3 1)).bind fun x11=>kj F rec161 x2 x3 (decide (x9≤x11)))))) else kj F rec161 x2 x3 false))))) else kh F rec138 x0 x2))
def zk (F:Nat)(rec138:(Int×Int)→Option Int)(x1:List (qAq))(x0:Int):Nat→(Int×Int)→Option Int
  | 0=>fun _=>none
  | k+1=>fun s=>jJ F rec138 x1 x0 (zk F rec138 x1 x0 k) s.1 s.2
def jI (F:Nat)(x1:List (qAq))(rec138:(Int×Int)→Option Int)(x0:Int)(x2:Int):Option Int :=
  (if (decide (x2<(x1.length:Int))) then zk F rec138 x1 x2 F (x0,0) else qdh F x0)
def qY (F:Nat)(x1:List (qAq)):Nat→(Int×Int)→Option Int
  | 0=>fun _=>none
  | k+1=>fun s=>jI F x1 (qY F x1 k) s.1 s.2
def qdx (F:Nat)(x1:List (qAq)):Option Int :=
  (if (decide (100<(x1.length:Int))) then some 2 else qY F x1 F (0,0))
def qcU (_F:Nat)(x30:Bool):Option Int :=
  (if x30 then some 3 else some 0)
def qaQ (F:Nat)(x3:Int)(x27:Bool):Option Int :=
  (if x27 then qcU F true else ((zu F x3 1 16).bind fun x32=>qcU F (!x32)))
def qcV (F:Nat)(x3:Int)(x35:Bool):Option Int :=
  qaQ F x3 x35
def qca (F:Nat)(x1:Int)(x2:Int)(x3:Int):Option Int :=
  ((zu F x1 0 7).bind fun x21=>(if (!x21) then qaQ F x3 true else (if ((x2:Int) != 0) then ((zu F x2 2 300).bind fun x36=>qcV F x3 (!x36)) else qcV F x3 false)))
def qf5 (_F:Nat)(x31:qAq):Option (qAq) :=
  some x31
def qeq (F:Nat)(rec3:(Int×qAq)→Option (qAq))(x40:Int)(x43:qAq):Option (qAq) :=
  (if (decide (0<x40)) then ((app 8796093022208 ([iconv .i64 (irem x40 2)]:qAq) x43).bind fun x55=>rec3 (iquo .u64 x40 2,x55)) else qf5 F x43)
def qba (F:Nat):Nat→(Int×qAq)→Option (qAq)
  | 0=>fun _=>none
  | k+1=>fun s=>qeq F (qba F k) s.1 s.2
def qgz (F:Nat)(x1:Int):Option (qAq) :=
  qba F F (x1,([]:qAq))
def qdY (_F:Nat)(x2:qAq)(x48:qAq):Option (qAq) :=
  ((app 8796093022208 x48 x2).bind fun x49=>some x49)
def qb9 (F:Nat)(x2:qAq)(rec3:(qAq×Int)→Option (qAq))(x66:qAq)(x67:Int):Option (qAq) :=
  (if (decide (x67<(x2.length:Int))) then ((app 8796093022208 x66 ([0]:qAq)).bind fun x89=>rec3 (x89,iadd .i64 x67 1)) else qdY F x2 x66)
def vk (F:Nat)(x2:qAq):Nat→(qAq×Int)→Option (qAq)
  | 0=>fun _=>none
  | k+1=>fun s=>qb9 F x2 (vk F x2 k) s.1 s.2
def kd (F:Nat)(x1:Int):Option (qAq) :=
  ((qgz F (iadd .u64 x1 1)).bind fun x2=>vk F x2 F (([]:qAq),1))
def qf3 (_F:Nat):Option Bool :=
  some false
def qei (F:Nat)(x1:qAq)(x4:Int)(rec3:Int→Option Bool)(x47:Int):Option Bool :=
  (if (decide (x47<(x1.length:Int))) then ((idx x1 x47).bind fun x64=>(if ((x64:Int) == x4) then some true else rec3 (iadd .i64 x47 1))) else qf3 F)
def qa6 (F:Nat)(x1:qAq)(x4:Int):Nat→Int→Option Bool
  | 0=>fun _=>none
  | k+1=>fun s=>qei F x1 x4 (qa6 F x1 x4 k) s
def qau (F:Nat)(x1:qAq)(x4:Int):Option Bool :=
  qa6 F x1 x4 F 0
def qcD (_F:Nat)(x0:qAq)(x1:qAq):Option (qAq×qAq) :=
  some (x0,x1)
def jM (_F:Nat)(rec22:(qAq×Int)→Option (qAq×qAq))(x0:Int)(x1:qAq):Option (qAq×qAq) :=
  rec22 (x1,iadd .i64 x0 1)
def jK (F:Nat)(x1:qAq)(x4:qAq)(x0:qAq)(rec22:(qAq×Int)→Option (qAq×qAq))(x2:qAq)(x3:Int):Option (qAq×qAq) :=
  (if (decide (x3<(x4.length:Int))) then ((idx x4 x3).bind fun x5=>((qau F x1 x5).bind fun x6=>(if (!x6) then ((idx x4 x3).bind fun x7=>((app 8796093022208 x2 ([x7]:qAq)).bind fun x8=>jM F rec22 x3 x8)) else jM F rec22 x3 x2))) else qcD F x0 x2)
def km (F:Nat)(x1:qAq)(x4:qAq)(x0:qAq):Nat→(qAq×Int)→Option (qAq×qAq)
  | 0=>fun _=>none
  | k+1=>fun s=>jK F x1 x4 x0 (km F x1 x4 x0 k) s.1 s.2
def qcC (F:Nat)(x1:qAq)(x4:qAq)(x0:qAq):Option (qAq×qAq) :=
  km F x1 x4 x0 F (([]:qAq),0)
def jN (_F:Nat)(rec33:(qAq×Int×Int)→Option (qAq×qAq))(x0:Int)(x1:qAq)(x2:Int):Option (qAq×qAq) :=
  rec33 (x1,x2,iadd .i64 x0 1)
def yW (F:Nat)(rec33:(qAq×Int×Int)→Option (qAq×qAq))(x1:qAq)(x4:qAq)(x0:qAq)(x2:Int)(x3:Int)(x5:Bool):Option (qAq×qAq) :=
  ((idx x1 x3).bind fun x6=>((qau F x4 x6).bind fun x7=>(if (x7 != x5) then ((app 8796093022208 x0 ([isub .i64 x3 x2]:qAq)).bind fun x8=>jN F rec33 x3 x8 x3) else jN F rec33 x3 x0 x2)))
def jL (F:Nat)(x1:qAq)(x4:qAq)(rec33:(qAq×Int×Int)→Option (qAq×qAq))(x0:qAq)(x2:Int)(x3:Int):Option (qAq×qAq) :=
  (if (decide (x3<(x1.length:Int))) then (if (decide (0<x3)) then ((idx x1 (isub .i64 x3 1)).bind fun x5=>((qau F x4 x5).bind fun x6=>yW F rec33 x1 x4 x0 x2 x3 x6)) else yW F rec33 x1 x4 x0 x2 x3 true) else qcC F x1 x4 x0)
def zA (F:Nat)(x1:qAq)(x4:qAq):Nat→(qAq×Int×Int)→Option (qAq×qAq)
  | 0=>fun _=>none
  | k+1=>fun s=>jL F x1 x4 (zA F x1 x4 k) s.1 s.2.1 s.2.2
def qcW (F:Nat)(x1:qAq)(x4:qAq):Option (qAq×qAq) :=
  zA F x1 x4 F (([]:qAq),0,0)
def qdC (_F:Nat)(x0:List (Int×Int))(x1:qAq):Option (List (Int×Int)×qAq) :=
  some (x0,x1)
def jf (_F:Nat)(rec68:(List (Int×Int)×qAq×Int)→Option (List (Int×Int)×qAq))(x0:Int)(x1:List (Int×Int))(x2:qAq):Option (List (Int×Int)×qAq) :=
  rec68 (x1,x2,iadd .i64 x0 1)
def qbs (F:Nat)(rec68:(List (Int×Int)×qAq×Int)→Option (List (Int×Int)×qAq))(x1:qAq)(x4:Int)(x0:List (Int×Int))(x2:qAq)(x3:Int)(x5:Int)(x6:Int):Option (List (Int×Int)×qAq) :=
  (if (decide ((iadd .i64 (isub .i64 x6 x5) 1)<x4)) then ((idx x1 x3).bind fun x7=>((app 8796093022208 x2 ([x7]:qAq)).bind fun x8=>jf F rec68 x3 x0 x8)) else ((idx x1 x3).bind fun x9=>(if ((x5:Int) == x9) then ((app 4398046511104 x0 ([(x5,iadd .i64 (isub .i64 x6 x5) 1)]:List (Int×Int))).bind fun x10=>jf F rec68 x3 x10 x2) else jf F rec68 x3 x0 x2)))
def yE (F:Nat)(rec68:(List (Int×Int)×qAq×Int)→Option (List (Int×Int)×qAq))(x1:qAq)(x4:Int)(x0:List (Int×Int))(x2:qAq)(x3:Int)(x5:Int)(rec80:Int→Option (List (Int×Int)×qAq))(x6:Int):Option (List (Int×Int)×qAq) :=
  ((qau F x1 (iadd .i64 x6 1)).bind fun x7=>(if x7 then rec80 (iadd .i64 x6 1) else qbs F rec68 x1 x4 x0 x2 x3 x5 x6))
def kH (F:Nat)(rec68:(List (Int×Int)×qAq×Int)→Option (List (Int×Int)×qAq))(x1:qAq)(x4:Int)(x0:List (Int×Int))(x2:qAq)(x3:Int)(x5:Int):Nat→Int→Option (List (Int×Int)×qAq)
  | 0=>fun _=>none
  | k+1=>fun s=>yE F rec68 x1 x4 x0 x2 x3 x5 (kH F rec68 x1 x4 x0 x2 x3 x5 k) s
def qbr (F:Nat)(rec68:(List (Int×Int)×qAq×Int)→Option (List (Int×Int)×qAq))(x1:qAq)(x4:Int)(x0:List (Int×Int))(x2:qAq)(x3:Int)(x5:Int)(x6:Int):Option (List (Int×Int)×qAq) :=
  kH F rec68 x1 x4 x0 x2 x3 x6 F x5
def yF (F:Nat)(rec68:(List (Int×Int)×qAq×Int)→Option (List (Int×Int)×qAq))(x1:qAq)(x4:Int)(x0:List (Int×Int))(x2:qAq)(x3:Int)(x5:Int)(rec81:Int→Option (List (Int×Int)×qAq))(x6:Int):Option (List (Int×Int)×qAq) :=
  ((qau F x1 (isub .i64 x6 1)).bind fun x7=>(if x7 then rec81 (isub .i64 x6 1) else qbr F rec68 x1 x4 x0 x2 x3 x5 x6))
def kI (F:Nat)(rec68:(List (Int×Int)×qAq×Int)→Option (List (Int×Int)×qAq))(x1:qAq)(x4:Int)(x0:List (Int×Int))(x2:qAq)(x3:Int)(x5:Int):Nat→Int→Option (List (Int×Int)×qAq)
  | 0=>fun _=>none
  | k+1=>fun s=>yF F rec68 x1 x4 x0 x2 x3 x5 (kI F rec68 x1 x4 x0 x2 x3 x5 k) s
def yD (F:Nat)(x1:qAq)(x4:Int)(rec68:(List (Int×Int)×qAq×Int)→Option (List (Int×Int)×qAq))(x0:List (Int×Int))(x2:qAq)(x3:Int):Option (List (Int×Int)×qAq) :=
  (if (decide (x3<(x1.length:Int))) then ((idx x1 x3).bind fun x5=>((idx x1 x3).bind fun x6=>kI F rec68 x1 x4 x0 x2 x3 x6 F x5)) else qdC F x0 x2)
def qz (F:Nat)(x1:qAq)(x4:Int):Nat→(List (Int×Int)×qAq×Int)→Option (List (Int×Int)×qAq)
  | 0=>fun _=>none
  | k+1=>fun s=>yD F x1 x4 (qz F x1 x4 k) s.1 s.2.1 s.2.2
def qen (F:Nat)(x1:qAq)(x4:Int):Option (List (Int×Int)×qAq) :=
  qz F x1 x4 F (([]:List (Int×Int)),([]:qAq),0)
def qfh (_F:Nat)(x1:Int):Option Int :=
  (if (decide (x1<0)) then (lett (iadd .u64 (imul .u64 2 (iconv .u64 (isub .i64 0 (iadd .i64 x1 1)))) 1) fun x4=>some x4) else some (imul .u64 2 (iconv .u64 x1)))
def qeS (_F:Nat)(x2:Int)(x21:Int)(x22:Int):Option (Int×Int×Int) :=
  (chk (decide (0≤x2)) (some (x21,x22,ishl .u64 x22 x2)))
def qc3 (F:Nat)(x1:Int)(x2:Int)(rec3:(Int×Int)→Option (Int×Int×Int))(x34:Int)(x35:Int):Option (Int×Int×Int) :=
  (chk (decide (0≤x2)) ((if (decide ((ishl .u64 x35 x2)≤(iadd .u64 x1 1))) then (chk (decide (0≤x2)) (rec3 (iadd .u64 x34 1,ishl .u64 x35 x2))) else qeS F x2 x34 x35)))
def vV (F:Nat)(x1:Int)(x2:Int):Nat→(Int×Int)→Option (Int×Int×Int)
  | 0=>fun _=>none
  | k+1=>fun s=>qc3 F x1 x2 (vV F x1 x2 k) s.1 s.2
def qgA (F:Nat)(x1:Int)(x2:Int):Option (Int×Int×Int) :=
  vV F x1 x2 F (0,1)
def qd4 (_F:Nat)(x45:qAq):Option (qAq) :=
  ((app 8796093022208 x45 ([1]:qAq)).bind fun x48=>some x48)
def qcr (F:Nat)(x1:Int)(rec3:(qAq×Int)→Option (qAq))(x65:qAq)(x66:Int):Option (qAq) :=
  (if (decide (x66<x1)) then ((app 8796093022208 x65 ([0]:qAq)).bind fun x88=>rec3 (x88,iadd .u64 x66 1)) else qd4 F x65)
def vq (F:Nat)(x1:Int):Nat→(qAq×Int)→Option (qAq)
  | 0=>fun _=>none
  | k+1=>fun s=>qcr F x1 (vq F x1 k) s.1 s.2
def qep (F:Nat)(x1:Int):Option (qAq) :=
  vq F x1 F (([]:qAq),0)
def qfi (_F:Nat)(x52:qAq):Option (qAq) :=
  some x52
def jS (F:Nat)(rec3:(Int×qAq×Int)→Option (qAq))(x67:Int)(x68:qAq)(x69:Int):Option (qAq) :=
  (if (decide (0≤x69)) then ((idx x68 x69).bind fun _x92=>(lett (x68.set x69.toNat (iconv .i64 (irem x67 2))) fun x95=>rec3 (iquo .u64 x67 2,x95,isub .i64 x69 1))) else qfi F x68)
def vz (F:Nat):Nat→(Int×qAq×Int)→Option (qAq)
  | 0=>fun _=>none
  | k+1=>fun s=>jS F (vz F k) s.1 s.2.1 s.2.2
def qdr (F:Nat)(x1:Int)(x2:Int):Option (qAq) :=
  ((mk 17592186044416 (0:Int) x2).bind fun x3=>vz F F (x1,x3,isub .i64 x2 1))
def qdZ (F:Nat)(x1:Int)(x2:Int)(x15:Int):Option (qAq) :=
  (chk (decide (0≤x15)) ((if (decide (x1<(isub .u64 (ishl .u64 1 x15) x2))) then ((qdr F x1 (isub .i64 x15 1)).bind fun x21=>some x21) else ((qdr F (iadd .u64 x1 (isub .u64 (ishl .u64 1 x15) x2)) x15).bind fun x24=>some x24))))
def qcb (F:Nat)(x1:Int)(x2:Int)(rec3:Int→Option (qAq))(x30:Int):Option (qAq) :=
  (chk (decide (0≤x30)) ((if (decide ((ishl .u64 1 x30)<x2)) then rec3 (iadd .i64 x30 1) else qdZ F x1 x2 x30)))
def vl (F:Nat)(x1:Int)(x2:Int):Nat→Int→Option (qAq)
  | 0=>fun _=>none
  | k+1=>fun s=>qcb F x1 x2 (vl F x1 x2 k) s
def qej (F:Nat)(x1:Int)(x2:Int):Option (qAq) :=
  vl F x1 x2 F 0
def qeY (F:Nat)(x1:Int)(x2:Int):Option (qAq) :=
  ((qgA F x1 x2).bind fun x3=>((qep F x3.1).bind fun x4=>((qej F (isub .u64 (iadd .u64 x1 1) x3.2.1) (isub .u64 x3.2.2 x3.2.1)).bind fun x7=>((app 8796093022208 x4 x7).bind fun x10=>some x10))))
def qd5 (_F:Nat)(x72:qAq):Option (qAq) :=
  some x72
def qct (F:Nat)(x1:qAq)(x4:Int)(rec3:(qAq×Int)→Option (qAq))(x95:qAq)(x96:Int):Option (qAq) :=
  (if (decide (x96<(x1.length:Int))) then ((idx x1 x96).bind fun x0=>((qeY F x0 x4).bind fun x2=>((app 8796093022208 x95 x2).bind fun x3=>rec3 (x3,iadd .i64 x96 1)))) else qd5 F x95)
def ym (F:Nat)(x1:qAq)(x4:Int):Nat→(qAq×Int)→Option (qAq)
  | 0=>fun _=>none
  | k+1=>fun s=>qct F x1 x4 (ym F x1 x4 k) s.1 s.2
def qf4 (F:Nat)(x1:qAq)(x4:Int):Option (qAq) :=
  ym F x1 x4 F (([]:qAq),0)
def qf2 (_F:Nat)(x0:qAq):Option (qAq) :=
  some x0
def qcG (_F:Nat)(rec8:(qAq×Int)→Option (qAq))(x0:Int)(x1:qAq):Option (qAq) :=
  rec8 (x1,iadd .i64 x0 1)
def qeh (F:Nat)(x1:qAq)(x4:Int)(rec8:(qAq×Int)→Option (qAq))(x0:qAq)(x2:Int):Option (qAq) :=
  (if (decide (x2<(x1.length:Int))) then (if ((x2:Int) == 0) then ((idx x1 0).bind fun x3=>((qfh F (isub .i64 x3 x4)).bind fun x5=>((app 8796093022208 x0 ([x5]:qAq)).bind fun x6=>qcG F rec8 x2 x6))) else ((idx x1 x2).bind fun x7=>((idx x1 (isub .i64 x2 1)).bind fun x8=>((app 8796093022208 x0 ([iconv .u64 (isub .i64 (isub .i64 x7 x8) 1)]:qAq)).bind fun x9=>qcG F rec8 x2 x9)))) else qf2 F x0)
def jD (F:Nat)(x1:qAq)(x4:Int):Nat→(qAq×Int)→Option (qAq)
  | 0=>fun _=>none
  | k+1=>fun s=>qeh F x1 x4 (jD F x1 x4 k) s.1 s.2
def qgw (F:Nat)(x1:qAq)(x4:Int):Option (qAq) :=
  jD F x1 x4 F (([]:qAq),0)
def jY (F:Nat)(x1:Int)(x10:Int)(x0:qAq)(x2:qAq):Option (qAq) :=
  ((qgw F x2 x1).bind fun x3=>((qf4 F x3 x10).bind fun x4=>((app 8796093022208 x0 x4).bind fun x5=>some x5)))
def jZ (F:Nat)(rec21:(qAq×Int)→Option (qAq))(x9:Int)(x0:(List (Int×Int)×qAq))(x1:Int)(x2:qAq):Option (qAq) :=
  ((idx x0.1 x1).bind fun x3=>((kd F (iconv .u64 (isub .i64 x3.2 x9))).bind fun x4=>((app 8796093022208 x2 x4).bind fun x5=>rec21 (x5,iadd .i64 x1 1))))
def qco (F:Nat)(x1:Int)(x9:Int)(x10:Int)(x0:(List (Int×Int)×qAq))(rec21:(qAq×Int)→Option (qAq))(x2:qAq)(x3:Int):Option (qAq) :=
  (if (decide (x3<(x0.1.length:Int))) then (if ((x3:Int) == 0) then ((idx x0.1 0).bind fun x4=>((qfh F (isub .i64 x4.1 x1)).bind fun x5=>((kd F x5).bind fun x6=>((app 8796093022208 x2 x6).bind fun x7=>jZ F rec21 x9 x0 x3 x7)))) else ((idx x0.1 x3).bind fun x8=>((idx x0.1 (isub .i64 x3 1)).bind fun x11=>((idx x0.1 (isub .i64 x3 1)).bind fun x12=>((kd F (iconv .u64 (isub .i64 (isub .i64 x8.1 (isub .i64 (iadd .i64 x11.1 x12.2) 1)) 2))).bind fun x13=>((app 8796093022208 x2 x13).bind fun x14=>jZ F rec21 x9 x0 x3 x14)))))) else jY F x1 x10 x2 x0.2)
def kf (F:Nat)(x1:Int)(x9:Int)(x10:Int)(x0:(List (Int×Int)×qAq)):Nat→(qAq×Int)→Option (qAq)
  | 0=>fun _=>none
  | k+1=>fun s=>qco F x1 x9 x10 x0 (kf F x1 x9 x10 x0 k) s.1 s.2
def yS (F:Nat)(x1:Int)(x9:Int)(x10:Int)(x0:qAq)(x2:qAq):Option (qAq) :=
  (if (((x2.length:Int):Int) == 0) then some x0 else (if (decide (0<x9)) then ((qen F x2 x9).bind fun x3=>((kd F (iconv .u64 (x3.1.length:Int))).bind fun x4=>((app 8796093022208 x0 x4).bind fun x5=>kf F x1 x9 x10 x3 F (x5,0)))) else jY F x1 x10 x0 x2))
def j1 (F:Nat)(rec28:(qAq×Int)→Option (qAq))(x0:qAq)(x1:Int)(x2:Int):Option (qAq) :=
  ((kd F (iconv .u64 x2)).bind fun x3=>((app 8796093022208 x0 x3).bind fun x4=>rec28 (x4,iadd .i64 x1 1)))
def qcp (F:Nat)(x1:Int)(x9:Int)(x10:Int)(x0:(qAq×qAq))(rec28:(qAq×Int)→Option (qAq))(x2:qAq)(x3:Int):Option (qAq) :=
  (if (decide (x3<(x0.1.length:Int))) then ((idx x0.1 x3).bind fun x4=>(if (decide (0<x3)) then j1 F rec28 x2 x3 (isub .i64 x4 1) else j1 F rec28 x2 x3 x4)) else yS F x1 x9 x10 x2 x0.2)
def kg (F:Nat)(x1:Int)(x9:Int)(x10:Int)(x0:(qAq×qAq)):Nat→(qAq×Int)→Option (qAq)
  | 0=>fun _=>none
  | k+1=>fun s=>qcp F x1 x9 x10 x0 (kg F x1 x9 x10 x0 k) s.1 s.2
def qdE (F:Nat)(x1:Int)(x2:qAq)(x5:qAq)(x8:Int)(x9:Int)(x10:Int):Option (qAq) :=
  ((kd F (iconv .u64 (x2.length:Int))).bind fun x12=>(if (((x2.length:Int):Int) == 0) then some x12 else (if (decide (0<x8)) then ((qcW F x5 x2).bind fun x0=>((kd F (iconv .u64 (x0.1.length:Int))).bind fun x3=>((app 8796093022208 x12 x3).bind fun x4=>kg F x1 x9 x10 x0 F (x4,0)))) else yS F x1 x9 x10 x12 x2)))
def qd1 (_F:Nat)(x0:Int)(x1:qAq):Option (Int×qAq) :=
  some (x0,x1)
def qch (_F:Nat)(rec28:(Int×qAq×Int)→Option (Int×qAq))(x0:Int)(x1:Int)(x2:qAq):Option (Int×qAq) :=
  rec28 (x1,x2,iadd .i64 x0 1)
def jU (F:Nat)(rec28:(Int×qAq×Int)→Option (Int×qAq))(x1:List (qAq))(x4:Int)(x6:Int)(x7:Int)(x0:Int)(x2:qAq)(x3:Int)(x5:qAq)(x8:qAq):Option (Int×qAq) :=
  ((idx x1 x4).bind fun x9=>((qdE F x4 x9 x8 x3 x6 x7).bind fun x10=>((app 8796093022208 x5 x10).bind fun x11=>(if ((decide (x0<0)) || (decide ((x11.length:Int)<(x2.length:Int)))) then qch F rec28 x3 x3 x11 else qch F rec28 x3 x0 x2))))
def jT (F:Nat)(rec28:(Int×qAq×Int)→Option (Int×qAq))(x1:List (qAq))(x4:Int)(x6:Int)(x7:Int)(x0:Int)(x2:qAq)(x3:Int)(x5:qAq):Option (Int×qAq) :=
  (if (decide (0<x3)) then ((idx x1 (isub .i64 x4 x3)).bind fun x8=>jU F rec28 x1 x4 x6 x7 x0 x2 x3 x5 x8) else jU F rec28 x1 x4 x6 x7 x0 x2 x3 x5 ([]:qAq))
def qcg (F:Nat)(x1:List (qAq))(x4:Int)(x5:Int)(x6:Int)(x7:Int)(rec28:(Int×qAq×Int)→Option (Int×qAq))(x0:Int)(x2:qAq)(x3:Int):Option (Int×qAq) :=
  (if ((decide (x3≤x5)) && (decide (x3≤x4))) then (if (decide (0<x5)) then ((kd F (iconv .u64 x3)).bind fun x8=>jT F rec28 x1 x4 x6 x7 x0 x2 x3 x8) else jT F rec28 x1 x4 x6 x7 x0 x2 x3 ([]:qAq)) else qd1 F x0 x2)
def zC (F:Nat)(x1:List (qAq))(x4:Int)(x5:Int)(x6:Int)(x7:Int):Nat→(Int×qAq×Int)→Option (Int×qAq)
  | 0=>fun _=>none
  | k+1=>fun s=>qcg F x1 x4 x5 x6 x7 (zC F x1 x4 x5 x6 x7 k) s.1 s.2.1 s.2.2
def qgx (F:Nat)(x1:List (qAq))(x4:Int)(x5:Int)(x6:Int)(x7:Int):Option (Int×qAq) :=
  zC F x1 x4 x5 x6 x7 F (-1,([]:qAq),0)
def qd2 (_F:Nat)(x0:qAq)(x1:qAq)(x2:qAq):Option (qAq×qAq×qAq×Int) :=
  (if (decide (8192<(x0.length:Int))) then some (([]:qAq),([]:qAq),([]:qAq),8) else some (x0,x1,x2,0))
def qck (F:Nat)(x1:List (qAq))(x4:Int)(x5:Int)(x6:Int)(rec4:(qAq×qAq×qAq×Int)→Option (qAq×qAq×qAq×Int))(x0:qAq)(x2:qAq)(x3:qAq)(x7:Int):Option (qAq×qAq×qAq×Int) :=
  (if (decide (x7<(x1.length:Int))) then ((qgx F x1 x7 x4 x5 x6).bind fun x8=>((app 8796093022208 x2 ([x8.1]:qAq)).bind fun x9=>((app 8796093022208 x3 ([(x0.length:Int)]:qAq)).bind fun x10=>((app 8796093022208 x0 x8.2).bind fun x11=>rec4 (x11,x9,x10,iadd .i64 x7 1))))) else qd2 F x0 x2 x3)
def yl (F:Nat)(x1:List (qAq))(x4:Int)(x5:Int)(x6:Int):Nat→(qAq×qAq×qAq×Int)→Option (qAq×qAq×qAq×Int)
  | 0=>fun _=>none
  | k+1=>fun s=>qck F x1 x4 x5 x6 (yl F x1 x4 x5 x6 k) s.1 s.2.1 s.2.2.1 s.2.2.2
def qcl (F:Nat)(x1:List (qAq))(x4:Int)(x5:Int)(x6:Int)(x12:Int):Option (qAq×qAq×qAq×Int) :=
  (if ((x12:Int) != 0) then some (([]:qAq),([]:qAq),([]:qAq),x12) else yl F x1 x4 x5 x6 F (([]:qAq),([]:qAq),([]:qAq),0))
def qa7 (F:Nat)(x1:List (qAq))(x4:Int)(x5:Int)(x6:Int):Option (qAq×qAq×qAq×Int) :=
  ((qdx F x1).bind fun x9=>(if ((x9:Int) == 0) then ((qca F x4 x5 x6).bind fun x0=>qcl F x1 x4 x5 x6 x0) else qcl F x1 x4 x5 x6 x9))
def qgg (_F:Nat)(x1:qAq)(x0:qAq):Option (Int×qAq) :=
  some ((x1.length:Int),x0)
def qdy (_F:Nat)(rec98:(Int×qAq)→Option (Int×qAq))(x0:Int)(x1:qAq):Option (Int×qAq) :=
  rec98 (iadd .i64 x0 8,x1)
def qbq (F:Nat)(rec98:(Int×qAq)→Option (Int×qAq))(x0:Int)(x1:qAq)(x2:Int):Option (Int×qAq) :=
  ((app 70368744177664 x1 ([iconv .u8 x2]:qAq)).bind fun x3=>qdy F rec98 x0 x3)
def je (_F:Nat)(rec116:(Int×Int)→Option (Int×qAq))(x0:Int)(x1:Int):Option (Int×qAq) :=
  rec116 (x1,iadd .i64 x0 1)
def qbp (F:Nat)(rec98:(Int×qAq)→Option (Int×qAq))(x1:qAq)(x0:Int)(x2:qAq)(rec116:(Int×Int)→Option (Int×qAq))(x3:Int)(x4:Int):Option (Int×qAq) :=
  (if (decide (x4<8)) then (if (decide ((iadd .i64 x0 x4)<(x1.length:Int))) then ((idx x1 (iadd .i64 x0 x4)).bind fun x5=>je F rec116 x4 (iadd .i64 (imul .i64 2 x3) x5)) else je F rec116 x4 (imul .i64 2 x3)) else qbq F rec98 x0 x2 x3)
def kG (F:Nat)(rec98:(Int×qAq)→Option (Int×qAq))(x1:qAq)(x0:Int)(x2:qAq):Nat→(Int×Int)→Option (Int×qAq)
  | 0=>fun _=>none
  | k+1=>fun s=>qbp F rec98 x1 x0 x2 (kG F rec98 x1 x0 x2 k) s.1 s.2
def qcf (F:Nat)(x1:qAq)(rec98:(Int×qAq)→Option (Int×qAq))(x0:Int)(x2:qAq):Option (Int×qAq) :=
  (if (decide (x0<(x1.length:Int))) then kG F rec98 x1 x0 x2 F (0,0) else qgg F x1 x2)
def zd (F:Nat)(x1:qAq):Nat→(Int×qAq)→Option (Int×qAq)
  | 0=>fun _=>none
  | k+1=>fun s=>qcf F x1 (zd F x1 k) s.1 s.2
def qce (F:Nat)(x1:qAq):Option (Int×qAq) :=
  zd F x1 F (0,([]:qAq))
def qha (_F:Nat):Option Int :=
  some 0
def qaP (_F:Nat)(rec13:Int→Option Int)(x0:Int)(x1:Bool):Option Int :=
  (if x1 then some 4 else rec13 (iadd .i64 x0 1))
def qcS (F:Nat)(x1:qAq)(x4:Int)(rec13:Int→Option Int)(x0:Int):Option Int :=
  (if (decide (x0<(x1.length:Int))) then ((idx x1 x0).bind fun x2=>((zu F x2 0 x4).bind fun x3=>(if (!x3) then some 3 else (if (decide (0<x0)) then ((idx x1 x0).bind fun x5=>((idx x1 (isub .i64 x0 1)).bind fun x6=>qaP F rec13 x0 (decide (x5<x6)))) else qaP F rec13 x0 false)))) else qha F)
def k6 (F:Nat)(x1:qAq)(x4:Int):Nat→Int→Option Int
  | 0=>fun _=>none
  | k+1=>fun s=>qcS F x1 x4 (k6 F x1 x4 k) s
def qfK (F:Nat)(x1:qAq)(x4:Int):Option Int :=
  ((zu F x4 0 1048576).bind fun x7=>(if (!x7) then some 3 else (if (decide (300<(x1.length:Int))) then some 2 else k6 F x1 x4 F 0)))
def qge (_F:Nat)(x13:Int):Option Int :=
  some x13
def qb5 (F:Nat)(x1:Int)(x2:Int)(rec3:(Int×Int)→Option Int)(x16:Int)(x17:Int):Option Int :=
  (if (decide ((imul .i64 x1 x17)≤(iadd .i64 x2 1))) then rec3 (iadd .i64 x16 1,imul .i64 2 x17) else qge F x16)
def vj (F:Nat)(x1:Int)(x2:Int):Nat→(Int×Int)→Option Int
  | 0=>fun _=>none
  | k+1=>fun s=>qb5 F x1 x2 (vj F x1 x2 k) s.1 s.2
def qef (F:Nat)(x1:Int)(x2:Int):Option Int :=
  (if ((x1:Int) == 0) then some 0 else vj F x1 x2 F (0,2))
def qdw (F:Nat)(x1:qAq)(x4:Int)(x8:Int)(x0:qAq)(x2:qAq):Option (Int×Int×Int×Int×qAq×Int×qAq×Int) :=
  ((qce F x0).bind fun x3=>((qce F x2).bind fun x5=>some ((x1.length:Int),x4,x8,x3.1,x3.2,x5.1,x5.2,0)))
def qdg (_F:Nat)(rec104:(qAq×Int)→Option (Int×Int×Int×Int×qAq×Int×qAq×Int))(x0:Int)(x1:qAq):Option (Int×Int×Int×Int×qAq×Int×qAq×Int) :=
  rec104 (x1,iadd .i64 x0 1)
def qat (F:Nat)(rec104:(qAq×Int)→Option (Int×Int×Int×Int×qAq×Int×qAq×Int))(x0:Int)(x1:qAq):Option (Int×Int×Int×Int×qAq×Int×qAq×Int) :=
  ((app 8796093022208 x1 ([0]:qAq)).bind fun x2=>qdg F rec104 x0 x2)
def vy (_F:Nat)(rec122:(qAq×Int)→Option (Int×Int×Int×Int×qAq×Int×qAq×Int))(x0:Int)(x1:qAq):Option (Int×Int×Int×Int×qAq×Int×qAq×Int) :=
  rec122 (x1,iadd .i64 x0 1)
def qaq (F:Nat)(rec104:(qAq×Int)→Option (Int×Int×Int×Int×qAq×Int×qAq×Int))(x1:qAq)(x18:Int)(x0:Int)(rec122:(qAq×Int)→Option (Int×Int×Int×Int×qAq×Int×qAq×Int))(x2:qAq)(x3:Int):Option (Int×Int×Int×Int×qAq×Int×qAq×Int) :=
  (if (decide (x3<(x1.length:Int))) then ((idx x1 x3).bind fun x4=>(chk ((x18:Int) != 0) ((if (((iquo .i64 x4 x18):Int) == x0) then ((app 8796093022208 x2 ([1]:qAq)).bind fun x5=>vy F rec122 x3 x5) else vy F rec122 x3 x2)))) else qat F rec104 x0 x2)
def kx (F:Nat)(rec104:(qAq×Int)→Option (Int×Int×Int×Int×qAq×Int×qAq×Int))(x1:qAq)(x18:Int)(x0:Int):Nat→(qAq×Int)→Option (Int×Int×Int×Int×qAq×Int×qAq×Int)
  | 0=>fun _=>none
  | k+1=>fun s=>qaq F rec104 x1 x18 x0 (kx F rec104 x1 x18 x0 k) s.1 s.2
def qap (F:Nat)(x1:qAq)(x4:Int)(x8:Int)(x18:Int)(x0:qAq)(rec104:(qAq×Int)→Option (Int×Int×Int×Int×qAq×Int×qAq×Int))(x2:qAq)(x3:Int):Option (Int×Int×Int×Int×qAq×Int×qAq×Int) :=
  (chk ((x18:Int) != 0) ((if (decide (x3≤(iquo .i64 x4 x18))) then kx F rec104 x1 x18 x3 F (x2,0) else qdw F x1 x4 x8 x0 x2)))
def qV (F:Nat)(x1:qAq)(x4:Int)(x8:Int)(x18:Int)(x0:qAq):Nat→(qAq×Int)→Option (Int×Int×Int×Int×qAq×Int×qAq×Int)
  | 0=>fun _=>none
  | k+1=>fun s=>qap F x1 x4 x8 x18 x0 (qV F x1 x4 x8 x18 x0 k) s.1 s.2
def qb8 (F:Nat)(x1:qAq)(x4:Int)(x8:Int)(x18:Int)(x0:qAq):Option (Int×Int×Int×Int×qAq×Int×qAq×Int) :=
  qV F x1 x4 x8 x18 x0 F (([]:qAq),0)
def qar (F:Nat)(x1:qAq)(x4:Int)(x8:Int)(x18:Int)(rec124:(qAq×Int)→Option (Int×Int×Int×Int×qAq×Int×qAq×Int))(x0:qAq)(x2:Int):Option (Int×Int×Int×Int×qAq×Int×qAq×Int) :=
  (if (decide (x2<(x1.length:Int))) then ((idx x1 x2).bind fun x3=>(chk ((x18:Int) != 0) (((qdr F (iconv .u64 (irem x3 x18)) x8).bind fun x5=>((app 8796093022208 x0 x5).bind fun x6=>rec124 (x6,iadd .i64 x2 1)))))) else qb8 F x1 x4 x8 x18 x0)
def yj (F:Nat)(x1:qAq)(x4:Int)(x8:Int)(x18:Int):Nat→(qAq×Int)→Option (Int×Int×Int×Int×qAq×Int×qAq×Int)
  | 0=>fun _=>none
  | k+1=>fun s=>qar F x1 x4 x8 x18 (yj F x1 x4 x8 x18 k) s.1 s.2
def qb7 (F:Nat)(x1:qAq)(x4:Int)(x8:Int)(x18:Int)(x26:Bool):Option (Int×Int×Int×Int×qAq×Int×qAq×Int) :=
  (if x26 then some (0,0,0,0,([]:qAq),0,([]:qAq),8) else yj F x1 x4 x8 x18 F (([]:qAq),0))
def qb6 (F:Nat)(x1:qAq)(x4:Int)(x8:Int)(x18:Int):Option (Int×Int×Int×Int×qAq×Int×qAq×Int) :=
  (if (decide (8192<(imul .i64 (x1.length:Int) x8))) then qb7 F x1 x4 x8 x18 true else (chk ((x18:Int) != 0) (qb7 F x1 x4 x8 x18 (decide (8192<(iadd .i64 (iadd .i64 (x1.length:Int) (iquo .i64 x4 x18)) 1))))))
def qas (F:Nat)(x1:qAq)(x4:Int)(x8:Int)(rec125:(Int×Int)→Option (Int×Int×Int×Int×qAq×Int×qAq×Int))(x0:Int)(x2:Int):Option (Int×Int×Int×Int×qAq×Int×qAq×Int) :=
  (if (decide (x2<x8)) then rec125 (imul .i64 2 x0,iadd .i64 x2 1) else qb6 F x1 x4 x8 x0)
def yk (F:Nat)(x1:qAq)(x4:Int)(x8:Int):Nat→(Int×Int)→Option (Int×Int×Int×Int×qAq×Int×qAq×Int)
  | 0=>fun _=>none
  | k+1=>fun s=>qas F x1 x4 x8 (yk F x1 x4 x8 k) s.1 s.2
def qeg (F:Nat)(x1:qAq)(x4:Int):Option (Int×Int×Int×Int×qAq×Int×qAq×Int) :=
  ((qfK F x1 x4).bind fun x6=>(if ((x6:Int) != 0) then some (0,0,0,0,([]:qAq),0,([]:qAq),x6) else ((qef F (x1.length:Int) x4).bind fun x8=>yk F x1 x4 x8 F (1,0))))
def qbW (F:Nat)(x1:List (qAq))(x4:Int)(x5:Int)(x6:Int):Option (Int×Int×Int×Int×Int×qAq×Int×Int×Int×Int×qAq×Int×qAq×Int) :=
  ((qa7 F x1 x4 x5 x6).bind fun x10=>(if ((x10.2.2.2:Int) != 0) then some (0,0,0,0,0,([]:qAq),0,0,0,0,([]:qAq),0,([]:qAq),x10.2.2.2) else ((qeg F x10.2.2.1 (x10.1.length:Int)).bind fun x18=>(if ((x18.2.2.2.2.2.2.2:Int) != 0) then some (0,0,0,0,0,([]:qAq),0,0,0,0,([]:qAq),0,([]:qAq),x18.2.2.2.2.2.2.2) else ((qce F x10.1).bind fun x28=>some ((x1.length:Int),x4,x5,x6,x28.1,x28.2,x18.1,x18.2.1,x18.2.2.1,x18.2.2.2.1,x18.2.2.2.2.1,x18.2.2.2.2.2.1,x18.2.2.2.2.2.2.1,0))))))
def qg0 (_F:Nat):Option Bool :=
  some true
def vS (F:Nat)(x1:qAq)(x4:qAq)(rec3:Int→Option Bool)(x0:Int):Option Bool :=
  (if (decide (x0<(x1.length:Int))) then ((idx x1 x0).bind fun x2=>((idx x4 x0).bind fun x3=>(if ((x2:Int) != x3) then some false else rec3 (iadd .i64 x0 1)))) else qg0 F)
def k7 (F:Nat)(x1:qAq)(x4:qAq):Nat→Int→Option Bool
  | 0=>fun _=>none
  | k+1=>fun s=>vS F x1 x4 (k7 F x1 x4 k) s
def yZ (F:Nat)(x1:qAq)(x4:qAq):Option Bool :=
  (if (((x1.length:Int):Int) != (x4.length:Int)) then some false else k7 F x1 x4 F 0)
def qgZ (_F:Nat)(x0:qAq):Option (qAq) :=
  some x0
def qeP (_F:Nat)(rec38:(qAq×Int)→Option (qAq))(x0:Int)(x1:qAq):Option (qAq) :=
  rec38 (x1,iadd .i64 x0 1)
def qcR (F:Nat)(rec38:(qAq×Int)→Option (qAq))(x0:qAq)(x1:Int)(x2:Int):Option (qAq) :=
  ((app 8796093022208 x0 ([irem x2 2]:qAq)).bind fun x3=>qeP F rec38 x1 x3)
def qcQ (F:Nat)(rec38:(qAq×Int)→Option (qAq))(x0:qAq)(x1:Int)(rec45:(Int×Int)→Option (qAq))(x2:Int)(x3:Int):Option (qAq) :=
  (if (decide (x3<(isub .i64 7 (irem x1 8)))) then rec45 (iquo .i64 x2 2,iadd .i64 x3 1) else qcR F rec38 x0 x1 x2)
def vP (F:Nat)(rec38:(qAq×Int)→Option (qAq))(x0:qAq)(x1:Int):Nat→(Int×Int)→Option (qAq)
  | 0=>fun _=>none
  | k+1=>fun s=>qcQ F rec38 x0 x1 (vP F rec38 x0 x1 k) s.1 s.2
def qcP (F:Nat)(x1:Int)(x2:qAq)(rec38:(qAq×Int)→Option (qAq))(x0:qAq)(x3:Int):Option (qAq) :=
  (if (decide (x3<x1)) then ((idx x2 (iquo .i64 x3 8)).bind fun x4=>vP F rec38 x0 x3 F (iconv .i64 x4,0)) else qgZ F x0)
def zM (F:Nat)(x1:Int)(x2:qAq):Nat→(qAq×Int)→Option (qAq)
  | 0=>fun _=>none
  | k+1=>fun s=>qcP F x1 x2 (zM F x1 x2 k) s.1 s.2
def qai (F:Nat)(x1:Int)(x2:qAq):Option (qAq) :=
  zM F x1 x2 F (([]:qAq),0)
def qgd (_F:Nat):Option Int :=
  some 0
def qb4 (F:Nat)(x12:qAq)(rec4:Int→Option Int)(x57:Int):Option Int :=
  (if (decide (x57<(x12.length:Int))) then ((idx x12 x57).bind fun x74=>(if ((x74:Int) != 0) then some 1 else rec4 (iadd .i64 x57 1))) else qgd F)
def vi (F:Nat)(x12:qAq):Nat→Int→Option Int
  | 0=>fun _=>none
  | k+1=>fun s=>qb4 F x12 (vi F x12 k) s
def jQ (F:Nat)(x1:Int)(x2:qAq)(x10:Int):Option Int :=
  (if (((x2.length:Int):Int) != x10) then some 1 else ((qai F (imul .i64 8 x10) x2).bind fun x12=>vi F x12 F x1))
def qcF (F:Nat)(x1:Int)(x2:qAq):Option Int :=
  ((zu F x1 0 8192).bind fun x8=>(if (!x8) then some 3 else (if (decide (0<(irem x1 8))) then jQ F x1 x2 (iadd .i64 (iquo .i64 x1 8) 1) else jQ F x1 x2 (iquo .i64 x1 8))))
def qcm (_F:Nat)(x16:Int):Option Int :=
  some x16
def qel (F:Nat)(x1:Int)(x2:Int)(x3:Int)(x4:Int)(x5:Int)(x6:qAq):Option Int :=
  ((zu F x1 0 100).bind fun x12=>(if (!x12) then some 3 else ((qca F x2 x3 x4).bind fun x13=>(if ((x13:Int) == 0) then ((qcF F x5 x6).bind fun x17=>qcm F x17) else qcm F x13))))
def qgi (_F:Nat):Option (Int×Int) :=
  some (0,-1)
def qcs (F:Nat)(x1:qAq)(rec3:(Int×Int)→Option (Int×Int))(x80:Int)(x81:Int):Option (Int×Int) :=
  (if (decide (x81<(x1.length:Int))) then ((idx x1 x81).bind fun x0=>(if ((x0:Int) == 1) then some (x80,iadd .i64 x81 1) else rec3 (iadd .u64 x80 1,iadd .i64 x81 1))) else qgi F)
def vr (F:Nat)(x1:qAq):Nat→(Int×Int)→Option (Int×Int)
  | 0=>fun _=>none
  | k+1=>fun s=>qcs F x1 (vr F x1 k) s.1 s.2
def qcH (F:Nat)(x1:qAq)(x4:Int):Option (Int×Int) :=
  vr F x1 F (0,x4)
def qhY (_F:Nat)(x37:Int):Option Int :=
  some x37
def qee (F:Nat)(x1:qAq)(rec3:(Int×Int)→Option Int)(x48:Int)(x49:Int):Option Int :=
  (if (decide (x49<(x1.length:Int))) then ((idx x1 x49).bind fun x66=>(lett (iadd .u64 (imul .u64 2 x48) (iconv .u64 x66)) fun x69=>rec3 (x69,iadd .i64 x49 1))) else qhY F x48)
def qa5 (F:Nat)(x1:qAq):Nat→(Int×Int)→Option Int
  | 0=>fun _=>none
  | k+1=>fun s=>qee F x1 (qa5 F x1 k) s.1 s.2
def qgu (F:Nat)(x1:qAq):Option Int :=
  qa5 F x1 F (0,0)
def qe0 (F:Nat)(x1:qAq)(x4:Int)(x5:Int):Option (Int×Int×Int) :=
  (if (decide (63<x5)) then some (0,0,3) else (if (decide ((x1.length:Int)<(iadd .i64 x4 (iconv .i64 x5)))) then some (0,0,7) else ((sub x1 x4 (iadd .i64 x4 (iconv .i64 x5))).bind fun x10=>((app 8796093022208 ([1]:qAq) x10).bind fun x13=>((qgu F x13).bind fun x16=>(if (decide (1099511627776<(isub .u64 x16 1))) then some (0,0,3) else some (isub .u64 x16 1,iadd .i64 x4 (iconv .i64 x5),0)))))))
def kq (F:Nat)(x1:qAq)(x4:Int):Option (Int×Int×Int) :=
  ((qcH F x1 x4).bind fun x5=>(if (decide (x5.2<0)) then some (0,0,7) else ((qe0 F x1 x5.2 x5.1).bind fun x7=>some (x7.1,x7.2.1,x7.2.2))))
def qdA (_F:Nat)(x13:Int):Option Int :=
  some x13
def qdB (F:Nat)(x7:Int)(x16:Bool):Option Int :=
  (if x16 then qdA F 3 else qdA F x7)
def qfL (F:Nat)(x1:Int)(x2:qAq)(x5:Int):Option Int :=
  ((qcF F x1 x2).bind fun x7=>(if ((x7:Int) == 0) then ((zu F x5 0 x1).bind fun x18=>qdB F x7 (!x18)) else qdB F x7 false))
def qfj (_F:Nat):Option Int :=
  some 0
def yX (_F:Nat)(rec13:Int→Option Int)(x0:Int)(x1:Bool):Option Int :=
  (if x1 then some 4 else rec13 (iadd .i64 x0 1))
def jO (F:Nat)(x1:qAq)(rec13:Int→Option Int)(x0:Int):Option Int :=
  (if (decide (x0<(x1.length:Int))) then ((idx x1 x0).bind fun x2=>((zu F x2 0 1048576).bind fun x3=>(if (!x3) then some 3 else (if (decide (0<x0)) then ((idx x1 x0).bind fun x4=>((idx x1 (isub .i64 x0 1)).bind fun x5=>yX F rec13 x0 (decide (x4≤x5)))) else yX F rec13 x0 false)))) else qfj F)
def zQ (F:Nat)(x1:qAq):Nat→Int→Option Int
  | 0=>fun _=>none
  | k+1=>fun s=>jO F x1 (zQ F x1 k) s
def vR (F:Nat)(x1:qAq):Option Int :=
  (if (decide (300<(x1.length:Int))) then some 2 else zQ F x1 F 0)
def qfM (F:Nat)(x1:Int)(x2:qAq)(x5:Int)(_x6:Int)(_x7:Int):Option Int :=
  ((zu F x1 0 1048576).bind fun x11=>(if (!x11) then some 3 else (if (decide (0<x5)) then ((vR F x2).bind fun x14=>some x14) else some 0)))
def qdi (_F:Nat)(x0:qAq):Option (qAq×Int) :=
  some (x0,0)
def qay (_F:Nat)(rec181:(qAq×Int)→Option (qAq×Int))(x0:Int)(x1:qAq):Option (qAq×Int) :=
  rec181 (x1,iadd .i64 x0 1)
def qaz (F:Nat)(rec181:(qAq×Int)→Option (qAq×Int))(x1:qAq)(x0:qAq)(x2:Int)(x3:Int):Option (qAq×Int) :=
  (if (((irem x3 2):Int) == 0) then ((idx x1 x2).bind fun x4=>((app 8796093022208 x0 ([x4]:qAq)).bind fun x5=>qay F rec181 x2 x5)) else qay F rec181 x2 x0)
def vA (F:Nat)(rec181:(qAq×Int)→Option (qAq×Int))(rec210:(Int×Int)→Option (qAq×Int))(x1:qAq)(x4:qAq)(x0:qAq)(x2:Int)(x3:Int)(x5:Int)(x6:Bool):Option (qAq×Int) :=
  (if x6 then ((idx x4 x3).bind fun x7=>rec210 (iadd .i64 x3 1,iadd .i64 x5 x7)) else qaz F rec181 x1 x0 x2 x3)
def qaw (F:Nat)(rec181:(qAq×Int)→Option (qAq×Int))(x1:qAq)(x4:qAq)(x0:qAq)(x2:Int)(rec210:(Int×Int)→Option (qAq×Int))(x3:Int)(x5:Int):Option (qAq×Int) :=
  (if (decide (x3<(x4.length:Int))) then ((idx x4 x3).bind fun x6=>vA F rec181 rec210 x1 x4 x0 x2 x3 x5 (decide ((iadd .i64 x5 x6)≤x2))) else vA F rec181 rec210 x1 x4 x0 x2 x3 x5 false)
def ky (F:Nat)(rec181:(qAq×Int)→Option (qAq×Int))(x1:qAq)(x4:qAq)(x0:qAq)(x2:Int):Nat→(Int×Int)→Option (qAq×Int)
  | 0=>fun _=>none
  | k+1=>fun s=>qaw F rec181 x1 x4 x0 x2 (ky F rec181 x1 x4 x0 x2 k) s.1 s.2
def qav (F:Nat)(x1:qAq)(x4:qAq)(rec181:(qAq×Int)→Option (qAq×Int))(x0:qAq)(x2:Int):Option (qAq×Int) :=
  (if (decide (x2<(x1.length:Int))) then ky F rec181 x1 x4 x0 x2 F (0,0) else qdi F x0)
def qO (F:Nat)(x1:qAq)(x4:qAq):Nat→(qAq×Int)→Option (qAq×Int)
  | 0=>fun _=>none
  | k+1=>fun s=>qav F x1 x4 (qO F x1 x4 k) s.1 s.2
def qdz (F:Nat)(x1:qAq)(x4:qAq)(x0:Int):Option (qAq×Int) :=
  (if (decide ((x1.length:Int)<x0)) then some (([]:qAq),8) else qO F x1 x4 F (([]:qAq),0))
def qaA (_F:Nat)(rec227:(Int×Int)→Option (qAq×Int))(x0:Int)(x1:Int):Option (qAq×Int) :=
  rec227 (x1,iadd .i64 x0 1)
def qaC (F:Nat)(rec227:(Int×Int)→Option (qAq×Int))(x4:qAq)(x0:Int)(x1:Int):Option (qAq×Int) :=
  (if (decide (x1<1000)) then ((idx x4 x0).bind fun x2=>qaA F rec227 x0 (iadd .i64 x1 x2)) else qaA F rec227 x0 x1)
def qaB (F:Nat)(rec227:(Int×Int)→Option (qAq×Int))(x1:qAq)(x4:qAq)(x0:Int)(x2:Int)(x3:Bool):Option (qAq×Int) :=
  (if x3 then some (([]:qAq),3) else ((idx x4 x2).bind fun x5=>(if (decide ((x1.length:Int)<x5)) then qaC F rec227 x4 x2 1000 else qaC F rec227 x4 x2 x0)))
def qax (F:Nat)(x1:qAq)(x4:qAq)(rec227:(Int×Int)→Option (qAq×Int))(x0:Int)(x2:Int):Option (qAq×Int) :=
  (if (decide (x2<(x4.length:Int))) then ((idx x4 x2).bind fun x3=>(if (decide (x3<0)) then qaB F rec227 x1 x4 x0 x2 true else ((idx x4 x2).bind fun x5=>qaB F rec227 x1 x4 x0 x2 (((x5:Int) == 0) && (decide (0<x2)))))) else qdz F x1 x4 x0)
def zK (F:Nat)(x1:qAq)(x4:qAq):Nat→(Int×Int)→Option (qAq×Int)
  | 0=>fun _=>none
  | k+1=>fun s=>qax F x1 x4 (zK F x1 x4 k) s.1 s.2
def qem (F:Nat)(x1:qAq)(x4:qAq):Option (qAq×Int) :=
  ((vR F x1).bind fun x7=>(if ((x7:Int) != 0) then some (([]:qAq),x7) else (if (decide ((iadd .i64 (x1.length:Int) 1)<(x4.length:Int))) then some (([]:qAq),2) else zK F x1 x4 F (0,0))))
def jR (F:Nat)(x10:Int):Option Int :=
  ((zu F x10 0 1048576).bind fun x13=>(if (!x13) then some (-1) else some x10))
def qdq (F:Nat)(x1:Int)(x2:Int)(x3:Bool):Option Int :=
  (if (decide (4194304<x1)) then some (-1) else (lett (iadd .i64 (iadd .i64 x2 (iconv .i64 x1)) 1) fun x5=>(if x3 then (lett (iadd .i64 x2 (iquo .i64 (iconv .i64 x1) 2)) fun x15=>(if (((irem x1 2):Int) == 1) then (lett (isub .i64 (isub .i64 x2 (iquo .i64 (iconv .i64 x1) 2)) 1) fun x16=>jR F x16) else jR F x15)) else jR F x5)))
def qgf (_F:Nat):Option (Int×Int) :=
  some (0,-1)
def qcc (F:Nat)(x1:qAq)(x4:Int)(x5:Int)(x18:Int)(rec5:(Int×Int)→Option (Int×Int))(x0:Int)(x2:Int):Option (Int×Int) :=
  (if (decide (x2≤x18)) then (if (((x2:Int) == (isub .i64 x18 1)) && (decide (x0<(isub .u64 (ishl .u64 1 x18) x5)))) then some (x0,iadd .i64 x4 x2) else (if ((x2:Int) == x18) then (lett (isub .u64 x0 (isub .u64 (ishl .u64 1 x18) x5)) fun x3=>some (x3,iadd .i64 x4 x2)) else (if (decide ((x1.length:Int)≤(iadd .i64 x4 x2))) then some (0,-1) else ((idx x1 (iadd .i64 x4 x2)).bind fun x6=>(lett (iadd .u64 (imul .u64 2 x0) (iconv .u64 x6)) fun x7=>rec5 (x7,iadd .i64 x2 1)))))) else qgf F)
def vm (F:Nat)(x1:qAq)(x4:Int)(x5:Int)(x18:Int):Nat→(Int×Int)→Option (Int×Int)
  | 0=>fun _=>none
  | k+1=>fun s=>qcc F x1 x4 x5 x18 (vm F x1 x4 x5 x18 k) s.1 s.2
def qd0 (F:Nat)(x1:qAq)(x4:Int)(x5:Int)(x18:Int):Option (Int×Int) :=
  (chk (decide (0≤x18)) (vm F x1 x4 x5 x18 F (0,0)))
def qcd (F:Nat)(x1:qAq)(x4:Int)(x5:Int)(rec6:Int→Option (Int×Int))(x0:Int):Option (Int×Int) :=
  (chk (decide (0≤x0)) ((if (decide ((ishl .u64 1 x0)<x5)) then rec6 (iadd .i64 x0 1) else qd0 F x1 x4 x5 x0)))
def vn (F:Nat)(x1:qAq)(x4:Int)(x5:Int):Nat→Int→Option (Int×Int)
  | 0=>fun _=>none
  | k+1=>fun s=>qcd F x1 x4 x5 (vn F x1 x4 x5 k) s
def qek (F:Nat)(x1:qAq)(x4:Int)(x5:Int):Option (Int×Int) :=
  vn F x1 x4 x5 F 0
def qeR (F:Nat)(x1:qAq)(x5:Int)(x6:(Int×Int))(x26:Int):Option (Int×Int×Int) :=
  (chk (decide (0≤x5)) (((qek F x1 x6.2 (isub .u64 (ishl .u64 x26 x5) x26)).bind fun x28=>(if (decide (x28.2<0)) then some (0,0,7) else (if (decide (1099511627776<(isub .u64 (iadd .u64 x26 x28.1) 1))) then some (0,0,3) else some (isub .u64 (iadd .u64 x26 x28.1) 1,x28.2,0))))))
def qc2 (F:Nat)(x1:qAq)(x5:Int)(x6:(Int×Int))(rec3:(Int×Int)→Option (Int×Int×Int))(x37:Int)(x38:Int):Option (Int×Int×Int) :=
  (if (decide (x38<x6.1)) then (chk (decide (0≤x5)) (rec3 (ishl .u64 x37 x5,iadd .u64 x38 1))) else qeR F x1 x5 x6 x37)
def vU (F:Nat)(x1:qAq)(x5:Int)(x6:(Int×Int)):Nat→(Int×Int)→Option (Int×Int×Int)
  | 0=>fun _=>none
  | k+1=>fun s=>qc2 F x1 x5 x6 (vU F x1 x5 x6 k) s.1 s.2
def qeZ (F:Nat)(x1:qAq)(x4:Int)(x5:Int):Option (Int×Int×Int) :=
  ((qcH F x1 x4).bind fun x6=>(if (decide (x6.2<0)) then some (0,0,7) else (if ((decide (41≤x6.1)) || (decide (41≤(imul .i64 (iconv .i64 x6.1) x5)))) then some (0,0,3) else vU F x1 x5 x6 F (1,0))))
def qeQ (_F:Nat)(x56:Int)(x59:qAq):Option (qAq×Int×Int) :=
  some (x59,x56,0)
def qcT (F:Nat)(x1:qAq)(x6:Int)(x7:Int)(rec3:(Int×Int×qAq)→Option (qAq×Int×Int))(x75:Int)(x76:Int)(x79:qAq):Option (qAq×Int×Int) :=
  (if (decide ((x79.length:Int)<x7)) then ((qeZ F x1 x75 x6).bind fun x95=>(if ((x95.2.2:Int) != 0) then some (([]:qAq),0,x95.2.2) else ((qdq F x95.1 x76 (((x79.length:Int):Int) == 0)).bind fun x97=>(if (decide (x97<0)) then some (([]:qAq),0,3) else ((app 8796093022208 x79 ([x97]:qAq)).bind fun x0=>rec3 (x95.2.1,x97,x0)))))) else qeQ F x75 x79)
def vQ (F:Nat)(x1:qAq)(x6:Int)(x7:Int):Nat→(Int×Int×qAq)→Option (qAq×Int×Int)
  | 0=>fun _=>none
  | k+1=>fun s=>qcT F x1 x6 x7 (vQ F x1 x6 x7 k) s.1 s.2.1 s.2.2
def qgv (F:Nat)(x1:qAq)(x4:Int)(x5:Int)(x6:Int)(x7:Int):Option (qAq×Int×Int) :=
  vQ F x1 x6 x7 F (x4,x5,([]:qAq))
def qfl (_F:Nat)(x0:qAq):Option (qAq) :=
  some x0
def qaT (_F:Nat)(rec158:(qAq×Int)→Option (qAq))(x0:Int)(x1:qAq):Option (qAq) :=
  rec158 (x1,iadd .i64 x0 1)
def qc0 (F:Nat)(rec158:(qAq×Int)→Option (qAq))(x1:qAq)(x0:qAq)(x2:Int)(x3:Int):Option (qAq) :=
  ((sub x0 0 x3).bind fun x4=>((idx x1 x2).bind fun x5=>((sub x0 x3 (x0.length:Int)).bind fun x6=>((app 8796093022208 ([]:qAq) x4).bind fun x7=>((app 8796093022208 x7 ([x5]:qAq)).bind fun x8=>((app 8796093022208 x8 x6).bind fun x9=>qaT F rec158 x2 x9))))))
def qc1 (F:Nat)(rec158:(qAq×Int)→Option (qAq))(rec187:Int→Option (qAq))(x1:qAq)(x0:qAq)(x2:Int)(x3:Int)(x4:Bool):Option (qAq) :=
  (if x4 then rec187 (isub .i64 x3 1) else qc0 F rec158 x1 x0 x2 x3)
def qcZ (F:Nat)(rec158:(qAq×Int)→Option (qAq))(x1:qAq)(x0:qAq)(x2:Int)(rec187:Int→Option (qAq))(x3:Int):Option (qAq) :=
  (if (decide (0<x3)) then ((idx x0 (isub .i64 x3 1)).bind fun x4=>((idx x1 x2).bind fun x5=>qc1 F rec158 rec187 x1 x0 x2 x3 (decide (x5<x4)))) else qc1 F rec158 rec187 x1 x0 x2 x3 false)
def yR (F:Nat)(rec158:(qAq×Int)→Option (qAq))(x1:qAq)(x0:qAq)(x2:Int):Nat→Int→Option (qAq)
  | 0=>fun _=>none
  | k+1=>fun s=>qcZ F rec158 x1 x0 x2 (yR F rec158 x1 x0 x2 k) s
def qcY (F:Nat)(x1:qAq)(rec158:(qAq×Int)→Option (qAq))(x0:qAq)(x2:Int):Option (qAq) :=
  (if (decide (x2<(x1.length:Int))) then yR F rec158 x1 x0 x2 F (x0.length:Int) else qfl F x0)
def qZ (F:Nat)(x1:qAq):Nat→(qAq×Int)→Option (qAq)
  | 0=>fun _=>none
  | k+1=>fun s=>qcY F x1 (qZ F x1 k) s.1 s.2
def qgy (F:Nat)(x1:qAq):Option (qAq) :=
  qZ F x1 F (([]:qAq),0)
def jh (F:Nat)(x1:qAq)(x5:Int)(x11:Int)(x13:(Int×Int×Int))(x0:Int)(x2:qAq):Option (qAq×Bool) :=
  ((qgv F x1 x0 x5 x11 (isub .i64 (iconv .i64 x13.1) (x2.length:Int))).bind fun x3=>(if ((x3.2.2:Int) != 0) then some (([]:qAq),false) else ((app 8796093022208 x2 x3.1).bind fun x4=>((qgy F x4).bind fun x6=>some (x6,true)))))
def qdF (_F:Nat)(rec64:(Int×qAq×Int×Int)→Option (qAq×Bool))(x0:Int)(x1:Int)(x2:qAq)(x3:Int):Option (qAq×Bool) :=
  rec64 (x1,x2,x3,iadd .u64 x0 1)
def jk (F:Nat)(rec64:(Int×qAq×Int×Int)→Option (qAq×Bool))(x10:Int)(x13:(Int×Int×Int))(x0:Int)(x1:(Int×Int×Int))(x2:Int)(x3:qAq):Option (qAq×Bool) :=
  (lett (isub .i64 (iadd .i64 (iadd .i64 x2 (iconv .i64 x1.1)) x10) 1) fun x4=>(if (decide ((iconv .i64 x13.1)<(x3.length:Int))) then some (([]:qAq),false) else qdF F rec64 x0 x1.2.1 x3 x4))
def qbv (F:Nat)(rec64:(Int×qAq×Int×Int)→Option (qAq×Bool))(x10:Int)(x13:(Int×Int×Int))(x0:Int)(x1:(Int×Int×Int))(x2:Int)(rec73:(qAq×Int)→Option (qAq×Bool))(x3:qAq)(x4:Int):Option (qAq×Bool) :=
  (if (decide (x4<(iadd .i64 (iconv .i64 x1.1) x10))) then ((app 8796093022208 x3 ([iadd .i64 x2 x4]:qAq)).bind fun x5=>rec73 (x5,iadd .i64 x4 1)) else jk F rec64 x10 x13 x0 x1 x2 x3)
def kJ (F:Nat)(rec64:(Int×qAq×Int×Int)→Option (qAq×Bool))(x10:Int)(x13:(Int×Int×Int))(x0:Int)(x1:(Int×Int×Int))(x2:Int):Nat→(qAq×Int)→Option (qAq×Bool)
  | 0=>fun _=>none
  | k+1=>fun s=>qbv F rec64 x10 x13 x0 x1 x2 (kJ F rec64 x10 x13 x0 x1 x2 k) s.1 s.2
def ji (F:Nat)(rec64:(Int×qAq×Int×Int)→Option (qAq×Bool))(x10:Int)(x13:(Int×Int×Int))(x0:qAq)(x1:Int)(x2:(Int×Int×Int))(x3:Int):Option (qAq×Bool) :=
  (if ((decide (x3<0)) || (decide (1048576<x3))) then some (([]:qAq),false) else kJ F rec64 x10 x13 x1 x2 x3 F (x0,0))
def qbu (F:Nat)(x1:qAq)(x5:Int)(x10:Int)(x11:Int)(x13:(Int×Int×Int))(x0:(Int×Int×Int))(rec64:(Int×qAq×Int×Int)→Option (qAq×Bool))(x2:Int)(x3:qAq)(x4:Int)(x6:Int):Option (qAq×Bool) :=
  (if (decide (x6<x0.1)) then ((kq F x1 x2).bind fun x7=>(if (((x7.2.2:Int) != 0) || (decide (4194304<x7.1))) then some (([]:qAq),false) else ((kq F x1 x7.2.1).bind fun x8=>(if (((x8.2.2:Int) != 0) || (decide (1000<x8.1))) then some (([]:qAq),false) else (lett (iadd .i64 (iadd .i64 x4 (iconv .i64 x7.1)) 2) fun x9=>(if ((x6:Int) == 0) then ((qdq F x7.1 x5 true).bind fun x12=>ji F rec64 x10 x13 x3 x6 x8 x12) else ji F rec64 x10 x13 x3 x6 x8 x9)))))) else jh F x1 x5 x11 x13 x2 x3)
def qP (F:Nat)(x1:qAq)(x5:Int)(x10:Int)(x11:Int)(x13:(Int×Int×Int))(x0:(Int×Int×Int)):Nat→(Int×qAq×Int×Int)→Option (qAq×Bool)
  | 0=>fun _=>none
  | k+1=>fun s=>qbu F x1 x5 x10 x11 x13 x0 (qP F x1 x5 x10 x11 x13 x0 k) s.1 s.2.1 s.2.2.1 s.2.2.2
def jg (F:Nat)(x1:qAq)(x5:Int)(x10:Int)(x11:Int)(x13:(Int×Int×Int))(x0:Int)(x2:qAq):Option (qAq×Bool) :=
  (if (((x2.length:Int):Int) == (iconv .i64 x13.1)) then some (x2,true) else (if (decide (0<x10)) then ((kq F x1 x0).bind fun x3=>(if (((x3.2.2:Int) != 0) || (decide (300<x3.1))) then some (([]:qAq),false) else qP F x1 x5 x10 x11 x13 x3 F (x3.2.1,x2,x5,0))) else jh F x1 x5 x11 x13 x0 x2))
def jl (F:Nat)(x1:qAq)(x5:Int)(x6:qAq)(x10:Int)(x11:Int)(x13:(Int×Int×Int))(x0:Int)(x2:qAq):Option (qAq×Bool) :=
  ((qem F x6 x2).bind fun x3=>(if (((x3.2:Int) != 0) || (decide ((iconv .i64 x13.1)<(x3.1.length:Int)))) then some (([]:qAq),false) else jg F x1 x5 x10 x11 x13 x0 x3.1))
def jm (_F:Nat)(rec86:(Int×qAq×Int)→Option (qAq×Bool))(x0:qAq)(x1:Int)(x2:(Int×Int×Int))(x3:Int):Option (qAq×Bool) :=
  ((app 8796093022208 x0 ([iconv .i64 x3]:qAq)).bind fun x4=>rec86 (x2.2.1,x4,iadd .u64 x1 1))
def qbw (F:Nat)(x1:qAq)(x5:Int)(x6:qAq)(x10:Int)(x11:Int)(x13:(Int×Int×Int))(x0:(Int×Int×Int))(rec86:(Int×qAq×Int)→Option (qAq×Bool))(x2:Int)(x3:qAq)(x4:Int):Option (qAq×Bool) :=
  (if (decide (x4<x0.1)) then ((kq F x1 x2).bind fun x7=>(if (((x7.2.2:Int) != 0) || (decide (1000<x7.1))) then some (([]:qAq),false) else (if (decide (0<x4)) then jm F rec86 x3 x4 x7 (iadd .u64 x7.1 1) else jm F rec86 x3 x4 x7 x7.1))) else jl F x1 x5 x6 x10 x11 x13 x2 x3)
def kn (F:Nat)(x1:qAq)(x5:Int)(x6:qAq)(x10:Int)(x11:Int)(x13:(Int×Int×Int))(x0:(Int×Int×Int)):Nat→(Int×qAq×Int)→Option (qAq×Bool)
  | 0=>fun _=>none
  | k+1=>fun s=>qbw F x1 x5 x6 x10 x11 x13 x0 (kn F x1 x5 x6 x10 x11 x13 x0 k) s.1 s.2.1 s.2.2
def qer (F:Nat)(x1:qAq)(x4:Int)(x5:Int)(x6:qAq)(x9:Int)(x10:Int)(x11:Int):Option (qAq×Bool) :=
  ((kq F x1 x4).bind fun x13=>(if (((x13.2.2:Int) != 0) || (decide (300<x13.1))) then some (([]:qAq),false) else (if ((x13.1:Int) == 0) then some (([]:qAq),true) else (if (decide (0<x9)) then ((kq F x1 x13.2.1).bind fun x0=>(if (((x0.2.2:Int) != 0) || (decide ((iconv .u64 (iadd .i64 (x6.length:Int) 1))<x0.1))) then some (([]:qAq),false) else kn F x1 x5 x6 x10 x11 x13 x0 F (x0.2.1,([]:qAq),0))) else jg F x1 x5 x10 x11 x13 x13.2.1 ([]:qAq)))))
def qaW (_F:Nat)(x5:Int)(x26:(qAq×Bool))(x37:qAq)(x56:Bool):Option (qAq×Int×Int) :=
  (if x56 then some (([]:qAq),0,1) else some (x26.1,iadd .i64 x5 (x37.length:Int),0))
def vT (F:Nat)(x5:Int)(x6:Int)(x7:qAq)(x10:Int)(x11:Int)(x12:Int)(x23:qAq)(x26:(qAq×Bool))(x36:Bool):Option (qAq×Int×Int) :=
  (if x36 then some (([]:qAq),0,1) else ((qdE F x6 x26.1 x7 x10 x11 x12).bind fun x37=>(if (decide ((isub .i64 (x23.length:Int) x5)<(x37.length:Int))) then qaW F x5 x26 x37 true else ((sub x23 x5 (iadd .i64 x5 (x37.length:Int))).bind fun x58=>((yZ F x58 x37).bind fun x61=>qaW F x5 x26 x37 (!x61))))))
def qaV (F:Nat)(x1:Int)(x2:qAq)(x5:Int)(x6:Int)(x7:qAq)(x10:Int)(x11:Int)(x12:Int)(x21:Int):Option (qAq×Int×Int) :=
  (if ((x21:Int) != 0) then some (([]:qAq),0,x21) else ((qai F x1 x2).bind fun x23=>((qer F x23 x5 x6 x7 x10 x11 x12).bind fun x26=>(if (!x26.2) then vT F x5 x6 x7 x10 x11 x12 x23 x26 true else ((vR F x26.1).bind fun x63=>vT F x5 x6 x7 x10 x11 x12 x23 x26 ((x63:Int) != 0))))))
def qaU (F:Nat)(x1:Int)(x2:qAq)(x5:Int)(x6:Int)(x7:qAq)(x10:Int)(x11:Int)(x12:Int)(x18:Int):Option (qAq×Int×Int) :=
  (if ((x18:Int) == 0) then ((qfM F x6 x7 x10 x11 x12).bind fun x65=>qaV F x1 x2 x5 x6 x7 x10 x11 x12 x65) else qaV F x1 x2 x5 x6 x7 x10 x11 x12 x18)
def qcq (F:Nat)(x1:Int)(x2:qAq)(x5:Int)(x6:Int)(x7:qAq)(x10:Int)(x11:Int)(x12:Int):Option (qAq×Int×Int) :=
  ((qca F x10 x11 x12).bind fun x15=>(if ((x15:Int) == 0) then ((qfL F x1 x2 x5).bind fun x67=>qaU F x1 x2 x5 x6 x7 x10 x11 x12 x67) else qaU F x1 x2 x5 x6 x7 x10 x11 x12 x15))
def qcj (_F:Nat)(x0:List (qAq))(x1:Bool):Option (List (qAq)×Int) :=
  (if x1 then some (([]:List (qAq)),1) else some (x0,0))
def vo (F:Nat)(x2:Int)(x3:Int)(x4:Int)(x13:qAq)(x0:List (qAq)):Option (List (qAq)×Int) :=
  ((qa7 F x0 x2 x3 x4).bind fun x1=>(if ((x1.2.2.2:Int) != 0) then qcj F x0 true else ((yZ F x1.1 x13).bind fun x5=>qcj F x0 (!x5))))
def jV (_F:Nat)(rec22:(Int×Int×List (qAq))→Option (List (qAq)×Int))(x0:Int)(x1:Int)(x2:List (qAq)):Option (List (qAq)×Int) :=
  rec22 (x1,iadd .i64 x0 1,x2)
def jW (F:Nat)(rec22:(Int×Int×List (qAq))→Option (List (qAq)×Int))(x3:Int)(x4:Int)(x5:Int)(x6:qAq)(x0:Int)(x1:List (qAq))(x2:Int)(x7:Int):Option (List (qAq)×Int) :=
  (if (decide (0<x7)) then ((idx x1 (isub .i64 x0 (iconv .i64 x7))).bind fun x8=>((qcq F x5 x6 x2 x0 x8 (iconv .i64 x7) x3 x4).bind fun x9=>(if ((x9.2.2:Int) != 0) then some (([]:List (qAq)),1) else ((app 2199023255552 x1 ([x9.1]:List (qAq))).bind fun x10=>jV F rec22 x0 x9.2.1 x10)))) else ((qcq F x5 x6 x2 x0 ([]:qAq) (iconv .i64 x7) x3 x4).bind fun x11=>(if ((x11.2.2:Int) != 0) then some (([]:List (qAq)),1) else ((app 2199023255552 x1 ([x11.1]:List (qAq))).bind fun x12=>jV F rec22 x0 x11.2.1 x12))))
def qci (F:Nat)(x1:Int)(x2:Int)(x3:Int)(x4:Int)(x5:Int)(x6:qAq)(x13:qAq)(rec22:(Int×Int×List (qAq))→Option (List (qAq)×Int))(x0:Int)(x7:Int)(x8:List (qAq)):Option (List (qAq)×Int) :=
  (if (decide (x7<x1)) then (if (decide (0<x2)) then ((kq F x13 x0).bind fun x9=>(if ((((x9.2.2:Int) != 0) || (decide ((iconv .u64 x2)<x9.1))) || (decide (x7<(iconv .i64 x9.1)))) then some (([]:List (qAq)),1) else jW F rec22 x3 x4 x5 x6 x7 x8 x9.2.1 x9.1)) else jW F rec22 x3 x4 x5 x6 x7 x8 x0 0) else vo F x2 x3 x4 x13 x8)
def zD (F:Nat)(x1:Int)(x2:Int)(x3:Int)(x4:Int)(x5:Int)(x6:qAq)(x13:qAq):Nat→(Int×Int×List (qAq))→Option (List (qAq)×Int)
  | 0=>fun _=>none
  | k+1=>fun s=>qci F x1 x2 x3 x4 x5 x6 x13 (zD F x1 x2 x3 x4 x5 x6 x13 k) s.1 s.2.1 s.2.2
def qeX (F:Nat)(x1:Int)(x2:Int)(x3:Int)(x4:Int)(x5:Int)(x6:qAq):Option (List (qAq)×Int) :=
  ((qel F x1 x2 x3 x4 x5 x6).bind fun x11=>(if ((x11:Int) != 0) then some (([]:List (qAq)),x11) else ((qai F x5 x6).bind fun x13=>zD F x1 x2 x3 x4 x5 x6 x13 F (0,0,([]:List (qAq))))))
def qgh (_F:Nat):Option Bool :=
  some true
def qcn (F:Nat)(x1:qAq)(x4:qAq)(rec3:Int→Option Bool)(x0:Int):Option Bool :=
  (if (decide (x0<(x1.length:Int))) then ((idx x1 x0).bind fun x2=>((idx x4 x0).bind fun x3=>(if ((x2:Int) != x3) then some false else rec3 (iadd .i64 x0 1)))) else qgh F)
def vp (F:Nat)(x1:qAq)(x4:qAq):Nat→Int→Option Bool
  | 0=>fun _=>none
  | k+1=>fun s=>qcn F x1 x4 (vp F x1 x4 k) s
def qeo (F:Nat)(x1:qAq)(x4:qAq):Option Bool :=
  (if (((x1.length:Int):Int) != (x4.length:Int)) then some false else vp F x1 x4 F 0)
def qaR (_F:Nat)(x13:Bool):Option Bool :=
  some x13
def qaD (F:Nat)(x1:Int)(x2:qAq)(x5:Int)(x6:qAq):Option Bool :=
  (if ((x1:Int) == x5) then ((qeo F x2 x6).bind fun x14=>qaR F x14) else qaR F false)
def qcX (_F:Nat)(x32:Bool):Option Bool :=
  some x32
def qaS (F:Nat)(x8:Int)(x9:qAq)(x19:Int)(x20:qAq)(x29:Bool):Option Bool :=
  (if x29 then ((qaD F x8 x9 x19 x20).bind fun x33=>qcX F x33) else qcX F false)
def qdD (F:Nat)(x1:Int)(x2:Int)(x3:Int)(x4:Int)(x5:qAq)(x8:Int)(x9:qAq)(x12:Int)(x13:Int)(x14:Int)(x15:Int)(x16:qAq)(x19:Int)(x20:qAq):Option Bool :=
  (if ((((x1:Int) == x12) && ((x2:Int) == x13)) && ((x3:Int) == x14)) then ((qaD F x4 x5 x15 x16).bind fun x34=>qaS F x8 x9 x19 x20 x34) else qaS F x8 x9 x19 x20 false)
def jX (F:Nat)(x2:Int)(x3:Int)(x4:Int)(x22:(List (qAq)×Int))(x42:Bool):Option (List (qAq)×qAq×Int) :=
  (if x42 then some (([]:List (qAq)),([]:qAq),4) else ((qa7 F x22.1 x2 x3 x4).bind fun x43=>some (x22.1,x43.2.1,0)))
def qa9 (F:Nat)(x1:Int)(x2:Int)(x3:Int)(x4:Int)(x5:Int)(x6:qAq)(x9:Int)(x10:Int)(x11:Int)(x12:Int)(x13:qAq)(x16:Int)(x17:qAq):Option (List (qAq)×qAq×Int) :=
  ((qeX F x1 x2 x3 x4 x5 x6).bind fun x22=>(if ((x22.2:Int) != 0) then some (([]:List (qAq)),([]:qAq),x22.2) else ((qbW F x22.1 x2 x3 x4).bind fun x27=>(if ((x27.2.2.2.2.2.2.2.2.2.2.2.2.2:Int) != 0) then jX F x2 x3 x4 x22 true else ((qdD F x27.2.2.2.2.2.2.1 x27.2.2.2.2.2.2.2.1 x27.2.2.2.2.2.2.2.2.1 x27.2.2.2.2.2.2.2.2.2.1 x27.2.2.2.2.2.2.2.2.2.2.1 x27.2.2.2.2.2.2.2.2.2.2.2.1 x27.2.2.2.2.2.2.2.2.2.2.2.2.1 x9 x10 x11 x12 x13 x16 x17).bind fun x51=>jX F x2 x3 x4 x22 (!x51))))))
def qhx (F:Nat)(x1:List (qAq))(x4:Int)(x5:Int):Option Bool :=
  ((idx x1 x4).bind fun x7=>((qau F x7 x5).bind fun x11=>some x11))
def qf1 (_F:Nat) :Option (List (qAq)) :=
  some ([([1,2,3,5]:qAq),([1,2,3,5]:qAq),([0,1,2,3,5]:qAq),([]:qAq),([4]:qAq),([1,2,3]:qAq)]:List (qAq))
def qdv (_F:Nat)(x37:Bool):Option Bool :=
  some x37
def qbo (F:Nat)(x4:(Int×Int×Int×Int×Int×qAq×Int×Int×Int×Int×qAq×Int×qAq×Int))(x34:Bool):Option Bool :=
  (if x34 then ((vh F x4.1 x4.2.1 x4.2.2.1 x4.2.2.2.1 x4.2.2.2.2.1 x4.2.2.2.2.2.1 0 0 0 0 ([]:qAq) 0 ([]:qAq)).bind fun x38=>qdv F ((x38:Int) == 4)) else qdv F false)
def qbn (F:Nat)(x4:(Int×Int×Int×Int×Int×qAq×Int×Int×Int×Int×qAq×Int×qAq×Int))(x12:(qAq×Int×Int))(x15:(Bool×Int))(x16:(Bool×Int))(x17:(qAq×Int×Int))(x24:Bool):Option Bool :=
  (if (((((((x24 && ((x12.2.1:Int) == 2)) && ((x12.2.2:Int) == 0)) && x15.1) && ((x15.2:Int) == 0)) && (!x16.1)) && ((x16.2:Int) == 0)) && ((x17.2.2:Int) == 3)) then ((vh F x4.1 x4.2.1 x4.2.2.1 x4.2.2.2.1 x4.2.2.2.2.1 x4.2.2.2.2.2.1 x4.2.2.2.2.2.2.1 x4.2.2.2.2.2.2.2.1 x4.2.2.2.2.2.2.2.2.1 x4.2.2.2.2.2.2.2.2.2.1 x4.2.2.2.2.2.2.2.2.2.2.1 x4.2.2.2.2.2.2.2.2.2.2.2.1 x4.2.2.2.2.2.2.2.2.2.2.2.2.1).bind fun x39=>qbo F x4 ((x39:Int) == 0)) else qbo F x4 false)
def qdu (F:Nat) :Option Bool :=
  ((qf1 F).bind fun x1=>((qcM F x1 3 3 2).bind fun x4=>((kP F x4.1 x4.2.1 x4.2.2.1 x4.2.2.2.1 x4.2.2.2.2.1 x4.2.2.2.2.2.1 x4.2.2.2.2.2.2.1 x4.2.2.2.2.2.2.2.1 x4.2.2.2.2.2.2.2.2.1 x4.2.2.2.2.2.2.2.2.2.1 x4.2.2.2.2.2.2.2.2.2.2.1 x4.2.2.2.2.2.2.2.2.2.2.2.1 x4.2.2.2.2.2.2.2.2.2.2.2.2.1 1).bind fun x12=>((kF F x4.1 x4.2.1 x4.2.2.1 x4.2.2.2.1 x4.2.2.2.2.1 x4.2.2.2.2.2.1 x4.2.2.2.2.2.2.1 x4.2.2.2.2.2.2.2.1 x4.2.2.2.2.2.2.2.2.1 x4.2.2.2.2.2.2.2.2.2.1 x4.2.2.2.2.2.2.2.2.2.2.1 x4.2.2.2.2.2.2.2.2.2.2.2.1 x4.2.2.2.2.2.2.2.2.2.2.2.2.1 4 4).bind fun x15=>((kF F x4.1 x4.2.1 x4.2.2.1 x4.2.2.2.1 x4.2.2.2.2.1 x4.2.2.2.2.2.1 x4.2.2.2.2.2.2.1 x4.2.2.2.2.2.2.2.1 x4.2.2.2.2.2.2.2.2.1 x4.2.2.2.2.2.2.2.2.2.1 x4.2.2.2.2.2.2.2.2.2.2.1 x4.2.2.2.2.2.2.2.2.2.2.2.1 x4.2.2.2.2.2.2.2.2.2.2.2.2.1 4 5).bind fun x16=>((kP F x4.1 x4.2.1 x4.2.2.1 x4.2.2.2.1 x4.2.2.2.2.1 x4.2.2.2.2.2.1 x4.2.2.2.2.2.2.1 x4.2.2.2.2.2.2.2.1 x4.2.2.2.2.2.2.2.2.1 x4.2.2.2.2.2.2.2.2.2.1 x4.2.2.2.2.2.2.2.2.2.2.1 x4.2.2.2.2.2.2.2.2.2.2.2.1 x4.2.2.2.2.2.2.2.2.2.2.2.2.1 6).bind fun x17=>(if ((x4.2.2.2.2.2.2.2.2.2.2.2.2.2:Int) == 0) then ((yZ F x12.1 ([1,2,3,5]:qAq)).bind fun x42=>qbn F x4 x12 x15 x16 x17 x42) else qbn F x4 x12 x15 x16 x17 false)))))))
def qbt (_F:Nat)(x22:Bool):Option Bool :=
  some x22
def qfk (F:Nat)(x1:Int)(x2:Int)(x3:Int)(x4:Int)(x5:Int)(x6:qAq)(x9:Int)(x10:Int)(x11:Int)(x12:Int)(x13:Int)(x14:qAq):Option Bool :=
  (if (((x1:Int) == x9) && (((x2:Int) == x10) && (((x3:Int) == x11) && ((x4:Int) == x12)))) then ((qaD F x5 x6 x13 x14).bind fun x23=>qbt F x23) else qbt F false)
def qd3 (_F:Nat)(x44:Bool):Option Bool :=
  some x44
def qa8 (F:Nat)(x1:Int)(x2:Int)(x3:Int)(x4:Int)(x5:Int)(x6:qAq)(x9:Int)(x10:Int)(x11:Int)(x12:Int)(x13:qAq)(x16:Int)(x17:qAq)(x20:Int)(x21:Int)(x22:Int)(x23:Int)(x24:Int)(x25:qAq)(x28:Int)(x29:Int)(x30:Int)(x31:Int)(x32:qAq)(x35:Int)(x36:qAq):Option Bool :=
  ((qfk F x1 x2 x3 x4 x5 x6 x20 x21 x22 x23 x24 x25).bind fun x41=>(if x41 then ((qdD F x9 x10 x11 x12 x13 x16 x17 x28 x29 x30 x31 x32 x35 x36).bind fun x45=>qd3 F x45) else qd3 F false))
def qbm (_F:Nat)(x39:(qAq×Int×Int))(x42:(Bool×Int))(x62:Int)(x0:Int)(x1:Bool)(x2:Int)(x3:Bool):Option Bool :=
  some ((((x3 && ((x39.2.1:Int) == x0)) && ((x39.2.2:Int) == x62)) && (x42.1 == x1)) && ((x42.2:Int) == x2))
def qbl (F:Nat)(x39:(qAq×Int×Int))(x42:(Bool×Int))(x62:Int)(x0:Int)(x1:Bool)(x2:qAq)(x3:Int)(x4:Bool):Option Bool :=
  (if x4 then ((yZ F x39.1 x2).bind fun x5=>qbm F x39 x42 x62 x0 x1 x3 x5) else qbm F x39 x42 x62 x0 x1 x3 false)
def qbk (F:Nat)(x7:Int)(x8:Int)(x9:Int)(x10:Int)(x11:Int)(x12:qAq)(x15:Int)(x16:Int)(x17:Int)(x18:Int)(x19:qAq)(x22:Int)(x23:qAq)(x31:(Int×Int×Int×Int×Int×qAq×Int×Int×Int×Int×qAq×Int×qAq×Int))(x39:(qAq×Int×Int))(x42:(Bool×Int))(x43:(Int×Int×Int×Int×Int×qAq×Int×Int×Int×Int×qAq×Int×qAq×Int))(x51:(List (qAq)×qAq×Int))(x62:Int)(x0:Int)(x1:Bool)(x2:qAq)(x3:Int)(x4:Bool):Option Bool :=
  (if (x4 && ((x31.2.2.2.2.2.2.2.2.2.2.2.2.2:Int) == x43.2.2.2.2.2.2.2.2.2.2.2.2.2)) then ((vh F x7 x8 x9 x10 x11 x12 x15 x16 x17 x18 x19 x22 x23).bind fun x5=>qbl F x39 x42 x62 x0 x1 x2 x3 ((x5:Int) == x51.2.2)) else qbl F x39 x42 x62 x0 x1 x2 x3 false)
def yC (F:Nat)(x7:Int)(x8:Int)(x9:Int)(x10:Int)(x11:Int)(x12:qAq)(x15:Int)(x16:Int)(x17:Int)(x18:Int)(x19:qAq)(x22:Int)(x23:qAq)(x31:(Int×Int×Int×Int×Int×qAq×Int×Int×Int×Int×qAq×Int×qAq×Int))(x39:(qAq×Int×Int))(x42:(Bool×Int))(x43:(Int×Int×Int×Int×Int×qAq×Int×Int×Int×Int×qAq×Int×qAq×Int))(x51:(List (qAq)×qAq×Int))(x62:Int)(x0:Int)(x1:Bool)(x2:qAq)(x3:Int):Option Bool :=
  ((qdu F).bind fun x4=>(if x4 then ((qa8 F x31.1 x31.2.1 x31.2.2.1 x31.2.2.2.1 x31.2.2.2.2.1 x31.2.2.2.2.2.1 x31.2.2.2.2.2.2.1 x31.2.2.2.2.2.2.2.1 x31.2.2.2.2.2.2.2.2.1 x31.2.2.2.2.2.2.2.2.2.1 x31.2.2.2.2.2.2.2.2.2.2.1 x31.2.2.2.2.2.2.2.2.2.2.2.1 x31.2.2.2.2.2.2.2.2.2.2.2.2.1 x43.1 x43.2.1 x43.2.2.1 x43.2.2.2.1 x43.2.2.2.2.1 x43.2.2.2.2.2.1 x43.2.2.2.2.2.2.1 x43.2.2.2.2.2.2.2.1 x43.2.2.2.2.2.2.2.2.1 x43.2.2.2.2.2.2.2.2.2.1 x43.2.2.2.2.2.2.2.2.2.2.1 x43.2.2.2.2.2.2.2.2.2.2.2.1 x43.2.2.2.2.2.2.2.2.2.2.2.2.1).bind fun x5=>qbk F x7 x8 x9 x10 x11 x12 x15 x16 x17 x18 x19 x22 x23 x31 x39 x42 x43 x51 x62 x0 x1 x2 x3 x5) else qbk F x7 x8 x9 x10 x11 x12 x15 x16 x17 x18 x19 x22 x23 x31 x39 x42 x43 x51 x62 x0 x1 x2 x3 false))
def qao (F:Nat)(x7:Int)(x8:Int)(x9:Int)(x10:Int)(x11:Int)(x12:qAq)(x15:Int)(x16:Int)(x17:Int)(x18:Int)(x19:qAq)(x22:Int)(x23:qAq)(x26:Int)(x27:Int)(x31:(Int×Int×Int×Int×Int×qAq×Int×Int×Int×Int×qAq×Int×qAq×Int))(x39:(qAq×Int×Int))(x42:(Bool×Int))(x43:(Int×Int×Int×Int×Int×qAq×Int×Int×Int×Int×qAq×Int×qAq×Int))(x51:(List (qAq)×qAq×Int))(x62:Int)(x0:qAq)(x1:Int):Option Bool :=
  (if ((decide (0≤x27)) && (decide (x27<(x51.1.length:Int)))) then ((qhx F x51.1 x26 x27).bind fun x2=>yC F x7 x8 x9 x10 x11 x12 x15 x16 x17 x18 x19 x22 x23 x31 x39 x42 x43 x51 x62 x1 x2 x0 0) else yC F x7 x8 x9 x10 x11 x12 x15 x16 x17 x18 x19 x22 x23 x31 x39 x42 x43 x51 x62 x1 false x0 3)
def qan (F:Nat)(x7:Int)(x8:Int)(x9:Int)(x10:Int)(x11:Int)(x12:qAq)(x15:Int)(x16:Int)(x17:Int)(x18:Int)(x19:qAq)(x22:Int)(x23:qAq)(x26:Int)(x27:Int)(x31:(Int×Int×Int×Int×Int×qAq×Int×Int×Int×Int×qAq×Int×qAq×Int))(x39:(qAq×Int×Int))(x42:(Bool×Int))(x43:(Int×Int×Int×Int×Int×qAq×Int×Int×Int×Int×qAq×Int×qAq×Int))(x51:(List (qAq)×qAq×Int))(x62:Int)(x0:qAq)(rec12:(Int×Int)→Option Bool)(x1:Int)(x2:Int):Option Bool :=
  ((idx x51.2.1 x2).bind fun x3=>(if ((x3:Int) == 0) then qao F x7 x8 x9 x10 x11 x12 x15 x16 x17 x18 x19 x22 x23 x26 x27 x31 x39 x42 x43 x51 x62 x0 (iadd .i64 x1 1) else ((idx x51.2.1 x2).bind fun x4=>rec12 (iadd .i64 x1 1,isub .i64 x2 x4))))
def yi (F:Nat)(x7:Int)(x8:Int)(x9:Int)(x10:Int)(x11:Int)(x12:qAq)(x15:Int)(x16:Int)(x17:Int)(x18:Int)(x19:qAq)(x22:Int)(x23:qAq)(x26:Int)(x27:Int)(x31:(Int×Int×Int×Int×Int×qAq×Int×Int×Int×Int×qAq×Int×qAq×Int))(x39:(qAq×Int×Int))(x42:(Bool×Int))(x43:(Int×Int×Int×Int×Int×qAq×Int×Int×Int×Int×qAq×Int×qAq×Int))(x51:(List (qAq)×qAq×Int))(x62:Int)(x0:qAq):Nat→(Int×Int)→Option Bool
  | 0=>fun _=>none
  | k+1=>fun s=>qan F x7 x8 x9 x10 x11 x12 x15 x16 x17 x18 x19 x22 x23 x26 x27 x31 x39 x42 x43 x51 x62 x0 (yi F x7 x8 x9 x10 x11 x12 x15 x16 x17 x18 x19 x22 x23 x26 x27 x31 x39 x42 x43 x51 x62 x0 k) s.1 s.2
def yB (F:Nat)(x7:Int)(x8:Int)(x9:Int)(x10:Int)(x11:Int)(x12:qAq)(x15:Int)(x16:Int)(x17:Int)(x18:Int)(x19:qAq)(x22:Int)(x23:qAq)(x26:Int)(x27:Int)(x31:(Int×Int×Int×Int×Int×qAq×Int×Int×Int×Int×qAq×Int×qAq×Int))(x39:(qAq×Int×Int))(x42:(Bool×Int))(x43:(Int×Int×Int×Int×Int×qAq×Int×Int×Int×Int×qAq×Int×qAq×Int))(x51:(List (qAq)×qAq×Int))(x62:Int):Option Bool :=
  (if ((x62:Int) == 0) then ((idx x51.1 x26).bind fun x0=>yi F x7 x8 x9 x10 x11 x12 x15 x16 x17 x18 x19 x22 x23 x26 x27 x31 x39 x42 x43 x51 x62 x0 F (0,x26)) else yC F x7 x8 x9 x10 x11 x12 x15 x16 x17 x18 x19 x22 x23 x31 x39 x42 x43 x51 x62 0 false ([]:qAq) x62)
def yh (F:Nat)(x7:Int)(x8:Int)(x9:Int)(x10:Int)(x11:Int)(x12:qAq)(x15:Int)(x16:Int)(x17:Int)(x18:Int)(x19:qAq)(x22:Int)(x23:qAq)(x26:Int)(x27:Int)(x31:(Int×Int×Int×Int×Int×qAq×Int×Int×Int×Int×qAq×Int×qAq×Int))(x39:(qAq×Int×Int))(x42:(Bool×Int))(x43:(Int×Int×Int×Int×Int×qAq×Int×Int×Int×Int×qAq×Int×qAq×Int))(x51:(List (qAq)×qAq×Int))(x0:Bool):Option Bool :=
  (if x0 then yB F x7 x8 x9 x10 x11 x12 x15 x16 x17 x18 x19 x22 x23 x26 x27 x31 x39 x42 x43 x51 3 else yB F x7 x8 x9 x10 x11 x12 x15 x16 x17 x18 x19 x22 x23 x26 x27 x31 x39 x42 x43 x51 x51.2.2)
def qfg (F:Nat)(x1:List (qAq))(x4:Int)(x5:Int)(x6:Int)(x7:Int)(x8:Int)(x9:Int)(x10:Int)(x11:Int)(x12:qAq)(x15:Int)(x16:Int)(x17:Int)(x18:Int)(x19:qAq)(x22:Int)(x23:qAq)(x26:Int)(x27:Int):Option Bool :=
  ((qcM F x1 x4 x5 x6).bind fun x31=>((kP F x7 x8 x9 x10 x11 x12 x15 x16 x17 x18 x19 x22 x23 x26).bind fun x39=>((kF F x7 x8 x9 x10 x11 x12 x15 x16 x17 x18 x19 x22 x23 x26 x27).bind fun x42=>((qbW F x1 x4 x5 x6).bind fun x43=>((qa9 F x7 x8 x9 x10 x11 x12 x15 x16 x17 x18 x19 x22 x23).bind fun x51=>(if ((x51.2.2:Int) == 0) then yh F x7 x8 x9 x10 x11 x12 x15 x16 x17 x18 x19 x22 x23 x26 x27 x31 x39 x42 x43 x51 ((decide (x26<0)) || (decide ((x51.1.length:Int)≤x26))) else yh F x7 x8 x9 x10 x11 x12 x15 x16 x17 x18 x19 x22 x23 x26 x27 x31 x39 x42 x43 x51 false))))))
end Go.Proofs.YtmhggdbfbmkpeaaGreat
