/- What each Go function of this seat computes, in plain terms. -/
import Derived.Test.YtlioijpkhffbnaaGreatSy
namespace Go.Proofs.YtlioijpkhffbnaaGreat
open Go SX
abbrev qAE:=List Int
abbrev qAF:=Option Addr
abbrev qAG (x:Int):Value:=.int .i64 x
def qdO (_F:Nat)(x0:Int):Option Int :=
  (if (decide (600<x0)) then some 2 else some 0)
def qdP (_F:Nat)(rec38:(Int×Int)→Option Int)(x0:Int)(x1:Int):Option Int :=
  rec38 (x1,iadd .i64 x0 1)
def qbA (F:Nat)(rec38:(Int×Int)→Option Int)(x0:Int)(x1:Int)(x2:qAE):Option Int :=
  qdP F rec38 x1 (iadd .i64 x0 (x2.length:Int))
def qbz (F:Nat)(rec38:(Int×Int)→Option Int)(x1:List (qAE))(x0:Int)(x2:Int)(x3:qAE)(rec45:(Int×Int)→Option Int)(x4:Int)(x5:Int):Option Int :=
  (if (decide (x5<(x3.length:Int))) then ((idx x3 x5).bind fun x6=>(if ((decide (x6<0)) || (decide ((x1.length:Int)≤x6))) then some 3 else (if (decide (x6≤x4)) then some 4 else rec45 (x6,iadd .i64 x5 1)))) else qbA F rec38 x0 x2 x3)
def yV (F:Nat)(rec38:(Int×Int)→Option Int)(x1:List (qAE))(x0:Int)(x2:Int)(x3:qAE):Nat→(Int×Int)→Option Int
  | 0=>fun _=>none
  | k+1=>fun s=>qbz F rec38 x1 x0 x2 x3 (yV F rec38 x1 x0 x2 x3 k) s.1 s.2
def qby (F:Nat)(x1:List (qAE))(rec38:(Int×Int)→Option Int)(x0:Int)(x2:Int):Option Int :=
  (if (decide (x2<(x1.length:Int))) then ((idx x1 x2).bind fun x3=>yV F rec38 x1 x0 x2 x3 F (-1,0)) else qdO F x0)
def zm (F:Nat)(x1:List (qAE)):Nat→(Int×Int)→Option Int
  | 0=>fun _=>none
  | k+1=>fun s=>qby F x1 (zm F x1 k) s.1 s.2
def qbe (F:Nat)(x1:List (qAE)):Option Int :=
  (if (decide (100<(x1.length:Int))) then some 2 else zm F x1 F (0,0))
def qe2 (_F:Nat)(x48:qAE)(x49:Int):Option (qAE) :=
  ((app 70368744177664 x48 ([iconv .u8 x49]:qAE)).bind fun x52=>some x52)
def qdi (F:Nat)(rec3:(qAE×Int)→Option (qAE))(x69:qAE)(x70:Int):Option (qAE) :=
  (if (decide (128≤x70)) then ((app 70368744177664 x69 ([ior .u8 (iconv .u8 x70) 128]:qAE)).bind fun x92=>rec3 (x92,ishr .u64 x70 7)) else qe2 F x69 x70)
def jl (F:Nat):Nat→(qAE×Int)→Option (qAE)
  | 0=>fun _=>none
  | k+1=>fun s=>qdi F (jl F k) s.1 s.2
def vo (F:Nat)(x1:qAE)(x4:Int):Option (qAE) :=
  jl F F (x1,x4)
def qcQ (_F:Nat)(x1:Int):Option Int :=
  (lett (ixor .u64 (ishl .u64 (iconv .u64 x1) 1) (iconv .u64 (ishr .i64 x1 63))) fun x2=>some x2)
def qbU (_F:Nat)(x4:Int)(x8:Int):Option (Int×Int×Bool) :=
  some (x8,x4,true)
def qbv (F:Nat)(x2:Int)(x3:Bool)(x4:Int):Option (Int×Int×Bool) :=
  (if x3 then (lett (iconv .u64 (isub .i64 (isub .i64 x4 x2) 1)) fun x9=>qbU F x4 x9) else ((qcQ F (isub .i64 x4 x2)).bind fun x10=>qbU F x4 x10))
def qgg (_F:Nat)(x75:qAE):Option (qAE) :=
  some x75
def qeC (F:Nat)(x1:qAE)(rec3:(qAE×Int×Int×Bool)→Option (qAE))(x98:qAE)(x99:Int)(x0:Int)(x2:Bool):Option (qAE) :=
  (if (decide (x99<(x1.length:Int))) then ((idx x1 x99).bind fun x3=>((qbv F x0 x2 x3).bind fun x4=>((app 8796093022208 x98 ([x4.1]:qAE)).bind fun x5=>rec3 (x5,iadd .i64 x99 1,x4.2.1,x4.2.2)))) else qgg F x98)
def qbd (F:Nat)(x1:qAE):Nat→(qAE×Int×Int×Bool)→Option (qAE)
  | 0=>fun _=>none
  | k+1=>fun s=>qeC F x1 (qbd F x1 k) s.1 s.2.1 s.2.2.1 s.2.2.2
def qec (F:Nat)(x1:qAE)(x4:Int):Option (qAE) :=
  qbd F x1 F (([]:qAE),0,x4,false)
def qcG (_F:Nat)(x0:qAE):Option (qAE) :=
  some x0
def jY (_F:Nat)(rec19:(qAE×Int)→Option (qAE))(x0:Int)(x1:qAE):Option (qAE) :=
  rec19 (x1,iadd .i64 x0 1)
def jX (F:Nat)(rec19:(qAE×Int)→Option (qAE))(x0:Int)(x1:qAE)(rec22:(qAE×Int)→Option (qAE))(x2:qAE)(x3:Int):Option (qAE) :=
  (if (decide (x3<(x1.length:Int))) then ((idx x1 x3).bind fun x4=>((vo F x2 x4).bind fun x5=>rec22 (x5,iadd .i64 x3 1))) else jY F rec19 x0 x2)
def yi (F:Nat)(rec19:(qAE×Int)→Option (qAE))(x0:Int)(x1:qAE):Nat→(qAE×Int)→Option (qAE)
  | 0=>fun _=>none
  | k+1=>fun s=>jX F rec19 x0 x1 (yi F rec19 x0 x1 k) s.1 s.2
def jW (F:Nat)(x1:List (qAE))(rec19:(qAE×Int)→Option (qAE))(x0:qAE)(x2:Int):Option (qAE) :=
  (if (decide (x2<(x1.length:Int))) then ((idx x1 x2).bind fun x3=>((vo F x0 (iconv .u64 (x3.length:Int))).bind fun x4=>((qec F x3 x2).bind fun x5=>yi F rec19 x2 x5 F (x4,0)))) else qcG F x0)
def zb (F:Nat)(x1:List (qAE)):Nat→(qAE×Int)→Option (qAE)
  | 0=>fun _=>none
  | k+1=>fun s=>jW F x1 (zb F x1 k) s.1 s.2
def vM (F:Nat)(x1:List (qAE))(x33:qAE):Option (qAE) :=
  zb F x1 F (x33,0)
def qda (F:Nat)(x1:List (qAE)):Option (qAE) :=
  ((app 70368744177664 ([76,87]:qAE) ([1]:qAE)).bind fun x0=>((vo F x0 (iconv .u64 (x1.length:Int))).bind fun x2=>vM F x1 x2))
def qcy (_F:Nat)(x1:Int)(x2:Int)(x3:Int):Option Int :=
  (if (((((((decide (x1<0)) || (decide (7<x1))) || (decide (x2<0))) || ((x2:Int) == 1)) || (decide (300<x2))) || (decide (x3<1))) || (decide (16<x3))) then some 3 else some 0)
def kH (_F:Nat)(x1:qAE):Option (qAE) :=
  ((app 70368744177664 ([]:qAE) x1).bind fun x8=>some x8)
def qft (F:Nat)(x1:Int)(x2:qAE):Option (Int×qAE) :=
  ((kH F x2).bind fun x10=>some (x1,x10))
def qgf (_F:Nat)(_x1:Int)(_x2:qAE)(_x5:Int)(_x6:Int):Option Unit :=
  some ()
def yD (_F:Nat)(x2:Int)(x6:Int)(x15:qAE):Option (Int×qAE) :=
  ((idx x15 (iquo .i64 x2 8)).bind fun x30=>(chk (decide (0≤(irem x2 8))) (((idx x15 (iquo .i64 x2 8)).bind fun _x36=>(lett (x15.set (iquo .i64 x2 8).toNat (ior .u8 x30 (ishr .u8 (iconv .u8 (ishl .u64 x6 7)) (irem x2 8)))) fun x41=>some (iadd .i64 x2 1,x41))))))
def jy (F:Nat)(x2:Int)(x3:qAE)(x6:Int):Option (Int×qAE) :=
  (if (((irem x2 8):Int) == 0) then ((app 70368744177664 x3 ([0]:qAE)).bind fun x46=>yD F x2 x6 x46) else yD F x2 x6 x3)
def qcx (_F:Nat)(_x1:Int)(x2:qAE)(x5:Int):Option Int :=
  ((idx x2 (iquo .i64 x5 8)).bind fun x7=>(chk (decide (0≤(isub .i64 7 (irem x5 8)))) ((lett (iand .u64 (iconv .u64 (ishr .u8 x7 (isub .i64 7 (irem x5 8)))) 1) fun x11=>some x11))))
def qaG {σ τ:Type}(F:Nat)(yy:σ→Int→Option (σ ⊕ τ))(x4:Int)(x6:Int)(x7:qAE)(rec1:(Int×σ)→Option (σ ⊕ τ))(x22:Int)(x23:σ):Option (σ ⊕ τ) :=
  (if (decide (x22<x4)) then ((qcx F x6 x7 x22).bind fun x44=>((yy x23 x44).bind (Sum.elim (fun x45=>rec1 (iadd .i64 x22 1,x45)) (fun x46=>some (.inr x46))))) else some (.inl x23))
def kh {σ τ:Type}(F:Nat)(yy:σ→Int→Option (σ ⊕ τ))(x4:Int)(x6:Int)(x7:qAE):Nat→(Int×σ)→Option (σ ⊕ τ)
  | 0=>fun _=>none
  | k+1=>fun s=>qaG F yy x4 x6 x7 (kh F yy x4 x6 x7 k) s.1 s.2
def qe0 {σ τ:Type}(F:Nat)(yy:σ→Int→Option (σ ⊕ τ))(x2:Int)(x4:Int)(x6:Int)(x7:qAE)(s0:σ):Option (σ ⊕ τ) :=
  kh F yy x4 x6 x7 F (x2,s0)
def qbT (F:Nat)(x45:Int)(x48:qAE)(x53:Int):Option ((Int×qAE) ⊕ Empty) :=
  ((jy F x45 x48 x53).bind fun x54=>some (.inl (x54.1,x54.2)))
def qat (F:Nat)(x1:Int)(x2:qAE)(x5:Int)(x6:qAE):Option (Int×qAE) :=
  ((qft F x1 x2).bind fun x12=>((qgf F x5 x6 0 x5).bind fun _x37=>((qe0 F (fun ((x45,x48):(Int×qAE)) (x53:Int)=>qbT F x45 x48 x53) 0 x5 x5 x6 (x12.1,x12.2)).bind (Sum.elim (fun ((x45,x48):(Int×qAE))=>some (x45,x48)) (fun t=>t.elim)))))
def yG (_F:Nat)(x9:Int)(x10:Int):Option Int :=
  ((idx ([0,1,2,2,3,3,3,3,4,4,4,4,4,4,4,4,5,5,5,5,5,5,5,5,5,5,5,5,5,5,5,5,6,6,6,6,6,6,6,6,6,6,6,6,6,6,6,6,6,6,6,6,6,6,6,6,6,6,6,6,6,6,6,6,7,7,7,7,7,7,7,7,7,7,7,7,7,7,7,7,7,7,7,7,7,7,7,7,7,7,7,7,7,7,7,7,7,7,7,7,7,7,7,7,7,7,7,7,7,7,7,7,7,7,7,7,7,7,7,7,7,7,7,7,7,7,7,7,8,8,8,8,8,8,8,8,8,8,8,8,8,8,8,8,8,8,8,8,8,8,8,8,8,8,8,8,8,8,8,8,8,8,8,8,8,8,8,8,8,8,8,8,8,8,8,8,8,8,8,8,8,8,8,8,8,8,8,8,8,8,8,8,8,8,8,8,8,8,8,8,8,8,8,8,8,8,8,8,8,8,8,8,8,8,8,8,8,8,8,8,8,8,8,8,8,8,8,8,8,8,8,8,8,8,8,8,8,8,8,8,8,8,8,8,8,8,8,8,8,8,8,8,8,8,8,8]:qAE) (iconv .u8 x9)).bind fun x11=>some (iadd .i64 x10 (iconv .i64 x11)))
def yF (F:Nat)(x6:Int)(x7:Int):Option Int :=
  (if (decide (256≤x6)) then yG F (ishr .u64 x6 8) (iadd .i64 x7 8) else yG F x6 x7)
def yE (F:Nat)(x3:Int)(x4:Int):Option Int :=
  (if (decide (65536≤x3)) then yF F (ishr .u64 x3 16) (iadd .i64 x4 16) else yF F x3 x4)
def yW (F:Nat)(x1:Int):Option Int :=
  (if (decide (4294967296≤x1)) then yE F (ishr .u64 x1 32) 32 else yE F x1 0)
def qfa (F:Nat)(x1:Int):Option Int :=
  ((yW F (iadd .u64 x1 1)).bind fun x2=>some (isub .i64 x2 1))
def kb (F:Nat)(x6:Int)(rec1:(Int×Int×qAE)→Option (Int×qAE))(x18:Int)(x19:Int)(x22:qAE):Option (Int×qAE) :=
  (if (decide (0≤x18)) then (chk (decide (0≤x18)) (((jy F x19 x22 (iand .u64 (ishr .u64 x6 x18) 1)).bind fun x40=>rec1 (isub .i64 x18 1,x40.1,x40.2)))) else some (x19,x22))
def kd (F:Nat)(x6:Int):Nat→(Int×Int×qAE)→Option (Int×qAE)
  | 0=>fun _=>none
  | k+1=>fun s=>kb F x6 (kd F x6 k) s.1 s.2.1 s.2.2
def jz (F:Nat)(x2:Int)(x3:qAE)(x6:Int)(x7:Int):Option (Int×qAE) :=
  kd F x6 F (isub .i64 x7 1,x2,x3)
def qbS (F:Nat)(x1:Int)(x2:qAE)(x5:Int)(x6:Int):Option (Int×qAE) :=
  ((qft F x1 x2).bind fun x9=>((jz F x9.1 x9.2 x5 x6).bind fun x13=>some (x13.1,x13.2)))
def qeR (F:Nat)(x1:Int):Option (Int×qAE) :=
  ((mk 140737488355328 (0:Int) (iquo .u64 (iadd .u64 x1 7) 8)).bind fun x3=>((qbS F (iconv .i64 x1) x3 1 1).bind fun x6=>some (x6.1,x6.2)))
def qfR (_F:Nat)(x1:Int)(x2:Int):Option Int :=
  (chk (decide (0≤x2)) ((lett (iand .u64 x1 (isub .u64 (ishl .u64 1 x2) 1)) fun x4=>some x4)))
def qaf (F:Nat)(x1:Int):Option (Int×qAE) :=
  ((qfa F x1).bind fun x3=>((qeR F (iconv .u64 x3)).bind fun x4=>((qfR F (iadd .u64 x1 1) x3).bind fun x7=>((qbS F x4.1 x4.2 x7 x3).bind fun x8=>some (x8.1,x8.2)))))
def qdu (_F:Nat)(x1:Int):Option Bool :=
  some ((decide (0≤x1)) && (decide (x1≤1048576)))
def qg0 (_F:Nat):Option Int :=
  some 0
def qc8 (F:Nat)(x1:qAE)(rec3:(Int×Int)→Option Int)(x88:Int)(x89:Int):Option Int :=
  (if (decide (x89<(x1.length:Int))) then ((idx x1 x89).bind fun x0=>((qdu F x0).bind fun x2=>(if (!x2) then some 3 else (if (decide (x0≤x88)) then some 4 else rec3 (x0,iadd .i64 x89 1))))) else qg0 F)
def jf (F:Nat)(x1:qAE):Nat→(Int×Int)→Option Int
  | 0=>fun _=>none
  | k+1=>fun s=>qc8 F x1 (jf F x1 k) s.1 s.2
def jB (F:Nat)(x1:qAE):Option Int :=
  (if (decide (300<(x1.length:Int))) then some 2 else jf F x1 F (-1,0))
def yH (F:Nat)(x2:Int)(x3:qAE)(x7:Int)(x8:qAE)(x13:Bool):Option (Int×qAE×Bool) :=
  (if (!x13) then ((qat F x2 x3 x7 x8).bind fun x14=>some (x14.1,x14.2,x13)) else some (x2,x3,x13))
def yZ (F:Nat)(x2:Int)(x3:qAE)(x6:Bool)(x7:Int)(x8:qAE):Option (Int×qAE×Bool) :=
  (if x6 then yH F x2 x3 x7 x8 true else yH F x2 x3 x7 x8 (decide (8192<(iadd .i64 x2 x7))))
def zd (F:Nat)(x2:Int)(x3:qAE)(x6:Bool)(x7:Int):Option (Int×qAE×Bool) :=
  ((qaf F (iconv .u64 x7)).bind fun x8=>((yZ F x2 x3 x6 x8.1 x8.2).bind fun x11=>some (x11.1,x11.2.1,x11.2.2)))
def qc7 (_F:Nat)(x1:Int):Option Bool :=
  some ((x1:Int) != x1)
def qbu (_F:Nat)(x1:Int)(x2:Int)(x6:Bool):Option Bool :=
  some (x6 || (decide (x1<x2)))
def qdK (F:Nat)(x1:Int)(x2:Int):Option Bool :=
  ((qc7 F x1).bind fun x3=>(if x3 then ((qc7 F x2).bind fun x8=>qbu F x1 x2 (!x8)) else qbu F x1 x2 false))
def qaN (_F:Nat)(x1:Int):Option Bool :=
  some ((x1:Int) != x1)
def yd (_F:Nat)(x32:Int)(x55:Bool):Option (Int×Bool) :=
  some (x32,x55)
def ye (F:Nat)(x32:Int)(x68:Bool):Option (Int×Bool) :=
  yd F x32 x68
def yf (F:Nat)(x32:Int)(x75:Bool):Option (Int×Bool) :=
  ye F x32 x75
def yc (F:Nat)(x1:qAE)(x4:Int)(x32:Int):Option (Int×Bool) :=
  (if (decide (x32<(x1.length:Int))) then ((idx x1 x32).bind fun x56=>(if ((x56:Int) == x4) then ye F x32 true else ((idx x1 x32).bind fun x69=>((qaN F x69).bind fun x72=>(if x72 then ((qaN F x4).bind fun x76=>yf F x32 x76) else yf F x32 false))))) else yd F x32 false)
def zT (F:Nat)(x1:qAE)(x4:Int)(rec10:(Int×Int)→Option (Int×Bool))(x85:Int)(x86:Int):Option (Int×Bool) :=
  (if (decide (x85<x86)) then (lett (iconv .i64 (ishr .u64 (iconv .u64 (iadd .i64 x85 x86)) 1)) fun x97=>((idx x1 x97).bind fun x98=>((qdK F x98 x4).bind fun x0=>(if x0 then rec10 (iadd .i64 x97 1,x86) else rec10 (x85,x97))))) else yc F x1 x4 x85)
def qZ (F:Nat)(x1:qAE)(x4:Int):Nat→(Int×Int)→Option (Int×Bool)
  | 0=>fun _=>none
  | k+1=>fun s=>zT F x1 x4 (qZ F x1 x4 k) s.1 s.2
def zP (F:Nat)(x1:qAE)(x4:Int):Option (Int×Bool) :=
  qZ F x1 x4 F (0,(x1.length:Int))
def vS (_F:Nat)(x21:qAE)(x22:Bool)(x23:Int):Option (qAE×Bool×Int) :=
  some (x21,x22,iadd .i64 x23 1)
def qaM (F:Nat)(x2:qAE)(x5:Bool)(x6:Int)(x7:Bool):Option (qAE×Bool×Int) :=
  (if (x7 != x5) then ((app 8796093022208 x2 ([x6]:qAE)).bind fun x31=>vS F x31 x7 0) else vS F x2 x5 x6)
def qfz (_F:Nat)(x66:qAE)(x0:qAE):Option (qAE×qAE) :=
  some (x66,x0)
def qdg (_F:Nat)(rec10:(qAE×Int)→Option (qAE×qAE))(x0:Int)(x1:qAE):Option (qAE×qAE) :=
  rec10 (x1,iadd .i64 x0 1)
def qde (F:Nat)(x1:qAE)(x4:qAE)(x66:qAE)(rec10:(qAE×Int)→Option (qAE×qAE))(x0:qAE)(x2:Int):Option (qAE×qAE) :=
  (if (decide (x2<(x4.length:Int))) then ((idx x4 x2).bind fun x3=>((zP F x1 x3).bind fun x5=>(if (!x5.2) then ((app 8796093022208 x0 ([x3]:qAE)).bind fun x6=>qdg F rec10 x2 x6) else qdg F rec10 x2 x0))) else qfz F x66 x0)
def vg (F:Nat)(x1:qAE)(x4:qAE)(x66:qAE):Nat→(qAE×Int)→Option (qAE×qAE)
  | 0=>fun _=>none
  | k+1=>fun s=>qde F x1 x4 x66 (vg F x1 x4 x66 k) s.1 s.2
def qfy (F:Nat)(x1:qAE)(x4:qAE)(x66:qAE)(_x67:Bool)(_x68:Int):Option (qAE×qAE) :=
  vg F x1 x4 x66 F (([]:qAE),0)
def qdf (F:Nat)(x1:qAE)(x4:qAE)(rec12:(Int×qAE×Bool×Int)→Option (qAE×qAE))(x0:Int)(x2:qAE)(x3:Bool)(x5:Int):Option (qAE×qAE) :=
  (if (decide (x0<(x1.length:Int))) then ((idx x1 x0).bind fun x6=>((zP F x4 x6).bind fun x7=>((qaM F x2 x3 x5 x7.2).bind fun x8=>rec12 (iadd .i64 x0 1,x8.1,x8.2.1,x8.2.2)))) else qfy F x1 x4 x2 x3 x5)
def jg (F:Nat)(x1:qAE)(x4:qAE):Nat→(Int×qAE×Bool×Int)→Option (qAE×qAE)
  | 0=>fun _=>none
  | k+1=>fun s=>qdf F x1 x4 (jg F x1 x4 k) s.1 s.2.1 s.2.2.1 s.2.2.2
def qfY (F:Nat)(x1:qAE)(x4:qAE):Option (qAE×qAE) :=
  jg F x1 x4 F (0,([]:qAE),true,0)
def y8 (F:Nat)(x7:qAE)(rec1:(Int×Int×qAE×Bool)→Option (Int×qAE×Bool))(x27:Int)(x28:Int)(x31:qAE)(x32:Bool):Option (Int×qAE×Bool) :=
  (if (decide (x27<(x7.length:Int))) then ((idx x7 x27).bind fun x55=>((zd F x28 x31 x32 (isub .i64 x55 (imin x27 1))).bind fun x58=>rec1 (iadd .i64 x27 1,x58.1,x58.2.1,x58.2.2))) else some (x28,x31,x32))
def kf (F:Nat)(x7:qAE):Nat→(Int×Int×qAE×Bool)→Option (Int×qAE×Bool)
  | 0=>fun _=>none
  | k+1=>fun s=>y8 F x7 (kf F x7 k) s.1 s.2.1 s.2.2.1 s.2.2.2
def jE (F:Nat)(x2:Int)(x3:qAE)(x6:Bool)(x7:qAE):Option (Int×qAE×Bool) :=
  ((zd F x2 x3 x6 (x7.length:Int)).bind fun x10=>kf F x7 F (0,x10.1,x10.2.1,x10.2.2))
def qg8 (_F:Nat)(_x1:qAE):Option Unit :=
  some ()
def qbG {σ τ:Type}(_F:Nat)(yy:σ→(Int×Int)→Option (σ ⊕ τ))(rec31:(Int×σ)→Option (σ ⊕ τ))(x2:qAE)(x0:Int)(x1:σ)(x3:Int):Option (σ ⊕ τ) :=
  ((idx x2 x0).bind fun x4=>((yy x1 (x4,x3)).bind (Sum.elim (fun x5=>rec31 (iadd .i64 x0 x3,x5)) (fun x6=>some (.inr x6)))))
def qbH {σ τ:Type}(F:Nat)(yy:σ→(Int×Int)→Option (σ ⊕ τ))(rec31:(Int×σ)→Option (σ ⊕ τ))(rec44:Int→Option (σ ⊕ τ))(x2:qAE)(x0:Int)(x1:σ)(x3:Int)(x4:Bool):Option (σ ⊕ τ) :=
  (if x4 then rec44 (iadd .i64 x3 1) else qbG F yy rec31 x2 x0 x1 x3)
def qbF {σ τ:Type}(F:Nat)(yy:σ→(Int×Int)→Option (σ ⊕ τ))(rec31:(Int×σ)→Option (σ ⊕ τ))(x2:qAE)(x0:Int)(x1:σ)(rec44:Int→Option (σ ⊕ τ))(x3:Int):Option (σ ⊕ τ) :=
  (if (decide ((iadd .i64 x0 x3)<(x2.length:Int))) then ((idx x2 (iadd .i64 x0 x3)).bind fun x4=>((idx x2 x0).bind fun x5=>qbH F yy rec31 rec44 x2 x0 x1 x3 ((x4:Int) == (iadd .i64 x5 x3)))) else qbH F yy rec31 rec44 x2 x0 x1 x3 false)
def ya {σ τ:Type}(F:Nat)(yy:σ→(Int×Int)→Option (σ ⊕ τ))(rec31:(Int×σ)→Option (σ ⊕ τ))(x2:qAE)(x0:Int)(x1:σ):Nat→Int→Option (σ ⊕ τ)
  | 0=>fun _=>none
  | k+1=>fun s=>qbF F yy rec31 x2 x0 x1 (ya F yy rec31 x2 x0 x1 k) s
def qbE {σ τ:Type}(F:Nat)(yy:σ→(Int×Int)→Option (σ ⊕ τ))(x2:qAE)(rec31:(Int×σ)→Option (σ ⊕ τ))(x0:Int)(x1:σ):Option (σ ⊕ τ) :=
  (if (decide (x0<(x2.length:Int))) then ya F yy rec31 x2 x0 x1 F 1 else some (.inl x1))
def q7 {σ τ:Type}(F:Nat)(yy:σ→(Int×Int)→Option (σ ⊕ τ))(x2:qAE):Nat→(Int×σ)→Option (σ ⊕ τ)
  | 0=>fun _=>none
  | k+1=>fun s=>qbE F yy x2 (q7 F yy x2 k) s.1 s.2
def qcO {σ τ:Type}(F:Nat)(yy:σ→(Int×Int)→Option (σ ⊕ τ))(x2:qAE)(s0:σ):Option (σ ⊕ τ) :=
  q7 F yy x2 F (0,s0)
def qeI (_F:Nat)(x0:List (Int×Int))(x1:Int)(x2:Int)(rec8:(Int×qAE)→Option ((qAE×List (Int×Int)) ⊕ Empty))(x3:Int)(x4:qAE):Option ((qAE×List (Int×Int)) ⊕ Empty) :=
  (if (decide (x3<x2)) then ((app 8796093022208 x4 ([iadd .i64 x1 x3]:qAE)).bind fun x5=>rec8 (iadd .i64 x3 1,x5)) else some (.inl (x4,x0)))
def qbf (F:Nat)(x0:List (Int×Int))(x1:Int)(x2:Int):Nat→(Int×qAE)→Option ((qAE×List (Int×Int)) ⊕ Empty)
  | 0=>fun _=>none
  | k+1=>fun s=>qeI F x0 x1 x2 (qbf F x0 x1 x2 k) s.1 s.2
def qcN (F:Nat)(x4:Int)(x0:qAE)(x1:List (Int×Int))(x2:Int)(x3:Int):Option ((qAE×List (Int×Int)) ⊕ Empty) :=
  (if (decide (x4≤x3)) then ((app 4398046511104 x1 ([(x2,x3)]:List (Int×Int))).bind fun x5=>some (.inl (x0,x5))) else qbf F x1 x2 x3 F (0,x0))
def qgJ (F:Nat)(x1:qAE)(x4:Int):Option (List (Int×Int)×qAE) :=
  ((qg8 F x1).bind fun _x188=>((qcO F (fun ((x0,x2):(qAE×List (Int×Int))) ((x3,x5):(Int×Int))=>qcN F x4 x0 x2 x3 x5) x1 (([]:qAE),([]:List (Int×Int)))).bind (Sum.elim (fun ((x0,x2):(qAE×List (Int×Int)))=>some (x2,x0)) (fun t=>t.elim))))
def yw (F:Nat)(rec5:(Int×Int×Int×qAE×Bool)→Option (Int×qAE×Bool))(x8:Int)(x74:Int)(x0:(Int×Int))(x1:Int)(x2:qAE)(x3:Bool):Option (Int×qAE×Bool) :=
  ((zd F x1 x2 x3 (isub .i64 x0.2 x8)).bind fun x4=>rec5 (isub .i64 (iadd .i64 x0.1 x0.2) 1,iadd .i64 x74 1,x4.1,x4.2.1,x4.2.2))
def vW (F:Nat)(x8:Int)(x9:List (Int×Int))(rec5:(Int×Int×Int×qAE×Bool)→Option (Int×qAE×Bool))(x73:Int)(x74:Int)(x75:Int)(x78:qAE)(x79:Bool):Option (Int×qAE×Bool) :=
  (if (decide (x74<(x9.length:Int))) then ((idx x9 x74).bind fun x0=>(if ((x74:Int) == 0) then ((qcQ F (isub .i64 x0.1 x73)).bind fun x1=>((zd F x75 x78 x79 (iconv .i64 x1)).bind fun x2=>yw F rec5 x8 x74 x0 x2.1 x2.2.1 x2.2.2)) else ((zd F x75 x78 x79 (isub .i64 (isub .i64 x0.1 x73) 2)).bind fun x3=>yw F rec5 x8 x74 x0 x3.1 x3.2.1 x3.2.2))) else some (x75,x78,x79))
def zH (F:Nat)(x8:Int)(x9:List (Int×Int)):Nat→(Int×Int×Int×qAE×Bool)→Option (Int×qAE×Bool)
  | 0=>fun _=>none
  | k+1=>fun s=>vW F x8 x9 (zH F x8 x9 k) s.1 s.2.1 s.2.2.1 s.2.2.2.1 s.2.2.2.2
def qaP (F:Nat)(x2:Int)(x3:qAE)(x6:Bool)(x7:Int)(x8:Int)(x9:List (Int×Int)):Option (Int×qAE×Bool) :=
  ((zd F x2 x3 x6 (x9.length:Int)).bind fun x12=>zH F x8 x9 F (x7,0,x12.1,x12.2.1,x12.2.2))
def qeE (F:Nat)(x1:Int)(x2:Int):Option (Int×Int×Int) :=
  ((yW F (iadd .u64 x1 1)).bind fun x3=>(chk ((x2:Int) != 0) ((chk (decide (0≤(imul .i64 (iquo .i64 (isub .i64 x3 1) x2) x2))) ((chk (decide (0≤(iadd .i64 (imul .i64 (iquo .i64 (isub .i64 x3 1) x2) x2) x2))) (some (iquo .i64 (isub .i64 x3 1) x2,ishl .u64 1 (imul .i64 (iquo .i64 (isub .i64 x3 1) x2) x2),ishl .u64 1 (iadd .i64 (imul .i64 (iquo .i64 (isub .i64 x3 1) x2) x2) x2)))))))))
def qbV (F:Nat)(x1:Int):Option (Int×Int) :=
  ((yW F (isub .u64 x1 1)).bind fun x2=>(chk (decide (0≤x2)) (some (x2,isub .u64 (ishl .u64 1 x2) x1))))
def qbx (F:Nat)(x1:Int)(x2:qAE)(x5:Int)(x6:Int):Option (Int×qAE) :=
  ((qbV F x6).bind fun x9=>(if (decide (x5<x9.2)) then ((qbS F x1 x2 x5 (isub .i64 x9.1 1)).bind fun x14=>some (x14.1,x14.2)) else ((qbS F x1 x2 (iadd .u64 x5 x9.2) x9.1).bind fun x17=>some (x17.1,x17.2))))
def qeD (F:Nat)(x1:Int)(x2:Int):Option (Int×qAE×Int) :=
  (if (((decide (x2<1)) || (decide (16<x2))) || (decide (1099511627776<x1))) then some (0,([]:qAE),3) else ((qeE F x1 x2).bind fun x9=>((qeR F (iconv .u64 x9.1)).bind fun x10=>((qbx F x10.1 x10.2 (isub .u64 (iadd .u64 x1 1) x9.2.1) (isub .u64 x9.2.2 x9.2.1)).bind fun x13=>some (x13.1,x13.2,0)))))
def qhX (_F:Nat)(x0:Int)(x1:qAE):Option (Int×qAE×Bool) :=
  some (x0,x1,true)
def qeB (F:Nat)(x5:qAE)(x8:Int)(rec3:(Int×Int×qAE)→Option (Int×qAE×Bool))(x0:Int)(x1:Int)(x2:qAE):Option (Int×qAE×Bool) :=
  (if (decide (x0<(x5.length:Int))) then ((idx x5 x0).bind fun x3=>((qeD F x3 x8).bind fun x4=>(if (((x4.2.2:Int) != 0) || (decide (8192<(iadd .i64 x1 x4.1)))) then some (0,([]:qAE),false) else ((qat F x1 x2 x4.1 x4.2.1).bind fun x6=>rec3 (iadd .i64 x0 1,x6.1,x6.2))))) else qhX F x1 x2)
def qbc (F:Nat)(x5:qAE)(x8:Int):Nat→(Int×Int×qAE)→Option (Int×qAE×Bool)
  | 0=>fun _=>none
  | k+1=>fun s=>qeB F x5 x8 (qbc F x5 x8 k) s.1 s.2.1 s.2.2
def qdm (F:Nat)(x1:Int)(x2:qAE)(x5:qAE)(x8:Int):Option (Int×qAE×Bool) :=
  qbc F x5 x8 F (0,x1,x2)
def yv (F:Nat)(x52:Int)(x55:qAE)(x56:Bool)(x76:Bool)(x77:Int)(x80:qAE):Option (Int×qAE×Bool) :=
  ((yZ F x52 x55 (x56 || (!x76)) x77 x80).bind fun x82=>some (x82.1,x82.2.1,x82.2.2))
def yu (F:Nat)(x7:Int)(x16:Int)(x51:qAE)(x52:Int)(x55:qAE)(x56:Bool):Option (Int×qAE×Bool) :=
  ((qec F x51 x7).bind fun x85=>((qdm F 0 ([]:qAE) x85 x16).bind fun x88=>yv F x52 x55 x56 x88.2.2 x88.1 x88.2.1))
def yr (F:Nat)(x7:Int)(x15:Int)(x16:Int)(x33:qAE)(x34:Int)(x37:qAE)(x38:Bool):Option (Int×qAE×Bool) :=
  (if (((x33.length:Int):Int) == 0) then some (x34,x37,x38) else (if (decide (0<x15)) then ((qgJ F x33 x15).bind fun x0=>((qaP F x34 x37 x38 x7 x15 x0.1).bind fun x1=>yu F x7 x16 x0.2 x1.1 x1.2.1 x1.2.2)) else yu F x7 x16 x33 x34 x37 x38))
def vQ (F:Nat)(x2:Int)(x3:qAE)(x6:Bool)(x7:Int)(x8:qAE)(x11:qAE)(x14:Int)(x15:Int)(x16:Int):Option (Int×qAE×Bool) :=
  ((zd F x2 x3 x6 (x8.length:Int)).bind fun x18=>(if (((x8.length:Int):Int) == 0) then some (x18.1,x18.2.1,x18.2.2) else (if (decide (0<x14)) then ((qfY F x11 x8).bind fun x0=>((jE F x18.1 x18.2.1 x18.2.2 x0.1).bind fun x1=>yr F x7 x15 x16 x0.2 x1.1 x1.2.1 x1.2.2)) else yr F x7 x15 x16 x8 x18.1 x18.2.1 x18.2.2)))
def qff (F:Nat)(x1:Int)(x2:qAE)(x5:Int)(_x6:Int)(_x7:Int):Option Int :=
  (if ((decide (x1<0)) || (decide (1048576<x1))) then some 3 else (if (decide (0<x5)) then ((jB F x2).bind fun x14=>some x14) else some 0))
def qa3 (F:Nat)(x1:Int)(x2:qAE)(x5:qAE)(x8:Int)(x9:Int)(x10:Int)(x25:Int):Option (Int×qAE×Int) :=
  (if ((x25:Int) != 0) then some (0,([]:qAE),x25) else ((vQ F 0 ([]:qAE) false x1 x2 x5 x8 x9 x10).bind fun x28=>(if x28.2.2 then some (0,([]:qAE),8) else some (x28.1,x28.2.1,0))))
def ji (F:Nat)(x1:Int)(x2:qAE)(x5:qAE)(x8:Int)(x9:Int)(x10:Int)(x22:Int):Option (Int×qAE×Int) :=
  (if ((x22:Int) == 0) then ((qff F x1 x5 x8 x9 x10).bind fun x34=>qa3 F x1 x2 x5 x8 x9 x10 x34) else qa3 F x1 x2 x5 x8 x9 x10 x22)
def jh (F:Nat)(x1:Int)(x2:qAE)(x5:qAE)(x8:Int)(x9:Int)(x10:Int)(x19:Int):Option (Int×qAE×Int) :=
  (if ((x19:Int) == 0) then ((jB F x2).bind fun x36=>ji F x1 x2 x5 x8 x9 x10 x36) else ji F x1 x2 x5 x8 x9 x10 x19)
def qa4 (F:Nat)(x1:Int)(x2:qAE)(x5:qAE)(x8:Int)(x9:Int)(x10:Int)(x13:Int)(x40:Bool):Option (Int×qAE×Int) :=
  (if x40 then jh F x1 x2 x5 x8 x9 x10 3 else jh F x1 x2 x5 x8 x9 x10 x13)
def qfe (F:Nat)(x1:Int)(x2:qAE)(x5:qAE)(x8:Int)(x9:Int)(x10:Int):Option (Int×qAE×Int) :=
  ((qcy F x8 x9 x10).bind fun x13=>(if ((x13:Int) == 0) then qa4 F x1 x2 x5 x8 x9 x10 x13 ((decide (x1<0)) || (decide (1048576<x1))) else qa4 F x1 x2 x5 x8 x9 x10 x13 false))
def qbZ (F:Nat)(x1:List (qAE))(x4:qAE)(x7:Int)(x9:Int)(x10:Int)(x18:Int)(x21:qAE)(x29:qAE):Option (Int×Int×qAE×Bool) :=
  ((qfe F (x1.length:Int) x4 x29 x7 x9 x10).bind fun x30=>(if (((x30.2.2:Int) != 0) || (decide (8192<(iadd .i64 x18 x30.1)))) then some (0,0,([]:qAE),false) else ((qat F x18 x21 x30.1 x30.2.1).bind fun x37=>some (x7,x37.1,x37.2,true))))
def qbY (F:Nat)(x1:List (qAE))(x4:qAE)(x7:Int)(x9:Int)(x10:Int)(x18:Int)(x21:qAE):Option (Int×Int×qAE×Bool) :=
  (if (decide (0<x7)) then ((idx x1 (isub .i64 (x1.length:Int) x7)).bind fun x41=>qbZ F x1 x4 x7 x9 x10 x18 x21 x41) else qbZ F x1 x4 x7 x9 x10 x18 x21 ([]:qAE))
def qfX (F:Nat)(x1:List (qAE))(x4:qAE)(x7:Int)(x8:Int)(x9:Int)(x10:Int):Option (Int×Int×qAE×Bool) :=
  (if (decide (0<x8)) then ((qaf F (iconv .u64 x7)).bind fun x46=>qbY F x1 x4 x7 x9 x10 x46.1 x46.2) else qbY F x1 x4 x7 x9 x10 0 ([]:qAE))
def qfx (_F:Nat)(x96:Bool)(x97:Int)(x98:Int)(x0:qAE):Option (Int×Int×qAE×Bool) :=
  some (x97,x98,x0,x96)
def vf (_F:Nat)(rec14:(Bool×Int×Int×Int×qAE)→Option (Int×Int×qAE×Bool))(x0:Int)(x1:Bool)(x2:Int)(x3:Int)(x4:qAE):Option (Int×Int×qAE×Bool) :=
  rec14 (x1,iadd .i64 x0 1,x2,x3,x4)
def qdc (F:Nat)(rec14:(Bool×Int×Int×Int×qAE)→Option (Int×Int×qAE×Bool))(x0:Bool)(x1:Int)(x2:Int)(x3:Int)(x4:qAE)(x5:(Int×Int×qAE×Bool))(x6:Bool):Option (Int×Int×qAE×Bool) :=
  (if x6 then vf F rec14 x1 true x5.1 x5.2.1 x5.2.2.1 else vf F rec14 x1 x0 x2 x3 x4)
def qdb (F:Nat)(x1:List (qAE))(x4:qAE)(x7:Int)(x8:Int)(x9:Int)(rec14:(Bool×Int×Int×Int×qAE)→Option (Int×Int×qAE×Bool))(x0:Bool)(x2:Int)(x3:Int)(x5:Int)(x6:qAE):Option (Int×Int×qAE×Bool) :=
  (if (decide (x2<(iadd .i64 (imin x7 (x1.length:Int)) 1))) then ((qfX F x1 x4 x2 x7 x8 x9).bind fun x10=>(if x10.2.2.2 then qdc F rec14 x0 x2 x3 x5 x6 x10 ((!x0) || (decide (x10.2.1<x5))) else qdc F rec14 x0 x2 x3 x5 x6 x10 false)) else qfx F x0 x3 x5 x6)
def kq (F:Nat)(x1:List (qAE))(x4:qAE)(x7:Int)(x8:Int)(x9:Int):Nat→(Bool×Int×Int×Int×qAE)→Option (Int×Int×qAE×Bool)
  | 0=>fun _=>none
  | k+1=>fun s=>qdb F x1 x4 x7 x8 x9 (kq F x1 x4 x7 x8 x9 k) s.1 s.2.1 s.2.2.1 s.2.2.2.1 s.2.2.2.2
def qfW (F:Nat)(x1:List (qAE))(x4:qAE)(x7:Int)(x8:Int)(x9:Int):Option (Int×Int×qAE×Bool) :=
  kq F x1 x4 x7 x8 x9 F (false,0,0,0,([]:qAE))
def qaJ (_F:Nat)(x2:Int)(x3:Int)(x4:Int)(x5:Int)(x0:Int)(x1:qAE)(x6:qAE)(x7:qAE):Option (Bool×Int×Int×Int×Int×Int×qAE×qAE×qAE) :=
  some (true,x2,x3,x4,x5,x0,x1,x6,x7)
def k8 (F:Nat)(rec43:(Int×Int×qAE×qAE×qAE)→Option (Bool×Int×Int×Int×Int×Int×qAE×qAE×qAE))(x0:Int)(x1:Int)(x2:qAE)(x3:Int)(x4:qAE)(x5:qAE)(x6:qAE):Option (Bool×Int×Int×Int×Int×Int×qAE×qAE×qAE) :=
  ((qat F x1 x2 x3 x4).bind fun x7=>rec43 (iadd .i64 x0 1,x7.1,x7.2,x5,x6))
def k7 (F:Nat)(rec43:(Int×Int×qAE×qAE×qAE)→Option (Bool×Int×Int×Int×Int×Int×qAE×qAE×qAE))(x2:Int)(x3:Int)(x4:Int)(x5:Int)(x0:Int)(x1:Int)(x6:qAE)(x7:qAE)(x8:qAE)(x9:Int)(x10:Int)(x11:qAE)(x12:Bool):Option (Bool×Int×Int×Int×Int×Int×qAE×qAE×qAE) :=
  (if x12 then some (false,x2,x3,x4,x5,x1,x6,x7,x8) else ((app 8796093022208 x7 ([x9]:qAE)).bind fun x13=>((app 8796093022208 x8 ([x1]:qAE)).bind fun x14=>k8 F rec43 x0 x1 x6 x10 x11 x13 x14)))
def vk (F:Nat)(rec43:(Int×Int×qAE×qAE×qAE)→Option (Bool×Int×Int×Int×Int×Int×qAE×qAE×qAE))(x2:Int)(x3:Int)(x4:Int)(x5:Int)(x0:Int)(x1:Int)(x6:qAE)(x7:qAE)(x8:qAE)(x9:Bool)(x10:Int)(x11:Int)(x12:qAE):Option (Bool×Int×Int×Int×Int×Int×qAE×qAE×qAE) :=
  (if (!x9) then k7 F rec43 x2 x3 x4 x5 x0 x1 x6 x7 x8 x10 x11 x12 true else k7 F rec43 x2 x3 x4 x5 x0 x1 x6 x7 x8 x10 x11 x12 (decide (8192<(iadd .i64 x1 x11))))
def vj (F:Nat)(x2:Int)(x3:Int)(x4:Int)(x5:Int)(x16:List (qAE))(rec43:(Int×Int×qAE×qAE×qAE)→Option (Bool×Int×Int×Int×Int×Int×qAE×qAE×qAE))(x0:Int)(x1:Int)(x6:qAE)(x7:qAE)(x8:qAE):Option (Bool×Int×Int×Int×Int×Int×qAE×qAE×qAE) :=
  (if (decide (x0<(x16.length:Int))) then ((idx x16 x0).bind fun x9=>((sub x16 0 x0).bind fun x10=>((qfW F x10 x9 x3 x4 x5).bind fun x11=>vk F rec43 x2 x3 x4 x5 x0 x1 x6 x7 x8 x11.2.2.2 x11.1 x11.2.1 x11.2.2.1))) else qaJ F x2 x3 x4 x5 x1 x6 x7 x8)
def qO (F:Nat)(x2:Int)(x3:Int)(x4:Int)(x5:Int)(x16:List (qAE)):Nat→(Int×Int×qAE×qAE×qAE)→Option (Bool×Int×Int×Int×Int×Int×qAE×qAE×qAE)
  | 0=>fun _=>none
  | k+1=>fun s=>vj F x2 x3 x4 x5 x16 (qO F x2 x3 x4 x5 x16 k) s.1 s.2.1 s.2.2.1 s.2.2.2.1 s.2.2.2.2
def qdo (F:Nat)(x2:Int)(x3:Int)(x4:Int)(x5:Int)(x6:Int)(x7:qAE)(x10:qAE)(x13:qAE)(x16:List (qAE)):Option (Bool×Int×Int×Int×Int×Int×qAE×qAE×qAE) :=
  qO F x2 x3 x4 x5 x16 F (0,x6,x7,x10,x13)
def vE (_F:Nat)(x48:Int)(x49:Int)(x50:Int)(x51:Int)(x52:Int)(x53:Int)(x56:qAE)(x59:qAE)(x62:qAE):Option (Int×Int×Int×Int×Int×qAE×qAE×qAE×Int) :=
  some (x49,x50,x51,x52,x53,x56,x59,x62,x48)
def vF (F:Nat)(x12:Int)(x74:Bool)(x75:Int)(x76:Int)(x77:Int)(x78:Int)(x79:Int)(x82:qAE)(x85:qAE)(x88:qAE):Option (Int×Int×Int×Int×Int×qAE×qAE×qAE×Int) :=
  (if x74 then vE F 8 x75 x76 x77 x78 x79 x82 x85 x88 else vE F x12 x75 x76 x77 x78 x79 x82 x85 x88)
def qaj (F:Nat)(x1:List (qAE))(x4:Int)(x5:Int)(x6:Int)(x12:Int):Option (Int×Int×Int×Int×Int×qAE×qAE×qAE×Int) :=
  (if ((x12:Int) == 0) then ((qdo F (x1.length:Int) x4 x5 x6 0 ([]:qAE) ([]:qAE) ([]:qAE) x1).bind fun x90=>vF F x12 (!x90.1) x90.2.1 x90.2.2.1 x90.2.2.2.1 x90.2.2.2.2.1 x90.2.2.2.2.2.1 x90.2.2.2.2.2.2.1 x90.2.2.2.2.2.2.2.1 x90.2.2.2.2.2.2.2.2) else vF F x12 false (x1.length:Int) x4 x5 x6 0 ([]:qAE) ([]:qAE) ([]:qAE))
def qeG (F:Nat)(x1:List (qAE))(x4:Int)(x5:Int)(x6:Int):Option (Int×Int×Int×Int×Int×qAE×qAE×qAE×Int) :=
  ((qbe F x1).bind fun x9=>(if ((x9:Int) == 0) then ((qcy F x4 x5 x6).bind fun x97=>qaj F x1 x4 x5 x6 x97) else qaj F x1 x4 x5 x6 x9))
def qdT (F:Nat)(x1:List (qAE))(x4:Int)(x5:Int)(x6:Int):Option (Int×Int×Int×Int×Int×qAE×Int) :=
  ((qeG F x1 x4 x5 x6).bind fun x10=>(if ((x10.2.2.2.2.2.2.2.2:Int) != 0) then some (0,0,0,0,0,([]:qAE),x10.2.2.2.2.2.2.2.2) else some (x10.1,x10.2.1,x10.2.2.1,x10.2.2.2.1,x10.2.2.2.2.1,x10.2.2.2.2.2.1,0)))
def qdn (_F:Nat)(x9:(Int×Int×Int×Int×Int×qAE×Int))(x71:qAE):Option (qAE×Int) :=
  ((app 70368744177664 x71 x9.2.2.2.2.2.1).bind fun x72=>some (x72,0))
def yB (F:Nat)(x4:Int)(x5:Int)(x6:Int)(x9:(Int×Int×Int×Int×Int×qAE×Int))(rec3:(qAE×Int)→Option (qAE×Int))(x93:qAE)(x94:Int):Option (qAE×Int) :=
  (if (decide (x94<(([x9.1,x4,x5,x6,x9.2.2.2.2.1]:qAE).length:Int))) then ((idx ([x9.1,x4,x5,x6,x9.2.2.2.2.1]:qAE) x94).bind fun x0=>((vo F x93 (iconv .u64 x0)).bind fun x1=>rec3 (x1,iadd .i64 x94 1))) else qdn F x9 x93)
def zR (F:Nat)(x4:Int)(x5:Int)(x6:Int)(x9:(Int×Int×Int×Int×Int×qAE×Int)):Nat→(qAE×Int)→Option (qAE×Int)
  | 0=>fun _=>none
  | k+1=>fun s=>yB F x4 x5 x6 x9 (zR F x4 x5 x6 x9 k) s.1 s.2
def qc9 (F:Nat)(x1:List (qAE))(x4:Int)(x5:Int)(x6:Int):Option (qAE×Int) :=
  ((qdT F x1 x4 x5 x6).bind fun x9=>(if ((x9.2.2.2.2.2.2:Int) != 0) then some (([]:qAE),x9.2.2.2.2.2.2) else ((app 70368744177664 ([76,87]:qAE) ([2]:qAE)).bind fun x17=>zR F x4 x5 x6 x9 F (x17,0))))
def qbX (_F:Nat)(x22:qAE)(x26:Int):Option (qAE×Int) :=
  (if ((x26:Int) != 0) then some (([]:qAE),x26) else some (x22,0))
def k6 (F:Nat)(x22:qAE)(x23:Int):Option (qAE×Int) :=
  (if (((x23:Int) == 0) && (decide (4096<(x22.length:Int)))) then qbX F x22 2 else qbX F x22 x23)
def qdv (F:Nat)(x1:List (qAE))(x4:Int)(x5:Int)(x6:Int)(x7:Int):Option (qAE×Int) :=
  ((qbe F x1).bind fun x10=>(if ((x10:Int) != 0) then k6 F ([]:qAE) x10 else (if ((x4:Int) == 1) then ((qda F x1).bind fun x31=>k6 F x31 x10) else (if ((x4:Int) == 2) then ((qc9 F x1 x5 x6 x7).bind fun x34=>k6 F x34.1 x34.2) else k6 F ([]:qAE) 3))))
def qcz (_F:Nat)(x1:qAE)(x4:Int)(rec1:(Int×Int)→Option (Int×Int×Int))(x37:Int)(x38:Int):Option (Int×Int×Int) :=
  (if (decide ((x1.length:Int)≤(iadd .i64 x4 x38))) then some (0,0,7) else ((idx x1 (iadd .i64 x4 x38)).bind fun x89=>(if (((x38:Int) == 9) && (decide (1<x89))) then some (0,0,3) else (if ((decide (0<x38)) && ((x89:Int) == 0)) then some (0,0,1) else (chk (decide (0≤(imul .i64 7 x38))) ((lett (ior .u64 x37 (ishl .u64 (iconv .u64 (iand .u8 x89 127)) (imul .i64 7 x38))) fun x99=>(if (decide (x89<128)) then some (x99,iadd .i64 (iadd .i64 x4 x38) 1,0) else rec1 (x99,iadd .i64 x38 1)))))))))
def vG (F:Nat)(x1:qAE)(x4:Int):Nat→(Int×Int)→Option (Int×Int×Int)
  | 0=>fun _=>none
  | k+1=>fun s=>qcz F x1 x4 (vG F x1 x4 k) s.1 s.2
def qeK (F:Nat)(x1:qAE)(x4:Int):Option (Int×Int×Int) :=
  vG F x1 x4 F (0,0)
def qJ (F:Nat)(x2:qAE)(x5:Int)(x6:Int)(x7:Bool)(x8:Int):Option (Int×Int×Int×Bool) :=
  ((qeK F x2 x5).bind fun x10=>(if ((x7 || ((x10.2.2:Int) != 0)) || (decide ((iconv .u64 x8)<x10.1))) then some (0,x5,x6,((x7 || ((x10.2.2:Int) != 0)) || (decide ((iconv .u64 x8)<x10.1)))) else some (iconv .i64 x10.1,x10.2.1,iadd .i64 x6 1,((x7 || ((x10.2.2:Int) != 0)) || (decide ((iconv .u64 x8)<x10.1))))))
def qa5 (_F:Nat)(x1:Int):Option Int :=
  (lett (ixor .i64 (iconv .i64 (ishr .u64 x1 1)) (isub .i64 0 (iconv .i64 (iand .u64 x1 1)))) fun x2=>some x2)
def yo (F:Nat)(x8:Int):Option (Bool×Int×Bool) :=
  ((qdu F x8).bind fun x9=>some (x9,x8,true))
def kj (F:Nat)(x2:Int)(x3:Bool)(x4:Int):Option (Bool×Int×Bool) :=
  (if (decide (2097152<x4)) then some (false,x2,x3) else (if x3 then yo F (iadd .i64 x2 (iadd .i64 (iconv .i64 x4) 1)) else ((qa5 F x4).bind fun x10=>yo F (iadd .i64 x2 x10))))
def qfu (_F:Nat)(x97:qAE):Option (qAE×Int) :=
  some (x97,0)
def qdL (F:Nat)(x1:qAE)(rec3:(qAE×Int×Int×Bool)→Option (qAE×Int))(x0:qAE)(x2:Int)(x3:Int)(x4:Bool):Option (qAE×Int) :=
  (if (decide (x2<(x1.length:Int))) then ((idx x1 x2).bind fun x5=>((kj F x3 x4 x5).bind fun x6=>(if (!x6.1) then some (([]:qAE),3) else ((app 8796093022208 x0 ([x6.2.1]:qAE)).bind fun x7=>rec3 (x7,iadd .i64 x2 1,x6.2.1,x6.2.2))))) else qfu F x0)
def qag (F:Nat)(x1:qAE):Nat→(qAE×Int×Int×Bool)→Option (qAE×Int)
  | 0=>fun _=>none
  | k+1=>fun s=>qdL F x1 (qag F x1 k) s.1 s.2.1 s.2.2.1 s.2.2.2
def qfS (F:Nat)(x1:qAE)(x4:Int):Option (qAE×Int) :=
  (if (decide (300<(x1.length:Int))) then some (([]:qAE),2) else ((qdu F x4).bind fun x8=>(if (!x8) then some (([]:qAE),3) else qag F x1 F (([]:qAE),0,x4,false))))
def zW (F:Nat)(x8:Int)(x63:qAE)(x64:Int)(x65:Int)(x66:Bool):Option (qAE×Int×Int×Bool) :=
  ((qfS F x63 x8).bind fun x67=>some (x67.1,x64,x65,(x66 || ((x67.2:Int) != 0))))
def kF (F:Nat)(x2:qAE)(x8:Int)(x71:(Int×Int×Int×Bool))(rec3:(qAE×Int×Int×Int×Bool)→Option (qAE×Int×Int×Bool))(x88:qAE)(x89:Int)(x90:Int)(x91:Int)(x92:Bool):Option (qAE×Int×Int×Bool) :=
  (if (decide (x89<x71.1)) then ((qJ F x2 x90 x91 x92 2097152).bind fun x0=>((app 8796093022208 x88 ([iconv .u64 x0.1]:qAE)).bind fun x1=>rec3 (x1,iadd .i64 x89 1,x0.2.1,x0.2.2.1,x0.2.2.2))) else zW F x8 x88 x90 x91 x92)
def za (F:Nat)(x2:qAE)(x8:Int)(x71:(Int×Int×Int×Bool)):Nat→(qAE×Int×Int×Int×Bool)→Option (qAE×Int×Int×Bool)
  | 0=>fun _=>none
  | k+1=>fun s=>kF F x2 x8 x71 (za F x2 x8 x71 k) s.1 s.2.1 s.2.2.1 s.2.2.2.1 s.2.2.2.2
def kO (F:Nat)(x2:qAE)(x5:Int)(x6:Int)(x7:Bool)(x8:Int)(x9:Int):Option (qAE×Int×Int×Bool) :=
  ((qJ F x2 x5 x6 x7 x9).bind fun x71=>za F x2 x8 x71 F (([]:qAE),0,x71.2.1,x71.2.2.1,x71.2.2.2))
def kE (_F:Nat)(x76:List (qAE))(x77:Int)(x78:Int)(x79:Bool)(x83:Bool):Option (List (qAE)×Bool×Int×Int×Bool) :=
  some (x76,x83,x77,x78,x79)
def zE (F:Nat)(x2:qAE)(x76:List (qAE))(x77:Int)(x78:Int)(x79:Bool):Option (List (qAE)×Bool×Int×Int×Bool) :=
  (if (!x79) then (if ((x77:Int) == (x2.length:Int)) then ((qbe F x76).bind fun x86=>kE F x76 x77 x78 x79 ((x86:Int) == 0)) else kE F x76 x77 x78 x79 false) else kE F x76 x77 x78 x79 false)
def kD (F:Nat)(x2:qAE)(x9:(Int×Int×Int×Bool))(rec4:(Int×List (qAE)×Int×Int×Bool)→Option (List (qAE)×Bool×Int×Int×Bool))(x0:Int)(x1:List (qAE))(x3:Int)(x4:Int)(x5:Bool):Option (List (qAE)×Bool×Int×Int×Bool) :=
  (if (decide (x0<x9.1)) then ((kO F x2 x3 x4 x5 x0 x9.1).bind fun x6=>((app 2199023255552 x1 ([x6.1]:List (qAE))).bind fun x7=>rec4 (iadd .i64 x0 1,x7,x6.2.1,x6.2.2.1,x6.2.2.2))) else zE F x2 x1 x3 x4 x5)
def q9 (F:Nat)(x2:qAE)(x9:(Int×Int×Int×Bool)):Nat→(Int×List (qAE)×Int×Int×Bool)→Option (List (qAE)×Bool×Int×Int×Bool)
  | 0=>fun _=>none
  | k+1=>fun s=>kD F x2 x9 (q9 F x2 x9 k) s.1 s.2.1 s.2.2.1 s.2.2.2.1 s.2.2.2.2
def qaI (F:Nat)(x2:qAE)(x5:Int)(x6:Int)(x7:Bool):Option (List (qAE)×Bool×Int×Int×Bool) :=
  ((qJ F x2 x5 x6 x7 100).bind fun x9=>q9 F x2 x9 F (0,([]:List (qAE)),x9.2.1,x9.2.2.1,x9.2.2.2))
def qaZ (_F:Nat)(x36:Bool):Option Int :=
  (if x36 then some 1 else some 0)
def qdI (F:Nat)(x1:Int)(x2:qAE):Option Int :=
  (if ((decide (x1<0)) || (decide (8192<x1))) then some 3 else (if (((x2.length:Int):Int) != (iquo .i64 (iadd .i64 x1 7) 8)) then some 1 else (if (((irem x1 8):Int) != 0) then ((idx x2 (isub .i64 (x2.length:Int) 1)).bind fun x39=>(chk (decide (0≤(irem x1 8))) (qaZ F (((ishl .u8 x39 (irem x1 8)):Int) != 0)))) else qaZ F false)))
def qfb (F:Nat)(x1:Int)(x2:Int)(x3:Int)(x4:Int)(x5:Int)(x6:qAE):Option Int :=
  (if ((decide (x1<0)) || (decide (100<x1))) then some 3 else ((qcy F x2 x3 x4).bind fun x15=>(if ((x15:Int) != 0) then some x15 else ((qdI F x5 x6).bind fun x16=>some x16))))
def qg1 (_F:Nat):Option (Int×Int×Bool) :=
  some (0,0,false)
def qdh (F:Nat)(x1:Int)(x2:qAE)(x5:Int)(rec3:Int→Option (Int×Int×Bool))(x33:Int):Option (Int×Int×Bool) :=
  (if (decide (x33<x1)) then ((qcx F x1 x2 x33).bind fun x44=>(if ((x44:Int) == 1) then some (iconv .u64 (isub .i64 x33 x5),iadd .i64 x33 1,true) else rec3 (iadd .i64 x33 1))) else qg1 F)
def jk (F:Nat)(x1:Int)(x2:qAE)(x5:Int):Nat→Int→Option (Int×Int×Bool)
  | 0=>fun _=>none
  | k+1=>fun s=>qdh F x1 x2 x5 (jk F x1 x2 x5 k) s
def qdW (F:Nat)(x1:Int)(x2:qAE)(x5:Int):Option (Int×Int×Bool) :=
  jk F x1 x2 x5 F x5
def qcF (F:Nat)(x1:Int)(x2:qAE)(x5:Int):Option (Int×Int×Int) :=
  ((qdW F x1 x2 x5).bind fun x7=>(if (!x7.2.2) then some (0,0,7) else some (x7.1,x7.2.1,0)))
def qfs (_F:Nat)(x24:Int):Option (Int×Bool) :=
  some (x24,true)
def qdJ (F:Nat)(x1:Int)(x2:qAE)(x5:Int)(x6:Int)(rec3:(Int×Int)→Option (Int×Bool))(x29:Int)(x30:Int):Option (Int×Bool) :=
  (if (decide (x30<x6)) then ((qcx F x1 x2 (iadd .i64 x5 x30)).bind fun x38=>rec3 (ior .u64 (ishl .u64 x29 1) x38,iadd .i64 x30 1)) else qfs F x29)
def qae (F:Nat)(x1:Int)(x2:qAE)(x5:Int)(x6:Int):Nat→(Int×Int)→Option (Int×Bool)
  | 0=>fun _=>none
  | k+1=>fun s=>qdJ F x1 x2 x5 x6 (qae F x1 x2 x5 x6 k) s.1 s.2
def qau (F:Nat)(x1:Int)(x2:qAE)(x5:Int)(x6:Int):Option (Int×Bool) :=
  (if (decide ((isub .i64 x1 x5)<x6)) then some (0,false) else qae F x1 x2 x5 x6 F (0,0))
def ka (F:Nat)(x1:Int)(x2:qAE)(x5:Int):Option (Int×Int×Int) :=
  ((qcF F x1 x2 x5).bind fun x7=>(if ((x7.2.2:Int) != 0) then some (0,0,x7.2.2) else (if (decide (64≤x7.1)) then some (0,0,3) else ((qau F x1 x2 x7.2.1 (iconv .i64 x7.1)).bind fun x10=>(if (!x10.2) then some (0,0,7) else (chk (decide (0≤x7.1)) ((lett (iadd .u64 x10.1 (isub .u64 (ishl .u64 1 x7.1) 1)) fun x16=>(if (decide (1099511627776<x16)) then some (0,0,3) else some (x16,iadd .i64 x7.2.1 (iconv .i64 x7.1),0))))))))))
def jA (F:Nat)(x1:Int)(x2:qAE)(x5:Int):Option (Int×Int×Int) :=
  ((ka F x1 x2 x5).bind fun x7=>some (x7.1,x7.2.1,x7.2.2))
def qeF (_F:Nat)(x13:(Int×Int×Int))(x18:Bool):Option (Int×Int×Bool) :=
  (if x18 then some (0,0,false) else some (iconv .i64 x13.1,x13.2.1,true))
def qgH (F:Nat)(_x1:Int)(x2:Int)(_x3:Int)(_x4:Int)(x5:Int)(x6:qAE)(x9:Int)(x10:Int):Option (Int×Int×Bool) :=
  (if ((x2:Int) == 0) then some (0,x9,true) else ((jA F x5 x6 x9).bind fun x13=>(if ((x13.2.2:Int) != 0) then qeF F x13 true else qeF F x13 (decide ((iconv .u64 (imin x2 x10))<x13.1)))))
def ym (_F:Nat)(x1:Bool):Option (Unit ⊕ Unit) :=
  (if (!x1) then some (.inr ()) else some (.inl ()))
def zJ (F:Nat)(x2:Int)(x3:qAE)(x6:Int)(x7:Int):Option ((Int×Int×Int) ⊕ (Int×Int)) :=
  ((jA F x2 x3 x6).bind fun x9=>(lbnd (ym F (((x9.2.2:Int) == 0) && (decide (x9.1≤(iconv .u64 x7))))) (fun _x11=>some (.inl (iconv .i64 x9.1,x2,x9.2.1))) (fun _x12=>some (.inr (x2,x6)))))
def qdU (_F:Nat)(x4:Int)(x99:Int):Option Int :=
  (if (decide (x4<x99)) then some 8 else some 0)
def qbC (_F:Nat)(rec23:(Int×Int)→Option Int)(x4:Int)(x0:Int)(x1:Int)(x2:Int)(x3:Bool):Option Int :=
  (if x3 then some 3 else (lett (imin (iadd .i64 x0 (imin x2 (iadd .i64 x4 1))) (iadd .i64 x4 1)) fun x5=>rec23 (x5,iadd .i64 x1 1)))
def qbB (F:Nat)(x1:qAE)(x4:Int)(rec23:(Int×Int)→Option Int)(x0:Int)(x2:Int):Option Int :=
  (if (decide (x2<(x1.length:Int))) then ((idx x1 x2).bind fun x3=>(if (decide (x3<0)) then qbC F rec23 x4 x0 x2 x3 true else qbC F rec23 x4 x0 x2 x3 ((decide (x3<1)) && (decide (0<x2))))) else qdU F x4 x0)
def k9 (F:Nat)(x1:qAE)(x4:Int):Nat→(Int×Int)→Option Int
  | 0=>fun _=>none
  | k+1=>fun s=>qbB F x1 x4 (k9 F x1 x4 k) s.1 s.2
def qeH (F:Nat)(x1:qAE)(x4:Int):Option Int :=
  (if (decide ((iadd .i64 x4 1)<(x1.length:Int))) then some 2 else k9 F x1 x4 F (0,0))
def qbD (_F:Nat)(x0:qAE):Option (qAE) :=
  some x0
def qdV (F:Nat)(x0:qAE)(x1:qAE)(x2:Bool):Option (qAE) :=
  (if x2 then ((app 8796093022208 x1 x0).bind fun x3=>qbD F x3) else qbD F x1)
def qaL (_F:Nat)(rec10:(qAE×qAE×Bool×Int)→Option (qAE))(x0:qAE)(x1:Bool)(x2:Int)(x3:Int)(x4:qAE):Option (qAE) :=
  ((sub x0 x3 (x0.length:Int)).bind fun x5=>rec10 (x5,x4,(!x1),iadd .i64 x2 1))
def qaK (F:Nat)(x4:qAE)(rec10:(qAE×qAE×Bool×Int)→Option (qAE))(x0:qAE)(x1:qAE)(x2:Bool)(x3:Int):Option (qAE) :=
  (if (decide (x3<(x4.length:Int))) then ((idx x4 x3).bind fun x5=>(if x2 then ((sub x0 0 x5).bind fun x6=>((app 8796093022208 x1 x6).bind fun x7=>qaL F rec10 x0 x2 x3 x5 x7)) else qaL F rec10 x0 x2 x3 x5 x1)) else qdV F x0 x1 x2)
def kP (F:Nat)(x4:qAE):Nat→(qAE×qAE×Bool×Int)→Option (qAE)
  | 0=>fun _=>none
  | k+1=>fun s=>qaK F x4 (kP F x4 k) s.1 s.2.1 s.2.2.1 s.2.2.2
def qfA (F:Nat)(x1:qAE)(x4:qAE):Option (qAE) :=
  kP F x4 F (x1,([]:qAE),true,0)
def qa1 (F:Nat)(x1:qAE)(x4:qAE)(x10:Int):Option (qAE×Int) :=
  (if ((x10:Int) != 0) then some (([]:qAE),x10) else ((qfA F x1 x4).bind fun x12=>some (x12,0)))
def qfc (F:Nat)(x1:qAE)(x4:qAE):Option (qAE×Int) :=
  ((jB F x1).bind fun x7=>(if ((x7:Int) == 0) then ((qeH F x4 (x1.length:Int)).bind fun x16=>qa1 F x1 x4 x16) else qa1 F x1 x4 x7))
def qak (_F:Nat)(x72:qAE)(x73:Int)(x74:Int):Option ((qAE×Int×Int) ⊕ (Int×Int)) :=
  some (.inl (x72,x73,x74))
def yY (F:Nat)(x3:qAE)(x7:Int)(x10:qAE)(rec3:(qAE×Int×Int×Int)→Option ((qAE×Int×Int) ⊕ (Int×Int)))(x93:qAE)(x94:Int)(x95:Int)(x96:Int):Option ((qAE×Int×Int) ⊕ (Int×Int)) :=
  (if (decide (x94<(x10.length:Int))) then (lbnd (zJ F x95 x3 x96 x7) (fun x0=>((idx x93 x94).bind fun _x127=>(lett (x93.set x94.toNat (iadd .i64 x0.1 (imin x94 1))) fun x1=>rec3 (x1,iadd .i64 x94 1,x0.2.1,x0.2.2)))) (fun x2=>some (.inr (x2.1,x2.2)))) else qak F x93 x95 x96)
def ke (F:Nat)(x3:qAE)(x7:Int)(x10:qAE):Nat→(qAE×Int×Int×Int)→Option ((qAE×Int×Int) ⊕ (Int×Int))
  | 0=>fun _=>none
  | k+1=>fun s=>yY F x3 x7 x10 (ke F x3 x7 x10 k) s.1 s.2.1 s.2.2.1 s.2.2.2
def jD (F:Nat)(x2:Int)(x3:qAE)(x6:Int)(x7:Int):Option ((qAE×Int×Int) ⊕ (Int×Int)) :=
  (lbnd (zJ F x2 x3 x6 (iadd .i64 x7 1)) (fun x8=>((mk 17592186044416 (0:Int) x8.1).bind fun x10=>ke F x3 x7 x10 F (x10,0,x8.2.1,x8.2.2))) (fun x9=>some (.inr (x9.1,x9.2))))
def qbh (_F:Nat)(x0:List (Int×Int))(x1:Int)(x2:Int):Option ((List (Int×Int)×Int×Int) ⊕ (Int×Int)) :=
  some (.inl (x0,x1,x2))
def yg (F:Nat)(rec13:(List (Int×Int)×Int×Int×Int×Int)→Option ((List (Int×Int)×Int×Int) ⊕ (Int×Int)))(x3:qAE)(x8:Int)(x9:Int)(x0:List (Int×Int))(x1:Int)(x2:(Int×Int×Int))(x4:Int):Option ((List (Int×Int)×Int×Int) ⊕ (Int×Int)) :=
  (lbnd (zJ F x2.2.1 x3 x2.2.2 x9) (fun x5=>((idx x0 x1).bind fun _x247=>(lett (x0.set x1.toNat (x4,iadd .i64 x5.1 x8)) fun x6=>((idx x6 x1).bind fun x7=>rec13 (x6,iadd .i64 x4 (isub .i64 x7.2 1),iadd .i64 x1 1,x5.2.1,x5.2.2))))) (fun x10=>some (.inr (x10.1,x10.2))))
def vm (F:Nat)(x3:qAE)(x8:Int)(x9:Int)(x13:List (Int×Int))(rec13:(List (Int×Int)×Int×Int×Int×Int)→Option ((List (Int×Int)×Int×Int) ⊕ (Int×Int)))(x0:List (Int×Int))(x1:Int)(x2:Int)(x4:Int)(x5:Int):Option ((List (Int×Int)×Int×Int) ⊕ (Int×Int)) :=
  (if (decide (x2<(x13.length:Int))) then (lbnd (zJ F x4 x3 x5 2097152) (fun x6=>(if ((x2:Int) == 0) then ((qa5 F (iconv .u64 x6.1)).bind fun x7=>yg F rec13 x3 x8 x9 x0 x2 x6 (iadd .i64 x1 x7)) else yg F rec13 x3 x8 x9 x0 x2 x6 (iadd .i64 x1 (iadd .i64 x6.1 2)))) (fun x10=>some (.inr (x10.1,x10.2)))) else qbh F x0 x4 x5)
def zx (F:Nat)(x3:qAE)(x8:Int)(x9:Int)(x13:List (Int×Int)):Nat→(List (Int×Int)×Int×Int×Int×Int)→Option ((List (Int×Int)×Int×Int) ⊕ (Int×Int))
  | 0=>fun _=>none
  | k+1=>fun s=>vm F x3 x8 x9 x13 (zx F x3 x8 x9 x13 k) s.1 s.2.1 s.2.2.1 s.2.2.2.1 s.2.2.2.2
def qaO (F:Nat)(x2:Int)(x3:qAE)(x6:Int)(x7:Int)(x8:Int)(x9:Int):Option ((List (Int×Int)×Int×Int) ⊕ (Int×Int)) :=
  (chk ((x8:Int) != 0) ((lbnd (zJ F x2 x3 x6 (iquo .i64 x9 x8)) (fun x11=>((mk 8796093022208 (((0:Int),(0:Int)):(Int×Int)) x11.1).bind fun x13=>zx F x3 x8 x9 x13 F (x13,x7,0,x11.2.1,x11.2.2))) (fun x12=>some (.inr (x12.1,x12.2))))))
def jM (_F:Nat)(x15:qAE):Option (qAE) :=
  some x15
def vT (F:Nat)(x1:qAE)(c3:Nat)(x4:Int):Option (qAE) :=
  (if (decide (x4<0)) then none else (lett (isub .i64 x4 (isub .i64 (c3:Int) (x1.length:Int))) fun x16=>(if (decide (0<x16)) then ((sub x1 0 (c3:Int)).bind fun x17=>((appz 8796093022208 x17 (0:Int) x16).bind fun x18=>((sub x18 0 (x1.length:Int)).bind fun x21=>jM F x21))) else jM F x1)))
def vN (_F:Nat)(x0:qAE):Option (qAE) :=
  some x0
def qM (F:Nat)(x1:List (qAE))(rec5:(qAE×Int)→Option (qAE))(x0:qAE)(x2:Int):Option (qAE) :=
  (if (decide (x2<(x1.length:Int))) then ((idx x1 x2).bind fun x3=>((app 8796093022208 x0 x3).bind fun x4=>rec5 (x4,iadd .i64 x2 1))) else vN F x0)
def qS (F:Nat)(x1:List (qAE)):Nat→(qAE×Int)→Option (qAE)
  | 0=>fun _=>none
  | k+1=>fun s=>qM F x1 (qS F x1 k) s.1 s.2
def km (F:Nat)(x1:List (qAE))(x43:Int):Option (qAE) :=
  ((vT F ([]:qAE) 0 x43).bind fun x44=>qS F x1 F (x44,0))
def qN (F:Nat)(x1:List (qAE))(rec6:(Int×Int)→Option (qAE))(x0:Int)(x2:Int):Option (qAE) :=
  (if (decide (x2<(x1.length:Int))) then ((idx x1 x2).bind fun x3=>(if (decide ((iadd .i64 x0 (x3.length:Int))<0)) then none else rec6 (iadd .i64 x0 (x3.length:Int),iadd .i64 x2 1))) else km F x1 x0)
def qT (F:Nat)(x1:List (qAE)):Nat→(Int×Int)→Option (qAE)
  | 0=>fun _=>none
  | k+1=>fun s=>qN F x1 (qT F x1 k) s.1 s.2
def zN (F:Nat)(x1:List (qAE)):Option (qAE) :=
  qT F x1 F (0,0)
def zF (_F:Nat)(x1:qAE):Option (qAE) :=
  if x1.length<4611686018427387904 then some (srt x1) else none
def qcP (_F:Nat)(x1:Int)(x2:Int)(x3:Int):Option Bool :=
  some ((decide (x2≤x1)) && (decide (x1≤x3)))
def qfZ (_F:Nat)(x0:qAE):Option (qAE×Int) :=
  some (x0,0)
def qbM (_F:Nat)(rec32:(qAE×Int)→Option (qAE×Int))(x0:Int)(x1:qAE):Option (qAE×Int) :=
  rec32 (x1,iadd .i64 x0 1)
def qbJ (F:Nat)(rec32:(qAE×Int)→Option (qAE×Int))(x0:Int)(x1:(Int×Int))(rec35:(qAE×Int)→Option (qAE×Int))(x2:qAE)(x3:Int):Option (qAE×Int) :=
  (if (decide (x3<x1.2)) then ((app 8796093022208 x2 ([iadd .i64 x1.1 x3]:qAE)).bind fun x4=>rec35 (x4,iadd .i64 x3 1)) else qbM F rec32 x0 x2)
def yX (F:Nat)(rec32:(qAE×Int)→Option (qAE×Int))(x0:Int)(x1:(Int×Int)):Nat→(qAE×Int)→Option (qAE×Int)
  | 0=>fun _=>none
  | k+1=>fun s=>qbJ F rec32 x0 x1 (yX F rec32 x0 x1 k) s.1 s.2
def qbI (F:Nat)(x1:List (Int×Int))(rec32:(qAE×Int)→Option (qAE×Int))(x0:qAE)(x2:Int):Option (qAE×Int) :=
  (if (decide (x2<(x1.length:Int))) then ((idx x1 x2).bind fun x3=>yX F rec32 x2 x3 F (x0,0)) else qfZ F x0)
def zw (F:Nat)(x1:List (Int×Int)):Nat→(qAE×Int)→Option (qAE×Int)
  | 0=>fun _=>none
  | k+1=>fun s=>qbI F x1 (zw F x1 k) s.1 s.2
def qbL (F:Nat)(x1:List (Int×Int)):Option (qAE×Int) :=
  zw F x1 F (([]:qAE),0)
def jC (_F:Nat)(rec44:(Int×Int)→Option (qAE×Int))(x0:Int)(x1:Int)(x2:(Int×Int))(x3:Bool):Option (qAE×Int) :=
  (if x3 then some (([]:qAE),3) else (if (decide (x2.1<(iadd .i64 x0 2))) then some (([]:qAE),4) else rec44 (isub .i64 (iadd .i64 x2.1 x2.2) 1,iadd .i64 x1 1)))
def qbK (F:Nat)(x1:List (Int×Int))(rec44:(Int×Int)→Option (qAE×Int))(x0:Int)(x2:Int):Option (qAE×Int) :=
  (if (decide (x2<(x1.length:Int))) then ((idx x1 x2).bind fun x3=>((qcP F x3.1 0 1048576).bind fun x4=>(if (!x4) then jC F rec44 x0 x2 x3 (!x4) else ((qcP F x3.2 1 300).bind fun x5=>(if (!x5) then jC F rec44 x0 x2 x3 (!x5) else jC F rec44 x0 x2 x3 (decide (1048576<(isub .i64 (iadd .i64 x3.1 x3.2) 1)))))))) else qbL F x1)
def yb (F:Nat)(x1:List (Int×Int)):Nat→(Int×Int)→Option (qAE×Int)
  | 0=>fun _=>none
  | k+1=>fun s=>qbK F x1 (yb F x1 k) s.1 s.2
def qeJ (F:Nat)(x1:List (Int×Int)):Option (qAE×Int) :=
  (if (decide (300<(x1.length:Int))) then some (([]:qAE),2) else yb F x1 F (-2,0))
def kI (_F:Nat)(x1:qAE):Option (qAE) :=
  if (Go.Lib.compact x1).length≤x1.length then some (Go.Lib.compact x1) else none
def vl (_F:Nat)(x1:qAE):Option (qAE) :=
  ((app 8796093022208 ([]:qAE) x1).bind fun x8=>some x8)
def qa2 (F:Nat)(x4:qAE)(x7:(qAE×Int))(x12:Int):Option (qAE×Int) :=
  (if ((x12:Int) != 0) then some (([]:qAE),x12) else ((zN F ([x7.1,x4]:List (qAE))).bind fun x16=>((zF F x16).bind fun x19=>(chk (decide (x19.length=x16.length)) (((vl F x19).bind fun x29=>((kI F x29).bind fun x32=>(if (decide ((x32.length:Int)<(x19.length:Int))) then some (([]:qAE),6) else (if (decide (300<(x19.length:Int))) then some (([]:qAE),2) else some (x19,0))))))))))
def qfd (F:Nat)(x1:List (Int×Int))(x4:qAE):Option (qAE×Int) :=
  ((qeJ F x1).bind fun x7=>(if ((x7.2:Int) == 0) then ((jB F x4).bind fun x38=>qa2 F x4 x7 x38) else qa2 F x4 x7 x7.2))
def zD (F:Nat)(x1:Int)(x2:qAE)(x5:Int)(x8:(Int×Int)):Option (Int×Int×Bool) :=
  ((qau F x1 x2 x5 x8.1).bind fun x14=>some (isub .u64 x14.1 x8.2,iadd .i64 x5 x8.1,x14.2))
def zA (F:Nat)(x1:Int)(x2:qAE)(x5:Int)(x6:Int):Option (Int×Int×Bool) :=
  ((qbV F x6).bind fun x8=>(if (decide (0<x8.2)) then ((qau F x1 x2 x5 (isub .i64 x8.1 1)).bind fun x15=>(if (!x15.2) then some (0,0,false) else (if (decide (x15.1<x8.2)) then some (x15.1,isub .i64 (iadd .i64 x5 x8.1) 1,true) else zD F x1 x2 x5 x8))) else zD F x1 x2 x5 x8))
def qdN (_F:Nat)(x1:Int)(x2:Int)(x3:Bool):Option (Int×Int×Int) :=
  (if (!x3) then some (0,0,7) else (if (decide (1099511627776<x1)) then some (0,0,3) else some (x1,x2,0)))
def qbw (F:Nat)(x1:Int)(x2:qAE)(x5:Int)(x6:Int):Option (Int×Int×Int) :=
  ((qdW F x1 x2 x5).bind fun x8=>(if (!x8.2.2) then some (0,0,7) else (if (decide (41≤(imul .u64 x8.1 (iconv .u64 x6)))) then some (0,0,3) else (chk (decide (0≤(imul .i64 (iconv .i64 x8.1) x6))) ((lett (ishl .u64 1 (imul .i64 (iconv .i64 x8.1) x6)) fun x12=>(chk (decide (0≤x6)) (((zA F x1 x2 x8.2.1 (isub .u64 (ishl .u64 x12 x6) x12)).bind fun x20=>((qdN F (isub .u64 (iadd .u64 x12 x20.1) 1) x20.2.1 x20.2.2).bind fun x21=>some (x21.1,x21.2.1,x21.2.2)))))))))))
def qfv (_F:Nat)(x0:Int)(x1:qAE):Option (qAE×Int×Int) :=
  some (x1,x0,0)
def qdM (F:Nat)(x1:Int)(x2:qAE)(x7:Int)(x8:Int)(rec3:(Int×qAE×Int×Int×Bool)→Option (qAE×Int×Int))(x0:Int)(x3:qAE)(x4:Int)(x5:Int)(x6:Bool):Option (qAE×Int×Int) :=
  (if (decide (x4<x8)) then ((qbw F x1 x2 x0 x7).bind fun x9=>(if ((x9.2.2:Int) != 0) then some (([]:qAE),0,x9.2.2) else ((kj F x5 x6 x9.1).bind fun x10=>(if (!x10.1) then some (([]:qAE),0,3) else ((app 8796093022208 x3 ([x10.2.1]:qAE)).bind fun x11=>rec3 (x9.2.1,x11,iadd .i64 x4 1,x10.2.1,x10.2.2)))))) else qfv F x0 x3)
def qah (F:Nat)(x1:Int)(x2:qAE)(x7:Int)(x8:Int):Nat→(Int×qAE×Int×Int×Bool)→Option (qAE×Int×Int)
  | 0=>fun _=>none
  | k+1=>fun s=>qdM F x1 x2 x7 x8 (qah F x1 x2 x7 x8 k) s.1 s.2.1 s.2.2.1 s.2.2.2.1 s.2.2.2.2
def qfT (F:Nat)(x1:Int)(x2:qAE)(x5:Int)(x6:Int)(x7:Int)(x8:Int):Option (qAE×Int×Int) :=
  qah F x1 x2 x7 x8 F (x5,([]:qAE),0,x6,false)
def yq (F:Nat)(x3:qAE)(x7:Int)(x13:Int)(x15:(Int×Int×Int))(x31:qAE)(x42:List (Int×Int))(x43:Int)(x44:Int):Option ((qAE×Int×Int) ⊕ (Int×Int)) :=
  ((qfd F x42 ([]:qAE)).bind fun x45=>(lbnd (ym F (((x45.2:Int) == 0) && (decide ((x45.1.length:Int)≤(isub .i64 x15.1 (x31.length:Int)))))) (fun _x49=>((qfT F x43 x3 x44 x7 x13 (isub .i64 (isub .i64 x15.1 (x31.length:Int)) (x45.1.length:Int))).bind fun x54=>(lbnd (ym F ((x54.2.2:Int) == 0)) (fun _x57=>((zN F ([x31,x45.1,x54.1]:List (qAE))).bind fun x61=>((zF F x61).bind fun x64=>(chk (decide (x64.length=x61.length)) (some (.inl (x64,x43,x54.2.1))))))) (fun _x58=>some (.inr (x43,x44)))))) (fun _x50=>some (.inr (x43,x44)))))
def yp (F:Nat)(x3:qAE)(x7:Int)(x12:Int)(x13:Int)(x15:(Int×Int×Int))(x31:qAE)(x32:Int)(x33:Int):Option ((qAE×Int×Int) ⊕ (Int×Int)) :=
  (if (((isub .i64 x15.1 (x31.length:Int)):Int) == 0) then some (.inl (x31,x32,x33)) else (if (decide (0<x12)) then (lbnd (qaO F x32 x3 x33 x7 x12 (isub .i64 x15.1 (x31.length:Int))) (fun x66=>yq F x3 x7 x13 x15 x31 x66.1 x66.2.1 x66.2.2) (fun x67=>some (.inr (x67.1,x67.2)))) else yq F x3 x7 x13 x15 x31 ([]:List (Int×Int)) x32 x33))
def vO (F:Nat)(x2:Int)(x3:qAE)(x6:Int)(x7:Int)(x8:qAE)(x11:Int)(x12:Int)(x13:Int):Option ((qAE×Int×Int) ⊕ (Int×Int)) :=
  (lbnd (zJ F x2 x3 x6 300) (fun x15=>(if ((x15.1:Int) == 0) then some (.inl (([]:qAE),x15.2.1,x15.2.2)) else (if (decide (0<x11)) then (lbnd (jD F x15.2.1 x3 x15.2.2 (x8.length:Int)) (fun x72=>((qfc F x8 x72.1).bind fun x76=>(lbnd (ym F (((x76.2:Int) == 0) && (decide ((x76.1.length:Int)≤x15.1)))) (fun _x80=>yp F x3 x7 x12 x13 x15 x76.1 x72.2.1 x72.2.2) (fun _x81=>some (.inr (x72.2.1,x72.2.2)))))) (fun x73=>some (.inr (x73.1,x73.2)))) else yp F x3 x7 x12 x13 x15 ([]:qAE) x15.2.1 x15.2.2))) (fun x16=>some (.inr (x16.1,x16.2))))
def qd3 (_F:Nat)(x17:(qAE×Int×Int)):Option (qAE×Bool×Int×Int) :=
  some (x17.1,true,x17.2.1,x17.2.2)
def vU (F:Nat)(x3:qAE)(x6:Int)(x17:(qAE×Int×Int))(x25:(Int×qAE×Bool))(rec4:Int→Option (qAE×Bool×Int×Int))(x75:Int):Option (qAE×Bool×Int×Int) :=
  (if (decide (x75<x25.1)) then ((qcx F x25.1 x25.2.1 x75).bind fun x92=>((qcx F x17.2.1 x3 (iadd .i64 x6 x75)).bind fun x93=>(lbnd (ym F ((x92:Int) == x93)) (fun _x94=>rec4 (iadd .i64 x75 1)) (fun _x95=>some (([]:qAE),false,x17.2.1,x17.2.2))))) else qd3 F x17)
def zG (F:Nat)(x3:qAE)(x6:Int)(x17:(qAE×Int×Int))(x25:(Int×qAE×Bool)):Nat→Int→Option (qAE×Bool×Int×Int)
  | 0=>fun _=>none
  | k+1=>fun s=>vU F x3 x6 x17 x25 (zG F x3 x6 x17 x25 k) s
def vV (F:Nat)(x3:qAE)(x6:Int)(x17:(qAE×Int×Int))(x25:(Int×qAE×Bool)):Option (qAE×Bool×Int×Int) :=
  zG F x3 x6 x17 x25 F 0
def vP (F:Nat)(x2:Int)(x3:qAE)(x6:Int)(x7:Int)(x8:qAE)(x11:Int)(x12:Int)(x13:Int):Option (qAE×Bool×Int×Int) :=
  (lbnd (vO F x2 x3 x6 x7 x8 x11 x12 x13) (fun x17=>((jB F x17.1).bind fun x21=>(lbnd (ym F ((x21:Int) == 0)) (fun _x22=>((vQ F 0 ([]:qAE) false x7 x17.1 x8 x11 x12 x13).bind fun x25=>(if (!x25.2.2) then (lbnd (ym F ((x25.1:Int) == (isub .i64 x17.2.2 x6))) (fun _x98=>vV F x3 x6 x17 x25) (fun _x99=>some (([]:qAE),false,x17.2.1,x17.2.2))) else (lbnd (ym F false) (fun _x100=>vV F x3 x6 x17 x25) (fun _x101=>some (([]:qAE),false,x17.2.1,x17.2.2)))))) (fun _x23=>some (([]:qAE),false,x17.2.1,x17.2.2))))) (fun x18=>some (([]:qAE),false,x18.1,x18.2)))
def qdw (F:Nat)(x1:Int)(x2:qAE)(x5:Int)(x6:Int)(x7:qAE)(x10:Int)(x11:Int)(x12:Int):Option (qAE×Int×Int) :=
  ((vP F x1 x2 x5 x6 x7 x10 x11 x12).bind fun x16=>(if (!x16.2.1) then some (([]:qAE),0,1) else some (x16.1,x16.2.2.2,0)))
def qe1 (_F:Nat)(x5:Int)(x0:List (qAE))(x1:Int):Option (List (qAE)×Bool) :=
  some (x0,((x1:Int) == x5))
def qa0 (_F:Nat)(rec8:(List (qAE)×Int×Int)→Option (List (qAE)×Bool))(x0:Int)(x1:List (qAE))(x2:Int):Option (List (qAE)×Bool) :=
  rec8 (x1,x2,iadd .i64 x0 1)
def qdd (F:Nat)(x1:Int)(x2:Int)(x3:Int)(x4:Int)(x5:Int)(x6:qAE)(rec8:(List (qAE)×Int×Int)→Option (List (qAE)×Bool))(x0:List (qAE))(x7:Int)(x8:Int):Option (List (qAE)×Bool) :=
  (if (decide (x8<x1)) then ((qgH F x1 x2 x3 x4 x5 x6 x7 x8).bind fun x9=>(if (!x9.2.2) then some (([]:List (qAE)),false) else (if (decide (0<x9.1)) then ((idx x0 (isub .i64 x8 x9.1)).bind fun x10=>((qdw F x5 x6 x9.2.1 x8 x10 x9.1 x3 x4).bind fun x11=>(if ((x11.2.2:Int) != 0) then some (([]:List (qAE)),false) else ((app 2199023255552 x0 ([x11.1]:List (qAE))).bind fun x12=>qa0 F rec8 x8 x12 x11.2.1)))) else ((qdw F x5 x6 x9.2.1 x8 ([]:qAE) x9.1 x3 x4).bind fun x13=>(if ((x13.2.2:Int) != 0) then some (([]:List (qAE)),false) else ((app 2199023255552 x0 ([x13.1]:List (qAE))).bind fun x14=>qa0 F rec8 x8 x14 x13.2.1)))))) else qe1 F x5 x0 x7)
def yl (F:Nat)(x1:Int)(x2:Int)(x3:Int)(x4:Int)(x5:Int)(x6:qAE):Nat→(List (qAE)×Int×Int)→Option (List (qAE)×Bool)
  | 0=>fun _=>none
  | k+1=>fun s=>qdd F x1 x2 x3 x4 x5 x6 (yl F x1 x2 x3 x4 x5 x6 k) s.1 s.2.1 s.2.2
def qgI (F:Nat)(x1:Int)(x2:Int)(x3:Int)(x4:Int)(x5:Int)(x6:qAE):Option (List (qAE)×Bool) :=
  yl F x1 x2 x3 x4 x5 x6 F (([]:List (qAE)),0,0)
def qbN (_F:Nat):Option Bool :=
  some true
def kT (F:Nat)(x1:qAE)(x4:qAE)(rec3:Int→Option Bool)(x0:Int):Option Bool :=
  (if (decide (x0<(x1.length:Int))) then ((idx x1 x0).bind fun x2=>((idx x4 x0).bind fun x3=>(if ((x2:Int) != x3) then some false else rec3 (iadd .i64 x0 1)))) else qbN F)
def zB (F:Nat)(x1:qAE)(x4:qAE):Nat→Int→Option Bool
  | 0=>fun _=>none
  | k+1=>fun s=>kT F x1 x4 (zB F x1 x4 k) s
def yC (F:Nat)(x1:qAE)(x4:qAE):Option Bool :=
  (if (((x1.length:Int):Int) != (x4.length:Int)) then some false else zB F x1 x4 F 0)
def qdS (_F:Nat)(x14:(List (qAE)×Bool))(x34:Bool):Option (List (qAE)×Int) :=
  (if x34 then some (([]:List (qAE)),1) else some (x14.1,0))
def qfV (F:Nat)(x1:Int)(x2:Int)(x3:Int)(x4:Int)(x5:Int)(x6:qAE):Option (List (qAE)×Int) :=
  ((qfb F x1 x2 x3 x4 x5 x6).bind fun x13=>(if ((x13:Int) != 0) then some (([]:List (qAE)),x13) else ((qgI F x1 x2 x3 x4 x5 x6).bind fun x14=>(if (!x14.2) then some (([]:List (qAE)),1) else ((qdT F x14.1 x2 x3 x4).bind fun x28=>(if ((x28.2.2.2.2.2.2:Int) != 0) then qdS F x14 true else ((yC F x28.2.2.2.2.2.1 x6).bind fun x36=>qdS F x14 (!x36))))))))
def qaH (F:Nat)(x2:qAE)(x5:Int)(x6:Int)(x7:Bool):Option (List (qAE)×Bool×Int×Int×Bool) :=
  ((qJ F x2 x5 x6 x7 100).bind fun x9=>((qJ F x2 x9.2.1 x9.2.2.1 x9.2.2.2 7).bind fun x11=>((qJ F x2 x11.2.1 x11.2.2.1 x11.2.2.2 300).bind fun x12=>((qJ F x2 x12.2.1 x12.2.2.1 x12.2.2.2 16).bind fun x13=>((qJ F x2 x13.2.1 x13.2.2.1 x13.2.2.2 8192).bind fun x14=>(if x14.2.2.2 then some (([]:List (qAE)),false,x14.2.1,x14.2.2.1,x14.2.2.2) else ((sub x2 x14.2.1 (x2.length:Int)).bind fun x24=>((kH F x24).bind fun x29=>((qdI F x14.1 x29).bind fun x34=>(if ((x34:Int) != 0) then some (([]:List (qAE)),false,x14.2.1,x14.2.2.1,x14.2.2.2) else ((qfV F x9.1 x11.1 x12.1 x13.1 x14.1 x29).bind fun x35=>some (x35.1,((x35.2:Int) == 0),x14.2.1,x14.1,x14.2.2.2))))))))))))
def qdR (F:Nat)(x1:qAE)(x19:Bool):Option (List (qAE)×Int×Int) :=
  (if x19 then some (([]:List (qAE)),0,1) else ((idx x1 2).bind fun x22=>(if ((x22:Int) == 1) then ((qaI F x1 3 0 false).bind fun x25=>(if (!x25.2.1) then some (([]:List (qAE)),0,1) else some (x25.1,x25.2.2.2.1,0))) else if ((x22:Int) == 2) then ((qaH F x1 3 0 false).bind fun x31=>(if (!x31.2.1) then some (([]:List (qAE)),0,1) else some (x31.1,x31.2.2.2.1,0))) else some (([]:List (qAE)),0,1))))
def qeQ (F:Nat)(x1:qAE):Option (List (qAE)×Int×Int) :=
  (if (decide (4096<(x1.length:Int))) then some (([]:List (qAE)),0,2) else (if (decide ((x1.length:Int)<3)) then qdR F x1 true else ((sub x1 0 2).bind fun x38=>qdR F x1 (!(bstr x38 == bstr ([76,87]:qAE))))))
def qfw (_F:Nat)(x38:Int):Option Int :=
  some x38
def qdQ (F:Nat)(x1:List (qAE))(rec3:(Int×Int)→Option Int)(x49:Int)(x50:Int):Option Int :=
  (if (decide (x50<(x1.length:Int))) then ((idx x1 x50).bind fun x67=>rec3 (iadd .i64 x49 (x67.length:Int),iadd .i64 x50 1)) else qfw F x49)
def qai (F:Nat)(x1:List (qAE)):Nat→(Int×Int)→Option Int
  | 0=>fun _=>none
  | k+1=>fun s=>qdQ F x1 (qai F x1 k) s.1 s.2
def qfU (F:Nat)(x1:List (qAE)):Option Int :=
  qai F x1 F (0,0)
def qbW (_F:Nat)(x11:(List (qAE)×Int×Int))(x25:Int):Option (List (qAE)×Int×Int) :=
  (if ((x25:Int) != 0) then some (([]:List (qAE)),0,x25) else some (x11.1,x11.2.1,0))
def vL (F:Nat)(x11:(List (qAE)×Int×Int))(x32:Bool):Option (List (qAE)×Int×Int) :=
  (if x32 then qbW F x11 8 else qbW F x11 x11.2.2)
def kC (F:Nat)(x1:qAE)(x4:Int)(x5:Int)(x6:Int)(x7:Int):Option (List (qAE)×Int×Int) :=
  (if (decide (x4<(x1.length:Int))) then some (([]:List (qAE)),0,8) else ((qeQ F x1).bind fun x11=>(if ((x11.2.2:Int) == 0) then (if (decide (x5<(x11.1.length:Int))) then vL F x11 true else ((qfU F x11.1).bind fun x36=>(if (decide (x6<x36)) then vL F x11 true else vL F x11 (decide (x7<x11.2.1))))) else vL F x11 false)))
def qav (F:Nat)(x1:qAE):Option (Int×Int×Int×Int×Int) :=
  ((qeQ F x1).bind fun x5=>(if ((x5.2.2:Int) != 0) then some (0,0,0,0,x5.2.2) else ((qfU F x5.1).bind fun x11=>some ((x1.length:Int),(x5.1.length:Int),x11,x5.2.1,0))))
def zC (_F:Nat)(x1:Int)(x2:Int)(x3:Int):Option Bool :=
  some ((decide (x2≤x1)) && (decide (x1≤x3)))
def qdk (_F:Nat)(x0:Int):Option Int :=
  (if (decide (600<x0)) then some 2 else some 0)
def kw (_F:Nat)(rec138:(Int×Int)→Option Int)(x0:Int)(x1:Int):Option Int :=
  rec138 (x1,iadd .i64 x0 1)
def kx (_F:Nat)(rec161:(Int×Int)→Option Int)(x0:Int)(x1:Int)(x2:Bool):Option Int :=
  (if x2 then some 4 else rec161 (iadd .i64 x0 1,iadd .i64 x1 1))
def jQ (F:Nat)(rec138:(Int×Int)→Option Int)(x1:List (qAE))(x0:Int)(rec161:(Int×Int)→Option Int)(x2:Int)(x3:Int):Option Int :=
  ((idx x1 x0).bind fun x4=>(if (decide (x3<(x4.length:Int))) then ((idx x1 x0).bind fun x5=>((idx x5 x3).bind fun x6=>((zC F x6 0 (isub .i64 (x1.length:Int) 1)).bind fun x7=>(if (!x7) then some 3 else (if (decide (0<x3)) then ((idx x1 x0).bind fun x8=>((idx x8 x3).bind fun x9=>((idx x1 x0).bind fun x10=>((idx x10 (isub .i64 x3 1)).bind fun x11=>kx F rec161 x2 x3 (decide (x9≤x11)))))) else kx F rec161 x2 x3 false))))) else kw F rec138 x0 x2))
def zo (F:Nat)(rec138:(Int×Int)→Option Int)(x1:List (qAE))(x0:Int):Nat→(Int×Int)→Option Int
  | 0=>fun _=>none
  | k+1=>fun s=>jQ F rec138 x1 x0 (zo F rec138 x1 x0 k) s.1 s.2
def jP (F:Nat)(x1:List (qAE))(rec138:(Int×Int)→Option Int)(x0:Int)(x2:Int):Option Int :=
  (if (decide (x2<(x1.length:Int))) then zo F rec138 x1 x2 F (x0,0) else qdk F x0)
def qX (F:Nat)(x1:List (qAE)):Nat→(Int×Int)→Option Int
  | 0=>fun _=>none
  | k+1=>fun s=>jP F x1 (qX F x1 k) s.1 s.2
def qbQ (F:Nat)(x1:List (qAE)):Option Int :=
  (if (decide (100<(x1.length:Int))) then some 2 else qX F x1 F (0,0))
def zp:Nat→Int→Option (qAE)
  | 0=>fun _=>none
  | F+1=>fun x1 =>
    let self:=zp F
    (if (decide (x1<128)) then some ([iconv .u8 x1]:qAE) else ((self (iquo .u64 x1 128)).bind fun x9=>((app 70368744177664 ([iconv .u8 (iadd .u64 (irem x1 128) 128)]:qAE) x9).bind fun x12=>some x12)))
def qfn (_F:Nat)(x1:Int):Option Int :=
  (if (decide (x1<0)) then (lett (iadd .u64 (imul .u64 2 (iconv .u64 (isub .i64 0 (iadd .i64 x1 1)))) 1) fun x4=>some x4) else some (imul .u64 2 (iconv .u64 x1)))
def qga (_F:Nat)(x0:qAE):Option (qAE) :=
  some x0
def qcJ (_F:Nat)(rec8:(qAE×Int)→Option (qAE))(x0:Int)(x1:qAE):Option (qAE) :=
  rec8 (x1,iadd .i64 x0 1)
def qer (F:Nat)(x1:qAE)(x4:Int)(rec8:(qAE×Int)→Option (qAE))(x0:qAE)(x2:Int):Option (qAE) :=
  (if (decide (x2<(x1.length:Int))) then (if ((x2:Int) == 0) then ((idx x1 0).bind fun x3=>((qfn F (isub .i64 x3 x4)).bind fun x5=>((app 8796093022208 x0 ([x5]:qAE)).bind fun x6=>qcJ F rec8 x2 x6))) else ((idx x1 x2).bind fun x7=>((idx x1 (isub .i64 x2 1)).bind fun x8=>((app 8796093022208 x0 ([iconv .u64 (isub .i64 (isub .i64 x7 x8) 1)]:qAE)).bind fun x9=>qcJ F rec8 x2 x9)))) else qga F x0)
def jK (F:Nat)(x1:qAE)(x4:Int):Nat→(qAE×Int)→Option (qAE)
  | 0=>fun _=>none
  | k+1=>fun s=>qer F x1 x4 (jK F x1 x4 k) s.1 s.2
def qfo (F:Nat)(x1:qAE)(x4:Int):Option (qAE) :=
  jK F x1 x4 F (([]:qAE),0)
def qcX (_F:Nat)(x30:Bool):Option Int :=
  (if x30 then some 3 else some 0)
def qaU (F:Nat)(x3:Int)(x27:Bool):Option Int :=
  (if x27 then qcX F true else ((zC F x3 1 16).bind fun x32=>qcX F (!x32)))
def qcY (F:Nat)(x3:Int)(x35:Bool):Option Int :=
  qaU F x3 x35
def qca (F:Nat)(x1:Int)(x2:Int)(x3:Int):Option Int :=
  ((zC F x1 0 7).bind fun x21=>(if (!x21) then qaU F x3 true else (if ((x2:Int) != 0) then ((zC F x2 2 300).bind fun x36=>qcY F x3 (!x36)) else qcY F x3 false)))
def qge (_F:Nat)(x31:qAE):Option (qAE) :=
  some x31
def qez (F:Nat)(rec3:(Int×qAE)→Option (qAE))(x40:Int)(x43:qAE):Option (qAE) :=
  (if (decide (0<x40)) then ((app 8796093022208 ([iconv .i64 (irem x40 2)]:qAE) x43).bind fun x55=>rec3 (iquo .u64 x40 2,x55)) else qge F x43)
def qba (F:Nat):Nat→(Int×qAE)→Option (qAE)
  | 0=>fun _=>none
  | k+1=>fun s=>qez F (qba F k) s.1 s.2
def qgF (F:Nat)(x1:Int):Option (qAE) :=
  qba F F (x1,([]:qAE))
def qd5 (_F:Nat)(x2:qAE)(x48:qAE):Option (qAE) :=
  ((app 8796093022208 x48 x2).bind fun x49=>some x49)
def qb9 (F:Nat)(x2:qAE)(rec3:(qAE×Int)→Option (qAE))(x66:qAE)(x67:Int):Option (qAE) :=
  (if (decide (x67<(x2.length:Int))) then ((app 8796093022208 x66 ([0]:qAE)).bind fun x89=>rec3 (x89,iadd .i64 x67 1)) else qd5 F x2 x66)
def vt (F:Nat)(x2:qAE):Nat→(qAE×Int)→Option (qAE)
  | 0=>fun _=>none
  | k+1=>fun s=>qb9 F x2 (vt F x2 k) s.1 s.2
def ko (F:Nat)(x1:Int):Option (qAE) :=
  ((qgF F (iadd .u64 x1 1)).bind fun x2=>vt F x2 F (([]:qAE),1))
def qgc (_F:Nat):Option Bool :=
  some false
def qes (F:Nat)(x1:qAE)(x4:Int)(rec3:Int→Option Bool)(x47:Int):Option Bool :=
  (if (decide (x47<(x1.length:Int))) then ((idx x1 x47).bind fun x64=>(if ((x64:Int) == x4) then some true else rec3 (iadd .i64 x47 1))) else qgc F)
def qa9 (F:Nat)(x1:qAE)(x4:Int):Nat→Int→Option Bool
  | 0=>fun _=>none
  | k+1=>fun s=>qes F x1 x4 (qa9 F x1 x4 k) s
def qbR (F:Nat)(x1:qAE)(x4:Int):Option Bool :=
  qa9 F x1 x4 F 0
def qcE (_F:Nat)(x0:qAE)(x1:qAE):Option (qAE×qAE) :=
  some (x0,x1)
def jT (_F:Nat)(rec22:(qAE×Int)→Option (qAE×qAE))(x0:Int)(x1:qAE):Option (qAE×qAE) :=
  rec22 (x1,iadd .i64 x0 1)
def jR (F:Nat)(x1:qAE)(x4:qAE)(x0:qAE)(rec22:(qAE×Int)→Option (qAE×qAE))(x2:qAE)(x3:Int):Option (qAE×qAE) :=
  (if (decide (x3<(x4.length:Int))) then ((idx x4 x3).bind fun x5=>((qbR F x1 x5).bind fun x6=>(if (!x6) then ((idx x4 x3).bind fun x7=>((app 8796093022208 x2 ([x7]:qAE)).bind fun x8=>jT F rec22 x3 x8)) else jT F rec22 x3 x2))) else qcE F x0 x2)
def ky (F:Nat)(x1:qAE)(x4:qAE)(x0:qAE):Nat→(qAE×Int)→Option (qAE×qAE)
  | 0=>fun _=>none
  | k+1=>fun s=>jR F x1 x4 x0 (ky F x1 x4 x0 k) s.1 s.2
def qcD (F:Nat)(x1:qAE)(x4:qAE)(x0:qAE):Option (qAE×qAE) :=
  ky F x1 x4 x0 F (([]:qAE),0)
def jU (_F:Nat)(rec33:(qAE×Int×Int)→Option (qAE×qAE))(x0:Int)(x1:qAE)(x2:Int):Option (qAE×qAE) :=
  rec33 (x1,x2,iadd .i64 x0 1)
def vh (F:Nat)(rec33:(qAE×Int×Int)→Option (qAE×qAE))(x1:qAE)(x4:qAE)(x0:qAE)(x2:Int)(x3:Int)(x5:Bool):Option (qAE×qAE) :=
  ((idx x1 x3).bind fun x6=>((qbR F x4 x6).bind fun x7=>(if (x7 != x5) then ((app 8796093022208 x0 ([isub .i64 x3 x2]:qAE)).bind fun x8=>jU F rec33 x3 x8 x3) else jU F rec33 x3 x0 x2)))
def jS (F:Nat)(x1:qAE)(x4:qAE)(rec33:(qAE×Int×Int)→Option (qAE×qAE))(x0:qAE)(x2:Int)(x3:Int):Option (qAE×qAE) :=
  (if (decide (x3<(x1.length:Int))) then (if (decide (0<x3)) then ((idx x1 (isub .i64 x3 1)).bind fun x5=>((qbR F x4 x5).bind fun x6=>vh F rec33 x1 x4 x0 x2 x3 x6)) else vh F rec33 x1 x4 x0 x2 x3 true) else qcD F x1 x4 x0)
def zI (F:Nat)(x1:qAE)(x4:qAE):Nat→(qAE×Int×Int)→Option (qAE×qAE)
  | 0=>fun _=>none
  | k+1=>fun s=>jS F x1 x4 (zI F x1 x4 k) s.1 s.2.1 s.2.2
def qc0 (F:Nat)(x1:qAE)(x4:qAE):Option (qAE×qAE) :=
  zI F x1 x4 F (([]:qAE),0,0)
def qdE (_F:Nat)(x0:List (Int×Int))(x1:qAE):Option (List (Int×Int)×qAE) :=
  some (x0,x1)
def jp (_F:Nat)(rec68:(List (Int×Int)×qAE×Int)→Option (List (Int×Int)×qAE))(x0:Int)(x1:List (Int×Int))(x2:qAE):Option (List (Int×Int)×qAE) :=
  rec68 (x1,x2,iadd .i64 x0 1)
def qbo (F:Nat)(rec68:(List (Int×Int)×qAE×Int)→Option (List (Int×Int)×qAE))(x1:qAE)(x4:Int)(x0:List (Int×Int))(x2:qAE)(x3:Int)(x5:Int)(x6:Int):Option (List (Int×Int)×qAE) :=
  (if (decide ((iadd .i64 (isub .i64 x6 x5) 1)<x4)) then ((idx x1 x3).bind fun x7=>((app 8796093022208 x2 ([x7]:qAE)).bind fun x8=>jp F rec68 x3 x0 x8)) else ((idx x1 x3).bind fun x9=>(if ((x5:Int) == x9) then ((app 4398046511104 x0 ([(x5,iadd .i64 (isub .i64 x6 x5) 1)]:List (Int×Int))).bind fun x10=>jp F rec68 x3 x10 x2) else jp F rec68 x3 x0 x2)))
def yM (F:Nat)(rec68:(List (Int×Int)×qAE×Int)→Option (List (Int×Int)×qAE))(x1:qAE)(x4:Int)(x0:List (Int×Int))(x2:qAE)(x3:Int)(x5:Int)(rec80:Int→Option (List (Int×Int)×qAE))(x6:Int):Option (List (Int×Int)×qAE) :=
  ((qbR F x1 (iadd .i64 x6 1)).bind fun x7=>(if x7 then rec80 (iadd .i64 x6 1) else qbo F rec68 x1 x4 x0 x2 x3 x5 x6))
def kV (F:Nat)(rec68:(List (Int×Int)×qAE×Int)→Option (List (Int×Int)×qAE))(x1:qAE)(x4:Int)(x0:List (Int×Int))(x2:qAE)(x3:Int)(x5:Int):Nat→Int→Option (List (Int×Int)×qAE)
  | 0=>fun _=>none
  | k+1=>fun s=>yM F rec68 x1 x4 x0 x2 x3 x5 (kV F rec68 x1 x4 x0 x2 x3 x5 k) s
def qbn (F:Nat)(rec68:(List (Int×Int)×qAE×Int)→Option (List (Int×Int)×qAE))(x1:qAE)(x4:Int)(x0:List (Int×Int))(x2:qAE)(x3:Int)(x5:Int)(x6:Int):Option (List (Int×Int)×qAE) :=
  kV F rec68 x1 x4 x0 x2 x3 x6 F x5
def yN (F:Nat)(rec68:(List (Int×Int)×qAE×Int)→Option (List (Int×Int)×qAE))(x1:qAE)(x4:Int)(x0:List (Int×Int))(x2:qAE)(x3:Int)(x5:Int)(rec81:Int→Option (List (Int×Int)×qAE))(x6:Int):Option (List (Int×Int)×qAE) :=
  ((qbR F x1 (isub .i64 x6 1)).bind fun x7=>(if x7 then rec81 (isub .i64 x6 1) else qbn F rec68 x1 x4 x0 x2 x3 x5 x6))
def kW (F:Nat)(rec68:(List (Int×Int)×qAE×Int)→Option (List (Int×Int)×qAE))(x1:qAE)(x4:Int)(x0:List (Int×Int))(x2:qAE)(x3:Int)(x5:Int):Nat→Int→Option (List (Int×Int)×qAE)
  | 0=>fun _=>none
  | k+1=>fun s=>yN F rec68 x1 x4 x0 x2 x3 x5 (kW F rec68 x1 x4 x0 x2 x3 x5 k) s
def yL (F:Nat)(x1:qAE)(x4:Int)(rec68:(List (Int×Int)×qAE×Int)→Option (List (Int×Int)×qAE))(x0:List (Int×Int))(x2:qAE)(x3:Int):Option (List (Int×Int)×qAE) :=
  (if (decide (x3<(x1.length:Int))) then ((idx x1 x3).bind fun x5=>((idx x1 x3).bind fun x6=>kW F rec68 x1 x4 x0 x2 x3 x6 F x5)) else qdE F x0 x2)
def qE (F:Nat)(x1:qAE)(x4:Int):Nat→(List (Int×Int)×qAE×Int)→Option (List (Int×Int)×qAE)
  | 0=>fun _=>none
  | k+1=>fun s=>yL F x1 x4 (qE F x1 x4 k) s.1 s.2.1 s.2.2
def qex (F:Nat)(x1:qAE)(x4:Int):Option (List (Int×Int)×qAE) :=
  qE F x1 x4 F (([]:List (Int×Int)),([]:qAE),0)
def qeZ (_F:Nat)(x2:Int)(x21:Int)(x22:Int):Option (Int×Int×Int) :=
  (chk (decide (0≤x2)) (some (x21,x22,ishl .u64 x22 x2)))
def qc6 (F:Nat)(x1:Int)(x2:Int)(rec3:(Int×Int)→Option (Int×Int×Int))(x34:Int)(x35:Int):Option (Int×Int×Int) :=
  (chk (decide (0≤x2)) ((if (decide ((ishl .u64 x35 x2)≤(iadd .u64 x1 1))) then (chk (decide (0≤x2)) (rec3 (iadd .u64 x34 1,ishl .u64 x35 x2))) else qeZ F x2 x34 x35)))
def je (F:Nat)(x1:Int)(x2:Int):Nat→(Int×Int)→Option (Int×Int×Int)
  | 0=>fun _=>none
  | k+1=>fun s=>qc6 F x1 x2 (je F x1 x2 k) s.1 s.2
def qgG (F:Nat)(x1:Int)(x2:Int):Option (Int×Int×Int) :=
  je F x1 x2 F (0,1)
def qea (_F:Nat)(x45:qAE):Option (qAE) :=
  ((app 8796093022208 x45 ([1]:qAE)).bind fun x48=>some x48)
def qcu (F:Nat)(x1:Int)(rec3:(qAE×Int)→Option (qAE))(x65:qAE)(x66:Int):Option (qAE) :=
  (if (decide (x66<x1)) then ((app 8796093022208 x65 ([0]:qAE)).bind fun x88=>rec3 (x88,iadd .u64 x66 1)) else qea F x65)
def vC (F:Nat)(x1:Int):Nat→(qAE×Int)→Option (qAE)
  | 0=>fun _=>none
  | k+1=>fun s=>qcu F x1 (vC F x1 k) s.1 s.2
def qey (F:Nat)(x1:Int):Option (qAE) :=
  vC F x1 F (([]:qAE),0)
def qfp (_F:Nat)(x52:qAE):Option (qAE) :=
  some x52
def j6 (F:Nat)(rec3:(Int×qAE×Int)→Option (qAE))(x67:Int)(x68:qAE)(x69:Int):Option (qAE) :=
  (if (decide (0≤x69)) then ((idx x68 x69).bind fun _x92=>(lett (x68.set x69.toNat (iconv .i64 (irem x67 2))) fun x95=>rec3 (iquo .u64 x67 2,x95,isub .i64 x69 1))) else qfp F x68)
def vJ (F:Nat):Nat→(Int×qAE×Int)→Option (qAE)
  | 0=>fun _=>none
  | k+1=>fun s=>j6 F (vJ F k) s.1 s.2.1 s.2.2
def qeP (F:Nat)(x1:Int)(x2:Int):Option (qAE) :=
  ((mk 17592186044416 (0:Int) x2).bind fun x3=>vJ F F (x1,x3,isub .i64 x2 1))
def qd6 (F:Nat)(x1:Int)(x2:Int)(x15:Int):Option (qAE) :=
  (chk (decide (0≤x15)) ((if (decide (x1<(isub .u64 (ishl .u64 1 x15) x2))) then ((qeP F x1 (isub .i64 x15 1)).bind fun x21=>some x21) else ((qeP F (iadd .u64 x1 (isub .u64 (ishl .u64 1 x15) x2)) x15).bind fun x24=>some x24))))
def qcb (F:Nat)(x1:Int)(x2:Int)(rec3:Int→Option (qAE))(x30:Int):Option (qAE) :=
  (chk (decide (0≤x30)) ((if (decide ((ishl .u64 1 x30)<x2)) then rec3 (iadd .i64 x30 1) else qd6 F x1 x2 x30)))
def vu (F:Nat)(x1:Int)(x2:Int):Nat→Int→Option (qAE)
  | 0=>fun _=>none
  | k+1=>fun s=>qcb F x1 x2 (vu F x1 x2 k) s
def qet (F:Nat)(x1:Int)(x2:Int):Option (qAE) :=
  vu F x1 x2 F 0
def qe7 (F:Nat)(x1:Int)(x2:Int):Option (qAE) :=
  ((qgG F x1 x2).bind fun x3=>((qey F x3.1).bind fun x4=>((qet F (isub .u64 (iadd .u64 x1 1) x3.2.1) (isub .u64 x3.2.2 x3.2.1)).bind fun x7=>((app 8796093022208 x4 x7).bind fun x10=>some x10))))
def qeb (_F:Nat)(x72:qAE):Option (qAE) :=
  some x72
def qcw (F:Nat)(x1:qAE)(x4:Int)(rec3:(qAE×Int)→Option (qAE))(x95:qAE)(x96:Int):Option (qAE) :=
  (if (decide (x96<(x1.length:Int))) then ((idx x1 x96).bind fun x0=>((qe7 F x0 x4).bind fun x2=>((app 8796093022208 x95 x2).bind fun x3=>rec3 (x3,iadd .i64 x96 1)))) else qeb F x95)
def yz (F:Nat)(x1:qAE)(x4:Int):Nat→(qAE×Int)→Option (qAE)
  | 0=>fun _=>none
  | k+1=>fun s=>qcw F x1 x4 (yz F x1 x4 k) s.1 s.2
def qgd (F:Nat)(x1:qAE)(x4:Int):Option (qAE) :=
  yz F x1 x4 F (([]:qAE),0)
def qab (F:Nat)(x1:Int)(x10:Int)(x0:qAE)(x2:qAE):Option (qAE) :=
  ((qfo F x2 x1).bind fun x3=>((qgd F x3 x10).bind fun x4=>((app 8796093022208 x0 x4).bind fun x5=>some x5)))
def qac (F:Nat)(rec21:(qAE×Int)→Option (qAE))(x9:Int)(x0:(List (Int×Int)×qAE))(x1:Int)(x2:qAE):Option (qAE) :=
  ((idx x0.1 x1).bind fun x3=>((ko F (iconv .u64 (isub .i64 x3.2 x9))).bind fun x4=>((app 8796093022208 x2 x4).bind fun x5=>rec21 (x5,iadd .i64 x1 1))))
def qcr (F:Nat)(x1:Int)(x9:Int)(x10:Int)(x0:(List (Int×Int)×qAE))(rec21:(qAE×Int)→Option (qAE))(x2:qAE)(x3:Int):Option (qAE) :=
  (if (decide (x3<(x0.1.length:Int))) then (if ((x3:Int) == 0) then ((idx x0.1 0).bind fun x4=>((qfn F (isub .i64 x4.1 x1)).bind fun x5=>((ko F x5).bind fun x6=>((app 8796093022208 x2 x6).bind fun x7=>qac F rec21 x9 x0 x3 x7)))) else ((idx x0.1 x3).bind fun x8=>((idx x0.1 (isub .i64 x3 1)).bind fun x11=>((idx x0.1 (isub .i64 x3 1)).bind fun x12=>((ko F (iconv .u64 (isub .i64 (isub .i64 x8.1 (isub .i64 (iadd .i64 x11.1 x12.2) 1)) 2))).bind fun x13=>((app 8796093022208 x2 x13).bind fun x14=>qac F rec21 x9 x0 x3 x14)))))) else qab F x1 x10 x2 x0.2)
def ku (F:Nat)(x1:Int)(x9:Int)(x10:Int)(x0:(List (Int×Int)×qAE)):Nat→(qAE×Int)→Option (qAE)
  | 0=>fun _=>none
  | k+1=>fun s=>qcr F x1 x9 x10 x0 (ku F x1 x9 x10 x0 k) s.1 s.2
def ve (F:Nat)(x1:Int)(x9:Int)(x10:Int)(x0:qAE)(x2:qAE):Option (qAE) :=
  (if (((x2.length:Int):Int) == 0) then some x0 else (if (decide (0<x9)) then ((qex F x2 x9).bind fun x3=>((ko F (iconv .u64 (x3.1.length:Int))).bind fun x4=>((app 8796093022208 x0 x4).bind fun x5=>ku F x1 x9 x10 x3 F (x5,0)))) else qab F x1 x10 x0 x2))
def qad (F:Nat)(rec28:(qAE×Int)→Option (qAE))(x0:qAE)(x1:Int)(x2:Int):Option (qAE) :=
  ((ko F (iconv .u64 x2)).bind fun x3=>((app 8796093022208 x0 x3).bind fun x4=>rec28 (x4,iadd .i64 x1 1)))
def qcs (F:Nat)(x1:Int)(x9:Int)(x10:Int)(x0:(qAE×qAE))(rec28:(qAE×Int)→Option (qAE))(x2:qAE)(x3:Int):Option (qAE) :=
  (if (decide (x3<(x0.1.length:Int))) then ((idx x0.1 x3).bind fun x4=>(if (decide (0<x3)) then qad F rec28 x2 x3 (isub .i64 x4 1) else qad F rec28 x2 x3 x4)) else ve F x1 x9 x10 x2 x0.2)
def kv (F:Nat)(x1:Int)(x9:Int)(x10:Int)(x0:(qAE×qAE)):Nat→(qAE×Int)→Option (qAE)
  | 0=>fun _=>none
  | k+1=>fun s=>qcs F x1 x9 x10 x0 (kv F x1 x9 x10 x0 k) s.1 s.2
def qdF (F:Nat)(x1:Int)(x2:qAE)(x5:qAE)(x8:Int)(x9:Int)(x10:Int):Option (qAE) :=
  ((ko F (iconv .u64 (x2.length:Int))).bind fun x12=>(if (((x2.length:Int):Int) == 0) then some x12 else (if (decide (0<x8)) then ((qc0 F x5 x2).bind fun x0=>((ko F (iconv .u64 (x0.1.length:Int))).bind fun x3=>((app 8796093022208 x12 x3).bind fun x4=>kv F x1 x9 x10 x0 F (x4,0)))) else ve F x1 x9 x10 x12 x2)))
def qd8 (_F:Nat)(x0:Int)(x1:qAE):Option (Int×qAE) :=
  some (x0,x1)
def qcj (_F:Nat)(rec28:(Int×qAE×Int)→Option (Int×qAE))(x0:Int)(x1:Int)(x2:qAE):Option (Int×qAE) :=
  rec28 (x1,x2,iadd .i64 x0 1)
def j8 (F:Nat)(rec28:(Int×qAE×Int)→Option (Int×qAE))(x1:List (qAE))(x4:Int)(x6:Int)(x7:Int)(x0:Int)(x2:qAE)(x3:Int)(x5:qAE)(x8:qAE):Option (Int×qAE) :=
  ((idx x1 x4).bind fun x9=>((qdF F x4 x9 x8 x3 x6 x7).bind fun x10=>((app 8796093022208 x5 x10).bind fun x11=>(if ((decide (x0<0)) || (decide ((x11.length:Int)<(x2.length:Int)))) then qcj F rec28 x3 x3 x11 else qcj F rec28 x3 x0 x2))))
def j7 (F:Nat)(rec28:(Int×qAE×Int)→Option (Int×qAE))(x1:List (qAE))(x4:Int)(x6:Int)(x7:Int)(x0:Int)(x2:qAE)(x3:Int)(x5:qAE):Option (Int×qAE) :=
  (if (decide (0<x3)) then ((idx x1 (isub .i64 x4 x3)).bind fun x8=>j8 F rec28 x1 x4 x6 x7 x0 x2 x3 x5 x8) else j8 F rec28 x1 x4 x6 x7 x0 x2 x3 x5 ([]:qAE))
def qci (F:Nat)(x1:List (qAE))(x4:Int)(x5:Int)(x6:Int)(x7:Int)(rec28:(Int×qAE×Int)→Option (Int×qAE))(x0:Int)(x2:qAE)(x3:Int):Option (Int×qAE) :=
  (if ((decide (x3≤x5)) && (decide (x3≤x4))) then (if (decide (0<x5)) then ((ko F (iconv .u64 x3)).bind fun x8=>j7 F rec28 x1 x4 x6 x7 x0 x2 x3 x8) else j7 F rec28 x1 x4 x6 x7 x0 x2 x3 ([]:qAE)) else qd8 F x0 x2)
def zL (F:Nat)(x1:List (qAE))(x4:Int)(x5:Int)(x6:Int)(x7:Int):Nat→(Int×qAE×Int)→Option (Int×qAE)
  | 0=>fun _=>none
  | k+1=>fun s=>qci F x1 x4 x5 x6 x7 (zL F x1 x4 x5 x6 x7 k) s.1 s.2.1 s.2.2
def qgD (F:Nat)(x1:List (qAE))(x4:Int)(x5:Int)(x6:Int)(x7:Int):Option (Int×qAE) :=
  zL F x1 x4 x5 x6 x7 F (-1,([]:qAE),0)
def qd9 (_F:Nat)(x0:qAE)(x1:qAE)(x2:qAE):Option (qAE×qAE×qAE×Int) :=
  (if (decide (8192<(x0.length:Int))) then some (([]:qAE),([]:qAE),([]:qAE),8) else some (x0,x1,x2,0))
def qcm (F:Nat)(x1:List (qAE))(x4:Int)(x5:Int)(x6:Int)(rec4:(qAE×qAE×qAE×Int)→Option (qAE×qAE×qAE×Int))(x0:qAE)(x2:qAE)(x3:qAE)(x7:Int):Option (qAE×qAE×qAE×Int) :=
  (if (decide (x7<(x1.length:Int))) then ((qgD F x1 x7 x4 x5 x6).bind fun x8=>((app 8796093022208 x2 ([x8.1]:qAE)).bind fun x9=>((app 8796093022208 x3 ([(x0.length:Int)]:qAE)).bind fun x10=>((app 8796093022208 x0 x8.2).bind fun x11=>rec4 (x11,x9,x10,iadd .i64 x7 1))))) else qd9 F x0 x2 x3)
def yx (F:Nat)(x1:List (qAE))(x4:Int)(x5:Int)(x6:Int):Nat→(qAE×qAE×qAE×Int)→Option (qAE×qAE×qAE×Int)
  | 0=>fun _=>none
  | k+1=>fun s=>qcm F x1 x4 x5 x6 (yx F x1 x4 x5 x6 k) s.1 s.2.1 s.2.2.1 s.2.2.2
def qcn (F:Nat)(x1:List (qAE))(x4:Int)(x5:Int)(x6:Int)(x12:Int):Option (qAE×qAE×qAE×Int) :=
  (if ((x12:Int) != 0) then some (([]:qAE),([]:qAE),([]:qAE),x12) else yx F x1 x4 x5 x6 F (([]:qAE),([]:qAE),([]:qAE),0))
def qcK (F:Nat)(x1:List (qAE))(x4:Int)(x5:Int)(x6:Int):Option (qAE×qAE×qAE×Int) :=
  ((qbQ F x1).bind fun x9=>(if ((x9:Int) == 0) then ((qca F x4 x5 x6).bind fun x0=>qcn F x1 x4 x5 x6 x0) else qcn F x1 x4 x5 x6 x9))
def qgo (_F:Nat)(x1:qAE)(x0:qAE):Option (Int×qAE) :=
  some ((x1.length:Int),x0)
def qdz (_F:Nat)(rec98:(Int×qAE)→Option (Int×qAE))(x0:Int)(x1:qAE):Option (Int×qAE) :=
  rec98 (iadd .i64 x0 8,x1)
def qbm (F:Nat)(rec98:(Int×qAE)→Option (Int×qAE))(x0:Int)(x1:qAE)(x2:Int):Option (Int×qAE) :=
  ((app 70368744177664 x1 ([iconv .u8 x2]:qAE)).bind fun x3=>qdz F rec98 x0 x3)
def jo (_F:Nat)(rec116:(Int×Int)→Option (Int×qAE))(x0:Int)(x1:Int):Option (Int×qAE) :=
  rec116 (x1,iadd .i64 x0 1)
def qbl (F:Nat)(rec98:(Int×qAE)→Option (Int×qAE))(x1:qAE)(x0:Int)(x2:qAE)(rec116:(Int×Int)→Option (Int×qAE))(x3:Int)(x4:Int):Option (Int×qAE) :=
  (if (decide (x4<8)) then (if (decide ((iadd .i64 x0 x4)<(x1.length:Int))) then ((idx x1 (iadd .i64 x0 x4)).bind fun x5=>jo F rec116 x4 (iadd .i64 (imul .i64 2 x3) x5)) else jo F rec116 x4 (imul .i64 2 x3)) else qbm F rec98 x0 x2 x3)
def kU (F:Nat)(rec98:(Int×qAE)→Option (Int×qAE))(x1:qAE)(x0:Int)(x2:qAE):Nat→(Int×Int)→Option (Int×qAE)
  | 0=>fun _=>none
  | k+1=>fun s=>qbl F rec98 x1 x0 x2 (kU F rec98 x1 x0 x2 k) s.1 s.2
def qch (F:Nat)(x1:qAE)(rec98:(Int×qAE)→Option (Int×qAE))(x0:Int)(x2:qAE):Option (Int×qAE) :=
  (if (decide (x0<(x1.length:Int))) then kU F rec98 x1 x0 x2 F (0,0) else qgo F x1 x2)
def zj (F:Nat)(x1:qAE):Nat→(Int×qAE)→Option (Int×qAE)
  | 0=>fun _=>none
  | k+1=>fun s=>qch F x1 (zj F x1 k) s.1 s.2
def qe6 (F:Nat)(x1:qAE):Option (Int×qAE) :=
  zj F x1 F (0,([]:qAE))
def vx (_F:Nat)(x0:qAE):Option (qAE×Int) :=
  (if (decide (4096<(x0.length:Int))) then some (([]:qAE),2) else some (x0,0))
def qcg (_F:Nat)(rec20:(qAE×Int)→Option (qAE×Int))(x0:Int)(x1:qAE):Option (qAE×Int) :=
  rec20 (x1,iadd .i64 x0 1)
def qcf (F:Nat)(rec20:(qAE×Int)→Option (qAE×Int))(x0:Int)(x1:qAE)(rec23:(qAE×Int)→Option (qAE×Int))(x2:qAE)(x3:Int):Option (qAE×Int) :=
  (if (decide (x3<(x1.length:Int))) then ((idx x1 x3).bind fun x4=>((zp F x4).bind fun x5=>((app 70368744177664 x2 x5).bind fun x6=>rec23 (x6,iadd .i64 x3 1)))) else qcg F rec20 x0 x2)
def vy (F:Nat)(rec20:(qAE×Int)→Option (qAE×Int))(x0:Int)(x1:qAE):Nat→(qAE×Int)→Option (qAE×Int)
  | 0=>fun _=>none
  | k+1=>fun s=>qcf F rec20 x0 x1 (vy F rec20 x0 x1 k) s.1 s.2
def qce (F:Nat)(x1:List (qAE))(rec20:(qAE×Int)→Option (qAE×Int))(x0:qAE)(x2:Int):Option (qAE×Int) :=
  (if (decide (x2<(x1.length:Int))) then ((idx x1 x2).bind fun x3=>((zp F (iconv .u64 (x3.length:Int))).bind fun x4=>((app 70368744177664 x0 x4).bind fun x5=>((idx x1 x2).bind fun x6=>((qfo F x6 x2).bind fun x7=>vy F rec20 x2 x7 F (x5,0)))))) else vx F x0)
def zK (F:Nat)(x1:List (qAE)):Nat→(qAE×Int)→Option (qAE×Int)
  | 0=>fun _=>none
  | k+1=>fun s=>qce F x1 (zK F x1 k) s.1 s.2
def v8 (F:Nat)(x1:List (qAE))(x4:Int)(x5:Int)(x6:Int)(x7:Int)(x16:Int):Option (qAE×Int) :=
  (if ((x16:Int) != 0) then some (([]:qAE),x16) else ((zp F (iconv .u64 (x1.length:Int))).bind fun x20=>((app 70368744177664 ([76,87,iconv .u8 x4]:qAE) x20).bind fun x23=>(if ((x4:Int) == 1) then zK F x1 F (x23,0) else ((qcK F x1 x5 x6 x7).bind fun x0=>(if ((x0.2.2.2:Int) != 0) then some (([]:qAE),x0.2.2.2) else ((zp F (iconv .u64 x5)).bind fun x2=>((app 70368744177664 x23 x2).bind fun x3=>((zp F (iconv .u64 x6)).bind fun x8=>((app 70368744177664 x3 x8).bind fun x9=>((zp F (iconv .u64 x7)).bind fun x10=>((app 70368744177664 x9 x10).bind fun x11=>((zp F (iconv .u64 (x0.1.length:Int))).bind fun x12=>((app 70368744177664 x11 x12).bind fun x13=>((qe6 F x0.1).bind fun x14=>((app 70368744177664 x13 x14.2).bind fun x15=>vx F x15))))))))))))))))
def j5 (F:Nat)(x1:List (qAE))(x4:Int)(x5:Int)(x6:Int)(x7:Int)(x10:Int)(x0:Bool):Option (qAE×Int) :=
  (if x0 then v8 F x1 x4 x5 x6 x7 3 else v8 F x1 x4 x5 x6 x7 x10)
def qdy (F:Nat)(x1:List (qAE))(x4:Int)(x5:Int)(x6:Int)(x7:Int):Option (qAE×Int) :=
  ((qbQ F x1).bind fun x10=>(if ((x10:Int) == 0) then ((zC F x4 1 2).bind fun x0=>j5 F x1 x4 x5 x6 x7 x10 (!x0)) else j5 F x1 x4 x5 x6 x7 x10 false))
def qgp (_F:Nat):Option Bool :=
  some true
def qcp (F:Nat)(x1:qAE)(x4:qAE)(rec3:Int→Option Bool)(x0:Int):Option Bool :=
  (if (decide (x0<(x1.length:Int))) then ((idx x1 x0).bind fun x2=>((idx x4 x0).bind fun x3=>(if ((x2:Int) != x3) then some false else rec3 (iadd .i64 x0 1)))) else qgp F)
def vA (F:Nat)(x1:qAE)(x4:qAE):Nat→Int→Option Bool
  | 0=>fun _=>none
  | k+1=>fun s=>qcp F x1 x4 (vA F x1 x4 k) s
def vp (F:Nat)(x1:qAE)(x4:qAE):Option Bool :=
  (if (((x1.length:Int):Int) != (x4.length:Int)) then some false else vA F x1 x4 F 0)
def qfQ (_F:Nat):Option (Int×Int×Int) :=
  some (0,0,7)
def qbp (F:Nat)(x1:qAE)(x4:Int)(rec3:(Int×Int×Int)→Option (Int×Int×Int))(x0:Int)(x2:Int)(x3:Int):Option (Int×Int×Int) :=
  (if (decide (x3<(x1.length:Int))) then ((idx x1 x3).bind fun x5=>(if ((((isub .i64 x3 x4):Int) == 9) && (decide (1<(iconv .u64 x5)))) then some (0,0,3) else (if ((decide (x4<x3)) && (((iconv .u64 x5):Int) == 0)) then some (0,0,1) else (lett (iadd .u64 x0 (imul .u64 (irem (iconv .u64 x5) 128) x2)) fun x6=>(if (decide ((iconv .u64 x5)<128)) then some (x6,iadd .i64 x3 1,0) else rec3 (x6,imul .u64 x2 128,iadd .i64 x3 1)))))) else qfQ F)
def yO (F:Nat)(x1:qAE)(x4:Int):Nat→(Int×Int×Int)→Option (Int×Int×Int)
  | 0=>fun _=>none
  | k+1=>fun s=>qbp F x1 x4 (yO F x1 x4 k) s.1 s.2.1 s.2.2
def qdG (F:Nat)(x1:qAE)(x4:Int):Option (Int×Int×Int) :=
  yO F x1 x4 F (0,1,x4)
def qgZ (_F:Nat):Option Bool :=
  some true
def jb (F:Nat)(x1:qAE)(x4:qAE)(rec3:Int→Option Bool)(x0:Int):Option Bool :=
  (if (decide (x0<(x1.length:Int))) then ((idx x1 x0).bind fun x2=>((idx x4 x0).bind fun x3=>(if ((x2:Int) != x3) then some false else rec3 (iadd .i64 x0 1)))) else qgZ F)
def yk (F:Nat)(x1:qAE)(x4:qAE):Nat→Int→Option Bool
  | 0=>fun _=>none
  | k+1=>fun s=>jb F x1 x4 (yk F x1 x4 k) s
def jq (F:Nat)(x1:qAE)(x4:qAE):Option Bool :=
  (if (((x1.length:Int):Int) != (x4.length:Int)) then some false else yk F x1 x4 F 0)
def qgY (_F:Nat)(x0:qAE):Option (qAE) :=
  some x0
def qeV (_F:Nat)(rec38:(qAE×Int)→Option (qAE))(x0:Int)(x1:qAE):Option (qAE) :=
  rec38 (x1,iadd .i64 x0 1)
def qcU (F:Nat)(rec38:(qAE×Int)→Option (qAE))(x0:qAE)(x1:Int)(x2:Int):Option (qAE) :=
  ((app 8796093022208 x0 ([irem x2 2]:qAE)).bind fun x3=>qeV F rec38 x1 x3)
def qcT (F:Nat)(rec38:(qAE×Int)→Option (qAE))(x0:qAE)(x1:Int)(rec45:(Int×Int)→Option (qAE))(x2:Int)(x3:Int):Option (qAE) :=
  (if (decide (x3<(isub .i64 7 (irem x1 8)))) then rec45 (iquo .i64 x2 2,iadd .i64 x3 1) else qcU F rec38 x0 x1 x2)
def vZ (F:Nat)(rec38:(qAE×Int)→Option (qAE))(x0:qAE)(x1:Int):Nat→(Int×Int)→Option (qAE)
  | 0=>fun _=>none
  | k+1=>fun s=>qcT F rec38 x0 x1 (vZ F rec38 x0 x1 k) s.1 s.2
def qcS (F:Nat)(x1:Int)(x2:qAE)(rec38:(qAE×Int)→Option (qAE))(x0:qAE)(x3:Int):Option (qAE) :=
  (if (decide (x3<x1)) then ((idx x2 (iquo .i64 x3 8)).bind fun x4=>vZ F rec38 x0 x3 F (iconv .i64 x4,0)) else qgY F x0)
def zS (F:Nat)(x1:Int)(x2:qAE):Nat→(qAE×Int)→Option (qAE)
  | 0=>fun _=>none
  | k+1=>fun s=>qcS F x1 x2 (zS F x1 x2 k) s.1 s.2
def qas (F:Nat)(x1:Int)(x2:qAE):Option (qAE) :=
  zS F x1 x2 F (([]:qAE),0)
def qgm (_F:Nat):Option Int :=
  some 0
def qb8 (F:Nat)(x12:qAE)(rec4:Int→Option Int)(x57:Int):Option Int :=
  (if (decide (x57<(x12.length:Int))) then ((idx x12 x57).bind fun x74=>(if ((x74:Int) != 0) then some 1 else rec4 (iadd .i64 x57 1))) else qgm F)
def vr (F:Nat)(x12:qAE):Nat→Int→Option Int
  | 0=>fun _=>none
  | k+1=>fun s=>qb8 F x12 (vr F x12 k) s
def j3 (F:Nat)(x1:Int)(x2:qAE)(x10:Int):Option Int :=
  (if (((x2.length:Int):Int) != x10) then some 1 else ((qas F (imul .i64 8 x10) x2).bind fun x12=>vr F x12 F x1))
def qcI (F:Nat)(x1:Int)(x2:qAE):Option Int :=
  ((zC F x1 0 8192).bind fun x8=>(if (!x8) then some 3 else (if (decide (0<(irem x1 8))) then j3 F x1 x2 (iadd .i64 (iquo .i64 x1 8) 1) else j3 F x1 x2 (iquo .i64 x1 8))))
def qco (_F:Nat)(x16:Int):Option Int :=
  some x16
def qev (F:Nat)(x1:Int)(x2:Int)(x3:Int)(x4:Int)(x5:Int)(x6:qAE):Option Int :=
  ((zC F x1 0 100).bind fun x12=>(if (!x12) then some 3 else ((qca F x2 x3 x4).bind fun x13=>(if ((x13:Int) == 0) then ((qcI F x5 x6).bind fun x17=>qco F x17) else qco F x13))))
def qgr (_F:Nat):Option (Int×Int) :=
  some (0,-1)
def qcv (F:Nat)(x1:qAE)(rec3:(Int×Int)→Option (Int×Int))(x80:Int)(x81:Int):Option (Int×Int) :=
  (if (decide (x81<(x1.length:Int))) then ((idx x1 x81).bind fun x0=>(if ((x0:Int) == 1) then some (x80,iadd .i64 x81 1) else rec3 (iadd .u64 x80 1,iadd .i64 x81 1))) else qgr F)
def vD (F:Nat)(x1:qAE):Nat→(Int×Int)→Option (Int×Int)
  | 0=>fun _=>none
  | k+1=>fun s=>qcv F x1 (vD F x1 k) s.1 s.2
def qcM (F:Nat)(x1:qAE)(x4:Int):Option (Int×Int) :=
  vD F x1 F (0,x4)
def qhW (_F:Nat)(x37:Int):Option Int :=
  some x37
def qeq (F:Nat)(x1:qAE)(rec3:(Int×Int)→Option Int)(x48:Int)(x49:Int):Option Int :=
  (if (decide (x49<(x1.length:Int))) then ((idx x1 x49).bind fun x66=>(lett (iadd .u64 (imul .u64 2 x48) (iconv .u64 x66)) fun x69=>rec3 (x69,iadd .i64 x49 1))) else qhW F x48)
def qa8 (F:Nat)(x1:qAE):Nat→(Int×Int)→Option Int
  | 0=>fun _=>none
  | k+1=>fun s=>qeq F x1 (qa8 F x1 k) s.1 s.2
def qgB (F:Nat)(x1:qAE):Option Int :=
  qa8 F x1 F (0,0)
def qe9 (F:Nat)(x1:qAE)(x4:Int)(x5:Int):Option (Int×Int×Int) :=
  (if (decide (63<x5)) then some (0,0,3) else (if (decide ((x1.length:Int)<(iadd .i64 x4 (iconv .i64 x5)))) then some (0,0,7) else ((sub x1 x4 (iadd .i64 x4 (iconv .i64 x5))).bind fun x10=>((app 8796093022208 ([1]:qAE) x10).bind fun x13=>((qgB F x13).bind fun x16=>(if (decide (1099511627776<(isub .u64 x16 1))) then some (0,0,3) else some (isub .u64 x16 1,iadd .i64 x4 (iconv .i64 x5),0)))))))
def kG (F:Nat)(x1:qAE)(x4:Int):Option (Int×Int×Int) :=
  ((qcM F x1 x4).bind fun x5=>(if (decide (x5.2<0)) then some (0,0,7) else ((qe9 F x1 x5.2 x5.1).bind fun x7=>some (x7.1,x7.2.1,x7.2.2))))
def qdC (_F:Nat)(x13:Int):Option Int :=
  some x13
def qdD (F:Nat)(x7:Int)(x16:Bool):Option Int :=
  (if x16 then qdC F 3 else qdC F x7)
def qfO (F:Nat)(x1:Int)(x2:qAE)(x5:Int):Option Int :=
  ((qcI F x1 x2).bind fun x7=>(if ((x7:Int) == 0) then ((zC F x5 0 x1).bind fun x18=>qdD F x7 (!x18)) else qdD F x7 false))
def qfq (_F:Nat):Option Int :=
  some 0
def vi (_F:Nat)(rec13:Int→Option Int)(x0:Int)(x1:Bool):Option Int :=
  (if x1 then some 4 else rec13 (iadd .i64 x0 1))
def jV (F:Nat)(x1:qAE)(rec13:Int→Option Int)(x0:Int):Option Int :=
  (if (decide (x0<(x1.length:Int))) then ((idx x1 x0).bind fun x2=>((zC F x2 0 1048576).bind fun x3=>(if (!x3) then some 3 else (if (decide (0<x0)) then ((idx x1 x0).bind fun x4=>((idx x1 (isub .i64 x0 1)).bind fun x5=>vi F rec13 x0 (decide (x4≤x5)))) else vi F rec13 x0 false)))) else qfq F)
def zV (F:Nat)(x1:qAE):Nat→Int→Option Int
  | 0=>fun _=>none
  | k+1=>fun s=>jV F x1 (zV F x1 k) s
def ja (F:Nat)(x1:qAE):Option Int :=
  (if (decide (300<(x1.length:Int))) then some 2 else zV F x1 F 0)
def qfP (F:Nat)(x1:Int)(x2:qAE)(x5:Int)(_x6:Int)(_x7:Int):Option Int :=
  ((zC F x1 0 1048576).bind fun x11=>(if (!x11) then some 3 else (if (decide (0<x5)) then ((ja F x2).bind fun x14=>some x14) else some 0)))
def j4 (F:Nat)(x10:Int):Option Int :=
  ((zC F x10 0 1048576).bind fun x13=>(if (!x13) then some (-1) else some x10))
def qbP (F:Nat)(x1:Int)(x2:Int)(x3:Bool):Option Int :=
  (if (decide (4194304<x1)) then some (-1) else (lett (iadd .i64 (iadd .i64 x2 (iconv .i64 x1)) 1) fun x5=>(if x3 then (lett (iadd .i64 x2 (iquo .i64 (iconv .i64 x1) 2)) fun x15=>(if (((irem x1 2):Int) == 1) then (lett (isub .i64 (isub .i64 x2 (iquo .i64 (iconv .i64 x1) 2)) 1) fun x16=>j4 F x16) else j4 F x15)) else j4 F x5)))
def qdl (_F:Nat)(x0:qAE):Option (qAE×Int) :=
  some (x0,0)
def qaB (_F:Nat)(rec181:(qAE×Int)→Option (qAE×Int))(x0:Int)(x1:qAE):Option (qAE×Int) :=
  rec181 (x1,iadd .i64 x0 1)
def qaC (F:Nat)(rec181:(qAE×Int)→Option (qAE×Int))(x1:qAE)(x0:qAE)(x2:Int)(x3:Int):Option (qAE×Int) :=
  (if (((irem x3 2):Int) == 0) then ((idx x1 x2).bind fun x4=>((app 8796093022208 x0 ([x4]:qAE)).bind fun x5=>qaB F rec181 x2 x5)) else qaB F rec181 x2 x0)
def vK (F:Nat)(rec181:(qAE×Int)→Option (qAE×Int))(rec210:(Int×Int)→Option (qAE×Int))(x1:qAE)(x4:qAE)(x0:qAE)(x2:Int)(x3:Int)(x5:Int)(x6:Bool):Option (qAE×Int) :=
  (if x6 then ((idx x4 x3).bind fun x7=>rec210 (iadd .i64 x3 1,iadd .i64 x5 x7)) else qaC F rec181 x1 x0 x2 x3)
def qaz (F:Nat)(rec181:(qAE×Int)→Option (qAE×Int))(x1:qAE)(x4:qAE)(x0:qAE)(x2:Int)(rec210:(Int×Int)→Option (qAE×Int))(x3:Int)(x5:Int):Option (qAE×Int) :=
  (if (decide (x3<(x4.length:Int))) then ((idx x4 x3).bind fun x6=>vK F rec181 rec210 x1 x4 x0 x2 x3 x5 (decide ((iadd .i64 x5 x6)≤x2))) else vK F rec181 rec210 x1 x4 x0 x2 x3 x5 false)
def kN (F:Nat)(rec181:(qAE×Int)→Option (qAE×Int))(x1:qAE)(x4:qAE)(x0:qAE)(x2:Int):Nat→(Int×Int)→Option (qAE×Int)
  | 0=>fun _=>none
  | k+1=>fun s=>qaz F rec181 x1 x4 x0 x2 (kN F rec181 x1 x4 x0 x2 k) s.1 s.2
def qay (F:Nat)(x1:qAE)(x4:qAE)(rec181:(qAE×Int)→Option (qAE×Int))(x0:qAE)(x2:Int):Option (qAE×Int) :=
  (if (decide (x2<(x1.length:Int))) then kN F rec181 x1 x4 x0 x2 F (0,0) else qdl F x0)
def qP (F:Nat)(x1:qAE)(x4:qAE):Nat→(qAE×Int)→Option (qAE×Int)
  | 0=>fun _=>none
  | k+1=>fun s=>qay F x1 x4 (qP F x1 x4 k) s.1 s.2
def qdB (F:Nat)(x1:qAE)(x4:qAE)(x0:Int):Option (qAE×Int) :=
  (if (decide ((x1.length:Int)<x0)) then some (([]:qAE),8) else qP F x1 x4 F (([]:qAE),0))
def qaD (_F:Nat)(rec227:(Int×Int)→Option (qAE×Int))(x0:Int)(x1:Int):Option (qAE×Int) :=
  rec227 (x1,iadd .i64 x0 1)
def qaF (F:Nat)(rec227:(Int×Int)→Option (qAE×Int))(x4:qAE)(x0:Int)(x1:Int):Option (qAE×Int) :=
  (if (decide (x1<1000)) then ((idx x4 x0).bind fun x2=>qaD F rec227 x0 (iadd .i64 x1 x2)) else qaD F rec227 x0 x1)
def qaE (F:Nat)(rec227:(Int×Int)→Option (qAE×Int))(x1:qAE)(x4:qAE)(x0:Int)(x2:Int)(x3:Bool):Option (qAE×Int) :=
  (if x3 then some (([]:qAE),3) else ((idx x4 x2).bind fun x5=>(if (decide ((x1.length:Int)<x5)) then qaF F rec227 x4 x2 1000 else qaF F rec227 x4 x2 x0)))
def qaA (F:Nat)(x1:qAE)(x4:qAE)(rec227:(Int×Int)→Option (qAE×Int))(x0:Int)(x2:Int):Option (qAE×Int) :=
  (if (decide (x2<(x4.length:Int))) then ((idx x4 x2).bind fun x3=>(if (decide (x3<0)) then qaE F rec227 x1 x4 x0 x2 true else ((idx x4 x2).bind fun x5=>qaE F rec227 x1 x4 x0 x2 (((x5:Int) == 0) && (decide (0<x2)))))) else qdB F x1 x4 x0)
def zQ (F:Nat)(x1:qAE)(x4:qAE):Nat→(Int×Int)→Option (qAE×Int)
  | 0=>fun _=>none
  | k+1=>fun s=>qaA F x1 x4 (zQ F x1 x4 k) s.1 s.2
def qew (F:Nat)(x1:qAE)(x4:qAE):Option (qAE×Int) :=
  ((ja F x1).bind fun x7=>(if ((x7:Int) != 0) then some (([]:qAE),x7) else (if (decide ((iadd .i64 (x1.length:Int) 1)<(x4.length:Int))) then some (([]:qAE),2) else zQ F x1 x4 F (0,0))))
def qgn (_F:Nat):Option (Int×Int) :=
  some (0,-1)
def qcc (F:Nat)(x1:qAE)(x4:Int)(x5:Int)(x18:Int)(rec5:(Int×Int)→Option (Int×Int))(x0:Int)(x2:Int):Option (Int×Int) :=
  (if (decide (x2≤x18)) then (if (((x2:Int) == (isub .i64 x18 1)) && (decide (x0<(isub .u64 (ishl .u64 1 x18) x5)))) then some (x0,iadd .i64 x4 x2) else (if ((x2:Int) == x18) then (lett (isub .u64 x0 (isub .u64 (ishl .u64 1 x18) x5)) fun x3=>some (x3,iadd .i64 x4 x2)) else (if (decide ((x1.length:Int)≤(iadd .i64 x4 x2))) then some (0,-1) else ((idx x1 (iadd .i64 x4 x2)).bind fun x6=>(lett (iadd .u64 (imul .u64 2 x0) (iconv .u64 x6)) fun x7=>rec5 (x7,iadd .i64 x2 1)))))) else qgn F)
def vv (F:Nat)(x1:qAE)(x4:Int)(x5:Int)(x18:Int):Nat→(Int×Int)→Option (Int×Int)
  | 0=>fun _=>none
  | k+1=>fun s=>qcc F x1 x4 x5 x18 (vv F x1 x4 x5 x18 k) s.1 s.2
def qd7 (F:Nat)(x1:qAE)(x4:Int)(x5:Int)(x18:Int):Option (Int×Int) :=
  (chk (decide (0≤x18)) (vv F x1 x4 x5 x18 F (0,0)))
def qcd (F:Nat)(x1:qAE)(x4:Int)(x5:Int)(rec6:Int→Option (Int×Int))(x0:Int):Option (Int×Int) :=
  (chk (decide (0≤x0)) ((if (decide ((ishl .u64 1 x0)<x5)) then rec6 (iadd .i64 x0 1) else qd7 F x1 x4 x5 x0)))
def vw (F:Nat)(x1:qAE)(x4:Int)(x5:Int):Nat→Int→Option (Int×Int)
  | 0=>fun _=>none
  | k+1=>fun s=>qcd F x1 x4 x5 (vw F x1 x4 x5 k) s
def qeu (F:Nat)(x1:qAE)(x4:Int)(x5:Int):Option (Int×Int) :=
  vw F x1 x4 x5 F 0
def qeY (F:Nat)(x1:qAE)(x5:Int)(x6:(Int×Int))(x26:Int):Option (Int×Int×Int) :=
  (chk (decide (0≤x5)) (((qeu F x1 x6.2 (isub .u64 (ishl .u64 x26 x5) x26)).bind fun x28=>(if (decide (x28.2<0)) then some (0,0,7) else (if (decide (1099511627776<(isub .u64 (iadd .u64 x26 x28.1) 1))) then some (0,0,3) else some (isub .u64 (iadd .u64 x26 x28.1) 1,x28.2,0))))))
def qc5 (F:Nat)(x1:qAE)(x5:Int)(x6:(Int×Int))(rec3:(Int×Int)→Option (Int×Int×Int))(x37:Int)(x38:Int):Option (Int×Int×Int) :=
  (if (decide (x38<x6.1)) then (chk (decide (0≤x5)) (rec3 (ishl .u64 x37 x5,iadd .u64 x38 1))) else qeY F x1 x5 x6 x37)
def jd (F:Nat)(x1:qAE)(x5:Int)(x6:(Int×Int)):Nat→(Int×Int)→Option (Int×Int×Int)
  | 0=>fun _=>none
  | k+1=>fun s=>qc5 F x1 x5 x6 (jd F x1 x5 x6 k) s.1 s.2
def qe8 (F:Nat)(x1:qAE)(x4:Int)(x5:Int):Option (Int×Int×Int) :=
  ((qcM F x1 x4).bind fun x6=>(if (decide (x6.2<0)) then some (0,0,7) else (if ((decide (41≤x6.1)) || (decide (41≤(imul .i64 (iconv .i64 x6.1) x5)))) then some (0,0,3) else jd F x1 x5 x6 F (1,0))))
def qeX (_F:Nat)(x56:Int)(x59:qAE):Option (qAE×Int×Int) :=
  some (x59,x56,0)
def qcW (F:Nat)(x1:qAE)(x6:Int)(x7:Int)(rec3:(Int×Int×qAE)→Option (qAE×Int×Int))(x75:Int)(x76:Int)(x79:qAE):Option (qAE×Int×Int) :=
  (if (decide ((x79.length:Int)<x7)) then ((qe8 F x1 x75 x6).bind fun x95=>(if ((x95.2.2:Int) != 0) then some (([]:qAE),0,x95.2.2) else ((qbP F x95.1 x76 (((x79.length:Int):Int) == 0)).bind fun x97=>(if (decide (x97<0)) then some (([]:qAE),0,3) else ((app 8796093022208 x79 ([x97]:qAE)).bind fun x0=>rec3 (x95.2.1,x97,x0)))))) else qeX F x75 x79)
def v7 (F:Nat)(x1:qAE)(x6:Int)(x7:Int):Nat→(Int×Int×qAE)→Option (qAE×Int×Int)
  | 0=>fun _=>none
  | k+1=>fun s=>qcW F x1 x6 x7 (v7 F x1 x6 x7 k) s.1 s.2.1 s.2.2
def qgC (F:Nat)(x1:qAE)(x4:Int)(x5:Int)(x6:Int)(x7:Int):Option (qAE×Int×Int) :=
  v7 F x1 x6 x7 F (x4,x5,([]:qAE))
def qfr (_F:Nat)(x0:qAE):Option (qAE) :=
  some x0
def qaV (_F:Nat)(rec158:(qAE×Int)→Option (qAE))(x0:Int)(x1:qAE):Option (qAE) :=
  rec158 (x1,iadd .i64 x0 1)
def qc3 (F:Nat)(rec158:(qAE×Int)→Option (qAE))(x1:qAE)(x0:qAE)(x2:Int)(x3:Int):Option (qAE) :=
  ((sub x0 0 x3).bind fun x4=>((idx x1 x2).bind fun x5=>((sub x0 x3 (x0.length:Int)).bind fun x6=>((app 8796093022208 ([]:qAE) x4).bind fun x7=>((app 8796093022208 x7 ([x5]:qAE)).bind fun x8=>((app 8796093022208 x8 x6).bind fun x9=>qaV F rec158 x2 x9))))))
def qc4 (F:Nat)(rec158:(qAE×Int)→Option (qAE))(rec187:Int→Option (qAE))(x1:qAE)(x0:qAE)(x2:Int)(x3:Int)(x4:Bool):Option (qAE) :=
  (if x4 then rec187 (isub .i64 x3 1) else qc3 F rec158 x1 x0 x2 x3)
def qc2 (F:Nat)(rec158:(qAE×Int)→Option (qAE))(x1:qAE)(x0:qAE)(x2:Int)(rec187:Int→Option (qAE))(x3:Int):Option (qAE) :=
  (if (decide (0<x3)) then ((idx x0 (isub .i64 x3 1)).bind fun x4=>((idx x1 x2).bind fun x5=>qc4 F rec158 rec187 x1 x0 x2 x3 (decide (x5<x4)))) else qc4 F rec158 rec187 x1 x0 x2 x3 false)
def vd (F:Nat)(rec158:(qAE×Int)→Option (qAE))(x1:qAE)(x0:qAE)(x2:Int):Nat→Int→Option (qAE)
  | 0=>fun _=>none
  | k+1=>fun s=>qc2 F rec158 x1 x0 x2 (vd F rec158 x1 x0 x2 k) s
def qc1 (F:Nat)(x1:qAE)(rec158:(qAE×Int)→Option (qAE))(x0:qAE)(x2:Int):Option (qAE) :=
  (if (decide (x2<(x1.length:Int))) then vd F rec158 x1 x0 x2 F (x0.length:Int) else qfr F x0)
def qY (F:Nat)(x1:qAE):Nat→(qAE×Int)→Option (qAE)
  | 0=>fun _=>none
  | k+1=>fun s=>qc1 F x1 (qY F x1 k) s.1 s.2
def qgE (F:Nat)(x1:qAE):Option (qAE) :=
  qY F x1 F (([]:qAE),0)
def jt (F:Nat)(x1:qAE)(x5:Int)(x11:Int)(x13:(Int×Int×Int))(x0:Int)(x2:qAE):Option (qAE×Bool) :=
  ((qgC F x1 x0 x5 x11 (isub .i64 (iconv .i64 x13.1) (x2.length:Int))).bind fun x3=>(if ((x3.2.2:Int) != 0) then some (([]:qAE),false) else ((app 8796093022208 x2 x3.1).bind fun x4=>((qgE F x4).bind fun x6=>some (x6,true)))))
def qdH (_F:Nat)(rec64:(Int×qAE×Int×Int)→Option (qAE×Bool))(x0:Int)(x1:Int)(x2:qAE)(x3:Int):Option (qAE×Bool) :=
  rec64 (x1,x2,x3,iadd .u64 x0 1)
def jv (F:Nat)(rec64:(Int×qAE×Int×Int)→Option (qAE×Bool))(x10:Int)(x13:(Int×Int×Int))(x0:Int)(x1:(Int×Int×Int))(x2:Int)(x3:qAE):Option (qAE×Bool) :=
  (lett (isub .i64 (iadd .i64 (iadd .i64 x2 (iconv .i64 x1.1)) x10) 1) fun x4=>(if (decide ((iconv .i64 x13.1)<(x3.length:Int))) then some (([]:qAE),false) else qdH F rec64 x0 x1.2.1 x3 x4))
def qbs (F:Nat)(rec64:(Int×qAE×Int×Int)→Option (qAE×Bool))(x10:Int)(x13:(Int×Int×Int))(x0:Int)(x1:(Int×Int×Int))(x2:Int)(rec73:(qAE×Int)→Option (qAE×Bool))(x3:qAE)(x4:Int):Option (qAE×Bool) :=
  (if (decide (x4<(iadd .i64 (iconv .i64 x1.1) x10))) then ((app 8796093022208 x3 ([iadd .i64 x2 x4]:qAE)).bind fun x5=>rec73 (x5,iadd .i64 x4 1)) else jv F rec64 x10 x13 x0 x1 x2 x3)
def kZ (F:Nat)(rec64:(Int×qAE×Int×Int)→Option (qAE×Bool))(x10:Int)(x13:(Int×Int×Int))(x0:Int)(x1:(Int×Int×Int))(x2:Int):Nat→(qAE×Int)→Option (qAE×Bool)
  | 0=>fun _=>none
  | k+1=>fun s=>qbs F rec64 x10 x13 x0 x1 x2 (kZ F rec64 x10 x13 x0 x1 x2 k) s.1 s.2
def ju (F:Nat)(rec64:(Int×qAE×Int×Int)→Option (qAE×Bool))(x10:Int)(x13:(Int×Int×Int))(x0:qAE)(x1:Int)(x2:(Int×Int×Int))(x3:Int):Option (qAE×Bool) :=
  (if ((decide (x3<0)) || (decide (1048576<x3))) then some (([]:qAE),false) else kZ F rec64 x10 x13 x1 x2 x3 F (x0,0))
def qbr (F:Nat)(x1:qAE)(x5:Int)(x10:Int)(x11:Int)(x13:(Int×Int×Int))(x0:(Int×Int×Int))(rec64:(Int×qAE×Int×Int)→Option (qAE×Bool))(x2:Int)(x3:qAE)(x4:Int)(x6:Int):Option (qAE×Bool) :=
  (if (decide (x6<x0.1)) then ((kG F x1 x2).bind fun x7=>(if (((x7.2.2:Int) != 0) || (decide (4194304<x7.1))) then some (([]:qAE),false) else ((kG F x1 x7.2.1).bind fun x8=>(if (((x8.2.2:Int) != 0) || (decide (1000<x8.1))) then some (([]:qAE),false) else (lett (iadd .i64 (iadd .i64 x4 (iconv .i64 x7.1)) 2) fun x9=>(if ((x6:Int) == 0) then ((qbP F x7.1 x5 true).bind fun x12=>ju F rec64 x10 x13 x3 x6 x8 x12) else ju F rec64 x10 x13 x3 x6 x8 x9)))))) else jt F x1 x5 x11 x13 x2 x3)
def qQ (F:Nat)(x1:qAE)(x5:Int)(x10:Int)(x11:Int)(x13:(Int×Int×Int))(x0:(Int×Int×Int)):Nat→(Int×qAE×Int×Int)→Option (qAE×Bool)
  | 0=>fun _=>none
  | k+1=>fun s=>qbr F x1 x5 x10 x11 x13 x0 (qQ F x1 x5 x10 x11 x13 x0 k) s.1 s.2.1 s.2.2.1 s.2.2.2
def js (F:Nat)(x1:qAE)(x5:Int)(x10:Int)(x11:Int)(x13:(Int×Int×Int))(x0:Int)(x2:qAE):Option (qAE×Bool) :=
  (if (((x2.length:Int):Int) == (iconv .i64 x13.1)) then some (x2,true) else (if (decide (0<x10)) then ((kG F x1 x0).bind fun x3=>(if (((x3.2.2:Int) != 0) || (decide (300<x3.1))) then some (([]:qAE),false) else qQ F x1 x5 x10 x11 x13 x3 F (x3.2.1,x2,x5,0))) else jt F x1 x5 x11 x13 x0 x2))
def jw (F:Nat)(x1:qAE)(x5:Int)(x6:qAE)(x10:Int)(x11:Int)(x13:(Int×Int×Int))(x0:Int)(x2:qAE):Option (qAE×Bool) :=
  ((qew F x6 x2).bind fun x3=>(if (((x3.2:Int) != 0) || (decide ((iconv .i64 x13.1)<(x3.1.length:Int)))) then some (([]:qAE),false) else js F x1 x5 x10 x11 x13 x0 x3.1))
def jx (_F:Nat)(rec86:(Int×qAE×Int)→Option (qAE×Bool))(x0:qAE)(x1:Int)(x2:(Int×Int×Int))(x3:Int):Option (qAE×Bool) :=
  ((app 8796093022208 x0 ([iconv .i64 x3]:qAE)).bind fun x4=>rec86 (x2.2.1,x4,iadd .u64 x1 1))
def qbt (F:Nat)(x1:qAE)(x5:Int)(x6:qAE)(x10:Int)(x11:Int)(x13:(Int×Int×Int))(x0:(Int×Int×Int))(rec86:(Int×qAE×Int)→Option (qAE×Bool))(x2:Int)(x3:qAE)(x4:Int):Option (qAE×Bool) :=
  (if (decide (x4<x0.1)) then ((kG F x1 x2).bind fun x7=>(if (((x7.2.2:Int) != 0) || (decide (1000<x7.1))) then some (([]:qAE),false) else (if (decide (0<x4)) then jx F rec86 x3 x4 x7 (iadd .u64 x7.1 1) else jx F rec86 x3 x4 x7 x7.1))) else jw F x1 x5 x6 x10 x11 x13 x2 x3)
def kB (F:Nat)(x1:qAE)(x5:Int)(x6:qAE)(x10:Int)(x11:Int)(x13:(Int×Int×Int))(x0:(Int×Int×Int)):Nat→(Int×qAE×Int)→Option (qAE×Bool)
  | 0=>fun _=>none
  | k+1=>fun s=>qbt F x1 x5 x6 x10 x11 x13 x0 (kB F x1 x5 x6 x10 x11 x13 x0 k) s.1 s.2.1 s.2.2
def qeA (F:Nat)(x1:qAE)(x4:Int)(x5:Int)(x6:qAE)(x9:Int)(x10:Int)(x11:Int):Option (qAE×Bool) :=
  ((kG F x1 x4).bind fun x13=>(if (((x13.2.2:Int) != 0) || (decide (300<x13.1))) then some (([]:qAE),false) else (if ((x13.1:Int) == 0) then some (([]:qAE),true) else (if (decide (0<x9)) then ((kG F x1 x13.2.1).bind fun x0=>(if (((x0.2.2:Int) != 0) || (decide ((iconv .u64 (iadd .i64 (x6.length:Int) 1))<x0.1))) then some (([]:qAE),false) else kB F x1 x5 x6 x10 x11 x13 x0 F (x0.2.1,([]:qAE),0))) else js F x1 x5 x10 x11 x13 x13.2.1 ([]:qAE)))))
def qaY (_F:Nat)(x5:Int)(x26:(qAE×Bool))(x37:qAE)(x56:Bool):Option (qAE×Int×Int) :=
  (if x56 then some (([]:qAE),0,1) else some (x26.1,iadd .i64 x5 (x37.length:Int),0))
def jc (F:Nat)(x5:Int)(x6:Int)(x7:qAE)(x10:Int)(x11:Int)(x12:Int)(x23:qAE)(x26:(qAE×Bool))(x36:Bool):Option (qAE×Int×Int) :=
  (if x36 then some (([]:qAE),0,1) else ((qdF F x6 x26.1 x7 x10 x11 x12).bind fun x37=>(if (decide ((isub .i64 (x23.length:Int) x5)<(x37.length:Int))) then qaY F x5 x26 x37 true else ((sub x23 x5 (iadd .i64 x5 (x37.length:Int))).bind fun x58=>((jq F x58 x37).bind fun x61=>qaY F x5 x26 x37 (!x61))))))
def qaX (F:Nat)(x1:Int)(x2:qAE)(x5:Int)(x6:Int)(x7:qAE)(x10:Int)(x11:Int)(x12:Int)(x21:Int):Option (qAE×Int×Int) :=
  (if ((x21:Int) != 0) then some (([]:qAE),0,x21) else ((qas F x1 x2).bind fun x23=>((qeA F x23 x5 x6 x7 x10 x11 x12).bind fun x26=>(if (!x26.2) then jc F x5 x6 x7 x10 x11 x12 x23 x26 true else ((ja F x26.1).bind fun x63=>jc F x5 x6 x7 x10 x11 x12 x23 x26 ((x63:Int) != 0))))))
def qaW (F:Nat)(x1:Int)(x2:qAE)(x5:Int)(x6:Int)(x7:qAE)(x10:Int)(x11:Int)(x12:Int)(x18:Int):Option (qAE×Int×Int) :=
  (if ((x18:Int) == 0) then ((qfP F x6 x7 x10 x11 x12).bind fun x65=>qaX F x1 x2 x5 x6 x7 x10 x11 x12 x65) else qaX F x1 x2 x5 x6 x7 x10 x11 x12 x18)
def qct (F:Nat)(x1:Int)(x2:qAE)(x5:Int)(x6:Int)(x7:qAE)(x10:Int)(x11:Int)(x12:Int):Option (qAE×Int×Int) :=
  ((qca F x10 x11 x12).bind fun x15=>(if ((x15:Int) == 0) then ((qfO F x1 x2 x5).bind fun x67=>qaW F x1 x2 x5 x6 x7 x10 x11 x12 x67) else qaW F x1 x2 x5 x6 x7 x10 x11 x12 x15))
def qcl (_F:Nat)(x0:List (qAE))(x1:Bool):Option (List (qAE)×Int) :=
  (if x1 then some (([]:List (qAE)),1) else some (x0,0))
def vz (F:Nat)(x2:Int)(x3:Int)(x4:Int)(x13:qAE)(x0:List (qAE)):Option (List (qAE)×Int) :=
  ((qcK F x0 x2 x3 x4).bind fun x1=>(if ((x1.2.2.2:Int) != 0) then qcl F x0 true else ((jq F x1.1 x13).bind fun x5=>qcl F x0 (!x5))))
def j9 (_F:Nat)(rec22:(Int×Int×List (qAE))→Option (List (qAE)×Int))(x0:Int)(x1:Int)(x2:List (qAE)):Option (List (qAE)×Int) :=
  rec22 (x1,iadd .i64 x0 1,x2)
def qaa (F:Nat)(rec22:(Int×Int×List (qAE))→Option (List (qAE)×Int))(x3:Int)(x4:Int)(x5:Int)(x6:qAE)(x0:Int)(x1:List (qAE))(x2:Int)(x7:Int):Option (List (qAE)×Int) :=
  (if (decide (0<x7)) then ((idx x1 (isub .i64 x0 (iconv .i64 x7))).bind fun x8=>((qct F x5 x6 x2 x0 x8 (iconv .i64 x7) x3 x4).bind fun x9=>(if ((x9.2.2:Int) != 0) then some (([]:List (qAE)),1) else ((app 2199023255552 x1 ([x9.1]:List (qAE))).bind fun x10=>j9 F rec22 x0 x9.2.1 x10)))) else ((qct F x5 x6 x2 x0 ([]:qAE) (iconv .i64 x7) x3 x4).bind fun x11=>(if ((x11.2.2:Int) != 0) then some (([]:List (qAE)),1) else ((app 2199023255552 x1 ([x11.1]:List (qAE))).bind fun x12=>j9 F rec22 x0 x11.2.1 x12))))
def qck (F:Nat)(x1:Int)(x2:Int)(x3:Int)(x4:Int)(x5:Int)(x6:qAE)(x13:qAE)(rec22:(Int×Int×List (qAE))→Option (List (qAE)×Int))(x0:Int)(x7:Int)(x8:List (qAE)):Option (List (qAE)×Int) :=
  (if (decide (x7<x1)) then (if (decide (0<x2)) then ((kG F x13 x0).bind fun x9=>(if ((((x9.2.2:Int) != 0) || (decide ((iconv .u64 x2)<x9.1))) || (decide (x7<(iconv .i64 x9.1)))) then some (([]:List (qAE)),1) else qaa F rec22 x3 x4 x5 x6 x7 x8 x9.2.1 x9.1)) else qaa F rec22 x3 x4 x5 x6 x7 x8 x0 0) else vz F x2 x3 x4 x13 x8)
def zM (F:Nat)(x1:Int)(x2:Int)(x3:Int)(x4:Int)(x5:Int)(x6:qAE)(x13:qAE):Nat→(Int×Int×List (qAE))→Option (List (qAE)×Int)
  | 0=>fun _=>none
  | k+1=>fun s=>qck F x1 x2 x3 x4 x5 x6 x13 (zM F x1 x2 x3 x4 x5 x6 x13 k) s.1 s.2.1 s.2.2
def qdA (F:Nat)(x1:Int)(x2:Int)(x3:Int)(x4:Int)(x5:Int)(x6:qAE):Option (List (qAE)×Int) :=
  ((qev F x1 x2 x3 x4 x5 x6).bind fun x11=>(if ((x11:Int) != 0) then some (([]:List (qAE)),x11) else ((qas F x5 x6).bind fun x13=>zM F x1 x2 x3 x4 x5 x6 x13 F (0,0,([]:List (qAE))))))
def qeW (_F:Nat)(x90:qAE):Option (qAE×Int) :=
  some (x90,0)
def qcV (F:Nat)(x1:qAE)(rec3:(Int×qAE×Int)→Option (qAE×Int))(x0:Int)(x2:qAE)(x3:Int):Option (qAE×Int) :=
  (if (decide (x3<(x1.length:Int))) then ((idx x1 x3).bind fun x4=>((qbP F x4 x0 ((x3:Int) == 0)).bind fun x5=>(if (decide (x5<0)) then some (([]:qAE),3) else ((app 8796093022208 x2 ([x5]:qAE)).bind fun x6=>rec3 (x5,x6,iadd .i64 x3 1))))) else qeW F x2)
def v6 (F:Nat)(x1:qAE):Nat→(Int×qAE×Int)→Option (qAE×Int)
  | 0=>fun _=>none
  | k+1=>fun s=>qcV F x1 (v6 F x1 k) s.1 s.2.1 s.2.2
def qe4 (F:Nat)(x1:qAE)(x4:Int):Option (qAE×Int) :=
  (if (decide (300<(x1.length:Int))) then some (([]:qAE),2) else ((zC F x4 0 1048576).bind fun x8=>(if (!x8) then some (([]:qAE),3) else v6 F x1 F (x4,([]:qAE),0))))
def jr (_F:Nat)(x0:qAE)(x1:Int)(x2:Int)(x3:Int)(x4:Int)(x5:List (qAE)):Option (List (qAE)×Int×Int×Int×Int×Bool) :=
  ((idx x0 4).bind fun x6=>some (x5,iconv .i64 x1,iconv .i64 x2,iconv .i64 x3,iconv .i64 x6,((x4:Int) == 0)))
def yS (F:Nat)(x1:qAE)(x0:qAE)(x2:Int)(x3:Int)(x4:Bool):Option (List (qAE)×Int×Int×Int×Int×Bool) :=
  (if x4 then some (([]:List (qAE)),0,0,0,0,false) else ((idx x0 1).bind fun x5=>((idx x0 2).bind fun x6=>((idx x0 3).bind fun x7=>((idx x0 4).bind fun x8=>((sub x1 x2 (x1.length:Int)).bind fun x9=>((qdA F (iconv .i64 x3) (iconv .i64 x5) (iconv .i64 x6) (iconv .i64 x7) (iconv .i64 x8) x9).bind fun x10=>jr F x0 x5 x6 x7 x10.2 x10.1)))))))
def yR (F:Nat)(x1:qAE)(x0:qAE)(x2:Int)(x3:Int)(x4:Bool):Option (List (qAE)×Int×Int×Int×Int×Bool) :=
  (if x4 then yS F x1 x0 x2 x3 true else ((idx x0 4).bind fun x5=>yS F x1 x0 x2 x3 (decide (8192<x5))))
def yQ (F:Nat)(x1:qAE)(x0:qAE)(x2:Int)(x3:Int)(x4:Bool):Option (List (qAE)×Int×Int×Int×Int×Bool) :=
  (if x4 then yR F x1 x0 x2 x3 true else ((idx x0 3).bind fun x5=>yR F x1 x0 x2 x3 (decide (16<x5))))
def yP (F:Nat)(x1:qAE)(x0:qAE)(x2:Int)(x3:Int)(x4:Bool):Option (List (qAE)×Int×Int×Int×Int×Bool) :=
  (if x4 then yQ F x1 x0 x2 x3 true else ((idx x0 2).bind fun x5=>yQ F x1 x0 x2 x3 (decide (300<x5))))
def qbq (_F:Nat)(x0:qAE)(x1:List (qAE)):Option (List (qAE)×Int×Int×Int×Int×Bool) :=
  some (x1,0,0,0,(x0.length:Int),true)
def yT (F:Nat)(rec71:(Int×Int×List (qAE))→Option (List (qAE)×Int×Int×Int×Int×Bool))(x0:qAE)(x1:Int)(x2:Int)(x3:List (qAE))(x4:Bool):Option (List (qAE)×Int×Int×Int×Int×Bool) :=
  (if x4 then some (x3,0,0,0,0,false) else ((idx x0 x1).bind fun x5=>((sub x0 (iadd .i64 x1 1) (iadd .i64 (iadd .i64 x1 1) (iconv .i64 x5))).bind fun x6=>((qe4 F x6 x2).bind fun x7=>(if ((x7.2:Int) != 0) then some (x3,0,0,0,0,false) else ((app 2199023255552 x3 ([x7.1]:List (qAE))).bind fun x8=>((idx x0 x1).bind fun x9=>(lett (iadd .i64 x1 (iadd .i64 1 (iconv .i64 x9))) fun x10=>rec71 (x10,iadd .i64 x2 1,x8)))))))))
def kY (F:Nat)(rec71:(Int×Int×List (qAE))→Option (List (qAE)×Int×Int×Int×Int×Bool))(x0:qAE)(x1:Int)(x2:Int)(x3:List (qAE))(x4:Bool):Option (List (qAE)×Int×Int×Int×Int×Bool) :=
  (if x4 then yT F rec71 x0 x1 x2 x3 true else ((idx x0 x1).bind fun x5=>yT F rec71 x0 x1 x2 x3 (decide ((x0.length:Int)≤(iadd .i64 x1 (iconv .i64 x5))))))
def kz (F:Nat)(x0:qAE)(x1:Int)(rec71:(Int×Int×List (qAE))→Option (List (qAE)×Int×Int×Int×Int×Bool))(x2:Int)(x3:Int)(x4:List (qAE)):Option (List (qAE)×Int×Int×Int×Int×Bool) :=
  (if (decide (x3<(iconv .i64 x1))) then (if (decide ((x0.length:Int)≤x2)) then kY F rec71 x0 x2 x3 x4 true else ((idx x0 x2).bind fun x5=>kY F rec71 x0 x2 x3 x4 (decide (100<x5)))) else qbq F x0 x4)
def zl (F:Nat)(x0:qAE)(x1:Int):Nat→(Int×Int×List (qAE))→Option (List (qAE)×Int×Int×Int×Int×Bool)
  | 0=>fun _=>none
  | k+1=>fun s=>kz F x0 x1 (zl F x0 x1 k) s.1 s.2.1 s.2.2
def kX (F:Nat)(x1:qAE)(x0:qAE)(x2:Int)(x3:Bool):Option (List (qAE)×Int×Int×Int×Int×Bool) :=
  (if x3 then some (([]:List (qAE)),0,0,0,0,false) else ((idx x0 0).bind fun x4=>((idx x1 2).bind fun x5=>(if ((x5:Int) == 2) then (if (decide ((x0.length:Int)<5)) then yP F x1 x0 x2 x4 true else ((idx x0 1).bind fun x6=>yP F x1 x0 x2 x4 (decide (7<x6)))) else zl F x0 x4 F (1,0,([]:List (qAE)))))))
def yA (F:Nat)(x1:qAE)(x0:qAE)(x2:Int):Option (List (qAE)×Int×Int×Int×Int×Bool) :=
  (if (((x0.length:Int):Int) == 0) then kX F x1 x0 x2 true else ((idx x0 0).bind fun x3=>kX F x1 x0 x2 (decide (100<x3))))
def yU (F:Nat)(rec84:(qAE×Int)→Option (List (qAE)×Int×Int×Int×Int×Bool))(x1:qAE)(x0:qAE)(x2:Int)(x3:Bool):Option (List (qAE)×Int×Int×Int×Int×Bool) :=
  (if x3 then ((qdG F x1 x2).bind fun x4=>(if ((x4.2.2:Int) != 0) then some (([]:List (qAE)),0,0,0,0,false) else ((app 8796093022208 x0 ([x4.1]:qAE)).bind fun x5=>rec84 (x5,x4.2.1)))) else yA F x1 x0 x2)
def kA (F:Nat)(x1:qAE)(rec84:(qAE×Int)→Option (List (qAE)×Int×Int×Int×Int×Bool))(x0:qAE)(x2:Int):Option (List (qAE)×Int×Int×Int×Int×Bool) :=
  (if (decide (x2<(x1.length:Int))) then ((idx x1 2).bind fun x3=>yU F rec84 x1 x0 x2 (((x3:Int) == 1) || (decide ((x0.length:Int)<5)))) else yU F rec84 x1 x0 x2 false)
def zv (F:Nat)(x1:qAE):Nat→(qAE×Int)→Option (List (qAE)×Int×Int×Int×Int×Bool)
  | 0=>fun _=>none
  | k+1=>fun s=>kA F x1 (zv F x1 k) s.1 s.2
def qbb (F:Nat)(x1:qAE):Option (List (qAE)×Int×Int×Int×Int×Bool) :=
  (if (decide ((x1.length:Int)<3)) then some (([]:List (qAE)),0,0,0,0,false) else zv F x1 F (([]:qAE),3))
def qdx (_F:Nat)(x0:List (Int×Int)):Option (List (Int×Int)) :=
  some x0
def qbk (_F:Nat)(rec18:(List (Int×Int)×Int)→Option (List (Int×Int)))(x0:Int)(x1:List (Int×Int)):Option (List (Int×Int)) :=
  rec18 (x1,iadd .i64 x0 1)
def qbj (F:Nat)(rec18:(List (Int×Int)×Int)→Option (List (Int×Int)))(x1:List (qAE))(x0:Int)(rec21:(List (Int×Int)×Int)→Option (List (Int×Int)))(x2:List (Int×Int))(x3:Int):Option (List (Int×Int)) :=
  ((idx x1 x0).bind fun x4=>(if (decide (x3<(x4.length:Int))) then ((idx x1 x0).bind fun x5=>((idx x5 x3).bind fun x6=>((app 4398046511104 x2 ([(x0,x6)]:List (Int×Int))).bind fun x7=>rec21 (x7,iadd .i64 x3 1)))) else qbk F rec18 x0 x2))
def yK (F:Nat)(rec18:(List (Int×Int)×Int)→Option (List (Int×Int)))(x1:List (qAE))(x0:Int):Nat→(List (Int×Int)×Int)→Option (List (Int×Int))
  | 0=>fun _=>none
  | k+1=>fun s=>qbj F rec18 x1 x0 (yK F rec18 x1 x0 k) s.1 s.2
def qbi (F:Nat)(x1:List (qAE))(rec18:(List (Int×Int)×Int)→Option (List (Int×Int)))(x0:List (Int×Int))(x2:Int):Option (List (Int×Int)) :=
  (if (decide (x2<(x1.length:Int))) then yK F rec18 x1 x2 F (x0,0) else qdx F x0)
def zu (F:Nat)(x1:List (qAE)):Nat→(List (Int×Int)×Int)→Option (List (Int×Int))
  | 0=>fun _=>none
  | k+1=>fun s=>qbi F x1 (zu F x1 k) s.1 s.2
def qgb (F:Nat)(x1:List (qAE)):Option (List (Int×Int)) :=
  zu F x1 F (([]:List (Int×Int)),0)
def qcZ (F:Nat)(x1:qAE)(x7:(List (qAE)×Int×Int×Int×Int×Bool))(x34:Bool):Option (List (qAE)×Int×Int×Int×Int×Int) :=
  (if x34 then some (([]:List (qAE)),0,0,0,0,1) else ((qgb F x7.1).bind fun x38=>some (x7.1,(x1.length:Int),(x7.1.length:Int),(x38.length:Int),x7.2.2.2.2.1,0)))
def qe5 (F:Nat)(x1:qAE):Option (List (qAE)×Int×Int×Int×Int×Int) :=
  (if (decide (4096<(x1.length:Int))) then some (([]:List (qAE)),0,0,0,0,2) else ((qbb F x1).bind fun x7=>(if (!x7.2.2.2.2.2) then some (([]:List (qAE)),0,0,0,0,1) else ((idx x1 2).bind fun x20=>((qdy F x7.1 (iconv .i64 x20) x7.2.1 x7.2.2.1 x7.2.2.2.1).bind fun x24=>(if ((x24.2:Int) != 0) then qcZ F x1 x7 true else ((vp F x1 x24.1).bind fun x42=>qcZ F x1 x7 (!x42))))))))
def qgq (_F:Nat):Option Bool :=
  some true
def qcq (F:Nat)(x1:List (qAE))(x4:List (qAE))(rec3:Int→Option Bool)(x0:Int):Option Bool :=
  (if (decide (x0<(x1.length:Int))) then ((idx x1 x0).bind fun x2=>((idx x4 x0).bind fun x3=>((jq F x2 x3).bind fun x5=>(if (!x5) then some false else rec3 (iadd .i64 x0 1))))) else qgq F)
def vB (F:Nat)(x1:List (qAE))(x4:List (qAE)):Nat→Int→Option Bool
  | 0=>fun _=>none
  | k+1=>fun s=>qcq F x1 x4 (vB F x1 x4 k) s
def qcL (F:Nat)(x1:List (qAE))(x4:List (qAE)):Option Bool :=
  (if (((x1.length:Int):Int) != (x4.length:Int)) then some false else vB F x1 x4 F 0)
def jL (F:Nat)(x1:List (qAE))(x4:List (qAE)):Option Bool :=
  ((qcL F x1 x4).bind fun x9=>some x9)
def qep (_F:Nat) :Option (List (qAE)) :=
  some ([([1,2,3,5]:qAE),([1,2,3,5]:qAE),([0,1,2,3,5]:qAE),([]:qAE),([4]:qAE),([1,2,3]:qAE)]:List (qAE))
def q6 (_F:Nat)(x59:Bool):Option Bool :=
  some x59
def qeo (F:Nat) :Option Bool :=
  ((qdv F ([([1]:qAE),([]:qAE)]:List (qAE)) 1 0 0 0).bind fun x6=>((qep F).bind fun x9=>((qdv F x9 2 2 3 1).bind fun x12=>((kC F x6.1 999 99 99 999).bind fun x15=>((kC F x12.1 999 99 99 999).bind fun x19=>((qav F x6.1).bind fun x23=>((kC F x6.1 999 99 99 3).bind fun x25=>((kC F ([76,87,1]:qAE) 999 99 99 999).bind fun x31=>((vp F x6.1 ([76,87,1,2,1,2,0]:qAE)).bind fun x62=>(if x62 then (if ((x6.2:Int) == 0) then (if ((x12.2:Int) == 0) then ((qcL F x15.1 ([([1]:qAE),([]:qAE)]:List (qAE))).bind fun x70=>(if x70 then (if ((x15.2.1:Int) == 4) then (if ((x15.2.2:Int) == 0) then ((qep F).bind fun x74=>((jL F x19.1 x74).bind fun x77=>(if x77 then (if (decide (9<x19.2.1)) then (if ((x19.2.2:Int) == 0) then (if (((x23.1:Int) == 7) && (((x23.2.1:Int) == 2) && (((x23.2.2.1:Int) == 1) && ((x23.2.2.2.1:Int) == 4)))) then (if ((x23.2.2.2.2:Int) == 0) then (if ((x25.2.2:Int) == 8) then q6 F ((x31.2.2:Int) == 1) else q6 F false) else q6 F false) else q6 F false) else q6 F false) else q6 F false) else q6 F false))) else q6 F false) else q6 F false) else q6 F false)) else q6 F false) else q6 F false) else q6 F false))))))))))
def qb7 (_F:Nat)(x21:(List (qAE)×Int×Int))(x25:(Int×Int×Int×Int×Int))(x30:(List (qAE)×Int×Int×Int×Int×Int))(x43:Int)(x46:Int)(x57:Bool):Option Bool :=
  some ((((x57 && ((x21.2.1:Int) == x46)) && ((x21.2.2:Int) == x43)) && (((x25.1:Int) == x30.2.1) && (((x25.2.1:Int) == x30.2.2.1) && (((x25.2.2.1:Int) == x30.2.2.2.1) && ((x25.2.2.2.1:Int) == x30.2.2.2.2.1))))) && ((x25.2.2.2.2:Int) == x30.2.2.2.2.2))
def qb6 (F:Nat)(x18:(qAE×Int))(x21:(List (qAE)×Int×Int))(x25:(Int×Int×Int×Int×Int))(x27:(qAE×Int))(x30:(List (qAE)×Int×Int×Int×Int×Int))(x43:Int)(x46:Int)(x49:List (qAE))(x53:Bool):Option Bool :=
  (if (x53 && ((x18.2:Int) == x27.2)) then ((jL F x21.1 x49).bind fun x62=>qb7 F x21 x25 x30 x43 x46 x62) else qb7 F x21 x25 x30 x43 x46 false)
def j2 (F:Nat)(x18:(qAE×Int))(x21:(List (qAE)×Int×Int))(x25:(Int×Int×Int×Int×Int))(x27:(qAE×Int))(x30:(List (qAE)×Int×Int×Int×Int×Int))(x43:Int)(x46:Int)(x49:List (qAE)):Option Bool :=
  ((qeo F).bind fun x50=>(if x50 then ((vp F x18.1 x27.1).bind fun x63=>qb6 F x18 x21 x25 x27 x30 x43 x46 x49 x63) else qb6 F x18 x21 x25 x27 x30 x43 x46 x49 false))
def kr (F:Nat)(x18:(qAE×Int))(x21:(List (qAE)×Int×Int))(x25:(Int×Int×Int×Int×Int))(x27:(qAE×Int))(x30:(List (qAE)×Int×Int×Int×Int×Int))(x43:Int):Option Bool :=
  (if ((x43:Int) != 0) then j2 F x18 x21 x25 x27 x30 x43 0 ([]:List (qAE)) else j2 F x18 x21 x25 x27 x30 x43 x30.2.2.2.2.1 x30.1)
def vq (F:Nat)(x18:(qAE×Int))(x21:(List (qAE)×Int×Int))(x25:(Int×Int×Int×Int×Int))(x27:(qAE×Int))(x30:(List (qAE)×Int×Int×Int×Int×Int))(x68:Bool):Option Bool :=
  (if x68 then kr F x18 x21 x25 x27 x30 8 else kr F x18 x21 x25 x27 x30 x30.2.2.2.2.2)
def qf9 (F:Nat)(x1:List (qAE))(x4:Int)(x5:Int)(x6:Int)(x7:Int)(x8:qAE)(x11:Int)(x12:Int)(x13:Int)(x14:Int):Option Bool :=
  ((qdv F x1 x4 x5 x6 x7).bind fun x18=>((kC F x8 x11 x12 x13 x14).bind fun x21=>((qav F x8).bind fun x25=>((qdy F x1 x4 x5 x6 x7).bind fun x27=>((qe5 F x8).bind fun x30=>(if (decide (x11<(x8.length:Int))) then kr F x18 x21 x25 x27 x30 8 else (if ((x30.2.2.2.2.2:Int) == 0) then vq F x18 x21 x25 x27 x30 (((decide (x12<x30.2.2.1)) || (decide (x13<x30.2.2.2.1))) || (decide (x14<x30.2.2.2.2.1))) else vq F x18 x21 x25 x27 x30 false)))))))
end Go.Proofs.YtlioijpkhffbnaaGreat
