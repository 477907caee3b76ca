/- What each Go function of this seat computes, in plain terms. -/
import Derived.Test.YtmoikolponkmpaaGreatSy
namespace Go.Proofs.YtmoikolponkmpaaGreat
open Go SX
abbrev qyo:=List Int
abbrev qyp:=Option Addr
abbrev qyq (x:Int):Value:=.int .i64 x
def qaW (_F:Nat)(x1:qyo):Option (qyo×qyo) :=
  (chk (decide (0≤(iadd .i64 (x1.length:Int) 1)∧(iadd .i64 (x1.length:Int) 1)≤(35184372088832:Int))) (((app 17592186044416 ([]:qyo) x1).bind fun x6=>((app 17592186044416 x6 ([77]:qyo)).bind fun x11=>((cutP x11 (x1.length:Int)).bind fun x14=>some (x14.1,x14.2))))))
def ju (_F:Nat)(x1:Int)(x40:(qyo×qyo)):Option (Int×(qyo×qyo)) :=
  some (x1,(x40.1,x40.2))
def yv (F:Nat)(x1:Int)(x2:qyo):Option (Int×(qyo×qyo)) :=
  (chk (decide (0≤(iadd .i64 (x2.length:Int) 1)∧(iadd .i64 (x2.length:Int) 1)≤(140737488355328:Int))) (((app 140737488355328 ([]:qyo) x2).bind fun x43=>((app 140737488355328 x43 ([77]:qyo)).bind fun x48=>((cutP x48 (x2.length:Int)).bind fun x51=>ju F x1 x51)))))
def jc (_F:Nat)(x1:Int):Option Bool :=
  some ((decide (0≤x1)) && (decide (x1≤1048576)))
def qe2 (_F:Nat):Option Int :=
  some 0
def qbv (F:Nat)(x1:qyo)(rec3:(Int×Int)→Option Int)(x88:Int)(x89:Int):Option Int :=
  (if (decide (x89<(x1.length:Int))) then ((idx x1 x89).bind fun x0=>((jc F x0).bind fun x2=>(if (!x2) then some 3 else (if (decide (x0≤x88)) then some 4 else rec3 (x0,iadd .i64 x89 1))))) else qe2 F)
def va (F:Nat)(x1:qyo):Nat→(Int×Int)→Option Int
  | 0=>fun _=>none
  | k+1=>fun s=>qbv F x1 (va F x1 k) s.1 s.2
def zV (F:Nat)(x1:qyo):Option Int :=
  (if (decide (300<(x1.length:Int))) then some 2 else va F x1 F (-1,0))
def qbl (_F:Nat)(x1:Int):Option Int :=
  (lett (ixor .u64 (ishl .u64 (iconv .u64 x1) 1) (iconv .u64 (ishr .i64 x1 63))) fun x2=>some x2)
def qaI (_F:Nat)(x4:Int)(x8:Int):Option (Int×Int×Bool) :=
  some (x8,x4,true)
def qaf (F:Nat)(x2:Int)(x3:Bool)(x4:Int):Option (Int×Int×Bool) :=
  (if x3 then (lett (iconv .u64 (isub .i64 (isub .i64 x4 x2) 1)) fun x9=>qaI F x4 x9) else ((qbl F (isub .i64 x4 x2)).bind fun x10=>qaI F x4 x10))
def qen (_F:Nat)(x75:qyo):Option (qyo) :=
  some x75
def qda (F:Nat)(x1:qyo)(rec3:(qyo×Int×Int×Bool)→Option (qyo))(x98:qyo)(x99:Int)(x0:Int)(x2:Bool):Option (qyo) :=
  (if (decide (x99<(x1.length:Int))) then ((idx x1 x99).bind fun x3=>((qaf F x0 x2 x3).bind fun x4=>((app 8796093022208 x98 ([x4.1]:qyo)).bind fun x5=>rec3 (x5,iadd .i64 x99 1,x4.2.1,x4.2.2)))) else qen F x98)
def jP (F:Nat)(x1:qyo):Nat→(qyo×Int×Int×Bool)→Option (qyo)
  | 0=>fun _=>none
  | k+1=>fun s=>qda F x1 (jP F x1 k) s.1 s.2.1 s.2.2.1 s.2.2.2
def qcH (F:Nat)(x1:qyo)(x4:Int):Option (qyo) :=
  jP F x1 F (([]:qyo),0,x4,false)
def qaF (F:Nat)(x1:qyo)(x4:Int)(x11:Int):Option (qyo×Int) :=
  (if ((x11:Int) != 0) then some (([]:qyo),x11) else ((qcH F x1 x4).bind fun x13=>some (x13,0)))
def qaG (F:Nat)(x1:qyo)(x4:Int)(x5:Int)(x19:Bool):Option (qyo×Int) :=
  (if x19 then qaF F x1 x4 3 else qaF F x1 x4 x5)
def qaE (F:Nat)(x1:qyo)(x4:Int):Option (qyo×Int) :=
  ((zV F x1).bind fun x5=>(if ((x5:Int) == 0) then ((jc F x4).bind fun x21=>qaG F x1 x4 x5 (!x21)) else qaG F x1 x4 x5 false))
def jI (_F:Nat)(x1:Int):Option Int :=
  (lett (ixor .i64 (iconv .i64 (ishr .u64 x1 1)) (isub .i64 0 (iconv .i64 (iand .u64 x1 1)))) fun x2=>some x2)
def kN (F:Nat)(x8:Int):Option (Bool×Int×Bool) :=
  ((jc F x8).bind fun x9=>some (x9,x8,true))
def zP (F:Nat)(x2:Int)(x3:Bool)(x4:Int):Option (Bool×Int×Bool) :=
  (if (decide (2097152<x4)) then some (false,x2,x3) else (if x3 then kN F (iadd .i64 x2 (iadd .i64 (iconv .i64 x4) 1)) else ((jI F x4).bind fun x10=>kN F (iadd .i64 x2 x10))))
def qdM (_F:Nat)(x97:qyo):Option (qyo×Int) :=
  some (x97,0)
def qb3 (F:Nat)(x1:qyo)(rec3:(qyo×Int×Int×Bool)→Option (qyo×Int))(x0:qyo)(x2:Int)(x3:Int)(x4:Bool):Option (qyo×Int) :=
  (if (decide (x2<(x1.length:Int))) then ((idx x1 x2).bind fun x5=>((zP F x3 x4 x5).bind fun x6=>(if (!x6.1) then some (([]:qyo),3) else ((app 8796093022208 x0 ([x6.2.1]:qyo)).bind fun x7=>rec3 (x7,iadd .i64 x2 1,x6.2.1,x6.2.2))))) else qdM F x0)
def vS (F:Nat)(x1:qyo):Nat→(qyo×Int×Int×Bool)→Option (qyo×Int)
  | 0=>fun _=>none
  | k+1=>fun s=>qb3 F x1 (vS F x1 k) s.1 s.2.1 s.2.2.1 s.2.2.2
def qbM (F:Nat)(x1:qyo)(x4:Int):Option (qyo×Int) :=
  (if (decide (300<(x1.length:Int))) then some (([]:qyo),2) else ((jc F x4).bind fun x8=>(if (!x8) then some (([]:qyo),3) else vS F x1 F (([]:qyo),0,x4,false))))
def qel (_F:Nat)(_x1:Int)(_x2:qyo)(_x5:Int)(_x6:Int):Option Unit :=
  some ()
def kZ (_F:Nat)(x2:Int)(x6:Int)(x15:qyo):Option (Int×qyo) :=
  ((idx x15 (iquo .i64 x2 8)).bind fun x30=>(chk (decide (0≤(irem x2 8))) (((idx x15 (iquo .i64 x2 8)).bind fun _x36=>(lett (x15.set (iquo .i64 x2 8).toNat (ior .u8 x30 (ishr .u8 (iconv .u8 (ishl .u64 x6 7)) (irem x2 8)))) fun x41=>some (iadd .i64 x2 1,x41))))))
def vo (F:Nat)(x2:Int)(x3:qyo)(x6:Int):Option (Int×qyo) :=
  (if (((irem x2 8):Int) == 0) then ((app 70368744177664 x3 ([0]:qyo)).bind fun x46=>kZ F x2 x6 x46) else kZ F x2 x6 x3)
def kX (_F:Nat)(x1:qyo):Option (qyo) :=
  ((app 70368744177664 ([]:qyo) x1).bind fun x8=>some x8)
def qdK (F:Nat)(x1:Int)(x2:qyo):Option (Int×qyo) :=
  ((kX F x2).bind fun x10=>some (x1,x10))
def vN (_F:Nat)(_x1:Int)(x2:qyo)(x5:Int):Option Int :=
  ((idx x2 (iquo .i64 x5 8)).bind fun x7=>(chk (decide (0≤(isub .i64 7 (irem x5 8)))) ((lett (iand .u64 (iconv .u64 (ishr .u8 x7 (isub .i64 7 (irem x5 8)))) 1) fun x11=>some x11))))
def ji {σ τ:Type}(F:Nat)(yy:σ→Int→Option (σ ⊕ τ))(x4:Int)(x6:Int)(x7:qyo)(rec1:(Int×σ)→Option (σ ⊕ τ))(x22:Int)(x23:σ):Option (σ ⊕ τ) :=
  (if (decide (x22<x4)) then ((vN F x6 x7 x22).bind fun x44=>((yy x23 x44).bind (Sum.elim (fun x45=>rec1 (iadd .i64 x22 1,x45)) (fun x46=>some (.inr x46))))) else some (.inl x23))
def zO {σ τ:Type}(F:Nat)(yy:σ→Int→Option (σ ⊕ τ))(x4:Int)(x6:Int)(x7:qyo):Nat→(Int×σ)→Option (σ ⊕ τ)
  | 0=>fun _=>none
  | k+1=>fun s=>ji F yy x4 x6 x7 (zO F yy x4 x6 x7 k) s.1 s.2
def qdt {σ τ:Type}(F:Nat)(yy:σ→Int→Option (σ ⊕ τ))(x2:Int)(x4:Int)(x6:Int)(x7:qyo)(s0:σ):Option (σ ⊕ τ) :=
  zO F yy x4 x6 x7 F (x2,s0)
def qaC (F:Nat)(x45:Int)(x48:qyo)(x53:Int):Option ((Int×qyo) ⊕ Empty) :=
  ((vo F x45 x48 x53).bind fun x54=>some (.inl (x54.1,x54.2)))
def jb (F:Nat)(x1:Int)(x2:qyo)(x5:Int)(x6:qyo):Option (Int×qyo) :=
  ((qdK F x1 x2).bind fun x12=>((qel F x5 x6 0 x5).bind fun _x37=>((qdt F (fun ((x45,x48):(Int×qyo)) (x53:Int)=>qaC F x45 x48 x53) 0 x5 x5 x6 (x12.1,x12.2)).bind (Sum.elim (fun ((x45,x48):(Int×qyo))=>some (x45,x48)) (fun t=>t.elim)))))
def zI (F:Nat)(x6:Int)(rec1:(Int×Int×qyo)→Option (Int×qyo))(x18:Int)(x19:Int)(x22:qyo):Option (Int×qyo) :=
  (if (decide (0≤x18)) then (chk (decide (0≤x18)) (((vo F x19 x22 (iand .u64 (ishr .u64 x6 x18) 1)).bind fun x40=>rec1 (isub .i64 x18 1,x40.1,x40.2)))) else some (x19,x22))
def zJ (F:Nat)(x6:Int):Nat→(Int×Int×qyo)→Option (Int×qyo)
  | 0=>fun _=>none
  | k+1=>fun s=>zI F x6 (zJ F x6 k) s.1 s.2.1 s.2.2
def vp (F:Nat)(x2:Int)(x3:qyo)(x6:Int)(x7:Int):Option (Int×qyo) :=
  zJ F x6 F (isub .i64 x7 1,x2,x3)
def yJ (F:Nat)(x1:Int)(x2:qyo)(x5:Int)(x6:Int):Option (Int×qyo) :=
  ((qdK F x1 x2).bind fun x9=>((vp F x9.1 x9.2 x5 x6).bind fun x13=>some (x13.1,x13.2)))
def qdq (F:Nat)(x1:Int):Option (Int×qyo) :=
  ((mk 140737488355328 (0:Int) (iquo .u64 (iadd .u64 x1 7) 8)).bind fun x3=>((yJ F (iconv .i64 x1) x3 1 1).bind fun x6=>some (x6.1,x6.2)))
def k9 (_F:Nat)(x9:Int)(x10:Int):Option Int :=
  ((idx ([0,1,2,2,3,3,3,3,4,4,4,4,4,4,4,4,5,5,5,5,5,5,5,5,5,5,5,5,5,5,5,5,6,6,6,6,6,6,6,6,6,6,6,6,6,6,6,6,6,6,6,6,6,6,6,6,6,6,6,6,6,6,6,6,7,7,7,7,7,7,7,7,7,7,7,7,7,7,7,7,7,7,7,7,7,7,7,7,7,7,7,7,7,7,7,7,7,7,7,7,7,7,7,7,7,7,7,7,7,7,7,7,7,7,7,7,7,7,7,7,7,7,7,7,7,7,7,7,8,8,8,8,8,8,8,8,8,8,8,8,8,8,8,8,8,8,8,8,8,8,8,8,8,8,8,8,8,8,8,8,8,8,8,8,8,8,8,8,8,8,8,8,8,8,8,8,8,8,8,8,8,8,8,8,8,8,8,8,8,8,8,8,8,8,8,8,8,8,8,8,8,8,8,8,8,8,8,8,8,8,8,8,8,8,8,8,8,8,8,8,8,8,8,8,8,8,8,8,8,8,8,8,8,8,8,8,8,8,8,8,8,8,8,8,8,8,8,8,8,8,8,8,8,8,8,8]:qyo) (iconv .u8 x9)).bind fun x11=>some (iadd .i64 x10 (iconv .i64 x11)))
def k8 (F:Nat)(x6:Int)(x7:Int):Option Int :=
  (if (decide (256≤x6)) then k9 F (ishr .u64 x6 8) (iadd .i64 x7 8) else k9 F x6 x7)
def k7 (F:Nat)(x3:Int)(x4:Int):Option Int :=
  (if (decide (65536≤x3)) then k8 F (ishr .u64 x3 16) (iadd .i64 x4 16) else k8 F x3 x4)
def yj (F:Nat)(x1:Int):Option Int :=
  (if (decide (4294967296≤x1)) then k7 F (ishr .u64 x1 32) 32 else k7 F x1 0)
def qaJ (F:Nat)(x1:Int):Option (Int×Int) :=
  ((yj F (isub .u64 x1 1)).bind fun x2=>(chk (decide (0≤x2)) (some (x2,isub .u64 (ishl .u64 1 x2) x1))))
def qah (F:Nat)(x1:Int)(x2:qyo)(x5:Int)(x6:Int):Option (Int×qyo) :=
  ((qaJ F x6).bind fun x9=>(if (decide (x5<x9.2)) then ((yJ F x1 x2 x5 (isub .i64 x9.1 1)).bind fun x14=>some (x14.1,x14.2)) else ((yJ F x1 x2 (iadd .u64 x5 x9.2) x9.1).bind fun x17=>some (x17.1,x17.2))))
def qdc (F:Nat)(x1:Int)(x2:Int):Option (Int×Int×Int) :=
  ((yj F (iadd .u64 x1 1)).bind fun x3=>(chk ((x2:Int) != 0) ((chk (decide (0≤(imul .i64 (iquo .i64 (isub .i64 x3 1) x2) x2))) ((chk (decide (0≤(iadd .i64 (imul .i64 (iquo .i64 (isub .i64 x3 1) x2) x2) x2))) (some (iquo .i64 (isub .i64 x3 1) x2,ishl .u64 1 (imul .i64 (iquo .i64 (isub .i64 x3 1) x2) x2),ishl .u64 1 (iadd .i64 (imul .i64 (iquo .i64 (isub .i64 x3 1) x2) x2) x2)))))))))
def qdb (F:Nat)(x1:Int)(x2:Int):Option (Int×qyo×Int) :=
  (if (((decide (x2<1)) || (decide (16<x2))) || (decide (1099511627776<x1))) then some (0,([]:qyo),3) else ((qdc F x1 x2).bind fun x9=>((qdq F (iconv .u64 x9.1)).bind fun x10=>((qah F x10.1 x10.2 (isub .u64 (iadd .u64 x1 1) x9.2.1) (isub .u64 x9.2.2 x9.2.1)).bind fun x13=>some (x13.1,x13.2,0)))))
def qfJ (_F:Nat)(x0:Int)(x1:qyo):Option (Int×qyo×Bool) :=
  some (x0,x1,true)
def qc9 (F:Nat)(x5:qyo)(x8:Int)(rec3:(Int×Int×qyo)→Option (Int×qyo×Bool))(x0:Int)(x1:Int)(x2:qyo):Option (Int×qyo×Bool) :=
  (if (decide (x0<(x5.length:Int))) then ((idx x5 x0).bind fun x3=>((qdb F x3 x8).bind fun x4=>(if (((x4.2.2:Int) != 0) || (decide (8192<(iadd .i64 x1 x4.1)))) then some (0,([]:qyo),false) else ((jb F x1 x2 x4.1 x4.2.1).bind fun x6=>rec3 (iadd .i64 x0 1,x6.1,x6.2))))) else qfJ F x1 x2)
def jO (F:Nat)(x5:qyo)(x8:Int):Nat→(Int×Int×qyo)→Option (Int×qyo×Bool)
  | 0=>fun _=>none
  | k+1=>fun s=>qc9 F x5 x8 (jO F x5 x8 k) s.1 s.2.1 s.2.2
def qaH (F:Nat)(x1:Int)(x2:qyo)(x5:qyo)(x8:Int):Option (Int×qyo×Bool) :=
  jO F x5 x8 F (0,x1,x2)
def jy (F:Nat)(x5:Int)(x7:(qyo×Int))(x15:Int):Option (Int×qyo×Int) :=
  (if ((x15:Int) != 0) then some (0,([]:qyo),x15) else ((qaH F 0 ([]:qyo) x7.1 x5).bind fun x17=>(if (!x17.2.2) then some (0,([]:qyo),8) else some (x17.1,x17.2.1,0))))
def jz (F:Nat)(x5:Int)(x7:(qyo×Int))(x26:Bool):Option (Int×qyo×Int) :=
  (if x26 then jy F x5 x7 3 else jy F x5 x7 x7.2)
def qb5 (F:Nat)(x1:qyo)(x4:Int)(x5:Int):Option (Int×qyo×Int) :=
  ((qaE F x1 x4).bind fun x7=>(if ((x7.2:Int) == 0) then jz F x5 x7 ((decide (x5<1)) || (decide (16<x5))) else jz F x5 x7 false))
def qfd (_F:Nat)(_x1:qyo):Option Unit :=
  some ()
def qaq {σ τ:Type}(_F:Nat)(yy:σ→(Int×Int)→Option (σ ⊕ τ))(rec31:(Int×σ)→Option (σ ⊕ τ))(x2:qyo)(x0:Int)(x1:σ)(x3:Int):Option (σ ⊕ τ) :=
  ((idx x2 x0).bind fun x4=>((yy x1 (x4,x3)).bind (Sum.elim (fun x5=>rec31 (iadd .i64 x0 x3,x5)) (fun x6=>some (.inr x6)))))
def qar {σ τ:Type}(F:Nat)(yy:σ→(Int×Int)→Option (σ ⊕ τ))(rec31:(Int×σ)→Option (σ ⊕ τ))(rec44:Int→Option (σ ⊕ τ))(x2:qyo)(x0:Int)(x1:σ)(x3:Int)(x4:Bool):Option (σ ⊕ τ) :=
  (if x4 then rec44 (iadd .i64 x3 1) else qaq F yy rec31 x2 x0 x1 x3)
def qap {σ τ:Type}(F:Nat)(yy:σ→(Int×Int)→Option (σ ⊕ τ))(rec31:(Int×σ)→Option (σ ⊕ τ))(x2:qyo)(x0:Int)(x1:σ)(rec44:Int→Option (σ ⊕ τ))(x3:Int):Option (σ ⊕ τ) :=
  (if (decide ((iadd .i64 x0 x3)<(x2.length:Int))) then ((idx x2 (iadd .i64 x0 x3)).bind fun x4=>((idx x2 x0).bind fun x5=>qar F yy rec31 rec44 x2 x0 x1 x3 ((x4:Int) == (iadd .i64 x5 x3)))) else qar F yy rec31 rec44 x2 x0 x1 x3 false)
def kw {σ τ:Type}(F:Nat)(yy:σ→(Int×Int)→Option (σ ⊕ τ))(rec31:(Int×σ)→Option (σ ⊕ τ))(x2:qyo)(x0:Int)(x1:σ):Nat→Int→Option (σ ⊕ τ)
  | 0=>fun _=>none
  | k+1=>fun s=>qap F yy rec31 x2 x0 x1 (kw F yy rec31 x2 x0 x1 k) s
def qao {σ τ:Type}(F:Nat)(yy:σ→(Int×Int)→Option (σ ⊕ τ))(x2:qyo)(rec31:(Int×σ)→Option (σ ⊕ τ))(x0:Int)(x1:σ):Option (σ ⊕ τ) :=
  (if (decide (x0<(x2.length:Int))) then kw F yy rec31 x2 x0 x1 F 1 else some (.inl x1))
def qX {σ τ:Type}(F:Nat)(yy:σ→(Int×Int)→Option (σ ⊕ τ))(x2:qyo):Nat→(Int×σ)→Option (σ ⊕ τ)
  | 0=>fun _=>none
  | k+1=>fun s=>qao F yy x2 (qX F yy x2 k) s.1 s.2
def qbh {σ τ:Type}(F:Nat)(yy:σ→(Int×Int)→Option (σ ⊕ τ))(x2:qyo)(s0:σ):Option (σ ⊕ τ) :=
  qX F yy x2 F (0,s0)
def qdi (_F:Nat)(x0:List (Int×Int))(x1:Int)(x2:Int)(rec8:(Int×qyo)→Option ((qyo×List (Int×Int)) ⊕ Empty))(x3:Int)(x4:qyo):Option ((qyo×List (Int×Int)) ⊕ Empty) :=
  (if (decide (x3<x2)) then ((app 8796093022208 x4 ([iadd .i64 x1 x3]:qyo)).bind fun x5=>rec8 (iadd .i64 x3 1,x5)) else some (.inl (x4,x0)))
def jQ (F:Nat)(x0:List (Int×Int))(x1:Int)(x2:Int):Nat→(Int×qyo)→Option ((qyo×List (Int×Int)) ⊕ Empty)
  | 0=>fun _=>none
  | k+1=>fun s=>qdi F x0 x1 x2 (jQ F x0 x1 x2 k) s.1 s.2
def qbg (F:Nat)(x4:Int)(x0:qyo)(x1:List (Int×Int))(x2:Int)(x3:Int):Option ((qyo×List (Int×Int)) ⊕ Empty) :=
  (if (decide (x4≤x3)) then ((app 4398046511104 x1 ([(x2,x3)]:List (Int×Int))).bind fun x5=>some (.inl (x0,x5))) else jQ F x1 x2 x3 F (0,x0))
def qdV (F:Nat)(x1:qyo)(x4:Int):Option (List (Int×Int)×qyo) :=
  ((qfd F x1).bind fun _x188=>((qbh F (fun ((x0,x2):(qyo×List (Int×Int))) ((x3,x5):(Int×Int))=>qbg F x4 x0 x2 x3 x5) x1 (([]:qyo),([]:List (Int×Int)))).bind (Sum.elim (fun ((x0,x2):(qyo×List (Int×Int)))=>some (x2,x0)) (fun t=>t.elim))))
def jE (F:Nat)(x1:qyo)(x4:Int)(x11:Int):Option (List (Int×Int)×qyo×Int) :=
  (if ((x11:Int) != 0) then some (([]:List (Int×Int)),([]:qyo),x11) else ((qdV F x1 x4).bind fun x13=>some (x13.1,x13.2,0)))
def jF (F:Nat)(x1:qyo)(x4:Int)(x5:Int)(x21:Bool):Option (List (Int×Int)×qyo×Int) :=
  (if x21 then jE F x1 x4 3 else jE F x1 x4 x5)
def qch (F:Nat)(x1:qyo)(x4:Int):Option (List (Int×Int)×qyo×Int) :=
  ((zV F x1).bind fun x5=>(if ((x5:Int) == 0) then jF F x1 x4 x5 ((decide (x4<2)) || (decide (300<x4))) else jF F x1 x4 x5 false))
def qbi (_F:Nat)(x1:Int)(x2:Int)(x3:Int):Option Bool :=
  some ((decide (x2≤x1)) && (decide (x1≤x3)))
def qed (_F:Nat)(x0:qyo):Option (qyo×Int) :=
  some (x0,0)
def qaw (_F:Nat)(rec32:(qyo×Int)→Option (qyo×Int))(x0:Int)(x1:qyo):Option (qyo×Int) :=
  rec32 (x1,iadd .i64 x0 1)
def qat (F:Nat)(rec32:(qyo×Int)→Option (qyo×Int))(x0:Int)(x1:(Int×Int))(rec35:(qyo×Int)→Option (qyo×Int))(x2:qyo)(x3:Int):Option (qyo×Int) :=
  (if (decide (x3<x1.2)) then ((app 8796093022208 x2 ([iadd .i64 x1.1 x3]:qyo)).bind fun x4=>rec35 (x4,iadd .i64 x3 1)) else qaw F rec32 x0 x2)
def yk (F:Nat)(rec32:(qyo×Int)→Option (qyo×Int))(x0:Int)(x1:(Int×Int)):Nat→(qyo×Int)→Option (qyo×Int)
  | 0=>fun _=>none
  | k+1=>fun s=>qat F rec32 x0 x1 (yk F rec32 x0 x1 k) s.1 s.2
def qas (F:Nat)(x1:List (Int×Int))(rec32:(qyo×Int)→Option (qyo×Int))(x0:qyo)(x2:Int):Option (qyo×Int) :=
  (if (decide (x2<(x1.length:Int))) then ((idx x1 x2).bind fun x3=>yk F rec32 x2 x3 F (x0,0)) else qed F x0)
def zk (F:Nat)(x1:List (Int×Int)):Nat→(qyo×Int)→Option (qyo×Int)
  | 0=>fun _=>none
  | k+1=>fun s=>qas F x1 (zk F x1 k) s.1 s.2
def qav (F:Nat)(x1:List (Int×Int)):Option (qyo×Int) :=
  zk F x1 F (([]:qyo),0)
def vx (_F:Nat)(rec44:(Int×Int)→Option (qyo×Int))(x0:Int)(x1:Int)(x2:(Int×Int))(x3:Bool):Option (qyo×Int) :=
  (if x3 then some (([]:qyo),3) else (if (decide (x2.1<(iadd .i64 x0 2))) then some (([]:qyo),4) else rec44 (isub .i64 (iadd .i64 x2.1 x2.2) 1,iadd .i64 x1 1)))
def qau (F:Nat)(x1:List (Int×Int))(rec44:(Int×Int)→Option (qyo×Int))(x0:Int)(x2:Int):Option (qyo×Int) :=
  (if (decide (x2<(x1.length:Int))) then ((idx x1 x2).bind fun x3=>((qbi F x3.1 0 1048576).bind fun x4=>(if (!x4) then vx F rec44 x0 x2 x3 (!x4) else ((qbi F x3.2 1 300).bind fun x5=>(if (!x5) then vx F rec44 x0 x2 x3 (!x5) else vx F rec44 x0 x2 x3 (decide (1048576<(isub .i64 (iadd .i64 x3.1 x3.2) 1)))))))) else qav F x1)
def kx (F:Nat)(x1:List (Int×Int)):Nat→(Int×Int)→Option (qyo×Int)
  | 0=>fun _=>none
  | k+1=>fun s=>qau F x1 (kx F x1 k) s.1 s.2
def qdj (F:Nat)(x1:List (Int×Int)):Option (qyo×Int) :=
  (if (decide (300<(x1.length:Int))) then some (([]:qyo),2) else kx F x1 F (-2,0))
def vG (_F:Nat)(x15:qyo):Option (qyo) :=
  some x15
def yV (F:Nat)(x1:qyo)(c3:Nat)(x4:Int):Option (qyo) :=
  (if (decide (x4<0)) then none else (lett (isub .i64 x4 (isub .i64 (c3:Int) (x1.length:Int))) fun x16=>(if (decide (0<x16)) then ((sub x1 0 (c3:Int)).bind fun x17=>((appz 8796093022208 x17 (0:Int) x16).bind fun x18=>((sub x18 0 (x1.length:Int)).bind fun x21=>vG F x21))) else vG F x1)))
def yL (_F:Nat)(x0:qyo):Option (qyo) :=
  some x0
def qH (F:Nat)(x1:List (qyo))(rec5:(qyo×Int)→Option (qyo))(x0:qyo)(x2:Int):Option (qyo) :=
  (if (decide (x2<(x1.length:Int))) then ((idx x1 x2).bind fun x3=>((app 8796093022208 x0 x3).bind fun x4=>rec5 (x4,iadd .i64 x2 1))) else yL F x0)
def qM (F:Nat)(x1:List (qyo)):Nat→(qyo×Int)→Option (qyo)
  | 0=>fun _=>none
  | k+1=>fun s=>qH F x1 (qM F x1 k) s.1 s.2
def zQ (F:Nat)(x1:List (qyo))(x43:Int):Option (qyo) :=
  ((yV F ([]:qyo) 0 x43).bind fun x44=>qM F x1 F (x44,0))
def qI (F:Nat)(x1:List (qyo))(rec6:(Int×Int)→Option (qyo))(x0:Int)(x2:Int):Option (qyo) :=
  (if (decide (x2<(x1.length:Int))) then ((idx x1 x2).bind fun x3=>(if (decide ((iadd .i64 x0 (x3.length:Int))<0)) then none else rec6 (iadd .i64 x0 (x3.length:Int),iadd .i64 x2 1))) else zQ F x1 x0)
def qN (F:Nat)(x1:List (qyo)):Nat→(Int×Int)→Option (qyo)
  | 0=>fun _=>none
  | k+1=>fun s=>qI F x1 (qN F x1 k) s.1 s.2
def zi (F:Nat)(x1:List (qyo)):Option (qyo) :=
  qN F x1 F (0,0)
def zg (_F:Nat)(x1:qyo):Option (qyo) :=
  if x1.length<4611686018427387904 then some (srt x1) else none
def zE (_F:Nat)(x1:qyo):Option (qyo) :=
  if (Go.Lib.compact x1).length≤x1.length then some (Go.Lib.compact x1) else none
def kC (_F:Nat)(x1:qyo):Option (qyo) :=
  ((app 8796093022208 ([]:qyo) x1).bind fun x8=>some x8)
def jD (F:Nat)(x4:qyo)(x7:(qyo×Int))(x12:Int):Option (qyo×Int) :=
  (if ((x12:Int) != 0) then some (([]:qyo),x12) else ((zi F ([x7.1,x4]:List (qyo))).bind fun x16=>((zg F x16).bind fun x19=>(chk (decide (x19.length=x16.length)) (((kC F x19).bind fun x29=>((zE F x29).bind fun x32=>(if (decide ((x32.length:Int)<(x19.length:Int))) then some (([]:qyo),6) else (if (decide (300<(x19.length:Int))) then some (([]:qyo),2) else some (x19,0))))))))))
def yB (F:Nat)(x1:List (Int×Int))(x4:qyo):Option (qyo×Int) :=
  ((qdj F x1).bind fun x7=>(if ((x7.2:Int) == 0) then ((zV F x4).bind fun x38=>jD F x4 x7 x38) else jD F x4 x7 x7.2))
def jx (_F:Nat)(x1:Int):Option Bool :=
  some ((x1:Int) != x1)
def vq (_F:Nat)(x1:Int)(x2:Int)(x6:Bool):Option Bool :=
  some (x6 || (decide (x1<x2)))
def vP (F:Nat)(x1:Int)(x2:Int):Option Bool :=
  ((jx F x1).bind fun x3=>(if x3 then ((jx F x2).bind fun x8=>vq F x1 x2 (!x8)) else vq F x1 x2 false))
def kW (_F:Nat)(x1:Int):Option Bool :=
  some ((x1:Int) != x1)
def kz (_F:Nat)(x32:Int)(x55:Bool):Option (Int×Bool) :=
  some (x32,x55)
def kA (F:Nat)(x32:Int)(x68:Bool):Option (Int×Bool) :=
  kz F x32 x68
def kB (F:Nat)(x32:Int)(x75:Bool):Option (Int×Bool) :=
  kA F x32 x75
def qY (F:Nat)(x1:qyo)(x4:Int)(x32:Int):Option (Int×Bool) :=
  (if (decide (x32<(x1.length:Int))) then ((idx x1 x32).bind fun x56=>(if ((x56:Int) == x4) then kA F x32 true else ((idx x1 x32).bind fun x69=>((kW F x69).bind fun x72=>(if x72 then ((kW F x4).bind fun x76=>kB F x32 x76) else kB F x32 false))))) else kz F x32 false)
def qV (F:Nat)(x1:qyo)(x4:Int)(rec10:(Int×Int)→Option (Int×Bool))(x85:Int)(x86:Int):Option (Int×Bool) :=
  (if (decide (x85<x86)) then (lett (iconv .i64 (ishr .u64 (iconv .u64 (iadd .i64 x85 x86)) 1)) fun x97=>((idx x1 x97).bind fun x98=>((vP F x98 x4).bind fun x0=>(if x0 then rec10 (iadd .i64 x97 1,x86) else rec10 (x85,x97))))) else qY F x1 x4 x85)
def qz (F:Nat)(x1:qyo)(x4:Int):Nat→(Int×Int)→Option (Int×Bool)
  | 0=>fun _=>none
  | k+1=>fun s=>qV F x1 x4 (qz F x1 x4 k) s.1 s.2
def qA (F:Nat)(x1:qyo)(x4:Int):Option (Int×Bool) :=
  qz F x1 x4 F (0,(x1.length:Int))
def yU (_F:Nat)(x21:qyo)(x22:Bool)(x23:Int):Option (qyo×Bool×Int) :=
  some (x21,x22,iadd .i64 x23 1)
def jn (F:Nat)(x2:qyo)(x5:Bool)(x6:Int)(x7:Bool):Option (qyo×Bool×Int) :=
  (if (x7 != x5) then ((app 8796093022208 x2 ([x6]:qyo)).bind fun x31=>yU F x31 x7 0) else yU F x2 x5 x6)
def qdT (_F:Nat)(x66:qyo)(x0:qyo):Option (qyo×qyo) :=
  some (x66,x0)
def qbB (_F:Nat)(rec10:(qyo×Int)→Option (qyo×qyo))(x0:Int)(x1:qyo):Option (qyo×qyo) :=
  rec10 (x1,iadd .i64 x0 1)
def qbz (F:Nat)(x1:qyo)(x4:qyo)(x66:qyo)(rec10:(qyo×Int)→Option (qyo×qyo))(x0:qyo)(x2:Int):Option (qyo×qyo) :=
  (if (decide (x2<(x4.length:Int))) then ((idx x4 x2).bind fun x3=>((qA F x1 x3).bind fun x5=>(if (!x5.2) then ((app 8796093022208 x0 ([x3]:qyo)).bind fun x6=>qbB F rec10 x2 x6) else qbB F rec10 x2 x0))) else qdT F x66 x0)
def yq (F:Nat)(x1:qyo)(x4:qyo)(x66:qyo):Nat→(qyo×Int)→Option (qyo×qyo)
  | 0=>fun _=>none
  | k+1=>fun s=>qbz F x1 x4 x66 (yq F x1 x4 x66 k) s.1 s.2
def qdS (F:Nat)(x1:qyo)(x4:qyo)(x66:qyo)(_x67:Bool)(_x68:Int):Option (qyo×qyo) :=
  yq F x1 x4 x66 F (([]:qyo),0)
def qbA (F:Nat)(x1:qyo)(x4:qyo)(rec12:(Int×qyo×Bool×Int)→Option (qyo×qyo))(x0:Int)(x2:qyo)(x3:Bool)(x5:Int):Option (qyo×qyo) :=
  (if (decide (x0<(x1.length:Int))) then ((idx x1 x0).bind fun x6=>((qA F x4 x6).bind fun x7=>((jn F x2 x3 x5 x7.2).bind fun x8=>rec12 (iadd .i64 x0 1,x8.1,x8.2.1,x8.2.2)))) else qdS F x1 x4 x2 x3 x5)
def vb (F:Nat)(x1:qyo)(x4:qyo):Nat→(Int×qyo×Bool×Int)→Option (qyo×qyo)
  | 0=>fun _=>none
  | k+1=>fun s=>qbA F x1 x4 (vb F x1 x4 k) s.1 s.2.1 s.2.2.1 s.2.2.2
def qbN (F:Nat)(x1:qyo)(x4:qyo):Option (qyo×qyo) :=
  vb F x1 x4 F (0,([]:qyo),true,0)
def vu (F:Nat)(x1:qyo)(x4:qyo)(x10:Int):Option (qyo×qyo×Int) :=
  (if ((x10:Int) != 0) then some (([]:qyo),([]:qyo),x10) else ((qbN F x1 x4).bind fun x12=>some (x12.1,x12.2,0)))
def vV (F:Nat)(x1:qyo)(x4:qyo):Option (qyo×qyo×Int) :=
  ((zV F x1).bind fun x7=>(if ((x7:Int) == 0) then ((zV F x4).bind fun x18=>vu F x1 x4 x18) else vu F x1 x4 x7))
def qcb (_F:Nat)(x4:Int)(x99:Int):Option Int :=
  (if (decide (x4<x99)) then some 8 else some 0)
def qam (_F:Nat)(rec23:(Int×Int)→Option Int)(x4:Int)(x0:Int)(x1:Int)(x2:Int)(x3:Bool):Option Int :=
  (if x3 then some 3 else (lett (imin (iadd .i64 x0 (imin x2 (iadd .i64 x4 1))) (iadd .i64 x4 1)) fun x5=>rec23 (x5,iadd .i64 x1 1)))
def qal (F:Nat)(x1:qyo)(x4:Int)(rec23:(Int×Int)→Option Int)(x0:Int)(x2:Int):Option Int :=
  (if (decide (x2<(x1.length:Int))) then ((idx x1 x2).bind fun x3=>(if (decide (x3<0)) then qam F rec23 x4 x0 x2 x3 true else qam F rec23 x4 x0 x2 x3 ((decide (x3<1)) && (decide (0<x2))))) else qcb F x4 x0)
def kv (F:Nat)(x1:qyo)(x4:Int):Nat→(Int×Int)→Option Int
  | 0=>fun _=>none
  | k+1=>fun s=>qal F x1 x4 (kv F x1 x4 k) s.1 s.2
def qdf (F:Nat)(x1:qyo)(x4:Int):Option Int :=
  (if (decide ((iadd .i64 x4 1)<(x1.length:Int))) then some 2 else kv F x1 x4 F (0,0))
def qan (_F:Nat)(x0:qyo):Option (qyo) :=
  some x0
def qcc (F:Nat)(x0:qyo)(x1:qyo)(x2:Bool):Option (qyo) :=
  (if x2 then ((app 8796093022208 x1 x0).bind fun x3=>qan F x3) else qan F x1)
def jm (_F:Nat)(rec10:(qyo×qyo×Bool×Int)→Option (qyo))(x0:qyo)(x1:Bool)(x2:Int)(x3:Int)(x4:qyo):Option (qyo) :=
  ((sub x0 x3 (x0.length:Int)).bind fun x5=>rec10 (x5,x4,(!x1),iadd .i64 x2 1))
def jl (F:Nat)(x4:qyo)(rec10:(qyo×qyo×Bool×Int)→Option (qyo))(x0:qyo)(x1:qyo)(x2:Bool)(x3:Int):Option (qyo) :=
  (if (decide (x3<(x4.length:Int))) then ((idx x4 x3).bind fun x5=>(if x2 then ((sub x0 0 x5).bind fun x6=>((app 8796093022208 x1 x6).bind fun x7=>jm F rec10 x0 x2 x3 x5 x7)) else jm F rec10 x0 x2 x3 x5 x1)) else qcc F x0 x1 x2)
def kf (F:Nat)(x4:qyo):Nat→(qyo×qyo×Bool×Int)→Option (qyo)
  | 0=>fun _=>none
  | k+1=>fun s=>jl F x4 (kf F x4 k) s.1 s.2.1 s.2.2.1 s.2.2.2
def qdU (F:Nat)(x1:qyo)(x4:qyo):Option (qyo) :=
  kf F x4 F (x1,([]:qyo),true,0)
def jB (F:Nat)(x1:qyo)(x4:qyo)(x10:Int):Option (qyo×Int) :=
  (if ((x10:Int) != 0) then some (([]:qyo),x10) else ((qdU F x1 x4).bind fun x12=>some (x12,0)))
def vv (F:Nat)(x1:qyo)(x4:qyo):Option (qyo×Int) :=
  ((zV F x1).bind fun x7=>(if ((x7:Int) == 0) then ((qdf F x4 (x1.length:Int)).bind fun x16=>jB F x1 x4 x16) else jB F x1 x4 x7))
def jC (F:Nat)(x7:qyo)(x10:(qyo×Int))(x15:Int):Option (qyo×Int) :=
  (if ((x15:Int) != 0) then some (([]:qyo),x15) else ((zi F ([x10.1,x7]:List (qyo))).bind fun x19=>((zg F x19).bind fun x22=>(chk (decide (x22.length=x19.length)) (((kC F x22).bind fun x32=>((zE F x32).bind fun x35=>(if (decide ((x35.length:Int)<(x22.length:Int))) then some (([]:qyo),6) else (if (decide (300<(x22.length:Int))) then some (([]:qyo),2) else some (x22,0))))))))))
def qca (F:Nat)(x1:qyo)(x4:qyo)(x7:qyo):Option (qyo×Int) :=
  ((vv F x1 x4).bind fun x10=>(if ((x10.2:Int) == 0) then ((zV F x7).bind fun x41=>jC F x7 x10 x41) else jC F x7 x10 x10.2))
def vy (_F:Nat)(x1:Int)(x2:Int)(x3:Int):Option Int :=
  (if (((((((decide (x1<0)) || (decide (7<x1))) || (decide (x2<0))) || ((x2:Int) == 1)) || (decide (300<x2))) || (decide (x3<1))) || (decide (16<x3))) then some 3 else some 0)
def qcj (F:Nat)(x1:Int)(x2:qyo)(x5:Int)(_x6:Int)(_x7:Int):Option Int :=
  (if ((decide (x1<0)) || (decide (1048576<x1))) then some 3 else (if (decide (0<x5)) then ((zV F x2).bind fun x14=>some x14) else some 0))
def qdx (F:Nat)(x1:Int):Option Int :=
  ((yj F (iadd .u64 x1 1)).bind fun x2=>some (isub .i64 x2 1))
def qea (_F:Nat)(x1:Int)(x2:Int):Option Int :=
  (chk (decide (0≤x2)) ((lett (iand .u64 x1 (isub .u64 (ishl .u64 1 x2) 1)) fun x4=>some x4)))
def vQ (F:Nat)(x1:Int):Option (Int×qyo) :=
  ((qdx F x1).bind fun x3=>((qdq F (iconv .u64 x3)).bind fun x4=>((qea F (iadd .u64 x1 1) x3).bind fun x7=>((yJ F x4.1 x4.2 x7 x3).bind fun x8=>some (x8.1,x8.2)))))
def ya (F:Nat)(x2:Int)(x3:qyo)(x7:Int)(x8:qyo)(x13:Bool):Option (Int×qyo×Bool) :=
  (if (!x13) then ((jb F x2 x3 x7 x8).bind fun x14=>some (x14.1,x14.2,x13)) else some (x2,x3,x13))
def ym (F:Nat)(x2:Int)(x3:qyo)(x6:Bool)(x7:Int)(x8:qyo):Option (Int×qyo×Bool) :=
  (if x6 then ya F x2 x3 x7 x8 true else ya F x2 x3 x7 x8 (decide (8192<(iadd .i64 x2 x7))))
def q7 (F:Nat)(x2:Int)(x3:qyo)(x6:Bool)(x7:Int):Option (Int×qyo×Bool) :=
  ((vQ F (iconv .u64 x7)).bind fun x8=>((ym F x2 x3 x6 x8.1 x8.2).bind fun x11=>some (x11.1,x11.2.1,x11.2.2)))
def yn (F:Nat)(x7:qyo)(rec1:(Int×Int×qyo×Bool)→Option (Int×qyo×Bool))(x27:Int)(x28:Int)(x31:qyo)(x32:Bool):Option (Int×qyo×Bool) :=
  (if (decide (x27<(x7.length:Int))) then ((idx x7 x27).bind fun x55=>((q7 F x28 x31 x32 (isub .i64 x55 (imin x27 1))).bind fun x58=>rec1 (iadd .i64 x27 1,x58.1,x58.2.1,x58.2.2))) else some (x28,x31,x32))
def zL (F:Nat)(x7:qyo):Nat→(Int×Int×qyo×Bool)→Option (Int×qyo×Bool)
  | 0=>fun _=>none
  | k+1=>fun s=>yn F x7 (zL F x7 k) s.1 s.2.1 s.2.2.1 s.2.2.2
def vB (F:Nat)(x2:Int)(x3:qyo)(x6:Bool)(x7:qyo):Option (Int×qyo×Bool) :=
  ((q7 F x2 x3 x6 (x7.length:Int)).bind fun x10=>zL F x7 F (0,x10.1,x10.2.1,x10.2.2))
def kT (F:Nat)(rec5:(Int×Int×Int×qyo×Bool)→Option (Int×qyo×Bool))(x8:Int)(x74:Int)(x0:(Int×Int))(x1:Int)(x2:qyo)(x3:Bool):Option (Int×qyo×Bool) :=
  ((q7 F x1 x2 x3 (isub .i64 x0.2 x8)).bind fun x4=>rec5 (isub .i64 (iadd .i64 x0.1 x0.2) 1,iadd .i64 x74 1,x4.1,x4.2.1,x4.2.2))
def yY (F:Nat)(x8:Int)(x9:List (Int×Int))(rec5:(Int×Int×Int×qyo×Bool)→Option (Int×qyo×Bool))(x73:Int)(x74:Int)(x75:Int)(x78:qyo)(x79:Bool):Option (Int×qyo×Bool) :=
  (if (decide (x74<(x9.length:Int))) then ((idx x9 x74).bind fun x0=>(if ((x74:Int) == 0) then ((qbl F (isub .i64 x0.1 x73)).bind fun x1=>((q7 F x75 x78 x79 (iconv .i64 x1)).bind fun x2=>kT F rec5 x8 x74 x0 x2.1 x2.2.1 x2.2.2)) else ((q7 F x75 x78 x79 (isub .i64 (isub .i64 x0.1 x73) 2)).bind fun x3=>kT F rec5 x8 x74 x0 x3.1 x3.2.1 x3.2.2))) else some (x75,x78,x79))
def zu (F:Nat)(x8:Int)(x9:List (Int×Int)):Nat→(Int×Int×Int×qyo×Bool)→Option (Int×qyo×Bool)
  | 0=>fun _=>none
  | k+1=>fun s=>yY F x8 x9 (zu F x8 x9 k) s.1 s.2.1 s.2.2.1 s.2.2.2.1 s.2.2.2.2
def jq (F:Nat)(x2:Int)(x3:qyo)(x6:Bool)(x7:Int)(x8:Int)(x9:List (Int×Int)):Option (Int×qyo×Bool) :=
  ((q7 F x2 x3 x6 (x9.length:Int)).bind fun x12=>zu F x8 x9 F (x7,0,x12.1,x12.2.1,x12.2.2))
def kS (F:Nat)(x52:Int)(x55:qyo)(x56:Bool)(x76:Bool)(x77:Int)(x80:qyo):Option (Int×qyo×Bool) :=
  ((ym F x52 x55 (x56 || (!x76)) x77 x80).bind fun x82=>some (x82.1,x82.2.1,x82.2.2))
def kR (F:Nat)(x7:Int)(x16:Int)(x51:qyo)(x52:Int)(x55:qyo)(x56:Bool):Option (Int×qyo×Bool) :=
  ((qcH F x51 x7).bind fun x85=>((qaH F 0 ([]:qyo) x85 x16).bind fun x88=>kS F x52 x55 x56 x88.2.2 x88.1 x88.2.1))
def kQ (F:Nat)(x7:Int)(x15:Int)(x16:Int)(x33:qyo)(x34:Int)(x37:qyo)(x38:Bool):Option (Int×qyo×Bool) :=
  (if (((x33.length:Int):Int) == 0) then some (x34,x37,x38) else (if (decide (0<x15)) then ((qdV F x33 x15).bind fun x0=>((jq F x34 x37 x38 x7 x15 x0.1).bind fun x1=>kR F x7 x16 x0.2 x1.1 x1.2.1 x1.2.2)) else kR F x7 x16 x33 x34 x37 x38))
def yO (F:Nat)(x2:Int)(x3:qyo)(x6:Bool)(x7:Int)(x8:qyo)(x11:qyo)(x14:Int)(x15:Int)(x16:Int):Option (Int×qyo×Bool) :=
  ((q7 F x2 x3 x6 (x8.length:Int)).bind fun x18=>(if (((x8.length:Int):Int) == 0) then some (x18.1,x18.2.1,x18.2.2) else (if (decide (0<x14)) then ((qbN F x11 x8).bind fun x0=>((vB F x18.1 x18.2.1 x18.2.2 x0.1).bind fun x1=>kQ F x7 x15 x16 x0.2 x1.1 x1.2.1 x1.2.2)) else kQ F x7 x15 x16 x8 x18.1 x18.2.1 x18.2.2)))
def jG (F:Nat)(x1:Int)(x2:qyo)(x5:qyo)(x8:Int)(x9:Int)(x10:Int)(x25:Int):Option (Int×qyo×Int) :=
  (if ((x25:Int) != 0) then some (0,([]:qyo),x25) else ((yO F 0 ([]:qyo) false x1 x2 x5 x8 x9 x10).bind fun x28=>(if x28.2.2 then some (0,([]:qyo),8) else some (x28.1,x28.2.1,0))))
def vh (F:Nat)(x1:Int)(x2:qyo)(x5:qyo)(x8:Int)(x9:Int)(x10:Int)(x22:Int):Option (Int×qyo×Int) :=
  (if ((x22:Int) == 0) then ((qcj F x1 x5 x8 x9 x10).bind fun x34=>jG F x1 x2 x5 x8 x9 x10 x34) else jG F x1 x2 x5 x8 x9 x10 x22)
def vg (F:Nat)(x1:Int)(x2:qyo)(x5:qyo)(x8:Int)(x9:Int)(x10:Int)(x19:Int):Option (Int×qyo×Int) :=
  (if ((x19:Int) == 0) then ((zV F x2).bind fun x36=>vh F x1 x2 x5 x8 x9 x10 x36) else vh F x1 x2 x5 x8 x9 x10 x19)
def jH (F:Nat)(x1:Int)(x2:qyo)(x5:qyo)(x8:Int)(x9:Int)(x10:Int)(x13:Int)(x40:Bool):Option (Int×qyo×Int) :=
  (if x40 then vg F x1 x2 x5 x8 x9 x10 3 else vg F x1 x2 x5 x8 x9 x10 x13)
def jo (F:Nat)(x1:Int)(x2:qyo)(x5:qyo)(x8:Int)(x9:Int)(x10:Int):Option (Int×qyo×Int) :=
  ((vy F x8 x9 x10).bind fun x13=>(if ((x13:Int) == 0) then jH F x1 x2 x5 x8 x9 x10 x13 ((decide (x1<0)) || (decide (1048576<x1))) else jH F x1 x2 x5 x8 x9 x10 x13 false))
def jw (_F:Nat)(x36:Bool):Option Int :=
  (if x36 then some 1 else some 0)
def yw (F:Nat)(x1:Int)(x2:qyo):Option Int :=
  (if ((decide (x1<0)) || (decide (8192<x1))) then some 3 else (if (((x2.length:Int):Int) != (iquo .i64 (iadd .i64 x1 7) 8)) then some 1 else (if (((irem x1 8):Int) != 0) then ((idx x2 (isub .i64 (x2.length:Int) 1)).bind fun x39=>(chk (decide (0≤(irem x1 8))) (jw F (((ishl .u8 x39 (irem x1 8)):Int) != 0)))) else jw F false)))
def qa1 (_F:Nat)(x13:Int):Option Int :=
  some x13
def qa2 (F:Nat)(x7:Int)(x16:Bool):Option Int :=
  (if x16 then qa1 F 3 else qa1 F x7)
def jM (F:Nat)(x1:Int)(x2:qyo)(x5:Int):Option Int :=
  ((yw F x1 x2).bind fun x7=>(if ((x7:Int) == 0) then qa2 F x7 ((decide (x5<0)) || (decide (x1<x5))) else qa2 F x7 false))
def qe4 (_F:Nat):Option (Int×Int×Bool) :=
  some (0,0,false)
def qbI (F:Nat)(x1:Int)(x2:qyo)(x5:Int)(rec3:Int→Option (Int×Int×Bool))(x33:Int):Option (Int×Int×Bool) :=
  (if (decide (x33<x1)) then ((vN F x1 x2 x33).bind fun x44=>(if ((x44:Int) == 1) then some (iconv .u64 (isub .i64 x33 x5),iadd .i64 x33 1,true) else rec3 (iadd .i64 x33 1))) else qe4 F)
def vi (F:Nat)(x1:Int)(x2:qyo)(x5:Int):Nat→Int→Option (Int×Int×Bool)
  | 0=>fun _=>none
  | k+1=>fun s=>qbI F x1 x2 x5 (vi F x1 x2 x5 k) s
def qck (F:Nat)(x1:Int)(x2:qyo)(x5:Int):Option (Int×Int×Bool) :=
  vi F x1 x2 x5 F x5
def qdJ (_F:Nat)(x24:Int):Option (Int×Bool) :=
  some (x24,true)
def qbY (F:Nat)(x1:Int)(x2:qyo)(x5:Int)(x6:Int)(rec3:(Int×Int)→Option (Int×Bool))(x29:Int)(x30:Int):Option (Int×Bool) :=
  (if (decide (x30<x6)) then ((vN F x1 x2 (iadd .i64 x5 x30)).bind fun x38=>rec3 (ior .u64 (ishl .u64 x29 1) x38,iadd .i64 x30 1)) else qdJ F x29)
def vO (F:Nat)(x1:Int)(x2:qyo)(x5:Int)(x6:Int):Nat→(Int×Int)→Option (Int×Bool)
  | 0=>fun _=>none
  | k+1=>fun s=>qbY F x1 x2 x5 x6 (vO F x1 x2 x5 x6 k) s.1 s.2
def vn (F:Nat)(x1:Int)(x2:qyo)(x5:Int)(x6:Int):Option (Int×Bool) :=
  (if (decide ((isub .i64 x1 x5)<x6)) then some (0,false) else vO F x1 x2 x5 x6 F (0,0))
def zp (F:Nat)(x1:Int)(x2:qyo)(x5:Int)(x8:(Int×Int)):Option (Int×Int×Bool) :=
  ((vn F x1 x2 x5 x8.1).bind fun x14=>some (isub .u64 x14.1 x8.2,iadd .i64 x5 x8.1,x14.2))
def zn (F:Nat)(x1:Int)(x2:qyo)(x5:Int)(x6:Int):Option (Int×Int×Bool) :=
  ((qaJ F x6).bind fun x8=>(if (decide (0<x8.2)) then ((vn F x1 x2 x5 (isub .i64 x8.1 1)).bind fun x15=>(if (!x15.2) then some (0,0,false) else (if (decide (x15.1<x8.2)) then some (x15.1,isub .i64 (iadd .i64 x5 x8.1) 1,true) else zp F x1 x2 x5 x8))) else zp F x1 x2 x5 x8))
def qb6 (_F:Nat)(x1:Int)(x2:Int)(x3:Bool):Option (Int×Int×Int) :=
  (if (!x3) then some (0,0,7) else (if (decide (1099511627776<x1)) then some (0,0,3) else some (x1,x2,0)))
def qag (F:Nat)(x1:Int)(x2:qyo)(x5:Int)(x6:Int):Option (Int×Int×Int) :=
  ((qck F x1 x2 x5).bind fun x8=>(if (!x8.2.2) then some (0,0,7) else (if (decide (41≤(imul .u64 x8.1 (iconv .u64 x6)))) then some (0,0,3) else (chk (decide (0≤(imul .i64 (iconv .i64 x8.1) x6))) ((lett (ishl .u64 1 (imul .i64 (iconv .i64 x8.1) x6)) fun x12=>(chk (decide (0≤x6)) (((zn F x1 x2 x8.2.1 (isub .u64 (ishl .u64 x12 x6) x12)).bind fun x20=>((qb6 F (isub .u64 (iadd .u64 x12 x20.1) 1) x20.2.1 x20.2.2).bind fun x21=>some (x21.1,x21.2.1,x21.2.2)))))))))))
def qdN (_F:Nat)(x0:Int)(x1:qyo):Option (qyo×Int×Int) :=
  some (x1,x0,0)
def qb4 (F:Nat)(x1:Int)(x2:qyo)(x7:Int)(x8:Int)(rec3:(Int×qyo×Int×Int×Bool)→Option (qyo×Int×Int))(x0:Int)(x3:qyo)(x4:Int)(x5:Int)(x6:Bool):Option (qyo×Int×Int) :=
  (if (decide (x4<x8)) then ((qag F x1 x2 x0 x7).bind fun x9=>(if ((x9.2.2:Int) != 0) then some (([]:qyo),0,x9.2.2) else ((zP F x5 x6 x9.1).bind fun x10=>(if (!x10.1) then some (([]:qyo),0,3) else ((app 8796093022208 x3 ([x10.2.1]:qyo)).bind fun x11=>rec3 (x9.2.1,x11,iadd .i64 x4 1,x10.2.1,x10.2.2)))))) else qdN F x0 x3)
def vT (F:Nat)(x1:Int)(x2:qyo)(x7:Int)(x8:Int):Nat→(Int×qyo×Int×Int×Bool)→Option (qyo×Int×Int)
  | 0=>fun _=>none
  | k+1=>fun s=>qb4 F x1 x2 x7 x8 (vT F x1 x2 x7 x8 k) s.1 s.2.1 s.2.2.1 s.2.2.2.1 s.2.2.2.2
def qdp (F:Nat)(x1:Int)(x2:qyo)(x5:Int)(x6:Int)(x7:Int)(x8:Int):Option (qyo×Int×Int) :=
  vT F x1 x2 x7 x8 F (x5,([]:qyo),0,x6,false)
def kK (_F:Nat)(x1:Bool):Option (Unit ⊕ Unit) :=
  (if (!x1) then some (.inr ()) else some (.inl ()))
def qbe (F:Nat)(x1:Int)(x2:qyo)(x5:Int):Option (Int×Int×Int) :=
  ((qck F x1 x2 x5).bind fun x7=>(if (!x7.2.2) then some (0,0,7) else some (x7.1,x7.2.1,0)))
def zH (F:Nat)(x1:Int)(x2:qyo)(x5:Int):Option (Int×Int×Int) :=
  ((qbe F x1 x2 x5).bind fun x7=>(if ((x7.2.2:Int) != 0) then some (0,0,x7.2.2) else (if (decide (64≤x7.1)) then some (0,0,3) else ((vn F x1 x2 x7.2.1 (iconv .i64 x7.1)).bind fun x10=>(if (!x10.2) then some (0,0,7) else (chk (decide (0≤x7.1)) ((lett (iadd .u64 x10.1 (isub .u64 (ishl .u64 1 x7.1) 1)) fun x16=>(if (decide (1099511627776<x16)) then some (0,0,3) else some (x16,iadd .i64 x7.2.1 (iconv .i64 x7.1),0))))))))))
def vr (F:Nat)(x1:Int)(x2:qyo)(x5:Int):Option (Int×Int×Int) :=
  ((zH F x1 x2 x5).bind fun x7=>some (x7.1,x7.2.1,x7.2.2))
def zv (F:Nat)(x2:Int)(x3:qyo)(x6:Int)(x7:Int):Option ((Int×Int×Int) ⊕ (Int×Int)) :=
  ((vr F x2 x3 x6).bind fun x9=>(lbnd (kK F (((x9.2.2:Int) == 0) && (decide (x9.1≤(iconv .u64 x7))))) (fun _x11=>some (.inl (iconv .i64 x9.1,x2,x9.2.1))) (fun _x12=>some (.inr (x2,x6)))))
def vY (_F:Nat)(x72:qyo)(x73:Int)(x74:Int):Option ((qyo×Int×Int) ⊕ (Int×Int)) :=
  some (.inl (x72,x73,x74))
def yl (F:Nat)(x3:qyo)(x7:Int)(x10:qyo)(rec3:(qyo×Int×Int×Int)→Option ((qyo×Int×Int) ⊕ (Int×Int)))(x93:qyo)(x94:Int)(x95:Int)(x96:Int):Option ((qyo×Int×Int) ⊕ (Int×Int)) :=
  (if (decide (x94<(x10.length:Int))) then (lbnd (zv F x95 x3 x96 x7) (fun x0=>((idx x93 x94).bind fun _x127=>(lett (x93.set x94.toNat (iadd .i64 x0.1 (imin x94 1))) fun x1=>rec3 (x1,iadd .i64 x94 1,x0.2.1,x0.2.2)))) (fun x2=>some (.inr (x2.1,x2.2)))) else vY F x93 x95 x96)
def zK (F:Nat)(x3:qyo)(x7:Int)(x10:qyo):Nat→(qyo×Int×Int×Int)→Option ((qyo×Int×Int) ⊕ (Int×Int))
  | 0=>fun _=>none
  | k+1=>fun s=>yl F x3 x7 x10 (zK F x3 x7 x10 k) s.1 s.2.1 s.2.2.1 s.2.2.2
def vA (F:Nat)(x2:Int)(x3:qyo)(x6:Int)(x7:Int):Option ((qyo×Int×Int) ⊕ (Int×Int)) :=
  (lbnd (zv F x2 x3 x6 (iadd .i64 x7 1)) (fun x8=>((mk 17592186044416 (0:Int) x8.1).bind fun x10=>zK F x3 x7 x10 F (x10,0,x8.2.1,x8.2.2))) (fun x9=>some (.inr (x9.1,x9.2))))
def jU (_F:Nat)(x0:List (Int×Int))(x1:Int)(x2:Int):Option ((List (Int×Int)×Int×Int) ⊕ (Int×Int)) :=
  some (.inl (x0,x1,x2))
def kD (F:Nat)(rec13:(List (Int×Int)×Int×Int×Int×Int)→Option ((List (Int×Int)×Int×Int) ⊕ (Int×Int)))(x3:qyo)(x8:Int)(x9:Int)(x0:List (Int×Int))(x1:Int)(x2:(Int×Int×Int))(x4:Int):Option ((List (Int×Int)×Int×Int) ⊕ (Int×Int)) :=
  (lbnd (zv F x2.2.1 x3 x2.2.2 x9) (fun x5=>((idx x0 x1).bind fun _x247=>(lett (x0.set x1.toNat (x4,iadd .i64 x5.1 x8)) fun x6=>((idx x6 x1).bind fun x7=>rec13 (x6,iadd .i64 x4 (isub .i64 x7.2 1),iadd .i64 x1 1,x5.2.1,x5.2.2))))) (fun x10=>some (.inr (x10.1,x10.2))))
def yC (F:Nat)(x3:qyo)(x8:Int)(x9:Int)(x13:List (Int×Int))(rec13:(List (Int×Int)×Int×Int×Int×Int)→Option ((List (Int×Int)×Int×Int) ⊕ (Int×Int)))(x0:List (Int×Int))(x1:Int)(x2:Int)(x4:Int)(x5:Int):Option ((List (Int×Int)×Int×Int) ⊕ (Int×Int)) :=
  (if (decide (x2<(x13.length:Int))) then (lbnd (zv F x4 x3 x5 2097152) (fun x6=>(if ((x2:Int) == 0) then ((jI F (iconv .u64 x6.1)).bind fun x7=>kD F rec13 x3 x8 x9 x0 x2 x6 (iadd .i64 x1 x7)) else kD F rec13 x3 x8 x9 x0 x2 x6 (iadd .i64 x1 (iadd .i64 x6.1 2)))) (fun x10=>some (.inr (x10.1,x10.2)))) else jU F x0 x4 x5)
def zl (F:Nat)(x3:qyo)(x8:Int)(x9:Int)(x13:List (Int×Int)):Nat→(List (Int×Int)×Int×Int×Int×Int)→Option ((List (Int×Int)×Int×Int) ⊕ (Int×Int))
  | 0=>fun _=>none
  | k+1=>fun s=>yC F x3 x8 x9 x13 (zl F x3 x8 x9 x13 k) s.1 s.2.1 s.2.2.1 s.2.2.2.1 s.2.2.2.2
def jp (F:Nat)(x2:Int)(x3:qyo)(x6:Int)(x7:Int)(x8:Int)(x9:Int):Option ((List (Int×Int)×Int×Int) ⊕ (Int×Int)) :=
  (chk ((x8:Int) != 0) ((lbnd (zv F x2 x3 x6 (iquo .i64 x9 x8)) (fun x11=>((mk 8796093022208 (((0:Int),(0:Int)):(Int×Int)) x11.1).bind fun x13=>zl F x3 x8 x9 x13 F (x13,x7,0,x11.2.1,x11.2.2))) (fun x12=>some (.inr (x12.1,x12.2))))))
def kP (F:Nat)(x3:qyo)(x7:Int)(x13:Int)(x15:(Int×Int×Int))(x31:qyo)(x42:List (Int×Int))(x43:Int)(x44:Int):Option ((qyo×Int×Int) ⊕ (Int×Int)) :=
  ((yB F x42 ([]:qyo)).bind fun x45=>(lbnd (kK F (((x45.2:Int) == 0) && (decide ((x45.1.length:Int)≤(isub .i64 x15.1 (x31.length:Int)))))) (fun _x49=>((qdp F x43 x3 x44 x7 x13 (isub .i64 (isub .i64 x15.1 (x31.length:Int)) (x45.1.length:Int))).bind fun x54=>(lbnd (kK F ((x54.2.2:Int) == 0)) (fun _x57=>((zi F ([x31,x45.1,x54.1]:List (qyo))).bind fun x61=>((zg F x61).bind fun x64=>(chk (decide (x64.length=x61.length)) (some (.inl (x64,x43,x54.2.1))))))) (fun _x58=>some (.inr (x43,x44)))))) (fun _x50=>some (.inr (x43,x44)))))
def kO (F:Nat)(x3:qyo)(x7:Int)(x12:Int)(x13:Int)(x15:(Int×Int×Int))(x31:qyo)(x32:Int)(x33:Int):Option ((qyo×Int×Int) ⊕ (Int×Int)) :=
  (if (((isub .i64 x15.1 (x31.length:Int)):Int) == 0) then some (.inl (x31,x32,x33)) else (if (decide (0<x12)) then (lbnd (jp F x32 x3 x33 x7 x12 (isub .i64 x15.1 (x31.length:Int))) (fun x66=>kP F x3 x7 x13 x15 x31 x66.1 x66.2.1 x66.2.2) (fun x67=>some (.inr (x67.1,x67.2)))) else kP F x3 x7 x13 x15 x31 ([]:List (Int×Int)) x32 x33))
def yM (F:Nat)(x2:Int)(x3:qyo)(x6:Int)(x7:Int)(x8:qyo)(x11:Int)(x12:Int)(x13:Int):Option ((qyo×Int×Int) ⊕ (Int×Int)) :=
  (lbnd (zv F x2 x3 x6 300) (fun x15=>(if ((x15.1:Int) == 0) then some (.inl (([]:qyo),x15.2.1,x15.2.2)) else (if (decide (0<x11)) then (lbnd (vA F x15.2.1 x3 x15.2.2 (x8.length:Int)) (fun x72=>((vv F x8 x72.1).bind fun x76=>(lbnd (kK F (((x76.2:Int) == 0) && (decide ((x76.1.length:Int)≤x15.1)))) (fun _x80=>kO F x3 x7 x12 x13 x15 x76.1 x72.2.1 x72.2.2) (fun _x81=>some (.inr (x72.2.1,x72.2.2)))))) (fun x73=>some (.inr (x73.1,x73.2)))) else kO F x3 x7 x12 x13 x15 ([]:qyo) x15.2.1 x15.2.2))) (fun x16=>some (.inr (x16.1,x16.2))))
def qcv (_F:Nat)(x17:(qyo×Int×Int)):Option (qyo×Bool×Int×Int) :=
  some (x17.1,true,x17.2.1,x17.2.2)
def yW (F:Nat)(x3:qyo)(x6:Int)(x17:(qyo×Int×Int))(x25:(Int×qyo×Bool))(rec4:Int→Option (qyo×Bool×Int×Int))(x75:Int):Option (qyo×Bool×Int×Int) :=
  (if (decide (x75<x25.1)) then ((vN F x25.1 x25.2.1 x75).bind fun x92=>((vN F x17.2.1 x3 (iadd .i64 x6 x75)).bind fun x93=>(lbnd (kK F ((x92:Int) == x93)) (fun _x94=>rec4 (iadd .i64 x75 1)) (fun _x95=>some (([]:qyo),false,x17.2.1,x17.2.2))))) else qcv F x17)
def zr (F:Nat)(x3:qyo)(x6:Int)(x17:(qyo×Int×Int))(x25:(Int×qyo×Bool)):Nat→Int→Option (qyo×Bool×Int×Int)
  | 0=>fun _=>none
  | k+1=>fun s=>yW F x3 x6 x17 x25 (zr F x3 x6 x17 x25 k) s
def yX (F:Nat)(x3:qyo)(x6:Int)(x17:(qyo×Int×Int))(x25:(Int×qyo×Bool)):Option (qyo×Bool×Int×Int) :=
  zr F x3 x6 x17 x25 F 0
def yN (F:Nat)(x2:Int)(x3:qyo)(x6:Int)(x7:Int)(x8:qyo)(x11:Int)(x12:Int)(x13:Int):Option (qyo×Bool×Int×Int) :=
  (lbnd (yM F x2 x3 x6 x7 x8 x11 x12 x13) (fun x17=>((zV F x17.1).bind fun x21=>(lbnd (kK F ((x21:Int) == 0)) (fun _x22=>((yO F 0 ([]:qyo) false x7 x17.1 x8 x11 x12 x13).bind fun x25=>(if (!x25.2.2) then (lbnd (kK F ((x25.1:Int) == (isub .i64 x17.2.2 x6))) (fun _x98=>yX F x3 x6 x17 x25) (fun _x99=>some (([]:qyo),false,x17.2.1,x17.2.2))) else (lbnd (kK F false) (fun _x100=>yX F x3 x6 x17 x25) (fun _x101=>some (([]:qyo),false,x17.2.1,x17.2.2)))))) (fun _x23=>some (([]:qyo),false,x17.2.1,x17.2.2))))) (fun x18=>some (([]:qyo),false,x18.1,x18.2)))
def vz (F:Nat)(x1:Int)(x2:qyo)(x5:Int)(x6:Int)(x7:qyo)(x10:Int)(x11:Int)(x12:Int):Option (qyo×Int×Int) :=
  ((yN F x1 x2 x5 x6 x7 x10 x11 x12).bind fun x16=>(if (!x16.2.1) then some (([]:qyo),0,1) else some (x16.1,x16.2.2.2,0)))
def qaP (F:Nat)(x1:Int)(x2:qyo)(x5:Int)(x6:Int)(x7:qyo)(x10:Int)(x11:Int)(x12:Int)(x21:Int):Option (qyo×Int×Int) :=
  (if ((x21:Int) != 0) then some (([]:qyo),0,x21) else ((vz F x1 x2 x5 x6 x7 x10 x11 x12).bind fun x23=>some (x23.1,x23.2.1,x23.2.2)))
def qaO (F:Nat)(x1:Int)(x2:qyo)(x5:Int)(x6:Int)(x7:qyo)(x10:Int)(x11:Int)(x12:Int)(x18:Int):Option (qyo×Int×Int) :=
  (if ((x18:Int) == 0) then ((qcj F x6 x7 x10 x11 x12).bind fun x27=>qaP F x1 x2 x5 x6 x7 x10 x11 x12 x27) else qaP F x1 x2 x5 x6 x7 x10 x11 x12 x18)
def qbP (F:Nat)(x1:Int)(x2:qyo)(x5:Int)(x6:Int)(x7:qyo)(x10:Int)(x11:Int)(x12:Int):Option (qyo×Int×Int) :=
  ((vy F x10 x11 x12).bind fun x15=>(if ((x15:Int) == 0) then ((jM F x1 x2 x5).bind fun x29=>qaO F x1 x2 x5 x6 x7 x10 x11 x12 x29) else qaO F x1 x2 x5 x6 x7 x10 x11 x12 x15))
def qb7 (_F:Nat)(x0:Int):Option Int :=
  (if (decide (600<x0)) then some 2 else some 0)
def qb8 (_F:Nat)(rec38:(Int×Int)→Option Int)(x0:Int)(x1:Int):Option Int :=
  rec38 (x1,iadd .i64 x0 1)
def qak (F:Nat)(rec38:(Int×Int)→Option Int)(x0:Int)(x1:Int)(x2:qyo):Option Int :=
  qb8 F rec38 x1 (iadd .i64 x0 (x2.length:Int))
def qaj (F:Nat)(rec38:(Int×Int)→Option Int)(x1:List (qyo))(x0:Int)(x2:Int)(x3:qyo)(rec45:(Int×Int)→Option Int)(x4:Int)(x5:Int):Option Int :=
  (if (decide (x5<(x3.length:Int))) then ((idx x3 x5).bind fun x6=>(if ((decide (x6<0)) || (decide ((x1.length:Int)≤x6))) then some 3 else (if (decide (x6≤x4)) then some 4 else rec45 (x6,iadd .i64 x5 1)))) else qak F rec38 x0 x2 x3)
def yi (F:Nat)(rec38:(Int×Int)→Option Int)(x1:List (qyo))(x0:Int)(x2:Int)(x3:qyo):Nat→(Int×Int)→Option Int
  | 0=>fun _=>none
  | k+1=>fun s=>qaj F rec38 x1 x0 x2 x3 (yi F rec38 x1 x0 x2 x3 k) s.1 s.2
def qai (F:Nat)(x1:List (qyo))(rec38:(Int×Int)→Option Int)(x0:Int)(x2:Int):Option Int :=
  (if (decide (x2<(x1.length:Int))) then ((idx x1 x2).bind fun x3=>yi F rec38 x1 x0 x2 x3 F (-1,0)) else qb7 F x0)
def za (F:Nat)(x1:List (qyo)):Nat→(Int×Int)→Option Int
  | 0=>fun _=>none
  | k+1=>fun s=>qai F x1 (za F x1 k) s.1 s.2
def qdd (F:Nat)(x1:List (qyo)):Option Int :=
  (if (decide (100<(x1.length:Int))) then some 2 else za F x1 F (0,0))
def qaN (F:Nat)(x1:List (qyo))(x4:qyo)(x7:Int)(x9:Int)(x10:Int)(x18:Int)(x21:qyo)(x29:qyo):Option (Int×Int×qyo×Bool) :=
  ((jo F (x1.length:Int) x4 x29 x7 x9 x10).bind fun x30=>(if (((x30.2.2:Int) != 0) || (decide (8192<(iadd .i64 x18 x30.1)))) then some (0,0,([]:qyo),false) else ((jb F x18 x21 x30.1 x30.2.1).bind fun x37=>some (x7,x37.1,x37.2,true))))
def qaM (F:Nat)(x1:List (qyo))(x4:qyo)(x7:Int)(x9:Int)(x10:Int)(x18:Int)(x21:qyo):Option (Int×Int×qyo×Bool) :=
  (if (decide (0<x7)) then ((idx x1 (isub .i64 (x1.length:Int) x7)).bind fun x41=>qaN F x1 x4 x7 x9 x10 x18 x21 x41) else qaN F x1 x4 x7 x9 x10 x18 x21 ([]:qyo))
def qec (F:Nat)(x1:List (qyo))(x4:qyo)(x7:Int)(x8:Int)(x9:Int)(x10:Int):Option (Int×Int×qyo×Bool) :=
  (if (decide (0<x8)) then ((vQ F (iconv .u64 x7)).bind fun x46=>qaM F x1 x4 x7 x9 x10 x46.1 x46.2) else qaM F x1 x4 x7 x9 x10 0 ([]:qyo))
def qdR (_F:Nat)(x96:Bool)(x97:Int)(x98:Int)(x0:qyo):Option (Int×Int×qyo×Bool) :=
  some (x97,x98,x0,x96)
def yp (_F:Nat)(rec14:(Bool×Int×Int×Int×qyo)→Option (Int×Int×qyo×Bool))(x0:Int)(x1:Bool)(x2:Int)(x3:Int)(x4:qyo):Option (Int×Int×qyo×Bool) :=
  rec14 (x1,iadd .i64 x0 1,x2,x3,x4)
def qbx (F:Nat)(rec14:(Bool×Int×Int×Int×qyo)→Option (Int×Int×qyo×Bool))(x0:Bool)(x1:Int)(x2:Int)(x3:Int)(x4:qyo)(x5:(Int×Int×qyo×Bool))(x6:Bool):Option (Int×Int×qyo×Bool) :=
  (if x6 then yp F rec14 x1 true x5.1 x5.2.1 x5.2.2.1 else yp F rec14 x1 x0 x2 x3 x4)
def qbw (F:Nat)(x1:List (qyo))(x4:qyo)(x7:Int)(x8:Int)(x9:Int)(rec14:(Bool×Int×Int×Int×qyo)→Option (Int×Int×qyo×Bool))(x0:Bool)(x2:Int)(x3:Int)(x5:Int)(x6:qyo):Option (Int×Int×qyo×Bool) :=
  (if (decide (x2<(iadd .i64 (imin x7 (x1.length:Int)) 1))) then ((qec F x1 x4 x2 x7 x8 x9).bind fun x10=>(if x10.2.2.2 then qbx F rec14 x0 x2 x3 x5 x6 x10 ((!x0) || (decide (x10.2.1<x5))) else qbx F rec14 x0 x2 x3 x5 x6 x10 false)) else qdR F x0 x3 x5 x6)
def zT (F:Nat)(x1:List (qyo))(x4:qyo)(x7:Int)(x8:Int)(x9:Int):Nat→(Bool×Int×Int×Int×qyo)→Option (Int×Int×qyo×Bool)
  | 0=>fun _=>none
  | k+1=>fun s=>qbw F x1 x4 x7 x8 x9 (zT F x1 x4 x7 x8 x9 k) s.1 s.2.1 s.2.2.1 s.2.2.2.1 s.2.2.2.2
def qeb (F:Nat)(x1:List (qyo))(x4:qyo)(x7:Int)(x8:Int)(x9:Int):Option (Int×Int×qyo×Bool) :=
  zT F x1 x4 x7 x8 x9 F (false,0,0,0,([]:qyo))
def jk (_F:Nat)(x2:Int)(x3:Int)(x4:Int)(x5:Int)(x0:Int)(x1:qyo)(x6:qyo)(x7:qyo):Option (Bool×Int×Int×Int×Int×Int×qyo×qyo×qyo) :=
  some (true,x2,x3,x4,x5,x0,x1,x6,x7)
def ku (F:Nat)(rec43:(Int×Int×qyo×qyo×qyo)→Option (Bool×Int×Int×Int×Int×Int×qyo×qyo×qyo))(x0:Int)(x1:Int)(x2:qyo)(x3:Int)(x4:qyo)(x5:qyo)(x6:qyo):Option (Bool×Int×Int×Int×Int×Int×qyo×qyo×qyo) :=
  ((jb F x1 x2 x3 x4).bind fun x7=>rec43 (iadd .i64 x0 1,x7.1,x7.2,x5,x6))
def kr (F:Nat)(rec43:(Int×Int×qyo×qyo×qyo)→Option (Bool×Int×Int×Int×Int×Int×qyo×qyo×qyo))(x2:Int)(x3:Int)(x4:Int)(x5:Int)(x0:Int)(x1:Int)(x6:qyo)(x7:qyo)(x8:qyo)(x9:Int)(x10:Int)(x11:qyo)(x12:Bool):Option (Bool×Int×Int×Int×Int×Int×qyo×qyo×qyo) :=
  (if x12 then some (false,x2,x3,x4,x5,x1,x6,x7,x8) else ((app 8796093022208 x7 ([x9]:qyo)).bind fun x13=>((app 8796093022208 x8 ([x1]:qyo)).bind fun x14=>ku F rec43 x0 x1 x6 x10 x11 x13 x14)))
def yA (F:Nat)(rec43:(Int×Int×qyo×qyo×qyo)→Option (Bool×Int×Int×Int×Int×Int×qyo×qyo×qyo))(x2:Int)(x3:Int)(x4:Int)(x5:Int)(x0:Int)(x1:Int)(x6:qyo)(x7:qyo)(x8:qyo)(x9:Bool)(x10:Int)(x11:Int)(x12:qyo):Option (Bool×Int×Int×Int×Int×Int×qyo×qyo×qyo) :=
  (if (!x9) then kr F rec43 x2 x3 x4 x5 x0 x1 x6 x7 x8 x10 x11 x12 true else kr F rec43 x2 x3 x4 x5 x0 x1 x6 x7 x8 x10 x11 x12 (decide (8192<(iadd .i64 x1 x11))))
def yz (F:Nat)(x2:Int)(x3:Int)(x4:Int)(x5:Int)(x16:List (qyo))(rec43:(Int×Int×qyo×qyo×qyo)→Option (Bool×Int×Int×Int×Int×Int×qyo×qyo×qyo))(x0:Int)(x1:Int)(x6:qyo)(x7:qyo)(x8:qyo):Option (Bool×Int×Int×Int×Int×Int×qyo×qyo×qyo) :=
  (if (decide (x0<(x16.length:Int))) then ((idx x16 x0).bind fun x9=>((sub x16 0 x0).bind fun x10=>((qeb F x10 x9 x3 x4 x5).bind fun x11=>yA F rec43 x2 x3 x4 x5 x0 x1 x6 x7 x8 x11.2.2.2 x11.1 x11.2.1 x11.2.2.1))) else jk F x2 x3 x4 x5 x1 x6 x7 x8)
def qJ (F:Nat)(x2:Int)(x3:Int)(x4:Int)(x5:Int)(x16:List (qyo)):Nat→(Int×Int×qyo×qyo×qyo)→Option (Bool×Int×Int×Int×Int×Int×qyo×qyo×qyo)
  | 0=>fun _=>none
  | k+1=>fun s=>yz F x2 x3 x4 x5 x16 (qJ F x2 x3 x4 x5 x16 k) s.1 s.2.1 s.2.2.1 s.2.2.2.1 s.2.2.2.2
def qbJ (F:Nat)(x2:Int)(x3:Int)(x4:Int)(x5:Int)(x6:Int)(x7:qyo)(x10:qyo)(x13:qyo)(x16:List (qyo)):Option (Bool×Int×Int×Int×Int×Int×qyo×qyo×qyo) :=
  qJ F x2 x3 x4 x5 x16 F (0,x6,x7,x10,x13)
def yG (_F:Nat)(x48:Int)(x49:Int)(x50:Int)(x51:Int)(x52:Int)(x53:Int)(x56:qyo)(x59:qyo)(x62:qyo):Option (Int×Int×Int×Int×Int×qyo×qyo×qyo×Int) :=
  some (x49,x50,x51,x52,x53,x56,x59,x62,x48)
def yH (F:Nat)(x12:Int)(x74:Bool)(x75:Int)(x76:Int)(x77:Int)(x78:Int)(x79:Int)(x82:qyo)(x85:qyo)(x88:qyo):Option (Int×Int×Int×Int×Int×qyo×qyo×qyo×Int) :=
  (if x74 then yG F 8 x75 x76 x77 x78 x79 x82 x85 x88 else yG F x12 x75 x76 x77 x78 x79 x82 x85 x88)
def vU (F:Nat)(x1:List (qyo))(x4:Int)(x5:Int)(x6:Int)(x12:Int):Option (Int×Int×Int×Int×Int×qyo×qyo×qyo×Int) :=
  (if ((x12:Int) == 0) then ((qbJ F (x1.length:Int) x4 x5 x6 0 ([]:qyo) ([]:qyo) ([]:qyo) x1).bind fun x90=>yH F x12 (!x90.1) x90.2.1 x90.2.2.1 x90.2.2.2.1 x90.2.2.2.2.1 x90.2.2.2.2.2.1 x90.2.2.2.2.2.2.1 x90.2.2.2.2.2.2.2.1 x90.2.2.2.2.2.2.2.2) else yH F x12 false (x1.length:Int) x4 x5 x6 0 ([]:qyo) ([]:qyo) ([]:qyo))
def qbf (F:Nat)(x1:List (qyo))(x4:Int)(x5:Int)(x6:Int):Option (Int×Int×Int×Int×Int×qyo×qyo×qyo×Int) :=
  ((qdd F x1).bind fun x9=>(if ((x9:Int) == 0) then ((vy F x4 x5 x6).bind fun x97=>vU F x1 x4 x5 x6 x97) else vU F x1 x4 x5 x6 x9))
def yx (F:Nat)(x1:List (qyo))(x4:Int)(x5:Int)(x6:Int):Option (Int×Int×Int×Int×Int×qyo×Int) :=
  ((qbf F x1 x4 x5 x6).bind fun x10=>(if ((x10.2.2.2.2.2.2.2.2:Int) != 0) then some (0,0,0,0,0,([]:qyo),x10.2.2.2.2.2.2.2.2) else some (x10.1,x10.2.1,x10.2.2.1,x10.2.2.2.1,x10.2.2.2.2.1,x10.2.2.2.2.2.1,0)))
def qdy (F:Nat)(x1:Int)(x2:Int)(x3:Int)(x4:Int)(x5:Int)(x6:qyo):Option Int :=
  (if ((decide (x1<0)) || (decide (100<x1))) then some 3 else ((vy F x2 x3 x4).bind fun x15=>(if ((x15:Int) != 0) then some x15 else ((yw F x5 x6).bind fun x16=>some x16))))
def qde (_F:Nat)(x13:(Int×Int×Int))(x18:Bool):Option (Int×Int×Bool) :=
  (if x18 then some (0,0,false) else some (iconv .i64 x13.1,x13.2.1,true))
def qdQ (F:Nat)(_x1:Int)(x2:Int)(_x3:Int)(_x4:Int)(x5:Int)(x6:qyo)(x9:Int)(x10:Int):Option (Int×Int×Bool) :=
  (if ((x2:Int) == 0) then some (0,x9,true) else ((vr F x5 x6 x9).bind fun x13=>(if ((x13.2.2:Int) != 0) then qde F x13 true else qde F x13 (decide ((iconv .u64 (imin x2 x10))<x13.1)))))
def qdu (_F:Nat)(x5:Int)(x0:List (qyo))(x1:Int):Option (List (qyo)×Bool) :=
  some (x0,((x1:Int) == x5))
def jA (_F:Nat)(rec8:(List (qyo)×Int×Int)→Option (List (qyo)×Bool))(x0:Int)(x1:List (qyo))(x2:Int):Option (List (qyo)×Bool) :=
  rec8 (x1,x2,iadd .i64 x0 1)
def qby (F:Nat)(x1:Int)(x2:Int)(x3:Int)(x4:Int)(x5:Int)(x6:qyo)(rec8:(List (qyo)×Int×Int)→Option (List (qyo)×Bool))(x0:List (qyo))(x7:Int)(x8:Int):Option (List (qyo)×Bool) :=
  (if (decide (x8<x1)) then ((qdQ F x1 x2 x3 x4 x5 x6 x7 x8).bind fun x9=>(if (!x9.2.2) then some (([]:List (qyo)),false) else (if (decide (0<x9.1)) then ((idx x0 (isub .i64 x8 x9.1)).bind fun x10=>((vz F x5 x6 x9.2.1 x8 x10 x9.1 x3 x4).bind fun x11=>(if ((x11.2.2:Int) != 0) then some (([]:List (qyo)),false) else ((app 2199023255552 x0 ([x11.1]:List (qyo))).bind fun x12=>jA F rec8 x8 x12 x11.2.1)))) else ((vz F x5 x6 x9.2.1 x8 ([]:qyo) x9.1 x3 x4).bind fun x13=>(if ((x13.2.2:Int) != 0) then some (([]:List (qyo)),false) else ((app 2199023255552 x0 ([x13.1]:List (qyo))).bind fun x14=>jA F rec8 x8 x14 x13.2.1)))))) else qdu F x5 x0 x7)
def kJ (F:Nat)(x1:Int)(x2:Int)(x3:Int)(x4:Int)(x5:Int)(x6:qyo):Nat→(List (qyo)×Int×Int)→Option (List (qyo)×Bool)
  | 0=>fun _=>none
  | k+1=>fun s=>qby F x1 x2 x3 x4 x5 x6 (kJ F x1 x2 x3 x4 x5 x6 k) s.1 s.2.1 s.2.2
def qeE (F:Nat)(x1:Int)(x2:Int)(x3:Int)(x4:Int)(x5:Int)(x6:qyo):Option (List (qyo)×Bool) :=
  kJ F x1 x2 x3 x4 x5 x6 F (([]:List (qyo)),0,0)
def qax (_F:Nat):Option Bool :=
  some true
def zo (F:Nat)(x1:qyo)(x4:qyo)(rec3:Int→Option Bool)(x0:Int):Option Bool :=
  (if (decide (x0<(x1.length:Int))) then ((idx x1 x0).bind fun x2=>((idx x4 x0).bind fun x3=>(if ((x2:Int) != x3) then some false else rec3 (iadd .i64 x0 1)))) else qax F)
def qR (F:Nat)(x1:qyo)(x4:qyo):Nat→Int→Option Bool
  | 0=>fun _=>none
  | k+1=>fun s=>zo F x1 x4 (qR F x1 x4 k) s
def qU (F:Nat)(x1:qyo)(x4:qyo):Option Bool :=
  (if (((x1.length:Int):Int) != (x4.length:Int)) then some false else qR F x1 x4 F 0)
def qb9 (_F:Nat)(x14:(List (qyo)×Bool))(x34:Bool):Option (List (qyo)×Int) :=
  (if x34 then some (([]:List (qyo)),1) else some (x14.1,0))
def qaK (F:Nat)(x1:Int)(x2:Int)(x3:Int)(x4:Int)(x5:Int)(x6:qyo):Option (List (qyo)×Int) :=
  ((qdy F x1 x2 x3 x4 x5 x6).bind fun x13=>(if ((x13:Int) != 0) then some (([]:List (qyo)),x13) else ((qeE F x1 x2 x3 x4 x5 x6).bind fun x14=>(if (!x14.2) then some (([]:List (qyo)),1) else ((yx F x14.1 x2 x3 x4).bind fun x28=>(if ((x28.2.2.2.2.2.2:Int) != 0) then qb9 F x14 true else ((qU F x28.2.2.2.2.2.1 x6).bind fun x36=>qb9 F x14 (!x36))))))))
def qaL (F:Nat)(x1:List (qyo))(x4:Int)(x5:Int)(x6:Int):Option (qyo×qyo×Int) :=
  ((qbf F x1 x4 x5 x6).bind fun x9=>(if ((x9.2.2.2.2.2.2.2.2:Int) != 0) then some (([]:qyo),([]:qyo),x9.2.2.2.2.2.2.2.2) else some (x9.2.2.2.2.2.2.1,x9.2.2.2.2.2.2.2.1,0)))
def qbD (_F:Nat)(x13:Int):Option Int :=
  some x13
def qbE (F:Nat)(x7:Int)(x16:Bool):Option Int :=
  (if x16 then qbD F 3 else qbD F x7)
def qcf (F:Nat)(x1:Int)(x2:qyo)(x5:Int):Option Int :=
  ((yw F x1 x2).bind fun x7=>(if ((x7:Int) == 0) then qbE F x7 ((decide (x5<1)) || (decide (64<x5))) else qbE F x7 false))
def qfc (_F:Nat)(x23:Int):Option Int :=
  some x23
def qcg (F:Nat)(x1:Int)(x2:qyo)(x6:Int)(rec3:(Int×Int)→Option Int)(x28:Int)(x29:Int):Option Int :=
  (if (decide (x29<x6)) then ((vN F x1 x2 x29).bind fun x37=>rec3 (iadd .i64 x28 (iconv .i64 x37),iadd .i64 x29 1)) else qfc F x28)
def vW (F:Nat)(x1:Int)(x2:qyo)(x6:Int):Nat→(Int×Int)→Option Int
  | 0=>fun _=>none
  | k+1=>fun s=>qcg F x1 x2 x6 (vW F x1 x2 x6 k) s.1 s.2
def qbO (F:Nat)(x1:Int)(x2:qyo)(x5:Int)(x6:Int):Option Int :=
  vW F x1 x2 x6 F (0,x5)
def qe3 (_F:Nat)(x82:qyo):Option (qyo) :=
  some x82
def qbC (F:Nat)(x1:Int)(x2:qyo)(x5:Int)(rec3:(qyo×Int)→Option (qyo))(x0:qyo)(x3:Int):Option (qyo) :=
  (if (decide (x3≤x1)) then ((idx x0 (isub .i64 (x0.length:Int) 1)).bind fun x4=>((qbO F x1 x2 (isub .i64 x3 x5) x3).bind fun x6=>((app 8796093022208 x0 ([iadd .i64 x4 x6]:qyo)).bind fun x7=>rec3 (x7,iadd .i64 x3 x5)))) else qe3 F x0)
def vd (F:Nat)(x1:Int)(x2:qyo)(x5:Int):Nat→(qyo×Int)→Option (qyo)
  | 0=>fun _=>none
  | k+1=>fun s=>qbC F x1 x2 x5 (vd F x1 x2 x5 k) s.1 s.2
def qce (F:Nat)(x1:Int)(x2:qyo)(x5:Int):Option (qyo) :=
  vd F x1 x2 x5 F (([0]:qyo),x5)
def qcd (F:Nat)(x1:Int)(x2:qyo)(x5:Int):Option (Int×qyo×Int) :=
  ((qcf F x1 x2 x5).bind fun x10=>(if ((x10:Int) != 0) then some (0,([]:qyo),x10) else ((qce F x1 x2 x5).bind fun x11=>some (x5,x11,0))))
def qe0 (_F:Nat):Option Int :=
  some 0
def qbu (F:Nat)(x1:qyo)(x4:Int)(rec3:(Int×Int)→Option Int)(x92:Int)(x93:Int):Option Int :=
  (if (decide (x93<(x1.length:Int))) then ((idx x1 x93).bind fun x0=>(if ((decide (x0<0)) || (decide (x4<x0))) then some 3 else (if (decide (x0<x92)) then some 4 else rec3 (x0,iadd .i64 x93 1)))) else qe0 F)
def y9 (F:Nat)(x1:qyo)(x4:Int):Nat→(Int×Int)→Option Int
  | 0=>fun _=>none
  | k+1=>fun s=>qbu F x1 x4 (y9 F x1 x4 k) s.1 s.2
def qb0 (F:Nat)(x1:qyo)(x4:Int):Option Int :=
  (if ((decide (x4<0)) || (decide (1048576<x4))) then some 3 else (if (decide (300<(x1.length:Int))) then some 2 else y9 F x1 x4 F (0,0)))
def qe1 (_F:Nat)(x35:Int):Option Int :=
  some x35
def vR (F:Nat)(rec13:Int→Option Int)(x46:Int)(x65:Bool):Option Int :=
  (if x65 then rec13 (iadd .i64 x46 1) else qe1 F x46)
def qa4 (F:Nat)(x1:Int)(x2:Int)(rec13:Int→Option Int)(x46:Int):Option Int :=
  (if (decide (0<x1)) then (chk (decide (0≤(iadd .i64 x46 1))) (vR F rec13 x46 (decide ((ishl .i64 x1 (iadd .i64 x46 1))≤(iadd .i64 x2 1))))) else vR F rec13 x46 false)
def kU (F:Nat)(x1:Int)(x2:Int):Nat→Int→Option Int
  | 0=>fun _=>none
  | k+1=>fun s=>qa4 F x1 x2 (kU F x1 x2 k) s
def qb2 (F:Nat)(x1:Int)(x2:Int):Option Int :=
  kU F x1 x2 F 0
def yT (F:Nat)(x7:Int)(rec1:(Int×qyo×Int)→Option (Int×qyo×Int))(x16:Int)(x19:qyo)(x20:Int):Option (Int×qyo×Int) :=
  (if (decide (x20<x7)) then ((yJ F x16 x19 0 1).bind fun x34=>rec1 (x34.1,x34.2,iadd .i64 x20 1)) else some (x16,x19,x20))
def zZ (F:Nat)(x7:Int):Nat→(Int×qyo×Int)→Option (Int×qyo×Int)
  | 0=>fun _=>none
  | k+1=>fun s=>yT F x7 (zZ F x7 k) s.1 s.2.1 s.2.2
def yK (F:Nat)(x2:Int)(x3:qyo)(x6:Int)(x7:Int):Option (Int×qyo×Int) :=
  zZ F x7 F (x2,x3,x6)
def qem (F:Nat)(x1:qyo)(x4:Int)(x6:Int)(x0:Int)(x2:qyo)(x3:Int)(x5:Int)(x7:qyo):Option (Int×Int×Int×Int×qyo×Int×qyo×Bool) :=
  ((yK F x0 x2 x3 (iadd .i64 (ishr .i64 x4 x6) 1)).bind fun x8=>some ((x1.length:Int),x4,x6,x5,x7,x8.1,x8.2.1,true))
def qc8 (F:Nat)(x1:qyo)(x4:Int)(x6:Int)(rec3:(Int×Int×qyo×Int×Int×qyo)→Option (Int×Int×Int×Int×qyo×Int×qyo×Bool))(x0:Int)(x2:Int)(x3:qyo)(x5:Int)(x7:Int)(x8:qyo):Option (Int×Int×Int×Int×qyo×Int×qyo×Bool) :=
  (if (decide (x0<(x1.length:Int))) then ((idx x1 x0).bind fun x9=>(chk (decide (0≤x6)) (((yJ F x7 x8 (iconv .u64 (iand .i64 x9 (isub .i64 (ishl .i64 1 x6) 1))) x6).bind fun x10=>(chk (decide (0≤x6)) (((yK F x2 x3 x5 (ishr .i64 x9 x6)).bind fun x11=>((yJ F x11.1 x11.2.1 1 1).bind fun x12=>rec3 (iadd .i64 x0 1,x12.1,x12.2,x11.2.2,x10.1,x10.2))))))))) else qem F x1 x4 x6 x2 x3 x5 x7 x8)
def jN (F:Nat)(x1:qyo)(x4:Int)(x6:Int):Nat→(Int×Int×qyo×Int×Int×qyo)→Option (Int×Int×Int×Int×qyo×Int×qyo×Bool)
  | 0=>fun _=>none
  | k+1=>fun s=>qc8 F x1 x4 x6 (jN F x1 x4 x6 k) s.1 s.2.1 s.2.2.1 s.2.2.2.1 s.2.2.2.2.1 s.2.2.2.2.2
def qdL (F:Nat)(x1:qyo)(x4:Int):Option (Int×Int×Int×Int×qyo×Int×qyo×Bool) :=
  ((qb2 F (x1.length:Int) x4).bind fun x6=>(chk (decide (0≤x6)) ((if ((decide (8192<(imul .i64 (x1.length:Int) x6))) || (decide (8192<(iadd .i64 (x1.length:Int) (iadd .i64 (ishr .i64 x4 x6) 1))))) then some (0,0,0,0,([]:qyo),0,([]:qyo),false) else jN F x1 x4 x6 F (0,0,([]:qyo),0,0,([]:qyo))))))
def vt (F:Nat)(x1:qyo)(x4:Int):Option (Int×Int×Int×Int×qyo×Int×qyo×Int) :=
  ((qb0 F x1 x4).bind fun x8=>(if ((x8:Int) != 0) then some (0,0,0,0,([]:qyo),0,([]:qyo),x8) else ((qdL F x1 x4).bind fun x9=>(if (!x9.2.2.2.2.2.2.2) then some (0,0,0,0,([]:qyo),0,([]:qyo),8) else some (x9.1,x9.2.1,x9.2.2.1,x9.2.2.2.1,x9.2.2.2.2.1,x9.2.2.2.2.2.1,x9.2.2.2.2.2.2.1,0)))))
def qdh (_F:Nat)(_x1:Int)(_x2:qyo)(_x5:Int):Option Unit :=
  some ()
def kg {σ τ:Type}(_F:Nat)(_yy:σ→Int→Option (σ ⊕ τ))(rec3:(Int×σ)→Option (σ ⊕ τ))(x36:Int)(x81:σ):Option (σ ⊕ τ) :=
  rec3 (iadd .i64 x36 1,x81)
def kV {σ τ:Type}(F:Nat)(yy:σ→Int→Option (σ ⊕ τ))(x2:Int)(x3:qyo)(x7:Int)(rec3:(Int×σ)→Option (σ ⊕ τ))(x36:Int)(x37:σ):Option (σ ⊕ τ) :=
  (if (decide (x36<x2)) then ((vN F x2 x3 x36).bind fun x89=>(if ((x89:Int) == x7) then ((yy x37 x36).bind (Sum.elim (fun x91=>kg F yy rec3 x36 x91) (fun x92=>some (.inr x92)))) else kg F yy rec3 x36 x37)) else some (.inl x37))
def qS {σ τ:Type}(F:Nat)(yy:σ→Int→Option (σ ⊕ τ))(x2:Int)(x3:qyo)(x7:Int):Nat→(Int×σ)→Option (σ ⊕ τ)
  | 0=>fun _=>none
  | k+1=>fun s=>kV F yy x2 x3 x7 (qS F yy x2 x3 x7 k) s.1 s.2
def qbF {σ τ:Type}(F:Nat)(yy:σ→Int→Option (σ ⊕ τ))(x2:Int)(x3:qyo)(x7:Int)(s0:σ):Option (σ ⊕ τ) :=
  qS F yy x2 x3 x7 F (0,s0)
def qT (_F:Nat)(x31:Int)(x37:Int):Option (Int ⊕ (Int×Int)) :=
  (if ((x31:Int) == 0) then some (.inr (x37,x31)) else some (.inl (isub .i64 x31 1)))
def vw (F:Nat)(x1:Int)(x2:qyo)(x5:Int)(x6:Int):Option Int :=
  ((qdh F x1 x2 x5).bind fun _x25=>((qbF F (fun (x31:Int) (x37:Int)=>qT F x31 x37) x1 x2 x5 x6).bind (Sum.elim (fun (_x31:Int)=>some (-1)) (fun ((x35,_x36):(Int×Int))=>some x35))))
def qa3 (F:Nat)(_x1:Int)(_x2:Int)(x3:Int)(x4:Int)(x5:qyo)(x8:Int)(x9:qyo)(x12:Int):Option Int :=
  ((vw F x8 x9 1 x12).bind fun x14=>((vn F x4 x5 (imul .i64 x12 x3) x3).bind fun x15=>(chk (decide (0≤x3)) ((lett (ior .i64 (ishl .i64 (isub .i64 x14 x12) x3) (iconv .i64 x15.1)) fun x17=>some x17)))))
def qaD (_F:Nat)(x13:Bool):Option Bool :=
  some x13
def qdo (F:Nat)(x1:Int)(x2:qyo)(x5:Int)(x6:qyo):Option Bool :=
  (if ((x1:Int) == x5) then ((qU F x2 x6).bind fun x14=>qaD F x14) else qaD F false)
def qb1 (_F:Nat)(x99:qyo)(x0:Bool):Option (qyo×Int) :=
  (if x0 then some (([]:qyo),1) else some (x99,0))
def qae (F:Nat)(x8:Int)(x9:qyo)(x99:qyo)(x0:(Int×Int×Int×Int×qyo×Int×qyo×Bool))(x1:Bool):Option (qyo×Int) :=
  (if x1 then qb1 F x99 true else ((qdo F x0.2.2.2.2.2.1 x0.2.2.2.2.2.2.1 x8 x9).bind fun x2=>qb1 F x99 (!x2)))
def yg (F:Nat)(x2:Int)(x4:Int)(x5:qyo)(x8:Int)(x9:qyo)(x99:qyo):Option (qyo×Int) :=
  ((qb0 F x99 x2).bind fun x0=>(if ((x0:Int) != 0) then some (([]:qyo),1) else ((qdL F x99 x2).bind fun x1=>(if (!x1.2.2.2.2.2.2.2) then qae F x8 x9 x99 x1 true else ((qdo F x1.2.2.2.1 x1.2.2.2.2.1 x4 x5).bind fun x3=>qae F x8 x9 x99 x1 (!x3))))))
def qad (F:Nat)(x1:Int)(x2:Int)(x3:Int)(x4:Int)(x5:qyo)(x8:Int)(x9:qyo)(rec9:(qyo×Int)→Option (qyo×Int))(x0:qyo)(x6:Int):Option (qyo×Int) :=
  (if (decide (x6<x1)) then ((qa3 F x1 x2 x3 x4 x5 x8 x9 x6).bind fun x7=>((app 8796093022208 x0 ([x7]:qyo)).bind fun x10=>rec9 (x10,iadd .i64 x6 1))) else yg F x2 x4 x5 x8 x9 x0)
def yh (F:Nat)(x1:Int)(x2:Int)(x3:Int)(x4:Int)(x5:qyo)(x8:Int)(x9:qyo):Nat→(qyo×Int)→Option (qyo×Int)
  | 0=>fun _=>none
  | k+1=>fun s=>qad F x1 x2 x3 x4 x5 x8 x9 (yh F x1 x2 x3 x4 x5 x8 x9 k) s.1 s.2
def zz (F:Nat)(x1:Int)(x2:Int)(x3:Int)(x4:Int)(x5:qyo)(x8:Int)(x9:qyo)(x49:Bool):Option (qyo×Int) :=
  (if x49 then some (([]:qyo),1) else yh F x1 x2 x3 x4 x5 x8 x9 F (([]:qyo),0))
def kq (F:Nat)(x1:Int)(x2:Int)(x3:Int)(x4:Int)(x5:qyo)(x8:Int)(x9:qyo):Option (qyo×Int) :=
  (if ((((decide (x1<0)) || (decide (300<x1))) || (decide (x2<0))) || (decide (1048576<x2))) then some (([]:qyo),3) else ((qb2 F x1 x2).bind fun x0=>(if ((x3:Int) != x0) then zz F x1 x2 x3 x4 x5 x8 x9 true else ((yw F x4 x5).bind fun x6=>(if ((x6:Int) != 0) then zz F x1 x2 x3 x4 x5 x8 x9 true else ((yw F x8 x9).bind fun x7=>(if ((x7:Int) != 0) then zz F x1 x2 x3 x4 x5 x8 x9 true else (if ((x4:Int) != (imul .i64 x1 x3)) then zz F x1 x2 x3 x4 x5 x8 x9 true else ((vw F x8 x9 1 (isub .i64 x1 1)).bind fun x10=>(if (decide (x10<0)) then zz F x1 x2 x3 x4 x5 x8 x9 (decide (0<x1)) else zz F x1 x2 x3 x4 x5 x8 x9 false))))))))))
def qdn (F:Nat)(x1:Int)(x2:Int)(x3:Int)(x4:Int)(x5:qyo)(x8:Int)(x9:qyo):Option (qyo×Int) :=
  ((kq F x1 x2 x3 x4 x5 x8 x9).bind fun x13=>some (x13.1,x13.2))
def jS (F:Nat)(x1:List (qyo))(x4:Int)(x5:Int)(x6:Int)(x7:Int)(x8:Int)(x9:qyo):Option (Int×Int×Int×Int×Int×qyo×Int×Int×Int×Int×qyo×Int×qyo×Int) :=
  ((qaL F x1 x5 x6 x7).bind fun x15=>(if ((x15.2.2:Int) != 0) then some (0,0,0,0,0,([]:qyo),0,0,0,0,([]:qyo),0,([]:qyo),x15.2.2) else ((vt F x15.2.1 x8).bind fun x21=>(if ((x21.2.2.2.2.2.2.2:Int) != 0) then some (0,0,0,0,0,([]:qyo),0,0,0,0,([]:qyo),0,([]:qyo),x21.2.2.2.2.2.2.2) else some (x4,x5,x6,x7,x8,x9,x21.1,x21.2.1,x21.2.2.1,x21.2.2.2.1,x21.2.2.2.2.1,x21.2.2.2.2.2.1,x21.2.2.2.2.2.2.1,0)))))
def qbj (F:Nat)(x1:List (qyo))(x4:Int)(x5:Int)(x6:Int):Option (Int×Int×Int×Int×Int×qyo×Int×Int×Int×Int×qyo×Int×qyo×Int) :=
  ((yx F x1 x4 x5 x6).bind fun x10=>(if ((x10.2.2.2.2.2.2:Int) != 0) then some (0,0,0,0,0,([]:qyo),0,0,0,0,([]:qyo),0,([]:qyo),x10.2.2.2.2.2.2) else ((jS F x1 x10.1 x10.2.1 x10.2.2.1 x10.2.2.2.1 x10.2.2.2.2.1 x10.2.2.2.2.2.1).bind fun x15=>some (x15.1,x15.2.1,x15.2.2.1,x15.2.2.2.1,x15.2.2.2.2.1,x15.2.2.2.2.2.1,x15.2.2.2.2.2.2.1,x15.2.2.2.2.2.2.2.1,x15.2.2.2.2.2.2.2.2.1,x15.2.2.2.2.2.2.2.2.2.1,x15.2.2.2.2.2.2.2.2.2.2.1,x15.2.2.2.2.2.2.2.2.2.2.2.1,x15.2.2.2.2.2.2.2.2.2.2.2.2.1,x15.2.2.2.2.2.2.2.2.2.2.2.2.2))))
def qbH (_F:Nat)(x34:Bool):Option Bool :=
  some x34
def qbG (F:Nat)(x9:qyo)(x20:qyo)(x31:Bool):Option Bool :=
  (if x31 then ((qU F x9 x20).bind fun x35=>qbH F x35) else qbH F false)
def qdA (F:Nat)(x1:Int)(x2:Int)(x3:Int)(x4:Int)(x5:qyo)(x8:Int)(x9:qyo)(x12:Int)(x13:Int)(x14:Int)(x15:Int)(x16:qyo)(x19:Int)(x20:qyo):Option Bool :=
  (if ((((((x1:Int) == x12) && ((x2:Int) == x13)) && ((x3:Int) == x14)) && ((x4:Int) == x15)) && ((x8:Int) == x19)) then ((qU F x5 x16).bind fun x36=>qbG F x9 x20 x36) else qbG F x9 x20 false)
def qdv (F:Nat)(x1:List (qyo))(x4:Int)(x5:Int)(x6:Int)(x7:Int)(x8:Int)(x9:qyo):Option (Int×Int×Int×Int×Int×qyo×Int×Int×Int×Int×qyo×Int×qyo×Int) :=
  ((qaL F x1 x5 x6 x7).bind fun x15=>(if ((x15.2.2:Int) != 0) then some (0,0,0,0,0,([]:qyo),0,0,0,0,([]:qyo),0,([]:qyo),x15.2.2) else ((vt F x15.2.1 x8).bind fun x21=>(if ((x21.2.2.2.2.2.2.2:Int) != 0) then some (0,0,0,0,0,([]:qyo),0,0,0,0,([]:qyo),0,([]:qyo),x21.2.2.2.2.2.2.2) else some (x4,x5,x6,x7,x8,x9,x21.1,x21.2.1,x21.2.2.1,x21.2.2.2.1,x21.2.2.2.2.1,x21.2.2.2.2.2.1,x21.2.2.2.2.2.2.1,0)))))
def vX (_F:Nat)(x49:Bool):Option Int :=
  (if x49 then some 4 else some 0)
def jR (F:Nat)(x1:Int)(x2:Int)(x3:Int)(x4:Int)(x5:Int)(x6:qyo)(x9:Int)(x10:Int)(x11:Int)(x12:Int)(x13:qyo)(x16:Int)(x17:qyo):Option Int :=
  ((qaK F x1 x2 x3 x4 x5 x6).bind fun x21=>(if ((x21.2:Int) != 0) then some x21.2 else ((qdv F x21.1 x1 x2 x3 x4 x5 x6).bind fun x39=>(if ((x39.2.2.2.2.2.2.2.2.2.2.2.2.2:Int) != 0) then vX F true else ((qdA F x39.2.2.2.2.2.2.1 x39.2.2.2.2.2.2.2.1 x39.2.2.2.2.2.2.2.2.1 x39.2.2.2.2.2.2.2.2.2.1 x39.2.2.2.2.2.2.2.2.2.2.1 x39.2.2.2.2.2.2.2.2.2.2.2.1 x39.2.2.2.2.2.2.2.2.2.2.2.2.1 x9 x10 x11 x12 x13 x16 x17).bind fun x51=>vX F (!x51))))))
def qbZ (F:Nat)(x1:Int)(x2:Int)(x3:Int)(x4:Int)(x5:qyo)(x8:Int)(x9:qyo):Option Int :=
  ((kq F x1 x2 x3 x4 x5 x8 x9).bind fun x13=>some x13.2)
def qc6 (F:Nat)(x1:Int)(x2:Int)(x3:Int)(x4:Int)(x5:qyo)(x8:Int)(x9:qyo)(x12:Int)(x20:Int):Option (Int×Int) :=
  (if ((x20:Int) != 0) then some (0,x20) else ((qa3 F x1 x2 x3 x4 x5 x8 x9 x12).bind fun x22=>some (x22,0)))
def qc7 (F:Nat)(x1:Int)(x2:Int)(x3:Int)(x4:Int)(x5:qyo)(x8:Int)(x9:qyo)(x12:Int)(x14:Int)(x26:Bool):Option (Int×Int) :=
  (if x26 then qc6 F x1 x2 x3 x4 x5 x8 x9 x12 3 else qc6 F x1 x2 x3 x4 x5 x8 x9 x12 x14)
def qcG (F:Nat)(x1:Int)(x2:Int)(x3:Int)(x4:Int)(x5:qyo)(x8:Int)(x9:qyo)(x12:Int):Option (Int×Int) :=
  ((qbZ F x1 x2 x3 x4 x5 x8 x9).bind fun x14=>(if ((x14:Int) == 0) then qc7 F x1 x2 x3 x4 x5 x8 x9 x12 x14 ((decide (x12<0)) || (decide (x1≤x12))) else qc7 F x1 x2 x3 x4 x5 x8 x9 x12 x14 false))
def ky (F:Nat)(x7:qyo)(x22:Int)(x24:(Int×Int×Bool))(x31:qyo)(x32:Int)(x33:Int)(x34:Int)(x35:Int)(x36:Int)(x37:Int)(x38:Int)(x39:Int)(x40:Int)(x41:Int)(x42:Int):Option (qyo×Int×Int×Int×Int×Int×Int×Int×Int×Int×Int×Int) :=
  ((vz F x36 x7 x24.2.1 x22 x31 x24.1 x34 x35).bind fun x47=>some (x47.1,x32,x33,x34,x35,x36,x37,x38,x39,x40,x41,x42))
def kI:Nat→Int→Int→Int→Int→Int→(qyo)→Int→Int→Int→Int→(qyo)→Int→(qyo)→Int→Int→Option (qyo×Int×Int×Int×Int×Int×Int×Int×Int×Int×Int×Int)
  | 0=>fun _ _ _ _ _ _ _ _ _ _ _ _ _ _ _=>none
  | F+1=>fun x2 x3 x4 x5 x6 x7 x10 x11 x12 x13 x14 x17 x18 x21 x22 =>
    let self:=kI F
    ((qcG F x10 x11 x12 x13 x14 x17 x18 x22).bind fun x23=>((qdQ F x2 x3 x4 x5 x6 x7 x23.1 x22).bind fun x24=>(if (decide (0<x24.1)) then ((self x2 x3 x4 x5 x6 x7 x10 x11 x12 x13 x14 x17 x18 (iadd .i64 x21 1) (isub .i64 x22 x24.1)).bind fun x50=>ky F x7 x22 x24 x50.1 x50.2.1 x50.2.2.1 x50.2.2.2.1 x50.2.2.2.2.1 x50.2.2.2.2.2.1 x50.2.2.2.2.2.2.1 x50.2.2.2.2.2.2.2.1 x50.2.2.2.2.2.2.2.2.1 x50.2.2.2.2.2.2.2.2.2.1 x50.2.2.2.2.2.2.2.2.2.2.1 x50.2.2.2.2.2.2.2.2.2.2.2) else ky F x7 x22 x24 ([]:qyo) x2 x3 x4 x5 x6 x10 x11 x12 x13 x17 (iadd .i64 x21 1))))
def ve (F:Nat)(x1:Int)(x2:Int)(x3:Int)(x4:Int)(x5:Int)(x6:qyo)(x9:Int)(x10:Int)(x11:Int)(x12:Int)(x13:qyo)(x16:Int)(x17:qyo)(x20:Int)(x28:Int):Option (qyo×Int×Int) :=
  (if ((x28:Int) != 0) then some (([]:qyo),0,x28) else ((kI F x1 x2 x3 x4 x5 x6 x9 x10 x11 x12 x13 x16 x17 0 x20).bind fun x31=>some (x31.1,x31.2.2.2.2.2.2.2.2.2.2.2,0)))
def vf (F:Nat)(x1:Int)(x2:Int)(x3:Int)(x4:Int)(x5:Int)(x6:qyo)(x9:Int)(x10:Int)(x11:Int)(x12:Int)(x13:qyo)(x16:Int)(x17:qyo)(x20:Int)(x22:Int)(x37:Bool):Option (qyo×Int×Int) :=
  (if x37 then ve F x1 x2 x3 x4 x5 x6 x9 x10 x11 x12 x13 x16 x17 x20 3 else ve F x1 x2 x3 x4 x5 x6 x9 x10 x11 x12 x13 x16 x17 x20 x22)
def ke (F:Nat)(x1:Int)(x2:Int)(x3:Int)(x4:Int)(x5:Int)(x6:qyo)(x9:Int)(x10:Int)(x11:Int)(x12:Int)(x13:qyo)(x16:Int)(x17:qyo)(x20:Int):Option (qyo×Int×Int) :=
  ((jR F x1 x2 x3 x4 x5 x6 x9 x10 x11 x12 x13 x16 x17).bind fun x22=>(if ((x22:Int) == 0) then vf F x1 x2 x3 x4 x5 x6 x9 x10 x11 x12 x13 x16 x17 x20 x22 ((decide (x20<0)) || (decide (x1≤x20))) else vf F x1 x2 x3 x4 x5 x6 x9 x10 x11 x12 x13 x16 x17 x20 x22 false))
def qeY (_F:Nat):Option Bool :=
  some true
def qeX (F:Nat)(x1:qyo)(x4:qyo)(rec3:Int→Option Bool)(x0:Int):Option Bool :=
  (if (decide (x0<(x1.length:Int))) then ((idx x1 x0).bind fun x2=>((idx x4 x0).bind fun x3=>(if ((x2:Int) != x3) then some false else rec3 (iadd .i64 x0 1)))) else qeY F)
def qbs (F:Nat)(x1:qyo)(x4:qyo):Nat→Int→Option Bool
  | 0=>fun _=>none
  | k+1=>fun s=>qeX F x1 x4 (qbs F x1 x4 k) s
def qgp (F:Nat)(x1:qyo)(x4:qyo):Option Bool :=
  (if (((x1.length:Int):Int) != (x4.length:Int)) then some false else qbs F x1 x4 F 0)
def qdO (F:Nat)(x1:Int)(x2:qyo)(x5:Int)(x6:Int)(x7:Int)(x8:Int)(x24:Int):Option (qyo×Int×Int) :=
  (if ((x24:Int) != 0) then some (([]:qyo),0,x24) else ((qdp F x1 x2 x5 x6 x7 x8).bind fun x26=>some (x26.1,x26.2.1,x26.2.2)))
def qdP (F:Nat)(x1:Int)(x2:qyo)(x5:Int)(x6:Int)(x7:Int)(x8:Int)(x10:Int)(x36:Bool):Option (qyo×Int×Int) :=
  (if x36 then qdO F x1 x2 x5 x6 x7 x8 3 else qdO F x1 x2 x5 x6 x7 x8 x10)
def qht (F:Nat)(x1:Int)(x2:qyo)(x5:Int)(x6:Int)(x7:Int)(x8:Int):Option (qyo×Int×Int) :=
  ((jM F x1 x2 x5).bind fun x10=>(if ((x10:Int) == 0) then ((jc F x6).bind fun x38=>qdP F x1 x2 x5 x6 x7 x8 x10 (((((!x38) || (decide (x7<1))) || (decide (16<x7))) || (decide (x8<0))) || (decide (300<x8)))) else qdP F x1 x2 x5 x6 x7 x8 x10 false))
def qeW (_F:Nat):Option Bool :=
  some true
def yo (F:Nat)(x1:qyo)(x4:qyo)(rec3:Int→Option Bool)(x0:Int):Option Bool :=
  (if (decide (x0<(x1.length:Int))) then ((idx x1 x0).bind fun x2=>((idx x4 x0).bind fun x3=>(if ((x2:Int) != x3) then some false else rec3 (iadd .i64 x0 1)))) else qeW F)
def zS (F:Nat)(x1:qyo)(x4:qyo):Nat→Int→Option Bool
  | 0=>fun _=>none
  | k+1=>fun s=>yo F x1 x4 (zS F x1 x4 k) s
def qL (F:Nat)(x1:qyo)(x4:qyo):Option Bool :=
  (if (((x1.length:Int):Int) != (x4.length:Int)) then some false else zS F x1 x4 F 0)
def qcB (_F:Nat)(x11:(Int×qyo×Int))(x15:(qyo×Int×Int))(x20:(qyo×Int))(x25:(qyo×Int))(x41:Bool):Option Bool :=
  some ((((x41 && ((x15.2.1:Int) == x11.1)) && ((x15.2.2:Int) == 0)) && ((x20.2:Int) == 4)) && ((x25.2:Int) == 3))
def qcA (F:Nat)(x6:(qyo×Int))(x11:(Int×qyo×Int))(x15:(qyo×Int×Int))(x20:(qyo×Int))(x25:(qyo×Int))(x36:Bool):Option Bool :=
  (if ((x36 && ((x6.2:Int) == 0)) && ((x11.2.2:Int) == 0)) then ((qL F x15.1 x6.1).bind fun x46=>qcB F x11 x15 x20 x25 x46) else qcB F x11 x15 x20 x25 false)
def qcW (F:Nat) :Option Bool :=
  ((qaE F ([3,4,9]:qyo) 5).bind fun x3=>((qbM F x3.1 5).bind fun x6=>((qb5 F ([3,4,9]:qyo) 5 2).bind fun x11=>((qht F x11.1 x11.2.1 0 5 2 3).bind fun x15=>((qaE F ([3,3]:qyo) 5).bind fun x20=>((qbM F ([1]:qyo) 0).bind fun x25=>((qgp F x3.1 ([3,0,4]:qyo)).bind fun x30=>(if (x30 && ((x3.2:Int) == 0)) then ((qL F x6.1 ([3,4,9]:qyo)).bind fun x49=>qcA F x6 x11 x15 x20 x25 x49) else qcA F x6 x11 x15 x20 x25 false))))))))
def qdz (F:Nat)(x1:List (Int×Int)):Option (Int×Int) :=
  ((yB F x1 ([]:qyo)).bind fun x4=>some ((x4.1.length:Int),x4.2))
def qeZ (_F:Nat):Option Bool :=
  some true
def qbt (F:Nat)(x1:List (Int×Int))(x4:List (Int×Int))(rec3:Int→Option Bool)(x0:Int):Option Bool :=
  (if (decide (x0<(x1.length:Int))) then ((idx x1 x0).bind fun x2=>((idx x4 x0).bind fun x3=>(if (!(((x2.1:Int) == x3.1) && ((x2.2:Int) == x3.2))) then some false else rec3 (iadd .i64 x0 1)))) else qeZ F)
def y8 (F:Nat)(x1:List (Int×Int))(x4:List (Int×Int)):Nat→Int→Option Bool
  | 0=>fun _=>none
  | k+1=>fun s=>qbt F x1 x4 (y8 F x1 x4 k) s
def qdw (F:Nat)(x1:List (Int×Int))(x4:List (Int×Int)):Option Bool :=
  (if (((x1.length:Int):Int) != (x4.length:Int)) then some false else y8 F x1 x4 F 0)
def qcE (_F:Nat)(x8:(qyo×Int))(x11:(Int×Int))(x14:(qyo×Int))(x19:(qyo×Int))(x35:Bool):Option Bool :=
  some (((((x35 && ((x8.2:Int) == 0)) && ((x11.1:Int) == 3)) && ((x11.2:Int) == 0)) && ((x14.2:Int) == 4)) && ((x19.2:Int) == 6))
def qaX (F:Nat)(x3:(List (Int×Int)×qyo×Int))(x8:(qyo×Int))(x11:(Int×Int))(x14:(qyo×Int))(x19:(qyo×Int))(x29:Bool):Option Bool :=
  (if (x29 && ((x3.2.2:Int) == 0)) then ((qL F x8.1 ([1,3,4,5,8,9]:qyo)).bind fun x43=>qcE F x8 x11 x14 x19 x43) else qcE F x8 x11 x14 x19 false)
def qcZ (F:Nat) :Option Bool :=
  ((qch F ([1,3,4,5,8,9]:qyo) 3).bind fun x3=>((yB F x3.1 x3.2.1).bind fun x8=>((qdz F x3.1).bind fun x11=>((yB F ([(3,2),(5,1)]:List (Int×Int)) ([]:qyo)).bind fun x14=>((yB F x3.1 ([4]:qyo)).bind fun x19=>((qdw F x3.1 ([(3,3)]:List (Int×Int))).bind fun x24=>(if x24 then ((qL F x3.2.1 ([1,8,9]:qyo)).bind fun x46=>qaX F x3 x8 x11 x14 x19 x46) else qaX F x3 x8 x11 x14 x19 false)))))))
def qbT (_F:Nat)(x22:(qyo×qyo×Int))(x31:(qyo×Int))(x59:Bool):Option Bool :=
  some (((x59 && (((x22.2.1.length:Int):Int) == 0)) && ((x22.2.2:Int) == 0)) && ((x31.2:Int) == 8))
def qaa (F:Nat)(x17:(qyo×Int))(x22:(qyo×qyo×Int))(x31:(qyo×Int))(x53:Bool):Option Bool :=
  (if (x53 && ((x17.2:Int) == 0)) then ((qL F x22.1 ([0]:qyo)).bind fun x65=>qbT F x22 x31 x65) else qbT F x22 x31 false)
def j9 (F:Nat)(x12:(qyo×Int))(x17:(qyo×Int))(x22:(qyo×qyo×Int))(x31:(qyo×Int))(x47:Bool):Option Bool :=
  (if (x47 && ((x12.2:Int) == 0)) then ((qL F x17.1 ([1,2,3,9]:qyo)).bind fun x68=>qaa F x17 x22 x31 x68) else qaa F x17 x22 x31 false)
def j8 (F:Nat)(x5:(qyo×qyo×Int))(x12:(qyo×Int))(x17:(qyo×Int))(x22:(qyo×qyo×Int))(x31:(qyo×Int))(x41:Bool):Option Bool :=
  (if (x41 && ((x5.2.2:Int) == 0)) then ((qL F x12.1 ([1,2,9]:qyo)).bind fun x71=>j9 F x12 x17 x22 x31 x71) else j9 F x12 x17 x22 x31 false)
def qbS (F:Nat) :Option Bool :=
  ((vV F ([1,2,5,7,9]:qyo) ([1,2,3,9]:qyo)).bind fun x5=>((vv F ([1,2,5,7,9]:qyo) x5.1).bind fun x12=>((qca F ([1,2,5,7,9]:qyo) x5.1 x5.2.1).bind fun x17=>((vV F ([4]:qyo) ([]:qyo)).bind fun x22=>((vv F ([4]:qyo) ([2]:qyo)).bind fun x31=>((qL F x5.1 ([2,2]:qyo)).bind fun x36=>(if x36 then ((qL F x5.2.1 ([3]:qyo)).bind fun x74=>j8 F x5 x12 x17 x22 x31 x74) else j8 F x5 x12 x17 x22 x31 false)))))))
def qet (_F:Nat):Option Bool :=
  some true
def vM (F:Nat)(x1:qyo)(x4:qyo)(rec3:Int→Option Bool)(x0:Int):Option Bool :=
  (if (decide (x0<(x1.length:Int))) then ((idx x1 x0).bind fun x2=>((idx x4 x0).bind fun x3=>(if ((x2:Int) != x3) then some false else rec3 (iadd .i64 x0 1)))) else qet F)
def km (F:Nat)(x1:qyo)(x4:qyo):Nat→Int→Option Bool
  | 0=>fun _=>none
  | k+1=>fun s=>vM F x1 x4 (km F x1 x4 k) s
def jL (F:Nat)(x1:qyo)(x4:qyo):Option Bool :=
  (if (((x1.length:Int):Int) != (x4.length:Int)) then some false else km F x1 x4 F 0)
def jv (_F:Nat)(x13:Bool):Option Bool :=
  some x13
def vm (F:Nat)(x1:Int)(x2:qyo)(x5:Int)(x6:qyo):Option Bool :=
  (if ((x1:Int) == x5) then ((jL F x2 x6).bind fun x14=>jv F x14) else jv F false)
def qcF (_F:Nat)(x36:Bool):Option Bool :=
  some x36
def qaZ (F:Nat)(x15:(Int×qyo×Int))(x19:(qyo×Int×Int))(x31:Bool):Option Bool :=
  (if ((x31 && ((x15.2.2:Int) == 0)) && ((x19.2.2:Int) == 1)) then ((vy F 0 1 1).bind fun x37=>qcF F ((x37:Int) == 3)) else qcF F false)
def qaY (F:Nat)(x6:(Int×qyo×Int))(x12:(qyo×Int×Int))(x15:(Int×qyo×Int))(x19:(qyo×Int×Int))(x24:Bool):Option Bool :=
  (if ((x24 && ((x12.2.1:Int) == x6.1)) && ((x12.2.2:Int) == 0)) then ((vm F x15.1 x15.2.1 1 ([128]:qyo)).bind fun x40=>qaZ F x15 x19 x40) else qaZ F x15 x19 false)
def qc0 (F:Nat) :Option Bool :=
  ((jo F 7 ([2,3,4,5,9,20]:qyo) ([3,9,11]:qyo) 1 3 2).bind fun x6=>((qbP F x6.1 x6.2.1 0 7 ([3,9,11]:qyo) 1 3 2).bind fun x12=>((jo F 7 ([]:qyo) ([]:qyo) 0 0 1).bind fun x15=>((qbP F 0 ([]:qyo) 0 7 ([]:qyo) 0 0 1).bind fun x19=>(if ((x6.2.2:Int) == 0) then ((qL F x12.1 ([2,3,4,5,9,20]:qyo)).bind fun x41=>qaY F x6 x12 x15 x19 x41) else qaY F x6 x12 x15 x19 false)))))
def yD (_F:Nat) :Option (List (qyo)) :=
  some ([([1,2,3,5]:qyo),([1,2,3,5]:qyo),([0,1,2,3,5]:qyo),([]:qyo),([4]:qyo),([1,2,3]:qyo)]:List (qyo))
def qeu (_F:Nat):Option Bool :=
  some true
def qa0 (F:Nat)(x1:List (qyo))(x4:List (qyo))(rec3:Int→Option Bool)(x0:Int):Option Bool :=
  (if (decide (x0<(x1.length:Int))) then ((idx x1 x0).bind fun x2=>((idx x4 x0).bind fun x3=>((qL F x2 x3).bind fun x5=>(if (!x5) then some false else rec3 (iadd .i64 x0 1))))) else qeu F)
def yF (F:Nat)(x1:List (qyo))(x4:List (qyo)):Nat→Int→Option Bool
  | 0=>fun _=>none
  | k+1=>fun s=>qa0 F x1 x4 (yF F x1 x4 k) s
def qc5 (F:Nat)(x1:List (qyo))(x4:List (qyo)):Option Bool :=
  (if (((x1.length:Int):Int) != (x4.length:Int)) then some false else yF F x1 x4 F 0)
def qc4 (F:Nat)(x1:List (qyo))(x4:List (qyo)):Option Bool :=
  ((qc5 F x1 x4).bind fun x9=>some x9)
def q9 (_F:Nat)(x78:Bool):Option Bool :=
  some x78
def vL (F:Nat)(x21:Int)(x22:Int)(x23:Int)(x24:Int)(x25:Int)(x26:Int)(x29:qyo):Option Bool :=
  ((qaK F x22 x23 x24 x25 x26 x29).bind fun x30=>((yD F).bind fun x42=>((qaL F x42 3 3 2).bind fun x45=>((qaK F 1 3 3 2 0 ([]:qyo)).bind fun x50=>(if ((x21:Int) == 0) then (if ((x22:Int) == 6) then (if (((x23:Int) == 3) && (((x24:Int) == 3) && ((x25:Int) == 2))) then ((yD F).bind fun x82=>((qc4 F x30.1 x82).bind fun x85=>(if x85 then (if ((x30.2:Int) == 0) then (if (((x45.1.length:Int):Int) == 6) then ((idx x45.1 0).bind fun x89=>(if ((x89:Int) == 0) then ((idx x45.1 1).bind fun x93=>(if ((x93:Int) == 1) then (if (((x45.2.1.length:Int):Int) == 6) then ((idx x45.2.1 0).bind fun x98=>(if ((x98:Int) == 0) then (if ((x45.2.2:Int) == 0) then q9 F ((x50.2:Int) == 1) else q9 F false) else q9 F false)) else q9 F false) else q9 F false)) else q9 F false)) else q9 F false) else q9 F false) else q9 F false))) else q9 F false) else q9 F false) else q9 F false)))))
def qcX (F:Nat) :Option Bool :=
  ((yD F).bind fun x0=>((yx F x0 3 3 2).bind fun x1=>vL F x1.2.2.2.2.2.2 x1.1 x1.2.1 x1.2.2.1 x1.2.2.2.1 x1.2.2.2.2.1 x1.2.2.2.2.2.1))
def qhu (F:Nat)(x1:Int)(x2:qyo)(x5:Int):Option (Int×Int) :=
  ((jM F x1 x2 x5).bind fun x9=>(if ((x9:Int) != 0) then some (0,x9) else ((qbO F x1 x2 0 x5).bind fun x10=>some (x10,0))))
def qcI (F:Nat)(x1:Int)(x2:qyo)(x5:Int)(x6:Int)(x16:Int):Option (Int×Int) :=
  (if ((x16:Int) != 0) then some (0,x16) else ((vw F x1 x2 (iconv .u64 x5) x6).bind fun x18=>(if (decide (x18<0)) then some (0,5) else some (x18,0))))
def qcJ (F:Nat)(x1:Int)(x2:qyo)(x5:Int)(x6:Int)(x8:Int)(x25:Bool):Option (Int×Int) :=
  (if x25 then qcI F x1 x2 x5 x6 3 else qcI F x1 x2 x5 x6 x8)
def qdg (F:Nat)(x1:Int)(x2:qyo)(x5:Int)(x6:Int):Option (Int×Int) :=
  ((yw F x1 x2).bind fun x8=>(if ((x8:Int) == 0) then qcJ F x1 x2 x5 x6 x8 (((decide (x5<0)) || (decide (1<x5))) || (decide (x6<0))) else qcJ F x1 x2 x5 x6 x8 false))
def qbd (_F:Nat):Option Bool :=
  some true
def qbc (F:Nat)(x1:qyo)(x4:qyo)(rec3:Int→Option Bool)(x0:Int):Option Bool :=
  (if (decide (x0<(x1.length:Int))) then ((idx x1 x0).bind fun x2=>((idx x4 x0).bind fun x3=>(if ((x2:Int) != x3) then some false else rec3 (iadd .i64 x0 1)))) else qbd F)
def kM (F:Nat)(x1:qyo)(x4:qyo):Nat→Int→Option Bool
  | 0=>fun _=>none
  | k+1=>fun s=>qbc F x1 x4 (kM F x1 x4 k) s
def qci (F:Nat)(x1:qyo)(x4:qyo):Option Bool :=
  (if (((x1.length:Int):Int) != (x4.length:Int)) then some false else kM F x1 x4 F 0)
def qeH (F:Nat)(x1:Int)(x2:qyo)(x5:Int)(x6:qyo):Option Int :=
  ((qcf F x1 x2 x5).bind fun x13=>(if ((x13:Int) != 0) then some x13 else ((qce F x1 x2 x5).bind fun x27=>((qci F x6 x27).bind fun x30=>(if (!x30) then some 4 else some 0)))))
def qeF (F:Nat)(x1:Int)(x2:qyo)(x5:Int)(x6:qyo)(x9:Int)(x18:Int):Option (Int×Int) :=
  (if ((x18:Int) != 0) then some (0,x18) else (chk ((x5:Int) != 0) (((idx x6 (iquo .i64 x9 x5)).bind fun x26=>((qbO F x1 x2 (imul .i64 (iquo .i64 x9 x5) x5) x9).bind fun x30=>some (iadd .i64 x26 x30,0))))))
def qeG (F:Nat)(x1:Int)(x2:qyo)(x5:Int)(x6:qyo)(x9:Int)(x12:Int)(x34:Bool):Option (Int×Int) :=
  (if x34 then qeF F x1 x2 x5 x6 x9 3 else qeF F x1 x2 x5 x6 x9 x12)
def qjI (F:Nat)(x1:Int)(x2:qyo)(x5:Int)(x6:qyo)(x9:Int):Option (Int×Int) :=
  ((qeH F x1 x2 x5 x6).bind fun x12=>(if ((x12:Int) == 0) then qeG F x1 x2 x5 x6 x9 x12 ((decide (x9<0)) || (decide (x1<x9))) else qeG F x1 x2 x5 x6 x9 x12 false))
def qcD (_F:Nat)(x29:Bool):Option Bool :=
  some x29
def qcC (F:Nat)(x7:(Int×qyo×Int))(x11:(Int×Int))(x12:(Int×Int))(x22:Bool):Option Bool :=
  (if ((((x22 && ((x7.2.2:Int) == 0)) && ((x11.1:Int) == 5)) && ((x11.2:Int) == 0)) && ((x12.2:Int) == 5)) then ((qeH F 10 ([180,192]:qyo) 4 ([]:qyo)).bind fun x30=>qcD F ((x30:Int) == 4)) else qcD F false)
def qcY (F:Nat) :Option Bool :=
  ((qhu F 10 ([180,192]:qyo) 6).bind fun x4=>((qdg F 10 ([180,192]:qyo) 1 4).bind fun x5=>((qdg F 10 ([180,192]:qyo) 0 0).bind fun x6=>((qcd F 10 ([180,192]:qyo) 4).bind fun x7=>((qjI F 10 ([180,192]:qyo) x7.1 x7.2.1 9).bind fun x11=>((qdg F 10 ([180,192]:qyo) 1 6).bind fun x12=>(if (((((((x4.1:Int) == 4) && ((x4.2:Int) == 0)) && ((x5.1:Int) == 8)) && ((x5.2:Int) == 0)) && ((x6.1:Int) == 1)) && ((x6.2:Int) == 0)) then ((qL F x7.2.1 ([0,3,4]:qyo)).bind fun x33=>qcC F x7 x11 x12 x33) else qcC F x7 x11 x12 false)))))))
def qfb (F:Nat)(x1:Int)(x2:Int)(x3:Int)(x4:Int)(x5:qyo)(x8:Int)(x9:qyo)(x12:Int):Option (Int×Int×Int) :=
  ((kq F x1 x2 x3 x4 x5 x8 x9).bind fun x14=>(if ((x14.2:Int) != 0) then some (0,0,x14.2) else ((qA F x14.1 x12).bind fun x18=>(if ((x18.1:Int) == (x14.1.length:Int)) then some (0,0,5) else ((idx x14.1 x18.1).bind fun x24=>some (x18.1,x24,0))))))
def qcz (_F:Nat)(x49:Bool):Option Bool :=
  some x49
def qcy (F:Nat)(x9:(qyo×Int))(x12:(Int×Int))(x13:(Int×Int×Int))(x14:(Int×Int×Int))(x17:(Int×Int×Int×Int×qyo×Int×qyo×Int))(x38:Bool):Option Bool :=
  (if ((((((((x38 && ((x9.2:Int) == 0)) && ((x12.1:Int) == 5)) && ((x12.2:Int) == 0)) && ((x13.1:Int) == 3)) && ((x13.2.1:Int) == 12)) && ((x13.2.2:Int) == 0)) && ((x14.2.2:Int) == 5)) && ((x17.2.2.2.2.2.2.2:Int) == 4)) then ((qbZ F 0 0 0 0 ([]:qyo) 0 ([]:qyo)).bind fun x50=>qcz F ((x50:Int) == 1)) else qcz F false)
def qcx (F:Nat)(x9:(qyo×Int))(x12:(Int×Int))(x13:(Int×Int×Int))(x14:(Int×Int×Int))(x17:(Int×Int×Int×Int×qyo×Int×qyo×Int))(x33:Bool):Option Bool :=
  (if x33 then ((qL F x9.1 ([1,1,5,12]:qyo)).bind fun x53=>qcy F x9 x12 x13 x14 x17 x53) else qcy F x9 x12 x13 x14 x17 false)
def qcw (F:Nat)(x3:(Int×Int×Int×Int×qyo×Int×qyo×Int))(x9:(qyo×Int))(x12:(Int×Int))(x13:(Int×Int×Int))(x14:(Int×Int×Int))(x17:(Int×Int×Int×Int×qyo×Int×qyo×Int))(x28:Bool):Option Bool :=
  (if x28 then ((vm F x3.2.2.2.2.2.1 x3.2.2.2.2.2.2.1 8 ([210]:qyo)).bind fun x56=>qcx F x9 x12 x13 x14 x17 x56) else qcx F x9 x12 x13 x14 x17 false)
def qcV (F:Nat) :Option Bool :=
  ((vt F ([1,1,5,12]:qyo) 15).bind fun x3=>((qdn F x3.1 x3.2.1 x3.2.2.1 x3.2.2.2.1 x3.2.2.2.2.1 x3.2.2.2.2.2.1 x3.2.2.2.2.2.2.1).bind fun x9=>((qcG F x3.1 x3.2.1 x3.2.2.1 x3.2.2.2.1 x3.2.2.2.2.1 x3.2.2.2.2.2.1 x3.2.2.2.2.2.2.1 2).bind fun x12=>((qfb F x3.1 x3.2.1 x3.2.2.1 x3.2.2.2.1 x3.2.2.2.2.1 x3.2.2.2.2.2.1 x3.2.2.2.2.2.2.1 6).bind fun x13=>((qfb F x3.1 x3.2.1 x3.2.2.1 x3.2.2.2.1 x3.2.2.2.2.1 x3.2.2.2.2.2.1 x3.2.2.2.2.2.2.1 13).bind fun x14=>((vt F ([2,1]:qyo) 5).bind fun x17=>(if (((x3.2.2.2.2.2.2.2:Int) == 0) && ((x3.2.2.1:Int) == 2)) then ((vm F x3.2.2.2.1 x3.2.2.2.2.1 8 ([84]:qyo)).bind fun x59=>qcw F x3 x9 x12 x13 x14 x17 x59) else qcw F x3 x9 x12 x13 x14 x17 false)))))))
def qa5 (F:Nat)(x21:Int)(x23:(qyo×Int×Int))(x31:Int):Option (Bool×Int) :=
  (if ((x31:Int) != 0) then some (false,x31) else ((qA F x23.1 x21).bind fun x33=>some (x33.2,0)))
def qa6 (F:Nat)(x21:Int)(x23:(qyo×Int×Int))(x37:Bool):Option (Bool×Int) :=
  (if x37 then qa5 F x21 x23 3 else qa5 F x21 x23 x23.2.2)
def qbk (F:Nat)(x1:Int)(x2:Int)(x3:Int)(x4:Int)(x5:Int)(x6:qyo)(x9:Int)(x10:Int)(x11:Int)(x12:Int)(x13:qyo)(x16:Int)(x17:qyo)(x20:Int)(x21:Int):Option (Bool×Int) :=
  ((ke F x1 x2 x3 x4 x5 x6 x9 x10 x11 x12 x13 x16 x17 x20).bind fun x23=>(if ((x23.2.2:Int) == 0) then qa6 F x21 x23 ((decide (x21<0)) || (decide (x1≤x21))) else qa6 F x21 x23 false))
def qbX (_F:Nat)(x37:Bool):Option Bool :=
  some x37
def qac (F:Nat)(x4:(Int×Int×Int×Int×Int×qyo×Int×Int×Int×Int×qyo×Int×qyo×Int))(x34:Bool):Option Bool :=
  (if x34 then ((jR F x4.1 x4.2.1 x4.2.2.1 x4.2.2.2.1 x4.2.2.2.2.1 x4.2.2.2.2.2.1 0 0 0 0 ([]:qyo) 0 ([]:qyo)).bind fun x38=>qbX F ((x38:Int) == 4)) else qbX F false)
def qab (F:Nat)(x4:(Int×Int×Int×Int×Int×qyo×Int×Int×Int×Int×qyo×Int×qyo×Int))(x12:(qyo×Int×Int))(x15:(Bool×Int))(x16:(Bool×Int))(x17:(qyo×Int×Int))(x24:Bool):Option Bool :=
  (if (((((((x24 && ((x12.2.1:Int) == 2)) && ((x12.2.2:Int) == 0)) && x15.1) && ((x15.2:Int) == 0)) && (!x16.1)) && ((x16.2:Int) == 0)) && ((x17.2.2:Int) == 3)) then ((jR F x4.1 x4.2.1 x4.2.2.1 x4.2.2.2.1 x4.2.2.2.2.1 x4.2.2.2.2.2.1 x4.2.2.2.2.2.2.1 x4.2.2.2.2.2.2.2.1 x4.2.2.2.2.2.2.2.2.1 x4.2.2.2.2.2.2.2.2.2.1 x4.2.2.2.2.2.2.2.2.2.2.1 x4.2.2.2.2.2.2.2.2.2.2.2.1 x4.2.2.2.2.2.2.2.2.2.2.2.2.1).bind fun x39=>qac F x4 ((x39:Int) == 0)) else qac F x4 false)
def qbW (F:Nat) :Option Bool :=
  ((yD F).bind fun x1=>((qbj F x1 3 3 2).bind fun x4=>((ke F x4.1 x4.2.1 x4.2.2.1 x4.2.2.2.1 x4.2.2.2.2.1 x4.2.2.2.2.2.1 x4.2.2.2.2.2.2.1 x4.2.2.2.2.2.2.2.1 x4.2.2.2.2.2.2.2.2.1 x4.2.2.2.2.2.2.2.2.2.1 x4.2.2.2.2.2.2.2.2.2.2.1 x4.2.2.2.2.2.2.2.2.2.2.2.1 x4.2.2.2.2.2.2.2.2.2.2.2.2.1 1).bind fun x12=>((qbk F x4.1 x4.2.1 x4.2.2.1 x4.2.2.2.1 x4.2.2.2.2.1 x4.2.2.2.2.2.1 x4.2.2.2.2.2.2.1 x4.2.2.2.2.2.2.2.1 x4.2.2.2.2.2.2.2.2.1 x4.2.2.2.2.2.2.2.2.2.1 x4.2.2.2.2.2.2.2.2.2.2.1 x4.2.2.2.2.2.2.2.2.2.2.2.1 x4.2.2.2.2.2.2.2.2.2.2.2.2.1 4 4).bind fun x15=>((qbk F x4.1 x4.2.1 x4.2.2.1 x4.2.2.2.1 x4.2.2.2.2.1 x4.2.2.2.2.2.1 x4.2.2.2.2.2.2.1 x4.2.2.2.2.2.2.2.1 x4.2.2.2.2.2.2.2.2.1 x4.2.2.2.2.2.2.2.2.2.1 x4.2.2.2.2.2.2.2.2.2.2.1 x4.2.2.2.2.2.2.2.2.2.2.2.1 x4.2.2.2.2.2.2.2.2.2.2.2.2.1 4 5).bind fun x16=>((ke F x4.1 x4.2.1 x4.2.2.1 x4.2.2.2.1 x4.2.2.2.2.1 x4.2.2.2.2.2.1 x4.2.2.2.2.2.2.1 x4.2.2.2.2.2.2.2.1 x4.2.2.2.2.2.2.2.2.1 x4.2.2.2.2.2.2.2.2.2.1 x4.2.2.2.2.2.2.2.2.2.2.1 x4.2.2.2.2.2.2.2.2.2.2.2.1 x4.2.2.2.2.2.2.2.2.2.2.2.2.1 6).bind fun x17=>(if ((x4.2.2.2.2.2.2.2.2.2.2.2.2.2:Int) == 0) then ((qL F x12.1 ([1,2,3,5]:qyo)).bind fun x42=>qab F x4 x12 x15 x16 x17 x42) else qab F x4 x12 x15 x16 x17 false)))))))
def qbV (_F:Nat)(rec7:(List (qyo)×Int)→Option (List (qyo)))(x0:Int)(x1:List (qyo)):Option (List (qyo)) :=
  rec7 (x1,iadd .i64 x0 1)
def qbr (F:Nat)(rec7:(List (qyo)×Int)→Option (List (qyo)))(x0:List (qyo))(x1:Int)(x2:qyo)(rec10:(qyo×Int)→Option (List (qyo)))(x3:qyo)(x4:Int):Option (List (qyo)) :=
  (if (decide (x4<(x3.length:Int))) then ((idx x3 x4).bind fun _x427=>(lett (x3.set x4.toNat (-9)) fun x5=>rec10 (x5,iadd .i64 x4 1))) else (chk (decide (x3.length=x2.length)) ((lett (x0.set x1.toNat x3) fun x6=>qbV F rec7 x1 x6))))
def yZ (F:Nat)(rec7:(List (qyo)×Int)→Option (List (qyo)))(x0:List (qyo))(x1:Int)(x2:qyo):Nat→(qyo×Int)→Option (List (qyo))
  | 0=>fun _=>none
  | k+1=>fun s=>qbr F rec7 x0 x1 x2 (yZ F rec7 x0 x1 x2 k) s.1 s.2
def qbU (F:Nat)(x1:List (qyo))(rec7:(List (qyo)×Int)→Option (List (qyo)))(x0:List (qyo))(x2:Int):Option (List (qyo)) :=
  (if (decide (x2<(x1.length:Int))) then ((idx x0 x2).bind fun x3=>yZ F rec7 x0 x2 x3 F (x3,0)) else some x0)
def zN (F:Nat)(x1:List (qyo)):Nat→(List (qyo)×Int)→Option (List (qyo))
  | 0=>fun _=>none
  | k+1=>fun s=>qbU F x1 (zN F x1 k) s.1 s.2
def qd9 (F:Nat)(x1:List (qyo)):Option (List (qyo)) :=
  zN F x1 F (x1,0)
def qfI (_F:Nat):Option Bool :=
  some true
def qek (_F:Nat)(rec38:(Int×List (qyo)×Int)→Option Bool)(x0:Int)(x1:List (qyo)):Option Bool :=
  rec38 (iadd .i64 x0 1,x1,iadd .i64 x0 1)
def qc3 (F:Nat)(rec38:(Int×List (qyo)×Int)→Option Bool)(x0:Int)(x1:List (qyo))(x2:Int):Option Bool :=
  ((idx x1 x0).bind fun x3=>(chk (decide (x2.toNat≤x0.toNat)) ((chk (decide (x2.toNat≤(iadd .i64 x0 1).toNat∧x0.toNat<(iadd .i64 x0 1).toNat)) (((qd9 F ([x3]:List (qyo))).bind fun x4=>(chk (decide (x4.length=([x3]:List (qyo)).length)) (((idx x1 x0).bind fun _x2567=>(chk (decide (x0.toNat<(iadd .i64 x0 1).toNat)) ((lett (x1.set x0.toNat ([]:qyo)) fun x5=>qek F rec38 x0 x5))))))))))))
def qc2 (F:Nat)(rec38:(Int×List (qyo)×Int)→Option Bool)(x0:Int)(x1:List (qyo))(x2:Int)(rec45:Int→Option Bool)(x3:Int):Option Bool :=
  ((idx x1 x0).bind fun x4=>(chk (decide (x2.toNat≤x0.toNat)) ((if (decide (x3<(x4.length:Int))) then ((idx x1 x0).bind fun x5=>(chk (decide (x2.toNat≤x0.toNat)) (((idx x5 x3).bind fun x6=>(if (decide (x6<0)) then some false else rec45 (iadd .i64 x3 1)))))) else qc3 F rec38 x0 x1 x2))))
def jK (F:Nat)(rec38:(Int×List (qyo)×Int)→Option Bool)(x0:Int)(x1:List (qyo))(x2:Int):Nat→Int→Option Bool
  | 0=>fun _=>none
  | k+1=>fun s=>qc2 F rec38 x0 x1 x2 (jK F rec38 x0 x1 x2 k) s
def qc1 (F:Nat)(rec38:(Int×List (qyo)×Int)→Option Bool)(x0:Int)(x1:List (qyo))(x2:Int):Option Bool :=
  (if (decide (x0<(x1.length:Int))) then jK F rec38 x0 x1 x2 F 0 else qfI F)
def kb (F:Nat):Nat→(Int×List (qyo)×Int)→Option Bool
  | 0=>fun _=>none
  | k+1=>fun s=>qc1 F (kb F k) s.1 s.2.1 s.2.2
def qfp (F:Nat)(x1:List (qyo)):Option Bool :=
  kb F F (0,x1,0)
def qbq (_F:Nat)(x18:Bool):Option Bool :=
  some x18
def jf (F:Nat)(x1:Int)(x2:(qyo×qyo))(x5:Int)(x6:qyo):Option Bool :=
  ((vm F x1 x2.1 x5 x6).bind fun x19=>(if x19 then (chk (decide (0<x2.2.length)) (chk (decide ((iadd .i64 (x6.length:Int) 1)=((x2.1++x2.2).length:Int))) (((idx (x2.1++x2.2) (x6.length:Int)).bind fun x23=>qbq F ((x23:Int) == 77))))) else qbq F false))
def jh (_F:Nat)(rec7:(List (Int×qyo)×Int)→Option (List (Int×qyo)))(x0:Int)(x1:List (Int×qyo)):Option (List (Int×qyo)) :=
  rec7 (x1,iadd .i64 x0 1)
def vJ (F:Nat)(rec7:(List (Int×qyo)×Int)→Option (List (Int×qyo)))(x0:List (Int×qyo))(x1:Int)(x2:(Int×qyo))(rec10:(Int×qyo)→Option (List (Int×qyo)))(x3:Int)(x4:qyo):Option (List (Int×qyo)) :=
  (if (decide (x3<(x4.length:Int))) then ((idx x4 x3).bind fun _x433=>(lett (x4.set x3.toNat 99) fun x5=>rec10 (iadd .i64 x3 1,x5))) else (chk (decide (x4.length=x2.2.length)) ((lett (x0.set x1.toNat (x2.1,x4)) fun x6=>jh F rec7 x1 x6))))
def kH (F:Nat)(rec7:(List (Int×qyo)×Int)→Option (List (Int×qyo)))(x0:List (Int×qyo))(x1:Int)(x2:(Int×qyo)):Nat→(Int×qyo)→Option (List (Int×qyo))
  | 0=>fun _=>none
  | k+1=>fun s=>vJ F rec7 x0 x1 x2 (kH F rec7 x0 x1 x2 k) s.1 s.2
def jg (F:Nat)(x1:List (Int×qyo))(rec7:(List (Int×qyo)×Int)→Option (List (Int×qyo)))(x0:List (Int×qyo))(x2:Int):Option (List (Int×qyo)) :=
  (if (decide (x2<(x1.length:Int))) then ((idx x0 x2).bind fun x3=>kH F rec7 x0 x2 x3 F (0,x3.2)) else some x0)
def zb (F:Nat)(x1:List (Int×qyo)):Nat→(List (Int×qyo)×Int)→Option (List (Int×qyo))
  | 0=>fun _=>none
  | k+1=>fun s=>jg F x1 (zb F x1 k) s.1 s.2
def qds (F:Nat)(x1:List (Int×qyo)):Option (List (Int×qyo)) :=
  zb F x1 F (x1,0)
def qd8 (_F:Nat)(x14:Bool):Option Bool :=
  some x14
def qdm (F:Nat)(x1:(qyo×qyo))(x4:qyo):Option Bool :=
  ((qL F x1.1 x4).bind fun x7=>(if x7 then (chk (decide (0<x1.2.length)) (chk (decide ((iadd .i64 (x4.length:Int) 1)=((x1.1++x1.2).length:Int))) (((idx (x1.1++x1.2) (x4.length:Int)).bind fun x17=>qd8 F ((x17:Int) == 77))))) else qd8 F false))
def qbR (_F:Nat)(x0:Bool):Option Bool :=
  some x0
def j7 (F:Nat)(x7:Int)(x8:qyo)(x60:Int)(x63:(qyo×qyo))(x0:Bool):Option Bool :=
  (if x0 then ((jf F x60 (x63.1,x63.2) x7 x8).bind fun x1=>qbR F x1) else qbR F false)
def j6 (F:Nat)(x1:qyo)(x4:qyo)(x7:Int)(x8:qyo)(x55:(qyo×qyo))(x58:(qyo×qyo))(x60:Int)(x63:(qyo×qyo)):Option Bool :=
  ((qdm F (x55.1,x55.2) x1).bind fun x0=>(if x0 then ((qdm F (x58.1,x58.2) x4).bind fun x2=>j7 F x7 x8 x60 x63 x2) else j7 F x7 x8 x60 x63 false))
def jV (F:Nat)(x1:qyo)(x4:qyo)(x7:Int)(x8:qyo)(x14:List (qyo))(x55:(qyo×qyo))(x58:(qyo×qyo))(x60:Int)(x63:(qyo×qyo))(x0:List (qyo))(rec25:Int→Option Bool)(x2:Int):Option Bool :=
  (if (decide (x2<(x14.length:Int))) then ((idx x0 x2).bind fun x3=>((idx x14 x2).bind fun x5=>((qdm F (x3,([77]:qyo)) x5).bind fun x6=>(if (!x6) then some false else rec25 (iadd .i64 x2 1))))) else j6 F x1 x4 x7 x8 x55 x58 x60 x63)
def ye (F:Nat)(x1:qyo)(x4:qyo)(x7:Int)(x8:qyo)(x14:List (qyo))(x55:(qyo×qyo))(x58:(qyo×qyo))(x60:Int)(x63:(qyo×qyo))(x0:List (qyo)):Nat→Int→Option Bool
  | 0=>fun _=>none
  | k+1=>fun s=>jV F x1 x4 x7 x8 x14 x55 x58 x60 x63 x0 (ye F x1 x4 x7 x8 x14 x55 x58 x60 x63 x0 k) s
def j5 (F:Nat)(x1:qyo)(x4:qyo)(x7:Int)(x8:qyo)(x14:List (qyo))(x55:(qyo×qyo))(x58:(qyo×qyo))(x60:Int)(x63:(qyo×qyo))(x0:List (qyo))(x2:(Int×qyo×Int))(x3:(Int×qyo×Int))(x5:(Int×Int×Int×Int×Int×qyo×Int))(x6:(Int×Int×Int×Int×qyo×Int×qyo×Int))(x9:(Int×Int×Int×Int×Int×qyo×Int×Int×Int×Int×qyo×Int×qyo×Int))(x10:Bool):Option Bool :=
  (if x10 then some false else ((qds F ([(x2.1,x2.2.1),(x3.1,x3.2.1),(x5.2.2.2.2.1,x5.2.2.2.2.2.1),(x6.2.2.2.1,x6.2.2.2.2.1),(x6.2.2.2.2.2.1,x6.2.2.2.2.2.2.1),(x9.2.2.2.2.1,x9.2.2.2.2.2.1),(x9.2.2.2.2.2.2.2.2.2.1,x9.2.2.2.2.2.2.2.2.2.2.1),(x9.2.2.2.2.2.2.2.2.2.2.2.1,x9.2.2.2.2.2.2.2.2.2.2.2.2.1)]:List (Int×qyo))).bind fun x11=>(chk (decide (x11.length=([(x2.1,x2.2.1),(x3.1,x3.2.1),(x5.2.2.2.2.1,x5.2.2.2.2.2.1),(x6.2.2.2.1,x6.2.2.2.2.1),(x6.2.2.2.2.2.1,x6.2.2.2.2.2.2.1),(x9.2.2.2.2.1,x9.2.2.2.2.2.1),(x9.2.2.2.2.2.2.2.2.2.1,x9.2.2.2.2.2.2.2.2.2.2.1),(x9.2.2.2.2.2.2.2.2.2.2.2.1,x9.2.2.2.2.2.2.2.2.2.2.2.2.1)]:List (Int×qyo)).length)) (ye F x1 x4 x7 x8 x14 x55 x58 x60 x63 x0 F 0))))
def j4 (F:Nat)(x1:qyo)(x4:qyo)(x7:Int)(x8:qyo)(x14:List (qyo))(x55:(qyo×qyo))(x58:(qyo×qyo))(x60:Int)(x63:(qyo×qyo))(x0:List (qyo))(x2:(qyo×Int))(x3:(Int×qyo×Int))(x5:(List (Int×Int)×qyo×Int))(x6:(qyo×Int))(x9:(qyo×qyo×Int))(x10:(qyo×Int))(x11:(qyo×Int))(x12:(Int×qyo×Int))(x13:(qyo×Int×Int))(x15:(Int×Int×Int×Int×Int×qyo×Int))(x16:Int)(x17:(qyo×qyo))(x18:(List (qyo)×Int))(x19:(qyo×qyo×Int))(x20:(Int×qyo×Int))(x21:(Int×Int×Int×Int×qyo×Int×qyo×Int))(x22:(qyo×Int))(x23:(Int×Int×Int×Int×Int×qyo×Int×Int×Int×Int×qyo×Int×qyo×Int))(x24:(qyo×Int×Int))(x25:Bool):Option Bool :=
  (if x25 then some false else ((qd9 F ([x2.1,x5.2.1,x6.1,x9.1,x9.2.1,x10.1,x11.1,x13.1,x19.1,x19.2.1,x22.1,x24.1,x20.2.1]:List (qyo))).bind fun x26=>(chk (decide (x26.length=([x2.1,x5.2.1,x6.1,x9.1,x9.2.1,x10.1,x11.1,x13.1,x19.1,x19.2.1,x22.1,x24.1,x20.2.1]:List (qyo)).length)) (((qfp F x18.1).bind fun x27=>(if (!x27) then j5 F x1 x4 x7 x8 x14 x55 x58 x60 x63 x0 x3 x12 x15 x21 x23 true else ((jf F x16 (x17.1,x17.2) x15.2.2.2.2.1 x15.2.2.2.2.2.1).bind fun x28=>j5 F x1 x4 x7 x8 x14 x55 x58 x60 x63 x0 x3 x12 x15 x21 x23 (!x28))))))))
def j3 (F:Nat)(x1:qyo)(x4:qyo)(x7:Int)(x8:qyo)(x14:List (qyo))(x55:(qyo×qyo))(x58:(qyo×qyo))(x60:Int)(x63:(qyo×qyo))(x0:List (qyo))(x2:(qyo×Int))(x3:(Int×qyo×Int))(x5:(List (Int×Int)×qyo×Int))(x6:(qyo×Int))(x9:(qyo×qyo×Int))(x10:(qyo×Int))(x11:(qyo×Int))(x12:(Int×qyo×Int))(x13:(qyo×Int×Int))(x15:(Int×Int×Int×Int×Int×qyo×Int))(x16:Int)(x17:(qyo×qyo))(x18:(List (qyo)×Int))(x19:(qyo×qyo×Int))(x20:(Int×qyo×Int))(x21:(Int×Int×Int×Int×qyo×Int×qyo×Int))(x22:(qyo×Int))(x23:(Int×Int×Int×Int×Int×qyo×Int×Int×Int×Int×qyo×Int×qyo×Int))(x24:(qyo×Int×Int))(x25:Bool):Option Bool :=
  (if x25 then j4 F x1 x4 x7 x8 x14 x55 x58 x60 x63 x0 x2 x3 x5 x6 x9 x10 x11 x12 x13 x15 x16 x17 x18 x19 x20 x21 x22 x23 x24 true else ((qbW F).bind fun x26=>j4 F x1 x4 x7 x8 x14 x55 x58 x60 x63 x0 x2 x3 x5 x6 x9 x10 x11 x12 x13 x15 x16 x17 x18 x19 x20 x21 x22 x23 x24 (!x26)))
def j2 (F:Nat)(x1:qyo)(x4:qyo)(x7:Int)(x8:qyo)(x14:List (qyo))(x55:(qyo×qyo))(x58:(qyo×qyo))(x60:Int)(x63:(qyo×qyo))(x0:List (qyo))(x2:(qyo×Int))(x3:(Int×qyo×Int))(x5:(List (Int×Int)×qyo×Int))(x6:(qyo×Int))(x9:(qyo×qyo×Int))(x10:(qyo×Int))(x11:(qyo×Int))(x12:(Int×qyo×Int))(x13:(qyo×Int×Int))(x15:(Int×Int×Int×Int×Int×qyo×Int))(x16:Int)(x17:(qyo×qyo))(x18:(List (qyo)×Int))(x19:(qyo×qyo×Int))(x20:(Int×qyo×Int))(x21:(Int×Int×Int×Int×qyo×Int×qyo×Int))(x22:(qyo×Int))(x23:(Int×Int×Int×Int×Int×qyo×Int×Int×Int×Int×qyo×Int×qyo×Int))(x24:(qyo×Int×Int))(x25:Bool):Option Bool :=
  (if x25 then j3 F x1 x4 x7 x8 x14 x55 x58 x60 x63 x0 x2 x3 x5 x6 x9 x10 x11 x12 x13 x15 x16 x17 x18 x19 x20 x21 x22 x23 x24 true else ((qcV F).bind fun x26=>j3 F x1 x4 x7 x8 x14 x55 x58 x60 x63 x0 x2 x3 x5 x6 x9 x10 x11 x12 x13 x15 x16 x17 x18 x19 x20 x21 x22 x23 x24 (!x26)))
def j1 (F:Nat)(x1:qyo)(x4:qyo)(x7:Int)(x8:qyo)(x14:List (qyo))(x55:(qyo×qyo))(x58:(qyo×qyo))(x60:Int)(x63:(qyo×qyo))(x0:List (qyo))(x2:(qyo×Int))(x3:(Int×qyo×Int))(x5:(List (Int×Int)×qyo×Int))(x6:(qyo×Int))(x9:(qyo×qyo×Int))(x10:(qyo×Int))(x11:(qyo×Int))(x12:(Int×qyo×Int))(x13:(qyo×Int×Int))(x15:(Int×Int×Int×Int×Int×qyo×Int))(x16:Int)(x17:(qyo×qyo))(x18:(List (qyo)×Int))(x19:(qyo×qyo×Int))(x20:(Int×qyo×Int))(x21:(Int×Int×Int×Int×qyo×Int×qyo×Int))(x22:(qyo×Int))(x23:(Int×Int×Int×Int×Int×qyo×Int×Int×Int×Int×qyo×Int×qyo×Int))(x24:(qyo×Int×Int))(x25:Bool):Option Bool :=
  (if x25 then j2 F x1 x4 x7 x8 x14 x55 x58 x60 x63 x0 x2 x3 x5 x6 x9 x10 x11 x12 x13 x15 x16 x17 x18 x19 x20 x21 x22 x23 x24 true else ((qcY F).bind fun x26=>j2 F x1 x4 x7 x8 x14 x55 x58 x60 x63 x0 x2 x3 x5 x6 x9 x10 x11 x12 x13 x15 x16 x17 x18 x19 x20 x21 x22 x23 x24 (!x26)))
def jZ (F:Nat)(x1:qyo)(x4:qyo)(x7:Int)(x8:qyo)(x14:List (qyo))(x55:(qyo×qyo))(x58:(qyo×qyo))(x60:Int)(x63:(qyo×qyo))(x0:List (qyo))(x2:(qyo×Int))(x3:(Int×qyo×Int))(x5:(List (Int×Int)×qyo×Int))(x6:(qyo×Int))(x9:(qyo×qyo×Int))(x10:(qyo×Int))(x11:(qyo×Int))(x12:(Int×qyo×Int))(x13:(qyo×Int×Int))(x15:(Int×Int×Int×Int×Int×qyo×Int))(x16:Int)(x17:(qyo×qyo))(x18:(List (qyo)×Int))(x19:(qyo×qyo×Int))(x20:(Int×qyo×Int))(x21:(Int×Int×Int×Int×qyo×Int×qyo×Int))(x22:(qyo×Int))(x23:(Int×Int×Int×Int×Int×qyo×Int×Int×Int×Int×qyo×Int×qyo×Int))(x24:(qyo×Int×Int))(x25:Bool):Option Bool :=
  (if x25 then j1 F x1 x4 x7 x8 x14 x55 x58 x60 x63 x0 x2 x3 x5 x6 x9 x10 x11 x12 x13 x15 x16 x17 x18 x19 x20 x21 x22 x23 x24 true else ((qcX F).bind fun x26=>j1 F x1 x4 x7 x8 x14 x55 x58 x60 x63 x0 x2 x3 x5 x6 x9 x10 x11 x12 x13 x15 x16 x17 x18 x19 x20 x21 x22 x23 x24 (!x26)))
def jY (F:Nat)(x1:qyo)(x4:qyo)(x7:Int)(x8:qyo)(x14:List (qyo))(x55:(qyo×qyo))(x58:(qyo×qyo))(x60:Int)(x63:(qyo×qyo))(x0:List (qyo))(x2:(qyo×Int))(x3:(Int×qyo×Int))(x5:(List (Int×Int)×qyo×Int))(x6:(qyo×Int))(x9:(qyo×qyo×Int))(x10:(qyo×Int))(x11:(qyo×Int))(x12:(Int×qyo×Int))(x13:(qyo×Int×Int))(x15:(Int×Int×Int×Int×Int×qyo×Int))(x16:Int)(x17:(qyo×qyo))(x18:(List (qyo)×Int))(x19:(qyo×qyo×Int))(x20:(Int×qyo×Int))(x21:(Int×Int×Int×Int×qyo×Int×qyo×Int))(x22:(qyo×Int))(x23:(Int×Int×Int×Int×Int×qyo×Int×Int×Int×Int×qyo×Int×qyo×Int))(x24:(qyo×Int×Int))(x25:Bool):Option Bool :=
  (if x25 then jZ F x1 x4 x7 x8 x14 x55 x58 x60 x63 x0 x2 x3 x5 x6 x9 x10 x11 x12 x13 x15 x16 x17 x18 x19 x20 x21 x22 x23 x24 true else ((qc0 F).bind fun x26=>jZ F x1 x4 x7 x8 x14 x55 x58 x60 x63 x0 x2 x3 x5 x6 x9 x10 x11 x12 x13 x15 x16 x17 x18 x19 x20 x21 x22 x23 x24 (!x26)))
def jX (F:Nat)(x1:qyo)(x4:qyo)(x7:Int)(x8:qyo)(x14:List (qyo))(x55:(qyo×qyo))(x58:(qyo×qyo))(x60:Int)(x63:(qyo×qyo))(x0:List (qyo))(x2:(qyo×Int))(x3:(Int×qyo×Int))(x5:(List (Int×Int)×qyo×Int))(x6:(qyo×Int))(x9:(qyo×qyo×Int))(x10:(qyo×Int))(x11:(qyo×Int))(x12:(Int×qyo×Int))(x13:(qyo×Int×Int))(x15:(Int×Int×Int×Int×Int×qyo×Int))(x16:Int)(x17:(qyo×qyo))(x18:(List (qyo)×Int))(x19:(qyo×qyo×Int))(x20:(Int×qyo×Int))(x21:(Int×Int×Int×Int×qyo×Int×qyo×Int))(x22:(qyo×Int))(x23:(Int×Int×Int×Int×Int×qyo×Int×Int×Int×Int×qyo×Int×qyo×Int))(x24:(qyo×Int×Int))(x25:Bool):Option Bool :=
  (if x25 then jY F x1 x4 x7 x8 x14 x55 x58 x60 x63 x0 x2 x3 x5 x6 x9 x10 x11 x12 x13 x15 x16 x17 x18 x19 x20 x21 x22 x23 x24 true else ((qbS F).bind fun x26=>jY F x1 x4 x7 x8 x14 x55 x58 x60 x63 x0 x2 x3 x5 x6 x9 x10 x11 x12 x13 x15 x16 x17 x18 x19 x20 x21 x22 x23 x24 (!x26)))
def qaV (F:Nat)(x1:qyo)(x4:qyo)(x7:Int)(x8:qyo)(x11:Int)(x12:Int)(x13:Int)(x14:List (qyo))(x17:Int)(x55:(qyo×qyo))(x58:(qyo×qyo))(x60:Int)(x63:(qyo×qyo))(x0:List (qyo))(x2:(qyo×Int))(x3:(Int×qyo×Int))(x5:(List (Int×Int)×qyo×Int))(x6:(qyo×Int))(x9:(qyo×qyo×Int))(x10:(qyo×Int))(x15:(qyo×Int))(x16:(Int×qyo×Int))(x18:(qyo×Int×Int))(x19:(Int×Int×Int×Int×Int×qyo×Int))(x20:Int)(x21:(qyo×qyo)):Option Bool :=
  ((qaK F x19.1 x19.2.1 x19.2.2.1 x19.2.2.2.1 x20 x21.1).bind fun x22=>((qaL F x0 x11 x12 x13).bind fun x23=>((qcd F x60 x63.1 3).bind fun x24=>((vt F x55.1 x17).bind fun x25=>((qdn F x25.1 x25.2.1 x25.2.2.1 x25.2.2.2.1 x25.2.2.2.2.1 x25.2.2.2.2.2.1 x25.2.2.2.2.2.2.1).bind fun x26=>((qbj F x0 x11 x12 x13).bind fun x27=>((ke F x27.1 x27.2.1 x27.2.2.1 x27.2.2.2.1 x27.2.2.2.2.1 x27.2.2.2.2.2.1 x27.2.2.2.2.2.2.1 x27.2.2.2.2.2.2.2.1 x27.2.2.2.2.2.2.2.2.1 x27.2.2.2.2.2.2.2.2.2.1 x27.2.2.2.2.2.2.2.2.2.2.1 x27.2.2.2.2.2.2.2.2.2.2.2.1 x27.2.2.2.2.2.2.2.2.2.2.2.2.1 0).bind fun x28=>((qcW F).bind fun x29=>(if (!x29) then jX F x1 x4 x7 x8 x14 x55 x58 x60 x63 x0 x2 x3 x5 x6 x9 x10 x15 x16 x18 x19 x20 x21 x22 x23 x24 x25 x26 x27 x28 true else ((qcZ F).bind fun x30=>jX F x1 x4 x7 x8 x14 x55 x58 x60 x63 x0 x2 x3 x5 x6 x9 x10 x15 x16 x18 x19 x20 x21 x22 x23 x24 x25 x26 x27 x28 (!x30)))))))))))
def qaU (F:Nat)(x1:qyo)(x4:qyo)(x7:Int)(x8:qyo)(x11:Int)(x12:Int)(x13:Int)(x14:List (qyo))(x17:Int)(x18:Int)(x55:(qyo×qyo))(x58:(qyo×qyo))(x60:Int)(x63:(qyo×qyo))(x0:List (qyo)):Option Bool :=
  ((qaE F x55.1 x18).bind fun x2=>((qbM F x2.1 x18).bind fun x3=>((qb5 F x55.1 x18 2).bind fun x5=>((qch F x55.1 3).bind fun x6=>((yB F x6.1 x6.2.1).bind fun x9=>((vV F x58.1 x55.1).bind fun x10=>((vv F x58.1 ([]:qyo)).bind fun x15=>((qca F x58.1 ([]:qyo) ([]:qyo)).bind fun x16=>((jo F x18 x55.1 x58.1 x11 x12 x13).bind fun x19=>((qbP F x60 x63.1 0 x18 x58.1 x11 x12 x13).bind fun x20=>((yx F x0 x11 x12 x13).bind fun x21=>((yv F x21.2.2.2.2.1 x21.2.2.2.2.2.1).bind fun x22=>qaV F x1 x4 x7 x8 x11 x12 x13 x14 x17 x55 x58 x60 x63 x0 x3 x5 x6 x9 x10 x15 x16 x19 x20 x21 x22.1 x22.2))))))))))))
def jW (F:Nat)(x1:qyo)(x4:qyo)(x7:Int)(x8:qyo)(x11:Int)(x12:Int)(x13:Int)(x14:List (qyo))(x17:Int)(x18:Int)(x55:(qyo×qyo))(x58:(qyo×qyo))(x60:Int)(x63:(qyo×qyo))(rec26:(Int×List (qyo))→Option Bool)(x0:Int)(x2:List (qyo)):Option Bool :=
  (if (decide (x0<(x14.length:Int))) then ((idx x14 x0).bind fun x3=>((qaW F x3).bind fun x5=>(chk (decide (x5.2=([77]:qyo))) (((app 5864062014805 x2 ([x5.1]:List (qyo))).bind fun x6=>rec26 (iadd .i64 x0 1,x6)))))) else qaU F x1 x4 x7 x8 x11 x12 x13 x14 x17 x18 x55 x58 x60 x63 x2)
def yf (F:Nat)(x1:qyo)(x4:qyo)(x7:Int)(x8:qyo)(x11:Int)(x12:Int)(x13:Int)(x14:List (qyo))(x17:Int)(x18:Int)(x55:(qyo×qyo))(x58:(qyo×qyo))(x60:Int)(x63:(qyo×qyo)):Nat→(Int×List (qyo))→Option Bool
  | 0=>fun _=>none
  | k+1=>fun s=>jW F x1 x4 x7 x8 x11 x12 x13 x14 x17 x18 x55 x58 x60 x63 (yf F x1 x4 x7 x8 x11 x12 x13 x14 x17 x18 x55 x58 x60 x63 k) s.1 s.2
def yE (F:Nat)(x1:qyo)(x4:qyo)(x7:Int)(x8:qyo)(x11:Int)(x12:Int)(x13:Int)(x14:List (qyo))(x17:Int)(x18:Int)(x55:(qyo×qyo))(x58:(qyo×qyo))(x60:Int)(x63:(qyo×qyo)):Option Bool :=
  yf F x1 x4 x7 x8 x11 x12 x13 x14 x17 x18 x55 x58 x60 x63 F (0,([]:List (qyo)))
def qej (F:Nat)(x1:qyo)(x4:qyo)(x7:Int)(x8:qyo)(x11:Int)(x12:Int)(x13:Int)(x14:List (qyo))(x17:Int)(x18:Int):Option Bool :=
  ((qaW F x1).bind fun x0=>((qaW F x4).bind fun x2=>((yv F x7 x8).bind fun x3=>yE F x1 x4 x7 x8 x11 x12 x13 x14 x17 x18 x0 x2 x3.1 x3.2)))
end Go.Proofs.YtmoikolponkmpaaGreat
