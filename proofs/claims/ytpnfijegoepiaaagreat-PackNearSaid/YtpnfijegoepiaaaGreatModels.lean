/- What each Go function of this seat computes, in plain terms. -/
import Derived.Test.YtpnfijegoepiaaaGreatSy
namespace Go.Proofs.YtpnfijegoepiaaaGreat
open Go SX
def yn (_F : Nat) (x1 : Int) (x2 : Int) (x3 : Int) : Option Int :=
  (if (((((((decide (x1 < 0)) || (decide (7 < x1))) || (decide (x2 < 0))) || ((x2 : Int) == 1)) || (decide (300 < x2))) || (decide (x3 < 1))) || (decide (16 < x3))) then some 3 else some 0)
def jV (_F : Nat) (x798 : Int) : Option Int :=
  (if (decide (600 < x798)) then some 2 else some 0)
def jW (_F : Nat) (rec38 : (Int × Int) → Option Int) (x1065 : Int) (x1461 : Int) : Option Int :=
  rec38 (x1461, iadd .i64 x1065 1)
def vC (F : Nat) (rec38 : (Int × Int) → Option Int) (x1064 : Int) (x1065 : Int) (x1462 : List Int) : Option Int :=
  jW F rec38 x1065 (iadd .i64 x1064 (x1462.length : Int))
def vB (F : Nat) (rec38 : (Int × Int) → Option Int) (x1 : List (List Int)) (x1064 : Int) (x1065 : Int) (x1462 : List Int) (rec45 : (Int × Int) → Option Int) (x1549 : Int) (x1550 : Int) : Option Int :=
  (if (decide (x1550 < (x1462.length : Int))) then ((idx x1462 x1550).bind fun x1582 => (if ((decide (x1582 < 0)) || (decide ((x1.length : Int) ≤ x1582))) then some 3 else (if (decide (x1582 ≤ x1549)) then some 4 else rec45 (x1582, iadd .i64 x1550 1)))) else vC F rec38 x1064 x1065 x1462)
def kr (F : Nat) (rec38 : (Int × Int) → Option Int) (x1 : List (List Int)) (x1064 : Int) (x1065 : Int) (x1462 : List Int) : Nat → (Int × Int) → Option Int
  | 0 => fun _ => none
  | k + 1 => fun s => vB F rec38 x1 x1064 x1065 x1462 (kr F rec38 x1 x1064 x1065 x1462 k) s.1 s.2
def vA (F : Nat) (x1 : List (List Int)) (rec38 : (Int × Int) → Option Int) (x1064 : Int) (x1065 : Int) : Option Int :=
  (if (decide (x1065 < (x1.length : Int))) then ((idx x1 x1065).bind fun x1462 => kr F rec38 x1 x1064 x1065 x1462 F (-1, 0)) else jV F x1064)
def qM (F : Nat) (x1 : List (List Int)) : Nat → (Int × Int) → Option Int
  | 0 => fun _ => none
  | k + 1 => fun s => vA F x1 (qM F x1 k) s.1 s.2
def qaA (F : Nat) (x1 : List (List Int)) : Option Int :=
  (if (decide (100 < (x1.length : Int))) then some 2 else qM F x1 F (0, 0))
def ju (_F : Nat) (_x1 : Int) (_x2 : List Int) (_x5 : Int) (_x6 : Int) : Option Unit :=
  some ()
def kj (_F : Nat) (x2 : Int) (x6 : Int) (x15 : List Int) : Option (Int × List Int) :=
  ((idx x15 (iquo .i64 x2 8)).bind fun x30 => (chk (decide (0 ≤ (irem x2 8))) (((idx x15 (iquo .i64 x2 8)).bind fun _x36 => (lett (x15.set (iquo .i64 x2 8).toNat (ior .u8 x30 (ishr .u8 (iconv .u8 (ishl .u64 x6 7)) (irem x2 8)))) fun x41 => some (iadd .i64 x2 1, x41))))))
def kq (F : Nat) (x2 : Int) (x3 : List Int) (x6 : Int) : Option (Int × List Int) :=
  (if (((irem x2 8) : Int) == 0) then ((app 70368744177664 x3 ([0] : List Int)).bind fun x46 => kj F x2 x6 x46) else kj F x2 x6 x3)
def kf (_F : Nat) (x1 : List Int) : Option (List Int) :=
  ((app 70368744177664 ([] : List Int) x1).bind fun x8 => some x8)
def qa2 (F : Nat) (x1 : Int) (x2 : List Int) : Option (Int × List Int) :=
  ((kf F x2).bind fun x10 => some (x1, x10))
def jm (_F : Nat) (_x1 : Int) (x2 : List Int) (x5 : Int) : Option Int :=
  ((idx x2 (iquo .i64 x5 8)).bind fun x7 => (chk (decide (0 ≤ (isub .i64 7 (irem x5 8)))) ((lett (iand .u64 (iconv .u64 (ishr .u8 x7 (isub .i64 7 (irem x5 8)))) 1) fun x11 => some x11))))
def yQ {σ τ : Type} (F : Nat) (yy : σ → Int → Option (σ ⊕ τ)) (x4 : Int) (x6 : Int) (x7 : List Int) (rec1 : (Int × σ) → Option (σ ⊕ τ)) (x22 : Int) (x23 : σ) : Option (σ ⊕ τ) :=
  (if (decide (x22 < x4)) then ((jm F x6 x7 x22).bind fun x44 => ((yy x23 x44).bind (Sum.elim (fun x45 => rec1 (iadd .i64 x22 1, x45)) (fun x46 => some (.inr x46))))) else some (.inl x23))
def zb {σ τ : Type} (F : Nat) (yy : σ → Int → Option (σ ⊕ τ)) (x4 : Int) (x6 : Int) (x7 : List Int) : Nat → (Int × σ) → Option (σ ⊕ τ)
  | 0 => fun _ => none
  | k + 1 => fun s => yQ F yy x4 x6 x7 (zb F yy x4 x6 x7 k) s.1 s.2
def vd {σ τ : Type} (F : Nat) (yy : σ → Int → Option (σ ⊕ τ)) (x2 : Int) (x4 : Int) (x6 : Int) (x7 : List Int) (s0 : σ) : Option (σ ⊕ τ) :=
  zb F yy x4 x6 x7 F (x2, s0)
def vU (F : Nat) (x45 : Int) (x48 : List Int) (x53 : Int) : Option ((Int × List Int) ⊕ Empty) :=
  ((kq F x45 x48 x53).bind fun x54 => some (.inl (x54.1, x54.2)))
def yg (F : Nat) (x1 : Int) (x2 : List Int) (x5 : Int) (x6 : List Int) : Option (Int × List Int) :=
  ((qa2 F x1 x2).bind fun x12 => ((ju F x5 x6 0 x5).bind fun _x37 => ((vd F (fun ((x45, x48) : (Int × List Int)) (x53 : Int) => vU F x45 x48 x53) 0 x5 x5 x6 (x12.1, x12.2)).bind (Sum.elim (fun ((x45, x48) : (Int × List Int)) => some (x45, x48)) (fun t => t.elim)))))
def qaG (_F : Nat) (x1 : Int) : Option Bool :=
  some ((decide (0 ≤ x1)) && (decide (x1 ≤ 1048576)))
def qcc (_F : Nat) : Option Int :=
  some 0
def jF (F : Nat) (x1 : List Int) (rec3 : (Int × Int) → Option Int) (x88 : Int) (x89 : Int) : Option Int :=
  (if (decide (x89 < (x1.length : Int))) then ((idx x1 x89).bind fun x121 => ((qaG F x121).bind fun x127 => (if (!x127) then some 3 else (if (decide (x121 ≤ x88)) then some 4 else rec3 (x121, iadd .i64 x89 1))))) else qcc F)
def kZ (F : Nat) (x1 : List Int) : Nat → (Int × Int) → Option Int
  | 0 => fun _ => none
  | k + 1 => fun s => jF F x1 (kZ F x1 k) s.1 s.2
def yk (F : Nat) (x1 : List Int) : Option Int :=
  (if (decide (300 < (x1.length : Int))) then some 2 else kZ F x1 F (-1, 0))
def j1 (F : Nat) (x1 : Int) (x2 : List Int) (x5 : Int) (_x6 : Int) (_x7 : Int) : Option Int :=
  (if ((decide (x1 < 0)) || (decide (1048576 < x1))) then some 3 else (if (decide (0 < x5)) then ((yk F x2).bind fun x14 => some x14) else some 0))
def kp (F : Nat) (x2 : Int) (x3 : List Int) (x7 : Int) (x8 : List Int) (x13 : Bool) : Option (Int × List Int × Bool) :=
  (if (!x13) then ((yg F x2 x3 x7 x8).bind fun x14 => some (x14.1, x14.2, x13)) else some (x2, x3, x13))
def kx (F : Nat) (x2 : Int) (x3 : List Int) (x6 : Bool) (x7 : Int) (x8 : List Int) : Option (Int × List Int × Bool) :=
  (if x6 then kp F x2 x3 x7 x8 true else kp F x2 x3 x7 x8 (decide (8192 < (iadd .i64 x2 x7))))
def zk (F : Nat) (x6 : Int) (rec1 : (Int × Int × List Int) → Option (Int × List Int)) (x18 : Int) (x19 : Int) (x22 : List Int) : Option (Int × List Int) :=
  (if (decide (0 ≤ x18)) then (chk (decide (0 ≤ x18)) (((kq F x19 x22 (iand .u64 (ishr .u64 x6 x18) 1)).bind fun x40 => rec1 (isub .i64 x18 1, x40.1, x40.2)))) else some (x19, x22))
def zl (F : Nat) (x6 : Int) : Nat → (Int × Int × List Int) → Option (Int × List Int)
  | 0 => fun _ => none
  | k + 1 => fun s => zk F x6 (zl F x6 k) s.1 s.2.1 s.2.2
def yi (F : Nat) (x2 : Int) (x3 : List Int) (x6 : Int) (x7 : Int) : Option (Int × List Int) :=
  zl F x6 F (isub .i64 x7 1, x2, x3)
def yP (F : Nat) (x1 : Int) (x2 : List Int) (x5 : Int) (x6 : Int) : Option (Int × List Int) :=
  ((qa2 F x1 x2).bind fun x9 => ((yi F x9.1 x9.2 x5 x6).bind fun x13 => some (x13.1, x13.2)))
def ko (_F : Nat) (x9 : Int) (x10 : Int) : Option Int :=
  ((idx ([0, 1, 2, 2, 3, 3, 3, 3, 4, 4, 4, 4, 4, 4, 4, 4, 5, 5, 5, 5, 5, 5, 5, 5, 5, 5, 5, 5, 5, 5, 5, 5, 6, 6, 6, 6, 6, 6, 6, 6, 6, 6, 6, 6, 6, 6, 6, 6, 6, 6, 6, 6, 6, 6, 6, 6, 6, 6, 6, 6, 6, 6, 6, 6, 7, 7, 7, 7, 7, 7, 7, 7, 7, 7, 7, 7, 7, 7, 7, 7, 7, 7, 7, 7, 7, 7, 7, 7, 7, 7, 7, 7, 7, 7, 7, 7, 7, 7, 7, 7, 7, 7, 7, 7, 7, 7, 7, 7, 7, 7, 7, 7, 7, 7, 7, 7, 7, 7, 7, 7, 7, 7, 7, 7, 7, 7, 7, 7, 8, 8, 8, 8, 8, 8, 8, 8, 8, 8, 8, 8, 8, 8, 8, 8, 8, 8, 8, 8, 8, 8, 8, 8, 8, 8, 8, 8, 8, 8, 8, 8, 8, 8, 8, 8, 8, 8, 8, 8, 8, 8, 8, 8, 8, 8, 8, 8, 8, 8, 8, 8, 8, 8, 8, 8, 8, 8, 8, 8, 8, 8, 8, 8, 8, 8, 8, 8, 8, 8, 8, 8, 8, 8, 8, 8, 8, 8, 8, 8, 8, 8, 8, 8, 8, 8, 8, 8, 8, 8, 8, 8, 8, 8, 8, 8, 8, 8, 8, 8, 8, 8, 8, 8, 8, 8, 8, 8, 8, 8, 8, 8, 8, 8, 8, 8, 8, 8, 8, 8, 8, 8, 8, 8, 8, 8, 8, 8] : List Int) (iconv .u8 x9)).bind fun x11 => some (iadd .i64 x10 (iconv .i64 x11)))
def kn (F : Nat) (x6 : Int) (x7 : Int) : Option Int :=
  (if (decide (256 ≤ x6)) then ko F (ishr .u64 x6 8) (iadd .i64 x7 8) else ko F x6 x7)
def km (F : Nat) (x3 : Int) (x4 : Int) : Option Int :=
  (if (decide (65536 ≤ x3)) then kn F (ishr .u64 x3 16) (iadd .i64 x4 16) else kn F x3 x4)
def ku (F : Nat) (x1 : Int) : Option Int :=
  (if (decide (4294967296 ≤ x1)) then km F (ishr .u64 x1 32) 32 else km F x1 0)
def qaO (F : Nat) (x1 : Int) : Option Int :=
  ((ku F (iadd .u64 x1 1)).bind fun x2 => some (isub .i64 x2 1))
def qaK (F : Nat) (x1 : Int) : Option (Int × List Int) :=
  ((mk 140737488355328 (0 : Int) (iquo .u64 (iadd .u64 x1 7) 8)).bind fun x3 => ((yP F (iconv .i64 x1) x3 1 1).bind fun x6 => some (x6.1, x6.2)))
def qbj (_F : Nat) (x1 : Int) (x2 : Int) : Option Int :=
  (chk (decide (0 ≤ x2)) ((lett (iand .u64 x1 (isub .u64 (ishl .u64 1 x2) 1)) fun x4 => some x4)))
def yD (F : Nat) (x1 : Int) : Option (Int × List Int) :=
  ((qaO F x1).bind fun x3 => ((qaK F (iconv .u64 x3)).bind fun x4 => ((qbj F (iadd .u64 x1 1) x3).bind fun x7 => ((yP F x4.1 x4.2 x7 x3).bind fun x8 => some (x8.1, x8.2)))))
def qH (F : Nat) (x2 : Int) (x3 : List Int) (x6 : Bool) (x7 : Int) : Option (Int × List Int × Bool) :=
  ((yD F (iconv .u64 x7)).bind fun x8 => ((kx F x2 x3 x6 x8.1 x8.2).bind fun x11 => some (x11.1, x11.2.1, x11.2.2)))
def jE (_F : Nat) (x1 : Int) : Option Bool :=
  some ((x1 : Int) != x1)
def vw (_F : Nat) (x1 : Int) (x2 : Int) (x6 : Bool) : Option Bool :=
  some (x6 || (decide (x1 < x2)))
def jS (F : Nat) (x1 : Int) (x2 : Int) : Option Bool :=
  ((jE F x1).bind fun x3 => (if x3 then ((jE F x2).bind fun x8 => vw F x1 x2 (!x8)) else vw F x1 x2 false))
def yV (_F : Nat) (x1 : Int) : Option Bool :=
  some ((x1 : Int) != x1)
def zN (_F : Nat) (x32 : Int) (x55 : Bool) : Option (Int × Bool) :=
  some (x32, x55)
def zO (F : Nat) (x32 : Int) (x68 : Bool) : Option (Int × Bool) :=
  zN F x32 x68
def zP (F : Nat) (x32 : Int) (x75 : Bool) : Option (Int × Bool) :=
  zO F x32 x75
def zM (F : Nat) (x1 : List Int) (x4 : Int) (x32 : Int) : Option (Int × Bool) :=
  (if (decide (x32 < (x1.length : Int))) then ((idx x1 x32).bind fun x56 => (if ((x56 : Int) == x4) then zO F x32 true else ((idx x1 x32).bind fun x69 => ((yV F x69).bind fun x72 => (if x72 then ((yV F x4).bind fun x76 => zP F x32 x76) else zP F x32 false))))) else zN F x32 false)
def zg (F : Nat) (x1 : List Int) (x4 : Int) (rec10 : (Int × Int) → Option (Int × Bool)) (x85 : Int) (x86 : Int) : Option (Int × Bool) :=
  (if (decide (x85 < x86)) then (lett (iconv .i64 (ishr .u64 (iconv .u64 (iadd .i64 x85 x86)) 1)) fun x97 => ((idx x1 x97).bind fun x98 => ((jS F x98 x4).bind fun x101 => (if x101 then rec10 (iadd .i64 x97 1, x86) else rec10 (x85, x97))))) else zM F x1 x4 x85)
def qz (F : Nat) (x1 : List Int) (x4 : Int) : Nat → (Int × Int) → Option (Int × Bool)
  | 0 => fun _ => none
  | k + 1 => fun s => zg F x1 x4 (qz F x1 x4 k) s.1 s.2
def za (F : Nat) (x1 : List Int) (x4 : Int) : Option (Int × Bool) :=
  qz F x1 x4 F (0, (x1.length : Int))
def kU (_F : Nat) (x21 : List Int) (x22 : Bool) (x23 : Int) : Option (List Int × Bool × Int) :=
  some (x21, x22, iadd .i64 x23 1)
def yU (F : Nat) (x2 : List Int) (x5 : Bool) (x6 : Int) (x7 : Bool) : Option (List Int × Bool × Int) :=
  (if (x7 != x5) then ((app 8796093022208 x2 ([x6] : List Int)).bind fun x31 => kU F x31 x7 0) else kU F x2 x5 x6)
def qa7 (_F : Nat) (x66 : List Int) (x151 : List Int) : Option (List Int × List Int) :=
  some (x66, x151)
def jL (_F : Nat) (rec10 : (List Int × Int) → Option (List Int × List Int)) (x180 : Int) (x220 : List Int) : Option (List Int × List Int) :=
  rec10 (x220, iadd .i64 x180 1)
def jJ (F : Nat) (x1 : List Int) (x4 : List Int) (x66 : List Int) (rec10 : (List Int × Int) → Option (List Int × List Int)) (x179 : List Int) (x180 : Int) : Option (List Int × List Int) :=
  (if (decide (x180 < (x4.length : Int))) then ((idx x4 x180).bind fun x221 => ((za F x1 x221).bind fun x224 => (if (!x224.2) then ((app 8796093022208 x179 ([x221] : List Int)).bind fun x227 => jL F rec10 x180 x227) else jL F rec10 x180 x179))) else qa7 F x66 x179)
def kC (F : Nat) (x1 : List Int) (x4 : List Int) (x66 : List Int) : Nat → (List Int × Int) → Option (List Int × List Int)
  | 0 => fun _ => none
  | k + 1 => fun s => jJ F x1 x4 x66 (kC F x1 x4 x66 k) s.1 s.2
def qa6 (F : Nat) (x1 : List Int) (x4 : List Int) (x66 : List Int) (_x67 : Bool) (_x68 : Int) : Option (List Int × List Int) :=
  kC F x1 x4 x66 F (([] : List Int), 0)
def jK (F : Nat) (x1 : List Int) (x4 : List Int) (rec12 : (Int × List Int × Bool × Int) → Option (List Int × List Int)) (x249 : Int) (x252 : List Int) (x253 : Bool) (x254 : Int) : Option (List Int × List Int) :=
  (if (decide (x249 < (x1.length : Int))) then ((idx x1 x249).bind fun x280 => ((za F x4 x280).bind fun x283 => ((yU F x252 x253 x254 x283.2).bind fun x284 => rec12 (iadd .i64 x249 1, x284.1, x284.2.1, x284.2.2)))) else qa6 F x1 x4 x252 x253 x254)
def k6 (F : Nat) (x1 : List Int) (x4 : List Int) : Nat → (Int × List Int × Bool × Int) → Option (List Int × List Int)
  | 0 => fun _ => none
  | k + 1 => fun s => jK F x1 x4 (k6 F x1 x4 k) s.1 s.2.1 s.2.2.1 s.2.2.2
def qbn (F : Nat) (x1 : List Int) (x4 : List Int) : Option (List Int × List Int) :=
  k6 F x1 x4 F (0, ([] : List Int), true, 0)
def ky (F : Nat) (x7 : List Int) (rec1 : (Int × Int × List Int × Bool) → Option (Int × List Int × Bool)) (x27 : Int) (x28 : Int) (x31 : List Int) (x32 : Bool) : Option (Int × List Int × Bool) :=
  (if (decide (x27 < (x7.length : Int))) then ((idx x7 x27).bind fun x55 => ((qH F x28 x31 x32 (isub .i64 x55 (imin x27 1))).bind fun x58 => rec1 (iadd .i64 x27 1, x58.1, x58.2.1, x58.2.2))) else some (x28, x31, x32))
def zn (F : Nat) (x7 : List Int) : Nat → (Int × Int × List Int × Bool) → Option (Int × List Int × Bool)
  | 0 => fun _ => none
  | k + 1 => fun s => ky F x7 (zn F x7 k) s.1 s.2.1 s.2.2.1 s.2.2.2
def yq (F : Nat) (x2 : Int) (x3 : List Int) (x6 : Bool) (x7 : List Int) : Option (Int × List Int × Bool) :=
  ((qH F x2 x3 x6 (x7.length : Int)).bind fun x10 => zn F x7 F (0, x10.1, x10.2.1, x10.2.2))
def qcl (_F : Nat) (_x1 : List Int) : Option Unit :=
  some ()
def vI {σ τ : Type} (_F : Nat) (yy : σ → (Int × Int) → Option (σ ⊕ τ)) (rec31 : (Int × σ) → Option (σ ⊕ τ)) (x2 : List Int) (x266 : Int) (x267 : σ) (x654 : Int) : Option (σ ⊕ τ) :=
  ((idx x2 x266).bind fun x662 => ((yy x267 (x662, x654)).bind (Sum.elim (fun x665 => rec31 (iadd .i64 x266 x654, x665)) (fun x666 => some (.inr x666)))))
def vJ {σ τ : Type} (F : Nat) (yy : σ → (Int × Int) → Option (σ ⊕ τ)) (rec31 : (Int × σ) → Option (σ ⊕ τ)) (rec44 : Int → Option (σ ⊕ τ)) (x2 : List Int) (x266 : Int) (x267 : σ) (x709 : Int) (x780 : Bool) : Option (σ ⊕ τ) :=
  (if x780 then rec44 (iadd .i64 x709 1) else vI F yy rec31 x2 x266 x267 x709)
def vH {σ τ : Type} (F : Nat) (yy : σ → (Int × Int) → Option (σ ⊕ τ)) (rec31 : (Int × σ) → Option (σ ⊕ τ)) (x2 : List Int) (x266 : Int) (x267 : σ) (rec44 : Int → Option (σ ⊕ τ)) (x709 : Int) : Option (σ ⊕ τ) :=
  (if (decide ((iadd .i64 x266 x709) < (x2.length : Int))) then ((idx x2 (iadd .i64 x266 x709)).bind fun x783 => ((idx x2 x266).bind fun x787 => vJ F yy rec31 rec44 x2 x266 x267 x709 ((x783 : Int) == (iadd .i64 x787 x709)))) else vJ F yy rec31 rec44 x2 x266 x267 x709 false)
def zK {σ τ : Type} (F : Nat) (yy : σ → (Int × Int) → Option (σ ⊕ τ)) (rec31 : (Int × σ) → Option (σ ⊕ τ)) (x2 : List Int) (x266 : Int) (x267 : σ) : Nat → Int → Option (σ ⊕ τ)
  | 0 => fun _ => none
  | k + 1 => fun s => vH F yy rec31 x2 x266 x267 (zK F yy rec31 x2 x266 x267 k) s
def vG {σ τ : Type} (F : Nat) (yy : σ → (Int × Int) → Option (σ ⊕ τ)) (x2 : List Int) (rec31 : (Int × σ) → Option (σ ⊕ τ)) (x266 : Int) (x267 : σ) : Option (σ ⊕ τ) :=
  (if (decide (x266 < (x2.length : Int))) then zK F yy rec31 x2 x266 x267 F 1 else some (.inl x267))
def qA {σ τ : Type} (F : Nat) (yy : σ → (Int × Int) → Option (σ ⊕ τ)) (x2 : List Int) : Nat → (Int × σ) → Option (σ ⊕ τ)
  | 0 => fun _ => none
  | k + 1 => fun s => vG F yy x2 (qA F yy x2 k) s.1 s.2
def jx {σ τ : Type} (F : Nat) (yy : σ → (Int × Int) → Option (σ ⊕ τ)) (x2 : List Int) (s0 : σ) : Option (σ ⊕ τ) :=
  qA F yy x2 F (0, s0)
def qaD (_F : Nat) (x255 : List (Int × Int)) (x312 : Int) (x313 : Int) (rec8 : (Int × List Int) → Option ((List Int × List (Int × Int)) ⊕ Empty)) (x338 : Int) (x341 : List Int) : Option ((List Int × List (Int × Int)) ⊕ Empty) :=
  (if (decide (x338 < x313)) then ((app 8796093022208 x341 ([iadd .i64 x312 x338] : List Int)).bind fun x363 => rec8 (iadd .i64 x338 1, x363)) else some (.inl (x341, x255)))
def vt (F : Nat) (x255 : List (Int × Int)) (x312 : Int) (x313 : Int) : Nat → (Int × List Int) → Option ((List Int × List (Int × Int)) ⊕ Empty)
  | 0 => fun _ => none
  | k + 1 => fun s => qaD F x255 x312 x313 (vt F x255 x312 x313 k) s.1 s.2
def jw (F : Nat) (x4 : Int) (x252 : List Int) (x255 : List (Int × Int)) (x312 : Int) (x313 : Int) : Option ((List Int × List (Int × Int)) ⊕ Empty) :=
  (if (decide (x4 ≤ x313)) then ((app 4398046511104 x255 ([(x312, x313)] : List (Int × Int))).bind fun x323 => some (.inl (x252, x323))) else vt F x255 x312 x313 F (0, x252))
def qbX (F : Nat) (x1 : List Int) (x4 : Int) : Option (List (Int × Int) × List Int) :=
  ((qcl F x1).bind fun _x188 => ((jx F (fun ((x252, x255) : (List Int × List (Int × Int))) ((x312, x313) : (Int × Int)) => jw F x4 x252 x255 x312 x313) x1 (([] : List Int), ([] : List (Int × Int)))).bind (Sum.elim (fun ((x252, x255) : (List Int × List (Int × Int))) => some (x255, x252)) (fun t => t.elim))))
def jz (_F : Nat) (x1 : Int) : Option Int :=
  (lett (ixor .u64 (ishl .u64 (iconv .u64 x1) 1) (iconv .u64 (ishr .i64 x1 63))) fun x2 => some x2)
def kd (F : Nat) (rec5 : (Int × Int × Int × List Int × Bool) → Option (Int × List Int × Bool)) (x8 : Int) (x74 : Int) (x168 : (Int × Int)) (x180 : Int) (x183 : List Int) (x184 : Bool) : Option (Int × List Int × Bool) :=
  ((qH F x180 x183 x184 (isub .i64 x168.2 x8)).bind fun x185 => rec5 (isub .i64 (iadd .i64 x168.1 x168.2) 1, iadd .i64 x74 1, x185.1, x185.2.1, x185.2.2))
def kY (F : Nat) (x8 : Int) (x9 : List (Int × Int)) (rec5 : (Int × Int × Int × List Int × Bool) → Option (Int × List Int × Bool)) (x73 : Int) (x74 : Int) (x75 : Int) (x78 : List Int) (x79 : Bool) : Option (Int × List Int × Bool) :=
  (if (decide (x74 < (x9.length : Int))) then ((idx x9 x74).bind fun x168 => (if ((x74 : Int) == 0) then ((jz F (isub .i64 x168.1 x73)).bind fun x188 => ((qH F x75 x78 x79 (iconv .i64 x188)).bind fun x189 => kd F rec5 x8 x74 x168 x189.1 x189.2.1 x189.2.2)) else ((qH F x75 x78 x79 (isub .i64 (isub .i64 x168.1 x73) 2)).bind fun x192 => kd F rec5 x8 x74 x168 x192.1 x192.2.1 x192.2.2))) else some (x75, x78, x79))
def qZ (F : Nat) (x8 : Int) (x9 : List (Int × Int)) : Nat → (Int × Int × Int × List Int × Bool) → Option (Int × List Int × Bool)
  | 0 => fun _ => none
  | k + 1 => fun s => kY F x8 x9 (qZ F x8 x9 k) s.1 s.2.1 s.2.2.1 s.2.2.2.1 s.2.2.2.2
def yX (F : Nat) (x2 : Int) (x3 : List Int) (x6 : Bool) (x7 : Int) (x8 : Int) (x9 : List (Int × Int)) : Option (Int × List Int × Bool) :=
  ((qH F x2 x3 x6 (x9.length : Int)).bind fun x12 => qZ F x8 x9 F (x7, 0, x12.1, x12.2.1, x12.2.2))
def qaz (F : Nat) (x1 : Int) (x2 : Int) : Option (Int × Int × Int) :=
  ((ku F (iadd .u64 x1 1)).bind fun x3 => (chk ((x2 : Int) != 0) ((chk (decide (0 ≤ (imul .i64 (iquo .i64 (isub .i64 x3 1) x2) x2))) ((chk (decide (0 ≤ (iadd .i64 (imul .i64 (iquo .i64 (isub .i64 x3 1) x2) x2) x2))) (some (iquo .i64 (isub .i64 x3 1) x2, ishl .u64 1 (imul .i64 (iquo .i64 (isub .i64 x3 1) x2) x2), ishl .u64 1 (iadd .i64 (imul .i64 (iquo .i64 (isub .i64 x3 1) x2) x2) x2)))))))))
def vW (F : Nat) (x1 : Int) : Option (Int × Int) :=
  ((ku F (isub .u64 x1 1)).bind fun x2 => (chk (decide (0 ≤ x2)) (some (x2, isub .u64 (ishl .u64 1 x2) x1))))
def vz (F : Nat) (x1 : Int) (x2 : List Int) (x5 : Int) (x6 : Int) : Option (Int × List Int) :=
  ((vW F x6).bind fun x9 => (if (decide (x5 < x9.2)) then ((yP F x1 x2 x5 (isub .i64 x9.1 1)).bind fun x14 => some (x14.1, x14.2)) else ((yP F x1 x2 (iadd .u64 x5 x9.2) x9.1).bind fun x17 => some (x17.1, x17.2))))
def qay (F : Nat) (x1 : Int) (x2 : Int) : Option (Int × List Int × Int) :=
  (if (((decide (x2 < 1)) || (decide (16 < x2))) || (decide (1099511627776 < x1))) then some (0, ([] : List Int), 3) else ((qaz F x1 x2).bind fun x9 => ((qaK F (iconv .u64 x9.1)).bind fun x10 => ((vz F x10.1 x10.2 (isub .u64 (iadd .u64 x1 1) x9.2.1) (isub .u64 x9.2.2 x9.2.1)).bind fun x13 => some (x13.1, x13.2, 0)))))
def qcJ (_F : Nat) (x107 : Int) (x110 : List Int) : Option (Int × List Int × Bool) :=
  some (x107, x110, true)
def qaw (F : Nat) (x5 : List Int) (x8 : Int) (rec3 : (Int × Int × List Int) → Option (Int × List Int × Bool)) (x141 : Int) (x142 : Int) (x145 : List Int) : Option (Int × List Int × Bool) :=
  (if (decide (x141 < (x5.length : Int))) then ((idx x5 x141).bind fun x192 => ((qay F x192 x8).bind fun x195 => (if (((x195.2.2 : Int) != 0) || (decide (8192 < (iadd .i64 x142 x195.1)))) then some (0, ([] : List Int), false) else ((yg F x142 x145 x195.1 x195.2.1).bind fun x202 => rec3 (iadd .i64 x141 1, x202.1, x202.2))))) else qcJ F x142 x145)
def vq (F : Nat) (x5 : List Int) (x8 : Int) : Nat → (Int × Int × List Int) → Option (Int × List Int × Bool)
  | 0 => fun _ => none
  | k + 1 => fun s => qaw F x5 x8 (vq F x5 x8 k) s.1 s.2.1 s.2.2
def jN (F : Nat) (x1 : Int) (x2 : List Int) (x5 : List Int) (x8 : Int) : Option (Int × List Int × Bool) :=
  vq F x5 x8 F (0, x1, x2)
def vV (_F : Nat) (x4 : Int) (x8 : Int) : Option (Int × Int × Bool) :=
  some (x8, x4, true)
def vx (F : Nat) (x2 : Int) (x3 : Bool) (x4 : Int) : Option (Int × Int × Bool) :=
  (if x3 then (lett (iconv .u64 (isub .i64 (isub .i64 x4 x2) 1)) fun x9 => vV F x4 x9) else ((jz F (isub .i64 x4 x2)).bind fun x10 => vV F x4 x10))
def qbB (_F : Nat) (x75 : List Int) : Option (List Int) :=
  some x75
def qax (F : Nat) (x1 : List Int) (rec3 : (List Int × Int × Int × Bool) → Option (List Int)) (x98 : List Int) (x99 : Int) (x100 : Int) (x101 : Bool) : Option (List Int) :=
  (if (decide (x99 < (x1.length : Int))) then ((idx x1 x99).bind fun x133 => ((vx F x100 x101 x133).bind fun x136 => ((app 8796093022208 x98 ([x136.1] : List Int)).bind fun x139 => rec3 (x139, iadd .i64 x99 1, x136.2.1, x136.2.2)))) else qbB F x98)
def vr (F : Nat) (x1 : List Int) : Nat → (List Int × Int × Int × Bool) → Option (List Int)
  | 0 => fun _ => none
  | k + 1 => fun s => qax F x1 (vr F x1 k) s.1 s.2.1 s.2.2.1 s.2.2.2
def qa4 (F : Nat) (x1 : List Int) (x4 : Int) : Option (List Int) :=
  vr F x1 F (([] : List Int), 0, x4, false)
def kb (F : Nat) (x52 : Int) (x55 : List Int) (x56 : Bool) (x76 : Bool) (x77 : Int) (x80 : List Int) : Option (Int × List Int × Bool) :=
  ((kx F x52 x55 (x56 || (!x76)) x77 x80).bind fun x82 => some (x82.1, x82.2.1, x82.2.2))
def ka (F : Nat) (x7 : Int) (x16 : Int) (x51 : List Int) (x52 : Int) (x55 : List Int) (x56 : Bool) : Option (Int × List Int × Bool) :=
  ((qa4 F x51 x7).bind fun x85 => ((jN F 0 ([] : List Int) x85 x16).bind fun x88 => kb F x52 x55 x56 x88.2.2 x88.1 x88.2.1))
def zZ (F : Nat) (x7 : Int) (x15 : Int) (x16 : Int) (x33 : List Int) (x34 : Int) (x37 : List Int) (x38 : Bool) : Option (Int × List Int × Bool) :=
  (if (((x33.length : Int) : Int) == 0) then some (x34, x37, x38) else (if (decide (0 < x15)) then ((qbX F x33 x15).bind fun x103 => ((yX F x34 x37 x38 x7 x15 x103.1).bind fun x108 => ka F x7 x16 x103.2 x108.1 x108.2.1 x108.2.2)) else ka F x7 x16 x33 x34 x37 x38))
def kS (F : Nat) (x2 : Int) (x3 : List Int) (x6 : Bool) (x7 : Int) (x8 : List Int) (x11 : List Int) (x14 : Int) (x15 : Int) (x16 : Int) : Option (Int × List Int × Bool) :=
  ((qH F x2 x3 x6 (x8.length : Int)).bind fun x18 => (if (((x8.length : Int) : Int) == 0) then some (x18.1, x18.2.1, x18.2.2) else (if (decide (0 < x14)) then ((qbn F x11 x8).bind fun x113 => ((yq F x18.1 x18.2.1 x18.2.2 x113.1).bind fun x118 => zZ F x7 x15 x16 x113.2 x118.1 x118.2.1 x118.2.2)) else zZ F x7 x15 x16 x8 x18.1 x18.2.1 x18.2.2)))
def vh (F : Nat) (x1 : Int) (x2 : List Int) (x5 : List Int) (x8 : Int) (x9 : Int) (x10 : Int) (x25 : Int) : Option (Int × List Int × Int) :=
  (if ((x25 : Int) != 0) then some (0, ([] : List Int), x25) else ((kS F 0 ([] : List Int) false x1 x2 x5 x8 x9 x10).bind fun x28 => (if x28.2.2 then some (0, ([] : List Int), 8) else some (x28.1, x28.2.1, 0))))
def k8 (F : Nat) (x1 : Int) (x2 : List Int) (x5 : List Int) (x8 : Int) (x9 : Int) (x10 : Int) (x22 : Int) : Option (Int × List Int × Int) :=
  (if ((x22 : Int) == 0) then ((j1 F x1 x5 x8 x9 x10).bind fun x34 => vh F x1 x2 x5 x8 x9 x10 x34) else vh F x1 x2 x5 x8 x9 x10 x22)
def k7 (F : Nat) (x1 : Int) (x2 : List Int) (x5 : List Int) (x8 : Int) (x9 : Int) (x10 : Int) (x19 : Int) : Option (Int × List Int × Int) :=
  (if ((x19 : Int) == 0) then ((yk F x2).bind fun x36 => k8 F x1 x2 x5 x8 x9 x10 x36) else k8 F x1 x2 x5 x8 x9 x10 x19)
def vi (F : Nat) (x1 : Int) (x2 : List Int) (x5 : List Int) (x8 : Int) (x9 : Int) (x10 : Int) (x13 : Int) (x40 : Bool) : Option (Int × List Int × Int) :=
  (if x40 then k7 F x1 x2 x5 x8 x9 x10 3 else k7 F x1 x2 x5 x8 x9 x10 x13)
def yo (F : Nat) (x1 : Int) (x2 : List Int) (x5 : List Int) (x8 : Int) (x9 : Int) (x10 : Int) : Option (Int × List Int × Int) :=
  ((yn F x8 x9 x10).bind fun x13 => (if ((x13 : Int) == 0) then vi F x1 x2 x5 x8 x9 x10 x13 ((decide (x1 < 0)) || (decide (1048576 < x1))) else vi F x1 x2 x5 x8 x9 x10 x13 false))
def vY (F : Nat) (x1 : List (List Int)) (x4 : List Int) (x7 : Int) (x9 : Int) (x10 : Int) (x18 : Int) (x21 : List Int) (x29 : List Int) : Option (Int × Int × List Int × Bool) :=
  ((yo F (x1.length : Int) x4 x29 x7 x9 x10).bind fun x30 => (if (((x30.2.2 : Int) != 0) || (decide (8192 < (iadd .i64 x18 x30.1)))) then some (0, 0, ([] : List Int), false) else ((yg F x18 x21 x30.1 x30.2.1).bind fun x37 => some (x7, x37.1, x37.2, true))))
def vX (F : Nat) (x1 : List (List Int)) (x4 : List Int) (x7 : Int) (x9 : Int) (x10 : Int) (x18 : Int) (x21 : List Int) : Option (Int × Int × List Int × Bool) :=
  (if (decide (0 < x7)) then ((idx x1 (isub .i64 (x1.length : Int) x7)).bind fun x41 => vY F x1 x4 x7 x9 x10 x18 x21 x41) else vY F x1 x4 x7 x9 x10 x18 x21 ([] : List Int))
def qbm (F : Nat) (x1 : List (List Int)) (x4 : List Int) (x7 : Int) (x8 : Int) (x9 : Int) (x10 : Int) : Option (Int × Int × List Int × Bool) :=
  (if (decide (0 < x8)) then ((yD F (iconv .u64 x7)).bind fun x46 => vX F x1 x4 x7 x9 x10 x46.1 x46.2) else vX F x1 x4 x7 x9 x10 0 ([] : List Int))
def qa5 (_F : Nat) (x96 : Bool) (x97 : Int) (x98 : Int) (x101 : List Int) : Option (Int × Int × List Int × Bool) :=
  some (x97, x98, x101, x96)
def kB (_F : Nat) (rec14 : (Bool × Int × Int × Int × List Int) → Option (Int × Int × List Int × Bool)) (x126 : Int) (x169 : Bool) (x170 : Int) (x171 : Int) (x174 : List Int) : Option (Int × Int × List Int × Bool) :=
  rec14 (x169, iadd .i64 x126 1, x170, x171, x174)
def jH (F : Nat) (rec14 : (Bool × Int × Int × Int × List Int) → Option (Int × Int × List Int × Bool)) (x125 : Bool) (x126 : Int) (x127 : Int) (x128 : Int) (x131 : List Int) (x175 : (Int × Int × List Int × Bool)) (x181 : Bool) : Option (Int × Int × List Int × Bool) :=
  (if x181 then kB F rec14 x126 true x175.1 x175.2.1 x175.2.2.1 else kB F rec14 x126 x125 x127 x128 x131)
def jG (F : Nat) (x1 : List (List Int)) (x4 : List Int) (x7 : Int) (x8 : Int) (x9 : Int) (rec14 : (Bool × Int × Int × Int × List Int) → Option (Int × Int × List Int × Bool)) (x125 : Bool) (x126 : Int) (x127 : Int) (x128 : Int) (x131 : List Int) : Option (Int × Int × List Int × Bool) :=
  (if (decide (x126 < (iadd .i64 (imin x7 (x1.length : Int)) 1))) then ((qbm F x1 x4 x126 x7 x8 x9).bind fun x175 => (if x175.2.2.2 then jH F rec14 x125 x126 x127 x128 x131 x175 ((!x125) || (decide (x175.2.1 < x128))) else jH F rec14 x125 x126 x127 x128 x131 x175 false)) else qa5 F x125 x127 x128 x131)
def zu (F : Nat) (x1 : List (List Int)) (x4 : List Int) (x7 : Int) (x8 : Int) (x9 : Int) : Nat → (Bool × Int × Int × Int × List Int) → Option (Int × Int × List Int × Bool)
  | 0 => fun _ => none
  | k + 1 => fun s => jG F x1 x4 x7 x8 x9 (zu F x1 x4 x7 x8 x9 k) s.1 s.2.1 s.2.2.1 s.2.2.2.1 s.2.2.2.2
def qbl (F : Nat) (x1 : List (List Int)) (x4 : List Int) (x7 : Int) (x8 : Int) (x9 : Int) : Option (Int × Int × List Int × Bool) :=
  zu F x1 x4 x7 x8 x9 F (false, 0, 0, 0, ([] : List Int))
def yR (_F : Nat) (x2 : Int) (x3 : Int) (x4 : Int) (x5 : Int) (x710 : Int) (x713 : List Int) (x716 : List Int) (x719 : List Int) : Option (Bool × Int × Int × Int × Int × Int × List Int × List Int × List Int) :=
  some (true, x2, x3, x4, x5, x710, x713, x716, x719)
def zI (F : Nat) (rec43 : (Int × Int × List Int × List Int × List Int) → Option (Bool × Int × Int × Int × Int × Int × List Int × List Int × List Int)) (x946 : Int) (x947 : Int) (x950 : List Int) (x1318 : Int) (x1321 : List Int) (x1358 : List Int) (x1361 : List Int) : Option (Bool × Int × Int × Int × Int × Int × List Int × List Int × List Int) :=
  ((yg F x947 x950 x1318 x1321).bind fun x1362 => rec43 (iadd .i64 x946 1, x1362.1, x1362.2, x1358, x1361))
def zH (F : Nat) (rec43 : (Int × Int × List Int × List Int × List Int) → Option (Bool × Int × Int × Int × Int × Int × List Int × List Int × List Int)) (x2 : Int) (x3 : Int) (x4 : Int) (x5 : Int) (x946 : Int) (x947 : Int) (x950 : List Int) (x953 : List Int) (x956 : List Int) (x1317 : Int) (x1318 : Int) (x1321 : List Int) (x1327 : Bool) : Option (Bool × Int × Int × Int × Int × Int × List Int × List Int × List Int) :=
  (if x1327 then some (false, x2, x3, x4, x5, x947, x950, x953, x956) else ((app 8796093022208 x953 ([x1317] : List Int)).bind fun x1367 => ((app 8796093022208 x956 ([x947] : List Int)).bind fun x1372 => zI F rec43 x946 x947 x950 x1318 x1321 x1367 x1372)))
def kH (F : Nat) (rec43 : (Int × Int × List Int × List Int × List Int) → Option (Bool × Int × Int × Int × Int × Int × List Int × List Int × List Int)) (x2 : Int) (x3 : Int) (x4 : Int) (x5 : Int) (x946 : Int) (x947 : Int) (x950 : List Int) (x953 : List Int) (x956 : List Int) (x1316 : Bool) (x1317 : Int) (x1318 : Int) (x1321 : List Int) : Option (Bool × Int × Int × Int × Int × Int × List Int × List Int × List Int) :=
  (if (!x1316) then zH F rec43 x2 x3 x4 x5 x946 x947 x950 x953 x956 x1317 x1318 x1321 true else zH F rec43 x2 x3 x4 x5 x946 x947 x950 x953 x956 x1317 x1318 x1321 (decide (8192 < (iadd .i64 x947 x1318))))
def kG (F : Nat) (x2 : Int) (x3 : Int) (x4 : Int) (x5 : Int) (x16 : List (List Int)) (rec43 : (Int × Int × List Int × List Int × List Int) → Option (Bool × Int × Int × Int × Int × Int × List Int × List Int × List Int)) (x946 : Int) (x947 : Int) (x950 : List Int) (x953 : List Int) (x956 : List Int) : Option (Bool × Int × Int × Int × Int × Int × List Int × List Int × List Int) :=
  (if (decide (x946 < (x16.length : Int))) then ((idx x16 x946).bind fun x1297 => ((sub x16 0 x946).bind fun x1395 => ((qbl F x1395 x1297 x3 x4 x5).bind fun x1401 => kH F rec43 x2 x3 x4 x5 x946 x947 x950 x953 x956 x1401.2.2.2 x1401.1 x1401.2.1 x1401.2.2.1))) else yR F x2 x3 x4 x5 x947 x950 x953 x956)
def qq (F : Nat) (x2 : Int) (x3 : Int) (x4 : Int) (x5 : Int) (x16 : List (List Int)) : Nat → (Int × Int × List Int × List Int × List Int) → Option (Bool × Int × Int × Int × Int × Int × List Int × List Int × List Int)
  | 0 => fun _ => none
  | k + 1 => fun s => kG F x2 x3 x4 x5 x16 (qq F x2 x3 x4 x5 x16 k) s.1 s.2.1 s.2.2.1 s.2.2.2.1 s.2.2.2.2
def jO (F : Nat) (x2 : Int) (x3 : Int) (x4 : Int) (x5 : Int) (x6 : Int) (x7 : List Int) (x10 : List Int) (x13 : List Int) (x16 : List (List Int)) : Option (Bool × Int × Int × Int × Int × Int × List Int × List Int × List Int) :=
  qq F x2 x3 x4 x5 x16 F (0, x6, x7, x10, x13)
def kN (_F : Nat) (x48 : Int) (x49 : Int) (x50 : Int) (x51 : Int) (x52 : Int) (x53 : Int) (x56 : List Int) (x59 : List Int) (x62 : List Int) : Option (Int × Int × Int × Int × Int × List Int × List Int × List Int × Int) :=
  some (x49, x50, x51, x52, x53, x56, x59, x62, x48)
def kO (F : Nat) (x12 : Int) (x74 : Bool) (x75 : Int) (x76 : Int) (x77 : Int) (x78 : Int) (x79 : Int) (x82 : List Int) (x85 : List Int) (x88 : List Int) : Option (Int × Int × Int × Int × Int × List Int × List Int × List Int × Int) :=
  (if x74 then kN F 8 x75 x76 x77 x78 x79 x82 x85 x88 else kN F x12 x75 x76 x77 x78 x79 x82 x85 x88)
def yF (F : Nat) (x1 : List (List Int)) (x4 : Int) (x5 : Int) (x6 : Int) (x12 : Int) : Option (Int × Int × Int × Int × Int × List Int × List Int × List Int × Int) :=
  (if ((x12 : Int) == 0) then ((jO F (x1.length : Int) x4 x5 x6 0 ([] : List Int) ([] : List Int) ([] : List Int) x1).bind fun x90 => kO F x12 (!x90.1) x90.2.1 x90.2.2.1 x90.2.2.2.1 x90.2.2.2.2.1 x90.2.2.2.2.2.1 x90.2.2.2.2.2.2.1 x90.2.2.2.2.2.2.2.1 x90.2.2.2.2.2.2.2.2) else kO F x12 false (x1.length : Int) x4 x5 x6 0 ([] : List Int) ([] : List Int) ([] : List Int))
def jv (F : Nat) (x1 : List (List Int)) (x4 : Int) (x5 : Int) (x6 : Int) : Option (Int × Int × Int × Int × Int × List Int × List Int × List Int × Int) :=
  ((qaA F x1).bind fun x9 => (if ((x9 : Int) == 0) then ((yn F x4 x5 x6).bind fun x97 => yF F x1 x4 x5 x6 x97) else yF F x1 x4 x5 x6 x9))
def yl (F : Nat) (x1 : List (List Int)) (x4 : Int) (x5 : Int) (x6 : Int) : Option (Int × Int × Int × Int × Int × List Int × Int) :=
  ((jv F x1 x4 x5 x6).bind fun x10 => (if ((x10.2.2.2.2.2.2.2.2 : Int) != 0) then some (0, 0, 0, 0, 0, ([] : List Int), x10.2.2.2.2.2.2.2.2) else some (x10.1, x10.2.1, x10.2.2.1, x10.2.2.2.1, x10.2.2.2.2.1, x10.2.2.2.2.2.1, 0)))
def qaI (F : Nat) (x1 : List (List Int)) (x4 : Int) (x5 : Int) (x6 : Int) : Option (List Int × List Int × Int) :=
  ((jv F x1 x4 x5 x6).bind fun x9 => (if ((x9.2.2.2.2.2.2.2.2 : Int) != 0) then some (([] : List Int), ([] : List Int), x9.2.2.2.2.2.2.2.2) else some (x9.2.2.2.2.2.2.1, x9.2.2.2.2.2.2.2.1, 0)))
def vb (_F : Nat) (x36 : Bool) : Option Int :=
  (if x36 then some 1 else some 0)
def zG (F : Nat) (x1 : Int) (x2 : List Int) : Option Int :=
  (if ((decide (x1 < 0)) || (decide (8192 < x1))) then some 3 else (if (((x2.length : Int) : Int) != (iquo .i64 (iadd .i64 x1 7) 8)) then some 1 else (if (((irem x1 8) : Int) != 0) then ((idx x2 (isub .i64 (x2.length : Int) 1)).bind fun x39 => (chk (decide (0 ≤ (irem x1 8))) (vb F (((ishl .u8 x39 (irem x1 8)) : Int) != 0)))) else vb F false)))
def qaP (F : Nat) (x1 : Int) (x2 : Int) (x3 : Int) (x4 : Int) (x5 : Int) (x6 : List Int) : Option Int :=
  (if ((decide (x1 < 0)) || (decide (100 < x1))) then some 3 else ((yn F x2 x3 x4).bind fun x15 => (if ((x15 : Int) != 0) then some x15 else ((zG F x5 x6).bind fun x16 => some x16))))
def qcd (_F : Nat) : Option (Int × Int × Bool) :=
  some (0, 0, false)
def jM (F : Nat) (x1 : Int) (x2 : List Int) (x5 : Int) (rec3 : Int → Option (Int × Int × Bool)) (x33 : Int) : Option (Int × Int × Bool) :=
  (if (decide (x33 < x1)) then ((jm F x1 x2 x33).bind fun x44 => (if ((x44 : Int) == 1) then some (iconv .u64 (isub .i64 x33 x5), iadd .i64 x33 1, true) else rec3 (iadd .i64 x33 1))) else qcd F)
def k9 (F : Nat) (x1 : Int) (x2 : List Int) (x5 : Int) : Nat → Int → Option (Int × Int × Bool)
  | 0 => fun _ => none
  | k + 1 => fun s => jM F x1 x2 x5 (k9 F x1 x2 x5 k) s
def j2 (F : Nat) (x1 : Int) (x2 : List Int) (x5 : Int) : Option (Int × Int × Bool) :=
  k9 F x1 x2 x5 F x5
def jr (F : Nat) (x1 : Int) (x2 : List Int) (x5 : Int) : Option (Int × Int × Int) :=
  ((j2 F x1 x2 x5).bind fun x7 => (if (!x7.2.2) then some (0, 0, 7) else some (x7.1, x7.2.1, 0)))
def qa1 (_F : Nat) (x24 : Int) : Option (Int × Bool) :=
  some (x24, true)
def jR (F : Nat) (x1 : Int) (x2 : List Int) (x5 : Int) (x6 : Int) (rec3 : (Int × Int) → Option (Int × Bool)) (x29 : Int) (x30 : Int) : Option (Int × Bool) :=
  (if (decide (x30 < x6)) then ((jm F x1 x2 (iadd .i64 x5 x30)).bind fun x38 => rec3 (ior .u64 (ishl .u64 x29 1) x38, iadd .i64 x30 1)) else qa1 F x29)
def yC (F : Nat) (x1 : Int) (x2 : List Int) (x5 : Int) (x6 : Int) : Nat → (Int × Int) → Option (Int × Bool)
  | 0 => fun _ => none
  | k + 1 => fun s => jR F x1 x2 x5 x6 (yC F x1 x2 x5 x6 k) s.1 s.2
def yh (F : Nat) (x1 : Int) (x2 : List Int) (x5 : Int) (x6 : Int) : Option (Int × Bool) :=
  (if (decide ((isub .i64 x1 x5) < x6)) then some (0, false) else yC F x1 x2 x5 x6 F (0, 0))
def zj (F : Nat) (x1 : Int) (x2 : List Int) (x5 : Int) : Option (Int × Int × Int) :=
  ((jr F x1 x2 x5).bind fun x7 => (if ((x7.2.2 : Int) != 0) then some (0, 0, x7.2.2) else (if (decide (64 ≤ x7.1)) then some (0, 0, 3) else ((yh F x1 x2 x7.2.1 (iconv .i64 x7.1)).bind fun x10 => (if (!x10.2) then some (0, 0, 7) else (chk (decide (0 ≤ x7.1)) ((lett (iadd .u64 x10.1 (isub .u64 (ishl .u64 1 x7.1) 1)) fun x16 => (if (decide (1099511627776 < x16)) then some (0, 0, 3) else some (x16, iadd .i64 x7.2.1 (iconv .i64 x7.1), 0))))))))))
def yj (F : Nat) (x1 : Int) (x2 : List Int) (x5 : Int) : Option (Int × Int × Int) :=
  ((zj F x1 x2 x5).bind fun x7 => some (x7.1, x7.2.1, x7.2.2))
def qaB (_F : Nat) (x13 : (Int × Int × Int)) (x18 : Bool) : Option (Int × Int × Bool) :=
  (if x18 then some (0, 0, false) else some (iconv .i64 x13.1, x13.2.1, true))
def qbV (F : Nat) (_x1 : Int) (x2 : Int) (_x3 : Int) (_x4 : Int) (x5 : Int) (x6 : List Int) (x9 : Int) (x10 : Int) : Option (Int × Int × Bool) :=
  (if ((x2 : Int) == 0) then some (0, x9, true) else ((yj F x5 x6 x9).bind fun x13 => (if ((x13.2.2 : Int) != 0) then qaB F x13 true else qaB F x13 (decide ((iconv .u64 (imin x2 x10)) < x13.1)))))
def zU (_F : Nat) (x1 : Bool) : Option (Unit ⊕ Unit) :=
  (if (!x1) then some (.inr ()) else some (.inl ()))
def q5 (F : Nat) (x2 : Int) (x3 : List Int) (x6 : Int) (x7 : Int) : Option ((Int × Int × Int) ⊕ (Int × Int)) :=
  ((yj F x2 x3 x6).bind fun x9 => (lbnd (zU F (((x9.2.2 : Int) == 0) && (decide (x9.1 ≤ (iconv .u64 x7))))) (fun _x11 => some (.inl (iconv .i64 x9.1, x2, x9.2.1))) (fun _x12 => some (.inr (x2, x6)))))
def jY (_F : Nat) (x4 : Int) (x99 : Int) : Option Int :=
  (if (decide (x4 < x99)) then some 8 else some 0)
def vE (_F : Nat) (rec23 : (Int × Int) → Option Int) (x4 : Int) (x132 : Int) (x133 : Int) (x180 : Int) (x190 : Bool) : Option Int :=
  (if x190 then some 3 else (lett (imin (iadd .i64 x132 (imin x180 (iadd .i64 x4 1))) (iadd .i64 x4 1)) fun x191 => rec23 (x191, iadd .i64 x133 1)))
def vD (F : Nat) (x1 : List Int) (x4 : Int) (rec23 : (Int × Int) → Option Int) (x132 : Int) (x133 : Int) : Option Int :=
  (if (decide (x133 < (x1.length : Int))) then ((idx x1 x133).bind fun x180 => (if (decide (x180 < 0)) then vE F rec23 x4 x132 x133 x180 true else vE F rec23 x4 x132 x133 x180 ((decide (x180 < 1)) && (decide (0 < x133))))) else jY F x4 x132)
def zJ (F : Nat) (x1 : List Int) (x4 : Int) : Nat → (Int × Int) → Option Int
  | 0 => fun _ => none
  | k + 1 => fun s => vD F x1 x4 (zJ F x1 x4 k) s.1 s.2
def qaC (F : Nat) (x1 : List Int) (x4 : Int) : Option Int :=
  (if (decide ((iadd .i64 x4 1) < (x1.length : Int))) then some 2 else zJ F x1 x4 F (0, 0))
def vF (_F : Nat) (x169 : List Int) : Option (List Int) :=
  some x169
def jZ (F : Nat) (x158 : List Int) (x161 : List Int) (x162 : Bool) : Option (List Int) :=
  (if x162 then ((app 8796093022208 x161 x158).bind fun x170 => vF F x170) else vF F x161)
def yT (_F : Nat) (rec10 : (List Int × List Int × Bool × Int) → Option (List Int)) (x217 : List Int) (x221 : Bool) (x222 : Int) (x296 : Int) (x308 : List Int) : Option (List Int) :=
  ((sub x217 x296 (x217.length : Int)).bind fun x309 => rec10 (x309, x308, (!x221), iadd .i64 x222 1))
def yS (F : Nat) (x4 : List Int) (rec10 : (List Int × List Int × Bool × Int) → Option (List Int)) (x217 : List Int) (x220 : List Int) (x221 : Bool) (x222 : Int) : Option (List Int) :=
  (if (decide (x222 < (x4.length : Int))) then ((idx x4 x222).bind fun x296 => (if x221 then ((sub x217 0 x296).bind fun x312 => ((app 8796093022208 x220 x312).bind fun x315 => yT F rec10 x217 x221 x222 x296 x315)) else yT F rec10 x217 x221 x222 x296 x220)) else jZ F x217 x220 x221)
def zz (F : Nat) (x4 : List Int) : Nat → (List Int × List Int × Bool × Int) → Option (List Int)
  | 0 => fun _ => none
  | k + 1 => fun s => yS F x4 (zz F x4 k) s.1 s.2.1 s.2.2.1 s.2.2.2
def qa8 (F : Nat) (x1 : List Int) (x4 : List Int) : Option (List Int) :=
  zz F x4 F (x1, ([] : List Int), true, 0)
def vf (F : Nat) (x1 : List Int) (x4 : List Int) (x10 : Int) : Option (List Int × Int) :=
  (if ((x10 : Int) != 0) then some (([] : List Int), x10) else ((qa8 F x1 x4).bind fun x12 => some (x12, 0)))
def qaQ (F : Nat) (x1 : List Int) (x4 : List Int) : Option (List Int × Int) :=
  ((yk F x1).bind fun x7 => (if ((x7 : Int) == 0) then ((qaC F x4 (x1.length : Int)).bind fun x16 => vf F x1 x4 x16) else vf F x1 x4 x7))
def yG (_F : Nat) (x72 : List Int) (x73 : Int) (x74 : Int) : Option ((List Int × Int × Int) ⊕ (Int × Int)) :=
  some (.inl (x72, x73, x74))
def kw (F : Nat) (x3 : List Int) (x7 : Int) (x10 : List Int) (rec3 : (List Int × Int × Int × Int) → Option ((List Int × Int × Int) ⊕ (Int × Int))) (x93 : List Int) (x94 : Int) (x95 : Int) (x96 : Int) : Option ((List Int × Int × Int) ⊕ (Int × Int)) :=
  (if (decide (x94 < (x10.length : Int))) then (lbnd (q5 F x95 x3 x96 x7) (fun x125 => ((idx x93 x94).bind fun _x127 => (lett (x93.set x94.toNat (iadd .i64 x125.1 (imin x94 1))) fun x130 => rec3 (x130, iadd .i64 x94 1, x125.2.1, x125.2.2)))) (fun x126 => some (.inr (x126.1, x126.2)))) else yG F x93 x95 x96)
def zm (F : Nat) (x3 : List Int) (x7 : Int) (x10 : List Int) : Nat → (List Int × Int × Int × Int) → Option ((List Int × Int × Int) ⊕ (Int × Int))
  | 0 => fun _ => none
  | k + 1 => fun s => kw F x3 x7 x10 (zm F x3 x7 x10 k) s.1 s.2.1 s.2.2.1 s.2.2.2
def yp (F : Nat) (x2 : Int) (x3 : List Int) (x6 : Int) (x7 : Int) : Option ((List Int × Int × Int) ⊕ (Int × Int)) :=
  (lbnd (q5 F x2 x3 x6 (iadd .i64 x7 1)) (fun x8 => ((mk 17592186044416 (0 : Int) x8.1).bind fun x10 => zm F x3 x7 x10 F (x10, 0, x8.2.1, x8.2.2))) (fun x9 => some (.inr (x9.1, x9.2))))
def vj (_F : Nat) (x1 : Int) : Option Int :=
  (lett (ixor .i64 (iconv .i64 (ishr .u64 x1 1)) (isub .i64 0 (iconv .i64 (iand .u64 x1 1)))) fun x2 => some x2)
def vu (_F : Nat) (x136 : List (Int × Int)) (x137 : Int) (x138 : Int) : Option ((List (Int × Int) × Int × Int) ⊕ (Int × Int)) :=
  some (.inl (x136, x137, x138))
def zQ (F : Nat) (rec13 : (List (Int × Int) × Int × Int × Int × Int) → Option ((List (Int × Int) × Int × Int) ⊕ (Int × Int))) (x3 : List Int) (x8 : Int) (x9 : Int) (x177 : List (Int × Int)) (x179 : Int) (x240 : (Int × Int × Int)) (x244 : Int) : Option ((List (Int × Int) × Int × Int) ⊕ (Int × Int)) :=
  (lbnd (q5 F x240.2.1 x3 x240.2.2 x9) (fun x245 => ((idx x177 x179).bind fun _x247 => (lett (x177.set x179.toNat (x244, iadd .i64 x245.1 x8)) fun x250 => ((idx x250 x179).bind fun x253 => rec13 (x250, iadd .i64 x244 (isub .i64 x253.2 1), iadd .i64 x179 1, x245.2.1, x245.2.2))))) (fun x246 => some (.inr (x246.1, x246.2))))
def kJ (F : Nat) (x3 : List Int) (x8 : Int) (x9 : Int) (x13 : List (Int × Int)) (rec13 : (List (Int × Int) × Int × Int × Int × Int) → Option ((List (Int × Int) × Int × Int) ⊕ (Int × Int))) (x177 : List (Int × Int)) (x178 : Int) (x179 : Int) (x180 : Int) (x181 : Int) : Option ((List (Int × Int) × Int × Int) ⊕ (Int × Int)) :=
  (if (decide (x179 < (x13.length : Int))) then (lbnd (q5 F x180 x3 x181 2097152) (fun x240 => (if ((x179 : Int) == 0) then ((vj F (iconv .u64 x240.1)).bind fun x256 => zQ F rec13 x3 x8 x9 x177 x179 x240 (iadd .i64 x178 x256)) else zQ F rec13 x3 x8 x9 x177 x179 x240 (iadd .i64 x178 (iadd .i64 x240.1 2)))) (fun x241 => some (.inr (x241.1, x241.2)))) else vu F x177 x180 x181)
def qT (F : Nat) (x3 : List Int) (x8 : Int) (x9 : Int) (x13 : List (Int × Int)) : Nat → (List (Int × Int) × Int × Int × Int × Int) → Option ((List (Int × Int) × Int × Int) ⊕ (Int × Int))
  | 0 => fun _ => none
  | k + 1 => fun s => kJ F x3 x8 x9 x13 (qT F x3 x8 x9 x13 k) s.1 s.2.1 s.2.2.1 s.2.2.2.1 s.2.2.2.2
def yW (F : Nat) (x2 : Int) (x3 : List Int) (x6 : Int) (x7 : Int) (x8 : Int) (x9 : Int) : Option ((List (Int × Int) × Int × Int) ⊕ (Int × Int)) :=
  (chk ((x8 : Int) != 0) ((lbnd (q5 F x2 x3 x6 (iquo .i64 x9 x8)) (fun x11 => ((mk 8796093022208 (((0 : Int), (0 : Int)) : (Int × Int)) x11.1).bind fun x13 => qT F x3 x8 x9 x13 F (x13, x7, 0, x11.2.1, x11.2.2))) (fun x12 => some (.inr (x12.1, x12.2))))))
def yw (_F : Nat) (x15 : List Int) : Option (List Int) :=
  some x15
def kV (F : Nat) (x1 : List Int) (c3 : Nat) (x4 : Int) : Option (List Int) :=
  (if (decide (x4 < 0)) then none else (lett (isub .i64 x4 (isub .i64 (c3 : Int) (x1.length : Int))) fun x16 => (if (decide (0 < x16)) then ((sub x1 0 (c3 : Int)).bind fun x17 => ((appz 8796093022208 x17 (0 : Int) x16).bind fun x18 => ((sub x18 0 (x1.length : Int)).bind fun x21 => yw F x21))) else yw F x1)))
def kP (_F : Nat) (x102 : List Int) : Option (List Int) :=
  some x102
def qo (F : Nat) (x1 : List (List Int)) (rec5 : (List Int × Int) → Option (List Int)) (x121 : List Int) (x122 : Int) : Option (List Int) :=
  (if (decide (x122 < (x1.length : Int))) then ((idx x1 x122).bind fun x148 => ((app 8796093022208 x121 x148).bind fun x152 => rec5 (x152, iadd .i64 x122 1))) else kP F x121)
def qw (F : Nat) (x1 : List (List Int)) : Nat → (List Int × Int) → Option (List Int)
  | 0 => fun _ => none
  | k + 1 => fun s => qo F x1 (qw F x1 k) s.1 s.2
def zp (F : Nat) (x1 : List (List Int)) (x43 : Int) : Option (List Int) :=
  ((kV F ([] : List Int) 0 x43).bind fun x44 => qw F x1 F (x44, 0))
def qp (F : Nat) (x1 : List (List Int)) (rec6 : (Int × Int) → Option (List Int)) (x168 : Int) (x169 : Int) : Option (List Int) :=
  (if (decide (x169 < (x1.length : Int))) then ((idx x1 x169).bind fun x189 => (if (decide ((iadd .i64 x168 (x189.length : Int)) < 0)) then none else rec6 (iadd .i64 x168 (x189.length : Int), iadd .i64 x169 1))) else zp F x1 x168)
def qx (F : Nat) (x1 : List (List Int)) : Nat → (Int × Int) → Option (List Int)
  | 0 => fun _ => none
  | k + 1 => fun s => qp F x1 (qx F x1 k) s.1 s.2
def q6 (F : Nat) (x1 : List (List Int)) : Option (List Int) :=
  qx F x1 F (0, 0)
def qX (_F : Nat) (x1 : List Int) : Option (List Int) :=
  if x1.length < 4611686018427387904 then some (srt x1) else none
def jy (_F : Nat) (x1 : Int) (x2 : Int) (x3 : Int) : Option Bool :=
  some ((decide (x2 ≤ x1)) && (decide (x1 ≤ x3)))
def qbo (_F : Nat) (x462 : List Int) : Option (List Int × Int) :=
  some (x462, 0)
def vO (_F : Nat) (rec32 : (List Int × Int) → Option (List Int × Int)) (x561 : Int) (x706 : List Int) : Option (List Int × Int) :=
  rec32 (x706, iadd .i64 x561 1)
def vL (F : Nat) (rec32 : (List Int × Int) → Option (List Int × Int)) (x561 : Int) (x707 : (Int × Int)) (rec35 : (List Int × Int) → Option (List Int × Int)) (x725 : List Int) (x726 : Int) : Option (List Int × Int) :=
  (if (decide (x726 < x707.2)) then ((app 8796093022208 x725 ([iadd .i64 x707.1 x726] : List Int)).bind fun x748 => rec35 (x748, iadd .i64 x726 1)) else vO F rec32 x561 x725)
def kv (F : Nat) (rec32 : (List Int × Int) → Option (List Int × Int)) (x561 : Int) (x707 : (Int × Int)) : Nat → (List Int × Int) → Option (List Int × Int)
  | 0 => fun _ => none
  | k + 1 => fun s => vL F rec32 x561 x707 (kv F rec32 x561 x707 k) s.1 s.2
def vK (F : Nat) (x1 : List (Int × Int)) (rec32 : (List Int × Int) → Option (List Int × Int)) (x560 : List Int) (x561 : Int) : Option (List Int × Int) :=
  (if (decide (x561 < (x1.length : Int))) then ((idx x1 x561).bind fun x707 => kv F rec32 x561 x707 F (x560, 0)) else qbo F x560)
def qS (F : Nat) (x1 : List (Int × Int)) : Nat → (List Int × Int) → Option (List Int × Int)
  | 0 => fun _ => none
  | k + 1 => fun s => vK F x1 (qS F x1 k) s.1 s.2
def vN (F : Nat) (x1 : List (Int × Int)) : Option (List Int × Int) :=
  qS F x1 F (([] : List Int), 0)
def ym (_F : Nat) (rec44 : (Int × Int) → Option (List Int × Int)) (x807 : Int) (x808 : Int) (x891 : (Int × Int)) (x910 : Bool) : Option (List Int × Int) :=
  (if x910 then some (([] : List Int), 3) else (if (decide (x891.1 < (iadd .i64 x807 2))) then some (([] : List Int), 4) else rec44 (isub .i64 (iadd .i64 x891.1 x891.2) 1, iadd .i64 x808 1)))
def vM (F : Nat) (x1 : List (Int × Int)) (rec44 : (Int × Int) → Option (List Int × Int)) (x807 : Int) (x808 : Int) : Option (List Int × Int) :=
  (if (decide (x808 < (x1.length : Int))) then ((idx x1 x808).bind fun x891 => ((jy F x891.1 0 1048576).bind fun x913 => (if (!x913) then ym F rec44 x807 x808 x891 (!x913) else ((jy F x891.2 1 300).bind fun x914 => (if (!x914) then ym F rec44 x807 x808 x891 (!x914) else ym F rec44 x807 x808 x891 (decide (1048576 < (isub .i64 (iadd .i64 x891.1 x891.2) 1)))))))) else vN F x1)
def zL (F : Nat) (x1 : List (Int × Int)) : Nat → (Int × Int) → Option (List Int × Int)
  | 0 => fun _ => none
  | k + 1 => fun s => vM F x1 (zL F x1 k) s.1 s.2
def qaE (F : Nat) (x1 : List (Int × Int)) : Option (List Int × Int) :=
  (if (decide (300 < (x1.length : Int))) then some (([] : List Int), 2) else zL F x1 F (-2, 0))
def zw (_F : Nat) (x1 : List Int) : Option (List Int) :=
  if (Go.Lib.compact x1).length ≤ x1.length then some (Go.Lib.compact x1) else none
def kI (_F : Nat) (x1 : List Int) : Option (List Int) :=
  ((app 8796093022208 ([] : List Int) x1).bind fun x8 => some x8)
def vg (F : Nat) (x4 : List Int) (x7 : (List Int × Int)) (x12 : Int) : Option (List Int × Int) :=
  (if ((x12 : Int) != 0) then some (([] : List Int), x12) else ((q6 F ([x7.1, x4] : List (List Int))).bind fun x16 => ((qX F x16).bind fun x19 => (chk (decide (x19.length = x16.length)) (((kI F x19).bind fun x29 => ((zw F x29).bind fun x32 => (if (decide ((x32.length : Int) < (x19.length : Int))) then some (([] : List Int), 6) else (if (decide (300 < (x19.length : Int))) then some (([] : List Int), 2) else some (x19, 0))))))))))
def qaR (F : Nat) (x1 : List (Int × Int)) (x4 : List Int) : Option (List Int × Int) :=
  ((qaE F x1).bind fun x7 => (if ((x7.2 : Int) == 0) then ((yk F x4).bind fun x38 => vg F x4 x7 x38) else vg F x4 x7 x7.2))
def qW (F : Nat) (x1 : Int) (x2 : List Int) (x5 : Int) (x8 : (Int × Int)) : Option (Int × Int × Bool) :=
  ((yh F x1 x2 x5 x8.1).bind fun x14 => some (isub .u64 x14.1 x8.2, iadd .i64 x5 x8.1, x14.2))
def qU (F : Nat) (x1 : Int) (x2 : List Int) (x5 : Int) (x6 : Int) : Option (Int × Int × Bool) :=
  ((vW F x6).bind fun x8 => (if (decide (0 < x8.2)) then ((yh F x1 x2 x5 (isub .i64 x8.1 1)).bind fun x15 => (if (!x15.2) then some (0, 0, false) else (if (decide (x15.1 < x8.2)) then some (x15.1, isub .i64 (iadd .i64 x5 x8.1) 1, true) else qW F x1 x2 x5 x8))) else qW F x1 x2 x5 x8))
def jU (_F : Nat) (x1 : Int) (x2 : Int) (x3 : Bool) : Option (Int × Int × Int) :=
  (if (!x3) then some (0, 0, 7) else (if (decide (1099511627776 < x1)) then some (0, 0, 3) else some (x1, x2, 0)))
def vy (F : Nat) (x1 : Int) (x2 : List Int) (x5 : Int) (x6 : Int) : Option (Int × Int × Int) :=
  ((j2 F x1 x2 x5).bind fun x8 => (if (!x8.2.2) then some (0, 0, 7) else (if (decide (41 ≤ (imul .u64 x8.1 (iconv .u64 x6)))) then some (0, 0, 3) else (chk (decide (0 ≤ (imul .i64 (iconv .i64 x8.1) x6))) ((lett (ishl .u64 1 (imul .i64 (iconv .i64 x8.1) x6)) fun x12 => (chk (decide (0 ≤ x6)) (((qU F x1 x2 x8.2.1 (isub .u64 (ishl .u64 x12 x6) x12)).bind fun x20 => ((jU F (isub .u64 (iadd .u64 x12 x20.1) 1) x20.2.1 x20.2.2).bind fun x21 => some (x21.1, x21.2.1, x21.2.2)))))))))))
def zW (F : Nat) (x8 : Int) : Option (Bool × Int × Bool) :=
  ((qaG F x8).bind fun x9 => some (x9, x8, true))
def zy (F : Nat) (x2 : Int) (x3 : Bool) (x4 : Int) : Option (Bool × Int × Bool) :=
  (if (decide (2097152 < x4)) then some (false, x2, x3) else (if x3 then zW F (iadd .i64 x2 (iadd .i64 (iconv .i64 x4) 1)) else ((vj F x4).bind fun x10 => zW F (iadd .i64 x2 x10))))
def qa3 (_F : Nat) (x105 : Int) (x108 : List Int) : Option (List Int × Int × Int) :=
  some (x108, x105, 0)
def jT (F : Nat) (x1 : Int) (x2 : List Int) (x7 : Int) (x8 : Int) (rec3 : (Int × List Int × Int × Int × Bool) → Option (List Int × Int × Int)) (x138 : Int) (x141 : List Int) (x142 : Int) (x143 : Int) (x144 : Bool) : Option (List Int × Int × Int) :=
  (if (decide (x142 < x8)) then ((vy F x1 x2 x138 x7).bind fun x190 => (if ((x190.2.2 : Int) != 0) then some (([] : List Int), 0, x190.2.2) else ((zy F x143 x144 x190.1).bind fun x193 => (if (!x193.1) then some (([] : List Int), 0, 3) else ((app 8796093022208 x141 ([x193.2.1] : List Int)).bind fun x196 => rec3 (x190.2.1, x196, iadd .i64 x142 1, x193.2.1, x193.2.2)))))) else qa3 F x138 x141)
def yE (F : Nat) (x1 : Int) (x2 : List Int) (x7 : Int) (x8 : Int) : Nat → (Int × List Int × Int × Int × Bool) → Option (List Int × Int × Int)
  | 0 => fun _ => none
  | k + 1 => fun s => jT F x1 x2 x7 x8 (yE F x1 x2 x7 x8 k) s.1 s.2.1 s.2.2.1 s.2.2.2.1 s.2.2.2.2
def qbk (F : Nat) (x1 : Int) (x2 : List Int) (x5 : Int) (x6 : Int) (x7 : Int) (x8 : Int) : Option (List Int × Int × Int) :=
  yE F x1 x2 x7 x8 F (x5, ([] : List Int), 0, x6, false)
def zY (F : Nat) (x3 : List Int) (x7 : Int) (x13 : Int) (x15 : (Int × Int × Int)) (x31 : List Int) (x42 : List (Int × Int)) (x43 : Int) (x44 : Int) : Option ((List Int × Int × Int) ⊕ (Int × Int)) :=
  ((qaR F x42 ([] : List Int)).bind fun x45 => (lbnd (zU F (((x45.2 : Int) == 0) && (decide ((x45.1.length : Int) ≤ (isub .i64 x15.1 (x31.length : Int)))))) (fun _x49 => ((qbk F x43 x3 x44 x7 x13 (isub .i64 (isub .i64 x15.1 (x31.length : Int)) (x45.1.length : Int))).bind fun x54 => (lbnd (zU F ((x54.2.2 : Int) == 0)) (fun _x57 => ((q6 F ([x31, x45.1, x54.1] : List (List Int))).bind fun x61 => ((qX F x61).bind fun x64 => (chk (decide (x64.length = x61.length)) (some (.inl (x64, x43, x54.2.1))))))) (fun _x58 => some (.inr (x43, x44)))))) (fun _x50 => some (.inr (x43, x44)))))
def zX (F : Nat) (x3 : List Int) (x7 : Int) (x12 : Int) (x13 : Int) (x15 : (Int × Int × Int)) (x31 : List Int) (x32 : Int) (x33 : Int) : Option ((List Int × Int × Int) ⊕ (Int × Int)) :=
  (if (((isub .i64 x15.1 (x31.length : Int)) : Int) == 0) then some (.inl (x31, x32, x33)) else (if (decide (0 < x12)) then (lbnd (yW F x32 x3 x33 x7 x12 (isub .i64 x15.1 (x31.length : Int))) (fun x66 => zY F x3 x7 x13 x15 x31 x66.1 x66.2.1 x66.2.2) (fun x67 => some (.inr (x67.1, x67.2)))) else zY F x3 x7 x13 x15 x31 ([] : List (Int × Int)) x32 x33))
def kQ (F : Nat) (x2 : Int) (x3 : List Int) (x6 : Int) (x7 : Int) (x8 : List Int) (x11 : Int) (x12 : Int) (x13 : Int) : Option ((List Int × Int × Int) ⊕ (Int × Int)) :=
  (lbnd (q5 F x2 x3 x6 300) (fun x15 => (if ((x15.1 : Int) == 0) then some (.inl (([] : List Int), x15.2.1, x15.2.2)) else (if (decide (0 < x11)) then (lbnd (yp F x15.2.1 x3 x15.2.2 (x8.length : Int)) (fun x72 => ((qaQ F x8 x72.1).bind fun x76 => (lbnd (zU F (((x76.2 : Int) == 0) && (decide ((x76.1.length : Int) ≤ x15.1)))) (fun _x80 => zX F x3 x7 x12 x13 x15 x76.1 x72.2.1 x72.2.2) (fun _x81 => some (.inr (x72.2.1, x72.2.2)))))) (fun x73 => some (.inr (x73.1, x73.2)))) else zX F x3 x7 x12 x13 x15 ([] : List Int) x15.2.1 x15.2.2))) (fun x16 => some (.inr (x16.1, x16.2))))
def j8 (_F : Nat) (x17 : (List Int × Int × Int)) : Option (List Int × Bool × Int × Int) :=
  some (x17.1, true, x17.2.1, x17.2.2)
def kW (F : Nat) (x3 : List Int) (x6 : Int) (x17 : (List Int × Int × Int)) (x25 : (Int × List Int × Bool)) (rec4 : Int → Option (List Int × Bool × Int × Int)) (x75 : Int) : Option (List Int × Bool × Int × Int) :=
  (if (decide (x75 < x25.1)) then ((jm F x25.1 x25.2.1 x75).bind fun x92 => ((jm F x17.2.1 x3 (iadd .i64 x6 x75)).bind fun x93 => (lbnd (zU F ((x92 : Int) == x93)) (fun _x94 => rec4 (iadd .i64 x75 1)) (fun _x95 => some (([] : List Int), false, x17.2.1, x17.2.2))))) else j8 F x17)
def qY (F : Nat) (x3 : List Int) (x6 : Int) (x17 : (List Int × Int × Int)) (x25 : (Int × List Int × Bool)) : Nat → Int → Option (List Int × Bool × Int × Int)
  | 0 => fun _ => none
  | k + 1 => fun s => kW F x3 x6 x17 x25 (qY F x3 x6 x17 x25 k) s
def kX (F : Nat) (x3 : List Int) (x6 : Int) (x17 : (List Int × Int × Int)) (x25 : (Int × List Int × Bool)) : Option (List Int × Bool × Int × Int) :=
  qY F x3 x6 x17 x25 F 0
def kR (F : Nat) (x2 : Int) (x3 : List Int) (x6 : Int) (x7 : Int) (x8 : List Int) (x11 : Int) (x12 : Int) (x13 : Int) : Option (List Int × Bool × Int × Int) :=
  (lbnd (kQ F x2 x3 x6 x7 x8 x11 x12 x13) (fun x17 => ((yk F x17.1).bind fun x21 => (lbnd (zU F ((x21 : Int) == 0)) (fun _x22 => ((kS F 0 ([] : List Int) false x7 x17.1 x8 x11 x12 x13).bind fun x25 => (if (!x25.2.2) then (lbnd (zU F ((x25.1 : Int) == (isub .i64 x17.2.2 x6))) (fun _x98 => kX F x3 x6 x17 x25) (fun _x99 => some (([] : List Int), false, x17.2.1, x17.2.2))) else (lbnd (zU F false) (fun _x100 => kX F x3 x6 x17 x25) (fun _x101 => some (([] : List Int), false, x17.2.1, x17.2.2)))))) (fun _x23 => some (([] : List Int), false, x17.2.1, x17.2.2))))) (fun x18 => some (([] : List Int), false, x18.1, x18.2)))
def vZ (F : Nat) (x1 : Int) (x2 : List Int) (x5 : Int) (x6 : Int) (x7 : List Int) (x10 : Int) (x11 : Int) (x12 : Int) : Option (List Int × Int × Int) :=
  ((kR F x1 x2 x5 x6 x7 x10 x11 x12).bind fun x16 => (if (!x16.2.1) then some (([] : List Int), 0, 1) else some (x16.1, x16.2.2.2, 0)))
def qaN (_F : Nat) (x5 : Int) (x261 : List (List Int)) (x262 : Int) : Option (List (List Int) × Bool) :=
  some (x261, ((x262 : Int) == x5))
def ve (_F : Nat) (rec8 : (List (List Int) × Int × Int) → Option (List (List Int) × Bool)) (x350 : Int) (x472 : List (List Int)) (x473 : Int) : Option (List (List Int) × Bool) :=
  rec8 (x472, x473, iadd .i64 x350 1)
def jI (F : Nat) (x1 : Int) (x2 : Int) (x3 : Int) (x4 : Int) (x5 : Int) (x6 : List Int) (rec8 : (List (List Int) × Int × Int) → Option (List (List Int) × Bool)) (x348 : List (List Int)) (x349 : Int) (x350 : Int) : Option (List (List Int) × Bool) :=
  (if (decide (x350 < x1)) then ((qbV F x1 x2 x3 x4 x5 x6 x349 x350).bind fun x474 => (if (!x474.2.2) then some (([] : List (List Int)), false) else (if (decide (0 < x474.1)) then ((idx x348 (isub .i64 x350 x474.1)).bind fun x482 => ((vZ F x5 x6 x474.2.1 x350 x482 x474.1 x3 x4).bind fun x488 => (if ((x488.2.2 : Int) != 0) then some (([] : List (List Int)), false) else ((app 2199023255552 x348 ([x488.1] : List (List Int))).bind fun x494 => ve F rec8 x350 x494 x488.2.1)))) else ((vZ F x5 x6 x474.2.1 x350 ([] : List Int) x474.1 x3 x4).bind fun x499 => (if ((x499.2.2 : Int) != 0) then some (([] : List (List Int)), false) else ((app 2199023255552 x348 ([x499.1] : List (List Int))).bind fun x505 => ve F rec8 x350 x505 x499.2.1)))))) else qaN F x5 x348 x349)
def zT (F : Nat) (x1 : Int) (x2 : Int) (x3 : Int) (x4 : Int) (x5 : Int) (x6 : List Int) : Nat → (List (List Int) × Int × Int) → Option (List (List Int) × Bool)
  | 0 => fun _ => none
  | k + 1 => fun s => jI F x1 x2 x3 x4 x5 x6 (zT F x1 x2 x3 x4 x5 x6 k) s.1 s.2.1 s.2.2
def qbW (F : Nat) (x1 : Int) (x2 : Int) (x3 : Int) (x4 : Int) (x5 : Int) (x6 : List Int) : Option (List (List Int) × Bool) :=
  zT F x1 x2 x3 x4 x5 x6 F (([] : List (List Int)), 0, 0)
def vP (_F : Nat) : Option Bool :=
  some true
def zF (F : Nat) (x1 : List Int) (x4 : List Int) (rec3 : Int → Option Bool) (x154 : Int) : Option Bool :=
  (if (decide (x154 < (x1.length : Int))) then ((idx x1 x154).bind fun x218 => ((idx x4 x154).bind fun x222 => (if ((x218 : Int) != x222) then some false else rec3 (iadd .i64 x154 1)))) else vP F)
def qV (F : Nat) (x1 : List Int) (x4 : List Int) : Nat → Int → Option Bool
  | 0 => fun _ => none
  | k + 1 => fun s => zF F x1 x4 (qV F x1 x4 k) s
def kg (F : Nat) (x1 : List Int) (x4 : List Int) : Option Bool :=
  (if (((x1.length : Int) : Int) != (x4.length : Int)) then some false else qV F x1 x4 F 0)
def jX (_F : Nat) (x14 : (List (List Int) × Bool)) (x34 : Bool) : Option (List (List Int) × Int) :=
  (if x34 then some (([] : List (List Int)), 1) else some (x14.1, 0))
def qaH (F : Nat) (x1 : Int) (x2 : Int) (x3 : Int) (x4 : Int) (x5 : Int) (x6 : List Int) : Option (List (List Int) × Int) :=
  ((qaP F x1 x2 x3 x4 x5 x6).bind fun x13 => (if ((x13 : Int) != 0) then some (([] : List (List Int)), x13) else ((qbW F x1 x2 x3 x4 x5 x6).bind fun x14 => (if (!x14.2) then some (([] : List (List Int)), 1) else ((yl F x14.1 x2 x3 x4).bind fun x28 => (if ((x28.2.2.2.2.2.2 : Int) != 0) then jX F x14 true else ((kg F x28.2.2.2.2.2.1 x6).bind fun x36 => jX F x14 (!x36))))))))
def qcb (_F : Nat) : Option Bool :=
  some true
def va (F : Nat) (x1 : List Int) (x4 : List Int) (rec3 : Int → Option Bool) (x154 : Int) : Option Bool :=
  (if (decide (x154 < (x1.length : Int))) then ((idx x1 x154).bind fun x218 => ((idx x4 x154).bind fun x222 => (if ((x218 : Int) != x222) then some false else rec3 (iadd .i64 x154 1)))) else qcb F)
def zS (F : Nat) (x1 : List Int) (x4 : List Int) : Nat → Int → Option Bool
  | 0 => fun _ => none
  | k + 1 => fun s => va F x1 x4 (zS F x1 x4 k) s
def yf (F : Nat) (x1 : List Int) (x4 : List Int) : Option Bool :=
  (if (((x1.length : Int) : Int) != (x4.length : Int)) then some false else zS F x1 x4 F 0)
def qbH (_F : Nat) : Option Bool :=
  some true
def jl (F : Nat) (x1 : List (List Int)) (x4 : List (List Int)) (rec3 : Int → Option Bool) (x202 : Int) : Option Bool :=
  (if (decide (x202 < (x1.length : Int))) then ((idx x1 x202).bind fun x287 => ((idx x4 x202).bind fun x292 => ((yf F x287 x292).bind fun x297 => (if (!x297) then some false else rec3 (iadd .i64 x202 1))))) else qbH F)
def kM (F : Nat) (x1 : List (List Int)) (x4 : List (List Int)) : Nat → Int → Option Bool
  | 0 => fun _ => none
  | k + 1 => fun s => jl F x1 x4 (kM F x1 x4 k) s
def qat (F : Nat) (x1 : List (List Int)) (x4 : List (List Int)) : Option Bool :=
  (if (((x1.length : Int) : Int) != (x4.length : Int)) then some false else kM F x1 x4 F 0)
def qas (F : Nat) (x1 : List (List Int)) (x4 : List (List Int)) : Option Bool :=
  ((qat F x1 x4).bind fun x9 => some x9)
def vl (_F : Nat)  : Option (List (List Int)) :=
  some ([([1, 2, 3, 5] : List Int), ([1, 2, 3, 5] : List Int), ([0, 1, 2, 3, 5] : List Int), ([] : List Int), ([4] : List Int), ([1, 2, 3] : List Int)] : List (List Int))
def qK (_F : Nat) (x78 : Bool) : Option Bool :=
  some x78
def yA (F : Nat) (x21 : Int) (x22 : Int) (x23 : Int) (x24 : Int) (x25 : Int) (x26 : Int) (x29 : List Int) : Option Bool :=
  ((qaH F x22 x23 x24 x25 x26 x29).bind fun x30 => ((vl F).bind fun x42 => ((qaI F x42 3 3 2).bind fun x45 => ((qaH F 1 3 3 2 0 ([] : List Int)).bind fun x50 => (if ((x21 : Int) == 0) then (if ((x22 : Int) == 6) then (if (((x23 : Int) == 3) && (((x24 : Int) == 3) && ((x25 : Int) == 2))) then ((vl F).bind fun x82 => ((qas F x30.1 x82).bind fun x85 => (if x85 then (if ((x30.2 : Int) == 0) then (if (((x45.1.length : Int) : Int) == 6) then ((idx x45.1 0).bind fun x89 => (if ((x89 : Int) == 0) then ((idx x45.1 1).bind fun x93 => (if ((x93 : Int) == 1) then (if (((x45.2.1.length : Int) : Int) == 6) then ((idx x45.2.1 0).bind fun x98 => (if ((x98 : Int) == 0) then (if ((x45.2.2 : Int) == 0) then qK F ((x50.2 : Int) == 1) else qK F false) else qK F false)) else qK F false) else qK F false)) else qK F false)) else qK F false) else qK F false) else qK F false))) else qK F false) else qK F false) else qK F false)))))
def qap (F : Nat)  : Option Bool :=
  ((vl F).bind fun x103 => ((yl F x103 3 3 2).bind fun x106 => yA F x106.2.2.2.2.2.2 x106.1 x106.2.1 x106.2.2.1 x106.2.2.2.1 x106.2.2.2.2.1 x106.2.2.2.2.2.1))
def qbG (_F : Nat) : Option Bool :=
  some true
def yB (F : Nat) (x1 : List Int) (x4 : List Int) (rec3 : Int → Option Bool) (x154 : Int) : Option Bool :=
  (if (decide (x154 < (x1.length : Int))) then ((idx x1 x154).bind fun x218 => ((idx x4 x154).bind fun x222 => (if ((x218 : Int) != x222) then some false else rec3 (iadd .i64 x154 1)))) else qbG F)
def zA (F : Nat) (x1 : List Int) (x4 : List Int) : Nat → Int → Option Bool
  | 0 => fun _ => none
  | k + 1 => fun s => yB F x1 x4 (zA F x1 x4 k) s
def vm (F : Nat) (x1 : List Int) (x4 : List Int) : Option Bool :=
  (if (((x1.length : Int) : Int) != (x4.length : Int)) then some false else zA F x1 x4 F 0)
def y9 (_F : Nat) (x13 : Bool) : Option Bool :=
  some x13
def kF (F : Nat) (x1 : Int) (x2 : List Int) (x5 : Int) (x6 : List Int) : Option Bool :=
  (if ((x1 : Int) == x5) then ((vm F x2 x6).bind fun x14 => y9 F x14) else y9 F false)
def jn (_F : Nat) (x13 : Int) : Option Int :=
  some x13
def jo (F : Nat) (x7 : Int) (x16 : Bool) : Option Int :=
  (if x16 then jn F 3 else jn F x7)
def qav (F : Nat) (x1 : Int) (x2 : List Int) (x5 : Int) : Option Int :=
  ((zG F x1 x2).bind fun x7 => (if ((x7 : Int) == 0) then jo F x7 ((decide (x5 < 0)) || (decide (x1 < x5))) else jo F x7 false))
def v7 (F : Nat) (x1 : Int) (x2 : List Int) (x5 : Int) (x6 : Int) (x7 : List Int) (x10 : Int) (x11 : Int) (x12 : Int) (x21 : Int) : Option (List Int × Int × Int) :=
  (if ((x21 : Int) != 0) then some (([] : List Int), 0, x21) else ((vZ F x1 x2 x5 x6 x7 x10 x11 x12).bind fun x23 => some (x23.1, x23.2.1, x23.2.2)))
def v6 (F : Nat) (x1 : Int) (x2 : List Int) (x5 : Int) (x6 : Int) (x7 : List Int) (x10 : Int) (x11 : Int) (x12 : Int) (x18 : Int) : Option (List Int × Int × Int) :=
  (if ((x18 : Int) == 0) then ((j1 F x6 x7 x10 x11 x12).bind fun x27 => v7 F x1 x2 x5 x6 x7 x10 x11 x12 x27) else v7 F x1 x2 x5 x6 x7 x10 x11 x12 x18)
def qaJ (F : Nat) (x1 : Int) (x2 : List Int) (x5 : Int) (x6 : Int) (x7 : List Int) (x10 : Int) (x11 : Int) (x12 : Int) : Option (List Int × Int × Int) :=
  ((yn F x10 x11 x12).bind fun x15 => (if ((x15 : Int) == 0) then ((qav F x1 x2 x5).bind fun x29 => v6 F x1 x2 x5 x6 x7 x10 x11 x12 x29) else v6 F x1 x2 x5 x6 x7 x10 x11 x12 x15))
def qac (_F : Nat) (x36 : Bool) : Option Bool :=
  some x36
def ji (F : Nat) (x15 : (Int × List Int × Int)) (x19 : (List Int × Int × Int)) (x31 : Bool) : Option Bool :=
  (if ((x31 && ((x15.2.2 : Int) == 0)) && ((x19.2.2 : Int) == 1)) then ((yn F 0 1 1).bind fun x37 => qac F ((x37 : Int) == 3)) else qac F false)
def jh (F : Nat) (x6 : (Int × List Int × Int)) (x12 : (List Int × Int × Int)) (x15 : (Int × List Int × Int)) (x19 : (List Int × Int × Int)) (x24 : Bool) : Option Bool :=
  (if ((x24 && ((x12.2.1 : Int) == x6.1)) && ((x12.2.2 : Int) == 0)) then ((kF F x15.1 x15.2.1 1 ([128] : List Int)).bind fun x40 => ji F x15 x19 x40) else ji F x15 x19 false)
def qaq (F : Nat)  : Option Bool :=
  ((yo F 7 ([2, 3, 4, 5, 9, 20] : List Int) ([3, 9, 11] : List Int) 1 3 2).bind fun x6 => ((qaJ F x6.1 x6.2.1 0 7 ([3, 9, 11] : List Int) 1 3 2).bind fun x12 => ((yo F 7 ([] : List Int) ([] : List Int) 0 0 1).bind fun x15 => ((qaJ F 0 ([] : List Int) 0 7 ([] : List Int) 0 0 1).bind fun x19 => (if ((x6.2.2 : Int) == 0) then ((yf F x12.1 ([2, 3, 4, 5, 9, 20] : List Int)).bind fun x41 => jh F x6 x12 x15 x19 x41) else jh F x6 x12 x15 x19 false)))))
def js (F : Nat) (x51 : Int) (x54 : List Int) (x59 : Int) : Option ((Int × List Int) ⊕ Empty) :=
  ((kq F x51 x54 x59).bind fun x60 => some (.inl (x60.1, x60.2)))
def vo (F : Nat) (x1 : Int) (x2 : List Int) (x5 : Int) (x6 : Int) (x19 : Int) : Option (Int × List Int × Int) :=
  (if ((x19 : Int) != 0) then some (0, ([] : List Int), x19) else ((ju F x1 x2 x5 x6).bind fun _x43 => ((vd F (fun ((x51, x54) : (Int × List Int)) (x59 : Int) => js F x51 x54 x59) x5 x6 x1 x2 (0, ([] : List Int))).bind (Sum.elim (fun ((x51, x54) : (Int × List Int)) => some (x51, x54, 0)) (fun t => t.elim)))))
def vp (F : Nat) (x1 : Int) (x2 : List Int) (x5 : Int) (x6 : Int) (x9 : Int) (x68 : Bool) : Option (Int × List Int × Int) :=
  (if x68 then vo F x1 x2 x5 x6 3 else vo F x1 x2 x5 x6 x9)
def qaY (F : Nat) (x1 : Int) (x2 : List Int) (x5 : Int) (x6 : Int) : Option (Int × List Int × Int) :=
  ((zG F x1 x2).bind fun x9 => (if ((x9 : Int) == 0) then vp F x1 x2 x5 x6 x9 ((((decide (x5 < 0)) || (decide (x1 < x5))) || (decide (x6 < x5))) || (decide (x1 < x6))) else vp F x1 x2 x5 x6 x9 false))
def qa0 (F : Nat) (x1 : Int) (x2 : List Int) (x5 : Int) (x6 : List Int) (x18 : Int) : Option (Int × List Int × Int) :=
  (if ((x18 : Int) != 0) then some (0, ([] : List Int), x18) else ((yg F x1 x2 x5 x6).bind fun x20 => some (x20.1, x20.2, 0)))
def qaZ (F : Nat) (x1 : Int) (x2 : List Int) (x5 : Int) (x6 : List Int) (x15 : Int) : Option (Int × List Int × Int) :=
  (if (((x15 : Int) == 0) && (decide (8192 < (iadd .i64 x1 x5)))) then qa0 F x1 x2 x5 x6 8 else qa0 F x1 x2 x5 x6 x15)
def qd2 (F : Nat) (x1 : Int) (x2 : List Int) (x5 : Int) (x6 : List Int) : Option (Int × List Int × Int) :=
  ((zG F x1 x2).bind fun x12 => (if ((x12 : Int) == 0) then ((zG F x5 x6).bind fun x26 => qaZ F x1 x2 x5 x6 x26) else qaZ F x1 x2 x5 x6 x12))
def jt (F : Nat) (x1 : Int) (x2 : List Int) (x5 : Int) (x6 : Int) (x24 : Int) : Option (Int × List Int × Int) :=
  (if ((x24 : Int) != 0) then some (0, ([] : List Int), x24) else ((yP F x1 x2 x5 x6).bind fun x26 => some (x26.1, x26.2, 0)))
def qbz (F : Nat) (x1 : Int) (x2 : List Int) (x5 : Int) (x6 : Int) (x9 : Int) (x36 : Bool) : Option (Int × List Int × Int) :=
  (if x36 then jt F x1 x2 x5 x6 3 else (if (decide (8192 < (iadd .i64 x1 x6))) then jt F x1 x2 x5 x6 8 else jt F x1 x2 x5 x6 x9))
def qbA (F : Nat) (x1 : Int) (x2 : List Int) (x5 : Int) (x6 : Int) (x9 : Int) (x41 : Bool) : Option (Int × List Int × Int) :=
  qbz F x1 x2 x5 x6 x9 x41
def qc1 (F : Nat) (x1 : Int) (x2 : List Int) (x5 : Int) (x6 : Int) : Option (Int × List Int × Int) :=
  ((zG F x1 x2).bind fun x9 => (if ((x9 : Int) != 0) then jt F x1 x2 x5 x6 x9 else (if ((decide (x6 < 0)) || (decide (64 < x6))) then qbz F x1 x2 x5 x6 x9 true else (if (decide (x6 < 64)) then (chk (decide (0 ≤ x6)) (qbA F x1 x2 x5 x6 x9 (((ishr .u64 x5 x6) : Int) != 0))) else qbA F x1 x2 x5 x6 x9 false))))
def qbx (F : Nat) (x1 : Int) (x2 : List Int) (x5 : Int) (x6 : Int) (x18 : Int) : Option (Int × Int) :=
  (if ((x18 : Int) != 0) then some (0, x18) else ((yh F x1 x2 x5 x6).bind fun x20 => (if (!x20.2) then some (0, 7) else some (x20.1, 0))))
def qby (F : Nat) (x1 : Int) (x2 : List Int) (x5 : Int) (x6 : Int) (x8 : Int) (x28 : Bool) : Option (Int × Int) :=
  (if x28 then qbx F x1 x2 x5 x6 3 else qbx F x1 x2 x5 x6 x8)
def qc0 (F : Nat) (x1 : Int) (x2 : List Int) (x5 : Int) (x6 : Int) : Option (Int × Int) :=
  ((zG F x1 x2).bind fun x8 => (if ((x8 : Int) == 0) then qby F x1 x2 x5 x6 x8 ((((decide (x6 < 0)) || (decide (64 < x6))) || (decide (x5 < 0))) || (decide (x1 < x5))) else qby F x1 x2 x5 x6 x8 false))
def qab (_F : Nat) (x42 : Bool) : Option Bool :=
  some x42
def qaa (F : Nat) (x14 : (Int × List Int × Int)) (x18 : (Int × Int)) (x35 : Bool) : Option Bool :=
  (if ((x35 && ((x14.2.2 : Int) == 0)) && ((x18.2 : Int) == 7)) then ((zG F 3 ([1] : List Int)).bind fun x45 => qab F ((x45 : Int) == 1)) else qab F false)
def j9 (F : Nat) (x1 : (Int × List Int × Int)) (x5 : (Int × List Int × Int)) (x9 : (Int × Int)) (x10 : (Int × List Int × Int)) (x14 : (Int × List Int × Int)) (x18 : (Int × Int)) (x27 : Bool) : Option Bool :=
  (if (((((x27 && ((x5.2.2 : Int) == 0)) && ((x9.1 : Int) == 9)) && ((x9.2 : Int) == 0)) && ((x10.1 : Int) == 13)) && ((x10.2.2 : Int) == 0)) then ((kF F x14.1 x14.2.1 x1.1 x1.2.1).bind fun x46 => qaa F x14 x18 x46) else qaa F x14 x18 false)
def qao (F : Nat)  : Option Bool :=
  ((qc1 F 0 ([] : List Int) 5 3).bind fun x1 => ((qc1 F x1.1 x1.2.1 9 7).bind fun x5 => ((qc0 F x5.1 x5.2.1 3 7).bind fun x9 => ((qd2 F x1.1 x1.2.1 x5.1 x5.2.1).bind fun x10 => ((qaY F x5.1 x5.2.1 0 3).bind fun x14 => ((qc0 F x5.1 x5.2.1 9 2).bind fun x18 => ((kF F x1.1 x1.2.1 3 ([160] : List Int)).bind fun x21 => (if (x21 && ((x1.2.2 : Int) == 0)) then ((kF F x5.1 x5.2.1 10 ([162, 64] : List Int)).bind fun x49 => j9 F x1 x5 x9 x10 x14 x18 x49) else j9 F x1 x5 x9 x10 x14 x18 false))))))))
def qbw (_F : Nat) (x31 : List Int) : Option (List Int) :=
  some x31
def qau (F : Nat) (rec3 : (Int × List Int) → Option (List Int)) (x40 : Int) (x43 : List Int) : Option (List Int) :=
  (if (decide (0 < x40)) then ((app 8796093022208 ([iconv .i64 (irem x40 2)] : List Int) x43).bind fun x55 => rec3 (iquo .u64 x40 2, x55)) else qbw F x43)
def vn (F : Nat) : Nat → (Int × List Int) → Option (List Int)
  | 0 => fun _ => none
  | k + 1 => fun s => qau F (vn F k) s.1 s.2
def qbU (F : Nat) (x1 : Int) : Option (List Int) :=
  vn F F (x1, ([] : List Int))
def qad (_F : Nat) (x2 : List Int) (x48 : List Int) : Option (List Int) :=
  ((app 8796093022208 x48 x2).bind fun x49 => some x49)
def jk (F : Nat) (x2 : List Int) (rec3 : (List Int × Int) → Option (List Int)) (x66 : List Int) (x67 : Int) : Option (List Int) :=
  (if (decide (x67 < (x2.length : Int))) then ((app 8796093022208 x66 ([0] : List Int)).bind fun x89 => rec3 (x89, iadd .i64 x67 1)) else qad F x2 x66)
def kL (F : Nat) (x2 : List Int) : Nat → (List Int × Int) → Option (List Int)
  | 0 => fun _ => none
  | k + 1 => fun s => jk F x2 (kL F x2 k) s.1 s.2
def qar (F : Nat) (x1 : Int) : Option (List Int) :=
  ((qbU F (iadd .u64 x1 1)).bind fun x2 => kL F x2 F (([] : List Int), 1))
def vv (_F : Nat) (x17 : Int) (x40 : Int) (x41 : Int) (x44 : List Int) : Option (Int × List Int × Int) :=
  (if ((x40 : Int) != 0) then some (x41, x44, 1048576) else some (x41, x44, iadd .i64 x17 x41))
def ye (F : Nat) (x1 : Int) (x4 : Int) (x5 : Int) (x7 : List (List Int)) (x11 : Int) (x17 : Int) (x25 : List Int) : Option (Int × List Int × Int) :=
  ((idx x7 x11).bind fun x47 => ((yo F x11 x47 x25 x1 x4 x5).bind fun x52 => vv F x17 x52.2.2 x52.1 x52.2.1))
def yd (F : Nat) (x1 : Int) (x4 : Int) (x5 : Int) (x7 : List (List Int)) (x11 : Int) (x17 : Int) : Option (Int × List Int × Int) :=
  (if (decide (0 < x1)) then ((idx x7 (isub .i64 x11 x1)).bind fun x60 => ye F x1 x4 x5 x7 x11 x17 x60) else ye F x1 x4 x5 x7 x11 x17 ([] : List Int))
def vT (F : Nat) (x1 : Int) (x3 : Int) (x4 : Int) (x5 : Int) (x7 : List (List Int)) (x11 : Int) : Option (Int × List Int × Int) :=
  (if (decide (0 < x3)) then ((qar F (iconv .u64 x1)).bind fun x65 => yd F x1 x4 x5 x7 x11 (x65.length : Int)) else yd F x1 x4 x5 x7 x11 0)
def jf (_F : Nat) (x135 : Bool) : Option Bool :=
  some x135
def jg (F : Nat) (x140 : Bool) : Option Bool :=
  jf F x140
def je (F : Nat) (x1 : List (List Int)) (x4 : Int) (x5 : Int) (x6 : Int) (x7 : Int) (x8 : Int) (x16 : (List Int × List Int × Int)) (x88 : (Int × List Int × Int)) (x121 : Bool) : Option Bool :=
  (if x121 then some true else ((vT F x8 x4 x5 x6 x1 x7).bind fun x122 => (if (decide (x88.2.2 < x122.2.2)) then jf F true else (if ((x88.2.2 : Int) == x122.2.2) then ((idx x16.1 x7).bind fun x141 => jg F (decide (x141 ≤ x8))) else jg F false))))
def jd (F : Nat) (x1 : List (List Int)) (x4 : Int) (x5 : Int) (x6 : Int) (x7 : Int) (x8 : Int) (x16 : (List Int × List Int × Int)) (x88 : (Int × List Int × Int)) (x116 : Bool) : Option Bool :=
  (if x116 then some false else (if (decide (x8 < 0)) then je F x1 x4 x5 x6 x7 x8 x16 x88 true else je F x1 x4 x5 x6 x7 x8 x16 x88 (decide ((imin x4 x7) < x8))))
def jc (F : Nat) (x1 : List (List Int)) (x4 : Int) (x5 : Int) (x6 : Int) (x7 : Int) (x8 : Int) (x16 : (List Int × List Int × Int)) (x54 : Int) (x88 : (Int × List Int × Int)) (x111 : Bool) : Option Bool :=
  (if x111 then jd F x1 x4 x5 x6 x7 x8 x16 x88 true else ((idx x16.2.1 x7).bind fun x146 => jd F x1 x4 x5 x6 x7 x8 x16 x88 (((isub .i64 x54 x146) : Int) != x88.2.2)))
def jD (F : Nat) (x1 : List (List Int)) (x4 : Int) (x5 : Int) (x6 : Int) (x7 : Int) (x8 : Int) (x12 : (Int × Int × Int × Int × Int × List Int × Int)) (x16 : (List Int × List Int × Int)) (x54 : Int) (x84 : Bool) : Option Bool :=
  (if x84 then some false else ((idx x16.1 x7).bind fun x85 => ((vT F x85 x4 x5 x6 x1 x7).bind fun x88 => ((qaY F x12.2.2.2.2.1 x12.2.2.2.2.2.1 (isub .i64 x54 x88.1) x54).bind fun x92 => (if ((x92.2.2 : Int) != 0) then jc F x1 x4 x5 x6 x7 x8 x16 x54 x88 true else ((kF F x92.1 x92.2.1 x88.1 x88.2.1).bind fun x149 => jc F x1 x4 x5 x6 x7 x8 x16 x54 x88 (!x149)))))))
def y8 (F : Nat) (x1 : List (List Int)) (x4 : Int) (x5 : Int) (x6 : Int) (x7 : Int) (x8 : Int) (x12 : (Int × Int × Int × Int × Int × List Int × Int)) (x16 : (List Int × List Int × Int)) (x54 : Int) : Option Bool :=
  ((idx x16.1 x7).bind fun x151 => (if (decide (x151 < 0)) then jD F x1 x4 x5 x6 x7 x8 x12 x16 x54 true else ((idx x16.1 x7).bind fun x156 => jD F x1 x4 x5 x6 x7 x8 x12 x16 x54 (decide ((imin x4 x7) < x156)))))
def jC (F : Nat) (x1 : List (List Int)) (x4 : Int) (x5 : Int) (x6 : Int) (x7 : Int) (x8 : Int) (x12 : (Int × Int × Int × Int × Int × List Int × Int)) (x16 : (List Int × List Int × Int)) (x37 : Bool) : Option Bool :=
  (if x37 then some false else (if (((x12.2.2.2.2.2.2 : Int) != 0) || ((x16.2.2 : Int) != 0)) then some ((x12.2.2.2.2.2.2 : Int) == x16.2.2) else (if ((((decide (x7 < 0)) || (decide ((x1.length : Int) ≤ x7))) || (((x16.1.length : Int) : Int) != (x1.length : Int))) || (((x16.2.1.length : Int) : Int) != (x16.1.length : Int))) then some ((((x16.1.length : Int) : Int) == (x1.length : Int)) && (((x16.2.1.length : Int) : Int) == (x16.1.length : Int))) else (if (decide ((iadd .i64 x7 1) < (x16.2.1.length : Int))) then ((idx x16.2.1 (iadd .i64 x7 1)).bind fun x160 => y8 F x1 x4 x5 x6 x7 x8 x12 x16 x160) else y8 F x1 x4 x5 x6 x7 x8 x12 x16 x12.2.2.2.2.1))))
def jB (F : Nat) (x1 : List (List Int)) (x4 : Int) (x5 : Int) (x6 : Int) (x7 : Int) (x8 : Int) (x12 : (Int × Int × Int × Int × Int × List Int × Int)) (x16 : (List Int × List Int × Int)) (x34 : Bool) : Option Bool :=
  (if x34 then jC F x1 x4 x5 x6 x7 x8 x12 x16 true else ((qao F).bind fun x167 => jC F x1 x4 x5 x6 x7 x8 x12 x16 (!x167)))
def qbT (F : Nat) (x1 : List (List Int)) (x4 : Int) (x5 : Int) (x6 : Int) (x7 : Int) (x8 : Int) : Option Bool :=
  ((yl F x1 x4 x5 x6).bind fun x12 => ((qaI F x1 x4 x5 x6).bind fun x16 => ((qap F).bind fun x31 => (if (!x31) then jB F x1 x4 x5 x6 x7 x8 x12 x16 true else ((qaq F).bind fun x168 => jB F x1 x4 x5 x6 x7 x8 x12 x16 (!x168))))))
end Go.Proofs.YtpnfijegoepiaaaGreat
