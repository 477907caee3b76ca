/- What each Go function of this seat computes, in plain terms. -/
import Derived.Test.YtmhggdbfbmkpeaaGreatSy
namespace Go.Proofs.YtmhggdbfbmkpeaaGreat
open Go SX
def qbu (_F : Nat) (x798 : Int) : Option Int :=
  (if (decide (600 < x798)) then some 2 else some 0)
def qbv (_F : Nat) (rec38 : (Int × Int) → Option Int) (x1065 : Int) (x1461 : Int) : Option Int :=
  rec38 (x1461, iadd .i64 x1065 1)
def j8 (F : Nat) (rec38 : (Int × Int) → Option Int) (x1064 : Int) (x1065 : Int) (x1462 : List Int) : Option Int :=
  qbv F rec38 x1065 (iadd .i64 x1064 (x1462.length : Int))
def j7 (F : Nat) (rec38 : (Int × Int) → Option Int) (x1 : List (List Int)) (x1064 : Int) (x1065 : Int) (x1462 : List Int) (rec45 : (Int × Int) → Option Int) (x1549 : Int) (x1550 : Int) : Option Int :=
  (if (decide (x1550 < (x1462.length : Int))) then ((idx x1462 x1550).bind fun x1582 => (if ((decide (x1582 < 0)) || (decide ((x1.length : Int) ≤ x1582))) then some 3 else (if (decide (x1582 ≤ x1549)) then some 4 else rec45 (x1582, iadd .i64 x1550 1)))) else j8 F rec38 x1064 x1065 x1462)
def yq (F : Nat) (rec38 : (Int × Int) → Option Int) (x1 : List (List Int)) (x1064 : Int) (x1065 : Int) (x1462 : List Int) : Nat → (Int × Int) → Option Int
  | 0 => fun _ => none
  | k + 1 => fun s => j7 F rec38 x1 x1064 x1065 x1462 (yq F rec38 x1 x1064 x1065 x1462 k) s.1 s.2
def j6 (F : Nat) (x1 : List (List Int)) (rec38 : (Int × Int) → Option Int) (x1064 : Int) (x1065 : Int) : Option Int :=
  (if (decide (x1065 < (x1.length : Int))) then ((idx x1 x1065).bind fun x1462 => yq F rec38 x1 x1064 x1065 x1462 F (-1, 0)) else qbu F x1064)
def zj (F : Nat) (x1 : List (List Int)) : Nat → (Int × Int) → Option Int
  | 0 => fun _ => none
  | k + 1 => fun s => j6 F x1 (zj F x1 k) s.1 s.2
def yc (F : Nat) (x1 : List (List Int)) : Option Int :=
  (if (decide (100 < (x1.length : Int))) then some 2 else zj F x1 F (0, 0))
def qaG (_F : Nat) (x1 : Int) (x2 : Int) (x3 : Int) : Option Int :=
  (if (((((((decide (x1 < 0)) || (decide (7 < x1))) || (decide (x2 < 0))) || ((x2 : Int) == 1)) || (decide (300 < x2))) || (decide (x3 < 1))) || (decide (16 < x3))) then some 3 else some 0)
def ye (_F : Nat) (x1 : List Int) : Option (List Int) :=
  ((app 70368744177664 ([] : List Int) x1).bind fun x8 => some x8)
def qcH (F : Nat) (x1 : Int) (x2 : List Int) : Option (Int × List Int) :=
  ((ye F x2).bind fun x10 => some (x1, x10))
def qdh (_F : Nat) (_x1 : Int) (_x2 : List Int) (_x5 : Int) (_x6 : Int) : Option Unit :=
  some ()
def yg (_F : Nat) (x2 : Int) (x6 : Int) (x15 : List Int) : Option (Int × List Int) :=
  ((idx x15 (iquo .i64 x2 8)).bind fun x30 => (chk (decide (0 ≤ (irem x2 8))) (((idx x15 (iquo .i64 x2 8)).bind fun _x36 => (lett (x15.set (iquo .i64 x2 8).toNat (ior .u8 x30 (ishr .u8 (iconv .u8 (ishl .u64 x6 7)) (irem x2 8)))) fun x41 => some (iadd .i64 x2 1, x41))))))
def vv (F : Nat) (x2 : Int) (x3 : List Int) (x6 : Int) : Option (Int × List Int) :=
  (if (((irem x2 8) : Int) == 0) then ((app 70368744177664 x3 ([0] : List Int)).bind fun x46 => yg F x2 x6 x46) else yg F x2 x6 x3)
def jE (_F : Nat) (_x1 : Int) (x2 : List Int) (x5 : Int) : Option Int :=
  ((idx x2 (iquo .i64 x5 8)).bind fun x7 => (chk (decide (0 ≤ (isub .i64 7 (irem x5 8)))) ((lett (iand .u64 (iconv .u64 (ishr .u8 x7 (isub .i64 7 (irem x5 8)))) 1) fun x11 => some x11))))
def jk {σ τ : Type} (F : Nat) (yy : σ → Int → Option (σ ⊕ τ)) (x4 : Int) (x6 : Int) (x7 : List Int) (rec1 : (Int × σ) → Option (σ ⊕ τ)) (x22 : Int) (x23 : σ) : Option (σ ⊕ τ) :=
  (if (decide (x22 < x4)) then ((jE F x6 x7 x22).bind fun x44 => ((yy x23 x44).bind (Sum.elim (fun x45 => rec1 (iadd .i64 x22 1, x45)) (fun x46 => some (.inr x46))))) else some (.inl x23))
def zR {σ τ : Type} (F : Nat) (yy : σ → Int → Option (σ ⊕ τ)) (x4 : Int) (x6 : Int) (x7 : List Int) : Nat → (Int × σ) → Option (σ ⊕ τ)
  | 0 => fun _ => none
  | k + 1 => fun s => jk F yy x4 x6 x7 (zR F yy x4 x6 x7 k) s.1 s.2
def qce {σ τ : Type} (F : Nat) (yy : σ → Int → Option (σ ⊕ τ)) (x2 : Int) (x4 : Int) (x6 : Int) (x7 : List Int) (s0 : σ) : Option (σ ⊕ τ) :=
  zR F yy x4 x6 x7 F (x2, s0)
def qap (F : Nat) (x45 : Int) (x48 : List Int) (x53 : Int) : Option ((Int × List Int) ⊕ Empty) :=
  ((vv F x45 x48 x53).bind fun x54 => some (.inl (x54.1, x54.2)))
def je (F : Nat) (x1 : Int) (x2 : List Int) (x5 : Int) (x6 : List Int) : Option (Int × List Int) :=
  ((qcH F x1 x2).bind fun x12 => ((qdh F x5 x6 0 x5).bind fun _x37 => ((qce F (fun ((x45, x48) : (Int × List Int)) (x53 : Int) => qap F x45 x48 x53) 0 x5 x5 x6 (x12.1, x12.2)).bind (Sum.elim (fun ((x45, x48) : (Int × List Int)) => some (x45, x48)) (fun t => t.elim)))))
def zM (F : Nat) (x6 : Int) (rec1 : (Int × Int × List Int) → Option (Int × List Int)) (x18 : Int) (x19 : Int) (x22 : List Int) : Option (Int × List Int) :=
  (if (decide (0 ≤ x18)) then (chk (decide (0 ≤ x18)) (((vv F x19 x22 (iand .u64 (ishr .u64 x6 x18) 1)).bind fun x40 => rec1 (isub .i64 x18 1, x40.1, x40.2)))) else some (x19, x22))
def zN (F : Nat) (x6 : Int) : Nat → (Int × Int × List Int) → Option (Int × List Int)
  | 0 => fun _ => none
  | k + 1 => fun s => zM F x6 (zN F x6 k) s.1 s.2.1 s.2.2
def vw (F : Nat) (x2 : Int) (x3 : List Int) (x6 : Int) (x7 : Int) : Option (Int × List Int) :=
  zN F x6 F (isub .i64 x7 1, x2, x3)
def yQ (F : Nat) (x1 : Int) (x2 : List Int) (x5 : Int) (x6 : Int) : Option (Int × List Int) :=
  ((qcH F x1 x2).bind fun x9 => ((vw F x9.1 x9.2 x5 x6).bind fun x13 => some (x13.1, x13.2)))
def yj (_F : Nat) (x9 : Int) (x10 : Int) : Option Int :=
  ((idx ([0, 1, 2, 2, 3, 3, 3, 3, 4, 4, 4, 4, 4, 4, 4, 4, 5, 5, 5, 5, 5, 5, 5, 5, 5, 5, 5, 5, 5, 5, 5, 5, 6, 6, 6, 6, 6, 6, 6, 6, 6, 6, 6, 6, 6, 6, 6, 6, 6, 6, 6, 6, 6, 6, 6, 6, 6, 6, 6, 6, 6, 6, 6, 6, 7, 7, 7, 7, 7, 7, 7, 7, 7, 7, 7, 7, 7, 7, 7, 7, 7, 7, 7, 7, 7, 7, 7, 7, 7, 7, 7, 7, 7, 7, 7, 7, 7, 7, 7, 7, 7, 7, 7, 7, 7, 7, 7, 7, 7, 7, 7, 7, 7, 7, 7, 7, 7, 7, 7, 7, 7, 7, 7, 7, 7, 7, 7, 7, 8, 8, 8, 8, 8, 8, 8, 8, 8, 8, 8, 8, 8, 8, 8, 8, 8, 8, 8, 8, 8, 8, 8, 8, 8, 8, 8, 8, 8, 8, 8, 8, 8, 8, 8, 8, 8, 8, 8, 8, 8, 8, 8, 8, 8, 8, 8, 8, 8, 8, 8, 8, 8, 8, 8, 8, 8, 8, 8, 8, 8, 8, 8, 8, 8, 8, 8, 8, 8, 8, 8, 8, 8, 8, 8, 8, 8, 8, 8, 8, 8, 8, 8, 8, 8, 8, 8, 8, 8, 8, 8, 8, 8, 8, 8, 8, 8, 8, 8, 8, 8, 8, 8, 8, 8, 8, 8, 8, 8, 8, 8, 8, 8, 8, 8, 8, 8, 8, 8, 8, 8, 8, 8, 8, 8, 8, 8, 8] : List Int) (iconv .u8 x9)).bind fun x11 => some (iadd .i64 x10 (iconv .i64 x11)))
def yi (F : Nat) (x6 : Int) (x7 : Int) : Option Int :=
  (if (decide (256 ≤ x6)) then yj F (ishr .u64 x6 8) (iadd .i64 x7 8) else yj F x6 x7)
def yh (F : Nat) (x3 : Int) (x4 : Int) : Option Int :=
  (if (decide (65536 ≤ x3)) then yi F (ishr .u64 x3 16) (iadd .i64 x4 16) else yi F x3 x4)
def yr (F : Nat) (x1 : Int) : Option Int :=
  (if (decide (4294967296 ≤ x1)) then yh F (ishr .u64 x1 32) 32 else yh F x1 0)
def qcm (F : Nat) (x1 : Int) : Option Int :=
  ((yr F (iadd .u64 x1 1)).bind fun x2 => some (isub .i64 x2 1))
def qcb (F : Nat) (x1 : Int) : Option (Int × List Int) :=
  ((mk 140737488355328 (0 : Int) (iquo .u64 (iadd .u64 x1 7) 8)).bind fun x3 => ((yQ F (iconv .i64 x1) x3 1 1).bind fun x6 => some (x6.1, x6.2)))
def qc1 (_F : Nat) (x1 : Int) (x2 : Int) : Option Int :=
  (chk (decide (0 ≤ x2)) ((lett (iand .u64 x1 (isub .u64 (ishl .u64 1 x2) 1)) fun x4 => some x4)))
def vU (F : Nat) (x1 : Int) : Option (Int × List Int) :=
  ((qcm F x1).bind fun x3 => ((qcb F (iconv .u64 x3)).bind fun x4 => ((qc1 F (iadd .u64 x1 1) x3).bind fun x7 => ((yQ F x4.1 x4.2 x7 x3).bind fun x8 => some (x8.1, x8.2)))))
def qb9 (_F : Nat) (x1 : Int) : Option Bool :=
  some ((decide (0 ≤ x1)) && (decide (x1 ≤ 1048576)))
def qd0 (_F : Nat) : Option Int :=
  some 0
def qaY (F : Nat) (x1 : List Int) (rec3 : (Int × Int) → Option Int) (x88 : Int) (x89 : Int) : Option Int :=
  (if (decide (x89 < (x1.length : Int))) then ((idx x1 x89).bind fun x121 => ((qb9 F x121).bind fun x127 => (if (!x127) then some 3 else (if (decide (x121 ≤ x88)) then some 4 else rec3 (x121, iadd .i64 x89 1))))) else qd0 F)
def vl (F : Nat) (x1 : List Int) : Nat → (Int × Int) → Option Int
  | 0 => fun _ => none
  | k + 1 => fun s => qaY F x1 (vl F x1 k) s.1 s.2
def vA (F : Nat) (x1 : List Int) : Option Int :=
  (if (decide (300 < (x1.length : Int))) then some 2 else vl F x1 F (-1, 0))
def yk (F : Nat) (x2 : Int) (x3 : List Int) (x7 : Int) (x8 : List Int) (x13 : Bool) : Option (Int × List Int × Bool) :=
  (if (!x13) then ((je F x2 x3 x7 x8).bind fun x14 => some (x14.1, x14.2, x13)) else some (x2, x3, x13))
def yw (F : Nat) (x2 : Int) (x3 : List Int) (x6 : Bool) (x7 : Int) (x8 : List Int) : Option (Int × List Int × Bool) :=
  (if x6 then yk F x2 x3 x7 x8 true else yk F x2 x3 x7 x8 (decide (8192 < (iadd .i64 x2 x7))))
def q9 (F : Nat) (x2 : Int) (x3 : List Int) (x6 : Bool) (x7 : Int) : Option (Int × List Int × Bool) :=
  ((vU F (iconv .u64 x7)).bind fun x8 => ((yw F x2 x3 x6 x8.1 x8.2).bind fun x11 => some (x11.1, x11.2.1, x11.2.2)))
def kQ (_F : Nat) (x1 : Int) : Option Bool :=
  some ((x1 : Int) != x1)
def vy (_F : Nat) (x1 : Int) (x2 : Int) (x6 : Bool) : Option Bool :=
  some (x6 || (decide (x1 < x2)))
def vT (F : Nat) (x1 : Int) (x2 : Int) : Option Bool :=
  ((kQ F x1).bind fun x3 => (if x3 then ((kQ F x2).bind fun x8 => vy F x1 x2 (!x8)) else vy F x1 x2 false))
def ya (_F : Nat) (x1 : Int) : Option Bool :=
  some ((x1 : Int) != x1)
def kG (_F : Nat) (x32 : Int) (x55 : Bool) : Option (Int × Bool) :=
  some (x32, x55)
def kH (F : Nat) (x32 : Int) (x68 : Bool) : Option (Int × Bool) :=
  kG F x32 x68
def kI (F : Nat) (x32 : Int) (x75 : Bool) : Option (Int × Bool) :=
  kH F x32 x75
def q5 (F : Nat) (x1 : List Int) (x4 : Int) (x32 : Int) : Option (Int × Bool) :=
  (if (decide (x32 < (x1.length : Int))) then ((idx x1 x32).bind fun x56 => (if ((x56 : Int) == x4) then kH F x32 true else ((idx x1 x32).bind fun x69 => ((ya F x69).bind fun x72 => (if x72 then ((ya F x4).bind fun x76 => kI F x32 x76) else kI F x32 false))))) else kG F x32 false)
def qX (F : Nat) (x1 : List Int) (x4 : Int) (rec10 : (Int × Int) → Option (Int × Bool)) (x85 : Int) (x86 : Int) : Option (Int × Bool) :=
  (if (decide (x85 < x86)) then (lett (iconv .i64 (ishr .u64 (iconv .u64 (iadd .i64 x85 x86)) 1)) fun x97 => ((idx x1 x97).bind fun x98 => ((vT F x98 x4).bind fun x101 => (if x101 then rec10 (iadd .i64 x97 1, x86) else rec10 (x85, x97))))) else q5 F x1 x4 x85)
def qs (F : Nat) (x1 : List Int) (x4 : Int) : Nat → (Int × Int) → Option (Int × Bool)
  | 0 => fun _ => none
  | k + 1 => fun s => qX F x1 x4 (qs F x1 x4 k) s.1 s.2
def qC (F : Nat) (x1 : List Int) (x4 : Int) : Option (Int × Bool) :=
  qs F x1 x4 F (0, (x1.length : Int))
def va (_F : Nat) (x21 : List Int) (x22 : Bool) (x23 : Int) : Option (List Int × Bool × Int) :=
  some (x21, x22, iadd .i64 x23 1)
def jo (F : Nat) (x2 : List Int) (x5 : Bool) (x6 : Int) (x7 : Bool) : Option (List Int × Bool × Int) :=
  (if (x7 != x5) then ((app 8796093022208 x2 ([x6] : List Int)).bind fun x31 => va F x31 x7 0) else va F x2 x5 x6)
def qcQ (_F : Nat) (x66 : List Int) (x151 : List Int) : Option (List Int × List Int) :=
  some (x66, x151)
def qa5 (_F : Nat) (rec10 : (List Int × Int) → Option (List Int × List Int)) (x180 : Int) (x220 : List Int) : Option (List Int × List Int) :=
  rec10 (x220, iadd .i64 x180 1)
def qa3 (F : Nat) (x1 : List Int) (x4 : List Int) (x66 : List Int) (rec10 : (List Int × Int) → Option (List Int × List Int)) (x179 : List Int) (x180 : Int) : Option (List Int × List Int) :=
  (if (decide (x180 < (x4.length : Int))) then ((idx x4 x180).bind fun x221 => ((qC F x1 x221).bind fun x224 => (if (!x224.2) then ((app 8796093022208 x179 ([x221] : List Int)).bind fun x227 => qa5 F rec10 x180 x227) else qa5 F rec10 x180 x179))) else qcQ F x66 x179)
def yD (F : Nat) (x1 : List Int) (x4 : List Int) (x66 : List Int) : Nat → (List Int × Int) → Option (List Int × List Int)
  | 0 => fun _ => none
  | k + 1 => fun s => qa3 F x1 x4 x66 (yD F x1 x4 x66 k) s.1 s.2
def qcP (F : Nat) (x1 : List Int) (x4 : List Int) (x66 : List Int) (_x67 : Bool) (_x68 : Int) : Option (List Int × List Int) :=
  yD F x1 x4 x66 F (([] : List Int), 0)
def qa4 (F : Nat) (x1 : List Int) (x4 : List Int) (rec12 : (Int × List Int × Bool × Int) → Option (List Int × List Int)) (x249 : Int) (x252 : List Int) (x253 : Bool) (x254 : Int) : Option (List Int × List Int) :=
  (if (decide (x249 < (x1.length : Int))) then ((idx x1 x249).bind fun x280 => ((qC F x4 x280).bind fun x283 => ((jo F x252 x253 x254 x283.2).bind fun x284 => rec12 (iadd .i64 x249 1, x284.1, x284.2.1, x284.2.2)))) else qcP F x1 x4 x252 x253 x254)
def vm (F : Nat) (x1 : List Int) (x4 : List Int) : Nat → (Int × List Int × Bool × Int) → Option (List Int × List Int)
  | 0 => fun _ => none
  | k + 1 => fun s => qa4 F x1 x4 (vm F x1 x4 k) s.1 s.2.1 s.2.2.1 s.2.2.2
def qc7 (F : Nat) (x1 : List Int) (x4 : List Int) : Option (List Int × List Int) :=
  vm F x1 x4 F (0, ([] : List Int), true, 0)
def yx (F : Nat) (x7 : List Int) (rec1 : (Int × Int × List Int × Bool) → Option (Int × List Int × Bool)) (x27 : Int) (x28 : Int) (x31 : List Int) (x32 : Bool) : Option (Int × List Int × Bool) :=
  (if (decide (x27 < (x7.length : Int))) then ((idx x7 x27).bind fun x55 => ((q9 F x28 x31 x32 (isub .i64 x55 (imin x27 1))).bind fun x58 => rec1 (iadd .i64 x27 1, x58.1, x58.2.1, x58.2.2))) else some (x28, x31, x32))
def zP (F : Nat) (x7 : List Int) : Nat → (Int × Int × List Int × Bool) → Option (Int × List Int × Bool)
  | 0 => fun _ => none
  | k + 1 => fun s => yx F x7 (zP F x7 k) s.1 s.2.1 s.2.2.1 s.2.2.2
def vF (F : Nat) (x2 : Int) (x3 : List Int) (x6 : Bool) (x7 : List Int) : Option (Int × List Int × Bool) :=
  ((q9 F x2 x3 x6 (x7.length : Int)).bind fun x10 => zP F x7 F (0, x10.1, x10.2.1, x10.2.2))
def qd8 (_F : Nat) (_x1 : List Int) : Option Unit :=
  some ()
def qae {σ τ : Type} (_F : Nat) (yy : σ → (Int × Int) → Option (σ ⊕ τ)) (rec31 : (Int × σ) → Option (σ ⊕ τ)) (x2 : List Int) (x266 : Int) (x267 : σ) (x654 : Int) : Option (σ ⊕ τ) :=
  ((idx x2 x266).bind fun x662 => ((yy x267 (x662, x654)).bind (Sum.elim (fun x665 => rec31 (iadd .i64 x266 x654, x665)) (fun x666 => some (.inr x666)))))
def qaf {σ τ : Type} (F : Nat) (yy : σ → (Int × Int) → Option (σ ⊕ τ)) (rec31 : (Int × σ) → Option (σ ⊕ τ)) (rec44 : Int → Option (σ ⊕ τ)) (x2 : List Int) (x266 : Int) (x267 : σ) (x709 : Int) (x780 : Bool) : Option (σ ⊕ τ) :=
  (if x780 then rec44 (iadd .i64 x709 1) else qae F yy rec31 x2 x266 x267 x709)
def qad {σ τ : Type} (F : Nat) (yy : σ → (Int × Int) → Option (σ ⊕ τ)) (rec31 : (Int × σ) → Option (σ ⊕ τ)) (x2 : List Int) (x266 : Int) (x267 : σ) (rec44 : Int → Option (σ ⊕ τ)) (x709 : Int) : Option (σ ⊕ τ) :=
  (if (decide ((iadd .i64 x266 x709) < (x2.length : Int))) then ((idx x2 (iadd .i64 x266 x709)).bind fun x783 => ((idx x2 x266).bind fun x787 => qaf F yy rec31 rec44 x2 x266 x267 x709 ((x783 : Int) == (iadd .i64 x787 x709)))) else qaf F yy rec31 rec44 x2 x266 x267 x709 false)
def kD {σ τ : Type} (F : Nat) (yy : σ → (Int × Int) → Option (σ ⊕ τ)) (rec31 : (Int × σ) → Option (σ ⊕ τ)) (x2 : List Int) (x266 : Int) (x267 : σ) : Nat → Int → Option (σ ⊕ τ)
  | 0 => fun _ => none
  | k + 1 => fun s => qad F yy rec31 x2 x266 x267 (kD F yy rec31 x2 x266 x267 k) s
def qac {σ τ : Type} (F : Nat) (yy : σ → (Int × Int) → Option (σ ⊕ τ)) (x2 : List Int) (rec31 : (Int × σ) → Option (σ ⊕ τ)) (x266 : Int) (x267 : σ) : Option (σ ⊕ τ) :=
  (if (decide (x266 < (x2.length : Int))) then kD F yy rec31 x2 x266 x267 F 1 else some (.inl x267))
def q4 {σ τ : Type} (F : Nat) (yy : σ → (Int × Int) → Option (σ ⊕ τ)) (x2 : List Int) : Nat → (Int × σ) → Option (σ ⊕ τ)
  | 0 => fun _ => none
  | k + 1 => fun s => qac F yy x2 (q4 F yy x2 k) s.1 s.2
def qaT {σ τ : Type} (F : Nat) (yy : σ → (Int × Int) → Option (σ ⊕ τ)) (x2 : List Int) (s0 : σ) : Option (σ ⊕ τ) :=
  q4 F yy x2 F (0, s0)
def qb5 (_F : Nat) (x255 : List (Int × Int)) (x312 : Int) (x313 : Int) (rec8 : (Int × List Int) → Option ((List Int × List (Int × Int)) ⊕ Empty)) (x338 : Int) (x341 : List Int) : Option ((List Int × List (Int × Int)) ⊕ Empty) :=
  (if (decide (x338 < x313)) then ((app 8796093022208 x341 ([iadd .i64 x312 x338] : List Int)).bind fun x363 => rec8 (iadd .i64 x338 1, x363)) else some (.inl (x341, x255)))
def jK (F : Nat) (x255 : List (Int × Int)) (x312 : Int) (x313 : Int) : Nat → (Int × List Int) → Option ((List Int × List (Int × Int)) ⊕ Empty)
  | 0 => fun _ => none
  | k + 1 => fun s => qb5 F x255 x312 x313 (jK F x255 x312 x313 k) s.1 s.2
def qaS (F : Nat) (x4 : Int) (x252 : List Int) (x255 : List (Int × Int)) (x312 : Int) (x313 : Int) : Option ((List Int × List (Int × Int)) ⊕ Empty) :=
  (if (decide (x4 ≤ x313)) then ((app 4398046511104 x255 ([(x312, x313)] : List (Int × Int))).bind fun x323 => some (.inl (x252, x323))) else jK F x255 x312 x313 F (0, x252))
def qdD (F : Nat) (x1 : List Int) (x4 : Int) : Option (List (Int × Int) × List Int) :=
  ((qd8 F x1).bind fun _x188 => ((qaT F (fun ((x252, x255) : (List Int × List (Int × Int))) ((x312, x313) : (Int × Int)) => qaS F x4 x252 x255 x312 x313) x1 (([] : List Int), ([] : List (Int × Int)))).bind (Sum.elim (fun ((x252, x255) : (List Int × List (Int × Int))) => some (x255, x252)) (fun t => t.elim))))
def qaV (_F : Nat) (x1 : Int) : Option Int :=
  (lett (ixor .u64 (ishl .u64 (iconv .u64 x1) 1) (iconv .u64 (ishr .i64 x1 63))) fun x2 => some x2)
def k6 (F : Nat) (rec5 : (Int × Int × Int × List Int × Bool) → Option (Int × List Int × Bool)) (x8 : Int) (x74 : Int) (x168 : (Int × Int)) (x180 : Int) (x183 : List Int) (x184 : Bool) : Option (Int × List Int × Bool) :=
  ((q9 F x180 x183 x184 (isub .i64 x168.2 x8)).bind fun x185 => rec5 (isub .i64 (iadd .i64 x168.1 x168.2) 1, iadd .i64 x74 1, x185.1, x185.2.1, x185.2.2))
def vf (F : Nat) (x8 : Int) (x9 : List (Int × Int)) (rec5 : (Int × Int × Int × List Int × Bool) → Option (Int × List Int × Bool)) (x73 : Int) (x74 : Int) (x75 : Int) (x78 : List Int) (x79 : Bool) : Option (Int × List Int × Bool) :=
  (if (decide (x74 < (x9.length : Int))) then ((idx x9 x74).bind fun x168 => (if ((x74 : Int) == 0) then ((qaV F (isub .i64 x168.1 x73)).bind fun x188 => ((q9 F x75 x78 x79 (iconv .i64 x188)).bind fun x189 => k6 F rec5 x8 x74 x168 x189.1 x189.2.1 x189.2.2)) else ((q9 F x75 x78 x79 (isub .i64 (isub .i64 x168.1 x73) 2)).bind fun x192 => k6 F rec5 x8 x74 x168 x192.1 x192.2.1 x192.2.2))) else some (x75, x78, x79))
def zA (F : Nat) (x8 : Int) (x9 : List (Int × Int)) : Nat → (Int × Int × Int × List Int × Bool) → Option (Int × List Int × Bool)
  | 0 => fun _ => none
  | k + 1 => fun s => vf F x8 x9 (zA F x8 x9 k) s.1 s.2.1 s.2.2.1 s.2.2.2.1 s.2.2.2.2
def jr (F : Nat) (x2 : Int) (x3 : List Int) (x6 : Bool) (x7 : Int) (x8 : Int) (x9 : List (Int × Int)) : Option (Int × List Int × Bool) :=
  ((q9 F x2 x3 x6 (x9.length : Int)).bind fun x12 => zA F x8 x9 F (x7, 0, x12.1, x12.2.1, x12.2.2))
def qbZ (F : Nat) (x1 : Int) (x2 : Int) : Option (Int × Int × Int) :=
  ((yr F (iadd .u64 x1 1)).bind fun x3 => (chk ((x2 : Int) != 0) ((chk (decide (0 ≤ (imul .i64 (iquo .i64 (isub .i64 x3 1) x2) x2))) ((chk (decide (0 ≤ (iadd .i64 (imul .i64 (iquo .i64 (isub .i64 x3 1) x2) x2) x2))) (some (iquo .i64 (isub .i64 x3 1) x2, ishl .u64 1 (imul .i64 (iquo .i64 (isub .i64 x3 1) x2) x2), ishl .u64 1 (iadd .i64 (imul .i64 (iquo .i64 (isub .i64 x3 1) x2) x2) x2)))))))))
def qas (F : Nat) (x1 : Int) : Option (Int × Int) :=
  ((yr F (isub .u64 x1 1)).bind fun x2 => (chk (decide (0 ≤ x2)) (some (x2, isub .u64 (ishl .u64 1 x2) x1))))
def j4 (F : Nat) (x1 : Int) (x2 : List Int) (x5 : Int) (x6 : Int) : Option (Int × List Int) :=
  ((qas F x6).bind fun x9 => (if (decide (x5 < x9.2)) then ((yQ F x1 x2 x5 (isub .i64 x9.1 1)).bind fun x14 => some (x14.1, x14.2)) else ((yQ F x1 x2 (iadd .u64 x5 x9.2) x9.1).bind fun x17 => some (x17.1, x17.2))))
def qbY (F : Nat) (x1 : Int) (x2 : Int) : Option (Int × List Int × Int) :=
  (if (((decide (x2 < 1)) || (decide (16 < x2))) || (decide (1099511627776 < x1))) then some (0, ([] : List Int), 3) else ((qbZ F x1 x2).bind fun x9 => ((qcb F (iconv .u64 x9.1)).bind fun x10 => ((j4 F x10.1 x10.2 (isub .u64 (iadd .u64 x1 1) x9.2.1) (isub .u64 x9.2.2 x9.2.1)).bind fun x13 => some (x13.1, x13.2, 0)))))
def qeA (_F : Nat) (x107 : Int) (x110 : List Int) : Option (Int × List Int × Bool) :=
  some (x107, x110, true)
def qbW (F : Nat) (x5 : List Int) (x8 : Int) (rec3 : (Int × Int × List Int) → Option (Int × List Int × Bool)) (x141 : Int) (x142 : Int) (x145 : List Int) : Option (Int × List Int × Bool) :=
  (if (decide (x141 < (x5.length : Int))) then ((idx x5 x141).bind fun x192 => ((qbY F x192 x8).bind fun x195 => (if (((x195.2.2 : Int) != 0) || (decide (8192 < (iadd .i64 x142 x195.1)))) then some (0, ([] : List Int), false) else ((je F x142 x145 x195.1 x195.2.1).bind fun x202 => rec3 (iadd .i64 x141 1, x202.1, x202.2))))) else qeA F x142 x145)
def jG (F : Nat) (x5 : List Int) (x8 : Int) : Nat → (Int × Int × List Int) → Option (Int × List Int × Bool)
  | 0 => fun _ => none
  | k + 1 => fun s => qbW F x5 x8 (jG F x5 x8 k) s.1 s.2.1 s.2.2
def qbc (F : Nat) (x1 : Int) (x2 : List Int) (x5 : List Int) (x8 : Int) : Option (Int × List Int × Bool) :=
  jG F x5 x8 F (0, x1, x2)
def qar (_F : Nat) (x4 : Int) (x8 : Int) : Option (Int × Int × Bool) :=
  some (x8, x4, true)
def j2 (F : Nat) (x2 : Int) (x3 : Bool) (x4 : Int) : Option (Int × Int × Bool) :=
  (if x3 then (lett (iconv .u64 (isub .i64 (isub .i64 x4 x2) 1)) fun x9 => qar F x4 x9) else ((qaV F (isub .i64 x4 x2)).bind fun x10 => qar F x4 x10))
def qdj (_F : Nat) (x75 : List Int) : Option (List Int) :=
  some x75
def qbX (F : Nat) (x1 : List Int) (rec3 : (List Int × Int × Int × Bool) → Option (List Int)) (x98 : List Int) (x99 : Int) (x100 : Int) (x101 : Bool) : Option (List Int) :=
  (if (decide (x99 < (x1.length : Int))) then ((idx x1 x99).bind fun x133 => ((j2 F x100 x101 x133).bind fun x136 => ((app 8796093022208 x98 ([x136.1] : List Int)).bind fun x139 => rec3 (x139, iadd .i64 x99 1, x136.2.1, x136.2.2)))) else qdj F x98)
def jH (F : Nat) (x1 : List Int) : Nat → (List Int × Int × Int × Bool) → Option (List Int)
  | 0 => fun _ => none
  | k + 1 => fun s => qbX F x1 (jH F x1 k) s.1 s.2.1 s.2.2.1 s.2.2.2
def qcL (F : Nat) (x1 : List Int) (x4 : Int) : Option (List Int) :=
  jH F x1 F (([] : List Int), 0, x4, false)
def kZ (F : Nat) (x52 : Int) (x55 : List Int) (x56 : Bool) (x76 : Bool) (x77 : Int) (x80 : List Int) : Option (Int × List Int × Bool) :=
  ((yw F x52 x55 (x56 || (!x76)) x77 x80).bind fun x82 => some (x82.1, x82.2.1, x82.2.2))
def kY (F : Nat) (x7 : Int) (x16 : Int) (x51 : List Int) (x52 : Int) (x55 : List Int) (x56 : Bool) : Option (Int × List Int × Bool) :=
  ((qcL F x51 x7).bind fun x85 => ((qbc F 0 ([] : List Int) x85 x16).bind fun x88 => kZ F x52 x55 x56 x88.2.2 x88.1 x88.2.1))
def kX (F : Nat) (x7 : Int) (x15 : Int) (x16 : Int) (x33 : List Int) (x34 : Int) (x37 : List Int) (x38 : Bool) : Option (Int × List Int × Bool) :=
  (if (((x33.length : Int) : Int) == 0) then some (x34, x37, x38) else (if (decide (0 < x15)) then ((qdD F x33 x15).bind fun x103 => ((jr F x34 x37 x38 x7 x15 x103.1).bind fun x108 => kY F x7 x16 x103.2 x108.1 x108.2.1 x108.2.2)) else kY F x7 x16 x33 x34 x37 x38))
def yW (F : Nat) (x2 : Int) (x3 : List Int) (x6 : Bool) (x7 : Int) (x8 : List Int) (x11 : List Int) (x14 : Int) (x15 : Int) (x16 : Int) : Option (Int × List Int × Bool) :=
  ((q9 F x2 x3 x6 (x8.length : Int)).bind fun x18 => (if (((x8.length : Int) : Int) == 0) then some (x18.1, x18.2.1, x18.2.2) else (if (decide (0 < x14)) then ((qc7 F x11 x8).bind fun x113 => ((vF F x18.1 x18.2.1 x18.2.2 x113.1).bind fun x118 => kX F x7 x15 x16 x113.2 x118.1 x118.2.1 x118.2.2)) else kX F x7 x15 x16 x8 x18.1 x18.2.1 x18.2.2)))
def qcv (F : Nat) (x1 : Int) (x2 : List Int) (x5 : Int) (_x6 : Int) (_x7 : Int) : Option Int :=
  (if ((decide (x1 < 0)) || (decide (1048576 < x1))) then some 3 else (if (decide (0 < x5)) then ((vA F x2).bind fun x14 => some x14) else some 0))
def jA (F : Nat) (x1 : Int) (x2 : List Int) (x5 : List Int) (x8 : Int) (x9 : Int) (x10 : Int) (x25 : Int) : Option (Int × List Int × Int) :=
  (if ((x25 : Int) != 0) then some (0, ([] : List Int), x25) else ((yW F 0 ([] : List Int) false x1 x2 x5 x8 x9 x10).bind fun x28 => (if x28.2.2 then some (0, ([] : List Int), 8) else some (x28.1, x28.2.1, 0))))
def vo (F : Nat) (x1 : Int) (x2 : List Int) (x5 : List Int) (x8 : Int) (x9 : Int) (x10 : Int) (x22 : Int) : Option (Int × List Int × Int) :=
  (if ((x22 : Int) == 0) then ((qcv F x1 x5 x8 x9 x10).bind fun x34 => jA F x1 x2 x5 x8 x9 x10 x34) else jA F x1 x2 x5 x8 x9 x10 x22)
def vn (F : Nat) (x1 : Int) (x2 : List Int) (x5 : List Int) (x8 : Int) (x9 : Int) (x10 : Int) (x19 : Int) : Option (Int × List Int × Int) :=
  (if ((x19 : Int) == 0) then ((vA F x2).bind fun x36 => vo F x1 x2 x5 x8 x9 x10 x36) else vo F x1 x2 x5 x8 x9 x10 x19)
def jB (F : Nat) (x1 : Int) (x2 : List Int) (x5 : List Int) (x8 : Int) (x9 : Int) (x10 : Int) (x13 : Int) (x40 : Bool) : Option (Int × List Int × Int) :=
  (if x40 then vn F x1 x2 x5 x8 x9 x10 3 else vn F x1 x2 x5 x8 x9 x10 x13)
def qcu (F : Nat) (x1 : Int) (x2 : List Int) (x5 : List Int) (x8 : Int) (x9 : Int) (x10 : Int) : Option (Int × List Int × Int) :=
  ((qaG F x8 x9 x10).bind fun x13 => (if ((x13 : Int) == 0) then jB F x1 x2 x5 x8 x9 x10 x13 ((decide (x1 < 0)) || (decide (1048576 < x1))) else jB F x1 x2 x5 x8 x9 x10 x13 false))
def qav (F : Nat) (x1 : List (List Int)) (x4 : List Int) (x7 : Int) (x9 : Int) (x10 : Int) (x18 : Int) (x21 : List Int) (x29 : List Int) : Option (Int × Int × List Int × Bool) :=
  ((qcu F (x1.length : Int) x4 x29 x7 x9 x10).bind fun x30 => (if (((x30.2.2 : Int) != 0) || (decide (8192 < (iadd .i64 x18 x30.1)))) then some (0, 0, ([] : List Int), false) else ((je F x18 x21 x30.1 x30.2.1).bind fun x37 => some (x7, x37.1, x37.2, true))))
def qau (F : Nat) (x1 : List (List Int)) (x4 : List Int) (x7 : Int) (x9 : Int) (x10 : Int) (x18 : Int) (x21 : List Int) : Option (Int × Int × List Int × Bool) :=
  (if (decide (0 < x7)) then ((idx x1 (isub .i64 (x1.length : Int) x7)).bind fun x41 => qav F x1 x4 x7 x9 x10 x18 x21 x41) else qav F x1 x4 x7 x9 x10 x18 x21 ([] : List Int))
def qc6 (F : Nat) (x1 : List (List Int)) (x4 : List Int) (x7 : Int) (x8 : Int) (x9 : Int) (x10 : Int) : Option (Int × Int × List Int × Bool) :=
  (if (decide (0 < x8)) then ((vU F (iconv .u64 x7)).bind fun x46 => qau F x1 x4 x7 x9 x10 x46.1 x46.2) else qau F x1 x4 x7 x9 x10 0 ([] : List Int))
def qcO (_F : Nat) (x96 : Bool) (x97 : Int) (x98 : Int) (x101 : List Int) : Option (Int × Int × List Int × Bool) :=
  some (x97, x98, x101, x96)
def yC (_F : Nat) (rec14 : (Bool × Int × Int × Int × List Int) → Option (Int × Int × List Int × Bool)) (x126 : Int) (x169 : Bool) (x170 : Int) (x171 : Int) (x174 : List Int) : Option (Int × Int × List Int × Bool) :=
  rec14 (x169, iadd .i64 x126 1, x170, x171, x174)
def qa1 (F : Nat) (rec14 : (Bool × Int × Int × Int × List Int) → Option (Int × Int × List Int × Bool)) (x125 : Bool) (x126 : Int) (x127 : Int) (x128 : Int) (x131 : List Int) (x175 : (Int × Int × List Int × Bool)) (x181 : Bool) : Option (Int × Int × List Int × Bool) :=
  (if x181 then yC F rec14 x126 true x175.1 x175.2.1 x175.2.2.1 else yC F rec14 x126 x125 x127 x128 x131)
def qa0 (F : Nat) (x1 : List (List Int)) (x4 : List Int) (x7 : Int) (x8 : Int) (x9 : Int) (rec14 : (Bool × Int × Int × Int × List Int) → Option (Int × Int × List Int × Bool)) (x125 : Bool) (x126 : Int) (x127 : Int) (x128 : Int) (x131 : List Int) : Option (Int × Int × List Int × Bool) :=
  (if (decide (x126 < (iadd .i64 (imin x7 (x1.length : Int)) 1))) then ((qc6 F x1 x4 x126 x7 x8 x9).bind fun x175 => (if x175.2.2.2 then qa1 F rec14 x125 x126 x127 x128 x131 x175 ((!x125) || (decide (x175.2.1 < x128))) else qa1 F rec14 x125 x126 x127 x128 x131 x175 false)) else qcO F x125 x127 x128 x131)
def zU (F : Nat) (x1 : List (List Int)) (x4 : List Int) (x7 : Int) (x8 : Int) (x9 : Int) : Nat → (Bool × Int × Int × Int × List Int) → Option (Int × Int × List Int × Bool)
  | 0 => fun _ => none
  | k + 1 => fun s => qa0 F x1 x4 x7 x8 x9 (zU F x1 x4 x7 x8 x9 k) s.1 s.2.1 s.2.2.1 s.2.2.2.1 s.2.2.2.2
def qc5 (F : Nat) (x1 : List (List Int)) (x4 : List Int) (x7 : Int) (x8 : Int) (x9 : Int) : Option (Int × Int × List Int × Bool) :=
  zU F x1 x4 x7 x8 x9 F (false, 0, 0, 0, ([] : List Int))
def jl (_F : Nat) (x2 : Int) (x3 : Int) (x4 : Int) (x5 : Int) (x710 : Int) (x713 : List Int) (x716 : List Int) (x719 : List Int) : Option (Bool × Int × Int × Int × Int × Int × List Int × List Int × List Int) :=
  some (true, x2, x3, x4, x5, x710, x713, x716, x719)
def kB (F : Nat) (rec43 : (Int × Int × List Int × List Int × List Int) → Option (Bool × Int × Int × Int × Int × Int × List Int × List Int × List Int)) (x946 : Int) (x947 : Int) (x950 : List Int) (x1318 : Int) (x1321 : List Int) (x1358 : List Int) (x1361 : List Int) : Option (Bool × Int × Int × Int × Int × Int × List Int × List Int × List Int) :=
  ((je F x947 x950 x1318 x1321).bind fun x1362 => rec43 (iadd .i64 x946 1, x1362.1, x1362.2, x1358, x1361))
def kA (F : Nat) (rec43 : (Int × Int × List Int × List Int × List Int) → Option (Bool × Int × Int × Int × Int × Int × List Int × List Int × List Int)) (x2 : Int) (x3 : Int) (x4 : Int) (x5 : Int) (x946 : Int) (x947 : Int) (x950 : List Int) (x953 : List Int) (x956 : List Int) (x1317 : Int) (x1318 : Int) (x1321 : List Int) (x1327 : Bool) : Option (Bool × Int × Int × Int × Int × Int × List Int × List Int × List Int) :=
  (if x1327 then some (false, x2, x3, x4, x5, x947, x950, x953, x956) else ((app 8796093022208 x953 ([x1317] : List Int)).bind fun x1367 => ((app 8796093022208 x956 ([x947] : List Int)).bind fun x1372 => kB F rec43 x946 x947 x950 x1318 x1321 x1367 x1372)))
def yH (F : Nat) (rec43 : (Int × Int × List Int × List Int × List Int) → Option (Bool × Int × Int × Int × Int × Int × List Int × List Int × List Int)) (x2 : Int) (x3 : Int) (x4 : Int) (x5 : Int) (x946 : Int) (x947 : Int) (x950 : List Int) (x953 : List Int) (x956 : List Int) (x1316 : Bool) (x1317 : Int) (x1318 : Int) (x1321 : List Int) : Option (Bool × Int × Int × Int × Int × Int × List Int × List Int × List Int) :=
  (if (!x1316) then kA F rec43 x2 x3 x4 x5 x946 x947 x950 x953 x956 x1317 x1318 x1321 true else kA F rec43 x2 x3 x4 x5 x946 x947 x950 x953 x956 x1317 x1318 x1321 (decide (8192 < (iadd .i64 x947 x1318))))
def yG (F : Nat) (x2 : Int) (x3 : Int) (x4 : Int) (x5 : Int) (x16 : List (List Int)) (rec43 : (Int × Int × List Int × List Int × List Int) → Option (Bool × Int × Int × Int × Int × Int × List Int × List Int × List Int)) (x946 : Int) (x947 : Int) (x950 : List Int) (x953 : List Int) (x956 : List Int) : Option (Bool × Int × Int × Int × Int × Int × List Int × List Int × List Int) :=
  (if (decide (x946 < (x16.length : Int))) then ((idx x16 x946).bind fun x1297 => ((sub x16 0 x946).bind fun x1395 => ((qc5 F x1395 x1297 x3 x4 x5).bind fun x1401 => yH F rec43 x2 x3 x4 x5 x946 x947 x950 x953 x956 x1401.2.2.2 x1401.1 x1401.2.1 x1401.2.2.1))) else jl F x2 x3 x4 x5 x947 x950 x953 x956)
def qI (F : Nat) (x2 : Int) (x3 : Int) (x4 : Int) (x5 : Int) (x16 : List (List Int)) : Nat → (Int × Int × List Int × List Int × List Int) → Option (Bool × Int × Int × Int × Int × Int × List Int × List Int × List Int)
  | 0 => fun _ => none
  | k + 1 => fun s => yG F x2 x3 x4 x5 x16 (qI F x2 x3 x4 x5 x16 k) s.1 s.2.1 s.2.2.1 s.2.2.2.1 s.2.2.2.2
def qbd (F : Nat) (x2 : Int) (x3 : Int) (x4 : Int) (x5 : Int) (x6 : Int) (x7 : List Int) (x10 : List Int) (x13 : List Int) (x16 : List (List Int)) : Option (Bool × Int × Int × Int × Int × Int × List Int × List Int × List Int) :=
  qI F x2 x3 x4 x5 x16 F (0, x6, x7, x10, x13)
def yN (_F : Nat) (x48 : Int) (x49 : Int) (x50 : Int) (x51 : Int) (x52 : Int) (x53 : Int) (x56 : List Int) (x59 : List Int) (x62 : List Int) : Option (Int × Int × Int × Int × Int × List Int × List Int × List Int × Int) :=
  some (x49, x50, x51, x52, x53, x56, x59, x62, x48)
def yO (F : Nat) (x12 : Int) (x74 : Bool) (x75 : Int) (x76 : Int) (x77 : Int) (x78 : Int) (x79 : Int) (x82 : List Int) (x85 : List Int) (x88 : List Int) : Option (Int × Int × Int × Int × Int × List Int × List Int × List Int × Int) :=
  (if x74 then yN F 8 x75 x76 x77 x78 x79 x82 x85 x88 else yN F x12 x75 x76 x77 x78 x79 x82 x85 x88)
def vY (F : Nat) (x1 : List (List Int)) (x4 : Int) (x5 : Int) (x6 : Int) (x12 : Int) : Option (Int × Int × Int × Int × Int × List Int × List Int × List Int × Int) :=
  (if ((x12 : Int) == 0) then ((qbd F (x1.length : Int) x4 x5 x6 0 ([] : List Int) ([] : List Int) ([] : List Int) x1).bind fun x90 => yO F x12 (!x90.1) x90.2.1 x90.2.2.1 x90.2.2.2.1 x90.2.2.2.2.1 x90.2.2.2.2.2.1 x90.2.2.2.2.2.2.1 x90.2.2.2.2.2.2.2.1 x90.2.2.2.2.2.2.2.2) else yO F x12 false (x1.length : Int) x4 x5 x6 0 ([] : List Int) ([] : List Int) ([] : List Int))
def qaR (F : Nat) (x1 : List (List Int)) (x4 : Int) (x5 : Int) (x6 : Int) : Option (Int × Int × Int × Int × Int × List Int × List Int × List Int × Int) :=
  ((yc F x1).bind fun x9 => (if ((x9 : Int) == 0) then ((qaG F x4 x5 x6).bind fun x97 => vY F x1 x4 x5 x6 x97) else vY F x1 x4 x5 x6 x9))
def qby (F : Nat) (x1 : List (List Int)) (x4 : Int) (x5 : Int) (x6 : Int) : Option (Int × Int × Int × Int × Int × List Int × Int) :=
  ((qaR F x1 x4 x5 x6).bind fun x10 => (if ((x10.2.2.2.2.2.2.2.2 : Int) != 0) then some (0, 0, 0, 0, 0, ([] : List Int), x10.2.2.2.2.2.2.2.2) else some (x10.1, x10.2.1, x10.2.2.1, x10.2.2.2.1, x10.2.2.2.2.1, x10.2.2.2.2.2.1, 0)))
def qca (F : Nat) (x1 : List (List Int)) (x4 : Int) (x5 : Int) (x6 : Int) : Option (List Int × List Int × Int) :=
  ((qaR F x1 x4 x5 x6).bind fun x9 => (if ((x9.2.2.2.2.2.2.2.2 : Int) != 0) then some (([] : List Int), ([] : List Int), x9.2.2.2.2.2.2.2.2) else some (x9.2.2.2.2.2.2.1, x9.2.2.2.2.2.2.2.1, 0)))
def qdY (_F : Nat) : Option Int :=
  some 0
def qaX (F : Nat) (x1 : List Int) (x4 : Int) (rec3 : (Int × Int) → Option Int) (x92 : Int) (x93 : Int) : Option Int :=
  (if (decide (x93 < (x1.length : Int))) then ((idx x1 x93).bind fun x125 => (if ((decide (x125 < 0)) || (decide (x4 < x125))) then some 3 else (if (decide (x125 < x92)) then some 4 else rec3 (x125, iadd .i64 x93 1)))) else qdY F)
def vk (F : Nat) (x1 : List Int) (x4 : Int) : Nat → (Int × Int) → Option Int
  | 0 => fun _ => none
  | k + 1 => fun s => qaX F x1 x4 (vk F x1 x4 k) s.1 s.2
def qbp (F : Nat) (x1 : List Int) (x4 : Int) : Option Int :=
  (if ((decide (x4 < 0)) || (decide (1048576 < x4))) then some 3 else (if (decide (300 < (x1.length : Int))) then some 2 else vk F x1 x4 F (0, 0)))
def qdZ (_F : Nat) (x35 : Int) : Option Int :=
  some x35
def vW (F : Nat) (rec13 : Int → Option Int) (x46 : Int) (x65 : Bool) : Option Int :=
  (if x65 then rec13 (iadd .i64 x46 1) else qdZ F x46)
def qaC (F : Nat) (x1 : Int) (x2 : Int) (rec13 : Int → Option Int) (x46 : Int) : Option Int :=
  (if (decide (0 < x1)) then (chk (decide (0 ≤ (iadd .i64 x46 1))) (vW F rec13 x46 (decide ((ishl .i64 x1 (iadd .i64 x46 1)) ≤ (iadd .i64 x2 1))))) else vW F rec13 x46 false)
def k7 (F : Nat) (x1 : Int) (x2 : Int) : Nat → Int → Option Int
  | 0 => fun _ => none
  | k + 1 => fun s => qaC F x1 x2 (k7 F x1 x2 k) s
def qbr (F : Nat) (x1 : Int) (x2 : Int) : Option Int :=
  k7 F x1 x2 F 0
def y9 (F : Nat) (x7 : Int) (rec1 : (Int × List Int × Int) → Option (Int × List Int × Int)) (x16 : Int) (x19 : List Int) (x20 : Int) : Option (Int × List Int × Int) :=
  (if (decide (x20 < x7)) then ((yQ F x16 x19 0 1).bind fun x34 => rec1 (x34.1, x34.2, iadd .i64 x20 1)) else some (x16, x19, x20))
def kb (F : Nat) (x7 : Int) : Nat → (Int × List Int × Int) → Option (Int × List Int × Int)
  | 0 => fun _ => none
  | k + 1 => fun s => y9 F x7 (kb F x7 k) s.1 s.2.1 s.2.2
def yR (F : Nat) (x2 : Int) (x3 : List Int) (x6 : Int) (x7 : Int) : Option (Int × List Int × Int) :=
  kb F x7 F (x2, x3, x6)
def qdi (F : Nat) (x1 : List Int) (x4 : Int) (x6 : Int) (x174 : Int) (x177 : List Int) (x178 : Int) (x179 : Int) (x182 : List Int) : Option (Int × Int × Int × Int × List Int × Int × List Int × Bool) :=
  ((yR F x174 x177 x178 (iadd .i64 (ishr .i64 x4 x6) 1)).bind fun x183 => some ((x1.length : Int), x4, x6, x179, x182, x183.1, x183.2.1, true))
def qbV (F : Nat) (x1 : List Int) (x4 : Int) (x6 : Int) (rec3 : (Int × Int × List Int × Int × Int × List Int) → Option (Int × Int × Int × Int × List Int × Int × List Int × Bool)) (x239 : Int) (x240 : Int) (x243 : List Int) (x244 : Int) (x245 : Int) (x248 : List Int) : Option (Int × Int × Int × Int × List Int × Int × List Int × Bool) :=
  (if (decide (x239 < (x1.length : Int))) then ((idx x1 x239).bind fun x319 => (chk (decide (0 ≤ x6)) (((yQ F x245 x248 (iconv .u64 (iand .i64 x319 (isub .i64 (ishl .i64 1 x6) 1))) x6).bind fun x331 => (chk (decide (0 ≤ x6)) (((yR F x240 x243 x244 (ishr .i64 x319 x6)).bind fun x335 => ((yQ F x335.1 x335.2.1 1 1).bind fun x338 => rec3 (iadd .i64 x239 1, x338.1, x338.2, x335.2.2, x331.1, x331.2))))))))) else qdi F x1 x4 x6 x240 x243 x244 x245 x248)
def jF (F : Nat) (x1 : List Int) (x4 : Int) (x6 : Int) : Nat → (Int × Int × List Int × Int × Int × List Int) → Option (Int × Int × Int × Int × List Int × Int × List Int × Bool)
  | 0 => fun _ => none
  | k + 1 => fun s => qbV F x1 x4 x6 (jF F x1 x4 x6 k) s.1 s.2.1 s.2.2.1 s.2.2.2.1 s.2.2.2.2.1 s.2.2.2.2.2
def qcJ (F : Nat) (x1 : List Int) (x4 : Int) : Option (Int × Int × Int × Int × List Int × Int × List Int × Bool) :=
  ((qbr F (x1.length : Int) x4).bind fun x6 => (chk (decide (0 ≤ x6)) ((if ((decide (8192 < (imul .i64 (x1.length : Int) x6))) || (decide (8192 < (iadd .i64 (x1.length : Int) (iadd .i64 (ishr .i64 x4 x6) 1))))) then some (0, 0, 0, 0, ([] : List Int), 0, ([] : List Int), false) else jF F x1 x4 x6 F (0, 0, ([] : List Int), 0, 0, ([] : List Int))))))
def qbo (F : Nat) (x1 : List Int) (x4 : Int) : Option (Int × Int × Int × Int × List Int × Int × List Int × Int) :=
  ((qbp F x1 x4).bind fun x8 => (if ((x8 : Int) != 0) then some (0, 0, 0, 0, ([] : List Int), 0, ([] : List Int), x8) else ((qcJ F x1 x4).bind fun x9 => (if (!x9.2.2.2.2.2.2.2) then some (0, 0, 0, 0, ([] : List Int), 0, ([] : List Int), 8) else some (x9.1, x9.2.1, x9.2.2.1, x9.2.2.2.1, x9.2.2.2.2.1, x9.2.2.2.2.2.1, x9.2.2.2.2.2.2.1, 0)))))
def jN (F : Nat) (x1 : List (List Int)) (x4 : Int) (x5 : Int) (x6 : Int) (x7 : Int) (x8 : Int) (x9 : List Int) : Option (Int × Int × Int × Int × Int × List Int × Int × Int × Int × Int × List Int × Int × List Int × Int) :=
  ((qca F x1 x5 x6 x7).bind fun x15 => (if ((x15.2.2 : Int) != 0) then some (0, 0, 0, 0, 0, ([] : List Int), 0, 0, 0, 0, ([] : List Int), 0, ([] : List Int), x15.2.2) else ((qbo F x15.2.1 x8).bind fun x21 => (if ((x21.2.2.2.2.2.2.2 : Int) != 0) then some (0, 0, 0, 0, 0, ([] : List Int), 0, 0, 0, 0, ([] : List Int), 0, ([] : List Int), x21.2.2.2.2.2.2.2) else some (x4, x5, x6, x7, x8, x9, x21.1, x21.2.1, x21.2.2.1, x21.2.2.2.1, x21.2.2.2.2.1, x21.2.2.2.2.2.1, x21.2.2.2.2.2.2.1, 0)))))
def jL (F : Nat) (x1 : List (List Int)) (x4 : Int) (x5 : Int) (x6 : Int) : Option (Int × Int × Int × Int × Int × List Int × Int × Int × Int × Int × List Int × Int × List Int × Int) :=
  ((qby F x1 x4 x5 x6).bind fun x10 => (if ((x10.2.2.2.2.2.2 : Int) != 0) then some (0, 0, 0, 0, 0, ([] : List Int), 0, 0, 0, 0, ([] : List Int), 0, ([] : List Int), x10.2.2.2.2.2.2) else ((jN F x1 x10.1 x10.2.1 x10.2.2.1 x10.2.2.2.1 x10.2.2.2.2.1 x10.2.2.2.2.2.1).bind fun x15 => some (x15.1, x15.2.1, x15.2.2.1, x15.2.2.2.1, x15.2.2.2.2.1, x15.2.2.2.2.2.1, x15.2.2.2.2.2.2.1, x15.2.2.2.2.2.2.2.1, x15.2.2.2.2.2.2.2.2.1, x15.2.2.2.2.2.2.2.2.2.1, x15.2.2.2.2.2.2.2.2.2.2.1, x15.2.2.2.2.2.2.2.2.2.2.2.1, x15.2.2.2.2.2.2.2.2.2.2.2.2.1, x15.2.2.2.2.2.2.2.2.2.2.2.2.2))))
def ju (_F : Nat) (x36 : Bool) : Option Int :=
  (if x36 then some 1 else some 0)
def qaA (F : Nat) (x1 : Int) (x2 : List Int) : Option Int :=
  (if ((decide (x1 < 0)) || (decide (8192 < x1))) then some 3 else (if (((x2.length : Int) : Int) != (iquo .i64 (iadd .i64 x1 7) 8)) then some 1 else (if (((irem x1 8) : Int) != 0) then ((idx x2 (isub .i64 (x2.length : Int) 1)).bind fun x39 => (chk (decide (0 ≤ (irem x1 8))) (ju F (((ishl .u8 x39 (irem x1 8)) : Int) != 0)))) else ju F false)))
def qcq (F : Nat) (x1 : Int) (x2 : Int) (x3 : Int) (x4 : Int) (x5 : Int) (x6 : List Int) : Option Int :=
  (if ((decide (x1 < 0)) || (decide (100 < x1))) then some 3 else ((qaG F x2 x3 x4).bind fun x15 => (if ((x15 : Int) != 0) then some x15 else ((qaA F x5 x6).bind fun x16 => some x16))))
def qd1 (_F : Nat) : Option (Int × Int × Bool) :=
  some (0, 0, false)
def qa9 (F : Nat) (x1 : Int) (x2 : List Int) (x5 : Int) (rec3 : Int → Option (Int × Int × Bool)) (x33 : Int) : Option (Int × Int × Bool) :=
  (if (decide (x33 < x1)) then ((jE F x1 x2 x33).bind fun x44 => (if ((x44 : Int) == 1) then some (iconv .u64 (isub .i64 x33 x5), iadd .i64 x33 1, true) else rec3 (iadd .i64 x33 1))) else qd1 F)
def vp (F : Nat) (x1 : Int) (x2 : List Int) (x5 : Int) : Nat → Int → Option (Int × Int × Bool)
  | 0 => fun _ => none
  | k + 1 => fun s => qa9 F x1 x2 x5 (vp F x1 x2 x5 k) s
def qbB (F : Nat) (x1 : Int) (x2 : List Int) (x5 : Int) : Option (Int × Int × Bool) :=
  vp F x1 x2 x5 F x5
def qaP (F : Nat) (x1 : Int) (x2 : List Int) (x5 : Int) : Option (Int × Int × Int) :=
  ((qbB F x1 x2 x5).bind fun x7 => (if (!x7.2.2) then some (0, 0, 7) else some (x7.1, x7.2.1, 0)))
def qcG (_F : Nat) (x24 : Int) : Option (Int × Bool) :=
  some (x24, true)
def qbn (F : Nat) (x1 : Int) (x2 : List Int) (x5 : Int) (x6 : Int) (rec3 : (Int × Int) → Option (Int × Bool)) (x29 : Int) (x30 : Int) : Option (Int × Bool) :=
  (if (decide (x30 < x6)) then ((jE F x1 x2 (iadd .i64 x5 x30)).bind fun x38 => rec3 (ior .u64 (ishl .u64 x29 1) x38, iadd .i64 x30 1)) else qcG F x29)
def vS (F : Nat) (x1 : Int) (x2 : List Int) (x5 : Int) (x6 : Int) : Nat → (Int × Int) → Option (Int × Bool)
  | 0 => fun _ => none
  | k + 1 => fun s => qbn F x1 x2 x5 x6 (vS F x1 x2 x5 x6 k) s.1 s.2
def vu (F : Nat) (x1 : Int) (x2 : List Int) (x5 : Int) (x6 : Int) : Option (Int × Bool) :=
  (if (decide ((isub .i64 x1 x5) < x6)) then some (0, false) else vS F x1 x2 x5 x6 F (0, 0))
def zL (F : Nat) (x1 : Int) (x2 : List Int) (x5 : Int) : Option (Int × Int × Int) :=
  ((qaP F x1 x2 x5).bind fun x7 => (if ((x7.2.2 : Int) != 0) then some (0, 0, x7.2.2) else (if (decide (64 ≤ x7.1)) then some (0, 0, 3) else ((vu F x1 x2 x7.2.1 (iconv .i64 x7.1)).bind fun x10 => (if (!x10.2) then some (0, 0, 7) else (chk (decide (0 ≤ x7.1)) ((lett (iadd .u64 x10.1 (isub .u64 (ishl .u64 1 x7.1) 1)) fun x16 => (if (decide (1099511627776 < x16)) then some (0, 0, 3) else some (x16, iadd .i64 x7.2.1 (iconv .i64 x7.1), 0))))))))))
def vz (F : Nat) (x1 : Int) (x2 : List Int) (x5 : Int) : Option (Int × Int × Int) :=
  ((zL F x1 x2 x5).bind fun x7 => some (x7.1, x7.2.1, x7.2.2))
def qb2 (_F : Nat) (x13 : (Int × Int × Int)) (x18 : Bool) : Option (Int × Int × Bool) :=
  (if x18 then some (0, 0, false) else some (iconv .i64 x13.1, x13.2.1, true))
def qcN (F : Nat) (_x1 : Int) (x2 : Int) (_x3 : Int) (_x4 : Int) (x5 : Int) (x6 : List Int) (x9 : Int) (x10 : Int) : Option (Int × Int × Bool) :=
  (if ((x2 : Int) == 0) then some (0, x9, true) else ((vz F x5 x6 x9).bind fun x13 => (if ((x13.2.2 : Int) != 0) then qb2 F x13 true else qb2 F x13 (decide ((iconv .u64 (imin x2 x10)) < x13.1)))))
def kS (_F : Nat) (x1 : Bool) : Option (Unit ⊕ Unit) :=
  (if (!x1) then some (.inr ()) else some (.inl ()))
def zD (F : Nat) (x2 : Int) (x3 : List Int) (x6 : Int) (x7 : Int) : Option ((Int × Int × Int) ⊕ (Int × Int)) :=
  ((vz F x2 x3 x6).bind fun x9 => (lbnd (kS F (((x9.2.2 : Int) == 0) && (decide (x9.1 ≤ (iconv .u64 x7))))) (fun _x11 => some (.inl (iconv .i64 x9.1, x2, x9.2.1))) (fun _x12 => some (.inr (x2, x6)))))
def qbz (_F : Nat) (x4 : Int) (x99 : Int) : Option Int :=
  (if (decide (x4 < x99)) then some 8 else some 0)
def qaa (_F : Nat) (rec23 : (Int × Int) → Option Int) (x4 : Int) (x132 : Int) (x133 : Int) (x180 : Int) (x190 : Bool) : Option Int :=
  (if x190 then some 3 else (lett (imin (iadd .i64 x132 (imin x180 (iadd .i64 x4 1))) (iadd .i64 x4 1)) fun x191 => rec23 (x191, iadd .i64 x133 1)))
def j9 (F : Nat) (x1 : List Int) (x4 : Int) (rec23 : (Int × Int) → Option Int) (x132 : Int) (x133 : Int) : Option Int :=
  (if (decide (x133 < (x1.length : Int))) then ((idx x1 x133).bind fun x180 => (if (decide (x180 < 0)) then qaa F rec23 x4 x132 x133 x180 true else qaa F rec23 x4 x132 x133 x180 ((decide (x180 < 1)) && (decide (0 < x133))))) else qbz F x4 x132)
def kC (F : Nat) (x1 : List Int) (x4 : Int) : Nat → (Int × Int) → Option Int
  | 0 => fun _ => none
  | k + 1 => fun s => j9 F x1 x4 (kC F x1 x4 k) s.1 s.2
def qb3 (F : Nat) (x1 : List Int) (x4 : Int) : Option Int :=
  (if (decide ((iadd .i64 x4 1) < (x1.length : Int))) then some 2 else kC F x1 x4 F (0, 0))
def qab (_F : Nat) (x169 : List Int) : Option (List Int) :=
  some x169
def qbA (F : Nat) (x158 : List Int) (x161 : List Int) (x162 : Bool) : Option (List Int) :=
  (if x162 then ((app 8796093022208 x161 x158).bind fun x170 => qab F x170) else qab F x161)
def jn (_F : Nat) (rec10 : (List Int × List Int × Bool × Int) → Option (List Int)) (x217 : List Int) (x221 : Bool) (x222 : Int) (x296 : Int) (x308 : List Int) : Option (List Int) :=
  ((sub x217 x296 (x217.length : Int)).bind fun x309 => rec10 (x309, x308, (!x221), iadd .i64 x222 1))
def jm (F : Nat) (x4 : List Int) (rec10 : (List Int × List Int × Bool × Int) → Option (List Int)) (x217 : List Int) (x220 : List Int) (x221 : Bool) (x222 : Int) : Option (List Int) :=
  (if (decide (x222 < (x4.length : Int))) then ((idx x4 x222).bind fun x296 => (if x221 then ((sub x217 0 x296).bind fun x312 => ((app 8796093022208 x220 x312).bind fun x315 => jn F rec10 x217 x221 x222 x296 x315)) else jn F rec10 x217 x221 x222 x296 x220)) else qbA F x217 x220 x221)
def kp (F : Nat) (x4 : List Int) : Nat → (List Int × List Int × Bool × Int) → Option (List Int)
  | 0 => fun _ => none
  | k + 1 => fun s => jm F x4 (kp F x4 k) s.1 s.2.1 s.2.2.1 s.2.2.2
def qcR (F : Nat) (x1 : List Int) (x4 : List Int) : Option (List Int) :=
  kp F x4 F (x1, ([] : List Int), true, 0)
def jw (F : Nat) (x1 : List Int) (x4 : List Int) (x10 : Int) : Option (List Int × Int) :=
  (if ((x10 : Int) != 0) then some (([] : List Int), x10) else ((qcR F x1 x4).bind fun x12 => some (x12, 0)))
def qcr (F : Nat) (x1 : List Int) (x4 : List Int) : Option (List Int × Int) :=
  ((vA F x1).bind fun x7 => (if ((x7 : Int) == 0) then ((qb3 F x4 (x1.length : Int)).bind fun x16 => jw F x1 x4 x16) else jw F x1 x4 x7))
def v8 (_F : Nat) (x72 : List Int) (x73 : Int) (x74 : Int) : Option ((List Int × Int × Int) ⊕ (Int × Int)) :=
  some (.inl (x72, x73, x74))
def yv (F : Nat) (x3 : List Int) (x7 : Int) (x10 : List Int) (rec3 : (List Int × Int × Int × Int) → Option ((List Int × Int × Int) ⊕ (Int × Int))) (x93 : List Int) (x94 : Int) (x95 : Int) (x96 : Int) : Option ((List Int × Int × Int) ⊕ (Int × Int)) :=
  (if (decide (x94 < (x10.length : Int))) then (lbnd (zD F x95 x3 x96 x7) (fun x125 => ((idx x93 x94).bind fun _x127 => (lett (x93.set x94.toNat (iadd .i64 x125.1 (imin x94 1))) fun x130 => rec3 (x130, iadd .i64 x94 1, x125.2.1, x125.2.2)))) (fun x126 => some (.inr (x126.1, x126.2)))) else v8 F x93 x95 x96)
def zO (F : Nat) (x3 : List Int) (x7 : Int) (x10 : List Int) : Nat → (List Int × Int × Int × Int) → Option ((List Int × Int × Int) ⊕ (Int × Int))
  | 0 => fun _ => none
  | k + 1 => fun s => yv F x3 x7 x10 (zO F x3 x7 x10 k) s.1 s.2.1 s.2.2.1 s.2.2.2
def vE (F : Nat) (x2 : Int) (x3 : List Int) (x6 : Int) (x7 : Int) : Option ((List Int × Int × Int) ⊕ (Int × Int)) :=
  (lbnd (zD F x2 x3 x6 (iadd .i64 x7 1)) (fun x8 => ((mk 17592186044416 (0 : Int) x8.1).bind fun x10 => zO F x3 x7 x10 F (x10, 0, x8.2.1, x8.2.2))) (fun x9 => some (.inr (x9.1, x9.2))))
def jC (_F : Nat) (x1 : Int) : Option Int :=
  (lett (ixor .i64 (iconv .i64 (ishr .u64 x1 1)) (isub .i64 0 (iconv .i64 (iand .u64 x1 1)))) fun x2 => some x2)
def jQ (_F : Nat) (x136 : List (Int × Int)) (x137 : Int) (x138 : Int) : Option ((List (Int × Int) × Int × Int) ⊕ (Int × Int)) :=
  some (.inl (x136, x137, x138))
def kJ (F : Nat) (rec13 : (List (Int × Int) × Int × Int × Int × Int) → Option ((List (Int × Int) × Int × Int) ⊕ (Int × Int))) (x3 : List Int) (x8 : Int) (x9 : Int) (x177 : List (Int × Int)) (x179 : Int) (x240 : (Int × Int × Int)) (x244 : Int) : Option ((List (Int × Int) × Int × Int) ⊕ (Int × Int)) :=
  (lbnd (zD F x240.2.1 x3 x240.2.2 x9) (fun x245 => ((idx x177 x179).bind fun _x247 => (lett (x177.set x179.toNat (x244, iadd .i64 x245.1 x8)) fun x250 => ((idx x250 x179).bind fun x253 => rec13 (x250, iadd .i64 x244 (isub .i64 x253.2 1), iadd .i64 x179 1, x245.2.1, x245.2.2))))) (fun x246 => some (.inr (x246.1, x246.2))))
def yJ (F : Nat) (x3 : List Int) (x8 : Int) (x9 : Int) (x13 : List (Int × Int)) (rec13 : (List (Int × Int) × Int × Int × Int × Int) → Option ((List (Int × Int) × Int × Int) ⊕ (Int × Int))) (x177 : List (Int × Int)) (x178 : Int) (x179 : Int) (x180 : Int) (x181 : Int) : Option ((List (Int × Int) × Int × Int) ⊕ (Int × Int)) :=
  (if (decide (x179 < (x13.length : Int))) then (lbnd (zD F x180 x3 x181 2097152) (fun x240 => (if ((x179 : Int) == 0) then ((jC F (iconv .u64 x240.1)).bind fun x256 => kJ F rec13 x3 x8 x9 x177 x179 x240 (iadd .i64 x178 x256)) else kJ F rec13 x3 x8 x9 x177 x179 x240 (iadd .i64 x178 (iadd .i64 x240.1 2)))) (fun x241 => some (.inr (x241.1, x241.2)))) else jQ F x177 x180 x181)
def zm (F : Nat) (x3 : List Int) (x8 : Int) (x9 : Int) (x13 : List (Int × Int)) : Nat → (List (Int × Int) × Int × Int × Int × Int) → Option ((List (Int × Int) × Int × Int) ⊕ (Int × Int))
  | 0 => fun _ => none
  | k + 1 => fun s => yJ F x3 x8 x9 x13 (zm F x3 x8 x9 x13 k) s.1 s.2.1 s.2.2.1 s.2.2.2.1 s.2.2.2.2
def jq (F : Nat) (x2 : Int) (x3 : List Int) (x6 : Int) (x7 : Int) (x8 : Int) (x9 : Int) : Option ((List (Int × Int) × Int × Int) ⊕ (Int × Int)) :=
  (chk ((x8 : Int) != 0) ((lbnd (zD F x2 x3 x6 (iquo .i64 x9 x8)) (fun x11 => ((mk 8796093022208 (((0 : Int), (0 : Int)) : (Int × Int)) x11.1).bind fun x13 => zm F x3 x8 x9 x13 F (x13, x7, 0, x11.2.1, x11.2.2))) (fun x12 => some (.inr (x12.1, x12.2))))))
def vN (_F : Nat) (x15 : List Int) : Option (List Int) :=
  some x15
def vb (F : Nat) (x1 : List Int) (c3 : Nat) (x4 : Int) : Option (List Int) :=
  (if (decide (x4 < 0)) then none else (lett (isub .i64 x4 (isub .i64 (c3 : Int) (x1.length : Int))) fun x16 => (if (decide (0 < x16)) then ((sub x1 0 (c3 : Int)).bind fun x17 => ((appz 8796093022208 x17 (0 : Int) x16).bind fun x18 => ((sub x18 0 (x1.length : Int)).bind fun x21 => vN F x21))) else vN F x1)))
def yT (_F : Nat) (x102 : List Int) : Option (List Int) :=
  some x102
def qF (F : Nat) (x1 : List (List Int)) (rec5 : (List Int × Int) → Option (List Int)) (x121 : List Int) (x122 : Int) : Option (List Int) :=
  (if (decide (x122 < (x1.length : Int))) then ((idx x1 x122).bind fun x148 => ((app 8796093022208 x121 x148).bind fun x152 => rec5 (x152, iadd .i64 x122 1))) else yT F x121)
def qM (F : Nat) (x1 : List (List Int)) : Nat → (List Int × Int) → Option (List Int)
  | 0 => fun _ => none
  | k + 1 => fun s => qF F x1 (qM F x1 k) s.1 s.2
def zS (F : Nat) (x1 : List (List Int)) (x43 : Int) : Option (List Int) :=
  ((vb F ([] : List Int) 0 x43).bind fun x44 => qM F x1 F (x44, 0))
def qG (F : Nat) (x1 : List (List Int)) (rec6 : (Int × Int) → Option (List Int)) (x168 : Int) (x169 : Int) : Option (List Int) :=
  (if (decide (x169 < (x1.length : Int))) then ((idx x1 x169).bind fun x189 => (if (decide ((iadd .i64 x168 (x189.length : Int)) < 0)) then none else rec6 (iadd .i64 x168 (x189.length : Int), iadd .i64 x169 1))) else zS F x1 x168)
def qN (F : Nat) (x1 : List (List Int)) : Nat → (Int × Int) → Option (List Int)
  | 0 => fun _ => none
  | k + 1 => fun s => qG F x1 (qN F x1 k) s.1 s.2
def zF (F : Nat) (x1 : List (List Int)) : Option (List Int) :=
  qN F x1 F (0, 0)
def zw (_F : Nat) (x1 : List Int) : Option (List Int) :=
  if x1.length < 4611686018427387904 then some (srt x1) else none
def qaU (_F : Nat) (x1 : Int) (x2 : Int) (x3 : Int) : Option Bool :=
  some ((decide (x2 ≤ x1)) && (decide (x1 ≤ x3)))
def qc8 (_F : Nat) (x462 : List Int) : Option (List Int × Int) :=
  some (x462, 0)
def qak (_F : Nat) (rec32 : (List Int × Int) → Option (List Int × Int)) (x561 : Int) (x706 : List Int) : Option (List Int × Int) :=
  rec32 (x706, iadd .i64 x561 1)
def qah (F : Nat) (rec32 : (List Int × Int) → Option (List Int × Int)) (x561 : Int) (x707 : (Int × Int)) (rec35 : (List Int × Int) → Option (List Int × Int)) (x725 : List Int) (x726 : Int) : Option (List Int × Int) :=
  (if (decide (x726 < x707.2)) then ((app 8796093022208 x725 ([iadd .i64 x707.1 x726] : List Int)).bind fun x748 => rec35 (x748, iadd .i64 x726 1)) else qak F rec32 x561 x725)
def yu (F : Nat) (rec32 : (List Int × Int) → Option (List Int × Int)) (x561 : Int) (x707 : (Int × Int)) : Nat → (List Int × Int) → Option (List Int × Int)
  | 0 => fun _ => none
  | k + 1 => fun s => qah F rec32 x561 x707 (yu F rec32 x561 x707 k) s.1 s.2
def qag (F : Nat) (x1 : List (Int × Int)) (rec32 : (List Int × Int) → Option (List Int × Int)) (x560 : List Int) (x561 : Int) : Option (List Int × Int) :=
  (if (decide (x561 < (x1.length : Int))) then ((idx x1 x561).bind fun x707 => yu F rec32 x561 x707 F (x560, 0)) else qc8 F x560)
def zl (F : Nat) (x1 : List (Int × Int)) : Nat → (List Int × Int) → Option (List Int × Int)
  | 0 => fun _ => none
  | k + 1 => fun s => qag F x1 (zl F x1 k) s.1 s.2
def qaj (F : Nat) (x1 : List (Int × Int)) : Option (List Int × Int) :=
  zl F x1 F (([] : List Int), 0)
def vC (_F : Nat) (rec44 : (Int × Int) → Option (List Int × Int)) (x807 : Int) (x808 : Int) (x891 : (Int × Int)) (x910 : Bool) : Option (List Int × Int) :=
  (if x910 then some (([] : List Int), 3) else (if (decide (x891.1 < (iadd .i64 x807 2))) then some (([] : List Int), 4) else rec44 (isub .i64 (iadd .i64 x891.1 x891.2) 1, iadd .i64 x808 1)))
def qai (F : Nat) (x1 : List (Int × Int)) (rec44 : (Int × Int) → Option (List Int × Int)) (x807 : Int) (x808 : Int) : Option (List Int × Int) :=
  (if (decide (x808 < (x1.length : Int))) then ((idx x1 x808).bind fun x891 => ((qaU F x891.1 0 1048576).bind fun x913 => (if (!x913) then vC F rec44 x807 x808 x891 (!x913) else ((qaU F x891.2 1 300).bind fun x914 => (if (!x914) then vC F rec44 x807 x808 x891 (!x914) else vC F rec44 x807 x808 x891 (decide (1048576 < (isub .i64 (iadd .i64 x891.1 x891.2) 1)))))))) else qaj F x1)
def kE (F : Nat) (x1 : List (Int × Int)) : Nat → (Int × Int) → Option (List Int × Int)
  | 0 => fun _ => none
  | k + 1 => fun s => qai F x1 (kE F x1 k) s.1 s.2
def qb6 (F : Nat) (x1 : List (Int × Int)) : Option (List Int × Int) :=
  (if (decide (300 < (x1.length : Int))) then some (([] : List Int), 2) else kE F x1 F (-2, 0))
def kd (_F : Nat) (x1 : List Int) : Option (List Int) :=
  if (Go.Lib.compact x1).length ≤ x1.length then some (Go.Lib.compact x1) else none
def yI (_F : Nat) (x1 : List Int) : Option (List Int) :=
  ((app 8796093022208 ([] : List Int) x1).bind fun x8 => some x8)
def jx (F : Nat) (x4 : List Int) (x7 : (List Int × Int)) (x12 : Int) : Option (List Int × Int) :=
  (if ((x12 : Int) != 0) then some (([] : List Int), x12) else ((zF F ([x7.1, x4] : List (List Int))).bind fun x16 => ((zw F x16).bind fun x19 => (chk (decide (x19.length = x16.length)) (((yI F x19).bind fun x29 => ((kd F x29).bind fun x32 => (if (decide ((x32.length : Int) < (x19.length : Int))) then some (([] : List Int), 6) else (if (decide (300 < (x19.length : Int))) then some (([] : List Int), 2) else some (x19, 0))))))))))
def qcs (F : Nat) (x1 : List (Int × Int)) (x4 : List Int) : Option (List Int × Int) :=
  ((qb6 F x1).bind fun x7 => (if ((x7.2 : Int) == 0) then ((vA F x4).bind fun x38 => jx F x4 x7 x38) else jx F x4 x7 x7.2))
def zv (F : Nat) (x1 : Int) (x2 : List Int) (x5 : Int) (x8 : (Int × Int)) : Option (Int × Int × Bool) :=
  ((vu F x1 x2 x5 x8.1).bind fun x14 => some (isub .u64 x14.1 x8.2, iadd .i64 x5 x8.1, x14.2))
def zo (F : Nat) (x1 : Int) (x2 : List Int) (x5 : Int) (x6 : Int) : Option (Int × Int × Bool) :=
  ((qas F x6).bind fun x8 => (if (decide (0 < x8.2)) then ((vu F x1 x2 x5 (isub .i64 x8.1 1)).bind fun x15 => (if (!x15.2) then some (0, 0, false) else (if (decide (x15.1 < x8.2)) then some (x15.1, isub .i64 (iadd .i64 x5 x8.1) 1, true) else zv F x1 x2 x5 x8))) else zv F x1 x2 x5 x8))
def qbt (_F : Nat) (x1 : Int) (x2 : Int) (x3 : Bool) : Option (Int × Int × Int) :=
  (if (!x3) then some (0, 0, 7) else (if (decide (1099511627776 < x1)) then some (0, 0, 3) else some (x1, x2, 0)))
def j3 (F : Nat) (x1 : Int) (x2 : List Int) (x5 : Int) (x6 : Int) : Option (Int × Int × Int) :=
  ((qbB F x1 x2 x5).bind fun x8 => (if (!x8.2.2) then some (0, 0, 7) else (if (decide (41 ≤ (imul .u64 x8.1 (iconv .u64 x6)))) then some (0, 0, 3) else (chk (decide (0 ≤ (imul .i64 (iconv .i64 x8.1) x6))) ((lett (ishl .u64 1 (imul .i64 (iconv .i64 x8.1) x6)) fun x12 => (chk (decide (0 ≤ x6)) (((zo F x1 x2 x8.2.1 (isub .u64 (ishl .u64 x12 x6) x12)).bind fun x20 => ((qbt F (isub .u64 (iadd .u64 x12 x20.1) 1) x20.2.1 x20.2.2).bind fun x21 => some (x21.1, x21.2.1, x21.2.2)))))))))))
def kU (F : Nat) (x8 : Int) : Option (Bool × Int × Bool) :=
  ((qb9 F x8).bind fun x9 => some (x9, x8, true))
def ko (F : Nat) (x2 : Int) (x3 : Bool) (x4 : Int) : Option (Bool × Int × Bool) :=
  (if (decide (2097152 < x4)) then some (false, x2, x3) else (if x3 then kU F (iadd .i64 x2 (iadd .i64 (iconv .i64 x4) 1)) else ((jC F x4).bind fun x10 => kU F (iadd .i64 x2 x10))))
def qcK (_F : Nat) (x105 : Int) (x108 : List Int) : Option (List Int × Int × Int) :=
  some (x108, x105, 0)
def qbs (F : Nat) (x1 : Int) (x2 : List Int) (x7 : Int) (x8 : Int) (rec3 : (Int × List Int × Int × Int × Bool) → Option (List Int × Int × Int)) (x138 : Int) (x141 : List Int) (x142 : Int) (x143 : Int) (x144 : Bool) : Option (List Int × Int × Int) :=
  (if (decide (x142 < x8)) then ((j3 F x1 x2 x138 x7).bind fun x190 => (if ((x190.2.2 : Int) != 0) then some (([] : List Int), 0, x190.2.2) else ((ko F x143 x144 x190.1).bind fun x193 => (if (!x193.1) then some (([] : List Int), 0, 3) else ((app 8796093022208 x141 ([x193.2.1] : List Int)).bind fun x196 => rec3 (x190.2.1, x196, iadd .i64 x142 1, x193.2.1, x193.2.2)))))) else qcK F x138 x141)
def vX (F : Nat) (x1 : Int) (x2 : List Int) (x7 : Int) (x8 : Int) : Nat → (Int × List Int × Int × Int × Bool) → Option (List Int × Int × Int)
  | 0 => fun _ => none
  | k + 1 => fun s => qbs F x1 x2 x7 x8 (vX F x1 x2 x7 x8 k) s.1 s.2.1 s.2.2.1 s.2.2.2.1 s.2.2.2.2
def qc2 (F : Nat) (x1 : Int) (x2 : List Int) (x5 : Int) (x6 : Int) (x7 : Int) (x8 : Int) : Option (List Int × Int × Int) :=
  vX F x1 x2 x7 x8 F (x5, ([] : List Int), 0, x6, false)
def kW (F : Nat) (x3 : List Int) (x7 : Int) (x13 : Int) (x15 : (Int × Int × Int)) (x31 : List Int) (x42 : List (Int × Int)) (x43 : Int) (x44 : Int) : Option ((List Int × Int × Int) ⊕ (Int × Int)) :=
  ((qcs F x42 ([] : List Int)).bind fun x45 => (lbnd (kS F (((x45.2 : Int) == 0) && (decide ((x45.1.length : Int) ≤ (isub .i64 x15.1 (x31.length : Int)))))) (fun _x49 => ((qc2 F x43 x3 x44 x7 x13 (isub .i64 (isub .i64 x15.1 (x31.length : Int)) (x45.1.length : Int))).bind fun x54 => (lbnd (kS F ((x54.2.2 : Int) == 0)) (fun _x57 => ((zF F ([x31, x45.1, x54.1] : List (List Int))).bind fun x61 => ((zw F x61).bind fun x64 => (chk (decide (x64.length = x61.length)) (some (.inl (x64, x43, x54.2.1))))))) (fun _x58 => some (.inr (x43, x44)))))) (fun _x50 => some (.inr (x43, x44)))))
def kV (F : Nat) (x3 : List Int) (x7 : Int) (x12 : Int) (x13 : Int) (x15 : (Int × Int × Int)) (x31 : List Int) (x32 : Int) (x33 : Int) : Option ((List Int × Int × Int) ⊕ (Int × Int)) :=
  (if (((isub .i64 x15.1 (x31.length : Int)) : Int) == 0) then some (.inl (x31, x32, x33)) else (if (decide (0 < x12)) then (lbnd (jq F x32 x3 x33 x7 x12 (isub .i64 x15.1 (x31.length : Int))) (fun x66 => kW F x3 x7 x13 x15 x31 x66.1 x66.2.1 x66.2.2) (fun x67 => some (.inr (x67.1, x67.2)))) else kW F x3 x7 x13 x15 x31 ([] : List (Int × Int)) x32 x33))
def yU (F : Nat) (x2 : Int) (x3 : List Int) (x6 : Int) (x7 : Int) (x8 : List Int) (x11 : Int) (x12 : Int) (x13 : Int) : Option ((List Int × Int × Int) ⊕ (Int × Int)) :=
  (lbnd (zD F x2 x3 x6 300) (fun x15 => (if ((x15.1 : Int) == 0) then some (.inl (([] : List Int), x15.2.1, x15.2.2)) else (if (decide (0 < x11)) then (lbnd (vE F x15.2.1 x3 x15.2.2 (x8.length : Int)) (fun x72 => ((qcr F x8 x72.1).bind fun x76 => (lbnd (kS F (((x76.2 : Int) == 0) && (decide ((x76.1.length : Int) ≤ x15.1)))) (fun _x80 => kV F x3 x7 x12 x13 x15 x76.1 x72.2.1 x72.2.2) (fun _x81 => some (.inr (x72.2.1, x72.2.2)))))) (fun x73 => some (.inr (x73.1, x73.2)))) else kV F x3 x7 x12 x13 x15 ([] : List Int) x15.2.1 x15.2.2))) (fun x16 => some (.inr (x16.1, x16.2))))
def qbK (_F : Nat) (x17 : (List Int × Int × Int)) : Option (List Int × Bool × Int × Int) :=
  some (x17.1, true, x17.2.1, x17.2.2)
def vd (F : Nat) (x3 : List Int) (x6 : Int) (x17 : (List Int × Int × Int)) (x25 : (Int × List Int × Bool)) (rec4 : Int → Option (List Int × Bool × Int × Int)) (x75 : Int) : Option (List Int × Bool × Int × Int) :=
  (if (decide (x75 < x25.1)) then ((jE F x25.1 x25.2.1 x75).bind fun x92 => ((jE F x17.2.1 x3 (iadd .i64 x6 x75)).bind fun x93 => (lbnd (kS F ((x92 : Int) == x93)) (fun _x94 => rec4 (iadd .i64 x75 1)) (fun _x95 => some (([] : List Int), false, x17.2.1, x17.2.2))))) else qbK F x17)
def zx (F : Nat) (x3 : List Int) (x6 : Int) (x17 : (List Int × Int × Int)) (x25 : (Int × List Int × Bool)) : Nat → Int → Option (List Int × Bool × Int × Int)
  | 0 => fun _ => none
  | k + 1 => fun s => vd F x3 x6 x17 x25 (zx F x3 x6 x17 x25 k) s
def ve (F : Nat) (x3 : List Int) (x6 : Int) (x17 : (List Int × Int × Int)) (x25 : (Int × List Int × Bool)) : Option (List Int × Bool × Int × Int) :=
  zx F x3 x6 x17 x25 F 0
def yV (F : Nat) (x2 : Int) (x3 : List Int) (x6 : Int) (x7 : Int) (x8 : List Int) (x11 : Int) (x12 : Int) (x13 : Int) : Option (List Int × Bool × Int × Int) :=
  (lbnd (yU F x2 x3 x6 x7 x8 x11 x12 x13) (fun x17 => ((vA F x17.1).bind fun x21 => (lbnd (kS F ((x21 : Int) == 0)) (fun _x22 => ((yW F 0 ([] : List Int) false x7 x17.1 x8 x11 x12 x13).bind fun x25 => (if (!x25.2.2) then (lbnd (kS F ((x25.1 : Int) == (isub .i64 x17.2.2 x6))) (fun _x98 => ve F x3 x6 x17 x25) (fun _x99 => some (([] : List Int), false, x17.2.1, x17.2.2))) else (lbnd (kS F false) (fun _x100 => ve F x3 x6 x17 x25) (fun _x101 => some (([] : List Int), false, x17.2.1, x17.2.2)))))) (fun _x23 => some (([] : List Int), false, x17.2.1, x17.2.2))))) (fun x18 => some (([] : List Int), false, x18.1, x18.2)))
def jf (F : Nat) (x1 : Int) (x2 : List Int) (x5 : Int) (x6 : Int) (x7 : List Int) (x10 : Int) (x11 : Int) (x12 : Int) : Option (List Int × Int × Int) :=
  ((yV F x1 x2 x5 x6 x7 x10 x11 x12).bind fun x16 => (if (!x16.2.1) then some (([] : List Int), 0, 1) else some (x16.1, x16.2.2.2, 0)))
def qcf (_F : Nat) (x5 : Int) (x261 : List (List Int)) (x262 : Int) : Option (List (List Int) × Bool) :=
  some (x261, ((x262 : Int) == x5))
def jv (_F : Nat) (rec8 : (List (List Int) × Int × Int) → Option (List (List Int) × Bool)) (x350 : Int) (x472 : List (List Int)) (x473 : Int) : Option (List (List Int) × Bool) :=
  rec8 (x472, x473, iadd .i64 x350 1)
def qa2 (F : Nat) (x1 : Int) (x2 : Int) (x3 : Int) (x4 : Int) (x5 : Int) (x6 : List Int) (rec8 : (List (List Int) × Int × Int) → Option (List (List Int) × Bool)) (x348 : List (List Int)) (x349 : Int) (x350 : Int) : Option (List (List Int) × Bool) :=
  (if (decide (x350 < x1)) then ((qcN F x1 x2 x3 x4 x5 x6 x349 x350).bind fun x474 => (if (!x474.2.2) then some (([] : List (List Int)), false) else (if (decide (0 < x474.1)) then ((idx x348 (isub .i64 x350 x474.1)).bind fun x482 => ((jf F x5 x6 x474.2.1 x350 x482 x474.1 x3 x4).bind fun x488 => (if ((x488.2.2 : Int) != 0) then some (([] : List (List Int)), false) else ((app 2199023255552 x348 ([x488.1] : List (List Int))).bind fun x494 => jv F rec8 x350 x494 x488.2.1)))) else ((jf F x5 x6 x474.2.1 x350 ([] : List Int) x474.1 x3 x4).bind fun x499 => (if ((x499.2.2 : Int) != 0) then some (([] : List (List Int)), false) else ((app 2199023255552 x348 ([x499.1] : List (List Int))).bind fun x505 => jv F rec8 x350 x505 x499.2.1)))))) else qcf F x5 x348 x349)
def kR (F : Nat) (x1 : Int) (x2 : Int) (x3 : Int) (x4 : Int) (x5 : Int) (x6 : List Int) : Nat → (List (List Int) × Int × Int) → Option (List (List Int) × Bool)
  | 0 => fun _ => none
  | k + 1 => fun s => qa2 F x1 x2 x3 x4 x5 x6 (kR F x1 x2 x3 x4 x5 x6 k) s.1 s.2.1 s.2.2
def qdC (F : Nat) (x1 : Int) (x2 : Int) (x3 : Int) (x4 : Int) (x5 : Int) (x6 : List Int) : Option (List (List Int) × Bool) :=
  kR F x1 x2 x3 x4 x5 x6 F (([] : List (List Int)), 0, 0)
def qal (_F : Nat) : Option Bool :=
  some true
def zu (F : Nat) (x1 : List Int) (x4 : List Int) (rec3 : Int → Option Bool) (x154 : Int) : Option Bool :=
  (if (decide (x154 < (x1.length : Int))) then ((idx x1 x154).bind fun x218 => ((idx x4 x154).bind fun x222 => (if ((x218 : Int) != x222) then some false else rec3 (iadd .i64 x154 1)))) else qal F)
def qS (F : Nat) (x1 : List Int) (x4 : List Int) : Nat → Int → Option Bool
  | 0 => fun _ => none
  | k + 1 => fun s => zu F x1 x4 (qS F x1 x4 k) s
def qV (F : Nat) (x1 : List Int) (x4 : List Int) : Option Bool :=
  (if (((x1.length : Int) : Int) != (x4.length : Int)) then some false else qS F x1 x4 F 0)
def qbx (_F : Nat) (x14 : (List (List Int) × Bool)) (x34 : Bool) : Option (List (List Int) × Int) :=
  (if x34 then some (([] : List (List Int)), 1) else some (x14.1, 0))
def qc4 (F : Nat) (x1 : Int) (x2 : Int) (x3 : Int) (x4 : Int) (x5 : Int) (x6 : List Int) : Option (List (List Int) × Int) :=
  ((qcq F x1 x2 x3 x4 x5 x6).bind fun x13 => (if ((x13 : Int) != 0) then some (([] : List (List Int)), x13) else ((qdC F x1 x2 x3 x4 x5 x6).bind fun x14 => (if (!x14.2) then some (([] : List (List Int)), 1) else ((qby F x14.1 x2 x3 x4).bind fun x28 => (if ((x28.2.2.2.2.2.2 : Int) != 0) then qbx F x14 true else ((qV F x28.2.2.2.2.2.1 x6).bind fun x36 => qbx F x14 (!x36))))))))
def qa8 (_F : Nat) (x34 : Bool) : Option Bool :=
  some x34
def qa7 (F : Nat) (x9 : List Int) (x20 : List Int) (x31 : Bool) : Option Bool :=
  (if x31 then ((qV F x9 x20).bind fun x35 => qa8 F x35) else qa8 F false)
def qct (F : Nat) (x1 : Int) (x2 : Int) (x3 : Int) (x4 : Int) (x5 : List Int) (x8 : Int) (x9 : List Int) (x12 : Int) (x13 : Int) (x14 : Int) (x15 : Int) (x16 : List Int) (x19 : Int) (x20 : List Int) : Option Bool :=
  (if ((((((x1 : Int) == x12) && ((x2 : Int) == x13)) && ((x3 : Int) == x14)) && ((x4 : Int) == x15)) && ((x8 : Int) == x19)) then ((qV F x5 x16).bind fun x36 => qa7 F x9 x20 x36) else qa7 F x9 x20 false)
def qcg (F : Nat) (x1 : List (List Int)) (x4 : Int) (x5 : Int) (x6 : Int) (x7 : Int) (x8 : Int) (x9 : List Int) : Option (Int × Int × Int × Int × Int × List Int × Int × Int × Int × Int × List Int × Int × List Int × Int) :=
  ((qca F x1 x5 x6 x7).bind fun x15 => (if ((x15.2.2 : Int) != 0) then some (0, 0, 0, 0, 0, ([] : List Int), 0, 0, 0, 0, ([] : List Int), 0, ([] : List Int), x15.2.2) else ((qbo F x15.2.1 x8).bind fun x21 => (if ((x21.2.2.2.2.2.2.2 : Int) != 0) then some (0, 0, 0, 0, 0, ([] : List Int), 0, 0, 0, 0, ([] : List Int), 0, ([] : List Int), x21.2.2.2.2.2.2.2) else some (x4, x5, x6, x7, x8, x9, x21.1, x21.2.1, x21.2.2.1, x21.2.2.2.1, x21.2.2.2.2.1, x21.2.2.2.2.2.1, x21.2.2.2.2.2.2.1, 0)))))
def vZ (_F : Nat) (x49 : Bool) : Option Int :=
  (if x49 then some 4 else some 0)
def jM (F : Nat) (x1 : Int) (x2 : Int) (x3 : Int) (x4 : Int) (x5 : Int) (x6 : List Int) (x9 : Int) (x10 : Int) (x11 : Int) (x12 : Int) (x13 : List Int) (x16 : Int) (x17 : List Int) : Option Int :=
  ((qc4 F x1 x2 x3 x4 x5 x6).bind fun x21 => (if ((x21.2 : Int) != 0) then some x21.2 else ((qcg F x21.1 x1 x2 x3 x4 x5 x6).bind fun x39 => (if ((x39.2.2.2.2.2.2.2.2.2.2.2.2.2 : Int) != 0) then vZ F true else ((qct F x39.2.2.2.2.2.2.1 x39.2.2.2.2.2.2.2.1 x39.2.2.2.2.2.2.2.2.1 x39.2.2.2.2.2.2.2.2.2.1 x39.2.2.2.2.2.2.2.2.2.2.1 x39.2.2.2.2.2.2.2.2.2.2.2.1 x39.2.2.2.2.2.2.2.2.2.2.2.2.1 x9 x10 x11 x12 x13 x16 x17).bind fun x51 => vZ F (!x51))))))
def qb4 (_F : Nat) (_x1 : Int) (_x2 : List Int) (_x5 : Int) : Option Unit :=
  some ()
def kq {σ τ : Type} (_F : Nat) (_yy : σ → Int → Option (σ ⊕ τ)) (rec3 : (Int × σ) → Option (σ ⊕ τ)) (x36 : Int) (x81 : σ) : Option (σ ⊕ τ) :=
  rec3 (iadd .i64 x36 1, x81)
def k9 {σ τ : Type} (F : Nat) (yy : σ → Int → Option (σ ⊕ τ)) (x2 : Int) (x3 : List Int) (x7 : Int) (rec3 : (Int × σ) → Option (σ ⊕ τ)) (x36 : Int) (x37 : σ) : Option (σ ⊕ τ) :=
  (if (decide (x36 < x2)) then ((jE F x2 x3 x36).bind fun x89 => (if ((x89 : Int) == x7) then ((yy x37 x36).bind (Sum.elim (fun x91 => kq F yy rec3 x36 x91) (fun x92 => some (.inr x92)))) else kq F yy rec3 x36 x37)) else some (.inl x37))
def qT {σ τ : Type} (F : Nat) (yy : σ → Int → Option (σ ⊕ τ)) (x2 : Int) (x3 : List Int) (x7 : Int) : Nat → (Int × σ) → Option (σ ⊕ τ)
  | 0 => fun _ => none
  | k + 1 => fun s => k9 F yy x2 x3 x7 (qT F yy x2 x3 x7 k) s.1 s.2
def qa6 {σ τ : Type} (F : Nat) (yy : σ → Int → Option (σ ⊕ τ)) (x2 : Int) (x3 : List Int) (x7 : Int) (s0 : σ) : Option (σ ⊕ τ) :=
  qT F yy x2 x3 x7 F (0, s0)
def qU (_F : Nat) (x31 : Int) (x37 : Int) : Option (Int ⊕ (Int × Int)) :=
  (if ((x31 : Int) == 0) then some (.inr (x37, x31)) else some (.inl (isub .i64 x31 1)))
def jp (F : Nat) (x1 : Int) (x2 : List Int) (x5 : Int) (x6 : Int) : Option Int :=
  ((qb4 F x1 x2 x5).bind fun _x25 => ((qa6 F (fun (x31 : Int) (x37 : Int) => qU F x31 x37) x1 x2 x5 x6).bind (Sum.elim (fun (_x31 : Int) => some (-1)) (fun ((x35, _x36) : (Int × Int)) => some x35))))
def qaB (F : Nat) (_x1 : Int) (_x2 : Int) (x3 : Int) (x4 : Int) (x5 : List Int) (x8 : Int) (x9 : List Int) (x12 : Int) : Option Int :=
  ((jp F x8 x9 1 x12).bind fun x14 => ((vu F x4 x5 (imul .i64 x12 x3) x3).bind fun x15 => (chk (decide (0 ≤ x3)) ((lett (ior .i64 (ishl .i64 (isub .i64 x14 x12) x3) (iconv .i64 x15.1)) fun x17 => some x17)))))
def qaq (_F : Nat) (x13 : Bool) : Option Bool :=
  some x13
def qb8 (F : Nat) (x1 : Int) (x2 : List Int) (x5 : Int) (x6 : List Int) : Option Bool :=
  (if ((x1 : Int) == x5) then ((qV F x2 x6).bind fun x14 => qaq F x14) else qaq F false)
def qbq (_F : Nat) (x99 : List Int) (x129 : Bool) : Option (List Int × Int) :=
  (if x129 then some (([] : List Int), 1) else some (x99, 0))
def j1 (F : Nat) (x8 : Int) (x9 : List Int) (x99 : List Int) (x118 : (Int × Int × Int × Int × List Int × Int × List Int × Bool)) (x126 : Bool) : Option (List Int × Int) :=
  (if x126 then qbq F x99 true else ((qb8 F x118.2.2.2.2.2.1 x118.2.2.2.2.2.2.1 x8 x9).bind fun x131 => qbq F x99 (!x131)))
def yn (F : Nat) (x2 : Int) (x4 : Int) (x5 : List Int) (x8 : Int) (x9 : List Int) (x99 : List Int) : Option (List Int × Int) :=
  ((qbp F x99 x2).bind fun x102 => (if ((x102 : Int) != 0) then some (([] : List Int), 1) else ((qcJ F x99 x2).bind fun x118 => (if (!x118.2.2.2.2.2.2.2) then j1 F x8 x9 x99 x118 true else ((qb8 F x118.2.2.2.1 x118.2.2.2.2.1 x4 x5).bind fun x132 => j1 F x8 x9 x99 x118 (!x132))))))
def jZ (F : Nat) (x1 : Int) (x2 : Int) (x3 : Int) (x4 : Int) (x5 : List Int) (x8 : Int) (x9 : List Int) (rec9 : (List Int × Int) → Option (List Int × Int)) (x150 : List Int) (x151 : Int) : Option (List Int × Int) :=
  (if (decide (x151 < x1)) then ((qaB F x1 x2 x3 x4 x5 x8 x9 x151).bind fun x174 => ((app 8796093022208 x150 ([x174] : List Int)).bind fun x177 => rec9 (x177, iadd .i64 x151 1))) else yn F x2 x4 x5 x8 x9 x150)
def yo (F : Nat) (x1 : Int) (x2 : Int) (x3 : Int) (x4 : Int) (x5 : List Int) (x8 : Int) (x9 : List Int) : Nat → (List Int × Int) → Option (List Int × Int)
  | 0 => fun _ => none
  | k + 1 => fun s => jZ F x1 x2 x3 x4 x5 x8 x9 (yo F x1 x2 x3 x4 x5 x8 x9 k) s.1 s.2
def zG (F : Nat) (x1 : Int) (x2 : Int) (x3 : Int) (x4 : Int) (x5 : List Int) (x8 : Int) (x9 : List Int) (x49 : Bool) : Option (List Int × Int) :=
  (if x49 then some (([] : List Int), 1) else yo F x1 x2 x3 x4 x5 x8 x9 F (([] : List Int), 0))
def vV (F : Nat) (x1 : Int) (x2 : Int) (x3 : Int) (x4 : Int) (x5 : List Int) (x8 : Int) (x9 : List Int) : Option (List Int × Int) :=
  (if ((((decide (x1 < 0)) || (decide (300 < x1))) || (decide (x2 < 0))) || (decide (1048576 < x2))) then some (([] : List Int), 3) else ((qbr F x1 x2).bind fun x182 => (if ((x3 : Int) != x182) then zG F x1 x2 x3 x4 x5 x8 x9 true else ((qaA F x4 x5).bind fun x184 => (if ((x184 : Int) != 0) then zG F x1 x2 x3 x4 x5 x8 x9 true else ((qaA F x8 x9).bind fun x186 => (if ((x186 : Int) != 0) then zG F x1 x2 x3 x4 x5 x8 x9 true else (if ((x4 : Int) != (imul .i64 x1 x3)) then zG F x1 x2 x3 x4 x5 x8 x9 true else ((jp F x8 x9 1 (isub .i64 x1 1)).bind fun x189 => (if (decide (x189 < 0)) then zG F x1 x2 x3 x4 x5 x8 x9 (decide (0 < x1)) else zG F x1 x2 x3 x4 x5 x8 x9 false))))))))))
def qcn (F : Nat) (x1 : Int) (x2 : Int) (x3 : Int) (x4 : Int) (x5 : List Int) (x8 : Int) (x9 : List Int) : Option Int :=
  ((vV F x1 x2 x3 x4 x5 x8 x9).bind fun x13 => some x13.2)
def qbT (F : Nat) (x1 : Int) (x2 : Int) (x3 : Int) (x4 : Int) (x5 : List Int) (x8 : Int) (x9 : List Int) (x12 : Int) (x20 : Int) : Option (Int × Int) :=
  (if ((x20 : Int) != 0) then some (0, x20) else ((qaB F x1 x2 x3 x4 x5 x8 x9 x12).bind fun x22 => some (x22, 0)))
def qbU (F : Nat) (x1 : Int) (x2 : Int) (x3 : Int) (x4 : Int) (x5 : List Int) (x8 : Int) (x9 : List Int) (x12 : Int) (x14 : Int) (x26 : Bool) : Option (Int × Int) :=
  (if x26 then qbT F x1 x2 x3 x4 x5 x8 x9 x12 3 else qbT F x1 x2 x3 x4 x5 x8 x9 x12 x14)
def qcI (F : Nat) (x1 : Int) (x2 : Int) (x3 : Int) (x4 : Int) (x5 : List Int) (x8 : Int) (x9 : List Int) (x12 : Int) : Option (Int × Int) :=
  ((qcn F x1 x2 x3 x4 x5 x8 x9).bind fun x14 => (if ((x14 : Int) == 0) then qbU F x1 x2 x3 x4 x5 x8 x9 x12 x14 ((decide (x12 < 0)) || (decide (x1 ≤ x12))) else qbU F x1 x2 x3 x4 x5 x8 x9 x12 x14 false))
def kF (F : Nat) (x7 : List Int) (x22 : Int) (x24 : (Int × Int × Bool)) (x31 : List Int) (x32 : Int) (x33 : Int) (x34 : Int) (x35 : Int) (x36 : Int) (x37 : Int) (x38 : Int) (x39 : Int) (x40 : Int) (x41 : Int) (x42 : Int) : Option (List Int × Int × Int × Int × Int × Int × Int × Int × Int × Int × Int × Int) :=
  ((jf F x36 x7 x24.2.1 x22 x31 x24.1 x34 x35).bind fun x47 => some (x47.1, x32, x33, x34, x35, x36, x37, x38, x39, x40, x41, x42))
def kM : Nat → Int → Int → Int → Int → Int → (List Int) → Int → Int → Int → Int → (List Int) → Int → (List Int) → Int → Int → Option (List Int × Int × Int × Int × Int × Int × Int × Int × Int × Int × Int × Int)
  | 0 => fun _ _ _ _ _ _ _ _ _ _ _ _ _ _ _ => none
  | F + 1 => fun x2 x3 x4 x5 x6 x7 x10 x11 x12 x13 x14 x17 x18 x21 x22 =>
    let self := kM F
    ((qcI F x10 x11 x12 x13 x14 x17 x18 x22).bind fun x23 => ((qcN F x2 x3 x4 x5 x6 x7 x23.1 x22).bind fun x24 => (if (decide (0 < x24.1)) then ((self x2 x3 x4 x5 x6 x7 x10 x11 x12 x13 x14 x17 x18 (iadd .i64 x21 1) (isub .i64 x22 x24.1)).bind fun x50 => kF F x7 x22 x24 x50.1 x50.2.1 x50.2.2.1 x50.2.2.2.1 x50.2.2.2.2.1 x50.2.2.2.2.2.1 x50.2.2.2.2.2.2.1 x50.2.2.2.2.2.2.2.1 x50.2.2.2.2.2.2.2.2.1 x50.2.2.2.2.2.2.2.2.2.1 x50.2.2.2.2.2.2.2.2.2.2.1 x50.2.2.2.2.2.2.2.2.2.2.2) else kF F x7 x22 x24 ([] : List Int) x2 x3 x4 x5 x6 x10 x11 x12 x13 x17 (iadd .i64 x21 1))))
def jy (F : Nat) (x1 : Int) (x2 : Int) (x3 : Int) (x4 : Int) (x5 : Int) (x6 : List Int) (x9 : Int) (x10 : Int) (x11 : Int) (x12 : Int) (x13 : List Int) (x16 : Int) (x17 : List Int) (x20 : Int) (x28 : Int) : Option (List Int × Int × Int) :=
  (if ((x28 : Int) != 0) then some (([] : List Int), 0, x28) else ((kM F x1 x2 x3 x4 x5 x6 x9 x10 x11 x12 x13 x16 x17 0 x20).bind fun x31 => some (x31.1, x31.2.2.2.2.2.2.2.2.2.2.2, 0)))
def jz (F : Nat) (x1 : Int) (x2 : Int) (x3 : Int) (x4 : Int) (x5 : Int) (x6 : List Int) (x9 : Int) (x10 : Int) (x11 : Int) (x12 : Int) (x13 : List Int) (x16 : Int) (x17 : List Int) (x20 : Int) (x22 : Int) (x37 : Bool) : Option (List Int × Int × Int) :=
  (if x37 then jy F x1 x2 x3 x4 x5 x6 x9 x10 x11 x12 x13 x16 x17 x20 3 else jy F x1 x2 x3 x4 x5 x6 x9 x10 x11 x12 x13 x16 x17 x20 x22)
def vD (F : Nat) (x1 : Int) (x2 : Int) (x3 : Int) (x4 : Int) (x5 : Int) (x6 : List Int) (x9 : Int) (x10 : Int) (x11 : Int) (x12 : Int) (x13 : List Int) (x16 : Int) (x17 : List Int) (x20 : Int) : Option (List Int × Int × Int) :=
  ((jM F x1 x2 x3 x4 x5 x6 x9 x10 x11 x12 x13 x16 x17).bind fun x22 => (if ((x22 : Int) == 0) then jz F x1 x2 x3 x4 x5 x6 x9 x10 x11 x12 x13 x16 x17 x20 x22 ((decide (x20 < 0)) || (decide (x1 ≤ x20))) else jz F x1 x2 x3 x4 x5 x6 x9 x10 x11 x12 x13 x16 x17 x20 x22 false))
def v6 (F : Nat) (x21 : Int) (x23 : (List Int × Int × Int)) (x31 : Int) : Option (Bool × Int) :=
  (if ((x31 : Int) != 0) then some (false, x31) else ((qC F x23.1 x21).bind fun x33 => some (x33.2, 0)))
def v7 (F : Nat) (x21 : Int) (x23 : (List Int × Int × Int)) (x37 : Bool) : Option (Bool × Int) :=
  (if x37 then v6 F x21 x23 3 else v6 F x21 x23 x23.2.2)
def yd (F : Nat) (x1 : Int) (x2 : Int) (x3 : Int) (x4 : Int) (x5 : Int) (x6 : List Int) (x9 : Int) (x10 : Int) (x11 : Int) (x12 : Int) (x13 : List Int) (x16 : Int) (x17 : List Int) (x20 : Int) (x21 : Int) : Option (Bool × Int) :=
  ((vD F x1 x2 x3 x4 x5 x6 x9 x10 x11 x12 x13 x16 x17 x20).bind fun x23 => (if ((x23.2.2 : Int) == 0) then v7 F x21 x23 ((decide (x21 < 0)) || (decide (x1 ≤ x21))) else v7 F x21 x23 false))
def qdW (_F : Nat) : Option Bool :=
  some true
def vj (F : Nat) (x1 : List Int) (x4 : List Int) (rec3 : Int → Option Bool) (x154 : Int) : Option Bool :=
  (if (decide (x154 < (x1.length : Int))) then ((idx x1 x154).bind fun x218 => ((idx x4 x154).bind fun x222 => (if ((x218 : Int) != x222) then some false else rec3 (iadd .i64 x154 1)))) else qdW F)
def kO (F : Nat) (x1 : List Int) (x4 : List Int) : Nat → Int → Option Bool
  | 0 => fun _ => none
  | k + 1 => fun s => vj F x1 x4 (kO F x1 x4 k) s
def yF (F : Nat) (x1 : List Int) (x4 : List Int) : Option Bool :=
  (if (((x1.length : Int) : Int) != (x4.length : Int)) then some false else kO F x1 x4 F 0)
def qdg (_F : Nat)  : Option (List (List Int)) :=
  some ([([1, 2, 3, 5] : List Int), ([1, 2, 3, 5] : List Int), ([0, 1, 2, 3, 5] : List Int), ([] : List Int), ([4] : List Int), ([1, 2, 3] : List Int)] : List (List Int))
def qbm (_F : Nat) (x37 : Bool) : Option Bool :=
  some x37
def jY (F : Nat) (x4 : (Int × Int × Int × Int × Int × List Int × Int × Int × Int × Int × List Int × Int × List Int × Int)) (x34 : Bool) : Option Bool :=
  (if x34 then ((jM F x4.1 x4.2.1 x4.2.2.1 x4.2.2.2.1 x4.2.2.2.2.1 x4.2.2.2.2.2.1 0 0 0 0 ([] : List Int) 0 ([] : List Int)).bind fun x38 => qbm F ((x38 : Int) == 4)) else qbm F false)
def jX (F : Nat) (x4 : (Int × Int × Int × Int × Int × List Int × Int × Int × Int × Int × List Int × Int × List Int × Int)) (x12 : (List Int × Int × Int)) (x15 : (Bool × Int)) (x16 : (Bool × Int)) (x17 : (List Int × Int × Int)) (x24 : Bool) : Option Bool :=
  (if (((((((x24 && ((x12.2.1 : Int) == 2)) && ((x12.2.2 : Int) == 0)) && x15.1) && ((x15.2 : Int) == 0)) && (!x16.1)) && ((x16.2 : Int) == 0)) && ((x17.2.2 : Int) == 3)) then ((jM F x4.1 x4.2.1 x4.2.2.1 x4.2.2.2.1 x4.2.2.2.2.1 x4.2.2.2.2.2.1 x4.2.2.2.2.2.2.1 x4.2.2.2.2.2.2.2.1 x4.2.2.2.2.2.2.2.2.1 x4.2.2.2.2.2.2.2.2.2.1 x4.2.2.2.2.2.2.2.2.2.2.1 x4.2.2.2.2.2.2.2.2.2.2.2.1 x4.2.2.2.2.2.2.2.2.2.2.2.2.1).bind fun x39 => jY F x4 ((x39 : Int) == 0)) else jY F x4 false)
def qbl (F : Nat)  : Option Bool :=
  ((qdg F).bind fun x1 => ((jL F x1 3 3 2).bind fun x4 => ((vD F x4.1 x4.2.1 x4.2.2.1 x4.2.2.2.1 x4.2.2.2.2.1 x4.2.2.2.2.2.1 x4.2.2.2.2.2.2.1 x4.2.2.2.2.2.2.2.1 x4.2.2.2.2.2.2.2.2.1 x4.2.2.2.2.2.2.2.2.2.1 x4.2.2.2.2.2.2.2.2.2.2.1 x4.2.2.2.2.2.2.2.2.2.2.2.1 x4.2.2.2.2.2.2.2.2.2.2.2.2.1 1).bind fun x12 => ((yd F x4.1 x4.2.1 x4.2.2.1 x4.2.2.2.1 x4.2.2.2.2.1 x4.2.2.2.2.2.1 x4.2.2.2.2.2.2.1 x4.2.2.2.2.2.2.2.1 x4.2.2.2.2.2.2.2.2.1 x4.2.2.2.2.2.2.2.2.2.1 x4.2.2.2.2.2.2.2.2.2.2.1 x4.2.2.2.2.2.2.2.2.2.2.2.1 x4.2.2.2.2.2.2.2.2.2.2.2.2.1 4 4).bind fun x15 => ((yd F x4.1 x4.2.1 x4.2.2.1 x4.2.2.2.1 x4.2.2.2.2.1 x4.2.2.2.2.2.1 x4.2.2.2.2.2.2.1 x4.2.2.2.2.2.2.2.1 x4.2.2.2.2.2.2.2.2.1 x4.2.2.2.2.2.2.2.2.2.1 x4.2.2.2.2.2.2.2.2.2.2.1 x4.2.2.2.2.2.2.2.2.2.2.2.1 x4.2.2.2.2.2.2.2.2.2.2.2.2.1 4 5).bind fun x16 => ((vD F x4.1 x4.2.1 x4.2.2.1 x4.2.2.2.1 x4.2.2.2.2.1 x4.2.2.2.2.2.1 x4.2.2.2.2.2.2.1 x4.2.2.2.2.2.2.2.1 x4.2.2.2.2.2.2.2.2.1 x4.2.2.2.2.2.2.2.2.2.1 x4.2.2.2.2.2.2.2.2.2.2.1 x4.2.2.2.2.2.2.2.2.2.2.2.1 x4.2.2.2.2.2.2.2.2.2.2.2.2.1 6).bind fun x17 => (if ((x4.2.2.2.2.2.2.2.2.2.2.2.2.2 : Int) == 0) then ((yF F x12.1 ([1, 2, 3, 5] : List Int)).bind fun x42 => jX F x4 x12 x15 x16 x17 x42) else jX F x4 x12 x15 x16 x17 false)))))))
def qdr (_F : Nat) (x171 : List (List Int)) : Option (List (List Int)) :=
  some x171
def qaF (F : Nat) (x2 : List (Int × Int)) (rec3 : (Int × List (List Int)) → Option (List (List Int))) (x224 : Int) (x226 : List (List Int)) : Option (List (List Int)) :=
  (if (decide (x224 < (x2.length : Int))) then ((idx x2 x224).bind fun x306 => ((idx x226 x306.1).bind fun x310 => ((idx x226 x306.1).bind fun _x316 => ((app 8796093022208 x310 ([x306.2] : List Int)).bind fun x324 => (lett (x226.set x306.1.toNat x324) fun x327 => rec3 (iadd .i64 x224 1, x327)))))) else qdr F x226)
def yM (F : Nat) (x2 : List (Int × Int)) : Nat → (Int × List (List Int)) → Option (List (List Int))
  | 0 => fun _ => none
  | k + 1 => fun s => qaF F x2 (yM F x2 k) s.1 s.2
def vM (F : Nat) (x1 : Int) (x2 : List (Int × Int)) : Option (List (List Int)) :=
  ((mk 4398046511104 (([] : List Int) : List Int) x1).bind fun x6 => yM F x2 F (0, x6))
def za (_F : Nat) (_x1 : List (Int × Int)) : Option Unit :=
  some ()
def vB (_F : Nat) (_x1 : List (List Int)) : Option Unit :=
  some ()
def qaE {σ τ : Type} (_F : Nat) (_yy : σ → (Int × Int) → Option (σ ⊕ τ)) (rec7 : (Int × σ) → Option (σ ⊕ τ)) (x121 : Int) (x298 : σ) : Option (σ ⊕ τ) :=
  rec7 (iadd .i64 x121 1, x298)
def j5 {σ τ : Type} (F : Nat) (yy : σ → (Int × Int) → Option (σ ⊕ τ)) (rec7 : (Int × σ) → Option (σ ⊕ τ)) (x121 : Int) (x300 : List Int) (rec10 : (Int × σ) → Option (σ ⊕ τ)) (x320 : Int) (x321 : σ) : Option (σ ⊕ τ) :=
  (if (decide (x320 < (x300.length : Int))) then ((idx x300 x320).bind fun x348 => ((yy x321 (x121, x348)).bind (Sum.elim (fun x351 => rec10 (iadd .i64 x320 1, x351)) (fun x352 => some (.inr x352))))) else qaE F yy rec7 x121 x321)
def yp {σ τ : Type} (F : Nat) (yy : σ → (Int × Int) → Option (σ ⊕ τ)) (rec7 : (Int × σ) → Option (σ ⊕ τ)) (x121 : Int) (x300 : List Int) : Nat → (Int × σ) → Option (σ ⊕ τ)
  | 0 => fun _ => none
  | k + 1 => fun s => j5 F yy rec7 x121 x300 (yp F yy rec7 x121 x300 k) s.1 s.2
def qaD {σ τ : Type} (F : Nat) (yy : σ → (Int × Int) → Option (σ ⊕ τ)) (x2 : List (List Int)) (rec7 : (Int × σ) → Option (σ ⊕ τ)) (x121 : Int) (x122 : σ) : Option (σ ⊕ τ) :=
  (if (decide (x121 < (x2.length : Int))) then ((idx x2 x121).bind fun x300 => yp F yy rec7 x121 x300 F (0, x122)) else some (.inl x122))
def zE {σ τ : Type} (F : Nat) (yy : σ → (Int × Int) → Option (σ ⊕ τ)) (x2 : List (List Int)) : Nat → (Int × σ) → Option (σ ⊕ τ)
  | 0 => fun _ => none
  | k + 1 => fun s => qaD F yy x2 (zE F yy x2 k) s.1 s.2
def jI {σ τ : Type} (F : Nat) (yy : σ → (Int × Int) → Option (σ ⊕ τ)) (x2 : List (List Int)) (s0 : σ) : Option (σ ⊕ τ) :=
  zE F yy x2 F (0, s0)
def qc3 (_F : Nat) (x47 : List (Int × Int)) (x56 : Int) (x57 : Int) : Option (List (Int × Int) ⊕ Empty) :=
  ((app 4398046511104 x47 ([(x57, x56)] : List (Int × Int))).bind fun x61 => some (.inl x61))
def qat (F : Nat) (x1 : List (List Int)) : Option (List (Int × Int)) :=
  ((vB F x1).bind fun _x35 => ((jI F (fun (x47 : List (Int × Int)) ((x56, x57) : (Int × Int)) => qc3 F x47 x56 x57) x1 ([] : List (Int × Int))).bind (Sum.elim (fun (x47 : List (Int × Int)) => some x47) (fun t => t.elim))))
def qdX (_F : Nat) : Option Int :=
  some 0
def kP (F : Nat) (x1 : List Int) (rec3 : Int → Option Int) (x46 : Int) : Option Int :=
  (if (decide (x46 < (x1.length : Int))) then ((idx x1 x46).bind fun x63 => (if ((x63 : Int) != 0) then some x63 else rec3 (iadd .i64 x46 1))) else qdX F)
def yB (F : Nat) (x1 : List Int) : Nat → Int → Option Int
  | 0 => fun _ => none
  | k + 1 => fun s => kP F x1 (yB F x1 k) s
def qcl (F : Nat) (x1 : List Int) : Option Int :=
  yB F x1 F 0
def vx (F : Nat) (x1 : Int) (x2 : Int) : Option Int :=
  ((kQ F x1).bind fun x3 => ((kQ F x2).bind fun x4 => (if x3 then (if x4 then some 0 else some (-1)) else (if x4 then some 1 else (if (decide (x1 < x2)) then some (-1) else (if (decide (x2 < x1)) then some 1 else some 0))))))
def qb1 (F : Nat) (x1 : Int) (x2 : Int) (x3 : Int) (x4 : Int) : Option Int :=
  ((vx F x1 x3).bind fun x12 => ((vx F x2 x4).bind fun x13 => ((qcl F ([x12, x13] : List Int)).bind fun x16 => some x16)))
def zC {σ τ : Type} (_F : Nat) (yy : σ → (Int × Int) → Option (σ ⊕ τ)) (x2 : List (Int × Int)) (rec1 : (Int × σ) → Option (σ ⊕ τ)) (x23 : Int) (x24 : σ) : Option (σ ⊕ τ) :=
  (if (decide (x23 < (x2.length : Int))) then ((idx x2 x23).bind fun x54 => ((yy x24 (x54.1, x54.2)).bind (Sum.elim (fun x58 => rec1 (iadd .i64 x23 1, x58)) (fun x59 => some (.inr x59))))) else some (.inl x24))
def qO {σ τ : Type} (F : Nat) (yy : σ → (Int × Int) → Option (σ ⊕ τ)) (x2 : List (Int × Int)) : Nat → (Int × σ) → Option (σ ⊕ τ)
  | 0 => fun _ => none
  | k + 1 => fun s => zC F yy x2 (qO F yy x2 k) s.1 s.2
def kz {σ τ : Type} (F : Nat) (yy : σ → (Int × Int) → Option (σ ⊕ τ)) (x2 : List (Int × Int)) (s0 : σ) : Option (σ ⊕ τ) :=
  qO F yy x2 F (0, s0)
def zb (_F : Nat) (x46 : List (Int × Int)) (x55 : Int) (x56 : Int) : Option (List (Int × Int) ⊕ Empty) :=
  ((app 4398046511104 x46 ([(x55, x56)] : List (Int × Int))).bind fun x60 => some (.inl x60))
def qL (F : Nat) (x1 : List (Int × Int)) (x5 : List (Int × Int)) : Option (List (Int × Int)) :=
  ((kz F (fun (x46 : List (Int × Int)) ((x55, x56) : (Int × Int)) => zb F x46 x55 x56) x5 x1).bind (Sum.elim (fun (x46 : List (Int × Int)) => some x46) (fun t => t.elim)))
def qD (F : Nat) (x2 : List (Int × Int)) : Option (List (Int × Int)) :=
  ((qL F ([] : List (Int × Int)) x2).bind fun x5 => some x5)
def qK (F : Nat) (x1 : List (Int × Int)) : Option (List (Int × Int)) :=
  sortF (fun a b => qb1 F a.1 a.2 b.1 b.2) x1
def qg (F : Nat) (x2 : List (Int × Int)) : Option (List (Int × Int)) :=
  ((qD F x2).bind fun x5 => ((qK F x5).bind fun x8 => (chk (decide (x8.length = x5.length)) (some x8))))
def qbw (F : Nat) (x1 : List (List Int)) : Option (List (List Int) × Int) :=
  ((yc F x1).bind fun x8 => (if ((x8 : Int) != 0) then some (([] : List (List Int)), x8) else ((qat F x1).bind fun x20 => ((za F x20).bind fun _x23 => ((qg F x20).bind fun x25 => ((vM F (x1.length : Int) x25).bind fun x28 => some (x28, 0)))))))
def qdk (F : Nat) (x1 : Int) (x2 : List (Int × Int)) : Option (List (List Int) × Int) :=
  ((za F x2).bind fun _x122 => ((qg F x2).bind fun x124 => ((vM F x1 x124).bind fun x127 => some (x127, 0))))
def qb0 (F : Nat) (x1 : Int) (x2 : List (Int × Int)) (rec3 : (Int × List (Int × Int)) → Option (List (List Int) × Int)) (x166 : Int) (x167 : List (Int × Int)) : Option (List (List Int) × Int) :=
  (if (decide (x166 < (x2.length : Int))) then ((idx x2 x166).bind fun x223 => (if ((((decide (x223.1 < 0)) || (decide (x1 ≤ x223.1))) || (decide (x223.2 < 0))) || (decide (x1 ≤ x223.2))) then some (([] : List (List Int)), 3) else (if (decide (((x223.1, x223.2) : Int × Int) ∈ x167)) then some (([] : List (List Int)), 6) else ((sins x167 (x223.1, x223.2)).bind fun x237 => rec3 (iadd .i64 x166 1, x237))))) else qdk F x1 x2)
def jJ (F : Nat) (x1 : Int) (x2 : List (Int × Int)) : Nat → (Int × List (Int × Int)) → Option (List (List Int) × Int)
  | 0 => fun _ => none
  | k + 1 => fun s => qb0 F x1 x2 (jJ F x1 x2 k) s.1 s.2
def qcM (F : Nat) (x1 : Int) (x2 : List (Int × Int)) : Option (List (List Int) × Int) :=
  (if ((decide (x1 < 0)) || (decide (100 < x1))) then some (([] : List (List Int)), 3) else (if (decide (600 < (x2.length : Int))) then some (([] : List (List Int)), 2) else jJ F x1 x2 F (0, ([] : List (Int × Int)))))
def zV (_F : Nat) (x46 : List (Int × Int)) (x55 : Int) (x56 : Int) : Option (List (Int × Int) ⊕ Empty) :=
  ((app 4398046511104 x46 ([(x55, x56)] : List (Int × Int))).bind fun x60 => some (.inl x60))
def zp (F : Nat) (x1 : List (Int × Int)) (x5 : List (List Int)) : Option (List (Int × Int)) :=
  ((jI F (fun (x46 : List (Int × Int)) ((x55, x56) : (Int × Int)) => zV F x46 x55 x56) x5 x1).bind (Sum.elim (fun (x46 : List (Int × Int)) => some x46) (fun t => t.elim)))
def q8 (F : Nat) (x2 : List (List Int)) : Option (List (Int × Int)) :=
  ((zp F ([] : List (Int × Int)) x2).bind fun x5 => some x5)
def qco (F : Nat) (x1 : List (List Int)) : Option (List (Int × Int) × Int) :=
  ((yc F x1).bind fun x7 => (if ((x7 : Int) != 0) then some (([] : List (Int × Int)), x7) else ((vB F x1).bind fun _x8 => ((q8 F x1).bind fun x10 => some (x10, 0)))))
def zZ (_F : Nat) (x1 : List (Int × Int)) : Option (List (Int × Int)) :=
  some x1
def zW (_F : Nat) (rec98 : Int → Option (List (Int × Int))) (x1975 : Int) : Option (List (Int × Int)) :=
  rec98 (iadd .i64 x1975 1)
def zX (_F : Nat) (x2842 : List (Int × Int)) (x2843 : Int) : Option (List (Int × Int)) :=
  (chk (decide (0 ≤ x2843 ∧ x2843 < (x2842.length : Int))) ((lett (x2842.take x2843.toNat ++ List.replicate (x2842.length - x2843.toNat) ((0 : Int), (0 : Int))) fun x2847 => ((sub x2847 0 x2843).bind fun x2850 => some x2850))))
def q6 (_F : Nat) (rec116 : (List (Int × Int) × Int × Int) → Option (List (Int × Int))) (x2881 : Int) (x2939 : List (Int × Int)) (x2940 : Int) : Option (List (Int × Int)) :=
  rec116 (x2939, x2940, iadd .i64 x2881 1)
def zr (F : Nat) (x1 : List (Int × Int)) (x1975 : Int) (rec116 : (List (Int × Int) × Int × Int) → Option (List (Int × Int))) (x2879 : List (Int × Int)) (x2880 : Int) (x2881 : Int) : Option (List (Int × Int)) :=
  (if (decide (x2881 < ((x1.length - x1975.toNat : Nat) : Int))) then (chk (decide (x2879.length = x1.length)) (((idx (x2879.drop x1975.toNat) x2881).bind fun x2946 => (chk (decide (x2879.length = x1.length)) (((idx (x2879.drop x1975.toNat) (isub .i64 x2881 1)).bind fun x2948 => (if (!(((x2946.1 : Int) == x2948.1) && ((x2946.2 : Int) == x2948.2))) then (chk (decide (x2879.length = x1.length)) (((idx (x2879.drop x1975.toNat) x2881).bind fun x2950 => ((idx x2879 x2880).bind fun _x2951 => (lett (x2879.set x2880.toNat (x2950.1, x2950.2)) fun x2954 => q6 F rec116 x2881 x2954 (iadd .i64 x2880 1)))))) else q6 F rec116 x2881 x2879 x2880))))))) else zX F x2879 x2880)
def qx (F : Nat) (x1 : List (Int × Int)) (x1975 : Int) : Nat → (List (Int × Int) × Int × Int) → Option (List (Int × Int))
  | 0 => fun _ => none
  | k + 1 => fun s => zr F x1 x1975 (qx F x1 x1975 k) s.1 s.2.1 s.2.2
def zB (F : Nat) (x1 : List (Int × Int)) (rec98 : Int → Option (List (Int × Int))) (x1975 : Int) : Option (List (Int × Int)) :=
  (if (decide (x1975 < (x1.length : Int))) then ((idx x1 x1975).bind fun x2723 => ((idx x1 (isub .i64 x1975 1)).bind fun x2727 => (if (((x2723.1 : Int) == x2727.1) && ((x2723.2 : Int) == x2727.2)) then (chk (decide (0 ≤ x1975 ∧ x1975 < (x1.length : Int))) (qx F x1 x1975 F (x1, x1975, 1))) else zW F rec98 x1975))) else zZ F x1)
def qA (F : Nat) (x1 : List (Int × Int)) : Nat → Int → Option (List (Int × Int))
  | 0 => fun _ => none
  | k + 1 => fun s => zB F x1 (qA F x1 k) s
def zK (F : Nat) (x1 : List (Int × Int)) : Option (List (Int × Int)) :=
  (if (decide ((x1.length : Int) < 2)) then some x1 else qA F x1 F 1)
def qcp (F : Nat) (x1 : List (List Int)) : Option (List (List Int) × Int) :=
  ((yc F x1).bind fun x8 => (if ((x8 : Int) != 0) then some (([] : List (List Int)), x8) else ((vB F x1).bind fun _x20 => ((q8 F x1).bind fun x22 => ((qat F x1).bind fun x25 => ((app 4398046511104 x22 x25).bind fun x28 => ((qK F x28).bind fun x31 => (chk (decide (x31.length = x28.length)) (((zK F x31).bind fun x33 => (if (decide (600 < (x33.length : Int))) then some (([] : List (List Int)), 2) else ((vM F (x1.length : Int) x33).bind fun x37 => some (x37, 0)))))))))))))
def yS (_F : Nat) (x121 : List Int) (x122 : List Int) (x144 : Int) (x145 : Int) : Option ((List Int × List Int) ⊕ Empty) :=
  ((idx x122 x144).bind fun x147 => ((idx x122 x144).bind fun _x150 => (lett (x122.set x144.toNat (iadd .i64 x147 1)) fun x153 => ((idx x121 x145).bind fun x156 => ((idx x121 x145).bind fun _x159 => (lett (x121.set x145.toNat (iadd .i64 x156 1)) fun x162 => some (.inl (x162, x153))))))))
def k8 (F : Nat) (x1 : List (List Int)) (x27 : List Int) (x30 : List Int) : Option (List Int × List Int × Int) :=
  ((vB F x1).bind fun _x98 => ((jI F (fun ((x121, x122) : (List Int × List Int)) ((x144, x145) : (Int × Int)) => yS F x121 x122 x144 x145) x1 (x27, x30)).bind (Sum.elim (fun ((x121, x122) : (List Int × List Int)) => some (x122, x121, 0)) (fun t => t.elim))))
def qaZ (F : Nat) (x1 : List (List Int)) : Option (List Int × List Int × Int) :=
  ((yc F x1).bind fun x9 => (if ((x9 : Int) != 0) then some (([] : List Int), ([] : List Int), x9) else ((mk 17592186044416 (0 : Int) (x1.length : Int)).bind fun x165 => ((mk 17592186044416 (0 : Int) (x1.length : Int)).bind fun x168 => k8 F x1 x168 x165))))
def qdq (_F : Nat) : Option Bool :=
  some true
def qaz (F : Nat) (x1 : List (List Int)) (x4 : List (List Int)) (rec3 : Int → Option Bool) (x202 : Int) : Option Bool :=
  (if (decide (x202 < (x1.length : Int))) then ((idx x1 x202).bind fun x287 => ((idx x4 x202).bind fun x292 => ((yF F x287 x292).bind fun x297 => (if (!x297) then some false else rec3 (iadd .i64 x202 1))))) else qdq F)
def yL (F : Nat) (x1 : List (List Int)) (x4 : List (List Int)) : Nat → Int → Option Bool
  | 0 => fun _ => none
  | k + 1 => fun s => qaz F x1 x4 (yL F x1 x4 k) s
def vL (F : Nat) (x1 : List (List Int)) (x4 : List (List Int)) : Option Bool :=
  (if (((x1.length : Int) : Int) != (x4.length : Int)) then some false else yL F x1 x4 F 0)
def qdV (_F : Nat) : Option Bool :=
  some true
def qaW (F : Nat) (x1 : List (Int × Int)) (x4 : List (Int × Int)) (rec3 : Int → Option Bool) (x154 : Int) : Option Bool :=
  (if (decide (x154 < (x1.length : Int))) then ((idx x1 x154).bind fun x218 => ((idx x4 x154).bind fun x222 => (if (!(((x218.1 : Int) == x222.1) && ((x218.2 : Int) == x222.2))) then some false else rec3 (iadd .i64 x154 1)))) else qdV F)
def vi (F : Nat) (x1 : List (Int × Int)) (x4 : List (Int × Int)) : Nat → Int → Option Bool
  | 0 => fun _ => none
  | k + 1 => fun s => qaW F x1 x4 (vi F x1 x4 k) s
def qck (F : Nat) (x1 : List (Int × Int)) (x4 : List (Int × Int)) : Option Bool :=
  (if (((x1.length : Int) : Int) != (x4.length : Int)) then some false else vi F x1 x4 F 0)
def qbk (_F : Nat) (x83 : Bool) : Option Bool :=
  some x83
def jW (F : Nat) (x18 : (List Int × List Int × Int)) (x25 : (List (List Int) × Int)) (x74 : Bool) : Option Bool :=
  (if ((x74 && ((x18.2.2 : Int) == 0)) && ((x25.2 : Int) == 6)) then ((yc F ([([1] : List Int)] : List (List Int))).bind fun x88 => qbk F ((x88 : Int) == 3)) else qbk F false)
def jV (F : Nat) (x18 : (List Int × List Int × Int)) (x25 : (List (List Int) × Int)) (x69 : Bool) : Option Bool :=
  (if x69 then ((yF F x18.2.1 ([2, 1, 0] : List Int)).bind fun x91 => jW F x18 x25 x91) else jW F x18 x25 false)
def jU (F : Nat) (x14 : (List (List Int) × Int)) (x18 : (List Int × List Int × Int)) (x25 : (List (List Int) × Int)) (x63 : Bool) : Option Bool :=
  (if (x63 && ((x14.2 : Int) == 0)) then ((yF F x18.1 ([2, 0, 1] : List Int)).bind fun x94 => jV F x18 x25 x94) else jV F x18 x25 false)
def jT (F : Nat) (x10 : (List (List Int) × Int)) (x14 : (List (List Int) × Int)) (x18 : (List Int × List Int × Int)) (x25 : (List (List Int) × Int)) (x51 : Bool) : Option Bool :=
  (if (x51 && ((x10.2 : Int) == 0)) then ((vL F x14.1 ([([0, 1, 2] : List Int), ([0] : List Int), ([0] : List Int)] : List (List Int))).bind fun x103 => jU F x14 x18 x25 x103) else jU F x14 x18 x25 false)
def jS (F : Nat) (x7 : (List (Int × Int) × Int)) (x10 : (List (List Int) × Int)) (x14 : (List (List Int) × Int)) (x18 : (List Int × List Int × Int)) (x25 : (List (List Int) × Int)) (x41 : Bool) : Option Bool :=
  (if (x41 && ((x7.2 : Int) == 0)) then ((vL F x10.1 ([([0, 2] : List Int), ([0] : List Int), ([] : List Int)] : List (List Int))).bind fun x110 => jT F x10 x14 x18 x25 x110) else jT F x10 x14 x18 x25 false)
def qbj (F : Nat)  : Option Bool :=
  ((qcM F 3 ([(2, 0), (0, 1), (0, 0)] : List (Int × Int))).bind fun x3 => ((qco F x3.1).bind fun x7 => ((qbw F x3.1).bind fun x10 => ((qcp F x3.1).bind fun x14 => ((qaZ F x3.1).bind fun x18 => ((qcM F 1 ([(0, 0), (0, 0)] : List (Int × Int))).bind fun x25 => ((vL F x3.1 ([([0, 1] : List Int), ([] : List Int), ([0] : List Int)] : List (List Int))).bind fun x35 => (if (x35 && ((x3.2 : Int) == 0)) then ((qck F x7.1 ([(0, 0), (0, 1), (2, 0)] : List (Int × Int))).bind fun x113 => jS F x7 x10 x14 x18 x25 x113) else jS F x7 x10 x14 x18 x25 false))))))))
def jR (F : Nat) (x7 : Int) (x8 : Int) (x11 : (List (List Int) × Int)) (x15 : (Int × Int × Int × Int × Int × List Int × Int × Int × Int × Int × List Int × Int × List Int × Int)) (x23 : (Int × Int × Int × Int × Int × List Int × Int × Int × Int × Int × List Int × Int × List Int × Int)) (x40 : Bool) : Option Bool :=
  (if x40 then some false else (if ((((x11.2 : Int) != 0) || ((x15.2.2.2.2.2.2.2.2.2.2.2.2.2 : Int) != 0)) || ((x23.2.2.2.2.2.2.2.2.2.2.2.2.2 : Int) != 0)) then some true else ((yd F x15.1 x15.2.1 x15.2.2.1 x15.2.2.2.1 x15.2.2.2.2.1 x15.2.2.2.2.2.1 x15.2.2.2.2.2.2.1 x15.2.2.2.2.2.2.2.1 x15.2.2.2.2.2.2.2.2.1 x15.2.2.2.2.2.2.2.2.2.1 x15.2.2.2.2.2.2.2.2.2.2.1 x15.2.2.2.2.2.2.2.2.2.2.2.1 x15.2.2.2.2.2.2.2.2.2.2.2.2.1 x7 x8).bind fun x46 => ((yd F x23.1 x23.2.1 x23.2.2.1 x23.2.2.2.1 x23.2.2.2.2.1 x23.2.2.2.2.2.1 x23.2.2.2.2.2.2.1 x23.2.2.2.2.2.2.2.1 x23.2.2.2.2.2.2.2.2.1 x23.2.2.2.2.2.2.2.2.2.1 x23.2.2.2.2.2.2.2.2.2.2.1 x23.2.2.2.2.2.2.2.2.2.2.2.1 x23.2.2.2.2.2.2.2.2.2.2.2.2.1 x8 x7).bind fun x47 => some (((x46.2 : Int) == x47.2) && (x46.1 == x47.1))))))
def qcF (F : Nat) (x1 : List (List Int)) (x4 : Int) (x5 : Int) (x6 : Int) (x7 : Int) (x8 : Int) : Option Bool :=
  ((qbw F x1).bind fun x11 => ((jL F x1 x4 x5 x6).bind fun x15 => ((jL F x11.1 x4 x5 x6).bind fun x23 => ((qbl F).bind fun x37 => (if (!x37) then jR F x7 x8 x11 x15 x23 true else ((qbj F).bind fun x51 => jR F x7 x8 x11 x15 x23 (!x51)))))))
end Go.Proofs.YtmhggdbfbmkpeaaGreat
