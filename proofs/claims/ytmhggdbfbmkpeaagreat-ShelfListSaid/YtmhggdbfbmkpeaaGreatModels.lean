/- What each Go function of this seat computes, in plain terms. -/
import Derived.Test.YtmhggdbfbmkpeaaGreatSy
namespace Go.Proofs.YtmhggdbfbmkpeaaGreat
open Go SX
def qar (_F : Nat) (x798 : Int) : Option Int :=
  (if (decide (600 < x798)) then some 2 else some 0)
def qas (_F : Nat) (rec38 : (Int × Int) → Option Int) (x1065 : Int) (x1461 : Int) : Option Int :=
  rec38 (x1461, iadd .i64 x1065 1)
def v7 (F : Nat) (rec38 : (Int × Int) → Option Int) (x1064 : Int) (x1065 : Int) (x1462 : List Int) : Option Int :=
  qas F rec38 x1065 (iadd .i64 x1064 (x1462.length : Int))
def v6 (F : Nat) (rec38 : (Int × Int) → Option Int) (x1 : List (List Int)) (x1064 : Int) (x1065 : Int) (x1462 : List Int) (rec45 : (Int × Int) → Option Int) (x1549 : Int) (x1550 : Int) : Option Int :=
  (if (decide (x1550 < (x1462.length : Int))) then ((idx x1462 x1550).bind fun x1582 => (if ((decide (x1582 < 0)) || (decide ((x1.length : Int) ≤ x1582))) then some 3 else (if (decide (x1582 ≤ x1549)) then some 4 else rec45 (x1582, iadd .i64 x1550 1)))) else v7 F rec38 x1064 x1065 x1462)
def kD (F : Nat) (rec38 : (Int × Int) → Option Int) (x1 : List (List Int)) (x1064 : Int) (x1065 : Int) (x1462 : List Int) : Nat → (Int × Int) → Option Int
  | 0 => fun _ => none
  | k + 1 => fun s => v6 F rec38 x1 x1064 x1065 x1462 (kD F rec38 x1 x1064 x1065 x1462 k) s.1 s.2
def vZ (F : Nat) (x1 : List (List Int)) (rec38 : (Int × Int) → Option Int) (x1064 : Int) (x1065 : Int) : Option Int :=
  (if (decide (x1065 < (x1.length : Int))) then ((idx x1 x1065).bind fun x1462 => kD F rec38 x1 x1064 x1065 x1462 F (-1, 0)) else qar F x1064)
def qQ (F : Nat) (x1 : List (List Int)) : Nat → (Int × Int) → Option Int
  | 0 => fun _ => none
  | k + 1 => fun s => vZ F x1 (qQ F x1 k) s.1 s.2
def qaV (F : Nat) (x1 : List (List Int)) : Option Int :=
  (if (decide (100 < (x1.length : Int))) then some 2 else qQ F x1 F (0, 0))
def jI (_F : Nat) (x1 : Int) (x2 : Int) (x3 : Int) : Option Int :=
  (if (((((((decide (x1 < 0)) || (decide (7 < x1))) || (decide (x2 < 0))) || ((x2 : Int) == 1)) || (decide (300 < x2))) || (decide (x3 < 1))) || (decide (16 < x3))) then some 3 else some 0)
def kr (_F : Nat) (x1 : List Int) : Option (List Int) :=
  ((app 70368744177664 ([] : List Int) x1).bind fun x8 => some x8)
def qbw (F : Nat) (x1 : Int) (x2 : List Int) : Option (Int × List Int) :=
  ((kr F x2).bind fun x10 => some (x1, x10))
def qb2 (_F : Nat) (_x1 : Int) (_x2 : List Int) (_x5 : Int) (_x6 : Int) : Option Unit :=
  some ()
def kv (_F : Nat) (x2 : Int) (x6 : Int) (x15 : List Int) : Option (Int × List Int) :=
  ((idx x15 (iquo .i64 x2 8)).bind fun x30 => (chk (decide (0 ≤ (irem x2 8))) (((idx x15 (iquo .i64 x2 8)).bind fun _x36 => (lett (x15.set (iquo .i64 x2 8).toNat (ior .u8 x30 (ishr .u8 (iconv .u8 (ishl .u64 x6 7)) (irem x2 8)))) fun x41 => some (iadd .i64 x2 1, x41))))))
def yx (F : Nat) (x2 : Int) (x3 : List Int) (x6 : Int) : Option (Int × List Int) :=
  (if (((irem x2 8) : Int) == 0) then ((app 70368744177664 x3 ([0] : List Int)).bind fun x46 => kv F x2 x6 x46) else kv F x2 x6 x3)
def vI (_F : Nat) (_x1 : Int) (x2 : List Int) (x5 : Int) : Option Int :=
  ((idx x2 (iquo .i64 x5 8)).bind fun x7 => (chk (decide (0 ≤ (isub .i64 7 (irem x5 8)))) ((lett (iand .u64 (iconv .u64 (ishr .u8 x7 (isub .i64 7 (irem x5 8)))) 1) fun x11 => some x11))))
def vh {σ τ : Type} (F : Nat) (yy : σ → Int → Option (σ ⊕ τ)) (x4 : Int) (x6 : Int) (x7 : List Int) (rec1 : (Int × σ) → Option (σ ⊕ τ)) (x22 : Int) (x23 : σ) : Option (σ ⊕ τ) :=
  (if (decide (x22 < x4)) then ((vI F x6 x7 x22).bind fun x44 => ((yy x23 x44).bind (Sum.elim (fun x45 => rec1 (iadd .i64 x22 1, x45)) (fun x46 => some (.inr x46))))) else some (.inl x23))
def zw {σ τ : Type} (F : Nat) (yy : σ → Int → Option (σ ⊕ τ)) (x4 : Int) (x6 : Int) (x7 : List Int) : Nat → (Int × σ) → Option (σ ⊕ τ)
  | 0 => fun _ => none
  | k + 1 => fun s => vh F yy x4 x6 x7 (zw F yy x4 x6 x7 k) s.1 s.2
def qa8 {σ τ : Type} (F : Nat) (yy : σ → Int → Option (σ ⊕ τ)) (x2 : Int) (x4 : Int) (x6 : Int) (x7 : List Int) (s0 : σ) : Option (σ ⊕ τ) :=
  zw F yy x4 x6 x7 F (x2, s0)
def jq (F : Nat) (x45 : Int) (x48 : List Int) (x53 : Int) : Option ((Int × List Int) ⊕ Empty) :=
  ((yx F x45 x48 x53).bind fun x54 => some (.inl (x54.1, x54.2)))
def va (F : Nat) (x1 : Int) (x2 : List Int) (x5 : Int) (x6 : List Int) : Option (Int × List Int) :=
  ((qbw F x1 x2).bind fun x12 => ((qb2 F x5 x6 0 x5).bind fun _x37 => ((qa8 F (fun ((x45, x48) : (Int × List Int)) (x53 : Int) => jq F x45 x48 x53) 0 x5 x5 x6 (x12.1, x12.2)).bind (Sum.elim (fun ((x45, x48) : (Int × List Int)) => some (x45, x48)) (fun t => t.elim)))))
def zo (F : Nat) (x6 : Int) (rec1 : (Int × Int × List Int) → Option (Int × List Int)) (x18 : Int) (x19 : Int) (x22 : List Int) : Option (Int × List Int) :=
  (if (decide (0 ≤ x18)) then (chk (decide (0 ≤ x18)) (((yx F x19 x22 (iand .u64 (ishr .u64 x6 x18) 1)).bind fun x40 => rec1 (isub .i64 x18 1, x40.1, x40.2)))) else some (x19, x22))
def zp (F : Nat) (x6 : Int) : Nat → (Int × Int × List Int) → Option (Int × List Int)
  | 0 => fun _ => none
  | k + 1 => fun s => zo F x6 (zp F x6 k) s.1 s.2.1 s.2.2
def yz (F : Nat) (x2 : Int) (x3 : List Int) (x6 : Int) (x7 : Int) : Option (Int × List Int) :=
  zp F x6 F (isub .i64 x7 1, x2, x3)
def k6 (F : Nat) (x1 : Int) (x2 : List Int) (x5 : Int) (x6 : Int) : Option (Int × List Int) :=
  ((qbw F x1 x2).bind fun x9 => ((yz F x9.1 x9.2 x5 x6).bind fun x13 => some (x13.1, x13.2)))
def ky (_F : Nat) (x9 : Int) (x10 : Int) : Option Int :=
  ((idx ([0, 1, 2, 2, 3, 3, 3, 3, 4, 4, 4, 4, 4, 4, 4, 4, 5, 5, 5, 5, 5, 5, 5, 5, 5, 5, 5, 5, 5, 5, 5, 5, 6, 6, 6, 6, 6, 6, 6, 6, 6, 6, 6, 6, 6, 6, 6, 6, 6, 6, 6, 6, 6, 6, 6, 6, 6, 6, 6, 6, 6, 6, 6, 6, 7, 7, 7, 7, 7, 7, 7, 7, 7, 7, 7, 7, 7, 7, 7, 7, 7, 7, 7, 7, 7, 7, 7, 7, 7, 7, 7, 7, 7, 7, 7, 7, 7, 7, 7, 7, 7, 7, 7, 7, 7, 7, 7, 7, 7, 7, 7, 7, 7, 7, 7, 7, 7, 7, 7, 7, 7, 7, 7, 7, 7, 7, 7, 7, 8, 8, 8, 8, 8, 8, 8, 8, 8, 8, 8, 8, 8, 8, 8, 8, 8, 8, 8, 8, 8, 8, 8, 8, 8, 8, 8, 8, 8, 8, 8, 8, 8, 8, 8, 8, 8, 8, 8, 8, 8, 8, 8, 8, 8, 8, 8, 8, 8, 8, 8, 8, 8, 8, 8, 8, 8, 8, 8, 8, 8, 8, 8, 8, 8, 8, 8, 8, 8, 8, 8, 8, 8, 8, 8, 8, 8, 8, 8, 8, 8, 8, 8, 8, 8, 8, 8, 8, 8, 8, 8, 8, 8, 8, 8, 8, 8, 8, 8, 8, 8, 8, 8, 8, 8, 8, 8, 8, 8, 8, 8, 8, 8, 8, 8, 8, 8, 8, 8, 8, 8, 8, 8, 8, 8, 8, 8, 8] : List Int) (iconv .u8 x9)).bind fun x11 => some (iadd .i64 x10 (iconv .i64 x11)))
def kx (F : Nat) (x6 : Int) (x7 : Int) : Option Int :=
  (if (decide (256 ≤ x6)) then ky F (ishr .u64 x6 8) (iadd .i64 x7 8) else ky F x6 x7)
def kw (F : Nat) (x3 : Int) (x4 : Int) : Option Int :=
  (if (decide (65536 ≤ x3)) then kx F (ishr .u64 x3 16) (iadd .i64 x4 16) else kx F x3 x4)
def kE (F : Nat) (x1 : Int) : Option Int :=
  (if (decide (4294967296 ≤ x1)) then kw F (ishr .u64 x1 32) 32 else kw F x1 0)
def qbf (F : Nat) (x1 : Int) : Option Int :=
  ((kE F (iadd .u64 x1 1)).bind fun x2 => some (isub .i64 x2 1))
def qa6 (F : Nat) (x1 : Int) : Option (Int × List Int) :=
  ((mk 140737488355328 (0 : Int) (iquo .u64 (iadd .u64 x1 7) 8)).bind fun x3 => ((k6 F (iconv .i64 x1) x3 1 1).bind fun x6 => some (x6.1, x6.2)))
def qbN (_F : Nat) (x1 : Int) (x2 : Int) : Option Int :=
  (chk (decide (0 ≤ x2)) ((lett (iand .u64 x1 (isub .u64 (ishl .u64 1 x2) 1)) fun x4 => some x4)))
def yR (F : Nat) (x1 : Int) : Option (Int × List Int) :=
  ((qbf F x1).bind fun x3 => ((qa6 F (iconv .u64 x3)).bind fun x4 => ((qbN F (iadd .u64 x1 1) x3).bind fun x7 => ((k6 F x4.1 x4.2 x7 x3).bind fun x8 => some (x8.1, x8.2)))))
def qa4 (_F : Nat) (x1 : Int) : Option Bool :=
  some ((decide (0 ≤ x1)) && (decide (x1 ≤ 1048576)))
def qcG (_F : Nat) : Option Int :=
  some 0
def j1 (F : Nat) (x1 : List Int) (rec3 : (Int × Int) → Option Int) (x88 : Int) (x89 : Int) : Option Int :=
  (if (decide (x89 < (x1.length : Int))) then ((idx x1 x89).bind fun x121 => ((qa4 F x121).bind fun x127 => (if (!x127) then some 3 else (if (decide (x121 ≤ x88)) then some 4 else rec3 (x121, iadd .i64 x89 1))))) else qcG F)
def ym (F : Nat) (x1 : List Int) : Nat → (Int × Int) → Option Int
  | 0 => fun _ => none
  | k + 1 => fun s => j1 F x1 (ym F x1 k) s.1 s.2
def yC (F : Nat) (x1 : List Int) : Option Int :=
  (if (decide (300 < (x1.length : Int))) then some 2 else ym F x1 F (-1, 0))
def kz (F : Nat) (x2 : Int) (x3 : List Int) (x7 : Int) (x8 : List Int) (x13 : Bool) : Option (Int × List Int × Bool) :=
  (if (!x13) then ((va F x2 x3 x7 x8).bind fun x14 => some (x14.1, x14.2, x13)) else some (x2, x3, x13))
def kH (F : Nat) (x2 : Int) (x3 : List Int) (x6 : Bool) (x7 : Int) (x8 : List Int) : Option (Int × List Int × Bool) :=
  (if x6 then kz F x2 x3 x7 x8 true else kz F x2 x3 x7 x8 (decide (8192 < (iadd .i64 x2 x7))))
def qN (F : Nat) (x2 : Int) (x3 : List Int) (x6 : Bool) (x7 : Int) : Option (Int × List Int × Bool) :=
  ((yR F (iconv .u64 x7)).bind fun x8 => ((kH F x2 x3 x6 x8.1 x8.2).bind fun x11 => some (x11.1, x11.2.1, x11.2.2)))
def vx (_F : Nat) (x1 : Int) : Option Bool :=
  some ((x1 : Int) != x1)
def yA (_F : Nat) (x1 : Int) (x2 : Int) (x6 : Bool) : Option Bool :=
  some (x6 || (decide (x1 < x2)))
def yQ (F : Nat) (x1 : Int) (x2 : Int) : Option Bool :=
  ((vx F x1).bind fun x3 => (if x3 then ((vx F x2).bind fun x8 => yA F x1 x2 (!x8)) else yA F x1 x2 false))
def kp (_F : Nat) (x1 : Int) : Option Bool :=
  some ((x1 : Int) != x1)
def zS (_F : Nat) (x32 : Int) (x55 : Bool) : Option (Int × Bool) :=
  some (x32, x55)
def zT (F : Nat) (x32 : Int) (x68 : Bool) : Option (Int × Bool) :=
  zS F x32 x68
def zU (F : Nat) (x32 : Int) (x75 : Bool) : Option (Int × Bool) :=
  zT F x32 x75
def qK (F : Nat) (x1 : List Int) (x4 : Int) (x32 : Int) : Option (Int × Bool) :=
  (if (decide (x32 < (x1.length : Int))) then ((idx x1 x32).bind fun x56 => (if ((x56 : Int) == x4) then zT F x32 true else ((idx x1 x32).bind fun x69 => ((kp F x69).bind fun x72 => (if x72 then ((kp F x4).bind fun x76 => zU F x32 x76) else zU F x32 false))))) else zS F x32 false)
def qH (F : Nat) (x1 : List Int) (x4 : Int) (rec10 : (Int × Int) → Option (Int × Bool)) (x85 : Int) (x86 : Int) : Option (Int × Bool) :=
  (if (decide (x85 < x86)) then (lett (iconv .i64 (ishr .u64 (iconv .u64 (iadd .i64 x85 x86)) 1)) fun x97 => ((idx x1 x97).bind fun x98 => ((yQ F x98 x4).bind fun x101 => (if x101 then rec10 (iadd .i64 x97 1, x86) else rec10 (x85, x97))))) else qK F x1 x4 x85)
def qn (F : Nat) (x1 : List Int) (x4 : Int) : Nat → (Int × Int) → Option (Int × Bool)
  | 0 => fun _ => none
  | k + 1 => fun s => qH F x1 x4 (qn F x1 x4 k) s.1 s.2
def qr (F : Nat) (x1 : List Int) (x4 : Int) : Option (Int × Bool) :=
  qn F x1 x4 F (0, (x1.length : Int))
def yf (_F : Nat) (x21 : List Int) (x22 : Bool) (x23 : Int) : Option (List Int × Bool × Int) :=
  some (x21, x22, iadd .i64 x23 1)
def vl (F : Nat) (x2 : List Int) (x5 : Bool) (x6 : Int) (x7 : Bool) : Option (List Int × Bool × Int) :=
  (if (x7 != x5) then ((app 8796093022208 x2 ([x6] : List Int)).bind fun x31 => yf F x31 x7 0) else yf F x2 x5 x6)
def qbE (_F : Nat) (x66 : List Int) (x151 : List Int) : Option (List Int × List Int) :=
  some (x66, x151)
def j7 (_F : Nat) (rec10 : (List Int × Int) → Option (List Int × List Int)) (x180 : Int) (x220 : List Int) : Option (List Int × List Int) :=
  rec10 (x220, iadd .i64 x180 1)
def j5 (F : Nat) (x1 : List Int) (x4 : List Int) (x66 : List Int) (rec10 : (List Int × Int) → Option (List Int × List Int)) (x179 : List Int) (x180 : Int) : Option (List Int × List Int) :=
  (if (decide (x180 < (x4.length : Int))) then ((idx x4 x180).bind fun x221 => ((qr F x1 x221).bind fun x224 => (if (!x224.2) then ((app 8796093022208 x179 ([x221] : List Int)).bind fun x227 => j7 F rec10 x180 x227) else j7 F rec10 x180 x179))) else qbE F x66 x179)
def kN (F : Nat) (x1 : List Int) (x4 : List Int) (x66 : List Int) : Nat → (List Int × Int) → Option (List Int × List Int)
  | 0 => fun _ => none
  | k + 1 => fun s => j5 F x1 x4 x66 (kN F x1 x4 x66 k) s.1 s.2
def qbD (F : Nat) (x1 : List Int) (x4 : List Int) (x66 : List Int) (_x67 : Bool) (_x68 : Int) : Option (List Int × List Int) :=
  kN F x1 x4 x66 F (([] : List Int), 0)
def j6 (F : Nat) (x1 : List Int) (x4 : List Int) (rec12 : (Int × List Int × Bool × Int) → Option (List Int × List Int)) (x249 : Int) (x252 : List Int) (x253 : Bool) (x254 : Int) : Option (List Int × List Int) :=
  (if (decide (x249 < (x1.length : Int))) then ((idx x1 x249).bind fun x280 => ((qr F x4 x280).bind fun x283 => ((vl F x252 x253 x254 x283.2).bind fun x284 => rec12 (iadd .i64 x249 1, x284.1, x284.2.1, x284.2.2)))) else qbD F x1 x4 x252 x253 x254)
def yn (F : Nat) (x1 : List Int) (x4 : List Int) : Nat → (Int × List Int × Bool × Int) → Option (List Int × List Int)
  | 0 => fun _ => none
  | k + 1 => fun s => j6 F x1 x4 (yn F x1 x4 k) s.1 s.2.1 s.2.2.1 s.2.2.2
def qbS (F : Nat) (x1 : List Int) (x4 : List Int) : Option (List Int × List Int) :=
  yn F x1 x4 F (0, ([] : List Int), true, 0)
def kI (F : Nat) (x7 : List Int) (rec1 : (Int × Int × List Int × Bool) → Option (Int × List Int × Bool)) (x27 : Int) (x28 : Int) (x31 : List Int) (x32 : Bool) : Option (Int × List Int × Bool) :=
  (if (decide (x27 < (x7.length : Int))) then ((idx x7 x27).bind fun x55 => ((qN F x28 x31 x32 (isub .i64 x55 (imin x27 1))).bind fun x58 => rec1 (iadd .i64 x27 1, x58.1, x58.2.1, x58.2.2))) else some (x28, x31, x32))
def zu (F : Nat) (x7 : List Int) : Nat → (Int × Int × List Int × Bool) → Option (Int × List Int × Bool)
  | 0 => fun _ => none
  | k + 1 => fun s => kI F x7 (zu F x7 k) s.1 s.2.1 s.2.2.1 s.2.2.2
def yF (F : Nat) (x2 : Int) (x3 : List Int) (x6 : Bool) (x7 : List Int) : Option (Int × List Int × Bool) :=
  ((qN F x2 x3 x6 (x7.length : Int)).bind fun x10 => zu F x7 F (0, x10.1, x10.2.1, x10.2.2))
def qcO (_F : Nat) (_x1 : List Int) : Option Unit :=
  some ()
def je {σ τ : Type} (_F : Nat) (yy : σ → (Int × Int) → Option (σ ⊕ τ)) (rec31 : (Int × σ) → Option (σ ⊕ τ)) (x2 : List Int) (x266 : Int) (x267 : σ) (x654 : Int) : Option (σ ⊕ τ) :=
  ((idx x2 x266).bind fun x662 => ((yy x267 (x662, x654)).bind (Sum.elim (fun x665 => rec31 (iadd .i64 x266 x654, x665)) (fun x666 => some (.inr x666)))))
def jf {σ τ : Type} (F : Nat) (yy : σ → (Int × Int) → Option (σ ⊕ τ)) (rec31 : (Int × σ) → Option (σ ⊕ τ)) (rec44 : Int → Option (σ ⊕ τ)) (x2 : List Int) (x266 : Int) (x267 : σ) (x709 : Int) (x780 : Bool) : Option (σ ⊕ τ) :=
  (if x780 then rec44 (iadd .i64 x709 1) else je F yy rec31 x2 x266 x267 x709)
def jd {σ τ : Type} (F : Nat) (yy : σ → (Int × Int) → Option (σ ⊕ τ)) (rec31 : (Int × σ) → Option (σ ⊕ τ)) (x2 : List Int) (x266 : Int) (x267 : σ) (rec44 : Int → Option (σ ⊕ τ)) (x709 : Int) : Option (σ ⊕ τ) :=
  (if (decide ((iadd .i64 x266 x709) < (x2.length : Int))) then ((idx x2 (iadd .i64 x266 x709)).bind fun x783 => ((idx x2 x266).bind fun x787 => jf F yy rec31 rec44 x2 x266 x267 x709 ((x783 : Int) == (iadd .i64 x787 x709)))) else jf F yy rec31 rec44 x2 x266 x267 x709 false)
def zP {σ τ : Type} (F : Nat) (yy : σ → (Int × Int) → Option (σ ⊕ τ)) (rec31 : (Int × σ) → Option (σ ⊕ τ)) (x2 : List Int) (x266 : Int) (x267 : σ) : Nat → Int → Option (σ ⊕ τ)
  | 0 => fun _ => none
  | k + 1 => fun s => jd F yy rec31 x2 x266 x267 (zP F yy rec31 x2 x266 x267 k) s
def jc {σ τ : Type} (F : Nat) (yy : σ → (Int × Int) → Option (σ ⊕ τ)) (x2 : List Int) (rec31 : (Int × σ) → Option (σ ⊕ τ)) (x266 : Int) (x267 : σ) : Option (σ ⊕ τ) :=
  (if (decide (x266 < (x2.length : Int))) then zP F yy rec31 x2 x266 x267 F 1 else some (.inl x267))
def qJ {σ τ : Type} (F : Nat) (yy : σ → (Int × Int) → Option (σ ⊕ τ)) (x2 : List Int) : Nat → (Int × σ) → Option (σ ⊕ τ)
  | 0 => fun _ => none
  | k + 1 => fun s => jc F yy x2 (qJ F yy x2 k) s.1 s.2
def jR {σ τ : Type} (F : Nat) (yy : σ → (Int × Int) → Option (σ ⊕ τ)) (x2 : List Int) (s0 : σ) : Option (σ ⊕ τ) :=
  qJ F yy x2 F (0, s0)
def qaZ (_F : Nat) (x255 : List (Int × Int)) (x312 : Int) (x313 : Int) (rec8 : (Int × List Int) → Option ((List Int × List (Int × Int)) ⊕ Empty)) (x338 : Int) (x341 : List Int) : Option ((List Int × List (Int × Int)) ⊕ Empty) :=
  (if (decide (x338 < x313)) then ((app 8796093022208 x341 ([iadd .i64 x312 x338] : List Int)).bind fun x363 => rec8 (iadd .i64 x338 1, x363)) else some (.inl (x341, x255)))
def vM (F : Nat) (x255 : List (Int × Int)) (x312 : Int) (x313 : Int) : Nat → (Int × List Int) → Option ((List Int × List (Int × Int)) ⊕ Empty)
  | 0 => fun _ => none
  | k + 1 => fun s => qaZ F x255 x312 x313 (vM F x255 x312 x313 k) s.1 s.2
def jQ (F : Nat) (x4 : Int) (x252 : List Int) (x255 : List (Int × Int)) (x312 : Int) (x313 : Int) : Option ((List Int × List (Int × Int)) ⊕ Empty) :=
  (if (decide (x4 ≤ x313)) then ((app 4398046511104 x255 ([(x312, x313)] : List (Int × Int))).bind fun x323 => some (.inl (x252, x323))) else vM F x255 x312 x313 F (0, x252))
def qcn (F : Nat) (x1 : List Int) (x4 : Int) : Option (List (Int × Int) × List Int) :=
  ((qcO F x1).bind fun _x188 => ((jR F (fun ((x252, x255) : (List Int × List (Int × Int))) ((x312, x313) : (Int × Int)) => jQ F x4 x252 x255 x312 x313) x1 (([] : List Int), ([] : List (Int × Int)))).bind (Sum.elim (fun ((x252, x255) : (List Int × List (Int × Int))) => some (x255, x252)) (fun t => t.elim))))
def jU (_F : Nat) (x1 : Int) : Option Int :=
  (lett (ixor .u64 (ishl .u64 (iconv .u64 x1) 1) (iconv .u64 (ishr .i64 x1 63))) fun x2 => some x2)
def km (F : Nat) (rec5 : (Int × Int × Int × List Int × Bool) → Option (Int × List Int × Bool)) (x8 : Int) (x74 : Int) (x168 : (Int × Int)) (x180 : Int) (x183 : List Int) (x184 : Bool) : Option (Int × List Int × Bool) :=
  ((qN F x180 x183 x184 (isub .i64 x168.2 x8)).bind fun x185 => rec5 (isub .i64 (iadd .i64 x168.1 x168.2) 1, iadd .i64 x74 1, x185.1, x185.2.1, x185.2.2))
def yj (F : Nat) (x8 : Int) (x9 : List (Int × Int)) (rec5 : (Int × Int × Int × List Int × Bool) → Option (Int × List Int × Bool)) (x73 : Int) (x74 : Int) (x75 : Int) (x78 : List Int) (x79 : Bool) : Option (Int × List Int × Bool) :=
  (if (decide (x74 < (x9.length : Int))) then ((idx x9 x74).bind fun x168 => (if ((x74 : Int) == 0) then ((jU F (isub .i64 x168.1 x73)).bind fun x188 => ((qN F x75 x78 x79 (iconv .i64 x188)).bind fun x189 => km F rec5 x8 x74 x168 x189.1 x189.2.1 x189.2.2)) else ((qN F x75 x78 x79 (isub .i64 (isub .i64 x168.1 x73) 2)).bind fun x192 => km F rec5 x8 x74 x168 x192.1 x192.2.1 x192.2.2))) else some (x75, x78, x79))
def q7 (F : Nat) (x8 : Int) (x9 : List (Int × Int)) : Nat → (Int × Int × Int × List Int × Bool) → Option (Int × List Int × Bool)
  | 0 => fun _ => none
  | k + 1 => fun s => yj F x8 x9 (q7 F x8 x9 k) s.1 s.2.1 s.2.2.1 s.2.2.2.1 s.2.2.2.2
def vo (F : Nat) (x2 : Int) (x3 : List Int) (x6 : Bool) (x7 : Int) (x8 : Int) (x9 : List (Int × Int)) : Option (Int × List Int × Bool) :=
  ((qN F x2 x3 x6 (x9.length : Int)).bind fun x12 => q7 F x8 x9 F (x7, 0, x12.1, x12.2.1, x12.2.2))
def qaU (F : Nat) (x1 : Int) (x2 : Int) : Option (Int × Int × Int) :=
  ((kE F (iadd .u64 x1 1)).bind fun x3 => (chk ((x2 : Int) != 0) ((chk (decide (0 ≤ (imul .i64 (iquo .i64 (isub .i64 x3 1) x2) x2))) ((chk (decide (0 ≤ (iadd .i64 (imul .i64 (iquo .i64 (isub .i64 x3 1) x2) x2) x2))) (some (iquo .i64 (isub .i64 x3 1) x2, ishl .u64 1 (imul .i64 (iquo .i64 (isub .i64 x3 1) x2) x2), ishl .u64 1 (iadd .i64 (imul .i64 (iquo .i64 (isub .i64 x3 1) x2) x2) x2)))))))))
def jt (F : Nat) (x1 : Int) : Option (Int × Int) :=
  ((kE F (isub .u64 x1 1)).bind fun x2 => (chk (decide (0 ≤ x2)) (some (x2, isub .u64 (ishl .u64 1 x2) x1))))
def vY (F : Nat) (x1 : Int) (x2 : List Int) (x5 : Int) (x6 : Int) : Option (Int × List Int) :=
  ((jt F x6).bind fun x9 => (if (decide (x5 < x9.2)) then ((k6 F x1 x2 x5 (isub .i64 x9.1 1)).bind fun x14 => some (x14.1, x14.2)) else ((k6 F x1 x2 (iadd .u64 x5 x9.2) x9.1).bind fun x17 => some (x17.1, x17.2))))
def qaT (F : Nat) (x1 : Int) (x2 : Int) : Option (Int × List Int × Int) :=
  (if (((decide (x2 < 1)) || (decide (16 < x2))) || (decide (1099511627776 < x1))) then some (0, ([] : List Int), 3) else ((qaU F x1 x2).bind fun x9 => ((qa6 F (iconv .u64 x9.1)).bind fun x10 => ((vY F x10.1 x10.2 (isub .u64 (iadd .u64 x1 1) x9.2.1) (isub .u64 x9.2.2 x9.2.1)).bind fun x13 => some (x13.1, x13.2, 0)))))
def qdf (_F : Nat) (x107 : Int) (x110 : List Int) : Option (Int × List Int × Bool) :=
  some (x107, x110, true)
def qaR (F : Nat) (x5 : List Int) (x8 : Int) (rec3 : (Int × Int × List Int) → Option (Int × List Int × Bool)) (x141 : Int) (x142 : Int) (x145 : List Int) : Option (Int × List Int × Bool) :=
  (if (decide (x141 < (x5.length : Int))) then ((idx x5 x141).bind fun x192 => ((qaT F x192 x8).bind fun x195 => (if (((x195.2.2 : Int) != 0) || (decide (8192 < (iadd .i64 x142 x195.1)))) then some (0, ([] : List Int), false) else ((va F x142 x145 x195.1 x195.2.1).bind fun x202 => rec3 (iadd .i64 x141 1, x202.1, x202.2))))) else qdf F x142 x145)
def vK (F : Nat) (x5 : List Int) (x8 : Int) : Nat → (Int × Int × List Int) → Option (Int × List Int × Bool)
  | 0 => fun _ => none
  | k + 1 => fun s => qaR F x5 x8 (vK F x5 x8 k) s.1 s.2.1 s.2.2
def qac (F : Nat) (x1 : Int) (x2 : List Int) (x5 : List Int) (x8 : Int) : Option (Int × List Int × Bool) :=
  vK F x5 x8 F (0, x1, x2)
def js (_F : Nat) (x4 : Int) (x8 : Int) : Option (Int × Int × Bool) :=
  some (x8, x4, true)
def vW (F : Nat) (x2 : Int) (x3 : Bool) (x4 : Int) : Option (Int × Int × Bool) :=
  (if x3 then (lett (iconv .u64 (isub .i64 (isub .i64 x4 x2) 1)) fun x9 => js F x4 x9) else ((jU F (isub .i64 x4 x2)).bind fun x10 => js F x4 x10))
def qb4 (_F : Nat) (x75 : List Int) : Option (List Int) :=
  some x75
def qaS (F : Nat) (x1 : List Int) (rec3 : (List Int × Int × Int × Bool) → Option (List Int)) (x98 : List Int) (x99 : Int) (x100 : Int) (x101 : Bool) : Option (List Int) :=
  (if (decide (x99 < (x1.length : Int))) then ((idx x1 x99).bind fun x133 => ((vW F x100 x101 x133).bind fun x136 => ((app 8796093022208 x98 ([x136.1] : List Int)).bind fun x139 => rec3 (x139, iadd .i64 x99 1, x136.2.1, x136.2.2)))) else qb4 F x98)
def vL (F : Nat) (x1 : List Int) : Nat → (List Int × Int × Int × Bool) → Option (List Int)
  | 0 => fun _ => none
  | k + 1 => fun s => qaS F x1 (vL F x1 k) s.1 s.2.1 s.2.2.1 s.2.2.2
def qbA (F : Nat) (x1 : List Int) (x4 : Int) : Option (List Int) :=
  vL F x1 F (([] : List Int), 0, x4, false)
def kj (F : Nat) (x52 : Int) (x55 : List Int) (x56 : Bool) (x76 : Bool) (x77 : Int) (x80 : List Int) : Option (Int × List Int × Bool) :=
  ((kH F x52 x55 (x56 || (!x76)) x77 x80).bind fun x82 => some (x82.1, x82.2.1, x82.2.2))
def kh (F : Nat) (x7 : Int) (x16 : Int) (x51 : List Int) (x52 : Int) (x55 : List Int) (x56 : Bool) : Option (Int × List Int × Bool) :=
  ((qbA F x51 x7).bind fun x85 => ((qac F 0 ([] : List Int) x85 x16).bind fun x88 => kj F x52 x55 x56 x88.2.2 x88.1 x88.2.1))
def kg (F : Nat) (x7 : Int) (x15 : Int) (x16 : Int) (x33 : List Int) (x34 : Int) (x37 : List Int) (x38 : Bool) : Option (Int × List Int × Bool) :=
  (if (((x33.length : Int) : Int) == 0) then some (x34, x37, x38) else (if (decide (0 < x15)) then ((qcn F x33 x15).bind fun x103 => ((vo F x34 x37 x38 x7 x15 x103.1).bind fun x108 => kh F x7 x16 x103.2 x108.1 x108.2.1 x108.2.2)) else kh F x7 x16 x33 x34 x37 x38))
def yb (F : Nat) (x2 : Int) (x3 : List Int) (x6 : Bool) (x7 : Int) (x8 : List Int) (x11 : List Int) (x14 : Int) (x15 : Int) (x16 : Int) : Option (Int × List Int × Bool) :=
  ((qN F x2 x3 x6 (x8.length : Int)).bind fun x18 => (if (((x8.length : Int) : Int) == 0) then some (x18.1, x18.2.1, x18.2.2) else (if (decide (0 < x14)) then ((qbS F x11 x8).bind fun x113 => ((yF F x18.1 x18.2.1 x18.2.2 x113.1).bind fun x118 => kg F x7 x15 x16 x113.2 x118.1 x118.2.1 x118.2.2)) else kg F x7 x15 x16 x8 x18.1 x18.2.1 x18.2.2)))
def qbm (F : Nat) (x1 : Int) (x2 : List Int) (x5 : Int) (_x6 : Int) (_x7 : Int) : Option Int :=
  (if ((decide (x1 < 0)) || (decide (1048576 < x1))) then some 3 else (if (decide (0 < x5)) then ((yC F x2).bind fun x14 => some x14) else some 0))
def vD (F : Nat) (x1 : Int) (x2 : List Int) (x5 : List Int) (x8 : Int) (x9 : Int) (x10 : Int) (x25 : Int) : Option (Int × List Int × Int) :=
  (if ((x25 : Int) != 0) then some (0, ([] : List Int), x25) else ((yb F 0 ([] : List Int) false x1 x2 x5 x8 x9 x10).bind fun x28 => (if x28.2.2 then some (0, ([] : List Int), 8) else some (x28.1, x28.2.1, 0))))
def yp (F : Nat) (x1 : Int) (x2 : List Int) (x5 : List Int) (x8 : Int) (x9 : Int) (x10 : Int) (x22 : Int) : Option (Int × List Int × Int) :=
  (if ((x22 : Int) == 0) then ((qbm F x1 x5 x8 x9 x10).bind fun x34 => vD F x1 x2 x5 x8 x9 x10 x34) else vD F x1 x2 x5 x8 x9 x10 x22)
def yo (F : Nat) (x1 : Int) (x2 : List Int) (x5 : List Int) (x8 : Int) (x9 : Int) (x10 : Int) (x19 : Int) : Option (Int × List Int × Int) :=
  (if ((x19 : Int) == 0) then ((yC F x2).bind fun x36 => yp F x1 x2 x5 x8 x9 x10 x36) else yp F x1 x2 x5 x8 x9 x10 x19)
def vE (F : Nat) (x1 : Int) (x2 : List Int) (x5 : List Int) (x8 : Int) (x9 : Int) (x10 : Int) (x13 : Int) (x40 : Bool) : Option (Int × List Int × Int) :=
  (if x40 then yo F x1 x2 x5 x8 x9 x10 3 else yo F x1 x2 x5 x8 x9 x10 x13)
def qbl (F : Nat) (x1 : Int) (x2 : List Int) (x5 : List Int) (x8 : Int) (x9 : Int) (x10 : Int) : Option (Int × List Int × Int) :=
  ((jI F x8 x9 x10).bind fun x13 => (if ((x13 : Int) == 0) then vE F x1 x2 x5 x8 x9 x10 x13 ((decide (x1 < 0)) || (decide (1048576 < x1))) else vE F x1 x2 x5 x8 x9 x10 x13 false))
def jv (F : Nat) (x1 : List (List Int)) (x4 : List Int) (x7 : Int) (x9 : Int) (x10 : Int) (x18 : Int) (x21 : List Int) (x29 : List Int) : Option (Int × Int × List Int × Bool) :=
  ((qbl F (x1.length : Int) x4 x29 x7 x9 x10).bind fun x30 => (if (((x30.2.2 : Int) != 0) || (decide (8192 < (iadd .i64 x18 x30.1)))) then some (0, 0, ([] : List Int), false) else ((va F x18 x21 x30.1 x30.2.1).bind fun x37 => some (x7, x37.1, x37.2, true))))
def ju (F : Nat) (x1 : List (List Int)) (x4 : List Int) (x7 : Int) (x9 : Int) (x10 : Int) (x18 : Int) (x21 : List Int) : Option (Int × Int × List Int × Bool) :=
  (if (decide (0 < x7)) then ((idx x1 (isub .i64 (x1.length : Int) x7)).bind fun x41 => jv F x1 x4 x7 x9 x10 x18 x21 x41) else jv F x1 x4 x7 x9 x10 x18 x21 ([] : List Int))
def qbR (F : Nat) (x1 : List (List Int)) (x4 : List Int) (x7 : Int) (x8 : Int) (x9 : Int) (x10 : Int) : Option (Int × Int × List Int × Bool) :=
  (if (decide (0 < x8)) then ((yR F (iconv .u64 x7)).bind fun x46 => ju F x1 x4 x7 x9 x10 x46.1 x46.2) else ju F x1 x4 x7 x9 x10 0 ([] : List Int))
def qbC (_F : Nat) (x96 : Bool) (x97 : Int) (x98 : Int) (x101 : List Int) : Option (Int × Int × List Int × Bool) :=
  some (x97, x98, x101, x96)
def kM (_F : Nat) (rec14 : (Bool × Int × Int × Int × List Int) → Option (Int × Int × List Int × Bool)) (x126 : Int) (x169 : Bool) (x170 : Int) (x171 : Int) (x174 : List Int) : Option (Int × Int × List Int × Bool) :=
  rec14 (x169, iadd .i64 x126 1, x170, x171, x174)
def j3 (F : Nat) (rec14 : (Bool × Int × Int × Int × List Int) → Option (Int × Int × List Int × Bool)) (x125 : Bool) (x126 : Int) (x127 : Int) (x128 : Int) (x131 : List Int) (x175 : (Int × Int × List Int × Bool)) (x181 : Bool) : Option (Int × Int × List Int × Bool) :=
  (if x181 then kM F rec14 x126 true x175.1 x175.2.1 x175.2.2.1 else kM F rec14 x126 x125 x127 x128 x131)
def j2 (F : Nat) (x1 : List (List Int)) (x4 : List Int) (x7 : Int) (x8 : Int) (x9 : Int) (rec14 : (Bool × Int × Int × Int × List Int) → Option (Int × Int × List Int × Bool)) (x125 : Bool) (x126 : Int) (x127 : Int) (x128 : Int) (x131 : List Int) : Option (Int × Int × List Int × Bool) :=
  (if (decide (x126 < (iadd .i64 (imin x7 (x1.length : Int)) 1))) then ((qbR F x1 x4 x126 x7 x8 x9).bind fun x175 => (if x175.2.2.2 then j3 F rec14 x125 x126 x127 x128 x131 x175 ((!x125) || (decide (x175.2.1 < x128))) else j3 F rec14 x125 x126 x127 x128 x131 x175 false)) else qbC F x125 x127 x128 x131)
def zA (F : Nat) (x1 : List (List Int)) (x4 : List Int) (x7 : Int) (x8 : Int) (x9 : Int) : Nat → (Bool × Int × Int × Int × List Int) → Option (Int × Int × List Int × Bool)
  | 0 => fun _ => none
  | k + 1 => fun s => j2 F x1 x4 x7 x8 x9 (zA F x1 x4 x7 x8 x9 k) s.1 s.2.1 s.2.2.1 s.2.2.2.1 s.2.2.2.2
def qbQ (F : Nat) (x1 : List (List Int)) (x4 : List Int) (x7 : Int) (x8 : Int) (x9 : Int) : Option (Int × Int × List Int × Bool) :=
  zA F x1 x4 x7 x8 x9 F (false, 0, 0, 0, ([] : List Int))
def vi (_F : Nat) (x2 : Int) (x3 : Int) (x4 : Int) (x5 : Int) (x710 : Int) (x713 : List Int) (x716 : List Int) (x719 : List Int) : Option (Bool × Int × Int × Int × Int × Int × List Int × List Int × List Int) :=
  some (true, x2, x3, x4, x5, x710, x713, x716, x719)
def zN (F : Nat) (rec43 : (Int × Int × List Int × List Int × List Int) → Option (Bool × Int × Int × Int × Int × Int × List Int × List Int × List Int)) (x946 : Int) (x947 : Int) (x950 : List Int) (x1318 : Int) (x1321 : List Int) (x1358 : List Int) (x1361 : List Int) : Option (Bool × Int × Int × Int × Int × Int × List Int × List Int × List Int) :=
  ((va F x947 x950 x1318 x1321).bind fun x1362 => rec43 (iadd .i64 x946 1, x1362.1, x1362.2, x1358, x1361))
def zM (F : Nat) (rec43 : (Int × Int × List Int × List Int × List Int) → Option (Bool × Int × Int × Int × Int × Int × List Int × List Int × List Int)) (x2 : Int) (x3 : Int) (x4 : Int) (x5 : Int) (x946 : Int) (x947 : Int) (x950 : List Int) (x953 : List Int) (x956 : List Int) (x1317 : Int) (x1318 : Int) (x1321 : List Int) (x1327 : Bool) : Option (Bool × Int × Int × Int × Int × Int × List Int × List Int × List Int) :=
  (if x1327 then some (false, x2, x3, x4, x5, x947, x950, x953, x956) else ((app 8796093022208 x953 ([x1317] : List Int)).bind fun x1367 => ((app 8796093022208 x956 ([x947] : List Int)).bind fun x1372 => zN F rec43 x946 x947 x950 x1318 x1321 x1367 x1372)))
def kR (F : Nat) (rec43 : (Int × Int × List Int × List Int × List Int) → Option (Bool × Int × Int × Int × Int × Int × List Int × List Int × List Int)) (x2 : Int) (x3 : Int) (x4 : Int) (x5 : Int) (x946 : Int) (x947 : Int) (x950 : List Int) (x953 : List Int) (x956 : List Int) (x1316 : Bool) (x1317 : Int) (x1318 : Int) (x1321 : List Int) : Option (Bool × Int × Int × Int × Int × Int × List Int × List Int × List Int) :=
  (if (!x1316) then zM F rec43 x2 x3 x4 x5 x946 x947 x950 x953 x956 x1317 x1318 x1321 true else zM F rec43 x2 x3 x4 x5 x946 x947 x950 x953 x956 x1317 x1318 x1321 (decide (8192 < (iadd .i64 x947 x1318))))
def kQ (F : Nat) (x2 : Int) (x3 : Int) (x4 : Int) (x5 : Int) (x16 : List (List Int)) (rec43 : (Int × Int × List Int × List Int × List Int) → Option (Bool × Int × Int × Int × Int × Int × List Int × List Int × List Int)) (x946 : Int) (x947 : Int) (x950 : List Int) (x953 : List Int) (x956 : List Int) : Option (Bool × Int × Int × Int × Int × Int × List Int × List Int × List Int) :=
  (if (decide (x946 < (x16.length : Int))) then ((idx x16 x946).bind fun x1297 => ((sub x16 0 x946).bind fun x1395 => ((qbQ F x1395 x1297 x3 x4 x5).bind fun x1401 => kR F rec43 x2 x3 x4 x5 x946 x947 x950 x953 x956 x1401.2.2.2 x1401.1 x1401.2.1 x1401.2.2.1))) else vi F x2 x3 x4 x5 x947 x950 x953 x956)
def qw (F : Nat) (x2 : Int) (x3 : Int) (x4 : Int) (x5 : Int) (x16 : List (List Int)) : Nat → (Int × Int × List Int × List Int × List Int) → Option (Bool × Int × Int × Int × Int × Int × List Int × List Int × List Int)
  | 0 => fun _ => none
  | k + 1 => fun s => kQ F x2 x3 x4 x5 x16 (qw F x2 x3 x4 x5 x16 k) s.1 s.2.1 s.2.2.1 s.2.2.2.1 s.2.2.2.2
def qad (F : Nat) (x2 : Int) (x3 : Int) (x4 : Int) (x5 : Int) (x6 : Int) (x7 : List Int) (x10 : List Int) (x13 : List Int) (x16 : List (List Int)) : Option (Bool × Int × Int × Int × Int × Int × List Int × List Int × List Int) :=
  qw F x2 x3 x4 x5 x16 F (0, x6, x7, x10, x13)
def kX (_F : Nat) (x48 : Int) (x49 : Int) (x50 : Int) (x51 : Int) (x52 : Int) (x53 : Int) (x56 : List Int) (x59 : List Int) (x62 : List Int) : Option (Int × Int × Int × Int × Int × List Int × List Int × List Int × Int) :=
  some (x49, x50, x51, x52, x53, x56, x59, x62, x48)
def kY (F : Nat) (x12 : Int) (x74 : Bool) (x75 : Int) (x76 : Int) (x77 : Int) (x78 : Int) (x79 : Int) (x82 : List Int) (x85 : List Int) (x88 : List Int) : Option (Int × Int × Int × Int × Int × List Int × List Int × List Int × Int) :=
  (if x74 then kX F 8 x75 x76 x77 x78 x79 x82 x85 x88 else kX F x12 x75 x76 x77 x78 x79 x82 x85 x88)
def yV (F : Nat) (x1 : List (List Int)) (x4 : Int) (x5 : Int) (x6 : Int) (x12 : Int) : Option (Int × Int × Int × Int × Int × List Int × List Int × List Int × Int) :=
  (if ((x12 : Int) == 0) then ((qad F (x1.length : Int) x4 x5 x6 0 ([] : List Int) ([] : List Int) ([] : List Int) x1).bind fun x90 => kY F x12 (!x90.1) x90.2.1 x90.2.2.1 x90.2.2.2.1 x90.2.2.2.2.1 x90.2.2.2.2.2.1 x90.2.2.2.2.2.2.1 x90.2.2.2.2.2.2.2.1 x90.2.2.2.2.2.2.2.2) else kY F x12 false (x1.length : Int) x4 x5 x6 0 ([] : List Int) ([] : List Int) ([] : List Int))
def jP (F : Nat) (x1 : List (List Int)) (x4 : Int) (x5 : Int) (x6 : Int) : Option (Int × Int × Int × Int × Int × List Int × List Int × List Int × Int) :=
  ((qaV F x1).bind fun x9 => (if ((x9 : Int) == 0) then ((jI F x4 x5 x6).bind fun x97 => yV F x1 x4 x5 x6 x97) else yV F x1 x4 x5 x6 x9))
def qau (F : Nat) (x1 : List (List Int)) (x4 : Int) (x5 : Int) (x6 : Int) : Option (Int × Int × Int × Int × Int × List Int × Int) :=
  ((jP F x1 x4 x5 x6).bind fun x10 => (if ((x10.2.2.2.2.2.2.2.2 : Int) != 0) then some (0, 0, 0, 0, 0, ([] : List Int), x10.2.2.2.2.2.2.2.2) else some (x10.1, x10.2.1, x10.2.2.1, x10.2.2.2.1, x10.2.2.2.2.1, x10.2.2.2.2.2.1, 0)))
def qa5 (F : Nat) (x1 : List (List Int)) (x4 : Int) (x5 : Int) (x6 : Int) : Option (List Int × List Int × Int) :=
  ((jP F x1 x4 x5 x6).bind fun x9 => (if ((x9.2.2.2.2.2.2.2.2 : Int) != 0) then some (([] : List Int), ([] : List Int), x9.2.2.2.2.2.2.2.2) else some (x9.2.2.2.2.2.2.1, x9.2.2.2.2.2.2.2.1, 0)))
def qcE (_F : Nat) : Option Int :=
  some 0
def jZ (F : Nat) (x1 : List Int) (x4 : Int) (rec3 : (Int × Int) → Option Int) (x92 : Int) (x93 : Int) : Option Int :=
  (if (decide (x93 < (x1.length : Int))) then ((idx x1 x93).bind fun x125 => (if ((decide (x125 < 0)) || (decide (x4 < x125))) then some 3 else (if (decide (x125 < x92)) then some 4 else rec3 (x125, iadd .i64 x93 1)))) else qcE F)
def yl (F : Nat) (x1 : List Int) (x4 : Int) : Nat → (Int × Int) → Option Int
  | 0 => fun _ => none
  | k + 1 => fun s => jZ F x1 x4 (yl F x1 x4 k) s.1 s.2
def qam (F : Nat) (x1 : List Int) (x4 : Int) : Option Int :=
  (if ((decide (x4 < 0)) || (decide (1048576 < x4))) then some 3 else (if (decide (300 < (x1.length : Int))) then some 2 else yl F x1 x4 F (0, 0)))
def qcF (_F : Nat) (x35 : Int) : Option Int :=
  some x35
def yT (F : Nat) (rec13 : Int → Option Int) (x46 : Int) (x65 : Bool) : Option Int :=
  (if x65 then rec13 (iadd .i64 x46 1) else qcF F x46)
def jF (F : Nat) (x1 : Int) (x2 : Int) (rec13 : Int → Option Int) (x46 : Int) : Option Int :=
  (if (decide (0 < x1)) then (chk (decide (0 ≤ (iadd .i64 x46 1))) (yT F rec13 x46 (decide ((ishl .i64 x1 (iadd .i64 x46 1)) ≤ (iadd .i64 x2 1))))) else yT F rec13 x46 false)
def kn (F : Nat) (x1 : Int) (x2 : Int) : Nat → Int → Option Int
  | 0 => fun _ => none
  | k + 1 => fun s => jF F x1 x2 (kn F x1 x2 k) s
def qao (F : Nat) (x1 : Int) (x2 : Int) : Option Int :=
  kn F x1 x2 F 0
def ye (F : Nat) (x7 : Int) (rec1 : (Int × List Int × Int) → Option (Int × List Int × Int)) (x16 : Int) (x19 : List Int) (x20 : Int) : Option (Int × List Int × Int) :=
  (if (decide (x20 < x7)) then ((k6 F x16 x19 0 1).bind fun x34 => rec1 (x34.1, x34.2, iadd .i64 x20 1)) else some (x16, x19, x20))
def zB (F : Nat) (x7 : Int) : Nat → (Int × List Int × Int) → Option (Int × List Int × Int)
  | 0 => fun _ => none
  | k + 1 => fun s => ye F x7 (zB F x7 k) s.1 s.2.1 s.2.2
def k7 (F : Nat) (x2 : Int) (x3 : List Int) (x6 : Int) (x7 : Int) : Option (Int × List Int × Int) :=
  zB F x7 F (x2, x3, x6)
def qb3 (F : Nat) (x1 : List Int) (x4 : Int) (x6 : Int) (x174 : Int) (x177 : List Int) (x178 : Int) (x179 : Int) (x182 : List Int) : Option (Int × Int × Int × Int × List Int × Int × List Int × Bool) :=
  ((k7 F x174 x177 x178 (iadd .i64 (ishr .i64 x4 x6) 1)).bind fun x183 => some ((x1.length : Int), x4, x6, x179, x182, x183.1, x183.2.1, true))
def qaQ (F : Nat) (x1 : List Int) (x4 : Int) (x6 : Int) (rec3 : (Int × Int × List Int × Int × Int × List Int) → Option (Int × Int × Int × Int × List Int × Int × List Int × Bool)) (x239 : Int) (x240 : Int) (x243 : List Int) (x244 : Int) (x245 : Int) (x248 : List Int) : Option (Int × Int × Int × Int × List Int × Int × List Int × Bool) :=
  (if (decide (x239 < (x1.length : Int))) then ((idx x1 x239).bind fun x319 => (chk (decide (0 ≤ x6)) (((k6 F x245 x248 (iconv .u64 (iand .i64 x319 (isub .i64 (ishl .i64 1 x6) 1))) x6).bind fun x331 => (chk (decide (0 ≤ x6)) (((k7 F x240 x243 x244 (ishr .i64 x319 x6)).bind fun x335 => ((k6 F x335.1 x335.2.1 1 1).bind fun x338 => rec3 (iadd .i64 x239 1, x338.1, x338.2, x335.2.2, x331.1, x331.2))))))))) else qb3 F x1 x4 x6 x240 x243 x244 x245 x248)
def vJ (F : Nat) (x1 : List Int) (x4 : Int) (x6 : Int) : Nat → (Int × Int × List Int × Int × Int × List Int) → Option (Int × Int × Int × Int × List Int × Int × List Int × Bool)
  | 0 => fun _ => none
  | k + 1 => fun s => qaQ F x1 x4 x6 (vJ F x1 x4 x6 k) s.1 s.2.1 s.2.2.1 s.2.2.2.1 s.2.2.2.2.1 s.2.2.2.2.2
def qby (F : Nat) (x1 : List Int) (x4 : Int) : Option (Int × Int × Int × Int × List Int × Int × List Int × Bool) :=
  ((qao F (x1.length : Int) x4).bind fun x6 => (chk (decide (0 ≤ x6)) ((if ((decide (8192 < (imul .i64 (x1.length : Int) x6))) || (decide (8192 < (iadd .i64 (x1.length : Int) (iadd .i64 (ishr .i64 x4 x6) 1))))) then some (0, 0, 0, 0, ([] : List Int), 0, ([] : List Int), false) else vJ F x1 x4 x6 F (0, 0, ([] : List Int), 0, 0, ([] : List Int))))))
def qal (F : Nat) (x1 : List Int) (x4 : Int) : Option (Int × Int × Int × Int × List Int × Int × List Int × Int) :=
  ((qam F x1 x4).bind fun x8 => (if ((x8 : Int) != 0) then some (0, 0, 0, 0, ([] : List Int), 0, ([] : List Int), x8) else ((qby F x1 x4).bind fun x9 => (if (!x9.2.2.2.2.2.2.2) then some (0, 0, 0, 0, ([] : List Int), 0, ([] : List Int), 8) else some (x9.1, x9.2.1, x9.2.2.1, x9.2.2.2.1, x9.2.2.2.2.1, x9.2.2.2.2.2.1, x9.2.2.2.2.2.2.1, 0)))))
def vP (F : Nat) (x1 : List (List Int)) (x4 : Int) (x5 : Int) (x6 : Int) (x7 : Int) (x8 : Int) (x9 : List Int) : Option (Int × Int × Int × Int × Int × List Int × Int × Int × Int × Int × List Int × Int × List Int × Int) :=
  ((qa5 F x1 x5 x6 x7).bind fun x15 => (if ((x15.2.2 : Int) != 0) then some (0, 0, 0, 0, 0, ([] : List Int), 0, 0, 0, 0, ([] : List Int), 0, ([] : List Int), x15.2.2) else ((qal F x15.2.1 x8).bind fun x21 => (if ((x21.2.2.2.2.2.2.2 : Int) != 0) then some (0, 0, 0, 0, 0, ([] : List Int), 0, 0, 0, 0, ([] : List Int), 0, ([] : List Int), x21.2.2.2.2.2.2.2) else some (x4, x5, x6, x7, x8, x9, x21.1, x21.2.1, x21.2.2.1, x21.2.2.2.1, x21.2.2.2.2.1, x21.2.2.2.2.2.1, x21.2.2.2.2.2.2.1, 0)))))
def jT (F : Nat) (x1 : List (List Int)) (x4 : Int) (x5 : Int) (x6 : Int) : Option (Int × Int × Int × Int × Int × List Int × Int × Int × Int × Int × List Int × Int × List Int × Int) :=
  ((qau F x1 x4 x5 x6).bind fun x10 => (if ((x10.2.2.2.2.2.2 : Int) != 0) then some (0, 0, 0, 0, 0, ([] : List Int), 0, 0, 0, 0, ([] : List Int), 0, ([] : List Int), x10.2.2.2.2.2.2) else ((vP F x1 x10.1 x10.2.1 x10.2.2.1 x10.2.2.2.1 x10.2.2.2.2.1 x10.2.2.2.2.2.1).bind fun x15 => some (x15.1, x15.2.1, x15.2.2.1, x15.2.2.2.1, x15.2.2.2.2.1, x15.2.2.2.2.2.1, x15.2.2.2.2.2.2.1, x15.2.2.2.2.2.2.2.1, x15.2.2.2.2.2.2.2.2.1, x15.2.2.2.2.2.2.2.2.2.1, x15.2.2.2.2.2.2.2.2.2.2.1, x15.2.2.2.2.2.2.2.2.2.2.2.1, x15.2.2.2.2.2.2.2.2.2.2.2.2.1, x15.2.2.2.2.2.2.2.2.2.2.2.2.2))))
def vw (_F : Nat) (x36 : Bool) : Option Int :=
  (if x36 then some 1 else some 0)
def jD (F : Nat) (x1 : Int) (x2 : List Int) : Option Int :=
  (if ((decide (x1 < 0)) || (decide (8192 < x1))) then some 3 else (if (((x2.length : Int) : Int) != (iquo .i64 (iadd .i64 x1 7) 8)) then some 1 else (if (((irem x1 8) : Int) != 0) then ((idx x2 (isub .i64 (x2.length : Int) 1)).bind fun x39 => (chk (decide (0 ≤ (irem x1 8))) (vw F (((ishl .u8 x39 (irem x1 8)) : Int) != 0)))) else vw F false)))
def qbh (F : Nat) (x1 : Int) (x2 : Int) (x3 : Int) (x4 : Int) (x5 : Int) (x6 : List Int) : Option Int :=
  (if ((decide (x1 < 0)) || (decide (100 < x1))) then some 3 else ((jI F x2 x3 x4).bind fun x15 => (if ((x15 : Int) != 0) then some x15 else ((jD F x5 x6).bind fun x16 => some x16))))
def qcH (_F : Nat) : Option (Int × Int × Bool) :=
  some (0, 0, false)
def qab (F : Nat) (x1 : Int) (x2 : List Int) (x5 : Int) (rec3 : Int → Option (Int × Int × Bool)) (x33 : Int) : Option (Int × Int × Bool) :=
  (if (decide (x33 < x1)) then ((vI F x1 x2 x33).bind fun x44 => (if ((x44 : Int) == 1) then some (iconv .u64 (isub .i64 x33 x5), iadd .i64 x33 1, true) else rec3 (iadd .i64 x33 1))) else qcH F)
def yq (F : Nat) (x1 : Int) (x2 : List Int) (x5 : Int) : Nat → Int → Option (Int × Int × Bool)
  | 0 => fun _ => none
  | k + 1 => fun s => qab F x1 x2 x5 (yq F x1 x2 x5 k) s
def qax (F : Nat) (x1 : Int) (x2 : List Int) (x5 : Int) : Option (Int × Int × Bool) :=
  yq F x1 x2 x5 F x5
def jM (F : Nat) (x1 : Int) (x2 : List Int) (x5 : Int) : Option (Int × Int × Int) :=
  ((qax F x1 x2 x5).bind fun x7 => (if (!x7.2.2) then some (0, 0, 7) else some (x7.1, x7.2.1, 0)))
def qbv (_F : Nat) (x24 : Int) : Option (Int × Bool) :=
  some (x24, true)
def qak (F : Nat) (x1 : Int) (x2 : List Int) (x5 : Int) (x6 : Int) (rec3 : (Int × Int) → Option (Int × Bool)) (x29 : Int) (x30 : Int) : Option (Int × Bool) :=
  (if (decide (x30 < x6)) then ((vI F x1 x2 (iadd .i64 x5 x30)).bind fun x38 => rec3 (ior .u64 (ishl .u64 x29 1) x38, iadd .i64 x30 1)) else qbv F x29)
def yP (F : Nat) (x1 : Int) (x2 : List Int) (x5 : Int) (x6 : Int) : Nat → (Int × Int) → Option (Int × Bool)
  | 0 => fun _ => none
  | k + 1 => fun s => qak F x1 x2 x5 x6 (yP F x1 x2 x5 x6 k) s.1 s.2
def yw (F : Nat) (x1 : Int) (x2 : List Int) (x5 : Int) (x6 : Int) : Option (Int × Bool) :=
  (if (decide ((isub .i64 x1 x5) < x6)) then some (0, false) else yP F x1 x2 x5 x6 F (0, 0))
def zn (F : Nat) (x1 : Int) (x2 : List Int) (x5 : Int) : Option (Int × Int × Int) :=
  ((jM F x1 x2 x5).bind fun x7 => (if ((x7.2.2 : Int) != 0) then some (0, 0, x7.2.2) else (if (decide (64 ≤ x7.1)) then some (0, 0, 3) else ((yw F x1 x2 x7.2.1 (iconv .i64 x7.1)).bind fun x10 => (if (!x10.2) then some (0, 0, 7) else (chk (decide (0 ≤ x7.1)) ((lett (iadd .u64 x10.1 (isub .u64 (ishl .u64 1 x7.1) 1)) fun x16 => (if (decide (1099511627776 < x16)) then some (0, 0, 3) else some (x16, iadd .i64 x7.2.1 (iconv .i64 x7.1), 0))))))))))
def yB (F : Nat) (x1 : Int) (x2 : List Int) (x5 : Int) : Option (Int × Int × Int) :=
  ((zn F x1 x2 x5).bind fun x7 => some (x7.1, x7.2.1, x7.2.2))
def qaW (_F : Nat) (x13 : (Int × Int × Int)) (x18 : Bool) : Option (Int × Int × Bool) :=
  (if x18 then some (0, 0, false) else some (iconv .i64 x13.1, x13.2.1, true))
def qbB (F : Nat) (_x1 : Int) (x2 : Int) (_x3 : Int) (_x4 : Int) (x5 : Int) (x6 : List Int) (x9 : Int) (x10 : Int) : Option (Int × Int × Bool) :=
  (if ((x2 : Int) == 0) then some (0, x9, true) else ((yB F x5 x6 x9).bind fun x13 => (if ((x13.2.2 : Int) != 0) then qaW F x13 true else qaW F x13 (decide ((iconv .u64 (imin x2 x10)) < x13.1)))))
def ka (_F : Nat) (x1 : Bool) : Option (Unit ⊕ Unit) :=
  (if (!x1) then some (.inr ()) else some (.inl ()))
def q8 (F : Nat) (x2 : Int) (x3 : List Int) (x6 : Int) (x7 : Int) : Option ((Int × Int × Int) ⊕ (Int × Int)) :=
  ((yB F x2 x3 x6).bind fun x9 => (lbnd (ka F (((x9.2.2 : Int) == 0) && (decide (x9.1 ≤ (iconv .u64 x7))))) (fun _x11 => some (.inl (iconv .i64 x9.1, x2, x9.2.1))) (fun _x12 => some (.inr (x2, x6)))))
def qav (_F : Nat) (x4 : Int) (x99 : Int) : Option Int :=
  (if (decide (x4 < x99)) then some 8 else some 0)
def ja (_F : Nat) (rec23 : (Int × Int) → Option Int) (x4 : Int) (x132 : Int) (x133 : Int) (x180 : Int) (x190 : Bool) : Option Int :=
  (if x190 then some 3 else (lett (imin (iadd .i64 x132 (imin x180 (iadd .i64 x4 1))) (iadd .i64 x4 1)) fun x191 => rec23 (x191, iadd .i64 x133 1)))
def v8 (F : Nat) (x1 : List Int) (x4 : Int) (rec23 : (Int × Int) → Option Int) (x132 : Int) (x133 : Int) : Option Int :=
  (if (decide (x133 < (x1.length : Int))) then ((idx x1 x133).bind fun x180 => (if (decide (x180 < 0)) then ja F rec23 x4 x132 x133 x180 true else ja F rec23 x4 x132 x133 x180 ((decide (x180 < 1)) && (decide (0 < x133))))) else qav F x4 x132)
def zO (F : Nat) (x1 : List Int) (x4 : Int) : Nat → (Int × Int) → Option Int
  | 0 => fun _ => none
  | k + 1 => fun s => v8 F x1 x4 (zO F x1 x4 k) s.1 s.2
def qaX (F : Nat) (x1 : List Int) (x4 : Int) : Option Int :=
  (if (decide ((iadd .i64 x4 1) < (x1.length : Int))) then some 2 else zO F x1 x4 F (0, 0))
def jb (_F : Nat) (x169 : List Int) : Option (List Int) :=
  some x169
def qaw (F : Nat) (x158 : List Int) (x161 : List Int) (x162 : Bool) : Option (List Int) :=
  (if x162 then ((app 8796093022208 x161 x158).bind fun x170 => jb F x170) else jb F x161)
def vk (_F : Nat) (rec10 : (List Int × List Int × Bool × Int) → Option (List Int)) (x217 : List Int) (x221 : Bool) (x222 : Int) (x296 : Int) (x308 : List Int) : Option (List Int) :=
  ((sub x217 x296 (x217.length : Int)).bind fun x309 => rec10 (x309, x308, (!x221), iadd .i64 x222 1))
def vj (F : Nat) (x4 : List Int) (rec10 : (List Int × List Int × Bool × Int) → Option (List Int)) (x217 : List Int) (x220 : List Int) (x221 : Bool) (x222 : Int) : Option (List Int) :=
  (if (decide (x222 < (x4.length : Int))) then ((idx x4 x222).bind fun x296 => (if x221 then ((sub x217 0 x296).bind fun x312 => ((app 8796093022208 x220 x312).bind fun x315 => vk F rec10 x217 x221 x222 x296 x315)) else vk F rec10 x217 x221 x222 x296 x220)) else qaw F x217 x220 x221)
def zG (F : Nat) (x4 : List Int) : Nat → (List Int × List Int × Bool × Int) → Option (List Int)
  | 0 => fun _ => none
  | k + 1 => fun s => vj F x4 (zG F x4 k) s.1 s.2.1 s.2.2.1 s.2.2.2
def qbF (F : Nat) (x1 : List Int) (x4 : List Int) : Option (List Int) :=
  zG F x4 F (x1, ([] : List Int), true, 0)
def vz (F : Nat) (x1 : List Int) (x4 : List Int) (x10 : Int) : Option (List Int × Int) :=
  (if ((x10 : Int) != 0) then some (([] : List Int), x10) else ((qbF F x1 x4).bind fun x12 => some (x12, 0)))
def qbi (F : Nat) (x1 : List Int) (x4 : List Int) : Option (List Int × Int) :=
  ((yC F x1).bind fun x7 => (if ((x7 : Int) == 0) then ((qaX F x4 (x1.length : Int)).bind fun x16 => vz F x1 x4 x16) else vz F x1 x4 x7))
def yX (_F : Nat) (x72 : List Int) (x73 : Int) (x74 : Int) : Option ((List Int × Int × Int) ⊕ (Int × Int)) :=
  some (.inl (x72, x73, x74))
def kG (F : Nat) (x3 : List Int) (x7 : Int) (x10 : List Int) (rec3 : (List Int × Int × Int × Int) → Option ((List Int × Int × Int) ⊕ (Int × Int))) (x93 : List Int) (x94 : Int) (x95 : Int) (x96 : Int) : Option ((List Int × Int × Int) ⊕ (Int × Int)) :=
  (if (decide (x94 < (x10.length : Int))) then (lbnd (q8 F x95 x3 x96 x7) (fun x125 => ((idx x93 x94).bind fun _x127 => (lett (x93.set x94.toNat (iadd .i64 x125.1 (imin x94 1))) fun x130 => rec3 (x130, iadd .i64 x94 1, x125.2.1, x125.2.2)))) (fun x126 => some (.inr (x126.1, x126.2)))) else yX F x93 x95 x96)
def zr (F : Nat) (x3 : List Int) (x7 : Int) (x10 : List Int) : Nat → (List Int × Int × Int × Int) → Option ((List Int × Int × Int) ⊕ (Int × Int))
  | 0 => fun _ => none
  | k + 1 => fun s => kG F x3 x7 x10 (zr F x3 x7 x10 k) s.1 s.2.1 s.2.2.1 s.2.2.2
def yE (F : Nat) (x2 : Int) (x3 : List Int) (x6 : Int) (x7 : Int) : Option ((List Int × Int × Int) ⊕ (Int × Int)) :=
  (lbnd (q8 F x2 x3 x6 (iadd .i64 x7 1)) (fun x8 => ((mk 17592186044416 (0 : Int) x8.1).bind fun x10 => zr F x3 x7 x10 F (x10, 0, x8.2.1, x8.2.2))) (fun x9 => some (.inr (x9.1, x9.2))))
def vF (_F : Nat) (x1 : Int) : Option Int :=
  (lett (ixor .i64 (iconv .i64 (ishr .u64 x1 1)) (isub .i64 0 (iconv .i64 (iand .u64 x1 1)))) fun x2 => some x2)
def vQ (_F : Nat) (x136 : List (Int × Int)) (x137 : Int) (x138 : Int) : Option ((List (Int × Int) × Int × Int) ⊕ (Int × Int)) :=
  some (.inl (x136, x137, x138))
def zV (F : Nat) (rec13 : (List (Int × Int) × Int × Int × Int × Int) → Option ((List (Int × Int) × Int × Int) ⊕ (Int × Int))) (x3 : List Int) (x8 : Int) (x9 : Int) (x177 : List (Int × Int)) (x179 : Int) (x240 : (Int × Int × Int)) (x244 : Int) : Option ((List (Int × Int) × Int × Int) ⊕ (Int × Int)) :=
  (lbnd (q8 F x240.2.1 x3 x240.2.2 x9) (fun x245 => ((idx x177 x179).bind fun _x247 => (lett (x177.set x179.toNat (x244, iadd .i64 x245.1 x8)) fun x250 => ((idx x250 x179).bind fun x253 => rec13 (x250, iadd .i64 x244 (isub .i64 x253.2 1), iadd .i64 x179 1, x245.2.1, x245.2.2))))) (fun x246 => some (.inr (x246.1, x246.2))))
def kU (F : Nat) (x3 : List Int) (x8 : Int) (x9 : Int) (x13 : List (Int × Int)) (rec13 : (List (Int × Int) × Int × Int × Int × Int) → Option ((List (Int × Int) × Int × Int) ⊕ (Int × Int))) (x177 : List (Int × Int)) (x178 : Int) (x179 : Int) (x180 : Int) (x181 : Int) : Option ((List (Int × Int) × Int × Int) ⊕ (Int × Int)) :=
  (if (decide (x179 < (x13.length : Int))) then (lbnd (q8 F x180 x3 x181 2097152) (fun x240 => (if ((x179 : Int) == 0) then ((vF F (iconv .u64 x240.1)).bind fun x256 => zV F rec13 x3 x8 x9 x177 x179 x240 (iadd .i64 x178 x256)) else zV F rec13 x3 x8 x9 x177 x179 x240 (iadd .i64 x178 (iadd .i64 x240.1 2)))) (fun x241 => some (.inr (x241.1, x241.2)))) else vQ F x177 x180 x181)
def qV (F : Nat) (x3 : List Int) (x8 : Int) (x9 : Int) (x13 : List (Int × Int)) : Nat → (List (Int × Int) × Int × Int × Int × Int) → Option ((List (Int × Int) × Int × Int) ⊕ (Int × Int))
  | 0 => fun _ => none
  | k + 1 => fun s => kU F x3 x8 x9 x13 (qV F x3 x8 x9 x13 k) s.1 s.2.1 s.2.2.1 s.2.2.2.1 s.2.2.2.2
def vn (F : Nat) (x2 : Int) (x3 : List Int) (x6 : Int) (x7 : Int) (x8 : Int) (x9 : Int) : Option ((List (Int × Int) × Int × Int) ⊕ (Int × Int)) :=
  (chk ((x8 : Int) != 0) ((lbnd (q8 F x2 x3 x6 (iquo .i64 x9 x8)) (fun x11 => ((mk 8796093022208 (((0 : Int), (0 : Int)) : (Int × Int)) x11.1).bind fun x13 => qV F x3 x8 x9 x13 F (x13, x7, 0, x11.2.1, x11.2.2))) (fun x12 => some (.inr (x12.1, x12.2))))))
def yL (_F : Nat) (x15 : List Int) : Option (List Int) :=
  some x15
def yg (F : Nat) (x1 : List Int) (c3 : Nat) (x4 : Int) : Option (List Int) :=
  (if (decide (x4 < 0)) then none else (lett (isub .i64 x4 (isub .i64 (c3 : Int) (x1.length : Int))) fun x16 => (if (decide (0 < x16)) then ((sub x1 0 (c3 : Int)).bind fun x17 => ((appz 8796093022208 x17 (0 : Int) x16).bind fun x18 => ((sub x18 0 (x1.length : Int)).bind fun x21 => yL F x21))) else yL F x1)))
def k8 (_F : Nat) (x102 : List Int) : Option (List Int) :=
  some x102
def qu (F : Nat) (x1 : List (List Int)) (rec5 : (List Int × Int) → Option (List Int)) (x121 : List Int) (x122 : Int) : Option (List Int) :=
  (if (decide (x122 < (x1.length : Int))) then ((idx x1 x122).bind fun x148 => ((app 8796093022208 x121 x148).bind fun x152 => rec5 (x152, iadd .i64 x122 1))) else k8 F x121)
def qy (F : Nat) (x1 : List (List Int)) : Nat → (List Int × Int) → Option (List Int)
  | 0 => fun _ => none
  | k + 1 => fun s => qu F x1 (qy F x1 k) s.1 s.2
def zx (F : Nat) (x1 : List (List Int)) (x43 : Int) : Option (List Int) :=
  ((yg F ([] : List Int) 0 x43).bind fun x44 => qy F x1 F (x44, 0))
def qv (F : Nat) (x1 : List (List Int)) (rec6 : (Int × Int) → Option (List Int)) (x168 : Int) (x169 : Int) : Option (List Int) :=
  (if (decide (x169 < (x1.length : Int))) then ((idx x1 x169).bind fun x189 => (if (decide ((iadd .i64 x168 (x189.length : Int)) < 0)) then none else rec6 (iadd .i64 x168 (x189.length : Int), iadd .i64 x169 1))) else zx F x1 x168)
def qz (F : Nat) (x1 : List (List Int)) : Nat → (Int × Int) → Option (List Int)
  | 0 => fun _ => none
  | k + 1 => fun s => qv F x1 (qz F x1 k) s.1 s.2
def q9 (F : Nat) (x1 : List (List Int)) : Option (List Int) :=
  qz F x1 F (0, 0)
def q5 (_F : Nat) (x1 : List Int) : Option (List Int) :=
  if x1.length < 4611686018427387904 then some (srt x1) else none
def jS (_F : Nat) (x1 : Int) (x2 : Int) (x3 : Int) : Option Bool :=
  some ((decide (x2 ≤ x1)) && (decide (x1 ≤ x3)))
def qbT (_F : Nat) (x462 : List Int) : Option (List Int × Int) :=
  some (x462, 0)
def jl (_F : Nat) (rec32 : (List Int × Int) → Option (List Int × Int)) (x561 : Int) (x706 : List Int) : Option (List Int × Int) :=
  rec32 (x706, iadd .i64 x561 1)
def jh (F : Nat) (rec32 : (List Int × Int) → Option (List Int × Int)) (x561 : Int) (x707 : (Int × Int)) (rec35 : (List Int × Int) → Option (List Int × Int)) (x725 : List Int) (x726 : Int) : Option (List Int × Int) :=
  (if (decide (x726 < x707.2)) then ((app 8796093022208 x725 ([iadd .i64 x707.1 x726] : List Int)).bind fun x748 => rec35 (x748, iadd .i64 x726 1)) else jl F rec32 x561 x725)
def kF (F : Nat) (rec32 : (List Int × Int) → Option (List Int × Int)) (x561 : Int) (x707 : (Int × Int)) : Nat → (List Int × Int) → Option (List Int × Int)
  | 0 => fun _ => none
  | k + 1 => fun s => jh F rec32 x561 x707 (kF F rec32 x561 x707 k) s.1 s.2
def jg (F : Nat) (x1 : List (Int × Int)) (rec32 : (List Int × Int) → Option (List Int × Int)) (x560 : List Int) (x561 : Int) : Option (List Int × Int) :=
  (if (decide (x561 < (x1.length : Int))) then ((idx x1 x561).bind fun x707 => kF F rec32 x561 x707 F (x560, 0)) else qbT F x560)
def qU (F : Nat) (x1 : List (Int × Int)) : Nat → (List Int × Int) → Option (List Int × Int)
  | 0 => fun _ => none
  | k + 1 => fun s => jg F x1 (qU F x1 k) s.1 s.2
def jk (F : Nat) (x1 : List (Int × Int)) : Option (List Int × Int) :=
  qU F x1 F (([] : List Int), 0)
def yD (_F : Nat) (rec44 : (Int × Int) → Option (List Int × Int)) (x807 : Int) (x808 : Int) (x891 : (Int × Int)) (x910 : Bool) : Option (List Int × Int) :=
  (if x910 then some (([] : List Int), 3) else (if (decide (x891.1 < (iadd .i64 x807 2))) then some (([] : List Int), 4) else rec44 (isub .i64 (iadd .i64 x891.1 x891.2) 1, iadd .i64 x808 1)))
def ji (F : Nat) (x1 : List (Int × Int)) (rec44 : (Int × Int) → Option (List Int × Int)) (x807 : Int) (x808 : Int) : Option (List Int × Int) :=
  (if (decide (x808 < (x1.length : Int))) then ((idx x1 x808).bind fun x891 => ((jS F x891.1 0 1048576).bind fun x913 => (if (!x913) then yD F rec44 x807 x808 x891 (!x913) else ((jS F x891.2 1 300).bind fun x914 => (if (!x914) then yD F rec44 x807 x808 x891 (!x914) else yD F rec44 x807 x808 x891 (decide (1048576 < (isub .i64 (iadd .i64 x891.1 x891.2) 1)))))))) else jk F x1)
def zQ (F : Nat) (x1 : List (Int × Int)) : Nat → (Int × Int) → Option (List Int × Int)
  | 0 => fun _ => none
  | k + 1 => fun s => ji F x1 (zQ F x1 k) s.1 s.2
def qa0 (F : Nat) (x1 : List (Int × Int)) : Option (List Int × Int) :=
  (if (decide (300 < (x1.length : Int))) then some (([] : List Int), 2) else zQ F x1 F (-2, 0))
def zC (_F : Nat) (x1 : List Int) : Option (List Int) :=
  if (Go.Lib.compact x1).length ≤ x1.length then some (Go.Lib.compact x1) else none
def kT (_F : Nat) (x1 : List Int) : Option (List Int) :=
  ((app 8796093022208 ([] : List Int) x1).bind fun x8 => some x8)
def vA (F : Nat) (x4 : List Int) (x7 : (List Int × Int)) (x12 : Int) : Option (List Int × Int) :=
  (if ((x12 : Int) != 0) then some (([] : List Int), x12) else ((q9 F ([x7.1, x4] : List (List Int))).bind fun x16 => ((q5 F x16).bind fun x19 => (chk (decide (x19.length = x16.length)) (((kT F x19).bind fun x29 => ((zC F x29).bind fun x32 => (if (decide ((x32.length : Int) < (x19.length : Int))) then some (([] : List Int), 6) else (if (decide (300 < (x19.length : Int))) then some (([] : List Int), 2) else some (x19, 0))))))))))
def qbj (F : Nat) (x1 : List (Int × Int)) (x4 : List Int) : Option (List Int × Int) :=
  ((qa0 F x1).bind fun x7 => (if ((x7.2 : Int) == 0) then ((yC F x4).bind fun x38 => vA F x4 x7 x38) else vA F x4 x7 x7.2))
def q4 (F : Nat) (x1 : Int) (x2 : List Int) (x5 : Int) (x8 : (Int × Int)) : Option (Int × Int × Bool) :=
  ((yw F x1 x2 x5 x8.1).bind fun x14 => some (isub .u64 x14.1 x8.2, iadd .i64 x5 x8.1, x14.2))
def qX (F : Nat) (x1 : Int) (x2 : List Int) (x5 : Int) (x6 : Int) : Option (Int × Int × Bool) :=
  ((jt F x6).bind fun x8 => (if (decide (0 < x8.2)) then ((yw F x1 x2 x5 (isub .i64 x8.1 1)).bind fun x15 => (if (!x15.2) then some (0, 0, false) else (if (decide (x15.1 < x8.2)) then some (x15.1, isub .i64 (iadd .i64 x5 x8.1) 1, true) else q4 F x1 x2 x5 x8))) else q4 F x1 x2 x5 x8))
def qaq (_F : Nat) (x1 : Int) (x2 : Int) (x3 : Bool) : Option (Int × Int × Int) :=
  (if (!x3) then some (0, 0, 7) else (if (decide (1099511627776 < x1)) then some (0, 0, 3) else some (x1, x2, 0)))
def vX (F : Nat) (x1 : Int) (x2 : List Int) (x5 : Int) (x6 : Int) : Option (Int × Int × Int) :=
  ((qax F x1 x2 x5).bind fun x8 => (if (!x8.2.2) then some (0, 0, 7) else (if (decide (41 ≤ (imul .u64 x8.1 (iconv .u64 x6)))) then some (0, 0, 3) else (chk (decide (0 ≤ (imul .i64 (iconv .i64 x8.1) x6))) ((lett (ishl .u64 1 (imul .i64 (iconv .i64 x8.1) x6)) fun x12 => (chk (decide (0 ≤ x6)) (((qX F x1 x2 x8.2.1 (isub .u64 (ishl .u64 x12 x6) x12)).bind fun x20 => ((qaq F (isub .u64 (iadd .u64 x12 x20.1) 1) x20.2.1 x20.2.2).bind fun x21 => some (x21.1, x21.2.1, x21.2.2)))))))))))
def kd (F : Nat) (x8 : Int) : Option (Bool × Int × Bool) :=
  ((qa4 F x8).bind fun x9 => some (x9, x8, true))
def zF (F : Nat) (x2 : Int) (x3 : Bool) (x4 : Int) : Option (Bool × Int × Bool) :=
  (if (decide (2097152 < x4)) then some (false, x2, x3) else (if x3 then kd F (iadd .i64 x2 (iadd .i64 (iconv .i64 x4) 1)) else ((vF F x4).bind fun x10 => kd F (iadd .i64 x2 x10))))
def qbz (_F : Nat) (x105 : Int) (x108 : List Int) : Option (List Int × Int × Int) :=
  some (x108, x105, 0)
def qap (F : Nat) (x1 : Int) (x2 : List Int) (x7 : Int) (x8 : Int) (rec3 : (Int × List Int × Int × Int × Bool) → Option (List Int × Int × Int)) (x138 : Int) (x141 : List Int) (x142 : Int) (x143 : Int) (x144 : Bool) : Option (List Int × Int × Int) :=
  (if (decide (x142 < x8)) then ((vX F x1 x2 x138 x7).bind fun x190 => (if ((x190.2.2 : Int) != 0) then some (([] : List Int), 0, x190.2.2) else ((zF F x143 x144 x190.1).bind fun x193 => (if (!x193.1) then some (([] : List Int), 0, 3) else ((app 8796093022208 x141 ([x193.2.1] : List Int)).bind fun x196 => rec3 (x190.2.1, x196, iadd .i64 x142 1, x193.2.1, x193.2.2)))))) else qbz F x138 x141)
def yU (F : Nat) (x1 : Int) (x2 : List Int) (x7 : Int) (x8 : Int) : Nat → (Int × List Int × Int × Int × Bool) → Option (List Int × Int × Int)
  | 0 => fun _ => none
  | k + 1 => fun s => qap F x1 x2 x7 x8 (yU F x1 x2 x7 x8 k) s.1 s.2.1 s.2.2.1 s.2.2.2.1 s.2.2.2.2
def qbO (F : Nat) (x1 : Int) (x2 : List Int) (x5 : Int) (x6 : Int) (x7 : Int) (x8 : Int) : Option (List Int × Int × Int) :=
  yU F x1 x2 x7 x8 F (x5, ([] : List Int), 0, x6, false)
def kf (F : Nat) (x3 : List Int) (x7 : Int) (x13 : Int) (x15 : (Int × Int × Int)) (x31 : List Int) (x42 : List (Int × Int)) (x43 : Int) (x44 : Int) : Option ((List Int × Int × Int) ⊕ (Int × Int)) :=
  ((qbj F x42 ([] : List Int)).bind fun x45 => (lbnd (ka F (((x45.2 : Int) == 0) && (decide ((x45.1.length : Int) ≤ (isub .i64 x15.1 (x31.length : Int)))))) (fun _x49 => ((qbO F x43 x3 x44 x7 x13 (isub .i64 (isub .i64 x15.1 (x31.length : Int)) (x45.1.length : Int))).bind fun x54 => (lbnd (ka F ((x54.2.2 : Int) == 0)) (fun _x57 => ((q9 F ([x31, x45.1, x54.1] : List (List Int))).bind fun x61 => ((q5 F x61).bind fun x64 => (chk (decide (x64.length = x61.length)) (some (.inl (x64, x43, x54.2.1))))))) (fun _x58 => some (.inr (x43, x44)))))) (fun _x50 => some (.inr (x43, x44)))))
def ke (F : Nat) (x3 : List Int) (x7 : Int) (x12 : Int) (x13 : Int) (x15 : (Int × Int × Int)) (x31 : List Int) (x32 : Int) (x33 : Int) : Option ((List Int × Int × Int) ⊕ (Int × Int)) :=
  (if (((isub .i64 x15.1 (x31.length : Int)) : Int) == 0) then some (.inl (x31, x32, x33)) else (if (decide (0 < x12)) then (lbnd (vn F x32 x3 x33 x7 x12 (isub .i64 x15.1 (x31.length : Int))) (fun x66 => kf F x3 x7 x13 x15 x31 x66.1 x66.2.1 x66.2.2) (fun x67 => some (.inr (x67.1, x67.2)))) else kf F x3 x7 x13 x15 x31 ([] : List (Int × Int)) x32 x33))
def k9 (F : Nat) (x2 : Int) (x3 : List Int) (x6 : Int) (x7 : Int) (x8 : List Int) (x11 : Int) (x12 : Int) (x13 : Int) : Option ((List Int × Int × Int) ⊕ (Int × Int)) :=
  (lbnd (q8 F x2 x3 x6 300) (fun x15 => (if ((x15.1 : Int) == 0) then some (.inl (([] : List Int), x15.2.1, x15.2.2)) else (if (decide (0 < x11)) then (lbnd (yE F x15.2.1 x3 x15.2.2 (x8.length : Int)) (fun x72 => ((qbi F x8 x72.1).bind fun x76 => (lbnd (ka F (((x76.2 : Int) == 0) && (decide ((x76.1.length : Int) ≤ x15.1)))) (fun _x80 => ke F x3 x7 x12 x13 x15 x76.1 x72.2.1 x72.2.2) (fun _x81 => some (.inr (x72.2.1, x72.2.2)))))) (fun x73 => some (.inr (x73.1, x73.2)))) else ke F x3 x7 x12 x13 x15 ([] : List Int) x15.2.1 x15.2.2))) (fun x16 => some (.inr (x16.1, x16.2))))
def qaD (_F : Nat) (x17 : (List Int × Int × Int)) : Option (List Int × Bool × Int × Int) :=
  some (x17.1, true, x17.2.1, x17.2.2)
def yh (F : Nat) (x3 : List Int) (x6 : Int) (x17 : (List Int × Int × Int)) (x25 : (Int × List Int × Bool)) (rec4 : Int → Option (List Int × Bool × Int × Int)) (x75 : Int) : Option (List Int × Bool × Int × Int) :=
  (if (decide (x75 < x25.1)) then ((vI F x25.1 x25.2.1 x75).bind fun x92 => ((vI F x17.2.1 x3 (iadd .i64 x6 x75)).bind fun x93 => (lbnd (ka F ((x92 : Int) == x93)) (fun _x94 => rec4 (iadd .i64 x75 1)) (fun _x95 => some (([] : List Int), false, x17.2.1, x17.2.2))))) else qaD F x17)
def q6 (F : Nat) (x3 : List Int) (x6 : Int) (x17 : (List Int × Int × Int)) (x25 : (Int × List Int × Bool)) : Nat → Int → Option (List Int × Bool × Int × Int)
  | 0 => fun _ => none
  | k + 1 => fun s => yh F x3 x6 x17 x25 (q6 F x3 x6 x17 x25 k) s
def yi (F : Nat) (x3 : List Int) (x6 : Int) (x17 : (List Int × Int × Int)) (x25 : (Int × List Int × Bool)) : Option (List Int × Bool × Int × Int) :=
  q6 F x3 x6 x17 x25 F 0
def ya (F : Nat) (x2 : Int) (x3 : List Int) (x6 : Int) (x7 : Int) (x8 : List Int) (x11 : Int) (x12 : Int) (x13 : Int) : Option (List Int × Bool × Int × Int) :=
  (lbnd (k9 F x2 x3 x6 x7 x8 x11 x12 x13) (fun x17 => ((yC F x17.1).bind fun x21 => (lbnd (ka F ((x21 : Int) == 0)) (fun _x22 => ((yb F 0 ([] : List Int) false x7 x17.1 x8 x11 x12 x13).bind fun x25 => (if (!x25.2.2) then (lbnd (ka F ((x25.1 : Int) == (isub .i64 x17.2.2 x6))) (fun _x98 => yi F x3 x6 x17 x25) (fun _x99 => some (([] : List Int), false, x17.2.1, x17.2.2))) else (lbnd (ka F false) (fun _x100 => yi F x3 x6 x17 x25) (fun _x101 => some (([] : List Int), false, x17.2.1, x17.2.2)))))) (fun _x23 => some (([] : List Int), false, x17.2.1, x17.2.2))))) (fun x18 => some (([] : List Int), false, x18.1, x18.2)))
def vb (F : Nat) (x1 : Int) (x2 : List Int) (x5 : Int) (x6 : Int) (x7 : List Int) (x10 : Int) (x11 : Int) (x12 : Int) : Option (List Int × Int × Int) :=
  ((ya F x1 x2 x5 x6 x7 x10 x11 x12).bind fun x16 => (if (!x16.2.1) then some (([] : List Int), 0, 1) else some (x16.1, x16.2.2.2, 0)))
def qa9 (_F : Nat) (x5 : Int) (x261 : List (List Int)) (x262 : Int) : Option (List (List Int) × Bool) :=
  some (x261, ((x262 : Int) == x5))
def vy (_F : Nat) (rec8 : (List (List Int) × Int × Int) → Option (List (List Int) × Bool)) (x350 : Int) (x472 : List (List Int)) (x473 : Int) : Option (List (List Int) × Bool) :=
  rec8 (x472, x473, iadd .i64 x350 1)
def j4 (F : Nat) (x1 : Int) (x2 : Int) (x3 : Int) (x4 : Int) (x5 : Int) (x6 : List Int) (rec8 : (List (List Int) × Int × Int) → Option (List (List Int) × Bool)) (x348 : List (List Int)) (x349 : Int) (x350 : Int) : Option (List (List Int) × Bool) :=
  (if (decide (x350 < x1)) then ((qbB F x1 x2 x3 x4 x5 x6 x349 x350).bind fun x474 => (if (!x474.2.2) then some (([] : List (List Int)), false) else (if (decide (0 < x474.1)) then ((idx x348 (isub .i64 x350 x474.1)).bind fun x482 => ((vb F x5 x6 x474.2.1 x350 x482 x474.1 x3 x4).bind fun x488 => (if ((x488.2.2 : Int) != 0) then some (([] : List (List Int)), false) else ((app 2199023255552 x348 ([x488.1] : List (List Int))).bind fun x494 => vy F rec8 x350 x494 x488.2.1)))) else ((vb F x5 x6 x474.2.1 x350 ([] : List Int) x474.1 x3 x4).bind fun x499 => (if ((x499.2.2 : Int) != 0) then some (([] : List (List Int)), false) else ((app 2199023255552 x348 ([x499.1] : List (List Int))).bind fun x505 => vy F rec8 x350 x505 x499.2.1)))))) else qa9 F x5 x348 x349)
def zZ (F : Nat) (x1 : Int) (x2 : Int) (x3 : Int) (x4 : Int) (x5 : Int) (x6 : List Int) : Nat → (List (List Int) × Int × Int) → Option (List (List Int) × Bool)
  | 0 => fun _ => none
  | k + 1 => fun s => j4 F x1 x2 x3 x4 x5 x6 (zZ F x1 x2 x3 x4 x5 x6 k) s.1 s.2.1 s.2.2
def qcm (F : Nat) (x1 : Int) (x2 : Int) (x3 : Int) (x4 : Int) (x5 : Int) (x6 : List Int) : Option (List (List Int) × Bool) :=
  zZ F x1 x2 x3 x4 x5 x6 F (([] : List (List Int)), 0, 0)
def jm (_F : Nat) : Option Bool :=
  some true
def qY (F : Nat) (x1 : List Int) (x4 : List Int) (rec3 : Int → Option Bool) (x154 : Int) : Option Bool :=
  (if (decide (x154 < (x1.length : Int))) then ((idx x1 x154).bind fun x218 => ((idx x4 x154).bind fun x222 => (if ((x218 : Int) != x222) then some false else rec3 (iadd .i64 x154 1)))) else jm F)
def qB (F : Nat) (x1 : List Int) (x4 : List Int) : Nat → Int → Option Bool
  | 0 => fun _ => none
  | k + 1 => fun s => qY F x1 x4 (qB F x1 x4 k) s
def qF (F : Nat) (x1 : List Int) (x4 : List Int) : Option Bool :=
  (if (((x1.length : Int) : Int) != (x4.length : Int)) then some false else qB F x1 x4 F 0)
def qat (_F : Nat) (x14 : (List (List Int) × Bool)) (x34 : Bool) : Option (List (List Int) × Int) :=
  (if x34 then some (([] : List (List Int)), 1) else some (x14.1, 0))
def qbP (F : Nat) (x1 : Int) (x2 : Int) (x3 : Int) (x4 : Int) (x5 : Int) (x6 : List Int) : Option (List (List Int) × Int) :=
  ((qbh F x1 x2 x3 x4 x5 x6).bind fun x13 => (if ((x13 : Int) != 0) then some (([] : List (List Int)), x13) else ((qcm F x1 x2 x3 x4 x5 x6).bind fun x14 => (if (!x14.2) then some (([] : List (List Int)), 1) else ((qau F x14.1 x2 x3 x4).bind fun x28 => (if ((x28.2.2.2.2.2.2 : Int) != 0) then qat F x14 true else ((qF F x28.2.2.2.2.2.1 x6).bind fun x36 => qat F x14 (!x36))))))))
def qaa (_F : Nat) (x34 : Bool) : Option Bool :=
  some x34
def j9 (F : Nat) (x9 : List Int) (x20 : List Int) (x31 : Bool) : Option Bool :=
  (if x31 then ((qF F x9 x20).bind fun x35 => qaa F x35) else qaa F false)
def qbk (F : Nat) (x1 : Int) (x2 : Int) (x3 : Int) (x4 : Int) (x5 : List Int) (x8 : Int) (x9 : List Int) (x12 : Int) (x13 : Int) (x14 : Int) (x15 : Int) (x16 : List Int) (x19 : Int) (x20 : List Int) : Option Bool :=
  (if ((((((x1 : Int) == x12) && ((x2 : Int) == x13)) && ((x3 : Int) == x14)) && ((x4 : Int) == x15)) && ((x8 : Int) == x19)) then ((qF F x5 x16).bind fun x36 => j9 F x9 x20 x36) else j9 F x9 x20 false)
def qba (F : Nat) (x1 : List (List Int)) (x4 : Int) (x5 : Int) (x6 : Int) (x7 : Int) (x8 : Int) (x9 : List Int) : Option (Int × Int × Int × Int × Int × List Int × Int × Int × Int × Int × List Int × Int × List Int × Int) :=
  ((qa5 F x1 x5 x6 x7).bind fun x15 => (if ((x15.2.2 : Int) != 0) then some (0, 0, 0, 0, 0, ([] : List Int), 0, 0, 0, 0, ([] : List Int), 0, ([] : List Int), x15.2.2) else ((qal F x15.2.1 x8).bind fun x21 => (if ((x21.2.2.2.2.2.2.2 : Int) != 0) then some (0, 0, 0, 0, 0, ([] : List Int), 0, 0, 0, 0, ([] : List Int), 0, ([] : List Int), x21.2.2.2.2.2.2.2) else some (x4, x5, x6, x7, x8, x9, x21.1, x21.2.1, x21.2.2.1, x21.2.2.2.1, x21.2.2.2.2.1, x21.2.2.2.2.2.1, x21.2.2.2.2.2.2.1, 0)))))
def yW (_F : Nat) (x49 : Bool) : Option Int :=
  (if x49 then some 4 else some 0)
def vN (F : Nat) (x1 : Int) (x2 : Int) (x3 : Int) (x4 : Int) (x5 : Int) (x6 : List Int) (x9 : Int) (x10 : Int) (x11 : Int) (x12 : Int) (x13 : List Int) (x16 : Int) (x17 : List Int) : Option Int :=
  ((qbP F x1 x2 x3 x4 x5 x6).bind fun x21 => (if ((x21.2 : Int) != 0) then some x21.2 else ((qba F x21.1 x1 x2 x3 x4 x5 x6).bind fun x39 => (if ((x39.2.2.2.2.2.2.2.2.2.2.2.2.2 : Int) != 0) then yW F true else ((qbk F x39.2.2.2.2.2.2.1 x39.2.2.2.2.2.2.2.1 x39.2.2.2.2.2.2.2.2.1 x39.2.2.2.2.2.2.2.2.2.1 x39.2.2.2.2.2.2.2.2.2.2.1 x39.2.2.2.2.2.2.2.2.2.2.2.1 x39.2.2.2.2.2.2.2.2.2.2.2.2.1 x9 x10 x11 x12 x13 x16 x17).bind fun x51 => yW F (!x51))))))
def qaY (_F : Nat) (_x1 : Int) (_x2 : List Int) (_x5 : Int) : Option Unit :=
  some ()
def zH {σ τ : Type} (_F : Nat) (_yy : σ → Int → Option (σ ⊕ τ)) (rec3 : (Int × σ) → Option (σ ⊕ τ)) (x36 : Int) (x81 : σ) : Option (σ ⊕ τ) :=
  rec3 (iadd .i64 x36 1, x81)
def ko {σ τ : Type} (F : Nat) (yy : σ → Int → Option (σ ⊕ τ)) (x2 : Int) (x3 : List Int) (x7 : Int) (rec3 : (Int × σ) → Option (σ ⊕ τ)) (x36 : Int) (x37 : σ) : Option (σ ⊕ τ) :=
  (if (decide (x36 < x2)) then ((vI F x2 x3 x36).bind fun x89 => (if ((x89 : Int) == x7) then ((yy x37 x36).bind (Sum.elim (fun x91 => zH F yy rec3 x36 x91) (fun x92 => some (.inr x92)))) else zH F yy rec3 x36 x37)) else some (.inl x37))
def qC {σ τ : Type} (F : Nat) (yy : σ → Int → Option (σ ⊕ τ)) (x2 : Int) (x3 : List Int) (x7 : Int) : Nat → (Int × σ) → Option (σ ⊕ τ)
  | 0 => fun _ => none
  | k + 1 => fun s => ko F yy x2 x3 x7 (qC F yy x2 x3 x7 k) s.1 s.2
def j8 {σ τ : Type} (F : Nat) (yy : σ → Int → Option (σ ⊕ τ)) (x2 : Int) (x3 : List Int) (x7 : Int) (s0 : σ) : Option (σ ⊕ τ) :=
  qC F yy x2 x3 x7 F (0, s0)
def qE (_F : Nat) (x31 : Int) (x37 : Int) : Option (Int ⊕ (Int × Int)) :=
  (if ((x31 : Int) == 0) then some (.inr (x37, x31)) else some (.inl (isub .i64 x31 1)))
def vm (F : Nat) (x1 : Int) (x2 : List Int) (x5 : Int) (x6 : Int) : Option Int :=
  ((qaY F x1 x2 x5).bind fun _x25 => ((j8 F (fun (x31 : Int) (x37 : Int) => qE F x31 x37) x1 x2 x5 x6).bind (Sum.elim (fun (_x31 : Int) => some (-1)) (fun ((x35, _x36) : (Int × Int)) => some x35))))
def jE (F : Nat) (_x1 : Int) (_x2 : Int) (x3 : Int) (x4 : Int) (x5 : List Int) (x8 : Int) (x9 : List Int) (x12 : Int) : Option Int :=
  ((vm F x8 x9 1 x12).bind fun x14 => ((yw F x4 x5 (imul .i64 x12 x3) x3).bind fun x15 => (chk (decide (0 ≤ x3)) ((lett (ior .i64 (ishl .i64 (isub .i64 x14 x12) x3) (iconv .i64 x15.1)) fun x17 => some x17)))))
def jr (_F : Nat) (x13 : Bool) : Option Bool :=
  some x13
def qa3 (F : Nat) (x1 : Int) (x2 : List Int) (x5 : Int) (x6 : List Int) : Option Bool :=
  (if ((x1 : Int) == x5) then ((qF F x2 x6).bind fun x14 => jr F x14) else jr F false)
def qan (_F : Nat) (x99 : List Int) (x129 : Bool) : Option (List Int × Int) :=
  (if x129 then some (([] : List Int), 1) else some (x99, 0))
def vV (F : Nat) (x8 : Int) (x9 : List Int) (x99 : List Int) (x118 : (Int × Int × Int × Int × List Int × Int × List Int × Bool)) (x126 : Bool) : Option (List Int × Int) :=
  (if x126 then qan F x99 true else ((qa3 F x118.2.2.2.2.2.1 x118.2.2.2.2.2.2.1 x8 x9).bind fun x131 => qan F x99 (!x131)))
def kB (F : Nat) (x2 : Int) (x4 : Int) (x5 : List Int) (x8 : Int) (x9 : List Int) (x99 : List Int) : Option (List Int × Int) :=
  ((qam F x99 x2).bind fun x102 => (if ((x102 : Int) != 0) then some (([] : List Int), 1) else ((qby F x99 x2).bind fun x118 => (if (!x118.2.2.2.2.2.2.2) then vV F x8 x9 x99 x118 true else ((qa3 F x118.2.2.2.1 x118.2.2.2.2.1 x4 x5).bind fun x132 => vV F x8 x9 x99 x118 (!x132))))))
def vU (F : Nat) (x1 : Int) (x2 : Int) (x3 : Int) (x4 : Int) (x5 : List Int) (x8 : Int) (x9 : List Int) (rec9 : (List Int × Int) → Option (List Int × Int)) (x150 : List Int) (x151 : Int) : Option (List Int × Int) :=
  (if (decide (x151 < x1)) then ((jE F x1 x2 x3 x4 x5 x8 x9 x151).bind fun x174 => ((app 8796093022208 x150 ([x174] : List Int)).bind fun x177 => rec9 (x177, iadd .i64 x151 1))) else kB F x2 x4 x5 x8 x9 x150)
def kC (F : Nat) (x1 : Int) (x2 : Int) (x3 : Int) (x4 : Int) (x5 : List Int) (x8 : Int) (x9 : List Int) : Nat → (List Int × Int) → Option (List Int × Int)
  | 0 => fun _ => none
  | k + 1 => fun s => vU F x1 x2 x3 x4 x5 x8 x9 (kC F x1 x2 x3 x4 x5 x8 x9 k) s.1 s.2
def zd (F : Nat) (x1 : Int) (x2 : Int) (x3 : Int) (x4 : Int) (x5 : List Int) (x8 : Int) (x9 : List Int) (x49 : Bool) : Option (List Int × Int) :=
  (if x49 then some (([] : List Int), 1) else kC F x1 x2 x3 x4 x5 x8 x9 F (([] : List Int), 0))
def yS (F : Nat) (x1 : Int) (x2 : Int) (x3 : Int) (x4 : Int) (x5 : List Int) (x8 : Int) (x9 : List Int) : Option (List Int × Int) :=
  (if ((((decide (x1 < 0)) || (decide (300 < x1))) || (decide (x2 < 0))) || (decide (1048576 < x2))) then some (([] : List Int), 3) else ((qao F x1 x2).bind fun x182 => (if ((x3 : Int) != x182) then zd F x1 x2 x3 x4 x5 x8 x9 true else ((jD F x4 x5).bind fun x184 => (if ((x184 : Int) != 0) then zd F x1 x2 x3 x4 x5 x8 x9 true else ((jD F x8 x9).bind fun x186 => (if ((x186 : Int) != 0) then zd F x1 x2 x3 x4 x5 x8 x9 true else (if ((x4 : Int) != (imul .i64 x1 x3)) then zd F x1 x2 x3 x4 x5 x8 x9 true else ((vm F x8 x9 1 (isub .i64 x1 1)).bind fun x189 => (if (decide (x189 < 0)) then zd F x1 x2 x3 x4 x5 x8 x9 (decide (0 < x1)) else zd F x1 x2 x3 x4 x5 x8 x9 false))))))))))
def qbg (F : Nat) (x1 : Int) (x2 : Int) (x3 : Int) (x4 : Int) (x5 : List Int) (x8 : Int) (x9 : List Int) : Option Int :=
  ((yS F x1 x2 x3 x4 x5 x8 x9).bind fun x13 => some x13.2)
def qaO (F : Nat) (x1 : Int) (x2 : Int) (x3 : Int) (x4 : Int) (x5 : List Int) (x8 : Int) (x9 : List Int) (x12 : Int) (x20 : Int) : Option (Int × Int) :=
  (if ((x20 : Int) != 0) then some (0, x20) else ((jE F x1 x2 x3 x4 x5 x8 x9 x12).bind fun x22 => some (x22, 0)))
def qaP (F : Nat) (x1 : Int) (x2 : Int) (x3 : Int) (x4 : Int) (x5 : List Int) (x8 : Int) (x9 : List Int) (x12 : Int) (x14 : Int) (x26 : Bool) : Option (Int × Int) :=
  (if x26 then qaO F x1 x2 x3 x4 x5 x8 x9 x12 3 else qaO F x1 x2 x3 x4 x5 x8 x9 x12 x14)
def qbx (F : Nat) (x1 : Int) (x2 : Int) (x3 : Int) (x4 : Int) (x5 : List Int) (x8 : Int) (x9 : List Int) (x12 : Int) : Option (Int × Int) :=
  ((qbg F x1 x2 x3 x4 x5 x8 x9).bind fun x14 => (if ((x14 : Int) == 0) then qaP F x1 x2 x3 x4 x5 x8 x9 x12 x14 ((decide (x12 < 0)) || (decide (x1 ≤ x12))) else qaP F x1 x2 x3 x4 x5 x8 x9 x12 x14 false))
def zR (F : Nat) (x7 : List Int) (x22 : Int) (x24 : (Int × Int × Bool)) (x31 : List Int) (x32 : Int) (x33 : Int) (x34 : Int) (x35 : Int) (x36 : Int) (x37 : Int) (x38 : Int) (x39 : Int) (x40 : Int) (x41 : Int) (x42 : Int) : Option (List Int × Int × Int × Int × Int × Int × Int × Int × Int × Int × Int × Int) :=
  ((vb F x36 x7 x24.2.1 x22 x31 x24.1 x34 x35).bind fun x47 => some (x47.1, x32, x33, x34, x35, x36, x37, x38, x39, x40, x41, x42))
def zY : Nat → Int → Int → Int → Int → Int → (List Int) → Int → Int → Int → Int → (List Int) → Int → (List Int) → Int → Int → Option (List Int × Int × Int × Int × Int × Int × Int × Int × Int × Int × Int × Int)
  | 0 => fun _ _ _ _ _ _ _ _ _ _ _ _ _ _ _ => none
  | F + 1 => fun x2 x3 x4 x5 x6 x7 x10 x11 x12 x13 x14 x17 x18 x21 x22 =>
    let self := zY F
    ((qbx F x10 x11 x12 x13 x14 x17 x18 x22).bind fun x23 => ((qbB F x2 x3 x4 x5 x6 x7 x23.1 x22).bind fun x24 => (if (decide (0 < x24.1)) then ((self x2 x3 x4 x5 x6 x7 x10 x11 x12 x13 x14 x17 x18 (iadd .i64 x21 1) (isub .i64 x22 x24.1)).bind fun x50 => zR F x7 x22 x24 x50.1 x50.2.1 x50.2.2.1 x50.2.2.2.1 x50.2.2.2.2.1 x50.2.2.2.2.2.1 x50.2.2.2.2.2.2.1 x50.2.2.2.2.2.2.2.1 x50.2.2.2.2.2.2.2.2.1 x50.2.2.2.2.2.2.2.2.2.1 x50.2.2.2.2.2.2.2.2.2.2.1 x50.2.2.2.2.2.2.2.2.2.2.2) else zR F x7 x22 x24 ([] : List Int) x2 x3 x4 x5 x6 x10 x11 x12 x13 x17 (iadd .i64 x21 1))))
def vB (F : Nat) (x1 : Int) (x2 : Int) (x3 : Int) (x4 : Int) (x5 : Int) (x6 : List Int) (x9 : Int) (x10 : Int) (x11 : Int) (x12 : Int) (x13 : List Int) (x16 : Int) (x17 : List Int) (x20 : Int) (x28 : Int) : Option (List Int × Int × Int) :=
  (if ((x28 : Int) != 0) then some (([] : List Int), 0, x28) else ((zY F x1 x2 x3 x4 x5 x6 x9 x10 x11 x12 x13 x16 x17 0 x20).bind fun x31 => some (x31.1, x31.2.2.2.2.2.2.2.2.2.2.2, 0)))
def vC (F : Nat) (x1 : Int) (x2 : Int) (x3 : Int) (x4 : Int) (x5 : Int) (x6 : List Int) (x9 : Int) (x10 : Int) (x11 : Int) (x12 : Int) (x13 : List Int) (x16 : Int) (x17 : List Int) (x20 : Int) (x22 : Int) (x37 : Bool) : Option (List Int × Int × Int) :=
  (if x37 then vB F x1 x2 x3 x4 x5 x6 x9 x10 x11 x12 x13 x16 x17 x20 3 else vB F x1 x2 x3 x4 x5 x6 x9 x10 x11 x12 x13 x16 x17 x20 x22)
def kS (F : Nat) (x1 : Int) (x2 : Int) (x3 : Int) (x4 : Int) (x5 : Int) (x6 : List Int) (x9 : Int) (x10 : Int) (x11 : Int) (x12 : Int) (x13 : List Int) (x16 : Int) (x17 : List Int) (x20 : Int) : Option (List Int × Int × Int) :=
  ((vN F x1 x2 x3 x4 x5 x6 x9 x10 x11 x12 x13 x16 x17).bind fun x22 => (if ((x22 : Int) == 0) then vC F x1 x2 x3 x4 x5 x6 x9 x10 x11 x12 x13 x16 x17 x20 x22 ((decide (x20 < 0)) || (decide (x1 ≤ x20))) else vC F x1 x2 x3 x4 x5 x6 x9 x10 x11 x12 x13 x16 x17 x20 x22 false))
def jG (F : Nat) (x21 : Int) (x23 : (List Int × Int × Int)) (x31 : Int) : Option (Bool × Int) :=
  (if ((x31 : Int) != 0) then some (false, x31) else ((qr F x23.1 x21).bind fun x33 => some (x33.2, 0)))
def jH (F : Nat) (x21 : Int) (x23 : (List Int × Int × Int)) (x37 : Bool) : Option (Bool × Int) :=
  (if x37 then jG F x21 x23 3 else jG F x21 x23 x23.2.2)
def vO (F : Nat) (x1 : Int) (x2 : Int) (x3 : Int) (x4 : Int) (x5 : Int) (x6 : List Int) (x9 : Int) (x10 : Int) (x11 : Int) (x12 : Int) (x13 : List Int) (x16 : Int) (x17 : List Int) (x20 : Int) (x21 : Int) : Option (Bool × Int) :=
  ((kS F x1 x2 x3 x4 x5 x6 x9 x10 x11 x12 x13 x16 x17 x20).bind fun x23 => (if ((x23.2.2 : Int) == 0) then jH F x21 x23 ((decide (x21 < 0)) || (decide (x1 ≤ x21))) else jH F x21 x23 false))
def qcD (_F : Nat) : Option Bool :=
  some true
def jY (F : Nat) (x1 : List Int) (x4 : List Int) (rec3 : Int → Option Bool) (x154 : Int) : Option Bool :=
  (if (decide (x154 < (x1.length : Int))) then ((idx x1 x154).bind fun x218 => ((idx x4 x154).bind fun x222 => (if ((x218 : Int) != x222) then some false else rec3 (iadd .i64 x154 1)))) else qcD F)
def yk (F : Nat) (x1 : List Int) (x4 : List Int) : Nat → Int → Option Bool
  | 0 => fun _ => none
  | k + 1 => fun s => jY F x1 x4 (yk F x1 x4 k) s
def qaj (F : Nat) (x1 : List Int) (x4 : List Int) : Option Bool :=
  (if (((x1.length : Int) : Int) != (x4.length : Int)) then some false else yk F x1 x4 F 0)
def qb0 (_F : Nat)  : Option (List (List Int)) :=
  some ([([1, 2, 3, 5] : List Int), ([1, 2, 3, 5] : List Int), ([0, 1, 2, 3, 5] : List Int), ([] : List Int), ([4] : List Int), ([1, 2, 3] : List Int)] : List (List Int))
def qai (_F : Nat) (x37 : Bool) : Option Bool :=
  some x37
def vS (F : Nat) (x4 : (Int × Int × Int × Int × Int × List Int × Int × Int × Int × Int × List Int × Int × List Int × Int)) (x34 : Bool) : Option Bool :=
  (if x34 then ((vN F x4.1 x4.2.1 x4.2.2.1 x4.2.2.2.1 x4.2.2.2.2.1 x4.2.2.2.2.2.1 0 0 0 0 ([] : List Int) 0 ([] : List Int)).bind fun x38 => qai F ((x38 : Int) == 4)) else qai F false)
def vR (F : Nat) (x4 : (Int × Int × Int × Int × Int × List Int × Int × Int × Int × Int × List Int × Int × List Int × Int)) (x12 : (List Int × Int × Int)) (x15 : (Bool × Int)) (x16 : (Bool × Int)) (x17 : (List Int × Int × Int)) (x24 : Bool) : Option Bool :=
  (if (((((((x24 && ((x12.2.1 : Int) == 2)) && ((x12.2.2 : Int) == 0)) && x15.1) && ((x15.2 : Int) == 0)) && (!x16.1)) && ((x16.2 : Int) == 0)) && ((x17.2.2 : Int) == 3)) then ((vN F x4.1 x4.2.1 x4.2.2.1 x4.2.2.2.1 x4.2.2.2.2.1 x4.2.2.2.2.2.1 x4.2.2.2.2.2.2.1 x4.2.2.2.2.2.2.2.1 x4.2.2.2.2.2.2.2.2.1 x4.2.2.2.2.2.2.2.2.2.1 x4.2.2.2.2.2.2.2.2.2.2.1 x4.2.2.2.2.2.2.2.2.2.2.2.1 x4.2.2.2.2.2.2.2.2.2.2.2.2.1).bind fun x39 => vS F x4 ((x39 : Int) == 0)) else vS F x4 false)
def qah (F : Nat)  : Option Bool :=
  ((qb0 F).bind fun x1 => ((jT F x1 3 3 2).bind fun x4 => ((kS F x4.1 x4.2.1 x4.2.2.1 x4.2.2.2.1 x4.2.2.2.2.1 x4.2.2.2.2.2.1 x4.2.2.2.2.2.2.1 x4.2.2.2.2.2.2.2.1 x4.2.2.2.2.2.2.2.2.1 x4.2.2.2.2.2.2.2.2.2.1 x4.2.2.2.2.2.2.2.2.2.2.1 x4.2.2.2.2.2.2.2.2.2.2.2.1 x4.2.2.2.2.2.2.2.2.2.2.2.2.1 1).bind fun x12 => ((vO F x4.1 x4.2.1 x4.2.2.1 x4.2.2.2.1 x4.2.2.2.2.1 x4.2.2.2.2.2.1 x4.2.2.2.2.2.2.1 x4.2.2.2.2.2.2.2.1 x4.2.2.2.2.2.2.2.2.1 x4.2.2.2.2.2.2.2.2.2.1 x4.2.2.2.2.2.2.2.2.2.2.1 x4.2.2.2.2.2.2.2.2.2.2.2.1 x4.2.2.2.2.2.2.2.2.2.2.2.2.1 4 4).bind fun x15 => ((vO F x4.1 x4.2.1 x4.2.2.1 x4.2.2.2.1 x4.2.2.2.2.1 x4.2.2.2.2.2.1 x4.2.2.2.2.2.2.1 x4.2.2.2.2.2.2.2.1 x4.2.2.2.2.2.2.2.2.1 x4.2.2.2.2.2.2.2.2.2.1 x4.2.2.2.2.2.2.2.2.2.2.1 x4.2.2.2.2.2.2.2.2.2.2.2.1 x4.2.2.2.2.2.2.2.2.2.2.2.2.1 4 5).bind fun x16 => ((kS F x4.1 x4.2.1 x4.2.2.1 x4.2.2.2.1 x4.2.2.2.2.1 x4.2.2.2.2.2.1 x4.2.2.2.2.2.2.1 x4.2.2.2.2.2.2.2.1 x4.2.2.2.2.2.2.2.2.1 x4.2.2.2.2.2.2.2.2.2.1 x4.2.2.2.2.2.2.2.2.2.2.1 x4.2.2.2.2.2.2.2.2.2.2.2.1 x4.2.2.2.2.2.2.2.2.2.2.2.2.1 6).bind fun x17 => (if ((x4.2.2.2.2.2.2.2.2.2.2.2.2.2 : Int) == 0) then ((qaj F x12.1 ([1, 2, 3, 5] : List Int)).bind fun x42 => vR F x4 x12 x15 x16 x17 x42) else vR F x4 x12 x15 x16 x17 false)))))))
def qcb (_F : Nat) : Option Bool :=
  some true
def jC (F : Nat) (x1 : List Int) (x4 : List Int) (rec3 : Int → Option Bool) (x154 : Int) : Option Bool :=
  (if (decide (x154 < (x1.length : Int))) then ((idx x1 x154).bind fun x218 => ((idx x4 x154).bind fun x222 => (if ((x218 : Int) != x222) then some false else rec3 (iadd .i64 x154 1)))) else qcb F)
def kW (F : Nat) (x1 : List Int) (x4 : List Int) : Nat → Int → Option Bool
  | 0 => fun _ => none
  | k + 1 => fun s => jC F x1 x4 (kW F x1 x4 k) s
def qaN (F : Nat) (x1 : List Int) (x4 : List Int) : Option Bool :=
  (if (((x1.length : Int) : Int) != (x4.length : Int)) then some false else kW F x1 x4 F 0)
def vu (_F : Nat) (x13 : Bool) : Option Bool :=
  some x13
def vg (F : Nat) (x1 : Int) (x2 : List Int) (x5 : Int) (x6 : List Int) : Option Bool :=
  (if ((x1 : Int) == x5) then ((qaN F x2 x6).bind fun x14 => vu F x14) else vu F false)
def jX (_F : Nat) (x32 : Bool) : Option Bool :=
  some x32
def vv (F : Nat) (x8 : Int) (x9 : List Int) (x19 : Int) (x20 : List Int) (x29 : Bool) : Option Bool :=
  (if x29 then ((vg F x8 x9 x19 x20).bind fun x33 => jX F x33) else jX F false)
def qbe (F : Nat) (x1 : Int) (x2 : Int) (x3 : Int) (x4 : Int) (x5 : List Int) (x8 : Int) (x9 : List Int) (x12 : Int) (x13 : Int) (x14 : Int) (x15 : Int) (x16 : List Int) (x19 : Int) (x20 : List Int) : Option Bool :=
  (if ((((x1 : Int) == x12) && ((x2 : Int) == x13)) && ((x3 : Int) == x14)) then ((vg F x4 x5 x15 x16).bind fun x34 => vv F x8 x9 x19 x20 x34) else vv F x8 x9 x19 x20 false)
def vT (_F : Nat) (x22 : Bool) : Option Bool :=
  some x22
def qbu (F : Nat) (x1 : Int) (x2 : Int) (x3 : Int) (x4 : Int) (x5 : Int) (x6 : List Int) (x9 : Int) (x10 : Int) (x11 : Int) (x12 : Int) (x13 : Int) (x14 : List Int) : Option Bool :=
  (if (((x1 : Int) == x9) && (((x2 : Int) == x10) && (((x3 : Int) == x11) && ((x4 : Int) == x12)))) then ((vg F x5 x6 x13 x14).bind fun x23 => vT F x23) else vT F false)
def qaE (_F : Nat) (x44 : Bool) : Option Bool :=
  some x44
def jO (F : Nat) (x1 : Int) (x2 : Int) (x3 : Int) (x4 : Int) (x5 : Int) (x6 : List Int) (x9 : Int) (x10 : Int) (x11 : Int) (x12 : Int) (x13 : List Int) (x16 : Int) (x17 : List Int) (x20 : Int) (x21 : Int) (x22 : Int) (x23 : Int) (x24 : Int) (x25 : List Int) (x28 : Int) (x29 : Int) (x30 : Int) (x31 : Int) (x32 : List Int) (x35 : Int) (x36 : List Int) : Option Bool :=
  ((qbu F x1 x2 x3 x4 x5 x6 x20 x21 x22 x23 x24 x25).bind fun x41 => (if x41 then ((qbe F x9 x10 x11 x12 x13 x16 x17 x28 x29 x30 x31 x32 x35 x36).bind fun x45 => qaE F x45) else qaE F false))
def qb1 (_F : Nat) : Option Bool :=
  some false
def qaM (F : Nat) (x1 : List Int) (x4 : Int) (rec3 : Int → Option Bool) (x47 : Int) : Option Bool :=
  (if (decide (x47 < (x1.length : Int))) then ((idx x1 x47).bind fun x64 => (if ((x64 : Int) == x4) then some true else rec3 (iadd .i64 x47 1))) else qb1 F)
def vH (F : Nat) (x1 : List Int) (x4 : Int) : Nat → Int → Option Bool
  | 0 => fun _ => none
  | k + 1 => fun s => qaM F x1 x4 (vH F x1 x4 k) s
def qcl (F : Nat) (x1 : List Int) (x4 : Int) : Option Bool :=
  vH F x1 x4 F 0
def jA (_F : Nat) (x64 : Bool) : Option Bool :=
  some x64
def jB (F : Nat) (x67 : Bool) : Option Bool :=
  jA F x67
def jz (F : Nat) (x8 : Int) (x25 : (List Int × Int × Int)) (x55 : (Bool × Int)) (x58 : Bool) : Option Bool :=
  (if x58 then jA F true else (if ((x55.2 : Int) == 0) then ((qcl F x25.1 x8).bind fun x68 => jB F (x55.1 == x68)) else jB F false))
def jy (F : Nat) (x1 : List (List Int)) (x7 : Int) (x8 : Int) (x11 : (Int × Int × Int × Int × Int × List Int × Int × Int × Int × Int × List Int × Int × List Int × Int)) (x25 : (List Int × Int × Int)) (x52 : Bool) : Option Bool :=
  (if ((x52 || (decide (x25.2.1 < 1))) || (decide ((iadd .i64 x7 1) < x25.2.1))) then some false else ((vO F x11.1 x11.2.1 x11.2.2.1 x11.2.2.2.1 x11.2.2.2.2.1 x11.2.2.2.2.2.1 x11.2.2.2.2.2.2.1 x11.2.2.2.2.2.2.2.1 x11.2.2.2.2.2.2.2.2.1 x11.2.2.2.2.2.2.2.2.2.1 x11.2.2.2.2.2.2.2.2.2.2.1 x11.2.2.2.2.2.2.2.2.2.2.2.1 x11.2.2.2.2.2.2.2.2.2.2.2.2.1 x7 x8).bind fun x55 => (if ((x55.2 : Int) == 3) then jz F x8 x25 x55 ((decide (x8 < 0)) || (decide ((x1.length : Int) ≤ x8))) else jz F x8 x25 x55 false)))
def qbZ (F : Nat) (x1 : List (List Int)) (x4 : Int) (x5 : Int) (x6 : Int) (x7 : Int) (x8 : Int) : Option Bool :=
  ((jT F x1 x4 x5 x6).bind fun x11 => ((qah F).bind fun x21 => (if (!x21) then some false else (if ((x11.2.2.2.2.2.2.2.2.2.2.2.2.2 : Int) != 0) then ((jO F x11.1 x11.2.1 x11.2.2.1 x11.2.2.2.1 x11.2.2.2.2.1 x11.2.2.2.2.2.1 x11.2.2.2.2.2.2.1 x11.2.2.2.2.2.2.2.1 x11.2.2.2.2.2.2.2.2.1 x11.2.2.2.2.2.2.2.2.2.1 x11.2.2.2.2.2.2.2.2.2.2.1 x11.2.2.2.2.2.2.2.2.2.2.2.1 x11.2.2.2.2.2.2.2.2.2.2.2.2.1 0 0 0 0 0 ([] : List Int) 0 0 0 0 ([] : List Int) 0 ([] : List Int)).bind fun x24 => some x24) else ((kS F x11.1 x11.2.1 x11.2.2.1 x11.2.2.2.1 x11.2.2.2.2.1 x11.2.2.2.2.2.1 x11.2.2.2.2.2.2.1 x11.2.2.2.2.2.2.2.1 x11.2.2.2.2.2.2.2.2.1 x11.2.2.2.2.2.2.2.2.2.1 x11.2.2.2.2.2.2.2.2.2.2.1 x11.2.2.2.2.2.2.2.2.2.2.2.1 x11.2.2.2.2.2.2.2.2.2.2.2.2.1 x7).bind fun x25 => (if ((decide (x7 < 0)) || (decide ((x1.length : Int) ≤ x7))) then some ((x25.2.2 : Int) == 3) else (if ((x25.2.2 : Int) != 0) then jy F x1 x7 x8 x11 x25 true else ((idx x1 x7).bind fun x71 => ((qaj F x25.1 x71).bind fun x75 => jy F x1 x7 x8 x11 x25 (!x75))))))))))
end Go.Proofs.YtmhggdbfbmkpeaaGreat
