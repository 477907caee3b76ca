/- What each Go function of this seat computes, in plain terms. -/
import Derived.Test.YtidnfcdnhdbolaaGreatSy
namespace Go.Proofs.YtidnfcdnhdbolaaGreat
open Go SX
def jJ (_F : Nat) (x1 : Int) (x2 : Int) (x3 : Int) : Option Int :=
  (if (((((((decide (x1 < 0)) || (decide (7 < x1))) || (decide (x2 < 0))) || ((x2 : Int) == 1)) || (decide (300 < x2))) || (decide (x3 < 1))) || (decide (16 < x3))) then some 3 else some 0)
def qc5 (_F : Nat) (x1 : Int) : Option Bool :=
  some ((decide (0 ≤ x1)) && (decide (x1 ≤ 1048576)))
def qe5 (_F : Nat) : Option Int :=
  some 0
def qbv (F : Nat) (x1 : List Int) (rec3 : (Int × Int) → Option Int) (x88 : Int) (x89 : Int) : Option Int :=
  (if (decide (x89 < (x1.length : Int))) then ((idx x1 x89).bind fun x121 => ((qc5 F x121).bind fun x127 => (if (!x127) then some 3 else (if (decide (x121 ≤ x88)) then some 4 else rec3 (x121, iadd .i64 x89 1))))) else qe5 F)
def vA (F : Nat) (x1 : List Int) : Nat → (Int × Int) → Option Int
  | 0 => fun _ => none
  | k + 1 => fun s => qbv F x1 (vA F x1 k) s.1 s.2
def v6 (F : Nat) (x1 : List Int) : Option Int :=
  (if (decide (300 < (x1.length : Int))) then some 2 else vA F x1 F (-1, 0))
def qb5 (F : Nat) (x1 : Int) (x2 : List Int) (x5 : Int) (_x6 : Int) (_x7 : Int) : Option Int :=
  (if ((decide (x1 < 0)) || (decide (1048576 < x1))) then some 3 else (if (decide (0 < x5)) then ((v6 F x2).bind fun x14 => some x14) else some 0))
def yA (_F : Nat) (x1 : List Int) : Option (List Int) :=
  ((app 70368744177664 ([] : List Int) x1).bind fun x8 => some x8)
def qdI (F : Nat) (x1 : Int) (x2 : List Int) : Option (Int × List Int) :=
  ((yA F x2).bind fun x10 => some (x1, x10))
def qd6 (_F : Nat) (_x1 : Int) (_x2 : List Int) (_x5 : Int) (_x6 : Int) : Option Unit :=
  some ()
def yI (_F : Nat) (x2 : Int) (x6 : Int) (x15 : List Int) : Option (Int × List Int) :=
  ((idx x15 (iquo .i64 x2 8)).bind fun x30 => (chk (decide (0 ≤ (irem x2 8))) (((idx x15 (iquo .i64 x2 8)).bind fun _x36 => (lett (x15.set (iquo .i64 x2 8).toNat (ior .u8 x30 (ishr .u8 (iconv .u8 (ishl .u64 x6 7)) (irem x2 8)))) fun x41 => some (iadd .i64 x2 1, x41))))))
def vT (F : Nat) (x2 : Int) (x3 : List Int) (x6 : Int) : Option (Int × List Int) :=
  (if (((irem x2 8) : Int) == 0) then ((app 70368744177664 x3 ([0] : List Int)).bind fun x46 => yI F x2 x6 x46) else yI F x2 x6 x3)
def qbf (_F : Nat) (_x1 : Int) (x2 : List Int) (x5 : Int) : Option Int :=
  ((idx x2 (iquo .i64 x5 8)).bind fun x7 => (chk (decide (0 ≤ (isub .i64 7 (irem x5 8)))) ((lett (iand .u64 (iconv .u64 (ishr .u8 x7 (isub .i64 7 (irem x5 8)))) 1) fun x11 => some x11))))
def jG {σ τ : Type} (F : Nat) (yy : σ → Int → Option (σ ⊕ τ)) (x4 : Int) (x6 : Int) (x7 : List Int) (rec1 : (Int × σ) → Option (σ ⊕ τ)) (x22 : Int) (x23 : σ) : Option (σ ⊕ τ) :=
  (if (decide (x22 < x4)) then ((qbf F x6 x7 x22).bind fun x44 => ((yy x23 x44).bind (Sum.elim (fun x45 => rec1 (iadd .i64 x22 1, x45)) (fun x46 => some (.inr x46))))) else some (.inl x23))
def kG {σ τ : Type} (F : Nat) (yy : σ → Int → Option (σ ⊕ τ)) (x4 : Int) (x6 : Int) (x7 : List Int) : Nat → (Int × σ) → Option (σ ⊕ τ)
  | 0 => fun _ => none
  | k + 1 => fun s => jG F yy x4 x6 x7 (kG F yy x4 x6 x7 k) s.1 s.2
def qdb {σ τ : Type} (F : Nat) (yy : σ → Int → Option (σ ⊕ τ)) (x2 : Int) (x4 : Int) (x6 : Int) (x7 : List Int) (s0 : σ) : Option (σ ⊕ τ) :=
  kG F yy x4 x6 x7 F (x2, s0)
def qaO (F : Nat) (x45 : Int) (x48 : List Int) (x53 : Int) : Option ((Int × List Int) ⊕ Empty) :=
  ((vT F x45 x48 x53).bind fun x54 => some (.inl (x54.1, x54.2)))
def qb3 (F : Nat) (x1 : Int) (x2 : List Int) (x5 : Int) (x6 : List Int) : Option (Int × List Int) :=
  ((qdI F x1 x2).bind fun x12 => ((qd6 F x5 x6 0 x5).bind fun _x37 => ((qdb F (fun ((x45, x48) : (Int × List Int)) (x53 : Int) => qaO F x45 x48 x53) 0 x5 x5 x6 (x12.1, x12.2)).bind (Sum.elim (fun ((x45, x48) : (Int × List Int)) => some (x45, x48)) (fun t => t.elim)))))
def yD (F : Nat) (x2 : Int) (x3 : List Int) (x7 : Int) (x8 : List Int) (x13 : Bool) : Option (Int × List Int × Bool) :=
  (if (!x13) then ((qb3 F x2 x3 x7 x8).bind fun x14 => some (x14.1, x14.2, x13)) else some (x2, x3, x13))
def yO (F : Nat) (x2 : Int) (x3 : List Int) (x6 : Bool) (x7 : Int) (x8 : List Int) : Option (Int × List Int × Bool) :=
  (if x6 then yD F x2 x3 x7 x8 true else yD F x2 x3 x7 x8 (decide (8192 < (iadd .i64 x2 x7))))
def yH (_F : Nat) (x9 : Int) (x10 : Int) : Option Int :=
  ((idx ([0, 1, 2, 2, 3, 3, 3, 3, 4, 4, 4, 4, 4, 4, 4, 4, 5, 5, 5, 5, 5, 5, 5, 5, 5, 5, 5, 5, 5, 5, 5, 5, 6, 6, 6, 6, 6, 6, 6, 6, 6, 6, 6, 6, 6, 6, 6, 6, 6, 6, 6, 6, 6, 6, 6, 6, 6, 6, 6, 6, 6, 6, 6, 6, 7, 7, 7, 7, 7, 7, 7, 7, 7, 7, 7, 7, 7, 7, 7, 7, 7, 7, 7, 7, 7, 7, 7, 7, 7, 7, 7, 7, 7, 7, 7, 7, 7, 7, 7, 7, 7, 7, 7, 7, 7, 7, 7, 7, 7, 7, 7, 7, 7, 7, 7, 7, 7, 7, 7, 7, 7, 7, 7, 7, 7, 7, 7, 7, 8, 8, 8, 8, 8, 8, 8, 8, 8, 8, 8, 8, 8, 8, 8, 8, 8, 8, 8, 8, 8, 8, 8, 8, 8, 8, 8, 8, 8, 8, 8, 8, 8, 8, 8, 8, 8, 8, 8, 8, 8, 8, 8, 8, 8, 8, 8, 8, 8, 8, 8, 8, 8, 8, 8, 8, 8, 8, 8, 8, 8, 8, 8, 8, 8, 8, 8, 8, 8, 8, 8, 8, 8, 8, 8, 8, 8, 8, 8, 8, 8, 8, 8, 8, 8, 8, 8, 8, 8, 8, 8, 8, 8, 8, 8, 8, 8, 8, 8, 8, 8, 8, 8, 8, 8, 8, 8, 8, 8, 8, 8, 8, 8, 8, 8, 8, 8, 8, 8, 8, 8, 8, 8, 8, 8, 8, 8, 8] : List Int) (iconv .u8 x9)).bind fun x11 => some (iadd .i64 x10 (iconv .i64 x11)))
def yG (F : Nat) (x6 : Int) (x7 : Int) : Option Int :=
  (if (decide (256 ≤ x6)) then yH F (ishr .u64 x6 8) (iadd .i64 x7 8) else yH F x6 x7)
def yE (F : Nat) (x3 : Int) (x4 : Int) : Option Int :=
  (if (decide (65536 ≤ x3)) then yG F (ishr .u64 x3 16) (iadd .i64 x4 16) else yG F x3 x4)
def yN (F : Nat) (x1 : Int) : Option Int :=
  (if (decide (4294967296 ≤ x1)) then yE F (ishr .u64 x1 32) 32 else yE F x1 0)
def qdt (F : Nat) (x1 : Int) : Option Int :=
  ((yN F (iadd .u64 x1 1)).bind fun x2 => some (isub .i64 x2 1))
def kC (F : Nat) (x6 : Int) (rec1 : (Int × Int × List Int) → Option (Int × List Int)) (x18 : Int) (x19 : Int) (x22 : List Int) : Option (Int × List Int) :=
  (if (decide (0 ≤ x18)) then (chk (decide (0 ≤ x18)) (((vT F x19 x22 (iand .u64 (ishr .u64 x6 x18) 1)).bind fun x40 => rec1 (isub .i64 x18 1, x40.1, x40.2)))) else some (x19, x22))
def kz (F : Nat) (x6 : Int) : Nat → (Int × Int × List Int) → Option (Int × List Int)
  | 0 => fun _ => none
  | k + 1 => fun s => kC F x6 (kz F x6 k) s.1 s.2.1 s.2.2
def vO (F : Nat) (x2 : Int) (x3 : List Int) (x6 : Int) (x7 : Int) : Option (Int × List Int) :=
  kz F x6 F (isub .i64 x7 1, x2, x3)
def qaK (F : Nat) (x1 : Int) (x2 : List Int) (x5 : Int) (x6 : Int) : Option (Int × List Int) :=
  ((qdI F x1 x2).bind fun x9 => ((vO F x9.1 x9.2 x5 x6).bind fun x13 => some (x13.1, x13.2)))
def qc7 (F : Nat) (x1 : Int) : Option (Int × List Int) :=
  ((mk 140737488355328 (0 : Int) (iquo .u64 (iadd .u64 x1 7) 8)).bind fun x3 => ((qaK F (iconv .i64 x1) x3 1 1).bind fun x6 => some (x6.1, x6.2)))
def qdY (_F : Nat) (x1 : Int) (x2 : Int) : Option Int :=
  (chk (decide (0 ≤ x2)) ((lett (iand .u64 x1 (isub .u64 (ishl .u64 1 x2) 1)) fun x4 => some x4)))
def qa9 (F : Nat) (x1 : Int) : Option (Int × List Int) :=
  ((qdt F x1).bind fun x3 => ((qc7 F (iconv .u64 x3)).bind fun x4 => ((qdY F (iadd .u64 x1 1) x3).bind fun x7 => ((qaK F x4.1 x4.2 x7 x3).bind fun x8 => some (x8.1, x8.2)))))
def zO (F : Nat) (x2 : Int) (x3 : List Int) (x6 : Bool) (x7 : Int) : Option (Int × List Int × Bool) :=
  ((qa9 F (iconv .u64 x7)).bind fun x8 => ((yO F x2 x3 x6 x8.1 x8.2).bind fun x11 => some (x11.1, x11.2.1, x11.2.2)))
def qbH (_F : Nat) (x1 : Int) : Option Bool :=
  some ((x1 : Int) != x1)
def qak (_F : Nat) (x1 : Int) (x2 : Int) (x6 : Bool) : Option Bool :=
  some (x6 || (decide (x1 < x2)))
def qcd (F : Nat) (x1 : Int) (x2 : Int) : Option Bool :=
  ((qbH F x1).bind fun x3 => (if x3 then ((qbH F x2).bind fun x8 => qak F x1 x2 (!x8)) else qak F x1 x2 false))
def jP (_F : Nat) (x1 : Int) : Option Bool :=
  some ((x1 : Int) != x1)
def ya (_F : Nat) (x32 : Int) (x55 : Bool) : Option (Int × Bool) :=
  some (x32, x55)
def k9 (F : Nat) (x32 : Int) (x68 : Bool) : Option (Int × Bool) :=
  ya F x32 x68
def yi (F : Nat) (x32 : Int) (x75 : Bool) : Option (Int × Bool) :=
  k9 F x32 x75
def k8 (F : Nat) (x1 : List Int) (x4 : Int) (x32 : Int) : Option (Int × Bool) :=
  (if (decide (x32 < (x1.length : Int))) then ((idx x1 x32).bind fun x56 => (if ((x56 : Int) == x4) then k9 F x32 true else ((idx x1 x32).bind fun x69 => ((jP F x69).bind fun x72 => (if x72 then ((jP F x4).bind fun x76 => yi F x32 x76) else yi F x32 false))))) else ya F x32 false)
def kw (F : Nat) (x1 : List Int) (x4 : Int) (rec10 : (Int × Int) → Option (Int × Bool)) (x85 : Int) (x86 : Int) : Option (Int × Bool) :=
  (if (decide (x85 < x86)) then (lett (iconv .i64 (ishr .u64 (iconv .u64 (iadd .i64 x85 x86)) 1)) fun x97 => ((idx x1 x97).bind fun x98 => ((qcd F x98 x4).bind fun x101 => (if x101 then rec10 (iadd .i64 x97 1, x86) else rec10 (x85, x97))))) else k8 F x1 x4 x85)
def zK (F : Nat) (x1 : List Int) (x4 : Int) : Nat → (Int × Int) → Option (Int × Bool)
  | 0 => fun _ => none
  | k + 1 => fun s => kw F x1 x4 (zK F x1 x4 k) s.1 s.2
def kq (F : Nat) (x1 : List Int) (x4 : Int) : Option (Int × Bool) :=
  zK F x1 x4 F (0, (x1.length : Int))
def vv (_F : Nat) (x21 : List Int) (x22 : Bool) (x23 : Int) : Option (List Int × Bool × Int) :=
  some (x21, x22, iadd .i64 x23 1)
def jR (F : Nat) (x2 : List Int) (x5 : Bool) (x6 : Int) (x7 : Bool) : Option (List Int × Bool × Int) :=
  (if (x7 != x5) then ((app 8796093022208 x2 ([x6] : List Int)).bind fun x31 => vv F x31 x7 0) else vv F x2 x5 x6)
def qdD (_F : Nat) (x66 : List Int) (x151 : List Int) : Option (List Int × List Int) :=
  some (x66, x151)
def qbP (_F : Nat) (rec10 : (List Int × Int) → Option (List Int × List Int)) (x180 : Int) (x220 : List Int) : Option (List Int × List Int) :=
  rec10 (x220, iadd .i64 x180 1)
def qbO (F : Nat) (x1 : List Int) (x4 : List Int) (x66 : List Int) (rec10 : (List Int × Int) → Option (List Int × List Int)) (x179 : List Int) (x180 : Int) : Option (List Int × List Int) :=
  (if (decide (x180 < (x4.length : Int))) then ((idx x4 x180).bind fun x221 => ((kq F x1 x221).bind fun x224 => (if (!x224.2) then ((app 8796093022208 x179 ([x221] : List Int)).bind fun x227 => qbP F rec10 x180 x227) else qbP F rec10 x180 x179))) else qdD F x66 x179)
def yV (F : Nat) (x1 : List Int) (x4 : List Int) (x66 : List Int) : Nat → (List Int × Int) → Option (List Int × List Int)
  | 0 => fun _ => none
  | k + 1 => fun s => qbO F x1 x4 x66 (yV F x1 x4 x66 k) s.1 s.2
def qdE (F : Nat) (x1 : List Int) (x4 : List Int) (x66 : List Int) (_x67 : Bool) (_x68 : Int) : Option (List Int × List Int) :=
  yV F x1 x4 x66 F (([] : List Int), 0)
def qbw (F : Nat) (x1 : List Int) (x4 : List Int) (rec12 : (Int × List Int × Bool × Int) → Option (List Int × List Int)) (x249 : Int) (x252 : List Int) (x253 : Bool) (x254 : Int) : Option (List Int × List Int) :=
  (if (decide (x249 < (x1.length : Int))) then ((idx x1 x249).bind fun x280 => ((kq F x4 x280).bind fun x283 => ((jR F x252 x253 x254 x283.2).bind fun x284 => rec12 (iadd .i64 x249 1, x284.1, x284.2.1, x284.2.2)))) else qdE F x1 x4 x252 x253 x254)
def vH (F : Nat) (x1 : List Int) (x4 : List Int) : Nat → (Int × List Int × Bool × Int) → Option (List Int × List Int)
  | 0 => fun _ => none
  | k + 1 => fun s => qbw F x1 x4 (vH F x1 x4 k) s.1 s.2.1 s.2.2.1 s.2.2.2
def qd0 (F : Nat) (x1 : List Int) (x4 : List Int) : Option (List Int × List Int) :=
  vH F x1 x4 F (0, ([] : List Int), true, 0)
def yP (F : Nat) (x7 : List Int) (rec1 : (Int × Int × List Int × Bool) → Option (Int × List Int × Bool)) (x27 : Int) (x28 : Int) (x31 : List Int) (x32 : Bool) : Option (Int × List Int × Bool) :=
  (if (decide (x27 < (x7.length : Int))) then ((idx x7 x27).bind fun x55 => ((zO F x28 x31 x32 (isub .i64 x55 (imin x27 1))).bind fun x58 => rec1 (iadd .i64 x27 1, x58.1, x58.2.1, x58.2.2))) else some (x28, x31, x32))
def kA (F : Nat) (x7 : List Int) : Nat → (Int × Int × List Int × Bool) → Option (Int × List Int × Bool)
  | 0 => fun _ => none
  | k + 1 => fun s => yP F x7 (kA F x7 k) s.1 s.2.1 s.2.2.1 s.2.2.2
def vV (F : Nat) (x2 : Int) (x3 : List Int) (x6 : Bool) (x7 : List Int) : Option (Int × List Int × Bool) :=
  ((zO F x2 x3 x6 (x7.length : Int)).bind fun x10 => kA F x7 F (0, x10.1, x10.2.1, x10.2.2))
def qfe (_F : Nat) (_x1 : List Int) : Option Unit :=
  some ()
def qaC {σ τ : Type} (_F : Nat) (yy : σ → (Int × Int) → Option (σ ⊕ τ)) (rec31 : (Int × σ) → Option (σ ⊕ τ)) (x2 : List Int) (x266 : Int) (x267 : σ) (x654 : Int) : Option (σ ⊕ τ) :=
  ((idx x2 x266).bind fun x662 => ((yy x267 (x662, x654)).bind (Sum.elim (fun x665 => rec31 (iadd .i64 x266 x654, x665)) (fun x666 => some (.inr x666)))))
def qar {σ τ : Type} (F : Nat) (yy : σ → (Int × Int) → Option (σ ⊕ τ)) (rec31 : (Int × σ) → Option (σ ⊕ τ)) (rec44 : Int → Option (σ ⊕ τ)) (x2 : List Int) (x266 : Int) (x267 : σ) (x709 : Int) (x780 : Bool) : Option (σ ⊕ τ) :=
  (if x780 then rec44 (iadd .i64 x709 1) else qaC F yy rec31 x2 x266 x267 x709)
def qaw {σ τ : Type} (F : Nat) (yy : σ → (Int × Int) → Option (σ ⊕ τ)) (rec31 : (Int × σ) → Option (σ ⊕ τ)) (x2 : List Int) (x266 : Int) (x267 : σ) (rec44 : Int → Option (σ ⊕ τ)) (x709 : Int) : Option (σ ⊕ τ) :=
  (if (decide ((iadd .i64 x266 x709) < (x2.length : Int))) then ((idx x2 (iadd .i64 x266 x709)).bind fun x783 => ((idx x2 x266).bind fun x787 => qar F yy rec31 rec44 x2 x266 x267 x709 ((x783 : Int) == (iadd .i64 x787 x709)))) else qar F yy rec31 rec44 x2 x266 x267 x709 false)
def yj {σ τ : Type} (F : Nat) (yy : σ → (Int × Int) → Option (σ ⊕ τ)) (rec31 : (Int × σ) → Option (σ ⊕ τ)) (x2 : List Int) (x266 : Int) (x267 : σ) : Nat → Int → Option (σ ⊕ τ)
  | 0 => fun _ => none
  | k + 1 => fun s => qaw F yy rec31 x2 x266 x267 (yj F yy rec31 x2 x266 x267 k) s
def qaB {σ τ : Type} (F : Nat) (yy : σ → (Int × Int) → Option (σ ⊕ τ)) (x2 : List Int) (rec31 : (Int × σ) → Option (σ ⊕ τ)) (x266 : Int) (x267 : σ) : Option (σ ⊕ τ) :=
  (if (decide (x266 < (x2.length : Int))) then yj F yy rec31 x2 x266 x267 F 1 else some (.inl x267))
def zN {σ τ : Type} (F : Nat) (yy : σ → (Int × Int) → Option (σ ⊕ τ)) (x2 : List Int) : Nat → (Int × σ) → Option (σ ⊕ τ)
  | 0 => fun _ => none
  | k + 1 => fun s => qaB F yy x2 (zN F yy x2 k) s.1 s.2
def qbp {σ τ : Type} (F : Nat) (yy : σ → (Int × Int) → Option (σ ⊕ τ)) (x2 : List Int) (s0 : σ) : Option (σ ⊕ τ) :=
  zN F yy x2 F (0, s0)
def qcT (_F : Nat) (x255 : List (Int × Int)) (x312 : Int) (x313 : Int) (rec8 : (Int × List Int) → Option ((List Int × List (Int × Int)) ⊕ Empty)) (x338 : Int) (x341 : List Int) : Option ((List Int × List (Int × Int)) ⊕ Empty) :=
  (if (decide (x338 < x313)) then ((app 8796093022208 x341 ([iadd .i64 x312 x338] : List Int)).bind fun x363 => rec8 (iadd .i64 x338 1, x363)) else some (.inl (x341, x255)))
def qab (F : Nat) (x255 : List (Int × Int)) (x312 : Int) (x313 : Int) : Nat → (Int × List Int) → Option ((List Int × List (Int × Int)) ⊕ Empty)
  | 0 => fun _ => none
  | k + 1 => fun s => qcT F x255 x312 x313 (qab F x255 x312 x313 k) s.1 s.2
def qbr (F : Nat) (x4 : Int) (x252 : List Int) (x255 : List (Int × Int)) (x312 : Int) (x313 : Int) : Option ((List Int × List (Int × Int)) ⊕ Empty) :=
  (if (decide (x4 ≤ x313)) then ((app 4398046511104 x255 ([(x312, x313)] : List (Int × Int))).bind fun x323 => some (.inl (x252, x323))) else qab F x255 x312 x313 F (0, x252))
def qeG (F : Nat) (x1 : List Int) (x4 : Int) : Option (List (Int × Int) × List Int) :=
  ((qfe F x1).bind fun _x188 => ((qbp F (fun ((x252, x255) : (List Int × List (Int × Int))) ((x312, x313) : (Int × Int)) => qbr F x4 x252 x255 x312 x313) x1 (([] : List Int), ([] : List (Int × Int)))).bind (Sum.elim (fun ((x252, x255) : (List Int × List (Int × Int))) => some (x255, x252)) (fun t => t.elim))))
def qbq (_F : Nat) (x1 : Int) : Option Int :=
  (lett (ixor .u64 (ishl .u64 (iconv .u64 x1) 1) (iconv .u64 (ishr .i64 x1 63))) fun x2 => some x2)
def yw (F : Nat) (rec5 : (Int × Int × Int × List Int × Bool) → Option (Int × List Int × Bool)) (x8 : Int) (x74 : Int) (x168 : (Int × Int)) (x180 : Int) (x183 : List Int) (x184 : Bool) : Option (Int × List Int × Bool) :=
  ((zO F x180 x183 x184 (isub .i64 x168.2 x8)).bind fun x185 => rec5 (isub .i64 (iadd .i64 x168.1 x168.2) 1, iadd .i64 x74 1, x185.1, x185.2.1, x185.2.2))
def vr (F : Nat) (x8 : Int) (x9 : List (Int × Int)) (rec5 : (Int × Int × Int × List Int × Bool) → Option (Int × List Int × Bool)) (x73 : Int) (x74 : Int) (x75 : Int) (x78 : List Int) (x79 : Bool) : Option (Int × List Int × Bool) :=
  (if (decide (x74 < (x9.length : Int))) then ((idx x9 x74).bind fun x168 => (if ((x74 : Int) == 0) then ((qbq F (isub .i64 x168.1 x73)).bind fun x188 => ((zO F x75 x78 x79 (iconv .i64 x188)).bind fun x189 => yw F rec5 x8 x74 x168 x189.1 x189.2.1 x189.2.2)) else ((zO F x75 x78 x79 (isub .i64 (isub .i64 x168.1 x73) 2)).bind fun x192 => yw F rec5 x8 x74 x168 x192.1 x192.2.1 x192.2.2))) else some (x75, x78, x79))
def kd (F : Nat) (x8 : Int) (x9 : List (Int × Int)) : Nat → (Int × Int × Int × List Int × Bool) → Option (Int × List Int × Bool)
  | 0 => fun _ => none
  | k + 1 => fun s => vr F x8 x9 (kd F x8 x9 k) s.1 s.2.1 s.2.2.1 s.2.2.2.1 s.2.2.2.2
def jF (F : Nat) (x2 : Int) (x3 : List Int) (x6 : Bool) (x7 : Int) (x8 : Int) (x9 : List (Int × Int)) : Option (Int × List Int × Bool) :=
  ((zO F x2 x3 x6 (x9.length : Int)).bind fun x12 => kd F x8 x9 F (x7, 0, x12.1, x12.2.1, x12.2.2))
def qcW (F : Nat) (x1 : Int) (x2 : Int) : Option (Int × Int × Int) :=
  ((yN F (iadd .u64 x1 1)).bind fun x3 => (chk ((x2 : Int) != 0) ((chk (decide (0 ≤ (imul .i64 (iquo .i64 (isub .i64 x3 1) x2) x2))) ((chk (decide (0 ≤ (iadd .i64 (imul .i64 (iquo .i64 (isub .i64 x3 1) x2) x2) x2))) (some (iquo .i64 (isub .i64 x3 1) x2, ishl .u64 1 (imul .i64 (iquo .i64 (isub .i64 x3 1) x2) x2), ishl .u64 1 (iadd .i64 (imul .i64 (iquo .i64 (isub .i64 x3 1) x2) x2) x2)))))))))
def qaP (F : Nat) (x1 : Int) : Option (Int × Int) :=
  ((yN F (isub .u64 x1 1)).bind fun x2 => (chk (decide (0 ≤ x2)) (some (x2, isub .u64 (ishl .u64 1 x2) x1))))
def qay (F : Nat) (x1 : Int) (x2 : List Int) (x5 : Int) (x6 : Int) : Option (Int × List Int) :=
  ((qaP F x6).bind fun x9 => (if (decide (x5 < x9.2)) then ((qaK F x1 x2 x5 (isub .i64 x9.1 1)).bind fun x14 => some (x14.1, x14.2)) else ((qaK F x1 x2 (iadd .u64 x5 x9.2) x9.1).bind fun x17 => some (x17.1, x17.2))))
def qc1 (F : Nat) (x1 : Int) (x2 : Int) : Option (Int × List Int × Int) :=
  (if (((decide (x2 < 1)) || (decide (16 < x2))) || (decide (1099511627776 < x1))) then some (0, ([] : List Int), 3) else ((qcW F x1 x2).bind fun x9 => ((qc7 F (iconv .u64 x9.1)).bind fun x10 => ((qay F x10.1 x10.2 (isub .u64 (iadd .u64 x1 1) x9.2.1) (isub .u64 x9.2.2 x9.2.1)).bind fun x13 => some (x13.1, x13.2, 0)))))
def qfS (_F : Nat) (x107 : Int) (x110 : List Int) : Option (Int × List Int × Bool) :=
  some (x107, x110, true)
def qcM (F : Nat) (x5 : List Int) (x8 : Int) (rec3 : (Int × Int × List Int) → Option (Int × List Int × Bool)) (x141 : Int) (x142 : Int) (x145 : List Int) : Option (Int × List Int × Bool) :=
  (if (decide (x141 < (x5.length : Int))) then ((idx x5 x141).bind fun x192 => ((qc1 F x192 x8).bind fun x195 => (if (((x195.2.2 : Int) != 0) || (decide (8192 < (iadd .i64 x142 x195.1)))) then some (0, ([] : List Int), false) else ((qb3 F x142 x145 x195.1 x195.2.1).bind fun x202 => rec3 (iadd .i64 x141 1, x202.1, x202.2))))) else qfS F x142 x145)
def qac (F : Nat) (x5 : List Int) (x8 : Int) : Nat → (Int × Int × List Int) → Option (Int × List Int × Bool)
  | 0 => fun _ => none
  | k + 1 => fun s => qcM F x5 x8 (qac F x5 x8 k) s.1 s.2.1 s.2.2
def qbR (F : Nat) (x1 : Int) (x2 : List Int) (x5 : List Int) (x8 : Int) : Option (Int × List Int × Bool) :=
  qac F x5 x8 F (0, x1, x2)
def qaN (_F : Nat) (x4 : Int) (x8 : Int) : Option (Int × Int × Bool) :=
  some (x8, x4, true)
def qat (F : Nat) (x2 : Int) (x3 : Bool) (x4 : Int) : Option (Int × Int × Bool) :=
  (if x3 then (lett (iconv .u64 (isub .i64 (isub .i64 x4 x2) 1)) fun x9 => qaN F x4 x9) else ((qbq F (isub .i64 x4 x2)).bind fun x10 => qaN F x4 x10))
def qee (_F : Nat) (x75 : List Int) : Option (List Int) :=
  some x75
def qcK (F : Nat) (x1 : List Int) (rec3 : (List Int × Int × Int × Bool) → Option (List Int)) (x98 : List Int) (x99 : Int) (x100 : Int) (x101 : Bool) : Option (List Int) :=
  (if (decide (x99 < (x1.length : Int))) then ((idx x1 x99).bind fun x133 => ((qat F x100 x101 x133).bind fun x136 => ((app 8796093022208 x98 ([x136.1] : List Int)).bind fun x139 => rec3 (x139, iadd .i64 x99 1, x136.2.1, x136.2.2)))) else qee F x98)
def qaf (F : Nat) (x1 : List Int) : Nat → (List Int × Int × Int × Bool) → Option (List Int)
  | 0 => fun _ => none
  | k + 1 => fun s => qcK F x1 (qaf F x1 k) s.1 s.2.1 s.2.2.1 s.2.2.2
def qdM (F : Nat) (x1 : List Int) (x4 : Int) : Option (List Int) :=
  qaf F x1 F (([] : List Int), 0, x4, false)
def yu (F : Nat) (x52 : Int) (x55 : List Int) (x56 : Bool) (x76 : Bool) (x77 : Int) (x80 : List Int) : Option (Int × List Int × Bool) :=
  ((yO F x52 x55 (x56 || (!x76)) x77 x80).bind fun x82 => some (x82.1, x82.2.1, x82.2.2))
def yp (F : Nat) (x7 : Int) (x16 : Int) (x51 : List Int) (x52 : Int) (x55 : List Int) (x56 : Bool) : Option (Int × List Int × Bool) :=
  ((qdM F x51 x7).bind fun x85 => ((qbR F 0 ([] : List Int) x85 x16).bind fun x88 => yu F x52 x55 x56 x88.2.2 x88.1 x88.2.1))
def yv (F : Nat) (x7 : Int) (x15 : Int) (x16 : Int) (x33 : List Int) (x34 : Int) (x37 : List Int) (x38 : Bool) : Option (Int × List Int × Bool) :=
  (if (((x33.length : Int) : Int) == 0) then some (x34, x37, x38) else (if (decide (0 < x15)) then ((qeG F x33 x15).bind fun x103 => ((jF F x34 x37 x38 x7 x15 x103.1).bind fun x108 => yp F x7 x16 x103.2 x108.1 x108.2.1 x108.2.2)) else yp F x7 x16 x33 x34 x37 x38))
def vq (F : Nat) (x2 : Int) (x3 : List Int) (x6 : Bool) (x7 : Int) (x8 : List Int) (x11 : List Int) (x14 : Int) (x15 : Int) (x16 : Int) : Option (Int × List Int × Bool) :=
  ((zO F x2 x3 x6 (x8.length : Int)).bind fun x18 => (if (((x8.length : Int) : Int) == 0) then some (x18.1, x18.2.1, x18.2.2) else (if (decide (0 < x14)) then ((qd0 F x11 x8).bind fun x113 => ((vV F x18.1 x18.2.1 x18.2.2 x113.1).bind fun x118 => yv F x7 x15 x16 x113.2 x118.1 x118.2.1 x118.2.2)) else yv F x7 x15 x16 x8 x18.1 x18.2.1 x18.2.2)))
def j3 (F : Nat) (x1 : Int) (x2 : List Int) (x5 : List Int) (x8 : Int) (x9 : Int) (x10 : Int) (x25 : Int) : Option (Int × List Int × Int) :=
  (if ((x25 : Int) != 0) then some (0, ([] : List Int), x25) else ((vq F 0 ([] : List Int) false x1 x2 x5 x8 x9 x10).bind fun x28 => (if x28.2.2 then some (0, ([] : List Int), 8) else some (x28.1, x28.2.1, 0))))
def vG (F : Nat) (x1 : Int) (x2 : List Int) (x5 : List Int) (x8 : Int) (x9 : Int) (x10 : Int) (x22 : Int) : Option (Int × List Int × Int) :=
  (if ((x22 : Int) == 0) then ((qb5 F x1 x5 x8 x9 x10).bind fun x34 => j3 F x1 x2 x5 x8 x9 x10 x34) else j3 F x1 x2 x5 x8 x9 x10 x22)
def vE (F : Nat) (x1 : Int) (x2 : List Int) (x5 : List Int) (x8 : Int) (x9 : Int) (x10 : Int) (x19 : Int) : Option (Int × List Int × Int) :=
  (if ((x19 : Int) == 0) then ((v6 F x2).bind fun x36 => vG F x1 x2 x5 x8 x9 x10 x36) else vG F x1 x2 x5 x8 x9 x10 x19)
def j4 (F : Nat) (x1 : Int) (x2 : List Int) (x5 : List Int) (x8 : Int) (x9 : Int) (x10 : Int) (x13 : Int) (x40 : Bool) : Option (Int × List Int × Int) :=
  (if x40 then vE F x1 x2 x5 x8 x9 x10 3 else vE F x1 x2 x5 x8 x9 x10 x13)
def qaR (F : Nat) (x1 : Int) (x2 : List Int) (x5 : List Int) (x8 : Int) (x9 : Int) (x10 : Int) : Option (Int × List Int × Int) :=
  ((jJ F x8 x9 x10).bind fun x13 => (if ((x13 : Int) == 0) then j4 F x1 x2 x5 x8 x9 x10 x13 ((decide (x1 < 0)) || (decide (1048576 < x1))) else j4 F x1 x2 x5 x8 x9 x10 x13 false))
def qaa (_F : Nat) (x36 : Bool) : Option Int :=
  (if x36 then some 1 else some 0)
def qdj (F : Nat) (x1 : Int) (x2 : List Int) : Option Int :=
  (if ((decide (x1 < 0)) || (decide (8192 < x1))) then some 3 else (if (((x2.length : Int) : Int) != (iquo .i64 (iadd .i64 x1 7) 8)) then some 1 else (if (((irem x1 8) : Int) != 0) then ((idx x2 (isub .i64 (x2.length : Int) 1)).bind fun x39 => (chk (decide (0 ≤ (irem x1 8))) (qaa F (((ishl .u8 x39 (irem x1 8)) : Int) != 0)))) else qaa F false)))
def qa2 (_F : Nat) (x13 : Int) : Option Int :=
  some x13
def qa0 (F : Nat) (x7 : Int) (x16 : Bool) : Option Int :=
  (if x16 then qa2 F 3 else qa2 F x7)
def qc2 (F : Nat) (x1 : Int) (x2 : List Int) (x5 : Int) : Option Int :=
  ((qdj F x1 x2).bind fun x7 => (if ((x7 : Int) == 0) then qa0 F x7 ((decide (x5 < 0)) || (decide (x1 < x5))) else qa0 F x7 false))
def yo (_F : Nat) (x1 : Bool) : Option (Unit ⊕ Unit) :=
  (if (!x1) then some (.inr ()) else some (.inl ()))
def qe4 (_F : Nat) : Option (Int × Int × Bool) :=
  some (0, 0, false)
def qbE (F : Nat) (x1 : Int) (x2 : List Int) (x5 : Int) (rec3 : Int → Option (Int × Int × Bool)) (x33 : Int) : Option (Int × Int × Bool) :=
  (if (decide (x33 < x1)) then ((qbf F x1 x2 x33).bind fun x44 => (if ((x44 : Int) == 1) then some (iconv .u64 (isub .i64 x33 x5), iadd .i64 x33 1, true) else rec3 (iadd .i64 x33 1))) else qe4 F)
def vI (F : Nat) (x1 : Int) (x2 : List Int) (x5 : Int) : Nat → Int → Option (Int × Int × Bool)
  | 0 => fun _ => none
  | k + 1 => fun s => qbE F x1 x2 x5 (vI F x1 x2 x5 k) s
def qcf (F : Nat) (x1 : Int) (x2 : List Int) (x5 : Int) : Option (Int × Int × Bool) :=
  vI F x1 x2 x5 F x5
def qbk (F : Nat) (x1 : Int) (x2 : List Int) (x5 : Int) : Option (Int × Int × Int) :=
  ((qcf F x1 x2 x5).bind fun x7 => (if (!x7.2.2) then some (0, 0, 7) else some (x7.1, x7.2.1, 0)))
def qdw (_F : Nat) (x24 : Int) : Option (Int × Bool) :=
  some (x24, true)
def qcj (F : Nat) (x1 : Int) (x2 : List Int) (x5 : Int) (x6 : Int) (rec3 : (Int × Int) → Option (Int × Bool)) (x29 : Int) (x30 : Int) : Option (Int × Bool) :=
  (if (decide (x30 < x6)) then ((qbf F x1 x2 (iadd .i64 x5 x30)).bind fun x38 => rec3 (ior .u64 (ishl .u64 x29 1) x38, iadd .i64 x30 1)) else qdw F x29)
def jo (F : Nat) (x1 : Int) (x2 : List Int) (x5 : Int) (x6 : Int) : Nat → (Int × Int) → Option (Int × Bool)
  | 0 => fun _ => none
  | k + 1 => fun s => qcj F x1 x2 x5 x6 (jo F x1 x2 x5 x6 k) s.1 s.2
def jB (F : Nat) (x1 : Int) (x2 : List Int) (x5 : Int) (x6 : Int) : Option (Int × Bool) :=
  (if (decide ((isub .i64 x1 x5) < x6)) then some (0, false) else jo F x1 x2 x5 x6 F (0, 0))
def ky (F : Nat) (x1 : Int) (x2 : List Int) (x5 : Int) : Option (Int × Int × Int) :=
  ((qbk F x1 x2 x5).bind fun x7 => (if ((x7.2.2 : Int) != 0) then some (0, 0, x7.2.2) else (if (decide (64 ≤ x7.1)) then some (0, 0, 3) else ((jB F x1 x2 x7.2.1 (iconv .i64 x7.1)).bind fun x10 => (if (!x10.2) then some (0, 0, 7) else (chk (decide (0 ≤ x7.1)) ((lett (iadd .u64 x10.1 (isub .u64 (ishl .u64 1 x7.1) 1)) fun x16 => (if (decide (1099511627776 < x16)) then some (0, 0, 3) else some (x16, iadd .i64 x7.2.1 (iconv .i64 x7.1), 0))))))))))
def qam (F : Nat) (x1 : Int) (x2 : List Int) (x5 : Int) : Option (Int × Int × Int) :=
  ((ky F x1 x2 x5).bind fun x7 => some (x7.1, x7.2.1, x7.2.2))
def kf (F : Nat) (x2 : Int) (x3 : List Int) (x6 : Int) (x7 : Int) : Option ((Int × Int × Int) ⊕ (Int × Int)) :=
  ((qam F x2 x3 x6).bind fun x9 => (lbnd (yo F (((x9.2.2 : Int) == 0) && (decide (x9.1 ≤ (iconv .u64 x7))))) (fun _x11 => some (.inl (iconv .i64 x9.1, x2, x9.2.1))) (fun _x12 => some (.inr (x2, x6)))))
def qcm (_F : Nat) (x4 : Int) (x99 : Int) : Option Int :=
  (if (decide (x4 < x99)) then some 8 else some 0)
def qaH (_F : Nat) (rec23 : (Int × Int) → Option Int) (x4 : Int) (x132 : Int) (x133 : Int) (x180 : Int) (x190 : Bool) : Option Int :=
  (if x190 then some 3 else (lett (imin (iadd .i64 x132 (imin x180 (iadd .i64 x4 1))) (iadd .i64 x4 1)) fun x191 => rec23 (x191, iadd .i64 x133 1)))
def qan (F : Nat) (x1 : List Int) (x4 : Int) (rec23 : (Int × Int) → Option Int) (x132 : Int) (x133 : Int) : Option Int :=
  (if (decide (x133 < (x1.length : Int))) then ((idx x1 x133).bind fun x180 => (if (decide (x180 < 0)) then qaH F rec23 x4 x132 x133 x180 true else qaH F rec23 x4 x132 x133 x180 ((decide (x180 < 1)) && (decide (0 < x133))))) else qcm F x4 x132)
def k7 (F : Nat) (x1 : List Int) (x4 : Int) : Nat → (Int × Int) → Option Int
  | 0 => fun _ => none
  | k + 1 => fun s => qan F x1 x4 (k7 F x1 x4 k) s.1 s.2
def qcO (F : Nat) (x1 : List Int) (x4 : Int) : Option Int :=
  (if (decide ((iadd .i64 x4 1) < (x1.length : Int))) then some 2 else k7 F x1 x4 F (0, 0))
def qaA (_F : Nat) (x169 : List Int) : Option (List Int) :=
  some x169
def qci (F : Nat) (x158 : List Int) (x161 : List Int) (x162 : Bool) : Option (List Int) :=
  (if x162 then ((app 8796093022208 x161 x158).bind fun x170 => qaA F x170) else qaA F x161)
def jV (_F : Nat) (rec10 : (List Int × List Int × Bool × Int) → Option (List Int)) (x217 : List Int) (x221 : Bool) (x222 : Int) (x296 : Int) (x308 : List Int) : Option (List Int) :=
  ((sub x217 x296 (x217.length : Int)).bind fun x309 => rec10 (x309, x308, (!x221), iadd .i64 x222 1))
def jM (F : Nat) (x4 : List Int) (rec10 : (List Int × List Int × Bool × Int) → Option (List Int)) (x217 : List Int) (x220 : List Int) (x221 : Bool) (x222 : Int) : Option (List Int) :=
  (if (decide (x222 < (x4.length : Int))) then ((idx x4 x222).bind fun x296 => (if x221 then ((sub x217 0 x296).bind fun x312 => ((app 8796093022208 x220 x312).bind fun x315 => jV F rec10 x217 x221 x222 x296 x315)) else jV F rec10 x217 x221 x222 x296 x220)) else qci F x217 x220 x221)
def kX (F : Nat) (x4 : List Int) : Nat → (List Int × List Int × Bool × Int) → Option (List Int)
  | 0 => fun _ => none
  | k + 1 => fun s => jM F x4 (kX F x4 k) s.1 s.2.1 s.2.2.1 s.2.2.2
def qdC (F : Nat) (x1 : List Int) (x4 : List Int) : Option (List Int) :=
  kX F x4 F (x1, ([] : List Int), true, 0)
def jY (F : Nat) (x1 : List Int) (x4 : List Int) (x10 : Int) : Option (List Int × Int) :=
  (if ((x10 : Int) != 0) then some (([] : List Int), x10) else ((qdC F x1 x4).bind fun x12 => some (x12, 0)))
def qdn (F : Nat) (x1 : List Int) (x4 : List Int) : Option (List Int × Int) :=
  ((v6 F x1).bind fun x7 => (if ((x7 : Int) == 0) then ((qcO F x4 (x1.length : Int)).bind fun x16 => jY F x1 x4 x16) else jY F x1 x4 x7))
def jm (_F : Nat) (x72 : List Int) (x73 : Int) (x74 : Int) : Option ((List Int × Int × Int) ⊕ (Int × Int)) :=
  some (.inl (x72, x73, x74))
def yT (F : Nat) (x3 : List Int) (x7 : Int) (x10 : List Int) (rec3 : (List Int × Int × Int × Int) → Option ((List Int × Int × Int) ⊕ (Int × Int))) (x93 : List Int) (x94 : Int) (x95 : Int) (x96 : Int) : Option ((List Int × Int × Int) ⊕ (Int × Int)) :=
  (if (decide (x94 < (x10.length : Int))) then (lbnd (kf F x95 x3 x96 x7) (fun x125 => ((idx x93 x94).bind fun _x127 => (lett (x93.set x94.toNat (iadd .i64 x125.1 (imin x94 1))) fun x130 => rec3 (x130, iadd .i64 x94 1, x125.2.1, x125.2.2)))) (fun x126 => some (.inr (x126.1, x126.2)))) else jm F x93 x95 x96)
def kB (F : Nat) (x3 : List Int) (x7 : Int) (x10 : List Int) : Nat → (List Int × Int × Int × Int) → Option ((List Int × Int × Int) ⊕ (Int × Int))
  | 0 => fun _ => none
  | k + 1 => fun s => yT F x3 x7 x10 (kB F x3 x7 x10 k) s.1 s.2.1 s.2.2.1 s.2.2.2
def vS (F : Nat) (x2 : Int) (x3 : List Int) (x6 : Int) (x7 : Int) : Option ((List Int × Int × Int) ⊕ (Int × Int)) :=
  (lbnd (kf F x2 x3 x6 (iadd .i64 x7 1)) (fun x8 => ((mk 17592186044416 (0 : Int) x8.1).bind fun x10 => kB F x3 x7 x10 F (x10, 0, x8.2.1, x8.2.2))) (fun x9 => some (.inr (x9.1, x9.2))))
def j2 (_F : Nat) (x1 : Int) : Option Int :=
  (lett (ixor .i64 (iconv .i64 (ishr .u64 x1 1)) (isub .i64 0 (iconv .i64 (iand .u64 x1 1)))) fun x2 => some x2)
def qaj (_F : Nat) (x136 : List (Int × Int)) (x137 : Int) (x138 : Int) : Option ((List (Int × Int) × Int × Int) ⊕ (Int × Int)) :=
  some (.inl (x136, x137, x138))
def yb (F : Nat) (rec13 : (List (Int × Int) × Int × Int × Int × Int) → Option ((List (Int × Int) × Int × Int) ⊕ (Int × Int))) (x3 : List Int) (x8 : Int) (x9 : Int) (x177 : List (Int × Int)) (x179 : Int) (x240 : (Int × Int × Int)) (x244 : Int) : Option ((List (Int × Int) × Int × Int) ⊕ (Int × Int)) :=
  (lbnd (kf F x240.2.1 x3 x240.2.2 x9) (fun x245 => ((idx x177 x179).bind fun _x247 => (lett (x177.set x179.toNat (x244, iadd .i64 x245.1 x8)) fun x250 => ((idx x250 x179).bind fun x253 => rec13 (x250, iadd .i64 x244 (isub .i64 x253.2 1), iadd .i64 x179 1, x245.2.1, x245.2.2))))) (fun x246 => some (.inr (x246.1, x246.2))))
def y9 (F : Nat) (x3 : List Int) (x8 : Int) (x9 : Int) (x13 : List (Int × Int)) (rec13 : (List (Int × Int) × Int × Int × Int × Int) → Option ((List (Int × Int) × Int × Int) ⊕ (Int × Int))) (x177 : List (Int × Int)) (x178 : Int) (x179 : Int) (x180 : Int) (x181 : Int) : Option ((List (Int × Int) × Int × Int) ⊕ (Int × Int)) :=
  (if (decide (x179 < (x13.length : Int))) then (lbnd (kf F x180 x3 x181 2097152) (fun x240 => (if ((x179 : Int) == 0) then ((j2 F (iconv .u64 x240.1)).bind fun x256 => yb F rec13 x3 x8 x9 x177 x179 x240 (iadd .i64 x178 x256)) else yb F rec13 x3 x8 x9 x177 x179 x240 (iadd .i64 x178 (iadd .i64 x240.1 2)))) (fun x241 => some (.inr (x241.1, x241.2)))) else qaj F x177 x180 x181)
def zZ (F : Nat) (x3 : List Int) (x8 : Int) (x9 : Int) (x13 : List (Int × Int)) : Nat → (List (Int × Int) × Int × Int × Int × Int) → Option ((List (Int × Int) × Int × Int) ⊕ (Int × Int))
  | 0 => fun _ => none
  | k + 1 => fun s => y9 F x3 x8 x9 x13 (zZ F x3 x8 x9 x13 k) s.1 s.2.1 s.2.2.1 s.2.2.2.1 s.2.2.2.2
def jT (F : Nat) (x2 : Int) (x3 : List Int) (x6 : Int) (x7 : Int) (x8 : Int) (x9 : Int) : Option ((List (Int × Int) × Int × Int) ⊕ (Int × Int)) :=
  (chk ((x8 : Int) != 0) ((lbnd (kf F x2 x3 x6 (iquo .i64 x9 x8)) (fun x11 => ((mk 8796093022208 (((0 : Int), (0 : Int)) : (Int × Int)) x11.1).bind fun x13 => zZ F x3 x8 x9 x13 F (x13, x7, 0, x11.2.1, x11.2.2))) (fun x12 => some (.inr (x12.1, x12.2))))))
def jb (_F : Nat) (x15 : List Int) : Option (List Int) :=
  some x15
def vw (F : Nat) (x1 : List Int) (c3 : Nat) (x4 : Int) : Option (List Int) :=
  (if (decide (x4 < 0)) then none else (lett (isub .i64 x4 (isub .i64 (c3 : Int) (x1.length : Int))) fun x16 => (if (decide (0 < x16)) then ((sub x1 0 (c3 : Int)).bind fun x17 => ((appz 8796093022208 x17 (0 : Int) x16).bind fun x18 => ((sub x18 0 (x1.length : Int)).bind fun x21 => jb F x21))) else jb F x1)))
def vp (_F : Nat) (x102 : List Int) : Option (List Int) :=
  some x102
def zv (F : Nat) (x1 : List (List Int)) (rec5 : (List Int × Int) → Option (List Int)) (x121 : List Int) (x122 : Int) : Option (List Int) :=
  (if (decide (x122 < (x1.length : Int))) then ((idx x1 x122).bind fun x148 => ((app 8796093022208 x121 x148).bind fun x152 => rec5 (x152, iadd .i64 x122 1))) else vp F x121)
def zD (F : Nat) (x1 : List (List Int)) : Nat → (List Int × Int) → Option (List Int)
  | 0 => fun _ => none
  | k + 1 => fun s => zv F x1 (zD F x1 k) s.1 s.2
def kI (F : Nat) (x1 : List (List Int)) (x43 : Int) : Option (List Int) :=
  ((vw F ([] : List Int) 0 x43).bind fun x44 => zD F x1 F (x44, 0))
def zw (F : Nat) (x1 : List (List Int)) (rec6 : (Int × Int) → Option (List Int)) (x168 : Int) (x169 : Int) : Option (List Int) :=
  (if (decide (x169 < (x1.length : Int))) then ((idx x1 x169).bind fun x189 => (if (decide ((iadd .i64 x168 (x189.length : Int)) < 0)) then none else rec6 (iadd .i64 x168 (x189.length : Int), iadd .i64 x169 1))) else kI F x1 x168)
def zC (F : Nat) (x1 : List (List Int)) : Nat → (Int × Int) → Option (List Int)
  | 0 => fun _ => none
  | k + 1 => fun s => zw F x1 (zC F x1 k) s.1 s.2
def kh (F : Nat) (x1 : List (List Int)) : Option (List Int) :=
  zC F x1 F (0, 0)
def ka (_F : Nat) (x1 : List Int) : Option (List Int) :=
  if x1.length < 4611686018427387904 then some (srt x1) else none
def qbu (_F : Nat) (x1 : Int) (x2 : Int) (x3 : Int) : Option Bool :=
  some ((decide (x2 ≤ x1)) && (decide (x1 ≤ x3)))
def qdW (_F : Nat) (x462 : List Int) : Option (List Int × Int) :=
  some (x462, 0)
def qao (_F : Nat) (rec32 : (List Int × Int) → Option (List Int × Int)) (x561 : Int) (x706 : List Int) : Option (List Int × Int) :=
  rec32 (x706, iadd .i64 x561 1)
def qal (F : Nat) (rec32 : (List Int × Int) → Option (List Int × Int)) (x561 : Int) (x707 : (Int × Int)) (rec35 : (List Int × Int) → Option (List Int × Int)) (x725 : List Int) (x726 : Int) : Option (List Int × Int) :=
  (if (decide (x726 < x707.2)) then ((app 8796093022208 x725 ([iadd .i64 x707.1 x726] : List Int)).bind fun x748 => rec35 (x748, iadd .i64 x726 1)) else qao F rec32 x561 x725)
def yM (F : Nat) (rec32 : (List Int × Int) → Option (List Int × Int)) (x561 : Int) (x707 : (Int × Int)) : Nat → (List Int × Int) → Option (List Int × Int)
  | 0 => fun _ => none
  | k + 1 => fun s => qal F rec32 x561 x707 (yM F rec32 x561 x707 k) s.1 s.2
def qap (F : Nat) (x1 : List (Int × Int)) (rec32 : (List Int × Int) → Option (List Int × Int)) (x560 : List Int) (x561 : Int) : Option (List Int × Int) :=
  (if (decide (x561 < (x1.length : Int))) then ((idx x1 x561).bind fun x707 => yM F rec32 x561 x707 F (x560, 0)) else qdW F x560)
def zY (F : Nat) (x1 : List (Int × Int)) : Nat → (List Int × Int) → Option (List Int × Int)
  | 0 => fun _ => none
  | k + 1 => fun s => qap F x1 (zY F x1 k) s.1 s.2
def qaG (F : Nat) (x1 : List (Int × Int)) : Option (List Int × Int) :=
  zY F x1 F (([] : List Int), 0)
def vQ (_F : Nat) (rec44 : (Int × Int) → Option (List Int × Int)) (x807 : Int) (x808 : Int) (x891 : (Int × Int)) (x910 : Bool) : Option (List Int × Int) :=
  (if x910 then some (([] : List Int), 3) else (if (decide (x891.1 < (iadd .i64 x807 2))) then some (([] : List Int), 4) else rec44 (isub .i64 (iadd .i64 x891.1 x891.2) 1, iadd .i64 x808 1)))
def qas (F : Nat) (x1 : List (Int × Int)) (rec44 : (Int × Int) → Option (List Int × Int)) (x807 : Int) (x808 : Int) : Option (List Int × Int) :=
  (if (decide (x808 < (x1.length : Int))) then ((idx x1 x808).bind fun x891 => ((qbu F x891.1 0 1048576).bind fun x913 => (if (!x913) then vQ F rec44 x807 x808 x891 (!x913) else ((qbu F x891.2 1 300).bind fun x914 => (if (!x914) then vQ F rec44 x807 x808 x891 (!x914) else vQ F rec44 x807 x808 x891 (decide (1048576 < (isub .i64 (iadd .i64 x891.1 x891.2) 1)))))))) else qaG F x1)
def yk (F : Nat) (x1 : List (Int × Int)) : Nat → (Int × Int) → Option (List Int × Int)
  | 0 => fun _ => none
  | k + 1 => fun s => qas F x1 (yk F x1 k) s.1 s.2
def qcS (F : Nat) (x1 : List (Int × Int)) : Option (List Int × Int) :=
  (if (decide (300 < (x1.length : Int))) then some (([] : List Int), 2) else yk F x1 F (-2, 0))
def kR (_F : Nat) (x1 : List Int) : Option (List Int) :=
  if (Go.Lib.compact x1).length ≤ x1.length then some (Go.Lib.compact x1) else none
def va (_F : Nat) (x1 : List Int) : Option (List Int) :=
  ((app 8796093022208 ([] : List Int) x1).bind fun x8 => some x8)
def j5 (F : Nat) (x4 : List Int) (x7 : (List Int × Int)) (x12 : Int) : Option (List Int × Int) :=
  (if ((x12 : Int) != 0) then some (([] : List Int), x12) else ((kh F ([x7.1, x4] : List (List Int))).bind fun x16 => ((ka F x16).bind fun x19 => (chk (decide (x19.length = x16.length)) (((va F x19).bind fun x29 => ((kR F x29).bind fun x32 => (if (decide ((x32.length : Int) < (x19.length : Int))) then some (([] : List Int), 6) else (if (decide (300 < (x19.length : Int))) then some (([] : List Int), 2) else some (x19, 0))))))))))
def qdr (F : Nat) (x1 : List (Int × Int)) (x4 : List Int) : Option (List Int × Int) :=
  ((qcS F x1).bind fun x7 => (if ((x7.2 : Int) == 0) then ((v6 F x4).bind fun x38 => j5 F x4 x7 x38) else j5 F x4 x7 x7.2))
def kb (F : Nat) (x1 : Int) (x2 : List Int) (x5 : Int) (x8 : (Int × Int)) : Option (Int × Int × Bool) :=
  ((jB F x1 x2 x5 x8.1).bind fun x14 => some (isub .u64 x14.1 x8.2, iadd .i64 x5 x8.1, x14.2))
def z6 (F : Nat) (x1 : Int) (x2 : List Int) (x5 : Int) (x6 : Int) : Option (Int × Int × Bool) :=
  ((qaP F x6).bind fun x8 => (if (decide (0 < x8.2)) then ((jB F x1 x2 x5 (isub .i64 x8.1 1)).bind fun x15 => (if (!x15.2) then some (0, 0, false) else (if (decide (x15.1 < x8.2)) then some (x15.1, isub .i64 (iadd .i64 x5 x8.1) 1, true) else kb F x1 x2 x5 x8))) else kb F x1 x2 x5 x8))
def qcg (_F : Nat) (x1 : Int) (x2 : Int) (x3 : Bool) : Option (Int × Int × Int) :=
  (if (!x3) then some (0, 0, 7) else (if (decide (1099511627776 < x1)) then some (0, 0, 3) else some (x1, x2, 0)))
def qaI (F : Nat) (x1 : Int) (x2 : List Int) (x5 : Int) (x6 : Int) : Option (Int × Int × Int) :=
  ((qcf F x1 x2 x5).bind fun x8 => (if (!x8.2.2) then some (0, 0, 7) else (if (decide (41 ≤ (imul .u64 x8.1 (iconv .u64 x6)))) then some (0, 0, 3) else (chk (decide (0 ≤ (imul .i64 (iconv .i64 x8.1) x6))) ((lett (ishl .u64 1 (imul .i64 (iconv .i64 x8.1) x6)) fun x12 => (chk (decide (0 ≤ x6)) (((z6 F x1 x2 x8.2.1 (isub .u64 (ishl .u64 x12 x6) x12)).bind fun x20 => ((qcg F (isub .u64 (iadd .u64 x12 x20.1) 1) x20.2.1 x20.2.2).bind fun x21 => some (x21.1, x21.2.1, x21.2.2)))))))))))
def yq (F : Nat) (x8 : Int) : Option (Bool × Int × Bool) :=
  ((qc5 F x8).bind fun x9 => some (x9, x8, true))
def kV (F : Nat) (x2 : Int) (x3 : Bool) (x4 : Int) : Option (Bool × Int × Bool) :=
  (if (decide (2097152 < x4)) then some (false, x2, x3) else (if x3 then yq F (iadd .i64 x2 (iadd .i64 (iconv .i64 x4) 1)) else ((j2 F x4).bind fun x10 => yq F (iadd .i64 x2 x10))))
def qdS (_F : Nat) (x105 : Int) (x108 : List Int) : Option (List Int × Int × Int) :=
  some (x108, x105, 0)
def qch (F : Nat) (x1 : Int) (x2 : List Int) (x7 : Int) (x8 : Int) (rec3 : (Int × List Int × Int × Int × Bool) → Option (List Int × Int × Int)) (x138 : Int) (x141 : List Int) (x142 : Int) (x143 : Int) (x144 : Bool) : Option (List Int × Int × Int) :=
  (if (decide (x142 < x8)) then ((qaI F x1 x2 x138 x7).bind fun x190 => (if ((x190.2.2 : Int) != 0) then some (([] : List Int), 0, x190.2.2) else ((kV F x143 x144 x190.1).bind fun x193 => (if (!x193.1) then some (([] : List Int), 0, 3) else ((app 8796093022208 x141 ([x193.2.1] : List Int)).bind fun x196 => rec3 (x190.2.1, x196, iadd .i64 x142 1, x193.2.1, x193.2.2)))))) else qdS F x138 x141)
def jp (F : Nat) (x1 : Int) (x2 : List Int) (x7 : Int) (x8 : Int) : Nat → (Int × List Int × Int × Int × Bool) → Option (List Int × Int × Int)
  | 0 => fun _ => none
  | k + 1 => fun s => qch F x1 x2 x7 x8 (jp F x1 x2 x7 x8 k) s.1 s.2.1 s.2.2.1 s.2.2.2.1 s.2.2.2.2
def qdZ (F : Nat) (x1 : Int) (x2 : List Int) (x5 : Int) (x6 : Int) (x7 : Int) (x8 : Int) : Option (List Int × Int × Int) :=
  jp F x1 x2 x7 x8 F (x5, ([] : List Int), 0, x6, false)
def yr (F : Nat) (x3 : List Int) (x7 : Int) (x13 : Int) (x15 : (Int × Int × Int)) (x31 : List Int) (x42 : List (Int × Int)) (x43 : Int) (x44 : Int) : Option ((List Int × Int × Int) ⊕ (Int × Int)) :=
  ((qdr F x42 ([] : List Int)).bind fun x45 => (lbnd (yo F (((x45.2 : Int) == 0) && (decide ((x45.1.length : Int) ≤ (isub .i64 x15.1 (x31.length : Int)))))) (fun _x49 => ((qdZ F x43 x3 x44 x7 x13 (isub .i64 (isub .i64 x15.1 (x31.length : Int)) (x45.1.length : Int))).bind fun x54 => (lbnd (yo F ((x54.2.2 : Int) == 0)) (fun _x57 => ((kh F ([x31, x45.1, x54.1] : List (List Int))).bind fun x61 => ((ka F x61).bind fun x64 => (chk (decide (x64.length = x61.length)) (some (.inl (x64, x43, x54.2.1))))))) (fun _x58 => some (.inr (x43, x44)))))) (fun _x50 => some (.inr (x43, x44)))))
def yx (F : Nat) (x3 : List Int) (x7 : Int) (x12 : Int) (x13 : Int) (x15 : (Int × Int × Int)) (x31 : List Int) (x32 : Int) (x33 : Int) : Option ((List Int × Int × Int) ⊕ (Int × Int)) :=
  (if (((isub .i64 x15.1 (x31.length : Int)) : Int) == 0) then some (.inl (x31, x32, x33)) else (if (decide (0 < x12)) then (lbnd (jT F x32 x3 x33 x7 x12 (isub .i64 x15.1 (x31.length : Int))) (fun x66 => yr F x3 x7 x13 x15 x31 x66.1 x66.2.1 x66.2.2) (fun x67 => some (.inr (x67.1, x67.2)))) else yr F x3 x7 x13 x15 x31 ([] : List (Int × Int)) x32 x33))
def vo (F : Nat) (x2 : Int) (x3 : List Int) (x6 : Int) (x7 : Int) (x8 : List Int) (x11 : Int) (x12 : Int) (x13 : Int) : Option ((List Int × Int × Int) ⊕ (Int × Int)) :=
  (lbnd (kf F x2 x3 x6 300) (fun x15 => (if ((x15.1 : Int) == 0) then some (.inl (([] : List Int), x15.2.1, x15.2.2)) else (if (decide (0 < x11)) then (lbnd (vS F x15.2.1 x3 x15.2.2 (x8.length : Int)) (fun x72 => ((qdn F x8 x72.1).bind fun x76 => (lbnd (yo F (((x76.2 : Int) == 0) && (decide ((x76.1.length : Int) ≤ x15.1)))) (fun _x80 => yx F x3 x7 x12 x13 x15 x76.1 x72.2.1 x72.2.2) (fun _x81 => some (.inr (x72.2.1, x72.2.2)))))) (fun x73 => some (.inr (x73.1, x73.2)))) else yx F x3 x7 x12 x13 x15 ([] : List Int) x15.2.1 x15.2.2))) (fun x16 => some (.inr (x16.1, x16.2))))
def qcp (_F : Nat) (x17 : (List Int × Int × Int)) : Option (List Int × Bool × Int × Int) :=
  some (x17.1, true, x17.2.1, x17.2.2)
def vt (F : Nat) (x3 : List Int) (x6 : Int) (x17 : (List Int × Int × Int)) (x25 : (Int × List Int × Bool)) (rec4 : Int → Option (List Int × Bool × Int × Int)) (x75 : Int) : Option (List Int × Bool × Int × Int) :=
  (if (decide (x75 < x25.1)) then ((qbf F x25.1 x25.2.1 x75).bind fun x92 => ((qbf F x17.2.1 x3 (iadd .i64 x6 x75)).bind fun x93 => (lbnd (yo F ((x92 : Int) == x93)) (fun _x94 => rec4 (iadd .i64 x75 1)) (fun _x95 => some (([] : List Int), false, x17.2.1, x17.2.2))))) else qcp F x17)
def ke (F : Nat) (x3 : List Int) (x6 : Int) (x17 : (List Int × Int × Int)) (x25 : (Int × List Int × Bool)) : Nat → Int → Option (List Int × Bool × Int × Int)
  | 0 => fun _ => none
  | k + 1 => fun s => vt F x3 x6 x17 x25 (ke F x3 x6 x17 x25 k) s
def vu (F : Nat) (x3 : List Int) (x6 : Int) (x17 : (List Int × Int × Int)) (x25 : (Int × List Int × Bool)) : Option (List Int × Bool × Int × Int) :=
  ke F x3 x6 x17 x25 F 0
def vl (F : Nat) (x2 : Int) (x3 : List Int) (x6 : Int) (x7 : Int) (x8 : List Int) (x11 : Int) (x12 : Int) (x13 : Int) : Option (List Int × Bool × Int × Int) :=
  (lbnd (vo F x2 x3 x6 x7 x8 x11 x12 x13) (fun x17 => ((v6 F x17.1).bind fun x21 => (lbnd (yo F ((x21 : Int) == 0)) (fun _x22 => ((vq F 0 ([] : List Int) false x7 x17.1 x8 x11 x12 x13).bind fun x25 => (if (!x25.2.2) then (lbnd (yo F ((x25.1 : Int) == (isub .i64 x17.2.2 x6))) (fun _x98 => vu F x3 x6 x17 x25) (fun _x99 => some (([] : List Int), false, x17.2.1, x17.2.2))) else (lbnd (yo F false) (fun _x100 => vu F x3 x6 x17 x25) (fun _x101 => some (([] : List Int), false, x17.2.1, x17.2.2)))))) (fun _x23 => some (([] : List Int), false, x17.2.1, x17.2.2))))) (fun x18 => some (([] : List Int), false, x18.1, x18.2)))
def qd1 (F : Nat) (x1 : Int) (x2 : List Int) (x5 : Int) (x6 : Int) (x7 : List Int) (x10 : Int) (x11 : Int) (x12 : Int) : Option (List Int × Int × Int) :=
  ((vl F x1 x2 x5 x6 x7 x10 x11 x12).bind fun x16 => (if (!x16.2.1) then some (([] : List Int), 0, 1) else some (x16.1, x16.2.2.2, 0)))
def qaL (F : Nat) (x1 : Int) (x2 : List Int) (x5 : Int) (x6 : Int) (x7 : List Int) (x10 : Int) (x11 : Int) (x12 : Int) (x21 : Int) : Option (List Int × Int × Int) :=
  (if ((x21 : Int) != 0) then some (([] : List Int), 0, x21) else ((qd1 F x1 x2 x5 x6 x7 x10 x11 x12).bind fun x23 => some (x23.1, x23.2.1, x23.2.2)))
def qaM (F : Nat) (x1 : Int) (x2 : List Int) (x5 : Int) (x6 : Int) (x7 : List Int) (x10 : Int) (x11 : Int) (x12 : Int) (x18 : Int) : Option (List Int × Int × Int) :=
  (if ((x18 : Int) == 0) then ((qb5 F x6 x7 x10 x11 x12).bind fun x27 => qaL F x1 x2 x5 x6 x7 x10 x11 x12 x27) else qaL F x1 x2 x5 x6 x7 x10 x11 x12 x18)
def qb2 (F : Nat) (x1 : Int) (x2 : List Int) (x5 : Int) (x6 : Int) (x7 : List Int) (x10 : Int) (x11 : Int) (x12 : Int) : Option (List Int × Int × Int) :=
  ((jJ F x10 x11 x12).bind fun x15 => (if ((x15 : Int) == 0) then ((qc2 F x1 x2 x5).bind fun x29 => qaM F x1 x2 x5 x6 x7 x10 x11 x12 x29) else qaM F x1 x2 x5 x6 x7 x10 x11 x12 x15))
def kH (_F : Nat) (x1 : Int) (x2 : Int) (x3 : Int) : Option Bool :=
  some ((decide (x2 ≤ x1)) && (decide (x1 ≤ x3)))
def qbC (_F : Nat) (x30 : Bool) : Option Int :=
  (if x30 then some 3 else some 0)
def jZ (F : Nat) (x3 : Int) (x27 : Bool) : Option Int :=
  (if x27 then qbC F true else ((kH F x3 1 16).bind fun x32 => qbC F (!x32)))
def qbz (F : Nat) (x3 : Int) (x35 : Bool) : Option Int :=
  jZ F x3 x35
def qa6 (F : Nat) (x1 : Int) (x2 : Int) (x3 : Int) : Option Int :=
  ((kH F x1 0 7).bind fun x21 => (if (!x21) then jZ F x3 true else (if ((x2 : Int) != 0) then ((kH F x2 2 300).bind fun x36 => qbz F x3 (!x36)) else qbz F x3 false)))
def qdK (_F : Nat) : Option Int :=
  some 0
def y8 (_F : Nat) (rec13 : Int → Option Int) (x255 : Int) (x368 : Bool) : Option Int :=
  (if x368 then some 4 else rec13 (iadd .i64 x255 1))
def ji (F : Nat) (x1 : List Int) (rec13 : Int → Option Int) (x255 : Int) : Option Int :=
  (if (decide (x255 < (x1.length : Int))) then ((idx x1 x255).bind fun x355 => ((kH F x355 0 1048576).bind fun x358 => (if (!x358) then some 3 else (if (decide (0 < x255)) then ((idx x1 x255).bind fun x371 => ((idx x1 (isub .i64 x255 1)).bind fun x375 => y8 F rec13 x255 (decide (x371 ≤ x375)))) else y8 F rec13 x255 false)))) else qdK F)
def kx (F : Nat) (x1 : List Int) : Nat → Int → Option Int
  | 0 => fun _ => none
  | k + 1 => fun s => ji F x1 (kx F x1 k) s
def yW (F : Nat) (x1 : List Int) : Option Int :=
  (if (decide (300 < (x1.length : Int))) then some 2 else kx F x1 F 0)
def qc8 (F : Nat) (x1 : Int) (x2 : List Int) (x5 : Int) (_x6 : Int) (_x7 : Int) : Option Int :=
  ((kH F x1 0 1048576).bind fun x11 => (if (!x11) then some 3 else (if (decide (0 < x5)) then ((yW F x2).bind fun x14 => some x14) else some 0)))
def qed (_F : Nat) (x31 : List Int) : Option (List Int) :=
  some x31
def qcZ (F : Nat) (rec3 : (Int × List Int) → Option (List Int)) (x40 : Int) (x43 : List Int) : Option (List Int) :=
  (if (decide (0 < x40)) then ((app 8796093022208 ([iconv .i64 (irem x40 2)] : List Int) x43).bind fun x55 => rec3 (iquo .u64 x40 2, x55)) else qed F x43)
def qag (F : Nat) : Nat → (Int × List Int) → Option (List Int)
  | 0 => fun _ => none
  | k + 1 => fun s => qcZ F (qag F k) s.1 s.2
def qeN (F : Nat) (x1 : Int) : Option (List Int) :=
  qag F F (x1, ([] : List Int))
def qcA (_F : Nat) (x2 : List Int) (x48 : List Int) : Option (List Int) :=
  ((app 8796093022208 x48 x2).bind fun x49 => some x49)
def qaS (F : Nat) (x2 : List Int) (rec3 : (List Int × Int) → Option (List Int)) (x66 : List Int) (x67 : Int) : Option (List Int) :=
  (if (decide (x67 < (x2.length : Int))) then ((app 8796093022208 x66 ([0] : List Int)).bind fun x89 => rec3 (x89, iadd .i64 x67 1)) else qcA F x2 x66)
def vg (F : Nat) (x2 : List Int) : Nat → (List Int × Int) → Option (List Int)
  | 0 => fun _ => none
  | k + 1 => fun s => qaS F x2 (vg F x2 k) s.1 s.2
def kQ (F : Nat) (x1 : Int) : Option (List Int) :=
  ((qeN F (iadd .u64 x1 1)).bind fun x2 => vg F x2 F (([] : List Int), 1))
def qeb (_F : Nat) : Option Bool :=
  some false
def qcX (F : Nat) (x1 : List Int) (x4 : Int) (rec3 : Int → Option Bool) (x47 : Int) : Option Bool :=
  (if (decide (x47 < (x1.length : Int))) then ((idx x1 x47).bind fun x64 => (if ((x64 : Int) == x4) then some true else rec3 (iadd .i64 x47 1))) else qeb F)
def qae (F : Nat) (x1 : List Int) (x4 : Int) : Nat → Int → Option Bool
  | 0 => fun _ => none
  | k + 1 => fun s => qcX F x1 x4 (qae F x1 x4 k) s
def qaQ (F : Nat) (x1 : List Int) (x4 : Int) : Option Bool :=
  qae F x1 x4 F 0
def qbm (_F : Nat) (x210 : List Int) (x311 : List Int) : Option (List Int × List Int) :=
  some (x210, x311)
def jg (_F : Nat) (rec22 : (List Int × Int) → Option (List Int × List Int)) (x346 : Int) (x395 : List Int) : Option (List Int × List Int) :=
  rec22 (x395, iadd .i64 x346 1)
def jf (F : Nat) (x1 : List Int) (x4 : List Int) (x210 : List Int) (rec22 : (List Int × Int) → Option (List Int × List Int)) (x345 : List Int) (x346 : Int) : Option (List Int × List Int) :=
  (if (decide (x346 < (x4.length : Int))) then ((idx x4 x346).bind fun x396 => ((qaQ F x1 x396).bind fun x399 => (if (!x399) then ((idx x4 x346).bind fun x400 => ((app 8796093022208 x345 ([x400] : List Int)).bind fun x405 => jg F rec22 x346 x405)) else jg F rec22 x346 x345))) else qbm F x210 x345)
def kN (F : Nat) (x1 : List Int) (x4 : List Int) (x210 : List Int) : Nat → (List Int × Int) → Option (List Int × List Int)
  | 0 => fun _ => none
  | k + 1 => fun s => jf F x1 x4 x210 (kN F x1 x4 x210 k) s.1 s.2
def qbn (F : Nat) (x1 : List Int) (x4 : List Int) (x210 : List Int) : Option (List Int × List Int) :=
  kN F x1 x4 x210 F (([] : List Int), 0)
def jh (_F : Nat) (rec33 : (List Int × Int × Int) → Option (List Int × List Int)) (x513 : Int) (x587 : List Int) (x588 : Int) : Option (List Int × List Int) :=
  rec33 (x587, x588, iadd .i64 x513 1)
def yZ (F : Nat) (rec33 : (List Int × Int × Int) → Option (List Int × List Int)) (x1 : List Int) (x4 : List Int) (x511 : List Int) (x512 : Int) (x513 : Int) (x594 : Bool) : Option (List Int × List Int) :=
  ((idx x1 x513).bind fun x595 => ((qaQ F x4 x595).bind fun x598 => (if (x598 != x594) then ((app 8796093022208 x511 ([isub .i64 x513 x512] : List Int)).bind fun x601 => jh F rec33 x513 x601 x513) else jh F rec33 x513 x511 x512)))
def je (F : Nat) (x1 : List Int) (x4 : List Int) (rec33 : (List Int × Int × Int) → Option (List Int × List Int)) (x511 : List Int) (x512 : Int) (x513 : Int) : Option (List Int × List Int) :=
  (if (decide (x513 < (x1.length : Int))) then (if (decide (0 < x513)) then ((idx x1 (isub .i64 x513 1)).bind fun x605 => ((qaQ F x4 x605).bind fun x608 => yZ F rec33 x1 x4 x511 x512 x513 x608)) else yZ F rec33 x1 x4 x511 x512 x513 true) else qbn F x1 x4 x511)
def kg (F : Nat) (x1 : List Int) (x4 : List Int) : Nat → (List Int × Int × Int) → Option (List Int × List Int)
  | 0 => fun _ => none
  | k + 1 => fun s => je F x1 x4 (kg F x1 x4 k) s.1 s.2.1 s.2.2
def qbB (F : Nat) (x1 : List Int) (x4 : List Int) : Option (List Int × List Int) :=
  kg F x1 x4 F (([] : List Int), 0, 0)
def qce (_F : Nat) (x600 : List (Int × Int)) (x603 : List Int) : Option (List (Int × Int) × List Int) :=
  some (x600, x603)
def v7 (_F : Nat) (rec68 : (List (Int × Int) × List Int × Int) → Option (List (Int × Int) × List Int)) (x808 : Int) (x1097 : List (Int × Int)) (x1100 : List Int) : Option (List (Int × Int) × List Int) :=
  rec68 (x1097, x1100, iadd .i64 x808 1)
def qaF (F : Nat) (rec68 : (List (Int × Int) × List Int × Int) → Option (List (Int × Int) × List Int)) (x1 : List Int) (x4 : Int) (x804 : List (Int × Int)) (x807 : List Int) (x808 : Int) (x1131 : Int) (x1146 : Int) : Option (List (Int × Int) × List Int) :=
  (if (decide ((iadd .i64 (isub .i64 x1146 x1131) 1) < x4)) then ((idx x1 x808).bind fun x1147 => ((app 8796093022208 x807 ([x1147] : List Int)).bind fun x1152 => v7 F rec68 x808 x804 x1152)) else ((idx x1 x808).bind fun x1155 => (if ((x1131 : Int) == x1155) then ((app 4398046511104 x804 ([(x1131, iadd .i64 (isub .i64 x1146 x1131) 1)] : List (Int × Int))).bind fun x1160 => v7 F rec68 x808 x1160 x807) else v7 F rec68 x808 x804 x807)))
def yQ (F : Nat) (rec68 : (List (Int × Int) × List Int × Int) → Option (List (Int × Int) × List Int)) (x1 : List Int) (x4 : Int) (x804 : List (Int × Int)) (x807 : List Int) (x808 : Int) (x1131 : Int) (rec80 : Int → Option (List (Int × Int) × List Int)) (x1169 : Int) : Option (List (Int × Int) × List Int) :=
  ((qaQ F x1 (iadd .i64 x1169 1)).bind fun x1177 => (if x1177 then rec80 (iadd .i64 x1169 1) else qaF F rec68 x1 x4 x804 x807 x808 x1131 x1169))
def ye (F : Nat) (rec68 : (List (Int × Int) × List Int × Int) → Option (List (Int × Int) × List Int)) (x1 : List Int) (x4 : Int) (x804 : List (Int × Int)) (x807 : List Int) (x808 : Int) (x1131 : Int) : Nat → Int → Option (List (Int × Int) × List Int)
  | 0 => fun _ => none
  | k + 1 => fun s => yQ F rec68 x1 x4 x804 x807 x808 x1131 (ye F rec68 x1 x4 x804 x807 x808 x1131 k) s
def qav (F : Nat) (rec68 : (List (Int × Int) × List Int × Int) → Option (List (Int × Int) × List Int)) (x1 : List Int) (x4 : Int) (x804 : List (Int × Int)) (x807 : List Int) (x808 : Int) (x1113 : Int) (x1131 : Int) : Option (List (Int × Int) × List Int) :=
  ye F rec68 x1 x4 x804 x807 x808 x1131 F x1113
def yS (F : Nat) (rec68 : (List (Int × Int) × List Int × Int) → Option (List (Int × Int) × List Int)) (x1 : List Int) (x4 : Int) (x804 : List (Int × Int)) (x807 : List Int) (x808 : Int) (x1113 : Int) (rec81 : Int → Option (List (Int × Int) × List Int)) (x1183 : Int) : Option (List (Int × Int) × List Int) :=
  ((qaQ F x1 (isub .i64 x1183 1)).bind fun x1191 => (if x1191 then rec81 (isub .i64 x1183 1) else qav F rec68 x1 x4 x804 x807 x808 x1113 x1183))
def yc (F : Nat) (rec68 : (List (Int × Int) × List Int × Int) → Option (List (Int × Int) × List Int)) (x1 : List Int) (x4 : Int) (x804 : List (Int × Int)) (x807 : List Int) (x808 : Int) (x1113 : Int) : Nat → Int → Option (List (Int × Int) × List Int)
  | 0 => fun _ => none
  | k + 1 => fun s => yS F rec68 x1 x4 x804 x807 x808 x1113 (yc F rec68 x1 x4 x804 x807 x808 x1113 k) s
def yL (F : Nat) (x1 : List Int) (x4 : Int) (rec68 : (List (Int × Int) × List Int × Int) → Option (List (Int × Int) × List Int)) (x804 : List (Int × Int)) (x807 : List Int) (x808 : Int) : Option (List (Int × Int) × List Int) :=
  (if (decide (x808 < (x1.length : Int))) then ((idx x1 x808).bind fun x1109 => ((idx x1 x808).bind fun x1113 => yc F rec68 x1 x4 x804 x807 x808 x1113 F x1109)) else qce F x804 x807)
def za (F : Nat) (x1 : List Int) (x4 : Int) : Nat → (List (Int × Int) × List Int × Int) → Option (List (Int × Int) × List Int)
  | 0 => fun _ => none
  | k + 1 => fun s => yL F x1 x4 (za F x1 x4 k) s.1 s.2.1 s.2.2
def qcL (F : Nat) (x1 : List Int) (x4 : Int) : Option (List (Int × Int) × List Int) :=
  za F x1 x4 F (([] : List (Int × Int)), ([] : List Int), 0)
def qdN (_F : Nat) (x1 : Int) : Option Int :=
  (if (decide (x1 < 0)) then (lett (iadd .u64 (imul .u64 2 (iconv .u64 (isub .i64 0 (iadd .i64 x1 1)))) 1) fun x4 => some x4) else some (imul .u64 2 (iconv .u64 x1)))
def qdc (_F : Nat) (x2 : Int) (x21 : Int) (x22 : Int) : Option (Int × Int × Int) :=
  (chk (decide (0 ≤ x2)) (some (x21, x22, ishl .u64 x22 x2)))
def qbJ (F : Nat) (x1 : Int) (x2 : Int) (rec3 : (Int × Int) → Option (Int × Int × Int)) (x34 : Int) (x35 : Int) : Option (Int × Int × Int) :=
  (chk (decide (0 ≤ x2)) ((if (decide ((ishl .u64 x35 x2) ≤ (iadd .u64 x1 1))) then (chk (decide (0 ≤ x2)) (rec3 (iadd .u64 x34 1, ishl .u64 x35 x2))) else qdc F x2 x34 x35)))
def vB (F : Nat) (x1 : Int) (x2 : Int) : Nat → (Int × Int) → Option (Int × Int × Int)
  | 0 => fun _ => none
  | k + 1 => fun s => qbJ F x1 x2 (vB F x1 x2 k) s.1 s.2
def qeC (F : Nat) (x1 : Int) (x2 : Int) : Option (Int × Int × Int) :=
  vB F x1 x2 F (0, 1)
def qcu (_F : Nat) (x45 : List Int) : Option (List Int) :=
  ((app 8796093022208 x45 ([1] : List Int)).bind fun x48 => some x48)
def qa4 (F : Nat) (x1 : Int) (rec3 : (List Int × Int) → Option (List Int)) (x65 : List Int) (x66 : Int) : Option (List Int) :=
  (if (decide (x66 < x1)) then ((app 8796093022208 x65 ([0] : List Int)).bind fun x88 => rec3 (x88, iadd .u64 x66 1)) else qcu F x65)
def vb (F : Nat) (x1 : Int) : Nat → (List Int × Int) → Option (List Int)
  | 0 => fun _ => none
  | k + 1 => fun s => qa4 F x1 (vb F x1 k) s.1 s.2
def qcN (F : Nat) (x1 : Int) : Option (List Int) :=
  vb F x1 F (([] : List Int), 0)
def qdA (_F : Nat) (x52 : List Int) : Option (List Int) :=
  some x52
def jA (F : Nat) (rec3 : (Int × List Int × Int) → Option (List Int)) (x67 : Int) (x68 : List Int) (x69 : Int) : Option (List Int) :=
  (if (decide (0 ≤ x69)) then ((idx x68 x69).bind fun _x92 => (lett (x68.set x69.toNat (iconv .i64 (irem x67 2))) fun x95 => rec3 (iquo .u64 x67 2, x95, isub .i64 x69 1))) else qdA F x68)
def vn (F : Nat) : Nat → (Int × List Int × Int) → Option (List Int)
  | 0 => fun _ => none
  | k + 1 => fun s => jA F (vn F k) s.1 s.2.1 s.2.2
def qc3 (F : Nat) (x1 : Int) (x2 : Int) : Option (List Int) :=
  ((mk 17592186044416 (0 : Int) x2).bind fun x3 => vn F F (x1, x3, isub .i64 x2 1))
def qcv (F : Nat) (x1 : Int) (x2 : Int) (x15 : Int) : Option (List Int) :=
  (chk (decide (0 ≤ x15)) ((if (decide (x1 < (isub .u64 (ishl .u64 1 x15) x2))) then ((qc3 F x1 (isub .i64 x15 1)).bind fun x21 => some x21) else ((qc3 F (iadd .u64 x1 (isub .u64 (ishl .u64 1 x15) x2)) x15).bind fun x24 => some x24))))
def qaY (F : Nat) (x1 : Int) (x2 : Int) (rec3 : Int → Option (List Int)) (x30 : Int) : Option (List Int) :=
  (chk (decide (0 ≤ x30)) ((if (decide ((ishl .u64 1 x30) < x2)) then rec3 (iadd .i64 x30 1) else qcv F x1 x2 x30)))
def vh (F : Nat) (x1 : Int) (x2 : Int) : Nat → Int → Option (List Int)
  | 0 => fun _ => none
  | k + 1 => fun s => qaY F x1 x2 (vh F x1 x2 k) s
def qcR (F : Nat) (x1 : Int) (x2 : Int) : Option (List Int) :=
  vh F x1 x2 F 0
def qdq (F : Nat) (x1 : Int) (x2 : Int) : Option (List Int) :=
  ((qeC F x1 x2).bind fun x3 => ((qcN F x3.1).bind fun x4 => ((qcR F (isub .u64 (iadd .u64 x1 1) x3.2.1) (isub .u64 x3.2.2 x3.2.1)).bind fun x7 => ((app 8796093022208 x4 x7).bind fun x10 => some x10))))
def qcB (_F : Nat) (x72 : List Int) : Option (List Int) :=
  some x72
def qbd (F : Nat) (x1 : List Int) (x4 : Int) (rec3 : (List Int × Int) → Option (List Int)) (x95 : List Int) (x96 : Int) : Option (List Int) :=
  (if (decide (x96 < (x1.length : Int))) then ((idx x1 x96).bind fun x128 => ((qdq F x128 x4).bind fun x131 => ((app 8796093022208 x95 x131).bind fun x134 => rec3 (x134, iadd .i64 x96 1)))) else qcB F x95)
def yz (F : Nat) (x1 : List Int) (x4 : Int) : Nat → (List Int × Int) → Option (List Int)
  | 0 => fun _ => none
  | k + 1 => fun s => qbd F x1 x4 (yz F x1 x4 k) s.1 s.2
def qef (F : Nat) (x1 : List Int) (x4 : Int) : Option (List Int) :=
  yz F x1 x4 F (([] : List Int), 0)
def qd5 (_F : Nat) (x165 : List Int) : Option (List Int) :=
  some x165
def qbo (_F : Nat) (rec8 : (List Int × Int) → Option (List Int)) (x220 : Int) (x299 : List Int) : Option (List Int) :=
  rec8 (x299, iadd .i64 x220 1)
def qcJ (F : Nat) (x1 : List Int) (x4 : Int) (rec8 : (List Int × Int) → Option (List Int)) (x219 : List Int) (x220 : Int) : Option (List Int) :=
  (if (decide (x220 < (x1.length : Int))) then (if ((x220 : Int) == 0) then ((idx x1 0).bind fun x300 => ((qdN F (isub .i64 x300 x4)).bind fun x303 => ((app 8796093022208 x219 ([x303] : List Int)).bind fun x306 => qbo F rec8 x220 x306))) else ((idx x1 x220).bind fun x309 => ((idx x1 (isub .i64 x220 1)).bind fun x313 => ((app 8796093022208 x219 ([iconv .u64 (isub .i64 (isub .i64 x309 x313) 1)] : List Int)).bind fun x319 => qbo F rec8 x220 x319)))) else qd5 F x219)
def jd (F : Nat) (x1 : List Int) (x4 : Int) : Nat → (List Int × Int) → Option (List Int)
  | 0 => fun _ => none
  | k + 1 => fun s => qcJ F x1 x4 (jd F x1 x4 k) s.1 s.2
def qeU (F : Nat) (x1 : List Int) (x4 : Int) : Option (List Int) :=
  jd F x1 x4 F (([] : List Int), 0)
def js (F : Nat) (x1 : Int) (x10 : Int) (x569 : List Int) (x572 : List Int) : Option (List Int) :=
  ((qeU F x572 x1).bind fun x582 => ((qef F x582 x10).bind fun x585 => ((app 8796093022208 x569 x585).bind fun x588 => some x588)))
def jn (F : Nat) (rec21 : (List Int × Int) → Option (List Int)) (x9 : Int) (x591 : (List (Int × Int) × List Int)) (x749 : Int) (x998 : List Int) : Option (List Int) :=
  ((idx x591.1 x749).bind fun x999 => ((kQ F (iconv .u64 (isub .i64 x999.2 x9))).bind fun x1003 => ((app 8796093022208 x998 x1003).bind fun x1006 => rec21 (x1006, iadd .i64 x749 1))))
def qa7 (F : Nat) (x1 : Int) (x9 : Int) (x10 : Int) (x591 : (List (Int × Int) × List Int)) (rec21 : (List Int × Int) → Option (List Int)) (x748 : List Int) (x749 : Int) : Option (List Int) :=
  (if (decide (x749 < (x591.1.length : Int))) then (if ((x749 : Int) == 0) then ((idx x591.1 0).bind fun x1009 => ((qdN F (isub .i64 x1009.1 x1)).bind fun x1012 => ((kQ F x1012).bind fun x1013 => ((app 8796093022208 x748 x1013).bind fun x1016 => jn F rec21 x9 x591 x749 x1016)))) else ((idx x591.1 x749).bind fun x1019 => ((idx x591.1 (isub .i64 x749 1)).bind fun x1023 => ((idx x591.1 (isub .i64 x749 1)).bind fun x1027 => ((kQ F (iconv .u64 (isub .i64 (isub .i64 x1019.1 (isub .i64 (iadd .i64 x1023.1 x1027.2) 1)) 2))).bind fun x1031 => ((app 8796093022208 x748 x1031).bind fun x1034 => jn F rec21 x9 x591 x749 x1034)))))) else js F x1 x10 x748 x591.2)
def kL (F : Nat) (x1 : Int) (x9 : Int) (x10 : Int) (x591 : (List (Int × Int) × List Int)) : Nat → (List Int × Int) → Option (List Int)
  | 0 => fun _ => none
  | k + 1 => fun s => qa7 F x1 x9 x10 x591 (kL F x1 x9 x10 x591 k) s.1 s.2
def yX (F : Nat) (x1 : Int) (x9 : Int) (x10 : Int) (x113 : List Int) (x116 : List Int) : Option (List Int) :=
  (if (((x116.length : Int) : Int) == 0) then some x113 else (if (decide (0 < x9)) then ((qcL F x116 x9).bind fun x591 => ((kQ F (iconv .u64 (x591.1.length : Int))).bind fun x596 => ((app 8796093022208 x113 x596).bind fun x599 => kL F x1 x9 x10 x591 F (x599, 0)))) else js F x1 x10 x113 x116))
def jv (F : Nat) (rec28 : (List Int × Int) → Option (List Int)) (x1080 : List Int) (x1081 : Int) (x1126 : Int) : Option (List Int) :=
  ((kQ F (iconv .u64 x1126)).bind fun x1127 => ((app 8796093022208 x1080 x1127).bind fun x1130 => rec28 (x1130, iadd .i64 x1081 1)))
def qaT (F : Nat) (x1 : Int) (x9 : Int) (x10 : Int) (x1041 : (List Int × List Int)) (rec28 : (List Int × Int) → Option (List Int)) (x1080 : List Int) (x1081 : Int) : Option (List Int) :=
  (if (decide (x1081 < (x1041.1.length : Int))) then ((idx x1041.1 x1081).bind fun x1122 => (if (decide (0 < x1081)) then jv F rec28 x1080 x1081 (isub .i64 x1122 1) else jv F rec28 x1080 x1081 x1122)) else yX F x1 x9 x10 x1080 x1041.2)
def kK (F : Nat) (x1 : Int) (x9 : Int) (x10 : Int) (x1041 : (List Int × List Int)) : Nat → (List Int × Int) → Option (List Int)
  | 0 => fun _ => none
  | k + 1 => fun s => qaT F x1 x9 x10 x1041 (kK F x1 x9 x10 x1041 k) s.1 s.2
def qca (F : Nat) (x1 : Int) (x2 : List Int) (x5 : List Int) (x8 : Int) (x9 : Int) (x10 : Int) : Option (List Int) :=
  ((kQ F (iconv .u64 (x2.length : Int))).bind fun x12 => (if (((x2.length : Int) : Int) == 0) then some x12 else (if (decide (0 < x8)) then ((qbB F x5 x2).bind fun x1041 => ((kQ F (iconv .u64 (x1041.1.length : Int))).bind fun x1046 => ((app 8796093022208 x12 x1046).bind fun x1049 => kK F x1 x9 x10 x1041 F (x1049, 0)))) else yX F x1 x9 x10 x12 x2)))
def qeo (_F : Nat) (x1 : List Int) (x497 : List Int) : Option (Int × List Int) :=
  some ((x1.length : Int), x497)
def qb7 (_F : Nat) (rec98 : (Int × List Int) → Option (Int × List Int)) (x660 : Int) (x907 : List Int) : Option (Int × List Int) :=
  rec98 (iadd .i64 x660 8, x907)
def qaz (F : Nat) (rec98 : (Int × List Int) → Option (Int × List Int)) (x660 : Int) (x663 : List Int) (x944 : Int) : Option (Int × List Int) :=
  ((app 70368744177664 x663 ([iconv .u8 x944] : List Int)).bind fun x947 => qb7 F rec98 x660 x947)
def vU (_F : Nat) (rec116 : (Int × Int) → Option (Int × List Int)) (x962 : Int) (x980 : Int) : Option (Int × List Int) :=
  rec116 (x980, iadd .i64 x962 1)
def qau (F : Nat) (rec98 : (Int × List Int) → Option (Int × List Int)) (x1 : List Int) (x660 : Int) (x663 : List Int) (rec116 : (Int × Int) → Option (Int × List Int)) (x961 : Int) (x962 : Int) : Option (Int × List Int) :=
  (if (decide (x962 < 8)) then (if (decide ((iadd .i64 x660 x962) < (x1.length : Int))) then ((idx x1 (iadd .i64 x660 x962)).bind fun x981 => vU F rec116 x962 (iadd .i64 (imul .i64 2 x961) x981)) else vU F rec116 x962 (imul .i64 2 x961)) else qaz F rec98 x660 x663 x961)
def yd (F : Nat) (rec98 : (Int × List Int) → Option (Int × List Int)) (x1 : List Int) (x660 : Int) (x663 : List Int) : Nat → (Int × Int) → Option (Int × List Int)
  | 0 => fun _ => none
  | k + 1 => fun s => qau F rec98 x1 x660 x663 (yd F rec98 x1 x660 x663 k) s.1 s.2
def qbg (F : Nat) (x1 : List Int) (rec98 : (Int × List Int) → Option (Int × List Int)) (x660 : Int) (x663 : List Int) : Option (Int × List Int) :=
  (if (decide (x660 < (x1.length : Int))) then yd F rec98 x1 x660 x663 F (0, 0) else qeo F x1 x663)
def zR (F : Nat) (x1 : List Int) : Nat → (Int × List Int) → Option (Int × List Int)
  | 0 => fun _ => none
  | k + 1 => fun s => qbg F x1 (zR F x1 k) s.1 s.2
def qdu (F : Nat) (x1 : List Int) : Option (Int × List Int) :=
  zR F x1 F (0, ([] : List Int))
def qaX (F : Nat) (x1 : Int) (x2 : List Int) (x5 : List Int) (x8 : Int) (x9 : Int) (x10 : Int) (x25 : Int) : Option (Int × List Int × Int) :=
  (if ((x25 : Int) != 0) then some (0, ([] : List Int), x25) else ((qca F x1 x2 x5 x8 x9 x10).bind fun x27 => (if (decide (8192 < (x27.length : Int))) then some (0, ([] : List Int), 8) else ((qdu F x27).bind fun x31 => some (x31.1, x31.2, 0)))))
def qbc (F : Nat) (x1 : Int) (x2 : List Int) (x5 : List Int) (x8 : Int) (x9 : Int) (x10 : Int) (x22 : Int) : Option (Int × List Int × Int) :=
  (if ((x22 : Int) == 0) then ((qc8 F x1 x5 x8 x9 x10).bind fun x36 => qaX F x1 x2 x5 x8 x9 x10 x36) else qaX F x1 x2 x5 x8 x9 x10 x22)
def qa8 (F : Nat) (x1 : Int) (x2 : List Int) (x5 : List Int) (x8 : Int) (x9 : Int) (x10 : Int) (x19 : Int) : Option (Int × List Int × Int) :=
  (if ((x19 : Int) == 0) then ((yW F x2).bind fun x38 => qbc F x1 x2 x5 x8 x9 x10 x38) else qbc F x1 x2 x5 x8 x9 x10 x19)
def qba (F : Nat) (x1 : Int) (x2 : List Int) (x5 : List Int) (x8 : Int) (x9 : Int) (x10 : Int) (x13 : Int) (x42 : Bool) : Option (Int × List Int × Int) :=
  (if x42 then qa8 F x1 x2 x5 x8 x9 x10 3 else qa8 F x1 x2 x5 x8 x9 x10 x13)
def qc0 (F : Nat) (x1 : Int) (x2 : List Int) (x5 : List Int) (x8 : Int) (x9 : Int) (x10 : Int) : Option (Int × List Int × Int) :=
  ((qa6 F x8 x9 x10).bind fun x13 => (if ((x13 : Int) == 0) then ((kH F x1 0 1048576).bind fun x44 => qba F x1 x2 x5 x8 x9 x10 x13 (!x44)) else qba F x1 x2 x5 x8 x9 x10 x13 false))
def qe2 (_F : Nat) : Option Bool :=
  some true
def yU (F : Nat) (x1 : List Int) (x4 : List Int) (rec3 : Int → Option Bool) (x154 : Int) : Option Bool :=
  (if (decide (x154 < (x1.length : Int))) then ((idx x1 x154).bind fun x218 => ((idx x4 x154).bind fun x222 => (if ((x218 : Int) != x222) then some false else rec3 (iadd .i64 x154 1)))) else qe2 F)
def kJ (F : Nat) (x1 : List Int) (x4 : List Int) : Nat → Int → Option Bool
  | 0 => fun _ => none
  | k + 1 => fun s => yU F x1 x4 (kJ F x1 x4 k) s
def yg (F : Nat) (x1 : List Int) (x4 : List Int) : Option Bool :=
  (if (((x1.length : Int) : Int) != (x4.length : Int)) then some false else kJ F x1 x4 F 0)
def qe6 (_F : Nat) (x190 : List Int) : Option (List Int) :=
  some x190
def qdd (_F : Nat) (rec38 : (List Int × Int) → Option (List Int)) (x253 : Int) (x344 : List Int) : Option (List Int) :=
  rec38 (x344, iadd .i64 x253 1)
def qbD (F : Nat) (rec38 : (List Int × Int) → Option (List Int)) (x252 : List Int) (x253 : Int) (x357 : Int) : Option (List Int) :=
  ((app 8796093022208 x252 ([irem x357 2] : List Int)).bind fun x360 => qdd F rec38 x253 x360)
def qbM (F : Nat) (rec38 : (List Int × Int) → Option (List Int)) (x252 : List Int) (x253 : Int) (rec45 : (Int × Int) → Option (List Int)) (x365 : Int) (x366 : Int) : Option (List Int) :=
  (if (decide (x366 < (isub .i64 7 (irem x253 8)))) then rec45 (iquo .i64 x365 2, iadd .i64 x366 1) else qbD F rec38 x252 x253 x365)
def vF (F : Nat) (rec38 : (List Int × Int) → Option (List Int)) (x252 : List Int) (x253 : Int) : Nat → (Int × Int) → Option (List Int)
  | 0 => fun _ => none
  | k + 1 => fun s => qbM F rec38 x252 x253 (vF F rec38 x252 x253 k) s.1 s.2
def qbF (F : Nat) (x1 : Int) (x2 : List Int) (rec38 : (List Int × Int) → Option (List Int)) (x252 : List Int) (x253 : Int) : Option (List Int) :=
  (if (decide (x253 < x1)) then ((idx x2 (iquo .i64 x253 8)).bind fun x345 => vF F rec38 x252 x253 F (iconv .i64 x345, 0)) else qe6 F x252)
def kv (F : Nat) (x1 : Int) (x2 : List Int) : Nat → (List Int × Int) → Option (List Int)
  | 0 => fun _ => none
  | k + 1 => fun s => qbF F x1 x2 (kv F x1 x2 k) s.1 s.2
def qb1 (F : Nat) (x1 : Int) (x2 : List Int) : Option (List Int) :=
  kv F x1 x2 F (([] : List Int), 0)
def qem (_F : Nat) : Option Int :=
  some 0
def qbb (F : Nat) (x12 : List Int) (rec4 : Int → Option Int) (x57 : Int) : Option Int :=
  (if (decide (x57 < (x12.length : Int))) then ((idx x12 x57).bind fun x74 => (if ((x74 : Int) != 0) then some 1 else rec4 (iadd .i64 x57 1))) else qem F)
def ve (F : Nat) (x12 : List Int) : Nat → Int → Option Int
  | 0 => fun _ => none
  | k + 1 => fun s => qbb F x12 (ve F x12 k) s
def jw (F : Nat) (x1 : Int) (x2 : List Int) (x10 : Int) : Option Int :=
  (if (((x2.length : Int) : Int) != x10) then some 1 else ((qb1 F (imul .i64 8 x10) x2).bind fun x12 => ve F x12 F x1))
def qcG (F : Nat) (x1 : Int) (x2 : List Int) : Option Int :=
  ((kH F x1 0 8192).bind fun x8 => (if (!x8) then some 3 else (if (decide (0 < (irem x1 8))) then jw F x1 x2 (iadd .i64 (iquo .i64 x1 8) 1) else jw F x1 x2 (iquo .i64 x1 8))))
def qb4 (_F : Nat) (x13 : Int) : Option Int :=
  some x13
def qb9 (F : Nat) (x7 : Int) (x16 : Bool) : Option Int :=
  (if x16 then qb4 F 3 else qb4 F x7)
def qd3 (F : Nat) (x1 : Int) (x2 : List Int) (x5 : Int) : Option Int :=
  ((qcG F x1 x2).bind fun x7 => (if ((x7 : Int) == 0) then ((kH F x5 0 x1).bind fun x18 => qb9 F x7 (!x18)) else qb9 F x7 false))
def qen (_F : Nat) : Option (Int × Int) :=
  some (0, -1)
def qbi (F : Nat) (x1 : List Int) (rec3 : (Int × Int) → Option (Int × Int)) (x80 : Int) (x81 : Int) : Option (Int × Int) :=
  (if (decide (x81 < (x1.length : Int))) then ((idx x1 x81).bind fun x114 => (if ((x114 : Int) == 1) then some (x80, iadd .i64 x81 1) else rec3 (iadd .u64 x80 1, iadd .i64 x81 1))) else qen F)
def vf (F : Nat) (x1 : List Int) : Nat → (Int × Int) → Option (Int × Int)
  | 0 => fun _ => none
  | k + 1 => fun s => qbi F x1 (vf F x1 k) s.1 s.2
def qbs (F : Nat) (x1 : List Int) (x4 : Int) : Option (Int × Int) :=
  vf F x1 F (0, x4)
def qfL (_F : Nat) (x37 : Int) : Option Int :=
  some x37
def qcH (F : Nat) (x1 : List Int) (rec3 : (Int × Int) → Option Int) (x48 : Int) (x49 : Int) : Option Int :=
  (if (decide (x49 < (x1.length : Int))) then ((idx x1 x49).bind fun x66 => (lett (iadd .u64 (imul .u64 2 x48) (iconv .u64 x66)) fun x69 => rec3 (x69, iadd .i64 x49 1))) else qfL F x48)
def qah (F : Nat) (x1 : List Int) : Nat → (Int × Int) → Option Int
  | 0 => fun _ => none
  | k + 1 => fun s => qcH F x1 (qah F x1 k) s.1 s.2
def qeR (F : Nat) (x1 : List Int) : Option Int :=
  qah F x1 F (0, 0)
def qdh (F : Nat) (x1 : List Int) (x4 : Int) (x5 : Int) : Option (Int × Int × Int) :=
  (if (decide (63 < x5)) then some (0, 0, 3) else (if (decide ((x1.length : Int) < (iadd .i64 x4 (iconv .i64 x5)))) then some (0, 0, 7) else ((sub x1 x4 (iadd .i64 x4 (iconv .i64 x5))).bind fun x10 => ((app 8796093022208 ([1] : List Int) x10).bind fun x13 => ((qeR F x13).bind fun x16 => (if (decide (1099511627776 < (isub .u64 x16 1))) then some (0, 0, 3) else some (isub .u64 x16 1, iadd .i64 x4 (iconv .i64 x5), 0)))))))
def k6 (F : Nat) (x1 : List Int) (x4 : Int) : Option (Int × Int × Int) :=
  ((qbs F x1 x4).bind fun x5 => (if (decide (x5.2 < 0)) then some (0, 0, 7) else ((qdh F x1 x5.2 x5.1).bind fun x7 => some (x7.1, x7.2.1, x7.2.2))))
def qbW (_F : Nat) (x1144 : List Int) : Option (List Int × Int) :=
  some (x1144, 0)
def jL (_F : Nat) (rec181 : (List Int × Int) → Option (List Int × Int)) (x1437 : Int) (x1873 : List Int) : Option (List Int × Int) :=
  rec181 (x1873, iadd .i64 x1437 1)
def jS (F : Nat) (rec181 : (List Int × Int) → Option (List Int × Int)) (x1 : List Int) (x1436 : List Int) (x1437 : Int) (x1940 : Int) : Option (List Int × Int) :=
  (if (((irem x1940 2) : Int) == 0) then ((idx x1 x1437).bind fun x1941 => ((app 8796093022208 x1436 ([x1941] : List Int)).bind fun x1946 => jL F rec181 x1437 x1946)) else jL F rec181 x1437 x1436)
def vk (F : Nat) (rec181 : (List Int × Int) → Option (List Int × Int)) (rec210 : (Int × Int) → Option (List Int × Int)) (x1 : List Int) (x4 : List Int) (x1436 : List Int) (x1437 : Int) (x1971 : Int) (x1972 : Int) (x2008 : Bool) : Option (List Int × Int) :=
  (if x2008 then ((idx x4 x1971).bind fun x2009 => rec210 (iadd .i64 x1971 1, iadd .i64 x1972 x2009)) else jS F rec181 x1 x1436 x1437 x1971)
def jH (F : Nat) (rec181 : (List Int × Int) → Option (List Int × Int)) (x1 : List Int) (x4 : List Int) (x1436 : List Int) (x1437 : Int) (rec210 : (Int × Int) → Option (List Int × Int)) (x1971 : Int) (x1972 : Int) : Option (List Int × Int) :=
  (if (decide (x1971 < (x4.length : Int))) then ((idx x4 x1971).bind fun x2013 => vk F rec181 rec210 x1 x4 x1436 x1437 x1971 x1972 (decide ((iadd .i64 x1972 x2013) ≤ x1437))) else vk F rec181 rec210 x1 x4 x1436 x1437 x1971 x1972 false)
def kU (F : Nat) (rec181 : (List Int × Int) → Option (List Int × Int)) (x1 : List Int) (x4 : List Int) (x1436 : List Int) (x1437 : Int) : Nat → (Int × Int) → Option (List Int × Int)
  | 0 => fun _ => none
  | k + 1 => fun s => jH F rec181 x1 x4 x1436 x1437 (kU F rec181 x1 x4 x1436 x1437 k) s.1 s.2
def jQ (F : Nat) (x1 : List Int) (x4 : List Int) (rec181 : (List Int × Int) → Option (List Int × Int)) (x1436 : List Int) (x1437 : Int) : Option (List Int × Int) :=
  (if (decide (x1437 < (x1.length : Int))) then kU F rec181 x1 x4 x1436 x1437 F (0, 0) else qbW F x1436)
def zx (F : Nat) (x1 : List Int) (x4 : List Int) : Nat → (List Int × Int) → Option (List Int × Int)
  | 0 => fun _ => none
  | k + 1 => fun s => jQ F x1 x4 (zx F x1 x4 k) s.1 s.2
def qcc (F : Nat) (x1 : List Int) (x4 : List Int) (x268 : Int) : Option (List Int × Int) :=
  (if (decide ((x1.length : Int) < x268)) then some (([] : List Int), 8) else zx F x1 x4 F (([] : List Int), 0))
def jN (_F : Nat) (rec227 : (Int × Int) → Option (List Int × Int)) (x2104 : Int) (x2233 : Int) : Option (List Int × Int) :=
  rec227 (x2233, iadd .i64 x2104 1)
def jO (F : Nat) (rec227 : (Int × Int) → Option (List Int × Int)) (x4 : List Int) (x2104 : Int) (x2261 : Int) : Option (List Int × Int) :=
  (if (decide (x2261 < 1000)) then ((idx x4 x2104).bind fun x2262 => jN F rec227 x2104 (iadd .i64 x2261 x2262)) else jN F rec227 x2104 x2261)
def jU (F : Nat) (rec227 : (Int × Int) → Option (List Int × Int)) (x1 : List Int) (x4 : List Int) (x2103 : Int) (x2104 : Int) (x2256 : Bool) : Option (List Int × Int) :=
  (if x2256 then some (([] : List Int), 3) else ((idx x4 x2104).bind fun x2266 => (if (decide ((x1.length : Int) < x2266)) then jO F rec227 x4 x2104 1000 else jO F rec227 x4 x2104 x2103)))
def jK (F : Nat) (x1 : List Int) (x4 : List Int) (rec227 : (Int × Int) → Option (List Int × Int)) (x2103 : Int) (x2104 : Int) : Option (List Int × Int) :=
  (if (decide (x2104 < (x4.length : Int))) then ((idx x4 x2104).bind fun x2248 => (if (decide (x2248 < 0)) then jU F rec227 x1 x4 x2103 x2104 true else ((idx x4 x2104).bind fun x2271 => jU F rec227 x1 x4 x2103 x2104 (((x2271 : Int) == 0) && (decide (0 < x2104)))))) else qcc F x1 x4 x2103)
def ku (F : Nat) (x1 : List Int) (x4 : List Int) : Nat → (Int × Int) → Option (List Int × Int)
  | 0 => fun _ => none
  | k + 1 => fun s => jK F x1 x4 (ku F x1 x4 k) s.1 s.2
def qcY (F : Nat) (x1 : List Int) (x4 : List Int) : Option (List Int × Int) :=
  ((yW F x1).bind fun x7 => (if ((x7 : Int) != 0) then some (([] : List Int), x7) else (if (decide ((iadd .i64 (x1.length : Int) 1) < (x4.length : Int))) then some (([] : List Int), 2) else ku F x1 x4 F (0, 0))))
def jr (F : Nat) (x10 : Int) : Option Int :=
  ((kH F x10 0 1048576).bind fun x13 => (if (!x13) then some (-1) else some x10))
def qbY (F : Nat) (x1 : Int) (x2 : Int) (x3 : Bool) : Option Int :=
  (if (decide (4194304 < x1)) then some (-1) else (lett (iadd .i64 (iadd .i64 x2 (iconv .i64 x1)) 1) fun x5 => (if x3 then (lett (iadd .i64 x2 (iquo .i64 (iconv .i64 x1) 2)) fun x15 => (if (((irem x1 2) : Int) == 1) then (lett (isub .i64 (isub .i64 x2 (iquo .i64 (iconv .i64 x1) 2)) 1) fun x16 => jr F x16) else jr F x15)) else jr F x5)))
def qej (_F : Nat) : Option (Int × Int) :=
  some (0, -1)
def qa1 (F : Nat) (x1 : List Int) (x4 : Int) (x5 : Int) (x18 : Int) (rec5 : (Int × Int) → Option (Int × Int)) (x143 : Int) (x144 : Int) : Option (Int × Int) :=
  (if (decide (x144 ≤ x18)) then (if (((x144 : Int) == (isub .i64 x18 1)) && (decide (x143 < (isub .u64 (ishl .u64 1 x18) x5)))) then some (x143, iadd .i64 x4 x144) else (if ((x144 : Int) == x18) then (lett (isub .u64 x143 (isub .u64 (ishl .u64 1 x18) x5)) fun x196 => some (x196, iadd .i64 x4 x144)) else (if (decide ((x1.length : Int) ≤ (iadd .i64 x4 x144))) then some (0, -1) else ((idx x1 (iadd .i64 x4 x144)).bind fun x198 => (lett (iadd .u64 (imul .u64 2 x143) (iconv .u64 x198)) fun x201 => rec5 (x201, iadd .i64 x144 1)))))) else qej F)
def vd (F : Nat) (x1 : List Int) (x4 : Int) (x5 : Int) (x18 : Int) : Nat → (Int × Int) → Option (Int × Int)
  | 0 => fun _ => none
  | k + 1 => fun s => qa1 F x1 x4 x5 x18 (vd F x1 x4 x5 x18 k) s.1 s.2
def qcs (F : Nat) (x1 : List Int) (x4 : Int) (x5 : Int) (x18 : Int) : Option (Int × Int) :=
  (chk (decide (0 ≤ x18)) (vd F x1 x4 x5 x18 F (0, 0)))
def qbh (F : Nat) (x1 : List Int) (x4 : Int) (x5 : Int) (rec6 : Int → Option (Int × Int)) (x208 : Int) : Option (Int × Int) :=
  (chk (decide (0 ≤ x208)) ((if (decide ((ishl .u64 1 x208) < x5)) then rec6 (iadd .i64 x208 1) else qcs F x1 x4 x5 x208)))
def vj (F : Nat) (x1 : List Int) (x4 : Int) (x5 : Int) : Nat → Int → Option (Int × Int)
  | 0 => fun _ => none
  | k + 1 => fun s => qbh F x1 x4 x5 (vj F x1 x4 x5 k) s
def qcP (F : Nat) (x1 : List Int) (x4 : Int) (x5 : Int) : Option (Int × Int) :=
  vj F x1 x4 x5 F 0
def qdf (F : Nat) (x1 : List Int) (x5 : Int) (x6 : (Int × Int)) (x26 : Int) : Option (Int × Int × Int) :=
  (chk (decide (0 ≤ x5)) (((qcP F x1 x6.2 (isub .u64 (ishl .u64 x26 x5) x26)).bind fun x28 => (if (decide (x28.2 < 0)) then some (0, 0, 7) else (if (decide (1099511627776 < (isub .u64 (iadd .u64 x26 x28.1) 1))) then some (0, 0, 3) else some (isub .u64 (iadd .u64 x26 x28.1) 1, x28.2, 0))))))
def qbI (F : Nat) (x1 : List Int) (x5 : Int) (x6 : (Int × Int)) (rec3 : (Int × Int) → Option (Int × Int × Int)) (x37 : Int) (x38 : Int) : Option (Int × Int × Int) :=
  (if (decide (x38 < x6.1)) then (chk (decide (0 ≤ x5)) (rec3 (ishl .u64 x37 x5, iadd .u64 x38 1))) else qdf F x1 x5 x6 x37)
def vK (F : Nat) (x1 : List Int) (x5 : Int) (x6 : (Int × Int)) : Nat → (Int × Int) → Option (Int × Int × Int)
  | 0 => fun _ => none
  | k + 1 => fun s => qbI F x1 x5 x6 (vK F x1 x5 x6 k) s.1 s.2
def qdi (F : Nat) (x1 : List Int) (x4 : Int) (x5 : Int) : Option (Int × Int × Int) :=
  ((qbs F x1 x4).bind fun x6 => (if (decide (x6.2 < 0)) then some (0, 0, 7) else (if ((decide (41 ≤ x6.1)) || (decide (41 ≤ (imul .i64 (iconv .i64 x6.1) x5)))) then some (0, 0, 3) else vK F x1 x5 x6 F (1, 0))))
def qde (_F : Nat) (x56 : Int) (x59 : List Int) : Option (List Int × Int × Int) :=
  some (x59, x56, 0)
def qbN (F : Nat) (x1 : List Int) (x6 : Int) (x7 : Int) (rec3 : (Int × Int × List Int) → Option (List Int × Int × Int)) (x75 : Int) (x76 : Int) (x79 : List Int) : Option (List Int × Int × Int) :=
  (if (decide ((x79.length : Int) < x7)) then ((qdi F x1 x75 x6).bind fun x95 => (if ((x95.2.2 : Int) != 0) then some (([] : List Int), 0, x95.2.2) else ((qbY F x95.1 x76 (((x79.length : Int) : Int) == 0)).bind fun x97 => (if (decide (x97 < 0)) then some (([] : List Int), 0, 3) else ((app 8796093022208 x79 ([x97] : List Int)).bind fun x101 => rec3 (x95.2.1, x97, x101)))))) else qde F x75 x79)
def vz (F : Nat) (x1 : List Int) (x6 : Int) (x7 : Int) : Nat → (Int × Int × List Int) → Option (List Int × Int × Int)
  | 0 => fun _ => none
  | k + 1 => fun s => qbN F x1 x6 x7 (vz F x1 x6 x7 k) s.1 s.2.1 s.2.2
def qeS (F : Nat) (x1 : List Int) (x4 : Int) (x5 : Int) (x6 : Int) (x7 : Int) : Option (List Int × Int × Int) :=
  vz F x1 x6 x7 F (x4, x5, ([] : List Int))
def qdO (_F : Nat) (x1812 : List Int) : Option (List Int) :=
  some x1812
def j8 (_F : Nat) (rec158 : (List Int × Int) → Option (List Int)) (x2423 : Int) (x3321 : List Int) : Option (List Int) :=
  rec158 (x3321, iadd .i64 x2423 1)
def qbA (F : Nat) (rec158 : (List Int × Int) → Option (List Int)) (x1 : List Int) (x2422 : List Int) (x2423 : Int) (x3444 : Int) : Option (List Int) :=
  ((sub x2422 0 x3444).bind fun x3445 => ((idx x1 x2423).bind fun x3450 => ((sub x2422 x3444 (x2422.length : Int)).bind fun x3454 => ((app 8796093022208 ([] : List Int) x3445).bind fun x3461 => ((app 8796093022208 x3461 ([x3450] : List Int)).bind fun x3466 => ((app 8796093022208 x3466 x3454).bind fun x3469 => j8 F rec158 x2423 x3469))))))
def qbG (F : Nat) (rec158 : (List Int × Int) → Option (List Int)) (rec187 : Int → Option (List Int)) (x1 : List Int) (x2422 : List Int) (x2423 : Int) (x3536 : Int) (x3607 : Bool) : Option (List Int) :=
  (if x3607 then rec187 (isub .i64 x3536 1) else qbA F rec158 x1 x2422 x2423 x3536)
def qbK (F : Nat) (rec158 : (List Int × Int) → Option (List Int)) (x1 : List Int) (x2422 : List Int) (x2423 : Int) (rec187 : Int → Option (List Int)) (x3536 : Int) : Option (List Int) :=
  (if (decide (0 < x3536)) then ((idx x2422 (isub .i64 x3536 1)).bind fun x3610 => ((idx x1 x2423).bind fun x3614 => qbG F rec158 rec187 x1 x2422 x2423 x3536 (decide (x3614 < x3610)))) else qbG F rec158 rec187 x1 x2422 x2423 x3536 false)
def yY (F : Nat) (rec158 : (List Int × Int) → Option (List Int)) (x1 : List Int) (x2422 : List Int) (x2423 : Int) : Nat → Int → Option (List Int)
  | 0 => fun _ => none
  | k + 1 => fun s => qbK F rec158 x1 x2422 x2423 (yY F rec158 x1 x2422 x2423 k) s
def qbx (F : Nat) (x1 : List Int) (rec158 : (List Int × Int) → Option (List Int)) (x2422 : List Int) (x2423 : Int) : Option (List Int) :=
  (if (decide (x2423 < (x1.length : Int))) then yY F rec158 x1 x2422 x2423 F (x2422.length : Int) else qdO F x2422)
def zJ (F : Nat) (x1 : List Int) : Nat → (List Int × Int) → Option (List Int)
  | 0 => fun _ => none
  | k + 1 => fun s => qbx F x1 (zJ F x1 k) s.1 s.2
def qeI (F : Nat) (x1 : List Int) : Option (List Int) :=
  zJ F x1 F (([] : List Int), 0)
def vL (F : Nat) (x1 : List Int) (x5 : Int) (x11 : Int) (x13 : (Int × Int × Int)) (x898 : Int) (x901 : List Int) : Option (List Int × Bool) :=
  ((qeS F x1 x898 x5 x11 (isub .i64 (iconv .i64 x13.1) (x901.length : Int))).bind fun x902 => (if ((x902.2.2 : Int) != 0) then some (([] : List Int), false) else ((app 8796093022208 x901 x902.1).bind fun x906 => ((qeI F x906).bind fun x909 => some (x909, true)))))
def qb8 (_F : Nat) (rec64 : (Int × List Int × Int × Int) → Option (List Int × Bool)) (x1143 : Int) (x1474 : Int) (x1477 : List Int) (x1478 : Int) : Option (List Int × Bool) :=
  rec64 (x1474, x1477, x1478, iadd .u64 x1143 1)
def vM (F : Nat) (rec64 : (Int × List Int × Int × Int) → Option (List Int × Bool)) (x10 : Int) (x13 : (Int × Int × Int)) (x1143 : Int) (x1483 : (Int × Int × Int)) (x1490 : Int) (x1537 : List Int) : Option (List Int × Bool) :=
  (lett (isub .i64 (iadd .i64 (iadd .i64 x1490 (iconv .i64 x1483.1)) x10) 1) fun x1538 => (if (decide ((iconv .i64 x13.1) < (x1537.length : Int))) then some (([] : List Int), false) else qb8 F rec64 x1143 x1483.2.1 x1537 x1538))
def qaD (F : Nat) (rec64 : (Int × List Int × Int × Int) → Option (List Int × Bool)) (x10 : Int) (x13 : (Int × Int × Int)) (x1143 : Int) (x1483 : (Int × Int × Int)) (x1490 : Int) (rec73 : (List Int × Int) → Option (List Int × Bool)) (x1554 : List Int) (x1555 : Int) : Option (List Int × Bool) :=
  (if (decide (x1555 < (iadd .i64 (iconv .i64 x1483.1) x10))) then ((app 8796093022208 x1554 ([iadd .i64 x1490 x1555] : List Int)).bind fun x1577 => rec73 (x1577, iadd .i64 x1555 1)) else vM F rec64 x10 x13 x1143 x1483 x1490 x1554)
def yh (F : Nat) (rec64 : (Int × List Int × Int × Int) → Option (List Int × Bool)) (x10 : Int) (x13 : (Int × Int × Int)) (x1143 : Int) (x1483 : (Int × Int × Int)) (x1490 : Int) : Nat → (List Int × Int) → Option (List Int × Bool)
  | 0 => fun _ => none
  | k + 1 => fun s => qaD F rec64 x10 x13 x1143 x1483 x1490 (yh F rec64 x10 x13 x1143 x1483 x1490 k) s.1 s.2
def vR (F : Nat) (rec64 : (Int × List Int × Int × Int) → Option (List Int × Bool)) (x10 : Int) (x13 : (Int × Int × Int)) (x1141 : List Int) (x1143 : Int) (x1483 : (Int × Int × Int)) (x1490 : Int) : Option (List Int × Bool) :=
  (if ((decide (x1490 < 0)) || (decide (1048576 < x1490))) then some (([] : List Int), false) else yh F rec64 x10 x13 x1143 x1483 x1490 F (x1141, 0))
def qaE (F : Nat) (x1 : List Int) (x5 : Int) (x10 : Int) (x11 : Int) (x13 : (Int × Int × Int)) (x913 : (Int × Int × Int)) (rec64 : (Int × List Int × Int × Int) → Option (List Int × Bool)) (x1138 : Int) (x1141 : List Int) (x1142 : Int) (x1143 : Int) : Option (List Int × Bool) :=
  (if (decide (x1143 < x913.1)) then ((k6 F x1 x1138).bind fun x1479 => (if (((x1479.2.2 : Int) != 0) || (decide (4194304 < x1479.1))) then some (([] : List Int), false) else ((k6 F x1 x1479.2.1).bind fun x1483 => (if (((x1483.2.2 : Int) != 0) || (decide (1000 < x1483.1))) then some (([] : List Int), false) else (lett (iadd .i64 (iadd .i64 x1142 (iconv .i64 x1479.1)) 2) fun x1487 => (if ((x1143 : Int) == 0) then ((qbY F x1479.1 x5 true).bind fun x1582 => vR F rec64 x10 x13 x1141 x1143 x1483 x1582) else vR F rec64 x10 x13 x1141 x1143 x1483 x1487)))))) else vL F x1 x5 x11 x13 x1138 x1141)
def zz (F : Nat) (x1 : List Int) (x5 : Int) (x10 : Int) (x11 : Int) (x13 : (Int × Int × Int)) (x913 : (Int × Int × Int)) : Nat → (Int × List Int × Int × Int) → Option (List Int × Bool)
  | 0 => fun _ => none
  | k + 1 => fun s => qaE F x1 x5 x10 x11 x13 x913 (zz F x1 x5 x10 x11 x13 x913 k) s.1 s.2.1 s.2.2.1 s.2.2.2
def vZ (F : Nat) (x1 : List Int) (x5 : Int) (x10 : Int) (x11 : Int) (x13 : (Int × Int × Int)) (x217 : Int) (x220 : List Int) : Option (List Int × Bool) :=
  (if (((x220.length : Int) : Int) == (iconv .i64 x13.1)) then some (x220, true) else (if (decide (0 < x10)) then ((k6 F x1 x217).bind fun x913 => (if (((x913.2.2 : Int) != 0) || (decide (300 < x913.1))) then some (([] : List Int), false) else zz F x1 x5 x10 x11 x13 x913 F (x913.2.1, x220, x5, 0))) else vL F x1 x5 x11 x13 x217 x220))
def vX (F : Nat) (x1 : List Int) (x5 : Int) (x6 : List Int) (x10 : Int) (x11 : Int) (x13 : (Int × Int × Int)) (x1686 : Int) (x1689 : List Int) : Option (List Int × Bool) :=
  ((qcY F x6 x1689).bind fun x1690 => (if (((x1690.2 : Int) != 0) || (decide ((iconv .i64 x13.1) < (x1690.1.length : Int)))) then some (([] : List Int), false) else vZ F x1 x5 x10 x11 x13 x1686 x1690.1))
def vN (_F : Nat) (rec86 : (Int × List Int × Int) → Option (List Int × Bool)) (x1727 : List Int) (x1728 : Int) (x1772 : (Int × Int × Int)) (x1777 : Int) : Option (List Int × Bool) :=
  ((app 8796093022208 x1727 ([iconv .i64 x1777] : List Int)).bind fun x1780 => rec86 (x1772.2.1, x1780, iadd .u64 x1728 1))
def qax (F : Nat) (x1 : List Int) (x5 : Int) (x6 : List Int) (x10 : Int) (x11 : Int) (x13 : (Int × Int × Int)) (x1590 : (Int × Int × Int)) (rec86 : (Int × List Int × Int) → Option (List Int × Bool)) (x1724 : Int) (x1727 : List Int) (x1728 : Int) : Option (List Int × Bool) :=
  (if (decide (x1728 < x1590.1)) then ((k6 F x1 x1724).bind fun x1772 => (if (((x1772.2.2 : Int) != 0) || (decide (1000 < x1772.1))) then some (([] : List Int), false) else (if (decide (0 < x1728)) then vN F rec86 x1727 x1728 x1772 (iadd .u64 x1772.1 1) else vN F rec86 x1727 x1728 x1772 x1772.1))) else vX F x1 x5 x6 x10 x11 x13 x1724 x1727)
def kP (F : Nat) (x1 : List Int) (x5 : Int) (x6 : List Int) (x10 : Int) (x11 : Int) (x13 : (Int × Int × Int)) (x1590 : (Int × Int × Int)) : Nat → (Int × List Int × Int) → Option (List Int × Bool)
  | 0 => fun _ => none
  | k + 1 => fun s => qax F x1 x5 x6 x10 x11 x13 x1590 (kP F x1 x5 x6 x10 x11 x13 x1590 k) s.1 s.2.1 s.2.2
def qcV (F : Nat) (x1 : List Int) (x4 : Int) (x5 : Int) (x6 : List Int) (x9 : Int) (x10 : Int) (x11 : Int) : Option (List Int × Bool) :=
  ((k6 F x1 x4).bind fun x13 => (if (((x13.2.2 : Int) != 0) || (decide (300 < x13.1))) then some (([] : List Int), false) else (if ((x13.1 : Int) == 0) then some (([] : List Int), true) else (if (decide (0 < x9)) then ((k6 F x1 x13.2.1).bind fun x1590 => (if (((x1590.2.2 : Int) != 0) || (decide ((iconv .u64 (iadd .i64 (x6.length : Int) 1)) < x1590.1))) then some (([] : List Int), false) else kP F x1 x5 x6 x10 x11 x13 x1590 F (x1590.2.1, ([] : List Int), 0))) else vZ F x1 x5 x10 x11 x13 x13.2.1 ([] : List Int)))))
def j6 (_F : Nat) (x5 : Int) (x26 : (List Int × Bool)) (x37 : List Int) (x56 : Bool) : Option (List Int × Int × Int) :=
  (if x56 then some (([] : List Int), 0, 1) else some (x26.1, iadd .i64 x5 (x37.length : Int), 0))
def vD (F : Nat) (x5 : Int) (x6 : Int) (x7 : List Int) (x10 : Int) (x11 : Int) (x12 : Int) (x23 : List Int) (x26 : (List Int × Bool)) (x36 : Bool) : Option (List Int × Int × Int) :=
  (if x36 then some (([] : List Int), 0, 1) else ((qca F x6 x26.1 x7 x10 x11 x12).bind fun x37 => (if (decide ((isub .i64 (x23.length : Int) x5) < (x37.length : Int))) then j6 F x5 x26 x37 true else ((sub x23 x5 (iadd .i64 x5 (x37.length : Int))).bind fun x58 => ((yg F x58 x37).bind fun x61 => j6 F x5 x26 x37 (!x61))))))
def j7 (F : Nat) (x1 : Int) (x2 : List Int) (x5 : Int) (x6 : Int) (x7 : List Int) (x10 : Int) (x11 : Int) (x12 : Int) (x21 : Int) : Option (List Int × Int × Int) :=
  (if ((x21 : Int) != 0) then some (([] : List Int), 0, x21) else ((qb1 F x1 x2).bind fun x23 => ((qcV F x23 x5 x6 x7 x10 x11 x12).bind fun x26 => (if (!x26.2) then vD F x5 x6 x7 x10 x11 x12 x23 x26 true else ((yW F x26.1).bind fun x63 => vD F x5 x6 x7 x10 x11 x12 x23 x26 ((x63 : Int) != 0))))))
def j9 (F : Nat) (x1 : Int) (x2 : List Int) (x5 : Int) (x6 : Int) (x7 : List Int) (x10 : Int) (x11 : Int) (x12 : Int) (x18 : Int) : Option (List Int × Int × Int) :=
  (if ((x18 : Int) == 0) then ((qc8 F x6 x7 x10 x11 x12).bind fun x65 => j7 F x1 x2 x5 x6 x7 x10 x11 x12 x65) else j7 F x1 x2 x5 x6 x7 x10 x11 x12 x18)
def qdl (F : Nat) (x1 : Int) (x2 : List Int) (x5 : Int) (x6 : Int) (x7 : List Int) (x10 : Int) (x11 : Int) (x12 : Int) : Option (List Int × Int × Int) :=
  ((qa6 F x10 x11 x12).bind fun x15 => (if ((x15 : Int) == 0) then ((qd3 F x1 x2 x5).bind fun x67 => j9 F x1 x2 x5 x6 x7 x10 x11 x12 x67) else j9 F x1 x2 x5 x6 x7 x10 x11 x12 x15))
def qel (_F : Nat) : Option Bool :=
  some true
def ju (F : Nat) (x1 : List Int) (x4 : List Int) (rec3 : Int → Option Bool) (x154 : Int) : Option Bool :=
  (if (decide (x154 < (x1.length : Int))) then ((idx x1 x154).bind fun x218 => ((idx x4 x154).bind fun x222 => (if ((x218 : Int) != x222) then some false else rec3 (iadd .i64 x154 1)))) else qel F)
def kZ (F : Nat) (x1 : List Int) (x4 : List Int) : Nat → Int → Option Bool
  | 0 => fun _ => none
  | k + 1 => fun s => ju F x1 x4 (kZ F x1 x4 k) s
def qai (F : Nat) (x1 : List Int) (x4 : List Int) : Option Bool :=
  (if (((x1.length : Int) : Int) != (x4.length : Int)) then some false else kZ F x1 x4 F 0)
def j1 (_F : Nat) (x13 : Bool) : Option Bool :=
  some x13
def qaW (F : Nat) (x1 : Int) (x2 : List Int) (x5 : Int) (x6 : List Int) : Option Bool :=
  (if ((x1 : Int) == x5) then ((qai F x2 x6).bind fun x14 => j1 F x14) else j1 F false)
def qcD (_F : Nat) (x36 : Bool) : Option Bool :=
  some x36
def qa3 (F : Nat) (x15 : (Int × List Int × Int)) (x19 : (List Int × Int × Int)) (x31 : Bool) : Option Bool :=
  (if ((x31 && ((x15.2.2 : Int) == 0)) && ((x19.2.2 : Int) == 1)) then ((jJ F 0 1 1).bind fun x37 => qcD F ((x37 : Int) == 3)) else qcD F false)
def qbe (F : Nat) (x6 : (Int × List Int × Int)) (x12 : (List Int × Int × Int)) (x15 : (Int × List Int × Int)) (x19 : (List Int × Int × Int)) (x24 : Bool) : Option Bool :=
  (if ((x24 && ((x12.2.1 : Int) == x6.1)) && ((x12.2.2 : Int) == 0)) then ((qaW F x15.1 x15.2.1 1 ([128] : List Int)).bind fun x40 => qa3 F x15 x19 x40) else qa3 F x15 x19 false)
def qcU (F : Nat)  : Option Bool :=
  ((qaR F 7 ([2, 3, 4, 5, 9, 20] : List Int) ([3, 9, 11] : List Int) 1 3 2).bind fun x6 => ((qb2 F x6.1 x6.2.1 0 7 ([3, 9, 11] : List Int) 1 3 2).bind fun x12 => ((qaR F 7 ([] : List Int) ([] : List Int) 0 0 1).bind fun x15 => ((qb2 F 0 ([] : List Int) 0 7 ([] : List Int) 0 0 1).bind fun x19 => (if ((x6.2.2 : Int) == 0) then ((yg F x12.1 ([2, 3, 4, 5, 9, 20] : List Int)).bind fun x41 => qbe F x6 x12 x15 x19 x41) else qbe F x6 x12 x15 x19 false)))))
def kM (_F : Nat) (x43 : Bool) : Option Bool :=
  some x43
def qeh (F : Nat) (x1 : Int) (x2 : List Int) (x5 : List Int) (x8 : Int) (x9 : Int) (x10 : Int) (x11 : Int) (x12 : List Int) (x15 : Int) : Option Bool :=
  ((qaR F x1 x2 x5 x8 x9 x10).bind fun x18 => ((qb2 F x11 x12 x15 x1 x5 x8 x9 x10).bind fun x22 => ((qc0 F x1 x2 x5 x8 x9 x10).bind fun x25 => ((qdl F x11 x12 x15 x1 x5 x8 x9 x10).bind fun x29 => ((qcU F).bind fun x44 => (if x44 then ((jJ F x8 x9 x10).bind fun x46 => ((qa6 F x8 x9 x10).bind fun x47 => (if ((x46 : Int) == x47) then ((qaW F x18.1 x18.2.1 x25.1 x25.2.1).bind fun x49 => (if x49 then (if ((x18.2.2 : Int) == x25.2.2) then ((yg F x22.1 x29.1).bind fun x52 => (if x52 then (if ((x22.2.1 : Int) == x29.2.1) then kM F ((x22.2.2 : Int) == x29.2.2) else kM F false) else kM F false)) else kM F false) else kM F false)) else kM F false))) else kM F false))))))
end Go.Proofs.YtidnfcdnhdbolaaGreat
