/- What each Go function of this seat computes, in plain terms. -/
import Derived.Test.YtlioijpkhffbnaaGreatSy
namespace Go.Proofs.YtlioijpkhffbnaaGreat
open Go SX
def qab (_F : Nat) (x798 : Int) : Option Int :=
  (if (decide (600 < x798)) then some 2 else some 0)
def qac (_F : Nat) (rec38 : (Int × Int) → Option Int) (x1065 : Int) (x1461 : Int) : Option Int :=
  rec38 (x1461, iadd .i64 x1065 1)
def vT (F : Nat) (rec38 : (Int × Int) → Option Int) (x1064 : Int) (x1065 : Int) (x1462 : List Int) : Option Int :=
  qac F rec38 x1065 (iadd .i64 x1064 (x1462.length : Int))
def vS (F : Nat) (rec38 : (Int × Int) → Option Int) (x1 : List (List Int)) (x1064 : Int) (x1065 : Int) (x1462 : List Int) (rec45 : (Int × Int) → Option Int) (x1549 : Int) (x1550 : Int) : Option Int :=
  (if (decide (x1550 < (x1462.length : Int))) then ((idx x1462 x1550).bind fun x1582 => (if ((decide (x1582 < 0)) || (decide ((x1.length : Int) ≤ x1582))) then some 3 else (if (decide (x1582 ≤ x1549)) then some 4 else rec45 (x1582, iadd .i64 x1550 1)))) else vT F rec38 x1064 x1065 x1462)
def kK (F : Nat) (rec38 : (Int × Int) → Option Int) (x1 : List (List Int)) (x1064 : Int) (x1065 : Int) (x1462 : List Int) : Nat → (Int × Int) → Option Int
  | 0 => fun _ => none
  | k + 1 => fun s => vS F rec38 x1 x1064 x1065 x1462 (kK F rec38 x1 x1064 x1065 x1462 k) s.1 s.2
def vR (F : Nat) (x1 : List (List Int)) (rec38 : (Int × Int) → Option Int) (x1064 : Int) (x1065 : Int) : Option Int :=
  (if (decide (x1065 < (x1.length : Int))) then ((idx x1 x1065).bind fun x1462 => kK F rec38 x1 x1064 x1065 x1462 F (-1, 0)) else qab F x1064)
def qP (F : Nat) (x1 : List (List Int)) : Nat → (Int × Int) → Option Int
  | 0 => fun _ => none
  | k + 1 => fun s => vR F x1 (qP F x1 k) s.1 s.2
def vJ (F : Nat) (x1 : List (List Int)) : Option Int :=
  (if (decide (100 < (x1.length : Int))) then some 2 else qP F x1 F (0, 0))
def jA (_F : Nat) (x1 : List Int) (x4 : Int) (rec1 : (Int × Int) → Option (Int × Int × Int)) (x37 : Int) (x38 : Int) : Option (Int × Int × Int) :=
  (if (decide ((x1.length : Int) ≤ (iadd .i64 x4 x38))) then some (0, 0, 7) else ((idx x1 (iadd .i64 x4 x38)).bind fun x89 => (if (((x38 : Int) == 9) && (decide (1 < x89))) then some (0, 0, 3) else (if ((decide (0 < x38)) && ((x89 : Int) == 0)) then some (0, 0, 1) else (chk (decide (0 ≤ (imul .i64 7 x38))) ((lett (ior .u64 x37 (ishl .u64 (iconv .u64 (iand .u8 x89 127)) (imul .i64 7 x38))) fun x99 => (if (decide (x89 < 128)) then some (x99, iadd .i64 (iadd .i64 x4 x38) 1, 0) else rec1 (x99, iadd .i64 x38 1)))))))))
def ya (F : Nat) (x1 : List Int) (x4 : Int) : Nat → (Int × Int) → Option (Int × Int × Int)
  | 0 => fun _ => none
  | k + 1 => fun s => jA F x1 x4 (ya F x1 x4 k) s.1 s.2
def qaN (F : Nat) (x1 : List Int) (x4 : Int) : Option (Int × Int × Int) :=
  ya F x1 x4 F (0, 0)
def ql (F : Nat) (x2 : List Int) (x5 : Int) (x6 : Int) (x7 : Bool) (x8 : Int) : Option (Int × Int × Int × Bool) :=
  ((qaN F x2 x5).bind fun x10 => (if ((x7 || ((x10.2.2 : Int) != 0)) || (decide ((iconv .u64 x8) < x10.1))) then some (0, x5, x6, ((x7 || ((x10.2.2 : Int) != 0)) || (decide ((iconv .u64 x8) < x10.1)))) else some (iconv .i64 x10.1, x10.2.1, iadd .i64 x6 1, ((x7 || ((x10.2.2 : Int) != 0)) || (decide ((iconv .u64 x8) < x10.1))))))
def j3 (_F : Nat) (x1 : Int) : Option Bool :=
  some ((decide (0 ≤ x1)) && (decide (x1 ≤ 1048576)))
def vD (_F : Nat) (x1 : Int) : Option Int :=
  (lett (ixor .i64 (iconv .i64 (ishr .u64 x1 1)) (isub .i64 0 (iconv .i64 (iand .u64 x1 1)))) fun x2 => some x2)
def kv (F : Nat) (x8 : Int) : Option (Bool × Int × Bool) :=
  ((j3 F x8).bind fun x9 => some (x9, x8, true))
def zC (F : Nat) (x2 : Int) (x3 : Bool) (x4 : Int) : Option (Bool × Int × Bool) :=
  (if (decide (2097152 < x4)) then some (false, x2, x3) else (if x3 then kv F (iadd .i64 x2 (iadd .i64 (iconv .i64 x4) 1)) else ((vD F x4).bind fun x10 => kv F (iadd .i64 x2 x10))))
def qa9 (_F : Nat) (x97 : List Int) : Option (List Int × Int) :=
  some (x97, 0)
def j8 (F : Nat) (x1 : List Int) (rec3 : (List Int × Int × Int × Bool) → Option (List Int × Int)) (x126 : List Int) (x127 : Int) (x128 : Int) (x129 : Bool) : Option (List Int × Int) :=
  (if (decide (x127 < (x1.length : Int))) then ((idx x1 x127).bind fun x170 => ((zC F x128 x129 x170).bind fun x175 => (if (!x175.1) then some (([] : List Int), 3) else ((app 8796093022208 x126 ([x175.2.1] : List Int)).bind fun x178 => rec3 (x178, iadd .i64 x127 1, x175.2.1, x175.2.2))))) else qa9 F x126)
def yU (F : Nat) (x1 : List Int) : Nat → (List Int × Int × Int × Bool) → Option (List Int × Int)
  | 0 => fun _ => none
  | k + 1 => fun s => j8 F x1 (yU F x1 k) s.1 s.2.1 s.2.2.1 s.2.2.2
def qbp (F : Nat) (x1 : List Int) (x4 : Int) : Option (List Int × Int) :=
  (if (decide (300 < (x1.length : Int))) then some (([] : List Int), 2) else ((j3 F x4).bind fun x8 => (if (!x8) then some (([] : List Int), 3) else yU F x1 F (([] : List Int), 0, x4, false))))
def zm (F : Nat) (x8 : Int) (x63 : List Int) (x64 : Int) (x65 : Int) (x66 : Bool) : Option (List Int × Int × Int × Bool) :=
  ((qbp F x63 x8).bind fun x67 => some (x67.1, x64, x65, (x66 || ((x67.2 : Int) != 0))))
def zJ (F : Nat) (x2 : List Int) (x8 : Int) (x71 : (Int × Int × Int × Bool)) (rec3 : (List Int × Int × Int × Int × Bool) → Option (List Int × Int × Int × Bool)) (x88 : List Int) (x89 : Int) (x90 : Int) (x91 : Int) (x92 : Bool) : Option (List Int × Int × Int × Bool) :=
  (if (decide (x89 < x71.1)) then ((ql F x2 x90 x91 x92 2097152).bind fun x115 => ((app 8796093022208 x88 ([iconv .u64 x115.1] : List Int)).bind fun x118 => rec3 (x118, iadd .i64 x89 1, x115.2.1, x115.2.2.1, x115.2.2.2))) else zm F x8 x88 x90 x91 x92)
def qK (F : Nat) (x2 : List Int) (x8 : Int) (x71 : (Int × Int × Int × Bool)) : Nat → (List Int × Int × Int × Int × Bool) → Option (List Int × Int × Int × Bool)
  | 0 => fun _ => none
  | k + 1 => fun s => zJ F x2 x8 x71 (qK F x2 x8 x71 k) s.1 s.2.1 s.2.2.1 s.2.2.2.1 s.2.2.2.2
def zP (F : Nat) (x2 : List Int) (x5 : Int) (x6 : Int) (x7 : Bool) (x8 : Int) (x9 : Int) : Option (List Int × Int × Int × Bool) :=
  ((ql F x2 x5 x6 x7 x9).bind fun x71 => qK F x2 x8 x71 F (([] : List Int), 0, x71.2.1, x71.2.2.1, x71.2.2.2))
def zI (_F : Nat) (x76 : List (List Int)) (x77 : Int) (x78 : Int) (x79 : Bool) (x83 : Bool) : Option (List (List Int) × Bool × Int × Int × Bool) :=
  some (x76, x83, x77, x78, x79)
def q7 (F : Nat) (x2 : List Int) (x76 : List (List Int)) (x77 : Int) (x78 : Int) (x79 : Bool) : Option (List (List Int) × Bool × Int × Int × Bool) :=
  (if (!x79) then (if ((x77 : Int) == (x2.length : Int)) then ((vJ F x76).bind fun x86 => zI F x76 x77 x78 x79 ((x86 : Int) == 0)) else zI F x76 x77 x78 x79 false) else zI F x76 x77 x78 x79 false)
def zH (F : Nat) (x2 : List Int) (x9 : (Int × Int × Int × Bool)) (rec4 : (Int × List (List Int) × Int × Int × Bool) → Option (List (List Int) × Bool × Int × Int × Bool)) (x106 : Int) (x109 : List (List Int)) (x110 : Int) (x111 : Int) (x112 : Bool) : Option (List (List Int) × Bool × Int × Int × Bool) :=
  (if (decide (x106 < x9.1)) then ((zP F x2 x110 x111 x112 x106 x9.1).bind fun x141 => ((app 2199023255552 x109 ([x141.1] : List (List Int))).bind fun x146 => rec4 (iadd .i64 x106 1, x146, x141.2.1, x141.2.2.1, x141.2.2.2))) else q7 F x2 x109 x110 x111 x112)
def qJ (F : Nat) (x2 : List Int) (x9 : (Int × Int × Int × Bool)) : Nat → (Int × List (List Int) × Int × Int × Bool) → Option (List (List Int) × Bool × Int × Int × Bool)
  | 0 => fun _ => none
  | k + 1 => fun s => zH F x2 x9 (qJ F x2 x9 k) s.1 s.2.1 s.2.2.1 s.2.2.2.1 s.2.2.2.2
def vk (F : Nat) (x2 : List Int) (x5 : Int) (x6 : Int) (x7 : Bool) : Option (List (List Int) × Bool × Int × Int × Bool) :=
  ((ql F x2 x5 x6 x7 100).bind fun x9 => qJ F x2 x9 F (0, ([] : List (List Int)), x9.2.1, x9.2.2.1, x9.2.2.2))
def zK (_F : Nat) (x1 : List Int) : Option (List Int) :=
  ((app 140737488355328 ([] : List Int) x1).bind fun x8 => some x8)
def vx (_F : Nat) (x36 : Bool) : Option Int :=
  (if x36 then some 1 else some 0)
def j5 (F : Nat) (x1 : Int) (x2 : List Int) : Option Int :=
  (if ((decide (x1 < 0)) || (decide (8192 < x1))) then some 3 else (if (((x2.length : Int) : Int) != (iquo .i64 (iadd .i64 x1 7) 8)) then some 1 else (if (((irem x1 8) : Int) != 0) then ((idx x2 (isub .i64 (x2.length : Int) 1)).bind fun x39 => (chk (decide (0 ≤ (irem x1 8))) (vx F (((ishl .u8 x39 (irem x1 8)) : Int) != 0)))) else vx F false)))
def jz (_F : Nat) (x1 : Int) (x2 : Int) (x3 : Int) : Option Int :=
  (if (((((((decide (x1 < 0)) || (decide (7 < x1))) || (decide (x2 < 0))) || ((x2 : Int) == 1)) || (decide (300 < x2))) || (decide (x3 < 1))) || (decide (16 < x3))) then some 3 else some 0)
def qa8 (F : Nat) (x1 : Int) (x2 : List Int) : Option (Int × List Int) :=
  ((zK F x2).bind fun x10 => some (x1, x10))
def qbE (_F : Nat) (_x1 : Int) (_x2 : List Int) (_x5 : Int) (_x6 : Int) : Option Unit :=
  some ()
def kE (_F : Nat) (x2 : Int) (x6 : Int) (x15 : List Int) : Option (Int × List Int) :=
  ((idx x15 (iquo .i64 x2 8)).bind fun x30 => (chk (decide (0 ≤ (irem x2 8))) (((idx x15 (iquo .i64 x2 8)).bind fun _x36 => (lett (x15.set (iquo .i64 x2 8).toNat (ior .u8 x30 (ishr .u8 (iconv .u8 (ishl .u64 x6 7)) (irem x2 8)))) fun x41 => some (iadd .i64 x2 1, x41))))))
def yB (F : Nat) (x2 : Int) (x3 : List Int) (x6 : Int) : Option (Int × List Int) :=
  (if (((irem x2 8) : Int) == 0) then ((app 140737488355328 x3 ([0] : List Int)).bind fun x46 => kE F x2 x6 x46) else kE F x2 x6 x3)
def jy (_F : Nat) (_x1 : Int) (x2 : List Int) (x5 : Int) : Option Int :=
  ((idx x2 (iquo .i64 x5 8)).bind fun x7 => (chk (decide (0 ≤ (isub .i64 7 (irem x5 8)))) ((lett (iand .u64 (iconv .u64 (ishr .u8 x7 (isub .i64 7 (irem x5 8)))) 1) fun x11 => some x11))))
def vi {σ τ : Type} (F : Nat) (yy : σ → Int → Option (σ ⊕ τ)) (x4 : Int) (x6 : Int) (x7 : List Int) (rec1 : (Int × σ) → Option (σ ⊕ τ)) (x22 : Int) (x23 : σ) : Option (σ ⊕ τ) :=
  (if (decide (x22 < x4)) then ((jy F x6 x7 x22).bind fun x44 => ((yy x23 x44).bind (Sum.elim (fun x45 => rec1 (iadd .i64 x22 1, x45)) (fun x46 => some (.inr x46))))) else some (.inl x23))
def zB {σ τ : Type} (F : Nat) (yy : σ → Int → Option (σ ⊕ τ)) (x4 : Int) (x6 : Int) (x7 : List Int) : Nat → (Int × σ) → Option (σ ⊕ τ)
  | 0 => fun _ => none
  | k + 1 => fun s => vi F yy x4 x6 x7 (zB F yy x4 x6 x7 k) s.1 s.2
def qaT {σ τ : Type} (F : Nat) (yy : σ → Int → Option (σ ⊕ τ)) (x2 : Int) (x4 : Int) (x6 : Int) (x7 : List Int) (s0 : σ) : Option (σ ⊕ τ) :=
  zB F yy x4 x6 x7 F (x2, s0)
def jk (F : Nat) (x45 : Int) (x48 : List Int) (x53 : Int) : Option ((Int × List Int) ⊕ Empty) :=
  ((yB F x45 x48 x53).bind fun x54 => some (.inl (x54.1, x54.2)))
def vd (F : Nat) (x1 : Int) (x2 : List Int) (x5 : Int) (x6 : List Int) : Option (Int × List Int) :=
  ((qa8 F x1 x2).bind fun x12 => ((qbE F x5 x6 0 x5).bind fun _x37 => ((qaT F (fun ((x45, x48) : (Int × List Int)) (x53 : Int) => jk F x45 x48 x53) 0 x5 x5 x6 (x12.1, x12.2)).bind (Sum.elim (fun ((x45, x48) : (Int × List Int)) => some (x45, x48)) (fun t => t.elim)))))
def kI (_F : Nat) (x9 : Int) (x10 : Int) : Option Int :=
  ((idx ([0, 1, 2, 2, 3, 3, 3, 3, 4, 4, 4, 4, 4, 4, 4, 4, 5, 5, 5, 5, 5, 5, 5, 5, 5, 5, 5, 5, 5, 5, 5, 5, 6, 6, 6, 6, 6, 6, 6, 6, 6, 6, 6, 6, 6, 6, 6, 6, 6, 6, 6, 6, 6, 6, 6, 6, 6, 6, 6, 6, 6, 6, 6, 6, 7, 7, 7, 7, 7, 7, 7, 7, 7, 7, 7, 7, 7, 7, 7, 7, 7, 7, 7, 7, 7, 7, 7, 7, 7, 7, 7, 7, 7, 7, 7, 7, 7, 7, 7, 7, 7, 7, 7, 7, 7, 7, 7, 7, 7, 7, 7, 7, 7, 7, 7, 7, 7, 7, 7, 7, 7, 7, 7, 7, 7, 7, 7, 7, 8, 8, 8, 8, 8, 8, 8, 8, 8, 8, 8, 8, 8, 8, 8, 8, 8, 8, 8, 8, 8, 8, 8, 8, 8, 8, 8, 8, 8, 8, 8, 8, 8, 8, 8, 8, 8, 8, 8, 8, 8, 8, 8, 8, 8, 8, 8, 8, 8, 8, 8, 8, 8, 8, 8, 8, 8, 8, 8, 8, 8, 8, 8, 8, 8, 8, 8, 8, 8, 8, 8, 8, 8, 8, 8, 8, 8, 8, 8, 8, 8, 8, 8, 8, 8, 8, 8, 8, 8, 8, 8, 8, 8, 8, 8, 8, 8, 8, 8, 8, 8, 8, 8, 8, 8, 8, 8, 8, 8, 8, 8, 8, 8, 8, 8, 8, 8, 8, 8, 8, 8, 8, 8, 8, 8, 8, 8, 8] : List Int) (iconv .u8 x9)).bind fun x11 => some (iadd .i64 x10 (iconv .i64 x11)))
def kH (F : Nat) (x6 : Int) (x7 : Int) : Option Int :=
  (if (decide (256 ≤ x6)) then kI F (ishr .u64 x6 8) (iadd .i64 x7 8) else kI F x6 x7)
def kG (F : Nat) (x3 : Int) (x4 : Int) : Option Int :=
  (if (decide (65536 ≤ x3)) then kH F (ishr .u64 x3 16) (iadd .i64 x4 16) else kH F x3 x4)
def kL (F : Nat) (x1 : Int) : Option Int :=
  (if (decide (4294967296 ≤ x1)) then kG F (ishr .u64 x1 32) 32 else kG F x1 0)
def qaY (F : Nat) (x1 : Int) : Option Int :=
  ((kL F (iadd .u64 x1 1)).bind fun x2 => some (isub .i64 x2 1))
def zv (F : Nat) (x6 : Int) (rec1 : (Int × Int × List Int) → Option (Int × List Int)) (x18 : Int) (x19 : Int) (x22 : List Int) : Option (Int × List Int) :=
  (if (decide (0 ≤ x18)) then (chk (decide (0 ≤ x18)) (((yB F x19 x22 (iand .u64 (ishr .u64 x6 x18) 1)).bind fun x40 => rec1 (isub .i64 x18 1, x40.1, x40.2)))) else some (x19, x22))
def zw (F : Nat) (x6 : Int) : Nat → (Int × Int × List Int) → Option (Int × List Int)
  | 0 => fun _ => none
  | k + 1 => fun s => zv F x6 (zw F x6 k) s.1 s.2.1 s.2.2
def yC (F : Nat) (x2 : Int) (x3 : List Int) (x6 : Int) (x7 : Int) : Option (Int × List Int) :=
  zw F x6 F (isub .i64 x7 1, x2, x3)
def ji (F : Nat) (x1 : Int) (x2 : List Int) (x5 : Int) (x6 : Int) : Option (Int × List Int) :=
  ((qa8 F x1 x2).bind fun x9 => ((yC F x9.1 x9.2 x5 x6).bind fun x13 => some (x13.1, x13.2)))
def qaR (F : Nat) (x1 : Int) : Option (Int × List Int) :=
  ((mk 140737488355328 (0 : Int) (iquo .u64 (iadd .u64 x1 7) 8)).bind fun x3 => ((ji F (iconv .i64 x1) x3 1 1).bind fun x6 => some (x6.1, x6.2)))
def qbo (_F : Nat) (x1 : Int) (x2 : Int) : Option Int :=
  (chk (decide (0 ≤ x2)) ((lett (iand .u64 x1 (isub .u64 (ishl .u64 1 x2) 1)) fun x4 => some x4)))
def yT (F : Nat) (x1 : Int) : Option (Int × List Int) :=
  ((qaY F x1).bind fun x3 => ((qaR F (iconv .u64 x3)).bind fun x4 => ((qbo F (iadd .u64 x1 1) x3).bind fun x7 => ((ji F x4.1 x4.2 x7 x3).bind fun x8 => some (x8.1, x8.2)))))
def qcf (_F : Nat) : Option Int :=
  some 0
def jM (F : Nat) (x1 : List Int) (rec3 : (Int × Int) → Option Int) (x88 : Int) (x89 : Int) : Option Int :=
  (if (decide (x89 < (x1.length : Int))) then ((idx x1 x89).bind fun x121 => ((j3 F x121).bind fun x127 => (if (!x127) then some 3 else (if (decide (x121 ≤ x88)) then some 4 else rec3 (x121, iadd .i64 x89 1))))) else qcf F)
def yq (F : Nat) (x1 : List Int) : Nat → (Int × Int) → Option Int
  | 0 => fun _ => none
  | k + 1 => fun s => jM F x1 (yq F x1 k) s.1 s.2
def yE (F : Nat) (x1 : List Int) : Option Int :=
  (if (decide (300 < (x1.length : Int))) then some 2 else yq F x1 F (-1, 0))
def jJ (_F : Nat) (x1 : Int) : Option Int :=
  (lett (ixor .u64 (ishl .u64 (iconv .u64 x1) 1) (iconv .u64 (ishr .i64 x1 63))) fun x2 => some x2)
def jl (_F : Nat) (x4 : Int) (x8 : Int) : Option (Int × Int × Bool) :=
  some (x8, x4, true)
def vO (F : Nat) (x2 : Int) (x3 : Bool) (x4 : Int) : Option (Int × Int × Bool) :=
  (if x3 then (lett (iconv .u64 (isub .i64 (isub .i64 x4 x2) 1)) fun x9 => jl F x4 x9) else ((jJ F (isub .i64 x4 x2)).bind fun x10 => jl F x4 x10))
def qbF (_F : Nat) (x75 : List Int) : Option (List Int) :=
  some x75
def qaF (F : Nat) (x1 : List Int) (rec3 : (List Int × Int × Int × Bool) → Option (List Int)) (x98 : List Int) (x99 : Int) (x100 : Int) (x101 : Bool) : Option (List Int) :=
  (if (decide (x99 < (x1.length : Int))) then ((idx x1 x99).bind fun x133 => ((vO F x100 x101 x133).bind fun x136 => ((app 8796093022208 x98 ([x136.1] : List Int)).bind fun x139 => rec3 (x139, iadd .i64 x99 1, x136.2.1, x136.2.2)))) else qbF F x98)
def vI (F : Nat) (x1 : List Int) : Nat → (List Int × Int × Int × Bool) → Option (List Int)
  | 0 => fun _ => none
  | k + 1 => fun s => qaF F x1 (vI F x1 k) s.1 s.2.1 s.2.2.1 s.2.2.2
def qas (F : Nat) (x1 : List Int) (x4 : Int) : Option (List Int) :=
  vI F x1 F (([] : List Int), 0, x4, false)
def kJ (F : Nat) (x2 : Int) (x3 : List Int) (x7 : Int) (x8 : List Int) (x13 : Bool) : Option (Int × List Int × Bool) :=
  (if (!x13) then ((vd F x2 x3 x7 x8).bind fun x14 => some (x14.1, x14.2, x13)) else some (x2, x3, x13))
def kO (F : Nat) (x2 : Int) (x3 : List Int) (x6 : Bool) (x7 : Int) (x8 : List Int) : Option (Int × List Int × Bool) :=
  (if x6 then kJ F x2 x3 x7 x8 true else kJ F x2 x3 x7 x8 (decide (8192 < (iadd .i64 x2 x7))))
def qM (F : Nat) (x2 : Int) (x3 : List Int) (x6 : Bool) (x7 : Int) : Option (Int × List Int × Bool) :=
  ((yT F (iconv .u64 x7)).bind fun x8 => ((kO F x2 x3 x6 x8.1 x8.2).bind fun x11 => some (x11.1, x11.2.1, x11.2.2)))
def jL (_F : Nat) (x1 : Int) : Option Bool :=
  some ((x1 : Int) != x1)
def vN (_F : Nat) (x1 : Int) (x2 : Int) (x6 : Bool) : Option Bool :=
  some (x6 || (decide (x1 < x2)))
def j7 (F : Nat) (x1 : Int) (x2 : Int) : Option Bool :=
  ((jL F x1).bind fun x3 => (if x3 then ((jL F x2).bind fun x8 => vN F x1 x2 (!x8)) else vN F x1 x2 false))
def vq (_F : Nat) (x1 : Int) : Option Bool :=
  some ((x1 : Int) != x1)
def kf (_F : Nat) (x32 : Int) (x55 : Bool) : Option (Int × Bool) :=
  some (x32, x55)
def kg (F : Nat) (x32 : Int) (x68 : Bool) : Option (Int × Bool) :=
  kf F x32 x68
def kh (F : Nat) (x32 : Int) (x75 : Bool) : Option (Int × Bool) :=
  kg F x32 x75
def ke (F : Nat) (x1 : List Int) (x4 : Int) (x32 : Int) : Option (Int × Bool) :=
  (if (decide (x32 < (x1.length : Int))) then ((idx x1 x32).bind fun x56 => (if ((x56 : Int) == x4) then kg F x32 true else ((idx x1 x32).bind fun x69 => ((vq F x69).bind fun x72 => (if x72 then ((vq F x4).bind fun x76 => kh F x32 x76) else kh F x32 false))))) else kf F x32 false)
def zk (F : Nat) (x1 : List Int) (x4 : Int) (rec10 : (Int × Int) → Option (Int × Bool)) (x85 : Int) (x86 : Int) : Option (Int × Bool) :=
  (if (decide (x85 < x86)) then (lett (iconv .i64 (ishr .u64 (iconv .u64 (iadd .i64 x85 x86)) 1)) fun x97 => ((idx x1 x97).bind fun x98 => ((j7 F x98 x4).bind fun x101 => (if x101 then rec10 (iadd .i64 x97 1, x86) else rec10 (x85, x97))))) else ke F x1 x4 x85)
def qG (F : Nat) (x1 : List Int) (x4 : Int) : Nat → (Int × Int) → Option (Int × Bool)
  | 0 => fun _ => none
  | k + 1 => fun s => zk F x1 x4 (qG F x1 x4 k) s.1 s.2
def zi (F : Nat) (x1 : List Int) (x4 : Int) : Option (Int × Bool) :=
  qG F x1 x4 F (0, (x1.length : Int))
def yk (_F : Nat) (x21 : List Int) (x22 : Bool) (x23 : Int) : Option (List Int × Bool × Int) :=
  some (x21, x22, iadd .i64 x23 1)
def vp (F : Nat) (x2 : List Int) (x5 : Bool) (x6 : Int) (x7 : Bool) : Option (List Int × Bool × Int) :=
  (if (x7 != x5) then ((app 8796093022208 x2 ([x6] : List Int)).bind fun x31 => yk F x31 x7 0) else yk F x2 x5 x6)
def qbe (_F : Nat) (x66 : List Int) (x151 : List Int) : Option (List Int × List Int) :=
  some (x66, x151)
def jU (_F : Nat) (rec10 : (List Int × Int) → Option (List Int × List Int)) (x180 : Int) (x220 : List Int) : Option (List Int × List Int) :=
  rec10 (x220, iadd .i64 x180 1)
def jS (F : Nat) (x1 : List Int) (x4 : List Int) (x66 : List Int) (rec10 : (List Int × Int) → Option (List Int × List Int)) (x179 : List Int) (x180 : Int) : Option (List Int × List Int) :=
  (if (decide (x180 < (x4.length : Int))) then ((idx x4 x180).bind fun x221 => ((zi F x1 x221).bind fun x224 => (if (!x224.2) then ((app 8796093022208 x179 ([x221] : List Int)).bind fun x227 => jU F rec10 x180 x227) else jU F rec10 x180 x179))) else qbe F x66 x179)
def kS (F : Nat) (x1 : List Int) (x4 : List Int) (x66 : List Int) : Nat → (List Int × Int) → Option (List Int × List Int)
  | 0 => fun _ => none
  | k + 1 => fun s => jS F x1 x4 x66 (kS F x1 x4 x66 k) s.1 s.2
def qbd (F : Nat) (x1 : List Int) (x4 : List Int) (x66 : List Int) (_x67 : Bool) (_x68 : Int) : Option (List Int × List Int) :=
  kS F x1 x4 x66 F (([] : List Int), 0)
def jT (F : Nat) (x1 : List Int) (x4 : List Int) (rec12 : (Int × List Int × Bool × Int) → Option (List Int × List Int)) (x249 : Int) (x252 : List Int) (x253 : Bool) (x254 : Int) : Option (List Int × List Int) :=
  (if (decide (x249 < (x1.length : Int))) then ((idx x1 x249).bind fun x280 => ((zi F x4 x280).bind fun x283 => ((vp F x252 x253 x254 x283.2).bind fun x284 => rec12 (iadd .i64 x249 1, x284.1, x284.2.1, x284.2.2)))) else qbd F x1 x4 x252 x253 x254)
def yr (F : Nat) (x1 : List Int) (x4 : List Int) : Nat → (Int × List Int × Bool × Int) → Option (List Int × List Int)
  | 0 => fun _ => none
  | k + 1 => fun s => jT F x1 x4 (yr F x1 x4 k) s.1 s.2.1 s.2.2.1 s.2.2.2
def qbv (F : Nat) (x1 : List Int) (x4 : List Int) : Option (List Int × List Int) :=
  yr F x1 x4 F (0, ([] : List Int), true, 0)
def kP (F : Nat) (x7 : List Int) (rec1 : (Int × Int × List Int × Bool) → Option (Int × List Int × Bool)) (x27 : Int) (x28 : Int) (x31 : List Int) (x32 : Bool) : Option (Int × List Int × Bool) :=
  (if (decide (x27 < (x7.length : Int))) then ((idx x7 x27).bind fun x55 => ((qM F x28 x31 x32 (isub .i64 x55 (imin x27 1))).bind fun x58 => rec1 (iadd .i64 x27 1, x58.1, x58.2.1, x58.2.2))) else some (x28, x31, x32))
def zy (F : Nat) (x7 : List Int) : Nat → (Int × Int × List Int × Bool) → Option (Int × List Int × Bool)
  | 0 => fun _ => none
  | k + 1 => fun s => kP F x7 (zy F x7 k) s.1 s.2.1 s.2.2.1 s.2.2.2
def yH (F : Nat) (x2 : Int) (x3 : List Int) (x6 : Bool) (x7 : List Int) : Option (Int × List Int × Bool) :=
  ((qM F x2 x3 x6 (x7.length : Int)).bind fun x10 => zy F x7 F (0, x10.1, x10.2.1, x10.2.2))
def qco (_F : Nat) (_x1 : List Int) : Option Unit :=
  some ()
def vZ {σ τ : Type} (_F : Nat) (yy : σ → (Int × Int) → Option (σ ⊕ τ)) (rec31 : (Int × σ) → Option (σ ⊕ τ)) (x2 : List Int) (x266 : Int) (x267 : σ) (x654 : Int) : Option (σ ⊕ τ) :=
  ((idx x2 x266).bind fun x662 => ((yy x267 (x662, x654)).bind (Sum.elim (fun x665 => rec31 (iadd .i64 x266 x654, x665)) (fun x666 => some (.inr x666)))))
def v6 {σ τ : Type} (F : Nat) (yy : σ → (Int × Int) → Option (σ ⊕ τ)) (rec31 : (Int × σ) → Option (σ ⊕ τ)) (rec44 : Int → Option (σ ⊕ τ)) (x2 : List Int) (x266 : Int) (x267 : σ) (x709 : Int) (x780 : Bool) : Option (σ ⊕ τ) :=
  (if x780 then rec44 (iadd .i64 x709 1) else vZ F yy rec31 x2 x266 x267 x709)
def vY {σ τ : Type} (F : Nat) (yy : σ → (Int × Int) → Option (σ ⊕ τ)) (rec31 : (Int × σ) → Option (σ ⊕ τ)) (x2 : List Int) (x266 : Int) (x267 : σ) (rec44 : Int → Option (σ ⊕ τ)) (x709 : Int) : Option (σ ⊕ τ) :=
  (if (decide ((iadd .i64 x266 x709) < (x2.length : Int))) then ((idx x2 (iadd .i64 x266 x709)).bind fun x783 => ((idx x2 x266).bind fun x787 => v6 F yy rec31 rec44 x2 x266 x267 x709 ((x783 : Int) == (iadd .i64 x787 x709)))) else v6 F yy rec31 rec44 x2 x266 x267 x709 false)
def kb {σ τ : Type} (F : Nat) (yy : σ → (Int × Int) → Option (σ ⊕ τ)) (rec31 : (Int × σ) → Option (σ ⊕ τ)) (x2 : List Int) (x266 : Int) (x267 : σ) : Nat → Int → Option (σ ⊕ τ)
  | 0 => fun _ => none
  | k + 1 => fun s => vY F yy rec31 x2 x266 x267 (kb F yy rec31 x2 x266 x267 k) s
def vX {σ τ : Type} (F : Nat) (yy : σ → (Int × Int) → Option (σ ⊕ τ)) (x2 : List Int) (rec31 : (Int × σ) → Option (σ ⊕ τ)) (x266 : Int) (x267 : σ) : Option (σ ⊕ τ) :=
  (if (decide (x266 < (x2.length : Int))) then kb F yy rec31 x2 x266 x267 F 1 else some (.inl x267))
def qI {σ τ : Type} (F : Nat) (yy : σ → (Int × Int) → Option (σ ⊕ τ)) (x2 : List Int) : Nat → (Int × σ) → Option (σ ⊕ τ)
  | 0 => fun _ => none
  | k + 1 => fun s => vX F yy x2 (qI F yy x2 k) s.1 s.2
def jH {σ τ : Type} (F : Nat) (yy : σ → (Int × Int) → Option (σ ⊕ τ)) (x2 : List Int) (s0 : σ) : Option (σ ⊕ τ) :=
  qI F yy x2 F (0, s0)
def qaL (_F : Nat) (x255 : List (Int × Int)) (x312 : Int) (x313 : Int) (rec8 : (Int × List Int) → Option ((List Int × List (Int × Int)) ⊕ Empty)) (x338 : Int) (x341 : List Int) : Option ((List Int × List (Int × Int)) ⊕ Empty) :=
  (if (decide (x338 < x313)) then ((app 8796093022208 x341 ([iadd .i64 x312 x338] : List Int)).bind fun x363 => rec8 (iadd .i64 x338 1, x363)) else some (.inl (x341, x255)))
def vK (F : Nat) (x255 : List (Int × Int)) (x312 : Int) (x313 : Int) : Nat → (Int × List Int) → Option ((List Int × List (Int × Int)) ⊕ Empty)
  | 0 => fun _ => none
  | k + 1 => fun s => qaL F x255 x312 x313 (vK F x255 x312 x313 k) s.1 s.2
def jG (F : Nat) (x4 : Int) (x252 : List Int) (x255 : List (Int × Int)) (x312 : Int) (x313 : Int) : Option ((List Int × List (Int × Int)) ⊕ Empty) :=
  (if (decide (x4 ≤ x313)) then ((app 4398046511104 x255 ([(x312, x313)] : List (Int × Int))).bind fun x323 => some (.inl (x252, x323))) else vK F x255 x312 x313 F (0, x252))
def qbY (F : Nat) (x1 : List Int) (x4 : Int) : Option (List (Int × Int) × List Int) :=
  ((qco F x1).bind fun _x188 => ((jH F (fun ((x252, x255) : (List Int × List (Int × Int))) ((x312, x313) : (Int × Int)) => jG F x4 x252 x255 x312 x313) x1 (([] : List Int), ([] : List (Int × Int)))).bind (Sum.elim (fun ((x252, x255) : (List Int × List (Int × Int))) => some (x255, x252)) (fun t => t.elim))))
def kB (F : Nat) (rec5 : (Int × Int × Int × List Int × Bool) → Option (Int × List Int × Bool)) (x8 : Int) (x74 : Int) (x168 : (Int × Int)) (x180 : Int) (x183 : List Int) (x184 : Bool) : Option (Int × List Int × Bool) :=
  ((qM F x180 x183 x184 (isub .i64 x168.2 x8)).bind fun x185 => rec5 (isub .i64 (iadd .i64 x168.1 x168.2) 1, iadd .i64 x74 1, x185.1, x185.2.1, x185.2.2))
def yo (F : Nat) (x8 : Int) (x9 : List (Int × Int)) (rec5 : (Int × Int × Int × List Int × Bool) → Option (Int × List Int × Bool)) (x73 : Int) (x74 : Int) (x75 : Int) (x78 : List Int) (x79 : Bool) : Option (Int × List Int × Bool) :=
  (if (decide (x74 < (x9.length : Int))) then ((idx x9 x74).bind fun x168 => (if ((x74 : Int) == 0) then ((jJ F (isub .i64 x168.1 x73)).bind fun x188 => ((qM F x75 x78 x79 (iconv .i64 x188)).bind fun x189 => kB F rec5 x8 x74 x168 x189.1 x189.2.1 x189.2.2)) else ((qM F x75 x78 x79 (isub .i64 (isub .i64 x168.1 x73) 2)).bind fun x192 => kB F rec5 x8 x74 x168 x192.1 x192.2.1 x192.2.2))) else some (x75, x78, x79))
def za (F : Nat) (x8 : Int) (x9 : List (Int × Int)) : Nat → (Int × Int × Int × List Int × Bool) → Option (Int × List Int × Bool)
  | 0 => fun _ => none
  | k + 1 => fun s => yo F x8 x9 (za F x8 x9 k) s.1 s.2.1 s.2.2.1 s.2.2.2.1 s.2.2.2.2
def vt (F : Nat) (x2 : Int) (x3 : List Int) (x6 : Bool) (x7 : Int) (x8 : Int) (x9 : List (Int × Int)) : Option (Int × List Int × Bool) :=
  ((qM F x2 x3 x6 (x9.length : Int)).bind fun x12 => za F x8 x9 F (x7, 0, x12.1, x12.2.1, x12.2.2))
def qaH (F : Nat) (x1 : Int) (x2 : Int) : Option (Int × Int × Int) :=
  ((kL F (iadd .u64 x1 1)).bind fun x3 => (chk ((x2 : Int) != 0) ((chk (decide (0 ≤ (imul .i64 (iquo .i64 (isub .i64 x3 1) x2) x2))) ((chk (decide (0 ≤ (iadd .i64 (imul .i64 (iquo .i64 (isub .i64 x3 1) x2) x2) x2))) (some (iquo .i64 (isub .i64 x3 1) x2, ishl .u64 1 (imul .i64 (iquo .i64 (isub .i64 x3 1) x2) x2), ishl .u64 1 (iadd .i64 (imul .i64 (iquo .i64 (isub .i64 x3 1) x2) x2) x2)))))))))
def jm (F : Nat) (x1 : Int) : Option (Int × Int) :=
  ((kL F (isub .u64 x1 1)).bind fun x2 => (chk (decide (0 ≤ x2)) (some (x2, isub .u64 (ishl .u64 1 x2) x1))))
def vQ (F : Nat) (x1 : Int) (x2 : List Int) (x5 : Int) (x6 : Int) : Option (Int × List Int) :=
  ((jm F x6).bind fun x9 => (if (decide (x5 < x9.2)) then ((ji F x1 x2 x5 (isub .i64 x9.1 1)).bind fun x14 => some (x14.1, x14.2)) else ((ji F x1 x2 (iadd .u64 x5 x9.2) x9.1).bind fun x17 => some (x17.1, x17.2))))
def qaG (F : Nat) (x1 : Int) (x2 : Int) : Option (Int × List Int × Int) :=
  (if (((decide (x2 < 1)) || (decide (16 < x2))) || (decide (1099511627776 < x1))) then some (0, ([] : List Int), 3) else ((qaH F x1 x2).bind fun x9 => ((qaR F (iconv .u64 x9.1)).bind fun x10 => ((vQ F x10.1 x10.2 (isub .u64 (iadd .u64 x1 1) x9.2.1) (isub .u64 x9.2.2 x9.2.1)).bind fun x13 => some (x13.1, x13.2, 0)))))
def qcR (_F : Nat) (x107 : Int) (x110 : List Int) : Option (Int × List Int × Bool) :=
  some (x107, x110, true)
def qaE (F : Nat) (x5 : List Int) (x8 : Int) (rec3 : (Int × Int × List Int) → Option (Int × List Int × Bool)) (x141 : Int) (x142 : Int) (x145 : List Int) : Option (Int × List Int × Bool) :=
  (if (decide (x141 < (x5.length : Int))) then ((idx x5 x141).bind fun x192 => ((qaG F x192 x8).bind fun x195 => (if (((x195.2.2 : Int) != 0) || (decide (8192 < (iadd .i64 x142 x195.1)))) then some (0, ([] : List Int), false) else ((vd F x142 x145 x195.1 x195.2.1).bind fun x202 => rec3 (iadd .i64 x141 1, x202.1, x202.2))))) else qcR F x142 x145)
def vH (F : Nat) (x5 : List Int) (x8 : Int) : Nat → (Int × Int × List Int) → Option (Int × List Int × Bool)
  | 0 => fun _ => none
  | k + 1 => fun s => qaE F x5 x8 (vH F x5 x8 k) s.1 s.2.1 s.2.2
def jY (F : Nat) (x1 : Int) (x2 : List Int) (x5 : List Int) (x8 : Int) : Option (Int × List Int × Bool) :=
  vH F x5 x8 F (0, x1, x2)
def kA (F : Nat) (x52 : Int) (x55 : List Int) (x56 : Bool) (x76 : Bool) (x77 : Int) (x80 : List Int) : Option (Int × List Int × Bool) :=
  ((kO F x52 x55 (x56 || (!x76)) x77 x80).bind fun x82 => some (x82.1, x82.2.1, x82.2.2))
def kz (F : Nat) (x7 : Int) (x16 : Int) (x51 : List Int) (x52 : Int) (x55 : List Int) (x56 : Bool) : Option (Int × List Int × Bool) :=
  ((qas F x51 x7).bind fun x85 => ((jY F 0 ([] : List Int) x85 x16).bind fun x88 => kA F x52 x55 x56 x88.2.2 x88.1 x88.2.1))
def ky (F : Nat) (x7 : Int) (x15 : Int) (x16 : Int) (x33 : List Int) (x34 : Int) (x37 : List Int) (x38 : Bool) : Option (Int × List Int × Bool) :=
  (if (((x33.length : Int) : Int) == 0) then some (x34, x37, x38) else (if (decide (0 < x15)) then ((qbY F x33 x15).bind fun x103 => ((vt F x34 x37 x38 x7 x15 x103.1).bind fun x108 => kz F x7 x16 x103.2 x108.1 x108.2.1 x108.2.2)) else kz F x7 x16 x33 x34 x37 x38))
def yi (F : Nat) (x2 : Int) (x3 : List Int) (x6 : Bool) (x7 : Int) (x8 : List Int) (x11 : List Int) (x14 : Int) (x15 : Int) (x16 : Int) : Option (Int × List Int × Bool) :=
  ((qM F x2 x3 x6 (x8.length : Int)).bind fun x18 => (if (((x8.length : Int) : Int) == 0) then some (x18.1, x18.2.1, x18.2.2) else (if (decide (0 < x14)) then ((qbv F x11 x8).bind fun x113 => ((yH F x18.1 x18.2.1 x18.2.2 x113.1).bind fun x118 => ky F x7 x15 x16 x113.2 x118.1 x118.2.1 x118.2.2)) else ky F x7 x15 x16 x8 x18.1 x18.2.1 x18.2.2)))
def qa3 (F : Nat) (x1 : Int) (x2 : List Int) (x5 : Int) (_x6 : Int) (_x7 : Int) : Option Int :=
  (if ((decide (x1 < 0)) || (decide (1048576 < x1))) then some 3 else (if (decide (0 < x5)) then ((yE F x2).bind fun x14 => some x14) else some 0))
def vB (F : Nat) (x1 : Int) (x2 : List Int) (x5 : List Int) (x8 : Int) (x9 : Int) (x10 : Int) (x25 : Int) : Option (Int × List Int × Int) :=
  (if ((x25 : Int) != 0) then some (0, ([] : List Int), x25) else ((yi F 0 ([] : List Int) false x1 x2 x5 x8 x9 x10).bind fun x28 => (if x28.2.2 then some (0, ([] : List Int), 8) else some (x28.1, x28.2.1, 0))))
def yv (F : Nat) (x1 : Int) (x2 : List Int) (x5 : List Int) (x8 : Int) (x9 : Int) (x10 : Int) (x22 : Int) : Option (Int × List Int × Int) :=
  (if ((x22 : Int) == 0) then ((qa3 F x1 x5 x8 x9 x10).bind fun x34 => vB F x1 x2 x5 x8 x9 x10 x34) else vB F x1 x2 x5 x8 x9 x10 x22)
def yu (F : Nat) (x1 : Int) (x2 : List Int) (x5 : List Int) (x8 : Int) (x9 : Int) (x10 : Int) (x19 : Int) : Option (Int × List Int × Int) :=
  (if ((x19 : Int) == 0) then ((yE F x2).bind fun x36 => yv F x1 x2 x5 x8 x9 x10 x36) else yv F x1 x2 x5 x8 x9 x10 x19)
def vC (F : Nat) (x1 : Int) (x2 : List Int) (x5 : List Int) (x8 : Int) (x9 : Int) (x10 : Int) (x13 : Int) (x40 : Bool) : Option (Int × List Int × Int) :=
  (if x40 then yu F x1 x2 x5 x8 x9 x10 3 else yu F x1 x2 x5 x8 x9 x10 x13)
def qa2 (F : Nat) (x1 : Int) (x2 : List Int) (x5 : List Int) (x8 : Int) (x9 : Int) (x10 : Int) : Option (Int × List Int × Int) :=
  ((jz F x8 x9 x10).bind fun x13 => (if ((x13 : Int) == 0) then vC F x1 x2 x5 x8 x9 x10 x13 ((decide (x1 < 0)) || (decide (1048576 < x1))) else vC F x1 x2 x5 x8 x9 x10 x13 false))
def jq (F : Nat) (x1 : List (List Int)) (x4 : List Int) (x7 : Int) (x9 : Int) (x10 : Int) (x18 : Int) (x21 : List Int) (x29 : List Int) : Option (Int × Int × List Int × Bool) :=
  ((qa2 F (x1.length : Int) x4 x29 x7 x9 x10).bind fun x30 => (if (((x30.2.2 : Int) != 0) || (decide (8192 < (iadd .i64 x18 x30.1)))) then some (0, 0, ([] : List Int), false) else ((vd F x18 x21 x30.1 x30.2.1).bind fun x37 => some (x7, x37.1, x37.2, true))))
def jp (F : Nat) (x1 : List (List Int)) (x4 : List Int) (x7 : Int) (x9 : Int) (x10 : Int) (x18 : Int) (x21 : List Int) : Option (Int × Int × List Int × Bool) :=
  (if (decide (0 < x7)) then ((idx x1 (isub .i64 (x1.length : Int) x7)).bind fun x41 => jq F x1 x4 x7 x9 x10 x18 x21 x41) else jq F x1 x4 x7 x9 x10 x18 x21 ([] : List Int))
def qbu (F : Nat) (x1 : List (List Int)) (x4 : List Int) (x7 : Int) (x8 : Int) (x9 : Int) (x10 : Int) : Option (Int × Int × List Int × Bool) :=
  (if (decide (0 < x8)) then ((yT F (iconv .u64 x7)).bind fun x46 => jp F x1 x4 x7 x9 x10 x46.1 x46.2) else jp F x1 x4 x7 x9 x10 0 ([] : List Int))
def qbc (_F : Nat) (x96 : Bool) (x97 : Int) (x98 : Int) (x101 : List Int) : Option (Int × Int × List Int × Bool) :=
  some (x97, x98, x101, x96)
def kR (_F : Nat) (rec14 : (Bool × Int × Int × Int × List Int) → Option (Int × Int × List Int × Bool)) (x126 : Int) (x169 : Bool) (x170 : Int) (x171 : Int) (x174 : List Int) : Option (Int × Int × List Int × Bool) :=
  rec14 (x169, iadd .i64 x126 1, x170, x171, x174)
def jQ (F : Nat) (rec14 : (Bool × Int × Int × Int × List Int) → Option (Int × Int × List Int × Bool)) (x125 : Bool) (x126 : Int) (x127 : Int) (x128 : Int) (x131 : List Int) (x175 : (Int × Int × List Int × Bool)) (x181 : Bool) : Option (Int × Int × List Int × Bool) :=
  (if x181 then kR F rec14 x126 true x175.1 x175.2.1 x175.2.2.1 else kR F rec14 x126 x125 x127 x128 x131)
def jP (F : Nat) (x1 : List (List Int)) (x4 : List Int) (x7 : Int) (x8 : Int) (x9 : Int) (rec14 : (Bool × Int × Int × Int × List Int) → Option (Int × Int × List Int × Bool)) (x125 : Bool) (x126 : Int) (x127 : Int) (x128 : Int) (x131 : List Int) : Option (Int × Int × List Int × Bool) :=
  (if (decide (x126 < (iadd .i64 (imin x7 (x1.length : Int)) 1))) then ((qbu F x1 x4 x126 x7 x8 x9).bind fun x175 => (if x175.2.2.2 then jQ F rec14 x125 x126 x127 x128 x131 x175 ((!x125) || (decide (x175.2.1 < x128))) else jQ F rec14 x125 x126 x127 x128 x131 x175 false)) else qbc F x125 x127 x128 x131)
def zE (F : Nat) (x1 : List (List Int)) (x4 : List Int) (x7 : Int) (x8 : Int) (x9 : Int) : Nat → (Bool × Int × Int × Int × List Int) → Option (Int × Int × List Int × Bool)
  | 0 => fun _ => none
  | k + 1 => fun s => jP F x1 x4 x7 x8 x9 (zE F x1 x4 x7 x8 x9 k) s.1 s.2.1 s.2.2.1 s.2.2.2.1 s.2.2.2.2
def qbt (F : Nat) (x1 : List (List Int)) (x4 : List Int) (x7 : Int) (x8 : Int) (x9 : Int) : Option (Int × Int × List Int × Bool) :=
  zE F x1 x4 x7 x8 x9 F (false, 0, 0, 0, ([] : List Int))
def vl (_F : Nat) (x2 : Int) (x3 : Int) (x4 : Int) (x5 : Int) (x710 : Int) (x713 : List Int) (x716 : List Int) (x719 : List Int) : Option (Bool × Int × Int × Int × Int × Int × List Int × List Int × List Int) :=
  some (true, x2, x3, x4, x5, x710, x713, x716, x719)
def zZ (F : Nat) (rec43 : (Int × Int × List Int × List Int × List Int) → Option (Bool × Int × Int × Int × Int × Int × List Int × List Int × List Int)) (x946 : Int) (x947 : Int) (x950 : List Int) (x1318 : Int) (x1321 : List Int) (x1358 : List Int) (x1361 : List Int) : Option (Bool × Int × Int × Int × Int × Int × List Int × List Int × List Int) :=
  ((vd F x947 x950 x1318 x1321).bind fun x1362 => rec43 (iadd .i64 x946 1, x1362.1, x1362.2, x1358, x1361))
def zY (F : Nat) (rec43 : (Int × Int × List Int × List Int × List Int) → Option (Bool × Int × Int × Int × Int × Int × List Int × List Int × List Int)) (x2 : Int) (x3 : Int) (x4 : Int) (x5 : Int) (x946 : Int) (x947 : Int) (x950 : List Int) (x953 : List Int) (x956 : List Int) (x1317 : Int) (x1318 : Int) (x1321 : List Int) (x1327 : Bool) : Option (Bool × Int × Int × Int × Int × Int × List Int × List Int × List Int) :=
  (if x1327 then some (false, x2, x3, x4, x5, x947, x950, x953, x956) else ((app 8796093022208 x953 ([x1317] : List Int)).bind fun x1367 => ((app 8796093022208 x956 ([x947] : List Int)).bind fun x1372 => zZ F rec43 x946 x947 x950 x1318 x1321 x1367 x1372)))
def kV (F : Nat) (rec43 : (Int × Int × List Int × List Int × List Int) → Option (Bool × Int × Int × Int × Int × Int × List Int × List Int × List Int)) (x2 : Int) (x3 : Int) (x4 : Int) (x5 : Int) (x946 : Int) (x947 : Int) (x950 : List Int) (x953 : List Int) (x956 : List Int) (x1316 : Bool) (x1317 : Int) (x1318 : Int) (x1321 : List Int) : Option (Bool × Int × Int × Int × Int × Int × List Int × List Int × List Int) :=
  (if (!x1316) then zY F rec43 x2 x3 x4 x5 x946 x947 x950 x953 x956 x1317 x1318 x1321 true else zY F rec43 x2 x3 x4 x5 x946 x947 x950 x953 x956 x1317 x1318 x1321 (decide (8192 < (iadd .i64 x947 x1318))))
def kU (F : Nat) (x2 : Int) (x3 : Int) (x4 : Int) (x5 : Int) (x16 : List (List Int)) (rec43 : (Int × Int × List Int × List Int × List Int) → Option (Bool × Int × Int × Int × Int × Int × List Int × List Int × List Int)) (x946 : Int) (x947 : Int) (x950 : List Int) (x953 : List Int) (x956 : List Int) : Option (Bool × Int × Int × Int × Int × Int × List Int × List Int × List Int) :=
  (if (decide (x946 < (x16.length : Int))) then ((idx x16 x946).bind fun x1297 => ((sub x16 0 x946).bind fun x1395 => ((qbt F x1395 x1297 x3 x4 x5).bind fun x1401 => kV F rec43 x2 x3 x4 x5 x946 x947 x950 x953 x956 x1401.2.2.2 x1401.1 x1401.2.1 x1401.2.2.1))) else vl F x2 x3 x4 x5 x947 x950 x953 x956)
def qs (F : Nat) (x2 : Int) (x3 : Int) (x4 : Int) (x5 : Int) (x16 : List (List Int)) : Nat → (Int × Int × List Int × List Int × List Int) → Option (Bool × Int × Int × Int × Int × Int × List Int × List Int × List Int)
  | 0 => fun _ => none
  | k + 1 => fun s => kU F x2 x3 x4 x5 x16 (qs F x2 x3 x4 x5 x16 k) s.1 s.2.1 s.2.2.1 s.2.2.2.1 s.2.2.2.2
def j1 (F : Nat) (x2 : Int) (x3 : Int) (x4 : Int) (x5 : Int) (x6 : Int) (x7 : List Int) (x10 : List Int) (x13 : List Int) (x16 : List (List Int)) : Option (Bool × Int × Int × Int × Int × Int × List Int × List Int × List Int) :=
  qs F x2 x3 x4 x5 x16 F (0, x6, x7, x10, x13)
def k8 (_F : Nat) (x48 : Int) (x49 : Int) (x50 : Int) (x51 : Int) (x52 : Int) (x53 : Int) (x56 : List Int) (x59 : List Int) (x62 : List Int) : Option (Int × Int × Int × Int × Int × List Int × List Int × List Int × Int) :=
  some (x49, x50, x51, x52, x53, x56, x59, x62, x48)
def k9 (F : Nat) (x12 : Int) (x74 : Bool) (x75 : Int) (x76 : Int) (x77 : Int) (x78 : Int) (x79 : Int) (x82 : List Int) (x85 : List Int) (x88 : List Int) : Option (Int × Int × Int × Int × Int × List Int × List Int × List Int × Int) :=
  (if x74 then k8 F 8 x75 x76 x77 x78 x79 x82 x85 x88 else k8 F x12 x75 x76 x77 x78 x79 x82 x85 x88)
def yX (F : Nat) (x1 : List (List Int)) (x4 : Int) (x5 : Int) (x6 : Int) (x12 : Int) : Option (Int × Int × Int × Int × Int × List Int × List Int × List Int × Int) :=
  (if ((x12 : Int) == 0) then ((j1 F (x1.length : Int) x4 x5 x6 0 ([] : List Int) ([] : List Int) ([] : List Int) x1).bind fun x90 => k9 F x12 (!x90.1) x90.2.1 x90.2.2.1 x90.2.2.2.1 x90.2.2.2.2.1 x90.2.2.2.2.2.1 x90.2.2.2.2.2.2.1 x90.2.2.2.2.2.2.2.1 x90.2.2.2.2.2.2.2.2) else k9 F x12 false (x1.length : Int) x4 x5 x6 0 ([] : List Int) ([] : List Int) ([] : List Int))
def qaJ (F : Nat) (x1 : List (List Int)) (x4 : Int) (x5 : Int) (x6 : Int) : Option (Int × Int × Int × Int × Int × List Int × List Int × List Int × Int) :=
  ((vJ F x1).bind fun x9 => (if ((x9 : Int) == 0) then ((jz F x4 x5 x6).bind fun x97 => yX F x1 x4 x5 x6 x97) else yX F x1 x4 x5 x6 x9))
def qag (F : Nat) (x1 : List (List Int)) (x4 : Int) (x5 : Int) (x6 : Int) : Option (Int × Int × Int × Int × Int × List Int × Int) :=
  ((qaJ F x1 x4 x5 x6).bind fun x10 => (if ((x10.2.2.2.2.2.2.2.2 : Int) != 0) then some (0, 0, 0, 0, 0, ([] : List Int), x10.2.2.2.2.2.2.2.2) else some (x10.1, x10.2.1, x10.2.2.1, x10.2.2.2.1, x10.2.2.2.2.1, x10.2.2.2.2.2.1, 0)))
def qaZ (F : Nat) (x1 : Int) (x2 : Int) (x3 : Int) (x4 : Int) (x5 : Int) (x6 : List Int) : Option Int :=
  (if ((decide (x1 < 0)) || (decide (100 < x1))) then some 3 else ((jz F x2 x3 x4).bind fun x15 => (if ((x15 : Int) != 0) then some x15 else ((j5 F x5 x6).bind fun x16 => some x16))))
def qcg (_F : Nat) : Option (Int × Int × Bool) :=
  some (0, 0, false)
def jV (F : Nat) (x1 : Int) (x2 : List Int) (x5 : Int) (rec3 : Int → Option (Int × Int × Bool)) (x33 : Int) : Option (Int × Int × Bool) :=
  (if (decide (x33 < x1)) then ((jy F x1 x2 x33).bind fun x44 => (if ((x44 : Int) == 1) then some (iconv .u64 (isub .i64 x33 x5), iadd .i64 x33 1, true) else rec3 (iadd .i64 x33 1))) else qcg F)
def yw (F : Nat) (x1 : Int) (x2 : List Int) (x5 : Int) : Nat → Int → Option (Int × Int × Bool)
  | 0 => fun _ => none
  | k + 1 => fun s => jV F x1 x2 x5 (yw F x1 x2 x5 k) s
def qaj (F : Nat) (x1 : Int) (x2 : List Int) (x5 : Int) : Option (Int × Int × Bool) :=
  yw F x1 x2 x5 F x5
def jC (F : Nat) (x1 : Int) (x2 : List Int) (x5 : Int) : Option (Int × Int × Int) :=
  ((qaj F x1 x2 x5).bind fun x7 => (if (!x7.2.2) then some (0, 0, 7) else some (x7.1, x7.2.1, 0)))
def qa7 (_F : Nat) (x24 : Int) : Option (Int × Bool) :=
  some (x24, true)
def j6 (F : Nat) (x1 : Int) (x2 : List Int) (x5 : Int) (x6 : Int) (rec3 : (Int × Int) → Option (Int × Bool)) (x29 : Int) (x30 : Int) : Option (Int × Bool) :=
  (if (decide (x30 < x6)) then ((jy F x1 x2 (iadd .i64 x5 x30)).bind fun x38 => rec3 (ior .u64 (ishl .u64 x29 1) x38, iadd .i64 x30 1)) else qa7 F x29)
def yS (F : Nat) (x1 : Int) (x2 : List Int) (x5 : Int) (x6 : Int) : Nat → (Int × Int) → Option (Int × Bool)
  | 0 => fun _ => none
  | k + 1 => fun s => j6 F x1 x2 x5 x6 (yS F x1 x2 x5 x6 k) s.1 s.2
def ve (F : Nat) (x1 : Int) (x2 : List Int) (x5 : Int) (x6 : Int) : Option (Int × Bool) :=
  (if (decide ((isub .i64 x1 x5) < x6)) then some (0, false) else yS F x1 x2 x5 x6 F (0, 0))
def zu (F : Nat) (x1 : Int) (x2 : List Int) (x5 : Int) : Option (Int × Int × Int) :=
  ((jC F x1 x2 x5).bind fun x7 => (if ((x7.2.2 : Int) != 0) then some (0, 0, x7.2.2) else (if (decide (64 ≤ x7.1)) then some (0, 0, 3) else ((ve F x1 x2 x7.2.1 (iconv .i64 x7.1)).bind fun x10 => (if (!x10.2) then some (0, 0, 7) else (chk (decide (0 ≤ x7.1)) ((lett (iadd .u64 x10.1 (isub .u64 (ishl .u64 1 x7.1) 1)) fun x16 => (if (decide (1099511627776 < x16)) then some (0, 0, 3) else some (x16, iadd .i64 x7.2.1 (iconv .i64 x7.1), 0))))))))))
def yD (F : Nat) (x1 : Int) (x2 : List Int) (x5 : Int) : Option (Int × Int × Int) :=
  ((zu F x1 x2 x5).bind fun x7 => some (x7.1, x7.2.1, x7.2.2))
def qaI (_F : Nat) (x13 : (Int × Int × Int)) (x18 : Bool) : Option (Int × Int × Bool) :=
  (if x18 then some (0, 0, false) else some (iconv .i64 x13.1, x13.2.1, true))
def qbW (F : Nat) (_x1 : Int) (x2 : Int) (_x3 : Int) (_x4 : Int) (x5 : Int) (x6 : List Int) (x9 : Int) (x10 : Int) : Option (Int × Int × Bool) :=
  (if ((x2 : Int) == 0) then some (0, x9, true) else ((yD F x5 x6 x9).bind fun x13 => (if ((x13.2.2 : Int) != 0) then qaI F x13 true else qaI F x13 (decide ((iconv .u64 (imin x2 x10)) < x13.1)))))
def kq (_F : Nat) (x1 : Bool) : Option (Unit ⊕ Unit) :=
  (if (!x1) then some (.inr ()) else some (.inl ()))
def zb (F : Nat) (x2 : Int) (x3 : List Int) (x6 : Int) (x7 : Int) : Option ((Int × Int × Int) ⊕ (Int × Int)) :=
  ((yD F x2 x3 x6).bind fun x9 => (lbnd (kq F (((x9.2.2 : Int) == 0) && (decide (x9.1 ≤ (iconv .u64 x7))))) (fun _x11 => some (.inl (iconv .i64 x9.1, x2, x9.2.1))) (fun _x12 => some (.inr (x2, x6)))))
def qah (_F : Nat) (x4 : Int) (x99 : Int) : Option Int :=
  (if (decide (x4 < x99)) then some 8 else some 0)
def vV (_F : Nat) (rec23 : (Int × Int) → Option Int) (x4 : Int) (x132 : Int) (x133 : Int) (x180 : Int) (x190 : Bool) : Option Int :=
  (if x190 then some 3 else (lett (imin (iadd .i64 x132 (imin x180 (iadd .i64 x4 1))) (iadd .i64 x4 1)) fun x191 => rec23 (x191, iadd .i64 x133 1)))
def vU (F : Nat) (x1 : List Int) (x4 : Int) (rec23 : (Int × Int) → Option Int) (x132 : Int) (x133 : Int) : Option Int :=
  (if (decide (x133 < (x1.length : Int))) then ((idx x1 x133).bind fun x180 => (if (decide (x180 < 0)) then vV F rec23 x4 x132 x133 x180 true else vV F rec23 x4 x132 x133 x180 ((decide (x180 < 1)) && (decide (0 < x133))))) else qah F x4 x132)
def ka (F : Nat) (x1 : List Int) (x4 : Int) : Nat → (Int × Int) → Option Int
  | 0 => fun _ => none
  | k + 1 => fun s => vU F x1 x4 (ka F x1 x4 k) s.1 s.2
def qaK (F : Nat) (x1 : List Int) (x4 : Int) : Option Int :=
  (if (decide ((iadd .i64 x4 1) < (x1.length : Int))) then some 2 else ka F x1 x4 F (0, 0))
def vW (_F : Nat) (x169 : List Int) : Option (List Int) :=
  some x169
def qai (F : Nat) (x158 : List Int) (x161 : List Int) (x162 : Bool) : Option (List Int) :=
  (if x162 then ((app 8796093022208 x161 x158).bind fun x170 => vW F x170) else vW F x161)
def vo (_F : Nat) (rec10 : (List Int × List Int × Bool × Int) → Option (List Int)) (x217 : List Int) (x221 : Bool) (x222 : Int) (x296 : Int) (x308 : List Int) : Option (List Int) :=
  ((sub x217 x296 (x217.length : Int)).bind fun x309 => rec10 (x309, x308, (!x221), iadd .i64 x222 1))
def vm (F : Nat) (x4 : List Int) (rec10 : (List Int × List Int × Bool × Int) → Option (List Int)) (x217 : List Int) (x220 : List Int) (x221 : Bool) (x222 : Int) : Option (List Int) :=
  (if (decide (x222 < (x4.length : Int))) then ((idx x4 x222).bind fun x296 => (if x221 then ((sub x217 0 x296).bind fun x312 => ((app 8796093022208 x220 x312).bind fun x315 => vo F rec10 x217 x221 x222 x296 x315)) else vo F rec10 x217 x221 x222 x296 x220)) else qai F x217 x220 x221)
def zQ (F : Nat) (x4 : List Int) : Nat → (List Int × List Int × Bool × Int) → Option (List Int)
  | 0 => fun _ => none
  | k + 1 => fun s => vm F x4 (zQ F x4 k) s.1 s.2.1 s.2.2.1 s.2.2.2
def qbf (F : Nat) (x1 : List Int) (x4 : List Int) : Option (List Int) :=
  zQ F x4 F (x1, ([] : List Int), true, 0)
def vz (F : Nat) (x1 : List Int) (x4 : List Int) (x10 : Int) : Option (List Int × Int) :=
  (if ((x10 : Int) != 0) then some (([] : List Int), x10) else ((qbf F x1 x4).bind fun x12 => some (x12, 0)))
def qa0 (F : Nat) (x1 : List Int) (x4 : List Int) : Option (List Int × Int) :=
  ((yE F x1).bind fun x7 => (if ((x7 : Int) == 0) then ((qaK F x4 (x1.length : Int)).bind fun x16 => vz F x1 x4 x16) else vz F x1 x4 x7))
def yY (_F : Nat) (x72 : List Int) (x73 : Int) (x74 : Int) : Option ((List Int × Int × Int) ⊕ (Int × Int)) :=
  some (.inl (x72, x73, x74))
def kN (F : Nat) (x3 : List Int) (x7 : Int) (x10 : List Int) (rec3 : (List Int × Int × Int × Int) → Option ((List Int × Int × Int) ⊕ (Int × Int))) (x93 : List Int) (x94 : Int) (x95 : Int) (x96 : Int) : Option ((List Int × Int × Int) ⊕ (Int × Int)) :=
  (if (decide (x94 < (x10.length : Int))) then (lbnd (zb F x95 x3 x96 x7) (fun x125 => ((idx x93 x94).bind fun _x127 => (lett (x93.set x94.toNat (iadd .i64 x125.1 (imin x94 1))) fun x130 => rec3 (x130, iadd .i64 x94 1, x125.2.1, x125.2.2)))) (fun x126 => some (.inr (x126.1, x126.2)))) else yY F x93 x95 x96)
def zx (F : Nat) (x3 : List Int) (x7 : Int) (x10 : List Int) : Nat → (List Int × Int × Int × Int) → Option ((List Int × Int × Int) ⊕ (Int × Int))
  | 0 => fun _ => none
  | k + 1 => fun s => kN F x3 x7 x10 (zx F x3 x7 x10 k) s.1 s.2.1 s.2.2.1 s.2.2.2
def yG (F : Nat) (x2 : Int) (x3 : List Int) (x6 : Int) (x7 : Int) : Option ((List Int × Int × Int) ⊕ (Int × Int)) :=
  (lbnd (zb F x2 x3 x6 (iadd .i64 x7 1)) (fun x8 => ((mk 17592186044416 (0 : Int) x8.1).bind fun x10 => zx F x3 x7 x10 F (x10, 0, x8.2.1, x8.2.2))) (fun x9 => some (.inr (x9.1, x9.2))))
def vM (_F : Nat) (x136 : List (Int × Int)) (x137 : Int) (x138 : Int) : Option ((List (Int × Int) × Int × Int) ⊕ (Int × Int)) :=
  some (.inl (x136, x137, x138))
def kj (F : Nat) (rec13 : (List (Int × Int) × Int × Int × Int × Int) → Option ((List (Int × Int) × Int × Int) ⊕ (Int × Int))) (x3 : List Int) (x8 : Int) (x9 : Int) (x177 : List (Int × Int)) (x179 : Int) (x240 : (Int × Int × Int)) (x244 : Int) : Option ((List (Int × Int) × Int × Int) ⊕ (Int × Int)) :=
  (lbnd (zb F x240.2.1 x3 x240.2.2 x9) (fun x245 => ((idx x177 x179).bind fun _x247 => (lett (x177.set x179.toNat (x244, iadd .i64 x245.1 x8)) fun x250 => ((idx x250 x179).bind fun x253 => rec13 (x250, iadd .i64 x244 (isub .i64 x253.2 1), iadd .i64 x179 1, x245.2.1, x245.2.2))))) (fun x246 => some (.inr (x246.1, x246.2))))
def kX (F : Nat) (x3 : List Int) (x8 : Int) (x9 : Int) (x13 : List (Int × Int)) (rec13 : (List (Int × Int) × Int × Int × Int × Int) → Option ((List (Int × Int) × Int × Int) ⊕ (Int × Int))) (x177 : List (Int × Int)) (x178 : Int) (x179 : Int) (x180 : Int) (x181 : Int) : Option ((List (Int × Int) × Int × Int) ⊕ (Int × Int)) :=
  (if (decide (x179 < (x13.length : Int))) then (lbnd (zb F x180 x3 x181 2097152) (fun x240 => (if ((x179 : Int) == 0) then ((vD F (iconv .u64 x240.1)).bind fun x256 => kj F rec13 x3 x8 x9 x177 x179 x240 (iadd .i64 x178 x256)) else kj F rec13 x3 x8 x9 x177 x179 x240 (iadd .i64 x178 (iadd .i64 x240.1 2)))) (fun x241 => some (.inr (x241.1, x241.2)))) else vM F x177 x180 x181)
def qV (F : Nat) (x3 : List Int) (x8 : Int) (x9 : Int) (x13 : List (Int × Int)) : Nat → (List (Int × Int) × Int × Int × Int × Int) → Option ((List (Int × Int) × Int × Int) ⊕ (Int × Int))
  | 0 => fun _ => none
  | k + 1 => fun s => kX F x3 x8 x9 x13 (qV F x3 x8 x9 x13 k) s.1 s.2.1 s.2.2.1 s.2.2.2.1 s.2.2.2.2
def vr (F : Nat) (x2 : Int) (x3 : List Int) (x6 : Int) (x7 : Int) (x8 : Int) (x9 : Int) : Option ((List (Int × Int) × Int × Int) ⊕ (Int × Int)) :=
  (chk ((x8 : Int) != 0) ((lbnd (zb F x2 x3 x6 (iquo .i64 x9 x8)) (fun x11 => ((mk 8796093022208 (((0 : Int), (0 : Int)) : (Int × Int)) x11.1).bind fun x13 => qV F x3 x8 x9 x13 F (x13, x7, 0, x11.2.1, x11.2.2))) (fun x12 => some (.inr (x12.1, x12.2))))))
def yN (_F : Nat) (x15 : List Int) : Option (List Int) :=
  some x15
def yl (F : Nat) (x1 : List Int) (c3 : Nat) (x4 : Int) : Option (List Int) :=
  (if (decide (x4 < 0)) then none else (lett (isub .i64 x4 (isub .i64 (c3 : Int) (x1.length : Int))) fun x16 => (if (decide (0 < x16)) then ((sub x1 0 (c3 : Int)).bind fun x17 => ((appz 8796093022208 x17 (0 : Int) x16).bind fun x18 => ((sub x18 0 (x1.length : Int)).bind fun x21 => yN F x21))) else yN F x1)))
def yf (_F : Nat) (x102 : List Int) : Option (List Int) :=
  some x102
def qo (F : Nat) (x1 : List (List Int)) (rec5 : (List Int × Int) → Option (List Int)) (x121 : List Int) (x122 : Int) : Option (List Int) :=
  (if (decide (x122 < (x1.length : Int))) then ((idx x1 x122).bind fun x148 => ((app 8796093022208 x121 x148).bind fun x152 => rec5 (x152, iadd .i64 x122 1))) else yf F x121)
def qw (F : Nat) (x1 : List (List Int)) : Nat → (List Int × Int) → Option (List Int)
  | 0 => fun _ => none
  | k + 1 => fun s => qo F x1 (qw F x1 k) s.1 s.2
def zD (F : Nat) (x1 : List (List Int)) (x43 : Int) : Option (List Int) :=
  ((yl F ([] : List Int) 0 x43).bind fun x44 => qw F x1 F (x44, 0))
def qp (F : Nat) (x1 : List (List Int)) (rec6 : (Int × Int) → Option (List Int)) (x168 : Int) (x169 : Int) : Option (List Int) :=
  (if (decide (x169 < (x1.length : Int))) then ((idx x1 x169).bind fun x189 => (if (decide ((iadd .i64 x168 (x189.length : Int)) < 0)) then none else rec6 (iadd .i64 x168 (x189.length : Int), iadd .i64 x169 1))) else zD F x1 x168)
def qx (F : Nat) (x1 : List (List Int)) : Nat → (Int × Int) → Option (List Int)
  | 0 => fun _ => none
  | k + 1 => fun s => qp F x1 (qx F x1 k) s.1 s.2
def zd (F : Nat) (x1 : List (List Int)) : Option (List Int) :=
  qx F x1 F (0, 0)
def q8 (_F : Nat) (x1 : List Int) : Option (List Int) :=
  if x1.length < 4611686018427387904 then some (srt x1) else none
def jI (_F : Nat) (x1 : Int) (x2 : Int) (x3 : Int) : Option Bool :=
  some ((decide (x2 ≤ x1)) && (decide (x1 ≤ x3)))
def qbw (_F : Nat) (x462 : List Int) : Option (List Int × Int) :=
  some (x462, 0)
def jc (_F : Nat) (rec32 : (List Int × Int) → Option (List Int × Int)) (x561 : Int) (x706 : List Int) : Option (List Int × Int) :=
  rec32 (x706, iadd .i64 x561 1)
def v8 (F : Nat) (rec32 : (List Int × Int) → Option (List Int × Int)) (x561 : Int) (x707 : (Int × Int)) (rec35 : (List Int × Int) → Option (List Int × Int)) (x725 : List Int) (x726 : Int) : Option (List Int × Int) :=
  (if (decide (x726 < x707.2)) then ((app 8796093022208 x725 ([iadd .i64 x707.1 x726] : List Int)).bind fun x748 => rec35 (x748, iadd .i64 x726 1)) else jc F rec32 x561 x725)
def kM (F : Nat) (rec32 : (List Int × Int) → Option (List Int × Int)) (x561 : Int) (x707 : (Int × Int)) : Nat → (List Int × Int) → Option (List Int × Int)
  | 0 => fun _ => none
  | k + 1 => fun s => v8 F rec32 x561 x707 (kM F rec32 x561 x707 k) s.1 s.2
def v7 (F : Nat) (x1 : List (Int × Int)) (rec32 : (List Int × Int) → Option (List Int × Int)) (x560 : List Int) (x561 : Int) : Option (List Int × Int) :=
  (if (decide (x561 < (x1.length : Int))) then ((idx x1 x561).bind fun x707 => kM F rec32 x561 x707 F (x560, 0)) else qbw F x560)
def qU (F : Nat) (x1 : List (Int × Int)) : Nat → (List Int × Int) → Option (List Int × Int)
  | 0 => fun _ => none
  | k + 1 => fun s => v7 F x1 (qU F x1 k) s.1 s.2
def jb (F : Nat) (x1 : List (Int × Int)) : Option (List Int × Int) :=
  qU F x1 F (([] : List Int), 0)
def yF (_F : Nat) (rec44 : (Int × Int) → Option (List Int × Int)) (x807 : Int) (x808 : Int) (x891 : (Int × Int)) (x910 : Bool) : Option (List Int × Int) :=
  (if x910 then some (([] : List Int), 3) else (if (decide (x891.1 < (iadd .i64 x807 2))) then some (([] : List Int), 4) else rec44 (isub .i64 (iadd .i64 x891.1 x891.2) 1, iadd .i64 x808 1)))
def ja (F : Nat) (x1 : List (Int × Int)) (rec44 : (Int × Int) → Option (List Int × Int)) (x807 : Int) (x808 : Int) : Option (List Int × Int) :=
  (if (decide (x808 < (x1.length : Int))) then ((idx x1 x808).bind fun x891 => ((jI F x891.1 0 1048576).bind fun x913 => (if (!x913) then yF F rec44 x807 x808 x891 (!x913) else ((jI F x891.2 1 300).bind fun x914 => (if (!x914) then yF F rec44 x807 x808 x891 (!x914) else yF F rec44 x807 x808 x891 (decide (1048576 < (isub .i64 (iadd .i64 x891.1 x891.2) 1)))))))) else jb F x1)
def kd (F : Nat) (x1 : List (Int × Int)) : Nat → (Int × Int) → Option (List Int × Int)
  | 0 => fun _ => none
  | k + 1 => fun s => ja F x1 (kd F x1 k) s.1 s.2
def qaM (F : Nat) (x1 : List (Int × Int)) : Option (List Int × Int) :=
  (if (decide (300 < (x1.length : Int))) then some (([] : List Int), 2) else kd F x1 F (-2, 0))
def zL (_F : Nat) (x1 : List Int) : Option (List Int) :=
  if (Go.Lib.compact x1).length ≤ x1.length then some (Go.Lib.compact x1) else none
def kW (_F : Nat) (x1 : List Int) : Option (List Int) :=
  ((app 8796093022208 ([] : List Int) x1).bind fun x8 => some x8)
def vA (F : Nat) (x4 : List Int) (x7 : (List Int × Int)) (x12 : Int) : Option (List Int × Int) :=
  (if ((x12 : Int) != 0) then some (([] : List Int), x12) else ((zd F ([x7.1, x4] : List (List Int))).bind fun x16 => ((q8 F x16).bind fun x19 => (chk (decide (x19.length = x16.length)) (((kW F x19).bind fun x29 => ((zL F x29).bind fun x32 => (if (decide ((x32.length : Int) < (x19.length : Int))) then some (([] : List Int), 6) else (if (decide (300 < (x19.length : Int))) then some (([] : List Int), 2) else some (x19, 0))))))))))
def qa1 (F : Nat) (x1 : List (Int × Int)) (x4 : List Int) : Option (List Int × Int) :=
  ((qaM F x1).bind fun x7 => (if ((x7.2 : Int) == 0) then ((yE F x4).bind fun x38 => vA F x4 x7 x38) else vA F x4 x7 x7.2))
def q6 (F : Nat) (x1 : Int) (x2 : List Int) (x5 : Int) (x8 : (Int × Int)) : Option (Int × Int × Bool) :=
  ((ve F x1 x2 x5 x8.1).bind fun x14 => some (isub .u64 x14.1 x8.2, iadd .i64 x5 x8.1, x14.2))
def qX (F : Nat) (x1 : Int) (x2 : List Int) (x5 : Int) (x6 : Int) : Option (Int × Int × Bool) :=
  ((jm F x6).bind fun x8 => (if (decide (0 < x8.2)) then ((ve F x1 x2 x5 (isub .i64 x8.1 1)).bind fun x15 => (if (!x15.2) then some (0, 0, false) else (if (decide (x15.1 < x8.2)) then some (x15.1, isub .i64 (iadd .i64 x5 x8.1) 1, true) else q6 F x1 x2 x5 x8))) else q6 F x1 x2 x5 x8))
def qaa (_F : Nat) (x1 : Int) (x2 : Int) (x3 : Bool) : Option (Int × Int × Int) :=
  (if (!x3) then some (0, 0, 7) else (if (decide (1099511627776 < x1)) then some (0, 0, 3) else some (x1, x2, 0)))
def vP (F : Nat) (x1 : Int) (x2 : List Int) (x5 : Int) (x6 : Int) : Option (Int × Int × Int) :=
  ((qaj F x1 x2 x5).bind fun x8 => (if (!x8.2.2) then some (0, 0, 7) else (if (decide (41 ≤ (imul .u64 x8.1 (iconv .u64 x6)))) then some (0, 0, 3) else (chk (decide (0 ≤ (imul .i64 (iconv .i64 x8.1) x6))) ((lett (ishl .u64 1 (imul .i64 (iconv .i64 x8.1) x6)) fun x12 => (chk (decide (0 ≤ x6)) (((qX F x1 x2 x8.2.1 (isub .u64 (ishl .u64 x12 x6) x12)).bind fun x20 => ((qaa F (isub .u64 (iadd .u64 x12 x20.1) 1) x20.2.1 x20.2.2).bind fun x21 => some (x21.1, x21.2.1, x21.2.2)))))))))))
def qba (_F : Nat) (x105 : Int) (x108 : List Int) : Option (List Int × Int × Int) :=
  some (x108, x105, 0)
def j9 (F : Nat) (x1 : Int) (x2 : List Int) (x7 : Int) (x8 : Int) (rec3 : (Int × List Int × Int × Int × Bool) → Option (List Int × Int × Int)) (x138 : Int) (x141 : List Int) (x142 : Int) (x143 : Int) (x144 : Bool) : Option (List Int × Int × Int) :=
  (if (decide (x142 < x8)) then ((vP F x1 x2 x138 x7).bind fun x190 => (if ((x190.2.2 : Int) != 0) then some (([] : List Int), 0, x190.2.2) else ((zC F x143 x144 x190.1).bind fun x193 => (if (!x193.1) then some (([] : List Int), 0, 3) else ((app 8796093022208 x141 ([x193.2.1] : List Int)).bind fun x196 => rec3 (x190.2.1, x196, iadd .i64 x142 1, x193.2.1, x193.2.2)))))) else qba F x138 x141)
def yV (F : Nat) (x1 : Int) (x2 : List Int) (x7 : Int) (x8 : Int) : Nat → (Int × List Int × Int × Int × Bool) → Option (List Int × Int × Int)
  | 0 => fun _ => none
  | k + 1 => fun s => j9 F x1 x2 x7 x8 (yV F x1 x2 x7 x8 k) s.1 s.2.1 s.2.2.1 s.2.2.2.1 s.2.2.2.2
def qbq (F : Nat) (x1 : Int) (x2 : List Int) (x5 : Int) (x6 : Int) (x7 : Int) (x8 : Int) : Option (List Int × Int × Int) :=
  yV F x1 x2 x7 x8 F (x5, ([] : List Int), 0, x6, false)
def kx (F : Nat) (x3 : List Int) (x7 : Int) (x13 : Int) (x15 : (Int × Int × Int)) (x31 : List Int) (x42 : List (Int × Int)) (x43 : Int) (x44 : Int) : Option ((List Int × Int × Int) ⊕ (Int × Int)) :=
  ((qa1 F x42 ([] : List Int)).bind fun x45 => (lbnd (kq F (((x45.2 : Int) == 0) && (decide ((x45.1.length : Int) ≤ (isub .i64 x15.1 (x31.length : Int)))))) (fun _x49 => ((qbq F x43 x3 x44 x7 x13 (isub .i64 (isub .i64 x15.1 (x31.length : Int)) (x45.1.length : Int))).bind fun x54 => (lbnd (kq F ((x54.2.2 : Int) == 0)) (fun _x57 => ((zd F ([x31, x45.1, x54.1] : List (List Int))).bind fun x61 => ((q8 F x61).bind fun x64 => (chk (decide (x64.length = x61.length)) (some (.inl (x64, x43, x54.2.1))))))) (fun _x58 => some (.inr (x43, x44)))))) (fun _x50 => some (.inr (x43, x44)))))
def kw (F : Nat) (x3 : List Int) (x7 : Int) (x12 : Int) (x13 : Int) (x15 : (Int × Int × Int)) (x31 : List Int) (x32 : Int) (x33 : Int) : Option ((List Int × Int × Int) ⊕ (Int × Int)) :=
  (if (((isub .i64 x15.1 (x31.length : Int)) : Int) == 0) then some (.inl (x31, x32, x33)) else (if (decide (0 < x12)) then (lbnd (vr F x32 x3 x33 x7 x12 (isub .i64 x15.1 (x31.length : Int))) (fun x66 => kx F x3 x7 x13 x15 x31 x66.1 x66.2.1 x66.2.2) (fun x67 => some (.inr (x67.1, x67.2)))) else kx F x3 x7 x13 x15 x31 ([] : List (Int × Int)) x32 x33))
def yg (F : Nat) (x2 : Int) (x3 : List Int) (x6 : Int) (x7 : Int) (x8 : List Int) (x11 : Int) (x12 : Int) (x13 : Int) : Option ((List Int × Int × Int) ⊕ (Int × Int)) :=
  (lbnd (zb F x2 x3 x6 300) (fun x15 => (if ((x15.1 : Int) == 0) then some (.inl (([] : List Int), x15.2.1, x15.2.2)) else (if (decide (0 < x11)) then (lbnd (yG F x15.2.1 x3 x15.2.2 (x8.length : Int)) (fun x72 => ((qa0 F x8 x72.1).bind fun x76 => (lbnd (kq F (((x76.2 : Int) == 0) && (decide ((x76.1.length : Int) ≤ x15.1)))) (fun _x80 => kw F x3 x7 x12 x13 x15 x76.1 x72.2.1 x72.2.2) (fun _x81 => some (.inr (x72.2.1, x72.2.2)))))) (fun x73 => some (.inr (x73.1, x73.2)))) else kw F x3 x7 x12 x13 x15 ([] : List Int) x15.2.1 x15.2.2))) (fun x16 => some (.inr (x16.1, x16.2))))
def qar (_F : Nat) (x17 : (List Int × Int × Int)) : Option (List Int × Bool × Int × Int) :=
  some (x17.1, true, x17.2.1, x17.2.2)
def ym (F : Nat) (x3 : List Int) (x6 : Int) (x17 : (List Int × Int × Int)) (x25 : (Int × List Int × Bool)) (rec4 : Int → Option (List Int × Bool × Int × Int)) (x75 : Int) : Option (List Int × Bool × Int × Int) :=
  (if (decide (x75 < x25.1)) then ((jy F x25.1 x25.2.1 x75).bind fun x92 => ((jy F x17.2.1 x3 (iadd .i64 x6 x75)).bind fun x93 => (lbnd (kq F ((x92 : Int) == x93)) (fun _x94 => rec4 (iadd .i64 x75 1)) (fun _x95 => some (([] : List Int), false, x17.2.1, x17.2.2))))) else qar F x17)
def q9 (F : Nat) (x3 : List Int) (x6 : Int) (x17 : (List Int × Int × Int)) (x25 : (Int × List Int × Bool)) : Nat → Int → Option (List Int × Bool × Int × Int)
  | 0 => fun _ => none
  | k + 1 => fun s => ym F x3 x6 x17 x25 (q9 F x3 x6 x17 x25 k) s
def yn (F : Nat) (x3 : List Int) (x6 : Int) (x17 : (List Int × Int × Int)) (x25 : (Int × List Int × Bool)) : Option (List Int × Bool × Int × Int) :=
  q9 F x3 x6 x17 x25 F 0
def yh (F : Nat) (x2 : Int) (x3 : List Int) (x6 : Int) (x7 : Int) (x8 : List Int) (x11 : Int) (x12 : Int) (x13 : Int) : Option (List Int × Bool × Int × Int) :=
  (lbnd (yg F x2 x3 x6 x7 x8 x11 x12 x13) (fun x17 => ((yE F x17.1).bind fun x21 => (lbnd (kq F ((x21 : Int) == 0)) (fun _x22 => ((yi F 0 ([] : List Int) false x7 x17.1 x8 x11 x12 x13).bind fun x25 => (if (!x25.2.2) then (lbnd (kq F ((x25.1 : Int) == (isub .i64 x17.2.2 x6))) (fun _x98 => yn F x3 x6 x17 x25) (fun _x99 => some (([] : List Int), false, x17.2.1, x17.2.2))) else (lbnd (kq F false) (fun _x100 => yn F x3 x6 x17 x25) (fun _x101 => some (([] : List Int), false, x17.2.1, x17.2.2)))))) (fun _x23 => some (([] : List Int), false, x17.2.1, x17.2.2))))) (fun x18 => some (([] : List Int), false, x18.1, x18.2)))
def j4 (F : Nat) (x1 : Int) (x2 : List Int) (x5 : Int) (x6 : Int) (x7 : List Int) (x10 : Int) (x11 : Int) (x12 : Int) : Option (List Int × Int × Int) :=
  ((yh F x1 x2 x5 x6 x7 x10 x11 x12).bind fun x16 => (if (!x16.2.1) then some (([] : List Int), 0, 1) else some (x16.1, x16.2.2.2, 0)))
def qaU (_F : Nat) (x5 : Int) (x261 : List (List Int)) (x262 : Int) : Option (List (List Int) × Bool) :=
  some (x261, ((x262 : Int) == x5))
def vy (_F : Nat) (rec8 : (List (List Int) × Int × Int) → Option (List (List Int) × Bool)) (x350 : Int) (x472 : List (List Int)) (x473 : Int) : Option (List (List Int) × Bool) :=
  rec8 (x472, x473, iadd .i64 x350 1)
def jR (F : Nat) (x1 : Int) (x2 : Int) (x3 : Int) (x4 : Int) (x5 : Int) (x6 : List Int) (rec8 : (List (List Int) × Int × Int) → Option (List (List Int) × Bool)) (x348 : List (List Int)) (x349 : Int) (x350 : Int) : Option (List (List Int) × Bool) :=
  (if (decide (x350 < x1)) then ((qbW F x1 x2 x3 x4 x5 x6 x349 x350).bind fun x474 => (if (!x474.2.2) then some (([] : List (List Int)), false) else (if (decide (0 < x474.1)) then ((idx x348 (isub .i64 x350 x474.1)).bind fun x482 => ((j4 F x5 x6 x474.2.1 x350 x482 x474.1 x3 x4).bind fun x488 => (if ((x488.2.2 : Int) != 0) then some (([] : List (List Int)), false) else ((app 2199023255552 x348 ([x488.1] : List (List Int))).bind fun x494 => vy F rec8 x350 x494 x488.2.1)))) else ((j4 F x5 x6 x474.2.1 x350 ([] : List Int) x474.1 x3 x4).bind fun x499 => (if ((x499.2.2 : Int) != 0) then some (([] : List (List Int)), false) else ((app 2199023255552 x348 ([x499.1] : List (List Int))).bind fun x505 => vy F rec8 x350 x505 x499.2.1)))))) else qaU F x5 x348 x349)
def kp (F : Nat) (x1 : Int) (x2 : Int) (x3 : Int) (x4 : Int) (x5 : Int) (x6 : List Int) : Nat → (List (List Int) × Int × Int) → Option (List (List Int) × Bool)
  | 0 => fun _ => none
  | k + 1 => fun s => jR F x1 x2 x3 x4 x5 x6 (kp F x1 x2 x3 x4 x5 x6 k) s.1 s.2.1 s.2.2
def qbX (F : Nat) (x1 : Int) (x2 : Int) (x3 : Int) (x4 : Int) (x5 : Int) (x6 : List Int) : Option (List (List Int) × Bool) :=
  kp F x1 x2 x3 x4 x5 x6 F (([] : List (List Int)), 0, 0)
def jd (_F : Nat) : Option Bool :=
  some true
def zU (F : Nat) (x1 : List Int) (x4 : List Int) (rec3 : Int → Option Bool) (x154 : Int) : Option Bool :=
  (if (decide (x154 < (x1.length : Int))) then ((idx x1 x154).bind fun x218 => ((idx x4 x154).bind fun x222 => (if ((x218 : Int) != x222) then some false else rec3 (iadd .i64 x154 1)))) else jd F)
def qY (F : Nat) (x1 : List Int) (x4 : List Int) : Nat → Int → Option Bool
  | 0 => fun _ => none
  | k + 1 => fun s => zU F x1 x4 (qY F x1 x4 k) s
def kD (F : Nat) (x1 : List Int) (x4 : List Int) : Option Bool :=
  (if (((x1.length : Int) : Int) != (x4.length : Int)) then some false else qY F x1 x4 F 0)
def qaf (_F : Nat) (x14 : (List (List Int) × Bool)) (x34 : Bool) : Option (List (List Int) × Int) :=
  (if x34 then some (([] : List (List Int)), 1) else some (x14.1, 0))
def qbs (F : Nat) (x1 : Int) (x2 : Int) (x3 : Int) (x4 : Int) (x5 : Int) (x6 : List Int) : Option (List (List Int) × Int) :=
  ((qaZ F x1 x2 x3 x4 x5 x6).bind fun x13 => (if ((x13 : Int) != 0) then some (([] : List (List Int)), x13) else ((qbX F x1 x2 x3 x4 x5 x6).bind fun x14 => (if (!x14.2) then some (([] : List (List Int)), 1) else ((qag F x14.1 x2 x3 x4).bind fun x28 => (if ((x28.2.2.2.2.2.2 : Int) != 0) then qaf F x14 true else ((kD F x28.2.2.2.2.2.1 x6).bind fun x36 => qaf F x14 (!x36))))))))
def vj (F : Nat) (x2 : List Int) (x5 : Int) (x6 : Int) (x7 : Bool) : Option (List (List Int) × Bool × Int × Int × Bool) :=
  ((ql F x2 x5 x6 x7 100).bind fun x9 => ((ql F x2 x9.2.1 x9.2.2.1 x9.2.2.2 7).bind fun x11 => ((ql F x2 x11.2.1 x11.2.2.1 x11.2.2.2 300).bind fun x12 => ((ql F x2 x12.2.1 x12.2.2.1 x12.2.2.2 16).bind fun x13 => ((ql F x2 x13.2.1 x13.2.2.1 x13.2.2.2 8192).bind fun x14 => (if x14.2.2.2 then some (([] : List (List Int)), false, x14.2.1, x14.2.2.1, x14.2.2.2) else ((sub x2 x14.2.1 (x2.length : Int)).bind fun x24 => ((zK F x24).bind fun x29 => ((j5 F x14.1 x29).bind fun x34 => (if ((x34 : Int) != 0) then some (([] : List (List Int)), false, x14.2.1, x14.2.2.1, x14.2.2.2) else ((qbs F x9.1 x11.1 x12.1 x13.1 x14.1 x29).bind fun x35 => some (x35.1, ((x35.2 : Int) == 0), x14.2.1, x14.1, x14.2.2.2))))))))))))
def qae (F : Nat) (x1 : List Int) (x19 : Bool) : Option (List (List Int) × Int × Int) :=
  (if x19 then some (([] : List (List Int)), 0, 1) else ((idx x1 2).bind fun x22 => (if ((x22 : Int) == 1) then ((vk F x1 3 0 false).bind fun x25 => (if (!x25.2.1) then some (([] : List (List Int)), 0, 1) else some (x25.1, x25.2.2.2.1, 0))) else if ((x22 : Int) == 2) then ((vj F x1 3 0 false).bind fun x31 => (if (!x31.2.1) then some (([] : List (List Int)), 0, 1) else some (x31.1, x31.2.2.2.1, 0))) else some (([] : List (List Int)), 0, 1))))
def qaQ (F : Nat) (x1 : List Int) : Option (List (List Int) × Int × Int) :=
  (if (decide (4096 < (x1.length : Int))) then some (([] : List (List Int)), 0, 2) else (if (decide ((x1.length : Int) < 3)) then qae F x1 true else ((sub x1 0 2).bind fun x38 => qae F x1 (!(bstr x38 == bstr ([76, 87] : List Int))))))
def qbb (_F : Nat) (x38 : Int) : Option Int :=
  some x38
def qad (F : Nat) (x1 : List (List Int)) (rec3 : (Int × Int) → Option Int) (x49 : Int) (x50 : Int) : Option Int :=
  (if (decide (x50 < (x1.length : Int))) then ((idx x1 x50).bind fun x67 => rec3 (iadd .i64 x49 (x67.length : Int), iadd .i64 x50 1)) else qbb F x49)
def yW (F : Nat) (x1 : List (List Int)) : Nat → (Int × Int) → Option Int
  | 0 => fun _ => none
  | k + 1 => fun s => qad F x1 (yW F x1 k) s.1 s.2
def qbr (F : Nat) (x1 : List (List Int)) : Option Int :=
  yW F x1 F (0, 0)
def kZ (F : Nat) (x1 : List Int) : Option (Int × Int × Int × Int × Int) :=
  ((qaQ F x1).bind fun x5 => (if ((x5.2.2 : Int) != 0) then some (0, 0, 0, 0, x5.2.2) else ((qbr F x5.1).bind fun x11 => some ((x1.length : Int), (x5.1.length : Int), x11, x5.2.1, 0))))
def qaV (_F : Nat) (x48 : List Int) (x49 : Int) : Option (List Int) :=
  ((app 140737488355328 x48 ([iconv .u8 x49] : List Int)).bind fun x52 => some x52)
def jW (F : Nat) (rec3 : (List Int × Int) → Option (List Int)) (x69 : List Int) (x70 : Int) : Option (List Int) :=
  (if (decide (128 ≤ x70)) then ((app 140737488355328 x69 ([ior .u8 (iconv .u8 x70) 128] : List Int)).bind fun x92 => rec3 (x92, ishr .u64 x70 7)) else qaV F x69 x70)
def yx (F : Nat) : Nat → (List Int × Int) → Option (List Int)
  | 0 => fun _ => none
  | k + 1 => fun s => jW F (yx F k) s.1 s.2
def kY (F : Nat) (x1 : List Int) (x4 : Int) : Option (List Int) :=
  yx F F (x1, x4)
def jD (_F : Nat) (x398 : List Int) : Option (List Int) :=
  some x398
def yQ (_F : Nat) (rec19 : (List Int × Int) → Option (List Int)) (x521 : Int) (x702 : List Int) : Option (List Int) :=
  rec19 (x702, iadd .i64 x521 1)
def yP (F : Nat) (rec19 : (List Int × Int) → Option (List Int)) (x521 : Int) (x710 : List Int) (rec22 : (List Int × Int) → Option (List Int)) (x729 : List Int) (x730 : Int) : Option (List Int) :=
  (if (decide (x730 < (x710.length : Int))) then ((idx x710 x730).bind fun x753 => ((kY F x729 x753).bind fun x756 => rec22 (x756, iadd .i64 x730 1))) else yQ F rec19 x521 x729)
def ko (F : Nat) (rec19 : (List Int × Int) → Option (List Int)) (x521 : Int) (x710 : List Int) : Nat → (List Int × Int) → Option (List Int)
  | 0 => fun _ => none
  | k + 1 => fun s => yP F rec19 x521 x710 (ko F rec19 x521 x710 k) s.1 s.2
def yO (F : Nat) (x1 : List (List Int)) (rec19 : (List Int × Int) → Option (List Int)) (x520 : List Int) (x521 : Int) : Option (List Int) :=
  (if (decide (x521 < (x1.length : Int))) then ((idx x1 x521).bind fun x703 => ((kY F x520 (iconv .u64 (x703.length : Int))).bind fun x707 => ((qas F x703 x521).bind fun x710 => ko F rec19 x521 x710 F (x707, 0)))) else jD F x520)
def qL (F : Nat) (x1 : List (List Int)) : Nat → (List Int × Int) → Option (List Int)
  | 0 => fun _ => none
  | k + 1 => fun s => yO F x1 (qL F x1 k) s.1 s.2
def ye (F : Nat) (x1 : List (List Int)) (x33 : List Int) : Option (List Int) :=
  qL F x1 F (x33, 0)
def jO (F : Nat) (x1 : List (List Int)) : Option (List Int) :=
  ((app 140737488355328 ([76, 87] : List Int) ([1] : List Int)).bind fun x764 => ((kY F x764 (iconv .u64 (x1.length : Int))).bind fun x767 => ye F x1 x767))
def jZ (_F : Nat) (x9 : (Int × Int × Int × Int × Int × List Int × Int)) (x71 : List Int) : Option (List Int × Int) :=
  ((app 140737488355328 x71 x9.2.2.2.2.2.1).bind fun x72 => some (x72, 0))
def kC (F : Nat) (x4 : Int) (x5 : Int) (x6 : Int) (x9 : (Int × Int × Int × Int × Int × List Int × Int)) (rec3 : (List Int × Int) → Option (List Int × Int)) (x93 : List Int) (x94 : Int) : Option (List Int × Int) :=
  (if (decide (x94 < (([x9.1, x4, x5, x6, x9.2.2.2.2.1] : List Int).length : Int))) then ((idx ([x9.1, x4, x5, x6, x9.2.2.2.2.1] : List Int) x94).bind fun x117 => ((kY F x93 (iconv .u64 x117)).bind fun x120 => rec3 (x120, iadd .i64 x94 1))) else jZ F x9 x93)
def zj (F : Nat) (x4 : Int) (x5 : Int) (x6 : Int) (x9 : (Int × Int × Int × Int × Int × List Int × Int)) : Nat → (List Int × Int) → Option (List Int × Int)
  | 0 => fun _ => none
  | k + 1 => fun s => kC F x4 x5 x6 x9 (zj F x4 x5 x6 x9 k) s.1 s.2
def jN (F : Nat) (x1 : List (List Int)) (x4 : Int) (x5 : Int) (x6 : Int) : Option (List Int × Int) :=
  ((qag F x1 x4 x5 x6).bind fun x9 => (if ((x9.2.2.2.2.2.2 : Int) != 0) then some (([] : List Int), x9.2.2.2.2.2.2) else ((app 140737488355328 ([76, 87] : List Int) ([2] : List Int)).bind fun x17 => zj F x4 x5 x6 x9 F (x17, 0))))
def jo (_F : Nat) (x22 : List Int) (x26 : Int) : Option (List Int × Int) :=
  (if ((x26 : Int) != 0) then some (([] : List Int), x26) else some (x22, 0))
def zX (F : Nat) (x22 : List Int) (x23 : Int) : Option (List Int × Int) :=
  (if (((x23 : Int) == 0) && (decide (4096 < (x22.length : Int)))) then jo F x22 2 else jo F x22 x23)
def qaP (F : Nat) (x1 : List (List Int)) (x4 : Int) (x5 : Int) (x6 : Int) (x7 : Int) : Option (List Int × Int) :=
  ((vJ F x1).bind fun x10 => (if ((x10 : Int) != 0) then zX F ([] : List Int) x10 else (if ((x4 : Int) == 1) then ((jO F x1).bind fun x31 => zX F x31 x10) else (if ((x4 : Int) == 2) then ((jN F x1 x5 x6 x7).bind fun x34 => zX F x34.1 x34.2) else zX F ([] : List Int) 3))))
def jn (_F : Nat) (x11 : (List (List Int) × Int × Int)) (x25 : Int) : Option (List (List Int) × Int × Int) :=
  (if ((x25 : Int) != 0) then some (([] : List (List Int)), 0, x25) else some (x11.1, x11.2.1, 0))
def yd (F : Nat) (x11 : (List (List Int) × Int × Int)) (x32 : Bool) : Option (List (List Int) × Int × Int) :=
  (if x32 then jn F x11 8 else jn F x11 x11.2.2)
def kF (F : Nat) (x1 : List Int) (x4 : Int) (x5 : Int) (x6 : Int) (x7 : Int) : Option (List (List Int) × Int × Int) :=
  (if (decide (x4 < (x1.length : Int))) then some (([] : List (List Int)), 0, 8) else ((qaQ F x1).bind fun x11 => (if ((x11.2.2 : Int) == 0) then (if (decide (x5 < (x11.1.length : Int))) then yd F x11 true else ((qbr F x11.1).bind fun x36 => (if (decide (x6 < x36)) then yd F x11 true else yd F x11 (decide (x7 < x11.2.1))))) else yd F x11 false)))
def qbL (_F : Nat) : Option Bool :=
  some true
def jw (F : Nat) (x1 : List Int) (x4 : List Int) (rec3 : Int → Option Bool) (x154 : Int) : Option Bool :=
  (if (decide (x154 < (x1.length : Int))) then ((idx x1 x154).bind fun x218 => ((idx x4 x154).bind fun x222 => (if ((x218 : Int) != x222) then some false else rec3 (iadd .i64 x154 1)))) else qbL F)
def k6 (F : Nat) (x1 : List Int) (x4 : List Int) : Nat → Int → Option Bool
  | 0 => fun _ => none
  | k + 1 => fun s => jw F x1 x4 (k6 F x1 x4 k) s
def jE (F : Nat) (x1 : List Int) (x4 : List Int) : Option Bool :=
  (if (((x1.length : Int) : Int) != (x4.length : Int)) then some false else k6 F x1 x4 F 0)
def qce (_F : Nat) : Option Bool :=
  some true
def jK (F : Nat) (x1 : List Int) (x4 : List Int) (rec3 : Int → Option Bool) (x154 : Int) : Option Bool :=
  (if (decide (x154 < (x1.length : Int))) then ((idx x1 x154).bind fun x218 => ((idx x4 x154).bind fun x222 => (if ((x218 : Int) != x222) then some false else rec3 (iadd .i64 x154 1)))) else qce F)
def yp (F : Nat) (x1 : List Int) (x4 : List Int) : Nat → Int → Option Bool
  | 0 => fun _ => none
  | k + 1 => fun s => jK F x1 x4 (yp F x1 x4 k) s
def qaX (F : Nat) (x1 : List Int) (x4 : List Int) : Option Bool :=
  (if (((x1.length : Int) : Int) != (x4.length : Int)) then some false else yp F x1 x4 F 0)
def qbM (_F : Nat) : Option Bool :=
  some true
def jx (F : Nat) (x1 : List (List Int)) (x4 : List (List Int)) (rec3 : Int → Option Bool) (x202 : Int) : Option Bool :=
  (if (decide (x202 < (x1.length : Int))) then ((idx x1 x202).bind fun x287 => ((idx x4 x202).bind fun x292 => ((qaX F x287 x292).bind fun x297 => (if (!x297) then some false else rec3 (iadd .i64 x202 1))))) else qbM F)
def k7 (F : Nat) (x1 : List (List Int)) (x4 : List (List Int)) : Nat → Int → Option Bool
  | 0 => fun _ => none
  | k + 1 => fun s => jx F x1 x4 (k7 F x1 x4 k) s
def jF (F : Nat) (x1 : List (List Int)) (x4 : List (List Int)) : Option Bool :=
  (if (((x1.length : Int) : Int) != (x4.length : Int)) then some false else k7 F x1 x4 F 0)
def qaD (F : Nat) (x1 : List (List Int)) (x4 : List (List Int)) : Option Bool :=
  ((jF F x1 x4).bind fun x9 => some x9)
def qaC (_F : Nat)  : Option (List (List Int)) :=
  some ([([1, 2, 3, 5] : List Int), ([1, 2, 3, 5] : List Int), ([0, 1, 2, 3, 5] : List Int), ([] : List Int), ([4] : List Int), ([1, 2, 3] : List Int)] : List (List Int))
def qH (_F : Nat) (x59 : Bool) : Option Bool :=
  some x59
def qaB (F : Nat)  : Option Bool :=
  ((qaP F ([([1] : List Int), ([] : List Int)] : List (List Int)) 1 0 0 0).bind fun x6 => ((qaC F).bind fun x9 => ((qaP F x9 2 2 3 1).bind fun x12 => ((kF F x6.1 999 99 99 999).bind fun x15 => ((kF F x12.1 999 99 99 999).bind fun x19 => ((kZ F x6.1).bind fun x23 => ((kF F x6.1 999 99 99 3).bind fun x25 => ((kF F ([76, 87, 1] : List Int) 999 99 99 999).bind fun x31 => ((jE F x6.1 ([76, 87, 1, 2, 1, 2, 0] : List Int)).bind fun x62 => (if x62 then (if ((x6.2 : Int) == 0) then (if ((x12.2 : Int) == 0) then ((jF F x15.1 ([([1] : List Int), ([] : List Int)] : List (List Int))).bind fun x70 => (if x70 then (if ((x15.2.1 : Int) == 4) then (if ((x15.2.2 : Int) == 0) then ((qaC F).bind fun x74 => ((qaD F x19.1 x74).bind fun x77 => (if x77 then (if (decide (9 < x19.2.1)) then (if ((x19.2.2 : Int) == 0) then (if (((x23.1 : Int) == 7) && (((x23.2.1 : Int) == 2) && (((x23.2.2.1 : Int) == 1) && ((x23.2.2.2.1 : Int) == 4)))) then (if ((x23.2.2.2.2 : Int) == 0) then (if ((x25.2.2 : Int) == 8) then qH F ((x31.2.2 : Int) == 1) else qH F false) else qH F false) else qH F false) else qH F false) else qH F false) else qH F false))) else qH F false) else qH F false) else qH F false)) else qH F false) else qH F false) else qH F false))))))))))
def jh (F : Nat) (x1 : List Int) (x4 : List Int) : Option Bool :=
  (if (((x4.length : Int) : Int) == 0) then some true else ((app 140737488355328 ([] : List Int) x1).bind fun x25 => ((app 140737488355328 x25 x4).bind fun x28 => ((kZ F x28).bind fun x31 => some (((x31.2.2.2.2 : Int) == 1) || ((x31.2.2.2.2 : Int) == 2))))))
def qcn (F : Nat) (x1 : List Int) (x4 : List Int) (x7 : Int) : Option Bool :=
  ((kZ F x1).bind fun x8 => ((qaB F).bind fun x12 => (if (!x12) then some false else (if ((x8.2.2.2.2 : Int) != 0) then some true else (if ((decide (0 ≤ x7)) && (decide (x7 < (x1.length : Int)))) then ((sub x1 0 x7).bind fun x36 => ((kZ F x36).bind fun x39 => (if ((x39.2.2.2.2 : Int) != 1) then some false else jh F x1 x4))) else jh F x1 x4)))))
end Go.Proofs.YtlioijpkhffbnaaGreat
