/- What each Go function of this seat computes, in plain terms. -/
import Derived.Test.YtpnfijegoepiaaaGreatSy
namespace Go.Proofs.YtpnfijegoepiaaaGreat
open Go SX
def qbb (_F : Nat) (x1 : Int) (x2 : Int) (x3 : Int) : Option Int :=
  (if (((((((decide (x1 < 0)) || (decide (7 < x1))) || (decide (x2 < 0))) || ((x2 : Int) == 1)) || (decide (300 < x2))) || (decide (x3 < 1))) || (decide (16 < x3))) then some 3 else some 0)
def qcj (_F : Nat) (x798 : Int) : Option Int :=
  (if (decide (600 < x798)) then some 2 else some 0)
def qck (_F : Nat) (rec38 : (Int × Int) → Option Int) (x1065 : Int) (x1461 : Int) : Option Int :=
  rec38 (x1461, iadd .i64 x1065 1)
def qap (F : Nat) (rec38 : (Int × Int) → Option Int) (x1064 : Int) (x1065 : Int) (x1462 : List Int) : Option Int :=
  qck F rec38 x1065 (iadd .i64 x1064 (x1462.length : Int))
def qao (F : Nat) (rec38 : (Int × Int) → Option Int) (x1 : List (List Int)) (x1064 : Int) (x1065 : Int) (x1462 : List Int) (rec45 : (Int × Int) → Option Int) (x1549 : Int) (x1550 : Int) : Option Int :=
  (if (decide (x1550 < (x1462.length : Int))) then ((idx x1462 x1550).bind fun x1582 => (if ((decide (x1582 < 0)) || (decide ((x1.length : Int) ≤ x1582))) then some 3 else (if (decide (x1582 ≤ x1549)) then some 4 else rec45 (x1582, iadd .i64 x1550 1)))) else qap F rec38 x1064 x1065 x1462)
def yd (F : Nat) (rec38 : (Int × Int) → Option Int) (x1 : List (List Int)) (x1064 : Int) (x1065 : Int) (x1462 : List Int) : Nat → (Int × Int) → Option Int
  | 0 => fun _ => none
  | k + 1 => fun s => qao F rec38 x1 x1064 x1065 x1462 (yd F rec38 x1 x1064 x1065 x1462 k) s.1 s.2
def qan (F : Nat) (x1 : List (List Int)) (rec38 : (Int × Int) → Option Int) (x1064 : Int) (x1065 : Int) : Option Int :=
  (if (decide (x1065 < (x1.length : Int))) then ((idx x1 x1065).bind fun x1462 => yd F rec38 x1 x1064 x1065 x1462 F (-1, 0)) else qcj F x1064)
def qZ (F : Nat) (x1 : List (List Int)) : Nat → (Int × Int) → Option Int
  | 0 => fun _ => none
  | k + 1 => fun s => qan F x1 (qZ F x1 k) s.1 s.2
def qc3 (F : Nat) (x1 : List (List Int)) : Option Int :=
  (if (decide (100 < (x1.length : Int))) then some 2 else qZ F x1 F (0, 0))
def qer (_F : Nat) (_x1 : Int) (_x2 : List Int) (_x5 : Int) (_x6 : Int) : Option Unit :=
  some ()
def kZ (_F : Nat) (x2 : Int) (x6 : Int) (x15 : List Int) : Option (Int × List Int) :=
  ((idx x15 (iquo .i64 x2 8)).bind fun x30 => (chk (decide (0 ≤ (irem x2 8))) (((idx x15 (iquo .i64 x2 8)).bind fun _x36 => (lett (x15.set (iquo .i64 x2 8).toNat (ior .u8 x30 (ishr .u8 (iconv .u8 (ishl .u64 x6 7)) (irem x2 8)))) fun x41 => some (iadd .i64 x2 1, x41))))))
def vx (F : Nat) (x2 : Int) (x3 : List Int) (x6 : Int) : Option (Int × List Int) :=
  (if (((irem x2 8) : Int) == 0) then ((app 70368744177664 x3 ([0] : List Int)).bind fun x46 => kZ F x2 x6 x46) else kZ F x2 x6 x3)
def kW (_F : Nat) (x1 : List Int) : Option (List Int) :=
  ((app 70368744177664 ([] : List Int) x1).bind fun x8 => some x8)
def qdL (F : Nat) (x1 : Int) (x2 : List Int) : Option (Int × List Int) :=
  ((kW F x2).bind fun x10 => some (x1, x10))
def qba (_F : Nat) (_x1 : Int) (x2 : List Int) (x5 : Int) : Option Int :=
  ((idx x2 (iquo .i64 x5 8)).bind fun x7 => (chk (decide (0 ≤ (isub .i64 7 (irem x5 8)))) ((lett (iand .u64 (iconv .u64 (ishr .u8 x7 (isub .i64 7 (irem x5 8)))) 1) fun x11 => some x11))))
def jF {σ τ : Type} (F : Nat) (yy : σ → Int → Option (σ ⊕ τ)) (x4 : Int) (x6 : Int) (x7 : List Int) (rec1 : (Int × σ) → Option (σ ⊕ τ)) (x22 : Int) (x23 : σ) : Option (σ ⊕ τ) :=
  (if (decide (x22 < x4)) then ((qba F x6 x7 x22).bind fun x44 => ((yy x23 x44).bind (Sum.elim (fun x45 => rec1 (iadd .i64 x22 1, x45)) (fun x46 => some (.inr x46))))) else some (.inl x23))
def zN {σ τ : Type} (F : Nat) (yy : σ → Int → Option (σ ⊕ τ)) (x4 : Int) (x6 : Int) (x7 : List Int) : Nat → (Int × σ) → Option (σ ⊕ τ)
  | 0 => fun _ => none
  | k + 1 => fun s => jF F yy x4 x6 x7 (zN F yy x4 x6 x7 k) s.1 s.2
def qdm {σ τ : Type} (F : Nat) (yy : σ → Int → Option (σ ⊕ τ)) (x2 : Int) (x4 : Int) (x6 : Int) (x7 : List Int) (s0 : σ) : Option (σ ⊕ τ) :=
  zN F yy x4 x6 x7 F (x2, s0)
def qaG (F : Nat) (x45 : Int) (x48 : List Int) (x53 : Int) : Option ((Int × List Int) ⊕ Empty) :=
  ((vx F x45 x48 x53).bind fun x54 => some (.inl (x54.1, x54.2)))
def jt (F : Nat) (x1 : Int) (x2 : List Int) (x5 : Int) (x6 : List Int) : Option (Int × List Int) :=
  ((qdL F x1 x2).bind fun x12 => ((qer F x5 x6 0 x5).bind fun _x37 => ((qdm F (fun ((x45, x48) : (Int × List Int)) (x53 : Int) => qaG F x45 x48 x53) 0 x5 x5 x6 (x12.1, x12.2)).bind (Sum.elim (fun ((x45, x48) : (Int × List Int)) => some (x45, x48)) (fun t => t.elim)))))
def qdb (_F : Nat) (x1 : Int) : Option Bool :=
  some ((decide (0 ≤ x1)) && (decide (x1 ≤ 1048576)))
def qfg (_F : Nat) : Option Int :=
  some 0
def qbJ (F : Nat) (x1 : List Int) (rec3 : (Int × Int) → Option Int) (x88 : Int) (x89 : Int) : Option Int :=
  (if (decide (x89 < (x1.length : Int))) then ((idx x1 x89).bind fun x121 => ((qdb F x121).bind fun x127 => (if (!x127) then some 3 else (if (decide (x121 ≤ x88)) then some 4 else rec3 (x121, iadd .i64 x89 1))))) else qfg F)
def vf (F : Nat) (x1 : List Int) : Nat → (Int × Int) → Option Int
  | 0 => fun _ => none
  | k + 1 => fun s => qbJ F x1 (vf F x1 k) s.1 s.2
def vA (F : Nat) (x1 : List Int) : Option Int :=
  (if (decide (300 < (x1.length : Int))) then some 2 else vf F x1 F (-1, 0))
def qdz (F : Nat) (x1 : Int) (x2 : List Int) (x5 : Int) (_x6 : Int) (_x7 : Int) : Option Int :=
  (if ((decide (x1 < 0)) || (decide (1048576 < x1))) then some 3 else (if (decide (0 < x5)) then ((vA F x2).bind fun x14 => some x14) else some 0))
def k9 (F : Nat) (x2 : Int) (x3 : List Int) (x7 : Int) (x8 : List Int) (x13 : Bool) : Option (Int × List Int × Bool) :=
  (if (!x13) then ((jt F x2 x3 x7 x8).bind fun x14 => some (x14.1, x14.2, x13)) else some (x2, x3, x13))
def yh (F : Nat) (x2 : Int) (x3 : List Int) (x6 : Bool) (x7 : Int) (x8 : List Int) : Option (Int × List Int × Bool) :=
  (if x6 then k9 F x2 x3 x7 x8 true else k9 F x2 x3 x7 x8 (decide (8192 < (iadd .i64 x2 x7))))
def zI (F : Nat) (x6 : Int) (rec1 : (Int × Int × List Int) → Option (Int × List Int)) (x18 : Int) (x19 : Int) (x22 : List Int) : Option (Int × List Int) :=
  (if (decide (0 ≤ x18)) then (chk (decide (0 ≤ x18)) (((vx F x19 x22 (iand .u64 (ishr .u64 x6 x18) 1)).bind fun x40 => rec1 (isub .i64 x18 1, x40.1, x40.2)))) else some (x19, x22))
def zJ (F : Nat) (x6 : Int) : Nat → (Int × Int × List Int) → Option (Int × List Int)
  | 0 => fun _ => none
  | k + 1 => fun s => zI F x6 (zJ F x6 k) s.1 s.2.1 s.2.2
def vy (F : Nat) (x2 : Int) (x3 : List Int) (x6 : Int) (x7 : Int) : Option (Int × List Int) :=
  zJ F x6 F (isub .i64 x7 1, x2, x3)
def qaF (F : Nat) (x1 : Int) (x2 : List Int) (x5 : Int) (x6 : Int) : Option (Int × List Int) :=
  ((qdL F x1 x2).bind fun x9 => ((vy F x9.1 x9.2 x5 x6).bind fun x13 => some (x13.1, x13.2)))
def k8 (_F : Nat) (x9 : Int) (x10 : Int) : Option Int :=
  ((idx ([0, 1, 2, 2, 3, 3, 3, 3, 4, 4, 4, 4, 4, 4, 4, 4, 5, 5, 5, 5, 5, 5, 5, 5, 5, 5, 5, 5, 5, 5, 5, 5, 6, 6, 6, 6, 6, 6, 6, 6, 6, 6, 6, 6, 6, 6, 6, 6, 6, 6, 6, 6, 6, 6, 6, 6, 6, 6, 6, 6, 6, 6, 6, 6, 7, 7, 7, 7, 7, 7, 7, 7, 7, 7, 7, 7, 7, 7, 7, 7, 7, 7, 7, 7, 7, 7, 7, 7, 7, 7, 7, 7, 7, 7, 7, 7, 7, 7, 7, 7, 7, 7, 7, 7, 7, 7, 7, 7, 7, 7, 7, 7, 7, 7, 7, 7, 7, 7, 7, 7, 7, 7, 7, 7, 7, 7, 7, 7, 8, 8, 8, 8, 8, 8, 8, 8, 8, 8, 8, 8, 8, 8, 8, 8, 8, 8, 8, 8, 8, 8, 8, 8, 8, 8, 8, 8, 8, 8, 8, 8, 8, 8, 8, 8, 8, 8, 8, 8, 8, 8, 8, 8, 8, 8, 8, 8, 8, 8, 8, 8, 8, 8, 8, 8, 8, 8, 8, 8, 8, 8, 8, 8, 8, 8, 8, 8, 8, 8, 8, 8, 8, 8, 8, 8, 8, 8, 8, 8, 8, 8, 8, 8, 8, 8, 8, 8, 8, 8, 8, 8, 8, 8, 8, 8, 8, 8, 8, 8, 8, 8, 8, 8, 8, 8, 8, 8, 8, 8, 8, 8, 8, 8, 8, 8, 8, 8, 8, 8, 8, 8, 8, 8, 8, 8, 8, 8] : List Int) (iconv .u8 x9)).bind fun x11 => some (iadd .i64 x10 (iconv .i64 x11)))
def k7 (F : Nat) (x6 : Int) (x7 : Int) : Option Int :=
  (if (decide (256 ≤ x6)) then k8 F (ishr .u64 x6 8) (iadd .i64 x7 8) else k8 F x6 x7)
def k6 (F : Nat) (x3 : Int) (x4 : Int) : Option Int :=
  (if (decide (65536 ≤ x3)) then k7 F (ishr .u64 x3 16) (iadd .i64 x4 16) else k7 F x3 x4)
def ye (F : Nat) (x1 : Int) : Option Int :=
  (if (decide (4294967296 ≤ x1)) then k6 F (ishr .u64 x1 32) 32 else k6 F x1 0)
def qdu (F : Nat) (x1 : Int) : Option Int :=
  ((ye F (iadd .u64 x1 1)).bind fun x2 => some (isub .i64 x2 1))
def qdd (F : Nat) (x1 : Int) : Option (Int × List Int) :=
  ((mk 140737488355328 (0 : Int) (iquo .u64 (iadd .u64 x1 7) 8)).bind fun x3 => ((qaF F (iconv .i64 x1) x3 1 1).bind fun x6 => some (x6.1, x6.2)))
def qd7 (_F : Nat) (x1 : Int) (x2 : Int) : Option Int :=
  (chk (decide (0 ≤ x2)) ((lett (iand .u64 x1 (isub .u64 (ishl .u64 1 x2) 1)) fun x4 => some x4)))
def ji (F : Nat) (x1 : Int) : Option (Int × List Int) :=
  ((qdu F x1).bind fun x3 => ((qdd F (iconv .u64 x3)).bind fun x4 => ((qd7 F (iadd .u64 x1 1) x3).bind fun x7 => ((qaF F x4.1 x4.2 x7 x3).bind fun x8 => some (x8.1, x8.2)))))
def qV (F : Nat) (x2 : Int) (x3 : List Int) (x6 : Bool) (x7 : Int) : Option (Int × List Int × Bool) :=
  ((ji F (iconv .u64 x7)).bind fun x8 => ((yh F x2 x3 x6 x8.1 x8.2).bind fun x11 => some (x11.1, x11.2.1, x11.2.2)))
def qbI (_F : Nat) (x1 : Int) : Option Bool :=
  some ((x1 : Int) != x1)
def qaj (_F : Nat) (x1 : Int) (x2 : Int) (x6 : Bool) : Option Bool :=
  some (x6 || (decide (x1 < x2)))
def qcg (F : Nat) (x1 : Int) (x2 : Int) : Option Bool :=
  ((qbI F x1).bind fun x3 => (if x3 then ((qbI F x2).bind fun x8 => qaj F x1 x2 (!x8)) else qaj F x1 x2 false))
def jK (_F : Nat) (x1 : Int) : Option Bool :=
  some ((x1 : Int) != x1)
def kB (_F : Nat) (x32 : Int) (x55 : Bool) : Option (Int × Bool) :=
  some (x32, x55)
def kC (F : Nat) (x32 : Int) (x68 : Bool) : Option (Int × Bool) :=
  kB F x32 x68
def kD (F : Nat) (x32 : Int) (x75 : Bool) : Option (Int × Bool) :=
  kC F x32 x75
def kA (F : Nat) (x1 : List Int) (x4 : Int) (x32 : Int) : Option (Int × Bool) :=
  (if (decide (x32 < (x1.length : Int))) then ((idx x1 x32).bind fun x56 => (if ((x56 : Int) == x4) then kC F x32 true else ((idx x1 x32).bind fun x69 => ((jK F x69).bind fun x72 => (if x72 then ((jK F x4).bind fun x76 => kD F x32 x76) else kD F x32 false))))) else kB F x32 false)
def zC (F : Nat) (x1 : List Int) (x4 : Int) (rec10 : (Int × Int) → Option (Int × Bool)) (x85 : Int) (x86 : Int) : Option (Int × Bool) :=
  (if (decide (x85 < x86)) then (lett (iconv .i64 (ishr .u64 (iconv .u64 (iadd .i64 x85 x86)) 1)) fun x97 => ((idx x1 x97).bind fun x98 => ((qcg F x98 x4).bind fun x101 => (if x101 then rec10 (iadd .i64 x97 1, x86) else rec10 (x85, x97))))) else kA F x1 x4 x85)
def qR (F : Nat) (x1 : List Int) (x4 : Int) : Nat → (Int × Int) → Option (Int × Bool)
  | 0 => fun _ => none
  | k + 1 => fun s => zC F x1 x4 (qR F x1 x4 k) s.1 s.2
def zu (F : Nat) (x1 : List Int) (x4 : Int) : Option (Int × Bool) :=
  qR F x1 x4 F (0, (x1.length : Int))
def yS (_F : Nat) (x21 : List Int) (x22 : Bool) (x23 : Int) : Option (List Int × Bool × Int) :=
  some (x21, x22, iadd .i64 x23 1)
def jJ (F : Nat) (x2 : List Int) (x5 : Bool) (x6 : Int) (x7 : Bool) : Option (List Int × Bool × Int) :=
  (if (x7 != x5) then ((app 8796093022208 x2 ([x6] : List Int)).bind fun x31 => yS F x31 x7 0) else yS F x2 x5 x6)
def qdQ (_F : Nat) (x66 : List Int) (x151 : List Int) : Option (List Int × List Int) :=
  some (x66, x151)
def qbP (_F : Nat) (rec10 : (List Int × Int) → Option (List Int × List Int)) (x180 : Int) (x220 : List Int) : Option (List Int × List Int) :=
  rec10 (x220, iadd .i64 x180 1)
def qbN (F : Nat) (x1 : List Int) (x4 : List Int) (x66 : List Int) (rec10 : (List Int × Int) → Option (List Int × List Int)) (x179 : List Int) (x180 : Int) : Option (List Int × List Int) :=
  (if (decide (x180 < (x4.length : Int))) then ((idx x4 x180).bind fun x221 => ((zu F x1 x221).bind fun x224 => (if (!x224.2) then ((app 8796093022208 x179 ([x221] : List Int)).bind fun x227 => qbP F rec10 x180 x227) else qbP F rec10 x180 x179))) else qdQ F x66 x179)
def yo (F : Nat) (x1 : List Int) (x4 : List Int) (x66 : List Int) : Nat → (List Int × Int) → Option (List Int × List Int)
  | 0 => fun _ => none
  | k + 1 => fun s => qbN F x1 x4 x66 (yo F x1 x4 x66 k) s.1 s.2
def qdP (F : Nat) (x1 : List Int) (x4 : List Int) (x66 : List Int) (_x67 : Bool) (_x68 : Int) : Option (List Int × List Int) :=
  yo F x1 x4 x66 F (([] : List Int), 0)
def qbO (F : Nat) (x1 : List Int) (x4 : List Int) (rec12 : (Int × List Int × Bool × Int) → Option (List Int × List Int)) (x249 : Int) (x252 : List Int) (x253 : Bool) (x254 : Int) : Option (List Int × List Int) :=
  (if (decide (x249 < (x1.length : Int))) then ((idx x1 x249).bind fun x280 => ((zu F x4 x280).bind fun x283 => ((jJ F x252 x253 x254 x283.2).bind fun x284 => rec12 (iadd .i64 x249 1, x284.1, x284.2.1, x284.2.2)))) else qdP F x1 x4 x252 x253 x254)
def vg (F : Nat) (x1 : List Int) (x4 : List Int) : Nat → (Int × List Int × Bool × Int) → Option (List Int × List Int)
  | 0 => fun _ => none
  | k + 1 => fun s => qbO F x1 x4 (vg F x1 x4 k) s.1 s.2.1 s.2.2.1 s.2.2.2
def qeb (F : Nat) (x1 : List Int) (x4 : List Int) : Option (List Int × List Int) :=
  vg F x1 x4 F (0, ([] : List Int), true, 0)
def yi (F : Nat) (x7 : List Int) (rec1 : (Int × Int × List Int × Bool) → Option (Int × List Int × Bool)) (x27 : Int) (x28 : Int) (x31 : List Int) (x32 : Bool) : Option (Int × List Int × Bool) :=
  (if (decide (x27 < (x7.length : Int))) then ((idx x7 x27).bind fun x55 => ((qV F x28 x31 x32 (isub .i64 x55 (imin x27 1))).bind fun x58 => rec1 (iadd .i64 x27 1, x58.1, x58.2.1, x58.2.2))) else some (x28, x31, x32))
def zL (F : Nat) (x7 : List Int) : Nat → (Int × Int × List Int × Bool) → Option (Int × List Int × Bool)
  | 0 => fun _ => none
  | k + 1 => fun s => yi F x7 (zL F x7 k) s.1 s.2.1 s.2.2.1 s.2.2.2
def vE (F : Nat) (x2 : Int) (x3 : List Int) (x6 : Bool) (x7 : List Int) : Option (Int × List Int × Bool) :=
  ((qV F x2 x3 x6 (x7.length : Int)).bind fun x10 => zL F x7 F (0, x10.1, x10.2.1, x10.2.2))
def qfn (_F : Nat) (_x1 : List Int) : Option Unit :=
  some ()
def qav {σ τ : Type} (_F : Nat) (yy : σ → (Int × Int) → Option (σ ⊕ τ)) (rec31 : (Int × σ) → Option (σ ⊕ τ)) (x2 : List Int) (x266 : Int) (x267 : σ) (x654 : Int) : Option (σ ⊕ τ) :=
  ((idx x2 x266).bind fun x662 => ((yy x267 (x662, x654)).bind (Sum.elim (fun x665 => rec31 (iadd .i64 x266 x654, x665)) (fun x666 => some (.inr x666)))))
def qaw {σ τ : Type} (F : Nat) (yy : σ → (Int × Int) → Option (σ ⊕ τ)) (rec31 : (Int × σ) → Option (σ ⊕ τ)) (rec44 : Int → Option (σ ⊕ τ)) (x2 : List Int) (x266 : Int) (x267 : σ) (x709 : Int) (x780 : Bool) : Option (σ ⊕ τ) :=
  (if x780 then rec44 (iadd .i64 x709 1) else qav F yy rec31 x2 x266 x267 x709)
def qau {σ τ : Type} (F : Nat) (yy : σ → (Int × Int) → Option (σ ⊕ τ)) (rec31 : (Int × σ) → Option (σ ⊕ τ)) (x2 : List Int) (x266 : Int) (x267 : σ) (rec44 : Int → Option (σ ⊕ τ)) (x709 : Int) : Option (σ ⊕ τ) :=
  (if (decide ((iadd .i64 x266 x709) < (x2.length : Int))) then ((idx x2 (iadd .i64 x266 x709)).bind fun x783 => ((idx x2 x266).bind fun x787 => qaw F yy rec31 rec44 x2 x266 x267 x709 ((x783 : Int) == (iadd .i64 x787 x709)))) else qaw F yy rec31 rec44 x2 x266 x267 x709 false)
def ky {σ τ : Type} (F : Nat) (yy : σ → (Int × Int) → Option (σ ⊕ τ)) (rec31 : (Int × σ) → Option (σ ⊕ τ)) (x2 : List Int) (x266 : Int) (x267 : σ) : Nat → Int → Option (σ ⊕ τ)
  | 0 => fun _ => none
  | k + 1 => fun s => qau F yy rec31 x2 x266 x267 (ky F yy rec31 x2 x266 x267 k) s
def qat {σ τ : Type} (F : Nat) (yy : σ → (Int × Int) → Option (σ ⊕ τ)) (x2 : List Int) (rec31 : (Int × σ) → Option (σ ⊕ τ)) (x266 : Int) (x267 : σ) : Option (σ ⊕ τ) :=
  (if (decide (x266 < (x2.length : Int))) then ky F yy rec31 x2 x266 x267 F 1 else some (.inl x267))
def qS {σ τ : Type} (F : Nat) (yy : σ → (Int × Int) → Option (σ ⊕ τ)) (x2 : List Int) : Nat → (Int × σ) → Option (σ ⊕ τ)
  | 0 => fun _ => none
  | k + 1 => fun s => qat F yy x2 (qS F yy x2 k) s.1 s.2
def qbr {σ τ : Type} (F : Nat) (yy : σ → (Int × Int) → Option (σ ⊕ τ)) (x2 : List Int) (s0 : σ) : Option (σ ⊕ τ) :=
  qS F yy x2 F (0, s0)
def qc6 (_F : Nat) (x255 : List (Int × Int)) (x312 : Int) (x313 : Int) (rec8 : (Int × List Int) → Option ((List Int × List (Int × Int)) ⊕ Empty)) (x338 : Int) (x341 : List Int) : Option ((List Int × List (Int × Int)) ⊕ Empty) :=
  (if (decide (x338 < x313)) then ((app 8796093022208 x341 ([iadd .i64 x312 x338] : List Int)).bind fun x363 => rec8 (iadd .i64 x338 1, x363)) else some (.inl (x341, x255)))
def qaa (F : Nat) (x255 : List (Int × Int)) (x312 : Int) (x313 : Int) : Nat → (Int × List Int) → Option ((List Int × List (Int × Int)) ⊕ Empty)
  | 0 => fun _ => none
  | k + 1 => fun s => qc6 F x255 x312 x313 (qaa F x255 x312 x313 k) s.1 s.2
def qbq (F : Nat) (x4 : Int) (x252 : List Int) (x255 : List (Int × Int)) (x312 : Int) (x313 : Int) : Option ((List Int × List (Int × Int)) ⊕ Empty) :=
  (if (decide (x4 ≤ x313)) then ((app 4398046511104 x255 ([(x312, x313)] : List (Int × Int))).bind fun x323 => some (.inl (x252, x323))) else qaa F x255 x312 x313 F (0, x252))
def qeY (F : Nat) (x1 : List Int) (x4 : Int) : Option (List (Int × Int) × List Int) :=
  ((qfn F x1).bind fun _x188 => ((qbr F (fun ((x252, x255) : (List Int × List (Int × Int))) ((x312, x313) : (Int × Int)) => qbq F x4 x252 x255 x312 x313) x1 (([] : List Int), ([] : List (Int × Int)))).bind (Sum.elim (fun ((x252, x255) : (List Int × List (Int × Int))) => some (x255, x252)) (fun t => t.elim))))
def qbt (_F : Nat) (x1 : Int) : Option Int :=
  (lett (ixor .u64 (ishl .u64 (iconv .u64 x1) 1) (iconv .u64 (ishr .i64 x1 63))) fun x2 => some x2)
def kS (F : Nat) (rec5 : (Int × Int × Int × List Int × Bool) → Option (Int × List Int × Bool)) (x8 : Int) (x74 : Int) (x168 : (Int × Int)) (x180 : Int) (x183 : List Int) (x184 : Bool) : Option (Int × List Int × Bool) :=
  ((qV F x180 x183 x184 (isub .i64 x168.2 x8)).bind fun x185 => rec5 (isub .i64 (iadd .i64 x168.1 x168.2) 1, iadd .i64 x74 1, x185.1, x185.2.1, x185.2.2))
def yW (F : Nat) (x8 : Int) (x9 : List (Int × Int)) (rec5 : (Int × Int × Int × List Int × Bool) → Option (Int × List Int × Bool)) (x73 : Int) (x74 : Int) (x75 : Int) (x78 : List Int) (x79 : Bool) : Option (Int × List Int × Bool) :=
  (if (decide (x74 < (x9.length : Int))) then ((idx x9 x74).bind fun x168 => (if ((x74 : Int) == 0) then ((qbt F (isub .i64 x168.1 x73)).bind fun x188 => ((qV F x75 x78 x79 (iconv .i64 x188)).bind fun x189 => kS F rec5 x8 x74 x168 x189.1 x189.2.1 x189.2.2)) else ((qV F x75 x78 x79 (isub .i64 (isub .i64 x168.1 x73) 2)).bind fun x192 => kS F rec5 x8 x74 x168 x192.1 x192.2.1 x192.2.2))) else some (x75, x78, x79))
def zj (F : Nat) (x8 : Int) (x9 : List (Int × Int)) : Nat → (Int × Int × Int × List Int × Bool) → Option (Int × List Int × Bool)
  | 0 => fun _ => none
  | k + 1 => fun s => yW F x8 x9 (zj F x8 x9 k) s.1 s.2.1 s.2.2.1 s.2.2.2.1 s.2.2.2.2
def jM (F : Nat) (x2 : Int) (x3 : List Int) (x6 : Bool) (x7 : Int) (x8 : Int) (x9 : List (Int × Int)) : Option (Int × List Int × Bool) :=
  ((qV F x2 x3 x6 (x9.length : Int)).bind fun x12 => zj F x8 x9 F (x7, 0, x12.1, x12.2.1, x12.2.2))
def qc2 (F : Nat) (x1 : Int) (x2 : Int) : Option (Int × Int × Int) :=
  ((ye F (iadd .u64 x1 1)).bind fun x3 => (chk ((x2 : Int) != 0) ((chk (decide (0 ≤ (imul .i64 (iquo .i64 (isub .i64 x3 1) x2) x2))) ((chk (decide (0 ≤ (iadd .i64 (imul .i64 (iquo .i64 (isub .i64 x3 1) x2) x2) x2))) (some (iquo .i64 (isub .i64 x3 1) x2, ishl .u64 1 (imul .i64 (iquo .i64 (isub .i64 x3 1) x2) x2), ishl .u64 1 (iadd .i64 (imul .i64 (iquo .i64 (isub .i64 x3 1) x2) x2) x2)))))))))
def qaI (F : Nat) (x1 : Int) : Option (Int × Int) :=
  ((ye F (isub .u64 x1 1)).bind fun x2 => (chk (decide (0 ≤ x2)) (some (x2, isub .u64 (ishl .u64 1 x2) x1))))
def qam (F : Nat) (x1 : Int) (x2 : List Int) (x5 : Int) (x6 : Int) : Option (Int × List Int) :=
  ((qaI F x6).bind fun x9 => (if (decide (x5 < x9.2)) then ((qaF F x1 x2 x5 (isub .i64 x9.1 1)).bind fun x14 => some (x14.1, x14.2)) else ((qaF F x1 x2 (iadd .u64 x5 x9.2) x9.1).bind fun x17 => some (x17.1, x17.2))))
def qc1 (F : Nat) (x1 : Int) (x2 : Int) : Option (Int × List Int × Int) :=
  (if (((decide (x2 < 1)) || (decide (16 < x2))) || (decide (1099511627776 < x1))) then some (0, ([] : List Int), 3) else ((qc2 F x1 x2).bind fun x9 => ((qdd F (iconv .u64 x9.1)).bind fun x10 => ((qam F x10.1 x10.2 (isub .u64 (iadd .u64 x1 1) x9.2.1) (isub .u64 x9.2.2 x9.2.1)).bind fun x13 => some (x13.1, x13.2, 0)))))
def qf3 (_F : Nat) (x107 : Int) (x110 : List Int) : Option (Int × List Int × Bool) :=
  some (x107, x110, true)
def qcZ (F : Nat) (x5 : List Int) (x8 : Int) (rec3 : (Int × Int × List Int) → Option (Int × List Int × Bool)) (x141 : Int) (x142 : Int) (x145 : List Int) : Option (Int × List Int × Bool) :=
  (if (decide (x141 < (x5.length : Int))) then ((idx x5 x141).bind fun x192 => ((qc1 F x192 x8).bind fun x195 => (if (((x195.2.2 : Int) != 0) || (decide (8192 < (iadd .i64 x142 x195.1)))) then some (0, ([] : List Int), false) else ((jt F x142 x145 x195.1 x195.2.1).bind fun x202 => rec3 (iadd .i64 x141 1, x202.1, x202.2))))) else qf3 F x142 x145)
def j8 (F : Nat) (x5 : List Int) (x8 : Int) : Nat → (Int × Int × List Int) → Option (Int × List Int × Bool)
  | 0 => fun _ => none
  | k + 1 => fun s => qcZ F x5 x8 (j8 F x5 x8 k) s.1 s.2.1 s.2.2
def qbU (F : Nat) (x1 : Int) (x2 : List Int) (x5 : List Int) (x8 : Int) : Option (Int × List Int × Bool) :=
  j8 F x5 x8 F (0, x1, x2)
def qaH (_F : Nat) (x4 : Int) (x8 : Int) : Option (Int × Int × Bool) :=
  some (x8, x4, true)
def qak (F : Nat) (x2 : Int) (x3 : Bool) (x4 : Int) : Option (Int × Int × Bool) :=
  (if x3 then (lett (iconv .u64 (isub .i64 (isub .i64 x4 x2) 1)) fun x9 => qaH F x4 x9) else ((qbt F (isub .i64 x4 x2)).bind fun x10 => qaH F x4 x10))
def qes (_F : Nat) (x75 : List Int) : Option (List Int) :=
  some x75
def qc0 (F : Nat) (x1 : List Int) (rec3 : (List Int × Int × Int × Bool) → Option (List Int)) (x98 : List Int) (x99 : Int) (x100 : Int) (x101 : Bool) : Option (List Int) :=
  (if (decide (x99 < (x1.length : Int))) then ((idx x1 x99).bind fun x133 => ((qak F x100 x101 x133).bind fun x136 => ((app 8796093022208 x98 ([x136.1] : List Int)).bind fun x139 => rec3 (x139, iadd .i64 x99 1, x136.2.1, x136.2.2)))) else qes F x98)
def j9 (F : Nat) (x1 : List Int) : Nat → (List Int × Int × Int × Bool) → Option (List Int)
  | 0 => fun _ => none
  | k + 1 => fun s => qc0 F x1 (j9 F x1 k) s.1 s.2.1 s.2.2.1 s.2.2.2
def qdN (F : Nat) (x1 : List Int) (x4 : Int) : Option (List Int) :=
  j9 F x1 F (([] : List Int), 0, x4, false)
def kR (F : Nat) (x52 : Int) (x55 : List Int) (x56 : Bool) (x76 : Bool) (x77 : Int) (x80 : List Int) : Option (Int × List Int × Bool) :=
  ((yh F x52 x55 (x56 || (!x76)) x77 x80).bind fun x82 => some (x82.1, x82.2.1, x82.2.2))
def kQ (F : Nat) (x7 : Int) (x16 : Int) (x51 : List Int) (x52 : Int) (x55 : List Int) (x56 : Bool) : Option (Int × List Int × Bool) :=
  ((qdN F x51 x7).bind fun x85 => ((qbU F 0 ([] : List Int) x85 x16).bind fun x88 => kR F x52 x55 x56 x88.2.2 x88.1 x88.2.1))
def kP (F : Nat) (x7 : Int) (x15 : Int) (x16 : Int) (x33 : List Int) (x34 : Int) (x37 : List Int) (x38 : Bool) : Option (Int × List Int × Bool) :=
  (if (((x33.length : Int) : Int) == 0) then some (x34, x37, x38) else (if (decide (0 < x15)) then ((qeY F x33 x15).bind fun x103 => ((jM F x34 x37 x38 x7 x15 x103.1).bind fun x108 => kQ F x7 x16 x103.2 x108.1 x108.2.1 x108.2.2)) else kQ F x7 x16 x33 x34 x37 x38))
def yR (F : Nat) (x2 : Int) (x3 : List Int) (x6 : Bool) (x7 : Int) (x8 : List Int) (x11 : List Int) (x14 : Int) (x15 : Int) (x16 : Int) : Option (Int × List Int × Bool) :=
  ((qV F x2 x3 x6 (x8.length : Int)).bind fun x18 => (if (((x8.length : Int) : Int) == 0) then some (x18.1, x18.2.1, x18.2.2) else (if (decide (0 < x14)) then ((qeb F x11 x8).bind fun x113 => ((vE F x18.1 x18.2.1 x18.2.2 x113.1).bind fun x118 => kP F x7 x15 x16 x113.2 x118.1 x118.2.1 x118.2.2)) else kP F x7 x15 x16 x8 x18.1 x18.2.1 x18.2.2)))
def jZ (F : Nat) (x1 : Int) (x2 : List Int) (x5 : List Int) (x8 : Int) (x9 : Int) (x10 : Int) (x25 : Int) : Option (Int × List Int × Int) :=
  (if ((x25 : Int) != 0) then some (0, ([] : List Int), x25) else ((yR F 0 ([] : List Int) false x1 x2 x5 x8 x9 x10).bind fun x28 => (if x28.2.2 then some (0, ([] : List Int), 8) else some (x28.1, x28.2.1, 0))))
def vi (F : Nat) (x1 : Int) (x2 : List Int) (x5 : List Int) (x8 : Int) (x9 : Int) (x10 : Int) (x22 : Int) : Option (Int × List Int × Int) :=
  (if ((x22 : Int) == 0) then ((qdz F x1 x5 x8 x9 x10).bind fun x34 => jZ F x1 x2 x5 x8 x9 x10 x34) else jZ F x1 x2 x5 x8 x9 x10 x22)
def vh (F : Nat) (x1 : Int) (x2 : List Int) (x5 : List Int) (x8 : Int) (x9 : Int) (x10 : Int) (x19 : Int) : Option (Int × List Int × Int) :=
  (if ((x19 : Int) == 0) then ((vA F x2).bind fun x36 => vi F x1 x2 x5 x8 x9 x10 x36) else vi F x1 x2 x5 x8 x9 x10 x19)
def j1 (F : Nat) (x1 : Int) (x2 : List Int) (x5 : List Int) (x8 : Int) (x9 : Int) (x10 : Int) (x13 : Int) (x40 : Bool) : Option (Int × List Int × Int) :=
  (if x40 then vh F x1 x2 x5 x8 x9 x10 3 else vh F x1 x2 x5 x8 x9 x10 x13)
def qdy (F : Nat) (x1 : Int) (x2 : List Int) (x5 : List Int) (x8 : Int) (x9 : Int) (x10 : Int) : Option (Int × List Int × Int) :=
  ((qbb F x8 x9 x10).bind fun x13 => (if ((x13 : Int) == 0) then j1 F x1 x2 x5 x8 x9 x10 x13 ((decide (x1 < 0)) || (decide (1048576 < x1))) else j1 F x1 x2 x5 x8 x9 x10 x13 false))
def qaK (F : Nat) (x1 : List (List Int)) (x4 : List Int) (x7 : Int) (x9 : Int) (x10 : Int) (x18 : Int) (x21 : List Int) (x29 : List Int) : Option (Int × Int × List Int × Bool) :=
  ((qdy F (x1.length : Int) x4 x29 x7 x9 x10).bind fun x30 => (if (((x30.2.2 : Int) != 0) || (decide (8192 < (iadd .i64 x18 x30.1)))) then some (0, 0, ([] : List Int), false) else ((jt F x18 x21 x30.1 x30.2.1).bind fun x37 => some (x7, x37.1, x37.2, true))))
def qaJ (F : Nat) (x1 : List (List Int)) (x4 : List Int) (x7 : Int) (x9 : Int) (x10 : Int) (x18 : Int) (x21 : List Int) : Option (Int × Int × List Int × Bool) :=
  (if (decide (0 < x7)) then ((idx x1 (isub .i64 (x1.length : Int) x7)).bind fun x41 => qaK F x1 x4 x7 x9 x10 x18 x21 x41) else qaK F x1 x4 x7 x9 x10 x18 x21 ([] : List Int))
def qea (F : Nat) (x1 : List (List Int)) (x4 : List Int) (x7 : Int) (x8 : Int) (x9 : Int) (x10 : Int) : Option (Int × Int × List Int × Bool) :=
  (if (decide (0 < x8)) then ((ji F (iconv .u64 x7)).bind fun x46 => qaJ F x1 x4 x7 x9 x10 x46.1 x46.2) else qaJ F x1 x4 x7 x9 x10 0 ([] : List Int))
def qdO (_F : Nat) (x96 : Bool) (x97 : Int) (x98 : Int) (x101 : List Int) : Option (Int × Int × List Int × Bool) :=
  some (x97, x98, x101, x96)
def yn (_F : Nat) (rec14 : (Bool × Int × Int × Int × List Int) → Option (Int × Int × List Int × Bool)) (x126 : Int) (x169 : Bool) (x170 : Int) (x171 : Int) (x174 : List Int) : Option (Int × Int × List Int × Bool) :=
  rec14 (x169, iadd .i64 x126 1, x170, x171, x174)
def qbL (F : Nat) (rec14 : (Bool × Int × Int × Int × List Int) → Option (Int × Int × List Int × Bool)) (x125 : Bool) (x126 : Int) (x127 : Int) (x128 : Int) (x131 : List Int) (x175 : (Int × Int × List Int × Bool)) (x181 : Bool) : Option (Int × Int × List Int × Bool) :=
  (if x181 then yn F rec14 x126 true x175.1 x175.2.1 x175.2.2.1 else yn F rec14 x126 x125 x127 x128 x131)
def qbK (F : Nat) (x1 : List (List Int)) (x4 : List Int) (x7 : Int) (x8 : Int) (x9 : Int) (rec14 : (Bool × Int × Int × Int × List Int) → Option (Int × Int × List Int × Bool)) (x125 : Bool) (x126 : Int) (x127 : Int) (x128 : Int) (x131 : List Int) : Option (Int × Int × List Int × Bool) :=
  (if (decide (x126 < (iadd .i64 (imin x7 (x1.length : Int)) 1))) then ((qea F x1 x4 x126 x7 x8 x9).bind fun x175 => (if x175.2.2.2 then qbL F rec14 x125 x126 x127 x128 x131 x175 ((!x125) || (decide (x175.2.1 < x128))) else qbL F rec14 x125 x126 x127 x128 x131 x175 false)) else qdO F x125 x127 x128 x131)
def zR (F : Nat) (x1 : List (List Int)) (x4 : List Int) (x7 : Int) (x8 : Int) (x9 : Int) : Nat → (Bool × Int × Int × Int × List Int) → Option (Int × Int × List Int × Bool)
  | 0 => fun _ => none
  | k + 1 => fun s => qbK F x1 x4 x7 x8 x9 (zR F x1 x4 x7 x8 x9 k) s.1 s.2.1 s.2.2.1 s.2.2.2.1 s.2.2.2.2
def qd9 (F : Nat) (x1 : List (List Int)) (x4 : List Int) (x7 : Int) (x8 : Int) (x9 : Int) : Option (Int × Int × List Int × Bool) :=
  zR F x1 x4 x7 x8 x9 F (false, 0, 0, 0, ([] : List Int))
def jG (_F : Nat) (x2 : Int) (x3 : Int) (x4 : Int) (x5 : Int) (x710 : Int) (x713 : List Int) (x716 : List Int) (x719 : List Int) : Option (Bool × Int × Int × Int × Int × Int × List Int × List Int × List Int) :=
  some (true, x2, x3, x4, x5, x710, x713, x716, x719)
def kw (F : Nat) (rec43 : (Int × Int × List Int × List Int × List Int) → Option (Bool × Int × Int × Int × Int × Int × List Int × List Int × List Int)) (x946 : Int) (x947 : Int) (x950 : List Int) (x1318 : Int) (x1321 : List Int) (x1358 : List Int) (x1361 : List Int) : Option (Bool × Int × Int × Int × Int × Int × List Int × List Int × List Int) :=
  ((jt F x947 x950 x1318 x1321).bind fun x1362 => rec43 (iadd .i64 x946 1, x1362.1, x1362.2, x1358, x1361))
def kv (F : Nat) (rec43 : (Int × Int × List Int × List Int × List Int) → Option (Bool × Int × Int × Int × Int × Int × List Int × List Int × List Int)) (x2 : Int) (x3 : Int) (x4 : Int) (x5 : Int) (x946 : Int) (x947 : Int) (x950 : List Int) (x953 : List Int) (x956 : List Int) (x1317 : Int) (x1318 : Int) (x1321 : List Int) (x1327 : Bool) : Option (Bool × Int × Int × Int × Int × Int × List Int × List Int × List Int) :=
  (if x1327 then some (false, x2, x3, x4, x5, x947, x950, x953, x956) else ((app 8796093022208 x953 ([x1317] : List Int)).bind fun x1367 => ((app 8796093022208 x956 ([x947] : List Int)).bind fun x1372 => kw F rec43 x946 x947 x950 x1318 x1321 x1367 x1372)))
def yw (F : Nat) (rec43 : (Int × Int × List Int × List Int × List Int) → Option (Bool × Int × Int × Int × Int × Int × List Int × List Int × List Int)) (x2 : Int) (x3 : Int) (x4 : Int) (x5 : Int) (x946 : Int) (x947 : Int) (x950 : List Int) (x953 : List Int) (x956 : List Int) (x1316 : Bool) (x1317 : Int) (x1318 : Int) (x1321 : List Int) : Option (Bool × Int × Int × Int × Int × Int × List Int × List Int × List Int) :=
  (if (!x1316) then kv F rec43 x2 x3 x4 x5 x946 x947 x950 x953 x956 x1317 x1318 x1321 true else kv F rec43 x2 x3 x4 x5 x946 x947 x950 x953 x956 x1317 x1318 x1321 (decide (8192 < (iadd .i64 x947 x1318))))
def yv (F : Nat) (x2 : Int) (x3 : Int) (x4 : Int) (x5 : Int) (x16 : List (List Int)) (rec43 : (Int × Int × List Int × List Int × List Int) → Option (Bool × Int × Int × Int × Int × Int × List Int × List Int × List Int)) (x946 : Int) (x947 : Int) (x950 : List Int) (x953 : List Int) (x956 : List Int) : Option (Bool × Int × Int × Int × Int × Int × List Int × List Int × List Int) :=
  (if (decide (x946 < (x16.length : Int))) then ((idx x16 x946).bind fun x1297 => ((sub x16 0 x946).bind fun x1395 => ((qd9 F x1395 x1297 x3 x4 x5).bind fun x1401 => yw F rec43 x2 x3 x4 x5 x946 x947 x950 x953 x956 x1401.2.2.2 x1401.1 x1401.2.1 x1401.2.2.1))) else jG F x2 x3 x4 x5 x947 x950 x953 x956)
def qG (F : Nat) (x2 : Int) (x3 : Int) (x4 : Int) (x5 : Int) (x16 : List (List Int)) : Nat → (Int × Int × List Int × List Int × List Int) → Option (Bool × Int × Int × Int × Int × Int × List Int × List Int × List Int)
  | 0 => fun _ => none
  | k + 1 => fun s => yv F x2 x3 x4 x5 x16 (qG F x2 x3 x4 x5 x16 k) s.1 s.2.1 s.2.2.1 s.2.2.2.1 s.2.2.2.2
def qbV (F : Nat) (x2 : Int) (x3 : Int) (x4 : Int) (x5 : Int) (x6 : Int) (x7 : List Int) (x10 : List Int) (x13 : List Int) (x16 : List (List Int)) : Option (Bool × Int × Int × Int × Int × Int × List Int × List Int × List Int) :=
  qG F x2 x3 x4 x5 x16 F (0, x6, x7, x10, x13)
def yK (_F : Nat) (x48 : Int) (x49 : Int) (x50 : Int) (x51 : Int) (x52 : Int) (x53 : Int) (x56 : List Int) (x59 : List Int) (x62 : List Int) : Option (Int × Int × Int × Int × Int × List Int × List Int × List Int × Int) :=
  some (x49, x50, x51, x52, x53, x56, x59, x62, x48)
def yL (F : Nat) (x12 : Int) (x74 : Bool) (x75 : Int) (x76 : Int) (x77 : Int) (x78 : Int) (x79 : Int) (x82 : List Int) (x85 : List Int) (x88 : List Int) : Option (Int × Int × Int × Int × Int × List Int × List Int × List Int × Int) :=
  (if x74 then yK F 8 x75 x76 x77 x78 x79 x82 x85 x88 else yK F x12 x75 x76 x77 x78 x79 x82 x85 x88)
def jl (F : Nat) (x1 : List (List Int)) (x4 : Int) (x5 : Int) (x6 : Int) (x12 : Int) : Option (Int × Int × Int × Int × Int × List Int × List Int × List Int × Int) :=
  (if ((x12 : Int) == 0) then ((qbV F (x1.length : Int) x4 x5 x6 0 ([] : List Int) ([] : List Int) ([] : List Int) x1).bind fun x90 => yL F x12 (!x90.1) x90.2.1 x90.2.2.1 x90.2.2.2.1 x90.2.2.2.2.1 x90.2.2.2.2.2.1 x90.2.2.2.2.2.2.1 x90.2.2.2.2.2.2.2.1 x90.2.2.2.2.2.2.2.2) else yL F x12 false (x1.length : Int) x4 x5 x6 0 ([] : List Int) ([] : List Int) ([] : List Int))
def qbp (F : Nat) (x1 : List (List Int)) (x4 : Int) (x5 : Int) (x6 : Int) : Option (Int × Int × Int × Int × Int × List Int × List Int × List Int × Int) :=
  ((qc3 F x1).bind fun x9 => (if ((x9 : Int) == 0) then ((qbb F x4 x5 x6).bind fun x97 => jl F x1 x4 x5 x6 x97) else jl F x1 x4 x5 x6 x9))
def vB (F : Nat) (x1 : List (List Int)) (x4 : Int) (x5 : Int) (x6 : Int) : Option (Int × Int × Int × Int × Int × List Int × Int) :=
  ((qbp F x1 x4 x5 x6).bind fun x10 => (if ((x10.2.2.2.2.2.2.2.2 : Int) != 0) then some (0, 0, 0, 0, 0, ([] : List Int), x10.2.2.2.2.2.2.2.2) else some (x10.1, x10.2.1, x10.2.2.1, x10.2.2.2.1, x10.2.2.2.2.1, x10.2.2.2.2.2.1, 0)))
def jV (_F : Nat) (x36 : Bool) : Option Int :=
  (if x36 then some 1 else some 0)
def qdt (F : Nat) (x1 : Int) (x2 : List Int) : Option Int :=
  (if ((decide (x1 < 0)) || (decide (8192 < x1))) then some 3 else (if (((x2.length : Int) : Int) != (iquo .i64 (iadd .i64 x1 7) 8)) then some 1 else (if (((irem x1 8) : Int) != 0) then ((idx x2 (isub .i64 (x2.length : Int) 1)).bind fun x39 => (chk (decide (0 ≤ (irem x1 8))) (jV F (((ishl .u8 x39 (irem x1 8)) : Int) != 0)))) else jV F false)))
def qdv (F : Nat) (x1 : Int) (x2 : Int) (x3 : Int) (x4 : Int) (x5 : Int) (x6 : List Int) : Option Int :=
  (if ((decide (x1 < 0)) || (decide (100 < x1))) then some 3 else ((qbb F x2 x3 x4).bind fun x15 => (if ((x15 : Int) != 0) then some x15 else ((qdt F x5 x6).bind fun x16 => some x16))))
def qfh (_F : Nat) : Option (Int × Int × Bool) :=
  some (0, 0, false)
def qbQ (F : Nat) (x1 : Int) (x2 : List Int) (x5 : Int) (rec3 : Int → Option (Int × Int × Bool)) (x33 : Int) : Option (Int × Int × Bool) :=
  (if (decide (x33 < x1)) then ((qba F x1 x2 x33).bind fun x44 => (if ((x44 : Int) == 1) then some (iconv .u64 (isub .i64 x33 x5), iadd .i64 x33 1, true) else rec3 (iadd .i64 x33 1))) else qfh F)
def vj (F : Nat) (x1 : Int) (x2 : List Int) (x5 : Int) : Nat → Int → Option (Int × Int × Bool)
  | 0 => fun _ => none
  | k + 1 => fun s => qbQ F x1 x2 x5 (vj F x1 x2 x5 k) s
def qco (F : Nat) (x1 : Int) (x2 : List Int) (x5 : Int) : Option (Int × Int × Bool) :=
  vj F x1 x2 x5 F x5
def qbj (F : Nat) (x1 : Int) (x2 : List Int) (x5 : Int) : Option (Int × Int × Int) :=
  ((qco F x1 x2 x5).bind fun x7 => (if (!x7.2.2) then some (0, 0, 7) else some (x7.1, x7.2.1, 0)))
def qdK (_F : Nat) (x24 : Int) : Option (Int × Bool) :=
  some (x24, true)
def qcf (F : Nat) (x1 : Int) (x2 : List Int) (x5 : Int) (x6 : Int) (rec3 : (Int × Int) → Option (Int × Bool)) (x29 : Int) (x30 : Int) : Option (Int × Bool) :=
  (if (decide (x30 < x6)) then ((qba F x1 x2 (iadd .i64 x5 x30)).bind fun x38 => rec3 (ior .u64 (ishl .u64 x29 1) x38, iadd .i64 x30 1)) else qdK F x29)
def jh (F : Nat) (x1 : Int) (x2 : List Int) (x5 : Int) (x6 : Int) : Nat → (Int × Int) → Option (Int × Bool)
  | 0 => fun _ => none
  | k + 1 => fun s => qcf F x1 x2 x5 x6 (jh F x1 x2 x5 x6 k) s.1 s.2
def ju (F : Nat) (x1 : Int) (x2 : List Int) (x5 : Int) (x6 : Int) : Option (Int × Bool) :=
  (if (decide ((isub .i64 x1 x5) < x6)) then some (0, false) else jh F x1 x2 x5 x6 F (0, 0))
def zH (F : Nat) (x1 : Int) (x2 : List Int) (x5 : Int) : Option (Int × Int × Int) :=
  ((qbj F x1 x2 x5).bind fun x7 => (if ((x7.2.2 : Int) != 0) then some (0, 0, x7.2.2) else (if (decide (64 ≤ x7.1)) then some (0, 0, 3) else ((ju F x1 x2 x7.2.1 (iconv .i64 x7.1)).bind fun x10 => (if (!x10.2) then some (0, 0, 7) else (chk (decide (0 ≤ x7.1)) ((lett (iadd .u64 x10.1 (isub .u64 (ishl .u64 1 x7.1) 1)) fun x16 => (if (decide (1099511627776 < x16)) then some (0, 0, 3) else some (x16, iadd .i64 x7.2.1 (iconv .i64 x7.1), 0))))))))))
def vz (F : Nat) (x1 : Int) (x2 : List Int) (x5 : Int) : Option (Int × Int × Int) :=
  ((zH F x1 x2 x5).bind fun x7 => some (x7.1, x7.2.1, x7.2.2))
def qc4 (_F : Nat) (x13 : (Int × Int × Int)) (x18 : Bool) : Option (Int × Int × Bool) :=
  (if x18 then some (0, 0, false) else some (iconv .i64 x13.1, x13.2.1, true))
def qeW (F : Nat) (_x1 : Int) (x2 : Int) (_x3 : Int) (_x4 : Int) (x5 : Int) (x6 : List Int) (x9 : Int) (x10 : Int) : Option (Int × Int × Bool) :=
  (if ((x2 : Int) == 0) then some (0, x9, true) else ((vz F x5 x6 x9).bind fun x13 => (if ((x13.2.2 : Int) != 0) then qc4 F x13 true else qc4 F x13 (decide ((iconv .u64 (imin x2 x10)) < x13.1)))))
def kK (_F : Nat) (x1 : Bool) : Option (Unit ⊕ Unit) :=
  (if (!x1) then some (.inr ()) else some (.inl ()))
def zl (F : Nat) (x2 : Int) (x3 : List Int) (x6 : Int) (x7 : Int) : Option ((Int × Int × Int) ⊕ (Int × Int)) :=
  ((vz F x2 x3 x6).bind fun x9 => (lbnd (kK F (((x9.2.2 : Int) == 0) && (decide (x9.1 ≤ (iconv .u64 x7))))) (fun _x11 => some (.inl (iconv .i64 x9.1, x2, x9.2.1))) (fun _x12 => some (.inr (x2, x6)))))
def qcm (_F : Nat) (x4 : Int) (x99 : Int) : Option Int :=
  (if (decide (x4 < x99)) then some 8 else some 0)
def qar (_F : Nat) (rec23 : (Int × Int) → Option Int) (x4 : Int) (x132 : Int) (x133 : Int) (x180 : Int) (x190 : Bool) : Option Int :=
  (if x190 then some 3 else (lett (imin (iadd .i64 x132 (imin x180 (iadd .i64 x4 1))) (iadd .i64 x4 1)) fun x191 => rec23 (x191, iadd .i64 x133 1)))
def qaq (F : Nat) (x1 : List Int) (x4 : Int) (rec23 : (Int × Int) → Option Int) (x132 : Int) (x133 : Int) : Option Int :=
  (if (decide (x133 < (x1.length : Int))) then ((idx x1 x133).bind fun x180 => (if (decide (x180 < 0)) then qar F rec23 x4 x132 x133 x180 true else qar F rec23 x4 x132 x133 x180 ((decide (x180 < 1)) && (decide (0 < x133))))) else qcm F x4 x132)
def kx (F : Nat) (x1 : List Int) (x4 : Int) : Nat → (Int × Int) → Option Int
  | 0 => fun _ => none
  | k + 1 => fun s => qaq F x1 x4 (kx F x1 x4 k) s.1 s.2
def qc5 (F : Nat) (x1 : List Int) (x4 : Int) : Option Int :=
  (if (decide ((iadd .i64 x4 1) < (x1.length : Int))) then some 2 else kx F x1 x4 F (0, 0))
def qas (_F : Nat) (x169 : List Int) : Option (List Int) :=
  some x169
def qcn (F : Nat) (x158 : List Int) (x161 : List Int) (x162 : Bool) : Option (List Int) :=
  (if x162 then ((app 8796093022208 x161 x158).bind fun x170 => qas F x170) else qas F x161)
def jI (_F : Nat) (rec10 : (List Int × List Int × Bool × Int) → Option (List Int)) (x217 : List Int) (x221 : Bool) (x222 : Int) (x296 : Int) (x308 : List Int) : Option (List Int) :=
  ((sub x217 x296 (x217.length : Int)).bind fun x309 => rec10 (x309, x308, (!x221), iadd .i64 x222 1))
def jH (F : Nat) (x4 : List Int) (rec10 : (List Int × List Int × Bool × Int) → Option (List Int)) (x217 : List Int) (x220 : List Int) (x221 : Bool) (x222 : Int) : Option (List Int) :=
  (if (decide (x222 < (x4.length : Int))) then ((idx x4 x222).bind fun x296 => (if x221 then ((sub x217 0 x296).bind fun x312 => ((app 8796093022208 x220 x312).bind fun x315 => jI F rec10 x217 x221 x222 x296 x315)) else jI F rec10 x217 x221 x222 x296 x220)) else qcn F x217 x220 x221)
def kh (F : Nat) (x4 : List Int) : Nat → (List Int × List Int × Bool × Int) → Option (List Int)
  | 0 => fun _ => none
  | k + 1 => fun s => jH F x4 (kh F x4 k) s.1 s.2.1 s.2.2.1 s.2.2.2
def qdR (F : Nat) (x1 : List Int) (x4 : List Int) : Option (List Int) :=
  kh F x4 F (x1, ([] : List Int), true, 0)
def jX (F : Nat) (x1 : List Int) (x4 : List Int) (x10 : Int) : Option (List Int × Int) :=
  (if ((x10 : Int) != 0) then some (([] : List Int), x10) else ((qdR F x1 x4).bind fun x12 => some (x12, 0)))
def qdw (F : Nat) (x1 : List Int) (x4 : List Int) : Option (List Int × Int) :=
  ((vA F x1).bind fun x7 => (if ((x7 : Int) == 0) then ((qc5 F x4 (x1.length : Int)).bind fun x16 => jX F x1 x4 x16) else jX F x1 x4 x7))
def jm (_F : Nat) (x72 : List Int) (x73 : Int) (x74 : Int) : Option ((List Int × Int × Int) ⊕ (Int × Int)) :=
  some (.inl (x72, x73, x74))
def yg (F : Nat) (x3 : List Int) (x7 : Int) (x10 : List Int) (rec3 : (List Int × Int × Int × Int) → Option ((List Int × Int × Int) ⊕ (Int × Int))) (x93 : List Int) (x94 : Int) (x95 : Int) (x96 : Int) : Option ((List Int × Int × Int) ⊕ (Int × Int)) :=
  (if (decide (x94 < (x10.length : Int))) then (lbnd (zl F x95 x3 x96 x7) (fun x125 => ((idx x93 x94).bind fun _x127 => (lett (x93.set x94.toNat (iadd .i64 x125.1 (imin x94 1))) fun x130 => rec3 (x130, iadd .i64 x94 1, x125.2.1, x125.2.2)))) (fun x126 => some (.inr (x126.1, x126.2)))) else jm F x93 x95 x96)
def zK (F : Nat) (x3 : List Int) (x7 : Int) (x10 : List Int) : Nat → (List Int × Int × Int × Int) → Option ((List Int × Int × Int) ⊕ (Int × Int))
  | 0 => fun _ => none
  | k + 1 => fun s => yg F x3 x7 x10 (zK F x3 x7 x10 k) s.1 s.2.1 s.2.2.1 s.2.2.2
def vD (F : Nat) (x2 : Int) (x3 : List Int) (x6 : Int) (x7 : Int) : Option ((List Int × Int × Int) ⊕ (Int × Int)) :=
  (lbnd (zl F x2 x3 x6 (iadd .i64 x7 1)) (fun x8 => ((mk 17592186044416 (0 : Int) x8.1).bind fun x10 => zK F x3 x7 x10 F (x10, 0, x8.2.1, x8.2.2))) (fun x9 => some (.inr (x9.1, x9.2))))
def j2 (_F : Nat) (x1 : Int) : Option Int :=
  (lett (ixor .i64 (iconv .i64 (ishr .u64 x1 1)) (isub .i64 0 (iconv .i64 (iand .u64 x1 1)))) fun x2 => some x2)
def qab (_F : Nat) (x136 : List (Int × Int)) (x137 : Int) (x138 : Int) : Option ((List (Int × Int) × Int × Int) ⊕ (Int × Int)) :=
  some (.inl (x136, x137, x138))
def kE (F : Nat) (rec13 : (List (Int × Int) × Int × Int × Int × Int) → Option ((List (Int × Int) × Int × Int) ⊕ (Int × Int))) (x3 : List Int) (x8 : Int) (x9 : Int) (x177 : List (Int × Int)) (x179 : Int) (x240 : (Int × Int × Int)) (x244 : Int) : Option ((List (Int × Int) × Int × Int) ⊕ (Int × Int)) :=
  (lbnd (zl F x240.2.1 x3 x240.2.2 x9) (fun x245 => ((idx x177 x179).bind fun _x247 => (lett (x177.set x179.toNat (x244, iadd .i64 x245.1 x8)) fun x250 => ((idx x250 x179).bind fun x253 => rec13 (x250, iadd .i64 x244 (isub .i64 x253.2 1), iadd .i64 x179 1, x245.2.1, x245.2.2))))) (fun x246 => some (.inr (x246.1, x246.2))))
def yz (F : Nat) (x3 : List Int) (x8 : Int) (x9 : Int) (x13 : List (Int × Int)) (rec13 : (List (Int × Int) × Int × Int × Int × Int) → Option ((List (Int × Int) × Int × Int) ⊕ (Int × Int))) (x177 : List (Int × Int)) (x178 : Int) (x179 : Int) (x180 : Int) (x181 : Int) : Option ((List (Int × Int) × Int × Int) ⊕ (Int × Int)) :=
  (if (decide (x179 < (x13.length : Int))) then (lbnd (zl F x180 x3 x181 2097152) (fun x240 => (if ((x179 : Int) == 0) then ((j2 F (iconv .u64 x240.1)).bind fun x256 => kE F rec13 x3 x8 x9 x177 x179 x240 (iadd .i64 x178 x256)) else kE F rec13 x3 x8 x9 x177 x179 x240 (iadd .i64 x178 (iadd .i64 x240.1 2)))) (fun x241 => some (.inr (x241.1, x241.2)))) else qab F x177 x180 x181)
def q9 (F : Nat) (x3 : List Int) (x8 : Int) (x9 : Int) (x13 : List (Int × Int)) : Nat → (List (Int × Int) × Int × Int × Int × Int) → Option ((List (Int × Int) × Int × Int) ⊕ (Int × Int))
  | 0 => fun _ => none
  | k + 1 => fun s => yz F x3 x8 x9 x13 (q9 F x3 x8 x9 x13 k) s.1 s.2.1 s.2.2.1 s.2.2.2.1 s.2.2.2.2
def jL (F : Nat) (x2 : Int) (x3 : List Int) (x6 : Int) (x7 : Int) (x8 : Int) (x9 : Int) : Option ((List (Int × Int) × Int × Int) ⊕ (Int × Int)) :=
  (chk ((x8 : Int) != 0) ((lbnd (zl F x2 x3 x6 (iquo .i64 x9 x8)) (fun x11 => ((mk 8796093022208 (((0 : Int), (0 : Int)) : (Int × Int)) x11.1).bind fun x13 => q9 F x3 x8 x9 x13 F (x13, x7, 0, x11.2.1, x11.2.2))) (fun x12 => some (.inr (x12.1, x12.2))))))
def vK (_F : Nat) (x15 : List Int) : Option (List Int) :=
  some x15
def yT (F : Nat) (x1 : List Int) (c3 : Nat) (x4 : Int) : Option (List Int) :=
  (if (decide (x4 < 0)) then none else (lett (isub .i64 x4 (isub .i64 (c3 : Int) (x1.length : Int))) fun x16 => (if (decide (0 < x16)) then ((sub x1 0 (c3 : Int)).bind fun x17 => ((appz 8796093022208 x17 (0 : Int) x16).bind fun x18 => ((sub x18 0 (x1.length : Int)).bind fun x21 => vK F x21))) else vK F x1)))
def yO (_F : Nat) (x102 : List Int) : Option (List Int) :=
  some x102
def qE (F : Nat) (x1 : List (List Int)) (rec5 : (List Int × Int) → Option (List Int)) (x121 : List Int) (x122 : Int) : Option (List Int) :=
  (if (decide (x122 < (x1.length : Int))) then ((idx x1 x122).bind fun x148 => ((app 8796093022208 x121 x148).bind fun x152 => rec5 (x152, iadd .i64 x122 1))) else yO F x121)
def qL (F : Nat) (x1 : List (List Int)) : Nat → (List Int × Int) → Option (List Int)
  | 0 => fun _ => none
  | k + 1 => fun s => qE F x1 (qL F x1 k) s.1 s.2
def zO (F : Nat) (x1 : List (List Int)) (x43 : Int) : Option (List Int) :=
  ((yT F ([] : List Int) 0 x43).bind fun x44 => qL F x1 F (x44, 0))
def qF (F : Nat) (x1 : List (List Int)) (rec6 : (Int × Int) → Option (List Int)) (x168 : Int) (x169 : Int) : Option (List Int) :=
  (if (decide (x169 < (x1.length : Int))) then ((idx x1 x169).bind fun x189 => (if (decide ((iadd .i64 x168 (x189.length : Int)) < 0)) then none else rec6 (iadd .i64 x168 (x189.length : Int), iadd .i64 x169 1))) else zO F x1 x168)
def qM (F : Nat) (x1 : List (List Int)) : Nat → (Int × Int) → Option (List Int)
  | 0 => fun _ => none
  | k + 1 => fun s => qF F x1 (qM F x1 k) s.1 s.2
def zo (F : Nat) (x1 : List (List Int)) : Option (List Int) :=
  qM F x1 F (0, 0)
def zg (_F : Nat) (x1 : List Int) : Option (List Int) :=
  if x1.length < 4611686018427387904 then some (srt x1) else none
def qbs (_F : Nat) (x1 : Int) (x2 : Int) (x3 : Int) : Option Bool :=
  some ((decide (x2 ≤ x1)) && (decide (x1 ≤ x3)))
def qec (_F : Nat) (x462 : List Int) : Option (List Int × Int) :=
  some (x462, 0)
def qaB (_F : Nat) (rec32 : (List Int × Int) → Option (List Int × Int)) (x561 : Int) (x706 : List Int) : Option (List Int × Int) :=
  rec32 (x706, iadd .i64 x561 1)
def qay (F : Nat) (rec32 : (List Int × Int) → Option (List Int × Int)) (x561 : Int) (x707 : (Int × Int)) (rec35 : (List Int × Int) → Option (List Int × Int)) (x725 : List Int) (x726 : Int) : Option (List Int × Int) :=
  (if (decide (x726 < x707.2)) then ((app 8796093022208 x725 ([iadd .i64 x707.1 x726] : List Int)).bind fun x748 => rec35 (x748, iadd .i64 x726 1)) else qaB F rec32 x561 x725)
def yf (F : Nat) (rec32 : (List Int × Int) → Option (List Int × Int)) (x561 : Int) (x707 : (Int × Int)) : Nat → (List Int × Int) → Option (List Int × Int)
  | 0 => fun _ => none
  | k + 1 => fun s => qay F rec32 x561 x707 (yf F rec32 x561 x707 k) s.1 s.2
def qax (F : Nat) (x1 : List (Int × Int)) (rec32 : (List Int × Int) → Option (List Int × Int)) (x560 : List Int) (x561 : Int) : Option (List Int × Int) :=
  (if (decide (x561 < (x1.length : Int))) then ((idx x1 x561).bind fun x707 => yf F rec32 x561 x707 F (x560, 0)) else qec F x560)
def q8 (F : Nat) (x1 : List (Int × Int)) : Nat → (List Int × Int) → Option (List Int × Int)
  | 0 => fun _ => none
  | k + 1 => fun s => qax F x1 (q8 F x1 k) s.1 s.2
def qaA (F : Nat) (x1 : List (Int × Int)) : Option (List Int × Int) :=
  q8 F x1 F (([] : List Int), 0)
def vC (_F : Nat) (rec44 : (Int × Int) → Option (List Int × Int)) (x807 : Int) (x808 : Int) (x891 : (Int × Int)) (x910 : Bool) : Option (List Int × Int) :=
  (if x910 then some (([] : List Int), 3) else (if (decide (x891.1 < (iadd .i64 x807 2))) then some (([] : List Int), 4) else rec44 (isub .i64 (iadd .i64 x891.1 x891.2) 1, iadd .i64 x808 1)))
def qaz (F : Nat) (x1 : List (Int × Int)) (rec44 : (Int × Int) → Option (List Int × Int)) (x807 : Int) (x808 : Int) : Option (List Int × Int) :=
  (if (decide (x808 < (x1.length : Int))) then ((idx x1 x808).bind fun x891 => ((qbs F x891.1 0 1048576).bind fun x913 => (if (!x913) then vC F rec44 x807 x808 x891 (!x913) else ((qbs F x891.2 1 300).bind fun x914 => (if (!x914) then vC F rec44 x807 x808 x891 (!x914) else vC F rec44 x807 x808 x891 (decide (1048576 < (isub .i64 (iadd .i64 x891.1 x891.2) 1)))))))) else qaA F x1)
def kz (F : Nat) (x1 : List (Int × Int)) : Nat → (Int × Int) → Option (List Int × Int)
  | 0 => fun _ => none
  | k + 1 => fun s => qaz F x1 (kz F x1 k) s.1 s.2
def qc7 (F : Nat) (x1 : List (Int × Int)) : Option (List Int × Int) :=
  (if (decide (300 < (x1.length : Int))) then some (([] : List Int), 2) else kz F x1 F (-2, 0))
def ka (_F : Nat) (x1 : List Int) : Option (List Int) :=
  if (Go.Lib.compact x1).length ≤ x1.length then some (Go.Lib.compact x1) else none
def yx (_F : Nat) (x1 : List Int) : Option (List Int) :=
  ((app 8796093022208 ([] : List Int) x1).bind fun x8 => some x8)
def jY (F : Nat) (x4 : List Int) (x7 : (List Int × Int)) (x12 : Int) : Option (List Int × Int) :=
  (if ((x12 : Int) != 0) then some (([] : List Int), x12) else ((zo F ([x7.1, x4] : List (List Int))).bind fun x16 => ((zg F x16).bind fun x19 => (chk (decide (x19.length = x16.length)) (((yx F x19).bind fun x29 => ((ka F x29).bind fun x32 => (if (decide ((x32.length : Int) < (x19.length : Int))) then some (([] : List Int), 6) else (if (decide (300 < (x19.length : Int))) then some (([] : List Int), 2) else some (x19, 0))))))))))
def qdx (F : Nat) (x1 : List (Int × Int)) (x4 : List Int) : Option (List Int × Int) :=
  ((qc7 F x1).bind fun x7 => (if ((x7.2 : Int) == 0) then ((vA F x4).bind fun x38 => jY F x4 x7 x38) else jY F x4 x7 x7.2))
def zd (F : Nat) (x1 : Int) (x2 : List Int) (x5 : Int) (x8 : (Int × Int)) : Option (Int × Int × Bool) :=
  ((ju F x1 x2 x5 x8.1).bind fun x14 => some (isub .u64 x14.1 x8.2, iadd .i64 x5 x8.1, x14.2))
def za (F : Nat) (x1 : Int) (x2 : List Int) (x5 : Int) (x6 : Int) : Option (Int × Int × Bool) :=
  ((qaI F x6).bind fun x8 => (if (decide (0 < x8.2)) then ((ju F x1 x2 x5 (isub .i64 x8.1 1)).bind fun x15 => (if (!x15.2) then some (0, 0, false) else (if (decide (x15.1 < x8.2)) then some (x15.1, isub .i64 (iadd .i64 x5 x8.1) 1, true) else zd F x1 x2 x5 x8))) else zd F x1 x2 x5 x8))
def qci (_F : Nat) (x1 : Int) (x2 : Int) (x3 : Bool) : Option (Int × Int × Int) :=
  (if (!x3) then some (0, 0, 7) else (if (decide (1099511627776 < x1)) then some (0, 0, 3) else some (x1, x2, 0)))
def qal (F : Nat) (x1 : Int) (x2 : List Int) (x5 : Int) (x6 : Int) : Option (Int × Int × Int) :=
  ((qco F x1 x2 x5).bind fun x8 => (if (!x8.2.2) then some (0, 0, 7) else (if (decide (41 ≤ (imul .u64 x8.1 (iconv .u64 x6)))) then some (0, 0, 3) else (chk (decide (0 ≤ (imul .i64 (iconv .i64 x8.1) x6))) ((lett (ishl .u64 1 (imul .i64 (iconv .i64 x8.1) x6)) fun x12 => (chk (decide (0 ≤ x6)) (((za F x1 x2 x8.2.1 (isub .u64 (ishl .u64 x12 x6) x12)).bind fun x20 => ((qci F (isub .u64 (iadd .u64 x12 x20.1) 1) x20.2.1 x20.2.2).bind fun x21 => some (x21.1, x21.2.1, x21.2.2)))))))))))
def kM (F : Nat) (x8 : Int) : Option (Bool × Int × Bool) :=
  ((qdb F x8).bind fun x9 => some (x9, x8, true))
def kg (F : Nat) (x2 : Int) (x3 : Bool) (x4 : Int) : Option (Bool × Int × Bool) :=
  (if (decide (2097152 < x4)) then some (false, x2, x3) else (if x3 then kM F (iadd .i64 x2 (iadd .i64 (iconv .i64 x4) 1)) else ((j2 F x4).bind fun x10 => kM F (iadd .i64 x2 x10))))
def qdM (_F : Nat) (x105 : Int) (x108 : List Int) : Option (List Int × Int × Int) :=
  some (x108, x105, 0)
def qch (F : Nat) (x1 : Int) (x2 : List Int) (x7 : Int) (x8 : Int) (rec3 : (Int × List Int × Int × Int × Bool) → Option (List Int × Int × Int)) (x138 : Int) (x141 : List Int) (x142 : Int) (x143 : Int) (x144 : Bool) : Option (List Int × Int × Int) :=
  (if (decide (x142 < x8)) then ((qal F x1 x2 x138 x7).bind fun x190 => (if ((x190.2.2 : Int) != 0) then some (([] : List Int), 0, x190.2.2) else ((kg F x143 x144 x190.1).bind fun x193 => (if (!x193.1) then some (([] : List Int), 0, 3) else ((app 8796093022208 x141 ([x193.2.1] : List Int)).bind fun x196 => rec3 (x190.2.1, x196, iadd .i64 x142 1, x193.2.1, x193.2.2)))))) else qdM F x138 x141)
def jk (F : Nat) (x1 : Int) (x2 : List Int) (x7 : Int) (x8 : Int) : Nat → (Int × List Int × Int × Int × Bool) → Option (List Int × Int × Int)
  | 0 => fun _ => none
  | k + 1 => fun s => qch F x1 x2 x7 x8 (jk F x1 x2 x7 x8 k) s.1 s.2.1 s.2.2.1 s.2.2.2.1 s.2.2.2.2
def qd8 (F : Nat) (x1 : Int) (x2 : List Int) (x5 : Int) (x6 : Int) (x7 : Int) (x8 : Int) : Option (List Int × Int × Int) :=
  jk F x1 x2 x7 x8 F (x5, ([] : List Int), 0, x6, false)
def kO (F : Nat) (x3 : List Int) (x7 : Int) (x13 : Int) (x15 : (Int × Int × Int)) (x31 : List Int) (x42 : List (Int × Int)) (x43 : Int) (x44 : Int) : Option ((List Int × Int × Int) ⊕ (Int × Int)) :=
  ((qdx F x42 ([] : List Int)).bind fun x45 => (lbnd (kK F (((x45.2 : Int) == 0) && (decide ((x45.1.length : Int) ≤ (isub .i64 x15.1 (x31.length : Int)))))) (fun _x49 => ((qd8 F x43 x3 x44 x7 x13 (isub .i64 (isub .i64 x15.1 (x31.length : Int)) (x45.1.length : Int))).bind fun x54 => (lbnd (kK F ((x54.2.2 : Int) == 0)) (fun _x57 => ((zo F ([x31, x45.1, x54.1] : List (List Int))).bind fun x61 => ((zg F x61).bind fun x64 => (chk (decide (x64.length = x61.length)) (some (.inl (x64, x43, x54.2.1))))))) (fun _x58 => some (.inr (x43, x44)))))) (fun _x50 => some (.inr (x43, x44)))))
def kN (F : Nat) (x3 : List Int) (x7 : Int) (x12 : Int) (x13 : Int) (x15 : (Int × Int × Int)) (x31 : List Int) (x32 : Int) (x33 : Int) : Option ((List Int × Int × Int) ⊕ (Int × Int)) :=
  (if (((isub .i64 x15.1 (x31.length : Int)) : Int) == 0) then some (.inl (x31, x32, x33)) else (if (decide (0 < x12)) then (lbnd (jL F x32 x3 x33 x7 x12 (isub .i64 x15.1 (x31.length : Int))) (fun x66 => kO F x3 x7 x13 x15 x31 x66.1 x66.2.1 x66.2.2) (fun x67 => some (.inr (x67.1, x67.2)))) else kO F x3 x7 x13 x15 x31 ([] : List (Int × Int)) x32 x33))
def yP (F : Nat) (x2 : Int) (x3 : List Int) (x6 : Int) (x7 : Int) (x8 : List Int) (x11 : Int) (x12 : Int) (x13 : Int) : Option ((List Int × Int × Int) ⊕ (Int × Int)) :=
  (lbnd (zl F x2 x3 x6 300) (fun x15 => (if ((x15.1 : Int) == 0) then some (.inl (([] : List Int), x15.2.1, x15.2.2)) else (if (decide (0 < x11)) then (lbnd (vD F x15.2.1 x3 x15.2.2 (x8.length : Int)) (fun x72 => ((qdw F x8 x72.1).bind fun x76 => (lbnd (kK F (((x76.2 : Int) == 0) && (decide ((x76.1.length : Int) ≤ x15.1)))) (fun _x80 => kN F x3 x7 x12 x13 x15 x76.1 x72.2.1 x72.2.2) (fun _x81 => some (.inr (x72.2.1, x72.2.2)))))) (fun x73 => some (.inr (x73.1, x73.2)))) else kN F x3 x7 x12 x13 x15 ([] : List Int) x15.2.1 x15.2.2))) (fun x16 => some (.inr (x16.1, x16.2))))
def qcs (_F : Nat) (x17 : (List Int × Int × Int)) : Option (List Int × Bool × Int × Int) :=
  some (x17.1, true, x17.2.1, x17.2.2)
def yU (F : Nat) (x3 : List Int) (x6 : Int) (x17 : (List Int × Int × Int)) (x25 : (Int × List Int × Bool)) (rec4 : Int → Option (List Int × Bool × Int × Int)) (x75 : Int) : Option (List Int × Bool × Int × Int) :=
  (if (decide (x75 < x25.1)) then ((qba F x25.1 x25.2.1 x75).bind fun x92 => ((qba F x17.2.1 x3 (iadd .i64 x6 x75)).bind fun x93 => (lbnd (kK F ((x92 : Int) == x93)) (fun _x94 => rec4 (iadd .i64 x75 1)) (fun _x95 => some (([] : List Int), false, x17.2.1, x17.2.2))))) else qcs F x17)
def zi (F : Nat) (x3 : List Int) (x6 : Int) (x17 : (List Int × Int × Int)) (x25 : (Int × List Int × Bool)) : Nat → Int → Option (List Int × Bool × Int × Int)
  | 0 => fun _ => none
  | k + 1 => fun s => yU F x3 x6 x17 x25 (zi F x3 x6 x17 x25 k) s
def yV (F : Nat) (x3 : List Int) (x6 : Int) (x17 : (List Int × Int × Int)) (x25 : (Int × List Int × Bool)) : Option (List Int × Bool × Int × Int) :=
  zi F x3 x6 x17 x25 F 0
def yQ (F : Nat) (x2 : Int) (x3 : List Int) (x6 : Int) (x7 : Int) (x8 : List Int) (x11 : Int) (x12 : Int) (x13 : Int) : Option (List Int × Bool × Int × Int) :=
  (lbnd (yP F x2 x3 x6 x7 x8 x11 x12 x13) (fun x17 => ((vA F x17.1).bind fun x21 => (lbnd (kK F ((x21 : Int) == 0)) (fun _x22 => ((yR F 0 ([] : List Int) false x7 x17.1 x8 x11 x12 x13).bind fun x25 => (if (!x25.2.2) then (lbnd (kK F ((x25.1 : Int) == (isub .i64 x17.2.2 x6))) (fun _x98 => yV F x3 x6 x17 x25) (fun _x99 => some (([] : List Int), false, x17.2.1, x17.2.2))) else (lbnd (kK F false) (fun _x100 => yV F x3 x6 x17 x25) (fun _x101 => some (([] : List Int), false, x17.2.1, x17.2.2)))))) (fun _x23 => some (([] : List Int), false, x17.2.1, x17.2.2))))) (fun x18 => some (([] : List Int), false, x18.1, x18.2)))
def qb4 (F : Nat) (x1 : Int) (x2 : List Int) (x5 : Int) (x6 : Int) (x7 : List Int) (x10 : Int) (x11 : Int) (x12 : Int) : Option (List Int × Int × Int) :=
  ((yQ F x1 x2 x5 x6 x7 x10 x11 x12).bind fun x16 => (if (!x16.2.1) then some (([] : List Int), 0, 1) else some (x16.1, x16.2.2.2, 0)))
def qdn (_F : Nat) (x5 : Int) (x261 : List (List Int)) (x262 : Int) : Option (List (List Int) × Bool) :=
  some (x261, ((x262 : Int) == x5))
def jW (_F : Nat) (rec8 : (List (List Int) × Int × Int) → Option (List (List Int) × Bool)) (x350 : Int) (x472 : List (List Int)) (x473 : Int) : Option (List (List Int) × Bool) :=
  rec8 (x472, x473, iadd .i64 x350 1)
def qbM (F : Nat) (x1 : Int) (x2 : Int) (x3 : Int) (x4 : Int) (x5 : Int) (x6 : List Int) (rec8 : (List (List Int) × Int × Int) → Option (List (List Int) × Bool)) (x348 : List (List Int)) (x349 : Int) (x350 : Int) : Option (List (List Int) × Bool) :=
  (if (decide (x350 < x1)) then ((qeW F x1 x2 x3 x4 x5 x6 x349 x350).bind fun x474 => (if (!x474.2.2) then some (([] : List (List Int)), false) else (if (decide (0 < x474.1)) then ((idx x348 (isub .i64 x350 x474.1)).bind fun x482 => ((qb4 F x5 x6 x474.2.1 x350 x482 x474.1 x3 x4).bind fun x488 => (if ((x488.2.2 : Int) != 0) then some (([] : List (List Int)), false) else ((app 2199023255552 x348 ([x488.1] : List (List Int))).bind fun x494 => jW F rec8 x350 x494 x488.2.1)))) else ((qb4 F x5 x6 x474.2.1 x350 ([] : List Int) x474.1 x3 x4).bind fun x499 => (if ((x499.2.2 : Int) != 0) then some (([] : List (List Int)), false) else ((app 2199023255552 x348 ([x499.1] : List (List Int))).bind fun x505 => jW F rec8 x350 x505 x499.2.1)))))) else qdn F x5 x348 x349)
def kJ (F : Nat) (x1 : Int) (x2 : Int) (x3 : Int) (x4 : Int) (x5 : Int) (x6 : List Int) : Nat → (List (List Int) × Int × Int) → Option (List (List Int) × Bool)
  | 0 => fun _ => none
  | k + 1 => fun s => qbM F x1 x2 x3 x4 x5 x6 (kJ F x1 x2 x3 x4 x5 x6 k) s.1 s.2.1 s.2.2
def qeX (F : Nat) (x1 : Int) (x2 : Int) (x3 : Int) (x4 : Int) (x5 : Int) (x6 : List Int) : Option (List (List Int) × Bool) :=
  kJ F x1 x2 x3 x4 x5 x6 F (([] : List (List Int)), 0, 0)
def qaC (_F : Nat) : Option Bool :=
  some true
def kn (F : Nat) (x1 : List Int) (x4 : List Int) (rec3 : Int → Option Bool) (x154 : Int) : Option Bool :=
  (if (decide (x154 < (x1.length : Int))) then ((idx x1 x154).bind fun x218 => ((idx x4 x154).bind fun x222 => (if ((x218 : Int) != x222) then some false else rec3 (iadd .i64 x154 1)))) else qaC F)
def zb (F : Nat) (x1 : List Int) (x4 : List Int) : Nat → Int → Option Bool
  | 0 => fun _ => none
  | k + 1 => fun s => kn F x1 x4 (zb F x1 x4 k) s
def kX (F : Nat) (x1 : List Int) (x4 : List Int) : Option Bool :=
  (if (((x1.length : Int) : Int) != (x4.length : Int)) then some false else zb F x1 x4 F 0)
def qcl (_F : Nat) (x14 : (List (List Int) × Bool)) (x34 : Bool) : Option (List (List Int) × Int) :=
  (if x34 then some (([] : List (List Int)), 1) else some (x14.1, 0))
def qb3 (F : Nat) (x1 : Int) (x2 : Int) (x3 : Int) (x4 : Int) (x5 : Int) (x6 : List Int) : Option (List (List Int) × Int) :=
  ((qdv F x1 x2 x3 x4 x5 x6).bind fun x13 => (if ((x13 : Int) != 0) then some (([] : List (List Int)), x13) else ((qeX F x1 x2 x3 x4 x5 x6).bind fun x14 => (if (!x14.2) then some (([] : List (List Int)), 1) else ((vB F x14.1 x2 x3 x4).bind fun x28 => (if ((x28.2.2.2.2.2.2 : Int) != 0) then qcl F x14 true else ((kX F x28.2.2.2.2.2.1 x6).bind fun x36 => qcl F x14 (!x36))))))))
def qdc (F : Nat) (x1 : List (List Int)) (x4 : Int) (x5 : Int) (x6 : Int) : Option (List Int × List Int × Int) :=
  ((qbp F x1 x4 x5 x6).bind fun x9 => (if ((x9.2.2.2.2.2.2.2.2 : Int) != 0) then some (([] : List Int), ([] : List Int), x9.2.2.2.2.2.2.2.2) else some (x9.2.2.2.2.2.2.1, x9.2.2.2.2.2.2.2.1, 0)))
def zE (_F : Nat) (x1 : Int) (x2 : Int) (x3 : Int) : Option Bool :=
  some ((decide (x2 ≤ x1)) && (decide (x1 ≤ x3)))
def qbS (_F : Nat) (x3744 : Int) : Option Int :=
  (if (decide (600 < x3744)) then some 2 else some 0)
def zV (_F : Nat) (rec138 : (Int × Int) → Option Int) (x4993 : Int) (x6862 : Int) : Option Int :=
  rec138 (x6862, iadd .i64 x4993 1)
def zW (_F : Nat) (rec161 : (Int × Int) → Option Int) (x7069 : Int) (x7070 : Int) (x7461 : Bool) : Option Int :=
  (if x7461 then some 4 else rec161 (iadd .i64 x7069 1, iadd .i64 x7070 1))
def vO (F : Nat) (rec138 : (Int × Int) → Option Int) (x1 : List (List Int)) (x4993 : Int) (rec161 : (Int × Int) → Option Int) (x7069 : Int) (x7070 : Int) : Option Int :=
  ((idx x1 x4993).bind fun x7283 => (if (decide (x7070 < (x7283.length : Int))) then ((idx x1 x4993).bind fun x7394 => ((idx x7394 x7070).bind fun x7398 => ((zE F x7398 0 (isub .i64 (x1.length : Int) 1)).bind fun x7401 => (if (!x7401) then some 3 else (if (decide (0 < x7070)) then ((idx x1 x4993).bind fun x7464 => ((idx x7464 x7070).bind fun x7469 => ((idx x1 x4993).bind fun x7473 => ((idx x7473 (isub .i64 x7070 1)).bind fun x7478 => zW F rec161 x7069 x7070 (decide (x7469 ≤ x7478)))))) else zW F rec161 x7069 x7070 false))))) else zV F rec138 x4993 x7069))
def q5 (F : Nat) (rec138 : (Int × Int) → Option Int) (x1 : List (List Int)) (x4993 : Int) : Nat → (Int × Int) → Option Int
  | 0 => fun _ => none
  | k + 1 => fun s => vO F rec138 x1 x4993 (q5 F rec138 x1 x4993 k) s.1 s.2
def vN (F : Nat) (x1 : List (List Int)) (rec138 : (Int × Int) → Option Int) (x4992 : Int) (x4993 : Int) : Option Int :=
  (if (decide (x4993 < (x1.length : Int))) then q5 F rec138 x1 x4993 F (x4992, 0) else qbS F x4992)
def qO (F : Nat) (x1 : List (List Int)) : Nat → (Int × Int) → Option Int
  | 0 => fun _ => none
  | k + 1 => fun s => vN F x1 (qO F x1 k) s.1 s.2
def qb5 (F : Nat) (x1 : List (List Int)) : Option Int :=
  (if (decide (100 < (x1.length : Int))) then some 2 else qO F x1 F (0, 0))
def qbz (_F : Nat) (x30 : Bool) : Option Int :=
  (if x30 then some 3 else some 0)
def jP (F : Nat) (x3 : Int) (x27 : Bool) : Option Int :=
  (if x27 then qbz F true else ((zE F x3 1 16).bind fun x32 => qbz F (!x32)))
def qbA (F : Nat) (x3 : Int) (x35 : Bool) : Option Int :=
  jP F x3 x35
def qaQ (F : Nat) (x1 : Int) (x2 : Int) (x3 : Int) : Option Int :=
  ((zE F x1 0 7).bind fun x21 => (if (!x21) then jP F x3 true else (if ((x2 : Int) != 0) then ((zE F x2 2 300).bind fun x36 => qbA F x3 (!x36)) else qbA F x3 false)))
def qeq (_F : Nat) (x31 : List Int) : Option (List Int) :=
  some x31
def qcX (F : Nat) (rec3 : (Int × List Int) → Option (List Int)) (x40 : Int) (x43 : List Int) : Option (List Int) :=
  (if (decide (0 < x40)) then ((app 8796093022208 ([iconv .i64 (irem x40 2)] : List Int) x43).bind fun x55 => rec3 (iquo .u64 x40 2, x55)) else qeq F x43)
def j7 (F : Nat) : Nat → (Int × List Int) → Option (List Int)
  | 0 => fun _ => none
  | k + 1 => fun s => qcX F (j7 F k) s.1 s.2
def qeU (F : Nat) (x1 : Int) : Option (List Int) :=
  j7 F F (x1, ([] : List Int))
def qcu (_F : Nat) (x2 : List Int) (x48 : List Int) : Option (List Int) :=
  ((app 8796093022208 x48 x2).bind fun x49 => some x49)
def qaP (F : Nat) (x2 : List Int) (rec3 : (List Int × Int) → Option (List Int)) (x66 : List Int) (x67 : Int) : Option (List Int) :=
  (if (decide (x67 < (x2.length : Int))) then ((app 8796093022208 x66 ([0] : List Int)).bind fun x89 => rec3 (x89, iadd .i64 x67 1)) else qcu F x2 x66)
def yB (F : Nat) (x2 : List Int) : Nat → (List Int × Int) → Option (List Int)
  | 0 => fun _ => none
  | k + 1 => fun s => qaP F x2 (yB F x2 k) s.1 s.2
def zQ (F : Nat) (x1 : Int) : Option (List Int) :=
  ((qeU F (iadd .u64 x1 1)).bind fun x2 => yB F x2 F (([] : List Int), 1))
def qeo (_F : Nat) : Option Bool :=
  some false
def qcO (F : Nat) (x1 : List Int) (x4 : Int) (rec3 : Int → Option Bool) (x47 : Int) : Option Bool :=
  (if (decide (x47 < (x1.length : Int))) then ((idx x1 x47).bind fun x64 => (if ((x64 : Int) == x4) then some true else rec3 (iadd .i64 x47 1))) else qeo F)
def j6 (F : Nat) (x1 : List Int) (x4 : Int) : Nat → Int → Option Bool
  | 0 => fun _ => none
  | k + 1 => fun s => qcO F x1 x4 (j6 F x1 x4 k) s
def qaE (F : Nat) (x1 : List Int) (x4 : Int) : Option Bool :=
  j6 F x1 x4 F 0
def qbi (_F : Nat) (x210 : List Int) (x311 : List Int) : Option (List Int × List Int) :=
  some (x210, x311)
def vR (_F : Nat) (rec22 : (List Int × Int) → Option (List Int × List Int)) (x346 : Int) (x395 : List Int) : Option (List Int × List Int) :=
  rec22 (x395, iadd .i64 x346 1)
def vP (F : Nat) (x1 : List Int) (x4 : List Int) (x210 : List Int) (rec22 : (List Int × Int) → Option (List Int × List Int)) (x345 : List Int) (x346 : Int) : Option (List Int × List Int) :=
  (if (decide (x346 < (x4.length : Int))) then ((idx x4 x346).bind fun x396 => ((qaE F x1 x396).bind fun x399 => (if (!x399) then ((idx x4 x346).bind fun x400 => ((app 8796093022208 x345 ([x400] : List Int)).bind fun x405 => vR F rec22 x346 x405)) else vR F rec22 x346 x345))) else qbi F x210 x345)
def zX (F : Nat) (x1 : List Int) (x4 : List Int) (x210 : List Int) : Nat → (List Int × Int) → Option (List Int × List Int)
  | 0 => fun _ => none
  | k + 1 => fun s => vP F x1 x4 x210 (zX F x1 x4 x210 k) s.1 s.2
def qbh (F : Nat) (x1 : List Int) (x4 : List Int) (x210 : List Int) : Option (List Int × List Int) :=
  zX F x1 x4 x210 F (([] : List Int), 0)
def vS (_F : Nat) (rec33 : (List Int × Int × Int) → Option (List Int × List Int)) (x513 : Int) (x587 : List Int) (x588 : Int) : Option (List Int × List Int) :=
  rec33 (x587, x588, iadd .i64 x513 1)
def yr (F : Nat) (rec33 : (List Int × Int × Int) → Option (List Int × List Int)) (x1 : List Int) (x4 : List Int) (x511 : List Int) (x512 : Int) (x513 : Int) (x594 : Bool) : Option (List Int × List Int) :=
  ((idx x1 x513).bind fun x595 => ((qaE F x4 x595).bind fun x598 => (if (x598 != x594) then ((app 8796093022208 x511 ([isub .i64 x513 x512] : List Int)).bind fun x601 => vS F rec33 x513 x601 x513) else vS F rec33 x513 x511 x512)))
def vQ (F : Nat) (x1 : List Int) (x4 : List Int) (rec33 : (List Int × Int × Int) → Option (List Int × List Int)) (x511 : List Int) (x512 : Int) (x513 : Int) : Option (List Int × List Int) :=
  (if (decide (x513 < (x1.length : Int))) then (if (decide (0 < x513)) then ((idx x1 (isub .i64 x513 1)).bind fun x605 => ((qaE F x4 x605).bind fun x608 => yr F rec33 x1 x4 x511 x512 x513 x608)) else yr F rec33 x1 x4 x511 x512 x513 true) else qbh F x1 x4 x511)
def zk (F : Nat) (x1 : List Int) (x4 : List Int) : Nat → (List Int × Int × Int) → Option (List Int × List Int)
  | 0 => fun _ => none
  | k + 1 => fun s => vQ F x1 x4 (zk F x1 x4 k) s.1 s.2.1 s.2.2
def qbB (F : Nat) (x1 : List Int) (x4 : List Int) : Option (List Int × List Int) :=
  zk F x1 x4 F (([] : List Int), 0, 0)
def qca (_F : Nat) (x600 : List (Int × Int)) (x603 : List Int) : Option (List (Int × Int) × List Int) :=
  some (x600, x603)
def vo (_F : Nat) (rec68 : (List (Int × Int) × List Int × Int) → Option (List (Int × Int) × List Int)) (x808 : Int) (x1097 : List (Int × Int)) (x1100 : List Int) : Option (List (Int × Int) × List Int) :=
  rec68 (x1097, x1100, iadd .i64 x808 1)
def qaf (F : Nat) (rec68 : (List (Int × Int) × List Int × Int) → Option (List (Int × Int) × List Int)) (x1 : List Int) (x4 : Int) (x804 : List (Int × Int)) (x807 : List Int) (x808 : Int) (x1131 : Int) (x1146 : Int) : Option (List (Int × Int) × List Int) :=
  (if (decide ((iadd .i64 (isub .i64 x1146 x1131) 1) < x4)) then ((idx x1 x808).bind fun x1147 => ((app 8796093022208 x807 ([x1147] : List Int)).bind fun x1152 => vo F rec68 x808 x804 x1152)) else ((idx x1 x808).bind fun x1155 => (if ((x1131 : Int) == x1155) then ((app 4398046511104 x804 ([(x1131, iadd .i64 (isub .i64 x1146 x1131) 1)] : List (Int × Int))).bind fun x1160 => vo F rec68 x808 x1160 x807) else vo F rec68 x808 x804 x807)))
def yb (F : Nat) (rec68 : (List (Int × Int) × List Int × Int) → Option (List (Int × Int) × List Int)) (x1 : List Int) (x4 : Int) (x804 : List (Int × Int)) (x807 : List Int) (x808 : Int) (x1131 : Int) (rec80 : Int → Option (List (Int × Int) × List Int)) (x1169 : Int) : Option (List (Int × Int) × List Int) :=
  ((qaE F x1 (iadd .i64 x1169 1)).bind fun x1177 => (if x1177 then rec80 (iadd .i64 x1169 1) else qaf F rec68 x1 x4 x804 x807 x808 x1131 x1169))
def kq (F : Nat) (rec68 : (List (Int × Int) × List Int × Int) → Option (List (Int × Int) × List Int)) (x1 : List Int) (x4 : Int) (x804 : List (Int × Int)) (x807 : List Int) (x808 : Int) (x1131 : Int) : Nat → Int → Option (List (Int × Int) × List Int)
  | 0 => fun _ => none
  | k + 1 => fun s => yb F rec68 x1 x4 x804 x807 x808 x1131 (kq F rec68 x1 x4 x804 x807 x808 x1131 k) s
def qae (F : Nat) (rec68 : (List (Int × Int) × List Int × Int) → Option (List (Int × Int) × List Int)) (x1 : List Int) (x4 : Int) (x804 : List (Int × Int)) (x807 : List Int) (x808 : Int) (x1113 : Int) (x1131 : Int) : Option (List (Int × Int) × List Int) :=
  kq F rec68 x1 x4 x804 x807 x808 x1131 F x1113
def yc (F : Nat) (rec68 : (List (Int × Int) × List Int × Int) → Option (List (Int × Int) × List Int)) (x1 : List Int) (x4 : Int) (x804 : List (Int × Int)) (x807 : List Int) (x808 : Int) (x1113 : Int) (rec81 : Int → Option (List (Int × Int) × List Int)) (x1183 : Int) : Option (List (Int × Int) × List Int) :=
  ((qaE F x1 (isub .i64 x1183 1)).bind fun x1191 => (if x1191 then rec81 (isub .i64 x1183 1) else qae F rec68 x1 x4 x804 x807 x808 x1113 x1183))
def kr (F : Nat) (rec68 : (List (Int × Int) × List Int × Int) → Option (List (Int × Int) × List Int)) (x1 : List Int) (x4 : Int) (x804 : List (Int × Int)) (x807 : List Int) (x808 : Int) (x1113 : Int) : Nat → Int → Option (List (Int × Int) × List Int)
  | 0 => fun _ => none
  | k + 1 => fun s => yc F rec68 x1 x4 x804 x807 x808 x1113 (kr F rec68 x1 x4 x804 x807 x808 x1113 k) s
def ya (F : Nat) (x1 : List Int) (x4 : Int) (rec68 : (List (Int × Int) × List Int × Int) → Option (List (Int × Int) × List Int)) (x804 : List (Int × Int)) (x807 : List Int) (x808 : Int) : Option (List (Int × Int) × List Int) :=
  (if (decide (x808 < (x1.length : Int))) then ((idx x1 x808).bind fun x1109 => ((idx x1 x808).bind fun x1113 => kr F rec68 x1 x4 x804 x807 x808 x1113 F x1109)) else qca F x804 x807)
def qv (F : Nat) (x1 : List Int) (x4 : Int) : Nat → (List (Int × Int) × List Int × Int) → Option (List (Int × Int) × List Int)
  | 0 => fun _ => none
  | k + 1 => fun s => ya F x1 x4 (qv F x1 x4 k) s.1 s.2.1 s.2.2
def qcT (F : Nat) (x1 : List Int) (x4 : Int) : Option (List (Int × Int) × List Int) :=
  qv F x1 x4 F (([] : List (Int × Int)), ([] : List Int), 0)
def qdG (_F : Nat) (x1 : Int) : Option Int :=
  (if (decide (x1 < 0)) then (lett (iadd .u64 (imul .u64 2 (iconv .u64 (isub .i64 0 (iadd .i64 x1 1)))) 1) fun x4 => some x4) else some (imul .u64 2 (iconv .u64 x1)))
def qdl (_F : Nat) (x2 : Int) (x21 : Int) (x22 : Int) : Option (Int × Int × Int) :=
  (chk (decide (0 ≤ x2)) (some (x21, x22, ishl .u64 x22 x2)))
def qbH (F : Nat) (x1 : Int) (x2 : Int) (rec3 : (Int × Int) → Option (Int × Int × Int)) (x34 : Int) (x35 : Int) : Option (Int × Int × Int) :=
  (chk (decide (0 ≤ x2)) ((if (decide ((ishl .u64 x35 x2) ≤ (iadd .u64 x1 1))) then (chk (decide (0 ≤ x2)) (rec3 (iadd .u64 x34 1, ishl .u64 x35 x2))) else qdl F x2 x34 x35)))
def ve (F : Nat) (x1 : Int) (x2 : Int) : Nat → (Int × Int) → Option (Int × Int × Int)
  | 0 => fun _ => none
  | k + 1 => fun s => qbH F x1 x2 (ve F x1 x2 k) s.1 s.2
def qeV (F : Nat) (x1 : Int) (x2 : Int) : Option (Int × Int × Int) :=
  ve F x1 x2 F (0, 1)
def qcz (_F : Nat) (x45 : List Int) : Option (List Int) :=
  ((app 8796093022208 x45 ([1] : List Int)).bind fun x48 => some x48)
def qa7 (F : Nat) (x1 : Int) (rec3 : (List Int × Int) → Option (List Int)) (x65 : List Int) (x66 : Int) : Option (List Int) :=
  (if (decide (x66 < x1)) then ((app 8796093022208 x65 ([0] : List Int)).bind fun x88 => rec3 (x88, iadd .u64 x66 1)) else qcz F x65)
def yI (F : Nat) (x1 : Int) : Nat → (List Int × Int) → Option (List Int)
  | 0 => fun _ => none
  | k + 1 => fun s => qa7 F x1 (yI F x1 k) s.1 s.2
def qcW (F : Nat) (x1 : Int) : Option (List Int) :=
  yI F x1 F (([] : List Int), 0)
def qdH (_F : Nat) (x52 : List Int) : Option (List Int) :=
  some x52
def v8 (F : Nat) (rec3 : (Int × List Int × Int) → Option (List Int)) (x67 : Int) (x68 : List Int) (x69 : Int) : Option (List Int) :=
  (if (decide (0 ≤ x69)) then ((idx x68 x69).bind fun _x92 => (lett (x68.set x69.toNat (iconv .i64 (irem x67 2))) fun x95 => rec3 (iquo .u64 x67 2, x95, isub .i64 x69 1))) else qdH F x68)
def yM (F : Nat) : Nat → (Int × List Int × Int) → Option (List Int)
  | 0 => fun _ => none
  | k + 1 => fun s => v8 F (yM F k) s.1 s.2.1 s.2.2
def qda (F : Nat) (x1 : Int) (x2 : Int) : Option (List Int) :=
  ((mk 17592186044416 (0 : Int) x2).bind fun x3 => yM F F (x1, x3, isub .i64 x2 1))
def qcv (F : Nat) (x1 : Int) (x2 : Int) (x15 : Int) : Option (List Int) :=
  (chk (decide (0 ≤ x15)) ((if (decide (x1 < (isub .u64 (ishl .u64 1 x15) x2))) then ((qda F x1 (isub .i64 x15 1)).bind fun x21 => some x21) else ((qda F (iadd .u64 x1 (isub .u64 (ishl .u64 1 x15) x2)) x15).bind fun x24 => some x24))))
def qaR (F : Nat) (x1 : Int) (x2 : Int) (rec3 : Int → Option (List Int)) (x30 : Int) : Option (List Int) :=
  (chk (decide (0 ≤ x30)) ((if (decide ((ishl .u64 1 x30) < x2)) then rec3 (iadd .i64 x30 1) else qcv F x1 x2 x30)))
def yC (F : Nat) (x1 : Int) (x2 : Int) : Nat → Int → Option (List Int)
  | 0 => fun _ => none
  | k + 1 => fun s => qaR F x1 x2 (yC F x1 x2 k) s
def qcP (F : Nat) (x1 : Int) (x2 : Int) : Option (List Int) :=
  yC F x1 x2 F 0
def qdq (F : Nat) (x1 : Int) (x2 : Int) : Option (List Int) :=
  ((qeV F x1 x2).bind fun x3 => ((qcW F x3.1).bind fun x4 => ((qcP F (isub .u64 (iadd .u64 x1 1) x3.2.1) (isub .u64 x3.2.2 x3.2.1)).bind fun x7 => ((app 8796093022208 x4 x7).bind fun x10 => some x10))))
def qcA (_F : Nat) (x72 : List Int) : Option (List Int) :=
  some x72
def qa9 (F : Nat) (x1 : List Int) (x4 : Int) (rec3 : (List Int × Int) → Option (List Int)) (x95 : List Int) (x96 : Int) : Option (List Int) :=
  (if (decide (x96 < (x1.length : Int))) then ((idx x1 x96).bind fun x128 => ((qdq F x128 x4).bind fun x131 => ((app 8796093022208 x95 x131).bind fun x134 => rec3 (x134, iadd .i64 x96 1)))) else qcA F x95)
def kU (F : Nat) (x1 : List Int) (x4 : Int) : Nat → (List Int × Int) → Option (List Int)
  | 0 => fun _ => none
  | k + 1 => fun s => qa9 F x1 x4 (kU F x1 x4 k) s.1 s.2
def qep (F : Nat) (x1 : List Int) (x4 : Int) : Option (List Int) :=
  kU F x1 x4 F (([] : List Int), 0)
def qen (_F : Nat) (x165 : List Int) : Option (List Int) :=
  some x165
def qbl (_F : Nat) (rec8 : (List Int × Int) → Option (List Int)) (x220 : Int) (x299 : List Int) : Option (List Int) :=
  rec8 (x299, iadd .i64 x220 1)
def qcN (F : Nat) (x1 : List Int) (x4 : Int) (rec8 : (List Int × Int) → Option (List Int)) (x219 : List Int) (x220 : Int) : Option (List Int) :=
  (if (decide (x220 < (x1.length : Int))) then (if ((x220 : Int) == 0) then ((idx x1 0).bind fun x300 => ((qdG F (isub .i64 x300 x4)).bind fun x303 => ((app 8796093022208 x219 ([x303] : List Int)).bind fun x306 => qbl F rec8 x220 x306))) else ((idx x1 x220).bind fun x309 => ((idx x1 (isub .i64 x220 1)).bind fun x313 => ((app 8796093022208 x219 ([iconv .u64 (isub .i64 (isub .i64 x309 x313) 1)] : List Int)).bind fun x319 => qbl F rec8 x220 x319)))) else qen F x219)
def vJ (F : Nat) (x1 : List Int) (x4 : Int) : Nat → (List Int × Int) → Option (List Int)
  | 0 => fun _ => none
  | k + 1 => fun s => qcN F x1 x4 (vJ F x1 x4 k) s.1 s.2
def qeR (F : Nat) (x1 : List Int) (x4 : Int) : Option (List Int) :=
  vJ F x1 x4 F (([] : List Int), 0)
def je (F : Nat) (x1 : Int) (x10 : Int) (x569 : List Int) (x572 : List Int) : Option (List Int) :=
  ((qeR F x572 x1).bind fun x582 => ((qep F x582 x10).bind fun x585 => ((app 8796093022208 x569 x585).bind fun x588 => some x588)))
def jf (F : Nat) (rec21 : (List Int × Int) → Option (List Int)) (x9 : Int) (x591 : (List (Int × Int) × List Int)) (x749 : Int) (x998 : List Int) : Option (List Int) :=
  ((idx x591.1 x749).bind fun x999 => ((zQ F (iconv .u64 (isub .i64 x999.2 x9))).bind fun x1003 => ((app 8796093022208 x998 x1003).bind fun x1006 => rec21 (x1006, iadd .i64 x749 1))))
def qa4 (F : Nat) (x1 : Int) (x9 : Int) (x10 : Int) (x591 : (List (Int × Int) × List Int)) (rec21 : (List Int × Int) → Option (List Int)) (x748 : List Int) (x749 : Int) : Option (List Int) :=
  (if (decide (x749 < (x591.1.length : Int))) then (if ((x749 : Int) == 0) then ((idx x591.1 0).bind fun x1009 => ((qdG F (isub .i64 x1009.1 x1)).bind fun x1012 => ((zQ F x1012).bind fun x1013 => ((app 8796093022208 x748 x1013).bind fun x1016 => jf F rec21 x9 x591 x749 x1016)))) else ((idx x591.1 x749).bind fun x1019 => ((idx x591.1 (isub .i64 x749 1)).bind fun x1023 => ((idx x591.1 (isub .i64 x749 1)).bind fun x1027 => ((zQ F (iconv .u64 (isub .i64 (isub .i64 x1019.1 (isub .i64 (iadd .i64 x1023.1 x1027.2) 1)) 2))).bind fun x1031 => ((app 8796093022208 x748 x1031).bind fun x1034 => jf F rec21 x9 x591 x749 x1034)))))) else je F x1 x10 x748 x591.2)
def zS (F : Nat) (x1 : Int) (x9 : Int) (x10 : Int) (x591 : (List (Int × Int) × List Int)) : Nat → (List Int × Int) → Option (List Int)
  | 0 => fun _ => none
  | k + 1 => fun s => qa4 F x1 x9 x10 x591 (zS F x1 x9 x10 x591 k) s.1 s.2
def ym (F : Nat) (x1 : Int) (x9 : Int) (x10 : Int) (x113 : List Int) (x116 : List Int) : Option (List Int) :=
  (if (((x116.length : Int) : Int) == 0) then some x113 else (if (decide (0 < x9)) then ((qcT F x116 x9).bind fun x591 => ((zQ F (iconv .u64 (x591.1.length : Int))).bind fun x596 => ((app 8796093022208 x113 x596).bind fun x599 => zS F x1 x9 x10 x591 F (x599, 0)))) else je F x1 x10 x113 x116))
def jg (F : Nat) (rec28 : (List Int × Int) → Option (List Int)) (x1080 : List Int) (x1081 : Int) (x1126 : Int) : Option (List Int) :=
  ((zQ F (iconv .u64 x1126)).bind fun x1127 => ((app 8796093022208 x1080 x1127).bind fun x1130 => rec28 (x1130, iadd .i64 x1081 1)))
def qa5 (F : Nat) (x1 : Int) (x9 : Int) (x10 : Int) (x1041 : (List Int × List Int)) (rec28 : (List Int × Int) → Option (List Int)) (x1080 : List Int) (x1081 : Int) : Option (List Int) :=
  (if (decide (x1081 < (x1041.1.length : Int))) then ((idx x1041.1 x1081).bind fun x1122 => (if (decide (0 < x1081)) then jg F rec28 x1080 x1081 (isub .i64 x1122 1) else jg F rec28 x1080 x1081 x1122)) else ym F x1 x9 x10 x1080 x1041.2)
def zT (F : Nat) (x1 : Int) (x9 : Int) (x10 : Int) (x1041 : (List Int × List Int)) : Nat → (List Int × Int) → Option (List Int)
  | 0 => fun _ => none
  | k + 1 => fun s => qa5 F x1 x9 x10 x1041 (zT F x1 x9 x10 x1041 k) s.1 s.2
def qcd (F : Nat) (x1 : Int) (x2 : List Int) (x5 : List Int) (x8 : Int) (x9 : Int) (x10 : Int) : Option (List Int) :=
  ((zQ F (iconv .u64 (x2.length : Int))).bind fun x12 => (if (((x2.length : Int) : Int) == 0) then some x12 else (if (decide (0 < x8)) then ((qbB F x5 x2).bind fun x1041 => ((zQ F (iconv .u64 (x1041.1.length : Int))).bind fun x1046 => ((app 8796093022208 x12 x1046).bind fun x1049 => zT F x1 x9 x10 x1041 F (x1049, 0)))) else ym F x1 x9 x10 x12 x2)))
def qcx (_F : Nat) (x331 : Int) (x334 : List Int) : Option (Int × List Int) :=
  some (x331, x334)
def qaW (_F : Nat) (rec28 : (Int × List Int × Int) → Option (Int × List Int)) (x445 : Int) (x602 : Int) (x605 : List Int) : Option (Int × List Int) :=
  rec28 (x602, x605, iadd .i64 x445 1)
def jb (F : Nat) (rec28 : (Int × List Int × Int) → Option (Int × List Int)) (x1 : List (List Int)) (x4 : Int) (x6 : Int) (x7 : Int) (x441 : Int) (x444 : List Int) (x445 : Int) (x612 : List Int) (x620 : List Int) : Option (Int × List Int) :=
  ((idx x1 x4).bind fun x632 => ((qcd F x4 x632 x620 x445 x6 x7).bind fun x637 => ((app 8796093022208 x612 x637).bind fun x640 => (if ((decide (x441 < 0)) || (decide ((x640.length : Int) < (x444.length : Int)))) then qaW F rec28 x445 x445 x640 else qaW F rec28 x445 x441 x444))))
def ja (F : Nat) (rec28 : (Int × List Int × Int) → Option (Int × List Int)) (x1 : List (List Int)) (x4 : Int) (x6 : Int) (x7 : Int) (x441 : Int) (x444 : List Int) (x445 : Int) (x612 : List Int) : Option (Int × List Int) :=
  (if (decide (0 < x445)) then ((idx x1 (isub .i64 x4 x445)).bind fun x645 => jb F rec28 x1 x4 x6 x7 x441 x444 x445 x612 x645) else jb F rec28 x1 x4 x6 x7 x441 x444 x445 x612 ([] : List Int))
def qaV (F : Nat) (x1 : List (List Int)) (x4 : Int) (x5 : Int) (x6 : Int) (x7 : Int) (rec28 : (Int × List Int × Int) → Option (Int × List Int)) (x441 : Int) (x444 : List Int) (x445 : Int) : Option (Int × List Int) :=
  (if ((decide (x445 ≤ x5)) && (decide (x445 ≤ x4))) then (if (decide (0 < x5)) then ((zQ F (iconv .u64 x445)).bind fun x650 => ja F rec28 x1 x4 x6 x7 x441 x444 x445 x650) else ja F rec28 x1 x4 x6 x7 x441 x444 x445 ([] : List Int)) else qcx F x441 x444)
def zm (F : Nat) (x1 : List (List Int)) (x4 : Int) (x5 : Int) (x6 : Int) (x7 : Int) : Nat → (Int × List Int × Int) → Option (Int × List Int)
  | 0 => fun _ => none
  | k + 1 => fun s => qaV F x1 x4 x5 x6 x7 (zm F x1 x4 x5 x6 x7 k) s.1 s.2.1 s.2.2
def qeS (F : Nat) (x1 : List (List Int)) (x4 : Int) (x5 : Int) (x6 : Int) (x7 : Int) : Option (Int × List Int) :=
  zm F x1 x4 x5 x6 x7 F (-1, ([] : List Int), 0)
def qcy (_F : Nat) (x147 : List Int) (x150 : List Int) (x153 : List Int) : Option (List Int × List Int × List Int × Int) :=
  (if (decide (8192 < (x147.length : Int))) then some (([] : List Int), ([] : List Int), ([] : List Int), 8) else some (x147, x150, x153, 0))
def qaZ (F : Nat) (x1 : List (List Int)) (x4 : Int) (x5 : Int) (x6 : Int) (rec4 : (List Int × List Int × List Int × Int) → Option (List Int × List Int × List Int × Int)) (x201 : List Int) (x204 : List Int) (x207 : List Int) (x208 : Int) : Option (List Int × List Int × List Int × Int) :=
  (if (decide (x208 < (x1.length : Int))) then ((qeS F x1 x208 x4 x5 x6).bind fun x261 => ((app 8796093022208 x204 ([x261.1] : List Int)).bind fun x266 => ((app 8796093022208 x207 ([(x201.length : Int)] : List Int)).bind fun x271 => ((app 8796093022208 x201 x261.2).bind fun x274 => rec4 (x274, x266, x271, iadd .i64 x208 1))))) else qcy F x201 x204 x207)
def kT (F : Nat) (x1 : List (List Int)) (x4 : Int) (x5 : Int) (x6 : Int) : Nat → (List Int × List Int × List Int × Int) → Option (List Int × List Int × List Int × Int)
  | 0 => fun _ => none
  | k + 1 => fun s => qaZ F x1 x4 x5 x6 (kT F x1 x4 x5 x6 k) s.1 s.2.1 s.2.2.1 s.2.2.2
def qa0 (F : Nat) (x1 : List (List Int)) (x4 : Int) (x5 : Int) (x6 : Int) (x12 : Int) : Option (List Int × List Int × List Int × Int) :=
  (if ((x12 : Int) != 0) then some (([] : List Int), ([] : List Int), ([] : List Int), x12) else kT F x1 x4 x5 x6 F (([] : List Int), ([] : List Int), ([] : List Int), 0))
def qbm (F : Nat) (x1 : List (List Int)) (x4 : Int) (x5 : Int) (x6 : Int) : Option (List Int × List Int × List Int × Int) :=
  ((qb5 F x1).bind fun x9 => (if ((x9 : Int) == 0) then ((qaQ F x4 x5 x6).bind fun x279 => qa0 F x1 x4 x5 x6 x279) else qa0 F x1 x4 x5 x6 x9))
def qeA (_F : Nat) (x1 : List Int) (x497 : List Int) : Option (Int × List Int) :=
  some ((x1.length : Int), x497)
def qb6 (_F : Nat) (rec98 : (Int × List Int) → Option (Int × List Int)) (x660 : Int) (x907 : List Int) : Option (Int × List Int) :=
  rec98 (iadd .i64 x660 8, x907)
def qad (F : Nat) (rec98 : (Int × List Int) → Option (Int × List Int)) (x660 : Int) (x663 : List Int) (x944 : Int) : Option (Int × List Int) :=
  ((app 70368744177664 x663 ([iconv .u8 x944] : List Int)).bind fun x947 => qb6 F rec98 x660 x947)
def vn (_F : Nat) (rec116 : (Int × Int) → Option (Int × List Int)) (x962 : Int) (x980 : Int) : Option (Int × List Int) :=
  rec116 (x980, iadd .i64 x962 1)
def qac (F : Nat) (rec98 : (Int × List Int) → Option (Int × List Int)) (x1 : List Int) (x660 : Int) (x663 : List Int) (rec116 : (Int × Int) → Option (Int × List Int)) (x961 : Int) (x962 : Int) : Option (Int × List Int) :=
  (if (decide (x962 < 8)) then (if (decide ((iadd .i64 x660 x962) < (x1.length : Int))) then ((idx x1 (iadd .i64 x660 x962)).bind fun x981 => vn F rec116 x962 (iadd .i64 (imul .i64 2 x961) x981)) else vn F rec116 x962 (imul .i64 2 x961)) else qad F rec98 x660 x663 x961)
def ko (F : Nat) (rec98 : (Int × List Int) → Option (Int × List Int)) (x1 : List Int) (x660 : Int) (x663 : List Int) : Nat → (Int × Int) → Option (Int × List Int)
  | 0 => fun _ => none
  | k + 1 => fun s => qac F rec98 x1 x660 x663 (ko F rec98 x1 x660 x663 k) s.1 s.2
def qaU (F : Nat) (x1 : List Int) (rec98 : (Int × List Int) → Option (Int × List Int)) (x660 : Int) (x663 : List Int) : Option (Int × List Int) :=
  (if (decide (x660 < (x1.length : Int))) then ko F rec98 x1 x660 x663 F (0, 0) else qeA F x1 x663)
def qX (F : Nat) (x1 : List Int) : Nat → (Int × List Int) → Option (Int × List Int)
  | 0 => fun _ => none
  | k + 1 => fun s => qaU F x1 (qX F x1 k) s.1 s.2
def qdo (F : Nat) (x1 : List Int) : Option (Int × List Int) :=
  qX F x1 F (0, ([] : List Int))
def qff (_F : Nat) : Option Bool :=
  some true
def va (F : Nat) (x1 : List Int) (x4 : List Int) (rec3 : Int → Option Bool) (x154 : Int) : Option Bool :=
  (if (decide (x154 < (x1.length : Int))) then ((idx x1 x154).bind fun x218 => ((idx x4 x154).bind fun x222 => (if ((x218 : Int) != x222) then some false else rec3 (iadd .i64 x154 1)))) else qff F)
def kI (F : Nat) (x1 : List Int) (x4 : List Int) : Nat → Int → Option Bool
  | 0 => fun _ => none
  | k + 1 => fun s => va F x1 x4 (kI F x1 x4 k) s
def kV (F : Nat) (x1 : List Int) (x4 : List Int) : Option Bool :=
  (if (((x1.length : Int) : Int) != (x4.length : Int)) then some false else kI F x1 x4 F 0)
def qfe (_F : Nat) (x190 : List Int) : Option (List Int) :=
  some x190
def qdi (_F : Nat) (rec38 : (List Int × Int) → Option (List Int)) (x253 : Int) (x344 : List Int) : Option (List Int) :=
  rec38 (x344, iadd .i64 x253 1)
def qbx (F : Nat) (rec38 : (List Int × Int) → Option (List Int)) (x252 : List Int) (x253 : Int) (x357 : Int) : Option (List Int) :=
  ((app 8796093022208 x252 ([irem x357 2] : List Int)).bind fun x360 => qdi F rec38 x253 x360)
def qbw (F : Nat) (rec38 : (List Int × Int) → Option (List Int)) (x252 : List Int) (x253 : Int) (rec45 : (Int × Int) → Option (List Int)) (x365 : Int) (x366 : Int) : Option (List Int) :=
  (if (decide (x366 < (isub .i64 7 (irem x253 8)))) then rec45 (iquo .i64 x365 2, iadd .i64 x366 1) else qbx F rec38 x252 x253 x365)
def yZ (F : Nat) (rec38 : (List Int × Int) → Option (List Int)) (x252 : List Int) (x253 : Int) : Nat → (Int × Int) → Option (List Int)
  | 0 => fun _ => none
  | k + 1 => fun s => qbw F rec38 x252 x253 (yZ F rec38 x252 x253 k) s.1 s.2
def qbv (F : Nat) (x1 : Int) (x2 : List Int) (rec38 : (List Int × Int) → Option (List Int)) (x252 : List Int) (x253 : Int) : Option (List Int) :=
  (if (decide (x253 < x1)) then ((idx x2 (iquo .i64 x253 8)).bind fun x345 => yZ F rec38 x252 x253 F (iconv .i64 x345, 0)) else qfe F x252)
def zB (F : Nat) (x1 : Int) (x2 : List Int) : Nat → (List Int × Int) → Option (List Int)
  | 0 => fun _ => none
  | k + 1 => fun s => qbv F x1 x2 (zB F x1 x2 k) s.1 s.2
def js (F : Nat) (x1 : Int) (x2 : List Int) : Option (List Int) :=
  zB F x1 x2 F (([] : List Int), 0)
def qey (_F : Nat) : Option Int :=
  some 0
def qaO (F : Nat) (x12 : List Int) (rec4 : Int → Option Int) (x57 : Int) : Option Int :=
  (if (decide (x57 < (x12.length : Int))) then ((idx x12 x57).bind fun x74 => (if ((x74 : Int) != 0) then some 1 else rec4 (iadd .i64 x57 1))) else qey F)
def yA (F : Nat) (x12 : List Int) : Nat → Int → Option Int
  | 0 => fun _ => none
  | k + 1 => fun s => qaO F x12 (yA F x12 k) s
def v6 (F : Nat) (x1 : Int) (x2 : List Int) (x10 : Int) : Option Int :=
  (if (((x2.length : Int) : Int) != x10) then some 1 else ((js F (imul .i64 8 x10) x2).bind fun x12 => yA F x12 F x1))
def qbk (F : Nat) (x1 : Int) (x2 : List Int) : Option Int :=
  ((zE F x1 0 8192).bind fun x8 => (if (!x8) then some 3 else (if (decide (0 < (irem x1 8))) then v6 F x1 x2 (iadd .i64 (iquo .i64 x1 8) 1) else v6 F x1 x2 (iquo .i64 x1 8))))
def qa1 (_F : Nat) (x16 : Int) : Option Int :=
  some x16
def qcR (F : Nat) (x1 : Int) (x2 : Int) (x3 : Int) (x4 : Int) (x5 : Int) (x6 : List Int) : Option Int :=
  ((zE F x1 0 100).bind fun x12 => (if (!x12) then some 3 else ((qaQ F x2 x3 x4).bind fun x13 => (if ((x13 : Int) == 0) then ((qbk F x5 x6).bind fun x17 => qa1 F x17) else qa1 F x13))))
def qeD (_F : Nat) : Option (Int × Int) :=
  some (0, -1)
def qa8 (F : Nat) (x1 : List Int) (rec3 : (Int × Int) → Option (Int × Int)) (x80 : Int) (x81 : Int) : Option (Int × Int) :=
  (if (decide (x81 < (x1.length : Int))) then ((idx x1 x81).bind fun x114 => (if ((x114 : Int) == 1) then some (x80, iadd .i64 x81 1) else rec3 (iadd .u64 x80 1, iadd .i64 x81 1))) else qeD F)
def yJ (F : Nat) (x1 : List Int) : Nat → (Int × Int) → Option (Int × Int)
  | 0 => fun _ => none
  | k + 1 => fun s => qa8 F x1 (yJ F x1 k) s.1 s.2
def qbo (F : Nat) (x1 : List Int) (x4 : Int) : Option (Int × Int) :=
  yJ F x1 F (0, x4)
def qf2 (_F : Nat) (x37 : Int) : Option Int :=
  some x37
def qcM (F : Nat) (x1 : List Int) (rec3 : (Int × Int) → Option Int) (x48 : Int) (x49 : Int) : Option Int :=
  (if (decide (x49 < (x1.length : Int))) then ((idx x1 x49).bind fun x66 => (lett (iadd .u64 (imul .u64 2 x48) (iconv .u64 x66)) fun x69 => rec3 (x69, iadd .i64 x49 1))) else qf2 F x48)
def j5 (F : Nat) (x1 : List Int) : Nat → (Int × Int) → Option Int
  | 0 => fun _ => none
  | k + 1 => fun s => qcM F x1 (j5 F x1 k) s.1 s.2
def qeP (F : Nat) (x1 : List Int) : Option Int :=
  j5 F x1 F (0, 0)
def qds (F : Nat) (x1 : List Int) (x4 : Int) (x5 : Int) : Option (Int × Int × Int) :=
  (if (decide (63 < x5)) then some (0, 0, 3) else (if (decide ((x1.length : Int) < (iadd .i64 x4 (iconv .i64 x5)))) then some (0, 0, 7) else ((sub x1 x4 (iadd .i64 x4 (iconv .i64 x5))).bind fun x10 => ((app 8796093022208 ([1] : List Int) x10).bind fun x13 => ((qeP F x13).bind fun x16 => (if (decide (1099511627776 < (isub .u64 x16 1))) then some (0, 0, 3) else some (isub .u64 x16 1, iadd .i64 x4 (iconv .i64 x5), 0)))))))
def zZ (F : Nat) (x1 : List Int) (x4 : Int) : Option (Int × Int × Int) :=
  ((qbo F x1 x4).bind fun x5 => (if (decide (x5.2 < 0)) then some (0, 0, 7) else ((qds F x1 x5.2 x5.1).bind fun x7 => some (x7.1, x7.2.1, x7.2.2))))
def qb8 (_F : Nat) (x13 : Int) : Option Int :=
  some x13
def qb9 (F : Nat) (x7 : Int) (x16 : Bool) : Option Int :=
  (if x16 then qb8 F 3 else qb8 F x7)
def qd5 (F : Nat) (x1 : Int) (x2 : List Int) (x5 : Int) : Option Int :=
  ((qbk F x1 x2).bind fun x7 => (if ((x7 : Int) == 0) then ((zE F x5 0 x1).bind fun x18 => qb9 F x7 (!x18)) else qb9 F x7 false))
def qdI (_F : Nat) : Option Int :=
  some 0
def yu (_F : Nat) (rec13 : Int → Option Int) (x255 : Int) (x368 : Bool) : Option Int :=
  (if x368 then some 4 else rec13 (iadd .i64 x255 1))
def vT (F : Nat) (x1 : List Int) (rec13 : Int → Option Int) (x255 : Int) : Option Int :=
  (if (decide (x255 < (x1.length : Int))) then ((idx x1 x255).bind fun x355 => ((zE F x355 0 1048576).bind fun x358 => (if (!x358) then some 3 else (if (decide (0 < x255)) then ((idx x1 x255).bind fun x371 => ((idx x1 (isub .i64 x255 1)).bind fun x375 => yu F rec13 x255 (decide (x371 ≤ x375)))) else yu F rec13 x255 false)))) else qdI F)
def zD (F : Nat) (x1 : List Int) : Nat → Int → Option Int
  | 0 => fun _ => none
  | k + 1 => fun s => vT F x1 (zD F x1 k) s
def y9 (F : Nat) (x1 : List Int) : Option Int :=
  (if (decide (300 < (x1.length : Int))) then some 2 else zD F x1 F 0)
def qd6 (F : Nat) (x1 : Int) (x2 : List Int) (x5 : Int) (_x6 : Int) (_x7 : Int) : Option Int :=
  ((zE F x1 0 1048576).bind fun x11 => (if (!x11) then some 3 else (if (decide (0 < x5)) then ((y9 F x2).bind fun x14 => some x14) else some 0)))
def qbT (_F : Nat) (x1144 : List Int) : Option (List Int × Int) :=
  some (x1144, 0)
def jA (_F : Nat) (rec181 : (List Int × Int) → Option (List Int × Int)) (x1437 : Int) (x1873 : List Int) : Option (List Int × Int) :=
  rec181 (x1873, iadd .i64 x1437 1)
def jB (F : Nat) (rec181 : (List Int × Int) → Option (List Int × Int)) (x1 : List Int) (x1436 : List Int) (x1437 : Int) (x1940 : Int) : Option (List Int × Int) :=
  (if (((irem x1940 2) : Int) == 0) then ((idx x1 x1437).bind fun x1941 => ((app 8796093022208 x1436 ([x1941] : List Int)).bind fun x1946 => jA F rec181 x1437 x1946)) else jA F rec181 x1437 x1436)
def yN (F : Nat) (rec181 : (List Int × Int) → Option (List Int × Int)) (rec210 : (Int × Int) → Option (List Int × Int)) (x1 : List Int) (x4 : List Int) (x1436 : List Int) (x1437 : Int) (x1971 : Int) (x1972 : Int) (x2008 : Bool) : Option (List Int × Int) :=
  (if x2008 then ((idx x4 x1971).bind fun x2009 => rec210 (iadd .i64 x1971 1, iadd .i64 x1972 x2009)) else jB F rec181 x1 x1436 x1437 x1971)
def jy (F : Nat) (rec181 : (List Int × Int) → Option (List Int × Int)) (x1 : List Int) (x4 : List Int) (x1436 : List Int) (x1437 : Int) (rec210 : (Int × Int) → Option (List Int × Int)) (x1971 : Int) (x1972 : Int) : Option (List Int × Int) :=
  (if (decide (x1971 < (x4.length : Int))) then ((idx x4 x1971).bind fun x2013 => yN F rec181 rec210 x1 x4 x1436 x1437 x1971 x1972 (decide ((iadd .i64 x1972 x2013) ≤ x1437))) else yN F rec181 rec210 x1 x4 x1436 x1437 x1971 x1972 false)
def kf (F : Nat) (rec181 : (List Int × Int) → Option (List Int × Int)) (x1 : List Int) (x4 : List Int) (x1436 : List Int) (x1437 : Int) : Nat → (Int × Int) → Option (List Int × Int)
  | 0 => fun _ => none
  | k + 1 => fun s => jy F rec181 x1 x4 x1436 x1437 (kf F rec181 x1 x4 x1436 x1437 k) s.1 s.2
def jx (F : Nat) (x1 : List Int) (x4 : List Int) (rec181 : (List Int × Int) → Option (List Int × Int)) (x1436 : List Int) (x1437 : Int) : Option (List Int × Int) :=
  (if (decide (x1437 < (x1.length : Int))) then kf F rec181 x1 x4 x1436 x1437 F (0, 0) else qbT F x1436)
def qH (F : Nat) (x1 : List Int) (x4 : List Int) : Nat → (List Int × Int) → Option (List Int × Int)
  | 0 => fun _ => none
  | k + 1 => fun s => jx F x1 x4 (qH F x1 x4 k) s.1 s.2
def qb7 (F : Nat) (x1 : List Int) (x4 : List Int) (x268 : Int) : Option (List Int × Int) :=
  (if (decide ((x1.length : Int) < x268)) then some (([] : List Int), 8) else qH F x1 x4 F (([] : List Int), 0))
def jC (_F : Nat) (rec227 : (Int × Int) → Option (List Int × Int)) (x2104 : Int) (x2233 : Int) : Option (List Int × Int) :=
  rec227 (x2233, iadd .i64 x2104 1)
def jE (F : Nat) (rec227 : (Int × Int) → Option (List Int × Int)) (x4 : List Int) (x2104 : Int) (x2261 : Int) : Option (List Int × Int) :=
  (if (decide (x2261 < 1000)) then ((idx x4 x2104).bind fun x2262 => jC F rec227 x2104 (iadd .i64 x2261 x2262)) else jC F rec227 x2104 x2261)
def jD (F : Nat) (rec227 : (Int × Int) → Option (List Int × Int)) (x1 : List Int) (x4 : List Int) (x2103 : Int) (x2104 : Int) (x2256 : Bool) : Option (List Int × Int) :=
  (if x2256 then some (([] : List Int), 3) else ((idx x4 x2104).bind fun x2266 => (if (decide ((x1.length : Int) < x2266)) then jE F rec227 x4 x2104 1000 else jE F rec227 x4 x2104 x2103)))
def jz (F : Nat) (x1 : List Int) (x4 : List Int) (rec227 : (Int × Int) → Option (List Int × Int)) (x2103 : Int) (x2104 : Int) : Option (List Int × Int) :=
  (if (decide (x2104 < (x4.length : Int))) then ((idx x4 x2104).bind fun x2248 => (if (decide (x2248 < 0)) then jD F rec227 x1 x4 x2103 x2104 true else ((idx x4 x2104).bind fun x2271 => jD F rec227 x1 x4 x2103 x2104 (((x2271 : Int) == 0) && (decide (0 < x2104)))))) else qb7 F x1 x4 x2103)
def zz (F : Nat) (x1 : List Int) (x4 : List Int) : Nat → (Int × Int) → Option (List Int × Int)
  | 0 => fun _ => none
  | k + 1 => fun s => jz F x1 x4 (zz F x1 x4 k) s.1 s.2
def qcS (F : Nat) (x1 : List Int) (x4 : List Int) : Option (List Int × Int) :=
  ((y9 F x1).bind fun x7 => (if ((x7 : Int) != 0) then some (([] : List Int), x7) else (if (decide ((iadd .i64 (x1.length : Int) 1) < (x4.length : Int))) then some (([] : List Int), 2) else zz F x1 x4 F (0, 0))))
def v7 (F : Nat) (x10 : Int) : Option Int :=
  ((zE F x10 0 1048576).bind fun x13 => (if (!x13) then some (-1) else some x10))
def qb2 (F : Nat) (x1 : Int) (x2 : Int) (x3 : Bool) : Option Int :=
  (if (decide (4194304 < x1)) then some (-1) else (lett (iadd .i64 (iadd .i64 x2 (iconv .i64 x1)) 1) fun x5 => (if x3 then (lett (iadd .i64 x2 (iquo .i64 (iconv .i64 x1) 2)) fun x15 => (if (((irem x1 2) : Int) == 1) then (lett (isub .i64 (isub .i64 x2 (iquo .i64 (iconv .i64 x1) 2)) 1) fun x16 => v7 F x16) else v7 F x15)) else v7 F x5)))
def qez (_F : Nat) : Option (Int × Int) :=
  some (0, -1)
def qaS (F : Nat) (x1 : List Int) (x4 : Int) (x5 : Int) (x18 : Int) (rec5 : (Int × Int) → Option (Int × Int)) (x143 : Int) (x144 : Int) : Option (Int × Int) :=
  (if (decide (x144 ≤ x18)) then (if (((x144 : Int) == (isub .i64 x18 1)) && (decide (x143 < (isub .u64 (ishl .u64 1 x18) x5)))) then some (x143, iadd .i64 x4 x144) else (if ((x144 : Int) == x18) then (lett (isub .u64 x143 (isub .u64 (ishl .u64 1 x18) x5)) fun x196 => some (x196, iadd .i64 x4 x144)) else (if (decide ((x1.length : Int) ≤ (iadd .i64 x4 x144))) then some (0, -1) else ((idx x1 (iadd .i64 x4 x144)).bind fun x198 => (lett (iadd .u64 (imul .u64 2 x143) (iconv .u64 x198)) fun x201 => rec5 (x201, iadd .i64 x144 1)))))) else qez F)
def yD (F : Nat) (x1 : List Int) (x4 : Int) (x5 : Int) (x18 : Int) : Nat → (Int × Int) → Option (Int × Int)
  | 0 => fun _ => none
  | k + 1 => fun s => qaS F x1 x4 x5 x18 (yD F x1 x4 x5 x18 k) s.1 s.2
def qcw (F : Nat) (x1 : List Int) (x4 : Int) (x5 : Int) (x18 : Int) : Option (Int × Int) :=
  (chk (decide (0 ≤ x18)) (yD F x1 x4 x5 x18 F (0, 0)))
def qaT (F : Nat) (x1 : List Int) (x4 : Int) (x5 : Int) (rec6 : Int → Option (Int × Int)) (x208 : Int) : Option (Int × Int) :=
  (chk (decide (0 ≤ x208)) ((if (decide ((ishl .u64 1 x208) < x5)) then rec6 (iadd .i64 x208 1) else qcw F x1 x4 x5 x208)))
def yE (F : Nat) (x1 : List Int) (x4 : Int) (x5 : Int) : Nat → Int → Option (Int × Int)
  | 0 => fun _ => none
  | k + 1 => fun s => qaT F x1 x4 x5 (yE F x1 x4 x5 k) s
def qcQ (F : Nat) (x1 : List Int) (x4 : Int) (x5 : Int) : Option (Int × Int) :=
  yE F x1 x4 x5 F 0
def qdk (F : Nat) (x1 : List Int) (x5 : Int) (x6 : (Int × Int)) (x26 : Int) : Option (Int × Int × Int) :=
  (chk (decide (0 ≤ x5)) (((qcQ F x1 x6.2 (isub .u64 (ishl .u64 x26 x5) x26)).bind fun x28 => (if (decide (x28.2 < 0)) then some (0, 0, 7) else (if (decide (1099511627776 < (isub .u64 (iadd .u64 x26 x28.1) 1))) then some (0, 0, 3) else some (isub .u64 (iadd .u64 x26 x28.1) 1, x28.2, 0))))))
def qbG (F : Nat) (x1 : List Int) (x5 : Int) (x6 : (Int × Int)) (rec3 : (Int × Int) → Option (Int × Int × Int)) (x37 : Int) (x38 : Int) : Option (Int × Int × Int) :=
  (if (decide (x38 < x6.1)) then (chk (decide (0 ≤ x5)) (rec3 (ishl .u64 x37 x5, iadd .u64 x38 1))) else qdk F x1 x5 x6 x37)
def vd (F : Nat) (x1 : List Int) (x5 : Int) (x6 : (Int × Int)) : Nat → (Int × Int) → Option (Int × Int × Int)
  | 0 => fun _ => none
  | k + 1 => fun s => qbG F x1 x5 x6 (vd F x1 x5 x6 k) s.1 s.2
def qdr (F : Nat) (x1 : List Int) (x4 : Int) (x5 : Int) : Option (Int × Int × Int) :=
  ((qbo F x1 x4).bind fun x6 => (if (decide (x6.2 < 0)) then some (0, 0, 7) else (if ((decide (41 ≤ x6.1)) || (decide (41 ≤ (imul .i64 (iconv .i64 x6.1) x5)))) then some (0, 0, 3) else vd F x1 x5 x6 F (1, 0))))
def qdj (_F : Nat) (x56 : Int) (x59 : List Int) : Option (List Int × Int × Int) :=
  some (x59, x56, 0)
def qby (F : Nat) (x1 : List Int) (x6 : Int) (x7 : Int) (rec3 : (Int × Int × List Int) → Option (List Int × Int × Int)) (x75 : Int) (x76 : Int) (x79 : List Int) : Option (List Int × Int × Int) :=
  (if (decide ((x79.length : Int) < x7)) then ((qdr F x1 x75 x6).bind fun x95 => (if ((x95.2.2 : Int) != 0) then some (([] : List Int), 0, x95.2.2) else ((qb2 F x95.1 x76 (((x79.length : Int) : Int) == 0)).bind fun x97 => (if (decide (x97 < 0)) then some (([] : List Int), 0, 3) else ((app 8796093022208 x79 ([x97] : List Int)).bind fun x101 => rec3 (x95.2.1, x97, x101)))))) else qdj F x75 x79)
def y8 (F : Nat) (x1 : List Int) (x6 : Int) (x7 : Int) : Nat → (Int × Int × List Int) → Option (List Int × Int × Int)
  | 0 => fun _ => none
  | k + 1 => fun s => qby F x1 x6 x7 (y8 F x1 x6 x7 k) s.1 s.2.1 s.2.2
def qeQ (F : Nat) (x1 : List Int) (x4 : Int) (x5 : Int) (x6 : Int) (x7 : Int) : Option (List Int × Int × Int) :=
  y8 F x1 x6 x7 F (x4, x5, ([] : List Int))
def qdJ (_F : Nat) (x1812 : List Int) : Option (List Int) :=
  some x1812
def jR (_F : Nat) (rec158 : (List Int × Int) → Option (List Int)) (x2423 : Int) (x3321 : List Int) : Option (List Int) :=
  rec158 (x3321, iadd .i64 x2423 1)
def qbE (F : Nat) (rec158 : (List Int × Int) → Option (List Int)) (x1 : List Int) (x2422 : List Int) (x2423 : Int) (x3444 : Int) : Option (List Int) :=
  ((sub x2422 0 x3444).bind fun x3445 => ((idx x1 x2423).bind fun x3450 => ((sub x2422 x3444 (x2422.length : Int)).bind fun x3454 => ((app 8796093022208 ([] : List Int) x3445).bind fun x3461 => ((app 8796093022208 x3461 ([x3450] : List Int)).bind fun x3466 => ((app 8796093022208 x3466 x3454).bind fun x3469 => jR F rec158 x2423 x3469))))))
def qbF (F : Nat) (rec158 : (List Int × Int) → Option (List Int)) (rec187 : Int → Option (List Int)) (x1 : List Int) (x2422 : List Int) (x2423 : Int) (x3536 : Int) (x3607 : Bool) : Option (List Int) :=
  (if x3607 then rec187 (isub .i64 x3536 1) else qbE F rec158 x1 x2422 x2423 x3536)
def qbD (F : Nat) (rec158 : (List Int × Int) → Option (List Int)) (x1 : List Int) (x2422 : List Int) (x2423 : Int) (rec187 : Int → Option (List Int)) (x3536 : Int) : Option (List Int) :=
  (if (decide (0 < x3536)) then ((idx x2422 (isub .i64 x3536 1)).bind fun x3610 => ((idx x1 x2423).bind fun x3614 => qbF F rec158 rec187 x1 x2422 x2423 x3536 (decide (x3614 < x3610)))) else qbF F rec158 rec187 x1 x2422 x2423 x3536 false)
def yl (F : Nat) (rec158 : (List Int × Int) → Option (List Int)) (x1 : List Int) (x2422 : List Int) (x2423 : Int) : Nat → Int → Option (List Int)
  | 0 => fun _ => none
  | k + 1 => fun s => qbD F rec158 x1 x2422 x2423 (yl F rec158 x1 x2422 x2423 k) s
def qbC (F : Nat) (x1 : List Int) (rec158 : (List Int × Int) → Option (List Int)) (x2422 : List Int) (x2423 : Int) : Option (List Int) :=
  (if (decide (x2423 < (x1.length : Int))) then yl F rec158 x1 x2422 x2423 F (x2422.length : Int) else qdJ F x2422)
def qP (F : Nat) (x1 : List Int) : Nat → (List Int × Int) → Option (List Int)
  | 0 => fun _ => none
  | k + 1 => fun s => qbC F x1 (qP F x1 k) s.1 s.2
def qeT (F : Nat) (x1 : List Int) : Option (List Int) :=
  qP F x1 F (([] : List Int), 0)
def vr (F : Nat) (x1 : List Int) (x5 : Int) (x11 : Int) (x13 : (Int × Int × Int)) (x898 : Int) (x901 : List Int) : Option (List Int × Bool) :=
  ((qeQ F x1 x898 x5 x11 (isub .i64 (iconv .i64 x13.1) (x901.length : Int))).bind fun x902 => (if ((x902.2.2 : Int) != 0) then some (([] : List Int), false) else ((app 8796093022208 x901 x902.1).bind fun x906 => ((qeT F x906).bind fun x909 => some (x909, true)))))
def qce (_F : Nat) (rec64 : (Int × List Int × Int × Int) → Option (List Int × Bool)) (x1143 : Int) (x1474 : Int) (x1477 : List Int) (x1478 : Int) : Option (List Int × Bool) :=
  rec64 (x1474, x1477, x1478, iadd .u64 x1143 1)
def vu (F : Nat) (rec64 : (Int × List Int × Int × Int) → Option (List Int × Bool)) (x10 : Int) (x13 : (Int × Int × Int)) (x1143 : Int) (x1483 : (Int × Int × Int)) (x1490 : Int) (x1537 : List Int) : Option (List Int × Bool) :=
  (lett (isub .i64 (iadd .i64 (iadd .i64 x1490 (iconv .i64 x1483.1)) x10) 1) fun x1538 => (if (decide ((iconv .i64 x13.1) < (x1537.length : Int))) then some (([] : List Int), false) else qce F rec64 x1143 x1483.2.1 x1537 x1538))
def qah (F : Nat) (rec64 : (Int × List Int × Int × Int) → Option (List Int × Bool)) (x10 : Int) (x13 : (Int × Int × Int)) (x1143 : Int) (x1483 : (Int × Int × Int)) (x1490 : Int) (rec73 : (List Int × Int) → Option (List Int × Bool)) (x1554 : List Int) (x1555 : Int) : Option (List Int × Bool) :=
  (if (decide (x1555 < (iadd .i64 (iconv .i64 x1483.1) x10))) then ((app 8796093022208 x1554 ([iadd .i64 x1490 x1555] : List Int)).bind fun x1577 => rec73 (x1577, iadd .i64 x1555 1)) else vu F rec64 x10 x13 x1143 x1483 x1490 x1554)
def ku (F : Nat) (rec64 : (Int × List Int × Int × Int) → Option (List Int × Bool)) (x10 : Int) (x13 : (Int × Int × Int)) (x1143 : Int) (x1483 : (Int × Int × Int)) (x1490 : Int) : Nat → (List Int × Int) → Option (List Int × Bool)
  | 0 => fun _ => none
  | k + 1 => fun s => qah F rec64 x10 x13 x1143 x1483 x1490 (ku F rec64 x10 x13 x1143 x1483 x1490 k) s.1 s.2
def vt (F : Nat) (rec64 : (Int × List Int × Int × Int) → Option (List Int × Bool)) (x10 : Int) (x13 : (Int × Int × Int)) (x1141 : List Int) (x1143 : Int) (x1483 : (Int × Int × Int)) (x1490 : Int) : Option (List Int × Bool) :=
  (if ((decide (x1490 < 0)) || (decide (1048576 < x1490))) then some (([] : List Int), false) else ku F rec64 x10 x13 x1143 x1483 x1490 F (x1141, 0))
def qag (F : Nat) (x1 : List Int) (x5 : Int) (x10 : Int) (x11 : Int) (x13 : (Int × Int × Int)) (x913 : (Int × Int × Int)) (rec64 : (Int × List Int × Int × Int) → Option (List Int × Bool)) (x1138 : Int) (x1141 : List Int) (x1142 : Int) (x1143 : Int) : Option (List Int × Bool) :=
  (if (decide (x1143 < x913.1)) then ((zZ F x1 x1138).bind fun x1479 => (if (((x1479.2.2 : Int) != 0) || (decide (4194304 < x1479.1))) then some (([] : List Int), false) else ((zZ F x1 x1479.2.1).bind fun x1483 => (if (((x1483.2.2 : Int) != 0) || (decide (1000 < x1483.1))) then some (([] : List Int), false) else (lett (iadd .i64 (iadd .i64 x1142 (iconv .i64 x1479.1)) 2) fun x1487 => (if ((x1143 : Int) == 0) then ((qb2 F x1479.1 x5 true).bind fun x1582 => vt F rec64 x10 x13 x1141 x1143 x1483 x1582) else vt F rec64 x10 x13 x1141 x1143 x1483 x1487)))))) else vr F x1 x5 x11 x13 x1138 x1141)
def qI (F : Nat) (x1 : List Int) (x5 : Int) (x10 : Int) (x11 : Int) (x13 : (Int × Int × Int)) (x913 : (Int × Int × Int)) : Nat → (Int × List Int × Int × Int) → Option (List Int × Bool)
  | 0 => fun _ => none
  | k + 1 => fun s => qag F x1 x5 x10 x11 x13 x913 (qI F x1 x5 x10 x11 x13 x913 k) s.1 s.2.1 s.2.2.1 s.2.2.2
def vq (F : Nat) (x1 : List Int) (x5 : Int) (x10 : Int) (x11 : Int) (x13 : (Int × Int × Int)) (x217 : Int) (x220 : List Int) : Option (List Int × Bool) :=
  (if (((x220.length : Int) : Int) == (iconv .i64 x13.1)) then some (x220, true) else (if (decide (0 < x10)) then ((zZ F x1 x217).bind fun x913 => (if (((x913.2.2 : Int) != 0) || (decide (300 < x913.1))) then some (([] : List Int), false) else qI F x1 x5 x10 x11 x13 x913 F (x913.2.1, x220, x5, 0))) else vr F x1 x5 x11 x13 x217 x220))
def vv (F : Nat) (x1 : List Int) (x5 : Int) (x6 : List Int) (x10 : Int) (x11 : Int) (x13 : (Int × Int × Int)) (x1686 : Int) (x1689 : List Int) : Option (List Int × Bool) :=
  ((qcS F x6 x1689).bind fun x1690 => (if (((x1690.2 : Int) != 0) || (decide ((iconv .i64 x13.1) < (x1690.1.length : Int)))) then some (([] : List Int), false) else vq F x1 x5 x10 x11 x13 x1686 x1690.1))
def vw (_F : Nat) (rec86 : (Int × List Int × Int) → Option (List Int × Bool)) (x1727 : List Int) (x1728 : Int) (x1772 : (Int × Int × Int)) (x1777 : Int) : Option (List Int × Bool) :=
  ((app 8796093022208 x1727 ([iconv .i64 x1777] : List Int)).bind fun x1780 => rec86 (x1772.2.1, x1780, iadd .u64 x1728 1))
def qai (F : Nat) (x1 : List Int) (x5 : Int) (x6 : List Int) (x10 : Int) (x11 : Int) (x13 : (Int × Int × Int)) (x1590 : (Int × Int × Int)) (rec86 : (Int × List Int × Int) → Option (List Int × Bool)) (x1724 : Int) (x1727 : List Int) (x1728 : Int) : Option (List Int × Bool) :=
  (if (decide (x1728 < x1590.1)) then ((zZ F x1 x1724).bind fun x1772 => (if (((x1772.2.2 : Int) != 0) || (decide (1000 < x1772.1))) then some (([] : List Int), false) else (if (decide (0 < x1728)) then vw F rec86 x1727 x1728 x1772 (iadd .u64 x1772.1 1) else vw F rec86 x1727 x1728 x1772 x1772.1))) else vv F x1 x5 x6 x10 x11 x13 x1724 x1727)
def zY (F : Nat) (x1 : List Int) (x5 : Int) (x6 : List Int) (x10 : Int) (x11 : Int) (x13 : (Int × Int × Int)) (x1590 : (Int × Int × Int)) : Nat → (Int × List Int × Int) → Option (List Int × Bool)
  | 0 => fun _ => none
  | k + 1 => fun s => qai F x1 x5 x6 x10 x11 x13 x1590 (zY F x1 x5 x6 x10 x11 x13 x1590 k) s.1 s.2.1 s.2.2
def qcY (F : Nat) (x1 : List Int) (x4 : Int) (x5 : Int) (x6 : List Int) (x9 : Int) (x10 : Int) (x11 : Int) : Option (List Int × Bool) :=
  ((zZ F x1 x4).bind fun x13 => (if (((x13.2.2 : Int) != 0) || (decide (300 < x13.1))) then some (([] : List Int), false) else (if ((x13.1 : Int) == 0) then some (([] : List Int), true) else (if (decide (0 < x9)) then ((zZ F x1 x13.2.1).bind fun x1590 => (if (((x1590.2.2 : Int) != 0) || (decide ((iconv .u64 (iadd .i64 (x6.length : Int) 1)) < x1590.1))) then some (([] : List Int), false) else zY F x1 x5 x6 x10 x11 x13 x1590 F (x1590.2.1, ([] : List Int), 0))) else vq F x1 x5 x10 x11 x13 x13.2.1 ([] : List Int)))))
def jU (_F : Nat) (x5 : Int) (x26 : (List Int × Bool)) (x37 : List Int) (x56 : Bool) : Option (List Int × Int × Int) :=
  (if x56 then some (([] : List Int), 0, 1) else some (x26.1, iadd .i64 x5 (x37.length : Int), 0))
def vb (F : Nat) (x5 : Int) (x6 : Int) (x7 : List Int) (x10 : Int) (x11 : Int) (x12 : Int) (x23 : List Int) (x26 : (List Int × Bool)) (x36 : Bool) : Option (List Int × Int × Int) :=
  (if x36 then some (([] : List Int), 0, 1) else ((qcd F x6 x26.1 x7 x10 x11 x12).bind fun x37 => (if (decide ((isub .i64 (x23.length : Int) x5) < (x37.length : Int))) then jU F x5 x26 x37 true else ((sub x23 x5 (iadd .i64 x5 (x37.length : Int))).bind fun x58 => ((kV F x58 x37).bind fun x61 => jU F x5 x26 x37 (!x61))))))
def jT (F : Nat) (x1 : Int) (x2 : List Int) (x5 : Int) (x6 : Int) (x7 : List Int) (x10 : Int) (x11 : Int) (x12 : Int) (x21 : Int) : Option (List Int × Int × Int) :=
  (if ((x21 : Int) != 0) then some (([] : List Int), 0, x21) else ((js F x1 x2).bind fun x23 => ((qcY F x23 x5 x6 x7 x10 x11 x12).bind fun x26 => (if (!x26.2) then vb F x5 x6 x7 x10 x11 x12 x23 x26 true else ((y9 F x26.1).bind fun x63 => vb F x5 x6 x7 x10 x11 x12 x23 x26 ((x63 : Int) != 0))))))
def jS (F : Nat) (x1 : Int) (x2 : List Int) (x5 : Int) (x6 : Int) (x7 : List Int) (x10 : Int) (x11 : Int) (x12 : Int) (x18 : Int) : Option (List Int × Int × Int) :=
  (if ((x18 : Int) == 0) then ((qd6 F x6 x7 x10 x11 x12).bind fun x65 => jT F x1 x2 x5 x6 x7 x10 x11 x12 x65) else jT F x1 x2 x5 x6 x7 x10 x11 x12 x18)
def qa6 (F : Nat) (x1 : Int) (x2 : List Int) (x5 : Int) (x6 : Int) (x7 : List Int) (x10 : Int) (x11 : Int) (x12 : Int) : Option (List Int × Int × Int) :=
  ((qaQ F x10 x11 x12).bind fun x15 => (if ((x15 : Int) == 0) then ((qd5 F x1 x2 x5).bind fun x67 => jS F x1 x2 x5 x6 x7 x10 x11 x12 x67) else jS F x1 x2 x5 x6 x7 x10 x11 x12 x15))
def qaY (_F : Nat) (x315 : List (List Int)) (x330 : Bool) : Option (List (List Int) × Int) :=
  (if x330 then some (([] : List (List Int)), 1) else some (x315, 0))
def yF (F : Nat) (x2 : Int) (x3 : Int) (x4 : Int) (x13 : List Int) (x315 : List (List Int)) : Option (List (List Int) × Int) :=
  ((qbm F x315 x2 x3 x4).bind fun x316 => (if ((x316.2.2.2 : Int) != 0) then qaY F x315 true else ((kV F x316.1 x13).bind fun x332 => qaY F x315 (!x332))))
def jc (_F : Nat) (rec22 : (Int × Int × List (List Int)) → Option (List (List Int) × Int)) (x436 : Int) (x580 : Int) (x583 : List (List Int)) : Option (List (List Int) × Int) :=
  rec22 (x580, iadd .i64 x436 1, x583)
def jd (F : Nat) (rec22 : (Int × Int × List (List Int)) → Option (List (List Int) × Int)) (x3 : Int) (x4 : Int) (x5 : Int) (x6 : List Int) (x436 : Int) (x439 : List (List Int)) (x589 : Int) (x590 : Int) : Option (List (List Int) × Int) :=
  (if (decide (0 < x590)) then ((idx x439 (isub .i64 x436 (iconv .i64 x590))).bind fun x597 => ((qa6 F x5 x6 x589 x436 x597 (iconv .i64 x590) x3 x4).bind fun x602 => (if ((x602.2.2 : Int) != 0) then some (([] : List (List Int)), 1) else ((app 2199023255552 x439 ([x602.1] : List (List Int))).bind fun x608 => jc F rec22 x436 x602.2.1 x608)))) else ((qa6 F x5 x6 x589 x436 ([] : List Int) (iconv .i64 x590) x3 x4).bind fun x612 => (if ((x612.2.2 : Int) != 0) then some (([] : List (List Int)), 1) else ((app 2199023255552 x439 ([x612.1] : List (List Int))).bind fun x618 => jc F rec22 x436 x612.2.1 x618))))
def qaX (F : Nat) (x1 : Int) (x2 : Int) (x3 : Int) (x4 : Int) (x5 : Int) (x6 : List Int) (x13 : List Int) (rec22 : (Int × Int × List (List Int)) → Option (List (List Int) × Int)) (x435 : Int) (x436 : Int) (x439 : List (List Int)) : Option (List (List Int) × Int) :=
  (if (decide (x436 < x1)) then (if (decide (0 < x2)) then ((zZ F x13 x435).bind fun x623 => (if ((((x623.2.2 : Int) != 0) || (decide ((iconv .u64 x2) < x623.1))) || (decide (x436 < (iconv .i64 x623.1)))) then some (([] : List (List Int)), 1) else jd F rec22 x3 x4 x5 x6 x436 x439 x623.2.1 x623.1)) else jd F rec22 x3 x4 x5 x6 x436 x439 x435 0) else yF F x2 x3 x4 x13 x439)
def zn (F : Nat) (x1 : Int) (x2 : Int) (x3 : Int) (x4 : Int) (x5 : Int) (x6 : List Int) (x13 : List Int) : Nat → (Int × Int × List (List Int)) → Option (List (List Int) × Int)
  | 0 => fun _ => none
  | k + 1 => fun s => qaX F x1 x2 x3 x4 x5 x6 x13 (zn F x1 x2 x3 x4 x5 x6 x13 k) s.1 s.2.1 s.2.2
def qdp (F : Nat) (x1 : Int) (x2 : Int) (x3 : Int) (x4 : Int) (x5 : Int) (x6 : List Int) : Option (List (List Int) × Int) :=
  ((qcR F x1 x2 x3 x4 x5 x6).bind fun x11 => (if ((x11 : Int) != 0) then some (([] : List (List Int)), x11) else ((js F x5 x6).bind fun x13 => zn F x1 x2 x3 x4 x5 x6 x13 F (0, 0, ([] : List (List Int))))))
def qeC (_F : Nat) : Option Bool :=
  some true
def qa3 (F : Nat) (x1 : List (List Int)) (x4 : List (List Int)) (rec3 : Int → Option Bool) (x202 : Int) : Option Bool :=
  (if (decide (x202 < (x1.length : Int))) then ((idx x1 x202).bind fun x287 => ((idx x4 x202).bind fun x292 => ((kV F x287 x292).bind fun x297 => (if (!x297) then some false else rec3 (iadd .i64 x202 1))))) else qeC F)
def yH (F : Nat) (x1 : List (List Int)) (x4 : List (List Int)) : Nat → Int → Option Bool
  | 0 => fun _ => none
  | k + 1 => fun s => qa3 F x1 x4 (yH F x1 x4 k) s
def qcV (F : Nat) (x1 : List (List Int)) (x4 : List (List Int)) : Option Bool :=
  (if (((x1.length : Int) : Int) != (x4.length : Int)) then some false else yH F x1 x4 F 0)
def qbn (F : Nat) (x1 : List (List Int)) (x4 : List (List Int)) : Option Bool :=
  ((qcV F x1 x4).bind fun x9 => some x9)
def j4 (_F : Nat)  : Option (List (List Int)) :=
  some ([([1, 2, 3, 5] : List Int), ([1, 2, 3, 5] : List Int), ([0, 1, 2, 3, 5] : List Int), ([] : List Int), ([4] : List Int), ([1, 2, 3] : List Int)] : List (List Int))
def qW (_F : Nat) (x78 : Bool) : Option Bool :=
  some x78
def vZ (F : Nat) (x21 : Int) (x22 : Int) (x23 : Int) (x24 : Int) (x25 : Int) (x26 : Int) (x29 : List Int) : Option Bool :=
  ((qb3 F x22 x23 x24 x25 x26 x29).bind fun x30 => ((j4 F).bind fun x42 => ((qdc F x42 3 3 2).bind fun x45 => ((qb3 F 1 3 3 2 0 ([] : List Int)).bind fun x50 => (if ((x21 : Int) == 0) then (if ((x22 : Int) == 6) then (if (((x23 : Int) == 3) && (((x24 : Int) == 3) && ((x25 : Int) == 2))) then ((j4 F).bind fun x82 => ((qbn F x30.1 x82).bind fun x85 => (if x85 then (if ((x30.2 : Int) == 0) then (if (((x45.1.length : Int) : Int) == 6) then ((idx x45.1 0).bind fun x89 => (if ((x89 : Int) == 0) then ((idx x45.1 1).bind fun x93 => (if ((x93 : Int) == 1) then (if (((x45.2.1.length : Int) : Int) == 6) then ((idx x45.2.1 0).bind fun x98 => (if ((x98 : Int) == 0) then (if ((x45.2.2 : Int) == 0) then qW F ((x50.2 : Int) == 1) else qW F false) else qW F false)) else qW F false) else qW F false)) else qW F false)) else qW F false) else qW F false) else qW F false))) else qW F false) else qW F false) else qW F false)))))
def qcL (F : Nat)  : Option Bool :=
  ((j4 F).bind fun x103 => ((vB F x103 3 3 2).bind fun x106 => vZ F x106.2.2.2.2.2.2 x106.1 x106.2.1 x106.2.2.1 x106.2.2.2.1 x106.2.2.2.2.1 x106.2.2.2.2.2.1))
def qeB (_F : Nat) : Option Bool :=
  some true
def qa2 (F : Nat) (x1 : List Int) (x4 : List Int) (rec3 : Int → Option Bool) (x154 : Int) : Option Bool :=
  (if (decide (x154 < (x1.length : Int))) then ((idx x1 x154).bind fun x218 => ((idx x4 x154).bind fun x222 => (if ((x218 : Int) != x222) then some false else rec3 (iadd .i64 x154 1)))) else qeB F)
def yG (F : Nat) (x1 : List Int) (x4 : List Int) : Nat → Int → Option Bool
  | 0 => fun _ => none
  | k + 1 => fun s => qa2 F x1 x4 (yG F x1 x4 k) s
def qcU (F : Nat) (x1 : List Int) (x4 : List Int) : Option Bool :=
  (if (((x1.length : Int) : Int) != (x4.length : Int)) then some false else yG F x1 x4 F 0)
def jQ (_F : Nat) (x13 : Bool) : Option Bool :=
  some x13
def qcb (F : Nat) (x1 : Int) (x2 : List Int) (x5 : Int) (x6 : List Int) : Option Bool :=
  (if ((x1 : Int) == x5) then ((qcU F x2 x6).bind fun x14 => jQ F x14) else jQ F false)
def vp (_F : Nat) (x22 : Bool) : Option Bool :=
  some x22
def qcc (F : Nat) (x1 : Int) (x2 : Int) (x3 : Int) (x4 : Int) (x5 : Int) (x6 : List Int) (x9 : Int) (x10 : Int) (x11 : Int) (x12 : Int) (x13 : Int) (x14 : List Int) : Option Bool :=
  (if (((x1 : Int) == x9) && (((x2 : Int) == x10) && (((x3 : Int) == x11) && ((x4 : Int) == x12)))) then ((qcb F x5 x6 x13 x14).bind fun x23 => vp F x23) else vp F false)
def qaN (_F : Nat) (x26 : (List Int × List Int × Int)) (x31 : (List Int × List Int × List Int × Int)) (x69 : Bool) : Option Bool :=
  some (x69 && ((x26.2.2 : Int) == x31.2.2.2))
def vY (F : Nat) (x26 : (List Int × List Int × Int)) (x31 : (List Int × List Int × List Int × Int)) (x66 : Bool) : Option Bool :=
  (if x66 then ((kV F x26.2.1 x31.2.2.1).bind fun x71 => qaN F x26 x31 x71) else qaN F x26 x31 false)
def vX (F : Nat) (x22 : (List (List Int) × Int)) (x26 : (List Int × List Int × Int)) (x31 : (List Int × List Int × List Int × Int)) (x51 : (List (List Int) × Int)) (x62 : Bool) : Option Bool :=
  (if (x62 && ((x22.2 : Int) == x51.2)) then ((kV F x26.1 x31.2.1).bind fun x72 => vY F x26 x31 x72) else vY F x26 x31 false)
def vW (F : Nat) (x18 : (Int × Int × Int × Int × Int × List Int × Int)) (x22 : (List (List Int) × Int)) (x26 : (List Int × List Int × Int)) (x31 : (List Int × List Int × List Int × Int)) (x51 : (List (List Int) × Int)) (x58 : Bool) : Option Bool :=
  (if (x58 && ((x18.2.2.2.2.2.2 : Int) == x31.2.2.2)) then ((qbn F x22.1 x51.1).bind fun x73 => vX F x22 x26 x31 x51 x73) else vX F x22 x26 x31 x51 false)
def vV (F : Nat) (x7 : Int) (x8 : Int) (x9 : Int) (x10 : Int) (x11 : Int) (x12 : List Int) (x18 : (Int × Int × Int × Int × Int × List Int × Int)) (x22 : (List (List Int) × Int)) (x26 : (List Int × List Int × Int)) (x31 : (List Int × List Int × List Int × Int)) (x43 : Int) (x44 : Int) (x45 : Int) (x46 : Int) (x47 : Int) (x50 : List Int) : Option Bool :=
  ((qdp F x7 x8 x9 x10 x11 x12).bind fun x51 => ((qcL F).bind fun x55 => (if x55 then ((qcc F x18.1 x18.2.1 x18.2.2.1 x18.2.2.2.1 x18.2.2.2.2.1 x18.2.2.2.2.2.1 x43 x44 x45 x46 x47 x50).bind fun x74 => vW F x18 x22 x26 x31 x51 x74) else vW F x18 x22 x26 x31 x51 false)))
def qem (F : Nat) (x1 : List (List Int)) (x4 : Int) (x5 : Int) (x6 : Int) (x7 : Int) (x8 : Int) (x9 : Int) (x10 : Int) (x11 : Int) (x12 : List Int) : Option Bool :=
  ((vB F x1 x4 x5 x6).bind fun x18 => ((qb3 F x7 x8 x9 x10 x11 x12).bind fun x22 => ((qdc F x1 x4 x5 x6).bind fun x26 => ((qbm F x1 x4 x5 x6).bind fun x31 => (if ((x31.2.2.2 : Int) == 0) then ((qdo F x31.1).bind fun x75 => vV F x7 x8 x9 x10 x11 x12 x18 x22 x26 x31 (x1.length : Int) x4 x5 x6 x75.1 x75.2) else vV F x7 x8 x9 x10 x11 x12 x18 x22 x26 x31 0 0 0 0 0 ([] : List Int))))))
end Go.Proofs.YtpnfijegoepiaaaGreat
