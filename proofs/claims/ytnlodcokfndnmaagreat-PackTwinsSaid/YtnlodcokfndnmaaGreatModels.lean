/- What each Go function of this seat computes, in plain terms. -/
import Derived.Test.YtnlodcokfndnmaaGreatSy
namespace Go.Proofs.YtnlodcokfndnmaaGreat
open Go SX
def jA (_F : Nat) (x798 : Int) : Option Int :=
  (if (decide (600 < x798)) then some 2 else some 0)
def jB (_F : Nat) (rec38 : (Int × Int) → Option Int) (x1065 : Int) (x1461 : Int) : Option Int :=
  rec38 (x1461, iadd .i64 x1065 1)
def vr (F : Nat) (rec38 : (Int × Int) → Option Int) (x1064 : Int) (x1065 : Int) (x1462 : List Int) : Option Int :=
  jB F rec38 x1065 (iadd .i64 x1064 (x1462.length : Int))
def vq (F : Nat) (rec38 : (Int × Int) → Option Int) (x1 : List (List Int)) (x1064 : Int) (x1065 : Int) (x1462 : List Int) (rec45 : (Int × Int) → Option Int) (x1549 : Int) (x1550 : Int) : Option Int :=
  (if (decide (x1550 < (x1462.length : Int))) then ((idx x1462 x1550).bind fun x1582 => (if ((decide (x1582 < 0)) || (decide ((x1.length : Int) ≤ x1582))) then some 3 else (if (decide (x1582 ≤ x1549)) then some 4 else rec45 (x1582, iadd .i64 x1550 1)))) else vr F rec38 x1064 x1065 x1462)
def kq (F : Nat) (rec38 : (Int × Int) → Option Int) (x1 : List (List Int)) (x1064 : Int) (x1065 : Int) (x1462 : List Int) : Nat → (Int × Int) → Option Int
  | 0 => fun _ => none
  | k + 1 => fun s => vq F rec38 x1 x1064 x1065 x1462 (kq F rec38 x1 x1064 x1065 x1462 k) s.1 s.2
def vp (F : Nat) (x1 : List (List Int)) (rec38 : (Int × Int) → Option Int) (x1064 : Int) (x1065 : Int) : Option Int :=
  (if (decide (x1065 < (x1.length : Int))) then ((idx x1 x1065).bind fun x1462 => kq F rec38 x1 x1064 x1065 x1462 F (-1, 0)) else jA F x1064)
def qL (F : Nat) (x1 : List (List Int)) : Nat → (Int × Int) → Option Int
  | 0 => fun _ => none
  | k + 1 => fun s => vp F x1 (qL F x1 k) s.1 s.2
def j3 (F : Nat) (x1 : List (List Int)) : Option Int :=
  (if (decide (100 < (x1.length : Int))) then some 2 else qL F x1 F (0, 0))
def vT (_F : Nat) (x1 : Int) (x2 : Int) (x3 : Int) : Option Int :=
  (if (((((((decide (x1 < 0)) || (decide (7 < x1))) || (decide (x2 < 0))) || ((x2 : Int) == 1)) || (decide (300 < x2))) || (decide (x3 < 1))) || (decide (16 < x3))) then some 3 else some 0)
def kf (_F : Nat) (x1 : List Int) : Option (List Int) :=
  ((app 70368744177664 ([] : List Int) x1).bind fun x8 => some x8)
def qav (F : Nat) (x1 : Int) (x2 : List Int) : Option (Int × List Int) :=
  ((kf F x2).bind fun x10 => some (x1, x10))
def qaY (_F : Nat) (_x1 : Int) (_x2 : List Int) (_x5 : Int) (_x6 : Int) : Option Unit :=
  some ()
def kh (_F : Nat) (x2 : Int) (x6 : Int) (x15 : List Int) : Option (Int × List Int) :=
  ((idx x15 (iquo .i64 x2 8)).bind fun x30 => (chk (decide (0 ≤ (irem x2 8))) (((idx x15 (iquo .i64 x2 8)).bind fun _x36 => (lett (x15.set (iquo .i64 x2 8).toNat (ior .u8 x30 (ishr .u8 (iconv .u8 (ishl .u64 x6 7)) (irem x2 8)))) fun x41 => some (iadd .i64 x2 1, x41))))))
def ye (F : Nat) (x2 : Int) (x3 : List Int) (x6 : Int) : Option (Int × List Int) :=
  (if (((irem x2 8) : Int) == 0) then ((app 70368744177664 x3 ([0] : List Int)).bind fun x46 => kh F x2 x6 x46) else kh F x2 x6 x3)
def vS (_F : Nat) (_x1 : Int) (x2 : List Int) (x5 : Int) : Option Int :=
  ((idx x2 (iquo .i64 x5 8)).bind fun x7 => (chk (decide (0 ≤ (isub .i64 7 (irem x5 8)))) ((lett (iand .u64 (iconv .u64 (ishr .u8 x7 (isub .i64 7 (irem x5 8)))) 1) fun x11 => some x11))))
def yL {σ τ : Type} (F : Nat) (yy : σ → Int → Option (σ ⊕ τ)) (x4 : Int) (x6 : Int) (x7 : List Int) (rec1 : (Int × σ) → Option (σ ⊕ τ)) (x22 : Int) (x23 : σ) : Option (σ ⊕ τ) :=
  (if (decide (x22 < x4)) then ((vS F x6 x7 x22).bind fun x44 => ((yy x23 x44).bind (Sum.elim (fun x45 => rec1 (iadd .i64 x22 1, x45)) (fun x46 => some (.inr x46))))) else some (.inl x23))
def zn {σ τ : Type} (F : Nat) (yy : σ → Int → Option (σ ⊕ τ)) (x4 : Int) (x6 : Int) (x7 : List Int) : Nat → (Int × σ) → Option (σ ⊕ τ)
  | 0 => fun _ => none
  | k + 1 => fun s => yL F yy x4 x6 x7 (zn F yy x4 x6 x7 k) s.1 s.2
def qaf {σ τ : Type} (F : Nat) (yy : σ → Int → Option (σ ⊕ τ)) (x2 : Int) (x4 : Int) (x6 : Int) (x7 : List Int) (s0 : σ) : Option (σ ⊕ τ) :=
  zn F yy x4 x6 x7 F (x2, s0)
def vJ (F : Nat) (x45 : Int) (x48 : List Int) (x53 : Int) : Option ((Int × List Int) ⊕ Empty) :=
  ((ye F x45 x48 x53).bind fun x54 => some (.inl (x54.1, x54.2)))
def yG (F : Nat) (x1 : Int) (x2 : List Int) (x5 : Int) (x6 : List Int) : Option (Int × List Int) :=
  ((qav F x1 x2).bind fun x12 => ((qaY F x5 x6 0 x5).bind fun _x37 => ((qaf F (fun ((x45, x48) : (Int × List Int)) (x53 : Int) => vJ F x45 x48 x53) 0 x5 x5 x6 (x12.1, x12.2)).bind (Sum.elim (fun ((x45, x48) : (Int × List Int)) => some (x45, x48)) (fun t => t.elim)))))
def kn (_F : Nat) (x9 : Int) (x10 : Int) : Option Int :=
  ((idx ([0, 1, 2, 2, 3, 3, 3, 3, 4, 4, 4, 4, 4, 4, 4, 4, 5, 5, 5, 5, 5, 5, 5, 5, 5, 5, 5, 5, 5, 5, 5, 5, 6, 6, 6, 6, 6, 6, 6, 6, 6, 6, 6, 6, 6, 6, 6, 6, 6, 6, 6, 6, 6, 6, 6, 6, 6, 6, 6, 6, 6, 6, 6, 6, 7, 7, 7, 7, 7, 7, 7, 7, 7, 7, 7, 7, 7, 7, 7, 7, 7, 7, 7, 7, 7, 7, 7, 7, 7, 7, 7, 7, 7, 7, 7, 7, 7, 7, 7, 7, 7, 7, 7, 7, 7, 7, 7, 7, 7, 7, 7, 7, 7, 7, 7, 7, 7, 7, 7, 7, 7, 7, 7, 7, 7, 7, 7, 7, 8, 8, 8, 8, 8, 8, 8, 8, 8, 8, 8, 8, 8, 8, 8, 8, 8, 8, 8, 8, 8, 8, 8, 8, 8, 8, 8, 8, 8, 8, 8, 8, 8, 8, 8, 8, 8, 8, 8, 8, 8, 8, 8, 8, 8, 8, 8, 8, 8, 8, 8, 8, 8, 8, 8, 8, 8, 8, 8, 8, 8, 8, 8, 8, 8, 8, 8, 8, 8, 8, 8, 8, 8, 8, 8, 8, 8, 8, 8, 8, 8, 8, 8, 8, 8, 8, 8, 8, 8, 8, 8, 8, 8, 8, 8, 8, 8, 8, 8, 8, 8, 8, 8, 8, 8, 8, 8, 8, 8, 8, 8, 8, 8, 8, 8, 8, 8, 8, 8, 8, 8, 8, 8, 8, 8, 8, 8, 8] : List Int) (iconv .u8 x9)).bind fun x11 => some (iadd .i64 x10 (iconv .i64 x11)))
def km (F : Nat) (x6 : Int) (x7 : Int) : Option Int :=
  (if (decide (256 ≤ x6)) then kn F (ishr .u64 x6 8) (iadd .i64 x7 8) else kn F x6 x7)
def kj (F : Nat) (x3 : Int) (x4 : Int) : Option Int :=
  (if (decide (65536 ≤ x3)) then km F (ishr .u64 x3 16) (iadd .i64 x4 16) else km F x3 x4)
def kr (F : Nat) (x1 : Int) : Option Int :=
  (if (decide (4294967296 ≤ x1)) then kj F (ishr .u64 x1 32) 32 else kj F x1 0)
def qaj (F : Nat) (x1 : Int) : Option Int :=
  ((kr F (iadd .u64 x1 1)).bind fun x2 => some (isub .i64 x2 1))
def zi (F : Nat) (x6 : Int) (rec1 : (Int × Int × List Int) → Option (Int × List Int)) (x18 : Int) (x19 : Int) (x22 : List Int) : Option (Int × List Int) :=
  (if (decide (0 ≤ x18)) then (chk (decide (0 ≤ x18)) (((ye F x19 x22 (iand .u64 (ishr .u64 x6 x18) 1)).bind fun x40 => rec1 (isub .i64 x18 1, x40.1, x40.2)))) else some (x19, x22))
def zj (F : Nat) (x6 : Int) : Nat → (Int × Int × List Int) → Option (Int × List Int)
  | 0 => fun _ => none
  | k + 1 => fun s => zi F x6 (zj F x6 k) s.1 s.2.1 s.2.2
def yf (F : Nat) (x2 : Int) (x3 : List Int) (x6 : Int) (x7 : Int) : Option (Int × List Int) :=
  zj F x6 F (isub .i64 x7 1, x2, x3)
def vI (F : Nat) (x1 : Int) (x2 : List Int) (x5 : Int) (x6 : Int) : Option (Int × List Int) :=
  ((qav F x1 x2).bind fun x9 => ((yf F x9.1 x9.2 x5 x6).bind fun x13 => some (x13.1, x13.2)))
def qac (F : Nat) (x1 : Int) : Option (Int × List Int) :=
  ((mk 140737488355328 (0 : Int) (iquo .u64 (iadd .u64 x1 7) 8)).bind fun x3 => ((vI F (iconv .i64 x1) x3 1 1).bind fun x6 => some (x6.1, x6.2)))
def qaL (_F : Nat) (x1 : Int) (x2 : Int) : Option Int :=
  (chk (decide (0 ≤ x2)) ((lett (iand .u64 x1 (isub .u64 (ishl .u64 1 x2) 1)) fun x4 => some x4)))
def yx (F : Nat) (x1 : Int) : Option (Int × List Int) :=
  ((qaj F x1).bind fun x3 => ((qac F (iconv .u64 x3)).bind fun x4 => ((qaL F (iadd .u64 x1 1) x3).bind fun x7 => ((vI F x4.1 x4.2 x7 x3).bind fun x8 => some (x8.1, x8.2)))))
def j9 (_F : Nat) (x1 : Int) : Option Bool :=
  some ((decide (0 ≤ x1)) && (decide (x1 ≤ 1048576)))
def qbz (_F : Nat) : Option Int :=
  some 0
def jh (F : Nat) (x1 : List Int) (rec3 : (Int × Int) → Option Int) (x88 : Int) (x89 : Int) : Option Int :=
  (if (decide (x89 < (x1.length : Int))) then ((idx x1 x89).bind fun x121 => ((j9 F x121).bind fun x127 => (if (!x127) then some 3 else (if (decide (x121 ≤ x88)) then some 4 else rec3 (x121, iadd .i64 x89 1))))) else qbz F)
def k6 (F : Nat) (x1 : List Int) : Nat → (Int × Int) → Option Int
  | 0 => fun _ => none
  | k + 1 => fun s => jh F x1 (k6 F x1 k) s.1 s.2
def yh (F : Nat) (x1 : List Int) : Option Int :=
  (if (decide (300 < (x1.length : Int))) then some 2 else k6 F x1 F (-1, 0))
def ko (F : Nat) (x2 : Int) (x3 : List Int) (x7 : Int) (x8 : List Int) (x13 : Bool) : Option (Int × List Int × Bool) :=
  (if (!x13) then ((yG F x2 x3 x7 x8).bind fun x14 => some (x14.1, x14.2, x13)) else some (x2, x3, x13))
def kw (F : Nat) (x2 : Int) (x3 : List Int) (x6 : Bool) (x7 : Int) (x8 : List Int) : Option (Int × List Int × Bool) :=
  (if x6 then ko F x2 x3 x7 x8 true else ko F x2 x3 x7 x8 (decide (8192 < (iadd .i64 x2 x7))))
def qD (F : Nat) (x2 : Int) (x3 : List Int) (x6 : Bool) (x7 : Int) : Option (Int × List Int × Bool) :=
  ((yx F (iconv .u64 x7)).bind fun x8 => ((kw F x2 x3 x6 x8.1 x8.2).bind fun x11 => some (x11.1, x11.2.1, x11.2.2)))
def jg (_F : Nat) (x1 : Int) : Option Bool :=
  some ((x1 : Int) != x1)
def vl (_F : Nat) (x1 : Int) (x2 : Int) (x6 : Bool) : Option Bool :=
  some (x6 || (decide (x1 < x2)))
def jx (F : Nat) (x1 : Int) (x2 : Int) : Option Bool :=
  ((jg F x1).bind fun x3 => (if x3 then ((jg F x2).bind fun x8 => vl F x1 x2 (!x8)) else vl F x1 x2 false))
def yQ (_F : Nat) (x1 : Int) : Option Bool :=
  some ((x1 : Int) != x1)
def zO (_F : Nat) (x32 : Int) (x55 : Bool) : Option (Int × Bool) :=
  some (x32, x55)
def zP (F : Nat) (x32 : Int) (x68 : Bool) : Option (Int × Bool) :=
  zO F x32 x68
def zQ (F : Nat) (x32 : Int) (x75 : Bool) : Option (Int × Bool) :=
  zP F x32 x75
def zN (F : Nat) (x1 : List Int) (x4 : Int) (x32 : Int) : Option (Int × Bool) :=
  (if (decide (x32 < (x1.length : Int))) then ((idx x1 x32).bind fun x56 => (if ((x56 : Int) == x4) then zP F x32 true else ((idx x1 x32).bind fun x69 => ((yQ F x69).bind fun x72 => (if x72 then ((yQ F x4).bind fun x76 => zQ F x32 x76) else zQ F x32 false))))) else zO F x32 false)
def q9 (F : Nat) (x1 : List Int) (x4 : Int) (rec10 : (Int × Int) → Option (Int × Bool)) (x85 : Int) (x86 : Int) : Option (Int × Bool) :=
  (if (decide (x85 < x86)) then (lett (iconv .i64 (ishr .u64 (iconv .u64 (iadd .i64 x85 x86)) 1)) fun x97 => ((idx x1 x97).bind fun x98 => ((jx F x98 x4).bind fun x101 => (if x101 then rec10 (iadd .i64 x97 1, x86) else rec10 (x85, x97))))) else zN F x1 x4 x85)
def qw (F : Nat) (x1 : List Int) (x4 : Int) : Nat → (Int × Int) → Option (Int × Bool)
  | 0 => fun _ => none
  | k + 1 => fun s => q9 F x1 x4 (qw F x1 x4 k) s.1 s.2
def q5 (F : Nat) (x1 : List Int) (x4 : Int) : Option (Int × Bool) :=
  qw F x1 x4 F (0, (x1.length : Int))
def kT (_F : Nat) (x21 : List Int) (x22 : Bool) (x23 : Int) : Option (List Int × Bool × Int) :=
  some (x21, x22, iadd .i64 x23 1)
def yP (F : Nat) (x2 : List Int) (x5 : Bool) (x6 : Int) (x7 : Bool) : Option (List Int × Bool × Int) :=
  (if (x7 != x5) then ((app 8796093022208 x2 ([x6] : List Int)).bind fun x31 => kT F x31 x7 0) else kT F x2 x5 x6)
def qaA (_F : Nat) (x66 : List Int) (x151 : List Int) : Option (List Int × List Int) :=
  some (x66, x151)
def jo (_F : Nat) (rec10 : (List Int × Int) → Option (List Int × List Int)) (x180 : Int) (x220 : List Int) : Option (List Int × List Int) :=
  rec10 (x220, iadd .i64 x180 1)
def jm (F : Nat) (x1 : List Int) (x4 : List Int) (x66 : List Int) (rec10 : (List Int × Int) → Option (List Int × List Int)) (x179 : List Int) (x180 : Int) : Option (List Int × List Int) :=
  (if (decide (x180 < (x4.length : Int))) then ((idx x4 x180).bind fun x221 => ((q5 F x1 x221).bind fun x224 => (if (!x224.2) then ((app 8796093022208 x179 ([x221] : List Int)).bind fun x227 => jo F rec10 x180 x227) else jo F rec10 x180 x179))) else qaA F x66 x179)
def kC (F : Nat) (x1 : List Int) (x4 : List Int) (x66 : List Int) : Nat → (List Int × Int) → Option (List Int × List Int)
  | 0 => fun _ => none
  | k + 1 => fun s => jm F x1 x4 x66 (kC F x1 x4 x66 k) s.1 s.2
def qaz (F : Nat) (x1 : List Int) (x4 : List Int) (x66 : List Int) (_x67 : Bool) (_x68 : Int) : Option (List Int × List Int) :=
  kC F x1 x4 x66 F (([] : List Int), 0)
def jn (F : Nat) (x1 : List Int) (x4 : List Int) (rec12 : (Int × List Int × Bool × Int) → Option (List Int × List Int)) (x249 : Int) (x252 : List Int) (x253 : Bool) (x254 : Int) : Option (List Int × List Int) :=
  (if (decide (x249 < (x1.length : Int))) then ((idx x1 x249).bind fun x280 => ((q5 F x4 x280).bind fun x283 => ((yP F x252 x253 x254 x283.2).bind fun x284 => rec12 (iadd .i64 x249 1, x284.1, x284.2.1, x284.2.2)))) else qaz F x1 x4 x252 x253 x254)
def k7 (F : Nat) (x1 : List Int) (x4 : List Int) : Nat → (Int × List Int × Bool × Int) → Option (List Int × List Int)
  | 0 => fun _ => none
  | k + 1 => fun s => jn F x1 x4 (k7 F x1 x4 k) s.1 s.2.1 s.2.2.1 s.2.2.2
def qaP (F : Nat) (x1 : List Int) (x4 : List Int) : Option (List Int × List Int) :=
  k7 F x1 x4 F (0, ([] : List Int), true, 0)
def kx (F : Nat) (x7 : List Int) (rec1 : (Int × Int × List Int × Bool) → Option (Int × List Int × Bool)) (x27 : Int) (x28 : Int) (x31 : List Int) (x32 : Bool) : Option (Int × List Int × Bool) :=
  (if (decide (x27 < (x7.length : Int))) then ((idx x7 x27).bind fun x55 => ((qD F x28 x31 x32 (isub .i64 x55 (imin x27 1))).bind fun x58 => rec1 (iadd .i64 x27 1, x58.1, x58.2.1, x58.2.2))) else some (x28, x31, x32))
def zl (F : Nat) (x7 : List Int) : Nat → (Int × Int × List Int × Bool) → Option (Int × List Int × Bool)
  | 0 => fun _ => none
  | k + 1 => fun s => kx F x7 (zl F x7 k) s.1 s.2.1 s.2.2.1 s.2.2.2
def yl (F : Nat) (x2 : Int) (x3 : List Int) (x6 : Bool) (x7 : List Int) : Option (Int × List Int × Bool) :=
  ((qD F x2 x3 x6 (x7.length : Int)).bind fun x10 => zl F x7 F (0, x10.1, x10.2.1, x10.2.2))
def qbH (_F : Nat) (_x1 : List Int) : Option Unit :=
  some ()
def vy {σ τ : Type} (_F : Nat) (yy : σ → (Int × Int) → Option (σ ⊕ τ)) (rec31 : (Int × σ) → Option (σ ⊕ τ)) (x2 : List Int) (x266 : Int) (x267 : σ) (x654 : Int) : Option (σ ⊕ τ) :=
  ((idx x2 x266).bind fun x662 => ((yy x267 (x662, x654)).bind (Sum.elim (fun x665 => rec31 (iadd .i64 x266 x654, x665)) (fun x666 => some (.inr x666)))))
def vz {σ τ : Type} (F : Nat) (yy : σ → (Int × Int) → Option (σ ⊕ τ)) (rec31 : (Int × σ) → Option (σ ⊕ τ)) (rec44 : Int → Option (σ ⊕ τ)) (x2 : List Int) (x266 : Int) (x267 : σ) (x709 : Int) (x780 : Bool) : Option (σ ⊕ τ) :=
  (if x780 then rec44 (iadd .i64 x709 1) else vy F yy rec31 x2 x266 x267 x709)
def vx {σ τ : Type} (F : Nat) (yy : σ → (Int × Int) → Option (σ ⊕ τ)) (rec31 : (Int × σ) → Option (σ ⊕ τ)) (x2 : List Int) (x266 : Int) (x267 : σ) (rec44 : Int → Option (σ ⊕ τ)) (x709 : Int) : Option (σ ⊕ τ) :=
  (if (decide ((iadd .i64 x266 x709) < (x2.length : Int))) then ((idx x2 (iadd .i64 x266 x709)).bind fun x783 => ((idx x2 x266).bind fun x787 => vz F yy rec31 rec44 x2 x266 x267 x709 ((x783 : Int) == (iadd .i64 x787 x709)))) else vz F yy rec31 rec44 x2 x266 x267 x709 false)
def zL {σ τ : Type} (F : Nat) (yy : σ → (Int × Int) → Option (σ ⊕ τ)) (rec31 : (Int × σ) → Option (σ ⊕ τ)) (x2 : List Int) (x266 : Int) (x267 : σ) : Nat → Int → Option (σ ⊕ τ)
  | 0 => fun _ => none
  | k + 1 => fun s => vx F yy rec31 x2 x266 x267 (zL F yy rec31 x2 x266 x267 k) s
def vw {σ τ : Type} (F : Nat) (yy : σ → (Int × Int) → Option (σ ⊕ τ)) (x2 : List Int) (rec31 : (Int × σ) → Option (σ ⊕ τ)) (x266 : Int) (x267 : σ) : Option (σ ⊕ τ) :=
  (if (decide (x266 < (x2.length : Int))) then zL F yy rec31 x2 x266 x267 F 1 else some (.inl x267))
def qA {σ τ : Type} (F : Nat) (yy : σ → (Int × Int) → Option (σ ⊕ τ)) (x2 : List Int) : Nat → (Int × σ) → Option (σ ⊕ τ)
  | 0 => fun _ => none
  | k + 1 => fun s => vw F yy x2 (qA F yy x2 k) s.1 s.2
def jb {σ τ : Type} (F : Nat) (yy : σ → (Int × Int) → Option (σ ⊕ τ)) (x2 : List Int) (s0 : σ) : Option (σ ⊕ τ) :=
  qA F yy x2 F (0, s0)
def j6 (_F : Nat) (x255 : List (Int × Int)) (x312 : Int) (x313 : Int) (rec8 : (Int × List Int) → Option ((List Int × List (Int × Int)) ⊕ Empty)) (x338 : Int) (x341 : List Int) : Option ((List Int × List (Int × Int)) ⊕ Empty) :=
  (if (decide (x338 < x313)) then ((app 8796093022208 x341 ([iadd .i64 x312 x338] : List Int)).bind fun x363 => rec8 (iadd .i64 x338 1, x363)) else some (.inl (x341, x255)))
def vi (F : Nat) (x255 : List (Int × Int)) (x312 : Int) (x313 : Int) : Nat → (Int × List Int) → Option ((List Int × List (Int × Int)) ⊕ Empty)
  | 0 => fun _ => none
  | k + 1 => fun s => j6 F x255 x312 x313 (vi F x255 x312 x313 k) s.1 s.2
def ja (F : Nat) (x4 : Int) (x252 : List Int) (x255 : List (Int × Int)) (x312 : Int) (x313 : Int) : Option ((List Int × List (Int × Int)) ⊕ Empty) :=
  (if (decide (x4 ≤ x313)) then ((app 4398046511104 x255 ([(x312, x313)] : List (Int × Int))).bind fun x323 => some (.inl (x252, x323))) else vi F x255 x312 x313 F (0, x252))
def qbi (F : Nat) (x1 : List Int) (x4 : Int) : Option (List (Int × Int) × List Int) :=
  ((qbH F x1).bind fun _x188 => ((jb F (fun ((x252, x255) : (List Int × List (Int × Int))) ((x312, x313) : (Int × Int)) => ja F x4 x252 x255 x312 x313) x1 (([] : List Int), ([] : List (Int × Int)))).bind (Sum.elim (fun ((x252, x255) : (List Int × List (Int × Int))) => some (x255, x252)) (fun t => t.elim))))
def jd (_F : Nat) (x1 : Int) : Option Int :=
  (lett (ixor .u64 (ishl .u64 (iconv .u64 x1) 1) (iconv .u64 (ishr .i64 x1 63))) fun x2 => some x2)
def ke (F : Nat) (rec5 : (Int × Int × Int × List Int × Bool) → Option (Int × List Int × Bool)) (x8 : Int) (x74 : Int) (x168 : (Int × Int)) (x180 : Int) (x183 : List Int) (x184 : Bool) : Option (Int × List Int × Bool) :=
  ((qD F x180 x183 x184 (isub .i64 x168.2 x8)).bind fun x185 => rec5 (isub .i64 (iadd .i64 x168.1 x168.2) 1, iadd .i64 x74 1, x185.1, x185.2.1, x185.2.2))
def kX (F : Nat) (x8 : Int) (x9 : List (Int × Int)) (rec5 : (Int × Int × Int × List Int × Bool) → Option (Int × List Int × Bool)) (x73 : Int) (x74 : Int) (x75 : Int) (x78 : List Int) (x79 : Bool) : Option (Int × List Int × Bool) :=
  (if (decide (x74 < (x9.length : Int))) then ((idx x9 x74).bind fun x168 => (if ((x74 : Int) == 0) then ((jd F (isub .i64 x168.1 x73)).bind fun x188 => ((qD F x75 x78 x79 (iconv .i64 x188)).bind fun x189 => ke F rec5 x8 x74 x168 x189.1 x189.2.1 x189.2.2)) else ((qD F x75 x78 x79 (isub .i64 (isub .i64 x168.1 x73) 2)).bind fun x192 => ke F rec5 x8 x74 x168 x192.1 x192.2.1 x192.2.2))) else some (x75, x78, x79))
def qZ (F : Nat) (x8 : Int) (x9 : List (Int × Int)) : Nat → (Int × Int × Int × List Int × Bool) → Option (Int × List Int × Bool)
  | 0 => fun _ => none
  | k + 1 => fun s => kX F x8 x9 (qZ F x8 x9 k) s.1 s.2.1 s.2.2.1 s.2.2.2.1 s.2.2.2.2
def yS (F : Nat) (x2 : Int) (x3 : List Int) (x6 : Bool) (x7 : Int) (x8 : Int) (x9 : List (Int × Int)) : Option (Int × List Int × Bool) :=
  ((qD F x2 x3 x6 (x9.length : Int)).bind fun x12 => qZ F x8 x9 F (x7, 0, x12.1, x12.2.1, x12.2.2))
def j2 (F : Nat) (x1 : Int) (x2 : Int) : Option (Int × Int × Int) :=
  ((kr F (iadd .u64 x1 1)).bind fun x3 => (chk ((x2 : Int) != 0) ((chk (decide (0 ≤ (imul .i64 (iquo .i64 (isub .i64 x3 1) x2) x2))) ((chk (decide (0 ≤ (iadd .i64 (imul .i64 (iquo .i64 (isub .i64 x3 1) x2) x2) x2))) (some (iquo .i64 (isub .i64 x3 1) x2, ishl .u64 1 (imul .i64 (iquo .i64 (isub .i64 x3 1) x2) x2), ishl .u64 1 (iadd .i64 (imul .i64 (iquo .i64 (isub .i64 x3 1) x2) x2) x2)))))))))
def vL (F : Nat) (x1 : Int) : Option (Int × Int) :=
  ((kr F (isub .u64 x1 1)).bind fun x2 => (chk (decide (0 ≤ x2)) (some (x2, isub .u64 (ishl .u64 1 x2) x1))))
def vo (F : Nat) (x1 : Int) (x2 : List Int) (x5 : Int) (x6 : Int) : Option (Int × List Int) :=
  ((vL F x6).bind fun x9 => (if (decide (x5 < x9.2)) then ((vI F x1 x2 x5 (isub .i64 x9.1 1)).bind fun x14 => some (x14.1, x14.2)) else ((vI F x1 x2 (iadd .u64 x5 x9.2) x9.1).bind fun x17 => some (x17.1, x17.2))))
def j1 (F : Nat) (x1 : Int) (x2 : Int) : Option (Int × List Int × Int) :=
  (if (((decide (x2 < 1)) || (decide (16 < x2))) || (decide (1099511627776 < x1))) then some (0, ([] : List Int), 3) else ((j2 F x1 x2).bind fun x9 => ((qac F (iconv .u64 x9.1)).bind fun x10 => ((vo F x10.1 x10.2 (isub .u64 (iadd .u64 x1 1) x9.2.1) (isub .u64 x9.2.2 x9.2.1)).bind fun x13 => some (x13.1, x13.2, 0)))))
def qb4 (_F : Nat) (x107 : Int) (x110 : List Int) : Option (Int × List Int × Bool) :=
  some (x107, x110, true)
def jY (F : Nat) (x5 : List Int) (x8 : Int) (rec3 : (Int × Int × List Int) → Option (Int × List Int × Bool)) (x141 : Int) (x142 : Int) (x145 : List Int) : Option (Int × List Int × Bool) :=
  (if (decide (x141 < (x5.length : Int))) then ((idx x5 x141).bind fun x192 => ((j1 F x192 x8).bind fun x195 => (if (((x195.2.2 : Int) != 0) || (decide (8192 < (iadd .i64 x142 x195.1)))) then some (0, ([] : List Int), false) else ((yG F x142 x145 x195.1 x195.2.1).bind fun x202 => rec3 (iadd .i64 x141 1, x202.1, x202.2))))) else qb4 F x142 x145)
def vg (F : Nat) (x5 : List Int) (x8 : Int) : Nat → (Int × Int × List Int) → Option (Int × List Int × Bool)
  | 0 => fun _ => none
  | k + 1 => fun s => jY F x5 x8 (vg F x5 x8 k) s.1 s.2.1 s.2.2
def jr (F : Nat) (x1 : Int) (x2 : List Int) (x5 : List Int) (x8 : Int) : Option (Int × List Int × Bool) :=
  vg F x5 x8 F (0, x1, x2)
def vK (_F : Nat) (x4 : Int) (x8 : Int) : Option (Int × Int × Bool) :=
  some (x8, x4, true)
def vm (F : Nat) (x2 : Int) (x3 : Bool) (x4 : Int) : Option (Int × Int × Bool) :=
  (if x3 then (lett (iconv .u64 (isub .i64 (isub .i64 x4 x2) 1)) fun x9 => vK F x4 x9) else ((jd F (isub .i64 x4 x2)).bind fun x10 => vK F x4 x10))
def qaZ (_F : Nat) (x75 : List Int) : Option (List Int) :=
  some x75
def jZ (F : Nat) (x1 : List Int) (rec3 : (List Int × Int × Int × Bool) → Option (List Int)) (x98 : List Int) (x99 : Int) (x100 : Int) (x101 : Bool) : Option (List Int) :=
  (if (decide (x99 < (x1.length : Int))) then ((idx x1 x99).bind fun x133 => ((vm F x100 x101 x133).bind fun x136 => ((app 8796093022208 x98 ([x136.1] : List Int)).bind fun x139 => rec3 (x139, iadd .i64 x99 1, x136.2.1, x136.2.2)))) else qaZ F x98)
def vh (F : Nat) (x1 : List Int) : Nat → (List Int × Int × Int × Bool) → Option (List Int)
  | 0 => fun _ => none
  | k + 1 => fun s => jZ F x1 (vh F x1 k) s.1 s.2.1 s.2.2.1 s.2.2.2
def qax (F : Nat) (x1 : List Int) (x4 : Int) : Option (List Int) :=
  vh F x1 F (([] : List Int), 0, x4, false)
def kd (F : Nat) (x52 : Int) (x55 : List Int) (x56 : Bool) (x76 : Bool) (x77 : Int) (x80 : List Int) : Option (Int × List Int × Bool) :=
  ((kw F x52 x55 (x56 || (!x76)) x77 x80).bind fun x82 => some (x82.1, x82.2.1, x82.2.2))
def kb (F : Nat) (x7 : Int) (x16 : Int) (x51 : List Int) (x52 : Int) (x55 : List Int) (x56 : Bool) : Option (Int × List Int × Bool) :=
  ((qax F x51 x7).bind fun x85 => ((jr F 0 ([] : List Int) x85 x16).bind fun x88 => kd F x52 x55 x56 x88.2.2 x88.1 x88.2.1))
def ka (F : Nat) (x7 : Int) (x15 : Int) (x16 : Int) (x33 : List Int) (x34 : Int) (x37 : List Int) (x38 : Bool) : Option (Int × List Int × Bool) :=
  (if (((x33.length : Int) : Int) == 0) then some (x34, x37, x38) else (if (decide (0 < x15)) then ((qbi F x33 x15).bind fun x103 => ((yS F x34 x37 x38 x7 x15 x103.1).bind fun x108 => kb F x7 x16 x103.2 x108.1 x108.2.1 x108.2.2)) else kb F x7 x16 x33 x34 x37 x38))
def kR (F : Nat) (x2 : Int) (x3 : List Int) (x6 : Bool) (x7 : Int) (x8 : List Int) (x11 : List Int) (x14 : Int) (x15 : Int) (x16 : Int) : Option (Int × List Int × Bool) :=
  ((qD F x2 x3 x6 (x8.length : Int)).bind fun x18 => (if (((x8.length : Int) : Int) == 0) then some (x18.1, x18.2.1, x18.2.2) else (if (decide (0 < x14)) then ((qaP F x11 x8).bind fun x113 => ((yl F x18.1 x18.2.1 x18.2.2 x113.1).bind fun x118 => ka F x7 x15 x16 x113.2 x118.1 x118.2.1 x118.2.2)) else ka F x7 x15 x16 x8 x18.1 x18.2.1 x18.2.2)))
def qao (F : Nat) (x1 : Int) (x2 : List Int) (x5 : Int) (_x6 : Int) (_x7 : Int) : Option Int :=
  (if ((decide (x1 < 0)) || (decide (1048576 < x1))) then some 3 else (if (decide (0 < x5)) then ((yh F x2).bind fun x14 => some x14) else some 0))
def y9 (F : Nat) (x1 : Int) (x2 : List Int) (x5 : List Int) (x8 : Int) (x9 : Int) (x10 : Int) (x25 : Int) : Option (Int × List Int × Int) :=
  (if ((x25 : Int) != 0) then some (0, ([] : List Int), x25) else ((kR F 0 ([] : List Int) false x1 x2 x5 x8 x9 x10).bind fun x28 => (if x28.2.2 then some (0, ([] : List Int), 8) else some (x28.1, x28.2.1, 0))))
def k9 (F : Nat) (x1 : Int) (x2 : List Int) (x5 : List Int) (x8 : Int) (x9 : Int) (x10 : Int) (x22 : Int) : Option (Int × List Int × Int) :=
  (if ((x22 : Int) == 0) then ((qao F x1 x5 x8 x9 x10).bind fun x34 => y9 F x1 x2 x5 x8 x9 x10 x34) else y9 F x1 x2 x5 x8 x9 x10 x22)
def k8 (F : Nat) (x1 : Int) (x2 : List Int) (x5 : List Int) (x8 : Int) (x9 : Int) (x10 : Int) (x19 : Int) : Option (Int × List Int × Int) :=
  (if ((x19 : Int) == 0) then ((yh F x2).bind fun x36 => k9 F x1 x2 x5 x8 x9 x10 x36) else k9 F x1 x2 x5 x8 x9 x10 x19)
def va (F : Nat) (x1 : Int) (x2 : List Int) (x5 : List Int) (x8 : Int) (x9 : Int) (x10 : Int) (x13 : Int) (x40 : Bool) : Option (Int × List Int × Int) :=
  (if x40 then k8 F x1 x2 x5 x8 x9 x10 3 else k8 F x1 x2 x5 x8 x9 x10 x13)
def qan (F : Nat) (x1 : Int) (x2 : List Int) (x5 : List Int) (x8 : Int) (x9 : Int) (x10 : Int) : Option (Int × List Int × Int) :=
  ((vT F x8 x9 x10).bind fun x13 => (if ((x13 : Int) == 0) then va F x1 x2 x5 x8 x9 x10 x13 ((decide (x1 < 0)) || (decide (1048576 < x1))) else va F x1 x2 x5 x8 x9 x10 x13 false))
def vN (F : Nat) (x1 : List (List Int)) (x4 : List Int) (x7 : Int) (x9 : Int) (x10 : Int) (x18 : Int) (x21 : List Int) (x29 : List Int) : Option (Int × Int × List Int × Bool) :=
  ((qan F (x1.length : Int) x4 x29 x7 x9 x10).bind fun x30 => (if (((x30.2.2 : Int) != 0) || (decide (8192 < (iadd .i64 x18 x30.1)))) then some (0, 0, ([] : List Int), false) else ((yG F x18 x21 x30.1 x30.2.1).bind fun x37 => some (x7, x37.1, x37.2, true))))
def vM (F : Nat) (x1 : List (List Int)) (x4 : List Int) (x7 : Int) (x9 : Int) (x10 : Int) (x18 : Int) (x21 : List Int) : Option (Int × Int × List Int × Bool) :=
  (if (decide (0 < x7)) then ((idx x1 (isub .i64 (x1.length : Int) x7)).bind fun x41 => vN F x1 x4 x7 x9 x10 x18 x21 x41) else vN F x1 x4 x7 x9 x10 x18 x21 ([] : List Int))
def qaO (F : Nat) (x1 : List (List Int)) (x4 : List Int) (x7 : Int) (x8 : Int) (x9 : Int) (x10 : Int) : Option (Int × Int × List Int × Bool) :=
  (if (decide (0 < x8)) then ((yx F (iconv .u64 x7)).bind fun x46 => vM F x1 x4 x7 x9 x10 x46.1 x46.2) else vM F x1 x4 x7 x9 x10 0 ([] : List Int))
def qay (_F : Nat) (x96 : Bool) (x97 : Int) (x98 : Int) (x101 : List Int) : Option (Int × Int × List Int × Bool) :=
  some (x97, x98, x101, x96)
def kB (_F : Nat) (rec14 : (Bool × Int × Int × Int × List Int) → Option (Int × Int × List Int × Bool)) (x126 : Int) (x169 : Bool) (x170 : Int) (x171 : Int) (x174 : List Int) : Option (Int × Int × List Int × Bool) :=
  rec14 (x169, iadd .i64 x126 1, x170, x171, x174)
def jk (F : Nat) (rec14 : (Bool × Int × Int × Int × List Int) → Option (Int × Int × List Int × Bool)) (x125 : Bool) (x126 : Int) (x127 : Int) (x128 : Int) (x131 : List Int) (x175 : (Int × Int × List Int × Bool)) (x181 : Bool) : Option (Int × Int × List Int × Bool) :=
  (if x181 then kB F rec14 x126 true x175.1 x175.2.1 x175.2.2.1 else kB F rec14 x126 x125 x127 x128 x131)
def ji (F : Nat) (x1 : List (List Int)) (x4 : List Int) (x7 : Int) (x8 : Int) (x9 : Int) (rec14 : (Bool × Int × Int × Int × List Int) → Option (Int × Int × List Int × Bool)) (x125 : Bool) (x126 : Int) (x127 : Int) (x128 : Int) (x131 : List Int) : Option (Int × Int × List Int × Bool) :=
  (if (decide (x126 < (iadd .i64 (imin x7 (x1.length : Int)) 1))) then ((qaO F x1 x4 x126 x7 x8 x9).bind fun x175 => (if x175.2.2.2 then jk F rec14 x125 x126 x127 x128 x131 x175 ((!x125) || (decide (x175.2.1 < x128))) else jk F rec14 x125 x126 x127 x128 x131 x175 false)) else qay F x125 x127 x128 x131)
def zr (F : Nat) (x1 : List (List Int)) (x4 : List Int) (x7 : Int) (x8 : Int) (x9 : Int) : Nat → (Bool × Int × Int × Int × List Int) → Option (Int × Int × List Int × Bool)
  | 0 => fun _ => none
  | k + 1 => fun s => ji F x1 x4 x7 x8 x9 (zr F x1 x4 x7 x8 x9 k) s.1 s.2.1 s.2.2.1 s.2.2.2.1 s.2.2.2.2
def qaN (F : Nat) (x1 : List (List Int)) (x4 : List Int) (x7 : Int) (x8 : Int) (x9 : Int) : Option (Int × Int × List Int × Bool) :=
  zr F x1 x4 x7 x8 x9 F (false, 0, 0, 0, ([] : List Int))
def yM (_F : Nat) (x2 : Int) (x3 : Int) (x4 : Int) (x5 : Int) (x710 : Int) (x713 : List Int) (x716 : List Int) (x719 : List Int) : Option (Bool × Int × Int × Int × Int × Int × List Int × List Int × List Int) :=
  some (true, x2, x3, x4, x5, x710, x713, x716, x719)
def zJ (F : Nat) (rec43 : (Int × Int × List Int × List Int × List Int) → Option (Bool × Int × Int × Int × Int × Int × List Int × List Int × List Int)) (x946 : Int) (x947 : Int) (x950 : List Int) (x1318 : Int) (x1321 : List Int) (x1358 : List Int) (x1361 : List Int) : Option (Bool × Int × Int × Int × Int × Int × List Int × List Int × List Int) :=
  ((yG F x947 x950 x1318 x1321).bind fun x1362 => rec43 (iadd .i64 x946 1, x1362.1, x1362.2, x1358, x1361))
def zI (F : Nat) (rec43 : (Int × Int × List Int × List Int × List Int) → Option (Bool × Int × Int × Int × Int × Int × List Int × List Int × List Int)) (x2 : Int) (x3 : Int) (x4 : Int) (x5 : Int) (x946 : Int) (x947 : Int) (x950 : List Int) (x953 : List Int) (x956 : List Int) (x1317 : Int) (x1318 : Int) (x1321 : List Int) (x1327 : Bool) : Option (Bool × Int × Int × Int × Int × Int × List Int × List Int × List Int) :=
  (if x1327 then some (false, x2, x3, x4, x5, x947, x950, x953, x956) else ((app 8796093022208 x953 ([x1317] : List Int)).bind fun x1367 => ((app 8796093022208 x956 ([x947] : List Int)).bind fun x1372 => zJ F rec43 x946 x947 x950 x1318 x1321 x1367 x1372)))
def kF (F : Nat) (rec43 : (Int × Int × List Int × List Int × List Int) → Option (Bool × Int × Int × Int × Int × Int × List Int × List Int × List Int)) (x2 : Int) (x3 : Int) (x4 : Int) (x5 : Int) (x946 : Int) (x947 : Int) (x950 : List Int) (x953 : List Int) (x956 : List Int) (x1316 : Bool) (x1317 : Int) (x1318 : Int) (x1321 : List Int) : Option (Bool × Int × Int × Int × Int × Int × List Int × List Int × List Int) :=
  (if (!x1316) then zI F rec43 x2 x3 x4 x5 x946 x947 x950 x953 x956 x1317 x1318 x1321 true else zI F rec43 x2 x3 x4 x5 x946 x947 x950 x953 x956 x1317 x1318 x1321 (decide (8192 < (iadd .i64 x947 x1318))))
def kE (F : Nat) (x2 : Int) (x3 : Int) (x4 : Int) (x5 : Int) (x16 : List (List Int)) (rec43 : (Int × Int × List Int × List Int × List Int) → Option (Bool × Int × Int × Int × Int × Int × List Int × List Int × List Int)) (x946 : Int) (x947 : Int) (x950 : List Int) (x953 : List Int) (x956 : List Int) : Option (Bool × Int × Int × Int × Int × Int × List Int × List Int × List Int) :=
  (if (decide (x946 < (x16.length : Int))) then ((idx x16 x946).bind fun x1297 => ((sub x16 0 x946).bind fun x1395 => ((qaN F x1395 x1297 x3 x4 x5).bind fun x1401 => kF F rec43 x2 x3 x4 x5 x946 x947 x950 x953 x956 x1401.2.2.2 x1401.1 x1401.2.1 x1401.2.2.1))) else yM F x2 x3 x4 x5 x947 x950 x953 x956)
def qm (F : Nat) (x2 : Int) (x3 : Int) (x4 : Int) (x5 : Int) (x16 : List (List Int)) : Nat → (Int × Int × List Int × List Int × List Int) → Option (Bool × Int × Int × Int × Int × Int × List Int × List Int × List Int)
  | 0 => fun _ => none
  | k + 1 => fun s => kE F x2 x3 x4 x5 x16 (qm F x2 x3 x4 x5 x16 k) s.1 s.2.1 s.2.2.1 s.2.2.2.1 s.2.2.2.2
def js (F : Nat) (x2 : Int) (x3 : Int) (x4 : Int) (x5 : Int) (x6 : Int) (x7 : List Int) (x10 : List Int) (x13 : List Int) (x16 : List (List Int)) : Option (Bool × Int × Int × Int × Int × Int × List Int × List Int × List Int) :=
  qm F x2 x3 x4 x5 x16 F (0, x6, x7, x10, x13)
def kM (_F : Nat) (x48 : Int) (x49 : Int) (x50 : Int) (x51 : Int) (x52 : Int) (x53 : Int) (x56 : List Int) (x59 : List Int) (x62 : List Int) : Option (Int × Int × Int × Int × Int × List Int × List Int × List Int × Int) :=
  some (x49, x50, x51, x52, x53, x56, x59, x62, x48)
def kN (F : Nat) (x12 : Int) (x74 : Bool) (x75 : Int) (x76 : Int) (x77 : Int) (x78 : Int) (x79 : Int) (x82 : List Int) (x85 : List Int) (x88 : List Int) : Option (Int × Int × Int × Int × Int × List Int × List Int × List Int × Int) :=
  (if x74 then kM F 8 x75 x76 x77 x78 x79 x82 x85 x88 else kM F x12 x75 x76 x77 x78 x79 x82 x85 x88)
def yA (F : Nat) (x1 : List (List Int)) (x4 : Int) (x5 : Int) (x6 : Int) (x12 : Int) : Option (Int × Int × Int × Int × Int × List Int × List Int × List Int × Int) :=
  (if ((x12 : Int) == 0) then ((js F (x1.length : Int) x4 x5 x6 0 ([] : List Int) ([] : List Int) ([] : List Int) x1).bind fun x90 => kN F x12 (!x90.1) x90.2.1 x90.2.2.1 x90.2.2.2.1 x90.2.2.2.2.1 x90.2.2.2.2.2.1 x90.2.2.2.2.2.2.1 x90.2.2.2.2.2.2.2.1 x90.2.2.2.2.2.2.2.2) else kN F x12 false (x1.length : Int) x4 x5 x6 0 ([] : List Int) ([] : List Int) ([] : List Int))
def v8 (F : Nat) (x1 : List (List Int)) (x4 : Int) (x5 : Int) (x6 : Int) : Option (Int × Int × Int × Int × Int × List Int × List Int × List Int × Int) :=
  ((j3 F x1).bind fun x9 => (if ((x9 : Int) == 0) then ((vT F x4 x5 x6).bind fun x97 => yA F x1 x4 x5 x6 x97) else yA F x1 x4 x5 x6 x9))
def yi (F : Nat) (x1 : List (List Int)) (x4 : Int) (x5 : Int) (x6 : Int) : Option (Int × Int × Int × Int × Int × List Int × Int) :=
  ((v8 F x1 x4 x5 x6).bind fun x10 => (if ((x10.2.2.2.2.2.2.2.2 : Int) != 0) then some (0, 0, 0, 0, 0, ([] : List Int), x10.2.2.2.2.2.2.2.2) else some (x10.1, x10.2.1, x10.2.2.1, x10.2.2.2.1, x10.2.2.2.2.1, x10.2.2.2.2.2.1, 0)))
def qab (F : Nat) (x1 : List (List Int)) (x4 : Int) (x5 : Int) (x6 : Int) : Option (List Int × List Int × Int) :=
  ((v8 F x1 x4 x5 x6).bind fun x9 => (if ((x9.2.2.2.2.2.2.2.2 : Int) != 0) then some (([] : List Int), ([] : List Int), x9.2.2.2.2.2.2.2.2) else some (x9.2.2.2.2.2.2.1, x9.2.2.2.2.2.2.2.1, 0)))
def ve (_F : Nat)  : Option (List (List Int)) :=
  some ([([1, 2, 3, 5] : List Int), ([1, 2, 3, 5] : List Int), ([0, 1, 2, 3, 5] : List Int), ([] : List Int), ([4] : List Int), ([1, 2, 3] : List Int)] : List (List Int))
def yX (_F : Nat) (x36 : Bool) : Option Int :=
  (if x36 then some 1 else some 0)
def qai (F : Nat) (x1 : Int) (x2 : List Int) : Option Int :=
  (if ((decide (x1 < 0)) || (decide (8192 < x1))) then some 3 else (if (((x2.length : Int) : Int) != (iquo .i64 (iadd .i64 x1 7) 8)) then some 1 else (if (((irem x1 8) : Int) != 0) then ((idx x2 (isub .i64 (x2.length : Int) 1)).bind fun x39 => (chk (decide (0 ≤ (irem x1 8))) (yX F (((ishl .u8 x39 (irem x1 8)) : Int) != 0)))) else yX F false)))
def qak (F : Nat) (x1 : Int) (x2 : Int) (x3 : Int) (x4 : Int) (x5 : Int) (x6 : List Int) : Option Int :=
  (if ((decide (x1 < 0)) || (decide (100 < x1))) then some 3 else ((vT F x2 x3 x4).bind fun x15 => (if ((x15 : Int) != 0) then some x15 else ((qai F x5 x6).bind fun x16 => some x16))))
def qbA (_F : Nat) : Option (Int × Int × Bool) :=
  some (0, 0, false)
def jp (F : Nat) (x1 : Int) (x2 : List Int) (x5 : Int) (rec3 : Int → Option (Int × Int × Bool)) (x33 : Int) : Option (Int × Int × Bool) :=
  (if (decide (x33 < x1)) then ((vS F x1 x2 x33).bind fun x44 => (if ((x44 : Int) == 1) then some (iconv .u64 (isub .i64 x33 x5), iadd .i64 x33 1, true) else rec3 (iadd .i64 x33 1))) else qbA F)
def ya (F : Nat) (x1 : Int) (x2 : List Int) (x5 : Int) : Nat → Int → Option (Int × Int × Bool)
  | 0 => fun _ => none
  | k + 1 => fun s => jp F x1 x2 x5 (ya F x1 x2 x5 k) s
def jF (F : Nat) (x1 : Int) (x2 : List Int) (x5 : Int) : Option (Int × Int × Bool) :=
  ya F x1 x2 x5 F x5
def vX (F : Nat) (x1 : Int) (x2 : List Int) (x5 : Int) : Option (Int × Int × Int) :=
  ((jF F x1 x2 x5).bind fun x7 => (if (!x7.2.2) then some (0, 0, 7) else some (x7.1, x7.2.1, 0)))
def qau (_F : Nat) (x24 : Int) : Option (Int × Bool) :=
  some (x24, true)
def jw (F : Nat) (x1 : Int) (x2 : List Int) (x5 : Int) (x6 : Int) (rec3 : (Int × Int) → Option (Int × Bool)) (x29 : Int) (x30 : Int) : Option (Int × Bool) :=
  (if (decide (x30 < x6)) then ((vS F x1 x2 (iadd .i64 x5 x30)).bind fun x38 => rec3 (ior .u64 (ishl .u64 x29 1) x38, iadd .i64 x30 1)) else qau F x29)
def yw (F : Nat) (x1 : Int) (x2 : List Int) (x5 : Int) (x6 : Int) : Nat → (Int × Int) → Option (Int × Bool)
  | 0 => fun _ => none
  | k + 1 => fun s => jw F x1 x2 x5 x6 (yw F x1 x2 x5 x6 k) s.1 s.2
def yH (F : Nat) (x1 : Int) (x2 : List Int) (x5 : Int) (x6 : Int) : Option (Int × Bool) :=
  (if (decide ((isub .i64 x1 x5) < x6)) then some (0, false) else yw F x1 x2 x5 x6 F (0, 0))
def zg (F : Nat) (x1 : Int) (x2 : List Int) (x5 : Int) : Option (Int × Int × Int) :=
  ((vX F x1 x2 x5).bind fun x7 => (if ((x7.2.2 : Int) != 0) then some (0, 0, x7.2.2) else (if (decide (64 ≤ x7.1)) then some (0, 0, 3) else ((yH F x1 x2 x7.2.1 (iconv .i64 x7.1)).bind fun x10 => (if (!x10.2) then some (0, 0, 7) else (chk (decide (0 ≤ x7.1)) ((lett (iadd .u64 x10.1 (isub .u64 (ishl .u64 1 x7.1) 1)) fun x16 => (if (decide (1099511627776 < x16)) then some (0, 0, 3) else some (x16, iadd .i64 x7.2.1 (iconv .i64 x7.1), 0))))))))))
def yg (F : Nat) (x1 : Int) (x2 : List Int) (x5 : Int) : Option (Int × Int × Int) :=
  ((zg F x1 x2 x5).bind fun x7 => some (x7.1, x7.2.1, x7.2.2))
def j4 (_F : Nat) (x13 : (Int × Int × Int)) (x18 : Bool) : Option (Int × Int × Bool) :=
  (if x18 then some (0, 0, false) else some (iconv .i64 x13.1, x13.2.1, true))
def qbg (F : Nat) (_x1 : Int) (x2 : Int) (_x3 : Int) (_x4 : Int) (x5 : Int) (x6 : List Int) (x9 : Int) (x10 : Int) : Option (Int × Int × Bool) :=
  (if ((x2 : Int) == 0) then some (0, x9, true) else ((yg F x5 x6 x9).bind fun x13 => (if ((x13.2.2 : Int) != 0) then j4 F x13 true else j4 F x13 (decide ((iconv .u64 (imin x2 x10)) < x13.1)))))
def zV (_F : Nat) (x1 : Bool) : Option (Unit ⊕ Unit) :=
  (if (!x1) then some (.inr ()) else some (.inl ()))
def q3 (F : Nat) (x2 : Int) (x3 : List Int) (x6 : Int) (x7 : Int) : Option ((Int × Int × Int) ⊕ (Int × Int)) :=
  ((yg F x2 x3 x6).bind fun x9 => (lbnd (zV F (((x9.2.2 : Int) == 0) && (decide (x9.1 ≤ (iconv .u64 x7))))) (fun _x11 => some (.inl (iconv .i64 x9.1, x2, x9.2.1))) (fun _x12 => some (.inr (x2, x6)))))
def jD (_F : Nat) (x4 : Int) (x99 : Int) : Option Int :=
  (if (decide (x4 < x99)) then some 8 else some 0)
def vu (_F : Nat) (rec23 : (Int × Int) → Option Int) (x4 : Int) (x132 : Int) (x133 : Int) (x180 : Int) (x190 : Bool) : Option Int :=
  (if x190 then some 3 else (lett (imin (iadd .i64 x132 (imin x180 (iadd .i64 x4 1))) (iadd .i64 x4 1)) fun x191 => rec23 (x191, iadd .i64 x133 1)))
def vt (F : Nat) (x1 : List Int) (x4 : Int) (rec23 : (Int × Int) → Option Int) (x132 : Int) (x133 : Int) : Option Int :=
  (if (decide (x133 < (x1.length : Int))) then ((idx x1 x133).bind fun x180 => (if (decide (x180 < 0)) then vu F rec23 x4 x132 x133 x180 true else vu F rec23 x4 x132 x133 x180 ((decide (x180 < 1)) && (decide (0 < x133))))) else jD F x4 x132)
def zK (F : Nat) (x1 : List Int) (x4 : Int) : Nat → (Int × Int) → Option Int
  | 0 => fun _ => none
  | k + 1 => fun s => vt F x1 x4 (zK F x1 x4 k) s.1 s.2
def j5 (F : Nat) (x1 : List Int) (x4 : Int) : Option Int :=
  (if (decide ((iadd .i64 x4 1) < (x1.length : Int))) then some 2 else zK F x1 x4 F (0, 0))
def vv (_F : Nat) (x169 : List Int) : Option (List Int) :=
  some x169
def jE (F : Nat) (x158 : List Int) (x161 : List Int) (x162 : Bool) : Option (List Int) :=
  (if x162 then ((app 8796093022208 x161 x158).bind fun x170 => vv F x170) else vv F x161)
def yO (_F : Nat) (rec10 : (List Int × List Int × Bool × Int) → Option (List Int)) (x217 : List Int) (x221 : Bool) (x222 : Int) (x296 : Int) (x308 : List Int) : Option (List Int) :=
  ((sub x217 x296 (x217.length : Int)).bind fun x309 => rec10 (x309, x308, (!x221), iadd .i64 x222 1))
def yN (F : Nat) (x4 : List Int) (rec10 : (List Int × List Int × Bool × Int) → Option (List Int)) (x217 : List Int) (x220 : List Int) (x221 : Bool) (x222 : Int) : Option (List Int) :=
  (if (decide (x222 < (x4.length : Int))) then ((idx x4 x222).bind fun x296 => (if x221 then ((sub x217 0 x296).bind fun x312 => ((app 8796093022208 x220 x312).bind fun x315 => yO F rec10 x217 x221 x222 x296 x315)) else yO F rec10 x217 x221 x222 x296 x220)) else jE F x217 x220 x221)
def zD (F : Nat) (x4 : List Int) : Nat → (List Int × List Int × Bool × Int) → Option (List Int)
  | 0 => fun _ => none
  | k + 1 => fun s => yN F x4 (zD F x4 k) s.1 s.2.1 s.2.2.1 s.2.2.2
def qaB (F : Nat) (x1 : List Int) (x4 : List Int) : Option (List Int) :=
  zD F x4 F (x1, ([] : List Int), true, 0)
def yZ (F : Nat) (x1 : List Int) (x4 : List Int) (x10 : Int) : Option (List Int × Int) :=
  (if ((x10 : Int) != 0) then some (([] : List Int), x10) else ((qaB F x1 x4).bind fun x12 => some (x12, 0)))
def qal (F : Nat) (x1 : List Int) (x4 : List Int) : Option (List Int × Int) :=
  ((yh F x1).bind fun x7 => (if ((x7 : Int) == 0) then ((j5 F x4 (x1.length : Int)).bind fun x16 => yZ F x1 x4 x16) else yZ F x1 x4 x7))
def yB (_F : Nat) (x72 : List Int) (x73 : Int) (x74 : Int) : Option ((List Int × Int × Int) ⊕ (Int × Int)) :=
  some (.inl (x72, x73, x74))
def kv (F : Nat) (x3 : List Int) (x7 : Int) (x10 : List Int) (rec3 : (List Int × Int × Int × Int) → Option ((List Int × Int × Int) ⊕ (Int × Int))) (x93 : List Int) (x94 : Int) (x95 : Int) (x96 : Int) : Option ((List Int × Int × Int) ⊕ (Int × Int)) :=
  (if (decide (x94 < (x10.length : Int))) then (lbnd (q3 F x95 x3 x96 x7) (fun x125 => ((idx x93 x94).bind fun _x127 => (lett (x93.set x94.toNat (iadd .i64 x125.1 (imin x94 1))) fun x130 => rec3 (x130, iadd .i64 x94 1, x125.2.1, x125.2.2)))) (fun x126 => some (.inr (x126.1, x126.2)))) else yB F x93 x95 x96)
def zk (F : Nat) (x3 : List Int) (x7 : Int) (x10 : List Int) : Nat → (List Int × Int × Int × Int) → Option ((List Int × Int × Int) ⊕ (Int × Int))
  | 0 => fun _ => none
  | k + 1 => fun s => kv F x3 x7 x10 (zk F x3 x7 x10 k) s.1 s.2.1 s.2.2.1 s.2.2.2
def yk (F : Nat) (x2 : Int) (x3 : List Int) (x6 : Int) (x7 : Int) : Option ((List Int × Int × Int) ⊕ (Int × Int)) :=
  (lbnd (q3 F x2 x3 x6 (iadd .i64 x7 1)) (fun x8 => ((mk 17592186044416 (0 : Int) x8.1).bind fun x10 => zk F x3 x7 x10 F (x10, 0, x8.2.1, x8.2.2))) (fun x9 => some (.inr (x9.1, x9.2))))
def vb (_F : Nat) (x1 : Int) : Option Int :=
  (lett (ixor .i64 (iconv .i64 (ishr .u64 x1 1)) (isub .i64 0 (iconv .i64 (iand .u64 x1 1)))) fun x2 => some x2)
def vk (_F : Nat) (x136 : List (Int × Int)) (x137 : Int) (x138 : Int) : Option ((List (Int × Int) × Int × Int) ⊕ (Int × Int)) :=
  some (.inl (x136, x137, x138))
def zR (F : Nat) (rec13 : (List (Int × Int) × Int × Int × Int × Int) → Option ((List (Int × Int) × Int × Int) ⊕ (Int × Int))) (x3 : List Int) (x8 : Int) (x9 : Int) (x177 : List (Int × Int)) (x179 : Int) (x240 : (Int × Int × Int)) (x244 : Int) : Option ((List (Int × Int) × Int × Int) ⊕ (Int × Int)) :=
  (lbnd (q3 F x240.2.1 x3 x240.2.2 x9) (fun x245 => ((idx x177 x179).bind fun _x247 => (lett (x177.set x179.toNat (x244, iadd .i64 x245.1 x8)) fun x250 => ((idx x250 x179).bind fun x253 => rec13 (x250, iadd .i64 x244 (isub .i64 x253.2 1), iadd .i64 x179 1, x245.2.1, x245.2.2))))) (fun x246 => some (.inr (x246.1, x246.2))))
def kH (F : Nat) (x3 : List Int) (x8 : Int) (x9 : Int) (x13 : List (Int × Int)) (rec13 : (List (Int × Int) × Int × Int × Int × Int) → Option ((List (Int × Int) × Int × Int) ⊕ (Int × Int))) (x177 : List (Int × Int)) (x178 : Int) (x179 : Int) (x180 : Int) (x181 : Int) : Option ((List (Int × Int) × Int × Int) ⊕ (Int × Int)) :=
  (if (decide (x179 < (x13.length : Int))) then (lbnd (q3 F x180 x3 x181 2097152) (fun x240 => (if ((x179 : Int) == 0) then ((vb F (iconv .u64 x240.1)).bind fun x256 => zR F rec13 x3 x8 x9 x177 x179 x240 (iadd .i64 x178 x256)) else zR F rec13 x3 x8 x9 x177 x179 x240 (iadd .i64 x178 (iadd .i64 x240.1 2)))) (fun x241 => some (.inr (x241.1, x241.2)))) else vk F x177 x180 x181)
def qP (F : Nat) (x3 : List Int) (x8 : Int) (x9 : Int) (x13 : List (Int × Int)) : Nat → (List (Int × Int) × Int × Int × Int × Int) → Option ((List (Int × Int) × Int × Int) ⊕ (Int × Int))
  | 0 => fun _ => none
  | k + 1 => fun s => kH F x3 x8 x9 x13 (qP F x3 x8 x9 x13 k) s.1 s.2.1 s.2.2.1 s.2.2.2.1 s.2.2.2.2
def yR (F : Nat) (x2 : Int) (x3 : List Int) (x6 : Int) (x7 : Int) (x8 : Int) (x9 : Int) : Option ((List (Int × Int) × Int × Int) ⊕ (Int × Int)) :=
  (chk ((x8 : Int) != 0) ((lbnd (q3 F x2 x3 x6 (iquo .i64 x9 x8)) (fun x11 => ((mk 8796093022208 (((0 : Int), (0 : Int)) : (Int × Int)) x11.1).bind fun x13 => qP F x3 x8 x9 x13 F (x13, x7, 0, x11.2.1, x11.2.2))) (fun x12 => some (.inr (x12.1, x12.2))))))
def yp (_F : Nat) (x15 : List Int) : Option (List Int) :=
  some x15
def kU (F : Nat) (x1 : List Int) (c3 : Nat) (x4 : Int) : Option (List Int) :=
  (if (decide (x4 < 0)) then none else (lett (isub .i64 x4 (isub .i64 (c3 : Int) (x1.length : Int))) fun x16 => (if (decide (0 < x16)) then ((sub x1 0 (c3 : Int)).bind fun x17 => ((appz 8796093022208 x17 (0 : Int) x16).bind fun x18 => ((sub x18 0 (x1.length : Int)).bind fun x21 => yp F x21))) else yp F x1)))
def kO (_F : Nat) (x102 : List Int) : Option (List Int) :=
  some x102
def qk (F : Nat) (x1 : List (List Int)) (rec5 : (List Int × Int) → Option (List Int)) (x121 : List Int) (x122 : Int) : Option (List Int) :=
  (if (decide (x122 < (x1.length : Int))) then ((idx x1 x122).bind fun x148 => ((app 8796093022208 x121 x148).bind fun x152 => rec5 (x152, iadd .i64 x122 1))) else kO F x121)
def qp (F : Nat) (x1 : List (List Int)) : Nat → (List Int × Int) → Option (List Int)
  | 0 => fun _ => none
  | k + 1 => fun s => qk F x1 (qp F x1 k) s.1 s.2
def zo (F : Nat) (x1 : List (List Int)) (x43 : Int) : Option (List Int) :=
  ((kU F ([] : List Int) 0 x43).bind fun x44 => qp F x1 F (x44, 0))
def ql (F : Nat) (x1 : List (List Int)) (rec6 : (Int × Int) → Option (List Int)) (x168 : Int) (x169 : Int) : Option (List Int) :=
  (if (decide (x169 < (x1.length : Int))) then ((idx x1 x169).bind fun x189 => (if (decide ((iadd .i64 x168 (x189.length : Int)) < 0)) then none else rec6 (iadd .i64 x168 (x189.length : Int), iadd .i64 x169 1))) else zo F x1 x168)
def qq (F : Nat) (x1 : List (List Int)) : Nat → (Int × Int) → Option (List Int)
  | 0 => fun _ => none
  | k + 1 => fun s => ql F x1 (qq F x1 k) s.1 s.2
def q4 (F : Nat) (x1 : List (List Int)) : Option (List Int) :=
  qq F x1 F (0, 0)
def qX (_F : Nat) (x1 : List Int) : Option (List Int) :=
  if x1.length < 4611686018427387904 then some (srt x1) else none
def jc (_F : Nat) (x1 : Int) (x2 : Int) (x3 : Int) : Option Bool :=
  some ((decide (x2 ≤ x1)) && (decide (x1 ≤ x3)))
def qaQ (_F : Nat) (x462 : List Int) : Option (List Int × Int) :=
  some (x462, 0)
def vE (_F : Nat) (rec32 : (List Int × Int) → Option (List Int × Int)) (x561 : Int) (x706 : List Int) : Option (List Int × Int) :=
  rec32 (x706, iadd .i64 x561 1)
def vB (F : Nat) (rec32 : (List Int × Int) → Option (List Int × Int)) (x561 : Int) (x707 : (Int × Int)) (rec35 : (List Int × Int) → Option (List Int × Int)) (x725 : List Int) (x726 : Int) : Option (List Int × Int) :=
  (if (decide (x726 < x707.2)) then ((app 8796093022208 x725 ([iadd .i64 x707.1 x726] : List Int)).bind fun x748 => rec35 (x748, iadd .i64 x726 1)) else vE F rec32 x561 x725)
def ku (F : Nat) (rec32 : (List Int × Int) → Option (List Int × Int)) (x561 : Int) (x707 : (Int × Int)) : Nat → (List Int × Int) → Option (List Int × Int)
  | 0 => fun _ => none
  | k + 1 => fun s => vB F rec32 x561 x707 (ku F rec32 x561 x707 k) s.1 s.2
def vA (F : Nat) (x1 : List (Int × Int)) (rec32 : (List Int × Int) → Option (List Int × Int)) (x560 : List Int) (x561 : Int) : Option (List Int × Int) :=
  (if (decide (x561 < (x1.length : Int))) then ((idx x1 x561).bind fun x707 => ku F rec32 x561 x707 F (x560, 0)) else qaQ F x560)
def qO (F : Nat) (x1 : List (Int × Int)) : Nat → (List Int × Int) → Option (List Int × Int)
  | 0 => fun _ => none
  | k + 1 => fun s => vA F x1 (qO F x1 k) s.1 s.2
def vD (F : Nat) (x1 : List (Int × Int)) : Option (List Int × Int) :=
  qO F x1 F (([] : List Int), 0)
def yj (_F : Nat) (rec44 : (Int × Int) → Option (List Int × Int)) (x807 : Int) (x808 : Int) (x891 : (Int × Int)) (x910 : Bool) : Option (List Int × Int) :=
  (if x910 then some (([] : List Int), 3) else (if (decide (x891.1 < (iadd .i64 x807 2))) then some (([] : List Int), 4) else rec44 (isub .i64 (iadd .i64 x891.1 x891.2) 1, iadd .i64 x808 1)))
def vC (F : Nat) (x1 : List (Int × Int)) (rec44 : (Int × Int) → Option (List Int × Int)) (x807 : Int) (x808 : Int) : Option (List Int × Int) :=
  (if (decide (x808 < (x1.length : Int))) then ((idx x1 x808).bind fun x891 => ((jc F x891.1 0 1048576).bind fun x913 => (if (!x913) then yj F rec44 x807 x808 x891 (!x913) else ((jc F x891.2 1 300).bind fun x914 => (if (!x914) then yj F rec44 x807 x808 x891 (!x914) else yj F rec44 x807 x808 x891 (decide (1048576 < (isub .i64 (iadd .i64 x891.1 x891.2) 1)))))))) else vD F x1)
def zM (F : Nat) (x1 : List (Int × Int)) : Nat → (Int × Int) → Option (List Int × Int)
  | 0 => fun _ => none
  | k + 1 => fun s => vC F x1 (zM F x1 k) s.1 s.2
def j7 (F : Nat) (x1 : List (Int × Int)) : Option (List Int × Int) :=
  (if (decide (300 < (x1.length : Int))) then some (([] : List Int), 2) else zM F x1 F (-2, 0))
def zy (_F : Nat) (x1 : List Int) : Option (List Int) :=
  if (Go.Lib.compact x1).length ≤ x1.length then some (Go.Lib.compact x1) else none
def kG (_F : Nat) (x1 : List Int) : Option (List Int) :=
  ((app 8796093022208 ([] : List Int) x1).bind fun x8 => some x8)
def y8 (F : Nat) (x4 : List Int) (x7 : (List Int × Int)) (x12 : Int) : Option (List Int × Int) :=
  (if ((x12 : Int) != 0) then some (([] : List Int), x12) else ((q4 F ([x7.1, x4] : List (List Int))).bind fun x16 => ((qX F x16).bind fun x19 => (chk (decide (x19.length = x16.length)) (((kG F x19).bind fun x29 => ((zy F x29).bind fun x32 => (if (decide ((x32.length : Int) < (x19.length : Int))) then some (([] : List Int), 6) else (if (decide (300 < (x19.length : Int))) then some (([] : List Int), 2) else some (x19, 0))))))))))
def qam (F : Nat) (x1 : List (Int × Int)) (x4 : List Int) : Option (List Int × Int) :=
  ((j7 F x1).bind fun x7 => (if ((x7.2 : Int) == 0) then ((yh F x4).bind fun x38 => y8 F x4 x7 x38) else y8 F x4 x7 x7.2))
def qW (F : Nat) (x1 : Int) (x2 : List Int) (x5 : Int) (x8 : (Int × Int)) : Option (Int × Int × Bool) :=
  ((yH F x1 x2 x5 x8.1).bind fun x14 => some (isub .u64 x14.1 x8.2, iadd .i64 x5 x8.1, x14.2))
def qS (F : Nat) (x1 : Int) (x2 : List Int) (x5 : Int) (x6 : Int) : Option (Int × Int × Bool) :=
  ((vL F x6).bind fun x8 => (if (decide (0 < x8.2)) then ((yH F x1 x2 x5 (isub .i64 x8.1 1)).bind fun x15 => (if (!x15.2) then some (0, 0, false) else (if (decide (x15.1 < x8.2)) then some (x15.1, isub .i64 (iadd .i64 x5 x8.1) 1, true) else qW F x1 x2 x5 x8))) else qW F x1 x2 x5 x8))
def jz (_F : Nat) (x1 : Int) (x2 : Int) (x3 : Bool) : Option (Int × Int × Int) :=
  (if (!x3) then some (0, 0, 7) else (if (decide (1099511627776 < x1)) then some (0, 0, 3) else some (x1, x2, 0)))
def vn (F : Nat) (x1 : Int) (x2 : List Int) (x5 : Int) (x6 : Int) : Option (Int × Int × Int) :=
  ((jF F x1 x2 x5).bind fun x8 => (if (!x8.2.2) then some (0, 0, 7) else (if (decide (41 ≤ (imul .u64 x8.1 (iconv .u64 x6)))) then some (0, 0, 3) else (chk (decide (0 ≤ (imul .i64 (iconv .i64 x8.1) x6))) ((lett (ishl .u64 1 (imul .i64 (iconv .i64 x8.1) x6)) fun x12 => (chk (decide (0 ≤ x6)) (((qS F x1 x2 x8.2.1 (isub .u64 (ishl .u64 x12 x6) x12)).bind fun x20 => ((jz F (isub .u64 (iadd .u64 x12 x20.1) 1) x20.2.1 x20.2.2).bind fun x21 => some (x21.1, x21.2.1, x21.2.2)))))))))))
def zX (F : Nat) (x8 : Int) : Option (Bool × Int × Bool) :=
  ((j9 F x8).bind fun x9 => some (x9, x8, true))
def zC (F : Nat) (x2 : Int) (x3 : Bool) (x4 : Int) : Option (Bool × Int × Bool) :=
  (if (decide (2097152 < x4)) then some (false, x2, x3) else (if x3 then zX F (iadd .i64 x2 (iadd .i64 (iconv .i64 x4) 1)) else ((vb F x4).bind fun x10 => zX F (iadd .i64 x2 x10))))
def qaw (_F : Nat) (x105 : Int) (x108 : List Int) : Option (List Int × Int × Int) :=
  some (x108, x105, 0)
def jy (F : Nat) (x1 : Int) (x2 : List Int) (x7 : Int) (x8 : Int) (rec3 : (Int × List Int × Int × Int × Bool) → Option (List Int × Int × Int)) (x138 : Int) (x141 : List Int) (x142 : Int) (x143 : Int) (x144 : Bool) : Option (List Int × Int × Int) :=
  (if (decide (x142 < x8)) then ((vn F x1 x2 x138 x7).bind fun x190 => (if ((x190.2.2 : Int) != 0) then some (([] : List Int), 0, x190.2.2) else ((zC F x143 x144 x190.1).bind fun x193 => (if (!x193.1) then some (([] : List Int), 0, 3) else ((app 8796093022208 x141 ([x193.2.1] : List Int)).bind fun x196 => rec3 (x190.2.1, x196, iadd .i64 x142 1, x193.2.1, x193.2.2)))))) else qaw F x138 x141)
def yz (F : Nat) (x1 : Int) (x2 : List Int) (x7 : Int) (x8 : Int) : Nat → (Int × List Int × Int × Int × Bool) → Option (List Int × Int × Int)
  | 0 => fun _ => none
  | k + 1 => fun s => jy F x1 x2 x7 x8 (yz F x1 x2 x7 x8 k) s.1 s.2.1 s.2.2.1 s.2.2.2.1 s.2.2.2.2
def qaM (F : Nat) (x1 : Int) (x2 : List Int) (x5 : Int) (x6 : Int) (x7 : Int) (x8 : Int) : Option (List Int × Int × Int) :=
  yz F x1 x2 x7 x8 F (x5, ([] : List Int), 0, x6, false)
def zZ (F : Nat) (x3 : List Int) (x7 : Int) (x13 : Int) (x15 : (Int × Int × Int)) (x31 : List Int) (x42 : List (Int × Int)) (x43 : Int) (x44 : Int) : Option ((List Int × Int × Int) ⊕ (Int × Int)) :=
  ((qam F x42 ([] : List Int)).bind fun x45 => (lbnd (zV F (((x45.2 : Int) == 0) && (decide ((x45.1.length : Int) ≤ (isub .i64 x15.1 (x31.length : Int)))))) (fun _x49 => ((qaM F x43 x3 x44 x7 x13 (isub .i64 (isub .i64 x15.1 (x31.length : Int)) (x45.1.length : Int))).bind fun x54 => (lbnd (zV F ((x54.2.2 : Int) == 0)) (fun _x57 => ((q4 F ([x31, x45.1, x54.1] : List (List Int))).bind fun x61 => ((qX F x61).bind fun x64 => (chk (decide (x64.length = x61.length)) (some (.inl (x64, x43, x54.2.1))))))) (fun _x58 => some (.inr (x43, x44)))))) (fun _x50 => some (.inr (x43, x44)))))
def zY (F : Nat) (x3 : List Int) (x7 : Int) (x12 : Int) (x13 : Int) (x15 : (Int × Int × Int)) (x31 : List Int) (x32 : Int) (x33 : Int) : Option ((List Int × Int × Int) ⊕ (Int × Int)) :=
  (if (((isub .i64 x15.1 (x31.length : Int)) : Int) == 0) then some (.inl (x31, x32, x33)) else (if (decide (0 < x12)) then (lbnd (yR F x32 x3 x33 x7 x12 (isub .i64 x15.1 (x31.length : Int))) (fun x66 => zZ F x3 x7 x13 x15 x31 x66.1 x66.2.1 x66.2.2) (fun x67 => some (.inr (x67.1, x67.2)))) else zZ F x3 x7 x13 x15 x31 ([] : List (Int × Int)) x32 x33))
def kP (F : Nat) (x2 : Int) (x3 : List Int) (x6 : Int) (x7 : Int) (x8 : List Int) (x11 : Int) (x12 : Int) (x13 : Int) : Option ((List Int × Int × Int) ⊕ (Int × Int)) :=
  (lbnd (q3 F x2 x3 x6 300) (fun x15 => (if ((x15.1 : Int) == 0) then some (.inl (([] : List Int), x15.2.1, x15.2.2)) else (if (decide (0 < x11)) then (lbnd (yk F x15.2.1 x3 x15.2.2 (x8.length : Int)) (fun x72 => ((qal F x8 x72.1).bind fun x76 => (lbnd (zV F (((x76.2 : Int) == 0) && (decide ((x76.1.length : Int) ≤ x15.1)))) (fun _x80 => zY F x3 x7 x12 x13 x15 x76.1 x72.2.1 x72.2.2) (fun _x81 => some (.inr (x72.2.1, x72.2.2)))))) (fun x73 => some (.inr (x73.1, x73.2)))) else zY F x3 x7 x12 x13 x15 ([] : List Int) x15.2.1 x15.2.2))) (fun x16 => some (.inr (x16.1, x16.2))))
def jK (_F : Nat) (x17 : (List Int × Int × Int)) : Option (List Int × Bool × Int × Int) :=
  some (x17.1, true, x17.2.1, x17.2.2)
def kV (F : Nat) (x3 : List Int) (x6 : Int) (x17 : (List Int × Int × Int)) (x25 : (Int × List Int × Bool)) (rec4 : Int → Option (List Int × Bool × Int × Int)) (x75 : Int) : Option (List Int × Bool × Int × Int) :=
  (if (decide (x75 < x25.1)) then ((vS F x25.1 x25.2.1 x75).bind fun x92 => ((vS F x17.2.1 x3 (iadd .i64 x6 x75)).bind fun x93 => (lbnd (zV F ((x92 : Int) == x93)) (fun _x94 => rec4 (iadd .i64 x75 1)) (fun _x95 => some (([] : List Int), false, x17.2.1, x17.2.2))))) else jK F x17)
def qY (F : Nat) (x3 : List Int) (x6 : Int) (x17 : (List Int × Int × Int)) (x25 : (Int × List Int × Bool)) : Nat → Int → Option (List Int × Bool × Int × Int)
  | 0 => fun _ => none
  | k + 1 => fun s => kV F x3 x6 x17 x25 (qY F x3 x6 x17 x25 k) s
def kW (F : Nat) (x3 : List Int) (x6 : Int) (x17 : (List Int × Int × Int)) (x25 : (Int × List Int × Bool)) : Option (List Int × Bool × Int × Int) :=
  qY F x3 x6 x17 x25 F 0
def kQ (F : Nat) (x2 : Int) (x3 : List Int) (x6 : Int) (x7 : Int) (x8 : List Int) (x11 : Int) (x12 : Int) (x13 : Int) : Option (List Int × Bool × Int × Int) :=
  (lbnd (kP F x2 x3 x6 x7 x8 x11 x12 x13) (fun x17 => ((yh F x17.1).bind fun x21 => (lbnd (zV F ((x21 : Int) == 0)) (fun _x22 => ((kR F 0 ([] : List Int) false x7 x17.1 x8 x11 x12 x13).bind fun x25 => (if (!x25.2.2) then (lbnd (zV F ((x25.1 : Int) == (isub .i64 x17.2.2 x6))) (fun _x98 => kW F x3 x6 x17 x25) (fun _x99 => some (([] : List Int), false, x17.2.1, x17.2.2))) else (lbnd (zV F false) (fun _x100 => kW F x3 x6 x17 x25) (fun _x101 => some (([] : List Int), false, x17.2.1, x17.2.2)))))) (fun _x23 => some (([] : List Int), false, x17.2.1, x17.2.2))))) (fun x18 => some (([] : List Int), false, x18.1, x18.2)))
def ju (F : Nat) (x1 : Int) (x2 : List Int) (x5 : Int) (x6 : Int) (x7 : List Int) (x10 : Int) (x11 : Int) (x12 : Int) : Option (List Int × Int × Int) :=
  ((kQ F x1 x2 x5 x6 x7 x10 x11 x12).bind fun x16 => (if (!x16.2.1) then some (([] : List Int), 0, 1) else some (x16.1, x16.2.2.2, 0)))
def qag (_F : Nat) (x5 : Int) (x261 : List (List Int)) (x262 : Int) : Option (List (List Int) × Bool) :=
  some (x261, ((x262 : Int) == x5))
def yY (_F : Nat) (rec8 : (List (List Int) × Int × Int) → Option (List (List Int) × Bool)) (x350 : Int) (x472 : List (List Int)) (x473 : Int) : Option (List (List Int) × Bool) :=
  rec8 (x472, x473, iadd .i64 x350 1)
def jl (F : Nat) (x1 : Int) (x2 : Int) (x3 : Int) (x4 : Int) (x5 : Int) (x6 : List Int) (rec8 : (List (List Int) × Int × Int) → Option (List (List Int) × Bool)) (x348 : List (List Int)) (x349 : Int) (x350 : Int) : Option (List (List Int) × Bool) :=
  (if (decide (x350 < x1)) then ((qbg F x1 x2 x3 x4 x5 x6 x349 x350).bind fun x474 => (if (!x474.2.2) then some (([] : List (List Int)), false) else (if (decide (0 < x474.1)) then ((idx x348 (isub .i64 x350 x474.1)).bind fun x482 => ((ju F x5 x6 x474.2.1 x350 x482 x474.1 x3 x4).bind fun x488 => (if ((x488.2.2 : Int) != 0) then some (([] : List (List Int)), false) else ((app 2199023255552 x348 ([x488.1] : List (List Int))).bind fun x494 => yY F rec8 x350 x494 x488.2.1)))) else ((ju F x5 x6 x474.2.1 x350 ([] : List Int) x474.1 x3 x4).bind fun x499 => (if ((x499.2.2 : Int) != 0) then some (([] : List (List Int)), false) else ((app 2199023255552 x348 ([x499.1] : List (List Int))).bind fun x505 => yY F rec8 x350 x505 x499.2.1)))))) else qag F x5 x348 x349)
def zU (F : Nat) (x1 : Int) (x2 : Int) (x3 : Int) (x4 : Int) (x5 : Int) (x6 : List Int) : Nat → (List (List Int) × Int × Int) → Option (List (List Int) × Bool)
  | 0 => fun _ => none
  | k + 1 => fun s => jl F x1 x2 x3 x4 x5 x6 (zU F x1 x2 x3 x4 x5 x6 k) s.1 s.2.1 s.2.2
def qbh (F : Nat) (x1 : Int) (x2 : Int) (x3 : Int) (x4 : Int) (x5 : Int) (x6 : List Int) : Option (List (List Int) × Bool) :=
  zU F x1 x2 x3 x4 x5 x6 F (([] : List (List Int)), 0, 0)
def vF (_F : Nat) : Option Bool :=
  some true
def zH (F : Nat) (x1 : List Int) (x4 : List Int) (rec3 : Int → Option Bool) (x154 : Int) : Option Bool :=
  (if (decide (x154 < (x1.length : Int))) then ((idx x1 x154).bind fun x218 => ((idx x4 x154).bind fun x222 => (if ((x218 : Int) != x222) then some false else rec3 (iadd .i64 x154 1)))) else vF F)
def qT (F : Nat) (x1 : List Int) (x4 : List Int) : Nat → Int → Option Bool
  | 0 => fun _ => none
  | k + 1 => fun s => zH F x1 x4 (qT F x1 x4 k) s
def kg (F : Nat) (x1 : List Int) (x4 : List Int) : Option Bool :=
  (if (((x1.length : Int) : Int) != (x4.length : Int)) then some false else qT F x1 x4 F 0)
def jC (_F : Nat) (x14 : (List (List Int) × Bool)) (x34 : Bool) : Option (List (List Int) × Int) :=
  (if x34 then some (([] : List (List Int)), 1) else some (x14.1, 0))
def qaa (F : Nat) (x1 : Int) (x2 : Int) (x3 : Int) (x4 : Int) (x5 : Int) (x6 : List Int) : Option (List (List Int) × Int) :=
  ((qak F x1 x2 x3 x4 x5 x6).bind fun x13 => (if ((x13 : Int) != 0) then some (([] : List (List Int)), x13) else ((qbh F x1 x2 x3 x4 x5 x6).bind fun x14 => (if (!x14.2) then some (([] : List (List Int)), 1) else ((yi F x14.1 x2 x3 x4).bind fun x28 => (if ((x28.2.2.2.2.2.2 : Int) != 0) then jC F x14 true else ((kg F x28.2.2.2.2.2.1 x6).bind fun x36 => jC F x14 (!x36))))))))
def qby (_F : Nat) : Option Bool :=
  some true
def jf (F : Nat) (x1 : List Int) (x4 : List Int) (rec3 : Int → Option Bool) (x154 : Int) : Option Bool :=
  (if (decide (x154 < (x1.length : Int))) then ((idx x1 x154).bind fun x218 => ((idx x4 x154).bind fun x222 => (if ((x218 : Int) != x222) then some false else rec3 (iadd .i64 x154 1)))) else qby F)
def kZ (F : Nat) (x1 : List Int) (x4 : List Int) : Nat → Int → Option Bool
  | 0 => fun _ => none
  | k + 1 => fun s => jf F x1 x4 (kZ F x1 x4 k) s
def qah (F : Nat) (x1 : List Int) (x4 : List Int) : Option Bool :=
  (if (((x1.length : Int) : Int) != (x4.length : Int)) then some false else kZ F x1 x4 F 0)
def qa4 (_F : Nat) : Option Bool :=
  some true
def vR (F : Nat) (x1 : List (List Int)) (x4 : List (List Int)) (rec3 : Int → Option Bool) (x202 : Int) : Option Bool :=
  (if (decide (x202 < (x1.length : Int))) then ((idx x1 x202).bind fun x287 => ((idx x4 x202).bind fun x292 => ((qah F x287 x292).bind fun x297 => (if (!x297) then some false else rec3 (iadd .i64 x202 1))))) else qa4 F)
def kL (F : Nat) (x1 : List (List Int)) (x4 : List (List Int)) : Nat → Int → Option Bool
  | 0 => fun _ => none
  | k + 1 => fun s => vR F x1 x4 (kL F x1 x4 k) s
def jW (F : Nat) (x1 : List (List Int)) (x4 : List (List Int)) : Option Bool :=
  (if (((x1.length : Int) : Int) != (x4.length : Int)) then some false else kL F x1 x4 F 0)
def jV (F : Nat) (x1 : List (List Int)) (x4 : List (List Int)) : Option Bool :=
  ((jW F x1 x4).bind fun x9 => some x9)
def qJ (_F : Nat) (x78 : Bool) : Option Bool :=
  some x78
def yv (F : Nat) (x21 : Int) (x22 : Int) (x23 : Int) (x24 : Int) (x25 : Int) (x26 : Int) (x29 : List Int) : Option Bool :=
  ((qaa F x22 x23 x24 x25 x26 x29).bind fun x30 => ((ve F).bind fun x42 => ((qab F x42 3 3 2).bind fun x45 => ((qaa F 1 3 3 2 0 ([] : List Int)).bind fun x50 => (if ((x21 : Int) == 0) then (if ((x22 : Int) == 6) then (if (((x23 : Int) == 3) && (((x24 : Int) == 3) && ((x25 : Int) == 2))) then ((ve F).bind fun x82 => ((jV F x30.1 x82).bind fun x85 => (if x85 then (if ((x30.2 : Int) == 0) then (if (((x45.1.length : Int) : Int) == 6) then ((idx x45.1 0).bind fun x89 => (if ((x89 : Int) == 0) then ((idx x45.1 1).bind fun x93 => (if ((x93 : Int) == 1) then (if (((x45.2.1.length : Int) : Int) == 6) then ((idx x45.2.1 0).bind fun x98 => (if ((x98 : Int) == 0) then (if ((x45.2.2 : Int) == 0) then qJ F ((x50.2 : Int) == 1) else qJ F false) else qJ F false)) else qJ F false) else qJ F false)) else qJ F false)) else qJ F false) else qJ F false) else qJ F false))) else qJ F false) else qJ F false) else qJ F false)))))
def jU (F : Nat)  : Option Bool :=
  ((ve F).bind fun x103 => ((yi F x103 3 3 2).bind fun x106 => yv F x106.2.2.2.2.2.2 x106.1 x106.2.1 x106.2.2.1 x106.2.2.2.1 x106.2.2.2.2.1 x106.2.2.2.2.2.1))
def qbG (_F : Nat) (x1 : Int) (x2 : Int) (x3 : Int) : Option Bool :=
  some ((decide (x2 ≤ x1)) && (decide (x1 ≤ x3)))
def jq (_F : Nat) (x3744 : Int) : Option Int :=
  (if (decide (600 < x3744)) then some 2 else some 0)
def zv (_F : Nat) (rec138 : (Int × Int) → Option Int) (x4993 : Int) (x6862 : Int) : Option Int :=
  rec138 (x6862, iadd .i64 x4993 1)
def zw (_F : Nat) (rec161 : (Int × Int) → Option Int) (x7069 : Int) (x7070 : Int) (x7461 : Bool) : Option Int :=
  (if x7461 then some 4 else rec161 (iadd .i64 x7069 1, iadd .i64 x7070 1))
def yr (F : Nat) (rec138 : (Int × Int) → Option Int) (x1 : List (List Int)) (x4993 : Int) (rec161 : (Int × Int) → Option Int) (x7069 : Int) (x7070 : Int) : Option Int :=
  ((idx x1 x4993).bind fun x7283 => (if (decide (x7070 < (x7283.length : Int))) then ((idx x1 x4993).bind fun x7394 => ((idx x7394 x7070).bind fun x7398 => ((qbG F x7398 0 (isub .i64 (x1.length : Int) 1)).bind fun x7401 => (if (!x7401) then some 3 else (if (decide (0 < x7070)) then ((idx x1 x4993).bind fun x7464 => ((idx x7464 x7070).bind fun x7469 => ((idx x1 x4993).bind fun x7473 => ((idx x7473 (isub .i64 x7070 1)).bind fun x7478 => zw F rec161 x7069 x7070 (decide (x7469 ≤ x7478)))))) else zw F rec161 x7069 x7070 false))))) else zv F rec138 x4993 x7069))
def qM (F : Nat) (rec138 : (Int × Int) → Option Int) (x1 : List (List Int)) (x4993 : Int) : Nat → (Int × Int) → Option Int
  | 0 => fun _ => none
  | k + 1 => fun s => yr F rec138 x1 x4993 (qM F rec138 x1 x4993 k) s.1 s.2
def yq (F : Nat) (x1 : List (List Int)) (rec138 : (Int × Int) → Option Int) (x4992 : Int) (x4993 : Int) : Option Int :=
  (if (decide (x4993 < (x1.length : Int))) then qM F rec138 x1 x4993 F (x4992, 0) else jq F x4992)
def qu (F : Nat) (x1 : List (List Int)) : Nat → (Int × Int) → Option Int
  | 0 => fun _ => none
  | k + 1 => fun s => yq F x1 (qu F x1 k) s.1 s.2
def jv (F : Nat) (x1 : List (List Int)) : Option Int :=
  (if (decide (100 < (x1.length : Int))) then some 2 else qu F x1 F (0, 0))
def qaX (_F : Nat) (x31 : List Int) : Option (List Int) :=
  some x31
def jX (F : Nat) (rec3 : (Int × List Int) → Option (List Int)) (x40 : Int) (x43 : List Int) : Option (List Int) :=
  (if (decide (0 < x40)) then ((app 8796093022208 ([iconv .i64 (irem x40 2)] : List Int) x43).bind fun x55 => rec3 (iquo .u64 x40 2, x55)) else qaX F x43)
def vf (F : Nat) : Nat → (Int × List Int) → Option (List Int)
  | 0 => fun _ => none
  | k + 1 => fun s => jX F (vf F k) s.1 s.2
def qbf (F : Nat) (x1 : Int) : Option (List Int) :=
  vf F F (x1, ([] : List Int))
def jL (_F : Nat) (x2 : List Int) (x48 : List Int) : Option (List Int) :=
  ((app 8796093022208 x48 x2).bind fun x49 => some x49)
def vQ (F : Nat) (x2 : List Int) (rec3 : (List Int × Int) → Option (List Int)) (x66 : List Int) (x67 : Int) : Option (List Int) :=
  (if (decide (x67 < (x2.length : Int))) then ((app 8796093022208 x66 ([0] : List Int)).bind fun x89 => rec3 (x89, iadd .i64 x67 1)) else jL F x2 x66)
def kK (F : Nat) (x2 : List Int) : Nat → (List Int × Int) → Option (List Int)
  | 0 => fun _ => none
  | k + 1 => fun s => vQ F x2 (kK F x2 k) s.1 s.2
def v7 (F : Nat) (x1 : Int) : Option (List Int) :=
  ((qbf F (iadd .u64 x1 1)).bind fun x2 => kK F x2 F (([] : List Int), 1))
def yu (F : Nat) (x7 : Int) (x49 : List (List Int)) (x57 : (List Int × List Int × Int)) (x71 : Int) : Option Bool :=
  ((idx x57.2.1 x7).bind fun x87 => ((idx x49 x7).bind fun x91 => ((v7 F 1).bind fun x96 => ((v7 F (iconv .u64 (x91.length : Int))).bind fun x99 => some (decide ((isub .i64 x71 x87) ≤ (iadd .i64 (iadd .i64 (x96.length : Int) (x99.length : Int)) 1)))))))
def qaW (F : Nat) (x1 : List (List Int)) (x4 : Int) (x5 : Int) (x6 : Int) (x7 : Int) : Option Bool :=
  ((jU F).bind fun x12 => (if (!x12) then some false else ((jv F x1).bind fun x17 => (if ((((x17 : Int) != 0) || (decide (x7 < 1))) || (decide ((x1.length : Int) ≤ x7))) then some true else ((app 2199023255552 ([] : List (List Int)) x1).bind fun x22 => ((idx x1 (isub .i64 x7 1)).bind fun x40 => ((idx x22 x7).bind fun _x45 => (lett (x22.set x7.toNat x40) fun x49 => ((yi F x49 x4 x5 x6).bind fun x53 => ((qab F x49 x4 x5 x6).bind fun x57 => (if ((((x53.2.2.2.2.2.2 : Int) != 0) || ((x57.2.2 : Int) != 0)) || ((x4 : Int) == 0)) then some ((x53.2.2.2.2.2.2 : Int) == x57.2.2) else (if (decide ((iadd .i64 x7 1) < (x57.2.1.length : Int))) then ((idx x57.2.1 (iadd .i64 x7 1)).bind fun x102 => yu F x7 x49 x57 x102) else yu F x7 x49 x57 x53.2.2.2.2.1))))))))))))
end Go.Proofs.YtnlodcokfndnmaaGreat
