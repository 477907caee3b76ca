/- What each Go function of this seat computes, in plain terms. -/
import Derived.Test.YtpnfijegoepiaaaGreatSy
namespace Go.Proofs.YtpnfijegoepiaaaGreat
open Go SX
def jI (_F : Nat) (x1 : Int) (x2 : Int) (x3 : Int) : Option Int :=
  (if (((((((decide (x1 < 0)) || (decide (7 < x1))) || (decide (x2 < 0))) || ((x2 : Int) == 1)) || (decide (300 < x2))) || (decide (x3 < 1))) || (decide (16 < x3))) then some 3 else some 0)
def qal (_F : Nat) (x798 : Int) : Option Int :=
  (if (decide (600 < x798)) then some 2 else some 0)
def qam (_F : Nat) (rec38 : (Int × Int) → Option Int) (x1065 : Int) (x1461 : Int) : Option Int :=
  rec38 (x1461, iadd .i64 x1065 1)
def jh (F : Nat) (rec38 : (Int × Int) → Option Int) (x1064 : Int) (x1065 : Int) (x1462 : List Int) : Option Int :=
  qam F rec38 x1065 (iadd .i64 x1064 (x1462.length : Int))
def jg (F : Nat) (rec38 : (Int × Int) → Option Int) (x1 : List (List Int)) (x1064 : Int) (x1065 : Int) (x1462 : List Int) (rec45 : (Int × Int) → Option Int) (x1549 : Int) (x1550 : Int) : Option Int :=
  (if (decide (x1550 < (x1462.length : Int))) then ((idx x1462 x1550).bind fun x1582 => (if ((decide (x1582 < 0)) || (decide ((x1.length : Int) ≤ x1582))) then some 3 else (if (decide (x1582 ≤ x1549)) then some 4 else rec45 (x1582, iadd .i64 x1550 1)))) else jh F rec38 x1064 x1065 x1462)
def yi (F : Nat) (rec38 : (Int × Int) → Option Int) (x1 : List (List Int)) (x1064 : Int) (x1065 : Int) (x1462 : List Int) : Nat → (Int × Int) → Option Int
  | 0 => fun _ => none
  | k + 1 => fun s => jg F rec38 x1 x1064 x1065 x1462 (yi F rec38 x1 x1064 x1065 x1462 k) s.1 s.2
def jf (F : Nat) (x1 : List (List Int)) (rec38 : (Int × Int) → Option Int) (x1064 : Int) (x1065 : Int) : Option Int :=
  (if (decide (x1065 < (x1.length : Int))) then ((idx x1 x1065).bind fun x1462 => yi F rec38 x1 x1064 x1065 x1462 F (-1, 0)) else qal F x1064)
def zy (F : Nat) (x1 : List (List Int)) : Nat → (Int × Int) → Option Int
  | 0 => fun _ => none
  | k + 1 => fun s => jf F x1 (zy F x1 k) s.1 s.2
def qaR (F : Nat) (x1 : List (List Int)) : Option Int :=
  (if (decide (100 < (x1.length : Int))) then some 2 else zy F x1 F (0, 0))
def qb4 (_F : Nat) (_x1 : Int) (_x2 : List Int) (_x5 : Int) (_x6 : Int) : Option Unit :=
  some ()
def yc (_F : Nat) (x2 : Int) (x6 : Int) (x15 : List Int) : Option (Int × List Int) :=
  ((idx x15 (iquo .i64 x2 8)).bind fun x30 => (chk (decide (0 ≤ (irem x2 8))) (((idx x15 (iquo .i64 x2 8)).bind fun _x36 => (lett (x15.set (iquo .i64 x2 8).toNat (ior .u8 x30 (ishr .u8 (iconv .u8 (ishl .u64 x6 7)) (irem x2 8)))) fun x41 => some (iadd .i64 x2 1, x41))))))
def yZ (F : Nat) (x2 : Int) (x3 : List Int) (x6 : Int) : Option (Int × List Int) :=
  (if (((irem x2 8) : Int) == 0) then ((app 70368744177664 x3 ([0] : List Int)).bind fun x46 => yc F x2 x6 x46) else yc F x2 x6 x3)
def ya (_F : Nat) (x1 : List Int) : Option (List Int) :=
  ((app 70368744177664 ([] : List Int) x1).bind fun x8 => some x8)
def qbx (F : Nat) (x1 : Int) (x2 : List Int) : Option (Int × List Int) :=
  ((ya F x2).bind fun x10 => some (x1, x10))
def jH (_F : Nat) (_x1 : Int) (x2 : List Int) (x5 : Int) : Option Int :=
  ((idx x2 (iquo .i64 x5 8)).bind fun x7 => (chk (decide (0 ≤ (isub .i64 7 (irem x5 8)))) ((lett (iand .u64 (iconv .u64 (ishr .u8 x7 (isub .i64 7 (irem x5 8)))) 1) fun x11 => some x11))))
def vC {σ τ : Type} (F : Nat) (yy : σ → Int → Option (σ ⊕ τ)) (x4 : Int) (x6 : Int) (x7 : List Int) (rec1 : (Int × σ) → Option (σ ⊕ τ)) (x22 : Int) (x23 : σ) : Option (σ ⊕ τ) :=
  (if (decide (x22 < x4)) then ((jH F x6 x7 x22).bind fun x44 => ((yy x23 x44).bind (Sum.elim (fun x45 => rec1 (iadd .i64 x22 1, x45)) (fun x46 => some (.inr x46))))) else some (.inl x23))
def km {σ τ : Type} (F : Nat) (yy : σ → Int → Option (σ ⊕ τ)) (x4 : Int) (x6 : Int) (x7 : List Int) : Nat → (Int × σ) → Option (σ ⊕ τ)
  | 0 => fun _ => none
  | k + 1 => fun s => vC F yy x4 x6 x7 (km F yy x4 x6 x7 k) s.1 s.2
def qa7 {σ τ : Type} (F : Nat) (yy : σ → Int → Option (σ ⊕ τ)) (x2 : Int) (x4 : Int) (x6 : Int) (x7 : List Int) (s0 : σ) : Option (σ ⊕ τ) :=
  km F yy x4 x6 x7 F (x2, s0)
def jz (F : Nat) (x45 : Int) (x48 : List Int) (x53 : Int) : Option ((Int × List Int) ⊕ Empty) :=
  ((yZ F x45 x48 x53).bind fun x54 => some (.inl (x54.1, x54.2)))
def vx (F : Nat) (x1 : Int) (x2 : List Int) (x5 : Int) (x6 : List Int) : Option (Int × List Int) :=
  ((qbx F x1 x2).bind fun x12 => ((qb4 F x5 x6 0 x5).bind fun _x37 => ((qa7 F (fun ((x45, x48) : (Int × List Int)) (x53 : Int) => jz F x45 x48 x53) 0 x5 x5 x6 (x12.1, x12.2)).bind (Sum.elim (fun ((x45, x48) : (Int × List Int)) => some (x45, x48)) (fun t => t.elim)))))
def qaZ (_F : Nat) (x1 : Int) : Option Bool :=
  some ((decide (0 ≤ x1)) && (decide (x1 ≤ 1048576)))
def qcI (_F : Nat) : Option Int :=
  some 0
def jW (F : Nat) (x1 : List Int) (rec3 : (Int × Int) → Option Int) (x88 : Int) (x89 : Int) : Option Int :=
  (if (decide (x89 < (x1.length : Int))) then ((idx x1 x89).bind fun x121 => ((qaZ F x121).bind fun x127 => (if (!x127) then some 3 else (if (decide (x121 ≤ x88)) then some 4 else rec3 (x121, iadd .i64 x89 1))))) else qcI F)
def yR (F : Nat) (x1 : List Int) : Nat → (Int × Int) → Option Int
  | 0 => fun _ => none
  | k + 1 => fun s => jW F x1 (yR F x1 k) s.1 s.2
def va (F : Nat) (x1 : List Int) : Option Int :=
  (if (decide (300 < (x1.length : Int))) then some 2 else yR F x1 F (-1, 0))
def qbj (F : Nat) (x1 : Int) (x2 : List Int) (x5 : Int) (_x6 : Int) (_x7 : Int) : Option Int :=
  (if ((decide (x1 < 0)) || (decide (1048576 < x1))) then some 3 else (if (decide (0 < x5)) then ((va F x2).bind fun x14 => some x14) else some 0))
def yg (F : Nat) (x2 : Int) (x3 : List Int) (x7 : Int) (x8 : List Int) (x13 : Bool) : Option (Int × List Int × Bool) :=
  (if (!x13) then ((vx F x2 x3 x7 x8).bind fun x14 => some (x14.1, x14.2, x13)) else some (x2, x3, x13))
def ym (F : Nat) (x2 : Int) (x3 : List Int) (x6 : Bool) (x7 : Int) (x8 : List Int) : Option (Int × List Int × Bool) :=
  (if x6 then yg F x2 x3 x7 x8 true else yg F x2 x3 x7 x8 (decide (8192 < (iadd .i64 x2 x7))))
def kd (F : Nat) (x6 : Int) (rec1 : (Int × Int × List Int) → Option (Int × List Int)) (x18 : Int) (x19 : Int) (x22 : List Int) : Option (Int × List Int) :=
  (if (decide (0 ≤ x18)) then (chk (decide (0 ≤ x18)) (((yZ F x19 x22 (iand .u64 (ishr .u64 x6 x18) 1)).bind fun x40 => rec1 (isub .i64 x18 1, x40.1, x40.2)))) else some (x19, x22))
def ke (F : Nat) (x6 : Int) : Nat → (Int × Int × List Int) → Option (Int × List Int)
  | 0 => fun _ => none
  | k + 1 => fun s => kd F x6 (ke F x6 k) s.1 s.2.1 s.2.2
def y8 (F : Nat) (x2 : Int) (x3 : List Int) (x6 : Int) (x7 : Int) : Option (Int × List Int) :=
  ke F x6 F (isub .i64 x7 1, x2, x3)
def jy (F : Nat) (x1 : Int) (x2 : List Int) (x5 : Int) (x6 : Int) : Option (Int × List Int) :=
  ((qbx F x1 x2).bind fun x9 => ((y8 F x9.1 x9.2 x5 x6).bind fun x13 => some (x13.1, x13.2)))
def yf (_F : Nat) (x9 : Int) (x10 : Int) : Option Int :=
  ((idx ([0, 1, 2, 2, 3, 3, 3, 3, 4, 4, 4, 4, 4, 4, 4, 4, 5, 5, 5, 5, 5, 5, 5, 5, 5, 5, 5, 5, 5, 5, 5, 5, 6, 6, 6, 6, 6, 6, 6, 6, 6, 6, 6, 6, 6, 6, 6, 6, 6, 6, 6, 6, 6, 6, 6, 6, 6, 6, 6, 6, 6, 6, 6, 6, 7, 7, 7, 7, 7, 7, 7, 7, 7, 7, 7, 7, 7, 7, 7, 7, 7, 7, 7, 7, 7, 7, 7, 7, 7, 7, 7, 7, 7, 7, 7, 7, 7, 7, 7, 7, 7, 7, 7, 7, 7, 7, 7, 7, 7, 7, 7, 7, 7, 7, 7, 7, 7, 7, 7, 7, 7, 7, 7, 7, 7, 7, 7, 7, 8, 8, 8, 8, 8, 8, 8, 8, 8, 8, 8, 8, 8, 8, 8, 8, 8, 8, 8, 8, 8, 8, 8, 8, 8, 8, 8, 8, 8, 8, 8, 8, 8, 8, 8, 8, 8, 8, 8, 8, 8, 8, 8, 8, 8, 8, 8, 8, 8, 8, 8, 8, 8, 8, 8, 8, 8, 8, 8, 8, 8, 8, 8, 8, 8, 8, 8, 8, 8, 8, 8, 8, 8, 8, 8, 8, 8, 8, 8, 8, 8, 8, 8, 8, 8, 8, 8, 8, 8, 8, 8, 8, 8, 8, 8, 8, 8, 8, 8, 8, 8, 8, 8, 8, 8, 8, 8, 8, 8, 8, 8, 8, 8, 8, 8, 8, 8, 8, 8, 8, 8, 8, 8, 8, 8, 8, 8, 8] : List Int) (iconv .u8 x9)).bind fun x11 => some (iadd .i64 x10 (iconv .i64 x11)))
def ye (F : Nat) (x6 : Int) (x7 : Int) : Option Int :=
  (if (decide (256 ≤ x6)) then yf F (ishr .u64 x6 8) (iadd .i64 x7 8) else yf F x6 x7)
def yd (F : Nat) (x3 : Int) (x4 : Int) : Option Int :=
  (if (decide (65536 ≤ x3)) then ye F (ishr .u64 x3 16) (iadd .i64 x4 16) else ye F x3 x4)
def yj (F : Nat) (x1 : Int) : Option Int :=
  (if (decide (4294967296 ≤ x1)) then yd F (ishr .u64 x1 32) 32 else yd F x1 0)
def qbe (F : Nat) (x1 : Int) : Option Int :=
  ((yj F (iadd .u64 x1 1)).bind fun x2 => some (isub .i64 x2 1))
def qa1 (F : Nat) (x1 : Int) : Option (Int × List Int) :=
  ((mk 140737488355328 (0 : Int) (iquo .u64 (iadd .u64 x1 7) 8)).bind fun x3 => ((jy F (iconv .i64 x1) x3 1 1).bind fun x6 => some (x6.1, x6.2)))
def qbQ (_F : Nat) (x1 : Int) (x2 : Int) : Option Int :=
  (chk (decide (0 ≤ x2)) ((lett (iand .u64 x1 (isub .u64 (ishl .u64 1 x2) 1)) fun x4 => some x4)))
def vl (F : Nat) (x1 : Int) : Option (Int × List Int) :=
  ((qbe F x1).bind fun x3 => ((qa1 F (iconv .u64 x3)).bind fun x4 => ((qbQ F (iadd .u64 x1 1) x3).bind fun x7 => ((jy F x4.1 x4.2 x7 x3).bind fun x8 => some (x8.1, x8.2)))))
def zu (F : Nat) (x2 : Int) (x3 : List Int) (x6 : Bool) (x7 : Int) : Option (Int × List Int × Bool) :=
  ((vl F (iconv .u64 x7)).bind fun x8 => ((ym F x2 x3 x6 x8.1 x8.2).bind fun x11 => some (x11.1, x11.2.1, x11.2.2)))
def jV (_F : Nat) (x1 : Int) : Option Bool :=
  some ((x1 : Int) != x1)
def jb (_F : Nat) (x1 : Int) (x2 : Int) (x6 : Bool) : Option Bool :=
  some (x6 || (decide (x1 < x2)))
def qai (F : Nat) (x1 : Int) (x2 : Int) : Option Bool :=
  ((jV F x1).bind fun x3 => (if x3 then ((jV F x2).bind fun x8 => jb F x1 x2 (!x8)) else jb F x1 x2 false))
def vH (_F : Nat) (x1 : Int) : Option Bool :=
  some ((x1 : Int) != x1)
def kL (_F : Nat) (x32 : Int) (x55 : Bool) : Option (Int × Bool) :=
  some (x32, x55)
def kM (F : Nat) (x32 : Int) (x68 : Bool) : Option (Int × Bool) :=
  kL F x32 x68
def kN (F : Nat) (x32 : Int) (x75 : Bool) : Option (Int × Bool) :=
  kM F x32 x75
def kK (F : Nat) (x1 : List Int) (x4 : Int) (x32 : Int) : Option (Int × Bool) :=
  (if (decide (x32 < (x1.length : Int))) then ((idx x1 x32).bind fun x56 => (if ((x56 : Int) == x4) then kM F x32 true else ((idx x1 x32).bind fun x69 => ((vH F x69).bind fun x72 => (if x72 then ((vH F x4).bind fun x76 => kN F x32 x76) else kN F x32 false))))) else kL F x32 false)
def zX (F : Nat) (x1 : List Int) (x4 : Int) (rec10 : (Int × Int) → Option (Int × Bool)) (x85 : Int) (x86 : Int) : Option (Int × Bool) :=
  (if (decide (x85 < x86)) then (lett (iconv .i64 (ishr .u64 (iconv .u64 (iadd .i64 x85 x86)) 1)) fun x97 => ((idx x1 x97).bind fun x98 => ((qai F x98 x4).bind fun x101 => (if x101 then rec10 (iadd .i64 x97 1, x86) else rec10 (x85, x97))))) else kK F x1 x4 x85)
def zn (F : Nat) (x1 : List Int) (x4 : Int) : Nat → (Int × Int) → Option (Int × Bool)
  | 0 => fun _ => none
  | k + 1 => fun s => zX F x1 x4 (zn F x1 x4 k) s.1 s.2
def zR (F : Nat) (x1 : List Int) (x4 : Int) : Option (Int × Bool) :=
  zn F x1 x4 F (0, (x1.length : Int))
def yK (_F : Nat) (x21 : List Int) (x22 : Bool) (x23 : Int) : Option (List Int × Bool × Int) :=
  some (x21, x22, iadd .i64 x23 1)
def vG (F : Nat) (x2 : List Int) (x5 : Bool) (x6 : Int) (x7 : Bool) : Option (List Int × Bool × Int) :=
  (if (x7 != x5) then ((app 8796093022208 x2 ([x6] : List Int)).bind fun x31 => yK F x31 x7 0) else yK F x2 x5 x6)
def qbC (_F : Nat) (x66 : List Int) (x151 : List Int) : Option (List Int × List Int) :=
  some (x66, x151)
def j3 (_F : Nat) (rec10 : (List Int × Int) → Option (List Int × List Int)) (x180 : Int) (x220 : List Int) : Option (List Int × List Int) :=
  rec10 (x220, iadd .i64 x180 1)
def j1 (F : Nat) (x1 : List Int) (x4 : List Int) (x66 : List Int) (rec10 : (List Int × Int) → Option (List Int × List Int)) (x179 : List Int) (x180 : Int) : Option (List Int × List Int) :=
  (if (decide (x180 < (x4.length : Int))) then ((idx x4 x180).bind fun x221 => ((zR F x1 x221).bind fun x224 => (if (!x224.2) then ((app 8796093022208 x179 ([x221] : List Int)).bind fun x227 => j3 F rec10 x180 x227) else j3 F rec10 x180 x179))) else qbC F x66 x179)
def yr (F : Nat) (x1 : List Int) (x4 : List Int) (x66 : List Int) : Nat → (List Int × Int) → Option (List Int × List Int)
  | 0 => fun _ => none
  | k + 1 => fun s => j1 F x1 x4 x66 (yr F x1 x4 x66 k) s.1 s.2
def qbB (F : Nat) (x1 : List Int) (x4 : List Int) (x66 : List Int) (_x67 : Bool) (_x68 : Int) : Option (List Int × List Int) :=
  yr F x1 x4 x66 F (([] : List Int), 0)
def j2 (F : Nat) (x1 : List Int) (x4 : List Int) (rec12 : (Int × List Int × Bool × Int) → Option (List Int × List Int)) (x249 : Int) (x252 : List Int) (x253 : Bool) (x254 : Int) : Option (List Int × List Int) :=
  (if (decide (x249 < (x1.length : Int))) then ((idx x1 x249).bind fun x280 => ((zR F x4 x280).bind fun x283 => ((vG F x252 x253 x254 x283.2).bind fun x284 => rec12 (iadd .i64 x249 1, x284.1, x284.2.1, x284.2.2)))) else qbB F x1 x4 x252 x253 x254)
def yS (F : Nat) (x1 : List Int) (x4 : List Int) : Nat → (Int × List Int × Bool × Int) → Option (List Int × List Int)
  | 0 => fun _ => none
  | k + 1 => fun s => j2 F x1 x4 (yS F x1 x4 k) s.1 s.2.1 s.2.2.1 s.2.2.2
def qbV (F : Nat) (x1 : List Int) (x4 : List Int) : Option (List Int × List Int) :=
  yS F x1 x4 F (0, ([] : List Int), true, 0)
def yn (F : Nat) (x7 : List Int) (rec1 : (Int × Int × List Int × Bool) → Option (Int × List Int × Bool)) (x27 : Int) (x28 : Int) (x31 : List Int) (x32 : Bool) : Option (Int × List Int × Bool) :=
  (if (decide (x27 < (x7.length : Int))) then ((idx x7 x27).bind fun x55 => ((zu F x28 x31 x32 (isub .i64 x55 (imin x27 1))).bind fun x58 => rec1 (iadd .i64 x27 1, x58.1, x58.2.1, x58.2.2))) else some (x28, x31, x32))
def kg (F : Nat) (x7 : List Int) : Nat → (Int × Int × List Int × Bool) → Option (Int × List Int × Bool)
  | 0 => fun _ => none
  | k + 1 => fun s => yn F x7 (kg F x7 k) s.1 s.2.1 s.2.2.1 s.2.2.2
def ve (F : Nat) (x2 : Int) (x3 : List Int) (x6 : Bool) (x7 : List Int) : Option (Int × List Int × Bool) :=
  ((zu F x2 x3 x6 (x7.length : Int)).bind fun x10 => kg F x7 F (0, x10.1, x10.2.1, x10.2.2))
def qcQ (_F : Nat) (_x1 : List Int) : Option Unit :=
  some ()
def jo {σ τ : Type} (_F : Nat) (yy : σ → (Int × Int) → Option (σ ⊕ τ)) (rec31 : (Int × σ) → Option (σ ⊕ τ)) (x2 : List Int) (x266 : Int) (x267 : σ) (x654 : Int) : Option (σ ⊕ τ) :=
  ((idx x2 x266).bind fun x662 => ((yy x267 (x662, x654)).bind (Sum.elim (fun x665 => rec31 (iadd .i64 x266 x654, x665)) (fun x666 => some (.inr x666)))))
def jp {σ τ : Type} (F : Nat) (yy : σ → (Int × Int) → Option (σ ⊕ τ)) (rec31 : (Int × σ) → Option (σ ⊕ τ)) (rec44 : Int → Option (σ ⊕ τ)) (x2 : List Int) (x266 : Int) (x267 : σ) (x709 : Int) (x780 : Bool) : Option (σ ⊕ τ) :=
  (if x780 then rec44 (iadd .i64 x709 1) else jo F yy rec31 x2 x266 x267 x709)
def jn {σ τ : Type} (F : Nat) (yy : σ → (Int × Int) → Option (σ ⊕ τ)) (rec31 : (Int × σ) → Option (σ ⊕ τ)) (x2 : List Int) (x266 : Int) (x267 : σ) (rec44 : Int → Option (σ ⊕ τ)) (x709 : Int) : Option (σ ⊕ τ) :=
  (if (decide ((iadd .i64 x266 x709) < (x2.length : Int))) then ((idx x2 (iadd .i64 x266 x709)).bind fun x783 => ((idx x2 x266).bind fun x787 => jp F yy rec31 rec44 x2 x266 x267 x709 ((x783 : Int) == (iadd .i64 x787 x709)))) else jp F yy rec31 rec44 x2 x266 x267 x709 false)
def kI {σ τ : Type} (F : Nat) (yy : σ → (Int × Int) → Option (σ ⊕ τ)) (rec31 : (Int × σ) → Option (σ ⊕ τ)) (x2 : List Int) (x266 : Int) (x267 : σ) : Nat → Int → Option (σ ⊕ τ)
  | 0 => fun _ => none
  | k + 1 => fun s => jn F yy rec31 x2 x266 x267 (kI F yy rec31 x2 x266 x267 k) s
def jm {σ τ : Type} (F : Nat) (yy : σ → (Int × Int) → Option (σ ⊕ τ)) (x2 : List Int) (rec31 : (Int × σ) → Option (σ ⊕ τ)) (x266 : Int) (x267 : σ) : Option (σ ⊕ τ) :=
  (if (decide (x266 < (x2.length : Int))) then kI F yy rec31 x2 x266 x267 F 1 else some (.inl x267))
def zp {σ τ : Type} (F : Nat) (yy : σ → (Int × Int) → Option (σ ⊕ τ)) (x2 : List Int) : Nat → (Int × σ) → Option (σ ⊕ τ)
  | 0 => fun _ => none
  | k + 1 => fun s => jm F yy x2 (zp F yy x2 k) s.1 s.2
def jO {σ τ : Type} (F : Nat) (yy : σ → (Int × Int) → Option (σ ⊕ τ)) (x2 : List Int) (s0 : σ) : Option (σ ⊕ τ) :=
  zp F yy x2 F (0, s0)
def qaU (_F : Nat) (x255 : List (Int × Int)) (x312 : Int) (x313 : Int) (rec8 : (Int × List Int) → Option ((List Int × List (Int × Int)) ⊕ Empty)) (x338 : Int) (x341 : List Int) : Option ((List Int × List (Int × Int)) ⊕ Empty) :=
  (if (decide (x338 < x313)) then ((app 8796093022208 x341 ([iadd .i64 x312 x338] : List Int)).bind fun x363 => rec8 (iadd .i64 x338 1, x363)) else some (.inl (x341, x255)))
def v6 (F : Nat) (x255 : List (Int × Int)) (x312 : Int) (x313 : Int) : Nat → (Int × List Int) → Option ((List Int × List (Int × Int)) ⊕ Empty)
  | 0 => fun _ => none
  | k + 1 => fun s => qaU F x255 x312 x313 (v6 F x255 x312 x313 k) s.1 s.2
def jN (F : Nat) (x4 : Int) (x252 : List Int) (x255 : List (Int × Int)) (x312 : Int) (x313 : Int) : Option ((List Int × List (Int × Int)) ⊕ Empty) :=
  (if (decide (x4 ≤ x313)) then ((app 4398046511104 x255 ([(x312, x313)] : List (Int × Int))).bind fun x323 => some (.inl (x252, x323))) else v6 F x255 x312 x313 F (0, x252))
def qcq (F : Nat) (x1 : List Int) (x4 : Int) : Option (List (Int × Int) × List Int) :=
  ((qcQ F x1).bind fun _x188 => ((jO F (fun ((x252, x255) : (List Int × List (Int × Int))) ((x312, x313) : (Int × Int)) => jN F x4 x252 x255 x312 x313) x1 (([] : List Int), ([] : List (Int × Int)))).bind (Sum.elim (fun ((x252, x255) : (List Int × List (Int × Int))) => some (x255, x252)) (fun t => t.elim))))
def jQ (_F : Nat) (x1 : Int) : Option Int :=
  (lett (ixor .u64 (ishl .u64 (iconv .u64 x1) 1) (iconv .u64 (ishr .i64 x1 63))) fun x2 => some x2)
def k8 (F : Nat) (rec5 : (Int × Int × Int × List Int × Bool) → Option (Int × List Int × Bool)) (x8 : Int) (x74 : Int) (x168 : (Int × Int)) (x180 : Int) (x183 : List Int) (x184 : Bool) : Option (Int × List Int × Bool) :=
  ((zu F x180 x183 x184 (isub .i64 x168.2 x8)).bind fun x185 => rec5 (isub .i64 (iadd .i64 x168.1 x168.2) 1, iadd .i64 x74 1, x185.1, x185.2.1, x185.2.2))
def yO (F : Nat) (x8 : Int) (x9 : List (Int × Int)) (rec5 : (Int × Int × Int × List Int × Bool) → Option (Int × List Int × Bool)) (x73 : Int) (x74 : Int) (x75 : Int) (x78 : List Int) (x79 : Bool) : Option (Int × List Int × Bool) :=
  (if (decide (x74 < (x9.length : Int))) then ((idx x9 x74).bind fun x168 => (if ((x74 : Int) == 0) then ((jQ F (isub .i64 x168.1 x73)).bind fun x188 => ((zu F x75 x78 x79 (iconv .i64 x188)).bind fun x189 => k8 F rec5 x8 x74 x168 x189.1 x189.2.1 x189.2.2)) else ((zu F x75 x78 x79 (isub .i64 (isub .i64 x168.1 x73) 2)).bind fun x192 => k8 F rec5 x8 x74 x168 x192.1 x192.2.1 x192.2.2))) else some (x75, x78, x79))
def zN (F : Nat) (x8 : Int) (x9 : List (Int × Int)) : Nat → (Int × Int × Int × List Int × Bool) → Option (Int × List Int × Bool)
  | 0 => fun _ => none
  | k + 1 => fun s => yO F x8 x9 (zN F x8 x9 k) s.1 s.2.1 s.2.2.1 s.2.2.2.1 s.2.2.2.2
def vJ (F : Nat) (x2 : Int) (x3 : List Int) (x6 : Bool) (x7 : Int) (x8 : Int) (x9 : List (Int × Int)) : Option (Int × List Int × Bool) :=
  ((zu F x2 x3 x6 (x9.length : Int)).bind fun x12 => zN F x8 x9 F (x7, 0, x12.1, x12.2.1, x12.2.2))
def qaQ (F : Nat) (x1 : Int) (x2 : Int) : Option (Int × Int × Int) :=
  ((yj F (iadd .u64 x1 1)).bind fun x3 => (chk ((x2 : Int) != 0) ((chk (decide (0 ≤ (imul .i64 (iquo .i64 (isub .i64 x3 1) x2) x2))) ((chk (decide (0 ≤ (iadd .i64 (imul .i64 (iquo .i64 (isub .i64 x3 1) x2) x2) x2))) (some (iquo .i64 (isub .i64 x3 1) x2, ishl .u64 1 (imul .i64 (iquo .i64 (isub .i64 x3 1) x2) x2), ishl .u64 1 (iadd .i64 (imul .i64 (iquo .i64 (isub .i64 x3 1) x2) x2) x2)))))))))
def jB (F : Nat) (x1 : Int) : Option (Int × Int) :=
  ((yj F (isub .u64 x1 1)).bind fun x2 => (chk (decide (0 ≤ x2)) (some (x2, isub .u64 (ishl .u64 1 x2) x1))))
def je (F : Nat) (x1 : Int) (x2 : List Int) (x5 : Int) (x6 : Int) : Option (Int × List Int) :=
  ((jB F x6).bind fun x9 => (if (decide (x5 < x9.2)) then ((jy F x1 x2 x5 (isub .i64 x9.1 1)).bind fun x14 => some (x14.1, x14.2)) else ((jy F x1 x2 (iadd .u64 x5 x9.2) x9.1).bind fun x17 => some (x17.1, x17.2))))
def qaP (F : Nat) (x1 : Int) (x2 : Int) : Option (Int × List Int × Int) :=
  (if (((decide (x2 < 1)) || (decide (16 < x2))) || (decide (1099511627776 < x1))) then some (0, ([] : List Int), 3) else ((qaQ F x1 x2).bind fun x9 => ((qa1 F (iconv .u64 x9.1)).bind fun x10 => ((je F x10.1 x10.2 (isub .u64 (iadd .u64 x1 1) x9.2.1) (isub .u64 x9.2.2 x9.2.1)).bind fun x13 => some (x13.1, x13.2, 0)))))
def qde (_F : Nat) (x107 : Int) (x110 : List Int) : Option (Int × List Int × Bool) :=
  some (x107, x110, true)
def qaN (F : Nat) (x5 : List Int) (x8 : Int) (rec3 : (Int × Int × List Int) → Option (Int × List Int × Bool)) (x141 : Int) (x142 : Int) (x145 : List Int) : Option (Int × List Int × Bool) :=
  (if (decide (x141 < (x5.length : Int))) then ((idx x5 x141).bind fun x192 => ((qaP F x192 x8).bind fun x195 => (if (((x195.2.2 : Int) != 0) || (decide (8192 < (iadd .i64 x142 x195.1)))) then some (0, ([] : List Int), false) else ((vx F x142 x145 x195.1 x195.2.1).bind fun x202 => rec3 (iadd .i64 x141 1, x202.1, x202.2))))) else qde F x142 x145)
def vY (F : Nat) (x5 : List Int) (x8 : Int) : Nat → (Int × Int × List Int) → Option (Int × List Int × Bool)
  | 0 => fun _ => none
  | k + 1 => fun s => qaN F x5 x8 (vY F x5 x8 k) s.1 s.2.1 s.2.2
def j5 (F : Nat) (x1 : Int) (x2 : List Int) (x5 : List Int) (x8 : Int) : Option (Int × List Int × Bool) :=
  vY F x5 x8 F (0, x1, x2)
def jA (_F : Nat) (x4 : Int) (x8 : Int) : Option (Int × Int × Bool) :=
  some (x8, x4, true)
def jc (F : Nat) (x2 : Int) (x3 : Bool) (x4 : Int) : Option (Int × Int × Bool) :=
  (if x3 then (lett (iconv .u64 (isub .i64 (isub .i64 x4 x2) 1)) fun x9 => jA F x4 x9) else ((jQ F (isub .i64 x4 x2)).bind fun x10 => jA F x4 x10))
def qb5 (_F : Nat) (x75 : List Int) : Option (List Int) :=
  some x75
def qaO (F : Nat) (x1 : List Int) (rec3 : (List Int × Int × Int × Bool) → Option (List Int)) (x98 : List Int) (x99 : Int) (x100 : Int) (x101 : Bool) : Option (List Int) :=
  (if (decide (x99 < (x1.length : Int))) then ((idx x1 x99).bind fun x133 => ((jc F x100 x101 x133).bind fun x136 => ((app 8796093022208 x98 ([x136.1] : List Int)).bind fun x139 => rec3 (x139, iadd .i64 x99 1, x136.2.1, x136.2.2)))) else qb5 F x98)
def vZ (F : Nat) (x1 : List Int) : Nat → (List Int × Int × Int × Bool) → Option (List Int)
  | 0 => fun _ => none
  | k + 1 => fun s => qaO F x1 (vZ F x1 k) s.1 s.2.1 s.2.2.1 s.2.2.2
def qbz (F : Nat) (x1 : List Int) (x4 : Int) : Option (List Int) :=
  vZ F x1 F (([] : List Int), 0, x4, false)
def k7 (F : Nat) (x52 : Int) (x55 : List Int) (x56 : Bool) (x76 : Bool) (x77 : Int) (x80 : List Int) : Option (Int × List Int × Bool) :=
  ((ym F x52 x55 (x56 || (!x76)) x77 x80).bind fun x82 => some (x82.1, x82.2.1, x82.2.2))
def k6 (F : Nat) (x7 : Int) (x16 : Int) (x51 : List Int) (x52 : Int) (x55 : List Int) (x56 : Bool) : Option (Int × List Int × Bool) :=
  ((qbz F x51 x7).bind fun x85 => ((j5 F 0 ([] : List Int) x85 x16).bind fun x88 => k7 F x52 x55 x56 x88.2.2 x88.1 x88.2.1))
def kZ (F : Nat) (x7 : Int) (x15 : Int) (x16 : Int) (x33 : List Int) (x34 : Int) (x37 : List Int) (x38 : Bool) : Option (Int × List Int × Bool) :=
  (if (((x33.length : Int) : Int) == 0) then some (x34, x37, x38) else (if (decide (0 < x15)) then ((qcq F x33 x15).bind fun x103 => ((vJ F x34 x37 x38 x7 x15 x103.1).bind fun x108 => k6 F x7 x16 x103.2 x108.1 x108.2.1 x108.2.2)) else k6 F x7 x16 x33 x34 x37 x38))
def yI (F : Nat) (x2 : Int) (x3 : List Int) (x6 : Bool) (x7 : Int) (x8 : List Int) (x11 : List Int) (x14 : Int) (x15 : Int) (x16 : Int) : Option (Int × List Int × Bool) :=
  ((zu F x2 x3 x6 (x8.length : Int)).bind fun x18 => (if (((x8.length : Int) : Int) == 0) then some (x18.1, x18.2.1, x18.2.2) else (if (decide (0 < x14)) then ((qbV F x11 x8).bind fun x113 => ((ve F x18.1 x18.2.1 x18.2.2 x113.1).bind fun x118 => kZ F x7 x15 x16 x113.2 x118.1 x118.2.1 x118.2.2)) else kZ F x7 x15 x16 x8 x18.1 x18.2.1 x18.2.2)))
def vT (F : Nat) (x1 : Int) (x2 : List Int) (x5 : List Int) (x8 : Int) (x9 : Int) (x10 : Int) (x25 : Int) : Option (Int × List Int × Int) :=
  (if ((x25 : Int) != 0) then some (0, ([] : List Int), x25) else ((yI F 0 ([] : List Int) false x1 x2 x5 x8 x9 x10).bind fun x28 => (if x28.2.2 then some (0, ([] : List Int), 8) else some (x28.1, x28.2.1, 0))))
def yU (F : Nat) (x1 : Int) (x2 : List Int) (x5 : List Int) (x8 : Int) (x9 : Int) (x10 : Int) (x22 : Int) : Option (Int × List Int × Int) :=
  (if ((x22 : Int) == 0) then ((qbj F x1 x5 x8 x9 x10).bind fun x34 => vT F x1 x2 x5 x8 x9 x10 x34) else vT F x1 x2 x5 x8 x9 x10 x22)
def yT (F : Nat) (x1 : Int) (x2 : List Int) (x5 : List Int) (x8 : Int) (x9 : Int) (x10 : Int) (x19 : Int) : Option (Int × List Int × Int) :=
  (if ((x19 : Int) == 0) then ((va F x2).bind fun x36 => yU F x1 x2 x5 x8 x9 x10 x36) else yU F x1 x2 x5 x8 x9 x10 x19)
def vU (F : Nat) (x1 : Int) (x2 : List Int) (x5 : List Int) (x8 : Int) (x9 : Int) (x10 : Int) (x13 : Int) (x40 : Bool) : Option (Int × List Int × Int) :=
  (if x40 then yT F x1 x2 x5 x8 x9 x10 3 else yT F x1 x2 x5 x8 x9 x10 x13)
def qbi (F : Nat) (x1 : Int) (x2 : List Int) (x5 : List Int) (x8 : Int) (x9 : Int) (x10 : Int) : Option (Int × List Int × Int) :=
  ((jI F x8 x9 x10).bind fun x13 => (if ((x13 : Int) == 0) then vU F x1 x2 x5 x8 x9 x10 x13 ((decide (x1 < 0)) || (decide (1048576 < x1))) else vU F x1 x2 x5 x8 x9 x10 x13 false))
def jD (F : Nat) (x1 : List (List Int)) (x4 : List Int) (x7 : Int) (x9 : Int) (x10 : Int) (x18 : Int) (x21 : List Int) (x29 : List Int) : Option (Int × Int × List Int × Bool) :=
  ((qbi F (x1.length : Int) x4 x29 x7 x9 x10).bind fun x30 => (if (((x30.2.2 : Int) != 0) || (decide (8192 < (iadd .i64 x18 x30.1)))) then some (0, 0, ([] : List Int), false) else ((vx F x18 x21 x30.1 x30.2.1).bind fun x37 => some (x7, x37.1, x37.2, true))))
def jC (F : Nat) (x1 : List (List Int)) (x4 : List Int) (x7 : Int) (x9 : Int) (x10 : Int) (x18 : Int) (x21 : List Int) : Option (Int × Int × List Int × Bool) :=
  (if (decide (0 < x7)) then ((idx x1 (isub .i64 (x1.length : Int) x7)).bind fun x41 => jD F x1 x4 x7 x9 x10 x18 x21 x41) else jD F x1 x4 x7 x9 x10 x18 x21 ([] : List Int))
def qbU (F : Nat) (x1 : List (List Int)) (x4 : List Int) (x7 : Int) (x8 : Int) (x9 : Int) (x10 : Int) : Option (Int × Int × List Int × Bool) :=
  (if (decide (0 < x8)) then ((vl F (iconv .u64 x7)).bind fun x46 => jC F x1 x4 x7 x9 x10 x46.1 x46.2) else jC F x1 x4 x7 x9 x10 0 ([] : List Int))
def qbA (_F : Nat) (x96 : Bool) (x97 : Int) (x98 : Int) (x101 : List Int) : Option (Int × Int × List Int × Bool) :=
  some (x97, x98, x101, x96)
def yq (_F : Nat) (rec14 : (Bool × Int × Int × Int × List Int) → Option (Int × Int × List Int × Bool)) (x126 : Int) (x169 : Bool) (x170 : Int) (x171 : Int) (x174 : List Int) : Option (Int × Int × List Int × Bool) :=
  rec14 (x169, iadd .i64 x126 1, x170, x171, x174)
def jY (F : Nat) (rec14 : (Bool × Int × Int × Int × List Int) → Option (Int × Int × List Int × Bool)) (x125 : Bool) (x126 : Int) (x127 : Int) (x128 : Int) (x131 : List Int) (x175 : (Int × Int × List Int × Bool)) (x181 : Bool) : Option (Int × Int × List Int × Bool) :=
  (if x181 then yq F rec14 x126 true x175.1 x175.2.1 x175.2.2.1 else yq F rec14 x126 x125 x127 x128 x131)
def jX (F : Nat) (x1 : List (List Int)) (x4 : List Int) (x7 : Int) (x8 : Int) (x9 : Int) (rec14 : (Bool × Int × Int × Int × List Int) → Option (Int × Int × List Int × Bool)) (x125 : Bool) (x126 : Int) (x127 : Int) (x128 : Int) (x131 : List Int) : Option (Int × Int × List Int × Bool) :=
  (if (decide (x126 < (iadd .i64 (imin x7 (x1.length : Int)) 1))) then ((qbU F x1 x4 x126 x7 x8 x9).bind fun x175 => (if x175.2.2.2 then jY F rec14 x125 x126 x127 x128 x131 x175 ((!x125) || (decide (x175.2.1 < x128))) else jY F rec14 x125 x126 x127 x128 x131 x175 false)) else qbA F x125 x127 x128 x131)
def kq (F : Nat) (x1 : List (List Int)) (x4 : List Int) (x7 : Int) (x8 : Int) (x9 : Int) : Nat → (Bool × Int × Int × Int × List Int) → Option (Int × Int × List Int × Bool)
  | 0 => fun _ => none
  | k + 1 => fun s => jX F x1 x4 x7 x8 x9 (kq F x1 x4 x7 x8 x9 k) s.1 s.2.1 s.2.2.1 s.2.2.2.1 s.2.2.2.2
def qbT (F : Nat) (x1 : List (List Int)) (x4 : List Int) (x7 : Int) (x8 : Int) (x9 : Int) : Option (Int × Int × List Int × Bool) :=
  kq F x1 x4 x7 x8 x9 F (false, 0, 0, 0, ([] : List Int))
def vD (_F : Nat) (x2 : Int) (x3 : Int) (x4 : Int) (x5 : Int) (x710 : Int) (x713 : List Int) (x716 : List Int) (x719 : List Int) : Option (Bool × Int × Int × Int × Int × Int × List Int × List Int × List Int) :=
  some (true, x2, x3, x4, x5, x710, x713, x716, x719)
def kG (F : Nat) (rec43 : (Int × Int × List Int × List Int × List Int) → Option (Bool × Int × Int × Int × Int × Int × List Int × List Int × List Int)) (x946 : Int) (x947 : Int) (x950 : List Int) (x1318 : Int) (x1321 : List Int) (x1358 : List Int) (x1361 : List Int) : Option (Bool × Int × Int × Int × Int × Int × List Int × List Int × List Int) :=
  ((vx F x947 x950 x1318 x1321).bind fun x1362 => rec43 (iadd .i64 x946 1, x1362.1, x1362.2, x1358, x1361))
def kF (F : Nat) (rec43 : (Int × Int × List Int × List Int × List Int) → Option (Bool × Int × Int × Int × Int × Int × List Int × List Int × List Int)) (x2 : Int) (x3 : Int) (x4 : Int) (x5 : Int) (x946 : Int) (x947 : Int) (x950 : List Int) (x953 : List Int) (x956 : List Int) (x1317 : Int) (x1318 : Int) (x1321 : List Int) (x1327 : Bool) : Option (Bool × Int × Int × Int × Int × Int × List Int × List Int × List Int) :=
  (if x1327 then some (false, x2, x3, x4, x5, x947, x950, x953, x956) else ((app 8796093022208 x953 ([x1317] : List Int)).bind fun x1367 => ((app 8796093022208 x956 ([x947] : List Int)).bind fun x1372 => kG F rec43 x946 x947 x950 x1318 x1321 x1367 x1372)))
def yw (F : Nat) (rec43 : (Int × Int × List Int × List Int × List Int) → Option (Bool × Int × Int × Int × Int × Int × List Int × List Int × List Int)) (x2 : Int) (x3 : Int) (x4 : Int) (x5 : Int) (x946 : Int) (x947 : Int) (x950 : List Int) (x953 : List Int) (x956 : List Int) (x1316 : Bool) (x1317 : Int) (x1318 : Int) (x1321 : List Int) : Option (Bool × Int × Int × Int × Int × Int × List Int × List Int × List Int) :=
  (if (!x1316) then kF F rec43 x2 x3 x4 x5 x946 x947 x950 x953 x956 x1317 x1318 x1321 true else kF F rec43 x2 x3 x4 x5 x946 x947 x950 x953 x956 x1317 x1318 x1321 (decide (8192 < (iadd .i64 x947 x1318))))
def yv (F : Nat) (x2 : Int) (x3 : Int) (x4 : Int) (x5 : Int) (x16 : List (List Int)) (rec43 : (Int × Int × List Int × List Int × List Int) → Option (Bool × Int × Int × Int × Int × Int × List Int × List Int × List Int)) (x946 : Int) (x947 : Int) (x950 : List Int) (x953 : List Int) (x956 : List Int) : Option (Bool × Int × Int × Int × Int × Int × List Int × List Int × List Int) :=
  (if (decide (x946 < (x16.length : Int))) then ((idx x16 x946).bind fun x1297 => ((sub x16 0 x946).bind fun x1395 => ((qbT F x1395 x1297 x3 x4 x5).bind fun x1401 => yw F rec43 x2 x3 x4 x5 x946 x947 x950 x953 x956 x1401.2.2.2 x1401.1 x1401.2.1 x1401.2.2.1))) else vD F x2 x3 x4 x5 x947 x950 x953 x956)
def q6 (F : Nat) (x2 : Int) (x3 : Int) (x4 : Int) (x5 : Int) (x16 : List (List Int)) : Nat → (Int × Int × List Int × List Int × List Int) → Option (Bool × Int × Int × Int × Int × Int × List Int × List Int × List Int)
  | 0 => fun _ => none
  | k + 1 => fun s => yv F x2 x3 x4 x5 x16 (q6 F x2 x3 x4 x5 x16 k) s.1 s.2.1 s.2.2.1 s.2.2.2.1 s.2.2.2.2
def j6 (F : Nat) (x2 : Int) (x3 : Int) (x4 : Int) (x5 : Int) (x6 : Int) (x7 : List Int) (x10 : List Int) (x13 : List Int) (x16 : List (List Int)) : Option (Bool × Int × Int × Int × Int × Int × List Int × List Int × List Int) :=
  q6 F x2 x3 x4 x5 x16 F (0, x6, x7, x10, x13)
def yC (_F : Nat) (x48 : Int) (x49 : Int) (x50 : Int) (x51 : Int) (x52 : Int) (x53 : Int) (x56 : List Int) (x59 : List Int) (x62 : List Int) : Option (Int × Int × Int × Int × Int × List Int × List Int × List Int × Int) :=
  some (x49, x50, x51, x52, x53, x56, x59, x62, x48)
def yD (F : Nat) (x12 : Int) (x74 : Bool) (x75 : Int) (x76 : Int) (x77 : Int) (x78 : Int) (x79 : Int) (x82 : List Int) (x85 : List Int) (x88 : List Int) : Option (Int × Int × Int × Int × Int × List Int × List Int × List Int × Int) :=
  (if x74 then yC F 8 x75 x76 x77 x78 x79 x82 x85 x88 else yC F x12 x75 x76 x77 x78 x79 x82 x85 x88)
def vn (F : Nat) (x1 : List (List Int)) (x4 : Int) (x5 : Int) (x6 : Int) (x12 : Int) : Option (Int × Int × Int × Int × Int × List Int × List Int × List Int × Int) :=
  (if ((x12 : Int) == 0) then ((j6 F (x1.length : Int) x4 x5 x6 0 ([] : List Int) ([] : List Int) ([] : List Int) x1).bind fun x90 => yD F x12 (!x90.1) x90.2.1 x90.2.2.1 x90.2.2.2.1 x90.2.2.2.2.1 x90.2.2.2.2.2.1 x90.2.2.2.2.2.2.1 x90.2.2.2.2.2.2.2.1 x90.2.2.2.2.2.2.2.2) else yD F x12 false (x1.length : Int) x4 x5 x6 0 ([] : List Int) ([] : List Int) ([] : List Int))
def jM (F : Nat) (x1 : List (List Int)) (x4 : Int) (x5 : Int) (x6 : Int) : Option (Int × Int × Int × Int × Int × List Int × List Int × List Int × Int) :=
  ((qaR F x1).bind fun x9 => (if ((x9 : Int) == 0) then ((jI F x4 x5 x6).bind fun x97 => vn F x1 x4 x5 x6 x97) else vn F x1 x4 x5 x6 x9))
def k9 (F : Nat) (x1 : List (List Int)) (x4 : Int) (x5 : Int) (x6 : Int) : Option (Int × Int × Int × Int × Int × List Int × Int) :=
  ((jM F x1 x4 x5 x6).bind fun x10 => (if ((x10.2.2.2.2.2.2.2.2 : Int) != 0) then some (0, 0, 0, 0, 0, ([] : List Int), x10.2.2.2.2.2.2.2.2) else some (x10.1, x10.2.1, x10.2.2.1, x10.2.2.2.1, x10.2.2.2.2.1, x10.2.2.2.2.2.1, 0)))
def vP (_F : Nat) (x36 : Bool) : Option Int :=
  (if x36 then some 1 else some 0)
def qbd (F : Nat) (x1 : Int) (x2 : List Int) : Option Int :=
  (if ((decide (x1 < 0)) || (decide (8192 < x1))) then some 3 else (if (((x2.length : Int) : Int) != (iquo .i64 (iadd .i64 x1 7) 8)) then some 1 else (if (((irem x1 8) : Int) != 0) then ((idx x2 (isub .i64 (x2.length : Int) 1)).bind fun x39 => (chk (decide (0 ≤ (irem x1 8))) (vP F (((ishl .u8 x39 (irem x1 8)) : Int) != 0)))) else vP F false)))
def qbf (F : Nat) (x1 : Int) (x2 : Int) (x3 : Int) (x4 : Int) (x5 : Int) (x6 : List Int) : Option Int :=
  (if ((decide (x1 < 0)) || (decide (100 < x1))) then some 3 else ((jI F x2 x3 x4).bind fun x15 => (if ((x15 : Int) != 0) then some x15 else ((qbd F x5 x6).bind fun x16 => some x16))))
def qcJ (_F : Nat) : Option (Int × Int × Bool) :=
  some (0, 0, false)
def j4 (F : Nat) (x1 : Int) (x2 : List Int) (x5 : Int) (rec3 : Int → Option (Int × Int × Bool)) (x33 : Int) : Option (Int × Int × Bool) :=
  (if (decide (x33 < x1)) then ((jH F x1 x2 x33).bind fun x44 => (if ((x44 : Int) == 1) then some (iconv .u64 (isub .i64 x33 x5), iadd .i64 x33 1, true) else rec3 (iadd .i64 x33 1))) else qcJ F)
def yV (F : Nat) (x1 : Int) (x2 : List Int) (x5 : Int) : Nat → Int → Option (Int × Int × Bool)
  | 0 => fun _ => none
  | k + 1 => fun s => j4 F x1 x2 x5 (yV F x1 x2 x5 k) s
def qaq (F : Nat) (x1 : Int) (x2 : List Int) (x5 : Int) : Option (Int × Int × Bool) :=
  yV F x1 x2 x5 F x5
def jL (F : Nat) (x1 : Int) (x2 : List Int) (x5 : Int) : Option (Int × Int × Int) :=
  ((qaq F x1 x2 x5).bind fun x7 => (if (!x7.2.2) then some (0, 0, 7) else some (x7.1, x7.2.1, 0)))
def qbw (_F : Nat) (x24 : Int) : Option (Int × Bool) :=
  some (x24, true)
def qah (F : Nat) (x1 : Int) (x2 : List Int) (x5 : Int) (x6 : Int) (rec3 : (Int × Int) → Option (Int × Bool)) (x29 : Int) (x30 : Int) : Option (Int × Bool) :=
  (if (decide (x30 < x6)) then ((jH F x1 x2 (iadd .i64 x5 x30)).bind fun x38 => rec3 (ior .u64 (ishl .u64 x29 1) x38, iadd .i64 x30 1)) else qbw F x29)
def vk (F : Nat) (x1 : Int) (x2 : List Int) (x5 : Int) (x6 : Int) : Nat → (Int × Int) → Option (Int × Bool)
  | 0 => fun _ => none
  | k + 1 => fun s => qah F x1 x2 x5 x6 (vk F x1 x2 x5 x6 k) s.1 s.2
def vy (F : Nat) (x1 : Int) (x2 : List Int) (x5 : Int) (x6 : Int) : Option (Int × Bool) :=
  (if (decide ((isub .i64 x1 x5) < x6)) then some (0, false) else vk F x1 x2 x5 x6 F (0, 0))
def kb (F : Nat) (x1 : Int) (x2 : List Int) (x5 : Int) : Option (Int × Int × Int) :=
  ((jL F x1 x2 x5).bind fun x7 => (if ((x7.2.2 : Int) != 0) then some (0, 0, x7.2.2) else (if (decide (64 ≤ x7.1)) then some (0, 0, 3) else ((vy F x1 x2 x7.2.1 (iconv .i64 x7.1)).bind fun x10 => (if (!x10.2) then some (0, 0, 7) else (chk (decide (0 ≤ x7.1)) ((lett (iadd .u64 x10.1 (isub .u64 (ishl .u64 1 x7.1) 1)) fun x16 => (if (decide (1099511627776 < x16)) then some (0, 0, 3) else some (x16, iadd .i64 x7.2.1 (iconv .i64 x7.1), 0))))))))))
def y9 (F : Nat) (x1 : Int) (x2 : List Int) (x5 : Int) : Option (Int × Int × Int) :=
  ((kb F x1 x2 x5).bind fun x7 => some (x7.1, x7.2.1, x7.2.2))
def qaS (_F : Nat) (x13 : (Int × Int × Int)) (x18 : Bool) : Option (Int × Int × Bool) :=
  (if x18 then some (0, 0, false) else some (iconv .i64 x13.1, x13.2.1, true))
def qco (F : Nat) (_x1 : Int) (x2 : Int) (_x3 : Int) (_x4 : Int) (x5 : Int) (x6 : List Int) (x9 : Int) (x10 : Int) : Option (Int × Int × Bool) :=
  (if ((x2 : Int) == 0) then some (0, x9, true) else ((y9 F x5 x6 x9).bind fun x13 => (if ((x13.2.2 : Int) != 0) then qaS F x13 true else qaS F x13 (decide ((iconv .u64 (imin x2 x10)) < x13.1)))))
def kU (_F : Nat) (x1 : Bool) : Option (Unit ⊕ Unit) :=
  (if (!x1) then some (.inr ()) else some (.inl ()))
def zO (F : Nat) (x2 : Int) (x3 : List Int) (x6 : Int) (x7 : Int) : Option ((Int × Int × Int) ⊕ (Int × Int)) :=
  ((y9 F x2 x3 x6).bind fun x9 => (lbnd (kU F (((x9.2.2 : Int) == 0) && (decide (x9.1 ≤ (iconv .u64 x7))))) (fun _x11 => some (.inl (iconv .i64 x9.1, x2, x9.2.1))) (fun _x12 => some (.inr (x2, x6)))))
def qao (_F : Nat) (x4 : Int) (x99 : Int) : Option Int :=
  (if (decide (x4 < x99)) then some 8 else some 0)
def jk (_F : Nat) (rec23 : (Int × Int) → Option Int) (x4 : Int) (x132 : Int) (x133 : Int) (x180 : Int) (x190 : Bool) : Option Int :=
  (if x190 then some 3 else (lett (imin (iadd .i64 x132 (imin x180 (iadd .i64 x4 1))) (iadd .i64 x4 1)) fun x191 => rec23 (x191, iadd .i64 x133 1)))
def ji (F : Nat) (x1 : List Int) (x4 : Int) (rec23 : (Int × Int) → Option Int) (x132 : Int) (x133 : Int) : Option Int :=
  (if (decide (x133 < (x1.length : Int))) then ((idx x1 x133).bind fun x180 => (if (decide (x180 < 0)) then jk F rec23 x4 x132 x133 x180 true else jk F rec23 x4 x132 x133 x180 ((decide (x180 < 1)) && (decide (0 < x133))))) else qao F x4 x132)
def kH (F : Nat) (x1 : List Int) (x4 : Int) : Nat → (Int × Int) → Option Int
  | 0 => fun _ => none
  | k + 1 => fun s => ji F x1 x4 (kH F x1 x4 k) s.1 s.2
def qaT (F : Nat) (x1 : List Int) (x4 : Int) : Option Int :=
  (if (decide ((iadd .i64 x4 1) < (x1.length : Int))) then some 2 else kH F x1 x4 F (0, 0))
def jl (_F : Nat) (x169 : List Int) : Option (List Int) :=
  some x169
def qap (F : Nat) (x158 : List Int) (x161 : List Int) (x162 : Bool) : Option (List Int) :=
  (if x162 then ((app 8796093022208 x161 x158).bind fun x170 => jl F x170) else jl F x161)
def vF (_F : Nat) (rec10 : (List Int × List Int × Bool × Int) → Option (List Int)) (x217 : List Int) (x221 : Bool) (x222 : Int) (x296 : Int) (x308 : List Int) : Option (List Int) :=
  ((sub x217 x296 (x217.length : Int)).bind fun x309 => rec10 (x309, x308, (!x221), iadd .i64 x222 1))
def vE (F : Nat) (x4 : List Int) (rec10 : (List Int × List Int × Bool × Int) → Option (List Int)) (x217 : List Int) (x220 : List Int) (x221 : Bool) (x222 : Int) : Option (List Int) :=
  (if (decide (x222 < (x4.length : Int))) then ((idx x4 x222).bind fun x296 => (if x221 then ((sub x217 0 x296).bind fun x312 => ((app 8796093022208 x220 x312).bind fun x315 => vF F rec10 x217 x221 x222 x296 x315)) else vF F rec10 x217 x221 x222 x296 x220)) else qap F x217 x220 x221)
def kB (F : Nat) (x4 : List Int) : Nat → (List Int × List Int × Bool × Int) → Option (List Int)
  | 0 => fun _ => none
  | k + 1 => fun s => vE F x4 (kB F x4 k) s.1 s.2.1 s.2.2.1 s.2.2.2
def qbD (F : Nat) (x1 : List Int) (x4 : List Int) : Option (List Int) :=
  kB F x4 F (x1, ([] : List Int), true, 0)
def vR (F : Nat) (x1 : List Int) (x4 : List Int) (x10 : Int) : Option (List Int × Int) :=
  (if ((x10 : Int) != 0) then some (([] : List Int), x10) else ((qbD F x1 x4).bind fun x12 => some (x12, 0)))
def qbg (F : Nat) (x1 : List Int) (x4 : List Int) : Option (List Int × Int) :=
  ((va F x1).bind fun x7 => (if ((x7 : Int) == 0) then ((qaT F x4 (x1.length : Int)).bind fun x16 => vR F x1 x4 x16) else vR F x1 x4 x7))
def vo (_F : Nat) (x72 : List Int) (x73 : Int) (x74 : Int) : Option ((List Int × Int × Int) ⊕ (Int × Int)) :=
  some (.inl (x72, x73, x74))
def yl (F : Nat) (x3 : List Int) (x7 : Int) (x10 : List Int) (rec3 : (List Int × Int × Int × Int) → Option ((List Int × Int × Int) ⊕ (Int × Int))) (x93 : List Int) (x94 : Int) (x95 : Int) (x96 : Int) : Option ((List Int × Int × Int) ⊕ (Int × Int)) :=
  (if (decide (x94 < (x10.length : Int))) then (lbnd (zO F x95 x3 x96 x7) (fun x125 => ((idx x93 x94).bind fun _x127 => (lett (x93.set x94.toNat (iadd .i64 x125.1 (imin x94 1))) fun x130 => rec3 (x130, iadd .i64 x94 1, x125.2.1, x125.2.2)))) (fun x126 => some (.inr (x126.1, x126.2)))) else vo F x93 x95 x96)
def kf (F : Nat) (x3 : List Int) (x7 : Int) (x10 : List Int) : Nat → (List Int × Int × Int × Int) → Option ((List Int × Int × Int) ⊕ (Int × Int))
  | 0 => fun _ => none
  | k + 1 => fun s => yl F x3 x7 x10 (kf F x3 x7 x10 k) s.1 s.2.1 s.2.2.1 s.2.2.2
def vd (F : Nat) (x2 : Int) (x3 : List Int) (x6 : Int) (x7 : Int) : Option ((List Int × Int × Int) ⊕ (Int × Int)) :=
  (lbnd (zO F x2 x3 x6 (iadd .i64 x7 1)) (fun x8 => ((mk 17592186044416 (0 : Int) x8.1).bind fun x10 => kf F x3 x7 x10 F (x10, 0, x8.2.1, x8.2.2))) (fun x9 => some (.inr (x9.1, x9.2))))
def vV (_F : Nat) (x1 : Int) : Option Int :=
  (lett (ixor .i64 (iconv .i64 (ishr .u64 x1 1)) (isub .i64 0 (iconv .i64 (iand .u64 x1 1)))) fun x2 => some x2)
def v7 (_F : Nat) (x136 : List (Int × Int)) (x137 : Int) (x138 : Int) : Option ((List (Int × Int) × Int × Int) ⊕ (Int × Int)) :=
  some (.inl (x136, x137, x138))
def kO (F : Nat) (rec13 : (List (Int × Int) × Int × Int × Int × Int) → Option ((List (Int × Int) × Int × Int) ⊕ (Int × Int))) (x3 : List Int) (x8 : Int) (x9 : Int) (x177 : List (Int × Int)) (x179 : Int) (x240 : (Int × Int × Int)) (x244 : Int) : Option ((List (Int × Int) × Int × Int) ⊕ (Int × Int)) :=
  (lbnd (zO F x240.2.1 x3 x240.2.2 x9) (fun x245 => ((idx x177 x179).bind fun _x247 => (lett (x177.set x179.toNat (x244, iadd .i64 x245.1 x8)) fun x250 => ((idx x250 x179).bind fun x253 => rec13 (x250, iadd .i64 x244 (isub .i64 x253.2 1), iadd .i64 x179 1, x245.2.1, x245.2.2))))) (fun x246 => some (.inr (x246.1, x246.2))))
def yz (F : Nat) (x3 : List Int) (x8 : Int) (x9 : Int) (x13 : List (Int × Int)) (rec13 : (List (Int × Int) × Int × Int × Int × Int) → Option ((List (Int × Int) × Int × Int) ⊕ (Int × Int))) (x177 : List (Int × Int)) (x178 : Int) (x179 : Int) (x180 : Int) (x181 : Int) : Option ((List (Int × Int) × Int × Int) ⊕ (Int × Int)) :=
  (if (decide (x179 < (x13.length : Int))) then (lbnd (zO F x180 x3 x181 2097152) (fun x240 => (if ((x179 : Int) == 0) then ((vV F (iconv .u64 x240.1)).bind fun x256 => kO F rec13 x3 x8 x9 x177 x179 x240 (iadd .i64 x178 x256)) else kO F rec13 x3 x8 x9 x177 x179 x240 (iadd .i64 x178 (iadd .i64 x240.1 2)))) (fun x241 => some (.inr (x241.1, x241.2)))) else v7 F x177 x180 x181)
def zE (F : Nat) (x3 : List Int) (x8 : Int) (x9 : Int) (x13 : List (Int × Int)) : Nat → (List (Int × Int) × Int × Int × Int × Int) → Option ((List (Int × Int) × Int × Int) ⊕ (Int × Int))
  | 0 => fun _ => none
  | k + 1 => fun s => yz F x3 x8 x9 x13 (zE F x3 x8 x9 x13 k) s.1 s.2.1 s.2.2.1 s.2.2.2.1 s.2.2.2.2
def vI (F : Nat) (x2 : Int) (x3 : List Int) (x6 : Int) (x7 : Int) (x8 : Int) (x9 : Int) : Option ((List (Int × Int) × Int × Int) ⊕ (Int × Int)) :=
  (chk ((x8 : Int) != 0) ((lbnd (zO F x2 x3 x6 (iquo .i64 x9 x8)) (fun x11 => ((mk 8796093022208 (((0 : Int), (0 : Int)) : (Int × Int)) x11.1).bind fun x13 => zE F x3 x8 x9 x13 F (x13, x7, 0, x11.2.1, x11.2.2))) (fun x12 => some (.inr (x12.1, x12.2))))))
def vh (_F : Nat) (x15 : List Int) : Option (List Int) :=
  some x15
def yL (F : Nat) (x1 : List Int) (c3 : Nat) (x4 : Int) : Option (List Int) :=
  (if (decide (x4 < 0)) then none else (lett (isub .i64 x4 (isub .i64 (c3 : Int) (x1.length : Int))) fun x16 => (if (decide (0 < x16)) then ((sub x1 0 (c3 : Int)).bind fun x17 => ((appz 8796093022208 x17 (0 : Int) x16).bind fun x18 => ((sub x18 0 (x1.length : Int)).bind fun x21 => vh F x21))) else vh F x1)))
def yF (_F : Nat) (x102 : List Int) : Option (List Int) :=
  some x102
def q4 (F : Nat) (x1 : List (List Int)) (rec5 : (List Int × Int) → Option (List Int)) (x121 : List Int) (x122 : Int) : Option (List Int) :=
  (if (decide (x122 < (x1.length : Int))) then ((idx x1 x122).bind fun x148 => ((app 8796093022208 x121 x148).bind fun x152 => rec5 (x152, iadd .i64 x122 1))) else yF F x121)
def q9 (F : Nat) (x1 : List (List Int)) : Nat → (List Int × Int) → Option (List Int)
  | 0 => fun _ => none
  | k + 1 => fun s => q4 F x1 (q9 F x1 k) s.1 s.2
def kn (F : Nat) (x1 : List (List Int)) (x43 : Int) : Option (List Int) :=
  ((yL F ([] : List Int) 0 x43).bind fun x44 => q9 F x1 F (x44, 0))
def q5 (F : Nat) (x1 : List (List Int)) (rec6 : (Int × Int) → Option (List Int)) (x168 : Int) (x169 : Int) : Option (List Int) :=
  (if (decide (x169 < (x1.length : Int))) then ((idx x1 x169).bind fun x189 => (if (decide ((iadd .i64 x168 (x189.length : Int)) < 0)) then none else rec6 (iadd .i64 x168 (x189.length : Int), iadd .i64 x169 1))) else kn F x1 x168)
def za (F : Nat) (x1 : List (List Int)) : Nat → (Int × Int) → Option (List Int)
  | 0 => fun _ => none
  | k + 1 => fun s => q5 F x1 (za F x1 k) s.1 s.2
def zP (F : Nat) (x1 : List (List Int)) : Option (List Int) :=
  za F x1 F (0, 0)
def zL (_F : Nat) (x1 : List Int) : Option (List Int) :=
  if x1.length < 4611686018427387904 then some (srt x1) else none
def jP (_F : Nat) (x1 : Int) (x2 : Int) (x3 : Int) : Option Bool :=
  some ((decide (x2 ≤ x1)) && (decide (x1 ≤ x3)))
def qbW (_F : Nat) (x462 : List Int) : Option (List Int × Int) :=
  some (x462, 0)
def ju (_F : Nat) (rec32 : (List Int × Int) → Option (List Int × Int)) (x561 : Int) (x706 : List Int) : Option (List Int × Int) :=
  rec32 (x706, iadd .i64 x561 1)
def jr (F : Nat) (rec32 : (List Int × Int) → Option (List Int × Int)) (x561 : Int) (x707 : (Int × Int)) (rec35 : (List Int × Int) → Option (List Int × Int)) (x725 : List Int) (x726 : Int) : Option (List Int × Int) :=
  (if (decide (x726 < x707.2)) then ((app 8796093022208 x725 ([iadd .i64 x707.1 x726] : List Int)).bind fun x748 => rec35 (x748, iadd .i64 x726 1)) else ju F rec32 x561 x725)
def yk (F : Nat) (rec32 : (List Int × Int) → Option (List Int × Int)) (x561 : Int) (x707 : (Int × Int)) : Nat → (List Int × Int) → Option (List Int × Int)
  | 0 => fun _ => none
  | k + 1 => fun s => jr F rec32 x561 x707 (yk F rec32 x561 x707 k) s.1 s.2
def jq (F : Nat) (x1 : List (Int × Int)) (rec32 : (List Int × Int) → Option (List Int × Int)) (x560 : List Int) (x561 : Int) : Option (List Int × Int) :=
  (if (decide (x561 < (x1.length : Int))) then ((idx x1 x561).bind fun x707 => yk F rec32 x561 x707 F (x560, 0)) else qbW F x560)
def zD (F : Nat) (x1 : List (Int × Int)) : Nat → (List Int × Int) → Option (List Int × Int)
  | 0 => fun _ => none
  | k + 1 => fun s => jq F x1 (zD F x1 k) s.1 s.2
def jt (F : Nat) (x1 : List (Int × Int)) : Option (List Int × Int) :=
  zD F x1 F (([] : List Int), 0)
def vb (_F : Nat) (rec44 : (Int × Int) → Option (List Int × Int)) (x807 : Int) (x808 : Int) (x891 : (Int × Int)) (x910 : Bool) : Option (List Int × Int) :=
  (if x910 then some (([] : List Int), 3) else (if (decide (x891.1 < (iadd .i64 x807 2))) then some (([] : List Int), 4) else rec44 (isub .i64 (iadd .i64 x891.1 x891.2) 1, iadd .i64 x808 1)))
def js (F : Nat) (x1 : List (Int × Int)) (rec44 : (Int × Int) → Option (List Int × Int)) (x807 : Int) (x808 : Int) : Option (List Int × Int) :=
  (if (decide (x808 < (x1.length : Int))) then ((idx x1 x808).bind fun x891 => ((jP F x891.1 0 1048576).bind fun x913 => (if (!x913) then vb F rec44 x807 x808 x891 (!x913) else ((jP F x891.2 1 300).bind fun x914 => (if (!x914) then vb F rec44 x807 x808 x891 (!x914) else vb F rec44 x807 x808 x891 (decide (1048576 < (isub .i64 (iadd .i64 x891.1 x891.2) 1)))))))) else jt F x1)
def kJ (F : Nat) (x1 : List (Int × Int)) : Nat → (Int × Int) → Option (List Int × Int)
  | 0 => fun _ => none
  | k + 1 => fun s => js F x1 (kJ F x1 k) s.1 s.2
def qaV (F : Nat) (x1 : List (Int × Int)) : Option (List Int × Int) :=
  (if (decide (300 < (x1.length : Int))) then some (([] : List Int), 2) else kJ F x1 F (-2, 0))
def kx (_F : Nat) (x1 : List Int) : Option (List Int) :=
  if (Go.Lib.compact x1).length ≤ x1.length then some (Go.Lib.compact x1) else none
def yx (_F : Nat) (x1 : List Int) : Option (List Int) :=
  ((app 8796093022208 ([] : List Int) x1).bind fun x8 => some x8)
def vS (F : Nat) (x4 : List Int) (x7 : (List Int × Int)) (x12 : Int) : Option (List Int × Int) :=
  (if ((x12 : Int) != 0) then some (([] : List Int), x12) else ((zP F ([x7.1, x4] : List (List Int))).bind fun x16 => ((zL F x16).bind fun x19 => (chk (decide (x19.length = x16.length)) (((yx F x19).bind fun x29 => ((kx F x29).bind fun x32 => (if (decide ((x32.length : Int) < (x19.length : Int))) then some (([] : List Int), 6) else (if (decide (300 < (x19.length : Int))) then some (([] : List Int), 2) else some (x19, 0))))))))))
def qbh (F : Nat) (x1 : List (Int × Int)) (x4 : List Int) : Option (List Int × Int) :=
  ((qaV F x1).bind fun x7 => (if ((x7.2 : Int) == 0) then ((va F x4).bind fun x38 => vS F x4 x7 x38) else vS F x4 x7 x7.2))
def zK (F : Nat) (x1 : Int) (x2 : List Int) (x5 : Int) (x8 : (Int × Int)) : Option (Int × Int × Bool) :=
  ((vy F x1 x2 x5 x8.1).bind fun x14 => some (isub .u64 x14.1 x8.2, iadd .i64 x5 x8.1, x14.2))
def zH (F : Nat) (x1 : Int) (x2 : List Int) (x5 : Int) (x6 : Int) : Option (Int × Int × Bool) :=
  ((jB F x6).bind fun x8 => (if (decide (0 < x8.2)) then ((vy F x1 x2 x5 (isub .i64 x8.1 1)).bind fun x15 => (if (!x15.2) then some (0, 0, false) else (if (decide (x15.1 < x8.2)) then some (x15.1, isub .i64 (iadd .i64 x5 x8.1) 1, true) else zK F x1 x2 x5 x8))) else zK F x1 x2 x5 x8))
def qak (_F : Nat) (x1 : Int) (x2 : Int) (x3 : Bool) : Option (Int × Int × Int) :=
  (if (!x3) then some (0, 0, 7) else (if (decide (1099511627776 < x1)) then some (0, 0, 3) else some (x1, x2, 0)))
def jd (F : Nat) (x1 : Int) (x2 : List Int) (x5 : Int) (x6 : Int) : Option (Int × Int × Int) :=
  ((qaq F x1 x2 x5).bind fun x8 => (if (!x8.2.2) then some (0, 0, 7) else (if (decide (41 ≤ (imul .u64 x8.1 (iconv .u64 x6)))) then some (0, 0, 3) else (chk (decide (0 ≤ (imul .i64 (iconv .i64 x8.1) x6))) ((lett (ishl .u64 1 (imul .i64 (iconv .i64 x8.1) x6)) fun x12 => (chk (decide (0 ≤ x6)) (((zH F x1 x2 x8.2.1 (isub .u64 (ishl .u64 x12 x6) x12)).bind fun x20 => ((qak F (isub .u64 (iadd .u64 x12 x20.1) 1) x20.2.1 x20.2.2).bind fun x21 => some (x21.1, x21.2.1, x21.2.2)))))))))))
def kW (F : Nat) (x8 : Int) : Option (Bool × Int × Bool) :=
  ((qaZ F x8).bind fun x9 => some (x9, x8, true))
def kA (F : Nat) (x2 : Int) (x3 : Bool) (x4 : Int) : Option (Bool × Int × Bool) :=
  (if (decide (2097152 < x4)) then some (false, x2, x3) else (if x3 then kW F (iadd .i64 x2 (iadd .i64 (iconv .i64 x4) 1)) else ((vV F x4).bind fun x10 => kW F (iadd .i64 x2 x10))))
def qby (_F : Nat) (x105 : Int) (x108 : List Int) : Option (List Int × Int × Int) :=
  some (x108, x105, 0)
def qaj (F : Nat) (x1 : Int) (x2 : List Int) (x7 : Int) (x8 : Int) (rec3 : (Int × List Int × Int × Int × Bool) → Option (List Int × Int × Int)) (x138 : Int) (x141 : List Int) (x142 : Int) (x143 : Int) (x144 : Bool) : Option (List Int × Int × Int) :=
  (if (decide (x142 < x8)) then ((jd F x1 x2 x138 x7).bind fun x190 => (if ((x190.2.2 : Int) != 0) then some (([] : List Int), 0, x190.2.2) else ((kA F x143 x144 x190.1).bind fun x193 => (if (!x193.1) then some (([] : List Int), 0, 3) else ((app 8796093022208 x141 ([x193.2.1] : List Int)).bind fun x196 => rec3 (x190.2.1, x196, iadd .i64 x142 1, x193.2.1, x193.2.2)))))) else qby F x138 x141)
def vm (F : Nat) (x1 : Int) (x2 : List Int) (x7 : Int) (x8 : Int) : Nat → (Int × List Int × Int × Int × Bool) → Option (List Int × Int × Int)
  | 0 => fun _ => none
  | k + 1 => fun s => qaj F x1 x2 x7 x8 (vm F x1 x2 x7 x8 k) s.1 s.2.1 s.2.2.1 s.2.2.2.1 s.2.2.2.2
def qbR (F : Nat) (x1 : Int) (x2 : List Int) (x5 : Int) (x6 : Int) (x7 : Int) (x8 : Int) : Option (List Int × Int × Int) :=
  vm F x1 x2 x7 x8 F (x5, ([] : List Int), 0, x6, false)
def kY (F : Nat) (x3 : List Int) (x7 : Int) (x13 : Int) (x15 : (Int × Int × Int)) (x31 : List Int) (x42 : List (Int × Int)) (x43 : Int) (x44 : Int) : Option ((List Int × Int × Int) ⊕ (Int × Int)) :=
  ((qbh F x42 ([] : List Int)).bind fun x45 => (lbnd (kU F (((x45.2 : Int) == 0) && (decide ((x45.1.length : Int) ≤ (isub .i64 x15.1 (x31.length : Int)))))) (fun _x49 => ((qbR F x43 x3 x44 x7 x13 (isub .i64 (isub .i64 x15.1 (x31.length : Int)) (x45.1.length : Int))).bind fun x54 => (lbnd (kU F ((x54.2.2 : Int) == 0)) (fun _x57 => ((zP F ([x31, x45.1, x54.1] : List (List Int))).bind fun x61 => ((zL F x61).bind fun x64 => (chk (decide (x64.length = x61.length)) (some (.inl (x64, x43, x54.2.1))))))) (fun _x58 => some (.inr (x43, x44)))))) (fun _x50 => some (.inr (x43, x44)))))
def kX (F : Nat) (x3 : List Int) (x7 : Int) (x12 : Int) (x13 : Int) (x15 : (Int × Int × Int)) (x31 : List Int) (x32 : Int) (x33 : Int) : Option ((List Int × Int × Int) ⊕ (Int × Int)) :=
  (if (((isub .i64 x15.1 (x31.length : Int)) : Int) == 0) then some (.inl (x31, x32, x33)) else (if (decide (0 < x12)) then (lbnd (vI F x32 x3 x33 x7 x12 (isub .i64 x15.1 (x31.length : Int))) (fun x66 => kY F x3 x7 x13 x15 x31 x66.1 x66.2.1 x66.2.2) (fun x67 => some (.inr (x67.1, x67.2)))) else kY F x3 x7 x13 x15 x31 ([] : List (Int × Int)) x32 x33))
def yG (F : Nat) (x2 : Int) (x3 : List Int) (x6 : Int) (x7 : Int) (x8 : List Int) (x11 : Int) (x12 : Int) (x13 : Int) : Option ((List Int × Int × Int) ⊕ (Int × Int)) :=
  (lbnd (zO F x2 x3 x6 300) (fun x15 => (if ((x15.1 : Int) == 0) then some (.inl (([] : List Int), x15.2.1, x15.2.2)) else (if (decide (0 < x11)) then (lbnd (vd F x15.2.1 x3 x15.2.2 (x8.length : Int)) (fun x72 => ((qbg F x8 x72.1).bind fun x76 => (lbnd (kU F (((x76.2 : Int) == 0) && (decide ((x76.1.length : Int) ≤ x15.1)))) (fun _x80 => kX F x3 x7 x12 x13 x15 x76.1 x72.2.1 x72.2.2) (fun _x81 => some (.inr (x72.2.1, x72.2.2)))))) (fun x73 => some (.inr (x73.1, x73.2)))) else kX F x3 x7 x12 x13 x15 ([] : List Int) x15.2.1 x15.2.2))) (fun x16 => some (.inr (x16.1, x16.2))))
def qaz (_F : Nat) (x17 : (List Int × Int × Int)) : Option (List Int × Bool × Int × Int) :=
  some (x17.1, true, x17.2.1, x17.2.2)
def yM (F : Nat) (x3 : List Int) (x6 : Int) (x17 : (List Int × Int × Int)) (x25 : (Int × List Int × Bool)) (rec4 : Int → Option (List Int × Bool × Int × Int)) (x75 : Int) : Option (List Int × Bool × Int × Int) :=
  (if (decide (x75 < x25.1)) then ((jH F x25.1 x25.2.1 x75).bind fun x92 => ((jH F x17.2.1 x3 (iadd .i64 x6 x75)).bind fun x93 => (lbnd (kU F ((x92 : Int) == x93)) (fun _x94 => rec4 (iadd .i64 x75 1)) (fun _x95 => some (([] : List Int), false, x17.2.1, x17.2.2))))) else qaz F x17)
def zM (F : Nat) (x3 : List Int) (x6 : Int) (x17 : (List Int × Int × Int)) (x25 : (Int × List Int × Bool)) : Nat → Int → Option (List Int × Bool × Int × Int)
  | 0 => fun _ => none
  | k + 1 => fun s => yM F x3 x6 x17 x25 (zM F x3 x6 x17 x25 k) s
def yN (F : Nat) (x3 : List Int) (x6 : Int) (x17 : (List Int × Int × Int)) (x25 : (Int × List Int × Bool)) : Option (List Int × Bool × Int × Int) :=
  zM F x3 x6 x17 x25 F 0
def yH (F : Nat) (x2 : Int) (x3 : List Int) (x6 : Int) (x7 : Int) (x8 : List Int) (x11 : Int) (x12 : Int) (x13 : Int) : Option (List Int × Bool × Int × Int) :=
  (lbnd (yG F x2 x3 x6 x7 x8 x11 x12 x13) (fun x17 => ((va F x17.1).bind fun x21 => (lbnd (kU F ((x21 : Int) == 0)) (fun _x22 => ((yI F 0 ([] : List Int) false x7 x17.1 x8 x11 x12 x13).bind fun x25 => (if (!x25.2.2) then (lbnd (kU F ((x25.1 : Int) == (isub .i64 x17.2.2 x6))) (fun _x98 => yN F x3 x6 x17 x25) (fun _x99 => some (([] : List Int), false, x17.2.1, x17.2.2))) else (lbnd (kU F false) (fun _x100 => yN F x3 x6 x17 x25) (fun _x101 => some (([] : List Int), false, x17.2.1, x17.2.2)))))) (fun _x23 => some (([] : List Int), false, x17.2.1, x17.2.2))))) (fun x18 => some (([] : List Int), false, x18.1, x18.2)))
def qab (F : Nat) (x1 : Int) (x2 : List Int) (x5 : Int) (x6 : Int) (x7 : List Int) (x10 : Int) (x11 : Int) (x12 : Int) : Option (List Int × Int × Int) :=
  ((yH F x1 x2 x5 x6 x7 x10 x11 x12).bind fun x16 => (if (!x16.2.1) then some (([] : List Int), 0, 1) else some (x16.1, x16.2.2.2, 0)))
def qa8 (_F : Nat) (x5 : Int) (x261 : List (List Int)) (x262 : Int) : Option (List (List Int) × Bool) :=
  some (x261, ((x262 : Int) == x5))
def vQ (_F : Nat) (rec8 : (List (List Int) × Int × Int) → Option (List (List Int) × Bool)) (x350 : Int) (x472 : List (List Int)) (x473 : Int) : Option (List (List Int) × Bool) :=
  rec8 (x472, x473, iadd .i64 x350 1)
def jZ (F : Nat) (x1 : Int) (x2 : Int) (x3 : Int) (x4 : Int) (x5 : Int) (x6 : List Int) (rec8 : (List (List Int) × Int × Int) → Option (List (List Int) × Bool)) (x348 : List (List Int)) (x349 : Int) (x350 : Int) : Option (List (List Int) × Bool) :=
  (if (decide (x350 < x1)) then ((qco F x1 x2 x3 x4 x5 x6 x349 x350).bind fun x474 => (if (!x474.2.2) then some (([] : List (List Int)), false) else (if (decide (0 < x474.1)) then ((idx x348 (isub .i64 x350 x474.1)).bind fun x482 => ((qab F x5 x6 x474.2.1 x350 x482 x474.1 x3 x4).bind fun x488 => (if ((x488.2.2 : Int) != 0) then some (([] : List (List Int)), false) else ((app 2199023255552 x348 ([x488.1] : List (List Int))).bind fun x494 => vQ F rec8 x350 x494 x488.2.1)))) else ((qab F x5 x6 x474.2.1 x350 ([] : List Int) x474.1 x3 x4).bind fun x499 => (if ((x499.2.2 : Int) != 0) then some (([] : List (List Int)), false) else ((app 2199023255552 x348 ([x499.1] : List (List Int))).bind fun x505 => vQ F rec8 x350 x505 x499.2.1)))))) else qa8 F x5 x348 x349)
def kT (F : Nat) (x1 : Int) (x2 : Int) (x3 : Int) (x4 : Int) (x5 : Int) (x6 : List Int) : Nat → (List (List Int) × Int × Int) → Option (List (List Int) × Bool)
  | 0 => fun _ => none
  | k + 1 => fun s => jZ F x1 x2 x3 x4 x5 x6 (kT F x1 x2 x3 x4 x5 x6 k) s.1 s.2.1 s.2.2
def qcp (F : Nat) (x1 : Int) (x2 : Int) (x3 : Int) (x4 : Int) (x5 : Int) (x6 : List Int) : Option (List (List Int) × Bool) :=
  kT F x1 x2 x3 x4 x5 x6 F (([] : List (List Int)), 0, 0)
def jv (_F : Nat) : Option Bool :=
  some true
def kE (F : Nat) (x1 : List Int) (x4 : List Int) (rec3 : Int → Option Bool) (x154 : Int) : Option Bool :=
  (if (decide (x154 < (x1.length : Int))) then ((idx x1 x154).bind fun x218 => ((idx x4 x154).bind fun x222 => (if ((x218 : Int) != x222) then some false else rec3 (iadd .i64 x154 1)))) else jv F)
def zI (F : Nat) (x1 : List Int) (x4 : List Int) : Nat → Int → Option Bool
  | 0 => fun _ => none
  | k + 1 => fun s => kE F x1 x4 (zI F x1 x4 k) s
def yb (F : Nat) (x1 : List Int) (x4 : List Int) : Option Bool :=
  (if (((x1.length : Int) : Int) != (x4.length : Int)) then some false else zI F x1 x4 F 0)
def qan (_F : Nat) (x14 : (List (List Int) × Bool)) (x34 : Bool) : Option (List (List Int) × Int) :=
  (if x34 then some (([] : List (List Int)), 1) else some (x14.1, 0))
def qa0 (F : Nat) (x1 : Int) (x2 : Int) (x3 : Int) (x4 : Int) (x5 : Int) (x6 : List Int) : Option (List (List Int) × Int) :=
  ((qbf F x1 x2 x3 x4 x5 x6).bind fun x13 => (if ((x13 : Int) != 0) then some (([] : List (List Int)), x13) else ((qcp F x1 x2 x3 x4 x5 x6).bind fun x14 => (if (!x14.2) then some (([] : List (List Int)), 1) else ((k9 F x14.1 x2 x3 x4).bind fun x28 => (if ((x28.2.2.2.2.2.2 : Int) != 0) then qan F x14 true else ((yb F x28.2.2.2.2.2.1 x6).bind fun x36 => qan F x14 (!x36))))))))
def qbS (F : Nat) (x1 : List (List Int)) (x4 : Int) (x5 : Int) (x6 : Int) : Option (List Int × List Int × Int) :=
  ((jM F x1 x4 x5 x6).bind fun x9 => (if ((x9.2.2.2.2.2.2.2.2 : Int) != 0) then some (([] : List Int), ([] : List Int), x9.2.2.2.2.2.2.2.2) else some (x9.2.2.2.2.2.2.1, x9.2.2.2.2.2.2.2.1, 0)))
def qcH (_F : Nat) : Option Bool :=
  some true
def jU (F : Nat) (x1 : List Int) (x4 : List Int) (rec3 : Int → Option Bool) (x154 : Int) : Option Bool :=
  (if (decide (x154 < (x1.length : Int))) then ((idx x1 x154).bind fun x218 => ((idx x4 x154).bind fun x222 => (if ((x218 : Int) != x222) then some false else rec3 (iadd .i64 x154 1)))) else qcH F)
def yQ (F : Nat) (x1 : List Int) (x4 : List Int) : Nat → Int → Option Bool
  | 0 => fun _ => none
  | k + 1 => fun s => jU F x1 x4 (yQ F x1 x4 k) s
def qbc (F : Nat) (x1 : List Int) (x4 : List Int) : Option Bool :=
  (if (((x1.length : Int) : Int) != (x4.length : Int)) then some false else yQ F x1 x4 F 0)
def qcf (_F : Nat) : Option Bool :=
  some true
def jG (F : Nat) (x1 : List (List Int)) (x4 : List (List Int)) (rec3 : Int → Option Bool) (x202 : Int) : Option Bool :=
  (if (decide (x202 < (x1.length : Int))) then ((idx x1 x202).bind fun x287 => ((idx x4 x202).bind fun x292 => ((qbc F x287 x292).bind fun x297 => (if (!x297) then some false else rec3 (iadd .i64 x202 1))))) else qcf F)
def yB (F : Nat) (x1 : List (List Int)) (x4 : List (List Int)) : Nat → Int → Option Bool
  | 0 => fun _ => none
  | k + 1 => fun s => jG F x1 x4 (yB F x1 x4 k) s
def qaM (F : Nat) (x1 : List (List Int)) (x4 : List (List Int)) : Option Bool :=
  (if (((x1.length : Int) : Int) != (x4.length : Int)) then some false else yB F x1 x4 F 0)
def qaL (F : Nat) (x1 : List (List Int)) (x4 : List (List Int)) : Option Bool :=
  ((qaM F x1 x4).bind fun x9 => some x9)
def vX (_F : Nat)  : Option (List (List Int)) :=
  some ([([1, 2, 3, 5] : List Int), ([1, 2, 3, 5] : List Int), ([0, 1, 2, 3, 5] : List Int), ([] : List Int), ([4] : List Int), ([1, 2, 3] : List Int)] : List (List Int))
def zw (_F : Nat) (x78 : Bool) : Option Bool :=
  some x78
def vj (F : Nat) (x21 : Int) (x22 : Int) (x23 : Int) (x24 : Int) (x25 : Int) (x26 : Int) (x29 : List Int) : Option Bool :=
  ((qa0 F x22 x23 x24 x25 x26 x29).bind fun x30 => ((vX F).bind fun x42 => ((qbS F x42 3 3 2).bind fun x45 => ((qa0 F 1 3 3 2 0 ([] : List Int)).bind fun x50 => (if ((x21 : Int) == 0) then (if ((x22 : Int) == 6) then (if (((x23 : Int) == 3) && (((x24 : Int) == 3) && ((x25 : Int) == 2))) then ((vX F).bind fun x82 => ((qaL F x30.1 x82).bind fun x85 => (if x85 then (if ((x30.2 : Int) == 0) then (if (((x45.1.length : Int) : Int) == 6) then ((idx x45.1 0).bind fun x89 => (if ((x89 : Int) == 0) then ((idx x45.1 1).bind fun x93 => (if ((x93 : Int) == 1) then (if (((x45.2.1.length : Int) : Int) == 6) then ((idx x45.2.1 0).bind fun x98 => (if ((x98 : Int) == 0) then (if ((x45.2.2 : Int) == 0) then zw F ((x50.2 : Int) == 1) else zw F false) else zw F false)) else zw F false) else zw F false)) else zw F false)) else zw F false) else zw F false) else zw F false))) else zw F false) else zw F false) else zw F false)))))
def qaJ (F : Nat)  : Option Bool :=
  ((vX F).bind fun x103 => ((k9 F x103 3 3 2).bind fun x106 => vj F x106.2.2.2.2.2.2 x106.1 x106.2.1 x106.2.2.1 x106.2.2.2.1 x106.2.2.2.2.1 x106.2.2.2.2.2.1))
def qce (_F : Nat) : Option Bool :=
  some true
def jF (F : Nat) (x1 : List Int) (x4 : List Int) (rec3 : Int → Option Bool) (x154 : Int) : Option Bool :=
  (if (decide (x154 < (x1.length : Int))) then ((idx x1 x154).bind fun x218 => ((idx x4 x154).bind fun x222 => (if ((x218 : Int) != x222) then some false else rec3 (iadd .i64 x154 1)))) else qce F)
def yA (F : Nat) (x1 : List Int) (x4 : List Int) : Nat → Int → Option Bool
  | 0 => fun _ => none
  | k + 1 => fun s => jF F x1 x4 (yA F x1 x4 k) s
def qaK (F : Nat) (x1 : List Int) (x4 : List Int) : Option Bool :=
  (if (((x1.length : Int) : Int) != (x4.length : Int)) then some false else yA F x1 x4 F 0)
def vO (_F : Nat) (x13 : Bool) : Option Bool :=
  some x13
def qag (F : Nat) (x1 : Int) (x2 : List Int) (x5 : Int) (x6 : List Int) : Option Bool :=
  (if ((x1 : Int) == x5) then ((qaK F x2 x6).bind fun x14 => vO F x14) else vO F false)
def ja (_F : Nat) (x22 : Bool) : Option Bool :=
  some x22
def qbv (F : Nat) (x1 : Int) (x2 : Int) (x3 : Int) (x4 : Int) (x5 : Int) (x6 : List Int) (x9 : Int) (x10 : Int) (x11 : Int) (x12 : Int) (x13 : Int) (x14 : List Int) : Option Bool :=
  (if (((x1 : Int) == x9) && (((x2 : Int) == x10) && (((x3 : Int) == x11) && ((x4 : Int) == x12)))) then ((qag F x5 x6 x13 x14).bind fun x23 => ja F x23) else ja F false)
def vi (F : Nat) (x1 : Int) (x2 : Int) (x31 : Int) (x32 : Int) (x33 : Int) (x34 : Int) (x35 : Int) (x36 : Int) (x39 : List Int) : Option Bool :=
  (if ((x31 : Int) != 0) then ((qbv F x32 x33 x34 x35 x36 x39 0 0 0 0 0 ([] : List Int)).bind fun x42 => some x42) else some ((x36 : Int) == (imul .i64 x1 (iadd .i64 1 (imin x2 1)))))
def qb3 (F : Nat) (x1 : Int) (x2 : Int) (x3 : Int) (x4 : Int) : Option Bool :=
  ((qaJ F).bind fun x8 => (if (!x8) then some false else (if ((decide (x1 < 0)) || (decide (100 < x1))) then some true else ((mk 4398046511104 (([] : List Int) : List Int) x1).bind fun x44 => ((k9 F x44 x2 x3 x4).bind fun x47 => vi F x1 x2 x47.2.2.2.2.2.2 x47.1 x47.2.1 x47.2.2.1 x47.2.2.2.1 x47.2.2.2.2.1 x47.2.2.2.2.2.1)))))
end Go.Proofs.YtpnfijegoepiaaaGreat
