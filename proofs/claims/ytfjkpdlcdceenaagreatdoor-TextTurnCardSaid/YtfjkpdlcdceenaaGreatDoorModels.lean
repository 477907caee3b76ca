/- What each Go function of this seat computes, in plain terms. -/
import Derived.Test.YtfjkpdlcdceenaaGreatDoorSy
namespace Go.Proofs.YtfjkpdlcdceenaaGreatDoor
open Go SX
def y6 (_F : Nat) (x798 : Int) : Option Int :=
  (if (decide (600 < x798)) then some 2 else some 0)
def y7 (_F : Nat) (rec38 : (Int × Int) → Option Int) (x1065 : Int) (x1461 : Int) : Option Int :=
  rec38 (x1461, iadd .i64 x1065 1)
def k7 (F : Nat) (rec38 : (Int × Int) → Option Int) (x1064 : Int) (x1065 : Int) (x1462 : List Int) : Option Int :=
  y7 F rec38 x1065 (iadd .i64 x1064 (x1462.length : Int))
def k6 (F : Nat) (rec38 : (Int × Int) → Option Int) (x1 : List (List Int)) (x1064 : Int) (x1065 : Int) (x1462 : List Int) (rec45 : (Int × Int) → Option Int) (x1549 : Int) (x1550 : Int) : Option Int :=
  (if (decide (x1550 < (x1462.length : Int))) then ((idx x1462 x1550).bind fun x1582 => (if ((decide (x1582 < 0)) || (decide ((x1.length : Int) ≤ x1582))) then some 3 else (if (decide (x1582 ≤ x1549)) then some 4 else rec45 (x1582, iadd .i64 x1550 1)))) else k7 F rec38 x1064 x1065 x1462)
def zR (F : Nat) (rec38 : (Int × Int) → Option Int) (x1 : List (List Int)) (x1064 : Int) (x1065 : Int) (x1462 : List Int) : Nat → (Int × Int) → Option Int
  | 0 => fun _ => none
  | k + 1 => fun s => k6 F rec38 x1 x1064 x1065 x1462 (zR F rec38 x1 x1064 x1065 x1462 k) s.1 s.2
def k5 (F : Nat) (x1 : List (List Int)) (rec38 : (Int × Int) → Option Int) (x1064 : Int) (x1065 : Int) : Option Int :=
  (if (decide (x1065 < (x1.length : Int))) then ((idx x1 x1065).bind fun x1462 => zR F rec38 x1 x1064 x1065 x1462 F (-1, 0)) else y6 F x1064)
def qL (F : Nat) (x1 : List (List Int)) : Nat → (Int × Int) → Option Int
  | 0 => fun _ => none
  | k + 1 => fun s => k5 F x1 (qL F x1 k) s.1 s.2
def zN (F : Nat) (x1 : List (List Int)) : Option Int :=
  (if (decide (100 < (x1.length : Int))) then some 2 else qL F x1 F (0, 0))
def z7 (_F : Nat) (_x1 : List (List Int)) : Option Unit :=
  some ()
def yk {σ τ : Type} (_F : Nat) (_yy : σ → (Int × Int) → Option (σ ⊕ τ)) (rec7 : (Int × σ) → Option (σ ⊕ τ)) (x121 : Int) (x298 : σ) : Option (σ ⊕ τ) :=
  rec7 (iadd .i64 x121 1, x298)
def k4 {σ τ : Type} (F : Nat) (yy : σ → (Int × Int) → Option (σ ⊕ τ)) (rec7 : (Int × σ) → Option (σ ⊕ τ)) (x121 : Int) (x300 : List Int) (rec10 : (Int × σ) → Option (σ ⊕ τ)) (x320 : Int) (x321 : σ) : Option (σ ⊕ τ) :=
  (if (decide (x320 < (x300.length : Int))) then ((idx x300 x320).bind fun x348 => ((yy x321 (x121, x348)).bind (Sum.elim (fun x351 => rec10 (iadd .i64 x320 1, x351)) (fun x352 => some (.inr x352))))) else yk F yy rec7 x121 x321)
def zQ {σ τ : Type} (F : Nat) (yy : σ → (Int × Int) → Option (σ ⊕ τ)) (rec7 : (Int × σ) → Option (σ ⊕ τ)) (x121 : Int) (x300 : List Int) : Nat → (Int × σ) → Option (σ ⊕ τ)
  | 0 => fun _ => none
  | k + 1 => fun s => k4 F yy rec7 x121 x300 (zQ F yy rec7 x121 x300 k) s.1 s.2
def yj {σ τ : Type} (F : Nat) (yy : σ → (Int × Int) → Option (σ ⊕ τ)) (x2 : List (List Int)) (rec7 : (Int × σ) → Option (σ ⊕ τ)) (x121 : Int) (x122 : σ) : Option (σ ⊕ τ) :=
  (if (decide (x121 < (x2.length : Int))) then ((idx x2 x121).bind fun x300 => zQ F yy rec7 x121 x300 F (0, x122)) else some (.inl x122))
def qY {σ τ : Type} (F : Nat) (yy : σ → (Int × Int) → Option (σ ⊕ τ)) (x2 : List (List Int)) : Nat → (Int × σ) → Option (σ ⊕ τ)
  | 0 => fun _ => none
  | k + 1 => fun s => yj F yy x2 (qY F yy x2 k) s.1 s.2
def z8 {σ τ : Type} (F : Nat) (yy : σ → (Int × Int) → Option (σ ⊕ τ)) (x2 : List (List Int)) (s0 : σ) : Option (σ ⊕ τ) :=
  qY F yy x2 F (0, s0)
def kQ (_F : Nat) (x119 : List Int) (x144 : Int) (x145 : Int) : Option (List Int ⊕ Empty) :=
  ((itoaB x144).bind fun x147 => ((app 9223372036854775807 x147 ([32] : List Int)).bind fun x149 => ((itoaB x145).bind fun x150 => ((app 9223372036854775807 x149 x150).bind fun x152 => ((app 9223372036854775807 x152 ([10] : List Int)).bind fun x154 => ((app 140737488355328 x119 (x154.map b8)).bind fun x155 => some (.inl x155)))))))
def kJ (F : Nat) (x1 : List (List Int)) : Option (List Int × Int) :=
  ((zN F x1).bind fun x7 => (if ((x7 : Int) != 0) then some (([] : List Int), x7) else ((itoaB (x1.length : Int)).bind fun x9 => ((app 9223372036854775807 x9 ([10] : List Int)).bind fun x10 => ((app 140737488355328 ([] : List Int) (x10.map b8)).bind fun x11 => ((z7 F x1).bind fun _x91 => ((z8 F (fun (x119 : List Int) ((x144, x145) : (Int × Int)) => kQ F x119 x144 x145) x1 x11).bind (Sum.elim (fun (x119 : List Int) => ((bstrM x119).bind fun x168 => some (x168, 0))) (fun t => t.elim)))))))))
def qJ (_F : Nat) (x5 : Bool) : Option Bool :=
  some x5
def zF (F : Nat) (x1 : List Int) (x2 : List Int) : Option Bool :=
  (if (decide ((x2.length : Int) ≤ (x1.length : Int))) then ((sub x1 (isub .i64 (x1.length : Int) (x2.length : Int)) (x1.length : Int)).bind fun x6 => qJ F (bstr x6 == bstr x2)) else qJ F false)
def zA (F : Nat) (x1 : List Int) (x2 : List Int) : Option (List Int) :=
  ((zF F x1 x2).bind fun x6 => (if x6 then ((sub x1 0 (isub .i64 (x1.length : Int) (x2.length : Int))).bind fun x7 => some x7) else some x1))
def kx (F : Nat) (x1 : List Int) (x2 : List Int) : Option (List Int) :=
  ((zA F x1 x2).bind fun x3 => some x3)
def vV (F : Nat) (x1 : List Int) : Option (List (List Int)) :=
  (if (bstr x1 == bstr ([] : List Int)) then some ([] : List (List Int)) else ((kx F x1 ([10] : List Int)).bind fun x3 => ((splitM x3 ([10] : List Int)).bind fun x4 => some x4)))
def yJ (_F : Nat) (x81 : List (List Int)) (x98 : Bool) : Option (List (List Int)) :=
  (if x98 then some ([] : List (List Int)) else some x81)
def kR (F : Nat) (x81 : List (List Int)) : Option (List (List Int)) :=
  (if (decide (0 < (x81.length : Int))) then ((idx x81 0).bind fun x100 => ((idx x100 0).bind fun x103 => yJ F x81 (((b8 x103) : Int) == 35))) else yJ F x81 false)
def yo (_F : Nat) (rec10 : (List (List Int) × Int) → Option (List (List Int))) (x133 : Int) (x170 : List (List Int)) : Option (List (List Int)) :=
  rec10 (x170, iadd .i64 x133 1)
def yn (F : Nat) (x104 : List (List Int)) (rec10 : (List (List Int) × Int) → Option (List (List Int))) (x132 : List (List Int)) (x133 : Int) : Option (List (List Int)) :=
  (if (decide (x133 < (x104.length : Int))) then ((idx x104 x133).bind fun x171 => (if (!(bstr x171 == bstr ([] : List Int))) then ((app 4398046511104 x132 ([x171] : List (List Int))).bind fun x176 => yo F rec10 x133 x176) else yo F rec10 x133 x132)) else kR F x132)
def zL (F : Nat) (x104 : List (List Int)) : Nat → (List (List Int) × Int) → Option (List (List Int))
  | 0 => fun _ => none
  | k + 1 => fun s => yn F x104 (zL F x104 k) s.1 s.2
def vW (F : Nat) (x1 : List Int) : Option (List (List Int)) :=
  ((splitM x1 ([32] : List Int)).bind fun x104 => zL F x104 F (([] : List (List Int)), 0))
def kF (_F : Nat) (x1 : List Int) (x9 : Bool) : Option Int :=
  (if x9 then some (-1) else ((atoiM x1).bind fun x10 => some x10))
def zD (F : Nat) (x1 : List Int) : Option Int :=
  (if (decide (6 < (x1.length : Int))) then kF F x1 true else ((trimM x1 ([48, 49, 50, 51, 52, 53, 54, 55, 56, 57] : List Int)).bind fun x12 => kF F x1 (!(bstr x12 == bstr ([] : List Int)))))
def km (F : Nat) (x2 : Int) (x3 : List (Int × Int)) (x6 : List (Int × Int)) (x8 : List (List Int)) (x27 : Bool) : Option (Int × Int × List (Int × Int) × List (Int × Int)) :=
  (if x27 then some (1, x2, x3, x6) else ((idx x8 0).bind fun x28 => ((zD F x28).bind fun x31 => (if (decide (100 < x31)) then some (3, x2, x3, x6) else some (0, x31, x3, x6)))))
def kK (F : Nat) (x2 : Int) (x3 : List (Int × Int)) (x6 : List (Int × Int)) (x8 : List (List Int)) : Option (Int × Int × List (Int × Int) × List (Int × Int)) :=
  (if (((x8.length : Int) : Int) != 1) then km F x2 x3 x6 x8 true else ((idx x8 0).bind fun x35 => ((zD F x35).bind fun x38 => km F x2 x3 x6 x8 (decide (x38 < 0)))))
def ko (_F : Nat) (x2 : Int) (x3 : List (Int × Int)) (x6 : List (Int × Int)) (x36 : Int) (x37 : Int) : Option (Int × Int × List (Int × Int) × List (Int × Int)) :=
  (if (decide (((x36, x37) : Int × Int) ∈ x6)) then some (6, x2, x3, x6) else (if (((x3.length : Int) : Int) == 600) then some (2, x2, x3, x6) else ((app 4398046511104 x3 ([(x36, x37)] : List (Int × Int))).bind fun x63 => ((sins x6 (x36, x37)).bind fun x66 => some (0, x2, x63, x66)))))
def kn (F : Nat) (x2 : Int) (x3 : List (Int × Int)) (x6 : List (Int × Int)) (x36 : Int) (x37 : Int) (x46 : Bool) : Option (Int × Int × List (Int × Int) × List (Int × Int)) :=
  (if x46 then some (3, x2, x3, x6) else ko F x2 x3 x6 x36 x37)
def zH (F : Nat) (x2 : Int) (x3 : List (Int × Int)) (x6 : List (Int × Int)) (x36 : Int) (x37 : Int) : Option (Int × Int × List (Int × Int) × List (Int × Int)) :=
  (if ((decide (x36 < 0)) || (decide (x37 < 0))) then some (1, x2, x3, x6) else (if (decide (x2 ≤ x36)) then kn F x2 x3 x6 x36 x37 true else kn F x2 x3 x6 x36 x37 (decide (x2 ≤ x37))))
def kL (F : Nat) (x2 : Int) (x3 : List (Int × Int)) (x6 : List (Int × Int)) (x8 : List (List Int)) : Option (Int × Int × List (Int × Int) × List (Int × Int)) :=
  (if (decide (x2 < 0)) then ((kK F x2 x3 x6 x8).bind fun x15 => some (x15.1, x15.2.1, x15.2.2.1, x15.2.2.2)) else (if (((x8.length : Int) : Int) != 2) then some (1, x2, x3, x6) else ((idx x8 0).bind fun x74 => ((idx x8 1).bind fun x78 => ((zD F x74).bind fun x82 => ((zD F x78).bind fun x83 => zH F x2 x3 x6 x82 x83))))))
def jP (_F : Nat) (x171 : List (List Int)) : Option (List (List Int)) :=
  some x171
def yl (F : Nat) (x2 : List (Int × Int)) (rec3 : (Int × List (List Int)) → Option (List (List Int))) (x224 : Int) (x226 : List (List Int)) : Option (List (List Int)) :=
  (if (decide (x224 < (x2.length : Int))) then ((idx x2 x224).bind fun x306 => ((idx x226 x306.1).bind fun x310 => ((idx x226 x306.1).bind fun _x316 => ((app 8796093022208 x310 ([x306.2] : List Int)).bind fun x324 => (lett (x226.set x306.1.toNat x324) fun x327 => rec3 (iadd .i64 x224 1, x327)))))) else jP F x226)
def kd (F : Nat) (x2 : List (Int × Int)) : Nat → (Int × List (List Int)) → Option (List (List Int))
  | 0 => fun _ => none
  | k + 1 => fun s => yl F x2 (kd F x2 k) s.1 s.2
def kB (F : Nat) (x1 : Int) (x2 : List (Int × Int)) : Option (List (List Int)) :=
  ((mk 4398046511104 (([] : List Int) : List Int) x1).bind fun x6 => kd F x2 F (0, x6))
def qH (_F : Nat) (_x1 : List (Int × Int)) : Option Unit :=
  some ()
def qai (_F : Nat) : Option Int :=
  some 0
def zG (F : Nat) (x1 : List Int) (rec3 : Int → Option Int) (x46 : Int) : Option Int :=
  (if (decide (x46 < (x1.length : Int))) then ((idx x1 x46).bind fun x63 => (if ((x63 : Int) != 0) then some x63 else rec3 (iadd .i64 x46 1))) else qai F)
def zW (F : Nat) (x1 : List Int) : Nat → Int → Option Int
  | 0 => fun _ => none
  | k + 1 => fun s => zG F x1 (zW F x1 k) s
def vS (F : Nat) (x1 : List Int) : Option Int :=
  zW F x1 F 0
def yF (_F : Nat) (x1 : Int) : Option Bool :=
  some ((x1 : Int) != x1)
def kw (F : Nat) (x1 : Int) (x2 : Int) : Option Int :=
  ((yF F x1).bind fun x3 => ((yF F x2).bind fun x4 => (if x3 then (if x4 then some 0 else some (-1)) else (if x4 then some 1 else (if (decide (x1 < x2)) then some (-1) else (if (decide (x2 < x1)) then some 1 else some 0))))))
def vw (F : Nat) (x1 : Int) (x2 : Int) (x3 : Int) (x4 : Int) : Option Int :=
  ((kw F x1 x3).bind fun x12 => ((kw F x2 x4).bind fun x13 => ((vS F ([x12, x13] : List Int)).bind fun x16 => some x16)))
def qV {σ τ : Type} (_F : Nat) (yy : σ → (Int × Int) → Option (σ ⊕ τ)) (x2 : List (Int × Int)) (rec1 : (Int × σ) → Option (σ ⊕ τ)) (x23 : Int) (x24 : σ) : Option (σ ⊕ τ) :=
  (if (decide (x23 < (x2.length : Int))) then ((idx x2 x23).bind fun x54 => ((yy x24 (x54.1, x54.2)).bind (Sum.elim (fun x58 => rec1 (iadd .i64 x23 1, x58)) (fun x59 => some (.inr x59))))) else some (.inl x24))
def qx {σ τ : Type} (F : Nat) (yy : σ → (Int × Int) → Option (σ ⊕ τ)) (x2 : List (Int × Int)) : Nat → (Int × σ) → Option (σ ⊕ τ)
  | 0 => fun _ => none
  | k + 1 => fun s => qV F yy x2 (qx F yy x2 k) s.1 s.2
def zB {σ τ : Type} (F : Nat) (yy : σ → (Int × Int) → Option (σ ⊕ τ)) (x2 : List (Int × Int)) (s0 : σ) : Option (σ ⊕ τ) :=
  qx F yy x2 F (0, s0)
def qI (_F : Nat) (x46 : List (Int × Int)) (x55 : Int) (x56 : Int) : Option (List (Int × Int) ⊕ Empty) :=
  ((app 4398046511104 x46 ([(x55, x56)] : List (Int × Int))).bind fun x60 => some (.inl x60))
def qu (F : Nat) (x1 : List (Int × Int)) (x5 : List (Int × Int)) : Option (List (Int × Int)) :=
  ((zB F (fun (x46 : List (Int × Int)) ((x55, x56) : (Int × Int)) => qI F x46 x55 x56) x5 x1).bind (Sum.elim (fun (x46 : List (Int × Int)) => some x46) (fun t => t.elim)))
def qq (F : Nat) (x2 : List (Int × Int)) : Option (List (Int × Int)) :=
  ((qu F ([] : List (Int × Int)) x2).bind fun x5 => some x5)
def qt (F : Nat) (x1 : List (Int × Int)) : Option (List (Int × Int)) :=
  sortF (fun a b => vw F a.1 a.2 b.1 b.2) x1
def qd (F : Nat) (x2 : List (Int × Int)) : Option (List (Int × Int)) :=
  ((qq F x2).bind fun x5 => ((qt F x5).bind fun x8 => (chk (decide (x8.length = x5.length)) (some x8))))
def jD (F : Nat) (x1 : Int) (x2 : List (Int × Int)) : Option (List (List Int) × Int) :=
  ((qH F x2).bind fun _x122 => ((qd F x2).bind fun x124 => ((kB F x1 x124).bind fun x127 => some (x127, 0))))
def vv (F : Nat) (x1 : Int) (x2 : List (Int × Int)) (rec3 : (Int × List (Int × Int)) → Option (List (List Int) × Int)) (x166 : Int) (x167 : List (Int × Int)) : Option (List (List Int) × Int) :=
  (if (decide (x166 < (x2.length : Int))) then ((idx x2 x166).bind fun x223 => (if ((((decide (x223.1 < 0)) || (decide (x1 ≤ x223.1))) || (decide (x223.2 < 0))) || (decide (x1 ≤ x223.2))) then some (([] : List (List Int)), 3) else (if (decide (((x223.1, x223.2) : Int × Int) ∈ x167)) then some (([] : List (List Int)), 6) else ((sins x167 (x223.1, x223.2)).bind fun x237 => rec3 (iadd .i64 x166 1, x237))))) else jD F x1 x2)
def kT (F : Nat) (x1 : Int) (x2 : List (Int × Int)) : Nat → (Int × List (Int × Int)) → Option (List (List Int) × Int)
  | 0 => fun _ => none
  | k + 1 => fun s => vv F x1 x2 (kT F x1 x2 k) s.1 s.2
def yU (F : Nat) (x1 : Int) (x2 : List (Int × Int)) : Option (List (List Int) × Int) :=
  (if ((decide (x1 < 0)) || (decide (100 < x1))) then some (([] : List (List Int)), 3) else (if (decide (600 < (x2.length : Int))) then some (([] : List (List Int)), 2) else kT F x1 x2 F (0, ([] : List (Int × Int)))))
def yI (_F : Nat) (x128 : Int) (x131 : List (List Int)) : Option (List (List Int) × Int × Int) :=
  some (x131, 0, x128)
def vN (F : Nat) (x113 : Int) (x116 : List (Int × Int)) (_x117 : List (Int × Int)) : Option (List (List Int) × Int × Int) :=
  (if (decide (x113 < 0)) then some (([] : List (List Int)), 0, 5) else ((yU F x113 x116).bind fun x132 => yI F x132.2 x132.1))
def ym (_F : Nat) (rec9 : (Int × Int × List (Int × Int) × List (Int × Int)) → Option (List (List Int) × Int × Int)) (x173 : Int) (x224 : Int) (x227 : List (Int × Int)) (x228 : List (Int × Int)) : Option (List (List Int) × Int × Int) :=
  rec9 (iadd .i64 x173 1, x224, x227, x228)
def yH (F : Nat) (x4 : List (List Int)) (rec9 : (Int × Int × List (Int × Int) × List (Int × Int)) → Option (List (List Int) × Int × Int)) (x173 : Int) (x174 : Int) (x177 : List (Int × Int)) (x178 : List (Int × Int)) : Option (List (List Int) × Int × Int) :=
  (if (decide (x173 < (x4.length : Int))) then ((idx x4 x173).bind fun x229 => ((vW F x229).bind fun x232 => (if (((x232.length : Int) : Int) == 0) then ym F rec9 x173 x174 x177 x178 else ((kL F x174 x177 x178 x232).bind fun x236 => (if ((x236.1 : Int) != 0) then some (([] : List (List Int)), iadd .i64 x173 1, x236.1) else ym F rec9 x173 x236.2.1 x236.2.2.1 x236.2.2.2))))) else vN F x174 x177 x178)
def zX (F : Nat) (x4 : List (List Int)) : Nat → (Int × Int × List (Int × Int) × List (Int × Int)) → Option (List (List Int) × Int × Int)
  | 0 => fun _ => none
  | k + 1 => fun s => yH F x4 (zX F x4 k) s.1 s.2.1 s.2.2.1 s.2.2.2
def qP (F : Nat) (x1 : List Int) : Option (List (List Int) × Int × Int) :=
  ((vV F x1).bind fun x4 => (if ((decide (20000 < (x1.length : Int))) || (decide (1000 < (x4.length : Int)))) then some (([] : List (List Int)), 0, 2) else zX F x4 F (0, -1, ([] : List (Int × Int)), ([] : List (Int × Int)))))
def vz (_F : Nat) (x1 : Int) (x2 : Int) (x3 : Int) : Option Bool :=
  some ((decide (x2 ≤ x1)) && (decide (x1 ≤ x3)))
def je (_F : Nat) (x3744 : Int) : Option Int :=
  (if (decide (600 < x3744)) then some 2 else some 0)
def vQ (_F : Nat) (rec138 : (Int × Int) → Option Int) (x4993 : Int) (x6862 : Int) : Option Int :=
  rec138 (x6862, iadd .i64 x4993 1)
def yz (_F : Nat) (rec161 : (Int × Int) → Option Int) (x7069 : Int) (x7070 : Int) (x7461 : Bool) : Option Int :=
  (if x7461 then some 4 else rec161 (iadd .i64 x7069 1, iadd .i64 x7070 1))
def vP (F : Nat) (rec138 : (Int × Int) → Option Int) (x1 : List (List Int)) (x4993 : Int) (rec161 : (Int × Int) → Option Int) (x7069 : Int) (x7070 : Int) : Option Int :=
  ((idx x1 x4993).bind fun x7283 => (if (decide (x7070 < (x7283.length : Int))) then ((idx x1 x4993).bind fun x7394 => ((idx x7394 x7070).bind fun x7398 => ((vz F x7398 0 (isub .i64 (x1.length : Int) 1)).bind fun x7401 => (if (!x7401) then some 3 else (if (decide (0 < x7070)) then ((idx x1 x4993).bind fun x7464 => ((idx x7464 x7070).bind fun x7469 => ((idx x1 x4993).bind fun x7473 => ((idx x7473 (isub .i64 x7070 1)).bind fun x7478 => yz F rec161 x7069 x7070 (decide (x7469 ≤ x7478)))))) else yz F rec161 x7069 x7070 false))))) else vQ F rec138 x4993 x7069))
def zY (F : Nat) (rec138 : (Int × Int) → Option Int) (x1 : List (List Int)) (x4993 : Int) : Nat → (Int × Int) → Option Int
  | 0 => fun _ => none
  | k + 1 => fun s => vP F rec138 x1 x4993 (zY F rec138 x1 x4993 k) s.1 s.2
def vO (F : Nat) (x1 : List (List Int)) (rec138 : (Int × Int) → Option Int) (x4992 : Int) (x4993 : Int) : Option Int :=
  (if (decide (x4993 < (x1.length : Int))) then zY F rec138 x1 x4993 F (x4992, 0) else je F x4992)
def qT (F : Nat) (x1 : List (List Int)) : Nat → (Int × Int) → Option Int
  | 0 => fun _ => none
  | k + 1 => fun s => vO F x1 (qT F x1 k) s.1 s.2
def qak (F : Nat) (x1 : List (List Int)) : Option Int :=
  (if (decide (100 < (x1.length : Int))) then some 2 else qT F x1 F (0, 0))
def ke (_F : Nat) (rec1 : (Int × List Int) → Option (List Int)) (x6 : Int) (x7 : List Int) : Option (List Int) :=
  ((app 9223372036854775807 ([iconv .u8 (iadd .i64 48 (irem x6 10))] : List Int) x7).bind fun x15 => (if (((iquo .i64 x6 10) : Int) == 0) then some x15 else rec1 (iquo .i64 x6 10, x15)))
def kf (F : Nat) : Nat → (Int × List Int) → Option (List Int)
  | 0 => fun _ => none
  | k + 1 => fun s => ke F (kf F k) s.1 s.2
def qS (F : Nat) (x1 : Int) : Option (List Int) :=
  kf F F (x1, ([] : List Int))
def js (_F : Nat) (x669 : List (Int × Int)) : Option (List (Int × Int)) :=
  some x669
def jt (_F : Nat) (rec18 : (List (Int × Int) × Int) → Option (List (Int × Int))) (x892 : Int) (x1223 : List (Int × Int)) : Option (List (Int × Int)) :=
  rec18 (x1223, iadd .i64 x892 1)
def jr (F : Nat) (rec18 : (List (Int × Int) × Int) → Option (List (Int × Int))) (x1 : List (List Int)) (x892 : Int) (rec21 : (List (Int × Int) × Int) → Option (List (Int × Int))) (x1260 : List (Int × Int)) (x1261 : Int) : Option (List (Int × Int)) :=
  ((idx x1 x892).bind fun x1302 => (if (decide (x1261 < (x1302.length : Int))) then ((idx x1 x892).bind fun x1318 => ((idx x1318 x1261).bind fun x1322 => ((app 4398046511104 x1260 ([(x892, x1322)] : List (Int × Int))).bind fun x1327 => rec21 (x1327, iadd .i64 x1261 1)))) else jt F rec18 x892 x1260))
def k3 (F : Nat) (rec18 : (List (Int × Int) × Int) → Option (List (Int × Int))) (x1 : List (List Int)) (x892 : Int) : Nat → (List (Int × Int) × Int) → Option (List (Int × Int))
  | 0 => fun _ => none
  | k + 1 => fun s => jr F rec18 x1 x892 (k3 F rec18 x1 x892 k) s.1 s.2
def jq (F : Nat) (x1 : List (List Int)) (rec18 : (List (Int × Int) × Int) → Option (List (Int × Int))) (x891 : List (Int × Int)) (x892 : Int) : Option (List (Int × Int)) :=
  (if (decide (x892 < (x1.length : Int))) then k3 F rec18 x1 x892 F (x891, 0) else js F x891)
def zm (F : Nat) (x1 : List (List Int)) : Nat → (List (Int × Int) × Int) → Option (List (Int × Int))
  | 0 => fun _ => none
  | k + 1 => fun s => jq F x1 (zm F x1 k) s.1 s.2
def qaA (F : Nat) (x1 : List (List Int)) : Option (List (Int × Int)) :=
  zm F x1 F (([] : List (Int × Int)), 0)
def jO (_F : Nat) (x184 : List Int) : Option (List Int) :=
  some x184
def yi (_F : Nat) (rec8 : (List Int × Int) → Option (List Int)) (x243 : Int) (x330 : List Int) : Option (List Int) :=
  rec8 (x330, iadd .i64 x243 1)
def jN (F : Nat) (x7 : List (Int × Int)) (rec8 : (List Int × Int) → Option (List Int)) (x242 : List Int) (x243 : Int) : Option (List Int) :=
  (if (decide (x243 < (x7.length : Int))) then ((idx x7 x243).bind fun x331 => ((idx x7 x243).bind fun x335 => ((qS F x331.1).bind fun x339 => ((app 9223372036854775807 x339 ([32] : List Int)).bind fun x341 => ((qS F x335.2).bind fun x342 => ((app 9223372036854775807 x341 x342).bind fun x344 => ((app 9223372036854775807 x344 ([10] : List Int)).bind fun x346 => ((app 9223372036854775807 x242 x346).bind fun x348 => yi F rec8 x243 x348)))))))) else jO F x242)
def zJ (F : Nat) (x7 : List (Int × Int)) : Nat → (List Int × Int) → Option (List Int)
  | 0 => fun _ => none
  | k + 1 => fun s => jN F x7 (zJ F x7 k) s.1 s.2
def qaE (F : Nat) (x1 : List (List Int)) : Option (List Int) :=
  ((qS F (x1.length : Int)).bind fun x5 => ((app 9223372036854775807 x5 ([10] : List Int)).bind fun x6 => ((qaA F x1).bind fun x7 => zJ F x7 F (x6, 0))))
def jw (_F : Nat) (x202 : List (List Int)) : Option (List (List Int)) :=
  some x202
def y2 (_F : Nat) (rec38 : (List (List Int) × List Int × Int) → Option (List (List Int))) (x271 : Int) (x369 : List (List Int)) (x370 : List Int) : Option (List (List Int)) :=
  rec38 (x369, x370, iadd .i64 x271 1)
def y4 (F : Nat) (rec38 : (List (List Int) × List Int × Int) → Option (List (List Int))) (x271 : Int) (x391 : List (List Int)) : Option (List (List Int)) :=
  y2 F rec38 x271 x391 ([] : List Int)
def y3 (F : Nat) (rec38 : (List (List Int) × List Int × Int) → Option (List (List Int))) (x1 : List Int) (x269 : List (List Int)) (x270 : List Int) (x271 : Int) (x380 : Bool) : Option (List (List Int)) :=
  (if x380 then ((sub x1 x271 (iadd .i64 x271 1)).bind fun x381 => ((app 9223372036854775807 x270 x381).bind fun x382 => y2 F rec38 x271 x269 x382)) else (if (!(bstr x270 == bstr ([] : List Int))) then ((app 4398046511104 x269 ([x270] : List (List Int))).bind fun x394 => y4 F rec38 x271 x394) else y4 F rec38 x271 x269))
def jv (F : Nat) (x1 : List Int) (rec38 : (List (List Int) × List Int × Int) → Option (List (List Int))) (x269 : List (List Int)) (x270 : List Int) (x271 : Int) : Option (List (List Int)) :=
  (if (decide (x271 ≤ (x1.length : Int))) then (if (decide (x271 < (x1.length : Int))) then ((idx x1 x271).bind fun x399 => y3 F rec38 x1 x269 x270 x271 (((b8 x399) : Int) != 32)) else y3 F rec38 x1 x269 x270 x271 false) else jw F x269)
def zE (F : Nat) (x1 : List Int) : Nat → (List (List Int) × List Int × Int) → Option (List (List Int))
  | 0 => fun _ => none
  | k + 1 => fun s => jv F x1 (zE F x1 k) s.1 s.2.1 s.2.2
def qaF (F : Nat) (x1 : List Int) : Option (List (List Int)) :=
  zE F x1 F (([] : List (List Int)), ([] : List Int), 0)
def ji (_F : Nat) (x98 : Int) : Option Int :=
  some x98
def yT (_F : Nat) (rec23 : (Int × Int) → Option Int) (x1 : List Int) (x129 : Int) (x130 : Int) (x186 : Bool) : Option Int :=
  (if x186 then some (-1) else ((idx x1 x130).bind fun x187 => (lett (iadd .i64 (imul .i64 10 x129) (iconv .i64 (isub .u8 (b8 x187) 48))) fun x188 => rec23 (x188, iadd .i64 x130 1))))
def jh (F : Nat) (x1 : List Int) (rec23 : (Int × Int) → Option Int) (x129 : Int) (x130 : Int) : Option Int :=
  (if (decide (x130 < (x1.length : Int))) then ((idx x1 x130).bind fun x183 => (if (decide ((b8 x183) < 48)) then yT F rec23 x1 x129 x130 true else ((idx x1 x130).bind fun x190 => yT F rec23 x1 x129 x130 (decide (57 < (b8 x190)))))) else ji F x129)
def kj (F : Nat) (x1 : List Int) : Nat → (Int × Int) → Option Int
  | 0 => fun _ => none
  | k + 1 => fun s => jh F x1 (kj F x1 k) s.1 s.2
def ze (F : Nat) (x1 : List Int) : Option Int :=
  (if ((decide ((x1.length : Int) < 1)) || (decide (6 < (x1.length : Int)))) then some (-1) else kj F x1 F (0, 0))
def qaC (_F : Nat) : Option Bool :=
  some false
def qaB (F : Nat) (x1 : List (Int × Int)) (x4 : Int) (x5 : Int) (rec3 : Int → Option Bool) (x89 : Int) : Option Bool :=
  (if (decide (x89 < (x1.length : Int))) then ((idx x1 x89).bind fun x125 => (if (((x125.1 : Int) == x4) && ((x125.2 : Int) == x5)) then some true else rec3 (iadd .i64 x89 1))) else qaC F)
def vu (F : Nat) (x1 : List (Int × Int)) (x4 : Int) (x5 : Int) : Nat → Int → Option Bool
  | 0 => fun _ => none
  | k + 1 => fun s => qaB F x1 x4 x5 (vu F x1 x4 x5 k) s
def jY (F : Nat) (x1 : List (Int × Int)) (x4 : Int) (x5 : Int) : Option Bool :=
  vu F x1 x4 x5 F 0
def qae (_F : Nat) (x1269 : List (List Int)) : Option (List (List Int) × Int) :=
  some (x1269, 0)
def qaf (_F : Nat) (rec62 : (Int × List (List Int)) → Option (List (List Int) × Int)) (x1582 : Int) (x2054 : List (List Int)) : Option (List (List Int) × Int) :=
  rec62 (iadd .i64 x1582 1, x2054)
def vL (_F : Nat) (rec70 : (Int × List (List Int)) → Option (List (List Int) × Int)) (x2105 : Int) (x2184 : List (List Int)) : Option (List (List Int) × Int) :=
  rec70 (iadd .i64 x2105 1, x2184)
def qab (F : Nat) (rec62 : (Int × List (List Int)) → Option (List (List Int) × Int)) (x1 : Int) (x2 : List (Int × Int)) (x1582 : Int) (rec70 : (Int × List (List Int)) → Option (List (List Int) × Int)) (x2105 : Int) (x2107 : List (List Int)) : Option (List (List Int) × Int) :=
  (if (decide (x2105 < x1)) then ((jY F x2 x1582 x2105).bind fun x2185 => (if x2185 then ((idx x2107 x1582).bind fun x2186 => ((idx x2107 x1582).bind fun _x2192 => ((app 8796093022208 x2186 ([x2105] : List Int)).bind fun x2200 => (lett (x2107.set x1582.toNat x2200) fun x2203 => vL F rec70 x2105 x2203)))) else vL F rec70 x2105 x2107)) else qaf F rec62 x1582 x2107)
def kO (F : Nat) (rec62 : (Int × List (List Int)) → Option (List (List Int) × Int)) (x1 : Int) (x2 : List (Int × Int)) (x1582 : Int) : Nat → (Int × List (List Int)) → Option (List (List Int) × Int)
  | 0 => fun _ => none
  | k + 1 => fun s => qab F rec62 x1 x2 x1582 (kO F rec62 x1 x2 x1582 k) s.1 s.2
def qaa (F : Nat) (x1 : Int) (x2 : List (Int × Int)) (rec62 : (Int × List (List Int)) → Option (List (List Int) × Int)) (x1582 : Int) (x1584 : List (List Int)) : Option (List (List Int) × Int) :=
  (if (decide (x1582 < x1)) then kO F rec62 x1 x2 x1582 F (0, x1584) else qae F x1584)
def zr (F : Nat) (x1 : Int) (x2 : List (Int × Int)) : Nat → (Int × List (List Int)) → Option (List (List Int) × Int)
  | 0 => fun _ => none
  | k + 1 => fun s => qaa F x1 x2 (zr F x1 x2 k) s.1 s.2
def qad (F : Nat) (x1 : Int) (x2 : List (Int × Int)) : Option (List (List Int) × Int) :=
  ((mk 4398046511104 (([] : List Int) : List Int) x1).bind fun x324 => zr F x1 x2 F (0, x324))
def vM (F : Nat) (rec80 : Int → Option (List (List Int) × Int)) (x2 : List (Int × Int)) (x2314 : Int) (x2496 : Bool) : Option (List (List Int) × Int) :=
  (if x2496 then some (([] : List (List Int)), 3) else ((sub x2 0 x2314).bind fun x2507 => ((idx x2 x2314).bind fun x2512 => ((jY F x2507 x2512.1 x2512.2).bind fun x2516 => (if x2516 then some (([] : List (List Int)), 6) else rec80 (iadd .i64 x2314 1))))))
def qac (F : Nat) (x1 : Int) (x2 : List (Int × Int)) (rec80 : Int → Option (List (List Int) × Int)) (x2314 : Int) : Option (List (List Int) × Int) :=
  (if (decide (x2314 < (x2.length : Int))) then ((idx x2 x2314).bind fun x2487 => ((vz F x2487.1 0 (isub .i64 x1 1)).bind fun x2490 => (if (!x2490) then vM F rec80 x2 x2314 true else ((idx x2 x2314).bind fun x2519 => ((vz F x2519.2 0 (isub .i64 x1 1)).bind fun x2522 => vM F rec80 x2 x2314 (!x2522)))))) else qad F x1 x2)
def kP (F : Nat) (x1 : Int) (x2 : List (Int × Int)) : Nat → Int → Option (List (List Int) × Int)
  | 0 => fun _ => none
  | k + 1 => fun s => qac F x1 x2 (kP F x1 x2 k) s
def qbp (F : Nat) (x1 : Int) (x2 : List (Int × Int)) : Option (List (List Int) × Int) :=
  ((vz F x1 0 100).bind fun x8 => (if (!x8) then some (([] : List (List Int)), 3) else (if (decide (600 < (x2.length : Int))) then some (([] : List (List Int)), 2) else kP F x1 x2 F 0)))
def ju (F : Nat) (x1370 : Int) (x1373 : List (Int × Int)) : Option (List (List Int) × Int × Int) :=
  (if (decide (x1370 < 0)) then some (([] : List (List Int)), 0, 5) else ((qbp F x1370 x1373).bind fun x1375 => some (x1375.1, 0, 0)))
def yN (_F : Nat) (rec124 : (Int × List (Int × Int) × Int) → Option (List (List Int) × Int × Int)) (x1810 : Int) (x2443 : Int) (x2446 : List (Int × Int)) : Option (List (List Int) × Int × Int) :=
  rec124 (x2443, x2446, iadd .i64 x1810 1)
def q8 (F : Nat) (rec124 : (Int × List (Int × Int) × Int) → Option (List (List Int) × Int × Int)) (x1810 : Int) (x2557 : Int) (x2560 : List (Int × Int)) (x2561 : Int) : Option (List (List Int) × Int × Int) :=
  (if ((x2561 : Int) != 0) then some (([] : List (List Int)), iadd .i64 x1810 1, x2561) else yN F rec124 x1810 x2557 x2560)
def yP (F : Nat) (rec124 : (Int × List (Int × Int) × Int) → Option (List (List Int) × Int × Int)) (x1806 : Int) (x1809 : List (Int × Int)) (x1810 : Int) (x2450 : List (List Int)) (x2568 : Bool) : Option (List (List Int) × Int × Int) :=
  (if x2568 then q8 F rec124 x1810 x1806 x1809 1 else ((idx x2450 0).bind fun x2569 => ((ze F x2569).bind fun x2572 => (if (decide (100 < x2572)) then q8 F rec124 x1810 x1806 x1809 3 else ((idx x2450 0).bind fun x2573 => ((ze F x2573).bind fun x2576 => q8 F rec124 x1810 x2576 x1809 0))))))
def kI (F : Nat) (rec124 : (Int × List (Int × Int) × Int) → Option (List (List Int) × Int × Int)) (x1806 : Int) (x1809 : List (Int × Int)) (x1810 : Int) (x2612 : Int) (x2613 : Int) : Option (List (List Int) × Int × Int) :=
  (if ((decide (x1806 ≤ x2612)) || (decide (x1806 ≤ x2613))) then q8 F rec124 x1810 x1806 x1809 3 else ((jY F x1809 x2612 x2613).bind fun x2615 => (if x2615 then q8 F rec124 x1810 x1806 x1809 6 else (if (((x1809.length : Int) : Int) == 600) then q8 F rec124 x1810 x1806 x1809 2 else ((app 4398046511104 x1809 ([(x2612, x2613)] : List (Int × Int))).bind fun x2618 => q8 F rec124 x1810 x1806 x2618 0)))))
def yR (F : Nat) (rec124 : (Int × List (Int × Int) × Int) → Option (List (List Int) × Int × Int)) (x1806 : Int) (x1809 : List (Int × Int)) (x1810 : Int) (x2450 : List (List Int)) (x2594 : Bool) : Option (List (List Int) × Int × Int) :=
  (if x2594 then q8 F rec124 x1810 x1806 x1809 1 else ((idx x2450 0).bind fun x2624 => ((idx x2450 1).bind fun x2628 => ((ze F x2624).bind fun x2632 => ((ze F x2628).bind fun x2633 => kI F rec124 x1806 x1809 x1810 x2632 x2633)))))
def yQ (F : Nat) (rec124 : (Int × List (Int × Int) × Int) → Option (List (List Int) × Int × Int)) (x1806 : Int) (x1809 : List (Int × Int)) (x1810 : Int) (x2450 : List (List Int)) (x2588 : Bool) : Option (List (List Int) × Int × Int) :=
  (if x2588 then yR F rec124 x1806 x1809 x1810 x2450 true else ((idx x2450 1).bind fun x2641 => ((ze F x2641).bind fun x2644 => yR F rec124 x1806 x1809 x1810 x2450 (decide (x2644 < 0)))))
def yO (F : Nat) (rec124 : (Int × List (Int × Int) × Int) → Option (List (List Int) × Int × Int)) (x1806 : Int) (x1809 : List (Int × Int)) (x1810 : Int) (x2450 : List (List Int)) (x2469 : Bool) : Option (List (List Int) × Int × Int) :=
  (if x2469 then yN F rec124 x1810 x1806 x1809 else (if (decide (x1806 < 0)) then (if (((x2450.length : Int) : Int) != 1) then yP F rec124 x1806 x1809 x1810 x2450 true else ((idx x2450 0).bind fun x2579 => ((ze F x2579).bind fun x2582 => yP F rec124 x1806 x1809 x1810 x2450 (decide (x2582 < 0))))) else (if (((x2450.length : Int) : Int) != 2) then yQ F rec124 x1806 x1809 x1810 x2450 true else ((idx x2450 0).bind fun x2645 => ((ze F x2645).bind fun x2648 => yQ F rec124 x1806 x1809 x1810 x2450 (decide (x2648 < 0)))))))
def jf (F : Nat) (x89 : List (List Int)) (rec124 : (Int × List (Int × Int) × Int) → Option (List (List Int) × Int × Int)) (x1806 : Int) (x1809 : List (Int × Int)) (x1810 : Int) : Option (List (List Int) × Int × Int) :=
  (if (decide (x1810 < (x89.length : Int))) then ((idx x89 x1810).bind fun x2447 => ((qaF F x2447).bind fun x2450 => (if (((x2450.length : Int) : Int) == 0) then yO F rec124 x1806 x1809 x1810 x2450 true else ((idx x2450 0).bind fun x2651 => ((idx x2651 0).bind fun x2654 => yO F rec124 x1806 x1809 x1810 x2450 (((b8 x2654) : Int) == 35)))))) else ju F x1806 x1809)
def qC (F : Nat) (x89 : List (List Int)) : Nat → (Int × List (Int × Int) × Int) → Option (List (List Int) × Int × Int)
  | 0 => fun _ => none
  | k + 1 => fun s => jf F x89 (qC F x89 k) s.1 s.2.1 s.2.2
def vn (F : Nat) (x1 : List Int) (x89 : List (List Int)) : Option (List (List Int) × Int × Int) :=
  (if ((decide (20000 < (x1.length : Int))) || (decide (1000 < (x89.length : Int)))) then some (([] : List (List Int)), 0, 2) else qC F x89 F (-1, ([] : List (Int × Int)), 0))
def jM (F : Nat) (x1 : List Int) (x78 : List (List Int)) (x79 : Int) : Option (List (List Int) × Int × Int) :=
  (if (decide (x79 < (x1.length : Int))) then ((sub x1 x79 (x1.length : Int)).bind fun x2657 => ((app 4398046511104 x78 ([x2657] : List (List Int))).bind fun x2660 => vn F x1 x2660)) else vn F x1 x78)
def yS (_F : Nat) (rec150 : (List (List Int) × Int × Int) → Option (List (List Int) × Int × Int)) (x2690 : Int) (x2725 : List (List Int)) (x2726 : Int) : Option (List (List Int) × Int × Int) :=
  rec150 (x2725, x2726, iadd .i64 x2690 1)
def jg (F : Nat) (x1 : List Int) (rec150 : (List (List Int) × Int × Int) → Option (List (List Int) × Int × Int)) (x2688 : List (List Int)) (x2689 : Int) (x2690 : Int) : Option (List (List Int) × Int × Int) :=
  (if (decide (x2690 < (x1.length : Int))) then ((idx x1 x2690).bind fun x2727 => (if (((b8 x2727) : Int) == 10) then ((sub x1 x2689 x2690).bind fun x2728 => ((app 4398046511104 x2688 ([x2728] : List (List Int))).bind fun x2731 => yS F rec150 x2690 x2731 (iadd .i64 x2690 1))) else yS F rec150 x2690 x2688 x2689)) else jM F x1 x2688 x2689)
def kg (F : Nat) (x1 : List Int) : Nat → (List (List Int) × Int × Int) → Option (List (List Int) × Int × Int)
  | 0 => fun _ => none
  | k + 1 => fun s => jg F x1 (kg F x1 k) s.1 s.2.1 s.2.2
def qaD (F : Nat) (x1 : List Int) : Option (List (List Int) × Int × Int) :=
  kg F x1 F (([] : List (List Int)), 0, 0)
def qah (_F : Nat) : Option Bool :=
  some true
def yE (F : Nat) (x1 : List Int) (x4 : List Int) (rec3 : Int → Option Bool) (x154 : Int) : Option Bool :=
  (if (decide (x154 < (x1.length : Int))) then ((idx x1 x154).bind fun x218 => ((idx x4 x154).bind fun x222 => (if ((x218 : Int) != x222) then some false else rec3 (iadd .i64 x154 1)))) else qah F)
def kr (F : Nat) (x1 : List Int) (x4 : List Int) : Nat → Int → Option Bool
  | 0 => fun _ => none
  | k + 1 => fun s => yE F x1 x4 (kr F x1 x4 k) s
def yg (F : Nat) (x1 : List Int) (x4 : List Int) : Option Bool :=
  (if (((x1.length : Int) : Int) != (x4.length : Int)) then some false else kr F x1 x4 F 0)
def jL (_F : Nat) : Option Bool :=
  some true
def yh (F : Nat) (x1 : List (List Int)) (x4 : List (List Int)) (rec3 : Int → Option Bool) (x202 : Int) : Option Bool :=
  (if (decide (x202 < (x1.length : Int))) then ((idx x1 x202).bind fun x287 => ((idx x4 x202).bind fun x292 => ((yg F x287 x292).bind fun x297 => (if (!x297) then some false else rec3 (iadd .i64 x202 1))))) else jL F)
def kb (F : Nat) (x1 : List (List Int)) (x4 : List (List Int)) : Nat → Int → Option Bool
  | 0 => fun _ => none
  | k + 1 => fun s => yh F x1 x4 (kb F x1 x4 k) s
def zM (F : Nat) (x1 : List (List Int)) (x4 : List (List Int)) : Option Bool :=
  (if (((x1.length : Int) : Int) != (x4.length : Int)) then some false else kb F x1 x4 F 0)
def vm (_F : Nat) (x38 : Bool) : Option Bool :=
  some x38
def vl (F : Nat) (x17 : (List (List Int) × Int × Int)) (x36 : Bool) : Option Bool :=
  (if x36 then vm F (((x17.2.1 : Int) == 0) && ((x17.2.2 : Int) == 5)) else vm F false)
def vk (F : Nat) (x12 : (List (List Int) × Int × Int)) (x17 : (List (List Int) × Int × Int)) (x34 : Bool) : Option Bool :=
  (if x34 then vl F x17 (((x12.2.1 : Int) == 2) && ((x12.2.2 : Int) == 3)) else vl F x17 false)
def yf (F : Nat) (x6 : (List Int × Int)) (x7 : (List (List Int) × Int × Int)) (x12 : (List (List Int) × Int × Int)) (x17 : (List (List Int) × Int × Int)) (x30 : Bool) : Option Bool :=
  (if ((x30 && (bstr x6.1 == bstr ([50, 10, 48, 32, 49, 10, 49, 32, 48, 10] : List Int))) && ((x6.2 : Int) == 0)) then vk F x12 x17 (((x7.2.1 : Int) == 3) && ((x7.2.2 : Int) == 6)) else vk F x12 x17 false)
def z6 (F : Nat)  : Option Bool :=
  ((qP F ([35, 32, 116, 119, 111, 10, 32, 50, 32, 10, 10, 49, 32, 48, 10, 48, 32, 32, 49] : List Int)).bind fun x1 => ((kJ F x1.1).bind fun x6 => ((qP F ([50, 10, 48, 32, 48, 10, 48, 32, 48, 48, 10] : List Int)).bind fun x7 => ((qP F ([50, 10, 48, 32, 50] : List Int)).bind fun x12 => ((qP F ([35] : List Int)).bind fun x17 => ((zM F x1.1 ([([1] : List Int), ([0] : List Int)] : List (List Int))).bind fun x28 => (if x28 then yf F x6 x7 x12 x17 (((x1.2.1 : Int) == 0) && ((x1.2.2 : Int) == 0)) else yf F x6 x7 x12 x17 false)))))))
def zC (F : Nat) (x1 : List (List Int)) (x4 : List (List Int)) : Option Bool :=
  ((zM F x1 x4).bind fun x9 => some x9)
def vi (_F : Nat) (x7 : (List (List Int) × Int × Int)) (x16 : (List (List Int) × Int × Int)) (x26 : Bool) : Option Bool :=
  some (x26 && (((x7.2.1 : Int) == x16.2.1) && ((x7.2.2 : Int) == x16.2.2)))
def vh (F : Nat) (x4 : List Int) (x6 : (List Int × Int)) (x7 : (List (List Int) × Int × Int)) (x12 : Int) (x15 : List Int) : Option Bool :=
  ((qaD F x4).bind fun x16 => ((z6 F).bind fun x21 => (if ((x21 && (bstr x6.1 == bstr x15)) && ((x6.2 : Int) == x12)) then ((zC F x7.1 x16.1).bind fun x28 => vi F x7 x16 x28) else vi F x7 x16 false)))
def qcD (F : Nat) (x1 : List (List Int)) (x4 : List Int) : Option Bool :=
  ((kJ F x1).bind fun x6 => ((qP F x4).bind fun x7 => ((qak F x1).bind fun x12 => (if ((x12 : Int) == 0) then ((qaE F x1).bind fun x29 => vh F x4 x6 x7 x12 x29) else vh F x4 x6 x7 x12 ([] : List Int)))))
def vE (_F : Nat) (x39 : Bool) : Option Bool :=
  some x39
def vD (F : Nat) (x7 : (List (List Int) × Int × Int)) (x30 : (List (List Int) × Int × Int)) (x36 : Bool) : Option Bool :=
  (if x36 then ((zC F x30.1 x7.1).bind fun x40 => vE F x40) else vE F false)
def vC (F : Nat) (x7 : (List (List Int) × Int × Int)) : Option Bool :=
  (if (!(((x7.2.1 : Int) == 0) && ((x7.2.2 : Int) == 0))) then ((zC F x7.1 ([] : List (List Int))).bind fun x28 => some x28) else ((kJ F x7.1).bind fun x29 => ((qP F x29.1).bind fun x30 => (if ((x29.2 : Int) == 0) then vD F x7 x30 (((x30.2.1 : Int) == 0) && ((x30.2.2 : Int) == 0)) else vD F x7 x30 false))))
def vF (F : Nat) (x7 : (List (List Int) × Int × Int)) (x49 : Bool) : Option Bool :=
  (if x49 then some false else vC F x7)
def qdh (F : Nat) (x1 : List (List Int)) (x4 : List Int) : Option Bool :=
  ((kJ F x1).bind fun x6 => ((qP F x4).bind fun x7 => ((z6 F).bind fun x14 => (if (!x14) then some false else (if ((x6.2 : Int) == 0) then ((qP F x6.1).bind fun x42 => (if (!(((x42.2.1 : Int) == 0) && ((x42.2.2 : Int) == 0))) then vF F x7 true else ((zC F x42.1 x1).bind fun x51 => vF F x7 (!x51)))) else vC F x7)))))
def vJ (_F : Nat) (x76 : Bool) : Option Bool :=
  some x76
def vg (F : Nat) (x79 : Bool) : Option Bool :=
  vJ F x79
def vI (F : Nat) (x1 : List Int) (x3 : (List (List Int) × Int × Int)) (x63 : Bool) : Option Bool :=
  (if x63 then some false else ((app 9223372036854775807 x1 ([32, 32] : List Int)).bind fun x64 => ((qP F x64).bind fun x65 => (if (((x65.2.2 : Int) == 2) && ((x65.2.1 : Int) == 0)) then vJ F true else (if (((x65.2.1 : Int) == x3.2.1) && ((x65.2.2 : Int) == x3.2.2)) then ((zC F x65.1 x3.1).bind fun x80 => vg F x80) else vg F false)))))
def vH (F : Nat) (x1 : List Int) (x3 : (List (List Int) × Int × Int)) (x34 : (List (List Int) × Int × Int)) (x55 : Int) : Option Bool :=
  (if (!(((x34.2.1 : Int) == x55) && ((x34.2.2 : Int) == x3.2.2))) then vI F x1 x3 true else ((zC F x3.1 x34.1).bind fun x82 => vI F x1 x3 (!x82)))
def vG (F : Nat) (x1 : List Int) (x3 : (List (List Int) × Int × Int)) (x34 : (List (List Int) × Int × Int)) (x50 : Bool) : Option Bool :=
  (if x50 then some ((((x3.2.2 : Int) != 2) || ((x3.2.1 : Int) != 0)) || ((x34.2.2 : Int) == 2)) else (if (decide (0 < x3.2.1)) then vH F x1 x3 x34 (iadd .i64 x3.2.1 1) else vH F x1 x3 x34 x3.2.1))
def j9 (F : Nat) (x1 : List Int) (x2 : List Int) (x3 : (List (List Int) × Int × Int)) : Option Bool :=
  ((app 9223372036854775807 ([35, 32] : List Int) x2).bind fun x31 => ((app 9223372036854775807 x31 ([10] : List Int)).bind fun x32 => ((app 9223372036854775807 x32 x1).bind fun x33 => ((qP F x33).bind fun x34 => (if (((x3.2.2 : Int) == 2) && ((x3.2.1 : Int) == 0)) then vG F x1 x3 x34 true else vG F x1 x3 x34 (((x34.2.2 : Int) == 2) && ((x34.2.1 : Int) == 0)))))))
def jK (F : Nat) (x1 : List Int) (x2 : List Int) (x3 : (List (List Int) × Int × Int)) (rec11 : Int → Option Bool) (x92 : Int) : Option Bool :=
  (if (decide (x92 < (x2.length : Int))) then ((idx x2 x92).bind fun x103 => (if (((b8 x103) : Int) == 10) then some true else rec11 (iadd .i64 x92 1))) else j9 F x1 x2 x3)
def yd (F : Nat) (x1 : List Int) (x2 : List Int) (x3 : (List (List Int) × Int × Int)) : Nat → Int → Option Bool
  | 0 => fun _ => none
  | k + 1 => fun s => jK F x1 x2 x3 (yd F x1 x2 x3 k) s
def qdi (F : Nat) (x1 : List Int) (x2 : List Int) : Option Bool :=
  ((qP F x1).bind fun x3 => ((z6 F).bind fun x10 => (if (!x10) then some false else yd F x1 x2 x3 F 0)))
def vf (_F : Nat) (x56 : Bool) : Option Bool :=
  some x56
def jJ (F : Nat) (x1 : List Int) (x2 : (List (List Int) × Int × Int)) (x45 : Int) (x46 : Int) : Option Bool :=
  (if ((x46 : Int) != x2.2.1) then some false else ((sub x1 0 x45).bind fun x48 => ((qP F x48).bind fun x49 => (if ((x49.2.1 : Int) == 0) then vf F (((x49.2.2 : Int) == 0) || ((x49.2.2 : Int) == 5)) else vf F false))))
def yZ (_F : Nat) (rec9 : (Int × Int × Int) → Option Bool) (x71 : Int) (x88 : Int) (x89 : Int) : Option Bool :=
  rec9 (x88, x89, iadd .i64 x71 1)
def jI (F : Nat) (x1 : List Int) (x2 : (List (List Int) × Int × Int)) (rec9 : (Int × Int × Int) → Option Bool) (x69 : Int) (x70 : Int) (x71 : Int) : Option Bool :=
  (if ((decide (x71 < (x1.length : Int))) && (decide (x70 < x2.2.1))) then ((idx x1 x71).bind fun x90 => (if (((b8 x90) : Int) == 10) then yZ F rec9 x71 (iadd .i64 x71 1) (iadd .i64 x70 1) else yZ F rec9 x71 x69 x70)) else jJ F x1 x2 x69 x70)
def kE (F : Nat) (x1 : List Int) (x2 : (List (List Int) × Int × Int)) : Nat → (Int × Int × Int) → Option Bool
  | 0 => fun _ => none
  | k + 1 => fun s => jI F x1 x2 (kE F x1 x2 k) s.1 s.2.1 s.2.2
def qcC (F : Nat) (x1 : List Int) : Option Bool :=
  ((qP F x1).bind fun x2 => ((z6 F).bind fun x9 => (if (!x9) then some false else (if (decide (x2.2.1 ≤ 0)) then some ((x2.2.1 : Int) == 0) else kE F x1 x2 F (0, 1, 0)))))
def zf (_F : Nat) (x46 : List (Int × Int)) (x55 : Int) (x56 : Int) : Option (List (Int × Int) ⊕ Empty) :=
  ((app 4398046511104 x46 ([(x55, x56)] : List (Int × Int))).bind fun x60 => some (.inl x60))
def qQ (F : Nat) (x1 : List (Int × Int)) (x5 : List (List Int)) : Option (List (Int × Int)) :=
  ((z8 F (fun (x46 : List (Int × Int)) ((x55, x56) : (Int × Int)) => zf F x46 x55 x56) x5 x1).bind (Sum.elim (fun (x46 : List (Int × Int)) => some x46) (fun t => t.elim)))
def qG (F : Nat) (x2 : List (List Int)) : Option (List (Int × Int)) :=
  ((qQ F ([] : List (Int × Int)) x2).bind fun x5 => some x5)
def y5 (F : Nat) (x1 : List (List Int)) : Option (List (Int × Int) × Int) :=
  ((zN F x1).bind fun x7 => (if ((x7 : Int) != 0) then some (([] : List (Int × Int)), x7) else ((z7 F x1).bind fun _x8 => ((qG F x1).bind fun x10 => some (x10, 0)))))
def jx (_F : Nat) (x47 : List (Int × Int)) (x56 : Int) (x57 : Int) : Option (List (Int × Int) ⊕ Empty) :=
  ((app 4398046511104 x47 ([(x57, x56)] : List (Int × Int))).bind fun x61 => some (.inl x61))
def k8 (F : Nat) (x1 : List (List Int)) : Option (List (Int × Int)) :=
  ((z7 F x1).bind fun _x35 => ((z8 F (fun (x47 : List (Int × Int)) ((x56, x57) : (Int × Int)) => jx F x47 x56 x57) x1 ([] : List (Int × Int))).bind (Sum.elim (fun (x47 : List (Int × Int)) => some x47) (fun t => t.elim))))
def vU (F : Nat) (x1 : List (List Int)) : Option (List (List Int) × Int) :=
  ((zN F x1).bind fun x8 => (if ((x8 : Int) != 0) then some (([] : List (List Int)), x8) else ((k8 F x1).bind fun x20 => ((qH F x20).bind fun _x23 => ((qd F x20).bind fun x25 => ((kB F (x1.length : Int) x25).bind fun x28 => some (x28, 0)))))))
def zl (_F : Nat) (x1 : List (Int × Int)) : Option (List (Int × Int)) :=
  some x1
def zg (_F : Nat) (rec98 : Int → Option (List (Int × Int))) (x1975 : Int) : Option (List (Int × Int)) :=
  rec98 (iadd .i64 x1975 1)
def zh (_F : Nat) (x2842 : List (Int × Int)) (x2843 : Int) : Option (List (Int × Int)) :=
  (chk (decide (0 ≤ x2843 ∧ x2843 < (x2842.length : Int))) ((lett (x2842.take x2843.toNat ++ List.replicate (x2842.length - x2843.toNat) ((0 : Int), (0 : Int))) fun x2847 => ((sub x2847 0 x2843).bind fun x2850 => some x2850))))
def qD (_F : Nat) (rec116 : (List (Int × Int) × Int × Int) → Option (List (Int × Int))) (x2881 : Int) (x2939 : List (Int × Int)) (x2940 : Int) : Option (List (Int × Int)) :=
  rec116 (x2939, x2940, iadd .i64 x2881 1)
def qR (F : Nat) (x1 : List (Int × Int)) (x1975 : Int) (rec116 : (List (Int × Int) × Int × Int) → Option (List (Int × Int))) (x2879 : List (Int × Int)) (x2880 : Int) (x2881 : Int) : Option (List (Int × Int)) :=
  (if (decide (x2881 < ((x1.length - x1975.toNat : Nat) : Int))) then (chk (decide (x2879.length = x1.length)) (((idx (x2879.drop x1975.toNat) x2881).bind fun x2946 => (chk (decide (x2879.length = x1.length)) (((idx (x2879.drop x1975.toNat) (isub .i64 x2881 1)).bind fun x2948 => (if (!(((x2946.1 : Int) == x2948.1) && ((x2946.2 : Int) == x2948.2))) then (chk (decide (x2879.length = x1.length)) (((idx (x2879.drop x1975.toNat) x2881).bind fun x2950 => ((idx x2879 x2880).bind fun _x2951 => (lett (x2879.set x2880.toNat (x2950.1, x2950.2)) fun x2954 => qD F rec116 x2881 x2954 (iadd .i64 x2880 1)))))) else qD F rec116 x2881 x2879 x2880))))))) else zh F x2879 x2880)
def qm (F : Nat) (x1 : List (Int × Int)) (x1975 : Int) : Nat → (List (Int × Int) × Int × Int) → Option (List (Int × Int))
  | 0 => fun _ => none
  | k + 1 => fun s => qR F x1 x1975 (qm F x1 x1975 k) s.1 s.2.1 s.2.2
def qU (F : Nat) (x1 : List (Int × Int)) (rec98 : Int → Option (List (Int × Int))) (x1975 : Int) : Option (List (Int × Int)) :=
  (if (decide (x1975 < (x1.length : Int))) then ((idx x1 x1975).bind fun x2723 => ((idx x1 (isub .i64 x1975 1)).bind fun x2727 => (if (((x2723.1 : Int) == x2727.1) && ((x2723.2 : Int) == x2727.2)) then (chk (decide (0 ≤ x1975 ∧ x1975 < (x1.length : Int))) (qm F x1 x1975 F (x1, x1975, 1))) else zg F rec98 x1975))) else zl F x1)
def qp (F : Nat) (x1 : List (Int × Int)) : Nat → Int → Option (List (Int × Int))
  | 0 => fun _ => none
  | k + 1 => fun s => qU F x1 (qp F x1 k) s
def zb (F : Nat) (x1 : List (Int × Int)) : Option (List (Int × Int)) :=
  (if (decide ((x1.length : Int) < 2)) then some x1 else qp F x1 F 1)
def vT (F : Nat) (x1 : List (List Int)) : Option (List (List Int) × Int) :=
  ((zN F x1).bind fun x8 => (if ((x8 : Int) != 0) then some (([] : List (List Int)), x8) else ((z7 F x1).bind fun _x20 => ((qG F x1).bind fun x22 => ((k8 F x1).bind fun x25 => ((app 4398046511104 x22 x25).bind fun x28 => ((qt F x28).bind fun x31 => (chk (decide (x31.length = x28.length)) (((zb F x31).bind fun x33 => (if (decide (600 < (x33.length : Int))) then some (([] : List (List Int)), 2) else ((kB F (x1.length : Int) x33).bind fun x37 => some (x37, 0)))))))))))))
def kk (_F : Nat) (x121 : List Int) (x122 : List Int) (x144 : Int) (x145 : Int) : Option ((List Int × List Int) ⊕ Empty) :=
  ((idx x122 x144).bind fun x147 => ((idx x122 x144).bind fun _x150 => (lett (x122.set x144.toNat (iadd .i64 x147 1)) fun x153 => ((idx x121 x145).bind fun x156 => ((idx x121 x145).bind fun _x159 => (lett (x121.set x145.toNat (iadd .i64 x156 1)) fun x162 => some (.inl (x162, x153))))))))
def zK (F : Nat) (x1 : List (List Int)) (x27 : List Int) (x30 : List Int) : Option (List Int × List Int × Int) :=
  ((z7 F x1).bind fun _x98 => ((z8 F (fun ((x121, x122) : (List Int × List Int)) ((x144, x145) : (Int × Int)) => kk F x121 x122 x144 x145) x1 (x27, x30)).bind (Sum.elim (fun ((x121, x122) : (List Int × List Int)) => some (x122, x121, 0)) (fun t => t.elim))))
def yG (F : Nat) (x1 : List (List Int)) : Option (List Int × List Int × Int) :=
  ((zN F x1).bind fun x9 => (if ((x9 : Int) != 0) then some (([] : List Int), ([] : List Int), x9) else ((mk 17592186044416 (0 : Int) (x1.length : Int)).bind fun x165 => ((mk 17592186044416 (0 : Int) (x1.length : Int)).bind fun x168 => zK F x1 x168 x165))))
def qag (_F : Nat) : Option Bool :=
  some true
def yD (F : Nat) (x1 : List (Int × Int)) (x4 : List (Int × Int)) (rec3 : Int → Option Bool) (x154 : Int) : Option Bool :=
  (if (decide (x154 < (x1.length : Int))) then ((idx x1 x154).bind fun x218 => ((idx x4 x154).bind fun x222 => (if (!(((x218.1 : Int) == x222.1) && ((x218.2 : Int) == x222.2))) then some false else rec3 (iadd .i64 x154 1)))) else qag F)
def kq (F : Nat) (x1 : List (Int × Int)) (x4 : List (Int × Int)) : Nat → Int → Option Bool
  | 0 => fun _ => none
  | k + 1 => fun s => yD F x1 x4 (kq F x1 x4 k) s
def vR (F : Nat) (x1 : List (Int × Int)) (x4 : List (Int × Int)) : Option Bool :=
  (if (((x1.length : Int) : Int) != (x4.length : Int)) then some false else kq F x1 x4 F 0)
def y1 (_F : Nat) (x83 : Bool) : Option Bool :=
  some x83
def kZ (F : Nat) (x18 : (List Int × List Int × Int)) (x25 : (List (List Int) × Int)) (x74 : Bool) : Option Bool :=
  (if ((x74 && ((x18.2.2 : Int) == 0)) && ((x25.2 : Int) == 6)) then ((zN F ([([1] : List Int)] : List (List Int))).bind fun x88 => y1 F ((x88 : Int) == 3)) else y1 F false)
def kY (F : Nat) (x18 : (List Int × List Int × Int)) (x25 : (List (List Int) × Int)) (x69 : Bool) : Option Bool :=
  (if x69 then ((yg F x18.2.1 ([2, 1, 0] : List Int)).bind fun x91 => kZ F x18 x25 x91) else kZ F x18 x25 false)
def kX (F : Nat) (x14 : (List (List Int) × Int)) (x18 : (List Int × List Int × Int)) (x25 : (List (List Int) × Int)) (x63 : Bool) : Option Bool :=
  (if (x63 && ((x14.2 : Int) == 0)) then ((yg F x18.1 ([2, 0, 1] : List Int)).bind fun x94 => kY F x18 x25 x94) else kY F x18 x25 false)
def kW (F : Nat) (x10 : (List (List Int) × Int)) (x14 : (List (List Int) × Int)) (x18 : (List Int × List Int × Int)) (x25 : (List (List Int) × Int)) (x51 : Bool) : Option Bool :=
  (if (x51 && ((x10.2 : Int) == 0)) then ((zM F x14.1 ([([0, 1, 2] : List Int), ([0] : List Int), ([0] : List Int)] : List (List Int))).bind fun x103 => kX F x14 x18 x25 x103) else kX F x14 x18 x25 false)
def kV (F : Nat) (x7 : (List (Int × Int) × Int)) (x10 : (List (List Int) × Int)) (x14 : (List (List Int) × Int)) (x18 : (List Int × List Int × Int)) (x25 : (List (List Int) × Int)) (x41 : Bool) : Option Bool :=
  (if (x41 && ((x7.2 : Int) == 0)) then ((zM F x10.1 ([([0, 2] : List Int), ([0] : List Int), ([] : List Int)] : List (List Int))).bind fun x110 => kW F x10 x14 x18 x25 x110) else kW F x10 x14 x18 x25 false)
def y0 (F : Nat)  : Option Bool :=
  ((yU F 3 ([(2, 0), (0, 1), (0, 0)] : List (Int × Int))).bind fun x3 => ((y5 F x3.1).bind fun x7 => ((vU F x3.1).bind fun x10 => ((vT F x3.1).bind fun x14 => ((yG F x3.1).bind fun x18 => ((yU F 1 ([(0, 0), (0, 0)] : List (Int × Int))).bind fun x25 => ((zM F x3.1 ([([0, 1] : List Int), ([] : List Int), ([0] : List Int)] : List (List Int))).bind fun x35 => (if (x35 && ((x3.2 : Int) == 0)) then ((vR F x7.1 ([(0, 0), (0, 1), (2, 0)] : List (Int × Int))).bind fun x113 => kV F x7 x10 x14 x18 x25 x113) else kV F x7 x10 x14 x18 x25 false))))))))
def vK (_F : Nat) (x269 : Bool) : Option Bool :=
  some x269
def vj (F : Nat) (x272 : Bool) : Option Bool :=
  vK F x272
def yC (F : Nat) (x1 : List (List Int)) (x257 : List Int) : Option Bool :=
  ((qP F x257).bind fun x258 => (if ((((x258.2.1 : Int) == 0) && ((x258.2.2 : Int) == 2)) && (decide (16000 < (x257.length : Int)))) then vK F true else (if (((x258.2.1 : Int) == 0) && ((x258.2.2 : Int) == 0)) then ((zC F x258.1 x1).bind fun x273 => vj F x273) else vj F false)))
def zI (_F : Nat) (rec13 : (List Int × Int) → Option Bool) (x352 : Int) (x469 : List Int) : Option Bool :=
  rec13 (x469, iadd .i64 x352 1)
def ye (F : Nat) (x1 : List (List Int)) (x4 : Int) (x6 : (List (Int × Int) × Int)) (rec13 : (List Int × Int) → Option Bool) (x351 : List Int) (x352 : Int) : Option Bool :=
  (if (decide (x352 < (x6.1.length : Int))) then (chk (((x6.1.length : Int) : Int) != 0) (((idx x6.1 (irem (iadd .i64 x352 (irem (iadd .i64 (irem x4 1000) 1000) 1000)) (x6.1.length : Int))).bind fun x471 => ((qS F x471.1).bind fun x475 => ((app 9223372036854775807 ([32, 48, 48] : List Int) x475).bind fun x477 => ((app 9223372036854775807 x477 ([32, 32, 32, 48] : List Int)).bind fun x479 => ((qS F x471.2).bind fun x480 => ((app 9223372036854775807 x479 x480).bind fun x482 => ((app 9223372036854775807 x482 ([32, 10] : List Int)).bind fun x484 => ((app 9223372036854775807 x351 x484).bind fun x486 => zI F rec13 x352 x486)))))))))) else yC F x1 x351)
def qX (F : Nat) (x1 : List (List Int)) (x4 : Int) (x6 : (List (Int × Int) × Int)) : Nat → (List Int × Int) → Option Bool
  | 0 => fun _ => none
  | k + 1 => fun s => ye F x1 x4 x6 (qX F x1 x4 x6 k) s.1 s.2
def yB (F : Nat) (x1 : List (List Int)) (x4 : Int) (x6 : (List (Int × Int) × Int)) (x18 : Bool) : Option Bool :=
  (if x18 then some false else (if ((x6.2 : Int) != 0) then some true else ((qS F (x1.length : Int)).bind fun x20 => ((app 9223372036854775807 ([48] : List Int) x20).bind fun x21 => ((app 9223372036854775807 x21 ([10] : List Int)).bind fun x22 => qX F x1 x4 x6 F (x22, 0))))))
def jX (F : Nat) (x1 : List (List Int)) (x4 : Int) : Option Bool :=
  ((y5 F x1).bind fun x6 => ((z6 F).bind fun x15 => (if (!x15) then yB F x1 x4 x6 true else ((y0 F).bind fun x510 => yB F x1 x4 x6 (!x510)))))
end Go.Proofs.YtfjkpdlcdceenaaGreatDoor
