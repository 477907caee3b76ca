/- What each Go function of this seat computes, in plain terms. -/
import Derived.Test.YtmoikolponkmpaaGreatSy
namespace Go.Proofs.YtmoikolponkmpaaGreat
open Go SX
def zt (_F : Nat) (x1 : List Int) : Option (List Int × List Int) :=
  (chk (decide (0 ≤ (iadd .i64 (x1.length : Int) 1) ∧ (iadd .i64 (x1.length : Int) 1) ≤ (35184372088832 : Int))) (((app 17592186044416 ([] : List Int) x1).bind fun x6 => ((app 17592186044416 x6 ([77] : List Int)).bind fun x11 => ((cutP x11 (x1.length : Int)).bind fun x14 => some (x14.1, x14.2))))))
def vy (_F : Nat) (x1 : Int) (x40 : (List Int × List Int)) : Option (Int × (List Int × List Int)) :=
  some (x1, (x40.1, x40.2))
def q6 (F : Nat) (x1 : Int) (x2 : List Int) : Option (Int × (List Int × List Int)) :=
  (chk (decide (0 ≤ (iadd .i64 (x2.length : Int) 1) ∧ (iadd .i64 (x2.length : Int) 1) ≤ (140737488355328 : Int))) (((app 140737488355328 ([] : List Int) x2).bind fun x43 => ((app 140737488355328 x43 ([77] : List Int)).bind fun x48 => ((cutP x48 (x2.length : Int)).bind fun x51 => vy F x1 x51)))))
def qa7 (_F : Nat) (rec7 : (List (List Int) × Int) → Option (List (List Int))) (x150 : Int) (x368 : List (List Int)) : Option (List (List Int)) :=
  rec7 (x368, iadd .i64 x150 1)
def qaz (F : Nat) (rec7 : (List (List Int) × Int) → Option (List (List Int))) (x149 : List (List Int)) (x150 : Int) (x369 : List Int) (rec10 : (List Int × Int) → Option (List (List Int))) (x388 : List Int) (x389 : Int) : Option (List (List Int)) :=
  (if (decide (x389 < (x388.length : Int))) then ((idx x388 x389).bind fun _x427 => (lett (x388.set x389.toNat (-9)) fun x430 => rec10 (x430, iadd .i64 x389 1))) else (chk (decide (x388.length = x369.length)) ((lett (x149.set x150.toNat x388) fun x434 => qa7 F rec7 x150 x434))))
def yp (F : Nat) (rec7 : (List (List Int) × Int) → Option (List (List Int))) (x149 : List (List Int)) (x150 : Int) (x369 : List Int) : Nat → (List Int × Int) → Option (List (List Int))
  | 0 => fun _ => none
  | k + 1 => fun s => qaz F rec7 x149 x150 x369 (yp F rec7 x149 x150 x369 k) s.1 s.2
def qa6 (F : Nat) (x1 : List (List Int)) (rec7 : (List (List Int) × Int) → Option (List (List Int))) (x149 : List (List Int)) (x150 : Int) : Option (List (List Int)) :=
  (if (decide (x150 < (x1.length : Int))) then ((idx x149 x150).bind fun x369 => yp F rec7 x149 x150 x369 F (x369, 0)) else some x149)
def zK (F : Nat) (x1 : List (List Int)) : Nat → (List (List Int) × Int) → Option (List (List Int))
  | 0 => fun _ => none
  | k + 1 => fun s => qa6 F x1 (zK F x1 k) s.1 s.2
def qd7 (F : Nat) (x1 : List (List Int)) : Option (List (List Int)) :=
  zK F x1 F (x1, 0)
def qdl (_F : Nat) : Option Bool :=
  some true
def yd (F : Nat) (x1 : List Int) (x4 : List Int) (rec3 : Int → Option Bool) (x154 : Int) : Option Bool :=
  (if (decide (x154 < (x1.length : Int))) then ((idx x1 x154).bind fun x218 => ((idx x4 x154).bind fun x222 => (if ((x218 : Int) != x222) then some false else rec3 (iadd .i64 x154 1)))) else qdl F)
def zA (F : Nat) (x1 : List Int) (x4 : List Int) : Nat → Int → Option Bool
  | 0 => fun _ => none
  | k + 1 => fun s => yd F x1 x4 (zA F x1 x4 k) s
def z7 (F : Nat) (x1 : List Int) (x4 : List Int) : Option Bool :=
  (if (((x1.length : Int) : Int) != (x4.length : Int)) then some false else zA F x1 x4 F 0)
def vz (_F : Nat) (x13 : Bool) : Option Bool :=
  some x13
def qX (F : Nat) (x1 : Int) (x2 : List Int) (x5 : Int) (x6 : List Int) : Option Bool :=
  (if ((x1 : Int) == x5) then ((z7 F x2 x6).bind fun x14 => vz F x14) else vz F false)
def qax (_F : Nat) (x18 : Bool) : Option Bool :=
  some x18
def ve (F : Nat) (x1 : Int) (x2 : (List Int × List Int)) (x5 : Int) (x6 : List Int) : Option Bool :=
  ((qX F x1 x2.1 x5 x6).bind fun x19 => (if x19 then (chk (decide (0 < x2.2.length)) (chk (decide ((iadd .i64 (x6.length : Int) 1) = ((x2.1 ++ x2.2).length : Int))) (((idx (x2.1 ++ x2.2) (x6.length : Int)).bind fun x23 => qax F ((x23 : Int) == 77))))) else qax F false))
def vg (_F : Nat) (rec7 : (List (Int × List Int) × Int) → Option (List (Int × List Int))) (x152 : Int) (x373 : List (Int × List Int)) : Option (List (Int × List Int)) :=
  rec7 (x373, iadd .i64 x152 1)
def yO (F : Nat) (rec7 : (List (Int × List Int) × Int) → Option (List (Int × List Int))) (x151 : List (Int × List Int)) (x152 : Int) (x374 : (Int × List Int)) (rec10 : (Int × List Int) → Option (List (Int × List Int))) (x394 : Int) (x395 : List Int) : Option (List (Int × List Int)) :=
  (if (decide (x394 < (x395.length : Int))) then ((idx x395 x394).bind fun _x433 => (lett (x395.set x394.toNat 99) fun x436 => rec10 (iadd .i64 x394 1, x436))) else (chk (decide (x395.length = x374.2.length)) ((lett (x151.set x152.toNat (x374.1, x395)) fun x440 => vg F rec7 x152 x440))))
def km (F : Nat) (rec7 : (List (Int × List Int) × Int) → Option (List (Int × List Int))) (x151 : List (Int × List Int)) (x152 : Int) (x374 : (Int × List Int)) : Nat → (Int × List Int) → Option (List (Int × List Int))
  | 0 => fun _ => none
  | k + 1 => fun s => yO F rec7 x151 x152 x374 (km F rec7 x151 x152 x374 k) s.1 s.2
def vf (F : Nat) (x1 : List (Int × List Int)) (rec7 : (List (Int × List Int) × Int) → Option (List (Int × List Int))) (x151 : List (Int × List Int)) (x152 : Int) : Option (List (Int × List Int)) :=
  (if (decide (x152 < (x1.length : Int))) then ((idx x151 x152).bind fun x374 => km F rec7 x151 x152 x374 F (0, x374.2)) else some x151)
def ze (F : Nat) (x1 : List (Int × List Int)) : Nat → (List (Int × List Int) × Int) → Option (List (Int × List Int))
  | 0 => fun _ => none
  | k + 1 => fun s => vf F x1 (ze F x1 k) s.1 s.2
def qay (F : Nat) (x1 : List (Int × List Int)) : Option (List (Int × List Int)) :=
  ze F x1 F (x1, 0)
def qdT (_F : Nat) : Option Bool :=
  some true
def vA (F : Nat) (x1 : List Int) (x4 : List Int) (rec3 : Int → Option Bool) (x154 : Int) : Option Bool :=
  (if (decide (x154 < (x1.length : Int))) then ((idx x1 x154).bind fun x218 => ((idx x4 x154).bind fun x222 => (if ((x218 : Int) != x222) then some false else rec3 (iadd .i64 x154 1)))) else qdT F)
def ko (F : Nat) (x1 : List Int) (x4 : List Int) : Nat → Int → Option Bool
  | 0 => fun _ => none
  | k + 1 => fun s => vA F x1 x4 (ko F x1 x4 k) s
def ka (F : Nat) (x1 : List Int) (x4 : List Int) : Option Bool :=
  (if (((x1.length : Int) : Int) != (x4.length : Int)) then some false else ko F x1 x4 F 0)
def qcZ (_F : Nat) (x14 : Bool) : Option Bool :=
  some x14
def qd6 (F : Nat) (x1 : (List Int × List Int)) (x4 : List Int) : Option Bool :=
  ((ka F x1.1 x4).bind fun x7 => (if x7 then (chk (decide (0 < x1.2.length)) (chk (decide ((iadd .i64 (x4.length : Int) 1) = ((x1.1 ++ x1.2).length : Int))) (((idx (x1.1 ++ x1.2) (x4.length : Int)).bind fun x17 => qcZ F ((x17 : Int) == 77))))) else qcZ F false))
def vB (_F : Nat) (x36 : Bool) : Option Int :=
  (if x36 then some 1 else some 0)
def zE (F : Nat) (x1 : Int) (x2 : List Int) : Option Int :=
  (if ((decide (x1 < 0)) || (decide (8192 < x1))) then some 3 else (if (((x2.length : Int) : Int) != (iquo .i64 (iadd .i64 x1 7) 8)) then some 1 else (if (((irem x1 8) : Int) != 0) then ((idx x2 (isub .i64 (x2.length : Int) 1)).bind fun x39 => (chk (decide (0 ≤ (irem x1 8))) (vB F (((ishl .u8 x39 (irem x1 8)) : Int) != 0)))) else vB F false)))
def kB (_F : Nat) (x1 : List Int) : Option (List Int) :=
  ((app 70368744177664 ([] : List Int) x1).bind fun x8 => some x8)
def qcK (F : Nat) (x1 : Int) (x2 : List Int) : Option (Int × List Int) :=
  ((kB F x2).bind fun x10 => some (x1, x10))
def kD (_F : Nat) (x2 : Int) (x6 : Int) (x15 : List Int) : Option (Int × List Int) :=
  ((idx x15 (iquo .i64 x2 8)).bind fun x30 => (chk (decide (0 ≤ (irem x2 8))) (((idx x15 (iquo .i64 x2 8)).bind fun _x36 => (lett (x15.set (iquo .i64 x2 8).toNat (ior .u8 x30 (ishr .u8 (iconv .u8 (ishl .u64 x6 7)) (irem x2 8)))) fun x41 => some (iadd .i64 x2 1, x41))))))
def kJ (F : Nat) (x2 : Int) (x3 : List Int) (x6 : Int) : Option (Int × List Int) :=
  (if (((irem x2 8) : Int) == 0) then ((app 70368744177664 x3 ([0] : List Int)).bind fun x46 => kD F x2 x6 x46) else kD F x2 x6 x3)
def zG (F : Nat) (x6 : Int) (rec1 : (Int × Int × List Int) → Option (Int × List Int)) (x18 : Int) (x19 : Int) (x22 : List Int) : Option (Int × List Int) :=
  (if (decide (0 ≤ x18)) then (chk (decide (0 ≤ x18)) (((kJ F x19 x22 (iand .u64 (ishr .u64 x6 x18) 1)).bind fun x40 => rec1 (isub .i64 x18 1, x40.1, x40.2)))) else some (x19, x22))
def zH (F : Nat) (x6 : Int) : Nat → (Int × Int × List Int) → Option (Int × List Int)
  | 0 => fun _ => none
  | k + 1 => fun s => zG F x6 (zH F x6 k) s.1 s.2.1 s.2.2
def yB (F : Nat) (x2 : Int) (x3 : List Int) (x6 : Int) (x7 : Int) : Option (Int × List Int) :=
  zH F x6 F (isub .i64 x7 1, x2, x3)
def kb (F : Nat) (x1 : Int) (x2 : List Int) (x5 : Int) (x6 : Int) : Option (Int × List Int) :=
  ((qcK F x1 x2).bind fun x9 => ((yB F x9.1 x9.2 x5 x6).bind fun x13 => some (x13.1, x13.2)))
def yJ (F : Nat) (x1 : Int) (x2 : List Int) (x5 : Int) (x6 : Int) (x24 : Int) : Option (Int × List Int × Int) :=
  (if ((x24 : Int) != 0) then some (0, ([] : List Int), x24) else ((kb F x1 x2 x5 x6).bind fun x26 => some (x26.1, x26.2, 0)))
def qam (F : Nat) (x1 : Int) (x2 : List Int) (x5 : Int) (x6 : Int) (x9 : Int) (x36 : Bool) : Option (Int × List Int × Int) :=
  (if x36 then yJ F x1 x2 x5 x6 3 else (if (decide (8192 < (iadd .i64 x1 x6))) then yJ F x1 x2 x5 x6 8 else yJ F x1 x2 x5 x6 x9))
def qdg (F : Nat) (x1 : Int) (x2 : List Int) (x5 : Int) (x6 : Int) (x9 : Int) (x41 : Bool) : Option (Int × List Int × Int) :=
  qam F x1 x2 x5 x6 x9 x41
def qbM (F : Nat) (x1 : Int) (x2 : List Int) (x5 : Int) (x6 : Int) : Option (Int × List Int × Int) :=
  ((zE F x1 x2).bind fun x9 => (if ((x9 : Int) != 0) then yJ F x1 x2 x5 x6 x9 else (if ((decide (x6 < 0)) || (decide (64 < x6))) then qam F x1 x2 x5 x6 x9 true else (if (decide (x6 < 64)) then (chk (decide (0 ≤ x6)) (qdg F x1 x2 x5 x6 x9 (((ishr .u64 x5 x6) : Int) != 0))) else qdg F x1 x2 x5 x6 x9 false))))
def qan (_F : Nat) (_x1 : Int) (_x2 : List Int) (_x5 : Int) (_x6 : Int) : Option Unit :=
  some ()
def vH (_F : Nat) (_x1 : Int) (x2 : List Int) (x5 : Int) : Option Int :=
  ((idx x2 (iquo .i64 x5 8)).bind fun x7 => (chk (decide (0 ≤ (isub .i64 7 (irem x5 8)))) ((lett (iand .u64 (iconv .u64 (ishr .u8 x7 (isub .i64 7 (irem x5 8)))) 1) fun x11 => some x11))))
def vh {σ τ : Type} (F : Nat) (yy : σ → Int → Option (σ ⊕ τ)) (x4 : Int) (x6 : Int) (x7 : List Int) (rec1 : (Int × σ) → Option (σ ⊕ τ)) (x22 : Int) (x23 : σ) : Option (σ ⊕ τ) :=
  (if (decide (x22 < x4)) then ((vH F x6 x7 x22).bind fun x44 => ((yy x23 x44).bind (Sum.elim (fun x45 => rec1 (iadd .i64 x22 1, x45)) (fun x46 => some (.inr x46))))) else some (.inl x23))
def zu {σ τ : Type} (F : Nat) (yy : σ → Int → Option (σ ⊕ τ)) (x4 : Int) (x6 : Int) (x7 : List Int) : Nat → (Int × σ) → Option (σ ⊕ τ)
  | 0 => fun _ => none
  | k + 1 => fun s => vh F yy x4 x6 x7 (zu F yy x4 x6 x7 k) s.1 s.2
def vC {σ τ : Type} (F : Nat) (yy : σ → Int → Option (σ ⊕ τ)) (x2 : Int) (x4 : Int) (x6 : Int) (x7 : List Int) (s0 : σ) : Option (σ ⊕ τ) :=
  zu F yy x4 x6 x7 F (x2, s0)
def jm (F : Nat) (x45 : Int) (x48 : List Int) (x53 : Int) : Option ((Int × List Int) ⊕ Empty) :=
  ((kJ F x45 x48 x53).bind fun x54 => some (.inl (x54.1, x54.2)))
def jl (F : Nat) (x1 : Int) (x2 : List Int) (x5 : Int) (x6 : List Int) : Option (Int × List Int) :=
  ((qcK F x1 x2).bind fun x12 => ((qan F x5 x6 0 x5).bind fun _x37 => ((vC F (fun ((x45, x48) : (Int × List Int)) (x53 : Int) => jm F x45 x48 x53) 0 x5 x5 x6 (x12.1, x12.2)).bind (Sum.elim (fun ((x45, x48) : (Int × List Int)) => some (x45, x48)) (fun t => t.elim)))))
def yh (F : Nat) (x1 : Int) (x2 : List Int) (x5 : Int) (x6 : List Int) (x18 : Int) : Option (Int × List Int × Int) :=
  (if ((x18 : Int) != 0) then some (0, ([] : List Int), x18) else ((jl F x1 x2 x5 x6).bind fun x20 => some (x20.1, x20.2, 0)))
def jo (F : Nat) (x1 : Int) (x2 : List Int) (x5 : Int) (x6 : List Int) (x15 : Int) : Option (Int × List Int × Int) :=
  (if (((x15 : Int) == 0) && (decide (8192 < (iadd .i64 x1 x5)))) then yh F x1 x2 x5 x6 8 else yh F x1 x2 x5 x6 x15)
def qbZ (F : Nat) (x1 : Int) (x2 : List Int) (x5 : Int) (x6 : List Int) : Option (Int × List Int × Int) :=
  ((zE F x1 x2).bind fun x12 => (if ((x12 : Int) == 0) then ((zE F x5 x6).bind fun x26 => jo F x1 x2 x5 x6 x26) else jo F x1 x2 x5 x6 x12))
def qal (F : Nat) (x51 : Int) (x54 : List Int) (x59 : Int) : Option ((Int × List Int) ⊕ Empty) :=
  ((kJ F x51 x54 x59).bind fun x60 => some (.inl (x60.1, x60.2)))
def vI (F : Nat) (x1 : Int) (x2 : List Int) (x5 : Int) (x6 : Int) (x19 : Int) : Option (Int × List Int × Int) :=
  (if ((x19 : Int) != 0) then some (0, ([] : List Int), x19) else ((qan F x1 x2 x5 x6).bind fun _x43 => ((vC F (fun ((x51, x54) : (Int × List Int)) (x59 : Int) => qal F x51 x54 x59) x5 x6 x1 x2 (0, ([] : List Int))).bind (Sum.elim (fun ((x51, x54) : (Int × List Int)) => some (x51, x54, 0)) (fun t => t.elim)))))
def vJ (F : Nat) (x1 : Int) (x2 : List Int) (x5 : Int) (x6 : Int) (x9 : Int) (x68 : Bool) : Option (Int × List Int × Int) :=
  (if x68 then vI F x1 x2 x5 x6 3 else vI F x1 x2 x5 x6 x9)
def qcJ (F : Nat) (x1 : Int) (x2 : List Int) (x5 : Int) (x6 : Int) : Option (Int × List Int × Int) :=
  ((zE F x1 x2).bind fun x9 => (if ((x9 : Int) == 0) then vJ F x1 x2 x5 x6 x9 ((((decide (x5 < 0)) || (decide (x1 < x5))) || (decide (x6 < x5))) || (decide (x1 < x6))) else vJ F x1 x2 x5 x6 x9 false))
def va (F : Nat) (x1 : Int) : Option (Int × List Int) :=
  ((mk 140737488355328 (0 : Int) (iquo .u64 (iadd .u64 x1 7) 8)).bind fun x3 => ((kb F (iconv .i64 x1) x3 1 1).bind fun x6 => some (x6.1, x6.2)))
def qdZ (_F : Nat) (x119 : Int) (x122 : List Int) : Option (Int × List Int × Int) :=
  some (x119, x122, 0)
def qaK (F : Nat) (x1 : List Int) (rec5 : (Int × Int × List Int) → Option (Int × List Int × Int)) (x144 : Int) (x145 : Int) (x148 : List Int) : Option (Int × List Int × Int) :=
  (if (decide (x144 < (x1.length : Int))) then ((idx x1 x144).bind fun x180 => ((va F x180).bind fun x183 => ((jl F x145 x148 x183.1 x183.2).bind fun x186 => rec5 (iadd .i64 x144 1, x186.1, x186.2)))) else qdZ F x145 x148)
def yv (F : Nat) (x1 : List Int) : Nat → (Int × Int × List Int) → Option (Int × List Int × Int)
  | 0 => fun _ => none
  | k + 1 => fun s => qaK F x1 (yv F x1 k) s.1 s.2.1 s.2.2
def qaM (F : Nat) (x1 : List Int) (x49 : Int) : Option (Int × List Int × Int) :=
  (if (decide (8192 < x49)) then some (0, ([] : List Int), 8) else yv F x1 F (0, 0, ([] : List Int)))
def qaL (F : Nat) (x1 : List Int) (rec6 : (Int × Int) → Option (Int × List Int × Int)) (x205 : Int) (x206 : Int) : Option (Int × List Int × Int) :=
  (if (decide (x206 < (x1.length : Int))) then ((idx x1 x206).bind fun x229 => (if (decide (8192 ≤ x229)) then some (0, ([] : List Int), 3) else (lett (imin (iadd .u64 (iadd .u64 x205 x229) 1) 8193) fun x233 => rec6 (x233, iadd .i64 x206 1)))) else qaM F x1 x205)
def yw (F : Nat) (x1 : List Int) : Nat → (Int × Int) → Option (Int × List Int × Int)
  | 0 => fun _ => none
  | k + 1 => fun s => qaL F x1 (yw F x1 k) s.1 s.2
def qbx (F : Nat) (x1 : List Int) : Option (Int × List Int × Int) :=
  yw F x1 F (0, 0)
def kG (_F : Nat) (x9 : Int) (x10 : Int) : Option Int :=
  ((idx ([0, 1, 2, 2, 3, 3, 3, 3, 4, 4, 4, 4, 4, 4, 4, 4, 5, 5, 5, 5, 5, 5, 5, 5, 5, 5, 5, 5, 5, 5, 5, 5, 6, 6, 6, 6, 6, 6, 6, 6, 6, 6, 6, 6, 6, 6, 6, 6, 6, 6, 6, 6, 6, 6, 6, 6, 6, 6, 6, 6, 6, 6, 6, 6, 7, 7, 7, 7, 7, 7, 7, 7, 7, 7, 7, 7, 7, 7, 7, 7, 7, 7, 7, 7, 7, 7, 7, 7, 7, 7, 7, 7, 7, 7, 7, 7, 7, 7, 7, 7, 7, 7, 7, 7, 7, 7, 7, 7, 7, 7, 7, 7, 7, 7, 7, 7, 7, 7, 7, 7, 7, 7, 7, 7, 7, 7, 7, 7, 8, 8, 8, 8, 8, 8, 8, 8, 8, 8, 8, 8, 8, 8, 8, 8, 8, 8, 8, 8, 8, 8, 8, 8, 8, 8, 8, 8, 8, 8, 8, 8, 8, 8, 8, 8, 8, 8, 8, 8, 8, 8, 8, 8, 8, 8, 8, 8, 8, 8, 8, 8, 8, 8, 8, 8, 8, 8, 8, 8, 8, 8, 8, 8, 8, 8, 8, 8, 8, 8, 8, 8, 8, 8, 8, 8, 8, 8, 8, 8, 8, 8, 8, 8, 8, 8, 8, 8, 8, 8, 8, 8, 8, 8, 8, 8, 8, 8, 8, 8, 8, 8, 8, 8, 8, 8, 8, 8, 8, 8, 8, 8, 8, 8, 8, 8, 8, 8, 8, 8, 8, 8, 8, 8, 8, 8, 8, 8] : List Int) (iconv .u8 x9)).bind fun x11 => some (iadd .i64 x10 (iconv .i64 x11)))
def kF (F : Nat) (x6 : Int) (x7 : Int) : Option Int :=
  (if (decide (256 ≤ x6)) then kG F (ishr .u64 x6 8) (iadd .i64 x7 8) else kG F x6 x7)
def kE (F : Nat) (x3 : Int) (x4 : Int) : Option Int :=
  (if (decide (65536 ≤ x3)) then kF F (ishr .u64 x3 16) (iadd .i64 x4 16) else kF F x3 x4)
def kP (F : Nat) (x1 : Int) : Option Int :=
  (if (decide (4294967296 ≤ x1)) then kE F (ishr .u64 x1 32) 32 else kE F x1 0)
def vi (F : Nat) (x1 : Int) : Option Int :=
  ((kP F (iadd .u64 x1 1)).bind fun x2 => some (isub .i64 x2 1))
def qb0 (_F : Nat) (x1 : Int) (x2 : Int) : Option Int :=
  (chk (decide (0 ≤ x2)) ((lett (iand .u64 x1 (isub .u64 (ishl .u64 1 x2) 1)) fun x4 => some x4)))
def yR (F : Nat) (x1 : Int) : Option (Int × List Int) :=
  ((vi F x1).bind fun x3 => ((va F (iconv .u64 x3)).bind fun x4 => ((qb0 F (iadd .u64 x1 1) x3).bind fun x7 => ((kb F x4.1 x4.2 x7 x3).bind fun x8 => some (x8.1, x8.2)))))
def k7 (F : Nat) (x1 : Int) : Option (Int × List Int × Int) :=
  (if (decide (1099511627776 < x1)) then some (0, ([] : List Int), 3) else ((yR F x1).bind fun x4 => some (x4.1, x4.2, 0)))
def vK (F : Nat) (x1 : Int) : Option (Int × List Int × Int) :=
  ((k7 F x1).bind fun x3 => some (x3.1, x3.2.1, x3.2.2))
def yj (_F : Nat) (x1 : Int) : Option Bool :=
  some ((decide (1 ≤ x1)) && (decide (x1 ≤ 1099511627776)))
def jq (F : Nat) (x1 : Int) : Option (Int × Int) :=
  ((kP F (isub .u64 x1 1)).bind fun x2 => (chk (decide (0 ≤ x2)) (some (x2, isub .u64 (ishl .u64 1 x2) x1))))
def kL (F : Nat) (x1 : Int) (x2 : List Int) (x5 : Int) (x6 : Int) : Option (Int × List Int) :=
  ((jq F x6).bind fun x9 => (if (decide (x5 < x9.2)) then ((kb F x1 x2 x5 (isub .i64 x9.1 1)).bind fun x14 => some (x14.1, x14.2)) else ((kb F x1 x2 (iadd .u64 x5 x9.2) x9.1).bind fun x17 => some (x17.1, x17.2))))
def j4 (F : Nat) (x1 : Int) (x2 : Int) (x15 : Bool) : Option (Int × List Int × Int) :=
  (if x15 then some (0, ([] : List Int), 3) else (chk ((x2 : Int) != 0) ((chk ((x2 : Int) != 0) (((va F (iquo .u64 x1 x2)).bind fun x34 => ((kL F x34.1 x34.2 (irem x1 x2) x2).bind fun x37 => some (x37.1, x37.2, 0))))))))
def qap (F : Nat) (x1 : Int) (x2 : Int) : Option (Int × List Int × Int) :=
  ((yj F x2).bind fun x11 => (if ((!x11) || (decide (1099511627776 < x1))) then j4 F x1 x2 true else (chk ((x2 : Int) != 0) (j4 F x1 x2 (decide (8128 ≤ (iquo .u64 x1 x2)))))))
def qdo (_F : Nat) (x73 : List Int) : Option (List Int) :=
  (chk (decide (x73.length = 64)) ((chk (decide (x73.length = 64)) ((chk (decide (x73.length = 64)) (some x73))))))
def qdn (F : Nat) (rec3 : (List Int × Int) → Option (List Int)) (x97 : List Int) (x98 : Int) : Option (List Int) :=
  (if (decide (x98 < 64)) then ((idx x97 (isub .i64 x98 1)).bind fun x130 => ((idx x97 (isub .i64 x98 2)).bind fun x132 => ((idx x97 x98).bind fun _x134 => (lett (x97.set x98.toNat (iadd .u64 x130 x132)) fun x136 => rec3 (x136, iadd .i64 x98 1))))) else qdo F x97)
def j3 (F : Nat) : Nat → (List Int × Int) → Option (List Int)
  | 0 => fun _ => none
  | k + 1 => fun s => qdn F (j3 F k) s.1 s.2
def yL (F : Nat)  : Option (List Int) :=
  ((idx (List.replicate 64 (0 : Int)) 0).bind fun _x2 => (lett ((List.replicate 64 (0 : Int)).set (0 : Int).toNat 1) fun x3 => ((idx x3 1).bind fun _x6 => (lett (x3.set (1 : Int).toNat 2) fun x7 => j3 F F (x7, 2)))))
def zZ (_F : Nat) (rec1 : (List Int × Int × Int) → Option (List Int)) (x51 : List Int) (x52 : Int) (x53 : Int) : Option (List Int) :=
  (if (decide (x52 < x53)) then ((idx x51 x53).bind fun x124 => ((idx x51 x52).bind fun x128 => ((idx x51 x52).bind fun _x132 => ((idx x51 x53).bind fun _x136 => (lett (x51.set x52.toNat x124) fun x140 => (lett (x140.set x53.toNat x128) fun x143 => rec1 (x143, iadd .i64 x52 1, isub .i64 x53 1))))))) else some x51)
def zm (F : Nat) : Nat → (List Int × Int × Int) → Option (List Int)
  | 0 => fun _ => none
  | k + 1 => fun s => zZ F (zm F k) s.1 s.2.1 s.2.2
def kC (F : Nat) (x1 : List Int) : Option (List Int) :=
  zm F F (x1, 0, isub .i64 (x1.length : Int) 1)
def qcN (F : Nat) (x81 : List Int) : Option (List Int) :=
  ((kC F x81).bind fun x82 => (chk (decide (x82.length = x81.length)) (some x82)))
def jp (_F : Nat) (rec8 : (Int × List Int × Int) → Option (List Int)) (x112 : Int) (x145 : Int) (x148 : List Int) : Option (List Int) :=
  rec8 (x145, x148, isub .i64 x112 1)
def qbg (F : Nat) (x2 : List Int) (rec8 : (Int × List Int × Int) → Option (List Int)) (x108 : Int) (x111 : List Int) (x112 : Int) : Option (List Int) :=
  (if (decide (0 ≤ x112)) then ((idx x2 x112).bind fun x149 => (if (decide (x149 ≤ x108)) then ((idx x2 x112).bind fun x150 => ((app 8796093022208 x111 ([x112] : List Int)).bind fun x153 => jp F rec8 x112 (isub .u64 x108 x150) x153)) else jp F rec8 x112 x108 x111)) else qcN F x111)
def yi (F : Nat) (x2 : List Int) : Nat → (Int × List Int × Int) → Option (List Int)
  | 0 => fun _ => none
  | k + 1 => fun s => qbg F x2 (yi F x2 k) s.1 s.2.1 s.2.2
def qb2 (F : Nat) (x1 : Int) : Option (List Int) :=
  ((yL F).bind fun x2 => (chk (decide (x2.length = 64)) (yi F x2 F (x1, ([] : List Int), 63))))
def qaj (_F : Nat) : Option Int :=
  some (-1)
def kv (F : Nat) (x1 : List Int) (x4 : Int) (rec3 : Int → Option Int) (x47 : Int) : Option Int :=
  (if (decide (x47 < (x1.length : Int))) then ((idx x1 x47).bind fun x64 => (if ((x4 : Int) == x64) then some x47 else rec3 (iadd .i64 x47 1))) else qaj F)
def zk (F : Nat) (x1 : List Int) (x4 : Int) : Nat → Int → Option Int
  | 0 => fun _ => none
  | k + 1 => fun s => kv F x1 x4 (zk F x1 x4 k) s
def vr (F : Nat) (x1 : List Int) (x4 : Int) : Option Int :=
  zk F x1 x4 F 0
def ku (F : Nat) (x1 : List Int) (x4 : Int) : Option Bool :=
  ((vr F x1 x4).bind fun x5 => some (decide (0 ≤ x5)))
def qdy (F : Nat) (x71 : Int) (x74 : List Int) : Option (Int × List Int) :=
  ((kb F x71 x74 1 1).bind fun x75 => some (x75.1, x75.2))
def qao (F : Nat) (rec13 : (Int × Int × List Int) → Option (Int × List Int)) (x100 : Int) (x101 : Int) (x104 : List Int) (x135 : Int) : Option (Int × List Int) :=
  ((kb F x101 x104 x135 1).bind fun x136 => rec13 (iadd .i64 x100 1, x136.1, x136.2))
def qbW (F : Nat) (x3 : List Int) (x78 : Int) (rec13 : (Int × Int × List Int) → Option (Int × List Int)) (x100 : Int) (x101 : Int) (x104 : List Int) : Option (Int × List Int) :=
  (if (decide (x100 < (iadd .i64 x78 1))) then ((ku F x3 x100).bind fun x139 => (if x139 then qao F rec13 x100 x101 x104 1 else qao F rec13 x100 x101 x104 0)) else qdy F x101 x104)
def yK (F : Nat) (x3 : List Int) (x78 : Int) : Nat → (Int × Int × List Int) → Option (Int × List Int)
  | 0 => fun _ => none
  | k + 1 => fun s => qbW F x3 x78 (yK F x3 x78 k) s.1 s.2.1 s.2.2
def qep (F : Nat) (x1 : Int) : Option (Int × List Int) :=
  ((qb2 F (iadd .u64 x1 1)).bind fun x3 => ((idx x3 (isub .i64 (x3.length : Int) 1)).bind fun x78 => yK F x3 x78 F (0, 0, ([] : List Int))))
def qcL (F : Nat) (x1 : Int) : Option (Int × List Int × Int) :=
  (if (decide (1099511627776 < x1)) then some (0, ([] : List Int), 3) else ((qep F x1).bind fun x4 => some (x4.1, x4.2, 0)))
def qb1 (F : Nat) (x1 : Int) : Option (List Int × Int) :=
  (if (decide (1099511627776 < x1)) then some (([] : List Int), 3) else ((qb2 F x1).bind fun x3 => some (x3, 0)))
def qfh (_F : Nat) (x77 : Int) : Option (Int × Int) :=
  some (x77, 0)
def qcs (F : Nat) (x1 : List Int) (x4 : List Int) (rec3 : (Int × Int × Int) → Option (Int × Int)) (x100 : Int) (x101 : Int) (x102 : Int) : Option (Int × Int) :=
  (if (decide (x102 < (x1.length : Int))) then ((idx x1 x102).bind fun x137 => (if ((decide (x137 < 0)) || (decide (64 ≤ x137))) then some (0, 3) else (if (decide (x137 ≤ (iadd .i64 x101 1))) then some (0, 4) else ((idx x4 x137).bind fun x144 => rec3 (iadd .u64 x100 x144, x137, iadd .i64 x102 1))))) else qfh F x100)
def j1 (F : Nat) (x1 : List Int) (x4 : List Int) : Nat → (Int × Int × Int) → Option (Int × Int)
  | 0 => fun _ => none
  | k + 1 => fun s => qcs F x1 x4 (j1 F x1 x4 k) s.1 s.2.1 s.2.2
def qcC (F : Nat) (x1 : List Int) : Option (Int × Int) :=
  ((yL F).bind fun x4 => (chk (decide (x4.length = 64)) (j1 F x1 x4 F (0, -2, 0))))
def qck (_F : Nat) (x48 : List Int) (x49 : Int) : Option (List Int) :=
  ((app 70368744177664 x48 ([iconv .u8 x49] : List Int)).bind fun x52 => some x52)
def qaN (F : Nat) (rec3 : (List Int × Int) → Option (List Int)) (x69 : List Int) (x70 : Int) : Option (List Int) :=
  (if (decide (128 ≤ x70)) then ((app 70368744177664 x69 ([ior .u8 (iconv .u8 x70) 128] : List Int)).bind fun x92 => rec3 (x92, ishr .u64 x70 7)) else qck F x69 x70)
def yx (F : Nat) : Nat → (List Int × Int) → Option (List Int)
  | 0 => fun _ => none
  | k + 1 => fun s => qaN F (yx F k) s.1 s.2
def qcv (F : Nat) (x1 : List Int) (x4 : Int) : Option (List Int) :=
  yx F F (x1, x4)
def qbz (_F : Nat) (x59 : List Int) : Option (List Int × Int) :=
  some (x59, 0)
def jf (F : Nat) (x1 : List Int) (rec3 : (List Int × Int) → Option (List Int × Int)) (x78 : List Int) (x79 : Int) : Option (List Int × Int) :=
  (if (decide (x79 < (x1.length : Int))) then ((idx x1 x79).bind fun x105 => ((qcv F x78 x105).bind fun x108 => (if (decide (4096 < (x108.length : Int))) then some (([] : List Int), 2) else rec3 (x108, iadd .i64 x79 1)))) else qbz F x78)
def kQ (F : Nat) (x1 : List Int) : Nat → (List Int × Int) → Option (List Int × Int)
  | 0 => fun _ => none
  | k + 1 => fun s => jf F x1 (kQ F x1 k) s.1 s.2
def js (F : Nat) (x1 : List Int) : Option (List Int × Int) :=
  kQ F x1 F (([] : List Int), 0)
def qdi (_F : Nat) (_x1 : List Int) : Option Unit :=
  some ()
def qac (_F : Nat) (x1 : List Int) (x4 : Int) (rec1 : (Int × Int) → Option (Int × Int × Int)) (x37 : Int) (x38 : Int) : Option (Int × Int × Int) :=
  (if (decide ((x1.length : Int) ≤ (iadd .i64 x4 x38))) then some (0, 0, 7) else ((idx x1 (iadd .i64 x4 x38)).bind fun x89 => (if (((x38 : Int) == 9) && (decide (1 < x89))) then some (0, 0, 3) else (if ((decide (0 < x38)) && ((x89 : Int) == 0)) then some (0, 0, 1) else (chk (decide (0 ≤ (imul .i64 7 x38))) ((lett (ior .u64 x37 (ishl .u64 (iconv .u64 (iand .u8 x89 127)) (imul .i64 7 x38))) fun x99 => (if (decide (x89 < 128)) then some (x99, iadd .i64 (iadd .i64 x4 x38) 1, 0) else rec1 (x99, iadd .i64 x38 1)))))))))
def yg (F : Nat) (x1 : List Int) (x4 : Int) : Nat → (Int × Int) → Option (Int × Int × Int)
  | 0 => fun _ => none
  | k + 1 => fun s => qac F x1 x4 (yg F x1 x4 k) s.1 s.2
def qat (F : Nat) (x1 : List Int) (x4 : Int) : Option (Int × Int × Int) :=
  yg F x1 x4 F (0, 0)
def vt {σ τ : Type} (F : Nat) (yy : σ → (Int × Int) → Option (σ ⊕ τ)) (x2 : List Int) (rec1 : (Int × σ) → Option (σ ⊕ τ)) (x18 : Int) (x19 : σ) : Option (σ ⊕ τ) :=
  (if (decide (x18 < (x2.length : Int))) then ((qat F x2 x18).bind fun x36 => ((yy x19 (x36.1, x36.2.2)).bind (Sum.elim (fun x42 => (if ((x36.2.2 : Int) != 0) then some (.inl x42) else rec1 (x36.2.1, x42))) (fun x43 => some (.inr x43))))) else some (.inl x19))
def ky {σ τ : Type} (F : Nat) (yy : σ → (Int × Int) → Option (σ ⊕ τ)) (x2 : List Int) : Nat → (Int × σ) → Option (σ ⊕ τ)
  | 0 => fun _ => none
  | k + 1 => fun s => vt F yy x2 (ky F yy x2 k) s.1 s.2
def qcl {σ τ : Type} (F : Nat) (yy : σ → (Int × Int) → Option (σ ⊕ τ)) (x2 : List Int) (s0 : σ) : Option (σ ⊕ τ) :=
  ky F yy x2 F (0, s0)
def yz (_F : Nat) (x57 : List Int) (x71 : Int) (x72 : Int) : Option (List Int ⊕ (List Int × Int)) :=
  (if ((x72 : Int) != 0) then some (.inr (x57, x72)) else ((app 8796093022208 x57 ([x71] : List Int)).bind fun x76 => some (.inl x76)))
def qby (F : Nat) (x1 : List Int) : Option (List Int × Int) :=
  (if (decide (4096 < (x1.length : Int))) then some (([] : List Int), 2) else ((qdi F x1).bind fun _x44 => ((qcl F (fun (x57 : List Int) ((x71, x72) : (Int × Int)) => yz F x57 x71 x72) x1 ([] : List Int)).bind (Sum.elim (fun (x57 : List Int) => some (x57, 0)) (fun ((_x69, x70) : (List Int × Int)) => some (([] : List Int), x70))))))
def qdY (_F : Nat) : Option (Int × Int × Bool) :=
  some (0, 0, false)
def qaJ (F : Nat) (x1 : Int) (x2 : List Int) (x5 : Int) (rec3 : Int → Option (Int × Int × Bool)) (x33 : Int) : Option (Int × Int × Bool) :=
  (if (decide (x33 < x1)) then ((vH F x1 x2 x33).bind fun x44 => (if ((x44 : Int) == 1) then some (iconv .u64 (isub .i64 x33 x5), iadd .i64 x33 1, true) else rec3 (iadd .i64 x33 1))) else qdY F)
def yu (F : Nat) (x1 : Int) (x2 : List Int) (x5 : Int) : Nat → Int → Option (Int × Int × Bool)
  | 0 => fun _ => none
  | k + 1 => fun s => qaJ F x1 x2 x5 (yu F x1 x2 x5 k) s
def yD (F : Nat) (x1 : Int) (x2 : List Int) (x5 : Int) : Option (Int × Int × Bool) :=
  yu F x1 x2 x5 F x5
def qch (_F : Nat) (x90 : List Int) (x91 : Int) (x92 : Int) : Option (List Int × Int × Int) :=
  (if ((x92 : Int) != 0) then some (([] : List Int), 0, x92) else some (x90, x91, 0))
def vF (_F : Nat) (rec15 : (Int × List Int × Int × Int) → Option (List Int × Int × Int)) (x118 : Int) (x121 : List Int) (x159 : (Int × Int × Bool)) (x161 : Int) : Option (List Int × Int × Int) :=
  ((app 8796093022208 x121 ([x159.1] : List Int)).bind fun x164 => rec15 (isub .i64 x118 1, x164, x159.2.1, x161))
def zO (F : Nat) (x1 : Int) (x2 : List Int) (rec15 : (Int × List Int × Int × Int) → Option (List Int × Int × Int)) (x118 : Int) (x121 : List Int) (x122 : Int) (x123 : Int) : Option (List Int × Int × Int) :=
  (if (((x123 : Int) == 0) && (decide (0 < x118))) then ((yD F x1 x2 x122).bind fun x159 => (if (!x159.2.2) then vF F rec15 x118 x121 x159 7 else vF F rec15 x118 x121 x159 x123)) else qch F x121 x122 x123)
def kZ (F : Nat) (x1 : Int) (x2 : List Int) : Nat → (Int × List Int × Int × Int) → Option (List Int × Int × Int)
  | 0 => fun _ => none
  | k + 1 => fun s => zO F x1 x2 (kZ F x1 x2 k) s.1 s.2.1 s.2.2.1 s.2.2.2
def yW (F : Nat) (x1 : Int) (x2 : List Int) (x5 : Int) (x13 : Int) : Option (List Int × Int × Int) :=
  kZ F x1 x2 F (x5, ([] : List Int), 0, x13)
def yr (F : Nat) (x1 : Int) (x2 : List Int) (x5 : Int) (x7 : Int) (x171 : Bool) : Option (List Int × Int × Int) :=
  (if x171 then yW F x1 x2 x5 3 else yW F x1 x2 x5 x7)
def qb4 (F : Nat) (x1 : Int) (x2 : List Int) (x5 : Int) : Option (List Int × Int × Int) :=
  ((zE F x1 x2).bind fun x7 => (if ((x7 : Int) == 0) then yr F x1 x2 x5 x7 ((decide (x5 < 0)) || (decide (8192 < x5))) else yr F x1 x2 x5 x7 false))
def qcf (_F : Nat) (x1 : Int) : Option Bool :=
  some ((decide (x1 < 0)) || (decide (24 < x1)))
def z6 (_F : Nat) : Option Int :=
  some (-1)
def qZ (F : Nat) (x1 : List Int) (rec3 : Int → Option Int) (x54 : Int) : Option Int :=
  (if (decide (x54 < (x1.length : Int))) then ((idx x1 x54).bind fun x74 => ((qcf F x74).bind fun x77 => (if x77 then some x54 else rec3 (iadd .i64 x54 1)))) else z6 F)
def qC (F : Nat) (x1 : List Int) : Nat → Int → Option Int
  | 0 => fun _ => none
  | k + 1 => fun s => qZ F x1 (qC F x1 k) s
def zD (F : Nat) (x1 : List Int) : Option Int :=
  qC F x1 F 0
def zr (F : Nat) (x1 : List Int) : Option Bool :=
  ((zD F x1).bind fun x4 => some (decide (0 ≤ x4)))
def vM (F : Nat) (x1 : List Int) : Option Int :=
  (if (decide (64 < (x1.length : Int))) then some 2 else ((zr F x1).bind fun x7 => (if x7 then some 3 else some 0)))
def qdX (_F : Nat) (x52 : Int) : Option Int :=
  some x52
def qaG (_F : Nat) (rec8 : (Int × Int) → Option Int) (x69 : Int) (x93 : Int) : Option Int :=
  rec8 (x93, iadd .i64 x69 1)
def qaF (F : Nat) (x1 : List Int) (rec8 : (Int × Int) → Option Int) (x68 : Int) (x69 : Int) : Option Int :=
  (if (decide (x69 < (x1.length : Int))) then ((idx x1 x69).bind fun x94 => (if (decide (0 < x94)) then (chk (decide (0 ≤ (isub .i64 24 x94))) ((lett (isub .i64 x68 (ishl .i64 1 (isub .i64 24 x94))) fun x98 => qaG F rec8 x69 x98))) else qaG F rec8 x69 x68)) else qdX F x68)
def kX (F : Nat) (x1 : List Int) : Nat → (Int × Int) → Option Int
  | 0 => fun _ => none
  | k + 1 => fun s => qaF F x1 (kX F x1 k) s.1 s.2
def qbv (F : Nat) (x1 : List Int) : Option Int :=
  kX F x1 F (16777216, 0)
def qdV (_F : Nat) : Option Int :=
  some 0
def kp (F : Nat) (x1 : List Int) (rec3 : Int → Option Int) (x46 : Int) : Option Int :=
  (if (decide (x46 < (x1.length : Int))) then ((idx x1 x46).bind fun x63 => (if ((x63 : Int) != 0) then some x63 else rec3 (iadd .i64 x46 1))) else qdV F)
def kV (F : Nat) (x1 : List Int) : Nat → Int → Option Int
  | 0 => fun _ => none
  | k + 1 => fun s => kp F x1 (kV F x1 k) s
def qbc (F : Nat) (x1 : List Int) : Option Int :=
  kV F x1 F 0
def qaB (_F : Nat) (x1 : Int) : Option Bool :=
  some ((x1 : Int) != x1)
def kd (F : Nat) (x1 : Int) (x2 : Int) : Option Int :=
  ((qaB F x1).bind fun x3 => ((qaB F x2).bind fun x4 => (if x3 then (if x4 then some 0 else some (-1)) else (if x4 then some 1 else (if (decide (x1 < x2)) then some (-1) else (if (decide (x2 < x1)) then some 1 else some 0))))))
def qbw (F : Nat) (x1 : Int) (x2 : Int) (x4 : List Int) : Option Int :=
  ((idx x4 x1).bind fun x20 => ((idx x4 x2).bind fun x24 => ((kd F x20 x24).bind fun x28 => ((kd F x1 x2).bind fun x29 => ((qbc F ([x28, x29] : List Int)).bind fun x32 => some x32)))))
def zM (F : Nat) (x1 : List Int) (x5 : List Int) : Option (List Int) :=
  sortF (fun a b => qbw F a b x5) x1
def qcg (F : Nat) (x1 : List Int) (x81 : List Int) : Option (List Int) :=
  ((zM F x81 x1).bind fun x82 => (chk (decide (x82.length = x81.length)) (some x82)))
def qaI (_F : Nat) (rec8 : (List Int × Int) → Option (List Int)) (x110 : Int) (x147 : List Int) : Option (List Int) :=
  rec8 (x147, iadd .i64 x110 1)
def qaH (F : Nat) (x1 : List Int) (rec8 : (List Int × Int) → Option (List Int)) (x109 : List Int) (x110 : Int) : Option (List Int) :=
  (if (decide (x110 < (x1.length : Int))) then ((idx x1 x110).bind fun x148 => (if (decide (0 < x148)) then ((app 8796093022208 x109 ([x110] : List Int)).bind fun x153 => qaI F rec8 x110 x153) else qaI F rec8 x110 x109)) else qcg F x1 x109)
def kY (F : Nat) (x1 : List Int) : Nat → (List Int × Int) → Option (List Int)
  | 0 => fun _ => none
  | k + 1 => fun s => qaH F x1 (kY F x1 k) s.1 s.2
def qcu (F : Nat) (x1 : List Int) : Option (List Int) :=
  kY F x1 F (([] : List Int), 0)
def qbO (_F : Nat) (x331 : List (Int × List Int)) : Option (List (Int × List Int) × Int) :=
  some (x331, 0)
def j9 (F : Nat) (x1 : List Int) (x332 : List Int) (rec5 : (List (Int × List Int) × Int × Int × Int) → Option (List (Int × List Int) × Int)) (x438 : List (Int × List Int)) (x439 : Int) (x440 : Int) (x441 : Int) : Option (List (Int × List Int) × Int) :=
  (if (decide (x441 < (x332.length : Int))) then ((idx x332 x441).bind fun x596 => ((idx x1 x596).bind fun x599 => (chk (decide (0 ≤ (isub .i64 x599 x440))) (((idx x1 x596).bind fun x624 => ((idx x1 x596).bind fun x628 => ((idx x438 x596).bind fun _x632 => ((kb F 0 ([] : List Int) (ishl .u64 x439 (isub .i64 x599 x440)) x624).bind fun x638 => (lett (x438.set x596.toNat (x638.1, x638.2)) fun x641 => (lett (iadd .u64 (ishl .u64 x439 (isub .i64 x599 x440)) 1) fun x645 => rec5 (x641, x645, x628, iadd .i64 x441 1))))))))))) else qbO F x438)
def yf (F : Nat) (x1 : List Int) (x332 : List Int) : Nat → (List (Int × List Int) × Int × Int × Int) → Option (List (Int × List Int) × Int)
  | 0 => fun _ => none
  | k + 1 => fun s => j9 F x1 x332 (yf F x1 x332 k) s.1 s.2.1 s.2.2.1 s.2.2.2
def qaa (F : Nat) (x1 : List Int) (x10 : Int) : Option (List (Int × List Int) × Int) :=
  (if ((x10 : Int) != 0) then some (([] : List (Int × List Int)), x10) else ((mk 2199023255552 (((0 : Int), ([] : List Int)) : (Int × List Int)) (x1.length : Int)).bind fun x12 => ((qcu F x1).bind fun x332 => yf F x1 x332 F (x12, 0, 0, 0))))
def qab (F : Nat) (x1 : List Int) (x4 : Int) (x650 : Bool) : Option (List (Int × List Int) × Int) :=
  (if x650 then qaa F x1 8 else qaa F x1 x4)
def z8 (F : Nat) (x1 : List Int) : Option (List (Int × List Int) × Int) :=
  ((vM F x1).bind fun x4 => (if ((x4 : Int) == 0) then ((qbv F x1).bind fun x652 => qab F x1 x4 (decide (x652 < 0))) else qab F x1 x4 false))
def qbu (_F : Nat) : Option Bool :=
  some true
def jb (F : Nat) (x1 : Int) (x2 : List Int) (x5 : Int) (x6 : Int) (x7 : List Int) (rec3 : Int → Option Bool) (x62 : Int) : Option Bool :=
  (if (decide (x62 < (imin x6 (isub .i64 x1 x5)))) then ((vH F x1 x2 (iadd .i64 x5 x62)).bind fun x84 => ((vH F x6 x7 x62).bind fun x85 => (if ((x84 : Int) != x85) then some false else rec3 (iadd .i64 x62 1)))) else qbu F)
def kO (F : Nat) (x1 : Int) (x2 : List Int) (x5 : Int) (x6 : Int) (x7 : List Int) : Nat → Int → Option Bool
  | 0 => fun _ => none
  | k + 1 => fun s => jb F x1 x2 x5 x6 x7 (kO F x1 x2 x5 x6 x7 k) s
def yV (F : Nat) (x1 : Int) (x2 : List Int) (x5 : Int) (x6 : Int) (x7 : List Int) : Option Bool :=
  kO F x1 x2 x5 x6 x7 F 0
def qc5 (_F : Nat) : Option (Bool × Int) :=
  some (true, 0)
def vZ (_F : Nat) (rec80 : Int → Option (Bool × Int)) (x729 : Int) : Option (Bool × Int) :=
  rec80 (iadd .i64 x729 1)
def v6 (_F : Nat) (rec93 : Int → Option (Bool × Int)) (x1016 : Int) (x1062 : Bool) : Option (Bool × Int) :=
  (if x1062 then some (false, 0) else rec93 (iadd .i64 x1016 1))
def vX (F : Nat) (rec80 : Int → Option (Bool × Int)) (x729 : Int) (x983 : (Int × List Int)) (x988 : List (Int × List Int)) (rec93 : Int → Option (Bool × Int)) (x1016 : Int) : Option (Bool × Int) :=
  (if (decide (x1016 < (x988.length : Int))) then ((idx x988 x1016).bind fun x1054 => (if ((decide (0 < x983.1)) && (decide (0 < x1054.1))) then ((yV F x983.1 x983.2 0 x1054.1 x1054.2).bind fun x1064 => v6 F rec93 x1016 x1064) else v6 F rec93 x1016 false)) else vZ F rec80 x729)
def ke (F : Nat) (rec80 : Int → Option (Bool × Int)) (x729 : Int) (x983 : (Int × List Int)) (x988 : List (Int × List Int)) : Nat → Int → Option (Bool × Int)
  | 0 => fun _ => none
  | k + 1 => fun s => vX F rec80 x729 x983 x988 (ke F rec80 x729 x983 x988 k) s
def vW (F : Nat) (x1 : List (Int × List Int)) (rec80 : Int → Option (Bool × Int)) (x729 : Int) : Option (Bool × Int) :=
  (if (decide (x729 < (x1.length : Int))) then ((idx x1 x729).bind fun x983 => ((sub x1 0 x729).bind fun x988 => ke F rec80 x729 x983 x988 F 0)) else qc5 F)
def zd (F : Nat) (x1 : List (Int × List Int)) : Nat → Int → Option (Bool × Int)
  | 0 => fun _ => none
  | k + 1 => fun s => vW F x1 (zd F x1 k) s
def j8 (F : Nat) (x1 : List (Int × List Int)) : Option (Bool × Int) :=
  zd F x1 F 0
def vY (F : Nat) (x1 : List (Int × List Int)) (rec96 : Int → Option (Bool × Int)) (x1083 : Int) : Option (Bool × Int) :=
  (if (decide (x1083 < (x1.length : Int))) then ((idx x1 x1083).bind fun x1109 => ((zE F x1109.1 x1109.2).bind fun x1114 => (if ((x1114 : Int) != 0) then some (false, x1114) else rec96 (iadd .i64 x1083 1)))) else j8 F x1)
def kN (F : Nat) (x1 : List (Int × List Int)) : Nat → Int → Option (Bool × Int)
  | 0 => fun _ => none
  | k + 1 => fun s => vY F x1 (kN F x1 k) s
def qaq (F : Nat) (x1 : List (Int × List Int)) : Option (Bool × Int) :=
  (if (decide (64 < (x1.length : Int))) then some (false, 2) else kN F x1 F 0)
def yM (_F : Nat) (x15 : List Int) : Option (List Int) :=
  some x15
def ym (F : Nat) (x1 : List Int) (c3 : Nat) (x4 : Int) : Option (List Int) :=
  (if (decide (x4 < 0)) then none else (lett (isub .i64 x4 (isub .i64 (c3 : Int) (x1.length : Int))) fun x16 => (if (decide (0 < x16)) then ((sub x1 0 (c3 : Int)).bind fun x17 => ((appz 8796093022208 x17 (0 : Int) x16).bind fun x18 => ((sub x18 0 (x1.length : Int)).bind fun x21 => yM F x21))) else yM F x1)))
def jr (_F : Nat) (x102 : List Int) : Option (List Int) :=
  some x102
def qU (F : Nat) (x1 : List (List Int)) (rec5 : (List Int × Int) → Option (List Int)) (x121 : List Int) (x122 : Int) : Option (List Int) :=
  (if (decide (x122 < (x1.length : Int))) then ((idx x1 x122).bind fun x148 => ((app 8796093022208 x121 x148).bind fun x152 => rec5 (x152, iadd .i64 x122 1))) else jr F x121)
def zf (F : Nat) (x1 : List (List Int)) : Nat → (List Int × Int) → Option (List Int)
  | 0 => fun _ => none
  | k + 1 => fun s => qU F x1 (zf F x1 k) s.1 s.2
def kf (F : Nat) (x1 : List (List Int)) (x43 : Int) : Option (List Int) :=
  ((ym F ([] : List Int) 0 x43).bind fun x44 => zf F x1 F (x44, 0))
def qV (F : Nat) (x1 : List (List Int)) (rec6 : (Int × Int) → Option (List Int)) (x168 : Int) (x169 : Int) : Option (List Int) :=
  (if (decide (x169 < (x1.length : Int))) then ((idx x1 x169).bind fun x189 => (if (decide ((iadd .i64 x168 (x189.length : Int)) < 0)) then none else rec6 (iadd .i64 x168 (x189.length : Int), iadd .i64 x169 1))) else kf F x1 x168)
def zg (F : Nat) (x1 : List (List Int)) : Nat → (Int × Int) → Option (List Int)
  | 0 => fun _ => none
  | k + 1 => fun s => qV F x1 (zg F x1 k) s.1 s.2
def zI (F : Nat) (x1 : List (List Int)) : Option (List Int) :=
  zg F x1 F (0, 0)
def yn (_F : Nat) (x1 : List Int) : Option (List Int) :=
  if x1.length < 4611686018427387904 then some (srt x1) else none
def qdz (_F : Nat) (x1 : Int) : Option Bool :=
  some ((decide (0 ≤ x1)) && (decide (x1 ≤ 1048576)))
def qcR (F : Nat) (x1 : Int) : Option Bool :=
  ((qdz F x1).bind fun x2 => some (!x2))
def kg (_F : Nat) : Option Int :=
  some (-1)
def q7 (F : Nat) (x1 : List Int) (rec3 : Int → Option Int) (x54 : Int) : Option Int :=
  (if (decide (x54 < (x1.length : Int))) then ((idx x1 x54).bind fun x74 => ((qcR F x74).bind fun x77 => (if x77 then some x54 else rec3 (iadd .i64 x54 1)))) else kg F)
def qF (F : Nat) (x1 : List Int) : Nat → Int → Option Int
  | 0 => fun _ => none
  | k + 1 => fun s => q7 F x1 (qF F x1 k) s
def zF (F : Nat) (x1 : List Int) : Option Int :=
  qF F x1 F 0
def zv (F : Nat) (x1 : List Int) : Option Bool :=
  ((zF F x1).bind fun x4 => some (decide (0 ≤ x4)))
def qbo (F : Nat) (x1 : List Int) : Option Int :=
  (if (decide (64 < (x1.length : Int))) then some 2 else ((zv F x1).bind fun x7 => (if x7 then some 3 else some 0)))
def qbr (F : Nat) (x1 : List Int) (x4 : Int) (x5 : List Int) (x8 : Int) : Option Int :=
  ((idx x1 0).bind fun x24 => ((idx x5 0).bind fun x28 => ((kd F x4 x8).bind fun x32 => ((kd F x24 x28).bind fun x33 => ((qbc F ([x32, x33] : List Int)).bind fun x36 => some x36)))))
def qw (_F : Nat) (x60 : Int) (x68 : Bool) : Option (Int × Bool) :=
  some (x60, x68)
def qK (F : Nat) (x1 : List (List Int × Int)) (x4 : List Int) (x7 : Int) (x60 : Int) : Option (Int × Bool) :=
  (if (decide (x60 < (x1.length : Int))) then ((idx x1 x60).bind fun x70 => ((qbr F x70.1 x70.2 x4 x7).bind fun x75 => qw F x60 ((x75 : Int) == 0))) else qw F x60 false)
def qu (F : Nat) (x1 : List (List Int × Int)) (x4 : List Int) (x7 : Int) (rec4 : (Int × Int) → Option (Int × Bool)) (x92 : Int) (x93 : Int) : Option (Int × Bool) :=
  (if (decide (x92 < x93)) then (lett (iconv .i64 (ishr .u64 (iconv .u64 (iadd .i64 x92 x93)) 1)) fun x112 => ((idx x1 x112).bind fun x119 => ((qbr F x119.1 x119.2 x4 x7).bind fun x124 => (if (decide (x124 < 0)) then rec4 (iadd .i64 x112 1, x93) else rec4 (x92, x112))))) else qK F x1 x4 x7 x92)
def ql (F : Nat) (x1 : List (List Int × Int)) (x4 : List Int) (x7 : Int) : Nat → (Int × Int) → Option (Int × Bool)
  | 0 => fun _ => none
  | k + 1 => fun s => qu F x1 x4 x7 (ql F x1 x4 x7 k) s.1 s.2
def qp (F : Nat) (x1 : List (List Int × Int)) (x4 : List Int) (x7 : Int) : Option (Int × Bool) :=
  ql F x1 x4 x7 F (0, (x1.length : Int))
def qfG (F : Nat) (x1 : List (List Int × Int)) (x2 : List Int) (x3 : Int) : Option Int :=
  (qp F x1 x2 x3).bind fun p => if 0 ≤ p.1 ∧ p.1 ≤ (x1.length : Int) ∧ x1.length < 100000 then some p.1 else none
def qbN (_F : Nat) (x1 : Int) : Option Bool :=
  some (decide (24 < x1))
def zW (_F : Nat) : Option Int :=
  some (-1)
def qY (F : Nat) (x1 : List Int) (rec3 : Int → Option Int) (x54 : Int) : Option Int :=
  (if (decide (x54 < (x1.length : Int))) then ((idx x1 x54).bind fun x74 => ((qbN F x74).bind fun x77 => (if x77 then some x54 else rec3 (iadd .i64 x54 1)))) else zW F)
def qA (F : Nat) (x1 : List Int) : Nat → Int → Option Int
  | 0 => fun _ => none
  | k + 1 => fun s => qY F x1 (qA F x1 k) s
def zx (F : Nat) (x1 : List Int) : Option Int :=
  qA F x1 F 0
def zp (F : Nat) (x1 : List Int) : Option Bool :=
  ((zx F x1).bind fun x4 => some (decide (0 ≤ x4)))
def vo (F : Nat) (x760 : List Int) : Option (List Int × Int) :=
  ((zp F x760).bind fun x763 => (if x763 then some (([] : List Int), 8) else some (x760, 0)))
def vp (F : Nat) (rec29 : (List Int × List (List Int × Int)) → Option (List Int × Int)) (x1203 : ((List Int × Int) × List (List Int × Int))) (x1207 : ((List Int × Int) × List (List Int × Int))) (x1233 : List Int) (x1316 : List Int) : Option (List Int × Int) :=
  ((qfG F x1207.2 x1233 (iadd .i64 x1203.1.2 x1207.1.2)).bind fun x1317 => rec29 (x1316, (insK x1317 x1207.2 (x1233, iadd .i64 x1203.1.2 x1207.1.2))))
def vl (F : Nat) (rec29 : (List Int × List (List Int × Int)) → Option (List Int × Int)) (x1203 : ((List Int × Int) × List (List Int × Int))) (x1207 : ((List Int × Int) × List (List Int × Int))) (x1233 : List Int) (rec33 : (List Int × Int) → Option (List Int × Int)) (x1345 : List Int) (x1346 : Int) : Option (List Int × Int) :=
  (if (decide (x1346 < (x1233.length : Int))) then ((idx x1233 x1346).bind fun x1387 => ((idx x1345 x1387).bind fun x1390 => ((idx x1345 x1387).bind fun _x1393 => (lett (x1345.set x1387.toNat (iadd .i64 x1390 1)) fun x1396 => rec33 (x1396, iadd .i64 x1346 1))))) else vp F rec29 x1203 x1207 x1233 x1345)
def zU (F : Nat) (rec29 : (List Int × List (List Int × Int)) → Option (List Int × Int)) (x1203 : ((List Int × Int) × List (List Int × Int))) (x1207 : ((List Int × Int) × List (List Int × Int))) (x1233 : List Int) : Nat → (List Int × Int) → Option (List Int × Int)
  | 0 => fun _ => none
  | k + 1 => fun s => vl F rec29 x1203 x1207 x1233 (zU F rec29 x1203 x1207 x1233 k) s.1 s.2
def yl (F : Nat) (rec29 : (List Int × List (List Int × Int)) → Option (List Int × Int)) (x980 : List Int) (x1203 : ((List Int × Int) × List (List Int × Int))) (x1207 : ((List Int × Int) × List (List Int × Int))) (x1232 : List Int) : Option (List Int × Int) :=
  ((yn F x1232).bind fun x1233 => (chk (decide (x1233.length = x1232.length)) (zU F rec29 x1203 x1207 x1233 F (x980, 0))))
def vk (F : Nat) (rec29 : (List Int × List (List Int × Int)) → Option (List Int × Int)) (x980 : List Int) (x985 : List (List Int × Int)) : Option (List Int × Int) :=
  (if (decide (1 < (x985.length : Int))) then ((popM x985).bind fun x1203 => ((popM x1203.2).bind fun x1207 => ((zI F ([x1203.1.1, x1207.1.1] : List (List Int))).bind fun x1402 => yl F rec29 x980 x1203 x1207 x1402))) else vo F x980)
def qQ (F : Nat) : Nat → (List Int × List (List Int × Int)) → Option (List Int × Int)
  | 0 => fun _ => none
  | k + 1 => fun s => vk F (qQ F k) s.1 s.2
def yC (F : Nat) (x88 : List (List Int × Int)) (x107 : List Int) : Option (List Int × Int) :=
  qQ F F (x107, x88)
def vU (F : Nat) (x1 : List Int) (x88 : List (List Int × Int)) : Option (List Int × Int) :=
  ((mk 17592186044416 (0 : Int) (x1.length : Int)).bind fun x89 => (if (((x88.length : Int) : Int) == 1) then ((idx x88 0).bind fun x1417 => ((idx x1417.1 0).bind fun x1422 => ((idx x89 x1422).bind fun _x1425 => (lett (x89.set x1422.toNat 1) fun x1428 => yC F x88 x1428)))) else yC F x88 x89))
def vq (_F : Nat) (rec36 : (Int × List (List Int × Int)) → Option (List Int × Int)) (x1455 : Int) (x1498 : List (List Int × Int)) : Option (List Int × Int) :=
  rec36 (iadd .i64 x1455 1, x1498)
def vm (F : Nat) (x1 : List Int) (rec36 : (Int × List (List Int × Int)) → Option (List Int × Int)) (x1455 : Int) (x1460 : List (List Int × Int)) : Option (List Int × Int) :=
  (if (decide (x1455 < (x1.length : Int))) then ((idx x1 x1455).bind fun x1499 => (if (decide (0 < x1499)) then ((qfG F x1460 ([x1455] : List Int) x1499).bind fun x1504 => vq F rec36 x1455 (insK x1504 x1460 (([x1455] : List Int), x1499))) else vq F rec36 x1455 x1460)) else vU F x1 x1460)
def zL (F : Nat) (x1 : List Int) : Nat → (Int × List (List Int × Int)) → Option (List Int × Int)
  | 0 => fun _ => none
  | k + 1 => fun s => vm F x1 (zL F x1 k) s.1 s.2
def yk (F : Nat) (x1 : List Int) : Option (List Int × Int) :=
  ((qbo F x1).bind fun x6 => (if ((x6 : Int) != 0) then some (([] : List Int), x6) else zL F x1 F (0, ([] : List (List Int × Int)))))
def qbq (_F : Nat) (x1 : List Int) (x116 : List Int) : Option (List Int × Int) :=
  (if (decide (1000 < (x1.length : Int))) then some (([] : List Int), 2) else some (x116, 0))
def vV (F : Nat) (x1 : List Int) (x4 : Int) (rec3 : (List Int × Int) → Option (List Int × Int)) (x153 : List Int) (x154 : Int) : Option (List Int × Int) :=
  (if (decide (x154 < (x1.length : Int))) then ((idx x1 x154).bind fun x207 => (if ((decide (x207 < 0)) || (decide (x4 ≤ x207))) then some (([] : List Int), 3) else ((idx x153 x207).bind fun x213 => ((idx x153 x207).bind fun _x216 => (lett (x153.set x207.toNat (iadd .i64 x213 1)) fun x219 => rec3 (x219, iadd .i64 x154 1)))))) else qbq F x1 x153)
def kM (F : Nat) (x1 : List Int) (x4 : Int) : Nat → (List Int × Int) → Option (List Int × Int)
  | 0 => fun _ => none
  | k + 1 => fun s => vV F x1 x4 (kM F x1 x4 k) s.1 s.2
def qbp (F : Nat) (x1 : List Int) (x4 : Int) : Option (List Int × Int) :=
  (if ((decide (x4 < 0)) || (decide (64 < x4))) then some (([] : List Int), 3) else ((mk 17592186044416 (0 : Int) x4).bind fun x8 => kM F x1 x4 F (x8, 0)))
def qcQ (_F : Nat) (x10 : (List Int × Int)) (x259 : Int) (x262 : List Int) : Option (List Int × Int × List Int × Int) :=
  some (x10.1, x259, x262, 0)
def qbn (F : Nat) (x1 : List Int) (x10 : (List Int × Int)) (x14 : (List (Int × List Int) × Int)) (rec3 : (Int × Int × List Int) → Option (List Int × Int × List Int × Int)) (x342 : Int) (x343 : Int) (x346 : List Int) : Option (List Int × Int × List Int × Int) :=
  (if (decide (x342 < (x1.length : Int))) then ((idx x1 x342).bind fun x465 => ((idx x14.1 x465).bind fun x487 => (if (decide (8192 < (iadd .i64 x343 x487.1))) then some (([] : List Int), 0, ([] : List Int), 8) else ((idx x14.1 x465).bind fun x493 => ((jl F x343 x346 x493.1 x493.2).bind fun x499 => rec3 (iadd .i64 x342 1, x499.1, x499.2)))))) else qcQ F x10 x343 x346)
def yT (F : Nat) (x1 : List Int) (x10 : (List Int × Int)) (x14 : (List (Int × List Int) × Int)) : Nat → (Int × Int × List Int) → Option (List Int × Int × List Int × Int)
  | 0 => fun _ => none
  | k + 1 => fun s => qbn F x1 x10 x14 (yT F x1 x10 x14 k) s.1 s.2.1 s.2.2
def qb3 (F : Nat) (x1 : List Int) (x4 : Int) : Option (List Int × Int × List Int × Int) :=
  ((qbp F x1 x4).bind fun x6 => (if ((x6.2 : Int) != 0) then some (([] : List Int), 0, ([] : List Int), x6.2) else ((yk F x6.1).bind fun x10 => (if ((x10.2 : Int) != 0) then some (([] : List Int), 0, ([] : List Int), x10.2) else ((z8 F x10.1).bind fun x14 => yT F x1 x10 x14 F (0, 0, ([] : List Int)))))))
def qbs (_F : Nat) (x88 : Int) : Option (Int × Int × Int) :=
  some (0, 0, x88)
def v8 (_F : Nat) (rec18 : (Int × Int) → Option (Int × Int × Int)) (x115 : Int) (x154 : Int) : Option (Int × Int × Int) :=
  rec18 (x154, iadd .i64 x115 1)
def ja (F : Nat) (rec18 : (Int × Int) → Option (Int × Int × Int)) (x4 : Int) (x8 : Int) (x114 : Int) (x115 : Int) (x155 : (Int × List Int)) (x162 : Bool) : Option (Int × Int × Int) :=
  (if x162 then v8 F rec18 x115 x114 else (if (decide ((isub .i64 x4 x8) < x155.1)) then v8 F rec18 x115 7 else some (x115, iadd .i64 x8 x155.1, 0)))
def v7 (F : Nat) (x1 : List (Int × List Int)) (x4 : Int) (x5 : List Int) (x8 : Int) (rec18 : (Int × Int) → Option (Int × Int × Int)) (x114 : Int) (x115 : Int) : Option (Int × Int × Int) :=
  (if (decide (x115 < (x1.length : Int))) then ((idx x1 x115).bind fun x155 => (if ((x155.1 : Int) == 0) then ja F rec18 x4 x8 x114 x115 x155 true else ((yV F x4 x5 x8 x155.1 x155.2).bind fun x165 => ja F rec18 x4 x8 x114 x115 x155 (!x165)))) else qbs F x114)
def zR (F : Nat) (x1 : List (Int × List Int)) (x4 : Int) (x5 : List Int) (x8 : Int) : Nat → (Int × Int) → Option (Int × Int × Int)
  | 0 => fun _ => none
  | k + 1 => fun s => v7 F x1 x4 x5 x8 (zR F x1 x4 x5 x8 k) s.1 s.2
def qar (F : Nat) (x1 : List (Int × List Int)) (x4 : Int) (x5 : List Int) (x8 : Int) : Option (Int × Int × Int) :=
  zR F x1 x4 x5 x8 F (5, 0)
def ye (_F : Nat) (x63 : List Int) (x67 : Int) : Option (List Int × Int) :=
  (if ((x67 : Int) != 0) then some (([] : List Int), x67) else some (x63, 0))
def yU (F : Nat) (x4 : Int) (x60 : Int) (x63 : List Int) (x64 : Int) : Option (List Int × Int) :=
  (if (((x60 : Int) == 0) && (decide (x64 < x4))) then ye F x63 1 else ye F x63 x60)
def zV (F : Nat) (x4 : Int) (x5 : List Int) (x8 : Int) (x10 : (List (Int × List Int) × Int)) (rec7 : (Int × List Int × Int) → Option (List Int × Int)) (x83 : Int) (x86 : List Int) (x87 : Int) : Option (List Int × Int) :=
  (if (((x83 : Int) == 0) && (decide ((x86.length : Int) < x8))) then ((qar F x10.1 x4 x5 x87).bind fun x102 => ((app 8796093022208 x86 ([x102.1] : List Int)).bind fun x105 => rec7 (x102.2.2, x105, x102.2.1))) else yU F x4 x83 x86 x87)
def zB (F : Nat) (x4 : Int) (x5 : List Int) (x8 : Int) (x10 : (List (Int × List Int) × Int)) : Nat → (Int × List Int × Int) → Option (List Int × Int)
  | 0 => fun _ => none
  | k + 1 => fun s => zV F x4 x5 x8 x10 (zB F x4 x5 x8 x10 k) s.1 s.2.1 s.2.2
def j6 (F : Nat) (x4 : Int) (x5 : List Int) (x8 : Int) (x10 : (List (Int × List Int) × Int)) (x21 : Int) : Option (List Int × Int) :=
  zB F x4 x5 x8 x10 F (x21, ([] : List Int), 0)
def j7 (F : Nat) (x4 : Int) (x5 : List Int) (x8 : Int) (x10 : (List (Int × List Int) × Int)) (x15 : Int) (x111 : Bool) : Option (List Int × Int) :=
  (if x111 then j6 F x4 x5 x8 x10 3 else j6 F x4 x5 x8 x10 x15)
def j5 (F : Nat) (x4 : Int) (x5 : List Int) (x8 : Int) (x10 : (List (Int × List Int) × Int)) (x15 : Int) : Option (List Int × Int) :=
  (if ((x15 : Int) == 0) then j7 F x4 x5 x8 x10 x15 ((decide (x8 < 0)) || (decide (1000 < x8))) else j7 F x4 x5 x8 x10 x15 false)
def vL (F : Nat) (x1 : List Int) (x4 : Int) (x5 : List Int) (x8 : Int) : Option (List Int × Int) :=
  ((z8 F x1).bind fun x10 => (if ((x10.2 : Int) == 0) then ((zE F x4 x5).bind fun x114 => j5 F x4 x5 x8 x10 x114) else j5 F x4 x5 x8 x10 x10.2))
def qd9 (_F : Nat) (x24 : Int) : Option (Int × Bool) :=
  some (x24, true)
def qd8 (F : Nat) (x1 : Int) (x2 : List Int) (x5 : Int) (x6 : Int) (rec3 : (Int × Int) → Option (Int × Bool)) (x29 : Int) (x30 : Int) : Option (Int × Bool) :=
  (if (decide (x30 < x6)) then ((vH F x1 x2 (iadd .i64 x5 x30)).bind fun x38 => rec3 (ior .u64 (ishl .u64 x29 1) x38, iadd .i64 x30 1)) else qd9 F x29)
def qbb (F : Nat) (x1 : Int) (x2 : List Int) (x5 : Int) (x6 : Int) : Nat → (Int × Int) → Option (Int × Bool)
  | 0 => fun _ => none
  | k + 1 => fun s => qd8 F x1 x2 x5 x6 (qbb F x1 x2 x5 x6 k) s.1 s.2
def qaZ (F : Nat) (x1 : Int) (x2 : List Int) (x5 : Int) (x6 : Int) : Option (Int × Bool) :=
  (if (decide ((isub .i64 x1 x5) < x6)) then some (0, false) else qbb F x1 x2 x5 x6 F (0, 0))
def qde (F : Nat) (x1 : Int) (x2 : List Int) (x5 : Int) (x6 : Int) (x18 : Int) : Option (Int × Int) :=
  (if ((x18 : Int) != 0) then some (0, x18) else ((qaZ F x1 x2 x5 x6).bind fun x20 => (if (!x20.2) then some (0, 7) else some (x20.1, 0))))
def qdf (F : Nat) (x1 : Int) (x2 : List Int) (x5 : Int) (x6 : Int) (x8 : Int) (x28 : Bool) : Option (Int × Int) :=
  (if x28 then qde F x1 x2 x5 x6 3 else qde F x1 x2 x5 x6 x8)
def qeO (F : Nat) (x1 : Int) (x2 : List Int) (x5 : Int) (x6 : Int) : Option (Int × Int) :=
  ((zE F x1 x2).bind fun x8 => (if ((x8 : Int) == 0) then qdf F x1 x2 x5 x6 x8 ((((decide (x6 < 0)) || (decide (64 < x6))) || (decide (x5 < 0))) || (decide (x1 < x5))) else qdf F x1 x2 x5 x6 x8 false))
def qbK (_F : Nat) (x42 : Bool) : Option Bool :=
  some x42
def qbJ (F : Nat) (x14 : (Int × List Int × Int)) (x18 : (Int × Int)) (x35 : Bool) : Option Bool :=
  (if ((x35 && ((x14.2.2 : Int) == 0)) && ((x18.2 : Int) == 7)) then ((zE F 3 ([1] : List Int)).bind fun x45 => qbK F ((x45 : Int) == 1)) else qbK F false)
def qbI (F : Nat) (x1 : (Int × List Int × Int)) (x5 : (Int × List Int × Int)) (x9 : (Int × Int)) (x10 : (Int × List Int × Int)) (x14 : (Int × List Int × Int)) (x18 : (Int × Int)) (x27 : Bool) : Option Bool :=
  (if (((((x27 && ((x5.2.2 : Int) == 0)) && ((x9.1 : Int) == 9)) && ((x9.2 : Int) == 0)) && ((x10.1 : Int) == 13)) && ((x10.2.2 : Int) == 0)) then ((qX F x14.1 x14.2.1 x1.1 x1.2.1).bind fun x46 => qbJ F x14 x18 x46) else qbJ F x14 x18 false)
def qbU (F : Nat)  : Option Bool :=
  ((qbM F 0 ([] : List Int) 5 3).bind fun x1 => ((qbM F x1.1 x1.2.1 9 7).bind fun x5 => ((qeO F x5.1 x5.2.1 3 7).bind fun x9 => ((qbZ F x1.1 x1.2.1 x5.1 x5.2.1).bind fun x10 => ((qcJ F x5.1 x5.2.1 0 3).bind fun x14 => ((qeO F x5.1 x5.2.1 9 2).bind fun x18 => ((qX F x1.1 x1.2.1 3 ([160] : List Int)).bind fun x21 => (if (x21 && ((x1.2.2 : Int) == 0)) then ((qX F x5.1 x5.2.1 10 ([162, 64] : List Int)).bind fun x49 => qbI F x1 x5 x9 x10 x14 x18 x49) else qbI F x1 x5 x9 x10 x14 x18 false))))))))
def qdU (_F : Nat) : Option Bool :=
  some true
def qce (F : Nat) (x1 : List Int) (x4 : List Int) (rec3 : Int → Option Bool) (x154 : Int) : Option Bool :=
  (if (decide (x154 < (x1.length : Int))) then ((idx x1 x154).bind fun x218 => ((idx x4 x154).bind fun x222 => (if ((x218 : Int) != x222) then some false else rec3 (iadd .i64 x154 1)))) else qdU F)
def yq (F : Nat) (x1 : List Int) (x4 : List Int) : Nat → Int → Option Bool
  | 0 => fun _ => none
  | k + 1 => fun s => qce F x1 x4 (yq F x1 x4 k) s
def jX (F : Nat) (x1 : List Int) (x4 : List Int) : Option Bool :=
  (if (((x1.length : Int) : Int) != (x4.length : Int)) then some false else yq F x1 x4 F 0)
def qfi (F : Nat) (x1 : Int) : Option (Int × List Int × Int) :=
  (if (decide (8192 ≤ x1)) then some (0, ([] : List Int), 3) else ((va F x1).bind fun x4 => some (x4.1, x4.2, 0)))
def qci (F : Nat) (x1 : Int) (x2 : List Int) (x5 : Int) (x13 : Int) : Option (Int × Int × Int) :=
  (if ((x13 : Int) != 0) then some (0, 0, x13) else ((yD F x1 x2 x5).bind fun x15 => (if (!x15.2.2) then some (0, 0, 7) else some (x15.1, x15.2.1, 0))))
def qcj (F : Nat) (x1 : Int) (x2 : List Int) (x5 : Int) (x7 : Int) (x21 : Bool) : Option (Int × Int × Int) :=
  (if x21 then qci F x1 x2 x5 3 else qci F x1 x2 x5 x7)
def qdA (F : Nat) (x1 : Int) (x2 : List Int) (x5 : Int) : Option (Int × Int × Int) :=
  ((zE F x1 x2).bind fun x7 => (if ((x7 : Int) == 0) then qcj F x1 x2 x5 x7 ((decide (x5 < 0)) || (decide (x1 < x5))) else qcj F x1 x2 x5 x7 false))
def qba (_F : Nat) (x12 : (List Int × Int × Int)) (x15 : (Int × Int × Int)) (x33 : Bool) : Option Bool :=
  some (((x33 && ((x12.2.1 : Int) == 4)) && ((x12.2.2 : Int) == 0)) && ((x15.2.2 : Int) == 7))
def qa9 (F : Nat) (x8 : (Int × List Int × Int)) (x12 : (List Int × Int × Int)) (x15 : (Int × Int × Int)) (x27 : Bool) : Option Bool :=
  (if (x27 && ((x8.2.2 : Int) == 0)) then ((jX F x12.1 ([0, 2] : List Int)).bind fun x39 => qba F x12 x15 x39) else qba F x12 x15 false)
def qa8 (F : Nat)  : Option Bool :=
  ((qfi F 3).bind fun x1 => ((qdA F x1.1 x1.2.1 1).bind fun x5 => ((qbx F ([0, 2, 1] : List Int)).bind fun x8 => ((qb4 F x8.1 x8.2.1 2).bind fun x12 => ((qdA F 0 ([] : List Int) 0).bind fun x15 => ((qX F x1.1 x1.2.1 4 ([16] : List Int)).bind fun x18 => (if ((((x18 && ((x1.2.2 : Int) == 0)) && ((x5.1 : Int) == 2)) && ((x5.2.1 : Int) == 4)) && ((x5.2.2 : Int) == 0)) then ((qX F x8.1 x8.2.1 6 ([148] : List Int)).bind fun x42 => qa9 F x8 x12 x15 x42) else qa9 F x8 x12 x15 false)))))))
def qdm (F : Nat) (x1 : Int) : Option (Int × List Int) :=
  ((vi F x1).bind fun x3 => ((yR F (iconv .u64 x3)).bind fun x4 => ((qb0 F (iadd .u64 x1 1) x3).bind fun x7 => ((kb F x4.1 x4.2 x7 x3).bind fun x8 => some (x8.1, x8.2)))))
def vT (F : Nat) (x1 : Int) : Option (Int × List Int × Int) :=
  (if (decide (1099511627776 < x1)) then some (0, ([] : List Int), 3) else ((qdm F x1).bind fun x4 => some (x4.1, x4.2, 0)))
def qeG (F : Nat) (x1 : Int) : Option (Int × List Int × Int) :=
  ((vT F x1).bind fun x3 => some (x3.1, x3.2.1, x3.2.2))
def qcn (F : Nat) (x1 : Int) (x2 : List Int) (x5 : Int) : Option (Int × Int × Int) :=
  ((yD F x1 x2 x5).bind fun x7 => (if (!x7.2.2) then some (0, 0, 7) else some (x7.1, x7.2.1, 0)))
def kA (F : Nat) (x1 : Int) (x2 : List Int) (x5 : Int) : Option (Int × Int × Int) :=
  ((qcn F x1 x2 x5).bind fun x7 => (if ((x7.2.2 : Int) != 0) then some (0, 0, x7.2.2) else (if (decide (64 ≤ x7.1)) then some (0, 0, 3) else ((qaZ F x1 x2 x7.2.1 (iconv .i64 x7.1)).bind fun x10 => (if (!x10.2) then some (0, 0, 7) else (chk (decide (0 ≤ x7.1)) ((lett (iadd .u64 x10.1 (isub .u64 (ishl .u64 1 x7.1) 1)) fun x16 => (if (decide (1099511627776 < x16)) then some (0, 0, 3) else some (x16, iadd .i64 x7.2.1 (iconv .i64 x7.1), 0))))))))))
def qbd (F : Nat) (x1 : Int) (x2 : List Int) (x5 : Int) : Option (Int × Int × Int) :=
  ((kA F x1 x2 x5).bind fun x7 => some (x7.1, x7.2.1, x7.2.2))
def jY (_F : Nat) (x13 : Int) : Option Int :=
  some x13
def jZ (F : Nat) (x7 : Int) (x16 : Bool) : Option Int :=
  (if x16 then jY F 3 else jY F x7)
def k8 (F : Nat) (x1 : Int) (x2 : List Int) (x5 : Int) : Option Int :=
  ((zE F x1 x2).bind fun x7 => (if ((x7 : Int) == 0) then jZ F x7 ((decide (x5 < 0)) || (decide (x1 < x5))) else jZ F x7 false))
def vE (F : Nat) (x1 : Int) (x2 : List Int) (x5 : Int) : Option (Int × Int × Int) :=
  ((k8 F x1 x2 x5).bind fun x9 => (if ((x9 : Int) != 0) then some (0, 0, x9) else ((qbd F x1 x2 x5).bind fun x10 => some (x10.1, x10.2.1, x10.2.2))))
def qbe (F : Nat) (x1 : Int) (x2 : List Int) (x5 : Int) : Option (Int × Int × Int) :=
  ((vE F x1 x2 x5).bind fun x7 => some (x7.1, x7.2.1, x7.2.2))
def kK (F : Nat) (x1 : Int) (x2 : List Int) (x5 : Int) : Option (Int × Int × Int) :=
  ((qbd F x1 x2 x5).bind fun x7 => (if ((x7.2.2 : Int) != 0) then some (0, 0, x7.2.2) else (if (decide (64 ≤ x7.1)) then some (0, 0, 3) else ((qaZ F x1 x2 x7.2.1 (iconv .i64 x7.1)).bind fun x10 => (if (!x10.2) then some (0, 0, 7) else (chk (decide (0 ≤ x7.1)) ((lett (iadd .u64 x10.1 (isub .u64 (ishl .u64 1 x7.1) 1)) fun x16 => (if (decide (1099511627776 < x16)) then some (0, 0, 3) else some (x16, iadd .i64 x7.2.1 (iconv .i64 x7.1), 0))))))))))
def qc0 (F : Nat) (x1 : Int) (x2 : List Int) (x5 : Int) : Option (Int × Int × Int) :=
  ((kK F x1 x2 x5).bind fun x7 => some (x7.1, x7.2.1, x7.2.2))
def vD (F : Nat) (x1 : Int) (x2 : List Int) (x5 : Int) : Option (Int × Int × Int) :=
  ((k8 F x1 x2 x5).bind fun x9 => (if ((x9 : Int) != 0) then some (0, 0, x9) else ((qc0 F x1 x2 x5).bind fun x10 => some (x10.1, x10.2.1, x10.2.2))))
def qc1 (F : Nat) (x1 : Int) (x2 : List Int) (x5 : Int) : Option (Int × Int × Int) :=
  ((vD F x1 x2 x5).bind fun x7 => some (x7.1, x7.2.1, x7.2.2))
def qff (F : Nat) (x1 : Int) : Option (Int × Int × Int) :=
  (if (decide (1099511627776 < x1)) then some (0, 0, 3) else ((vi F x1).bind fun x3 => ((vi F (iconv .u64 x3)).bind fun x4 => (lett (iadd .i64 (iadd .i64 (imul .i64 2 x4) 1) x3) fun x5 => some (iadd .i64 (imul .i64 2 x3) 1, x5, 0)))))
def qa3 (_F : Nat) (x5 : (Int × List Int × Int)) (x9 : (Int × Int × Int)) (x10 : (Int × Int × Int)) (x11 : (Int × Int × Int)) (x12 : (Int × Int × Int)) (x13 : (Int × List Int × Int)) (x25 : Bool) : Option Bool :=
  some ((((((((((((x25 && ((x5.2.2 : Int) == 0)) && ((x9.1 : Int) == 4)) && ((x9.2.1 : Int) == 5)) && ((x9.2.2 : Int) == 0)) && ((x10.1 : Int) == 9)) && ((x10.2.1 : Int) == 8)) && ((x10.2.2 : Int) == 0)) && ((x11.1 : Int) == 7)) && ((x11.2.1 : Int) == 8)) && ((x11.2.2 : Int) == 0)) && ((x12.2.2 : Int) == 7)) && ((x13.2.2 : Int) == 3))
def qa2 (F : Nat)  : Option Bool :=
  ((vK F 4).bind fun x1 => ((qeG F 9).bind fun x5 => ((qbe F x1.1 x1.2.1 0).bind fun x9 => ((qc1 F x5.1 x5.2.1 0).bind fun x10 => ((qff F 9).bind fun x11 => ((qbe F x1.1 x1.2.1 5).bind fun x12 => ((vK F 1099511627777).bind fun x13 => ((qX F x1.1 x1.2.1 5 ([40] : List Int)).bind fun x19 => (if (x19 && ((x1.2.2 : Int) == 0)) then ((qX F x5.1 x5.2.1 8 ([34] : List Int)).bind fun x40 => qa3 F x5 x9 x10 x11 x12 x13 x40) else qa3 F x5 x9 x10 x11 x12 x13 false)))))))))
def qcO (F : Nat) (x1 : Int) (x2 : Int) : Option (Int × List Int × Int) :=
  ((yj F x2).bind fun x7 => (if ((!x7) || (decide (x2 ≤ x1))) then some (0, ([] : List Int), 3) else ((kL F 0 ([] : List Int) x1 x2).bind fun x9 => some (x9.1, x9.2, 0))))
def qeJ (F : Nat) (x1 : Int) (x2 : Int) : Option (Int × Int × Int) :=
  ((kP F (iadd .u64 x1 1)).bind fun x3 => (chk ((x2 : Int) != 0) ((chk (decide (0 ≤ (imul .i64 (iquo .i64 (isub .i64 x3 1) x2) x2))) ((chk (decide (0 ≤ (iadd .i64 (imul .i64 (iquo .i64 (isub .i64 x3 1) x2) x2) x2))) (some (iquo .i64 (isub .i64 x3 1) x2, ishl .u64 1 (imul .i64 (iquo .i64 (isub .i64 x3 1) x2) x2), ishl .u64 1 (iadd .i64 (imul .i64 (iquo .i64 (isub .i64 x3 1) x2) x2) x2)))))))))
def qeI (F : Nat) (x1 : Int) (x2 : Int) : Option (Int × List Int × Int) :=
  (if (((decide (x2 < 1)) || (decide (16 < x2))) || (decide (1099511627776 < x1))) then some (0, ([] : List Int), 3) else ((qeJ F x1 x2).bind fun x9 => ((va F (iconv .u64 x9.1)).bind fun x10 => ((kL F x10.1 x10.2 (isub .u64 (iadd .u64 x1 1) x9.2.1) (isub .u64 x9.2.2 x9.2.1)).bind fun x13 => some (x13.1, x13.2, 0)))))
def je (_F : Nat) : Option Int :=
  some (-1)
def jd (F : Nat) (x1 : List Bool) (x4 : Bool) (rec3 : Int → Option Int) (x47 : Int) : Option Int :=
  (if (decide (x47 < (x1.length : Int))) then ((idx x1 x47).bind fun x64 => (if (x4 == x64) then some x47 else rec3 (iadd .i64 x47 1))) else je F)
def zY (F : Nat) (x1 : List Bool) (x4 : Bool) : Nat → Int → Option Int
  | 0 => fun _ => none
  | k + 1 => fun s => jd F x1 x4 (zY F x1 x4 k) s
def qas (F : Nat) (x1 : List Bool) (x4 : Bool) : Option Int :=
  zY F x1 x4 F 0
def jc (F : Nat) (x1 : List Bool) (x4 : Bool) : Option Bool :=
  ((qas F x1 x4).bind fun x5 => some (decide (0 ≤ x5)))
def qbi (_F : Nat) (x16 : Int) : Option Int :=
  some x16
def qbj (F : Nat) (x10 : Int) (x19 : Bool) : Option Int :=
  (if x19 then qbi F 3 else qbi F x10)
def qbh (F : Nat) (x1 : Int) (x2 : List Int) (x5 : Int) (x6 : List Bool) : Option Int :=
  ((k8 F x1 x2 x5).bind fun x10 => (if ((x10 : Int) == 0) then ((jc F x6 false).bind fun x21 => qbj F x10 x21) else qbj F x10 false))
def vP (F : Nat) (x1 : Int) (x2 : List Int) (x5 : Int) (x8 : (Int × Int)) : Option (Int × Int × Bool) :=
  ((qaZ F x1 x2 x5 x8.1).bind fun x14 => some (isub .u64 x14.1 x8.2, iadd .i64 x5 x8.1, x14.2))
def vj (F : Nat) (x1 : Int) (x2 : List Int) (x5 : Int) (x6 : Int) : Option (Int × Int × Bool) :=
  ((jq F x6).bind fun x8 => (if (decide (0 < x8.2)) then ((qaZ F x1 x2 x5 (isub .i64 x8.1 1)).bind fun x15 => (if (!x15.2) then some (0, 0, false) else (if (decide (x15.1 < x8.2)) then some (x15.1, isub .i64 (iadd .i64 x5 x8.1) 1, true) else vP F x1 x2 x5 x8))) else vP F x1 x2 x5 x8))
def qbk (_F : Nat) (x1 : Int) (x2 : Int) (x3 : Bool) : Option (Int × Int × Int) :=
  (if (!x3) then some (0, 0, 7) else (if (decide (1099511627776 < x1)) then some (0, 0, 3) else some (x1, x2, 0)))
def qeH (F : Nat) (x1 : Int) (x2 : List Int) (x5 : Int) (x6 : Int) : Option (Int × Int × Int) :=
  ((yj F x6).bind fun x21 => ((qbh F x1 x2 x5 ([x21] : List Bool)).bind fun x24 => (if ((x24 : Int) != 0) then some (0, 0, x24) else ((yD F x1 x2 x5).bind fun x25 => (if (x25.2.2 && (decide (8128 ≤ x25.1))) then some (0, 0, 3) else (if (!x25.2.2) then some (0, 0, 7) else ((vj F x1 x2 x25.2.1 x6).bind fun x30 => ((qbk F (iadd .u64 (imul .u64 x25.1 x6) x30.1) x30.2.1 x30.2.2).bind fun x31 => some (x31.1, x31.2.1, x31.2.2)))))))))
def qc2 (F : Nat) (x1 : Int) (x2 : List Int) (x5 : Int) (x6 : Int) : Option (Int × Int × Int) :=
  ((yD F x1 x2 x5).bind fun x8 => (if (!x8.2.2) then some (0, 0, 7) else (if (decide (41 ≤ (imul .u64 x8.1 (iconv .u64 x6)))) then some (0, 0, 3) else (chk (decide (0 ≤ (imul .i64 (iconv .i64 x8.1) x6))) ((lett (ishl .u64 1 (imul .i64 (iconv .i64 x8.1) x6)) fun x12 => (chk (decide (0 ≤ x6)) (((vj F x1 x2 x8.2.1 (isub .u64 (ishl .u64 x12 x6) x12)).bind fun x20 => ((qbk F (isub .u64 (iadd .u64 x12 x20.1) 1) x20.2.1 x20.2.2).bind fun x21 => some (x21.1, x21.2.1, x21.2.2)))))))))))
def qc3 (F : Nat) (x1 : Int) (x2 : List Int) (x5 : Int) (x6 : Int) : Option (Int × Int × Int) :=
  ((qbh F x1 x2 x5 ([(decide (1 ≤ x6)), (decide (x6 ≤ 16))] : List Bool)).bind fun x14 => (if ((x14 : Int) != 0) then some (0, 0, x14) else ((qc2 F x1 x2 x5 x6).bind fun x15 => some (x15.1, x15.2.1, x15.2.2))))
def qcP (F : Nat) (x1 : Int) (x2 : List Int) (x5 : Int) (x6 : Int) : Option (Int × Int × Int) :=
  ((yj F x6).bind fun x21 => ((qbh F x1 x2 x5 ([x21] : List Bool)).bind fun x24 => (if ((x24 : Int) != 0) then some (0, 0, x24) else ((vj F x1 x2 x5 x6).bind fun x25 => ((qbk F x25.1 x25.2.1 x25.2.2).bind fun x26 => some (x26.1, x26.2.1, x26.2.2))))))
def qaQ (_F : Nat) (x9 : (Int × List Int × Int)) (x13 : (Int × Int × Int)) (x14 : (Int × Int × Int)) (x15 : (Int × Int × Int)) (x16 : (Int × List Int × Int)) (x34 : Bool) : Option Bool :=
  some (((((((((((x34 && ((x9.2.2 : Int) == 0)) && ((x13.1 : Int) == 9)) && ((x13.2.1 : Int) == 5)) && ((x13.2.2 : Int) == 0)) && ((x14.1 : Int) == 2)) && ((x14.2.1 : Int) == 3)) && ((x14.2.2 : Int) == 0)) && ((x15.1 : Int) == 3)) && ((x15.2.1 : Int) == 3)) && ((x15.2.2 : Int) == 0)) && ((x16.2.2 : Int) == 3))
def qaP (F : Nat) (x5 : (Int × List Int × Int)) (x9 : (Int × List Int × Int)) (x13 : (Int × Int × Int)) (x14 : (Int × Int × Int)) (x15 : (Int × Int × Int)) (x16 : (Int × List Int × Int)) (x28 : Bool) : Option Bool :=
  (if (x28 && ((x5.2.2 : Int) == 0)) then ((qX F x9.1 x9.2.1 3 ([224] : List Int)).bind fun x48 => qaQ F x9 x13 x14 x15 x16 x48) else qaQ F x9 x13 x14 x15 x16 false)
def qaw (F : Nat)  : Option Bool :=
  ((qcO F 3 5).bind fun x1 => ((qap F 9 4).bind fun x5 => ((qeI F 2 2).bind fun x9 => ((qeH F x5.1 x5.2.1 0 4).bind fun x13 => ((qc3 F x9.1 x9.2.1 0 2).bind fun x14 => ((qcP F x1.1 x1.2.1 0 5).bind fun x15 => ((qcO F 5 5).bind fun x16 => ((qX F x1.1 x1.2.1 3 ([192] : List Int)).bind fun x22 => (if (x22 && ((x1.2.2 : Int) == 0)) then ((qX F x5.1 x5.2.1 5 ([40] : List Int)).bind fun x51 => qaP F x5 x9 x13 x14 x15 x16 x51) else qaP F x5 x9 x13 x14 x15 x16 false)))))))))
def qfg (F : Nat) (x1 : Int) : Option (Int × Int) :=
  (if ((decide (x1 < 0)) || (decide (64 ≤ x1))) then some (0, 3) else ((yL F).bind fun x5 => (chk (decide (x5.length = 64)) (((idx x5 x1).bind fun x7 => some (x7, 0))))))
def qeb (_F : Nat) : Option (Int × Int × Int) :=
  some (0, 0, 7)
def qbf (_F : Nat) (rec25 : (Int × Int × Bool × Int) → Option (Int × Int × Int)) (x226 : Int) (x318 : Int) (x332 : Int) (x333 : Bool) : Option (Int × Int × Int) :=
  rec25 (x332, x318, x333, iadd .i64 x226 1)
def qcM (F : Nat) (rec25 : (Int × Int × Bool × Int) → Option (Int × Int × Int)) (x5 : Int) (x7 : List Int) (x223 : Int) (x224 : Int) (x225 : Bool) (x226 : Int) (x318 : Int) (x337 : Bool) : Option (Int × Int × Int) :=
  (if x337 then some (0, 0, 3) else (if (((x318 : Int) == 1) && ((x224 : Int) == 1)) then some (isub .u64 x223 1, iadd .i64 x226 1, 0) else (if (((x318 : Int) == 1) && (decide (64 ≤ (isub .i64 x226 x5)))) then qbf F rec25 x226 x318 x223 true else (if ((x318 : Int) == 1) then ((idx x7 (isub .i64 x226 x5)).bind fun x340 => qbf F rec25 x226 x318 (iadd .u64 x223 x340) (x225 || (decide (2199023255552 < (iadd .u64 x223 x340))))) else qbf F rec25 x226 x318 x223 x225))))
def qea (F : Nat) (x1 : Int) (x2 : List Int) (x5 : Int) (x7 : List Int) (rec25 : (Int × Int × Bool × Int) → Option (Int × Int × Int)) (x223 : Int) (x224 : Int) (x225 : Bool) (x226 : Int) : Option (Int × Int × Int) :=
  (if (decide (x226 < x1)) then ((vH F x1 x2 x226).bind fun x318 => (if (((x318 : Int) == 1) && ((x224 : Int) == 1)) then qcM F rec25 x5 x7 x223 x224 x225 x226 x318 (x225 || (decide (1099511627776 < (isub .u64 x223 1)))) else qcM F rec25 x5 x7 x223 x224 x225 x226 x318 false)) else qeb F)
def yS (F : Nat) (x1 : Int) (x2 : List Int) (x5 : Int) (x7 : List Int) : Nat → (Int × Int × Bool × Int) → Option (Int × Int × Int)
  | 0 => fun _ => none
  | k + 1 => fun s => qea F x1 x2 x5 x7 (yS F x1 x2 x5 x7 k) s.1 s.2.1 s.2.2.1 s.2.2.2
def qgI (F : Nat) (x1 : Int) (x2 : List Int) (x5 : Int) : Option (Int × Int × Int) :=
  ((yL F).bind fun x7 => (chk (decide (x7.length = 64)) (yS F x1 x2 x5 x7 F (0, 0, false, x5))))
def qeP (F : Nat) (x1 : Int) (x2 : List Int) (x5 : Int) : Option (Int × Int × Int) :=
  ((k8 F x1 x2 x5).bind fun x9 => (if ((x9 : Int) != 0) then some (0, 0, x9) else ((qgI F x1 x2 x5).bind fun x10 => some (x10.1, x10.2.1, x10.2.2))))
def qcd (_F : Nat) (x8 : (Int × List Int × Int)) (x12 : (Int × Int × Int)) (x15 : (Int × Int)) (x16 : (Int × Int × Int)) (x30 : Bool) : Option Bool :=
  some ((((((x30 && ((x8.2.2 : Int) == 0)) && ((x12.1 : Int) == 11)) && ((x12.2.1 : Int) == 6)) && ((x12.2.2 : Int) == 0)) && ((x15.2 : Int) == 4)) && ((x16.2.2 : Int) == 0))
def qcc (F : Nat) (x2 : (List Int × Int)) (x7 : (Int × Int)) (x8 : (Int × List Int × Int)) (x12 : (Int × Int × Int)) (x15 : (Int × Int)) (x16 : (Int × Int × Int)) (x22 : Bool) : Option Bool :=
  (if (((x22 && ((x2.2 : Int) == 0)) && ((x7.1 : Int) == 12)) && ((x7.2 : Int) == 0)) then ((qX F x8.1 x8.2.1 6 ([172] : List Int)).bind fun x39 => qcd F x8 x12 x15 x16 x39) else qcd F x8 x12 x15 x16 false)
def qcr (F : Nat)  : Option Bool :=
  ((qfg F 4).bind fun x1 => ((qb1 F 12).bind fun x2 => ((qcC F ([0, 2, 4] : List Int)).bind fun x7 => ((qcL F 11).bind fun x8 => ((qeP F x8.1 x8.2.1 0).bind fun x12 => ((qcC F ([2, 3] : List Int)).bind fun x15 => ((qeP F x8.1 x8.2.1 4).bind fun x16 => (if (((x1.1 : Int) == 8) && ((x1.2 : Int) == 0)) then ((ka F x2.1 ([0, 2, 4] : List Int)).bind fun x42 => qcc F x2 x7 x8 x12 x15 x16 x42) else qcc F x2 x7 x8 x12 x15 x16 false))))))))
def qbX (F : Nat) (x1 : List Int) (x4 : Int) : Option (Int × Int × Int) :=
  (if (decide (4096 < (x1.length : Int))) then some (0, 0, 2) else (if ((decide (x4 < 0)) || (decide ((x1.length : Int) < x4))) then some (0, 0, 3) else ((qat F x1 x4).bind fun x9 => some (x9.1, x9.2.1, x9.2.2))))
def qdh (_F : Nat) (x1 : Int) : Option Int :=
  (lett (ixor .u64 (ishl .u64 (iconv .u64 x1) 1) (iconv .u64 (ishr .i64 x1 63))) fun x2 => some x2)
def qd0 (_F : Nat) (x1 : Int) : Option Int :=
  (lett (ixor .i64 (iconv .i64 (ishr .u64 x1 1)) (isub .i64 0 (iconv .i64 (iand .u64 x1 1)))) fun x2 => some x2)
def qaU (_F : Nat) (x39 : Bool) : Option Bool :=
  some x39
def qaT (F : Nat) (x36 : Bool) : Option Bool :=
  (if x36 then ((qd0 F 3).bind fun x40 => qaU F ((x40 : Int) == (-2))) else qaU F false)
def qaS (F : Nat) (x33 : Bool) : Option Bool :=
  (if x33 then ((qdh F 2).bind fun x41 => qaT F ((x41 : Int) == 4)) else qaT F false)
def qaR (F : Nat) (x7 : (List Int × Int)) (x12 : (Int × Int × Int)) (x15 : (Int × Int × Int)) (x27 : Bool) : Option Bool :=
  (if (((x27 && ((x7.2 : Int) == 0)) && ((x12.2.2 : Int) == 1)) && ((x15.2.2 : Int) == 7)) then ((qdh F (-1)).bind fun x42 => qaS F ((x42 : Int) == 1)) else qaS F false)
def qaA (F : Nat)  : Option Bool :=
  ((js F ([300, 0] : List Int)).bind fun x3 => ((qbX F x3.1 0).bind fun x6 => ((qby F x3.1).bind fun x7 => ((qbX F ([128, 0] : List Int) 0).bind fun x12 => ((qbX F ([128] : List Int) 0).bind fun x15 => ((z7 F x3.1 ([172, 2, 0] : List Int)).bind fun x18 => (if ((((x18 && ((x3.2 : Int) == 0)) && ((x6.1 : Int) == 300)) && ((x6.2.1 : Int) == 2)) && ((x6.2.2 : Int) == 0)) then ((jX F x7.1 ([300, 0] : List Int)).bind fun x45 => qaR F x7 x12 x15 x45) else qaR F x7 x12 x15 false)))))))
def qct (F : Nat) (x1 : List Int) : Option (Int × Int) :=
  ((vM F x1).bind fun x6 => (if ((x6 : Int) != 0) then some (0, x6) else ((qbv F x1).bind fun x7 => some (x7, 0))))
def qaE (F : Nat) (x4 : Int) (x5 : List Int) (x8 : Int) (x10 : (List (Int × List Int) × Int)) (x15 : Int) : Option (Int × Int × Int) :=
  (if ((x15 : Int) != 0) then some (0, 0, x15) else ((qar F x10.1 x4 x5 x8).bind fun x17 => some (x17.1, x17.2.1, x17.2.2)))
def qbt (F : Nat) (x1 : List Int) (x4 : Int) (x5 : List Int) (x8 : Int) : Option (Int × Int × Int) :=
  ((z8 F x1).bind fun x10 => (if ((x10.2 : Int) == 0) then ((k8 F x4 x5 x8).bind fun x19 => qaE F x4 x5 x8 x10 x19) else qaE F x4 x5 x8 x10 x10.2))
def qa5 (_F : Nat) (x12 : (Bool × Int)) (x15 : (Int × Int × Int)) (x18 : (List (Int × List Int) × Int)) (x25 : (Int × Int × Int)) (x55 : Bool) : Option Bool :=
  some (((((((x55 && x12.1) && ((x12.2 : Int) == 0)) && ((x15.1 : Int) == 3)) && ((x15.2.1 : Int) == 4)) && ((x15.2.2 : Int) == 0)) && ((x18.2 : Int) == 8)) && ((x25.2.2 : Int) == 5))
def vS (F : Nat) (x4 : (List (Int × List Int) × Int)) (x12 : (Bool × Int)) (x15 : (Int × Int × Int)) (x18 : (List (Int × List Int) × Int)) (x25 : (Int × Int × Int)) (x45 : Bool) : Option Bool :=
  (if x45 then ((idx x4.1 4).bind fun x63 => ((qX F x63.1 x63.2 3 ([224] : List Int)).bind fun x70 => qa5 F x12 x15 x18 x25 x70)) else qa5 F x12 x15 x18 x25 false)
def vR (F : Nat) (x4 : (List (Int × List Int) × Int)) (x12 : (Bool × Int)) (x15 : (Int × Int × Int)) (x18 : (List (Int × List Int) × Int)) (x25 : (Int × Int × Int)) (x35 : Bool) : Option Bool :=
  (if x35 then ((idx x4.1 2).bind fun x71 => ((qX F x71.1 x71.2 1 ([0] : List Int)).bind fun x78 => vS F x4 x12 x15 x18 x25 x78)) else vS F x4 x12 x15 x18 x25 false)
def qa4 (F : Nat)  : Option Bool :=
  ((qct F ([2, 0, 1, 3, 3] : List Int)).bind fun x3 => ((z8 F ([2, 0, 1, 3, 3] : List Int)).bind fun x4 => (if ((((x3.2 : Int) != 0) || ((x4.2 : Int) != 0)) || (((x4.1.length : Int) : Int) != 5)) then some false else ((qaq F x4.1).bind fun x12 => ((qbt F ([2, 0, 1, 3, 3] : List Int) 4 ([96] : List Int) 1).bind fun x15 => ((z8 F ([1, 1, 1] : List Int)).bind fun x18 => ((qbt F ([2] : List Int) 1 ([128] : List Int) 0).bind fun x25 => (if ((x3.1 : Int) == 0) then ((idx x4.1 0).bind fun x79 => ((qX F x79.1 x79.2 2 ([128] : List Int)).bind fun x86 => vR F x4 x12 x15 x18 x25 x86)) else vR F x4 x12 x15 x18 x25 false))))))))
def qdW (_F : Nat) (x168 : Int) : Option (Int × Int) :=
  some (x168, 0)
def qaD (_F : Nat) (rec25 : (Int × Int) → Option (Int × Int)) (x4 : List Int) (x219 : Int) (x220 : Int) (x297 : Int) (x313 : Bool) : Option (Int × Int) :=
  (if x313 then some (0, 4) else ((idx x4 x220).bind fun x314 => rec25 (iadd .i64 x219 (imul .i64 x297 x314), iadd .i64 x220 1)))
def qaC (F : Nat) (x1 : List Int) (x4 : List Int) (rec25 : (Int × Int) → Option (Int × Int)) (x219 : Int) (x220 : Int) : Option (Int × Int) :=
  (if (decide (x220 < (x1.length : Int))) then ((idx x1 x220).bind fun x297 => (if (decide (0 < x297)) then ((idx x4 x220).bind fun x318 => qaD F rec25 x4 x219 x220 x297 ((x318 : Int) == 0)) else qaD F rec25 x4 x219 x220 x297 false)) else qdW F x219)
def kW (F : Nat) (x1 : List Int) (x4 : List Int) : Nat → (Int × Int) → Option (Int × Int)
  | 0 => fun _ => none
  | k + 1 => fun s => qaC F x1 x4 (kW F x1 x4 k) s.1 s.2
def qbm (F : Nat) (x1 : List Int) (x4 : List Int) (x13 : Int) : Option (Int × Int) :=
  (if ((x13 : Int) != 0) then some (0, x13) else kW F x1 x4 F (0, 0))
def qbl (F : Nat) (x1 : List Int) (x4 : List Int) (x10 : Int) : Option (Int × Int) :=
  (if ((x10 : Int) == 0) then ((qbo F x1).bind fun x323 => qbm F x1 x4 x323) else qbm F x1 x4 x10)
def qc4 (F : Nat) (x1 : List Int) (x4 : List Int) : Option (Int × Int) :=
  ((vM F x4).bind fun x7 => (if (((x7 : Int) == 0) && (((x1.length : Int) : Int) != (x4.length : Int))) then qbl F x1 x4 1 else qbl F x1 x4 x7))
def qbL (_F : Nat) (x25 : (List Int × Int)) (x52 : Bool) : Option Bool :=
  some (x52 && ((x25.2 : Int) == 0))
def jW (F : Nat) (x17 : (List Int × Int)) (x20 : (List Int × Int)) (x25 : (List Int × Int)) (x45 : Bool) : Option Bool :=
  (if ((x45 && ((x17.2 : Int) == 0)) && ((x20.2 : Int) == 1)) then ((ka F x25.1 ([0, 1] : List Int)).bind fun x56 => qbL F x25 x56) else qbL F x25 false)
def jV (F : Nat) (x11 : (List Int × Int × List Int × Int)) (x17 : (List Int × Int)) (x20 : (List Int × Int)) (x25 : (List Int × Int)) (x38 : Bool) : Option Bool :=
  (if ((x38 && ((x11.2.1 : Int) == 3)) && ((x11.2.2.2 : Int) == 0)) then ((ka F x17.1 ([0, 2, 0] : List Int)).bind fun x59 => jW F x17 x20 x25 x59) else jW F x17 x20 x25 false)
def qbV (F : Nat)  : Option Bool :=
  ((yk F ([5, 0, 1, 2, 1] : List Int)).bind fun x3 => ((qc4 F ([5, 0, 1, 2, 1] : List Int) x3.1).bind fun x8 => ((qb3 F ([0, 2, 0] : List Int) 3).bind fun x11 => ((vL F x11.1 x11.2.1 x11.2.2.1 3).bind fun x17 => ((vL F x11.1 x11.2.1 x11.2.2.1 2).bind fun x20 => ((yk F ([0, 7] : List Int)).bind fun x25 => ((ka F x3.1 ([1, 0, 3, 2, 3] : List Int)).bind fun x30 => (if (((x30 && ((x3.2 : Int) == 0)) && ((x8.1 : Int) == 15)) && ((x8.2 : Int) == 0)) then ((ka F x11.1 ([1, 0, 1] : List Int)).bind fun x62 => jV F x11 x17 x20 x25 x62) else jV F x11 x17 x20 x25 false))))))))
def jT (_F : Nat) (x2005 : Bool) : Option Bool :=
  some x2005
def jS (F : Nat) (x13 : List Int) (x175 : (List Int × List Int)) (x1999 : Bool) : Option Bool :=
  (if x1999 then (chk (decide ((iadd .i64 (x13.length : Int) 1) = ((x175.1 ++ x175.2).length : Int))) (((idx (x175.1 ++ x175.2) (x13.length : Int)).bind fun x2007 => jT F ((x2007 : Int) == 77)))) else jT F false)
def jR (F : Nat) (x13 : List Int) (x175 : (List Int × List Int)) (x1996 : Bool) : Option Bool :=
  (if x1996 then ((jX F x175.1 x13).bind fun x2010 => jS F x13 x175 x2010) else jS F x13 x175 false)
def jQ (F : Nat) (x10 : List Int) (x13 : List Int) (x156 : (List Int × List Int)) (x175 : (List Int × List Int)) (x1993 : Bool) : Option Bool :=
  (if x1993 then ((qd6 F (x156.1, x156.2) x10).bind fun x2011 => jR F x13 x175 x2011) else jR F x13 x175 false)
def jP (F : Nat) (x1 : Int) (x2 : List Int) (x5 : Int) (x6 : List Int) (x10 : List Int) (x13 : List Int) (x156 : (List Int × List Int)) (x157 : Int) (x160 : (List Int × List Int)) (x161 : Int) (x164 : (List Int × List Int)) (x175 : (List Int × List Int)) : Option Bool :=
  ((ve F x157 (x160.1, x160.2) x1 x2).bind fun x1990 => (if x1990 then ((ve F x161 (x164.1, x164.2) x5 x6).bind fun x2012 => jQ F x10 x13 x156 x175 x2012) else jQ F x10 x13 x156 x175 false))
def jU (_F : Nat) (rec50 : (List (List Int) × Int) → Option Bool) (x2161 : Int) (x2379 : List (List Int)) : Option Bool :=
  rec50 (x2379, iadd .i64 x2161 1)
def jD (F : Nat) (rec50 : (List (List Int) × Int) → Option Bool) (x2160 : List (List Int)) (x2161 : Int) (x2380 : List Int) (rec53 : (List Int × Int) → Option Bool) (x2399 : List Int) (x2400 : Int) : Option Bool :=
  (if (decide (x2400 < (x2399.length : Int))) then ((idx x2399 x2400).bind fun _x2438 => (lett (x2399.set x2400.toNat 99) fun x2441 => rec53 (x2441, iadd .i64 x2400 1))) else (chk (decide (x2399.length = x2380.length)) ((lett (x2160.set x2161.toNat x2399) fun x2445 => jU F rec50 x2161 x2445))))
def ya (F : Nat) (rec50 : (List (List Int) × Int) → Option Bool) (x2160 : List (List Int)) (x2161 : Int) (x2380 : List Int) : Nat → (List Int × Int) → Option Bool
  | 0 => fun _ => none
  | k + 1 => fun s => jD F rec50 x2160 x2161 x2380 (ya F rec50 x2160 x2161 x2380 k) s.1 s.2
def jC (F : Nat) (x1 : Int) (x2 : List Int) (x5 : Int) (x6 : List Int) (x10 : List Int) (x13 : List Int) (x156 : (List Int × List Int)) (x157 : Int) (x160 : (List Int × List Int)) (x161 : Int) (x164 : (List Int × List Int)) (x175 : (List Int × List Int)) (x211 : (List Int × Int)) (x214 : (List Int × Int × Int)) (rec50 : (List (List Int) × Int) → Option Bool) (x2160 : List (List Int)) (x2161 : Int) : Option Bool :=
  (if (decide (x2161 < (([x211.1, x214.1] : List (List Int)).length : Int))) then ((idx x2160 x2161).bind fun x2380 => ya F rec50 x2160 x2161 x2380 F (x2380, 0)) else jP F x1 x2 x5 x6 x10 x13 x156 x157 x160 x161 x164 x175)
def zn (F : Nat) (x1 : Int) (x2 : List Int) (x5 : Int) (x6 : List Int) (x10 : List Int) (x13 : List Int) (x156 : (List Int × List Int)) (x157 : Int) (x160 : (List Int × List Int)) (x161 : Int) (x164 : (List Int × List Int)) (x175 : (List Int × List Int)) (x211 : (List Int × Int)) (x214 : (List Int × Int × Int)) : Nat → (List (List Int) × Int) → Option Bool
  | 0 => fun _ => none
  | k + 1 => fun s => jC F x1 x2 x5 x6 x10 x13 x156 x157 x160 x161 x164 x175 x211 x214 (zn F x1 x2 x5 x6 x10 x13 x156 x157 x160 x161 x164 x175 x211 x214 k) s.1 s.2
def jO (F : Nat) (x1 : Int) (x2 : List Int) (x5 : Int) (x6 : List Int) (x10 : List Int) (x13 : List Int) (x156 : (List Int × List Int)) (x157 : Int) (x160 : (List Int × List Int)) (x161 : Int) (x164 : (List Int × List Int)) (x175 : (List Int × List Int)) (x211 : (List Int × Int)) (x214 : (List Int × Int × Int)) : Option Bool :=
  zn F x1 x2 x5 x6 x10 x13 x156 x157 x160 x161 x164 x175 x211 x214 F (([x211.1, x214.1] : List (List Int)), 0)
def jE (F : Nat) (x1 : Int) (x2 : List Int) (x5 : Int) (x6 : List Int) (x10 : List Int) (x13 : List Int) (x156 : (List Int × List Int)) (x157 : Int) (x160 : (List Int × List Int)) (x161 : Int) (x164 : (List Int × List Int)) (x175 : (List Int × List Int)) (x211 : (List Int × Int)) (x214 : (List Int × Int × Int)) (rec54 : (List Int × Int) → Option Bool) (x2465 : List Int) (x2466 : Int) : Option Bool :=
  (if (decide (x2466 < (x2465.length : Int))) then ((idx x2465 x2466).bind fun _x2489 => (lett (x2465.set x2466.toNat 99) fun x2492 => rec54 (x2492, iadd .i64 x2466 1))) else jO F x1 x2 x5 x6 x10 x13 x156 x157 x160 x161 x164 x175 x211 x214)
def yb (F : Nat) (x1 : Int) (x2 : List Int) (x5 : Int) (x6 : List Int) (x10 : List Int) (x13 : List Int) (x156 : (List Int × List Int)) (x157 : Int) (x160 : (List Int × List Int)) (x161 : Int) (x164 : (List Int × List Int)) (x175 : (List Int × List Int)) (x211 : (List Int × Int)) (x214 : (List Int × Int × Int)) : Nat → (List Int × Int) → Option Bool
  | 0 => fun _ => none
  | k + 1 => fun s => jE F x1 x2 x5 x6 x10 x13 x156 x157 x160 x161 x164 x175 x211 x214 (yb F x1 x2 x5 x6 x10 x13 x156 x157 x160 x161 x164 x175 x211 x214 k) s.1 s.2
def jN (F : Nat) (x1 : Int) (x2 : List Int) (x5 : Int) (x6 : List Int) (x10 : List Int) (x13 : List Int) (x156 : (List Int × List Int)) (x157 : Int) (x160 : (List Int × List Int)) (x161 : Int) (x164 : (List Int × List Int)) (x175 : (List Int × List Int)) (x204 : (List Int × Int)) (x208 : (List Int × Int)) (x211 : (List Int × Int)) (x214 : (List Int × Int × Int)) (x226 : (List Int × Int)) (x229 : (List Int × Int × List Int × Int)) (x235 : (List Int × Int)) : Option Bool :=
  ((qd7 F ([x204.1, x226.1, x229.1, x235.1] : List (List Int))).bind fun x1504 => (chk (decide (x1504.length = ([x204.1, x226.1, x229.1, x235.1] : List (List Int)).length)) (yb F x1 x2 x5 x6 x10 x13 x156 x157 x160 x161 x164 x175 x211 x214 F (x208.1, 0))))
def qbH (_F : Nat) (rec61 : (Int × Int) → Option Bool) (x2897 : Int) : Option Bool :=
  rec61 (iadd .i64 x2897 1, iadd .i64 x2897 1)
def jG (F : Nat) (rec61 : (Int × Int) → Option Bool) (x217 : (List (Int × List Int) × Int)) (x220 : (List (Int × List Int) × Int)) (x2897 : Int) (rec64 : Int → Option Bool) (x3576 : Int) : Option Bool :=
  (if ((decide (x3576 < (x217.1.length : Int))) && (decide (x3576 < (x220.1.length : Int)))) then ((idx x217.1 x3576).bind fun x3686 => (chk (decide ((iadd .i64 x2897 1).toNat ≤ x3576.toNat)) (((idx x220.1 x3576).bind fun x3693 => ((qX F x3686.1 x3686.2 x3693.1 x3693.2).bind fun x3699 => (if (!x3699) then some false else rec64 (iadd .i64 x3576 1))))))) else qbH F rec61 x2897)
def yc (F : Nat) (rec61 : (Int × Int) → Option Bool) (x217 : (List (Int × List Int) × Int)) (x220 : (List (Int × List Int) × Int)) (x2897 : Int) : Nat → Int → Option Bool
  | 0 => fun _ => none
  | k + 1 => fun s => jG F rec61 x217 x220 x2897 (yc F rec61 x217 x220 x2897 k) s
def jF (F : Nat) (x1 : Int) (x2 : List Int) (x5 : Int) (x6 : List Int) (x10 : List Int) (x13 : List Int) (x156 : (List Int × List Int)) (x157 : Int) (x160 : (List Int × List Int)) (x161 : Int) (x164 : (List Int × List Int)) (x175 : (List Int × List Int)) (x204 : (List Int × Int)) (x208 : (List Int × Int)) (x211 : (List Int × Int)) (x214 : (List Int × Int × Int)) (x217 : (List (Int × List Int) × Int)) (x220 : (List (Int × List Int) × Int)) (x226 : (List Int × Int)) (x229 : (List Int × Int × List Int × Int)) (x235 : (List Int × Int)) (rec61 : (Int × Int) → Option Bool) (x2896 : Int) (x2897 : Int) : Option Bool :=
  (if (decide (x2897 < (x217.1.length : Int))) then ((idx x217.1 x2897).bind fun x3502 => (chk (decide (x2896.toNat ≤ x2897.toNat)) ((chk (decide (x2896.toNat ≤ (iadd .i64 x2897 1).toNat ∧ x2897.toNat < (iadd .i64 x2897 1).toNat)) (((qay F ([(x3502.1, x3502.2)] : List (Int × List Int))).bind fun x3511 => (chk (decide (x3511.length = ([(x3502.1, x3502.2)] : List (Int × List Int)).length)) (yc F rec61 x217 x220 x2897 F (iadd .i64 x2897 1))))))))) else jN F x1 x2 x5 x6 x10 x13 x156 x157 x160 x161 x164 x175 x204 x208 x211 x214 x226 x229 x235)
def zo (F : Nat) (x1 : Int) (x2 : List Int) (x5 : Int) (x6 : List Int) (x10 : List Int) (x13 : List Int) (x156 : (List Int × List Int)) (x157 : Int) (x160 : (List Int × List Int)) (x161 : Int) (x164 : (List Int × List Int)) (x175 : (List Int × List Int)) (x204 : (List Int × Int)) (x208 : (List Int × Int)) (x211 : (List Int × Int)) (x214 : (List Int × Int × Int)) (x217 : (List (Int × List Int) × Int)) (x220 : (List (Int × List Int) × Int)) (x226 : (List Int × Int)) (x229 : (List Int × Int × List Int × Int)) (x235 : (List Int × Int)) : Nat → (Int × Int) → Option Bool
  | 0 => fun _ => none
  | k + 1 => fun s => jF F x1 x2 x5 x6 x10 x13 x156 x157 x160 x161 x164 x175 x204 x208 x211 x214 x217 x220 x226 x229 x235 (zo F x1 x2 x5 x6 x10 x13 x156 x157 x160 x161 x164 x175 x204 x208 x211 x214 x217 x220 x226 x229 x235 k) s.1 s.2
def jM (F : Nat) (x1 : Int) (x2 : List Int) (x5 : Int) (x6 : List Int) (x10 : List Int) (x13 : List Int) (x156 : (List Int × List Int)) (x157 : Int) (x160 : (List Int × List Int)) (x161 : Int) (x164 : (List Int × List Int)) (x175 : (List Int × List Int)) (x176 : (Int × List Int × Int)) (x180 : (Int × List Int × Int)) (x184 : (Int × List Int × Int)) (x188 : (Int × List Int × Int)) (x192 : (Int × List Int × Int)) (x196 : (Int × List Int × Int)) (x200 : (Int × List Int × Int)) (x204 : (List Int × Int)) (x208 : (List Int × Int)) (x211 : (List Int × Int)) (x214 : (List Int × Int × Int)) (x217 : (List (Int × List Int) × Int)) (x220 : (List (Int × List Int) × Int)) (x226 : (List Int × Int)) (x229 : (List Int × Int × List Int × Int)) (x235 : (List Int × Int)) (x289 : Bool) : Option Bool :=
  (if x289 then some false else ((qay F ([(x176.1, x176.2.1), (x180.1, x180.2.1), (x184.1, x184.2.1), (x188.1, x188.2.1), (x192.1, x192.2.1), (x196.1, x196.2.1), (x200.1, x200.2.1), (x229.2.1, x229.2.2.1)] : List (Int × List Int))).bind fun x292 => (chk (decide (x292.length = ([(x176.1, x176.2.1), (x180.1, x180.2.1), (x184.1, x184.2.1), (x188.1, x188.2.1), (x192.1, x192.2.1), (x196.1, x196.2.1), (x200.1, x200.2.1), (x229.2.1, x229.2.2.1)] : List (Int × List Int)).length)) (zo F x1 x2 x5 x6 x10 x13 x156 x157 x160 x161 x164 x175 x204 x208 x211 x214 x217 x220 x226 x229 x235 F (0, 0)))))
def jL (F : Nat) (x1 : Int) (x2 : List Int) (x5 : Int) (x6 : List Int) (x10 : List Int) (x13 : List Int) (x156 : (List Int × List Int)) (x157 : Int) (x160 : (List Int × List Int)) (x161 : Int) (x164 : (List Int × List Int)) (x175 : (List Int × List Int)) (x176 : (Int × List Int × Int)) (x180 : (Int × List Int × Int)) (x184 : (Int × List Int × Int)) (x188 : (Int × List Int × Int)) (x192 : (Int × List Int × Int)) (x196 : (Int × List Int × Int)) (x200 : (Int × List Int × Int)) (x204 : (List Int × Int)) (x208 : (List Int × Int)) (x211 : (List Int × Int)) (x214 : (List Int × Int × Int)) (x217 : (List (Int × List Int) × Int)) (x220 : (List (Int × List Int) × Int)) (x226 : (List Int × Int)) (x229 : (List Int × Int × List Int × Int)) (x235 : (List Int × Int)) (x286 : Bool) : Option Bool :=
  (if x286 then jM F x1 x2 x5 x6 x10 x13 x156 x157 x160 x161 x164 x175 x176 x180 x184 x188 x192 x196 x200 x204 x208 x211 x214 x217 x220 x226 x229 x235 true else ((qbV F).bind fun x3704 => jM F x1 x2 x5 x6 x10 x13 x156 x157 x160 x161 x164 x175 x176 x180 x184 x188 x192 x196 x200 x204 x208 x211 x214 x217 x220 x226 x229 x235 (!x3704)))
def jK (F : Nat) (x1 : Int) (x2 : List Int) (x5 : Int) (x6 : List Int) (x10 : List Int) (x13 : List Int) (x156 : (List Int × List Int)) (x157 : Int) (x160 : (List Int × List Int)) (x161 : Int) (x164 : (List Int × List Int)) (x175 : (List Int × List Int)) (x176 : (Int × List Int × Int)) (x180 : (Int × List Int × Int)) (x184 : (Int × List Int × Int)) (x188 : (Int × List Int × Int)) (x192 : (Int × List Int × Int)) (x196 : (Int × List Int × Int)) (x200 : (Int × List Int × Int)) (x204 : (List Int × Int)) (x208 : (List Int × Int)) (x211 : (List Int × Int)) (x214 : (List Int × Int × Int)) (x217 : (List (Int × List Int) × Int)) (x220 : (List (Int × List Int) × Int)) (x226 : (List Int × Int)) (x229 : (List Int × Int × List Int × Int)) (x235 : (List Int × Int)) (x283 : Bool) : Option Bool :=
  (if x283 then jL F x1 x2 x5 x6 x10 x13 x156 x157 x160 x161 x164 x175 x176 x180 x184 x188 x192 x196 x200 x204 x208 x211 x214 x217 x220 x226 x229 x235 true else ((qa4 F).bind fun x3705 => jL F x1 x2 x5 x6 x10 x13 x156 x157 x160 x161 x164 x175 x176 x180 x184 x188 x192 x196 x200 x204 x208 x211 x214 x217 x220 x226 x229 x235 (!x3705)))
def jJ (F : Nat) (x1 : Int) (x2 : List Int) (x5 : Int) (x6 : List Int) (x10 : List Int) (x13 : List Int) (x156 : (List Int × List Int)) (x157 : Int) (x160 : (List Int × List Int)) (x161 : Int) (x164 : (List Int × List Int)) (x175 : (List Int × List Int)) (x176 : (Int × List Int × Int)) (x180 : (Int × List Int × Int)) (x184 : (Int × List Int × Int)) (x188 : (Int × List Int × Int)) (x192 : (Int × List Int × Int)) (x196 : (Int × List Int × Int)) (x200 : (Int × List Int × Int)) (x204 : (List Int × Int)) (x208 : (List Int × Int)) (x211 : (List Int × Int)) (x214 : (List Int × Int × Int)) (x217 : (List (Int × List Int) × Int)) (x220 : (List (Int × List Int) × Int)) (x226 : (List Int × Int)) (x229 : (List Int × Int × List Int × Int)) (x235 : (List Int × Int)) (x280 : Bool) : Option Bool :=
  (if x280 then jK F x1 x2 x5 x6 x10 x13 x156 x157 x160 x161 x164 x175 x176 x180 x184 x188 x192 x196 x200 x204 x208 x211 x214 x217 x220 x226 x229 x235 true else ((qaA F).bind fun x3706 => jK F x1 x2 x5 x6 x10 x13 x156 x157 x160 x161 x164 x175 x176 x180 x184 x188 x192 x196 x200 x204 x208 x211 x214 x217 x220 x226 x229 x235 (!x3706)))
def jI (F : Nat) (x1 : Int) (x2 : List Int) (x5 : Int) (x6 : List Int) (x10 : List Int) (x13 : List Int) (x156 : (List Int × List Int)) (x157 : Int) (x160 : (List Int × List Int)) (x161 : Int) (x164 : (List Int × List Int)) (x175 : (List Int × List Int)) (x176 : (Int × List Int × Int)) (x180 : (Int × List Int × Int)) (x184 : (Int × List Int × Int)) (x188 : (Int × List Int × Int)) (x192 : (Int × List Int × Int)) (x196 : (Int × List Int × Int)) (x200 : (Int × List Int × Int)) (x204 : (List Int × Int)) (x208 : (List Int × Int)) (x211 : (List Int × Int)) (x214 : (List Int × Int × Int)) (x217 : (List (Int × List Int) × Int)) (x220 : (List (Int × List Int) × Int)) (x226 : (List Int × Int)) (x229 : (List Int × Int × List Int × Int)) (x235 : (List Int × Int)) (x277 : Bool) : Option Bool :=
  (if x277 then jJ F x1 x2 x5 x6 x10 x13 x156 x157 x160 x161 x164 x175 x176 x180 x184 x188 x192 x196 x200 x204 x208 x211 x214 x217 x220 x226 x229 x235 true else ((qcr F).bind fun x3707 => jJ F x1 x2 x5 x6 x10 x13 x156 x157 x160 x161 x164 x175 x176 x180 x184 x188 x192 x196 x200 x204 x208 x211 x214 x217 x220 x226 x229 x235 (!x3707)))
def jH (F : Nat) (x1 : Int) (x2 : List Int) (x5 : Int) (x6 : List Int) (x10 : List Int) (x13 : List Int) (x156 : (List Int × List Int)) (x157 : Int) (x160 : (List Int × List Int)) (x161 : Int) (x164 : (List Int × List Int)) (x175 : (List Int × List Int)) (x176 : (Int × List Int × Int)) (x180 : (Int × List Int × Int)) (x184 : (Int × List Int × Int)) (x188 : (Int × List Int × Int)) (x192 : (Int × List Int × Int)) (x196 : (Int × List Int × Int)) (x200 : (Int × List Int × Int)) (x204 : (List Int × Int)) (x208 : (List Int × Int)) (x211 : (List Int × Int)) (x214 : (List Int × Int × Int)) (x217 : (List (Int × List Int) × Int)) (x220 : (List (Int × List Int) × Int)) (x226 : (List Int × Int)) (x229 : (List Int × Int × List Int × Int)) (x235 : (List Int × Int)) (x274 : Bool) : Option Bool :=
  (if x274 then jI F x1 x2 x5 x6 x10 x13 x156 x157 x160 x161 x164 x175 x176 x180 x184 x188 x192 x196 x200 x204 x208 x211 x214 x217 x220 x226 x229 x235 true else ((qaw F).bind fun x3708 => jI F x1 x2 x5 x6 x10 x13 x156 x157 x160 x161 x164 x175 x176 x180 x184 x188 x192 x196 x200 x204 x208 x211 x214 x217 x220 x226 x229 x235 (!x3708)))
def qav (F : Nat) (x1 : Int) (x2 : List Int) (x5 : Int) (x6 : List Int) (x10 : List Int) (x13 : List Int) (x156 : (List Int × List Int)) (x157 : Int) (x160 : (List Int × List Int)) (x161 : Int) (x164 : (List Int × List Int)) (x175 : (List Int × List Int)) (x176 : (Int × List Int × Int)) (x180 : (Int × List Int × Int)) (x184 : (Int × List Int × Int)) (x188 : (Int × List Int × Int)) (x192 : (Int × List Int × Int)) (x196 : (Int × List Int × Int)) (x200 : (Int × List Int × Int)) (x204 : (List Int × Int)) (x208 : (List Int × Int)) (x211 : (List Int × Int)) (x214 : (List Int × Int × Int)) (x217 : (List (Int × List Int) × Int)) (x220 : (List (Int × List Int) × Int)) (x226 : (List Int × Int)) (x229 : (List Int × Int × List Int × Int)) (x235 : (List Int × Int)) (x271 : Bool) : Option Bool :=
  (if x271 then jH F x1 x2 x5 x6 x10 x13 x156 x157 x160 x161 x164 x175 x176 x180 x184 x188 x192 x196 x200 x204 x208 x211 x214 x217 x220 x226 x229 x235 true else ((qa2 F).bind fun x3709 => jH F x1 x2 x5 x6 x10 x13 x156 x157 x160 x161 x164 x175 x176 x180 x184 x188 x192 x196 x200 x204 x208 x211 x214 x217 x220 x226 x229 x235 (!x3709)))
def qG (F : Nat) (x1 : Int) (x2 : List Int) (x5 : Int) (x6 : List Int) (x9 : Int) (x10 : List Int) (x13 : List Int) (x16 : Int) (x156 : (List Int × List Int)) (x157 : Int) (x160 : (List Int × List Int)) (x161 : Int) (x164 : (List Int × List Int)) : Option Bool :=
  (chk (decide (0 ≤ (iadd .i64 (x13.length : Int) 1) ∧ (iadd .i64 (x13.length : Int) 1) ≤ (35184372088832 : Int))) (((app 17592186044416 ([] : List Int) x13).bind fun x167 => ((app 17592186044416 x167 ([77] : List Int)).bind fun x172 => ((cutP x172 (x13.length : Int)).bind fun x175 => ((qbM F x157 x160.1 (irem x9 16) 4).bind fun x176 => ((qbZ F x157 x160.1 x161 x164.1).bind fun x180 => ((qcJ F x157 x160.1 0 x157).bind fun x184 => ((qbx F x175.1).bind fun x188 => ((vK F x9).bind fun x192 => ((qap F x9 7).bind fun x196 => ((qcL F x9).bind fun x200 => ((qb1 F x9).bind fun x204 => ((qcC F x156.1).bind fun _x207 => ((js F x175.1).bind fun x208 => ((qby F x160.1).bind fun x211 => ((qb4 F x157 x160.1 2).bind fun x214 => ((z8 F x156.1).bind fun x217 => ((z8 F x156.1).bind fun x220 => ((qaq F ([(x157, x160.1), (x161, x164.1)] : List (Int × List Int))).bind fun _x225 => ((yk F x156.1).bind fun x226 => ((qb3 F x156.1 9).bind fun x229 => ((vL F x156.1 x157 x160.1 x16).bind fun x235 => ((qbU F).bind fun x268 => (if (!x268) then qav F x1 x2 x5 x6 x10 x13 x156 x157 x160 x161 x164 x175 x176 x180 x184 x188 x192 x196 x200 x204 x208 x211 x214 x217 x220 x226 x229 x235 true else ((qa8 F).bind fun x3710 => qav F x1 x2 x5 x6 x10 x13 x156 x157 x160 x161 x164 x175 x176 x180 x184 x188 x192 x196 x200 x204 x208 x211 x214 x217 x220 x226 x229 x235 (!x3710)))))))))))))))))))))))))))
def qdx (F : Nat) (x1 : Int) (x2 : List Int) (x5 : Int) (x6 : List Int) (x9 : Int) (x10 : List Int) (x13 : List Int) (x16 : Int) : Option Bool :=
  ((q6 F x1 x2).bind fun x3711 => ((q6 F x5 x6).bind fun x3714 => ((zt F x10).bind fun x3717 => qG F x1 x2 x5 x6 x9 x10 x13 x16 x3717 x3711.1 x3711.2 x3714.1 x3714.2)))
end Go.Proofs.YtmoikolponkmpaaGreat
