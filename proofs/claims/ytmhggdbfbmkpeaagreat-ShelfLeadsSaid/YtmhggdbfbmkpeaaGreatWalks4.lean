/- Each Go function of this seat computes what its model says, part 4. -/
import Derived.Test.YtmhggdbfbmkpeaaGreatWalks3
namespace Go.Proofs.YtmhggdbfbmkpeaaGreat
open Go SX
theorem qhK {F : Nat} {x1 : Int} {x2 : List Int} {a3 : Option Addr} {c4 : Nat} {x5 : Int} {r : Unit} (hm : qb4 F x1 x2 x5 = some r) :
    PureM Tryz.prog 145 [.agg #[.int .i64 x1, .slice a3 x2.length c4], .int .u64 x5] [] [] [Sl (eI .u8) 1 (.slice a3 x2.length c4) x2] (Nat × Nat) (fun g => .func (.func 175) #[] #[.pointer (some ⟨g.1, 0, none⟩), .pointer (some ⟨g.2, 0, none⟩)]) (fun g => [⟨g.1, 29, [.int .i64 x1, .slice a3 x2.length c4]⟩, ⟨g.2, 119, [.int .u64 x5]⟩]) (fun _ => []) := by
 refine zi Tryz.func145 rfl Tryz.ntmps145 rfl hm (fun w => ?_)
 refine au [24,10,2,4,22] ?_
 intro g6
 refine au [22] ?_
 intro g7
 refine au [5,0,1,2,4,27,9,5,0,1,8] ?_
 exact q7 (g6, g7)
set_option maxHeartbeats 4000000 in
theorem qgm (F : Nat) {σ τ : Type} {J : Rounds σ τ} {yy : σ → Int → Option (σ ⊕ τ)} {L : Nat} (hY : YieldC Tryz.prog L (fun (p : Int) => [.int .i64 p]) J yy) (s0 : σ) (gs0 : J.γ) (g1 : Nat) (x2 : Int) (x3 : List Int) (a4 : Option Addr) (c5 : Nat) (g6 : Nat) (x7 : Int) (r : σ ⊕ τ) (hm : qa6 F yy x2 x3 x7 s0 = some r) :
    PureM Tryz.prog 175 ([.func (.yield L) #[] #[], .pointer (some ⟨g1, 0, none⟩), .pointer (some ⟨g6, 0, none⟩)]) ([⟨g1, 29, [.int .i64 x2, .slice a4 x3.length c5]⟩, ⟨g6, 119, [.int .u64 x7]⟩] ++ J.IB s0 gs0) (J.IR s0 gs0) [J.F, Sl (eI .u8) 1 (.slice a4 x3.length c5) x3] (J.G r) (fun _ => .tuple #[]) (fun g => [⟨g1, 29, [.int .i64 x2, .slice a4 x3.length c5]⟩, ⟨g6, 119, [.int .u64 x7]⟩] ++ J.bs r g) (fun g => J.rs r g) := by
 refine zi Tryz.func175 rfl Tryz.ntmps175 rfl hm (fun w => ?_)
 refine au [26,0,2,4,9,18,3,0,1,15] ?_
 refine qaJ (fun (((x36, x37), g38) : ((Int × σ) × J.γ)) => [(0, .func (.yield L) #[] #[]), (1, .pointer (some ⟨g1, 0, none⟩)), (2, .pointer (some ⟨g6, 0, none⟩)), (6, .int .i64 x2), (7, .int .i64 x36)]) (fun (((x36, x37), g38) : ((Int × σ) × J.γ)) => [⟨g1, 29, [.int .i64 x2, .slice a4 x3.length c5]⟩, ⟨g6, 119, [.int .u64 x7]⟩] ++ J.IB x37 g38) (fun (((x36, x37), g38) : ((Int × σ) × J.γ)) => [] ++ J.IR x37 g38) (fun (((x36, x37), g38) : ((Int × σ) × J.γ)) => [Sl (eI .u8) 1 (.slice a4 x3.length c5) x3, J.F]) (fun k (s : ((Int × σ) × J.γ)) => qT F yy x2 x3 x7 k s.1) ((0, s0), gs0) F ?_ (hB := (.cons 0 rfl (.cons 0 rfl (qj 0 rfl)))) (hR := (qj 0 rfl)) (hF := (qm 1 rfl (qm 0 rfl ke)))
 intro k67
 rintro ⟨⟨x36, x37⟩, g38⟩
 try dsimp only
 refine qJ (m' := k9 F yy x2 x3 x7 (qT F yy x2 x3 x7 k67) x36 x37) rfl ?_
 refine av [2,4,24,4,0,1,2,11] ?_ ?_
 intro _
 refine au [12,1] ?_
 refine qdy (fun ((x81, g82) : (σ × J.γ)) => [(0, .func (.yield L) #[] #[]), (1, .pointer (some ⟨g1, 0, none⟩)), (2, .pointer (some ⟨g6, 0, none⟩)), (6, .int .i64 x2), (7, .int .i64 x36)]) (fun ((x81, g82) : (σ × J.γ)) => [⟨g1, 29, [.int .i64 x2, .slice a4 x3.length c5]⟩, ⟨g6, 119, [.int .u64 x7]⟩] ++ J.IB x81 g82) (fun ((x81, g82) : (σ × J.γ)) => [] ++ J.IR x81 g82) (fun ((x81, g82) : (σ × J.γ)) => [Sl (eI .u8) 1 (.slice a4 x3.length c5) x3, J.F]) (fun ((x81, _) : (σ × J.γ)) => kq F yy (qT F yy x2 x3 x7 k67) x36 x81) ?_ ?_
 refine au [15,2,4,3,5,0,1,2] ?_
 refine qH mixed [] [⟨g1, 29, [.int .i64 x2, .slice a4 x3.length c5]⟩, ⟨g6, 119, [.int .u64 x7]⟩] [Sl (eI .u8) 1 (.slice a4 x3.length c5) x3, J.F] (.cons 0 rfl (.cons 0 rfl .nil)) (qW 0 rfl (qW 1 rfl qB)) 11 rfl (kN 0 (.agg #[.int .i64 x2, .slice a4 x3.length c5]) rfl rfl rfl (zI (i := 0) rfl tf29 rfl rfl (by simp) rfl) ?_)
 refine au [7,1,26,13,3,24,3,2,27,10] ?_
 intro x89 e89 _
 refine av [0,30,12,7,4,7,5,28,2] ?_ ?_
 intro h90
 refine qn (d := 15) (v := .bool true) rfl (by rw [h90] <;> rfl) ?_
 refine au [7,6,7,7,24,3,8] ?_
 refine qdz hY x37 x36 g38 (B1 := [⟨g1, 29, [.int .i64 x2, .slice a4 x3.length c5]⟩, ⟨g6, 119, [.int .u64 x7]⟩]) (R1 := []) (j := 1) rfl rfl rfl rfl rfl rfl rfl (fun x91 _ g93 => ?_) (fun x92 _ g93 => ?_)
 refine au [0,30,12,7,9,7,10,24,9] ?_
 refine qQ ?_ (by intro c h; cases h)
 refine au [1] ?_
 refine yX (b := false) rfl (fun h => by cases h) (fun _ => ?_)
 refine au [12,24,5] ?_
 exact qaM (x91, g93) (hB := (.cons 0 rfl (.cons 0 rfl (qj 0 rfl)))) (hR := (qj 0 rfl)) (hF := (qm 0 rfl (qm 1 rfl ke)))
 refine au [0,30,12,7,9,7,10,24,9] ?_
 refine qQ ?_ (by intro c h; cases h)
 refine au [1] ?_
 refine yX (b := true) rfl (fun _ => ?_) (fun h => by cases h)
 refine au [8,24,1,10,10,24,1] ?_
 exact jP (B0 := [⟨g1, 29, [.int .i64 x2, .slice a4 x3.length c5]⟩, ⟨g6, 119, [.int .u64 x7]⟩]) (x := .inr x92) g93 (.inl rfl) (res0 rfl) (.cons 0 rfl (.cons 0 rfl (qj 0 rfl))) (qj 0 rfl)
 intro h90
 refine qn (d := 15) (v := .bool false) rfl (by rw [h90] <;> rfl) ?_
 refine au [14,6,14,7,14,8,14,9,7,10,24,9] ?_
 refine qQ ?_ (by intro c h; cases h)
 refine au [1] ?_
 refine yX (b := false) rfl (fun h => by cases h) (fun _ => ?_)
 refine au [12,24,5] ?_
 exact qaM (x37, g38) (hB := (.cons 0 rfl (.cons 0 rfl (qj 0 rfl)))) (hR := (qj 0 rfl)) (hF := (qm 0 rfl (qm 1 rfl ke)))
 rintro ⟨x81, g82⟩
 try dsimp only
 refine au [4,19,3,0] ?_
 exact qay ((iadd .i64 x36 1, x81), g82) (hB := (.cons 0 rfl (.cons 0 rfl (qj 0 rfl)))) (hR := (qj 0 rfl)) (hF := (qm 0 rfl (qm 1 rfl ke)))
 intro _
 refine au [24,11,20,20,24,12] ?_
 exact jP (B0 := [⟨g1, 29, [.int .i64 x2, .slice a4 x3.length c5]⟩, ⟨g6, 119, [.int .u64 x7]⟩]) (x := .inl x37) g38 (.inr rfl) (res0 rfl) (.cons 0 rfl (.cons 0 rfl (qj 0 rfl))) (qj 0 rfl)
set_option maxHeartbeats 4000000 in
theorem qiV {F : Nat} {x1 : Int} {x2 : List Int} {a3 : Option Addr} {c4 : Nat} {x5 : Int} {x6 : Int} {r : Int} (hm : jp F x1 x2 x5 x6 = some r) :
    PureM Tryz.prog 108 [.agg #[.int .i64 x1, .slice a3 x2.length c4], .int .u64 x5, .int .i64 x6] [] [] [Sl (eI .u8) 1 (.slice a3 x2.length c4) x2] Unit (fun _ => .int .i64 r) (fun _ => []) (fun _ => []) := by
 refine qcV Tryz.func108 rfl Tryz.ntmps108 rfl hm (fun w => ?_)
 refine au [26,0,2,4,22] ?_
 intro g7
 refine au [22] ?_
 intro g8
 refine au [24,7] ?_
 intro g9
 refine au [0,1,2,2,4,25,14,3] ?_
 refine qz qhK ?_
 rintro x25 e25 ⟨g26, g27⟩
 refine au [0,1,15] ?_
 refine qbP (encs := (fun (p : Int) => [.int .i64 p])) (y := (fun (x31 : Int) (x37 : Int) => qU F x31 x37)) (lb := [.pointer (some ⟨g26, 0, none⟩), .pointer (some ⟨g27, 0, none⟩)]) (fun (x31 : Int) (_ : Unit) => [⟨g9, 3, [.int .i64 0]⟩, ⟨g8, 3, [.int .i64 x31]⟩, ⟨g7, 29, [.int .i64 x1, .slice a3 x2.length c4]⟩]) (fun (x31 : Int) (_ : Unit) => []) (fun ((x35, x36) : (Int × Int)) (_ : Unit) => [⟨g9, 3, [.int .i64 x35]⟩, ⟨g8, 3, [.int .i64 x36]⟩, ⟨g7, 29, [.int .i64 x1, .slice a3 x2.length c4]⟩]) (fun ((x35, x36) : (Int × Int)) (_ : Unit) => []) (fun _ => .ret) x6 () rfl ent175 (fun _ => rfl) rfl (.cons 0 rfl (.cons 0 rfl .nil)) (.cons 0 rfl (.cons 0 rfl (.cons 0 rfl .nil))) .nil (.consF 0 rfl .nil) (fun z hz _ _ _ hY => qgm F hY x6 () g26 x1 x2 a3 c4 g27 x5 z hz) ?_ ?_ ?_
 rintro rc1 L1 D1 x31 _ x37 z w M _
 try dsimp only
 refine qcX [(0, .agg #[.int .i64 x1, .slice a3 x2.length c4]), (1, .int .u64 x5), (2, .int .i64 x6), (3, .pointer (some ⟨g7, 0, none⟩)), (5, .pointer (some ⟨g8, 0, none⟩)), (6, .pointer (some ⟨g9, 0, none⟩)), (8, .agg #[.int .i64 x1, .slice a3 x2.length c4]), (9, .int .u64 x5), (10, .func (.func 175) #[] #[.pointer (some ⟨g26, 0, none⟩), .pointer (some ⟨g27, 0, none⟩)]), (11, .int .i64 x37)] (qt rfl (qt rfl (qt rfl (qt rfl (qt rfl (qt rfl (qt rfl (qt rfl (qt rfl (qt rfl qcT)))))))))) ?_
 refine av [4,5,0,34,10,15,2,2,4,25,6,24,13,0,1,11] ?_ ?_
 intro _
 refine au [2,4,3,24,2,0,1,8,10,24,1] ?_
 exact qaN (rc := rc1) rfl (.cons 3 rfl .nil) rfl () (.cons 1 rfl (.cons 1 rfl (.cons 1 rfl (.cons 0 rfl (.cons 0 rfl .nil))))) .nil
 intro _
 refine au [12,1,4,25,6,25,5,24,15,0,24,5] ?_
 exact qaN (rc := rc1) rfl (.cons 3 rfl .nil) rfl () (.cons 1 rfl (.cons 1 rfl (.cons 1 rfl (.cons 0 rfl (.cons 0 rfl .nil))))) .nil
 rintro x31 _ _ D1
 try dsimp only
 refine au [24,5,1,2,4,28,11,0,1,8] ?_
 exact qaL [D1] () (.inl rfl) rfl (.cons 0 rfl .nil) (resL (rs := [.cell 6 3]) rfl (.cell (i := 2) rfl tf3 rfl rfl (fun _ => rfl) rfl ResOk.nil) rfl) (fun h => by subst h; rfl) (fun h => by subst h; exact .nil) (fun h => by subst h; exact .nil)
 rintro ⟨x35, x36⟩ _ _ D1
 try dsimp only
 refine au [8,24,1,10] ?_
 exact qaL [D1] () (.inl rfl) rfl (.cons 0 rfl .nil) (resL (rs := [.cell 6 3]) rfl (.cell (i := 2) rfl tf3 rfl rfl (fun _ => rfl) rfl ResOk.nil) rfl) (fun h => by subst h; rfl) (fun h => by subst h; exact .nil) (fun h => by subst h; exact .nil)
theorem qnO {F : Nat} {x1 : Int} {x2 : Int} {x3 : Int} {x4 : Int} {x5 : List Int} {a6 : Option Addr} {c7 : Nat} {x8 : Int} {x9 : List Int} {a10 : Option Addr} {c11 : Nat} {x12 : Int} {r : Int} (hm : qaB F x1 x2 x3 x4 x5 x8 x9 x12 = some r) :
    Pure Tryz.prog 83 [.agg #[.int .i64 x1, .int .i64 x2, .int .i64 x3, .int .i64 x4, .slice a6 x5.length c7, .int .i64 x8, .slice a10 x9.length c11], .int .i64 x12] [Sl (eI .u8) 1 (.slice a6 x5.length c7) x5, Sl (eI .u8) 1 (.slice a10 x9.length c11) x9] Unit (fun _ => .int .i64 r) (fun _ => []) (fun _ => []) := by
 refine qk Tryz.func83 rfl Tryz.ntmps83 rfl hm (fun w => ?_)
 refine au [24,10,2,4,22] ?_
 intro g13
 refine au [5,0,1,2,4,9,24,8,3,34,11] ?_
 intro x14 e14 _
 refine au [3,25,5,5,0,1,2,4,9,24,8,3,9,18,28,13,9,18,28,14] ?_
 intro x15 e15 _
 refine au [3,13,13,5,5,0,1,2,4,3,9,18,26,1] ?_
 intro h16
 refine qeu rfl rfl rfl rfl h16 ?_
 refine au [3,25,12,33,7,5,26,9] ?_
 intro x17 e17
 refine qc (d := 4) (v := .int .i64 x17) rfl (by rw [e17] <;> rfl) ?_
 exact az [0,1,8,17]
theorem qj0 {F : Nat} {x1 : Int} {x2 : List Int} {a3 : Option Addr} {c4 : Nat} {x5 : Int} {x6 : List Int} {a7 : Option Addr} {c8 : Nat} {r : Bool} (hm : qb8 F x1 x2 x5 x6 = some r) :
    Pure Tryz.prog 144 [.agg #[.int .i64 x1, .slice a3 x2.length c4], .agg #[.int .i64 x5, .slice a7 x6.length c8]] [Sl (eI .u8) 1 (.slice a3 x2.length c4) x2, Sl (eI .u8) 1 (.slice a7 x6.length c8) x6] Unit (fun _ => .bool r) (fun _ => []) (fun _ => []) := by
 refine qk Tryz.func144 rfl Tryz.ntmps144 rfl hm (fun w => ?_)
 refine au [24,10,2,4,22] ?_
 intro g9
 refine au [22] ?_
 intro g10
 refine au [5,0,1,2,4,9,25,6,9,18,24,13,3] ?_
 refine qY 6 (fun ((x13, _) : (Bool × Unit)) => ([(16, .bool x13)], [], [], [], qaq F x13)) ?_ ?_
 refine qa (os := _) rfl ?_
 refine av [25,9] ?_ ?_
 intro h11
 refine qi (k := 10) rfl h11 ?_
 refine au [9,25,6,9,18,29,1] ?_
 intro x14 e14 _
 refine au [23,0] ?_
 exact qb (x14, ())
 intro h11
 refine qh (k := 10) rfl h11 ?_
 refine au [6,6,6,6,6,24,0,0] ?_
 exact qb (false, ())
 rintro ⟨x13, _⟩
 try dsimp only
 refine qa (os := _) rfl ?_
 exact az [5,0,1,8,17]
set_option maxHeartbeats 4000000 in
theorem qgD {F : Nat} {x1 : Int} {x2 : Int} {x3 : Int} {x4 : Int} {x5 : List Int} {a6 : Option Addr} {c7 : Nat} {x8 : Int} {x9 : List Int} {a10 : Option Addr} {c11 : Nat} {r : (List Int × Int)} (hm : vV F x1 x2 x3 x4 x5 x8 x9 = some r) :
    Pure Tryz.prog 107 [.agg #[.int .i64 x1, .int .i64 x2, .int .i64 x3, .int .i64 x4, .slice a6 x5.length c7, .int .i64 x8, .slice a10 x9.length c11]] [Sl (eI .u8) 1 (.slice a6 x5.length c7) x5, Sl (eI .u8) 1 (.slice a10 x9.length c11) x9] (Option Addr × Nat) (fun g => .tuple #[.slice g.1 r.1.length g.2, .int .i64 r.2]) (fun g => [Ro (eI .i64) 3 1 (.slice g.1 r.1.length g.2) r.1]) (fun _ => []) := by
 refine qk Tryz.func107 rfl Tryz.ntmps107 rfl hm (fun w => ?_)
 refine au [25,3,2,4,22] ?_
 intro g12
 refine au [5,5,0,1,2,2,4,9,18,24,4,3] ?_
 refine qq 4 (decide (x1 < 0)) [(1, .pointer (some ⟨g12, 0, none⟩)), (15, .bool ((decide (x1 < 0)) || (decide (300 < x1))))] (fun h17 => ?_) (fun h17 => ?_) ?_
 refine qa (os := _) rfl (qi (k := 11) rfl h17 ?_)
 refine au [6,6,6,23] ?_
 refine qc (d := 15) (v := .bool ((decide (x1 < 0)) || (decide (300 < x1)))) rfl (by rw [h17]; simp only [Bool.true_or]) ?_
 exact az [0,16]
 refine qa (os := _) rfl (qh (k := 11) rfl h17 ?_)
 refine au [9,18,24,14,24,0] ?_
 refine qc (d := 15) (v := .bool ((decide (x1 < 0)) || (decide (300 < x1)))) rfl (by rw [h17]; simp only [Bool.false_or]) ?_
 exact az [0,16]
 refine qa (os := _) rfl ?_
 refine au [3] ?_
 refine qq 4 ((decide (x1 < 0)) || (decide (300 < x1))) [(1, .pointer (some ⟨g12, 0, none⟩)), (20, .bool (((decide (x1 < 0)) || (decide (300 < x1))) || (decide (x2 < 0))))] (fun h18 => ?_) (fun h18 => ?_) ?_
 refine qa (os := _) rfl (qi (k := 16) rfl h18 ?_)
 refine au [6,6,6,23] ?_
 refine qc (d := 20) (v := .bool (((decide (x1 < 0)) || (decide (300 < x1))) || (decide (x2 < 0)))) rfl (by rw [h18]; simp only [Bool.true_or]) ?_
 exact az [0,16]
 refine qa (os := _) rfl (qh (k := 16) rfl h18 ?_)
 refine au [9,18,24,4,24,0] ?_
 refine qc (d := 20) (v := .bool (((decide (x1 < 0)) || (decide (300 < x1))) || (decide (x2 < 0)))) rfl (by rw [h18]; simp only [Bool.false_or]) ?_
 exact az [0,16]
 refine qa (os := _) rfl ?_
 refine au [3] ?_
 refine qq 4 (((decide (x1 < 0)) || (decide (300 < x1))) || (decide (x2 < 0))) [(1, .pointer (some ⟨g12, 0, none⟩)), (25, .bool ((((decide (x1 < 0)) || (decide (300 < x1))) || (decide (x2 < 0))) || (decide (1048576 < x2))))] (fun h19 => ?_) (fun h19 => ?_) ?_
 refine qa (os := _) rfl (qi (k := 21) rfl h19 ?_)
 refine au [6,6,6,23] ?_
 refine qc (d := 25) (v := .bool ((((decide (x1 < 0)) || (decide (300 < x1))) || (decide (x2 < 0))) || (decide (1048576 < x2)))) rfl (by rw [h19]; simp only [Bool.true_or]) ?_
 exact az [0,16]
 refine qa (os := _) rfl (qh (k := 21) rfl h19 ?_)
 refine au [9,18,24,14,24,0] ?_
 refine qc (d := 25) (v := .bool ((((decide (x1 < 0)) || (decide (300 < x1))) || (decide (x2 < 0))) || (decide (1048576 < x2)))) rfl (by rw [h19]; simp only [Bool.false_or]) ?_
 exact az [0,16]
 refine qa (os := _) rfl ?_
 refine av [0,1,11] ?_ ?_
 intro _
 refine au [2,4,5,5,0,1,8,10,25,10] ?_
 exact qy (none, 0)
 intro _
 refine au [12,1,2] ?_
 refine qe (fun ((x49, _) : (Bool × Unit)) => ([(1, .pointer (some ⟨g12, 0, none⟩)), (70, .bool x49)], [⟨g12, 33, [.int .i64 x1, .int .i64 x2, .int .i64 x3, .int .i64 x4, .slice a6 x5.length c7, .int .i64 x8, .slice a10 x9.length c11]⟩], [], [Sl (eI .u8) 1 (.slice a6 x5.length c7) x5, Sl (eI .u8) 1 (.slice a10 x9.length c11) x9], zG F x1 x2 x3 x4 x5 x8 x9 x49)) ?_ ?_
 refine qH mixed [] [⟨g12, 33, [.int .i64 x1, .int .i64 x2, .int .i64 x3, .int .i64 x4, .slice a6 x5.length c7, .int .i64 x8, .slice a10 x9.length c11]⟩] [Sl (eI .u8) 1 (.slice a6 x5.length c7) x5, Sl (eI .u8) 1 (.slice a10 x9.length c11) x9] (.cons 0 rfl .nil) (qW 0 rfl (qW 1 rfl qB)) 45 rfl ?_
 refine au [21,0,25,2,1,21,2,25,2,3,21,4,25,2,5,24,3,6,32,14] ?_
 intro x182 e182 _
 refine av [0,29,2,7,7,7,8,28,2] ?_ ?_
 intro h183
 refine qn (d := 34) (v := .bool true) rfl (by rw [h183] <;> rfl) ?_
 refine au [14,9,14,10,14,11,14,12,7,13,7,14,14,15,14,16,14,17,14,18,7,19,7,20,14,21,14,22,14,23,14,24,14,25,14,26,14,27,14,28,14,29,7,30,7,31,14,32,14,33,14,34,14,35,14,36,14,37,14,38,14,39,14,40,14,41,14,42,14,43,7,44,24,9] ?_
 exact qQ (qb (true, ())) (by intro c h; cases h)
 intro h183
 refine qn (d := 34) (v := .bool false) rfl (by rw [h183] <;> rfl) ?_
 refine au [21,9] ?_
 refine kN 10 (.agg #[.int .i64 x4, .slice a6 x5.length c7]) rfl rfl rfl (zI (i := 0) rfl tf29 rfl rfl (by simp) rfl) ?_
 refine au [24,3,11,30,5] ?_
 intro x184 e184 _
 refine av [0,29,2,7,12,7,13,7,14,28,2] ?_ ?_
 intro h185
 refine qn (d := 40) (v := .bool true) rfl (by rw [h185] <;> rfl) ?_
 refine au [14,15,14,16,14,17,14,18,7,19,7,20,14,21,14,22,14,23,14,24,14,25,14,26,14,27,14,28,14,29,7,30,7,31,14,32,14,33,14,34,14,35,14,36,14,37,14,38,14,39,14,40,14,41,14,42,14,43,7,44,24,9] ?_
 exact qQ (qb (true, ())) (by intro c h; cases h)
 intro h185
 refine qn (d := 40) (v := .bool false) rfl (by rw [h185] <;> rfl) ?_
 refine au [21,15] ?_
 refine kN 16 (.agg #[.int .i64 x8, .slice a10 x9.length c11]) rfl rfl rfl (zI (i := 0) rfl tf29 rfl rfl (by simp) rfl) ?_
 refine au [24,3,17,30,5] ?_
 intro x186 e186 _
 refine av [0,29,2,7,18,7,19,7,20,28,2] ?_ ?_
 intro h187
 refine qn (d := 46) (v := .bool true) rfl (by rw [h187] <;> rfl) ?_
 refine au [14,21,14,22,14,23,14,24,14,25,14,26,14,27,14,28,14,29,7,30,7,31,14,32,14,33,14,34,14,35,14,36,14,37,14,38,14,39,14,40,14,41,14,42,14,43,7,44,24,9] ?_
 exact qQ (qb (true, ())) (by intro c h; cases h)
 intro h187
 refine qn (d := 46) (v := .bool false) rfl (by rw [h187] <;> rfl) ?_
 refine av [21,21,21,22,25,2,23,21,24,25,2,25,21,26,25,2,27,7,28,7,29,7,30,7,31,28,2] ?_ ?_
 intro h188
 refine qn (d := 57) (v := .bool true) rfl (by rw [h188] <;> rfl) ?_
 refine au [14,32,14,33,14,34,14,35,14,36,14,37,14,38,14,39,14,40,14,41,14,42,14,43,7,44,24,9] ?_
 exact qQ (qb (true, ())) (by intro c h; cases h)
 intro h188
 refine qn (d := 57) (v := .bool false) rfl (by rw [h188] <;> rfl) ?_
 refine au [21,32] ?_
 refine kN 33 (.agg #[.int .i64 x8, .slice a10 x9.length c11]) rfl rfl rfl (zI (i := 0) rfl tf29 rfl rfl (by simp) rfl) ?_
 refine au [21,34,25,2,35,7,36,24,3,37,34,11] ?_
 intro x189 e189 _
 refine av [0,29,2,7,38,7,39,28,2] ?_ ?_
 intro h190
 refine qn (d := 65) (v := .bool true) rfl (by rw [h190] <;> rfl) ?_
 refine au [21,40,25,2,41,7,42,7,43,7,44,24,9] ?_
 exact qQ (qb ((decide (0 < x1)), ())) (by intro c h; cases h)
 intro h190
 refine qn (d := 65) (v := .bool false) rfl (by rw [h190] <;> rfl) ?_
 refine au [14,40,14,41,14,42,7,43,7,44,24,9] ?_
 exact qQ (qb (false, ())) (by intro c h; cases h)
 rintro ⟨x49, _⟩
 try dsimp only
 refine av [11] ?_ ?_
 intro _
 refine au [2,4,5,5,0,1,8,10,25,10] ?_
 exact qy (none, 0)
 intro _
 refine au [12,1,2,4,5,0,1] ?_
 refine qe (fun ((x99, (a97, c98)) : (List Int × (Option Addr × Nat))) => ([(1, .pointer (some ⟨g12, 0, none⟩)), (4, .slice a97 x99.length c98)], [⟨g12, 33, [.int .i64 x1, .int .i64 x2, .int .i64 x3, .int .i64 x4, .slice a6 x5.length c7, .int .i64 x8, .slice a10 x9.length c11]⟩], [Ro (eI .i64) 3 1 (.slice a97 x99.length c98) x99], [Sl (eI .u8) 1 (.slice a6 x5.length c7) x5, Sl (eI .u8) 1 (.slice a10 x9.length c11) x9], yn F x2 x4 x5 x8 x9 x99)) ?_ ?_
 refine au [2,4,9,18,3,0,1,15,27,5] ?_
 refine qw (fun (((x150, x151), (a148, c149)) : ((List Int × Int) × (Option Addr × Nat))) => ([(1, .pointer (some ⟨g12, 0, none⟩)), (4, .slice a148 x150.length c149), (72, .int .i64 x1), (73, .int .i64 x151)], [⟨g12, 33, [.int .i64 x1, .int .i64 x2, .int .i64 x3, .int .i64 x4, .slice a6 x5.length c7, .int .i64 x8, .slice a10 x9.length c11]⟩], [Ro (eI .i64) 3 1 (.slice a148 x150.length c149) x150], [Sl (eI .u8) 1 (.slice a6 x5.length c7) x5, Sl (eI .u8) 1 (.slice a10 x9.length c11) x9])) (fun k (s : ((List Int × Int) × (Option Addr × Nat))) => yo F x1 x2 x3 x4 x5 x8 x9 k s.1) ((([] : List Int), 0), (none, 0)) F ?_
 intro k166
 rintro ⟨⟨x150, x151⟩, ⟨a148, c149⟩⟩
 try dsimp only
 refine qJ (m' := jZ F x1 x2 x3 x4 x5 x8 x9 (yo F x1 x2 x3 x4 x5 x8 x9 k166) x150 x151) rfl ?_
 refine av [2,4,24,4,0,1,2,11] ?_ ?_
 intro _
 refine au [12,1,2,15,2,4,3,5,0,1,4,3,24,8,3,34,12] ?_
 intro x174 e174 _
 refine qv (vs := [.int .i64 x174]) (ys := ([x174] : List Int)) (qP .i64) (by decide) rfl Tryz.underlying39 tf3 rfl rfl rfl rfl rfl (by decide) (fun a175 c176 => kx 1 (qP .i64) rfl Tryz.underlying39 tf3 rfl rfl rfl rfl rfl (.inl ⟨0, _, rfl⟩) rfl rfl (fun x177 e177 a178 c179 => ?_))
 refine au [5,0,24,5,1,4,19,3,0] ?_
 exact qp ((x177, iadd .i64 x151 1), (a178, c179))
 intro _
 refine au [24,11,20,20,24,12] ?_
 exact qb (x150, (a148, c149))
 rintro ⟨x99, ⟨a97, c98⟩⟩
 try dsimp only
 refine au [2,2,4,3,9,18,33,0] ?_
 intro x102 e102 _
 refine av [25,1,0,1,11] ?_ ?_
 intro _
 refine au [2,4,5,5,0,1,8,10,25,10] ?_
 exact qy (none, 0)
 intro _
 refine au [12,1,2,2,4,3,9,18,33,1] ?_
 rintro x118 e118 ⟨⟨a119, c120⟩, ⟨a121, c122⟩⟩
 refine au [3,13,13,24,7] ?_
 intro g123
 refine au [24,2,5,0,1,2,4,3,25,4,3] ?_
 refine qY 7 (fun ((x126, _) : (Bool × Unit)) => ([(1, .pointer (some ⟨g12, 0, none⟩)), (4, .slice a97 x99.length c98), (6, .pointer (some ⟨g123, 0, none⟩)), (104, .bool x126)], [⟨g123, 33, [.int .i64 x118.1, .int .i64 x118.2.1, .int .i64 x118.2.2.1, .int .i64 x118.2.2.2.1, .slice a119 x118.2.2.2.2.1.length c120, .int .i64 x118.2.2.2.2.2.1, .slice a121 x118.2.2.2.2.2.2.1.length c122]⟩, ⟨g12, 33, [.int .i64 x1, .int .i64 x2, .int .i64 x3, .int .i64 x4, .slice a6 x5.length c7, .int .i64 x8, .slice a10 x9.length c11]⟩], [Ro (eI .i64) 3 1 (.slice a97 x99.length c98) x99, Ro (eI .u8) 5 1 (.slice a119 x118.2.2.2.2.1.length c120) x118.2.2.2.2.1, Ro (eI .u8) 5 1 (.slice a121 x118.2.2.2.2.2.2.1.length c122) x118.2.2.2.2.2.2.1], [Sl (eI .u8) 1 (.slice a6 x5.length c7) x5, Sl (eI .u8) 1 (.slice a10 x9.length c11) x9], j1 F x8 x9 x99 x118 x126)) ?_ ?_
 refine qa (os := _) rfl ?_
 refine av [25,9] ?_ ?_
 intro h124
 refine qi (k := 97) rfl h124 ?_
 refine au [6,6,6,6,6,6,23,0] ?_
 exact qb (true, ())
 intro h124
 refine qh (k := 97) rfl h124 ?_
 refine au [9,24,8,9,25,7,34,13] ?_
 intro x132 e132 _
 refine au [25,4,24,0,0] ?_
 exact qb ((!x132), ())
 rintro ⟨x126, _⟩
 try dsimp only
 refine qa (os := _) rfl ?_
 refine au [3] ?_
 refine qY 7 (fun ((x129, _) : (Bool × Unit)) => ([(4, .slice a97 x99.length c98), (112, .bool x129)], [], [Ro (eI .i64) 3 1 (.slice a97 x99.length c98) x99], [], qbq F x99 x129)) ?_ ?_
 refine qa (os := _) rfl ?_
 refine av [25,9] ?_ ?_
 intro h127
 refine qi (k := 105) rfl h127 ?_
 refine au [6,6,6,6,6,6,23,0] ?_
 exact qb (true, ())
 intro h127
 refine qh (k := 105) rfl h127 ?_
 refine au [9,24,8,9,25,7,34,13] ?_
 intro x131 e131 _
 refine au [25,4,24,0,0] ?_
 exact qb ((!x131), ())
 rintro ⟨x129, _⟩
 try dsimp only
 refine qa (os := _) rfl ?_
 refine av [0,1,11] ?_ ?_
 intro _
 refine au [2,4,5,5,0,1,8,10,25,10] ?_
 exact qy (none, 0)
 intro _
 refine au [12,1,2,4,3,5,5,0,1,8] ?_
 exact qy (a97, c98)
theorem qiJ {F : Nat} {x1 : Int} {x2 : Int} {x3 : Int} {x4 : Int} {x5 : List Int} {a6 : Option Addr} {c7 : Nat} {x8 : Int} {x9 : List Int} {a10 : Option Addr} {c11 : Nat} {r : Int} (hm : qcn F x1 x2 x3 x4 x5 x8 x9 = some r) :
    Pure Tryz.prog 82 [.agg #[.int .i64 x1, .int .i64 x2, .int .i64 x3, .int .i64 x4, .slice a6 x5.length c7, .int .i64 x8, .slice a10 x9.length c11]] [Sl (eI .u8) 1 (.slice a6 x5.length c7) x5, Sl (eI .u8) 1 (.slice a10 x9.length c11) x9] Unit (fun _ => .int .i64 r) (fun _ => []) (fun _ => []) := by
 refine qk Tryz.func82 rfl Tryz.ntmps82 rfl hm (fun w => ?_)
 refine au [25,3,2,4,22] ?_
 intro g12
 refine au [5,0,1,2,4,24,8] ?_
 refine qf qgD ?_
 rintro x13 e13 ⟨a14, c15⟩
 exact az [3,13,13,5,5,0,1,2,4,3,5,0,1,8,17]
set_option maxHeartbeats 4000000 in
theorem qlr {F : Nat} {x1 : Int} {x2 : Int} {x3 : Int} {x4 : Int} {x5 : List Int} {a6 : Option Addr} {c7 : Nat} {x8 : Int} {x9 : List Int} {a10 : Option Addr} {c11 : Nat} {x12 : Int} {r : (Int × Int)} (hm : qcI F x1 x2 x3 x4 x5 x8 x9 x12 = some r) :
    Pure Tryz.prog 54 [.agg #[.int .i64 x1, .int .i64 x2, .int .i64 x3, .int .i64 x4, .slice a6 x5.length c7, .int .i64 x8, .slice a10 x9.length c11], .int .i64 x12] [Sl (eI .u8) 1 (.slice a6 x5.length c7) x5, Sl (eI .u8) 1 (.slice a10 x9.length c11) x9] Unit (fun _ => .tuple #[.int .i64 r.1, .int .i64 r.2]) (fun _ => []) (fun _ => []) := by
 refine qk Tryz.func54 rfl Tryz.ntmps54 rfl hm (fun w => ?_)
 refine au [24,10,2,4,22] ?_
 intro g13
 refine au [5,5,0,1,2,4,24,8] ?_
 refine qf qiJ ?_
 intro x14 e14 _
 refine au [5,0,1] ?_
 refine qe (fun ((x20, _) : (Int × Unit)) => ([(1, .int .i64 x12), (2, .pointer (some ⟨g13, 0, none⟩)), (6, .int .i64 x20)], [⟨g13, 33, [.int .i64 x1, .int .i64 x2, .int .i64 x3, .int .i64 x4, .slice a6 x5.length c7, .int .i64 x8, .slice a10 x9.length c11]⟩], [], [Sl (eI .u8) 1 (.slice a6 x5.length c7) x5, Sl (eI .u8) 1 (.slice a10 x9.length c11) x9], qbT F x1 x2 x3 x4 x5 x8 x9 x12 x20)) ?_ ?_
 refine au [2,4,3,24,13,3] ?_
 refine qY 9 (fun ((x26, _) : (Bool × Unit)) => ([(1, .int .i64 x12), (2, .pointer (some ⟨g13, 0, none⟩)), (6, .int .i64 x14), (20, .bool x26)], [⟨g13, 33, [.int .i64 x1, .int .i64 x2, .int .i64 x3, .int .i64 x4, .slice a6 x5.length c7, .int .i64 x8, .slice a10 x9.length c11]⟩], [], [Sl (eI .u8) 1 (.slice a6 x5.length c7) x5, Sl (eI .u8) 1 (.slice a10 x9.length c11) x9], qbU F x1 x2 x3 x4 x5 x8 x9 x12 x14 x26)) ?_ ?_
 refine qa (os := _) rfl ?_
 refine av [25,9] ?_ ?_
 intro h24
 refine qi (k := 11) rfl h24 ?_
 refine au [3,24,4,3] ?_
 refine qq 5 (decide (x12 < 0)) [(1, .int .i64 x12), (2, .pointer (some ⟨g13, 0, none⟩)), (6, .int .i64 x14), (11, .bool true), (19, .bool ((decide (x12 < 0)) || (decide (x1 ≤ x12))))] (fun h28 => ?_) (fun h28 => ?_) ?_
 refine qa (os := _) rfl (qi (k := 14) rfl h28 ?_)
 refine au [6,6,6,6,23] ?_
 refine qc (d := 19) (v := .bool ((decide (x12 < 0)) || (decide (x1 ≤ x12)))) rfl (by rw [h28]; simp only [Bool.true_or]) ?_
 exact az [0,16]
 refine qa (os := _) rfl (qh (k := 14) rfl h28 ?_)
 refine au [3,9,18,26,2,24,0] ?_
 refine qc (d := 19) (v := .bool ((decide (x12 < 0)) || (decide (x1 ≤ x12)))) rfl (by rw [h28]; simp only [Bool.false_or]) ?_
 exact az [0,16]
 refine qa (os := _) rfl ?_
 refine au [23,0] ?_
 exact qb (((decide (x12 < 0)) || (decide (x1 ≤ x12))), ())
 intro h24
 refine qh (k := 11) rfl h24 ?_
 refine au [6,6,6,6,6,6,6,6,24,0,0] ?_
 exact qb (false, ())
 rintro ⟨x26, _⟩
 try dsimp only
 refine qa (os := _) rfl ?_
 refine av [0,1,11] ?_ ?_
 intro _
 refine au [4,5,0] ?_
 exact qb ((3 : Int), ())
 intro _
 refine au [12] ?_
 exact qb (x14, ())
 rintro ⟨x20, _⟩
 try dsimp only
 refine av [2,2,4,3,25,1,0,1,11] ?_ ?_
 intro _
 exact az [2,4,3,5,5,0,1,8,10,17]
 intro _
 refine au [12,1,2,4,24,8,3,34,12] ?_
 intro x22 e22 _
 exact az [5,5,0,1,8,17]
theorem qey : ∀ (F : Nat) (g1 : Nat) (x2 : Int) (x3 : Int) (x4 : Int) (x5 : Int) (x6 : Int) (x7 : List Int) (a8 : Option Addr) (c9 : Nat) (x10 : Int) (x11 : Int) (x12 : Int) (x13 : Int) (x14 : List Int) (a15 : Option Addr) (c16 : Nat) (x17 : Int) (x18 : List Int) (a19 : Option Addr) (c20 : Nat) (x21 : Int) (x22 : Int) (r : (List Int × Int × Int × Int × Int × Int × Int × Int × Int × Int × Int × Int)), kM F x2 x3 x4 x5 x6 x7 x10 x11 x12 x13 x14 x17 x18 x21 x22 = some r → PureM Tryz.prog 25 [.pointer (some ⟨g1, 0, none⟩), .int .i64 x22] [⟨g1, 64, [.int .i64 x2, .int .i64 x3, .int .i64 x4, .int .i64 x5, .int .i64 x6, .slice a8 x7.length c9, .int .i64 x10, .int .i64 x11, .int .i64 x12, .int .i64 x13, .slice a15 x14.length c16, .int .i64 x17, .slice a19 x18.length c20, .int .i64 x21]⟩] [] [Sl (eI .u8) 1 (.slice a8 x7.length c9) x7, Sl (eI .u8) 1 (.slice a15 x14.length c16) x14, Sl (eI .u8) 1 (.slice a19 x18.length c20) x18] (Option Addr × Nat) (fun g => .slice g.1 r.1.length g.2) (fun _ => [⟨g1, 64, [.int .i64 r.2.1, .int .i64 r.2.2.1, .int .i64 r.2.2.2.1, .int .i64 r.2.2.2.2.1, .int .i64 r.2.2.2.2.2.1, .slice a8 x7.length c9, .int .i64 r.2.2.2.2.2.2.1, .int .i64 r.2.2.2.2.2.2.2.1, .int .i64 r.2.2.2.2.2.2.2.2.1, .int .i64 r.2.2.2.2.2.2.2.2.2.1, .slice a15 x14.length c16, .int .i64 r.2.2.2.2.2.2.2.2.2.2.1, .slice a19 x18.length c20, .int .i64 r.2.2.2.2.2.2.2.2.2.2.2]⟩]) (fun g => [Ro (eI .i64) 3 1 (.slice g.1 r.1.length g.2) r.1]) := by
  intro F
  induction F with
  | zero => intro g1 x2 x3 x4 x5 x6 x7 a8 c9 x10 x11 x12 x13 x14 a15 c16 x17 x18 a19 c20 x21 x22 r hm; exact absurd hm (by simp [kM])
  | succ F ih =>
    intro g1 x2 x3 x4 x5 x6 x7 a8 c9 x10 x11 x12 x13 x14 a15 c16 x17 x18 a19 c20 x21 x22 r hm
    refine zi Tryz.func25 rfl Tryz.ntmps25 rfl hm (fun w => ?_)
    refine qrF (l' := [(0, .pointer (some ⟨g1, 0, none⟩)), (1, .int .i64 x22)]) rfl ?_
    refine qan ?_
    refine kr ?_
    refine vO rfl rfl rfl ?_
    refine vR ?_
    refine vH ?_
    refine qan ?_
    refine kr ?_
    refine yE rfl rfl rfl ?_
    refine qaK rfl rfl rfl ?_
    refine kg rfl rfl ff64_1 rfl ?_
    refine yb (i := 0) rfl rfl tf3 rfl rfl (fun _ => rfl) rfl rfl ?_
    refine qnv rfl rfl rfl rfl ?_
    refine qaK rfl rfl rfl ?_
    refine kg rfl rfl ff64_1 rfl ?_
    refine yY (i := 0) rfl rfl rfl tf3 rfl rfl rfl rfl rfl ?_
    refine vR ?_
    refine vH ?_
    refine qan ?_
    refine kr ?_
    refine yE rfl rfl rfl ?_
    refine qaK rfl rfl rfl ?_
    refine kg rfl rfl ff64_0 rfl ?_
    refine kg rfl rfl ff35_1 rfl ?_
    refine yb (i := 0) rfl rfl tf33 rfl rfl (by simp) rfl rfl ?_
    refine yE rfl rfl rfl ?_
    refine qfB ent54 rfl rfl rfl (fun x23 e23 => qlr e23) (.consF 1 rfl (.consF 2 rfl .nil)) (fun x23 e23 => ?_)
    intro _
    refine yE rfl rfl rfl ?_
    refine ji rfl rfl rfl rfl ?_
    refine ji rfl rfl rfl rfl ?_
    refine vO rfl rfl rfl ?_
    refine vO rfl rfl rfl ?_
    refine vR ?_
    refine vH ?_
    refine qan ?_
    refine kr ?_
    refine yE rfl rfl rfl ?_
    refine qaK rfl rfl rfl ?_
    refine kg rfl rfl ff64_0 rfl ?_
    refine kg rfl rfl ff35_0 rfl ?_
    refine yb (i := 0) rfl rfl tf31 rfl rfl (by simp) rfl rfl ?_
    refine yE rfl rfl rfl ?_
    refine yE rfl rfl rfl ?_
    refine qfB ent55 rfl rfl rfl (fun x24 e24 => qgH e24) (.consF 0 rfl .nil) (fun x24 e24 => ?_)
    intro _
    refine yE rfl rfl rfl ?_
    refine ji rfl rfl rfl rfl ?_
    refine ji rfl rfl rfl rfl ?_
    refine ji rfl rfl rfl rfl ?_
    refine vO rfl rfl rfl ?_
    refine vO rfl rfl rfl ?_
    refine vO rfl rfl rfl ?_
    refine vR ?_
    refine vH ?_
    refine qan ?_
    refine kr ?_
    refine vO rfl rfl rfl ?_
    refine vR ?_
    refine vH ?_
    refine qdy (fun (((x31, x32, x33, x34, x35, x36, x37, x38, x39, x40, x41, x42), (a29, c30)) : ((List Int × Int × Int × Int × Int × Int × Int × Int × Int × Int × Int × Int) × (Option Addr × Nat))) => [(0, .pointer (some ⟨g1, 0, none⟩)), (1, .int .i64 x22), (7, .int .i64 x24.1), (8, .int .i64 x24.2.1), (10, .slice a29 x31.length c30)]) (fun (((x31, x32, x33, x34, x35, x36, x37, x38, x39, x40, x41, x42), (a29, c30)) : ((List Int × Int × Int × Int × Int × Int × Int × Int × Int × Int × Int × Int) × (Option Addr × Nat))) => [⟨g1, 64, [.int .i64 x32, .int .i64 x33, .int .i64 x34, .int .i64 x35, .int .i64 x36, .slice a8 x7.length c9, .int .i64 x37, .int .i64 x38, .int .i64 x39, .int .i64 x40, .slice a15 x14.length c16, .int .i64 x41, .slice a19 x18.length c20, .int .i64 x42]⟩]) (fun (((x31, x32, x33, x34, x35, x36, x37, x38, x39, x40, x41, x42), (a29, c30)) : ((List Int × Int × Int × Int × Int × Int × Int × Int × Int × Int × Int × Int) × (Option Addr × Nat))) => [Ro (eI .i64) 3 1 (.slice a29 x31.length c30) x31]) (fun (((x31, x32, x33, x34, x35, x36, x37, x38, x39, x40, x41, x42), (a29, c30)) : ((List Int × Int × Int × Int × Int × Int × Int × Int × Int × Int × Int × Int) × (Option Addr × Nat))) => [Sl (eI .u8) 1 (.slice a8 x7.length c9) x7, Sl (eI .u8) 1 (.slice a15 x14.length c16) x14, Sl (eI .u8) 1 (.slice a19 x18.length c20) x18]) (fun (((x31, x32, x33, x34, x35, x36, x37, x38, x39, x40, x41, x42), _) : ((List Int × Int × Int × Int × Int × Int × Int × Int × Int × Int × Int × Int) × (Option Addr × Nat))) => kF F x7 x22 x24 x31 x32 x33 x34 x35 x36 x37 x38 x39 x40 x41 x42) ?_ ?_
    · refine qan ?_
      refine kr ?_
      refine yE rfl rfl rfl ?_
      refine qnx rfl rfl rfl rfl ?_
      refine vR ?_
      refine vH ?_
      refine qqp rfl (fun h53 => ?_) (fun h53 => ?_)
      · refine kr ?_
        refine yE rfl rfl rfl ?_
        refine yE rfl rfl rfl ?_
        refine yE rfl rfl rfl ?_
        refine qnz rfl rfl rfl rfl ?_
        refine qiw ent25 rfl rfl rfl (fun x50 e50 => ih g1 x2 x3 x4 x5 x6 x7 a8 c9 x10 x11 x12 x13 x14 a15 c16 x17 x18 a19 c20 (iadd .i64 x21 1) (isub .i64 x22 x24.1) x50 e50) (.cons 0 rfl .nil) .nil (.consF 0 rfl (.consF 1 rfl (.consF 2 rfl .nil))) (fun x50 e50 => ?_)
        rintro ⟨a51, c52⟩
        refine vO rfl rfl rfl ?_
        refine vR ?_
        exact qaM ((x50.1, x50.2.1, x50.2.2.1, x50.2.2.2.1, x50.2.2.2.2.1, x50.2.2.2.2.2.1, x50.2.2.2.2.2.2.1, x50.2.2.2.2.2.2.2.1, x50.2.2.2.2.2.2.2.2.1, x50.2.2.2.2.2.2.2.2.2.1, x50.2.2.2.2.2.2.2.2.2.2.1, x50.2.2.2.2.2.2.2.2.2.2.2), (a51, c52)) (hB := (.cons 0 rfl .nil)) (hR := (.cons 0 rfl .nil)) (hF := (qm 0 rfl (qm 1 rfl (qm 2 rfl ke))))
      · refine qk9 ?_
        refine qc0 Int (eI .i64) 3 1 ?_
        exact qaM ((([] : List Int), x2, x3, x4, x5, x6, x10, x11, x12, x13, x17, iadd .i64 x21 1), (none, 0)) (hB := (.cons 0 rfl .nil)) (hR := (.cons 0 rfl .nil)) (hF := (qm 0 rfl (qm 1 rfl (qm 2 rfl ke))))
    · rintro ⟨⟨x31, x32, x33, x34, x35, x36, x37, x38, x39, x40, x41, x42⟩, ⟨a29, c30⟩⟩
      try dsimp only
      refine qan ?_
      refine kr ?_
      refine yE rfl rfl rfl ?_
      refine qaK rfl rfl rfl ?_
      refine kg rfl rfl ff64_0 rfl ?_
      refine kg rfl rfl ff35_0 rfl ?_
      refine kg rfl rfl ff31_1 rfl ?_
      refine yb (i := 0) rfl rfl tf26 rfl rfl (by simp) rfl rfl ?_
      refine qf3 rfl tf26 rfl (fun g43 => ?_)
      refine yY (i := 0) rfl rfl rfl tf26 rfl rfl rfl rfl rfl ?_
      refine vR ?_
      refine vH ?_
      refine qan ?_
      refine kr ?_
      refine yE rfl rfl rfl ?_
      refine kg rfl rfl ff26_0 rfl ?_
      refine yY (i := 0) rfl rfl rfl tf3 rfl rfl rfl rfl rfl ?_
      refine vR ?_
      refine vH ?_
      refine qan ?_
      refine qH mixed [] [⟨g43, 26, [.int .i64 x24.1, .int .i64 x34, .int .i64 x35]⟩, ⟨g1, 64, [.int .i64 x32, .int .i64 x33, .int .i64 x34, .int .i64 x35, .int .i64 x36, .slice a8 x7.length c9, .int .i64 x37, .int .i64 x38, .int .i64 x39, .int .i64 x40, .slice a15 x14.length c16, .int .i64 x41, .slice a19 x18.length c20, .int .i64 x42]⟩] [Sl (eI .u8) 1 (.slice a8 x7.length c9) x7, Sl (eI .u8) 1 (.slice a15 x14.length c16) x14, Sl (eI .u8) 1 (.slice a19 x18.length c20) x18] (.cons 0 rfl (.cons 0 rfl .nil)) (qW 0 rfl (qW 1 rfl (qW 2 rfl qB))) 18 rfl ?_
      refine qo 0 (.pointer (some ⟨g1, 0, none⟩)) rfl rfl rfl (jc rfl) ?_
      refine qo 1 (.pointer (some ⟨g1, 0, none⟩)) rfl rfl rfl (jc rfl) ?_
      refine qo 2 (.pointer (some ⟨g1, 0, none⟩)) rfl rfl rfl (vI rfl ff64_0) ?_
      refine qo 3 (.pointer (some ⟨g1, 0, none⟩)) rfl rfl rfl (vI rfl ff35_0) ?_
      refine qo 4 (.pointer (some ⟨g1, 4, none⟩)) rfl rfl rfl (vI rfl ff31_2) ?_
      refine kN 5 (.agg #[.int .i64 x36, .slice a8 x7.length c9]) rfl rfl rfl (zI (i := 1) rfl tf29 rfl rfl (by simp) rfl) ?_
      refine qo 6 (.int .i64 x24.2.1) rfl rfl rfl (jc rfl) ?_
      refine qo 7 (.int .i64 x22) rfl rfl rfl (jc rfl) ?_
      refine qo 8 (.slice a29 x31.length c30) rfl rfl rfl (jc rfl) ?_
      refine kN 9 (.agg #[.int .i64 x24.1, .int .i64 x34, .int .i64 x35]) rfl rfl rfl (zI (i := 0) rfl tf26 rfl rfl (by simp) rfl) ?_
      refine qk5 10 rfl (by kernel_rfl) rfl ?_
      refine qfB ent56 rfl rfl rfl (fun x47 e47 => qf6 e47) (.consF 0 rfl (.consR 0 (Ro (eI .i64) 3 1 (.slice a29 x31.length c30) x31) rfl .nil)) (fun x47 e47 => ?_)
      rintro ⟨a48, c49⟩
      refine vR ?_
      refine kj (.cons 0 rfl (.cons 0 rfl .nil)) (qW 0 rfl (qW 1 rfl (qW 2 rfl qB))) ?_
      refine qo 11 (.tuple #[.slice a48 x47.1.length c49, .int .i64 x47.2.1, .int .i64 x47.2.2]) rfl rfl rfl (jc rfl) ?_
      refine qo 12 (.slice a48 x47.1.length c49) rfl rfl rfl (jc rfl) ?_
      refine qo 13 (.int .i64 x47.2.1) rfl rfl rfl (jc rfl) ?_
      refine qo 14 (.int .i64 x47.2.2) rfl rfl rfl (jc rfl) ?_
      refine qo 15 (.slice a48 x47.1.length c49) rfl rfl rfl (jc rfl) ?_
      refine qo 16 (.int .i64 x47.2.1) rfl rfl rfl (jc rfl) ?_
      refine qo 17 (.int .i64 x47.2.2) rfl rfl rfl (jc rfl) ?_
      refine qk4 (by kernel_rfl) ?_
      refine qQ ?_ (by intro c h; cases h)
      refine vH ?_
      refine qan ?_
      refine kr ?_
      refine yE rfl rfl rfl ?_
      refine vO rfl rfl rfl ?_
      refine vR ?_
      refine vH ?_
      refine qnu ?_
      exact yP (a48, c49) (res1 rfl rfl) (hB := fun h => by subst h; exact (.cons 1 rfl .nil)) (hR := fun h => by subst h; exact (.cons 0 rfl .nil))
set_option maxHeartbeats 4000000 in
theorem qiX {F : Nat} {x1 : Int} {x2 : Int} {x3 : Int} {x4 : Int} {x5 : Int} {x6 : List Int} {a7 : Option Addr} {c8 : Nat} {x9 : Int} {x10 : Int} {x11 : Int} {x12 : Int} {x13 : List Int} {a14 : Option Addr} {c15 : Nat} {x16 : Int} {x17 : List Int} {a18 : Option Addr} {c19 : Nat} {x20 : Int} {r : (List Int × Int × Int)} (hm : vD F x1 x2 x3 x4 x5 x6 x9 x10 x11 x12 x13 x16 x17 x20 = some r) :
    Pure Tryz.prog 9 [.agg #[.int .i64 x1, .int .i64 x2, .int .i64 x3, .int .i64 x4, .int .i64 x5, .slice a7 x6.length c8, .int .i64 x9, .int .i64 x10, .int .i64 x11, .int .i64 x12, .slice a14 x13.length c15, .int .i64 x16, .slice a18 x17.length c19], .int .i64 x20] [Sl (eI .u8) 1 (.slice a7 x6.length c8) x6, Sl (eI .u8) 1 (.slice a14 x13.length c15) x13, Sl (eI .u8) 1 (.slice a18 x17.length c19) x17] (Option Addr × Nat) (fun g => .tuple #[.slice g.1 r.1.length g.2, .int .i64 r.2.1, .int .i64 r.2.2]) (fun g => [Ro (eI .i64) 3 1 (.slice g.1 r.1.length g.2) r.1]) (fun _ => []) := by
 refine qk Tryz.func9 rfl Tryz.ntmps9 rfl hm (fun w => ?_)
 refine au [24,10,2,4,22] ?_
 intro g21
 refine au [5,5,5,0,1,2,4,24,8,30,13] ?_
 intro x22 e22 _
 refine au [5,0,1] ?_
 refine qe (fun ((x28, _) : (Int × Unit)) => ([(1, .int .i64 x20), (2, .pointer (some ⟨g21, 0, none⟩)), (7, .int .i64 x28)], [⟨g21, 35, [.int .i64 x1, .int .i64 x2, .int .i64 x3, .int .i64 x4, .int .i64 x5, .slice a7 x6.length c8, .int .i64 x9, .int .i64 x10, .int .i64 x11, .int .i64 x12, .slice a14 x13.length c15, .int .i64 x16, .slice a18 x17.length c19]⟩], [], [Sl (eI .u8) 1 (.slice a7 x6.length c8) x6, Sl (eI .u8) 1 (.slice a14 x13.length c15) x13, Sl (eI .u8) 1 (.slice a18 x17.length c19) x17], jy F x1 x2 x3 x4 x5 x6 x9 x10 x11 x12 x13 x16 x17 x20 x28)) ?_ ?_
 refine au [2,4,3,24,13,3] ?_
 refine qY 10 (fun ((x37, _) : (Bool × Unit)) => ([(1, .int .i64 x20), (2, .pointer (some ⟨g21, 0, none⟩)), (7, .int .i64 x22), (24, .bool x37)], [⟨g21, 35, [.int .i64 x1, .int .i64 x2, .int .i64 x3, .int .i64 x4, .int .i64 x5, .slice a7 x6.length c8, .int .i64 x9, .int .i64 x10, .int .i64 x11, .int .i64 x12, .slice a14 x13.length c15, .int .i64 x16, .slice a18 x17.length c19]⟩], [], [Sl (eI .u8) 1 (.slice a7 x6.length c8) x6, Sl (eI .u8) 1 (.slice a14 x13.length c15) x13, Sl (eI .u8) 1 (.slice a18 x17.length c19) x17], jz F x1 x2 x3 x4 x5 x6 x9 x10 x11 x12 x13 x16 x17 x20 x22 x37)) ?_ ?_
 refine qa (os := _) rfl ?_
 refine av [25,9] ?_ ?_
 intro h35
 refine qi (k := 14) rfl h35 ?_
 refine au [3,24,4,3] ?_
 refine qq 6 (decide (x20 < 0)) [(1, .int .i64 x20), (2, .pointer (some ⟨g21, 0, none⟩)), (7, .int .i64 x22), (14, .bool true), (23, .bool ((decide (x20 < 0)) || (decide (x1 ≤ x20))))] (fun h39 => ?_) (fun h39 => ?_) ?_
 refine qa (os := _) rfl (qi (k := 17) rfl h39 ?_)
 refine au [6,6,6,6,6,23] ?_
 refine qc (d := 23) (v := .bool ((decide (x20 < 0)) || (decide (x1 ≤ x20)))) rfl (by rw [h39]; simp only [Bool.true_or]) ?_
 exact az [0,16]
 refine qa (os := _) rfl (qh (k := 17) rfl h39 ?_)
 refine au [3,9,9,18,26,2,24,0] ?_
 refine qc (d := 23) (v := .bool ((decide (x20 < 0)) || (decide (x1 ≤ x20)))) rfl (by rw [h39]; simp only [Bool.false_or]) ?_
 exact az [0,16]
 refine qa (os := _) rfl ?_
 refine au [23,0] ?_
 exact qb (((decide (x20 < 0)) || (decide (x1 ≤ x20))), ())
 intro h35
 refine qh (k := 14) rfl h35 ?_
 refine au [6,6,6,6,6,6,6,6,6,24,0,0] ?_
 exact qb (false, ())
 rintro ⟨x37, _⟩
 try dsimp only
 refine qa (os := _) rfl ?_
 refine av [0,1,11] ?_ ?_
 intro _
 refine au [4,5,0] ?_
 exact qb ((3 : Int), ())
 intro _
 refine au [12] ?_
 exact qb (x22, ())
 rintro ⟨x28, _⟩
 try dsimp only
 refine av [2,2,4,3,25,1,0,1,11] ?_ ?_
 intro _
 refine au [2,4,3,5,5,5,0,1,8,10,25,10] ?_
 exact qy (none, 0)
 intro _
 refine au [12,1,2,4,24,8] ?_
 refine ql (cells := [.int .i64 x1, .int .i64 x2, .int .i64 x3, .int .i64 x4, .int .i64 x5, .slice a7 x6.length c8, .int .i64 x9, .int .i64 x10, .int .i64 x11, .int .i64 x12, .slice a14 x13.length c15, .int .i64 x16, .slice a18 x17.length c19, .int .i64 0]) rfl st64 rfl (by kernel_rfl) rfl ?_
 refine au [22] ?_
 intro g30
 refine au [5,0,1,2,4,3,3] ?_
 refine qz (fun h => qey F _ _ _ _ _ _ _ _ _ _ _ _ _ _ _ _ _ _ _ _ _ _ _ h) ?_
 rintro x31 e31 ⟨a32, c33⟩
 refine au [5,0,1,2] ?_
 refine qH mixed [] [⟨g30, 64, [.int .i64 x31.2.1, .int .i64 x31.2.2.1, .int .i64 x31.2.2.2.1, .int .i64 x31.2.2.2.2.1, .int .i64 x31.2.2.2.2.2.1, .slice a7 x6.length c8, .int .i64 x31.2.2.2.2.2.2.1, .int .i64 x31.2.2.2.2.2.2.2.1, .int .i64 x31.2.2.2.2.2.2.2.2.1, .int .i64 x31.2.2.2.2.2.2.2.2.2.1, .slice a14 x13.length c15, .int .i64 x31.2.2.2.2.2.2.2.2.2.2.1, .slice a18 x17.length c19, .int .i64 x31.2.2.2.2.2.2.2.2.2.2.2]⟩, ⟨g21, 35, [.int .i64 x1, .int .i64 x2, .int .i64 x3, .int .i64 x4, .int .i64 x5, .slice a7 x6.length c8, .int .i64 x9, .int .i64 x10, .int .i64 x11, .int .i64 x12, .slice a14 x13.length c15, .int .i64 x16, .slice a18 x17.length c19]⟩] [Sl (eI .u8) 1 (.slice a7 x6.length c8) x6, Sl (eI .u8) 1 (.slice a14 x13.length c15) x13, Sl (eI .u8) 1 (.slice a18 x17.length c19) x17] (.cons 0 rfl (.cons 0 rfl .nil)) (qW 0 rfl (qW 1 rfl (qW 2 rfl qB))) 8 rfl ?_
 refine au [7,0,7,1,7,2,21,3,25,2,4,7,5,7,6,7,7,24,9] ?_
 refine qQ ?_ (by intro c h; cases h)
 refine au [1,8] ?_
 exact qy (a32, c33)
set_option maxHeartbeats 4000000 in
theorem qhQ {F : Nat} {x1 : Int} {x2 : Int} {x3 : Int} {x4 : Int} {x5 : Int} {x6 : List Int} {a7 : Option Addr} {c8 : Nat} {x9 : Int} {x10 : Int} {x11 : Int} {x12 : Int} {x13 : List Int} {a14 : Option Addr} {c15 : Nat} {x16 : Int} {x17 : List Int} {a18 : Option Addr} {c19 : Nat} {x20 : Int} {x21 : Int} {r : (Bool × Int)} (hm : yd F x1 x2 x3 x4 x5 x6 x9 x10 x11 x12 x13 x16 x17 x20 x21 = some r) :
    Pure Tryz.prog 10 [.agg #[.int .i64 x1, .int .i64 x2, .int .i64 x3, .int .i64 x4, .int .i64 x5, .slice a7 x6.length c8, .int .i64 x9, .int .i64 x10, .int .i64 x11, .int .i64 x12, .slice a14 x13.length c15, .int .i64 x16, .slice a18 x17.length c19], .int .i64 x20, .int .i64 x21] [Sl (eI .u8) 1 (.slice a7 x6.length c8) x6, Sl (eI .u8) 1 (.slice a14 x13.length c15) x13, Sl (eI .u8) 1 (.slice a18 x17.length c19) x17] Unit (fun _ => .tuple #[.bool r.1, .int .i64 r.2]) (fun _ => []) (fun _ => []) := by
 refine qk Tryz.func10 rfl Tryz.ntmps10 rfl hm (fun w => ?_)
 refine au [26,0,2,4,22] ?_
 intro g22
 refine au [5,5,0,1,2,4,24,8,3,30,14] ?_
 rintro x23 e23 ⟨a24, c25⟩
 refine au [3,13,13,13,5,5,5,0,1] ?_
 refine qe (fun ((x31, _) : (Int × Unit)) => ([(2, .int .i64 x21), (8, .slice a24 x23.1.length c25), (10, .int .i64 x31)], [], [Ro (eI .i64) 3 1 (.slice a24 x23.1.length c25) x23.1], [], v6 F x21 x23 x31)) ?_ ?_
 refine au [2,4,3,24,13,3] ?_
 refine qY 10 (fun ((x37, _) : (Bool × Unit)) => ([(2, .int .i64 x21), (8, .slice a24 x23.1.length c25), (10, .int .i64 x23.2.2), (32, .bool x37)], [], [Ro (eI .i64) 3 1 (.slice a24 x23.1.length c25) x23.1], [], v7 F x21 x23 x37)) ?_ ?_
 refine qa (os := _) rfl ?_
 refine av [25,9] ?_ ?_
 intro h35
 refine qi (k := 22) rfl h35 ?_
 refine au [3,24,4,3] ?_
 refine qq 6 (decide (x21 < 0)) [(2, .int .i64 x21), (8, .slice a24 x23.1.length c25), (10, .int .i64 x23.2.2), (22, .bool true), (31, .bool ((decide (x21 < 0)) || (decide (x1 ≤ x21))))] (fun h39 => ?_) (fun h39 => ?_) ?_
 refine qa (os := _) rfl (qi (k := 25) rfl h39 ?_)
 refine au [6,6,6,6,6,23] ?_
 refine qc (d := 31) (v := .bool ((decide (x21 < 0)) || (decide (x1 ≤ x21)))) rfl (by rw [h39]; simp only [Bool.true_or]) ?_
 exact az [0,16]
 refine qa (os := _) rfl (qh (k := 25) rfl h39 ?_)
 refine au [3,9,9,18,26,2,24,0] ?_
 refine qc (d := 31) (v := .bool ((decide (x21 < 0)) || (decide (x1 ≤ x21)))) rfl (by rw [h39]; simp only [Bool.false_or]) ?_
 exact az [0,16]
 refine qa (os := _) rfl ?_
 refine au [23,0] ?_
 exact qb (((decide (x21 < 0)) || (decide (x1 ≤ x21))), ())
 intro h35
 refine qh (k := 22) rfl h35 ?_
 refine au [6,6,6,6,6,6,6,6,6,24,0,0] ?_
 exact qb (false, ())
 rintro ⟨x37, _⟩
 try dsimp only
 refine qa (os := _) rfl ?_
 refine av [0,1,11] ?_ ?_
 intro _
 refine au [4,5,0] ?_
 exact qb ((3 : Int), ())
 intro _
 refine au [12] ?_
 exact qb (x23.2.2, ())
 rintro ⟨x31, _⟩
 try dsimp only
 refine av [2,2,4,3,25,1,0,1,11] ?_ ?_
 intro _
 exact az [2,4,3,5,5,0,1,8,10,17]
 intro _
 refine au [12,1,2,4,3,3,29,12] ?_
 intro x33 e33 _
 exact az [3,13,13,5,5,0,1,2,4,3,5,5,0,1,8,17]
set_option maxHeartbeats 4000000 in
theorem qiF {F : Nat} {x1 : List Int} {a2 : Option Addr} {c3 : Nat} {x4 : List Int} {a5 : Option Addr} {c6 : Nat} {r : Bool} (hm : yF F x1 x4 = some r) :
    Pure Tryz.prog 17 [.slice a2 x1.length c3, .slice a5 x4.length c6] [Sl (eI .i64) 1 (.slice a2 x1.length c3) x1, Sl (eI .i64) 1 (.slice a5 x4.length c6) x4] Unit (fun _ => .bool r) (fun _ => []) (fun _ => []) := by
 refine qk Tryz.func17 rfl Tryz.ntmps17 rfl hm (fun w => ?_)
 refine av [24,10,2,4,5,0,1,2,2,4,3,24,6,3,24,6,25,1,0,1,11] ?_ ?_
 intro _
 exact az [2,4,5,0,1,8,10,17]
 intro _
 refine au [12,1] ?_
 refine qe (fun ((_, _) : (Unit × Unit)) => ([], [], [], [], qdW F)) ?_ ?_
 refine au [2,4,5,0,1,15] ?_
 refine qw (fun ((x154, _) : (Int × Unit)) => ([(0, .slice a2 x1.length c3), (1, .slice a5 x4.length c6), (5, .int .i64 x154)], [], [], [Sl (eI .i64) 1 (.slice a2 x1.length c3) x1, Sl (eI .i64) 1 (.slice a5 x4.length c6) x4])) (fun k (s : (Int × Unit)) => kO F x1 x4 k s.1) (0, ()) F ?_
 intro k191
 rintro ⟨x154, _⟩
 try dsimp only
 refine qJ (m' := vj F x1 x4 (kO F x1 x4 k191) x154) rfl ?_
 refine av [2,2,4,3,3,24,6,24,4,0,1,11] ?_ ?_
 intro _
 refine au [12,1,2,15,2,32,2] ?_
 intro x218 e218 b219 o220 h221
 replace h221 : a2 = some ⟨b219, o220, none⟩ := h221
 refine qcd (j := 2) (qP .i64) (by decide) rfl ?_
 intro x222 e222 b223 o224 h225
 replace h225 : a5 = some ⟨b223, o224, none⟩ := h225
 refine qH mixed [] [] [qR b223 (o224 + x154.toNat * 1) ((eI .i64) x222), qR b219 (o220 + x154.toNat * 1) ((eI .i64) x218), Sl (eI .i64) 1 (.slice a2 x1.length c3) x1, Sl (eI .i64) 1 (.slice a5 x4.length c6) x4] .nil (qW 0 rfl (qW 1 rfl (qW 2 rfl (qW 3 rfl qB)))) 9 rfl ?_
 refine au [7,0,7,1] ?_
 refine qn (d := 17) (v := .slice (some ⟨b219, o220, none⟩) x1.length c3) rfl (by rw [h221] <;> rfl) (qo 2 (.pointer (some ⟨b219, (o220 + x154.toNat * 1), none⟩)) rfl rfl rfl (qbI Tryz.underlying39 tf3 rfl rfl (zd e218).1 (qax e218)) (qn (d := 17) (v := .slice a2 x1.length c3) rfl (by rw [h221] <;> rfl) (zk 3 (.int .i64 x218) [] rfl rfl rfl (ym (j := 1) rfl tf3 rfl rfl (fun _ => rfl) rfl) ?_)))
 refine au [7,4,7,5] ?_
 refine qn (d := 21) (v := .slice (some ⟨b223, o224, none⟩) x4.length c6) rfl (by rw [h225] <;> rfl) (qo 6 (.pointer (some ⟨b223, (o224 + x154.toNat * 1), none⟩)) rfl rfl rfl (qbI Tryz.underlying39 tf3 rfl rfl (zd e222).1 (qax e222)) (qn (d := 21) (v := .slice a5 x4.length c6) rfl (by rw [h225] <;> rfl) (zk 7 (.int .i64 x222) [] rfl rfl rfl (ym (j := 0) rfl tf3 rfl rfl (fun _ => rfl) rfl) ?_)))
 refine au [7,8,24,9] ?_
 refine qQ ?_ (by intro c h; cases h)
 refine av [1,11] ?_ ?_
 intro _
 exact az [2,4,5,0,1,8,24,1,10,10,24,1,10,17]
 intro _
 refine au [12,24,5,1,4,3,19,5,0] ?_
 exact qp (iadd .i64 x154 1, ())
 intro _
 exact az [24,11,20,20,24,12,25,15]
 rintro ⟨_, _⟩
 try dsimp only
 exact az [2,4,5,0,1,8,17]
theorem qhA (F : Nat)  (r : List (List Int)) (hm : qdg F  = some r) :
    Pure Tryz.prog 32 [] [] (Option Addr × (Nat × List (Option Addr × Nat))) (fun g => .agg #[.slice g.1 r.length g.2.1]) (fun g => [RoN eN39 rN39 39 1 (.slice g.1 r.length g.2.1) r g.2.2 []]) (fun _ => []) := by
 refine qk Tryz.func32 rfl Tryz.ntmps32 rfl hm (fun w => ?_)
 refine au [30,15,2,4,24,7] ?_
 intro g1
 refine au [0,1,2,4] ?_
 refine qv (vs := [.int .i64 1, .int .i64 2, .int .i64 3, .int .i64 5]) (ys := ([1, 2, 3, 5] : List Int)) (qP .i64) (by decide) rfl Tryz.underlying39 tf3 rfl rfl rfl rfl rfl (by decide) (fun a2 c3 => qv (vs := [.int .i64 1, .int .i64 2, .int .i64 3, .int .i64 5]) (ys := ([1, 2, 3, 5] : List Int)) (qP .i64) (by decide) rfl Tryz.underlying39 tf3 rfl rfl rfl rfl rfl (by decide) (fun a4 c5 => qv (vs := [.int .i64 0, .int .i64 1, .int .i64 2, .int .i64 3, .int .i64 5]) (ys := ([0, 1, 2, 3, 5] : List Int)) (qP .i64) (by decide) rfl Tryz.underlying39 tf3 rfl rfl rfl rfl rfl (by decide) (fun a6 c7 => qv (vs := [.int .i64 4]) (ys := ([4] : List Int)) (qP .i64) (by decide) rfl Tryz.underlying39 tf3 rfl rfl rfl rfl rfl (by decide) (fun a8 c9 => qv (vs := [.int .i64 1, .int .i64 2, .int .i64 3]) (ys := ([1, 2, 3] : List Int)) (qP .i64) (by decide) rfl Tryz.underlying39 tf3 rfl rfl rfl rfl rfl (by decide) (fun a10 c11 => ?_)))))
 refine au [27,1] ?_
 refine qv (vs := [.slice a2 ([1, 2, 3, 5] : List Int).length c3, .slice a4 ([1, 2, 3, 5] : List Int).length c5, .slice a6 ([0, 1, 2, 3, 5] : List Int).length c7, .slice none ([] : List Int).length 0, .slice a8 ([4] : List Int).length c9, .slice a10 ([1, 2, 3] : List Int).length c11]) (ys := ([(([1, 2, 3, 5] : List Int), (a2, c3)), (([1, 2, 3, 5] : List Int), (a4, c5)), (([0, 1, 2, 3, 5] : List Int), (a6, c7)), (([] : List Int), (none, 0)), (([4] : List Int), (a8, c9)), (([1, 2, 3] : List Int), (a10, c11))] : List (List Int × (Option Addr × Nat)))) km (by decide) rfl Tryz.underlying22 tf39 rfl rfl rfl rfl rfl (by decide) (fun a12 c13 => qe2 (rin := rN39) (i := 0) ([([1, 2, 3, 5] : List Int), ([1, 2, 3, 5] : List Int), ([0, 1, 2, 3, 5] : List Int), ([] : List Int), ([4] : List Int), ([1, 2, 3] : List Int)] : List (List Int)) ([(a2, c3), (a4, c5), (a6, c7), (none, 0), (a8, c9), (a10, c11)] : List (Option Addr × Nat)) rfl rfl (.cons 5 rfl (.cons 4 rfl (.cons 3 rfl (.cons 0 rfl (.cons 1 rfl (.cons 0 rfl .nil)))))) (ql (cells := [.slice a12 ([([1, 2, 3, 5] : List Int), ([1, 2, 3, 5] : List Int), ([0, 1, 2, 3, 5] : List Int), ([] : List Int), ([4] : List Int), ([1, 2, 3] : List Int)] : List (List Int)).length c13]) rfl st24 rfl (by kernel_rfl) rfl ?_))
 refine au [24,2,0,1,8] ?_
 exact qu (a12, (c13, ([(a2, c3), (a4, c5), (a6, c7), (none, 0), (a8, c9), (a10, c11)] : List (Option Addr × Nat)))) (resL (rs := [.cell 0 24]) rfl (.cell (i := 0) rfl tf24 rfl rfl (by simp) rfl ResOk.nil) rfl) (fun h => by subst h; exact (.cons 0 rfl .nil))
set_option maxHeartbeats 4000000 in
theorem qgB (F : Nat)  (r : Bool) (hm : qbl F  = some r) :
    Pure Tryz.prog 14 [] [] Unit (fun _ => .bool r) (fun _ => []) (fun _ => []) := by
 refine qk Tryz.func14 rfl Tryz.ntmps14 rfl hm (fun w => ?_)
 refine au [30,15,2,4,5,0,1,2,4] ?_
 refine qf (fun h => qhA F _ h) ?_
 rintro x1 e1 ⟨a2, c3⟩
 refine ql (cells := [.int .i64 3, .int .i64 3, .int .i64 2]) rfl st26 rfl (by kernel_rfl) rfl ?_
 refine au [31,0] ?_
 rintro x4 e4 ⟨⟨a5, c6⟩, ⟨a7, c8⟩, ⟨a9, c10⟩⟩
 refine au [3,13,13,24,7] ?_
 intro g11
 refine au [24,2,5,0,1,2,4,24,8,30,14] ?_
 rintro x12 e12 ⟨a13, c14⟩
 refine au [3,13,13,13,5,5,5,0,1,2,4,24,8,29,3] ?_
 intro x15 e15 _
 refine au [3,13,13,5,5,0,1,2,4,24,8,29,3] ?_
 intro x16 e16 _
 refine au [3,13,13,5,5,0,1,2,4,24,8,30,14] ?_
 rintro x17 e17 ⟨a18, c19⟩
 refine au [3,13,13,13,5,5,5,0,1,2,4,3,24,13,3] ?_
 refine qY 4 (fun ((x24, _) : (Bool × Unit)) => ([(1, .pointer (some ⟨g11, 0, none⟩)), (4, .int .i64 x12.2.1), (5, .int .i64 x12.2.2), (6, .bool x15.1), (7, .int .i64 x15.2), (8, .bool x16.1), (9, .int .i64 x16.2), (12, .int .i64 x17.2.2), (47, .bool x24)], [⟨g11, 35, [.int .i64 x4.1, .int .i64 x4.2.1, .int .i64 x4.2.2.1, .int .i64 x4.2.2.2.1, .int .i64 x4.2.2.2.2.1, .slice a5 x4.2.2.2.2.2.1.length c6, .int .i64 x4.2.2.2.2.2.2.1, .int .i64 x4.2.2.2.2.2.2.2.1, .int .i64 x4.2.2.2.2.2.2.2.2.1, .int .i64 x4.2.2.2.2.2.2.2.2.2.1, .slice a7 x4.2.2.2.2.2.2.2.2.2.2.1.length c8, .int .i64 x4.2.2.2.2.2.2.2.2.2.2.2.1, .slice a9 x4.2.2.2.2.2.2.2.2.2.2.2.2.1.length c10]⟩], [Ro (eI .u8) 5 1 (.slice a5 x4.2.2.2.2.2.1.length c6) x4.2.2.2.2.2.1, Ro (eI .u8) 5 1 (.slice a7 x4.2.2.2.2.2.2.2.2.2.2.1.length c8) x4.2.2.2.2.2.2.2.2.2.2.1, Ro (eI .u8) 5 1 (.slice a9 x4.2.2.2.2.2.2.2.2.2.2.2.2.1.length c10) x4.2.2.2.2.2.2.2.2.2.2.2.2.1], [], jX F x4 x12 x15 x16 x17 x24)) ?_ ?_
 refine qa (os := _) rfl ?_
 refine av [25,9] ?_ ?_
 intro h20
 refine qi (k := 43) rfl h20 ?_
 refine au [3] ?_
 refine qv (vs := [.int .i64 1, .int .i64 2, .int .i64 3, .int .i64 5]) (ys := ([1, 2, 3, 5] : List Int)) (qP .i64) (by decide) rfl Tryz.underlying39 tf3 rfl rfl rfl rfl rfl (by decide) (fun a40 c41 => ?_)
 refine au [29,4] ?_
 intro x42 e42 _
 refine au [23,0] ?_
 exact qb (x42, ())
 intro h20
 refine qh (k := 43) rfl h20 ?_
 refine au [6,6,6,24,0,0] ?_
 exact qb (false, ())
 rintro ⟨x24, _⟩
 try dsimp only
 refine qa (os := _) rfl ?_
 refine au [3] ?_
 refine qq 3 x24 [(1, .pointer (some ⟨g11, 0, none⟩)), (5, .int .i64 x12.2.2), (6, .bool x15.1), (7, .int .i64 x15.2), (8, .bool x16.1), (9, .int .i64 x16.2), (12, .int .i64 x17.2.2), (51, .bool (x24 && ((x12.2.1 : Int) == 2)))] (fun h25 => ?_) (fun h25 => ?_) ?_
 refine qa (os := _) rfl (qi (k := 48) rfl h25 ?_)
 refine au [3,24,13,23] ?_
 refine qc (d := 51) (v := .bool (x24 && ((x12.2.1 : Int) == 2))) rfl (by rw [h25]; simp only [Bool.true_and]) ?_
 exact az [0,16]
 refine qa (os := _) rfl (qh (k := 48) rfl h25 ?_)
 refine au [6,6,24,0] ?_
 refine qc (d := 51) (v := .bool (x24 && ((x12.2.1 : Int) == 2))) rfl (by rw [h25]; simp only [Bool.false_and]) ?_
 exact az [0,16]
 refine qa (os := _) rfl ?_
 refine au [3] ?_
 refine qq 3 (x24 && ((x12.2.1 : Int) == 2)) [(1, .pointer (some ⟨g11, 0, none⟩)), (6, .bool x15.1), (7, .int .i64 x15.2), (8, .bool x16.1), (9, .int .i64 x16.2), (12, .int .i64 x17.2.2), (55, .bool ((x24 && ((x12.2.1 : Int) == 2)) && ((x12.2.2 : Int) == 0)))] (fun h26 => ?_) (fun h26 => ?_) ?_
 refine qa (os := _) rfl (qi (k := 52) rfl h26 ?_)
 refine au [3,24,13,23] ?_
 refine qc (d := 55) (v := .bool ((x24 && ((x12.2.1 : Int) == 2)) && ((x12.2.2 : Int) == 0))) rfl (by rw [h26]; simp only [Bool.true_and]) ?_
 exact az [0,16]
 refine qa (os := _) rfl (qh (k := 52) rfl h26 ?_)
 refine au [6,6,24,0] ?_
 refine qc (d := 55) (v := .bool ((x24 && ((x12.2.1 : Int) == 2)) && ((x12.2.2 : Int) == 0))) rfl (by rw [h26]; simp only [Bool.false_and]) ?_
 exact az [0,16]
 refine qa (os := _) rfl ?_
 refine au [3] ?_
 refine qq 2 ((x24 && ((x12.2.1 : Int) == 2)) && ((x12.2.2 : Int) == 0)) [(1, .pointer (some ⟨g11, 0, none⟩)), (7, .int .i64 x15.2), (8, .bool x16.1), (9, .int .i64 x16.2), (12, .int .i64 x17.2.2), (58, .bool (((x24 && ((x12.2.1 : Int) == 2)) && ((x12.2.2 : Int) == 0)) && x15.1))] (fun h27 => ?_) (fun h27 => ?_) ?_
 refine qa (os := _) rfl (qi (k := 56) rfl h27 ?_)
 refine au [3,23] ?_
 refine qc (d := 58) (v := .bool (((x24 && ((x12.2.1 : Int) == 2)) && ((x12.2.2 : Int) == 0)) && x15.1)) rfl (by rw [h27]; simp only [Bool.true_and]) ?_
 exact az [0,16]
 refine qa (os := _) rfl (qh (k := 56) rfl h27 ?_)
 refine au [6,24,0] ?_
 refine qc (d := 58) (v := .bool (((x24 && ((x12.2.1 : Int) == 2)) && ((x12.2.2 : Int) == 0)) && x15.1)) rfl (by rw [h27]; simp only [Bool.false_and]) ?_
 exact az [0,16]
 refine qa (os := _) rfl ?_
 refine au [3] ?_
 refine qq 3 (((x24 && ((x12.2.1 : Int) == 2)) && ((x12.2.2 : Int) == 0)) && x15.1) [(1, .pointer (some ⟨g11, 0, none⟩)), (8, .bool x16.1), (9, .int .i64 x16.2), (12, .int .i64 x17.2.2), (62, .bool ((((x24 && ((x12.2.1 : Int) == 2)) && ((x12.2.2 : Int) == 0)) && x15.1) && ((x15.2 : Int) == 0)))] (fun h28 => ?_) (fun h28 => ?_) ?_
 refine qa (os := _) rfl (qi (k := 59) rfl h28 ?_)
 refine au [3,24,13,23] ?_
 refine qc (d := 62) (v := .bool ((((x24 && ((x12.2.1 : Int) == 2)) && ((x12.2.2 : Int) == 0)) && x15.1) && ((x15.2 : Int) == 0))) rfl (by rw [h28]; simp only [Bool.true_and]) ?_
 exact az [0,16]
 refine qa (os := _) rfl (qh (k := 59) rfl h28 ?_)
 refine au [6,6,24,0] ?_
 refine qc (d := 62) (v := .bool ((((x24 && ((x12.2.1 : Int) == 2)) && ((x12.2.2 : Int) == 0)) && x15.1) && ((x15.2 : Int) == 0))) rfl (by rw [h28]; simp only [Bool.false_and]) ?_
 exact az [0,16]
 refine qa (os := _) rfl ?_
 refine au [3] ?_
 refine qq 3 ((((x24 && ((x12.2.1 : Int) == 2)) && ((x12.2.2 : Int) == 0)) && x15.1) && ((x15.2 : Int) == 0)) [(1, .pointer (some ⟨g11, 0, none⟩)), (9, .int .i64 x16.2), (12, .int .i64 x17.2.2), (66, .bool (((((x24 && ((x12.2.1 : Int) == 2)) && ((x12.2.2 : Int) == 0)) && x15.1) && ((x15.2 : Int) == 0)) && (!x16.1)))] (fun h29 => ?_) (fun h29 => ?_) ?_
 refine qa (os := _) rfl (qi (k := 63) rfl h29 ?_)
 refine au [3,25,4,23] ?_
 refine qc (d := 66) (v := .bool (((((x24 && ((x12.2.1 : Int) == 2)) && ((x12.2.2 : Int) == 0)) && x15.1) && ((x15.2 : Int) == 0)) && (!x16.1))) rfl (by rw [h29]; simp only [Bool.true_and]) ?_
 exact az [0,16]
 refine qa (os := _) rfl (qh (k := 63) rfl h29 ?_)
 refine au [6,6,24,0] ?_
 refine qc (d := 66) (v := .bool (((((x24 && ((x12.2.1 : Int) == 2)) && ((x12.2.2 : Int) == 0)) && x15.1) && ((x15.2 : Int) == 0)) && (!x16.1))) rfl (by rw [h29]; simp only [Bool.false_and]) ?_
 exact az [0,16]
 refine qa (os := _) rfl ?_
 refine au [3] ?_
 refine qq 3 (((((x24 && ((x12.2.1 : Int) == 2)) && ((x12.2.2 : Int) == 0)) && x15.1) && ((x15.2 : Int) == 0)) && (!x16.1)) [(1, .pointer (some ⟨g11, 0, none⟩)), (12, .int .i64 x17.2.2), (70, .bool ((((((x24 && ((x12.2.1 : Int) == 2)) && ((x12.2.2 : Int) == 0)) && x15.1) && ((x15.2 : Int) == 0)) && (!x16.1)) && ((x16.2 : Int) == 0)))] (fun h30 => ?_) (fun h30 => ?_) ?_
 refine qa (os := _) rfl (qi (k := 67) rfl h30 ?_)
 refine au [3,24,13,23] ?_
 refine qc (d := 70) (v := .bool ((((((x24 && ((x12.2.1 : Int) == 2)) && ((x12.2.2 : Int) == 0)) && x15.1) && ((x15.2 : Int) == 0)) && (!x16.1)) && ((x16.2 : Int) == 0))) rfl (by rw [h30]; simp only [Bool.true_and]) ?_
 exact az [0,16]
 refine qa (os := _) rfl (qh (k := 67) rfl h30 ?_)
 refine au [6,6,24,0] ?_
 refine qc (d := 70) (v := .bool ((((((x24 && ((x12.2.1 : Int) == 2)) && ((x12.2.2 : Int) == 0)) && x15.1) && ((x15.2 : Int) == 0)) && (!x16.1)) && ((x16.2 : Int) == 0))) rfl (by rw [h30]; simp only [Bool.false_and]) ?_
 exact az [0,16]
 refine qa (os := _) rfl ?_
 refine au [3] ?_
 refine qq 3 ((((((x24 && ((x12.2.1 : Int) == 2)) && ((x12.2.2 : Int) == 0)) && x15.1) && ((x15.2 : Int) == 0)) && (!x16.1)) && ((x16.2 : Int) == 0)) [(1, .pointer (some ⟨g11, 0, none⟩)), (74, .bool (((((((x24 && ((x12.2.1 : Int) == 2)) && ((x12.2.2 : Int) == 0)) && x15.1) && ((x15.2 : Int) == 0)) && (!x16.1)) && ((x16.2 : Int) == 0)) && ((x17.2.2 : Int) == 3)))] (fun h31 => ?_) (fun h31 => ?_) ?_
 refine qa (os := _) rfl (qi (k := 71) rfl h31 ?_)
 refine au [3,24,13,23] ?_
 refine qc (d := 74) (v := .bool (((((((x24 && ((x12.2.1 : Int) == 2)) && ((x12.2.2 : Int) == 0)) && x15.1) && ((x15.2 : Int) == 0)) && (!x16.1)) && ((x16.2 : Int) == 0)) && ((x17.2.2 : Int) == 3))) rfl (by rw [h31]; simp only [Bool.true_and]) ?_
 exact az [0,16]
 refine qa (os := _) rfl (qh (k := 71) rfl h31 ?_)
 refine au [6,6,24,0] ?_
 refine qc (d := 74) (v := .bool (((((((x24 && ((x12.2.1 : Int) == 2)) && ((x12.2.2 : Int) == 0)) && x15.1) && ((x15.2 : Int) == 0)) && (!x16.1)) && ((x16.2 : Int) == 0)) && ((x17.2.2 : Int) == 3))) rfl (by rw [h31]; simp only [Bool.false_and]) ?_
 exact az [0,16]
 refine qa (os := _) rfl ?_
 refine au [3] ?_
 refine qY 4 (fun ((x34, _) : (Bool × Unit)) => ([(1, .pointer (some ⟨g11, 0, none⟩)), (79, .bool x34)], [⟨g11, 35, [.int .i64 x4.1, .int .i64 x4.2.1, .int .i64 x4.2.2.1, .int .i64 x4.2.2.2.1, .int .i64 x4.2.2.2.2.1, .slice a5 x4.2.2.2.2.2.1.length c6, .int .i64 x4.2.2.2.2.2.2.1, .int .i64 x4.2.2.2.2.2.2.2.1, .int .i64 x4.2.2.2.2.2.2.2.2.1, .int .i64 x4.2.2.2.2.2.2.2.2.2.1, .slice a7 x4.2.2.2.2.2.2.2.2.2.2.1.length c8, .int .i64 x4.2.2.2.2.2.2.2.2.2.2.2.1, .slice a9 x4.2.2.2.2.2.2.2.2.2.2.2.2.1.length c10]⟩], [Ro (eI .u8) 5 1 (.slice a5 x4.2.2.2.2.2.1.length c6) x4.2.2.2.2.2.1, Ro (eI .u8) 5 1 (.slice a7 x4.2.2.2.2.2.2.2.2.2.2.1.length c8) x4.2.2.2.2.2.2.2.2.2.2.1, Ro (eI .u8) 5 1 (.slice a9 x4.2.2.2.2.2.2.2.2.2.2.2.2.1.length c10) x4.2.2.2.2.2.2.2.2.2.2.2.2.1], [], jY F x4 x34)) ?_ ?_
 refine qa (os := _) rfl ?_
 refine av [25,9] ?_ ?_
 intro h32
 refine qi (k := 75) rfl h32 ?_
 refine au [24,8,30,13] ?_
 intro x39 e39 _
 refine au [24,13,23,0] ?_
 exact qb (((x39 : Int) == 0), ())
 intro h32
 refine qh (k := 75) rfl h32 ?_
 refine au [6,6,6,24,0,0] ?_
 exact qb (false, ())
 rintro ⟨x34, _⟩
 try dsimp only
 refine qa (os := _) rfl ?_
 refine au [3] ?_
 refine qY 6 (fun ((x37, _) : (Bool × Unit)) => ([(86, .bool x37)], [], [], [], qbm F x37)) ?_ ?_
 refine qa (os := _) rfl ?_
 refine av [25,9] ?_ ?_
 intro h35
 refine qi (k := 80) rfl h35 ?_
 refine au [9,24,8] ?_
 refine ql (cells := [.int .i64 x4.1, .int .i64 x4.2.1, .int .i64 x4.2.2.1, .int .i64 x4.2.2.2.1, .int .i64 x4.2.2.2.2.1, .slice a5 x4.2.2.2.2.2.1.length c6, .int .i64 0, .int .i64 0, .int .i64 0, .int .i64 0, .slice none 0 0, .int .i64 0, .slice none 0 0]) rfl st35 rfl (by kernel_rfl) rfl ?_
 refine au [27,0,27,0,30,13] ?_
 intro x38 e38 _
 refine au [24,13,23,0] ?_
 exact qb (((x38 : Int) == 4), ())
 intro h35
 refine qh (k := 80) rfl h35 ?_
 refine au [6,6,6,6,6,24,0,0] ?_
 exact qb (false, ())
 rintro ⟨x37, _⟩
 try dsimp only
 refine qa (os := _) rfl ?_
 exact az [5,0,1,8,17]
set_option maxHeartbeats 4000000 in
theorem qhF {F : Nat} {x1 : Int} {x2 : List (Int × Int)} {a3 : Option Addr} {c4 : Nat} {r : List (List Int)} (hm : vM F x1 x2 = some r) :
    Pure Tryz.prog 41 [.int .i64 x1, .slice a3 x2.length c4] [Sl eS88 2 (.slice a3 x2.length c4) x2] (Option Addr × (Nat × List (Option Addr × Nat))) (fun g => .agg #[.slice g.1 r.length g.2.1]) (fun g => [RoN eN39 rN39 39 1 (.slice g.1 r.length g.2.1) r g.2.2 []]) (fun _ => []) := by
 refine qk Tryz.func41 rfl Tryz.ntmps41 rfl hm (fun w => ?_)
 refine au [24,10,2,4,24,7] ?_
 intro g5
 refine au [0,1,2,4,3] ?_
 refine qrR (rin := rN39) (y := ([] : List Int)) (q := ((none, 0) : Option Addr × Nat)) km (by decide) qpK rfl UnF.u inferInstance rfl rfl rfl rfl rfl rfl ?_
 intro x6 e6 a7 c8
 refine ql (cells := [.slice a7 x6.length c8]) rfl st24 rfl (by kernel_rfl) rfl ?_
 refine au [24,7] ?_
 intro g9
 refine au [24,2,0,1] ?_
 refine qe (fun ((x171, g170) : (List (List Int) × List (Option Addr × Nat))) => ([(4, .pointer (some ⟨g5, 0, none⟩)), (5, .pointer (some ⟨g9, 0, none⟩))], [⟨g9, 24, [.slice a7 x171.length c8]⟩, ⟨g5, 24, [.slice none 0 0]⟩], [RoN eN39 rN39 39 1 (.slice a7 x171.length c8) x171 g170 []], [], qdr F x171)) ?_ ?_
 refine au [2,4,3,24,6,3,0,1,15] ?_
 refine qw (fun (((x224, x226), g225) : ((Int × List (List Int)) × List (Option Addr × Nat))) => ([(4, .pointer (some ⟨g5, 0, none⟩)), (5, .pointer (some ⟨g9, 0, none⟩)), (11, .slice a3 x2.length c4), (12, .int .i64 (x2.length : Int)), (13, .int .i64 x224)], [⟨g9, 24, [.slice a7 x226.length c8]⟩, ⟨g5, 24, [.slice none 0 0]⟩], [RoN eN39 rN39 39 1 (.slice a7 x226.length c8) x226 g225 []], [Sl eS88 2 (.slice a3 x2.length c4) x2])) (fun k (s : ((Int × List (List Int)) × List (Option Addr × Nat))) => yM F x2 k s.1) ((0, x6), (List.replicate x6.length ((none, 0) : Option Addr × Nat))) F ?_
 intro k279
 rintro ⟨⟨x224, x226⟩, g225⟩
 try dsimp only
 refine qJ (m' := qaF F x2 (yM F x2 k279) x224 x226) rfl ?_
 refine av [2,4,24,4,0,1,2,11] ?_ ?_
 intro _
 refine au [12,1,2,15,2,4,31,1] ?_
 intro x306 e306 b307 o308
 refine au [27,14,24,7] ?_
 intro g309
 refine au [24,2,0,1] ?_
 refine qk7 (j := 0) rfl ?_
 intro x310 e310 g311 h312 g313 h314
 replace h314 : a7 = some ⟨g313, 0, none⟩ := h314
 have h315 := qdN (k := x226.length) (c := c8) h314
 refine qol (i := 0) rfl h312 (List.not_mem_nil) (qk7 (j := 1) rfl ?_)
 intro x316 e316 g317 h318 g319 h320
 replace h320 : a7 = some ⟨g319, 0, none⟩ := h320
 have h321 := qdN (k := x226.length) (c := c8) h320
 refine qH mixed [15] [⟨g309, 88, [.int .i64 x306.1, .int .i64 x306.2]⟩, ⟨g9, 24, [.slice a7 x226.length c8]⟩, ⟨g5, 24, [.slice none 0 0]⟩] [qR b307 o308 (eS88 x306), Sl eS88 2 (.slice a3 x2.length c4) x2, qR g313 (x306.1.toNat * 1) (eN39 (x310, g311)), qR g319 (x306.1.toNat * 1) (eN39 (x316, g317))] (.cons 0 rfl (.cons 0 rfl (.cons 0 rfl .nil))) (qW 0 rfl (qW 1 rfl (qgq 1 rfl (qen km h312 h314) (qgq 1 rfl (qen km h318 h320) qB)))) 16 rfl ?_
 refine au [21,0,26,13,1,21,2,25,2,3,21,4,26,13,5,21,6,25,2,7] ?_
 refine qn (d := 22) (v := .slice (some ⟨g313, 0, none⟩) x226.length c8) rfl (by rw [h314] <;> rfl) (qo 8 (.pointer (some ⟨g313, x306.1.toNat * 1, none⟩)) rfl rfl rfl (qew Tryz.underlying22 tf39 rfl rfl (zd e310).1 (qax e310)) (qn (d := 22) (v := .slice a7 x226.length c8) rfl (by rw [h314] <;> rfl) (zk 9 (.slice g311.1 x310.length g311.2) [[15]] rfl rfl rfl (ym (j := 2) rfl tf39 rfl rfl (fun _ => rfl) rfl) ?_)))
 refine au [21,10,25,2,11,24,3,12] ?_
 refine qv (vs := [.int .i64 x306.2]) (ys := ([x306.2] : List Int)) (qP .i64) (by decide) rfl Tryz.underlying39 tf3 rfl rfl rfl rfl rfl (by decide) (fun a322 c323 => ?_)
 refine au [0] ?_
 refine kj (.cons 0 rfl (.cons 0 rfl (.cons 0 rfl .nil))) (qW 0 rfl (qW 1 rfl (qgq 2 rfl (qen km h312 h314) (qgq 2 rfl (qen km h318 h320) qB)))) ?_
 refine au [24,3,13] ?_
 refine kx 1 (qP .i64) rfl Tryz.underlying39 tf3 rfl rfl rfl rfl rfl (.inl ⟨0, _, rfl⟩) rfl rfl (fun x324 e324 a325 c326 => ?_)
 refine au [0] ?_
 refine kj (.cons 0 rfl (.cons 0 rfl (.cons 0 rfl .nil))) (qW 0 rfl (qW 1 rfl (qgq 2 rfl (qen km h312 h314) (qgq 2 rfl (qen km h318 h320) qB)))) (qn (d := 18) (v := .slice (some ⟨g319, 0, none⟩) x226.length c8) rfl (by rw [h320] <;> rfl) (qo 14 (.pointer (some ⟨g319, x306.1.toNat * 1, none⟩)) rfl rfl rfl (qew Tryz.underlying22 tf39 rfl rfl (zd e316).1 (qax e316)) (qn (d := 18) (v := .slice a7 x226.length c8) rfl (by rw [h320] <;> rfl) ?_)))
 refine au [24,3,15] ?_
 refine qmf (j := 2) (kh := 0) (y' := x324) (q' := (a325, c326)) km rfl rfl rfl tf39 rfl (qdN h320) rfl (zd e316).2.1 rfl (.cons 0 rfl .nil) (fun x327 e327 h328 g330 => ?_)
 have h329 : x327.length = x226.length := by rw [← e327, List.length_set]
 refine qc (d := 18) (v := .slice a7 x327.length c8) rfl (by rw [h328] <;> rfl) (qc (d := 22) (v := .slice a7 x327.length c8) rfl (by rw [h328] <;> rfl) (qcA (i := 1) (cs' := [.slice a7 x327.length c8]) rfl (by rw [h328] <;> rfl) ?_))
 refine au [0] ?_
 refine qbH 15 rfl (by kernel_rfl) (.cons 0 rfl (.cons 0 (by rw [h329]; rfl) (.cons 0 rfl .nil))) ?_
 refine au [24,9] ?_
 refine qQ ?_ (by intro c h; cases h)
 refine au [24,5,1,4,19,3,0] ?_
 exact qp ((iadd .i64 x224 1, x327), g330)
 intro _
 refine au [24,11,20,20,24,12] ?_
 exact qb (x226, g225)
 rintro ⟨x171, g170⟩
 try dsimp only
 refine au [2,4,24,8,24,15,0,1,8] ?_
 exact qu (a7, (c8, g170)) (resL (rs := [.cell 4 24]) rfl (.cell (i := 1) rfl tf24 rfl rfl (by simp) rfl ResOk.nil) rfl) (fun h => by subst h; exact (.cons 0 rfl .nil))
theorem qbJ {F : Nat} {x1 : List (Int × Int)} {a2 : Option Addr} {c3 : Nat} {r : Unit} (hm : za F x1 = some r) :
    PureM Tryz.prog 43 [.slice a2 x1.length c3] [] [] [Sl eS88 2 (.slice a2 x1.length c3) x1] Nat (fun g => .func (.func 74) #[] #[.pointer (some ⟨g, 0, none⟩)]) (fun g => [⟨g, 85, [.slice a2 x1.length c3]⟩]) (fun _ => []) := by
 refine zi Tryz.func43 rfl Tryz.ntmps43 rfl hm (fun w => ?_)
 refine au [25,3,2,4,22] ?_
 intro g4
 refine au [5,0,1,2,4,27,9,5,0,1,8] ?_
 exact q7 g4
theorem qj3 {F : Nat} {x1 : List (List Int)} {a2 : Option Addr} {c3 : Nat} {s3 : List (Option Addr × Nat)} {r : Unit} (hm : vB F x1 = some r) :
    PureM Tryz.prog 75 [.agg #[.slice a2 x1.length c3]] [] [] [SlN eN39 iN39 1 (.slice a2 x1.length c3) x1 s3] Nat (fun g => .func (.func 101) #[] #[.pointer (some ⟨g, 0, none⟩)]) (fun g => [⟨g, 24, [.slice a2 x1.length c3]⟩]) (fun _ => []) := by
 refine zi Tryz.func75 rfl Tryz.ntmps75 rfl hm (fun w => ?_)
 refine au [25,3,2,4,22] ?_
 intro g4
 refine au [5,0,1,2,4,27,9,5,0,1,8] ?_
 exact q7 g4
set_option maxHeartbeats 4000000 in
theorem qdc (F : Nat) {σ τ : Type} {J : Rounds σ τ} {yy : σ → (Int × Int) → Option (σ ⊕ τ)} {L : Nat} (hY : YieldC Tryz.prog L (fun (p : (Int × Int)) => [.agg #[.int .i64 p.1, .int .i64 p.2]]) J yy) (s0 : σ) (gs0 : J.γ) (g1 : Nat) (x2 : List (List Int)) (a3 : Option Addr) (c4 : (Nat × List (Option Addr × Nat))) (r : σ ⊕ τ) (hm : jI F yy x2 s0 = some r) :
    PureM Tryz.prog 101 ([.func (.yield L) #[] #[], .pointer (some ⟨g1, 0, none⟩)]) ([⟨g1, 24, [.slice a3 x2.length c4.1]⟩] ++ J.IB s0 gs0) (J.IR s0 gs0) [J.F, SlN eN39 iN39 1 (.slice a3 x2.length c4.1) x2 c4.2] (J.G r) (fun _ => .tuple #[]) (fun g => [⟨g1, 24, [.slice a3 x2.length c4.1]⟩] ++ J.bs r g) (fun g => J.rs r g) := by
 refine zi Tryz.func101 rfl Tryz.ntmps101 rfl hm (fun w => ?_)
 refine au [24,10,2,4,9,18,24,6,3,0,1,15] ?_
 refine qaJ (fun (((x121, x122), g123) : ((Int × σ) × J.γ)) => [(0, .func (.yield L) #[] #[]), (8, .slice a3 x2.length c4.1), (9, .int .i64 (x2.length : Int)), (10, .int .i64 x121)]) (fun (((x121, x122), g123) : ((Int × σ) × J.γ)) => [⟨g1, 24, [.slice a3 x2.length c4.1]⟩] ++ J.IB x122 g123) (fun (((x121, x122), g123) : ((Int × σ) × J.γ)) => [] ++ J.IR x122 g123) (fun (((x121, x122), g123) : ((Int × σ) × J.γ)) => [SlN eN39 iN39 1 (.slice a3 x2.length c4.1) x2 c4.2, J.F]) (fun k (s : ((Int × σ) × J.γ)) => zE F yy x2 k s.1) ((0, s0), gs0) F ?_ (hB := (.cons 0 rfl (qj 0 rfl))) (hR := (qj 0 rfl)) (hF := (qm 1 rfl (qm 0 rfl ke)))
 intro k240
 rintro ⟨⟨x121, x122⟩, g123⟩
 try dsimp only
 refine qJ (m' := qaD F yy x2 (zE F yy x2 k240) x121 x122) rfl ?_
 refine av [2,4,24,4,0,1,2,11] ?_ ?_
 intro _
 refine au [12,1] ?_
 refine qdy (fun ((x298, g299) : (σ × J.γ)) => [(0, .func (.yield L) #[] #[]), (8, .slice a3 x2.length c4.1), (9, .int .i64 (x2.length : Int)), (10, .int .i64 x121)]) (fun ((x298, g299) : (σ × J.γ)) => [⟨g1, 24, [.slice a3 x2.length c4.1]⟩] ++ J.IB x298 g299) (fun ((x298, g299) : (σ × J.γ)) => [] ++ J.IR x298 g299) (fun ((x298, g299) : (σ × J.γ)) => [SlN eN39 iN39 1 (.slice a3 x2.length c4.1) x2 c4.2, J.F]) (fun ((x298, _) : (σ × J.γ)) => qaE F yy (zE F yy x2 k240) x121 x298) ?_ ?_
 refine au [15,2,4,3,27,8] ?_
 intro x300 e300 g303 b301 o302
 refine au [25,13,5,5,0,1,2,4,3,24,6,3,0,1,15] ?_
 refine qaJ (fun (((x320, x321), g322) : ((Int × σ) × J.γ)) => [(0, .func (.yield L) #[] #[]), (3, .int .i64 x121), (8, .slice a3 x2.length c4.1), (9, .int .i64 (x2.length : Int)), (10, .int .i64 x121), (15, .slice g303.1 x300.length g303.2), (16, .int .i64 (x300.length : Int)), (17, .int .i64 x320)]) (fun (((x320, x321), g322) : ((Int × σ) × J.γ)) => [⟨g1, 24, [.slice a3 x2.length c4.1]⟩] ++ J.IB x321 g322) (fun (((x320, x321), g322) : ((Int × σ) × J.γ)) => [] ++ J.IR x321 g322) (fun (((x320, x321), g322) : ((Int × σ) × J.γ)) => [SlN eN39 iN39 1 (.slice a3 x2.length c4.1) x2 c4.2, Sl (eI .i64) 1 (.slice g303.1 x300.length g303.2) x300, J.F]) (fun k (s : ((Int × σ) × J.γ)) => yp F yy (zE F yy x2 k240) x121 x300 k s.1) ((0, x122), g123) F ?_ (hB := (.cons 0 rfl (qj 0 rfl))) (hR := (qj 0 rfl)) (hF := (qm 2 rfl (qm 1 rfl (qm 3 rfl ke))))
 intro k339
 rintro ⟨⟨x320, x321⟩, g322⟩
 try dsimp only
 refine qJ (m' := j5 F yy (zE F yy x2 k240) x121 x300 (yp F yy (zE F yy x2 k240) x121 x300 k339) x320 x321) rfl ?_
 refine av [2,4,24,4,0,1,2,11] ?_ ?_
 intro _
 refine au [12,1,2,15,2,4,28,10] ?_
 intro x348 e348 b349 o350
 refine au [25,13,5,0,1,2,4,3,3,3] ?_
 refine ql (cells := [.int .i64 x121, .int .i64 x348]) rfl st88 rfl (by kernel_rfl) rfl (qdz hY x321 (x121, x348) g322 (B1 := [⟨g1, 24, [.slice a3 x2.length c4.1]⟩]) (R1 := []) (j := 3) rfl rfl rfl rfl rfl rfl rfl (fun x351 _ g353 => ?_) (fun x352 _ g353 => ?_))
 refine au [25,4,0,1] ?_
 refine yX (b := false) rfl (fun h => by cases h) (fun _ => ?_)
 refine au [12,24,5,1,4,19,3,0] ?_
 exact qay ((iadd .i64 x320 1, x351), g353) (hB := (.cons 0 rfl (qj 0 rfl))) (hR := (qj 0 rfl)) (hF := (qm 1 rfl (qm 2 rfl (qm 3 rfl ke))))
 refine au [25,4,0,1] ?_
 refine yX (b := true) rfl (fun _ => ?_) (fun h => by cases h)
 refine au [8,24,1,10,10,24,1,24,1,10,10,24,1] ?_
 exact jP (B0 := [⟨g1, 24, [.slice a3 x2.length c4.1]⟩]) (x := .inr x352) g353 (.inl rfl) (res0 rfl) (.cons 0 rfl (qj 0 rfl)) (qj 0 rfl)
 intro _
 refine au [24,11,20,20,24,12,24,5] ?_
 exact qaM (x321, g322) (hB := (.cons 0 rfl (qj 0 rfl))) (hR := (qj 0 rfl)) (hF := (qm 0 rfl (qm 2 rfl ke)))
 rintro ⟨x298, g299⟩
 try dsimp only
 refine au [4,19,3,0] ?_
 exact qay ((iadd .i64 x121 1, x298), g299) (hB := (.cons 0 rfl (qj 0 rfl))) (hR := (qj 0 rfl)) (hF := (qm 0 rfl (qm 1 rfl ke)))
 intro _
 refine au [24,11,20,20,24,12] ?_
 exact jP (B0 := [⟨g1, 24, [.slice a3 x2.length c4.1]⟩]) (x := .inl x122) g123 (.inr rfl) (res0 rfl) (.cons 0 rfl (qj 0 rfl)) (qj 0 rfl)
theorem qgG {F : Nat} {x1 : List (List Int)} {a2 : Option Addr} {c3 : Nat} {s3 : List (Option Addr × Nat)} {r : List (Int × Int)} (hm : qat F x1 = some r) :
    PureM Tryz.prog 44 [.agg #[.slice a2 x1.length c3]] [] [] [SlN eN39 iN39 1 (.slice a2 x1.length c3) x1 s3] (Option Addr × Nat) (fun g => .slice g.1 r.length g.2) (fun _ => []) (fun g => [Ro eS88 88 2 (.slice g.1 r.length g.2) r]) := by
 refine qcV Tryz.func44 rfl Tryz.ntmps44 rfl hm (fun w => ?_)
 refine au [25,3,2,4,22] ?_
 intro g4
 refine au [5,0,1,2,4,24,7] ?_
 intro g5
 refine au [0,1,2,2,4,25,7,29,5] ?_
 intro x35 e35 g36
 refine au [0,1,15] ?_
 refine qcY (Int × Int) eS88 88 2 (qbP (encs := (fun (p : (Int × Int)) => [.agg #[.int .i64 p.1, .int .i64 p.2]])) (y := (fun (x47 : List (Int × Int)) ((x56, x57) : (Int × Int)) => qc3 F x47 x56 x57)) (lb := [.pointer (some ⟨g36, 0, none⟩)]) (fun (x47 : List (Int × Int)) ((a45, c46) : (Option Addr × Nat)) => [⟨g5, 85, [.slice a45 x47.length c46]⟩, ⟨g4, 24, [.slice a2 x1.length c3]⟩]) (fun (x47 : List (Int × Int)) ((a45, c46) : (Option Addr × Nat)) => [Ro eS88 88 2 (.slice a45 x47.length c46) x47]) (fun (_ : Empty) (_ : Unit) => []) (fun (_ : Empty) (_ : Unit) => []) (fun _ => .skip) ([] : List (Int × Int)) (none, 0) rfl ent101 (fun _ => rfl) rfl (.cons 0 rfl .nil) (.cons 0 rfl (.cons 0 rfl .nil)) (.cons 0 rfl .nil) (.consF 0 rfl .nil) (fun z hz _ _ _ hY => qdc F hY ([] : List (Int × Int)) (none, 0) g36 x1 a2 (c3, s3) z hz) ?_ ?_ ?_)
 rintro rc1 L1 D1 x47 ⟨a45, c46⟩ ⟨x56, x57⟩ z w M _
 try dsimp only
 refine qcX [(0, .agg #[.slice a2 x1.length c3]), (1, .pointer (some ⟨g4, 0, none⟩)), (2, .slice none 0 0), (3, .pointer (some ⟨g5, 0, none⟩)), (5, .agg #[.slice a2 x1.length c3]), (6, .func (.func 101) #[] #[.pointer (some ⟨g36, 0, none⟩)]), (7, .agg #[.int .i64 x56, .int .i64 x57])] (qt rfl (qt rfl (qt rfl (qt rfl (qt rfl (qt rfl (qt rfl qcT))))))) ?_
 refine au [4,24,7] ?_
 intro g58
 refine au [24,2,0,34,10,15,4,25,6,9,18,9,18] ?_
 refine ql (cells := [.int .i64 x57, .int .i64 x56]) rfl st88 rfl (by kernel_rfl) rfl (qv (vs := [.agg #[.int .i64 x57, .int .i64 x56]]) (ys := ([(x57, x56)] : List (Int × Int))) kT (by decide) rfl Tryz.underlying85 tf88 rfl rfl rfl rfl rfl (by decide) (fun a59 c60 => kx 1 kT rfl Tryz.underlying85 tf88 rfl rfl rfl rfl rfl (.inl ⟨0, _, rfl⟩) rfl rfl (fun x61 e61 a62 c63 => ?_)))
 refine au [24,15,0,24,5] ?_
 exact qaN (rc := rc1) rfl (.cons 3 rfl .nil) rfl (a62, c63) (.cons 2 rfl (.cons 2 rfl (.cons 0 rfl (.cons 1 rfl .nil)))) (.cons 0 rfl .nil)
 rintro x47 _ ⟨a45, c46⟩ D1
 try dsimp only
 refine au [24,5,1,2,4,26,11,5,0,1,8] ?_
 exact qaL [D1] (a45, c46) (.inl rfl) rfl (.cons 0 rfl .nil) (res1 rfl rfl) (fun h => by subst h; rfl) (fun h => by subst h; exact .nil) (fun h => by subst h; exact (.cons 0 rfl .nil))
 intro t; exact t.elim
theorem qiH {F : Nat} {x1 : List Int} {a2 : Option Addr} {c3 : Nat} {r : Int} (hm : qcl F x1 = some r) :
    Pure Tryz.prog 76 [.slice a2 x1.length c3] [Sl (eI .i64) 1 (.slice a2 x1.length c3) x1] Unit (fun _ => .int .i64 r) (fun _ => []) (fun _ => []) := by
 refine qk Tryz.func76 rfl Tryz.ntmps76 rfl hm (fun w => ?_)
 refine au [25,3,2,4,5,0,1,2,4,5,0,1] ?_
 refine qe (fun ((_, _) : (Unit × Unit)) => ([(3, .int .i64 0)], [], [], [], qdX F)) ?_ ?_
 refine au [2,4,3,24,6,3,0,1,15] ?_
 refine qw (fun ((x46, _) : (Int × Unit)) => ([(3, .int .i64 0), (6, .slice a2 x1.length c3), (7, .int .i64 (x1.length : Int)), (8, .int .i64 x46)], [], [], [Sl (eI .i64) 1 (.slice a2 x1.length c3) x1])) (fun k (s : (Int × Unit)) => yB F x1 k s.1) (0, ()) F ?_
 intro k57
 rintro ⟨x46, _⟩
 try dsimp only
 refine qJ (m' := kP F x1 (yB F x1 k57) x46) rfl ?_
 refine av [2,4,24,4,0,1,2,11] ?_ ?_
 intro _
 refine au [12,1,2,15,2,4,26,6] ?_
 intro x63 e63 b64 o65
 refine av [25,13,5,0,1,2,4,3,3,25,1,0,1,11] ?_ ?_
 intro _
 exact az [2,4,3,5,0,1,8,24,1,10,10,24,1,10,17]
 intro _
 refine au [12,24,5,1,4,19,3,0] ?_
 exact qp (iadd .i64 x46 1, ())
 intro _
 exact az [24,11,20,20,24,12,25,15]
 rintro ⟨_, _⟩
 try dsimp only
 exact az [2,4,3,5,0,1,8,17]
set_option maxHeartbeats 4000000 in
theorem qe6 {F : Nat} {x1 : Int} {x2 : Int} {r : Int} (hm : vx F x1 x2 = some r) :
    Pure Tryz.prog 77 [.int .i64 x1, .int .i64 x2] [] Unit (fun _ => .int .i64 r) (fun _ => []) (fun _ => []) := by
 refine qk Tryz.func77 rfl Tryz.ntmps77 rfl hm (fun w => ?_)
 refine au [24,10,2,4,5,0,1,2,4,3,28,9] ?_
 intro x3 e3 _
 refine au [5,0,1,2,4,3,28,9] ?_
 intro x4 e4 _
 refine av [5,0,1,2,2,4,3,0,1,11] ?_ ?_
 intro _
 refine av [2,2,4,3,0,1,11] ?_ ?_
 intro _
 exact az [2,4,5,0,1,8,10,10,17]
 intro _
 exact az [12,1,2,4,5,0,1,8,10,17]
 intro _
 refine av [12,1,2,2,4,3,0,1,11] ?_ ?_
 intro _
 exact az [2,4,5,0,1,8,10,17]
 intro _
 refine av [12,1,2,2,4,3,3,24,4,0,1,11] ?_ ?_
 intro _
 exact az [2,4,5,0,1,8,10,17]
 intro _
 refine av [12,1,2,2,4,3,3,24,14,0,1,11] ?_ ?_
 intro _
 exact az [2,4,5,0,1,8,10,17]
 intro _
 exact az [12,1,2,4,5,0,1,8,17]
theorem qhH (F : Nat) (x1 : Int) (x2 : Int) (x3 : Int) (x4 : Int) (r : Int) (hm : qb1 F x1 x2 x3 x4 = some r) :
    Pure Tryz.prog 45 [.agg #[.int .i64 x1, .int .i64 x2], .agg #[.int .i64 x3, .int .i64 x4]] [] Unit (fun _ => .int .i64 r) (fun _ => []) (fun _ => []) := by
 refine qk Tryz.func45 rfl Tryz.ntmps45 rfl hm (fun w => ?_)
 refine au [24,10,2,4,22] ?_
 intro g5
 refine au [22] ?_
 intro g6
 refine au [5,0,1,2] ?_
 refine qH mixed [] [⟨g6, 88, [.int .i64 x3, .int .i64 x4]⟩, ⟨g5, 88, [.int .i64 x1, .int .i64 x2]⟩] [] (.cons 0 rfl (.cons 0 rfl .nil)) qB 13 rfl ?_
 refine au [21,0,26,13,1,21,2,25,2,3,21,5,26,13,6,21,7,25,2,8,24,3,4,34,14] ?_
 intro x12 e12 _
 refine au [0,29,6,24,3,9,34,14] ?_
 intro x13 e13 _
 refine au [0,29,6,24,3,10] ?_
 refine qv (vs := [.int .i64 x12, .int .i64 x13]) (ys := ([x12, x13] : List Int)) (qP .i64) (by decide) rfl Tryz.underlying39 tf3 rfl rfl rfl rfl rfl (by decide) (fun a14 c15 => ?_)
 refine au [0,29,6,24,3,11] ?_
 refine qf qiH ?_
 intro x16 e16 _
 refine au [0,29,6,7,12,24,9] ?_
 refine qQ ?_ (by intro c h; cases h)
 exact az [1,8,17]
set_option maxHeartbeats 4000000 in
theorem qbh (F : Nat) {σ τ : Type} {J : Rounds σ τ} {yy : σ → (Int × Int) → Option (σ ⊕ τ)} {L : Nat} (hY : YieldC Tryz.prog L (fun (p : (Int × Int)) => [.agg #[.int .i64 p.1, .int .i64 p.2]]) J yy) (s0 : σ) (gs0 : J.γ) (g1 : Nat) (x2 : List (Int × Int)) (a3 : Option Addr) (c4 : Nat) (r : σ ⊕ τ) (hm : kz F yy x2 s0 = some r) :
    PureM Tryz.prog 74 ([.func (.yield L) #[] #[], .pointer (some ⟨g1, 0, none⟩)]) ([⟨g1, 85, [.slice a3 x2.length c4]⟩] ++ J.IB s0 gs0) (J.IR s0 gs0) [J.F, Sl eS88 2 (.slice a3 x2.length c4) x2] (J.G r) (fun _ => .tuple #[]) (fun g => [⟨g1, 85, [.slice a3 x2.length c4]⟩] ++ J.bs r g) (fun g => J.rs r g) := by
 refine zi Tryz.func74 rfl Tryz.ntmps74 rfl hm (fun w => ?_)
 refine au [24,10,2,4,18,24,6,3,0,1,15] ?_
 refine qaJ (fun (((x23, x24), g25) : ((Int × σ) × J.γ)) => [(0, .func (.yield L) #[] #[]), (5, .slice a3 x2.length c4), (6, .int .i64 (x2.length : Int)), (7, .int .i64 x23)]) (fun (((x23, x24), g25) : ((Int × σ) × J.γ)) => [⟨g1, 85, [.slice a3 x2.length c4]⟩] ++ J.IB x24 g25) (fun (((x23, x24), g25) : ((Int × σ) × J.γ)) => [] ++ J.IR x24 g25) (fun (((x23, x24), g25) : ((Int × σ) × J.γ)) => [Sl eS88 2 (.slice a3 x2.length c4) x2, J.F]) (fun k (s : ((Int × σ) × J.γ)) => qO F yy x2 k s.1) ((0, s0), gs0) F ?_ (hB := (.cons 0 rfl (qj 0 rfl))) (hR := (qj 0 rfl)) (hF := (qm 1 rfl (qm 0 rfl ke)))
 intro k44
 rintro ⟨⟨x23, x24⟩, g25⟩
 try dsimp only
 refine qJ (m' := zC F yy x2 (qO F yy x2 k44) x23 x24) rfl ?_
 refine av [2,4,24,4,0,1,2,11] ?_ ?_
 intro _
 refine au [12,1,2,15,2,4,31,1] ?_
 intro x54 e54 b55 o56
 refine au [27,14,24,7] ?_
 intro g57
 refine au [24,2,0,1,2,4,3,24,8] ?_
 refine qdz hY x24 (x54.1, x54.2) g25 (B1 := [⟨g57, 88, [.int .i64 x54.1, .int .i64 x54.2]⟩, ⟨g1, 85, [.slice a3 x2.length c4]⟩]) (R1 := []) (j := 2) rfl rfl rfl rfl rfl rfl rfl (fun x58 _ g60 => ?_) (fun x59 _ g60 => ?_)
 refine au [25,4,0,1] ?_
 refine yX (b := false) rfl (fun h => by cases h) (fun _ => ?_)
 refine au [12,24,5,1,4,19,3,0] ?_
 exact qay ((iadd .i64 x23 1, x58), g60) (hB := (.cons 1 rfl (qj 1 rfl))) (hR := (qj 0 rfl)) (hF := (qm 1 rfl (qm 2 rfl ke)))
 refine au [25,4,0,1] ?_
 refine yX (b := true) rfl (fun _ => ?_) (fun h => by cases h)
 refine au [8,24,1,10,10,24,1] ?_
 exact jP (B0 := [⟨g1, 85, [.slice a3 x2.length c4]⟩]) (x := .inr x59) g60 (.inl rfl) (res0 rfl) (.cons 1 rfl (qj 1 rfl)) (qj 0 rfl)
 intro _
 refine au [24,11,20,20,24,12] ?_
 exact jP (B0 := [⟨g1, 85, [.slice a3 x2.length c4]⟩]) (x := .inl x24) g25 (.inr rfl) (res0 rfl) (.cons 0 rfl (qj 0 rfl)) (qj 0 rfl)
theorem kn {F : Nat} {x1 : List (Int × Int)} {a2 : Option Addr} {c3 : Nat} {g4 : Nat} {x5 : List (Int × Int)} {a6 : Option Addr} {c7 : Nat} {r : List (Int × Int)} (hm : qL F x1 x5 = some r) :
    PureM Tryz.prog 98 [.slice a2 x1.length c3, .func (.func 74) #[] #[.pointer (some ⟨g4, 0, none⟩)]] [⟨g4, 85, [.slice a6 x5.length c7]⟩] [Ro eS88 88 2 (.slice a2 x1.length c3) x1] [Sl eS88 2 (.slice a6 x5.length c7) x5] (Option Addr × Nat) (fun g => .slice g.1 r.length g.2) (fun _ => [⟨g4, 85, [.slice a6 x5.length c7]⟩]) (fun g => [Ro eS88 88 2 (.slice g.1 r.length g.2) r]) := by
 refine qcV Tryz.func98 rfl Tryz.ntmps98 rfl hm (fun w => ?_)
 refine au [24,10,2,4,22] ?_
 intro g8
 refine au [5,0,1,2,2,4,3,0,1,15] ?_
 refine qbP (encs := (fun (p : (Int × Int)) => [.agg #[.int .i64 p.1, .int .i64 p.2]])) (y := (fun (x46 : List (Int × Int)) ((x55, x56) : (Int × Int)) => zb F x46 x55 x56)) (lb := [.pointer (some ⟨g4, 0, none⟩)]) (fun (x46 : List (Int × Int)) ((a44, c45) : (Option Addr × Nat)) => [⟨g8, 85, [.slice a44 x46.length c45]⟩]) (fun (x46 : List (Int × Int)) ((a44, c45) : (Option Addr × Nat)) => [Ro eS88 88 2 (.slice a44 x46.length c45) x46]) (fun (_ : Empty) (_ : Unit) => []) (fun (_ : Empty) (_ : Unit) => []) (fun _ => .skip) x1 (a2, c3) rfl ent74 (fun _ => rfl) rfl (.cons 1 rfl .nil) (.cons 0 rfl .nil) (.cons 0 rfl .nil) (.consF 0 rfl .nil) (fun z hz _ _ _ hY => qbh F hY x1 (a2, c3) g4 x5 a6 c7 z hz) ?_ ?_ ?_
 rintro rc1 L1 D1 x46 ⟨a44, c45⟩ ⟨x55, x56⟩ z w M _
 try dsimp only
 refine qcX [(0, .slice a2 x1.length c3), (1, .func (.func 74) #[] #[.pointer (some ⟨g4, 0, none⟩)]), (2, .pointer (some ⟨g8, 0, none⟩)), (4, .slice none 0 0), (6, .func (.func 74) #[] #[.pointer (some ⟨g4, 0, none⟩)]), (7, .agg #[.int .i64 x55, .int .i64 x56])] (qt rfl (qt rfl (qt rfl (qt rfl (qt rfl (qt rfl qcT)))))) ?_
 refine au [4,24,7] ?_
 intro g57
 refine au [24,2,0,34,15,15,4,25,6,24,8] ?_
 refine qv (vs := [.agg #[.int .i64 x55, .int .i64 x56]]) (ys := ([(x55, x56)] : List (Int × Int))) kT (by decide) rfl Tryz.underlying85 tf88 rfl rfl rfl rfl rfl (by decide) (fun a58 c59 => kx 1 kT rfl Tryz.underlying85 tf88 rfl rfl rfl rfl rfl (.inl ⟨0, _, rfl⟩) rfl rfl (fun x60 e60 a61 c62 => ?_))
 refine au [24,15,0,24,5] ?_
 exact qaN (rc := rc1) rfl (.cons 2 rfl .nil) rfl (a61, c62) (.cons 2 rfl (.cons 0 rfl (.cons 1 rfl .nil))) (.cons 0 rfl .nil)
 rintro x46 _ ⟨a44, c45⟩ D1
 try dsimp only
 refine au [24,5,1,2,4,26,11,5,0,1,8] ?_
 exact qaL [D1] (a44, c45) (.inl rfl) rfl (.cons 0 rfl .nil) (res1 rfl rfl) (fun h => by subst h; rfl) (fun h => by subst h; exact (.cons 0 rfl .nil)) (fun h => by subst h; exact (.cons 0 rfl .nil))
 intro t; exact t.elim
theorem yf {F : Nat} {g1 : Nat} {x2 : List (Int × Int)} {a3 : Option Addr} {c4 : Nat} {r : List (Int × Int)} (hm : qD F x2 = some r) :
    PureM Tryz.prog 72 [.func (.func 74) #[] #[.pointer (some ⟨g1, 0, none⟩)]] [⟨g1, 85, [.slice a3 x2.length c4]⟩] [] [Sl eS88 2 (.slice a3 x2.length c4) x2] (Option Addr × Nat) (fun g => .slice g.1 r.length g.2) (fun _ => [⟨g1, 85, [.slice a3 x2.length c4]⟩]) (fun g => [Ro eS88 88 2 (.slice g.1 r.length g.2) r]) := by
 refine zi Tryz.func72 rfl Tryz.ntmps72 rfl hm (fun w => ?_)
 refine au [25,3,2,4,5,0,1,2,4,3,35,0] ?_
 refine qz kn ?_
 rintro x5 e5 ⟨a6, c7⟩
 refine au [5,0,1,8] ?_
 exact q7 (a6, c7)
theorem vP {F : Nat} {x1 : List (Int × Int)} {a2 : Option Addr} {c3 : Nat} {r : List (Int × Int)} (hm : qK F x1 = some r) :
    PureM Tryz.prog 73 [.slice a2 x1.length c3, .func (.func 45) #[] #[]] [] [Ro eS88 88 2 (.slice a2 x1.length c3) x1] [] Unit (fun _ => .tuple #[]) (fun _ => []) (fun _ => [Ro eS88 88 2 (.slice a2 r.length c3) r]) :=
  qkZ (cb := []) (BC := []) (Φ := []) kT (by decide) (qp2 _) (fun p cap w => Tryz.sortn73 p cap _ w) (fun a b z h => (qhH F a.1 a.2 b.1 b.2 z h).toM) hm
theorem zY {F : Nat} {g1 : Nat} {x2 : List (Int × Int)} {a3 : Option Addr} {c4 : Nat} {r : List (Int × Int)} (hm : qg F x2 = some r) :
    PureM Tryz.prog 42 [.func (.func 74) #[] #[.pointer (some ⟨g1, 0, none⟩)], .func (.func 45) #[] #[]] [⟨g1, 85, [.slice a3 x2.length c4]⟩] [] [Sl eS88 2 (.slice a3 x2.length c4) x2] (Option Addr × Nat) (fun g => .slice g.1 r.length g.2) (fun _ => [⟨g1, 85, [.slice a3 x2.length c4]⟩]) (fun g => [Ro eS88 88 2 (.slice g.1 r.length g.2) r]) := by
 refine zi Tryz.func42 rfl Tryz.ntmps42 rfl hm (fun w => ?_)
 refine au [24,10,2,4,5,0,1,2,4,3] ?_
 refine qz yf ?_
 rintro x5 e5 ⟨a6, c7⟩
 refine au [5,0,1,2,4,3,3,35,1] ?_
 intro x8 e8 _
 refine au [26,1] ?_
 intro h9
 replace h9 := of_decide_eq_true h9
 refine qc (d := 5) (v := .slice a6 x8.length c7) rfl (by rw [h9] <;> rfl) (qc (d := 7) (v := .slice a6 x8.length c7) rfl (by rw [h9] <;> rfl) (qc (d := 8) (v := .slice a6 x8.length c7) rfl (by rw [h9] <;> rfl) ?_))
 refine au [0,1,2,4,3,5,0,1,8] ?_
 exact q7 (a6, c7)
set_option maxHeartbeats 4000000 in
theorem qiQ {F : Nat} {x1 : List (List Int)} {a2 : Option Addr} {c3 : Nat} {s3 : List (Option Addr × Nat)} {r : (List (List Int) × Int)} (hm : qbw F x1 = some r) :
    Pure Tryz.prog 21 [.agg #[.slice a2 x1.length c3]] [SlN eN39 iN39 1 (.slice a2 x1.length c3) x1 s3] (Option Addr × (Nat × List (Option Addr × Nat))) (fun g => .tuple #[.agg #[.slice g.1 r.1.length g.2.1], .int .i64 r.2]) (fun g => [RoN eN39 rN39 39 1 (.slice g.1 r.1.length g.2.1) r.1 g.2.2 []]) (fun _ => []) := by
 refine qk Tryz.func21 rfl Tryz.ntmps21 rfl hm (fun w => ?_)
 refine au [25,3,2,4,22] ?_
 intro g4
 refine au [24,7] ?_
 intro g5
 refine au [5,0,1,2,2,4,25,7,28,0] ?_
 intro x8 e8 _
 refine av [5,0,1,2,4,3,25,1,0,1,11] ?_ ?_
 intro _
 refine au [2,4] ?_
 refine ql (cells := [.slice none 0 0]) rfl st24 rfl (by kernel_rfl) rfl ?_
 refine au [3,24,2,5,0,1,8,10,26,5] ?_
 exact qu (none, (0, ([] : List (Option Addr × Nat)))) (resL (rs := [.cell 2 24, .tmp 3]) rfl (.cell (i := 0) rfl tf24 rfl rfl (by simp) rfl (.tmp rfl ResOk.nil)) rfl) (fun h => by subst h; exact (.cons 0 rfl .nil))
 intro _
 refine au [12,1,2] ?_
 refine qH mixed [] [⟨g4, 24, [.slice a2 x1.length c3]⟩] [SlN eN39 iN39 1 (.slice a2 x1.length c3) x1 s3] (.cons 1 rfl .nil) (qW 0 rfl qB) 10 rfl ?_
 refine au [21,0,25,2,1,27,7,2] ?_
 refine kN 3 (.agg #[.slice a2 x1.length c3]) rfl rfl rfl (zI (i := 0) rfl tf24 rfl rfl (by simp) rfl) ?_
 refine au [24,3,4,35,2] ?_
 rintro x20 e20 ⟨a21, c22⟩
 refine au [0,31,6,24,3,5,35,3] ?_
 intro x23 e23 g24
 refine au [0,26,3,24,3,6,35,4] ?_
 rintro x25 e25 ⟨a26, c27⟩
 refine au [0,26,3,24,3,7,31,2] ?_
 rintro x28 e28 ⟨a29, c30⟩
 refine au [0,26,3,24,3,8,24,15,0,26,3,7,9,24,9] ?_
 refine qQ ?_ (by intro c h; cases h)
 refine au [1,8] ?_
 exact qu (a29, c30) (resL (rs := [.cell 2 24, .tmp 3]) rfl (.cell (i := 1) rfl tf24 rfl rfl (by simp) rfl (.tmp rfl ResOk.nil)) rfl) (fun h => by subst h; exact (.cons 0 rfl .nil))
set_option maxHeartbeats 4000000 in
theorem qlv {F : Nat} {x1 : Int} {x2 : List (Int × Int)} {a3 : Option Addr} {c4 : Nat} {r : (List (List Int) × Int)} (hm : qcM F x1 x2 = some r) :
    Pure Tryz.prog 46 [.int .i64 x1, .slice a3 x2.length c4] [Sl eS88 2 (.slice a3 x2.length c4) x2] (Option Addr × (Nat × List (Option Addr × Nat))) (fun g => .tuple #[.agg #[.slice g.1 r.1.length g.2.1], .int .i64 r.2]) (fun g => [RoN eN39 rN39 39 1 (.slice g.1 r.1.length g.2.1) r.1 g.2.2 []]) (fun _ => []) := by
 refine qk Tryz.func46 rfl Tryz.ntmps46 rfl hm (fun w => ?_)
 refine au [24,10,2,4,24,7] ?_
 intro g5
 refine au [5,0,1,2,15,2,4,3,24,4,3] ?_
 refine qq 3 (decide (x1 < 0)) [(0, .int .i64 x1), (1, .slice a3 x2.length c4), (4, .pointer (some ⟨g5, 0, none⟩)), (17, .bool ((decide (x1 < 0)) || (decide (100 < x1))))] (fun h9 => ?_) (fun h9 => ?_) ?_
 refine qa (os := _) rfl (qi (k := 14) rfl h9 ?_)
 refine au [6,6,23] ?_
 refine qc (d := 17) (v := .bool ((decide (x1 < 0)) || (decide (100 < x1)))) rfl (by rw [h9]; simp only [Bool.true_or]) ?_
 exact az [0,16]
 refine qa (os := _) rfl (qh (k := 14) rfl h9 ?_)
 refine au [3,24,14,24,0] ?_
 refine qc (d := 17) (v := .bool ((decide (x1 < 0)) || (decide (100 < x1)))) rfl (by rw [h9]; simp only [Bool.false_or]) ?_
 exact az [0,16]
 refine qa (os := _) rfl ?_
 refine av [5,0,1,11] ?_ ?_
 intro _
 refine au [2,4] ?_
 refine ql (cells := [.slice none 0 0]) rfl st24 rfl (by kernel_rfl) rfl ?_
 refine au [24,2,5,0,1,8,24,1,10,26,5] ?_
 exact qu (none, (0, ([] : List (Option Addr × Nat)))) (resL (rs := [.cell 4 24, .tmp 5]) rfl (.cell (i := 0) rfl tf24 rfl rfl (by simp) rfl (.tmp rfl ResOk.nil)) rfl) (fun h => by subst h; exact (.cons 0 rfl .nil))
 intro _
 refine av [2,4,3,24,6,24,14,5,0,1,11] ?_ ?_
 intro _
 refine au [2,4] ?_
 refine ql (cells := [.slice none 0 0]) rfl st24 rfl (by kernel_rfl) rfl ?_
 refine au [24,2,5,0,1,8,24,1,10,26,5] ?_
 exact qu (none, (0, ([] : List (Option Addr × Nat)))) (resL (rs := [.cell 4 24, .tmp 5]) rfl (.cell (i := 0) rfl tf24 rfl rfl (by simp) rfl (.tmp rfl ResOk.nil)) rfl) (fun h => by subst h; exact (.cons 0 rfl .nil))
 intro _
 refine au [12,24,5,1,2,4] ?_
 refine qlf (k0 := .i64) (k1 := .i64) rfl rfl (fun g10 => ?_)
 refine au [5,0,1] ?_
 refine qe (fun ((_, _) : (Unit × Unit)) => ([(0, .int .i64 x1), (1, .slice a3 x2.length c4), (4, .pointer (some ⟨g5, 0, none⟩))], [⟨g5, 24, [.slice none 0 0]⟩], [], [Sl eS88 2 (.slice a3 x2.length c4) x2], qdk F x1 x2)) ?_ ?_
 refine au [2,4,3,24,6,3,0,1,15] ?_
 refine qw (fun (((x166, x167), _) : ((Int × List (Int × Int)) × Unit)) => ([(0, .int .i64 x1), (1, .slice a3 x2.length c4), (4, .pointer (some ⟨g5, 0, none⟩)), (6, .map (some g10)), (25, .slice a3 x2.length c4), (26, .int .i64 (x2.length : Int)), (27, .int .i64 x166)], [(blkO g10 (mapO .i64 .i64 x167)), ⟨g5, 24, [.slice none 0 0]⟩], [], [Sl eS88 2 (.slice a3 x2.length c4) x2])) (fun k (s : ((Int × List (Int × Int)) × Unit)) => jJ F x1 x2 k s.1) ((0, ([] : List (Int × Int))), ()) F ?_
 intro k204
 rintro ⟨⟨x166, x167⟩, _⟩
 try dsimp only
 refine qJ (m' := qb0 F x1 x2 (jJ F x1 x2 k204) x166 x167) rfl ?_
 refine av [2,4,24,4,0,1,2,11] ?_ ?_
 intro _
 refine au [12,1,2,15,2,4,31,1] ?_
 intro x223 e223 b224 o225
 refine au [27,14,24,7] ?_
 intro g226
 refine au [24,2,0,1,2,2,4,9,18,24,4,3] ?_
 refine qq 5 (decide (x223.1 < 0)) [(0, .int .i64 x1), (1, .slice a3 x2.length c4), (4, .pointer (some ⟨g5, 0, none⟩)), (6, .map (some g10)), (25, .slice a3 x2.length c4), (26, .int .i64 (x2.length : Int)), (27, .int .i64 x166), (8, .pointer (some ⟨g226, 0, none⟩)), (39, .bool ((decide (x223.1 < 0)) || (decide (x1 ≤ x223.1))))] (fun h231 => ?_) (fun h231 => ?_) ?_
 refine qa (os := _) rfl (qi (k := 34) rfl h231 ?_)
 refine au [6,6,6,6,23] ?_
 refine qc (d := 39) (v := .bool ((decide (x223.1 < 0)) || (decide (x1 ≤ x223.1)))) rfl (by rw [h231]; simp only [Bool.true_or]) ?_
 exact az [0,16]
 refine qa (os := _) rfl (qh (k := 34) rfl h231 ?_)
 refine au [9,18,3,26,2,24,0] ?_
 refine qc (d := 39) (v := .bool ((decide (x223.1 < 0)) || (decide (x1 ≤ x223.1)))) rfl (by rw [h231]; simp only [Bool.false_or]) ?_
 exact az [0,16]
 refine qa (os := _) rfl ?_
 refine au [3] ?_
 refine qq 4 ((decide (x223.1 < 0)) || (decide (x1 ≤ x223.1))) [(0, .int .i64 x1), (1, .slice a3 x2.length c4), (4, .pointer (some ⟨g5, 0, none⟩)), (6, .map (some g10)), (25, .slice a3 x2.length c4), (26, .int .i64 (x2.length : Int)), (27, .int .i64 x166), (8, .pointer (some ⟨g226, 0, none⟩)), (44, .bool (((decide (x223.1 < 0)) || (decide (x1 ≤ x223.1))) || (decide (x223.2 < 0))))] (fun h232 => ?_) (fun h232 => ?_) ?_
 refine qa (os := _) rfl (qi (k := 40) rfl h232 ?_)
 refine au [6,6,6,23] ?_
 refine qc (d := 44) (v := .bool (((decide (x223.1 < 0)) || (decide (x1 ≤ x223.1))) || (decide (x223.2 < 0)))) rfl (by rw [h232]; simp only [Bool.true_or]) ?_
 exact az [0,16]
 refine qa (os := _) rfl (qh (k := 40) rfl h232 ?_)
 refine au [9,18,24,4,24,0] ?_
 refine qc (d := 44) (v := .bool (((decide (x223.1 < 0)) || (decide (x1 ≤ x223.1))) || (decide (x223.2 < 0)))) rfl (by rw [h232]; simp only [Bool.false_or]) ?_
 exact az [0,16]
 refine qa (os := _) rfl ?_
 refine au [3] ?_
 refine qq 5 (((decide (x223.1 < 0)) || (decide (x1 ≤ x223.1))) || (decide (x223.2 < 0))) [(0, .int .i64 x1), (1, .slice a3 x2.length c4), (4, .pointer (some ⟨g5, 0, none⟩)), (6, .map (some g10)), (25, .slice a3 x2.length c4), (26, .int .i64 (x2.length : Int)), (27, .int .i64 x166), (8, .pointer (some ⟨g226, 0, none⟩)), (50, .bool ((((decide (x223.1 < 0)) || (decide (x1 ≤ x223.1))) || (decide (x223.2 < 0))) || (decide (x1 ≤ x223.2))))] (fun h233 => ?_) (fun h233 => ?_) ?_
 refine qa (os := _) rfl (qi (k := 45) rfl h233 ?_)
 refine au [6,6,6,6,23] ?_
 refine qc (d := 50) (v := .bool ((((decide (x223.1 < 0)) || (decide (x1 ≤ x223.1))) || (decide (x223.2 < 0))) || (decide (x1 ≤ x223.2)))) rfl (by rw [h233]; simp only [Bool.true_or]) ?_
 exact az [0,16]
 refine qa (os := _) rfl (qh (k := 45) rfl h233 ?_)
 refine au [9,18,3,26,2,24,0] ?_
 refine qc (d := 50) (v := .bool ((((decide (x223.1 < 0)) || (decide (x1 ≤ x223.1))) || (decide (x223.2 < 0))) || (decide (x1 ≤ x223.2)))) rfl (by rw [h233]; simp only [Bool.false_or]) ?_
 exact az [0,16]
 refine qa (os := _) rfl ?_
 refine av [0,1,11] ?_ ?_
 intro _
 refine au [2,4] ?_
 refine ql (cells := [.slice none 0 0]) rfl st24 rfl (by kernel_rfl) rfl ?_
 refine au [26,10,5,0,1,8,10,24,1,10,10,24,1,10,26,5] ?_
 exact qu (none, (0, ([] : List (Option Addr × Nat)))) (resL (rs := [.cell 4 24, .tmp 5]) rfl (.cell (i := 2) rfl tf24 rfl rfl (by simp) rfl (.tmp rfl ResOk.nil)) rfl) (fun h => by subst h; exact (.cons 0 rfl .nil))
 intro _
 refine au [12,1,2,2,4,3,24,8] ?_
 refine qle (i := 1) (p := (x223.1, x223.2)) rfl Tryz.underlying130 se88 tf131 rfl rfl rfl rfl ?_
 refine au [3,13,13,24,7] ?_
 intro g236
 refine av [24,2,5,0,1,2,4,3,0,1,11] ?_ ?_
 intro _
 refine au [2,4] ?_
 refine ql (cells := [.slice none 0 0]) rfl st24 rfl (by kernel_rfl) rfl ?_
 refine au [28,11,5,0,1,8,10,24,1,10,10,24,1,10,26,5] ?_
 exact qu (none, (0, ([] : List (Option Addr × Nat)))) (resL (rs := [.cell 4 24, .tmp 5]) rfl (.cell (i := 3) rfl tf24 rfl rfl (by simp) rfl (.tmp rfl ResOk.nil)) rfl) (fun h => by subst h; exact (.cons 0 rfl .nil))
 intro _
 refine au [12,1,4,3,25,7,33,9] ?_
 refine qmd (i := 2) (p := (x223.1, x223.2)) rfl Tryz.underlying130 se88 rfl rfl rfl rfl (fun x237 e237 => ?_)
 refine au [0,24,5,1,4,19,3,0] ?_
 exact qp ((iadd .i64 x166 1, x237), ())
 intro _
 exact az [24,11,20,20,24,12,25,15]
 rintro ⟨_, _⟩
 try dsimp only
 refine au [2,4,3,3,35,3] ?_
 intro x122 e122 g123
 refine au [35,4] ?_
 rintro x124 e124 ⟨a125, c126⟩
 refine au [31,2] ?_
 rintro x127 e127 ⟨a128, c129⟩
 refine au [24,15,5,0,1,8] ?_
 exact qu (a128, c129) (resL (rs := [.cell 4 24, .tmp 5]) rfl (.cell (i := 1) rfl tf24 rfl rfl (by simp) rfl (.tmp rfl ResOk.nil)) rfl) (fun h => by subst h; exact (.cons 0 rfl .nil))
theorem vK {F : Nat} {x1 : List (Int × Int)} {a2 : Option Addr} {c3 : Nat} {g4 : Nat} {x5 : List (List Int)} {a6 : Option Addr} {c7 : Nat} {s7 : List (Option Addr × Nat)} {r : List (Int × Int)} (hm : zp F x1 x5 = some r) :
    PureM Tryz.prog 98 [.slice a2 x1.length c3, .func (.func 101) #[] #[.pointer (some ⟨g4, 0, none⟩)]] [⟨g4, 24, [.slice a6 x5.length c7]⟩] [Ro eS88 88 2 (.slice a2 x1.length c3) x1] [SlN eN39 iN39 1 (.slice a6 x5.length c7) x5 s7] (Option Addr × Nat) (fun g => .slice g.1 r.length g.2) (fun _ => [⟨g4, 24, [.slice a6 x5.length c7]⟩]) (fun g => [Ro eS88 88 2 (.slice g.1 r.length g.2) r]) := by
 refine qcV Tryz.func98 rfl Tryz.ntmps98 rfl hm (fun w => ?_)
 refine au [24,10,2,4,22] ?_
 intro g8
 refine au [5,0,1,2,2,4,3,0,1,15] ?_
 refine qbP (encs := (fun (p : (Int × Int)) => [.agg #[.int .i64 p.1, .int .i64 p.2]])) (y := (fun (x46 : List (Int × Int)) ((x55, x56) : (Int × Int)) => zV F x46 x55 x56)) (lb := [.pointer (some ⟨g4, 0, none⟩)]) (fun (x46 : List (Int × Int)) ((a44, c45) : (Option Addr × Nat)) => [⟨g8, 85, [.slice a44 x46.length c45]⟩]) (fun (x46 : List (Int × Int)) ((a44, c45) : (Option Addr × Nat)) => [Ro eS88 88 2 (.slice a44 x46.length c45) x46]) (fun (_ : Empty) (_ : Unit) => []) (fun (_ : Empty) (_ : Unit) => []) (fun _ => .skip) x1 (a2, c3) rfl ent101 (fun _ => rfl) rfl (.cons 1 rfl .nil) (.cons 0 rfl .nil) (.cons 0 rfl .nil) (.consF 0 rfl .nil) (fun z hz _ _ _ hY => qdc F hY x1 (a2, c3) g4 x5 a6 (c7, s7) z hz) ?_ ?_ ?_
 rintro rc1 L1 D1 x46 ⟨a44, c45⟩ ⟨x55, x56⟩ z w M _
 try dsimp only
 refine qcX [(0, .slice a2 x1.length c3), (1, .func (.func 101) #[] #[.pointer (some ⟨g4, 0, none⟩)]), (2, .pointer (some ⟨g8, 0, none⟩)), (4, .slice none 0 0), (6, .func (.func 101) #[] #[.pointer (some ⟨g4, 0, none⟩)]), (7, .agg #[.int .i64 x55, .int .i64 x56])] (qt rfl (qt rfl (qt rfl (qt rfl (qt rfl (qt rfl qcT)))))) ?_
 refine au [4,24,7] ?_
 intro g57
 refine au [24,2,0,34,15,15,4,25,6,24,8] ?_
 refine qv (vs := [.agg #[.int .i64 x55, .int .i64 x56]]) (ys := ([(x55, x56)] : List (Int × Int))) kT (by decide) rfl Tryz.underlying85 tf88 rfl rfl rfl rfl rfl (by decide) (fun a58 c59 => kx 1 kT rfl Tryz.underlying85 tf88 rfl rfl rfl rfl rfl (.inl ⟨0, _, rfl⟩) rfl rfl (fun x60 e60 a61 c62 => ?_))
 refine au [24,15,0,24,5] ?_
 exact qaN (rc := rc1) rfl (.cons 2 rfl .nil) rfl (a61, c62) (.cons 2 rfl (.cons 0 rfl (.cons 1 rfl .nil))) (.cons 0 rfl .nil)
 rintro x46 _ ⟨a44, c45⟩ D1
 try dsimp only
 refine au [24,5,1,2,4,26,11,5,0,1,8] ?_
 exact qaL [D1] (a44, c45) (.inl rfl) rfl (.cons 0 rfl .nil) (res1 rfl rfl) (fun h => by subst h; rfl) (fun h => by subst h; exact (.cons 0 rfl .nil)) (fun h => by subst h; exact (.cons 0 rfl .nil))
 intro t; exact t.elim
theorem qaO {F : Nat} {g1 : Nat} {x2 : List (List Int)} {a3 : Option Addr} {c4 : Nat} {s4 : List (Option Addr × Nat)} {r : List (Int × Int)} (hm : q8 F x2 = some r) :
    PureM Tryz.prog 72 [.func (.func 101) #[] #[.pointer (some ⟨g1, 0, none⟩)]] [⟨g1, 24, [.slice a3 x2.length c4]⟩] [] [SlN eN39 iN39 1 (.slice a3 x2.length c4) x2 s4] (Option Addr × Nat) (fun g => .slice g.1 r.length g.2) (fun _ => [⟨g1, 24, [.slice a3 x2.length c4]⟩]) (fun g => [Ro eS88 88 2 (.slice g.1 r.length g.2) r]) := by
 refine zi Tryz.func72 rfl Tryz.ntmps72 rfl hm (fun w => ?_)
 refine au [25,3,2,4,5,0,1,2,4,3,35,0] ?_
 refine qz vK ?_
 rintro x5 e5 ⟨a6, c7⟩
 refine au [5,0,1,8] ?_
 exact q7 (a6, c7)
theorem qiO {F : Nat} {x1 : List (List Int)} {a2 : Option Addr} {c3 : Nat} {s3 : List (Option Addr × Nat)} {r : (List (Int × Int) × Int)} (hm : qco F x1 = some r) :
    Pure Tryz.prog 47 [.agg #[.slice a2 x1.length c3]] [SlN eN39 iN39 1 (.slice a2 x1.length c3) x1 s3] (Option Addr × Nat) (fun g => .tuple #[.slice g.1 r.1.length g.2, .int .i64 r.2]) (fun g => [Ro eS88 88 2 (.slice g.1 r.1.length g.2) r.1]) (fun _ => []) := by
 refine qk Tryz.func47 rfl Tryz.ntmps47 rfl hm (fun w => ?_)
 refine au [25,3,2,4,22] ?_
 intro g4
 refine au [5,5,0,1,2,2,4,24,8,28,0] ?_
 intro x7 e7 _
 refine av [5,0,1,2,4,3,25,1,0,1,11] ?_ ?_
 intro _
 refine au [2,4,3,5,5,0,1,8,10] ?_
 exact qc0 (Int × Int) eS88 88 2 (qy (none, 0))
 intro _
 refine au [12,1,2,4,24,8,29,5] ?_
 intro x8 e8 g9
 refine au [35,5] ?_
 rintro x10 e10 ⟨a11, c12⟩
 refine au [5,5,0,1,8] ?_
 exact qy (a11, c12)
end Go.Proofs.YtmhggdbfbmkpeaaGreat
