/- Each Go function of this seat computes what its model says, part 3. -/
import Derived.Test.YtmhggdbfbmkpeaaGreatWalks2
namespace Go.Proofs.YtmhggdbfbmkpeaaGreat
open Go SX
set_option maxHeartbeats 4000000 in
theorem qiG {F : Nat} {x1 : Int} {x2 : List Int} {a3 : Option Addr} {c4 : Nat} {r : Int} (hm : qaA F x1 x2 = some r) :
    Pure Tryz.prog 71 [.agg #[.int .i64 x1, .slice a3 x2.length c4]] [Sl (eI .u8) 1 (.slice a3 x2.length c4) x2] Unit (fun _ => .int .i64 r) (fun _ => []) (fun _ => []) := by
 refine qk Tryz.func71 rfl Tryz.ntmps71 rfl hm (fun w => ?_)
 refine au [25,3,2,4,22] ?_
 intro g5
 refine au [5,0,1,2,15,2,4,9,18,24,4,3] ?_
 refine qq 4 (decide (x1 < 0)) [(1, .pointer (some ⟨g5, 0, none⟩)), (11, .bool ((decide (x1 < 0)) || (decide (8192 < x1))))] (fun h27 => ?_) (fun h27 => ?_) ?_
 refine qa (os := _) rfl (qi (k := 7) rfl h27 ?_)
 refine au [6,6,6,23] ?_
 refine qc (d := 11) (v := .bool ((decide (x1 < 0)) || (decide (8192 < x1)))) rfl (by rw [h27]; simp only [Bool.true_or]) ?_
 exact az [0,16]
 refine qa (os := _) rfl (qh (k := 7) rfl h27 ?_)
 refine au [9,18,24,14,24,0] ?_
 refine qc (d := 11) (v := .bool ((decide (x1 < 0)) || (decide (8192 < x1)))) rfl (by rw [h27]; simp only [Bool.false_or]) ?_
 exact az [0,16]
 refine qa (os := _) rfl ?_
 refine av [5,0,1,11] ?_ ?_
 intro _
 exact az [2,4,5,0,1,8,24,1,10,17]
 intro _
 refine av [2,4,9,18,24,6,9,18,19,29,9,25,1,5,0,1,11] ?_ ?_
 intro _
 exact az [2,4,5,0,1,8,24,1,10,17]
 intro _
 refine qe (fun ((x36, _) : (Bool × Unit)) => ([(21, .bool x36)], [], [], [], ju F x36)) ?_ ?_
 refine av [28,3] ?_ ?_
 intro h38
 refine au [33,5] ?_
 intro x39 e39 b40 o41 h42
 replace h42 : a3 = some ⟨b40, o41, none⟩ := h42
 refine au [26,12] ?_
 intro h43
 refine qH mixed [] [⟨g5, 29, [.int .i64 x1, .slice a3 x2.length c4]⟩] [qR b40 (o41 + (isub .i64 (x2.length : Int) 1).toNat * 1) ((eI .u8) x39), Sl (eI .u8) 1 (.slice a3 x2.length c4) x2] (.cons 0 rfl .nil) (qW 0 rfl (qW 1 rfl qB)) 20 rfl ?_
 refine au [21,0,25,2,1] ?_
 refine qo 2 (.int .i64 (irem x1 8)) rfl rfl rfl (qjV rfl rfl rfl) ?_
 refine au [7,3,7,4] ?_
 refine qn (d := 26) (v := .bool true) rfl (by rw [h38] <;> rfl) ?_
 refine au [21,5,25,2,6,21,7,25,2,8,27,7,9,7,10] ?_
 refine qn (d := 28) (v := .slice (some ⟨b40, o41, none⟩) x2.length c4) rfl (by rw [h42] <;> rfl) (qo 11 (.pointer (some ⟨b40, (o41 + (isub .i64 (x2.length : Int) 1).toNat * 1), none⟩)) rfl rfl rfl (qbI Tryz.underlying27 tf5 rfl rfl (zd e39).1 (qax e39)) (qn (d := 28) (v := .slice a3 x2.length c4) rfl (by rw [h42] <;> rfl) (zk 12 (.int .u8 x39) [] rfl rfl rfl (ym (j := 0) rfl tf5 rfl rfl (fun _ => rfl) rfl) ?_)))
 refine au [21,13,25,2,14] ?_
 refine qo 15 (.int .i64 (irem x1 8)) rfl rfl rfl (qjV rfl rfl rfl) (qo 16 (.int .u8 (ishl .u8 x39 (irem x1 8))) rfl rfl rfl (qe4 rfl rfl h43) ?_)
 refine au [7,17,7,18,7,19,24,9] ?_
 exact qQ (qb ((((ishl .u8 x39 (irem x1 8)) : Int) != 0), ())) (by intro c h; cases h)
 intro h38
 refine qH mixed [] [⟨g5, 29, [.int .i64 x1, .slice a3 x2.length c4]⟩] [Sl (eI .u8) 1 (.slice a3 x2.length c4) x2] (.cons 0 rfl .nil) (qW 0 rfl qB) 20 rfl ?_
 refine au [21,0,25,2,1] ?_
 refine qo 2 (.int .i64 (irem x1 8)) rfl rfl rfl (qjV rfl rfl rfl) ?_
 refine au [7,3,7,4] ?_
 refine qn (d := 26) (v := .bool false) rfl (by rw [h38] <;> rfl) ?_
 refine au [14,5,14,6,14,7,14,8,14,9,14,10,14,11,14,12,14,13,14,14,14,15,14,16,14,17,7,18,7,19,24,9] ?_
 exact qQ (qb (false, ())) (by intro c h; cases h)
 rintro ⟨x36, _⟩
 try dsimp only
 refine av [11] ?_ ?_
 intro _
 exact az [2,4,5,0,1,8,24,1,10,17]
 intro _
 exact az [12,24,5,1,2,4,5,0,1,8,17]
set_option maxHeartbeats 4000000 in
theorem qiR {F : Nat} {x1 : Int} {x2 : Int} {x3 : Int} {x4 : Int} {x5 : Int} {x6 : List Int} {a7 : Option Addr} {c8 : Nat} {r : Int} (hm : qcq F x1 x2 x3 x4 x5 x6 = some r) :
    Pure Tryz.prog 37 [.agg #[.int .i64 x1, .int .i64 x2, .int .i64 x3, .int .i64 x4, .int .i64 x5, .slice a7 x6.length c8]] [Sl (eI .u8) 1 (.slice a7 x6.length c8) x6] Unit (fun _ => .int .i64 r) (fun _ => []) (fun _ => []) := by
 refine qk Tryz.func37 rfl Tryz.ntmps37 rfl hm (fun w => ?_)
 refine au [25,3,2,4,22] ?_
 intro g9
 refine au [5,0,1,2,2,4,9,18,24,4,3] ?_
 refine qq 4 (decide (x1 < 0)) [(1, .pointer (some ⟨g9, 0, none⟩)), (11, .bool ((decide (x1 < 0)) || (decide (100 < x1))))] (fun h12 => ?_) (fun h12 => ?_) ?_
 refine qa (os := _) rfl (qi (k := 7) rfl h12 ?_)
 refine au [6,6,6,23] ?_
 refine qc (d := 11) (v := .bool ((decide (x1 < 0)) || (decide (100 < x1)))) rfl (by rw [h12]; simp only [Bool.true_or]) ?_
 exact az [0,16]
 refine qa (os := _) rfl (qh (k := 7) rfl h12 ?_)
 refine au [9,18,24,14,24,0] ?_
 refine qc (d := 11) (v := .bool ((decide (x1 < 0)) || (decide (100 < x1)))) rfl (by rw [h12]; simp only [Bool.false_or]) ?_
 exact az [0,16]
 refine qa (os := _) rfl ?_
 refine av [0,1,11] ?_ ?_
 intro _
 exact az [2,4,5,0,1,8,10,17]
 intro _
 refine au [12,1,2,2,4,9,24,8,30,3] ?_
 intro x15 e15 _
 refine av [5,0,1,2,4,3,25,1,0,1,11] ?_ ?_
 intro _
 exact az [2,4,3,5,0,1,8,10,17]
 intro _
 refine au [12,1,2,4,9,24,8,30,5] ?_
 intro x16 e16 _
 exact az [5,0,1,8,17]
set_option maxHeartbeats 4000000 in
theorem qi2 {F : Nat} {x1 : Int} {x2 : List Int} {a3 : Option Addr} {c4 : Nat} {x5 : Int} {r : (Int × Int × Bool)} (hm : qbB F x1 x2 x5 = some r) :
    Pure Tryz.prog 146 [.agg #[.int .i64 x1, .slice a3 x2.length c4], .int .i64 x5] [Sl (eI .u8) 1 (.slice a3 x2.length c4) x2] Unit (fun _ => .tuple #[.int .u64 r.1, .int .i64 r.2.1, .bool r.2.2]) (fun _ => []) (fun _ => []) := by
 refine qk Tryz.func146 rfl Tryz.ntmps146 rfl hm (fun w => ?_)
 refine au [24,10,2,4,22] ?_
 intro g6
 refine au [5,5,5,0,1] ?_
 refine qe (fun ((_, _) : (Unit × Unit)) => ([], [], [], [], qd1 F)) ?_ ?_
 refine au [2,4,3,5,0,1,15] ?_
 refine qw (fun ((x33, _) : (Int × Unit)) => ([(1, .int .i64 x5), (2, .pointer (some ⟨g6, 0, none⟩)), (7, .int .i64 x33)], [⟨g6, 29, [.int .i64 x1, .slice a3 x2.length c4]⟩], [], [Sl (eI .u8) 1 (.slice a3 x2.length c4) x2])) (fun k (s : (Int × Unit)) => vp F x1 x2 x5 k s.1) (x5, ()) F ?_
 intro k40
 rintro ⟨x33, _⟩
 try dsimp only
 refine qJ (m' := qa9 F x1 x2 x5 (vp F x1 x2 x5 k40) x33) rfl ?_
 refine av [2,2,4,3,9,18,24,4,0,1,11] ?_ ?_
 intro _
 refine au [12,1,2,15,2,4,24,8,3,27,10] ?_
 intro x44 e44 _
 refine av [24,13,0,1,11] ?_ ?_
 intro _
 exact az [2,4,3,3,25,5,25,12,3,19,5,5,5,0,1,8,24,1,10,10,24,1,10,17]
 intro _
 refine au [12,24,5,1,4,3,19,5,0] ?_
 exact qp (iadd .i64 x33 1, ())
 intro _
 exact az [24,11,20,20,24,12,25,15]
 rintro ⟨_, _⟩
 try dsimp only
 exact az [2,4,5,5,5,0,1,8,17]
theorem qex (F : Nat) (x1 : Int) (x2 : List Int) (a3 : Option Addr) (c4 : Nat) (x5 : Int) (r : (Int × Int × Int)) (hm : qaP F x1 x2 x5 = some r) :
    Pure Tryz.prog 110 [.agg #[.int .i64 x1, .slice a3 x2.length c4], .int .i64 x5] [Sl (eI .u8) 1 (.slice a3 x2.length c4) x2] Unit (fun _ => .tuple #[.int .u64 r.1, .int .i64 r.2.1, .int .i64 r.2.2]) (fun _ => []) (fun _ => []) := by
 refine qk Tryz.func110 rfl Tryz.ntmps110 rfl hm (fun w => ?_)
 refine au [24,10,2,4,22] ?_
 intro g6
 refine au [5,5,5,0,1,2,4,24,8,3,33,6] ?_
 intro x7 e7 _
 refine av [3,13,13,13,5,5,5,0,1,2,2,4,3,25,4,0,1,11] ?_ ?_
 intro _
 exact az [2,4,5,5,5,0,1,8,10,17]
 intro _
 exact az [12,1,2,4,3,3,5,5,5,0,1,8,17]
set_option maxHeartbeats 4000000 in
theorem qjY {F : Nat} {x1 : Int} {x2 : List Int} {a3 : Option Addr} {c4 : Nat} {x5 : Int} {x6 : Int} {r : (Int × Bool)} (hm : vu F x1 x2 x5 x6 = some r) :
    Pure Tryz.prog 109 [.agg #[.int .i64 x1, .slice a3 x2.length c4], .int .i64 x5, .int .i64 x6] [Sl (eI .u8) 1 (.slice a3 x2.length c4) x2] Unit (fun _ => .tuple #[.int .u64 r.1, .bool r.2]) (fun _ => []) (fun _ => []) := by
 refine qk Tryz.func109 rfl Tryz.ntmps109 rfl hm (fun w => ?_)
 refine au [26,0,2,4,22] ?_
 intro g7
 refine av [5,5,0,1,2,2,4,9,18,3,25,5,3,24,4,0,1,11] ?_ ?_
 intro _
 exact az [2,4,5,5,0,1,8,10,17]
 intro _
 refine au [12,1] ?_
 refine qe (fun ((x24, _) : (Int × Unit)) => ([(6, .int .u64 x24)], [], [], [], qcG F x24)) ?_ ?_
 refine au [2,4,3,3,0,1,15] ?_
 refine qw (fun (((x29, x30), _) : ((Int × Int) × Unit)) => ([(1, .int .i64 x5), (3, .pointer (some ⟨g7, 0, none⟩)), (6, .int .u64 x29), (15, .int .i64 x6), (16, .int .i64 x30)], [⟨g7, 29, [.int .i64 x1, .slice a3 x2.length c4]⟩], [], [Sl (eI .u8) 1 (.slice a3 x2.length c4) x2])) (fun k (s : ((Int × Int) × Unit)) => vS F x1 x2 x5 x6 k s.1) ((0, 0), ()) F ?_
 intro k35
 rintro ⟨⟨x29, x30⟩, _⟩
 try dsimp only
 refine qJ (m' := qbn F x1 x2 x5 x6 (vS F x1 x2 x5 x6 k35) x29 x30) rfl ?_
 refine av [2,4,24,4,0,1,2,11] ?_ ?_
 intro _
 refine au [12,1,2,15,2,4,3,5,0,1,4,3,32,5,24,8,3,3,19,27,10] ?_
 intro x38 e38 _
 refine au [33,7,5,0,24,5,1,4,19,3,0] ?_
 exact qp ((ior .u64 (ishl .u64 x29 1) x38, iadd .i64 x30 1), ())
 intro _
 refine au [24,11,20,20,24,12] ?_
 exact qb (x29, ())
 rintro ⟨x24, _⟩
 try dsimp only
 exact az [2,4,3,5,5,0,1,8,17]
set_option maxHeartbeats 4000000 in
theorem qao {F : Nat} {x1 : Int} {x2 : List Int} {a3 : Option Addr} {c4 : Nat} {x5 : Int} {r : (Int × Int × Int)} (hm : zL F x1 x2 x5 = some r) :
    Pure Tryz.prog 111 [.func (.func 110) #[] #[], .agg #[.int .i64 x1, .slice a3 x2.length c4], .int .i64 x5] [Sl (eI .u8) 1 (.slice a3 x2.length c4) x2] Unit (fun _ => .tuple #[.int .u64 r.1, .int .i64 r.2.1, .int .i64 r.2.2]) (fun _ => []) (fun _ => []) := by
 refine qk Tryz.func111 rfl Tryz.ntmps111 rfl hm (fun w => ?_)
 refine au [26,0,2,4,22] ?_
 intro g6
 refine au [5,5,5,0,1,2,4,3,24,8,3] ?_
 refine qon ent110 rfl rfl rfl rfl (fun x7 e7 => qex F x1 x2 a3 c4 x5 x7 e7) (.consF 0 rfl .nil) (fun x7 e7 _ => ?_)
 refine av [3,13,13,13,5,5,5,0,1,2,2,4,3,25,1,0,1,11] ?_ ?_
 intro _
 exact az [2,4,3,5,5,5,0,1,8,10,17]
 intro _
 refine av [12,1,2,2,4,3,26,2,0,1,11] ?_ ?_
 intro _
 exact az [2,4,5,5,5,0,1,8,10,17]
 intro _
 refine au [12,1,2,4,24,8,3,3,25,12,28,14] ?_
 intro x10 e10 _
 refine av [3,13,13,5,5,0,1,2,2,4,3,25,4,0,1,11] ?_ ?_
 intro _
 exact az [2,4,5,5,5,0,1,8,10,17]
 intro _
 refine au [12,1,2,2,4,3,3,26,1] ?_
 intro h15
 refine qeu rfl rfl rfl rfl h15 ?_
 refine au [25,5,19,5,26,9] ?_
 intro x16 e16
 refine qc (d := 12) (v := .int .u64 x16) rfl (by rw [e16] <;> rfl) ?_
 refine av [0,1,2,4,3,24,14,0,1,11] ?_ ?_
 intro _
 exact az [2,4,5,5,5,0,1,8,10,17]
 intro _
 exact az [12,1,2,4,3,3,3,25,12,19,5,5,5,0,1,8,17]
theorem qe7 {F : Nat} {x1 : Int} {x2 : List Int} {a3 : Option Addr} {c4 : Nat} {x5 : Int} {r : (Int × Int × Int)} (hm : vz F x1 x2 x5 = some r) :
    Pure Tryz.prog 84 [.agg #[.int .i64 x1, .slice a3 x2.length c4], .int .i64 x5] [Sl (eI .u8) 1 (.slice a3 x2.length c4) x2] Unit (fun _ => .tuple #[.int .u64 r.1, .int .i64 r.2.1, .int .i64 r.2.2]) (fun _ => []) (fun _ => []) := by
 refine qk Tryz.func84 rfl Tryz.ntmps84 rfl hm (fun w => ?_)
 refine au [24,10,2,4,22] ?_
 intro g6
 refine au [5,5,5,0,1,2,4,24,8,3] ?_
 refine qf qao ?_
 intro x7 e7 _
 exact az [13,13,13,5,5,5,0,1,8,17]
set_option maxHeartbeats 4000000 in
theorem qgH {F : Nat} {x1 : Int} {x2 : Int} {x3 : Int} {x4 : Int} {x5 : Int} {x6 : List Int} {a7 : Option Addr} {c8 : Nat} {x9 : Int} {x10 : Int} {r : (Int × Int × Bool)} (hm : qcN F x1 x2 x3 x4 x5 x6 x9 x10 = some r) :
    Pure Tryz.prog 55 [.agg #[.int .i64 x1, .int .i64 x2, .int .i64 x3, .int .i64 x4, .int .i64 x5, .slice a7 x6.length c8], .int .i64 x9, .int .i64 x10] [Sl (eI .u8) 1 (.slice a7 x6.length c8) x6] Unit (fun _ => .tuple #[.int .i64 r.1, .int .i64 r.2.1, .bool r.2.2]) (fun _ => []) (fun _ => []) := by
 refine qk Tryz.func55 rfl Tryz.ntmps55 rfl hm (fun w => ?_)
 refine au [26,0,2,4,22] ?_
 intro g11
 refine av [5,5,5,0,1,2,2,4,9,9,18,24,13,0,1,11] ?_ ?_
 intro _
 exact az [2,4,3,5,5,5,0,1,8,10,17]
 intro _
 refine au [12,1,2,4,9,24,8,3,33,8] ?_
 intro x13 e13 _
 refine au [3,13,13,13,5,5,5,0,1,2,2,4,3,25,1,3] ?_
 refine qY 9 (fun ((x18, _) : (Bool × Unit)) => ([(7, .int .i64 x13.2.1), (9, .int .u64 x13.1), (35, .bool x18)], [], [], [], qb2 F x13 x18)) ?_ ?_
 refine qa (os := _) rfl ?_
 refine av [25,9] ?_ ?_
 intro h17
 refine qi (k := 26) rfl h17 ?_
 refine au [6,6,6,6,6,6,6,6,23,0] ?_
 exact qb (true, ())
 intro h17
 refine qh (k := 26) rfl h17 ?_
 refine au [3,9,9,18,3,27,13,25,12,24,14,24,0,0] ?_
 exact qb ((decide ((iconv .u64 (imin x2 x10)) < x13.1)), ())
 rintro ⟨x18, _⟩
 try dsimp only
 refine qa (os := _) rfl ?_
 refine av [0,1,11] ?_ ?_
 intro _
 exact az [2,4,5,5,5,0,1,8,10,17]
 intro _
 exact az [12,1,2,4,3,25,12,3,5,5,5,0,1,8,17]
theorem jd (F : Nat) (x1 : Bool) (r : (Unit ⊕ Unit)) (hm : kS F x1 = some r) :
    PureL Tryz.prog 114 [.bool x1] [] [] [] lostCh Unit (fun (_ : Unit) (_ : Unit) => .tuple #[]) (fun (_ : Unit) (_ : Unit) => []) (fun (_ : Unit) (_ : Unit) => []) (fun (_ : Unit) => []) r := by
 refine qeh Tryz.func114 rfl Tryz.ntmps114 rfl hm (fun w => ?_)
 refine av [25,3,2,4,3,25,4,0,1,11] ?_ ?_
 intro _
 refine au [4,33,9] ?_
 exact qor rfl rfl (qrd _) rfl (qov rfl rfl (qiy .nil))
 intro _
 refine au [12] ?_
 exact qbR () (.inr rfl) (res0 rfl) rfl .nil .nil
theorem kL (F : Nat) (g1 : Nat) (x2 : Int) (x3 : List Int) (a4 : Option Addr) (c5 : Nat) (x6 : Int) (x7 : Int) (r : ((Int × Int × Int) ⊕ (Int × Int))) (hm : zD F x2 x3 x6 x7 = some r) :
    PureL Tryz.prog 147 [.pointer (some ⟨g1, 0, none⟩), .int .i64 x7] [⟨g1, 142, [.int .i64 x2, .slice a4 x3.length c5, .int .i64 x6]⟩] [] [Sl (eI .u8) 1 (.slice a4 x3.length c5) x3] lostCh Unit (fun (r : (Int × Int × Int)) (_ : Unit) => .int .i64 r.1) (fun (r : (Int × Int × Int)) (_ : Unit) => [⟨g1, 142, [.int .i64 r.2.1, .slice a4 x3.length c5, .int .i64 r.2.2]⟩]) (fun (_ : (Int × Int × Int)) (_ : Unit) => []) (fun (z : (Int × Int)) => [⟨g1, 142, [.int .i64 z.1, .slice a4 x3.length c5, .int .i64 z.2]⟩]) r := by
 refine qeh Tryz.func147 rfl Tryz.ntmps147 rfl hm (fun w => ?_)
 refine au [24,10,2,4,5,0,1,2] ?_
 refine qH mixed [] [⟨g1, 142, [.int .i64 x2, .slice a4 x3.length c5, .int .i64 x6]⟩] [Sl (eI .u8) 1 (.slice a4 x3.length c5) x3] (.cons 0 rfl .nil) (qW 0 rfl qB) 16 rfl ?_
 refine au [7,0,7,1,21,2] ?_
 refine kN 3 (.agg #[.int .i64 x2, .slice a4 x3.length c5]) rfl rfl rfl (zI (i := 0) rfl tf29 rfl rfl (by simp) rfl) ?_
 refine au [7,4,7,5,21,6,25,2,7,24,3,8,33,8] ?_
 intro x9 e9 _
 refine au [0,29,8,7,9,7,10,7,11,7,12,7,13,7,14,7,15,24,9] ?_
 refine qQ ?_ (by intro c h; cases h)
 refine au [1,2,4,3,24,13,3] ?_
 refine qq 5 ((x9.2.2 : Int) == 0) [(0, .pointer (some ⟨g1, 0, none⟩)), (5, .int .u64 x9.1), (6, .int .i64 x9.2.1), (28, .bool (((x9.2.2 : Int) == 0) && (decide (x9.1 ≤ (iconv .u64 x7)))))] (fun h10 => ?_) (fun h10 => ?_) ?_
 refine qa (os := _) rfl (qi (k := 23) rfl h10 ?_)
 refine au [3,3,25,12,26,14,23] ?_
 refine qc (d := 28) (v := .bool (((x9.2.2 : Int) == 0) && (decide (x9.1 ≤ (iconv .u64 x7))))) rfl (by rw [h10]; simp only [Bool.true_and]) ?_
 exact az [0,16]
 refine qa (os := _) rfl (qh (k := 23) rfl h10 ?_)
 refine au [6,6,6,6,24,0] ?_
 refine qc (d := 28) (v := .bool (((x9.2.2 : Int) == 0) && (decide (x9.1 ≤ (iconv .u64 x7))))) rfl (by rw [h10]; simp only [Bool.false_and]) ?_
 exact az [0,16]
 refine qa (os := _) rfl (kv ent114 rfl rfl rfl (fun x11 e11 => jd F (((x9.2.2 : Int) == 0) && (decide (x9.1 ≤ (iconv .u64 x7)))) x11 e11) .nil .nil .nil (fun x12 _ => ?_) (fun x11 e11 => ?_))
 exact az [25,8,26,8]
 intro _
 refine au [0,1,2,4,3,3,25,0,9,24,2,0,1,2,4,3,25,12,5,0,1,8] ?_
 exact qbR () (.inl rfl) (res1 rfl rfl) rfl (.cons 0 rfl .nil) .nil
set_option maxHeartbeats 4000000 in
theorem qhJ {F : Nat} {x1 : List Int} {a2 : Option Addr} {c3 : Nat} {x4 : Int} {r : Int} (hm : qb3 F x1 x4 = some r) :
    Pure Tryz.prog 176 [.slice a2 x1.length c3, .int .i64 x4] [Sl (eI .i64) 1 (.slice a2 x1.length c3) x1] Unit (fun _ => .int .i64 r) (fun _ => []) (fun _ => []) := by
 refine qk Tryz.func176 rfl Tryz.ntmps176 rfl hm (fun w => ?_)
 refine av [24,10,2,4,5,0,1,2,2,4,3,24,6,3,19,24,14,0,1,11] ?_ ?_
 intro _
 exact az [2,4,5,0,1,8,10,17]
 intro _
 refine au [12,1,2,4,5,0,1] ?_
 refine qe (fun ((x99, _) : (Int × Unit)) => ([(1, .int .i64 x4), (5, .int .i64 x99)], [], [], [], qbz F x4 x99)) ?_ ?_
 refine au [2,4,3,24,6,3,0,1,15] ?_
 refine qw (fun (((x132, x133), _) : ((Int × Int) × Unit)) => ([(1, .int .i64 x4), (5, .int .i64 x132), (13, .slice a2 x1.length c3), (14, .int .i64 (x1.length : Int)), (15, .int .i64 x133)], [], [], [Sl (eI .i64) 1 (.slice a2 x1.length c3) x1])) (fun k (s : ((Int × Int) × Unit)) => kC F x1 x4 k s.1) ((0, 0), ()) F ?_
 intro k164
 rintro ⟨⟨x132, x133⟩, _⟩
 try dsimp only
 refine qJ (m' := j9 F x1 x4 (kC F x1 x4 k164) x132 x133) rfl ?_
 refine av [2,4,24,4,0,1,2,11] ?_ ?_
 intro _
 refine au [12,1,2,15,2,4,3,26,6] ?_
 intro x180 e180 b181 o182
 refine au [25,13,5,5,0,1,2,2,4,3,24,4,3] ?_
 refine qY 7 (fun ((x190, _) : (Bool × Unit)) => ([(1, .int .i64 x4), (5, .int .i64 x132), (7, .int .i64 x180), (13, .slice a2 x1.length c3), (14, .int .i64 (x1.length : Int)), (15, .int .i64 x133), (29, .bool x190)], [], [], [Sl (eI .i64) 1 (.slice a2 x1.length c3) x1], qaa F (kC F x1 x4 k164) x4 x132 x133 x180 x190)) ?_ ?_
 refine qa (os := _) rfl ?_
 refine av [25,9] ?_ ?_
 intro h188
 refine qi (k := 22) rfl h188 ?_
 refine au [6,6,6,6,6,6,23,0] ?_
 exact qb (true, ())
 intro h188
 refine qh (k := 22) rfl h188 ?_
 refine au [3,24,4,3] ?_
 refine qq 3 (decide (x180 < 1)) [(1, .int .i64 x4), (5, .int .i64 x132), (13, .slice a2 x1.length c3), (14, .int .i64 (x1.length : Int)), (15, .int .i64 x133), (7, .int .i64 x180), (22, .bool false), (23, .int .i64 x180), (24, .bool (decide (x180 < 1))), (25, .bool (decide (x180 < 1))), (28, .bool ((decide (x180 < 1)) && (decide (0 < x133))))] (fun h193 => ?_) (fun h193 => ?_) ?_
 refine qa (os := _) rfl (qi (k := 25) rfl h193 ?_)
 refine au [3,24,14,23] ?_
 refine qc (d := 28) (v := .bool ((decide (x180 < 1)) && (decide (0 < x133)))) rfl (by rw [h193]; simp only [Bool.true_and]) (qc (d := 25) (v := .bool (decide (x180 < 1))) rfl (by rw [h193] <;> rfl) ?_)
 exact az [0,16]
 refine qa (os := _) rfl (qh (k := 25) rfl h193 ?_)
 refine au [6,6,24,0] ?_
 refine qc (d := 28) (v := .bool ((decide (x180 < 1)) && (decide (0 < x133)))) rfl (by rw [h193]; simp only [Bool.false_and]) (qc (d := 25) (v := .bool (decide (x180 < 1))) rfl (by rw [h193] <;> rfl) ?_)
 exact az [0,16]
 refine qa (os := _) rfl ?_
 refine au [24,0,0] ?_
 exact qb (((decide (x180 < 1)) && (decide (0 < x133))), ())
 rintro ⟨x190, _⟩
 try dsimp only
 refine qa (os := _) rfl ?_
 refine av [0,1,11] ?_ ?_
 intro _
 exact az [2,4,5,0,1,8,10,24,1,10,10,24,1,10,17]
 intro _
 refine au [12,1,4,3,3,3,19,27,13,19,3,19,27,13,5,26,9] ?_
 intro x191 e191
 refine qc (d := 5) (v := .int .i64 x191) rfl (by rw [e191] <;> rfl) ?_
 refine au [0,24,5,1,4,19,3,0] ?_
 exact qp ((x191, iadd .i64 x133 1), ())
 intro _
 refine au [24,11,20,20,24,12] ?_
 exact qb (x132, ())
 rintro ⟨x99, _⟩
 try dsimp only
 refine av [2,2,4,3,3,24,14,0,1,11] ?_ ?_
 intro _
 exact az [2,4,5,0,1,8,10,17]
 intro _
 exact az [12,1,2,4,5,0,1,8,17]
set_option maxHeartbeats 4000000 in
theorem qgI {F : Nat} {x1 : List Int} {a2 : Option Addr} {c3 : Nat} {x4 : List Int} {a5 : Option Addr} {c6 : Nat} {r : List Int} (hm : qcR F x1 x4 = some r) :
    Pure Tryz.prog 177 [.slice a2 x1.length c3, .slice a5 x4.length c6] [Sl (eI .i64) 1 (.slice a2 x1.length c3) x1, Sl (eI .i64) 1 (.slice a5 x4.length c6) x4] (Option Addr × Nat) (fun g => .slice g.1 r.length g.2) (fun g => [Ro (eI .i64) 3 1 (.slice g.1 r.length g.2) r]) (fun _ => []) := by
 refine qk Tryz.func177 rfl Tryz.ntmps177 rfl hm (fun w => ?_)
 refine au [24,10,2,4,5,0,1,2,4,5,0,1,2,4,5,0,1] ?_
 refine qe (fun (((x158, x161, x162), (a156, c157, a159, c160)) : ((List Int × List Int × Bool) × (Option Addr × Nat × Option Addr × Nat))) => ([(0, .slice a156 x158.length c157), (5, .slice a159 x161.length c160), (6, .bool x162)], [], [Ro (eI .i64) 3 1 (.slice a159 x161.length c160) x161], [Sl (eI .i64) 1 (.slice a156 x158.length c157) x158], qbA F x158 x161 x162)) ?_ ?_
 refine au [2,4,3,24,6,3,0,1,15,27,5] ?_
 refine qw (fun (((x217, x220, x221, x222), (a215, c216, a218, c219)) : ((List Int × List Int × Bool × Int) × (Option Addr × Nat × Option Addr × Nat))) => ([(0, .slice a215 x217.length c216), (5, .slice a218 x220.length c219), (6, .bool x221), (9, .slice a5 x4.length c6), (10, .int .i64 (x4.length : Int)), (11, .int .i64 x222)], [], [Ro (eI .i64) 3 1 (.slice a218 x220.length c219) x220], [Sl (eI .i64) 1 (.slice a215 x217.length c216) x217, Sl (eI .i64) 1 (.slice a5 x4.length c6) x4])) (fun k (s : ((List Int × List Int × Bool × Int) × (Option Addr × Nat × Option Addr × Nat))) => kp F x4 k s.1) ((x1, ([] : List Int), true, 0), (a2, c3, none, 0)) F ?_
 intro k271
 rintro ⟨⟨x217, x220, x221, x222⟩, ⟨a215, c216, a218, c219⟩⟩
 try dsimp only
 refine qJ (m' := jm F x4 (kp F x4 k271) x217 x220 x221 x222) rfl ?_
 refine av [2,4,24,4,0,1,2,11] ?_ ?_
 intro _
 refine au [12,1,2,15,2,4,28,10] ?_
 intro x296 e296 b297 o298
 refine au [25,13,5,0,1] ?_
 refine qe (fun ((x308, (a306, c307)) : (List Int × (Option Addr × Nat))) => ([(0, .slice a215 x217.length c216), (5, .slice a306 x308.length c307), (6, .bool x221), (8, .int .i64 x296), (9, .slice a5 x4.length c6), (10, .int .i64 (x4.length : Int)), (11, .int .i64 x222)], [], [Ro (eI .i64) 3 1 (.slice a306 x308.length c307) x308], [Sl (eI .i64) 1 (.slice a215 x217.length c216) x217, Sl (eI .i64) 1 (.slice a5 x4.length c6) x4], jn F (kp F x4 k271) x217 x221 x222 x296 x308)) ?_ ?_
 refine av [2,4,3,0,1,11] ?_ ?_
 intro _
 refine au [4,3,3,3] ?_
 refine qnw (j := 1) (qP .i64) rfl UnF.u inferInstance rfl rfl rfl rfl rfl ?_
 intro x312 e312 a313 c314
 refine au [30,6] ?_
 intro x315 e315 a316 c317
 refine au [5,0] ?_
 exact qb (x315, (a316, c317))
 intro _
 refine au [12] ?_
 exact qb (x220, (a218, c219))
 rintro ⟨x308, ⟨a306, c307⟩⟩
 try dsimp only
 refine au [4,3,3] ?_
 refine qnw (j := 0) (qP .i64) rfl UnF.u inferInstance rfl rfl rfl rfl rfl ?_
 intro x309 e309 a310 c311
 refine au [3,25,4,5,5,0,24,5,1,4,19,3,0] ?_
 exact qp ((x309, x308, (!x221), iadd .i64 x222 1), (a310, c311, a306, c307))
 intro _
 refine au [24,11,20,20,24,12] ?_
 exact qb ((x217, x220, x221), (a215, c216, a218, c219))
 rintro ⟨⟨x158, x161, x162⟩, ⟨a156, c157, a159, c160⟩⟩
 try dsimp only
 refine qe (fun ((x169, (a167, c168)) : (List Int × (Option Addr × Nat))) => ([(5, .slice a167 x169.length c168)], [], [Ro (eI .i64) 3 1 (.slice a167 x169.length c168) x169], [], qab F x169)) ?_ ?_
 refine av [2,4,3,0,1,11] ?_ ?_
 intro _
 refine au [4,3,3,30,6] ?_
 intro x170 e170 a171 c172
 refine au [5,0] ?_
 exact qb (x170, (a171, c172))
 intro _
 refine au [12] ?_
 exact qb (x161, (a159, c160))
 rintro ⟨x169, ⟨a167, c168⟩⟩
 try dsimp only
 refine au [2,4,3,5,0,1,8] ?_
 exact qy (a167, c168)
set_option maxHeartbeats 4000000 in
theorem qiU {F : Nat} {x1 : List Int} {a2 : Option Addr} {c3 : Nat} {x4 : List Int} {a5 : Option Addr} {c6 : Nat} {r : (List Int × Int)} (hm : qcr F x1 x4 = some r) :
    Pure Tryz.prog 148 [.slice a2 x1.length c3, .slice a5 x4.length c6] [Sl (eI .i64) 1 (.slice a2 x1.length c3) x1, Sl (eI .i64) 1 (.slice a5 x4.length c6) x4] (Option Addr × Nat) (fun g => .tuple #[.slice g.1 r.1.length g.2, .int .i64 r.2]) (fun g => [Ro (eI .i64) 3 1 (.slice g.1 r.1.length g.2) r.1]) (fun _ => []) := by
 refine qk Tryz.func148 rfl Tryz.ntmps148 rfl hm (fun w => ?_)
 refine au [24,10,2,4,5,5,0,1,2,4,3,28,4] ?_
 intro x7 e7 _
 refine au [5,0,1] ?_
 refine qe (fun ((x10, _) : (Int × Unit)) => ([(0, .slice a2 x1.length c3), (1, .slice a5 x4.length c6), (6, .int .i64 x10)], [], [], [Sl (eI .i64) 1 (.slice a2 x1.length c3) x1, Sl (eI .i64) 1 (.slice a5 x4.length c6) x4], jw F x1 x4 x10)) ?_ ?_
 refine av [2,4,3,24,13,0,1,11] ?_ ?_
 intro _
 refine au [4,3,3,24,6] ?_
 refine qf qhJ ?_
 intro x16 e16 _
 refine au [5,0] ?_
 exact qb (x16, ())
 intro _
 refine au [12] ?_
 exact qb (x7, ())
 rintro ⟨x10, _⟩
 try dsimp only
 refine av [2,2,4,3,25,1,0,1,11] ?_ ?_
 intro _
 refine au [2,4,3,5,5,0,1,8,10,25,10] ?_
 exact qy (none, 0)
 intro _
 refine au [12,1,2,4,3,3] ?_
 refine qf qgI ?_
 rintro x12 e12 ⟨a13, c14⟩
 refine au [5,5,0,1,8] ?_
 exact qy (a13, c14)
set_option maxHeartbeats 4000000 in
theorem qd6 (F : Nat) (g1 : Nat) (x2 : Int) (x3 : List Int) (a4 : Option Addr) (c5 : Nat) (x6 : Int) (x7 : Int) (r : ((List Int × Int × Int) ⊕ (Int × Int))) (hm : vE F x2 x3 x6 x7 = some r) :
    PureL Tryz.prog 149 [.pointer (some ⟨g1, 0, none⟩), .int .i64 x7] [⟨g1, 142, [.int .i64 x2, .slice a4 x3.length c5, .int .i64 x6]⟩] [] [Sl (eI .u8) 1 (.slice a4 x3.length c5) x3] lostCh (Option Addr × Nat) (fun (r : (List Int × Int × Int)) (g : (Option Addr × Nat)) => .slice g.1 r.1.length g.2) (fun (r : (List Int × Int × Int)) (_ : (Option Addr × Nat)) => [⟨g1, 142, [.int .i64 r.2.1, .slice a4 x3.length c5, .int .i64 r.2.2]⟩]) (fun (r : (List Int × Int × Int)) (g : (Option Addr × Nat)) => [Ro (eI .i64) 3 1 (.slice g.1 r.1.length g.2) r.1]) (fun (z : (Int × Int)) => [⟨g1, 142, [.int .i64 z.1, .slice a4 x3.length c5, .int .i64 z.2]⟩]) r := by
 refine qeh Tryz.func149 rfl Tryz.ntmps149 rfl hm (fun w => ?_)
 refine au [24,10,2,4,5,0,1,2,4,3,3,19] ?_
 refine kv ent147 rfl rfl rfl (fun x8 e8 => kL F g1 x2 x3 a4 c5 x6 (iadd .i64 x7 1) x8 e8) (.cons 0 rfl .nil) .nil (.consF 0 rfl .nil) (fun x9 _ => ?_) (fun x8 e8 => ?_)
 exact az [25,8,26,8]
 intro _
 refine au [28,1] ?_
 intro x10 e10 a11 c12
 refine au [5,0,1] ?_
 refine qe (fun (((x72, x73, x74), _) : ((List Int × Int × Int) × Unit)) => ([(5, .slice a11 x72.length c12)], [⟨g1, 142, [.int .i64 x73, .slice a4 x3.length c5, .int .i64 x74]⟩], [Ro (eI .i64) 3 1 (.slice a11 x72.length c12) x72], [Sl (eI .u8) 1 (.slice a4 x3.length c5) x3], v8 F x72 x73 x74)) ?_ ?_
 refine au [2,4,3,24,6,3,0,1,15] ?_
 refine qw (fun (((x93, x94, x95, x96), _) : ((List Int × Int × Int × Int) × Unit)) => ([(0, .pointer (some ⟨g1, 0, none⟩)), (1, .int .i64 x7), (5, .slice a11 x93.length c12), (13, .int .i64 (x10.length : Int)), (14, .int .i64 x94)], [⟨g1, 142, [.int .i64 x95, .slice a4 x3.length c5, .int .i64 x96]⟩], [Ro (eI .i64) 3 1 (.slice a11 x93.length c12) x93], [Sl (eI .u8) 1 (.slice a4 x3.length c5) x3])) (fun k (s : ((List Int × Int × Int × Int) × Unit)) => zO F x3 x7 x10 k s.1) ((x10, 0, x8.2.1, x8.2.2), ()) F ?_
 intro k115
 rintro ⟨⟨x93, x94, x95, x96⟩, _⟩
 try dsimp only
 refine qJ (m' := yv F x3 x7 x10 (zO F x3 x7 x10 k115) x93 x94 x95 x96) rfl ?_
 refine av [2,4,24,4,0,1,2,11] ?_ ?_
 intro _
 refine au [12,1,2,15,2,4,3,5,0,1,4,3,3,3,3] ?_
 refine kv ent147 rfl rfl rfl (fun x125 e125 => kL F g1 x95 x3 a4 c5 x96 x7 x125 e125) (.cons 0 rfl .nil) .nil (.consF 0 rfl .nil) (fun x126 _ => ?_) (fun x125 e125 => ?_)
 exact az [27,2,25,8,25,8,27,2,25,8,26,8]
 intro _
 refine au [3,27,13,19,28,15] ?_
 intro x127 e127 g128 h129
 refine qbQ (j := 0) (y' := iadd .i64 x125.1 (imin x94 1)) (qP .i64) rfl rfl rfl tf3 rfl h129 (zd e127).2.1 rfl (fun x130 e130 h131 => ?_)
 have h132 : x130.length = x93.length := by rw [← e130, List.length_set]
 refine qc (d := 5) (v := .slice a11 x130.length c12) rfl h131 (qc (d := 17) (v := .slice a11 x130.length c12) rfl h131 ?_)
 refine au [0,24,5,1,4,19,3,0] ?_
 exact qp ((x130, iadd .i64 x94 1, x125.2.1, x125.2.2), ())
 intro _
 refine au [24,11,20,20,24,12] ?_
 exact qb ((x93, x95, x96), ())
 rintro ⟨⟨x72, x73, x74⟩, _⟩
 try dsimp only
 refine au [2,4,3,5,0,1,8] ?_
 exact qbR (a11, c12) (.inl rfl) (res1 rfl rfl) rfl (.cons 0 rfl .nil) (.cons 0 rfl .nil)
theorem qgo {F : Nat} {x1 : Int} {r : Int} (hm : jC F x1 = some r) :
    Pure Tryz.prog 178 [.int .u64 x1] [] Unit (fun _ => .int .i64 r) (fun _ => []) (fun _ => []) := by
 refine qk Tryz.func178 rfl Tryz.ntmps178 rfl hm (fun w => ?_)
 refine au [25,3,2,4,5,0,1,2,4,3,27,12,25,12,3,28,7,25,12] ?_
 refine qrU rfl rfl rfl ?_
 refine au [32,6,5,26,9] ?_
 intro x2 e2
 refine qc (d := 2) (v := .int .i64 x2) rfl (by rw [e2] <;> rfl) ?_
 exact az [0,1,8,17]
set_option maxHeartbeats 4000000 in
theorem qeQ (F : Nat) (g1 : Nat) (x2 : Int) (x3 : List Int) (a4 : Option Addr) (c5 : Nat) (x6 : Int) (x7 : Int) (x8 : Int) (x9 : Int) (r : ((List (Int × Int) × Int × Int) ⊕ (Int × Int))) (hm : jq F x2 x3 x6 x7 x8 x9 = some r) :
    PureL Tryz.prog 150 [.pointer (some ⟨g1, 0, none⟩), .int .i64 x7, .int .i64 x8, .int .i64 x9] [⟨g1, 142, [.int .i64 x2, .slice a4 x3.length c5, .int .i64 x6]⟩] [] [Sl (eI .u8) 1 (.slice a4 x3.length c5) x3] lostCh (Option Addr × Nat) (fun (r : (List (Int × Int) × Int × Int)) (g : (Option Addr × Nat)) => .slice g.1 r.1.length g.2) (fun (r : (List (Int × Int) × Int × Int)) (_ : (Option Addr × Nat)) => [⟨g1, 142, [.int .i64 r.2.1, .slice a4 x3.length c5, .int .i64 r.2.2]⟩]) (fun (r : (List (Int × Int) × Int × Int)) (g : (Option Addr × Nat)) => [Ro eS189 189 2 (.slice g.1 r.1.length g.2) r.1]) (fun (z : (Int × Int)) => [⟨g1, 142, [.int .i64 z.1, .slice a4 x3.length c5, .int .i64 z.2]⟩]) r := by
 refine qeh Tryz.func150 rfl Tryz.ntmps150 rfl hm (fun w => ?_)
 refine au [26,15,2,4,5,0,1,2,4,3,3,3,26,1] ?_
 intro h10
 refine qjK rfl rfl rfl rfl h10 (kv ent147 rfl rfl rfl (fun x11 e11 => kL F g1 x2 x3 a4 c5 x6 (iquo .i64 x9 x8) x11 e11) (.cons 0 rfl .nil) .nil (.consF 0 rfl .nil) (fun x12 _ => ?_) (fun x11 e11 => ?_))
 exact az [25,8,26,8]
 intro _
 refine qny qds (by decide) rfl UnF.u inferInstance rfl rfl rfl rfl rfl rfl ?_
 intro x13 e13 a14 c15
 refine au [5,0,1,2,4,3,5,0,1] ?_
 refine qe (fun (((x136, x137, x138), _) : ((List (Int × Int) × Int × Int) × Unit)) => ([(9, .slice a14 x136.length c15)], [⟨g1, 142, [.int .i64 x137, .slice a4 x3.length c5, .int .i64 x138]⟩], [Ro eS189 189 2 (.slice a14 x136.length c15) x136], [Sl (eI .u8) 1 (.slice a4 x3.length c5) x3], jQ F x136 x137 x138)) ?_ ?_
 refine au [2,4,3,24,6,3,0,1,15] ?_
 refine qw (fun (((x177, x178, x179, x180, x181), _) : ((List (Int × Int) × Int × Int × Int × Int) × Unit)) => ([(0, .pointer (some ⟨g1, 0, none⟩)), (2, .int .i64 x8), (3, .int .i64 x9), (9, .slice a14 x177.length c15), (10, .int .i64 x178), (21, .int .i64 (x13.length : Int)), (22, .int .i64 x179)], [⟨g1, 142, [.int .i64 x180, .slice a4 x3.length c5, .int .i64 x181]⟩], [Ro eS189 189 2 (.slice a14 x177.length c15) x177], [Sl (eI .u8) 1 (.slice a4 x3.length c5) x3])) (fun k (s : ((List (Int × Int) × Int × Int × Int × Int) × Unit)) => zm F x3 x8 x9 x13 k s.1) ((x13, x7, 0, x11.2.1, x11.2.2), ()) F ?_
 intro k220
 rintro ⟨⟨x177, x178, x179, x180, x181⟩, _⟩
 try dsimp only
 refine qJ (m' := yJ F x3 x8 x9 x13 (zm F x3 x8 x9 x13 k220) x177 x178 x179 x180 x181) rfl ?_
 refine av [2,4,24,4,0,1,2,11] ?_ ?_
 intro _
 refine au [12,1,2,15,2,4,3,5,0,1,2,4,3] ?_
 refine kv ent147 rfl rfl rfl (fun x240 e240 => kL F g1 x180 x3 a4 c5 x181 2097152 x240 e240) (.cons 0 rfl .nil) .nil (.consF 0 rfl .nil) (fun x241 _ => ?_) (fun x240 e240 => ?_)
 exact az [25,8,27,2,25,8,25,8,27,2,25,8,26,8]
 intro _
 refine au [5,0,1] ?_
 refine qe (fun ((x244, _) : (Int × Unit)) => ([(0, .pointer (some ⟨g1, 0, none⟩)), (2, .int .i64 x8), (3, .int .i64 x9), (9, .slice a14 x177.length c15), (10, .int .i64 x244), (11, .int .i64 x179), (21, .int .i64 (x13.length : Int)), (22, .int .i64 x179)], [⟨g1, 142, [.int .i64 x240.2.1, .slice a4 x3.length c5, .int .i64 x240.2.2]⟩], [Ro eS189 189 2 (.slice a14 x177.length c15) x177], [Sl (eI .u8) 1 (.slice a4 x3.length c5) x3], kJ F (zm F x3 x8 x9 x13 k220) x3 x8 x9 x177 x179 x240 x244)) ?_ ?_
 refine av [2,4,3,24,13,0,1,11] ?_ ?_
 intro _
 refine au [4,3,3,25,12,33,10] ?_
 intro x256 e256 _
 refine au [19,5,0] ?_
 exact qb (iadd .i64 x178 x256, ())
 intro _
 refine au [4,3,3,19,19,5,0] ?_
 exact qb (iadd .i64 x178 (iadd .i64 x240.1 2), ())
 rintro ⟨x244, _⟩
 try dsimp only
 refine au [2,4,3,3,3,3,3] ?_
 refine kv ent147 rfl rfl rfl (fun x245 e245 => kL F g1 x240.2.1 x3 a4 c5 x240.2.2 x9 x245 e245) (.cons 0 rfl .nil) .nil (.consF 0 rfl .nil) (fun x246 _ => ?_) (fun x245 e245 => ?_)
 exact az [25,8,27,2,25,8,25,8,27,2,25,8,26,8]
 intro _
 refine au [3,19] ?_
 refine ql (cells := [.int .i64 x244, .int .i64 (iadd .i64 x245.1 x8)]) rfl st189 rfl (by kernel_rfl) rfl ?_
 refine au [28,15] ?_
 intro x247 e247 g248 h249
 refine qbQ (j := 0) (y' := (x244, iadd .i64 x245.1 x8)) qds rfl rfl rfl tf189 rfl h249 (zd e247).2.1 rfl (fun x250 e250 h251 => ?_)
 have h252 : x250.length = x177.length := by rw [← e250, List.length_set]
 refine qc (d := 9) (v := .slice a14 x250.length c15) rfl h251 (qc (d := 38) (v := .slice a14 x250.length c15) rfl h251 ?_)
 refine au [0,1,4,3,3,3,28,15] ?_
 intro x253 e253 g254 h255
 refine au [9] ?_
 refine qmc (j := 0) (y := x253) (off := 1) qds rfl rfl tf3 rfl h255 (zd e253).2.2 rfl (fun _ => rfl) rfl rfl ?_
 refine au [25,5,19,5,0,24,5,1,4,19,3,0] ?_
 exact qp ((x250, iadd .i64 x244 (isub .i64 x253.2 1), iadd .i64 x179 1, x245.2.1, x245.2.2), ())
 intro _
 refine au [24,11,20,20,24,12] ?_
 exact qb ((x177, x180, x181), ())
 rintro ⟨⟨x136, x137, x138⟩, _⟩
 try dsimp only
 refine au [2,4,3,5,0,1,8] ?_
 exact qbR (a14, c15) (.inl rfl) (res1 rfl rfl) rfl (.cons 0 rfl .nil) (.cons 0 rfl .nil)
set_option maxHeartbeats 4000000 in
theorem qd3 {F : Nat} {x1 : List Int} {a2 : Option Addr} {c3 : Nat} {x4 : Int} {r : List Int} (hm : vb F x1 c3 x4 = some r) :
    PureM Tryz.prog 184 [.slice a2 x1.length c3, .int .i64 x4] [] [Ro (eI .i64) 3 1 (.slice a2 x1.length c3) x1] [] (Option Addr × Nat) (fun g => .slice g.1 r.length g.2) (fun _ => []) (fun g => [Ro (eI .i64) 3 1 (.slice g.1 r.length g.2) r]) := by
 refine zi Tryz.func184 rfl Tryz.ntmps184 rfl hm (fun w => ?_)
 refine av [24,10,2,4,5,0,1,2,2,4,3,24,4,0,1,11] ?_ ?_
 intro _
 exact az [33,11]
 intro _
 refine au [12,1] ?_
 refine qe (fun ((x15, (a13, c14)) : (List Int × (Option Addr × Nat))) => ([(0, .slice a13 x15.length c14)], [], [Ro (eI .i64) 3 1 (.slice a13 x15.length c14) x15], [], vN F x15)) ?_ ?_
 refine au [2,4,3,3,33,12,3,24,6,25,5,25,5,5,26,9] ?_
 intro x16 e16
 refine qc (d := 1) (v := .int .i64 x16) rfl (by rw [e16] <;> rfl) ?_
 refine av [0,1,2,4,3,24,14,0,1,11] ?_ ?_
 intro _
 refine au [4,3,3,33,12,33,13] ?_
 intro x17 e17
 refine au [3] ?_
 refine qqs (y := (0 : Int)) 0 (qP .i64) rfl UnF.u UnF.u inferInstance rfl rfl rfl rfl rfl rfl rfl rfl rfl ?_
 intro x18 e18 a19 c20
 refine au [3,24,6,33,13] ?_
 intro x21 e21
 refine au [5,0] ?_
 exact qb (x21, (a19, c20))
 intro _
 refine au [12] ?_
 exact qb (x1, (a2, c3))
 rintro ⟨x15, ⟨a13, c14⟩⟩
 try dsimp only
 refine au [2,4,3,5,0,1,8] ?_
 exact q7 (a13, c14)
set_option maxHeartbeats 4000000 in
theorem qdp {F : Nat} {x1 : List (List Int)} {a2 : Option Addr} {c3 : Nat} {s3 : List (Option Addr × Nat)} {r : List Int} (hm : zF F x1 = some r) :
    Pure Tryz.prog 153 [.slice a2 x1.length c3] [SlN eN39 iN39 1 (.slice a2 x1.length c3) x1 s3] (Option Addr × Nat) (fun g => .slice g.1 r.length g.2) (fun g => [Ro (eI .i64) 3 1 (.slice g.1 r.length g.2) r]) (fun _ => []) := by
 refine qk Tryz.func153 rfl Tryz.ntmps153 rfl hm (fun w => ?_)
 refine au [25,3,2,4,5,0,1,2,4,5,0,1] ?_
 refine qe (fun ((x43, _) : (Int × Unit)) => ([(0, .slice a2 x1.length c3), (3, .int .i64 x43)], [], [], [SlN eN39 iN39 1 (.slice a2 x1.length c3) x1 s3], zS F x1 x43)) ?_ ?_
 refine au [2,4,3,24,6,3,0,1,15] ?_
 refine qw (fun (((x168, x169), _) : ((Int × Int) × Unit)) => ([(0, .slice a2 x1.length c3), (3, .int .i64 x168), (9, .slice a2 x1.length c3), (10, .int .i64 (x1.length : Int)), (11, .int .i64 x169)], [], [], [SlN eN39 iN39 1 (.slice a2 x1.length c3) x1 s3])) (fun k (s : ((Int × Int) × Unit)) => qN F x1 k s.1) ((0, 0), ()) F ?_
 intro k182
 rintro ⟨⟨x168, x169⟩, _⟩
 try dsimp only
 refine qJ (m' := qG F x1 (qN F x1 k182) x168 x169) rfl ?_
 refine av [2,4,24,4,0,1,2,11] ?_ ?_
 intro _
 refine au [12,1,2,15,2,4,27,8] ?_
 intro x189 e189 g192 b190 o191
 refine av [25,13,5,0,1,2,4,3,3,24,6,19,5,0,1,2,4,3,24,4,0,1,11] ?_ ?_
 intro _
 exact az [33,11]
 intro _
 refine au [12,24,5,1,4,19,3,0] ?_
 exact qp ((iadd .i64 x168 (x189.length : Int), iadd .i64 x169 1), ())
 intro _
 refine au [24,11,20,20,24,12] ?_
 exact qb (x168, ())
 rintro ⟨x43, _⟩
 try dsimp only
 refine au [2,4,3,27,1] ?_
 refine qz qd3 ?_
 rintro x44 e44 ⟨a45, c46⟩
 refine au [5,0,1] ?_
 refine qe (fun ((x102, (a100, c101)) : (List Int × (Option Addr × Nat))) => ([(6, .slice a100 x102.length c101)], [], [Ro (eI .i64) 3 1 (.slice a100 x102.length c101) x102], [], yT F x102)) ?_ ?_
 refine au [2,4,3,24,6,3,0,1,15] ?_
 refine qw (fun (((x121, x122), (a119, c120)) : ((List Int × Int) × (Option Addr × Nat))) => ([(6, .slice a119 x121.length c120), (25, .slice a2 x1.length c3), (26, .int .i64 (x1.length : Int)), (27, .int .i64 x122)], [], [Ro (eI .i64) 3 1 (.slice a119 x121.length c120) x121], [SlN eN39 iN39 1 (.slice a2 x1.length c3) x1 s3])) (fun k (s : ((List Int × Int) × (Option Addr × Nat))) => qM F x1 k s.1) ((x44, 0), (a45, c46)) F ?_
 intro k139
 rintro ⟨⟨x121, x122⟩, ⟨a119, c120⟩⟩
 try dsimp only
 refine qJ (m' := qF F x1 (qM F x1 k139) x121 x122) rfl ?_
 refine av [2,4,24,4,0,1,2,11] ?_ ?_
 intro _
 refine au [12,1,2,15,2,4,27,8] ?_
 intro x148 e148 g151 b149 o150
 refine au [25,13,5,0,1,4,3,3] ?_
 refine kx 0 (qP .i64) rfl UnF.u inferInstance rfl rfl rfl rfl rfl (.inr ⟨1, rfl⟩) rfl rfl ?_
 intro x152 e152 a153 c154
 refine au [5,0,24,5,1,4,19,3,0] ?_
 exact qp ((x152, iadd .i64 x122 1), (a153, c154))
 intro _
 refine au [24,11,20,20,24,12] ?_
 exact qb (x121, (a119, c120))
 rintro ⟨x102, ⟨a100, c101⟩⟩
 try dsimp only
 refine au [2,4,3,5,0,1,8] ?_
 exact qy (a100, c101)
theorem qd4 {F : Nat} {x1 : List Int} {a2 : Option Addr} {c3 : Nat} {r : List Int} (hm : zw F x1 = some r) :
    PureM Tryz.prog 154 [.slice a2 x1.length c3] [] [Ro (eI .i64) 3 1 (.slice a2 x1.length c3) x1] [] Unit (fun _ => .tuple #[]) (fun _ => []) (fun _ => [Ro (eI .i64) 3 1 (.slice a2 r.length c3) r]) := by
  unfold zw at hm
  split at hm
  · cases hm
    exact ql2 Tryz.slices_Sort_int Tryz.slices_Sort_int_none (by assumption)
  · simp at hm
theorem qhN {F : Nat} {x1 : Int} {x2 : Int} {x3 : Int} {r : Bool} (hm : qaU F x1 x2 x3 = some r) :
    Pure Tryz.prog 200 [.int .i64 x1, .int .i64 x2, .int .i64 x3] [] Unit (fun _ => .bool r) (fun _ => []) (fun _ => []) := by
 refine qk Tryz.func200 rfl Tryz.ntmps200 rfl hm (fun w => ?_)
 refine au [26,0,2,4,5,0,1,2,4,3,3,26,2,3] ?_
 refine qq 4 (decide (x2 ≤ x1)) [(14, .bool ((decide (x2 ≤ x1)) && (decide (x1 ≤ x3))))] (fun h4 => ?_) (fun h4 => ?_) ?_
 refine qa (os := _) rfl (qi (k := 10) rfl h4 ?_)
 refine au [3,3,26,14,23] ?_
 refine qc (d := 14) (v := .bool ((decide (x2 ≤ x1)) && (decide (x1 ≤ x3)))) rfl (by rw [h4]; simp only [Bool.true_and]) ?_
 exact az [0,16]
 refine qa (os := _) rfl (qh (k := 10) rfl h4 ?_)
 refine au [6,6,6,24,0] ?_
 refine qc (d := 14) (v := .bool ((decide (x2 ≤ x1)) && (decide (x1 ≤ x3)))) rfl (by rw [h4]; simp only [Bool.false_and]) ?_
 exact az [0,16]
 refine qa (os := _) rfl ?_
 exact az [5,0,1,8,17]
set_option maxHeartbeats 4000000 in
theorem qhM {F : Nat} {x1 : List (Int × Int)} {a2 : Option Addr} {c3 : Nat} {r : (List Int × Int)} (hm : qb6 F x1 = some r) :
    Pure Tryz.prog 179 [.slice a2 x1.length c3] [Sl eS189 2 (.slice a2 x1.length c3) x1] (Option Addr × Nat) (fun g => .tuple #[.slice g.1 r.1.length g.2, .int .i64 r.2]) (fun g => [Ro (eI .i64) 3 1 (.slice g.1 r.1.length g.2) r.1]) (fun _ => []) := by
 refine qk Tryz.func179 rfl Tryz.ntmps179 rfl hm (fun w => ?_)
 refine av [25,3,2,4,5,5,0,1,2,2,4,3,24,6,24,14,0,1,11] ?_ ?_
 intro _
 refine au [2,4,5,5,0,1,8,10,25,10] ?_
 exact qy (none, 0)
 intro _
 refine au [12,1,2,4,5,0,1] ?_
 refine qe (fun ((_, _) : (Unit × Unit)) => ([(0, .slice a2 x1.length c3)], [], [], [Sl eS189 2 (.slice a2 x1.length c3) x1], qaj F x1)) ?_ ?_
 refine au [2,4,3,24,6,3,0,1,15] ?_
 refine qw (fun (((x807, x808), _) : ((Int × Int) × Unit)) => ([(0, .slice a2 x1.length c3), (4, .int .i64 x807), (14, .slice a2 x1.length c3), (15, .int .i64 (x1.length : Int)), (16, .int .i64 x808)], [], [], [Sl eS189 2 (.slice a2 x1.length c3) x1])) (fun k (s : ((Int × Int) × Unit)) => kE F x1 k s.1) ((-2, 0), ()) F ?_
 intro k863
 rintro ⟨⟨x807, x808⟩, _⟩
 try dsimp only
 refine qJ (m' := qai F x1 (kE F x1 k863) x807 x808) rfl ?_
 refine av [2,4,24,4,0,1,2,11] ?_ ?_
 intro _
 refine au [12,1,2,15,2,4,29,14] ?_
 intro x891 e891 b892 o893
 refine au [27,14,24,7] ?_
 intro g894
 refine au [24,2,0,1,2,15] ?_
 refine qe (fun ((x910, _) : (Bool × Unit)) => ([(0, .slice a2 x1.length c3), (4, .int .i64 x807), (6, .pointer (some ⟨g894, 0, none⟩)), (14, .slice a2 x1.length c3), (15, .int .i64 (x1.length : Int)), (16, .int .i64 x808), (20, .bool x910)], [⟨g894, 189, [.int .i64 x891.1, .int .i64 x891.2]⟩], [], [Sl eS189 2 (.slice a2 x1.length c3) x1], vC F (kE F x1 k863) x807 x808 x891 x910)) ?_ ?_
 refine au [2,4,9,18,33,14] ?_
 intro x913 e913 _
 refine av [25,4,5,0,1,11] ?_ ?_
 intro _
 refine au [12] ?_
 exact qb ((!x913), ())
 intro _
 refine au [2,4,9,18,33,14] ?_
 intro x914 e914 _
 refine av [25,4,5,0,1,11] ?_ ?_
 intro _
 refine au [12] ?_
 exact qb ((!x914), ())
 intro _
 refine au [4,9,18,9,18,19,25,5,24,14,5,0] ?_
 exact qb ((decide (1048576 < (isub .i64 (iadd .i64 x891.1 x891.2) 1))), ())
 rintro ⟨x910, _⟩
 try dsimp only
 refine av [11] ?_ ?_
 intro _
 refine au [2,4,5,5,0,1,8,24,1,10,24,1,10,10,24,1,10,25,10] ?_
 exact qy (none, 0)
 intro _
 refine av [2,4,9,18,3,19,24,4,5,0,1,11] ?_ ?_
 intro _
 refine au [2,4,5,5,0,1,8,24,1,10,24,1,10,10,24,1,10,25,10] ?_
 exact qy (none, 0)
 intro _
 refine au [12,24,5,1,4,9,18,9,18,19,25,5,5,0,24,5,1,4,19,3,0] ?_
 exact qp ((isub .i64 (iadd .i64 x891.1 x891.2) 1, iadd .i64 x808 1), ())
 intro _
 exact az [24,11,20,20,24,12,25,15]
 rintro ⟨_, _⟩
 try dsimp only
 refine au [2,4,5,0,1] ?_
 refine qe (fun ((x462, (a460, c461)) : (List Int × (Option Addr × Nat))) => ([(7, .slice a460 x462.length c461)], [], [Ro (eI .i64) 3 1 (.slice a460 x462.length c461) x462], [], qc8 F x462)) ?_ ?_
 refine au [2,4,3,24,6,3,0,1,15,27,5] ?_
 refine qw (fun (((x560, x561), (a558, c559)) : ((List Int × Int) × (Option Addr × Nat))) => ([(7, .slice a558 x560.length c559), (49, .slice a2 x1.length c3), (50, .int .i64 (x1.length : Int)), (51, .int .i64 x561)], [], [Ro (eI .i64) 3 1 (.slice a558 x560.length c559) x560], [Sl eS189 2 (.slice a2 x1.length c3) x1])) (fun k (s : ((List Int × Int) × (Option Addr × Nat))) => zl F x1 k s.1) ((([] : List Int), 0), (none, 0)) F ?_
 intro k657
 rintro ⟨⟨x560, x561⟩, ⟨a558, c559⟩⟩
 try dsimp only
 refine qJ (m' := qag F x1 (zl F x1 k657) x560 x561) rfl ?_
 refine av [2,4,24,4,0,1,2,11] ?_ ?_
 intro _
 refine au [12,1] ?_
 refine qe (fun ((x706, (a704, c705)) : (List Int × (Option Addr × Nat))) => ([(7, .slice a704 x706.length c705), (49, .slice a2 x1.length c3), (50, .int .i64 (x1.length : Int)), (51, .int .i64 x561)], [], [Ro (eI .i64) 3 1 (.slice a704 x706.length c705) x706], [Sl eS189 2 (.slice a2 x1.length c3) x1], qak F (zl F x1 k657) x561 x706)) ?_ ?_
 refine au [15,2,4,29,14] ?_
 intro x707 e707 b708 o709
 refine au [27,14,24,7] ?_
 intro g710
 refine au [24,2,0,1,2,4,9,18,3,0,1,15] ?_
 refine qw (fun (((x725, x726), (a723, c724)) : ((List Int × Int) × (Option Addr × Nat))) => ([(7, .slice a723 x725.length c724), (9, .pointer (some ⟨g710, 0, none⟩)), (49, .slice a2 x1.length c3), (50, .int .i64 (x1.length : Int)), (51, .int .i64 x561), (56, .int .i64 x707.2), (57, .int .i64 x726)], [⟨g710, 189, [.int .i64 x707.1, .int .i64 x707.2]⟩], [Ro (eI .i64) 3 1 (.slice a723 x725.length c724) x725], [Sl eS189 2 (.slice a2 x1.length c3) x1])) (fun k (s : ((List Int × Int) × (Option Addr × Nat))) => yu F (zl F x1 k657) x561 x707 k s.1) ((x560, 0), (a558, c559)) F ?_
 intro k739
 rintro ⟨⟨x725, x726⟩, ⟨a723, c724⟩⟩
 try dsimp only
 refine qJ (m' := qah F (zl F x1 k657) x561 x707 (yu F (zl F x1 k657) x561 x707 k739) x725 x726) rfl ?_
 refine av [2,4,24,4,0,1,2,11] ?_ ?_
 intro _
 refine au [12,1,2,15,2,4,3,5,0,1,4,3,9,18,3,19] ?_
 refine qv (vs := [.int .i64 (iadd .i64 x707.1 x726)]) (ys := ([iadd .i64 x707.1 x726] : List Int)) (qP .i64) (by decide) rfl Tryz.underlying39 tf3 rfl rfl rfl rfl rfl (by decide) (fun a746 c747 => kx 1 (qP .i64) rfl Tryz.underlying39 tf3 rfl rfl rfl rfl rfl (.inl ⟨0, _, rfl⟩) rfl rfl (fun x748 e748 a749 c750 => ?_))
 refine au [5,0,24,5,1,4,19,3,0] ?_
 exact qp ((x748, iadd .i64 x726 1), (a749, c750))
 intro _
 refine au [24,11,20,20,24,12,24,5] ?_
 exact qb (x725, (a723, c724))
 rintro ⟨x706, ⟨a704, c705⟩⟩
 try dsimp only
 refine au [4,19,3,0] ?_
 exact qp ((x706, iadd .i64 x561 1), (a704, c705))
 intro _
 refine au [24,11,20,20,24,12] ?_
 exact qb (x560, (a558, c559))
 rintro ⟨x462, ⟨a460, c461⟩⟩
 try dsimp only
 refine au [2,4,3,5,5,0,1,8] ?_
 exact qy (a460, c461)
theorem qde {F : Nat} {x1 : List Int} {a2 : Option Addr} {c3 : Nat} {r : List Int} (hm : kd F x1 = some r) :
    PureM Tryz.prog 180 [.slice a2 x1.length c3] [] [Ro (eI .i64) 3 1 (.slice a2 x1.length c3) x1] [] (Option Addr × Nat) (fun g => .slice g.1 r.length g.2) (fun _ => []) (fun g => [Ro (eI .i64) 3 1 (.slice g.1 r.length g.2) r]) := by
  unfold kd at hm
  split at hm
  · cases hm
    exact qhT Tryz.slices_Compact_int Tryz.slices_Compact_int_empty (by assumption)
  · simp at hm
theorem qdB {F : Nat} {x1 : List Int} {a2 : Option Addr} {c3 : Nat} {r : List Int} (hm : yI F x1 = some r) :
    Pure Tryz.prog 181 [.slice a2 x1.length c3] [Sl (eI .i64) 1 (.slice a2 x1.length c3) x1] (Option Addr × Nat) (fun g => .slice g.1 r.length g.2) (fun g => [Ro (eI .i64) 3 1 (.slice g.1 r.length g.2) r]) (fun _ => []) := by
 refine qk Tryz.func181 rfl Tryz.ntmps181 rfl hm (fun w => ?_)
 refine av [25,3,2,4,5,0,1,2,2,4,3,31,4,0,1,31,5] ?_ ?_
 intro h11
 refine qk8 0 (qP .i64) (by decide) rfl h11 (fun h12 => ?_)
 subst h12
 refine qJ (m' := some ([] : List Int)) rfl ?_
 refine au [2,4,5,0,1,8,10,25,10] ?_
 exact qy (none, 0)
 intro _
 refine au [12,1,2,4] ?_
 refine qv (vs := []) (ys := ([] : List Int)) (qP .i64) (by decide) rfl UnF.u inferInstance rfl rfl rfl rfl rfl (by decide) ?_
 intro a6 c7
 refine au [3,30,6] ?_
 intro x8 e8 a9 c10
 refine au [5,0,1,8] ?_
 exact qy (a9, c10)
set_option maxHeartbeats 4000000 in
theorem qiW {F : Nat} {x1 : List (Int × Int)} {a2 : Option Addr} {c3 : Nat} {x4 : List Int} {a5 : Option Addr} {c6 : Nat} {r : (List Int × Int)} (hm : qcs F x1 x4 = some r) :
    Pure Tryz.prog 151 [.slice a2 x1.length c3, .slice a5 x4.length c6] [Sl eS189 2 (.slice a2 x1.length c3) x1, Sl (eI .i64) 1 (.slice a5 x4.length c6) x4] (Option Addr × Nat) (fun g => .tuple #[.slice g.1 r.1.length g.2, .int .i64 r.2]) (fun g => [Ro (eI .i64) 3 1 (.slice g.1 r.1.length g.2) r.1]) (fun _ => []) := by
 refine qk Tryz.func151 rfl Tryz.ntmps151 rfl hm (fun w => ?_)
 refine au [24,10,2,4,5,5,0,1,2,4,3] ?_
 refine qf qhM ?_
 rintro x7 e7 ⟨a8, c9⟩
 refine au [3,13,13,5,5,0,1] ?_
 refine qe (fun ((x12, _) : (Int × Unit)) => ([(1, .slice a5 x4.length c6), (6, .slice a8 x7.1.length c9), (7, .int .i64 x12)], [], [Ro (eI .i64) 3 1 (.slice a8 x7.1.length c9) x7.1], [Sl (eI .i64) 1 (.slice a5 x4.length c6) x4], jx F x4 x7 x12)) ?_ ?_
 refine av [2,4,3,24,13,0,1,11] ?_ ?_
 intro _
 refine au [4,3,28,4] ?_
 intro x38 e38 _
 refine au [5,0] ?_
 exact qb (x38, ())
 intro _
 refine au [12] ?_
 exact qb (x7.2, ())
 rintro ⟨x12, _⟩
 try dsimp only
 refine av [2,2,4,3,25,1,0,1,11] ?_ ?_
 intro _
 refine au [2,4,3,5,5,0,1,8,10,25,10] ?_
 exact qy (none, 0)
 intro _
 refine au [12,1,2,4,3,3,27,3] ?_
 refine qv (vs := [.slice a8 x7.1.length c9, .slice a5 x4.length c6]) (ys := ([(x7.1, (a8, c9)), (x4, (a5, c6))] : List (List Int × (Option Addr × Nat)))) km (by decide) rfl Tryz.underlying22 tf39 rfl rfl rfl rfl rfl (by decide) (fun a14 c15 => qcE (inn := iN39) ([x7.1, x4] : List (List Int)) ([(a8, c9), (a5, c6)] : List (Option Addr × Nat)) 0 rfl rfl (qm 0 rfl (qm 1 rfl ke)) ?_)
 refine au [33,15] ?_
 rintro x16 e16 ⟨a17, c18⟩
 refine au [5,0,1,2,4,3,34,0] ?_
 intro x19 e19 _
 refine au [26,1] ?_
 intro h20
 replace h20 := of_decide_eq_true h20
 refine qc (d := 8) (v := .slice a17 x19.length c18) rfl (by rw [h20] <;> rfl) (qc (d := 24) (v := .slice a17 x19.length c18) rfl (by rw [h20] <;> rfl) (qc (d := 25) (v := .slice a17 x19.length c18) rfl (by rw [h20] <;> rfl) ?_))
 refine au [0,1,2,15,2,4,3] ?_
 refine qf qdB ?_
 rintro x29 e29 ⟨a30, c31⟩
 refine qz qde ?_
 rintro x32 e32 ⟨a33, c34⟩
 refine av [24,6,3,24,6,24,4,5,0,1,11] ?_ ?_
 intro _
 refine au [2,4,5,5,0,1,8,24,1,10,25,10] ?_
 exact qy (none, 0)
 intro _
 refine av [2,4,3,24,6,24,14,5,0,1,11] ?_ ?_
 intro _
 refine au [2,4,5,5,0,1,8,24,1,10,25,10] ?_
 exact qy (none, 0)
 intro _
 refine au [12,24,5,1,2,4,3,5,5,0,1,8] ?_
 exact qy (a17, c18)
set_option maxHeartbeats 4000000 in
theorem qeK {F : Nat} {x1 : Int} {x2 : List Int} {a3 : Option Addr} {c4 : Nat} {x5 : Int} {x6 : Int} {r : (Int × Int × Bool)} (hm : zo F x1 x2 x5 x6 = some r) :
    Pure Tryz.prog 201 [.agg #[.int .i64 x1, .slice a3 x2.length c4], .int .i64 x5, .int .u64 x6] [Sl (eI .u8) 1 (.slice a3 x2.length c4) x2] Unit (fun _ => .tuple #[.int .u64 r.1, .int .i64 r.2.1, .bool r.2.2]) (fun _ => []) (fun _ => []) := by
 refine qk Tryz.func201 rfl Tryz.ntmps201 rfl hm (fun w => ?_)
 refine au [26,0,2,4,22] ?_
 intro g7
 refine au [5,5,5,0,1,2,4,3,32,8] ?_
 intro x8 e8 _
 refine au [3,13,13,5,5,0,1] ?_
 refine qe (fun ((_, _) : (Unit × Unit)) => ([(1, .int .i64 x5), (3, .pointer (some ⟨g7, 0, none⟩)), (9, .int .i64 x8.1), (10, .int .u64 x8.2)], [⟨g7, 29, [.int .i64 x1, .slice a3 x2.length c4]⟩], [], [Sl (eI .u8) 1 (.slice a3 x2.length c4) x2], zv F x1 x2 x5 x8)) ?_ ?_
 refine av [2,4,3,24,14,0,1,11] ?_ ?_
 intro _
 refine au [2,4,24,8,3,3,25,5,28,14] ?_
 intro x15 e15 _
 refine av [3,13,13,5,5,0,1,2,2,4,3,25,4,0,1,11] ?_ ?_
 intro _
 exact az [2,4,5,5,5,0,1,8,10,10,17]
 intro _
 refine av [12,1,2,4,3,3,24,4,0,1,11] ?_ ?_
 intro _
 exact az [2,4,3,3,3,19,25,5,5,5,5,0,1,8,10,17]
 intro _
 exact az [12,25,15]
 intro _
 exact az [12,25,15]
 rintro ⟨_, _⟩
 try dsimp only
 refine au [2,4,24,8,3,3,28,14] ?_
 intro x14 e14 _
 exact az [3,13,13,5,5,0,1,2,4,3,3,25,5,3,3,19,3,5,5,5,0,1,8,17]
theorem qgE {F : Nat} {x1 : Int} {x2 : Int} {x3 : Bool} {r : (Int × Int × Int)} (hm : qbt F x1 x2 x3 = some r) :
    Pure Tryz.prog 202 [.int .u64 x1, .int .i64 x2, .bool x3] [] Unit (fun _ => .tuple #[.int .u64 r.1, .int .i64 r.2.1, .int .i64 r.2.2]) (fun _ => []) (fun _ => []) := by
 refine qk Tryz.func202 rfl Tryz.ntmps202 rfl hm (fun w => ?_)
 refine av [26,0,2,4,5,5,5,0,1,2,15,2,4,3,25,4,5,0,1,11] ?_ ?_
 intro _
 exact az [2,4,5,5,5,0,1,8,24,1,10,17]
 intro _
 refine av [2,4,3,24,14,5,0,1,11] ?_ ?_
 intro _
 exact az [2,4,5,5,5,0,1,8,24,1,10,17]
 intro _
 exact az [12,24,5,1,2,4,3,3,5,5,5,0,1,8,17]
set_option maxHeartbeats 4000000 in
theorem qe9 {F : Nat} {x1 : Int} {x2 : List Int} {a3 : Option Addr} {c4 : Nat} {x5 : Int} {x6 : Int} {r : (Int × Int × Int)} (hm : j3 F x1 x2 x5 x6 = some r) :
    Pure Tryz.prog 182 [.agg #[.int .i64 x1, .slice a3 x2.length c4], .int .i64 x5, .int .i64 x6] [Sl (eI .u8) 1 (.slice a3 x2.length c4) x2] Unit (fun _ => .tuple #[.int .u64 r.1, .int .i64 r.2.1, .int .i64 r.2.2]) (fun _ => []) (fun _ => []) := by
 refine qk Tryz.func182 rfl Tryz.ntmps182 rfl hm (fun w => ?_)
 refine au [26,0,2,4,22] ?_
 intro g7
 refine au [5,5,5,0,1,2,4,24,8,3,33,6] ?_
 intro x8 e8 _
 refine av [3,13,13,13,5,5,5,0,1,2,2,4,3,25,4,0,1,11] ?_ ?_
 intro _
 exact az [2,4,5,5,5,0,1,8,10,17]
 intro _
 refine av [12,1,2,2,4,3,3,25,12,28,13,26,2,0,1,11] ?_ ?_
 intro _
 exact az [2,4,5,5,5,0,1,8,10,17]
 intro _
 refine au [12,1,2,4,3,25,12,3,28,13,26,1] ?_
 intro h11
 refine qeu rfl rfl rfl rfl h11 ?_
 refine au [5,26,9] ?_
 intro x12 e12
 refine qc (d := 12) (v := .int .u64 x12) rfl (by rw [e12] <;> rfl) ?_
 refine au [0,1,2,26,12] ?_
 intro h17
 refine qH mixed [] [⟨g7, 29, [.int .i64 x1, .slice a3 x2.length c4]⟩] [Sl (eI .u8) 1 (.slice a3 x2.length c4) x2] (.cons 0 rfl .nil) (qW 0 rfl qB) 15 rfl (kN 0 (.agg #[.int .i64 x1, .slice a3 x2.length c4]) rfl rfl rfl (zI (i := 0) rfl tf29 rfl rfl (by simp) rfl) ?_)
 refine au [7,1,7,2,7,3] ?_
 refine qo 4 (.int .u64 (ishl .u64 x12 x6)) rfl rfl rfl (qe4 rfl rfl h17) ?_
 refine au [7,5,7,6,24,3,7] ?_
 refine qf qeK ?_
 intro x20 e20 _
 refine au [0,29,8,7,8,7,9,7,10,7,11,7,12,7,13,7,14,24,9] ?_
 refine qQ ?_ (by intro c h; cases h)
 refine au [1,2,4,3,3,19,25,5,3,3] ?_
 refine qf qgE ?_
 intro x21 e21 _
 exact az [13,13,13,5,5,5,0,1,8,17]
set_option maxHeartbeats 4000000 in
theorem qeJ {F : Nat} {g1 : Nat} {x2 : Int} {x3 : Bool} {x4 : Int} {r : (Bool × Int × Bool)} (hm : ko F x2 x3 x4 = some r) :
    PureM Tryz.prog 183 [.pointer (some ⟨g1, 0, none⟩), .int .u64 x4] [⟨g1, 248, [.int .i64 x2, .bool x3]⟩] [] [] Unit (fun _ => .bool r.1) (fun _ => [⟨g1, 248, [.int .i64 r.2.1, .bool r.2.2]⟩]) (fun _ => []) := by
 refine zi Tryz.func183 rfl Tryz.ntmps183 rfl hm (fun w => ?_)
 refine av [24,10,2,4,5,0,1,2,2,4,3,24,14,0,1,11] ?_ ?_
 intro _
 exact az [2,4,5,0,1,8,10,29,15]
 intro _
 refine au [12,1] ?_
 refine qe (fun ((x8, _) : (Int × Unit)) => ([(0, .pointer (some ⟨g1, 0, none⟩))], [⟨g1, 248, [.int .i64 x8, .bool x3]⟩], [], [], kU F x8)) ?_ ?_
 refine av [2,4,3,25,0,9,18,0,1,11] ?_ ?_
 intro _
 refine au [4,3,25,0,9,18,3,25,12,19,19,25,0,9,24,2,0] ?_
 exact qb (iadd .i64 x2 (iadd .i64 (iconv .i64 x4) 1), ())
 intro _
 refine qH mixed [9] [] [(BlkD.is ⟨g1, 248, [.int .i64 x2, .bool x3]⟩)] .nil (qgp 0 rfl qB) 10 rfl ?_
 refine au [7,0,7,1,21,2] ?_
 refine zk 3 (.int .i64 x2) [[9]] rfl rfl rfl (vJ (j := 0) rfl tf3 rfl rfl (fun _ => rfl) rfl) ?_
 refine au [7,4,24,3,5,33,10] ?_
 intro x10 e10 _
 refine au [0,29,11,7,6,7,7,21,8,24,3,9,24,2,0] ?_
 refine qbH 9 rfl (by kernel_rfl) .nil ?_
 refine au [24,9] ?_
 exact qQ (qb (iadd .i64 x2 x10, ())) (by intro c h; cases h)
 rintro ⟨x8, _⟩
 try dsimp only
 refine au [2,4,3,25,0,9,24,2,0,1,2,4,3,25,0,9,18,31,13] ?_
 intro x9 e9 _
 exact az [5,0,1,8,29,15]
set_option maxHeartbeats 4000000 in
theorem qj1 {F : Nat} {x1 : Int} {x2 : List Int} {a3 : Option Addr} {c4 : Nat} {x5 : Int} {x6 : Int} {x7 : Int} {x8 : Int} {r : (List Int × Int × Int)} (hm : qc2 F x1 x2 x5 x6 x7 x8 = some r) :
    Pure Tryz.prog 152 [.agg #[.int .i64 x1, .slice a3 x2.length c4], .int .i64 x5, .int .i64 x6, .int .i64 x7, .int .i64 x8] [Sl (eI .u8) 1 (.slice a3 x2.length c4) x2] (Option Addr × Nat) (fun g => .tuple #[.slice g.1 r.1.length g.2, .int .i64 r.2.1, .int .i64 r.2.2]) (fun g => [Ro (eI .i64) 3 1 (.slice g.1 r.1.length g.2) r.1]) (fun _ => []) := by
 refine qk Tryz.func152 rfl Tryz.ntmps152 rfl hm (fun w => ?_)
 refine au [30,0,2,4,22] ?_
 intro g9
 refine au [5,5,5,0,1,2,4,3] ?_
 refine ql (cells := [.int .i64 x6, .bool false]) rfl st248 rfl (by kernel_rfl) rfl ?_
 refine au [22] ?_
 intro g10
 refine au [5,0,1] ?_
 refine qe (fun (((x105, x108), (a106, c107)) : ((Int × List Int) × (Option Addr × Nat))) => ([(1, .int .i64 x105), (10, .slice a106 x108.length c107)], [], [Ro (eI .i64) 3 1 (.slice a106 x108.length c107) x108], [], qcK F x105 x108)) ?_ ?_
 refine au [2,4,3,3,0,1,15,27,5] ?_
 refine qw (fun (((x138, x141, x142, x143, x144), (a139, c140)) : ((Int × List Int × Int × Int × Bool) × (Option Addr × Nat))) => ([(1, .int .i64 x138), (3, .int .i64 x7), (5, .pointer (some ⟨g9, 0, none⟩)), (10, .slice a139 x141.length c140), (13, .pointer (some ⟨g10, 0, none⟩)), (18, .int .i64 x8), (19, .int .i64 x142)], [⟨g10, 248, [.int .i64 x143, .bool x144]⟩, ⟨g9, 29, [.int .i64 x1, .slice a3 x2.length c4]⟩], [Ro (eI .i64) 3 1 (.slice a139 x141.length c140) x141], [Sl (eI .u8) 1 (.slice a3 x2.length c4) x2])) (fun k (s : ((Int × List Int × Int × Int × Bool) × (Option Addr × Nat))) => vX F x1 x2 x7 x8 k s.1) ((x5, ([] : List Int), 0, x6, false), (none, 0)) F ?_
 intro k173
 rintro ⟨⟨x138, x141, x142, x143, x144⟩, ⟨a139, c140⟩⟩
 try dsimp only
 refine qJ (m' := qbs F x1 x2 x7 x8 (vX F x1 x2 x7 x8 k173) x138 x141 x142 x143 x144) rfl ?_
 refine av [2,4,24,4,0,1,2,11] ?_ ?_
 intro _
 refine au [12,1,2,15,2,4,5,0,1,2,2,4,25,7,3,3] ?_
 refine qf qe9 ?_
 intro x190 e190 _
 refine av [3,13,13,13,5,5,5,0,1,2,4,3,25,1,0,1,11] ?_ ?_
 intro _
 refine au [2,4,3,5,5,5,0,1,8,10,24,1,10,10,24,1,10,25,10] ?_
 exact qy (none, 0)
 intro _
 refine au [12,1,2,2,4,3,3] ?_
 refine qz qeJ ?_
 intro x193 e193 _
 refine av [25,4,0,1,11] ?_ ?_
 intro _
 refine au [2,4,5,5,5,0,1,8,10,24,1,10,10,24,1,10,25,10] ?_
 exact qy (none, 0)
 intro _
 refine au [12,1,4,3,3,25,0,9,18] ?_
 refine qv (vs := [.int .i64 x193.2.1]) (ys := ([x193.2.1] : List Int)) (qP .i64) (by decide) rfl Tryz.underlying39 tf3 rfl rfl rfl rfl rfl (by decide) (fun a194 c195 => kx 1 (qP .i64) rfl Tryz.underlying39 tf3 rfl rfl rfl rfl rfl (.inl ⟨0, _, rfl⟩) rfl rfl (fun x196 e196 a197 c198 => ?_))
 refine au [5,0,24,5,1,4,19,3,0] ?_
 exact qp ((x190.2.1, x196, iadd .i64 x142 1, x193.2.1, x193.2.2), (a197, c198))
 intro _
 refine au [24,11,20,20,24,12] ?_
 exact qb ((x138, x141), (a139, c140))
 rintro ⟨⟨x105, x108⟩, ⟨a106, c107⟩⟩
 try dsimp only
 refine au [2,4,3,3,5,5,5,0,1,8] ?_
 exact qy (a106, c107)
set_option maxHeartbeats 4000000 in
theorem qeO (F : Nat) (g1 : Nat) (x2 : Int) (x3 : List Int) (a4 : Option Addr) (c5 : Nat) (x6 : Int) (x7 : Int) (x8 : List Int) (a9 : Option Addr) (c10 : Nat) (x11 : Int) (x12 : Int) (x13 : Int) (r : ((List Int × Int × Int) ⊕ (Int × Int))) (hm : yU F x2 x3 x6 x7 x8 x11 x12 x13 = some r) :
    PureL Tryz.prog 113 [.pointer (some ⟨g1, 0, none⟩), .int .i64 x7, .slice a9 x8.length c10, .agg #[.int .i64 x11, .int .i64 x12, .int .i64 x13]] [⟨g1, 142, [.int .i64 x2, .slice a4 x3.length c5, .int .i64 x6]⟩] [] [Sl (eI .u8) 1 (.slice a4 x3.length c5) x3, Sl (eI .i64) 1 (.slice a9 x8.length c10) x8] lostCh (Option Addr × Nat) (fun (r : (List Int × Int × Int)) (g : (Option Addr × Nat)) => .slice g.1 r.1.length g.2) (fun (r : (List Int × Int × Int)) (_ : (Option Addr × Nat)) => [⟨g1, 142, [.int .i64 r.2.1, .slice a4 x3.length c5, .int .i64 r.2.2]⟩]) (fun (r : (List Int × Int × Int)) (g : (Option Addr × Nat)) => [Ro (eI .i64) 3 1 (.slice g.1 r.1.length g.2) r.1]) (fun (z : (Int × Int)) => [⟨g1, 142, [.int .i64 z.1, .slice a4 x3.length c5, .int .i64 z.2]⟩]) r := by
 refine qeh Tryz.func113 rfl Tryz.ntmps113 rfl hm (fun w => ?_)
 refine au [26,15,2,4,22] ?_
 intro g14
 refine au [5,0,1,2,4,3] ?_
 refine kv ent147 rfl rfl rfl (fun x15 e15 => kL F g1 x2 x3 a4 c5 x6 300 x15 e15) (.cons 1 rfl .nil) .nil (.consF 0 rfl .nil) (fun x16 _ => ?_) (fun x15 e15 => ?_)
 exact az [25,8,26,8]
 intro _
 refine av [5,0,1,2,2,4,3,24,13,0,1,11] ?_ ?_
 intro _
 refine au [2,4,5,0,1,8,10,25,10] ?_
 exact qbR (none, 0) (.inl rfl) (res1 rfl rfl) rfl (.cons 0 rfl .nil) (.cons 0 rfl .nil)
 intro _
 refine au [12,1,2,4,5,0,1] ?_
 refine qe (fun (((x31, x32, x33), (a29, c30)) : ((List Int × Int × Int) × (Option Addr × Nat))) => ([(0, .pointer (some ⟨g1, 0, none⟩)), (1, .int .i64 x7), (7, .pointer (some ⟨g14, 0, none⟩)), (9, .int .i64 x15.1), (10, .slice a29 x31.length c30)], [⟨g1, 142, [.int .i64 x32, .slice a4 x3.length c5, .int .i64 x33]⟩, ⟨g14, 26, [.int .i64 x11, .int .i64 x12, .int .i64 x13]⟩], [Ro (eI .i64) 3 1 (.slice a29 x31.length c30) x31], [Sl (eI .u8) 1 (.slice a4 x3.length c5) x3], kV F x3 x7 x12 x13 x15 x31 x32 x33)) ?_ ?_
 refine av [2,4,9,25,6,24,14,0,1,11] ?_ ?_
 intro _
 refine au [2,4,5,0,1,2,4,3,3,3,24,6] ?_
 refine kv ent149 rfl rfl rfl (fun x72 e72 => qd6 F g1 x15.2.1 x3 a4 c5 x15.2.2 (x8.length : Int) x72 e72) (.cons 0 rfl .nil) .nil (.consF 0 rfl .nil) (fun x73 _ => ?_) (fun x72 e72 => ?_)
 exact az [25,8,25,8,26,8]
 rintro ⟨a74, c75⟩
 refine qf qiU ?_
 rintro x76 e76 ⟨a77, c78⟩
 refine au [3,13,13,5,5,0,1,4,3,24,13,3] ?_
 refine qq 5 ((x76.2 : Int) == 0) [(0, .pointer (some ⟨g1, 0, none⟩)), (1, .int .i64 x7), (7, .pointer (some ⟨g14, 0, none⟩)), (9, .int .i64 x15.1), (10, .slice a77 x76.1.length c78), (41, .bool (((x76.2 : Int) == 0) && (decide ((x76.1.length : Int) ≤ x15.1))))] (fun h79 => ?_) (fun h79 => ?_) ?_
 refine qa (os := _) rfl (qi (k := 36) rfl h79 ?_)
 refine au [3,24,6,3,26,14,23] ?_
 refine qc (d := 41) (v := .bool (((x76.2 : Int) == 0) && (decide ((x76.1.length : Int) ≤ x15.1)))) rfl (by rw [h79]; simp only [Bool.true_and]) ?_
 exact az [0,16]
 refine qa (os := _) rfl (qh (k := 36) rfl h79 ?_)
 refine au [6,6,6,6,24,0] ?_
 refine qc (d := 41) (v := .bool (((x76.2 : Int) == 0) && (decide ((x76.1.length : Int) ≤ x15.1)))) rfl (by rw [h79]; simp only [Bool.false_and]) ?_
 exact az [0,16]
 refine qa (os := _) rfl (kv ent114 rfl rfl rfl (fun x80 e80 => jd F (((x76.2 : Int) == 0) && (decide ((x76.1.length : Int) ≤ x15.1))) x80 e80) .nil .nil .nil (fun x81 _ => ?_) (fun x80 e80 => ?_))
 exact az [25,8,26,8]
 intro _
 refine au [0] ?_
 exact qb ((x76.1, x72.2.1, x72.2.2), (a77, c78))
 intro _
 refine au [12,25,10] ?_
 exact qb ((([] : List Int), x15.2.1, x15.2.2), (none, 0))
 rintro ⟨⟨x31, x32, x33⟩, ⟨a29, c30⟩⟩
 try dsimp only
 refine av [2,4,3,3,24,6,25,5,5,0,1,2,2,4,3,24,13,0,1,11] ?_ ?_
 intro _
 refine au [2,4,3,5,0,1,8,10] ?_
 exact qbR (a29, c30) (.inl rfl) (res1 rfl rfl) rfl (.cons 0 rfl .nil) (.cons 0 rfl .nil)
 intro _
 refine au [12,1,2,4,5,0,1] ?_
 refine qe (fun (((x42, x43, x44), (a40, c41)) : ((List (Int × Int) × Int × Int) × (Option Addr × Nat))) => ([(0, .pointer (some ⟨g1, 0, none⟩)), (1, .int .i64 x7), (7, .pointer (some ⟨g14, 0, none⟩)), (10, .slice a29 x31.length c30), (12, .int .i64 (isub .i64 x15.1 (x31.length : Int))), (13, .slice a40 x42.length c41)], [⟨g1, 142, [.int .i64 x43, .slice a4 x3.length c5, .int .i64 x44]⟩, ⟨g14, 26, [.int .i64 x11, .int .i64 x12, .int .i64 x13]⟩], [Ro (eI .i64) 3 1 (.slice a29 x31.length c30) x31, Ro eS189 189 2 (.slice a40 x42.length c41) x42], [Sl (eI .u8) 1 (.slice a4 x3.length c5) x3], kW F x3 x7 x13 x15 x31 x42 x43 x44)) ?_ ?_
 refine av [2,4,9,25,6,24,14,0,1,11] ?_ ?_
 intro _
 refine au [4,3,3,9,25,6,3] ?_
 refine kv ent150 rfl rfl rfl (fun x66 e66 => qeQ F g1 x32 x3 a4 c5 x33 x7 x12 (isub .i64 x15.1 (x31.length : Int)) x66 e66) (.cons 0 rfl .nil) .nil (.consF 0 rfl .nil) (fun x67 _ => ?_) (fun x66 e66 => ?_)
 exact az [25,8,26,8]
 rintro ⟨a68, c69⟩
 refine au [5,0] ?_
 exact qb ((x66.1, x66.2.1, x66.2.2), (a68, c69))
 intro _
 refine au [12] ?_
 exact qc0 (Int × Int) eS189 189 2 (qb ((([] : List (Int × Int)), x32, x33), (none, 0)))
 rintro ⟨⟨x42, x43, x44⟩, ⟨a40, c41⟩⟩
 try dsimp only
 refine au [2,4,3,27,1] ?_
 refine qf qiW ?_
 rintro x45 e45 ⟨a46, c47⟩
 refine au [3,13,13,5,5,0,1,2,4,3,24,13,3] ?_
 refine qq 5 ((x45.2 : Int) == 0) [(0, .pointer (some ⟨g1, 0, none⟩)), (1, .int .i64 x7), (7, .pointer (some ⟨g14, 0, none⟩)), (10, .slice a29 x31.length c30), (12, .int .i64 (isub .i64 x15.1 (x31.length : Int))), (14, .slice a46 x45.1.length c47), (71, .bool (((x45.2 : Int) == 0) && (decide ((x45.1.length : Int) ≤ (isub .i64 x15.1 (x31.length : Int))))))] (fun h48 => ?_) (fun h48 => ?_) ?_
 refine qa (os := _) rfl (qi (k := 66) rfl h48 ?_)
 refine au [3,24,6,3,26,14,23] ?_
 refine qc (d := 71) (v := .bool (((x45.2 : Int) == 0) && (decide ((x45.1.length : Int) ≤ (isub .i64 x15.1 (x31.length : Int)))))) rfl (by rw [h48]; simp only [Bool.true_and]) ?_
 exact az [0,16]
 refine qa (os := _) rfl (qh (k := 66) rfl h48 ?_)
 refine au [6,6,6,6,24,0] ?_
 refine qc (d := 71) (v := .bool (((x45.2 : Int) == 0) && (decide ((x45.1.length : Int) ≤ (isub .i64 x15.1 (x31.length : Int)))))) rfl (by rw [h48]; simp only [Bool.false_and]) ?_
 exact az [0,16]
 refine qa (os := _) rfl (kv ent114 rfl rfl rfl (fun x49 e49 => jd F (((x45.2 : Int) == 0) && (decide ((x45.1.length : Int) ≤ (isub .i64 x15.1 (x31.length : Int))))) x49 e49) .nil .nil .nil (fun x50 _ => ?_) (fun x49 e49 => ?_))
 exact az [25,8,26,8]
 intro _
 refine au [0,1,2] ?_
 refine qH mixed [] [⟨g1, 142, [.int .i64 x43, .slice a4 x3.length c5, .int .i64 x44]⟩, ⟨g14, 26, [.int .i64 x11, .int .i64 x12, .int .i64 x13]⟩] [Sl (eI .u8) 1 (.slice a4 x3.length c5) x3] (.cons 0 rfl (.cons 0 rfl .nil)) (qW 0 rfl qB) 23 rfl ?_
 refine au [7,0,7,1,21,2] ?_
 refine kN 3 (.agg #[.int .i64 x43, .slice a4 x3.length c5]) rfl rfl rfl (zI (i := 0) rfl tf29 rfl rfl (by simp) rfl) ?_
 refine au [7,4,7,5,21,6,25,2,7,7,8,21,9,26,13,10,7,11,7,12,27,7,13,7,14,24,3,15] ?_
 refine qf qj1 ?_
 rintro x54 e54 ⟨a55, c56⟩
 refine au [0,30,1,7,16,7,17,7,18,7,19,7,20,7,21,7,22,24,9] ?_
 refine qQ ?_ (by intro c h; cases h)
 refine au [1,2,4,3,24,13] ?_
 refine kv ent114 rfl rfl rfl (fun x57 e57 => jd F ((x54.2.2 : Int) == 0) x57 e57) .nil .nil .nil (fun x58 _ => ?_) (fun x57 e57 => ?_)
 exact az [25,8,26,8]
 intro _
 refine au [0,1,2,4,3,3,25,0,9,24,2,0,1,2,4,3,3,3] ?_
 refine qdS 3 rfl ?_
 refine au [29,0,27,3] ?_
 refine qv (vs := [.slice a29 x31.length c30, .slice a46 x45.1.length c47, .slice a55 x54.1.length c56]) (ys := ([(x31, (a29, c30)), (x45.1, (a46, c47)), (x54.1, (a55, c56))] : List (List Int × (Option Addr × Nat)))) km (by decide) rfl Tryz.underlying22 tf39 rfl rfl rfl rfl rfl (by decide) (fun a59 c60 => qcE (inn := iN39) ([x31, x45.1, x54.1] : List (List Int)) ([(a29, c30), (a46, c47), (a55, c56)] : List (Option Addr × Nat)) 0 rfl rfl (qm 2 rfl (qm 1 rfl (qm 0 rfl ke))) ?_)
 refine au [33,15] ?_
 rintro x61 e61 ⟨a62, c63⟩
 refine au [5,0,1,2,4,3,34,0] ?_
 intro x64 e64 _
 refine au [26,1] ?_
 intro h65
 replace h65 := of_decide_eq_true h65
 refine qc (d := 10) (v := .slice a62 x64.length c63) rfl (by rw [h65] <;> rfl) (qc (d := 104) (v := .slice a62 x64.length c63) rfl (by rw [h65] <;> rfl) (qc (d := 105) (v := .slice a62 x64.length c63) rfl (by rw [h65] <;> rfl) ?_))
 refine au [0,1,2,4,3,5,0,1,8] ?_
 exact qbR (a62, c63) (.inl rfl) (res1 rfl rfl) rfl (.cons 0 rfl .nil) (.cons 0 rfl .nil)
set_option maxHeartbeats 4000000 in
theorem qeP {F : Nat} {g1 : Nat} {x2 : Int} {x3 : List Int} {a4 : Option Addr} {c5 : Nat} {x6 : Int} {x7 : Int} {x8 : List Int} {a9 : Option Addr} {c10 : Nat} {x11 : Int} {x12 : Int} {x13 : Int} {r : (List Int × Bool × Int × Int)} (hm : yV F x2 x3 x6 x7 x8 x11 x12 x13 = some r) :
    PureM Tryz.prog 85 [.pointer (some ⟨g1, 0, none⟩), .int .i64 x7, .slice a9 x8.length c10, .agg #[.int .i64 x11, .int .i64 x12, .int .i64 x13]] [⟨g1, 142, [.int .i64 x2, .slice a4 x3.length c5, .int .i64 x6]⟩] [] [Sl (eI .u8) 1 (.slice a4 x3.length c5) x3, Sl (eI .i64) 1 (.slice a9 x8.length c10) x8] (Option Addr × Nat) (fun g => .tuple #[.slice g.1 r.1.length g.2, .bool r.2.1]) (fun _ => [⟨g1, 142, [.int .i64 r.2.2.1, .slice a4 x3.length c5, .int .i64 r.2.2.2]⟩]) (fun g => [Ro (eI .i64) 3 1 (.slice g.1 r.1.length g.2) r.1]) := by
 refine qpI Tryz.func85 rfl Tryz.ntmps85 rfl hm (fun w => ?_)
 refine au [26,15,2,4,22] ?_
 intro g14
 refine au [24,7] ?_
 intro g15
 refine au [24,7] ?_
 intro g16
 refine au [0,1,2,4,27,9] ?_
 refine qoo rfl rfl ?_
 refine au [0,1,2,4,3,25,0,9,27,11,5,0,1,2,4,3,3,3,25,14] ?_
 refine kv ent113 rfl rfl rfl (fun x17 e17 => qeO F g1 x2 x3 a4 c5 x6 x7 x8 a9 c10 x11 x12 x13 x17 e17) (.cons 3 rfl .nil) .nil (.consF 0 rfl (.consF 1 rfl .nil)) (fun x18 _ => ?_) (fun x17 e17 => ?_)
 refine au [25,8] ?_
 refine qcZ ent112 rfl (.cons 2 rfl (.cons 1 rfl .nil)) (qfp _ _ _ _) ?_
 refine au [25,10] ?_
 exact yP (none, 0) (resL (rs := [.cell 8 39, .cell 9 4]) rfl (.cell (i := 0) rfl tf39 rfl rfl (fun _ => rfl) rfl (.cell (i := 1) rfl tf4 rfl rfl (fun _ => rfl) rfl ResOk.nil)) rfl) (hB := fun h => by subst h; exact (.cons 2 rfl .nil)) (hR := fun h => by subst h; exact (.cons 0 rfl .nil))
 rintro ⟨a19, c20⟩
 refine au [26,10,0,1,2,4,26,11,28,4] ?_
 intro x21 e21 _
 refine au [24,13] ?_
 refine kv ent114 rfl rfl rfl (fun x22 e22 => jd F ((x21 : Int) == 0) x22 e22) .nil .nil .nil (fun x23 _ => ?_) (fun x22 e22 => ?_)
 refine au [25,8] ?_
 refine qcZ ent112 rfl (.cons 2 rfl (.cons 1 rfl .nil)) (qfp _ _ _ _) ?_
 refine au [25,10] ?_
 exact yP (none, 0) (resL (rs := [.cell 8 39, .cell 9 4]) rfl (.cell (i := 0) rfl tf39 rfl rfl (fun _ => rfl) rfl (.cell (i := 1) rfl tf4 rfl rfl (fun _ => rfl) rfl ResOk.nil)) rfl) (hB := fun h => by subst h; exact (.cons 2 rfl .nil)) (hR := fun h => by subst h; exact (.cons 0 rfl .nil))
 intro _
 refine au [0,1,2,4] ?_
 refine ql (cells := [.int .i64 0, .slice none 0 0, .bool false]) rfl st179 rfl (by kernel_rfl) rfl ?_
 refine au [22] ?_
 intro g24
 refine au [5,0,1,2,4,3,3,27,11,3] ?_
 refine yb (i := 4) rfl rfl inferInstance rfl rfl (by simp) rfl rfl ?_
 refine au [27,0,32,11] ?_
 rintro x25 e25 ⟨a26, c27⟩
 refine au [0,1] ?_
 refine qe (fun ((_, _) : (Unit × Unit)) => ([(0, .pointer (some ⟨g1, 0, none⟩)), (8, .pointer (some ⟨g15, 0, none⟩)), (9, .pointer (some ⟨g16, 0, none⟩)), (10, .int .i64 x6), (11, .pointer (some ⟨g24, 0, none⟩))], [⟨g24, 179, [.int .i64 x25.1, .slice a26 x25.2.1.length c27, .bool x25.2.2]⟩, ⟨g1, 142, [.int .i64 x17.2.1, .slice a4 x3.length c5, .int .i64 x17.2.2]⟩, ⟨g16, 4, [.bool false]⟩, ⟨g15, 39, [.slice a19 x17.1.length c20]⟩], [Ro (eI .u8) 5 1 (.slice a26 x25.2.1.length c27) x25.2.1, Ro (eI .i64) 3 1 (.slice a19 x17.1.length c20) x17.1], [Sl (eI .u8) 1 (.slice a4 x3.length c5) x3], ve F x3 x6 x17 x25)) ?_ ?_
 refine av [28,3] ?_ ?_
 intro h97
 refine qf2 mixed [8, 9] [] [⟨g24, 179, [.int .i64 x25.1, .slice a26 x25.2.1.length c27, .bool x25.2.2]⟩, ⟨g1, 142, [.int .i64 x17.2.1, .slice a4 x3.length c5, .int .i64 x17.2.2]⟩, ⟨g16, 4, [.bool false]⟩, ⟨g15, 39, [.slice a19 x17.1.length c20]⟩, ⟨g14, 26, [.int .i64 x11, .int .i64 x12, .int .i64 x13]⟩] [Sl (eI .u8) 1 (.slice a4 x3.length c5) x3, Sl (eI .i64) 1 (.slice a9 x8.length c10) x8] (.cons 0 rfl (.cons 0 rfl (.cons 0 rfl (.cons 0 rfl (.cons 0 rfl .nil))))) (qW 0 rfl (qW 1 rfl qB)) 20 rfl ?_
 refine au [30,7,30,8,30,9] ?_
 refine qbO 3 (.bool x25.2.2) rfl rfl rfl (zI (i := 0) rfl tf4 rfl rfl (fun _ => rfl) rfl) rfl ?_
 refine au [30,10,34,1] ?_
 refine qn (d := 40) (v := .bool true) rfl (by rw [h97] <;> rfl) ?_
 refine au [34,2,34,3,34,4] ?_
 refine zJ 9 _ rfl rfl rfl (vI rfl inferInstance) rfl (qbO 10 (.int .i64 x25.1) rfl rfl rfl (zI (i := 0) rfl tf3 rfl rfl (fun _ => rfl) rfl) rfl ?_)
 refine au [34,5,34,6] ?_
 refine zJ 13 _ rfl rfl rfl (vI rfl inferInstance) rfl (qbO 14 (.int .i64 x17.2.2) rfl rfl rfl (zI (i := 1) rfl tf3 rfl rfl (fun _ => rfl) rfl) rfl (zJ 15 _ rfl rfl rfl (jc rfl) rfl (zJ 16 _ rfl rfl rfl (jc rfl) rfl (zJ 17 _ rfl rfl rfl (jc rfl) rfl ?_))))
 refine au [34,7,24,3,19] ?_
 refine kv ent114 rfl rfl rfl (fun x98 e98 => jd F ((x25.1 : Int) == (isub .i64 x17.2.2 x6)) x98 e98) .nil .nil .nil (fun x99 _ => ?_) (fun x98 e98 => ?_)
 refine au [25,8] ?_
 refine qjL (l' := [(8, .pointer (some ⟨g15, 0, none⟩)), (9, .pointer (some ⟨g16, 0, none⟩))]) (qeq rfl rfl (qeq rfl rfl qlI)) ?_
 refine au [25,8] ?_
 refine qcZ ent112 rfl (.cons 3 rfl (.cons 2 rfl .nil)) (qfp _ _ _ _) ?_
 refine au [25,10] ?_
 exact yP (none, 0) (resL (rs := [.cell 8 39, .cell 9 4]) rfl (.cell (i := 0) rfl tf39 rfl rfl (fun _ => rfl) rfl (.cell (i := 1) rfl tf4 rfl rfl (fun _ => rfl) rfl ResOk.nil)) rfl) (hB := fun h => by subst h; exact (.cons 3 rfl .nil)) (hR := fun h => by subst h; exact (.cons 0 rfl .nil))
 intro _
 refine au [0,34,8,24,9] ?_
 refine qmh ?_ (by intro c h; cases h)
 exact az [25,15]
 intro h97
 refine qf2 mixed [8, 9] [] [⟨g24, 179, [.int .i64 x25.1, .slice a26 x25.2.1.length c27, .bool x25.2.2]⟩, ⟨g1, 142, [.int .i64 x17.2.1, .slice a4 x3.length c5, .int .i64 x17.2.2]⟩, ⟨g16, 4, [.bool false]⟩, ⟨g15, 39, [.slice a19 x17.1.length c20]⟩, ⟨g14, 26, [.int .i64 x11, .int .i64 x12, .int .i64 x13]⟩] [Sl (eI .u8) 1 (.slice a4 x3.length c5) x3, Sl (eI .i64) 1 (.slice a9 x8.length c10) x8] (.cons 0 rfl (.cons 0 rfl (.cons 0 rfl (.cons 0 rfl (.cons 0 rfl .nil))))) (qW 0 rfl (qW 1 rfl qB)) 20 rfl ?_
 refine au [30,7,30,8,30,9] ?_
 refine qbO 3 (.bool x25.2.2) rfl rfl rfl (zI (i := 0) rfl tf4 rfl rfl (fun _ => rfl) rfl) rfl ?_
 refine au [30,10,34,1] ?_
 refine qn (d := 40) (v := .bool false) rfl (by rw [h97] <;> rfl) (vt 6 rfl rfl rfl rfl (vt 7 rfl rfl rfl rfl (vt 8 rfl rfl rfl rfl (vt 9 rfl rfl rfl rfl (vt 10 rfl rfl rfl rfl (vt 11 rfl rfl rfl rfl (vt 12 rfl rfl rfl rfl (vt 13 rfl rfl rfl rfl (vt 14 rfl rfl rfl rfl (vt 15 rfl rfl rfl rfl (vt 16 rfl rfl rfl rfl (vt 17 rfl rfl rfl rfl ?_))))))))))))
 refine au [34,7,24,3,19] ?_
 refine kv ent114 rfl rfl rfl (fun x100 e100 => jd F false x100 e100) .nil .nil .nil (fun x101 _ => ?_) (fun x100 e100 => ?_)
 refine au [25,8] ?_
 refine qjL (l' := [(8, .pointer (some ⟨g15, 0, none⟩)), (9, .pointer (some ⟨g16, 0, none⟩))]) (qeq rfl rfl (qeq rfl rfl qlI)) ?_
 refine au [25,8] ?_
 refine qcZ ent112 rfl (.cons 3 rfl (.cons 2 rfl .nil)) (qfp _ _ _ _) ?_
 refine au [25,10] ?_
 exact yP (none, 0) (resL (rs := [.cell 8 39, .cell 9 4]) rfl (.cell (i := 0) rfl tf39 rfl rfl (fun _ => rfl) rfl (.cell (i := 1) rfl tf4 rfl rfl (fun _ => rfl) rfl ResOk.nil)) rfl) (hB := fun h => by subst h; exact (.cons 3 rfl .nil)) (hR := fun h => by subst h; exact (.cons 0 rfl .nil))
 intro _
 refine au [0,34,8,24,9] ?_
 refine qmh ?_ (by intro c h; cases h)
 exact az [25,15]
 rintro ⟨_, _⟩
 try dsimp only
 refine qe (fun ((_, _) : (Unit × Unit)) => ([(8, .pointer (some ⟨g15, 0, none⟩)), (9, .pointer (some ⟨g16, 0, none⟩))], [⟨g1, 142, [.int .i64 x17.2.1, .slice a4 x3.length c5, .int .i64 x17.2.2]⟩, ⟨g16, 4, [.bool false]⟩, ⟨g15, 39, [.slice a19 x17.1.length c20]⟩], [Ro (eI .i64) 3 1 (.slice a19 x17.1.length c20) x17.1], [Sl (eI .u8) 1 (.slice a4 x3.length c5) x3], qbK F x17)) ?_ ?_
 refine au [2,4,3,25,0,9,9,18,3,0,1,15] ?_
 refine qw (fun ((x75, _) : (Int × Unit)) => ([(0, .pointer (some ⟨g1, 0, none⟩)), (8, .pointer (some ⟨g15, 0, none⟩)), (9, .pointer (some ⟨g16, 0, none⟩)), (10, .int .i64 x6), (11, .pointer (some ⟨g24, 0, none⟩)), (59, .int .i64 x25.1), (60, .int .i64 x75)], [⟨g24, 179, [.int .i64 x25.1, .slice a26 x25.2.1.length c27, .bool x25.2.2]⟩, ⟨g1, 142, [.int .i64 x17.2.1, .slice a4 x3.length c5, .int .i64 x17.2.2]⟩, ⟨g16, 4, [.bool false]⟩, ⟨g15, 39, [.slice a19 x17.1.length c20]⟩], [Ro (eI .u8) 5 1 (.slice a26 x25.2.1.length c27) x25.2.1, Ro (eI .i64) 3 1 (.slice a19 x17.1.length c20) x17.1], [Sl (eI .u8) 1 (.slice a4 x3.length c5) x3])) (fun k (s : (Int × Unit)) => zx F x3 x6 x17 x25 k s.1) (0, ()) F ?_
 intro k86
 rintro ⟨x75, _⟩
 try dsimp only
 refine qJ (m' := vd F x3 x6 x17 x25 (zx F x3 x6 x17 x25 k86) x75) rfl ?_
 refine av [2,4,24,4,0,1,2,11] ?_ ?_
 intro _
 refine au [12,1,2,15,2,4,3,5,0,1] ?_
 refine qf2 mixed [8, 9] [] [⟨g24, 179, [.int .i64 x25.1, .slice a26 x25.2.1.length c27, .bool x25.2.2]⟩, ⟨g1, 142, [.int .i64 x17.2.1, .slice a4 x3.length c5, .int .i64 x17.2.2]⟩, ⟨g16, 4, [.bool false]⟩, ⟨g15, 39, [.slice a19 x17.1.length c20]⟩] [Sl (eI .u8) 1 (.slice a4 x3.length c5) x3] (.cons 0 rfl (.cons 0 rfl (.cons 0 rfl (.cons 0 rfl .nil)))) (qW 0 rfl qB) 16 rfl ?_
 refine au [30,7,30,8,30,9] ?_
 refine qbO 3 (.agg #[.int .i64 x25.1, .slice a26 x25.2.1.length c27]) rfl rfl rfl (zI (i := 0) rfl tf29 rfl rfl (by simp) rfl) rfl ?_
 refine au [30,10,34,2,34,3,34,4] ?_
 refine qbO 9 (.agg #[.int .i64 x17.2.1, .slice a4 x3.length c5]) rfl rfl rfl (zI (i := 1) rfl tf29 rfl rfl (by simp) rfl) rfl (zJ 10 _ rfl rfl rfl (jc rfl) rfl ?_)
 refine au [34,5,34,6,24,3,5,27,10] ?_
 intro x92 e92 _
 refine au [0,30,11,24,3,13,27,10] ?_
 intro x93 e93 _
 refine au [0,30,11] ?_
 refine zJ 14 _ rfl rfl rfl (jc rfl) rfl ?_
 refine au [24,3,15] ?_
 refine kv ent114 rfl rfl rfl (fun x94 e94 => jd F ((x92 : Int) == x93) x94 e94) .nil .nil .nil (fun x95 _ => ?_) (fun x94 e94 => ?_)
 refine au [25,8] ?_
 refine qjL (l' := [(8, .pointer (some ⟨g15, 0, none⟩)), (9, .pointer (some ⟨g16, 0, none⟩))]) (qeq rfl rfl (qeq rfl rfl qlI)) ?_
 refine au [27,2,25,8,25,8,27,2,25,8] ?_
 refine qcZ ent112 rfl (.cons 3 rfl (.cons 2 rfl .nil)) (qfp _ _ _ _) ?_
 refine au [25,10] ?_
 exact yP (none, 0) (resL (rs := [.cell 8 39, .cell 9 4]) rfl (.cell (i := 0) rfl tf39 rfl rfl (fun _ => rfl) rfl (.cell (i := 1) rfl tf4 rfl rfl (fun _ => rfl) rfl ResOk.nil)) rfl) (hB := fun h => by subst h; exact (.cons 3 rfl .nil)) (hR := fun h => by subst h; exact (.cons 0 rfl .nil))
 intro _
 refine au [0,30,11,24,9] ?_
 refine qmh ?_ (by intro c h; cases h)
 refine au [24,5,1,4,19,3,0] ?_
 exact qp (iadd .i64 x75 1, ())
 intro _
 exact az [24,11,20,20,24,12,25,15]
 rintro ⟨_, _⟩
 try dsimp only
 refine au [2,4,26,11,26,10,24,15,0,1,8] ?_
 exact qmi (.inl rfl) ent112 rfl (qra _ _) (yP (a19, c20) (resL (rs := [.cell 8 39, .cell 9 4]) rfl (.cell (i := 2) rfl tf39 rfl rfl (fun _ => rfl) rfl (.cell (i := 1) rfl tf4 rfl rfl (fun _ => rfl) rfl ResOk.nil)) rfl) (hB := fun h => by subst h; exact (.cons 0 rfl .nil)) (hR := fun h => by subst h; exact (.cons 0 rfl .nil)))
theorem qf6 {F : Nat} {x1 : Int} {x2 : List Int} {a3 : Option Addr} {c4 : Nat} {x5 : Int} {x6 : Int} {x7 : List Int} {a8 : Option Addr} {c9 : Nat} {x10 : Int} {x11 : Int} {x12 : Int} {r : (List Int × Int × Int)} (hm : jf F x1 x2 x5 x6 x7 x10 x11 x12 = some r) :
    Pure Tryz.prog 56 [.agg #[.int .i64 x1, .slice a3 x2.length c4], .int .i64 x5, .int .i64 x6, .slice a8 x7.length c9, .agg #[.int .i64 x10, .int .i64 x11, .int .i64 x12]] [Sl (eI .u8) 1 (.slice a3 x2.length c4) x2, Sl (eI .i64) 1 (.slice a8 x7.length c9) x7] (Option Addr × Nat) (fun g => .tuple #[.slice g.1 r.1.length g.2, .int .i64 r.2.1, .int .i64 r.2.2]) (fun g => [Ro (eI .i64) 3 1 (.slice g.1 r.1.length g.2) r.1]) (fun _ => []) := by
 refine qk Tryz.func56 rfl Tryz.ntmps56 rfl hm (fun w => ?_)
 refine au [30,0,2,4,22] ?_
 intro g13
 refine au [22] ?_
 intro g14
 refine au [5,5,5,0,1,2,4,25,7,3] ?_
 refine ql (cells := [.int .i64 x1, .slice a3 x2.length c4, .int .i64 x5]) rfl st142 rfl (by kernel_rfl) rfl ?_
 refine au [22] ?_
 intro g15
 refine au [5,0,1,2,4,3,3,3,25,7] ?_
 refine qz qeP ?_
 rintro x16 e16 ⟨a17, c18⟩
 refine av [3,13,13,5,5,0,1,2,2,4,3,25,4,0,1,11] ?_ ?_
 intro _
 refine au [2,4,5,5,5,0,1,8,10,25,10] ?_
 exact qy (none, 0)
 intro _
 refine au [12,1,2] ?_
 refine qH mixed [] [⟨g15, 142, [.int .i64 x16.2.2.1, .slice a3 x2.length c4, .int .i64 x16.2.2.2]⟩, ⟨g14, 26, [.int .i64 x10, .int .i64 x11, .int .i64 x12]⟩, ⟨g13, 29, [.int .i64 x1, .slice a3 x2.length c4]⟩] [Sl (eI .u8) 1 (.slice a3 x2.length c4) x2, Sl (eI .i64) 1 (.slice a8 x7.length c9) x7] (.cons 0 rfl (.cons 0 rfl (.cons 0 rfl .nil))) (qW 0 rfl (qW 1 rfl qB)) 8 rfl ?_
 refine au [7,0,7,1,7,2,21,3,25,2,4,7,5,7,6,7,7,24,9] ?_
 refine qQ ?_ (by intro c h; cases h)
 refine au [1,8] ?_
 exact qy (a17, c18)
set_option maxHeartbeats 4000000 in
theorem qiT {F : Nat} {x1 : Int} {x2 : Int} {x3 : Int} {x4 : Int} {x5 : Int} {x6 : List Int} {a7 : Option Addr} {c8 : Nat} {r : (List (List Int) × Bool)} (hm : qdC F x1 x2 x3 x4 x5 x6 = some r) :
    Pure Tryz.prog 38 [.agg #[.int .i64 x1, .int .i64 x2, .int .i64 x3, .int .i64 x4, .int .i64 x5, .slice a7 x6.length c8]] [Sl (eI .u8) 1 (.slice a7 x6.length c8) x6] (Option Addr × (Nat × List (Option Addr × Nat))) (fun g => .tuple #[.slice g.1 r.1.length g.2.1, .bool r.2]) (fun g => [RoN eN39 rN39 39 1 (.slice g.1 r.1.length g.2.1) r.1 g.2.2 []]) (fun _ => []) := by
 refine qk Tryz.func38 rfl Tryz.ntmps38 rfl hm (fun w => ?_)
 refine au [25,3,2,4,22] ?_
 intro g9
 refine au [5,5,0,1,2,4,5,0,1] ?_
 refine qe (fun (((x261, x262), (a259, c260)) : ((List (List Int) × Int) × (Option Addr × (Nat × List (Option Addr × Nat))))) => ([(1, .pointer (some ⟨g9, 0, none⟩)), (2, .slice a259 x261.length c260.1), (4, .int .i64 x262)], [⟨g9, 31, [.int .i64 x1, .int .i64 x2, .int .i64 x3, .int .i64 x4, .int .i64 x5, .slice a7 x6.length c8]⟩], [RoN eN39 rN39 39 1 (.slice a259 x261.length c260.1) x261 c260.2 []], [Sl (eI .u8) 1 (.slice a7 x6.length c8) x6], qcf F x5 x261 x262)) ?_ ?_
 refine au [2,4,9,18,3,0,1,15] ?_
 refine qqq (List Int) (Option Addr × Nat) eN39 rN39 39 1 (qw (fun (((x348, x349, x350), (a346, c347)) : ((List (List Int) × Int × Int) × (Option Addr × (Nat × List (Option Addr × Nat))))) => ([(1, .pointer (some ⟨g9, 0, none⟩)), (2, .slice a346 x348.length c347.1), (4, .int .i64 x349), (14, .int .i64 x1), (15, .int .i64 x350)], [⟨g9, 31, [.int .i64 x1, .int .i64 x2, .int .i64 x3, .int .i64 x4, .int .i64 x5, .slice a7 x6.length c8]⟩], [RoN eN39 rN39 39 1 (.slice a346 x348.length c347.1) x348 c347.2 []], [Sl (eI .u8) 1 (.slice a7 x6.length c8) x6])) (fun k (s : ((List (List Int) × Int × Int) × (Option Addr × (Nat × List (Option Addr × Nat))))) => kR F x1 x2 x3 x4 x5 x6 k s.1) ((([] : List (List Int)), 0, 0), (none, (0, ([] : List (Option Addr × Nat))))) F ?_)
 intro k431
 rintro ⟨⟨x348, x349, x350⟩, ⟨a346, c347⟩⟩
 try dsimp only
 refine qJ (m' := qa2 F x1 x2 x3 x4 x5 x6 (kR F x1 x2 x3 x4 x5 x6 k431) x348 x349 x350) rfl ?_
 refine av [2,4,24,4,0,1,2,11] ?_ ?_
 intro _
 refine au [12,1] ?_
 refine qe (fun (((x472, x473), (a470, c471)) : ((List (List Int) × Int) × (Option Addr × (Nat × List (Option Addr × Nat))))) => ([(1, .pointer (some ⟨g9, 0, none⟩)), (2, .slice a470 x472.length c471.1), (4, .int .i64 x473), (14, .int .i64 x1), (15, .int .i64 x350)], [⟨g9, 31, [.int .i64 x1, .int .i64 x2, .int .i64 x3, .int .i64 x4, .int .i64 x5, .slice a7 x6.length c8]⟩], [RoN eN39 rN39 39 1 (.slice a470 x472.length c471.1) x472 c471.2 []], [Sl (eI .u8) 1 (.slice a7 x6.length c8) x6], jv F (kR F x1 x2 x3 x4 x5 x6 k431) x350 x472 x473)) ?_ ?_
 refine au [15,2,4,3,5,0,1,2,4,24,8,3,3] ?_
 refine qf qgH ?_
 intro x474 e474 _
 refine av [3,13,13,13,5,5,5,0,1,2,2,4,3,25,4,0,1,11] ?_ ?_
 intro _
 refine au [2,4,5,5,0,1,8,10,24,1,10,10,24,1,10,26,5] ?_
 exact qy (none, (0, ([] : List (Option Addr × Nat))))
 intro _
 refine av [12,1,2,4,5,0,1,2,2,4,3,24,14,0,1,11] ?_ ?_
 intro _
 refine au [4,3,3,3,25,5] ?_
 refine qqw (j := 0) rfl UnF.u inferInstance rfl rfl rfl rfl ?_
 intro x482 e482 g483 h484 g485 h486
 refine qou (i := 0) rfl h484 (List.not_mem_nil) (qmb (j := 1) (p := (x482, g483)) km rfl rfl tf39 rfl h486 h484 rfl (fun _ => rfl) rfl rfl ?_)
 refine au [5,0,1,2,4,9,24,8,24,7] ?_
 intro g487
 refine au [24,2,0,1,2,4,3,9,24,2,0,1,2,4,9,25,7,3,3,3,24,8,34,9] ?_
 rintro x488 e488 ⟨a489, c490⟩
 refine au [3,13,13,13,5,5,5,0,1,2,2] ?_
 refine ql5 (rin := rN39) (p := (x482, g483)) (i := 1) (k := 0) (.cons 1 rfl .nil) rfl rfl h484 ?_
 refine av [4,3,25,1,0,1,11] ?_ ?_
 intro _
 refine au [2,4,5,5,0,1,8,10,24,1,10,10,24,1,10,26,5] ?_
 exact qy (none, (0, ([] : List (Option Addr × Nat))))
 intro _
 refine au [12,1,4,3,3] ?_
 refine qv (vs := [.slice a489 x488.1.length c490]) (ys := ([(x488.1, (a489, c490))] : List (List Int × (Option Addr × Nat)))) km (by decide) rfl Tryz.underlying22 tf39 rfl rfl rfl rfl rfl (by decide) (fun a492 c493 => qe2 (rin := rN39) (i := 0) ([x488.1] : List (List Int)) ([(a489, c490)] : List (Option Addr × Nat)) rfl rfl (.cons 1 rfl .nil) (qla km rfl UnF.u inferInstance rfl rfl rfl rfl (.cons 1 rfl (.cons 0 rfl .nil)) rfl rfl ?_))
 intro x494 e494 a495 c496
 refine au [3,5,5,0,24,5] ?_
 exact qb ((x494, x488.2.1), (a495, (c496, (c347.2 ++ ([(a489, c490)] : List (Option Addr × Nat))))))
 intro _
 refine au [12,1,2,4,9,24,8,24,7] ?_
 intro g498
 refine au [24,2,0,1,2,4,3,9,24,2,0,1,2,4,9,25,7,3,3,3,24,8,27,1,34,9] ?_
 rintro x499 e499 ⟨a500, c501⟩
 refine av [3,13,13,13,5,5,5,0,1,2,2,4,3,25,1,0,1,11] ?_ ?_
 intro _
 refine au [2,4,5,5,0,1,8,10,24,1,10,10,24,1,10,26,5] ?_
 exact qy (none, (0, ([] : List (Option Addr × Nat))))
 intro _
 refine au [12,1,4,3,3] ?_
 refine qv (vs := [.slice a500 x499.1.length c501]) (ys := ([(x499.1, (a500, c501))] : List (List Int × (Option Addr × Nat)))) km (by decide) rfl Tryz.underlying22 tf39 rfl rfl rfl rfl rfl (by decide) (fun a503 c504 => qe2 (rin := rN39) (i := 0) ([x499.1] : List (List Int)) ([(a500, c501)] : List (Option Addr × Nat)) rfl rfl (.cons 0 rfl .nil) (qla km rfl UnF.u inferInstance rfl rfl rfl rfl (.cons 2 rfl (.cons 0 rfl .nil)) rfl rfl ?_))
 intro x505 e505 a506 c507
 refine au [3,5,5,0,24,5] ?_
 exact qb ((x505, x499.2.1), (a506, (c507, (c347.2 ++ ([(a500, c501)] : List (Option Addr × Nat))))))
 rintro ⟨⟨x472, x473⟩, ⟨a470, c471⟩⟩
 try dsimp only
 refine au [4,19,3,0] ?_
 exact qp ((x472, x473, iadd .i64 x350 1), (a470, c471))
 intro _
 refine au [24,11,20,20,24,12] ?_
 exact qb ((x348, x349), (a346, c347))
 rintro ⟨⟨x261, x262⟩, ⟨a259, c260⟩⟩
 try dsimp only
 refine au [2] ?_
 refine qH mixed [] [⟨g9, 31, [.int .i64 x1, .int .i64 x2, .int .i64 x3, .int .i64 x4, .int .i64 x5, .slice a7 x6.length c8]⟩] [Sl (eI .u8) 1 (.slice a7 x6.length c8) x6] (.cons 0 rfl .nil) (qW 0 rfl qB) 8 rfl ?_
 refine au [7,0,7,1,21,2,21,3,25,2,4,7,5,7,6,7,7,24,9] ?_
 refine qQ ?_ (by intro c h; cases h)
 refine au [1,8] ?_
 exact qy (a259, c260)
set_option maxHeartbeats 4000000 in
theorem qdf {F : Nat} {x1 : List Int} {a2 : Option Addr} {c3 : Nat} {x4 : List Int} {a5 : Option Addr} {c6 : Nat} {r : Bool} (hm : qV F x1 x4 = some r) :
    Pure Tryz.prog 39 [.slice a2 x1.length c3, .slice a5 x4.length c6] [Sl (eI .u8) 1 (.slice a2 x1.length c3) x1, Sl (eI .u8) 1 (.slice a5 x4.length c6) x4] Unit (fun _ => .bool r) (fun _ => []) (fun _ => []) := by
 refine qk Tryz.func39 rfl Tryz.ntmps39 rfl hm (fun w => ?_)
 refine av [24,10,2,4,5,0,1,2,2,4,3,24,6,3,24,6,25,1,0,1,11] ?_ ?_
 intro _
 exact az [2,4,5,0,1,8,10,17]
 intro _
 refine au [12,1] ?_
 refine qe (fun ((_, _) : (Unit × Unit)) => ([], [], [], [], qal F)) ?_ ?_
 refine au [2,4,3,24,6,3,0,1,15] ?_
 refine qw (fun ((x154, _) : (Int × Unit)) => ([(0, .slice a2 x1.length c3), (1, .slice a5 x4.length c6), (12, .int .i64 (x1.length : Int)), (13, .int .i64 x154)], [], [], [Sl (eI .u8) 1 (.slice a2 x1.length c3) x1, Sl (eI .u8) 1 (.slice a5 x4.length c6) x4])) (fun k (s : (Int × Unit)) => qS F x1 x4 k s.1) (0, ()) F ?_
 intro k191
 rintro ⟨x154, _⟩
 try dsimp only
 refine qJ (m' := zu F x1 x4 (qS F x1 x4 k191) x154) rfl ?_
 refine av [2,4,24,4,0,1,2,11] ?_ ?_
 intro _
 refine au [12,1,2,15,2,4,3,5,0,1,2,33,5] ?_
 intro x218 e218 b219 o220 h221
 replace h221 : a2 = some ⟨b219, o220, none⟩ := h221
 refine qcd (j := 2) (qP .u8) (by decide) rfl ?_
 intro x222 e222 b223 o224 h225
 replace h225 : a5 = some ⟨b223, o224, none⟩ := h225
 refine qH mixed [] [] [qR b223 (o224 + x154.toNat * 1) ((eI .u8) x222), qR b219 (o220 + x154.toNat * 1) ((eI .u8) x218), Sl (eI .u8) 1 (.slice a2 x1.length c3) x1, Sl (eI .u8) 1 (.slice a5 x4.length c6) x4] .nil (qW 0 rfl (qW 1 rfl (qW 2 rfl (qW 3 rfl qB)))) 9 rfl ?_
 refine au [7,0,7,1] ?_
 refine qn (d := 16) (v := .slice (some ⟨b219, o220, none⟩) x1.length c3) rfl (by rw [h221] <;> rfl) (qo 2 (.pointer (some ⟨b219, (o220 + x154.toNat * 1), none⟩)) rfl rfl rfl (qbI Tryz.underlying27 tf5 rfl rfl (zd e218).1 (qax e218)) (qn (d := 16) (v := .slice a2 x1.length c3) rfl (by rw [h221] <;> rfl) (zk 3 (.int .u8 x218) [] rfl rfl rfl (ym (j := 1) rfl tf5 rfl rfl (fun _ => rfl) rfl) ?_)))
 refine au [7,4,7,5] ?_
 refine qn (d := 20) (v := .slice (some ⟨b223, o224, none⟩) x4.length c6) rfl (by rw [h225] <;> rfl) (qo 6 (.pointer (some ⟨b223, (o224 + x154.toNat * 1), none⟩)) rfl rfl rfl (qbI Tryz.underlying27 tf5 rfl rfl (zd e222).1 (qax e222)) (qn (d := 20) (v := .slice a5 x4.length c6) rfl (by rw [h225] <;> rfl) (zk 7 (.int .u8 x222) [] rfl rfl rfl (ym (j := 0) rfl tf5 rfl rfl (fun _ => rfl) rfl) ?_)))
 refine au [7,8,24,9] ?_
 refine qQ ?_ (by intro c h; cases h)
 refine av [1,11] ?_ ?_
 intro _
 exact az [2,4,5,0,1,8,24,1,10,10,24,1,10,17]
 intro _
 refine au [12,24,5,1,4,19,3,0] ?_
 exact qp (iadd .i64 x154 1, ())
 intro _
 exact az [24,11,20,20,24,12,25,15]
 rintro ⟨_, _⟩
 try dsimp only
 exact az [2,4,5,0,1,8,17]
set_option maxHeartbeats 4000000 in
theorem qj4 {F : Nat} {x1 : Int} {x2 : Int} {x3 : Int} {x4 : Int} {x5 : Int} {x6 : List Int} {a7 : Option Addr} {c8 : Nat} {r : (List (List Int) × Int)} (hm : qc4 F x1 x2 x3 x4 x5 x6 = some r) :
    Pure Tryz.prog 20 [.agg #[.int .i64 x1, .int .i64 x2, .int .i64 x3, .int .i64 x4, .int .i64 x5, .slice a7 x6.length c8]] [Sl (eI .u8) 1 (.slice a7 x6.length c8) x6] (Option Addr × (Nat × List (Option Addr × Nat))) (fun g => .tuple #[.agg #[.slice g.1 r.1.length g.2.1], .int .i64 r.2]) (fun g => [RoN eN39 rN39 39 1 (.slice g.1 r.1.length g.2.1) r.1 g.2.2 []]) (fun _ => []) := by
 refine qk Tryz.func20 rfl Tryz.ntmps20 rfl hm (fun w => ?_)
 refine au [25,3,2,4,22] ?_
 intro g9
 refine au [24,7] ?_
 intro g10
 refine au [5,0,1,2,2,4,25,7] ?_
 refine qf qiR ?_
 intro x13 e13 _
 refine av [5,0,1,2,4,3,25,1,0,1,11] ?_ ?_
 intro _
 refine au [2,4] ?_
 refine ql (cells := [.slice none 0 0]) rfl st24 rfl (by kernel_rfl) rfl ?_
 refine au [3,24,2,5,0,1,8,10,26,5] ?_
 exact qu (none, (0, ([] : List (Option Addr × Nat)))) (resL (rs := [.cell 2 24, .tmp 3]) rfl (.cell (i := 0) rfl tf24 rfl rfl (by simp) rfl (.tmp rfl ResOk.nil)) rfl) (fun h => by subst h; exact (.cons 0 rfl .nil))
 intro _
 refine au [12,1,2,4,25,7] ?_
 refine qf qiT ?_
 rintro x14 e14 ⟨a15, c16⟩
 refine av [3,13,13,5,5,0,1,2,2,4,3,25,4,0,1,11] ?_ ?_
 intro _
 refine au [2,4] ?_
 refine ql (cells := [.slice none 0 0]) rfl st24 rfl (by kernel_rfl) rfl ?_
 refine au [24,2,5,0,1,8,10,26,5] ?_
 exact qu (none, (0, ([] : List (Option Addr × Nat)))) (resL (rs := [.cell 2 24, .tmp 3]) rfl (.cell (i := 0) rfl tf24 rfl rfl (by simp) rfl (.tmp rfl ResOk.nil)) rfl) (fun h => by subst h; exact (.cons 0 rfl .nil))
 intro _
 refine au [12,1,2,4,3] ?_
 refine ql (cells := [.slice a15 x14.1.length c16.1]) rfl st24 rfl (by kernel_rfl) rfl ?_
 refine au [24,7] ?_
 intro g18
 refine au [24,2,0,1,2,2,4,24,8,9,25,14,33,4] ?_
 rintro x28 e28 ⟨a29, c30⟩
 refine au [3,13,13,24,7] ?_
 intro g31
 refine au [24,2,5,0,1,2,4,3,25,1,3] ?_
 refine qY 9 (fun ((x34, _) : (Bool × Unit)) => ([(2, .pointer (some ⟨g10, 0, none⟩)), (7, .pointer (some ⟨g18, 0, none⟩)), (44, .bool x34)], [⟨g18, 24, [.slice a15 x14.1.length c16.1]⟩, ⟨g10, 24, [.slice none 0 0]⟩], [RoN eN39 rN39 39 1 (.slice a15 x14.1.length c16.1) x14.1 c16.2 []], [], qbx F x14 x34)) ?_ ?_
 refine qa (os := _) rfl ?_
 refine av [25,9] ?_ ?_
 intro h32
 refine qi (k := 35) rfl h32 ?_
 refine au [6,6,6,6,6,6,6,6,23,0] ?_
 exact qb (true, ())
 intro h32
 refine qh (k := 35) rfl h32 ?_
 refine au [9,9,18,9,9,27,11,29,1] ?_
 intro x36 e36 _
 refine au [25,4,24,0,0] ?_
 exact qb ((!x36), ())
 rintro ⟨x34, _⟩
 try dsimp only
 refine qa (os := _) rfl ?_
 refine av [0,1,11] ?_ ?_
 intro _
 refine au [2,4] ?_
 refine ql (cells := [.slice none 0 0]) rfl st24 rfl (by kernel_rfl) rfl ?_
 refine au [24,15,5,0,1,8,10,26,5] ?_
 exact qu (none, (0, ([] : List (Option Addr × Nat)))) (resL (rs := [.cell 2 24, .tmp 3]) rfl (.cell (i := 1) rfl tf24 rfl rfl (by simp) rfl (.tmp rfl ResOk.nil)) rfl) (fun h => by subst h; exact (.cons 0 rfl .nil))
 intro _
 refine au [12,1,2,4,24,8,24,15,5,0,1,8] ?_
 exact qu (a15, c16) (resL (rs := [.cell 2 24, .tmp 3]) rfl (.cell (i := 1) rfl tf24 rfl rfl (by simp) rfl (.tmp rfl ResOk.nil)) rfl) (fun h => by subst h; exact (.cons 0 rfl .nil))
set_option maxHeartbeats 4000000 in
theorem qiY {F : Nat} {x1 : Int} {x2 : Int} {x3 : Int} {x4 : Int} {x5 : List Int} {a6 : Option Addr} {c7 : Nat} {x8 : Int} {x9 : List Int} {a10 : Option Addr} {c11 : Nat} {x12 : Int} {x13 : Int} {x14 : Int} {x15 : Int} {x16 : List Int} {a17 : Option Addr} {c18 : Nat} {x19 : Int} {x20 : List Int} {a21 : Option Addr} {c22 : Nat} {r : Bool} (hm : qct F x1 x2 x3 x4 x5 x8 x9 x12 x13 x14 x15 x16 x19 x20 = some r) :
    Pure Tryz.prog 34 [.agg #[.int .i64 x1, .int .i64 x2, .int .i64 x3, .int .i64 x4, .slice a6 x5.length c7, .int .i64 x8, .slice a10 x9.length c11], .agg #[.int .i64 x12, .int .i64 x13, .int .i64 x14, .int .i64 x15, .slice a17 x16.length c18, .int .i64 x19, .slice a21 x20.length c22]] [Sl (eI .u8) 1 (.slice a6 x5.length c7) x5, Sl (eI .u8) 1 (.slice a10 x9.length c11) x9, Sl (eI .u8) 1 (.slice a17 x16.length c18) x16, Sl (eI .u8) 1 (.slice a21 x20.length c22) x20] Unit (fun _ => .bool r) (fun _ => []) (fun _ => []) := by
 refine qk Tryz.func34 rfl Tryz.ntmps34 rfl hm (fun w => ?_)
 refine au [24,10,2,4,22] ?_
 intro g23
 refine au [22] ?_
 intro g24
 refine au [5,0,1,2,4,9,25,6,9,18,24,13,3] ?_
 refine qq 6 ((x1 : Int) == x12) [(2, .pointer (some ⟨g23, 0, none⟩)), (3, .pointer (some ⟨g24, 0, none⟩)), (16, .bool (((x1 : Int) == x12) && ((x2 : Int) == x13)))] (fun h25 => ?_) (fun h25 => ?_) ?_
 refine qa (os := _) rfl (qi (k := 10) rfl h25 ?_)
 refine au [9,25,6,9,18,24,13,23] ?_
 refine qc (d := 16) (v := .bool (((x1 : Int) == x12) && ((x2 : Int) == x13))) rfl (by rw [h25]; simp only [Bool.true_and]) ?_
 exact az [0,16]
 refine qa (os := _) rfl (qh (k := 10) rfl h25 ?_)
 refine au [6,6,6,6,6,24,0] ?_
 refine qc (d := 16) (v := .bool (((x1 : Int) == x12) && ((x2 : Int) == x13))) rfl (by rw [h25]; simp only [Bool.false_and]) ?_
 exact az [0,16]
 refine qa (os := _) rfl ?_
 refine au [3] ?_
 refine qq 6 (((x1 : Int) == x12) && ((x2 : Int) == x13)) [(2, .pointer (some ⟨g23, 0, none⟩)), (3, .pointer (some ⟨g24, 0, none⟩)), (23, .bool ((((x1 : Int) == x12) && ((x2 : Int) == x13)) && ((x3 : Int) == x14)))] (fun h26 => ?_) (fun h26 => ?_) ?_
 refine qa (os := _) rfl (qi (k := 17) rfl h26 ?_)
 refine au [9,25,6,9,18,24,13,23] ?_
 refine qc (d := 23) (v := .bool ((((x1 : Int) == x12) && ((x2 : Int) == x13)) && ((x3 : Int) == x14))) rfl (by rw [h26]; simp only [Bool.true_and]) ?_
 exact az [0,16]
 refine qa (os := _) rfl (qh (k := 17) rfl h26 ?_)
 refine au [6,6,6,6,6,24,0] ?_
 refine qc (d := 23) (v := .bool ((((x1 : Int) == x12) && ((x2 : Int) == x13)) && ((x3 : Int) == x14))) rfl (by rw [h26]; simp only [Bool.false_and]) ?_
 exact az [0,16]
 refine qa (os := _) rfl ?_
 refine au [3] ?_
 refine qq 8 ((((x1 : Int) == x12) && ((x2 : Int) == x13)) && ((x3 : Int) == x14)) [(2, .pointer (some ⟨g23, 0, none⟩)), (3, .pointer (some ⟨g24, 0, none⟩)), (32, .bool (((((x1 : Int) == x12) && ((x2 : Int) == x13)) && ((x3 : Int) == x14)) && ((x4 : Int) == x15)))] (fun h27 => ?_) (fun h27 => ?_) ?_
 refine qa (os := _) rfl (qi (k := 24) rfl h27 ?_)
 refine au [9,9,25,6,9,9,18,24,13,23] ?_
 refine qc (d := 32) (v := .bool (((((x1 : Int) == x12) && ((x2 : Int) == x13)) && ((x3 : Int) == x14)) && ((x4 : Int) == x15))) rfl (by rw [h27]; simp only [Bool.true_and]) ?_
 exact az [0,16]
 refine qa (os := _) rfl (qh (k := 24) rfl h27 ?_)
 refine au [6,6,6,6,6,6,6,24,0] ?_
 refine qc (d := 32) (v := .bool (((((x1 : Int) == x12) && ((x2 : Int) == x13)) && ((x3 : Int) == x14)) && ((x4 : Int) == x15))) rfl (by rw [h27]; simp only [Bool.false_and]) ?_
 exact az [0,16]
 refine qa (os := _) rfl ?_
 refine au [3] ?_
 refine qq 8 (((((x1 : Int) == x12) && ((x2 : Int) == x13)) && ((x3 : Int) == x14)) && ((x4 : Int) == x15)) [(2, .pointer (some ⟨g23, 0, none⟩)), (3, .pointer (some ⟨g24, 0, none⟩)), (41, .bool ((((((x1 : Int) == x12) && ((x2 : Int) == x13)) && ((x3 : Int) == x14)) && ((x4 : Int) == x15)) && ((x8 : Int) == x19)))] (fun h28 => ?_) (fun h28 => ?_) ?_
 refine qa (os := _) rfl (qi (k := 33) rfl h28 ?_)
 refine au [9,9,25,6,9,9,18,24,13,23] ?_
 refine qc (d := 41) (v := .bool ((((((x1 : Int) == x12) && ((x2 : Int) == x13)) && ((x3 : Int) == x14)) && ((x4 : Int) == x15)) && ((x8 : Int) == x19))) rfl (by rw [h28]; simp only [Bool.true_and]) ?_
 exact az [0,16]
 refine qa (os := _) rfl (qh (k := 33) rfl h28 ?_)
 refine au [6,6,6,6,6,6,6,24,0] ?_
 refine qc (d := 41) (v := .bool ((((((x1 : Int) == x12) && ((x2 : Int) == x13)) && ((x3 : Int) == x14)) && ((x4 : Int) == x15)) && ((x8 : Int) == x19))) rfl (by rw [h28]; simp only [Bool.false_and]) ?_
 exact az [0,16]
 refine qa (os := _) rfl ?_
 refine au [3] ?_
 refine qY 8 (fun ((x31, _) : (Bool × Unit)) => ([(2, .pointer (some ⟨g23, 0, none⟩)), (3, .pointer (some ⟨g24, 0, none⟩)), (50, .bool x31)], [⟨g24, 33, [.int .i64 x12, .int .i64 x13, .int .i64 x14, .int .i64 x15, .slice a17 x16.length c18, .int .i64 x19, .slice a21 x20.length c22]⟩, ⟨g23, 33, [.int .i64 x1, .int .i64 x2, .int .i64 x3, .int .i64 x4, .slice a6 x5.length c7, .int .i64 x8, .slice a10 x9.length c11]⟩], [], [Sl (eI .u8) 1 (.slice a17 x16.length c18) x16, Sl (eI .u8) 1 (.slice a21 x20.length c22) x20, Sl (eI .u8) 1 (.slice a6 x5.length c7) x5, Sl (eI .u8) 1 (.slice a10 x9.length c11) x9], qa7 F x9 x20 x31)) ?_ ?_
 refine qa (os := _) rfl ?_
 refine av [25,9] ?_ ?_
 intro h29
 refine qi (k := 42) rfl h29 ?_
 refine au [9,9,25,6,9,9,18,29,1] ?_
 intro x36 e36 _
 refine au [23,0] ?_
 exact qb (x36, ())
 intro h29
 refine qh (k := 42) rfl h29 ?_
 refine au [6,6,6,6,6,6,6,24,0,0] ?_
 exact qb (false, ())
 rintro ⟨x31, _⟩
 try dsimp only
 refine qa (os := _) rfl ?_
 refine au [3] ?_
 refine qY 8 (fun ((x34, _) : (Bool × Unit)) => ([(59, .bool x34)], [], [], [], qa8 F x34)) ?_ ?_
 refine qa (os := _) rfl ?_
 refine av [25,9] ?_ ?_
 intro h32
 refine qi (k := 51) rfl h32 ?_
 refine au [9,9,25,6,9,9,18,29,1] ?_
 intro x35 e35 _
 refine au [23,0] ?_
 exact qb (x35, ())
 intro h32
 refine qh (k := 51) rfl h32 ?_
 refine au [6,6,6,6,6,6,6,24,0,0] ?_
 exact qb (false, ())
 rintro ⟨x34, _⟩
 try dsimp only
 refine qa (os := _) rfl ?_
 exact az [5,0,1,8,17]
set_option maxHeartbeats 4000000 in
theorem qgn {F : Nat} {x1 : List (List Int)} {a2 : Option Addr} {c3 : Nat} {s3 : List (Option Addr × Nat)} {x4 : Int} {x5 : Int} {x6 : Int} {x7 : Int} {x8 : Int} {x9 : List Int} {a10 : Option Addr} {c11 : Nat} {r : (Int × Int × Int × Int × Int × List Int × Int × Int × Int × Int × List Int × Int × List Int × Int)} (hm : qcg F x1 x4 x5 x6 x7 x8 x9 = some r) :
    Pure Tryz.prog 24 [.agg #[.slice a2 x1.length c3], .agg #[.int .i64 x4, .int .i64 x5, .int .i64 x6, .int .i64 x7, .int .i64 x8, .slice a10 x9.length c11]] [SlN eN39 iN39 1 (.slice a2 x1.length c3) x1 s3, Sl (eI .u8) 1 (.slice a10 x9.length c11) x9] ((Option Addr × Nat) × (Option Addr × Nat) × (Option Addr × Nat)) (fun g => .tuple #[.agg #[.int .i64 r.1, .int .i64 r.2.1, .int .i64 r.2.2.1, .int .i64 r.2.2.2.1, .int .i64 r.2.2.2.2.1, .slice g.1.1 r.2.2.2.2.2.1.length g.1.2, .int .i64 r.2.2.2.2.2.2.1, .int .i64 r.2.2.2.2.2.2.2.1, .int .i64 r.2.2.2.2.2.2.2.2.1, .int .i64 r.2.2.2.2.2.2.2.2.2.1, .slice g.2.1.1 r.2.2.2.2.2.2.2.2.2.2.1.length g.2.1.2, .int .i64 r.2.2.2.2.2.2.2.2.2.2.2.1, .slice g.2.2.1 r.2.2.2.2.2.2.2.2.2.2.2.2.1.length g.2.2.2], .int .i64 r.2.2.2.2.2.2.2.2.2.2.2.2.2]) (fun g => [Ro (eI .u8) 5 1 (.slice g.2.1.1 r.2.2.2.2.2.2.2.2.2.2.1.length g.2.1.2) r.2.2.2.2.2.2.2.2.2.2.1, Ro (eI .u8) 5 1 (.slice g.2.2.1 r.2.2.2.2.2.2.2.2.2.2.2.2.1.length g.2.2.2) r.2.2.2.2.2.2.2.2.2.2.2.2.1]) (fun _ => []) := by
 refine qk Tryz.func24 rfl Tryz.ntmps24 rfl hm (fun w => ?_)
 refine au [24,10,2,4,22] ?_
 intro g12
 refine au [22] ?_
 intro g13
 refine au [24,7] ?_
 intro g14
 refine au [5,0,1,2,4,25,14,9,25,7,33,2] ?_
 rintro x15 e15 ⟨⟨a16, c17⟩, ⟨a18, c19⟩⟩
 refine av [3,13,13,13,5,5,5,0,1,2,2,4,3,25,1,0,1,11] ?_ ?_
 intro _
 refine au [2,4] ?_
 refine ql (cells := [.int .i64 0, .int .i64 0, .int .i64 0, .int .i64 0, .int .i64 0, .slice none 0 0, .int .i64 0, .int .i64 0, .int .i64 0, .int .i64 0, .slice none 0 0, .int .i64 0, .slice none 0 0]) rfl st35 rfl (by kernel_rfl) rfl ?_
 refine au [3,24,2,5,0,1,8,10,25,11,25,11] ?_
 exact qu ((none, 0), (none, 0), (none, 0)) (resL (rs := [.cell 4 35, .tmp 5]) rfl (.cell (i := 0) rfl tf35 rfl rfl (by simp) rfl (.tmp rfl ResOk.nil)) rfl) (fun h => by subst h; exact (.cons 0 rfl (.cons 0 rfl .nil)))
 intro _
 refine au [12,1,2,4,3,9,9,25,6,33,3] ?_
 rintro x21 e21 ⟨⟨a22, c23⟩, ⟨a24, c25⟩⟩
 refine au [3,13,13,24,7] ?_
 intro g26
 refine av [24,2,5,0,1,2,2,4,3,25,1,0,1,11] ?_ ?_
 intro _
 refine au [2,4] ?_
 refine ql (cells := [.int .i64 0, .int .i64 0, .int .i64 0, .int .i64 0, .int .i64 0, .slice none 0 0, .int .i64 0, .int .i64 0, .int .i64 0, .int .i64 0, .slice none 0 0, .int .i64 0, .slice none 0 0]) rfl st35 rfl (by kernel_rfl) rfl ?_
 refine au [3,24,15,5,0,1,8,10,25,11,25,11] ?_
 exact qu ((none, 0), (none, 0), (none, 0)) (resL (rs := [.cell 4 35, .tmp 5]) rfl (.cell (i := 1) rfl tf35 rfl rfl (by simp) rfl (.tmp rfl ResOk.nil)) rfl) (fun h => by subst h; exact (.cons 0 rfl (.cons 0 rfl .nil)))
 intro _
 refine au [12,1,2,4,25,14,24,8] ?_
 refine ql (cells := [.int .i64 x4, .int .i64 x5, .int .i64 x6, .int .i64 x7, .int .i64 x8, .slice a10 x9.length c11, .int .i64 x21.1, .int .i64 x21.2.1, .int .i64 x21.2.2.1, .int .i64 x21.2.2.2.1, .slice a22 x21.2.2.2.2.1.length c23, .int .i64 x21.2.2.2.2.2.1, .slice a24 x21.2.2.2.2.2.2.1.length c25]) rfl st35 rfl (by kernel_rfl) rfl ?_
 refine au [24,15,5,0,1,8] ?_
 exact qu ((a10, c11), (a22, c23), (a24, c25)) (resL (rs := [.cell 4 35, .tmp 5]) rfl (.cell (i := 1) rfl tf35 rfl rfl (by simp) rfl (.tmp rfl ResOk.nil)) rfl) (fun h => by subst h; exact (.cons 0 rfl (.cons 0 rfl .nil)))
set_option maxHeartbeats 4000000 in
theorem qhP {F : Nat} {x1 : Int} {x2 : Int} {x3 : Int} {x4 : Int} {x5 : Int} {x6 : List Int} {a7 : Option Addr} {c8 : Nat} {x9 : Int} {x10 : Int} {x11 : Int} {x12 : Int} {x13 : List Int} {a14 : Option Addr} {c15 : Nat} {x16 : Int} {x17 : List Int} {a18 : Option Addr} {c19 : Nat} {r : Int} (hm : jM F x1 x2 x3 x4 x5 x6 x9 x10 x11 x12 x13 x16 x17 = some r) :
    Pure Tryz.prog 16 [.agg #[.int .i64 x1, .int .i64 x2, .int .i64 x3, .int .i64 x4, .int .i64 x5, .slice a7 x6.length c8, .int .i64 x9, .int .i64 x10, .int .i64 x11, .int .i64 x12, .slice a14 x13.length c15, .int .i64 x16, .slice a18 x17.length c19]] [Sl (eI .u8) 1 (.slice a7 x6.length c8) x6, Sl (eI .u8) 1 (.slice a14 x13.length c15) x13, Sl (eI .u8) 1 (.slice a18 x17.length c19) x17] Unit (fun _ => .int .i64 r) (fun _ => []) (fun _ => []) := by
 refine qk Tryz.func16 rfl Tryz.ntmps16 rfl hm (fun w => ?_)
 refine au [25,3,2,4,22] ?_
 intro g20
 refine au [5,0,1,2,4,9,24,8] ?_
 refine qf qj4 ?_
 rintro x21 e21 ⟨a22, c23⟩
 refine au [3,13,13,24,7] ?_
 intro g24
 refine av [24,2,5,0,1,2,2,4,3,25,1,0,1,11] ?_ ?_
 intro _
 exact az [2,4,3,5,0,1,8,10,17]
 intro _
 refine au [12,1,2,2,4,24,8,9,25,7] ?_
 refine qf qgn ?_
 rintro x39 e39 ⟨⟨a40, c41⟩, ⟨a42, c43⟩, ⟨a44, c45⟩⟩
 refine au [3,13,13,24,7] ?_
 intro g46
 refine au [24,2,5,0,1,2,4,3,25,1,3] ?_
 refine qY 7 (fun ((x49, _) : (Bool × Unit)) => ([(32, .bool x49)], [], [], [], vZ F x49)) ?_ ?_
 refine qa (os := _) rfl ?_
 refine av [25,9] ?_ ?_
 intro h47
 refine qi (k := 25) rfl h47 ?_
 refine au [6,6,6,6,6,6,23,0] ?_
 exact qb (true, ())
 intro h47
 refine qh (k := 25) rfl h47 ?_
 refine au [9,24,8,9,25,14] ?_
 refine qf qiY ?_
 intro x51 e51 _
 refine au [25,4,24,0,0] ?_
 exact qb ((!x51), ())
 rintro ⟨x49, _⟩
 try dsimp only
 refine qa (os := _) rfl ?_
 refine av [0,1,11] ?_ ?_
 intro _
 exact az [2,4,5,0,1,8,10,17]
 intro _
 exact az [12,1,2,4,5,0,1,8,17]
end Go.Proofs.YtmhggdbfbmkpeaaGreat
