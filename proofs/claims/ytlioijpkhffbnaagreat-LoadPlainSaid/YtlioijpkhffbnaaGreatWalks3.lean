/- Each Go function of this seat computes what its model says, part 3. -/
import Derived.Test.YtlioijpkhffbnaaGreatWalks2
namespace Go.Proofs.YtlioijpkhffbnaaGreat
open Go SX
set_option maxHeartbeats 4000000 in
theorem qgt {F : Nat} {x1 : Int} {x2 : List Int} {a3 : Option Addr} {c4 : Nat} {r : Int} (hm : j5 F x1 x2 = some r) :
    Pure Tryz.prog 50 [.agg #[.int .i64 x1, .slice a3 x2.length c4]] [Sl (eI .u8) 1 (.slice a3 x2.length c4) x2] Unit (fun _ => .int .i64 r) (fun _ => []) (fun _ => []) := by
 refine qh Tryz.func50 rfl Tryz.ntmps50 rfl hm (fun w => ?_)
 refine au [25,4,2,4,24,5] ?_
 intro g5
 refine au [5,0,1,2,15,2,4,13,21,24,2,3] ?_
 refine qN 4 (decide (x1 < 0)) [(1, .pointer (some ⟨g5, 0, none⟩)), (11, .bool ((decide (x1 < 0)) || (decide (8192 < x1))))] (fun h27 => ?_) (fun h27 => ?_) ?_
 refine qc (os := _) rfl (qD (k := 7) rfl h27 ?_)
 refine au [9,9,9,24,8] ?_
 refine qd (d := 11) (v := .bool ((decide (x1 < 0)) || (decide (8192 < x1)))) rfl (by rw [h27]; simp only [Bool.true_or]) ?_
 exact az [0,24,3]
 refine qc (os := _) rfl (qC (k := 7) rfl h27 ?_)
 refine au [13,21,24,13,24,9] ?_
 refine qd (d := 11) (v := .bool ((decide (x1 < 0)) || (decide (8192 < x1)))) rfl (by rw [h27]; simp only [Bool.false_or]) ?_
 exact az [0,24,3]
 refine qc (os := _) rfl ?_
 refine av [5,0,1,10] ?_ ?_
 intro _
 exact az [2,4,5,0,1,8,22,11,19]
 intro _
 refine av [2,4,13,21,23,13,21,16,29,1,25,6,5,0,1,10] ?_ ?_
 intro _
 exact az [2,4,5,0,1,8,22,11,19]
 intro _
 refine qe (fun ((x36, _) : (Bool × Unit)) => ([(21, .bool x36)], [], [], [], vx F x36)) ?_ ?_
 refine av [26,14] ?_ ?_
 intro h38
 refine au [29,15] ?_
 intro x39 e39 b40 o41 h42
 replace h42 : a3 = some ⟨b40, o41, none⟩ := h42
 refine au [27,11] ?_
 intro h43
 refine qn mixed [] [⟨g5, 65, [.int .i64 x1, .slice a3 x2.length c4]⟩] [qR b40 (o41 + (isub .i64 (x2.length : Int) 1).toNat * 1) ((eI .u8) x39), Sl (eI .u8) 1 (.slice a3 x2.length c4) x2] (.cons 0 rfl .nil) (qF 0 rfl (qF 1 rfl qm)) 20 rfl ?_
 refine au [18,0,25,7,1] ?_
 refine qu 2 (.int .i64 (irem x1 8)) rfl rfl rfl (qhB rfl rfl rfl) ?_
 refine au [6,3,6,4] ?_
 refine qf (d := 26) (v := .bool true) rfl (by rw [h38] <;> rfl) ?_
 refine au [18,5,25,7,6,18,7,25,7,8,26,8,9,6,10] ?_
 refine qf (d := 28) (v := .slice (some ⟨b40, o41, none⟩) x2.length c4) rfl (by rw [h42] <;> rfl) (qu 11 (.pointer (some ⟨b40, (o41 + (isub .i64 (x2.length : Int) 1).toNat * 1), none⟩)) rfl rfl rfl (qaW Tryz.underlying27 tf5 rfl rfl (zG e39).1 (qav e39)) (qf (d := 28) (v := .slice a3 x2.length c4) rfl (by rw [h42] <;> rfl) (zr 12 (.int .u8 x39) [] rfl rfl rfl (vF (j := 0) rfl tf5 rfl rfl (fun _ => rfl) rfl) ?_)))
 refine au [18,13,25,7,14] ?_
 refine qu 15 (.int .i64 (irem x1 8)) rfl rfl rfl (qhB rfl rfl rfl) (qu 16 (.int .u8 (ishl .u8 x39 (irem x1 8))) rfl rfl rfl (qej rfl rfl h43) ?_)
 refine au [6,17,6,18,6,19,24,1] ?_
 exact qs (qa ((((ishl .u8 x39 (irem x1 8)) : Int) != 0), ())) (by intro c h; cases h)
 intro h38
 refine qn mixed [] [⟨g5, 65, [.int .i64 x1, .slice a3 x2.length c4]⟩] [Sl (eI .u8) 1 (.slice a3 x2.length c4) x2] (.cons 0 rfl .nil) (qF 0 rfl qm) 20 rfl ?_
 refine au [18,0,25,7,1] ?_
 refine qu 2 (.int .i64 (irem x1 8)) rfl rfl rfl (qhB rfl rfl rfl) ?_
 refine au [6,3,6,4] ?_
 refine qf (d := 26) (v := .bool false) rfl (by rw [h38] <;> rfl) ?_
 refine au [7,5,7,6,7,7,7,8,7,9,7,10,7,11,7,12,7,13,7,14,7,15,7,16,7,17,6,18,6,19,24,1] ?_
 exact qs (qa (false, ())) (by intro c h; cases h)
 rintro ⟨x36, _⟩
 try dsimp only
 refine av [10] ?_ ?_
 intro _
 exact az [2,4,5,0,1,8,22,11,19]
 intro _
 exact az [12,24,4,1,2,4,5,0,1,8,19]
set_option maxHeartbeats 4000000 in
theorem qgw {F : Nat} {x1 : Int} {x2 : Int} {x3 : Int} {x4 : Int} {x5 : Int} {x6 : List Int} {a7 : Option Addr} {c8 : Nat} {r : Int} (hm : qaZ F x1 x2 x3 x4 x5 x6 = some r) :
    Pure Tryz.prog 64 [.agg #[.int .i64 x1, .int .i64 x2, .int .i64 x3, .int .i64 x4, .int .i64 x5, .slice a7 x6.length c8]] [Sl (eI .u8) 1 (.slice a7 x6.length c8) x6] Unit (fun _ => .int .i64 r) (fun _ => []) (fun _ => []) := by
 refine qh Tryz.func64 rfl Tryz.ntmps64 rfl hm (fun w => ?_)
 refine au [25,4,2,4,24,5] ?_
 intro g9
 refine au [5,0,1,2,2,4,13,21,24,2,3] ?_
 refine qN 4 (decide (x1 < 0)) [(1, .pointer (some ⟨g9, 0, none⟩)), (11, .bool ((decide (x1 < 0)) || (decide (100 < x1))))] (fun h12 => ?_) (fun h12 => ?_) ?_
 refine qc (os := _) rfl (qD (k := 7) rfl h12 ?_)
 refine au [9,9,9,24,8] ?_
 refine qd (d := 11) (v := .bool ((decide (x1 < 0)) || (decide (100 < x1)))) rfl (by rw [h12]; simp only [Bool.true_or]) ?_
 exact az [0,24,3]
 refine qc (os := _) rfl (qC (k := 7) rfl h12 ?_)
 refine au [13,21,24,13,24,9] ?_
 refine qd (d := 11) (v := .bool ((decide (x1 < 0)) || (decide (100 < x1)))) rfl (by rw [h12]; simp only [Bool.false_or]) ?_
 exact az [0,24,3]
 refine qc (os := _) rfl ?_
 refine av [0,1,10] ?_ ?_
 intro _
 exact az [2,4,5,0,1,8,11,19]
 intro _
 refine au [12,1,2,2,4,13,24,15,29,11] ?_
 intro x15 e15 _
 refine av [5,0,1,2,4,3,25,6,0,1,10] ?_ ?_
 intro _
 exact az [2,4,3,5,0,1,8,11,19]
 intro _
 refine au [12,1,2,4,13,24,15,32,10] ?_
 intro x16 e16 _
 exact az [5,0,1,8,19]
set_option maxHeartbeats 4000000 in
theorem qgE {F : Nat} {x1 : Int} {x2 : List Int} {a3 : Option Addr} {c4 : Nat} {x5 : Int} {r : (Int × Int × Bool)} (hm : qaj F x1 x2 x5 = some r) :
    Pure Tryz.prog 119 [.agg #[.int .i64 x1, .slice a3 x2.length c4], .int .i64 x5] [Sl (eI .u8) 1 (.slice a3 x2.length c4) x2] Unit (fun _ => .tuple #[.int .u64 r.1, .int .i64 r.2.1, .bool r.2.2]) (fun _ => []) (fun _ => []) := by
 refine qh Tryz.func119 rfl Tryz.ntmps119 rfl hm (fun w => ?_)
 refine au [24,12,2,4,24,5] ?_
 intro g6
 refine au [5,5,5,0,1] ?_
 refine qe (fun ((_, _) : (Unit × Unit)) => ([], [], [], [], qci F)) ?_ ?_
 refine au [2,4,3,5,0,1,15] ?_
 refine qk (fun ((x33, _) : (Int × Unit)) => ([(1, .int .i64 x5), (2, .pointer (some ⟨g6, 0, none⟩)), (7, .int .i64 x33)], [⟨g6, 65, [.int .i64 x1, .slice a3 x2.length c4]⟩], [], [Sl (eI .u8) 1 (.slice a3 x2.length c4) x2])) (fun k (s : (Int × Unit)) => yv F x1 x2 x5 k s.1) (x5, ()) F ?_
 intro k40
 rintro ⟨x33, _⟩
 try dsimp only
 refine qA (m' := jU F x1 x2 x5 (yv F x1 x2 x5 k40) x33) rfl ?_
 refine av [2,2,4,3,13,21,24,2,0,1,10] ?_ ?_
 intro _
 refine au [12,1,2,15,2,4,24,15,3,28,3] ?_
 intro x44 e44 _
 refine av [25,2,0,1,10] ?_ ?_
 intro _
 exact az [2,4,3,3,25,0,24,14,3,16,5,5,5,0,1,8,22,11,11,22,11,19]
 intro _
 refine au [12,24,4,1,4,3,16,5,0] ?_
 exact qi (iadd .i64 x33 1, ())
 intro _
 exact az [24,10,17,17,24,11,25,15]
 rintro ⟨_, _⟩
 try dsimp only
 exact az [2,4,5,5,5,0,1,8,19]
theorem qcQ (F : Nat) (x1 : Int) (x2 : List Int) (a3 : Option Addr) (c4 : Nat) (x5 : Int) (r : (Int × Int × Int)) (hm : jB F x1 x2 x5 = some r) :
    Pure Tryz.prog 105 [.agg #[.int .i64 x1, .slice a3 x2.length c4], .int .i64 x5] [Sl (eI .u8) 1 (.slice a3 x2.length c4) x2] Unit (fun _ => .tuple #[.int .u64 r.1, .int .i64 r.2.1, .int .i64 r.2.2]) (fun _ => []) (fun _ => []) := by
 refine qh Tryz.func105 rfl Tryz.ntmps105 rfl hm (fun w => ?_)
 refine au [24,12,2,4,24,5] ?_
 intro g6
 refine au [5,5,5,0,1,2,4,24,15,3,32,11] ?_
 intro x7 e7 _
 refine av [3,14,14,14,5,5,5,0,1,2,2,4,3,25,1,0,1,10] ?_ ?_
 intro _
 exact az [2,4,5,5,5,0,1,8,11,19]
 intro _
 exact az [12,1,2,4,3,3,5,5,5,0,1,8,19]
set_option maxHeartbeats 4000000 in
theorem qhD {F : Nat} {x1 : Int} {x2 : List Int} {a3 : Option Addr} {c4 : Nat} {x5 : Int} {x6 : Int} {r : (Int × Bool)} (hm : vf F x1 x2 x5 x6 = some r) :
    Pure Tryz.prog 120 [.agg #[.int .i64 x1, .slice a3 x2.length c4], .int .i64 x5, .int .i64 x6] [Sl (eI .u8) 1 (.slice a3 x2.length c4) x2] Unit (fun _ => .tuple #[.int .u64 r.1, .bool r.2]) (fun _ => []) (fun _ => []) := by
 refine qh Tryz.func120 rfl Tryz.ntmps120 rfl hm (fun w => ?_)
 refine au [25,12,2,4,24,5] ?_
 intro g7
 refine av [5,5,0,1,2,2,4,13,21,3,25,0,3,24,2,0,1,10] ?_ ?_
 intro _
 exact az [2,4,5,5,0,1,8,11,19]
 intro _
 refine au [12,1] ?_
 refine qe (fun ((x24, _) : (Int × Unit)) => ([(6, .int .u64 x24)], [], [], [], qa7 F x24)) ?_ ?_
 refine au [2,4,3,3,0,1,15] ?_
 refine qk (fun (((x29, x30), _) : ((Int × Int) × Unit)) => ([(1, .int .i64 x5), (3, .pointer (some ⟨g7, 0, none⟩)), (6, .int .u64 x29), (15, .int .i64 x6), (16, .int .i64 x30)], [⟨g7, 65, [.int .i64 x1, .slice a3 x2.length c4]⟩], [], [Sl (eI .u8) 1 (.slice a3 x2.length c4) x2])) (fun k (s : ((Int × Int) × Unit)) => yT F x1 x2 x5 x6 k s.1) ((0, 0), ()) F ?_
 intro k35
 rintro ⟨⟨x29, x30⟩, _⟩
 try dsimp only
 refine qA (m' := j6 F x1 x2 x5 x6 (yT F x1 x2 x5 x6 k35) x29 x30) rfl ?_
 refine av [2,4,24,2,0,1,2,10] ?_ ?_
 intro _
 refine au [12,1,2,15,2,4,3,5,0,1,4,3,30,10,24,15,3,3,16,28,3] ?_
 intro x38 e38 _
 refine au [28,13,5,0,24,4,1,4,16,3,0] ?_
 exact qi ((ior .u64 (ishl .u64 x29 1) x38, iadd .i64 x30 1), ())
 intro _
 refine au [24,10,17,17,24,11] ?_
 exact qa (x29, ())
 rintro ⟨x24, _⟩
 try dsimp only
 exact az [2,4,3,5,5,0,1,8,19]
set_option maxHeartbeats 4000000 in
theorem jf {F : Nat} {x1 : Int} {x2 : List Int} {a3 : Option Addr} {c4 : Nat} {x5 : Int} {r : (Int × Int × Int)} (hm : zu F x1 x2 x5 = some r) :
    Pure Tryz.prog 106 [.func (.func 105) #[] #[], .agg #[.int .i64 x1, .slice a3 x2.length c4], .int .i64 x5] [Sl (eI .u8) 1 (.slice a3 x2.length c4) x2] Unit (fun _ => .tuple #[.int .u64 r.1, .int .i64 r.2.1, .int .i64 r.2.2]) (fun _ => []) (fun _ => []) := by
 refine qh Tryz.func106 rfl Tryz.ntmps106 rfl hm (fun w => ?_)
 refine au [25,12,2,4,24,5] ?_
 intro g6
 refine au [5,5,5,0,1,2,4,3,24,15,3] ?_
 refine qll ent105 rfl rfl rfl rfl (fun x7 e7 => qcQ F x1 x2 a3 c4 x5 x7 e7) (.consF 0 rfl .nil) (fun x7 e7 _ => ?_)
 refine av [3,14,14,14,5,5,5,0,1,2,2,4,3,25,6,0,1,10] ?_ ?_
 intro _
 exact az [2,4,3,5,5,5,0,1,8,11,19]
 intro _
 refine av [12,1,2,2,4,3,26,3,0,1,10] ?_ ?_
 intro _
 exact az [2,4,5,5,5,0,1,8,11,19]
 intro _
 refine au [12,1,2,4,24,15,3,3,24,14,30,0] ?_
 intro x10 e10 _
 refine av [3,14,14,5,5,0,1,2,2,4,3,25,1,0,1,10] ?_ ?_
 intro _
 exact az [2,4,5,5,5,0,1,8,11,19]
 intro _
 refine au [12,1,2,2,4,3,3,26,11] ?_
 intro h15
 refine qdQ rfl rfl rfl rfl h15 ?_
 refine au [25,0,16,5,26,7] ?_
 intro x16 e16
 refine qd (d := 12) (v := .int .u64 x16) rfl (by rw [e16] <;> rfl) ?_
 refine av [0,1,2,4,3,24,13,0,1,10] ?_ ?_
 intro _
 exact az [2,4,5,5,5,0,1,8,11,19]
 intro _
 exact az [12,1,2,4,3,3,3,24,14,16,5,5,5,0,1,8,19]
theorem qdo {F : Nat} {x1 : Int} {x2 : List Int} {a3 : Option Addr} {c4 : Nat} {x5 : Int} {r : (Int × Int × Int)} (hm : yD F x1 x2 x5 = some r) :
    Pure Tryz.prog 95 [.agg #[.int .i64 x1, .slice a3 x2.length c4], .int .i64 x5] [Sl (eI .u8) 1 (.slice a3 x2.length c4) x2] Unit (fun _ => .tuple #[.int .u64 r.1, .int .i64 r.2.1, .int .i64 r.2.2]) (fun _ => []) (fun _ => []) := by
 refine qh Tryz.func95 rfl Tryz.ntmps95 rfl hm (fun w => ?_)
 refine au [24,12,2,4,24,5] ?_
 intro g6
 refine au [5,5,5,0,1,2,4,24,15,3] ?_
 refine qg jf ?_
 intro x7 e7 _
 exact az [14,14,14,5,5,5,0,1,8,19]
set_option maxHeartbeats 4000000 in
theorem qiX {F : Nat} {x1 : Int} {x2 : Int} {x3 : Int} {x4 : Int} {x5 : Int} {x6 : List Int} {a7 : Option Addr} {c8 : Nat} {x9 : Int} {x10 : Int} {r : (Int × Int × Bool)} (hm : qbY F x1 x2 x3 x4 x5 x6 x9 x10 = some r) :
    Pure Tryz.prog 82 [.agg #[.int .i64 x1, .int .i64 x2, .int .i64 x3, .int .i64 x4, .int .i64 x5, .slice a7 x6.length c8], .int .i64 x9, .int .i64 x10] [Sl (eI .u8) 1 (.slice a7 x6.length c8) x6] Unit (fun _ => .tuple #[.int .i64 r.1, .int .i64 r.2.1, .bool r.2.2]) (fun _ => []) (fun _ => []) := by
 refine qh Tryz.func82 rfl Tryz.ntmps82 rfl hm (fun w => ?_)
 refine au [25,12,2,4,24,5] ?_
 intro g11
 refine av [5,5,5,0,1,2,2,4,13,13,21,25,2,0,1,10] ?_ ?_
 intro _
 exact az [2,4,3,5,5,5,0,1,8,11,19]
 intro _
 refine au [12,1,2,4,13,24,15,3,32,12] ?_
 intro x13 e13 _
 refine au [3,14,14,14,5,5,5,0,1,2,2,4,3,25,6,3] ?_
 refine yA 9 (fun ((x18, _) : (Bool × Unit)) => ([(7, .int .i64 x13.2.1), (9, .int .u64 x13.1), (35, .bool x18)], [], [], [], qaH F x13 x18)) ?_ ?_
 refine qc (os := _) rfl ?_
 refine av [26,4] ?_ ?_
 intro h17
 refine qD (k := 26) rfl h17 ?_
 refine au [9,9,9,9,9,9,9,9,24,8,0] ?_
 exact qa (true, ())
 intro h17
 refine qC (k := 26) rfl h17 ?_
 refine au [3,13,13,21,3,27,12,24,14,24,13,24,9,0] ?_
 exact qa ((decide ((iconv .u64 (imin x2 x10)) < x13.1)), ())
 rintro ⟨x18, _⟩
 try dsimp only
 refine qc (os := _) rfl ?_
 refine av [0,1,10] ?_ ?_
 intro _
 exact az [2,4,5,5,5,0,1,8,11,19]
 intro _
 exact az [12,1,2,4,3,24,14,3,5,5,5,0,1,8,19]
theorem vd (F : Nat) (x1 : Bool) (r : (Unit ⊕ Unit)) (hm : kq F x1 = some r) :
    PureL Tryz.prog 109 [.bool x1] [] [] [] lostCh Unit (fun (_ : Unit) (_ : Unit) => .tuple #[]) (fun (_ : Unit) (_ : Unit) => []) (fun (_ : Unit) (_ : Unit) => []) (fun (_ : Unit) => []) r := by
 refine qcw Tryz.func109 rfl Tryz.ntmps109 rfl hm (fun w => ?_)
 refine av [25,4,2,4,3,25,1,0,1,10] ?_ ?_
 intro _
 refine au [4] ?_
 exact qj (cells := []) rfl inferInstance rfl (by kernel_rfl) rfl (qlq rfl rfl (qn1 _) rfl (qlt rfl rfl (qgn .nil)))
 intro _
 refine au [12] ?_
 exact qay () (.inr rfl) (res0 rfl) rfl .nil .nil
theorem kn (F : Nat) (g1 : Nat) (x2 : Int) (x3 : List Int) (a4 : Option Addr) (c5 : Nat) (x6 : Int) (x7 : Int) (r : ((Int × Int × Int) ⊕ (Int × Int))) (hm : zb F x2 x3 x6 x7 = some r) :
    PureL Tryz.prog 121 [.pointer (some ⟨g1, 0, none⟩), .int .i64 x7] [⟨g1, 166, [.int .i64 x2, .slice a4 x3.length c5, .int .i64 x6]⟩] [] [Sl (eI .u8) 1 (.slice a4 x3.length c5) x3] lostCh Unit (fun (r : (Int × Int × Int)) (_ : Unit) => .int .i64 r.1) (fun (r : (Int × Int × Int)) (_ : Unit) => [⟨g1, 166, [.int .i64 r.2.1, .slice a4 x3.length c5, .int .i64 r.2.2]⟩]) (fun (_ : (Int × Int × Int)) (_ : Unit) => []) (fun (z : (Int × Int)) => [⟨g1, 166, [.int .i64 z.1, .slice a4 x3.length c5, .int .i64 z.2]⟩]) r := by
 refine qcw Tryz.func121 rfl Tryz.ntmps121 rfl hm (fun w => ?_)
 refine au [24,12,2,4,5,0,1,2] ?_
 refine qn mixed [] [⟨g1, 166, [.int .i64 x2, .slice a4 x3.length c5, .int .i64 x6]⟩] [Sl (eI .u8) 1 (.slice a4 x3.length c5) x3] (.cons 0 rfl .nil) (qF 0 rfl qm) 16 rfl ?_
 refine au [6,0,6,1,18,2] ?_
 refine zA 3 (.agg #[.int .i64 x2, .slice a4 x3.length c5]) rfl rfl rfl (qX (i := 0) rfl tf65 rfl rfl (by simp) rfl) ?_
 refine au [6,4,6,5,18,6,25,7,7,20,8,32,12] ?_
 intro x9 e9 _
 refine au [0,26,9,6,9,6,10,6,11,6,12,6,13,6,14,6,15,24,1] ?_
 refine qs ?_ (by intro c h; cases h)
 refine au [1,2,4,3,25,2,3] ?_
 refine qN 5 ((x9.2.2 : Int) == 0) [(0, .pointer (some ⟨g1, 0, none⟩)), (5, .int .u64 x9.1), (6, .int .i64 x9.2.1), (28, .bool (((x9.2.2 : Int) == 0) && (decide (x9.1 ≤ (iconv .u64 x7)))))] (fun h10 => ?_) (fun h10 => ?_) ?_
 refine qc (os := _) rfl (qD (k := 23) rfl h10 ?_)
 refine au [3,3,24,14,27,4,24,8] ?_
 refine qd (d := 28) (v := .bool (((x9.2.2 : Int) == 0) && (decide (x9.1 ≤ (iconv .u64 x7))))) rfl (by rw [h10]; simp only [Bool.true_and]) ?_
 exact az [0,24,3]
 refine qc (os := _) rfl (qC (k := 23) rfl h10 ?_)
 refine au [9,9,9,9,24,9] ?_
 refine qd (d := 28) (v := .bool (((x9.2.2 : Int) == 0) && (decide (x9.1 ≤ (iconv .u64 x7))))) rfl (by rw [h10]; simp only [Bool.false_and]) ?_
 exact az [0,24,3]
 refine qc (os := _) rfl (zT ent109 rfl rfl rfl (fun x11 e11 => vd F (((x9.2.2 : Int) == 0) && (decide (x9.1 ≤ (iconv .u64 x7)))) x11 e11) .nil .nil .nil (fun x12 _ => ?_) (fun x11 e11 => ?_))
 exact az [25,3,26,6]
 intro _
 refine au [0,1,2,4,3,3,24,7,13,24,0,0,1,2,4,3,24,14,5,0,1,8] ?_
 exact qay () (.inl rfl) (res1 rfl rfl) rfl (.cons 0 rfl .nil) .nil
set_option maxHeartbeats 4000000 in
theorem qfw {F : Nat} {x1 : List Int} {a2 : Option Addr} {c3 : Nat} {x4 : Int} {r : Int} (hm : qaJ F x1 x4 = some r) :
    Pure Tryz.prog 138 [.slice a2 x1.length c3, .int .i64 x4] [Sl (eI .i64) 1 (.slice a2 x1.length c3) x1] Unit (fun _ => .int .i64 r) (fun _ => []) (fun _ => []) := by
 refine qh Tryz.func138 rfl Tryz.ntmps138 rfl hm (fun w => ?_)
 refine av [24,12,2,4,5,0,1,2,2,4,3,23,3,16,24,13,0,1,10] ?_ ?_
 intro _
 exact az [2,4,5,0,1,8,11,19]
 intro _
 refine au [12,1,2,4,5,0,1] ?_
 refine qe (fun ((x99, _) : (Int × Unit)) => ([(1, .int .i64 x4), (5, .int .i64 x99)], [], [], [], qah F x4 x99)) ?_ ?_
 refine au [2,4,3,23,3,0,1,15] ?_
 refine qk (fun (((x132, x133), _) : ((Int × Int) × Unit)) => ([(1, .int .i64 x4), (5, .int .i64 x132), (13, .slice a2 x1.length c3), (14, .int .i64 (x1.length : Int)), (15, .int .i64 x133)], [], [], [Sl (eI .i64) 1 (.slice a2 x1.length c3) x1])) (fun k (s : ((Int × Int) × Unit)) => ka F x1 x4 k s.1) ((0, 0), ()) F ?_
 intro k164
 rintro ⟨⟨x132, x133⟩, _⟩
 try dsimp only
 refine qA (m' := vU F x1 x4 (ka F x1 x4 k164) x132 x133) rfl ?_
 refine av [2,4,24,2,0,1,2,10] ?_ ?_
 intro _
 refine au [12,1,2,15,2,4,3,26,12] ?_
 intro x180 e180 b181 o182
 refine au [25,9,5,5,0,1,2,2,4,3,24,2,3] ?_
 refine yA 7 (fun ((x190, _) : (Bool × Unit)) => ([(1, .int .i64 x4), (5, .int .i64 x132), (7, .int .i64 x180), (13, .slice a2 x1.length c3), (14, .int .i64 (x1.length : Int)), (15, .int .i64 x133), (29, .bool x190)], [], [], [Sl (eI .i64) 1 (.slice a2 x1.length c3) x1], vV F (ka F x1 x4 k164) x4 x132 x133 x180 x190)) ?_ ?_
 refine qc (os := _) rfl ?_
 refine av [26,4] ?_ ?_
 intro h188
 refine qD (k := 22) rfl h188 ?_
 refine au [9,9,9,9,9,9,24,8,0] ?_
 exact qa (true, ())
 intro h188
 refine qC (k := 22) rfl h188 ?_
 refine au [3,24,2,3] ?_
 refine qN 3 (decide (x180 < 1)) [(1, .int .i64 x4), (5, .int .i64 x132), (13, .slice a2 x1.length c3), (14, .int .i64 (x1.length : Int)), (15, .int .i64 x133), (7, .int .i64 x180), (22, .bool false), (23, .int .i64 x180), (24, .bool (decide (x180 < 1))), (25, .bool (decide (x180 < 1))), (28, .bool ((decide (x180 < 1)) && (decide (0 < x133))))] (fun h193 => ?_) (fun h193 => ?_) ?_
 refine qc (os := _) rfl (qD (k := 25) rfl h193 ?_)
 refine au [3,24,13,24,8] ?_
 refine qd (d := 28) (v := .bool ((decide (x180 < 1)) && (decide (0 < x133)))) rfl (by rw [h193]; simp only [Bool.true_and]) (qd (d := 25) (v := .bool (decide (x180 < 1))) rfl (by rw [h193] <;> rfl) ?_)
 exact az [0,24,3]
 refine qc (os := _) rfl (qC (k := 25) rfl h193 ?_)
 refine au [9,9,24,9] ?_
 refine qd (d := 28) (v := .bool ((decide (x180 < 1)) && (decide (0 < x133)))) rfl (by rw [h193]; simp only [Bool.false_and]) (qd (d := 25) (v := .bool (decide (x180 < 1))) rfl (by rw [h193] <;> rfl) ?_)
 exact az [0,24,3]
 refine qc (os := _) rfl ?_
 refine au [24,9,0] ?_
 exact qa (((decide (x180 < 1)) && (decide (0 < x133))), ())
 rintro ⟨x190, _⟩
 try dsimp only
 refine qc (os := _) rfl ?_
 refine av [0,1,10] ?_ ?_
 intro _
 exact az [2,4,5,0,1,8,11,22,11,11,22,11,19]
 intro _
 refine au [12,1,4,3,3,3,16,27,12,16,3,16,27,12,5,26,7] ?_
 intro x191 e191
 refine qd (d := 5) (v := .int .i64 x191) rfl (by rw [e191] <;> rfl) ?_
 refine au [0,24,4,1,4,16,3,0] ?_
 exact qi ((x191, iadd .i64 x133 1), ())
 intro _
 refine au [24,10,17,17,24,11] ?_
 exact qa (x132, ())
 rintro ⟨x99, _⟩
 try dsimp only
 refine av [2,2,4,3,3,24,13,0,1,10] ?_ ?_
 intro _
 exact az [2,4,5,0,1,8,11,19]
 intro _
 exact az [12,1,2,4,5,0,1,8,19]
set_option maxHeartbeats 4000000 in
theorem qeL {F : Nat} {x1 : List Int} {a2 : Option Addr} {c3 : Nat} {x4 : List Int} {a5 : Option Addr} {c6 : Nat} {r : List Int} (hm : qbf F x1 x4 = some r) :
    Pure Tryz.prog 139 [.slice a2 x1.length c3, .slice a5 x4.length c6] [Sl (eI .i64) 1 (.slice a2 x1.length c3) x1, Sl (eI .i64) 1 (.slice a5 x4.length c6) x4] (Option Addr × Nat) (fun g => .slice g.1 r.length g.2) (fun g => [Ro (eI .i64) 3 1 (.slice g.1 r.length g.2) r]) (fun _ => []) := by
 refine qh Tryz.func139 rfl Tryz.ntmps139 rfl hm (fun w => ?_)
 refine au [24,12,2,4,5,0,1,2,4,5,0,1,2,4,5,0,1] ?_
 refine qe (fun (((x158, x161, x162), (a156, c157, a159, c160)) : ((List Int × List Int × Bool) × (Option Addr × Nat × Option Addr × Nat))) => ([(0, .slice a156 x158.length c157), (5, .slice a159 x161.length c160), (6, .bool x162)], [], [Ro (eI .i64) 3 1 (.slice a159 x161.length c160) x161], [Sl (eI .i64) 1 (.slice a156 x158.length c157) x158], qai F x158 x161 x162)) ?_ ?_
 refine au [2,4,3,23,3,0,1,15,27,7] ?_
 refine qk (fun (((x217, x220, x221, x222), (a215, c216, a218, c219)) : ((List Int × List Int × Bool × Int) × (Option Addr × Nat × Option Addr × Nat))) => ([(0, .slice a215 x217.length c216), (5, .slice a218 x220.length c219), (6, .bool x221), (9, .slice a5 x4.length c6), (10, .int .i64 (x4.length : Int)), (11, .int .i64 x222)], [], [Ro (eI .i64) 3 1 (.slice a218 x220.length c219) x220], [Sl (eI .i64) 1 (.slice a215 x217.length c216) x217, Sl (eI .i64) 1 (.slice a5 x4.length c6) x4])) (fun k (s : ((List Int × List Int × Bool × Int) × (Option Addr × Nat × Option Addr × Nat))) => zR F x4 k s.1) ((x1, ([] : List Int), true, 0), (a2, c3, none, 0)) F ?_
 intro k271
 rintro ⟨⟨x217, x220, x221, x222⟩, ⟨a215, c216, a218, c219⟩⟩
 try dsimp only
 refine qA (m' := vo F x4 (zR F x4 k271) x217 x220 x221 x222) rfl ?_
 refine av [2,4,24,2,0,1,2,10] ?_ ?_
 intro _
 refine au [12,1,2,15,2,4,29,5] ?_
 intro x296 e296 b297 o298
 refine au [25,9,5,0,1] ?_
 refine qe (fun ((x308, (a306, c307)) : (List Int × (Option Addr × Nat))) => ([(0, .slice a215 x217.length c216), (5, .slice a306 x308.length c307), (6, .bool x221), (8, .int .i64 x296), (9, .slice a5 x4.length c6), (10, .int .i64 (x4.length : Int)), (11, .int .i64 x222)], [], [Ro (eI .i64) 3 1 (.slice a306 x308.length c307) x308], [Sl (eI .i64) 1 (.slice a215 x217.length c216) x217, Sl (eI .i64) 1 (.slice a5 x4.length c6) x4], vp F (zR F x4 k271) x217 x221 x222 x296 x308)) ?_ ?_
 refine av [2,4,3,0,1,10] ?_ ?_
 intro _
 refine au [4,3,3,3] ?_
 refine qhm (j := 1) (qt .i64) rfl UnF.u inferInstance rfl rfl rfl rfl rfl ?_
 intro x312 e312 a313 c314
 refine au [30,1] ?_
 intro x315 e315 a316 c317
 refine au [5,0] ?_
 exact qa (x315, (a316, c317))
 intro _
 refine au [12] ?_
 exact qa (x220, (a218, c219))
 rintro ⟨x308, ⟨a306, c307⟩⟩
 try dsimp only
 refine au [4,3,3] ?_
 refine qhm (j := 0) (qt .i64) rfl UnF.u inferInstance rfl rfl rfl rfl rfl ?_
 intro x309 e309 a310 c311
 refine au [3,25,1,5,5,0,24,4,1,4,16,3,0] ?_
 exact qi ((x309, x308, (!x221), iadd .i64 x222 1), (a310, c311, a306, c307))
 intro _
 refine au [24,10,17,17,24,11] ?_
 exact qa ((x217, x220, x221), (a215, c216, a218, c219))
 rintro ⟨⟨x158, x161, x162⟩, ⟨a156, c157, a159, c160⟩⟩
 try dsimp only
 refine qe (fun ((x169, (a167, c168)) : (List Int × (Option Addr × Nat))) => ([(5, .slice a167 x169.length c168)], [], [Ro (eI .i64) 3 1 (.slice a167 x169.length c168) x169], [], vW F x169)) ?_ ?_
 refine av [2,4,3,0,1,10] ?_ ?_
 intro _
 refine au [4,3,3,30,1] ?_
 intro x170 e170 a171 c172
 refine au [5,0] ?_
 exact qa (x170, (a171, c172))
 intro _
 refine au [12] ?_
 exact qa (x161, (a159, c160))
 rintro ⟨x169, ⟨a167, c168⟩⟩
 try dsimp only
 refine au [2,4,3,5,0,1,8] ?_
 exact qo (a167, c168)
set_option maxHeartbeats 4000000 in
theorem qgz {F : Nat} {x1 : List Int} {a2 : Option Addr} {c3 : Nat} {x4 : List Int} {a5 : Option Addr} {c6 : Nat} {r : (List Int × Int)} (hm : qa0 F x1 x4 = some r) :
    Pure Tryz.prog 122 [.slice a2 x1.length c3, .slice a5 x4.length c6] [Sl (eI .i64) 1 (.slice a2 x1.length c3) x1, Sl (eI .i64) 1 (.slice a5 x4.length c6) x4] (Option Addr × Nat) (fun g => .tuple #[.slice g.1 r.1.length g.2, .int .i64 r.2]) (fun g => [Ro (eI .i64) 3 1 (.slice g.1 r.1.length g.2) r.1]) (fun _ => []) := by
 refine qh Tryz.func122 rfl Tryz.ntmps122 rfl hm (fun w => ?_)
 refine au [24,12,2,4,5,5,0,1,2,4,3,28,6] ?_
 intro x7 e7 _
 refine au [5,0,1] ?_
 refine qe (fun ((x10, _) : (Int × Unit)) => ([(0, .slice a2 x1.length c3), (1, .slice a5 x4.length c6), (6, .int .i64 x10)], [], [], [Sl (eI .i64) 1 (.slice a2 x1.length c3) x1, Sl (eI .i64) 1 (.slice a5 x4.length c6) x4], vz F x1 x4 x10)) ?_ ?_
 refine av [2,4,3,25,2,0,1,10] ?_ ?_
 intro _
 refine au [4,3,3,23] ?_
 refine qg qfw ?_
 intro x16 e16 _
 refine au [5,0] ?_
 exact qa (x16, ())
 intro _
 refine au [12] ?_
 exact qa (x7, ())
 rintro ⟨x10, _⟩
 try dsimp only
 refine av [2,2,4,3,25,6,0,1,10] ?_ ?_
 intro _
 refine au [2,4,3,5,5,0,1,8,11,25,10] ?_
 exact qo (none, 0)
 intro _
 refine au [12,1,2,4,3,3] ?_
 refine qg qeL ?_
 rintro x12 e12 ⟨a13, c14⟩
 refine au [5,5,0,1,8] ?_
 exact qo (a13, c14)
set_option maxHeartbeats 4000000 in
theorem qcn (F : Nat) (g1 : Nat) (x2 : Int) (x3 : List Int) (a4 : Option Addr) (c5 : Nat) (x6 : Int) (x7 : Int) (r : ((List Int × Int × Int) ⊕ (Int × Int))) (hm : yG F x2 x3 x6 x7 = some r) :
    PureL Tryz.prog 123 [.pointer (some ⟨g1, 0, none⟩), .int .i64 x7] [⟨g1, 166, [.int .i64 x2, .slice a4 x3.length c5, .int .i64 x6]⟩] [] [Sl (eI .u8) 1 (.slice a4 x3.length c5) x3] lostCh (Option Addr × Nat) (fun (r : (List Int × Int × Int)) (g : (Option Addr × Nat)) => .slice g.1 r.1.length g.2) (fun (r : (List Int × Int × Int)) (_ : (Option Addr × Nat)) => [⟨g1, 166, [.int .i64 r.2.1, .slice a4 x3.length c5, .int .i64 r.2.2]⟩]) (fun (r : (List Int × Int × Int)) (g : (Option Addr × Nat)) => [Ro (eI .i64) 3 1 (.slice g.1 r.1.length g.2) r.1]) (fun (z : (Int × Int)) => [⟨g1, 166, [.int .i64 z.1, .slice a4 x3.length c5, .int .i64 z.2]⟩]) r := by
 refine qcw Tryz.func123 rfl Tryz.ntmps123 rfl hm (fun w => ?_)
 refine au [24,12,2,4,5,0,1,2,4,3,3,16] ?_
 refine zT ent121 rfl rfl rfl (fun x8 e8 => kn F g1 x2 x3 a4 c5 x6 (iadd .i64 x7 1) x8 e8) (.cons 0 rfl .nil) .nil (.consF 0 rfl .nil) (fun x9 _ => ?_) (fun x8 e8 => ?_)
 exact az [25,3,26,6]
 intro _
 refine qnn (qt .i64) rfl UnF.u inferInstance rfl rfl rfl rfl rfl rfl rfl ?_
 intro x10 e10 a11 c12
 refine au [5,0,1] ?_
 refine qe (fun (((x72, x73, x74), _) : ((List Int × Int × Int) × Unit)) => ([(5, .slice a11 x72.length c12)], [⟨g1, 166, [.int .i64 x73, .slice a4 x3.length c5, .int .i64 x74]⟩], [Ro (eI .i64) 3 1 (.slice a11 x72.length c12) x72], [Sl (eI .u8) 1 (.slice a4 x3.length c5) x3], yZ F x72 x73 x74)) ?_ ?_
 refine au [2,4,3,23,3,0,1,15] ?_
 refine qk (fun (((x93, x94, x95, x96), _) : ((List Int × Int × Int × Int) × Unit)) => ([(0, .pointer (some ⟨g1, 0, none⟩)), (1, .int .i64 x7), (5, .slice a11 x93.length c12), (13, .int .i64 (x10.length : Int)), (14, .int .i64 x94)], [⟨g1, 166, [.int .i64 x95, .slice a4 x3.length c5, .int .i64 x96]⟩], [Ro (eI .i64) 3 1 (.slice a11 x93.length c12) x93], [Sl (eI .u8) 1 (.slice a4 x3.length c5) x3])) (fun k (s : ((List Int × Int × Int × Int) × Unit)) => zx F x3 x7 x10 k s.1) ((x10, 0, x8.2.1, x8.2.2), ()) F ?_
 intro k115
 rintro ⟨⟨x93, x94, x95, x96⟩, _⟩
 try dsimp only
 refine qA (m' := kN F x3 x7 x10 (zx F x3 x7 x10 k115) x93 x94 x95 x96) rfl ?_
 refine av [2,4,24,2,0,1,2,10] ?_ ?_
 intro _
 refine au [12,1,2,15,2,4,3,5,0,1,4,3,3,3,3] ?_
 refine zT ent121 rfl rfl rfl (fun x125 e125 => kn F g1 x95 x3 a4 c5 x96 x7 x125 e125) (.cons 0 rfl .nil) .nil (.consF 0 rfl .nil) (fun x126 _ => ?_) (fun x125 e125 => ?_)
 exact az [27,2,25,3,25,3,27,2,25,3,26,6]
 intro _
 refine au [3,27,12,16,30,2] ?_
 intro x127 e127 g128 h129
 refine qdj (j := 0) (y' := iadd .i64 x125.1 (imin x94 1)) (qt .i64) rfl rfl rfl tf3 rfl h129 (zG e127).2.1 rfl (fun x130 e130 h131 => ?_)
 have h132 : x130.length = x93.length := by rw [← e130, List.length_set]
 refine qd (d := 5) (v := .slice a11 x130.length c12) rfl h131 (qd (d := 17) (v := .slice a11 x130.length c12) rfl h131 ?_)
 refine au [0,24,4,1,4,16,3,0] ?_
 exact qi ((x130, iadd .i64 x94 1, x125.2.1, x125.2.2), ())
 intro _
 refine au [24,10,17,17,24,11] ?_
 exact qa ((x93, x95, x96), ())
 rintro ⟨⟨x72, x73, x74⟩, _⟩
 try dsimp only
 refine au [2,4,3,5,0,1,8] ?_
 exact qay (a11, c12) (.inl rfl) (res1 rfl rfl) rfl (.cons 0 rfl .nil) (.cons 0 rfl .nil)
set_option maxHeartbeats 4000000 in
theorem qc9 (F : Nat) (g1 : Nat) (x2 : Int) (x3 : List Int) (a4 : Option Addr) (c5 : Nat) (x6 : Int) (x7 : Int) (x8 : Int) (x9 : Int) (r : ((List (Int × Int) × Int × Int) ⊕ (Int × Int))) (hm : vt F x2 x3 x6 x7 x8 x9 = some r) :
    PureL Tryz.prog 124 [.pointer (some ⟨g1, 0, none⟩), .int .i64 x7, .int .i64 x8, .int .i64 x9] [⟨g1, 166, [.int .i64 x2, .slice a4 x3.length c5, .int .i64 x6]⟩] [] [Sl (eI .u8) 1 (.slice a4 x3.length c5) x3] lostCh (Option Addr × Nat) (fun (r : (List (Int × Int) × Int × Int)) (g : (Option Addr × Nat)) => .slice g.1 r.1.length g.2) (fun (r : (List (Int × Int) × Int × Int)) (_ : (Option Addr × Nat)) => [⟨g1, 166, [.int .i64 r.2.1, .slice a4 x3.length c5, .int .i64 r.2.2]⟩]) (fun (r : (List (Int × Int) × Int × Int)) (g : (Option Addr × Nat)) => [Ro eS129 129 2 (.slice g.1 r.1.length g.2) r.1]) (fun (z : (Int × Int)) => [⟨g1, 166, [.int .i64 z.1, .slice a4 x3.length c5, .int .i64 z.2]⟩]) r := by
 refine qcw Tryz.func124 rfl Tryz.ntmps124 rfl hm (fun w => ?_)
 refine au [27,6,2,4,5,0,1,2,4,3,3,3,26,11] ?_
 intro h10
 refine qhq rfl rfl rfl rfl h10 (zT ent121 rfl rfl rfl (fun x11 e11 => kn F g1 x2 x3 a4 c5 x6 (iquo .i64 x9 x8) x11 e11) (.cons 0 rfl .nil) .nil (.consF 0 rfl .nil) (fun x12 _ => ?_) (fun x11 e11 => ?_))
 exact az [25,3,26,6]
 intro _
 refine qkD qbP (by decide) rfl UnF.u inferInstance rfl rfl rfl rfl rfl rfl ?_
 intro x13 e13 a14 c15
 refine au [5,0,1,2,4,3,5,0,1] ?_
 refine qe (fun (((x136, x137, x138), _) : ((List (Int × Int) × Int × Int) × Unit)) => ([(9, .slice a14 x136.length c15)], [⟨g1, 166, [.int .i64 x137, .slice a4 x3.length c5, .int .i64 x138]⟩], [Ro eS129 129 2 (.slice a14 x136.length c15) x136], [Sl (eI .u8) 1 (.slice a4 x3.length c5) x3], vM F x136 x137 x138)) ?_ ?_
 refine au [2,4,3,23,3,0,1,15] ?_
 refine qk (fun (((x177, x178, x179, x180, x181), _) : ((List (Int × Int) × Int × Int × Int × Int) × Unit)) => ([(0, .pointer (some ⟨g1, 0, none⟩)), (2, .int .i64 x8), (3, .int .i64 x9), (9, .slice a14 x177.length c15), (10, .int .i64 x178), (21, .int .i64 (x13.length : Int)), (22, .int .i64 x179)], [⟨g1, 166, [.int .i64 x180, .slice a4 x3.length c5, .int .i64 x181]⟩], [Ro eS129 129 2 (.slice a14 x177.length c15) x177], [Sl (eI .u8) 1 (.slice a4 x3.length c5) x3])) (fun k (s : ((List (Int × Int) × Int × Int × Int × Int) × Unit)) => qV F x3 x8 x9 x13 k s.1) ((x13, x7, 0, x11.2.1, x11.2.2), ()) F ?_
 intro k220
 rintro ⟨⟨x177, x178, x179, x180, x181⟩, _⟩
 try dsimp only
 refine qA (m' := kX F x3 x8 x9 x13 (qV F x3 x8 x9 x13 k220) x177 x178 x179 x180 x181) rfl ?_
 refine av [2,4,24,2,0,1,2,10] ?_ ?_
 intro _
 refine au [12,1,2,15,2,4,3,5,0,1,2,4,3] ?_
 refine zT ent121 rfl rfl rfl (fun x240 e240 => kn F g1 x180 x3 a4 c5 x181 2097152 x240 e240) (.cons 0 rfl .nil) .nil (.consF 0 rfl .nil) (fun x241 _ => ?_) (fun x240 e240 => ?_)
 exact az [25,3,27,2,25,3,25,3,27,2,25,3,26,6]
 intro _
 refine au [5,0,1] ?_
 refine qe (fun ((x244, _) : (Int × Unit)) => ([(0, .pointer (some ⟨g1, 0, none⟩)), (2, .int .i64 x8), (3, .int .i64 x9), (9, .slice a14 x177.length c15), (10, .int .i64 x244), (11, .int .i64 x179), (21, .int .i64 (x13.length : Int)), (22, .int .i64 x179)], [⟨g1, 166, [.int .i64 x240.2.1, .slice a4 x3.length c5, .int .i64 x240.2.2]⟩], [Ro eS129 129 2 (.slice a14 x177.length c15) x177], [Sl (eI .u8) 1 (.slice a4 x3.length c5) x3], kj F (qV F x3 x8 x9 x13 k220) x3 x8 x9 x177 x179 x240 x244)) ?_ ?_
 refine av [2,4,3,25,2,0,1,10] ?_ ?_
 intro _
 refine au [4,3,3,24,14,32,6] ?_
 intro x256 e256 _
 refine au [16,5,0] ?_
 exact qa (iadd .i64 x178 x256, ())
 intro _
 refine au [4,3,3,16,16,5,0] ?_
 exact qa (iadd .i64 x178 (iadd .i64 x240.1 2), ())
 rintro ⟨x244, _⟩
 try dsimp only
 refine au [2,4,3,3,3,3,3] ?_
 refine zT ent121 rfl rfl rfl (fun x245 e245 => kn F g1 x240.2.1 x3 a4 c5 x240.2.2 x9 x245 e245) (.cons 0 rfl .nil) .nil (.consF 0 rfl .nil) (fun x246 _ => ?_) (fun x245 e245 => ?_)
 exact az [25,3,27,2,25,3,25,3,27,2,25,3,26,6]
 intro _
 refine au [3,16] ?_
 refine qj (cells := [.int .i64 x244, .int .i64 (iadd .i64 x245.1 x8)]) rfl st129 rfl (by kernel_rfl) rfl ?_
 refine au [30,2] ?_
 intro x247 e247 g248 h249
 refine qdj (j := 0) (y' := (x244, iadd .i64 x245.1 x8)) qbP rfl rfl rfl tf129 rfl h249 (zG e247).2.1 rfl (fun x250 e250 h251 => ?_)
 have h252 : x250.length = x177.length := by rw [← e250, List.length_set]
 refine qd (d := 9) (v := .slice a14 x250.length c15) rfl h251 (qd (d := 38) (v := .slice a14 x250.length c15) rfl h251 ?_)
 refine au [0,1,4,3,3,3,30,2] ?_
 intro x253 e253 g254 h255
 refine au [13] ?_
 refine qjv (j := 0) (y := x253) (off := 1) qbP rfl rfl tf3 rfl h255 (zG e253).2.2 rfl (fun _ => rfl) rfl rfl ?_
 refine au [25,0,16,5,0,24,4,1,4,16,3,0] ?_
 exact qi ((x250, iadd .i64 x244 (isub .i64 x253.2 1), iadd .i64 x179 1, x245.2.1, x245.2.2), ())
 intro _
 refine au [24,10,17,17,24,11] ?_
 exact qa ((x177, x180, x181), ())
 rintro ⟨⟨x136, x137, x138⟩, _⟩
 try dsimp only
 refine au [2,4,3,5,0,1,8] ?_
 exact qay (a14, c15) (.inl rfl) (res1 rfl rfl) rfl (.cons 0 rfl .nil) (.cons 0 rfl .nil)
set_option maxHeartbeats 4000000 in
theorem qcj {F : Nat} {x1 : List Int} {a2 : Option Addr} {c3 : Nat} {x4 : Int} {r : List Int} (hm : yk F x1 c3 x4 = some r) :
    PureM Tryz.prog 144 [.slice a2 x1.length c3, .int .i64 x4] [] [Ro (eI .i64) 3 1 (.slice a2 x1.length c3) x1] [] (Option Addr × Nat) (fun g => .slice g.1 r.length g.2) (fun _ => []) (fun g => [Ro (eI .i64) 3 1 (.slice g.1 r.length g.2) r]) := by
 refine zp Tryz.func144 rfl Tryz.ntmps144 rfl hm (fun w => ?_)
 refine av [24,12,2,4,5,0,1,2,2,4,3,24,2,0,1,10] ?_ ?_
 intro _
 exact az [32,13]
 intro _
 refine au [12,1] ?_
 refine qe (fun ((x15, (a13, c14)) : (List Int × (Option Addr × Nat))) => ([(0, .slice a13 x15.length c14)], [], [Ro (eI .i64) 3 1 (.slice a13 x15.length c14) x15], [], yN F x15)) ?_ ?_
 refine au [2,4,3,3,32,14,3,23,25,0,25,0,5,26,7] ?_
 intro x16 e16
 refine qd (d := 1) (v := .int .i64 x16) rfl (by rw [e16] <;> rfl) ?_
 refine av [0,1,2,4,3,24,13,0,1,10] ?_ ?_
 intro _
 refine au [4,3,3,32,14,32,15] ?_
 intro x17 e17
 refine au [3] ?_
 refine qne (y := (0 : Int)) 0 (qt .i64) rfl UnF.u UnF.u inferInstance rfl rfl rfl rfl rfl rfl rfl rfl rfl ?_
 intro x18 e18 a19 c20
 refine au [3,23,32,15] ?_
 intro x21 e21
 refine au [5,0] ?_
 exact qa (x21, (a19, c20))
 intro _
 refine au [12] ?_
 exact qa (x1, (a2, c3))
 rintro ⟨x15, ⟨a13, c14⟩⟩
 try dsimp only
 refine au [2,4,3,5,0,1,8] ?_
 exact zl (a13, c14)
set_option maxHeartbeats 4000000 in
theorem qbL {F : Nat} {x1 : List (List Int)} {a2 : Option Addr} {c3 : Nat} {s3 : List (Option Addr × Nat)} {r : List Int} (hm : zd F x1 = some r) :
    Pure Tryz.prog 127 [.slice a2 x1.length c3] [SlN eN59 iN59 1 (.slice a2 x1.length c3) x1 s3] (Option Addr × Nat) (fun g => .slice g.1 r.length g.2) (fun g => [Ro (eI .i64) 3 1 (.slice g.1 r.length g.2) r]) (fun _ => []) := by
 refine qh Tryz.func127 rfl Tryz.ntmps127 rfl hm (fun w => ?_)
 refine au [25,4,2,4,5,0,1,2,4,5,0,1] ?_
 refine qe (fun ((x43, _) : (Int × Unit)) => ([(0, .slice a2 x1.length c3), (3, .int .i64 x43)], [], [], [SlN eN59 iN59 1 (.slice a2 x1.length c3) x1 s3], zE F x1 x43)) ?_ ?_
 refine au [2,4,3,23,3,0,1,15] ?_
 refine qk (fun (((x168, x169), _) : ((Int × Int) × Unit)) => ([(0, .slice a2 x1.length c3), (3, .int .i64 x168), (9, .slice a2 x1.length c3), (10, .int .i64 (x1.length : Int)), (11, .int .i64 x169)], [], [], [SlN eN59 iN59 1 (.slice a2 x1.length c3) x1 s3])) (fun k (s : ((Int × Int) × Unit)) => qx F x1 k s.1) ((0, 0), ()) F ?_
 intro k182
 rintro ⟨⟨x168, x169⟩, _⟩
 try dsimp only
 refine qA (m' := qq F x1 (qx F x1 k182) x168 x169) rfl ?_
 refine av [2,4,24,2,0,1,2,10] ?_ ?_
 intro _
 refine au [12,1,2,15,2,4,27,3] ?_
 intro x189 e189 g192 b190 o191
 refine av [25,9,5,0,1,2,4,3,3,23,16,5,0,1,2,4,3,24,2,0,1,10] ?_ ?_
 intro _
 exact az [32,13]
 intro _
 refine au [12,24,4,1,4,16,3,0] ?_
 exact qi ((iadd .i64 x168 (x189.length : Int), iadd .i64 x169 1), ())
 intro _
 refine au [24,10,17,17,24,11] ?_
 exact qa (x168, ())
 rintro ⟨x43, _⟩
 try dsimp only
 refine au [2,4,3,27,0] ?_
 refine qT qcj ?_
 rintro x44 e44 ⟨a45, c46⟩
 refine au [5,0,1] ?_
 refine qe (fun ((x102, (a100, c101)) : (List Int × (Option Addr × Nat))) => ([(6, .slice a100 x102.length c101)], [], [Ro (eI .i64) 3 1 (.slice a100 x102.length c101) x102], [], ye F x102)) ?_ ?_
 refine au [2,4,3,23,3,0,1,15] ?_
 refine qk (fun (((x121, x122), (a119, c120)) : ((List Int × Int) × (Option Addr × Nat))) => ([(6, .slice a119 x121.length c120), (25, .slice a2 x1.length c3), (26, .int .i64 (x1.length : Int)), (27, .int .i64 x122)], [], [Ro (eI .i64) 3 1 (.slice a119 x121.length c120) x121], [SlN eN59 iN59 1 (.slice a2 x1.length c3) x1 s3])) (fun k (s : ((List Int × Int) × (Option Addr × Nat))) => qw F x1 k s.1) ((x44, 0), (a45, c46)) F ?_
 intro k139
 rintro ⟨⟨x121, x122⟩, ⟨a119, c120⟩⟩
 try dsimp only
 refine qA (m' := qp F x1 (qw F x1 k139) x121 x122) rfl ?_
 refine av [2,4,24,2,0,1,2,10] ?_ ?_
 intro _
 refine au [12,1,2,15,2,4,27,3] ?_
 intro x148 e148 g151 b149 o150
 refine au [25,9,5,0,1,4,3,3] ?_
 refine km 0 (qt .i64) rfl UnF.u inferInstance rfl rfl rfl rfl rfl (.inr ⟨1, rfl⟩) rfl rfl ?_
 intro x152 e152 a153 c154
 refine au [5,0,24,4,1,4,16,3,0] ?_
 exact qi ((x152, iadd .i64 x122 1), (a153, c154))
 intro _
 refine au [24,10,17,17,24,11] ?_
 exact qa (x121, (a119, c120))
 rintro ⟨x102, ⟨a100, c101⟩⟩
 try dsimp only
 refine au [2,4,3,5,0,1,8] ?_
 exact qo (a100, c101)
theorem qck {F : Nat} {x1 : List Int} {a2 : Option Addr} {c3 : Nat} {r : List Int} (hm : q8 F x1 = some r) :
    PureM Tryz.prog 128 [.slice a2 x1.length c3] [] [Ro (eI .i64) 3 1 (.slice a2 x1.length c3) x1] [] Unit (fun _ => .tuple #[]) (fun _ => []) (fun _ => [Ro (eI .i64) 3 1 (.slice a2 r.length c3) r]) := by
  unfold q8 at hm
  split at hm
  · cases hm
    exact qjm Tryz.slices_Sort_int Tryz.slices_Sort_int_none (by assumption)
  · simp at hm
theorem qfz {F : Nat} {x1 : Int} {x2 : Int} {x3 : Int} {r : Bool} (hm : jH F x1 x2 x3 = some r) :
    Pure Tryz.prog 151 [.int .i64 x1, .int .i64 x2, .int .i64 x3] [] Unit (fun _ => .bool r) (fun _ => []) (fun _ => []) := by
 refine qh Tryz.func151 rfl Tryz.ntmps151 rfl hm (fun w => ?_)
 refine au [25,12,2,4,5,0,1,2,4,3,3,26,3,3] ?_
 refine qN 4 (decide (x2 ≤ x1)) [(14, .bool ((decide (x2 ≤ x1)) && (decide (x1 ≤ x3))))] (fun h4 => ?_) (fun h4 => ?_) ?_
 refine qc (os := _) rfl (qD (k := 10) rfl h4 ?_)
 refine au [3,3,27,4,24,8] ?_
 refine qd (d := 14) (v := .bool ((decide (x2 ≤ x1)) && (decide (x1 ≤ x3)))) rfl (by rw [h4]; simp only [Bool.true_and]) ?_
 exact az [0,24,3]
 refine qc (os := _) rfl (qC (k := 10) rfl h4 ?_)
 refine au [9,9,9,24,9] ?_
 refine qd (d := 14) (v := .bool ((decide (x2 ≤ x1)) && (decide (x1 ≤ x3)))) rfl (by rw [h4]; simp only [Bool.false_and]) ?_
 exact az [0,24,3]
 refine qc (os := _) rfl ?_
 exact az [5,0,1,8,19]
set_option maxHeartbeats 4000000 in
theorem qfy {F : Nat} {x1 : List (Int × Int)} {a2 : Option Addr} {c3 : Nat} {r : (List Int × Int)} (hm : qaL F x1 = some r) :
    Pure Tryz.prog 140 [.slice a2 x1.length c3] [Sl eS129 2 (.slice a2 x1.length c3) x1] (Option Addr × Nat) (fun g => .tuple #[.slice g.1 r.1.length g.2, .int .i64 r.2]) (fun g => [Ro (eI .i64) 3 1 (.slice g.1 r.1.length g.2) r.1]) (fun _ => []) := by
 refine qh Tryz.func140 rfl Tryz.ntmps140 rfl hm (fun w => ?_)
 refine av [25,4,2,4,5,5,0,1,2,2,4,3,23,24,13,0,1,10] ?_ ?_
 intro _
 refine au [2,4,5,5,0,1,8,11,25,10] ?_
 exact qo (none, 0)
 intro _
 refine au [12,1,2,4,5,0,1] ?_
 refine qe (fun ((_, _) : (Unit × Unit)) => ([(0, .slice a2 x1.length c3)], [], [], [Sl eS129 2 (.slice a2 x1.length c3) x1], jb F x1)) ?_ ?_
 refine au [2,4,3,23,3,0,1,15] ?_
 refine qk (fun (((x807, x808), _) : ((Int × Int) × Unit)) => ([(0, .slice a2 x1.length c3), (4, .int .i64 x807), (14, .slice a2 x1.length c3), (15, .int .i64 (x1.length : Int)), (16, .int .i64 x808)], [], [], [Sl eS129 2 (.slice a2 x1.length c3) x1])) (fun k (s : ((Int × Int) × Unit)) => kd F x1 k s.1) ((-2, 0), ()) F ?_
 intro k863
 rintro ⟨⟨x807, x808⟩, _⟩
 try dsimp only
 refine qA (m' := ja F x1 (kd F x1 k863) x807 x808) rfl ?_
 refine av [2,4,24,2,0,1,2,10] ?_ ?_
 intro _
 refine au [12,1,2,15,2,4,29,7] ?_
 intro x891 e891 b892 o893
 refine au [29,8,24,6] ?_
 intro g894
 refine au [24,0,0,1,2,15] ?_
 refine qe (fun ((x910, _) : (Bool × Unit)) => ([(0, .slice a2 x1.length c3), (4, .int .i64 x807), (6, .pointer (some ⟨g894, 0, none⟩)), (14, .slice a2 x1.length c3), (15, .int .i64 (x1.length : Int)), (16, .int .i64 x808), (20, .bool x910)], [⟨g894, 129, [.int .i64 x891.1, .int .i64 x891.2]⟩], [], [Sl eS129 2 (.slice a2 x1.length c3) x1], yF F (kd F x1 k863) x807 x808 x891 x910)) ?_ ?_
 refine au [2,4,13,21,33,0] ?_
 intro x913 e913 _
 refine av [25,1,5,0,1,10] ?_ ?_
 intro _
 refine au [12] ?_
 exact qa ((!x913), ())
 intro _
 refine au [2,4,13,21,33,0] ?_
 intro x914 e914 _
 refine av [25,1,5,0,1,10] ?_ ?_
 intro _
 refine au [12] ?_
 exact qa ((!x914), ())
 intro _
 refine au [4,13,21,13,21,16,25,0,24,13,5,0] ?_
 exact qa ((decide (1048576 < (isub .i64 (iadd .i64 x891.1 x891.2) 1))), ())
 rintro ⟨x910, _⟩
 try dsimp only
 refine av [10] ?_ ?_
 intro _
 refine au [2,4,5,5,0,1,8,22,11,22,11,11,22,11,25,10] ?_
 exact qo (none, 0)
 intro _
 refine av [2,4,13,21,3,16,24,2,5,0,1,10] ?_ ?_
 intro _
 refine au [2,4,5,5,0,1,8,22,11,22,11,11,22,11,25,10] ?_
 exact qo (none, 0)
 intro _
 refine au [12,24,4,1,4,13,21,13,21,16,25,0,5,0,24,4,1,4,16,3,0] ?_
 exact qi ((isub .i64 (iadd .i64 x891.1 x891.2) 1, iadd .i64 x808 1), ())
 intro _
 exact az [24,10,17,17,24,11,25,15]
 rintro ⟨_, _⟩
 try dsimp only
 refine au [2,4,5,0,1] ?_
 refine qe (fun ((x462, (a460, c461)) : (List Int × (Option Addr × Nat))) => ([(7, .slice a460 x462.length c461)], [], [Ro (eI .i64) 3 1 (.slice a460 x462.length c461) x462], [], qbv F x462)) ?_ ?_
 refine au [2,4,3,23,3,0,1,15,27,7] ?_
 refine qk (fun (((x560, x561), (a558, c559)) : ((List Int × Int) × (Option Addr × Nat))) => ([(7, .slice a558 x560.length c559), (49, .slice a2 x1.length c3), (50, .int .i64 (x1.length : Int)), (51, .int .i64 x561)], [], [Ro (eI .i64) 3 1 (.slice a558 x560.length c559) x560], [Sl eS129 2 (.slice a2 x1.length c3) x1])) (fun k (s : ((List Int × Int) × (Option Addr × Nat))) => qU F x1 k s.1) ((([] : List Int), 0), (none, 0)) F ?_
 intro k657
 rintro ⟨⟨x560, x561⟩, ⟨a558, c559⟩⟩
 try dsimp only
 refine qA (m' := v7 F x1 (qU F x1 k657) x560 x561) rfl ?_
 refine av [2,4,24,2,0,1,2,10] ?_ ?_
 intro _
 refine au [12,1] ?_
 refine qe (fun ((x706, (a704, c705)) : (List Int × (Option Addr × Nat))) => ([(7, .slice a704 x706.length c705), (49, .slice a2 x1.length c3), (50, .int .i64 (x1.length : Int)), (51, .int .i64 x561)], [], [Ro (eI .i64) 3 1 (.slice a704 x706.length c705) x706], [Sl eS129 2 (.slice a2 x1.length c3) x1], jc F (qU F x1 k657) x561 x706)) ?_ ?_
 refine au [15,2,4,29,7] ?_
 intro x707 e707 b708 o709
 refine au [29,8,24,6] ?_
 intro g710
 refine au [24,0,0,1,2,4,13,21,3,0,1,15] ?_
 refine qk (fun (((x725, x726), (a723, c724)) : ((List Int × Int) × (Option Addr × Nat))) => ([(7, .slice a723 x725.length c724), (9, .pointer (some ⟨g710, 0, none⟩)), (49, .slice a2 x1.length c3), (50, .int .i64 (x1.length : Int)), (51, .int .i64 x561), (56, .int .i64 x707.2), (57, .int .i64 x726)], [⟨g710, 129, [.int .i64 x707.1, .int .i64 x707.2]⟩], [Ro (eI .i64) 3 1 (.slice a723 x725.length c724) x725], [Sl eS129 2 (.slice a2 x1.length c3) x1])) (fun k (s : ((List Int × Int) × (Option Addr × Nat))) => kM F (qU F x1 k657) x561 x707 k s.1) ((x560, 0), (a558, c559)) F ?_
 intro k739
 rintro ⟨⟨x725, x726⟩, ⟨a723, c724⟩⟩
 try dsimp only
 refine qA (m' := v8 F (qU F x1 k657) x561 x707 (kM F (qU F x1 k657) x561 x707 k739) x725 x726) rfl ?_
 refine av [2,4,24,2,0,1,2,10] ?_ ?_
 intro _
 refine au [12,1,2,15,2,4,3,5,0,1,4,3,13,21,3,16] ?_
 refine qv (vs := [.int .i64 (iadd .i64 x707.1 x726)]) (ys := ([iadd .i64 x707.1 x726] : List Int)) (qt .i64) (by decide) rfl Tryz.underlying59 tf3 rfl rfl rfl rfl rfl (by decide) (fun a746 c747 => km 1 (qt .i64) rfl Tryz.underlying59 tf3 rfl rfl rfl rfl rfl (.inl ⟨0, _, rfl⟩) rfl rfl (fun x748 e748 a749 c750 => ?_))
 refine au [5,0,24,4,1,4,16,3,0] ?_
 exact qi ((x748, iadd .i64 x726 1), (a749, c750))
 intro _
 refine au [24,10,17,17,24,11,24,4] ?_
 exact qa (x725, (a723, c724))
 rintro ⟨x706, ⟨a704, c705⟩⟩
 try dsimp only
 refine au [4,16,3,0] ?_
 exact qi ((x706, iadd .i64 x561 1), (a704, c705))
 intro _
 refine au [24,10,17,17,24,11] ?_
 exact qa (x560, (a558, c559))
 rintro ⟨x462, ⟨a460, c461⟩⟩
 try dsimp only
 refine au [2,4,3,5,5,0,1,8] ?_
 exact qo (a460, c461)
theorem qbC {F : Nat} {x1 : List Int} {a2 : Option Addr} {c3 : Nat} {r : List Int} (hm : zL F x1 = some r) :
    PureM Tryz.prog 141 [.slice a2 x1.length c3] [] [Ro (eI .i64) 3 1 (.slice a2 x1.length c3) x1] [] (Option Addr × Nat) (fun g => .slice g.1 r.length g.2) (fun _ => []) (fun g => [Ro (eI .i64) 3 1 (.slice g.1 r.length g.2) r]) := by
  unfold zL at hm
  split at hm
  · cases hm
    exact qfC Tryz.slices_Compact_int Tryz.slices_Compact_int_empty (by assumption)
  · simp at hm
theorem qbX {F : Nat} {x1 : List Int} {a2 : Option Addr} {c3 : Nat} {r : List Int} (hm : kW F x1 = some r) :
    Pure Tryz.prog 142 [.slice a2 x1.length c3] [Sl (eI .i64) 1 (.slice a2 x1.length c3) x1] (Option Addr × Nat) (fun g => .slice g.1 r.length g.2) (fun g => [Ro (eI .i64) 3 1 (.slice g.1 r.length g.2) r]) (fun _ => []) := by
 refine qh Tryz.func142 rfl Tryz.ntmps142 rfl hm (fun w => ?_)
 refine av [25,4,2,4,5,0,1,2,2,4,3,31,0,0,1,31,1] ?_ ?_
 intro h11
 refine qiI 0 (qt .i64) (by decide) rfl h11 (fun h12 => ?_)
 subst h12
 refine qA (m' := some ([] : List Int)) rfl ?_
 refine au [2,4,5,0,1,8,11,25,10] ?_
 exact qo (none, 0)
 intro _
 refine au [12,1,2,4] ?_
 refine qv (vs := []) (ys := ([] : List Int)) (qt .i64) (by decide) rfl UnF.u inferInstance rfl rfl rfl rfl rfl (by decide) ?_
 intro a6 c7
 refine au [3,30,1] ?_
 intro x8 e8 a9 c10
 refine au [5,0,1,8] ?_
 exact qo (a9, c10)
set_option maxHeartbeats 4000000 in
theorem qgA {F : Nat} {x1 : List (Int × Int)} {a2 : Option Addr} {c3 : Nat} {x4 : List Int} {a5 : Option Addr} {c6 : Nat} {r : (List Int × Int)} (hm : qa1 F x1 x4 = some r) :
    Pure Tryz.prog 125 [.slice a2 x1.length c3, .slice a5 x4.length c6] [Sl eS129 2 (.slice a2 x1.length c3) x1, Sl (eI .i64) 1 (.slice a5 x4.length c6) x4] (Option Addr × Nat) (fun g => .tuple #[.slice g.1 r.1.length g.2, .int .i64 r.2]) (fun g => [Ro (eI .i64) 3 1 (.slice g.1 r.1.length g.2) r.1]) (fun _ => []) := by
 refine qh Tryz.func125 rfl Tryz.ntmps125 rfl hm (fun w => ?_)
 refine au [24,12,2,4,5,5,0,1,2,4,3] ?_
 refine qg qfy ?_
 rintro x7 e7 ⟨a8, c9⟩
 refine au [3,14,14,5,5,0,1] ?_
 refine qe (fun ((x12, _) : (Int × Unit)) => ([(1, .slice a5 x4.length c6), (6, .slice a8 x7.1.length c9), (7, .int .i64 x12)], [], [Ro (eI .i64) 3 1 (.slice a8 x7.1.length c9) x7.1], [Sl (eI .i64) 1 (.slice a5 x4.length c6) x4], vA F x4 x7 x12)) ?_ ?_
 refine av [2,4,3,25,2,0,1,10] ?_ ?_
 intro _
 refine au [4,3,28,6] ?_
 intro x38 e38 _
 refine au [5,0] ?_
 exact qa (x38, ())
 intro _
 refine au [12] ?_
 exact qa (x7.2, ())
 rintro ⟨x12, _⟩
 try dsimp only
 refine av [2,2,4,3,25,6,0,1,10] ?_ ?_
 intro _
 refine au [2,4,3,5,5,0,1,8,11,25,10] ?_
 exact qo (none, 0)
 intro _
 refine au [12,1,2,4,3,3,28,8] ?_
 refine qv (vs := [.slice a8 x7.1.length c9, .slice a5 x4.length c6]) (ys := ([(x7.1, (a8, c9)), (x4, (a5, c6))] : List (List Int × (Option Addr × Nat)))) yR (by decide) rfl Tryz.underlying22 tf59 rfl rfl rfl rfl rfl (by decide) (fun a14 c15 => qcN (inn := iN59) ([x7.1, x4] : List (List Int)) ([(a8, c9), (a5, c6)] : List (Option Addr × Nat)) 0 rfl rfl (qB 0 rfl (qB 1 rfl jq)) ?_)
 refine au [33,1] ?_
 rintro x16 e16 ⟨a17, c18⟩
 refine au [5,0,1,2,4,3,33,2] ?_
 intro x19 e19 _
 refine au [26,11] ?_
 intro h20
 replace h20 := of_decide_eq_true h20
 refine qd (d := 8) (v := .slice a17 x19.length c18) rfl (by rw [h20] <;> rfl) (qd (d := 24) (v := .slice a17 x19.length c18) rfl (by rw [h20] <;> rfl) (qd (d := 25) (v := .slice a17 x19.length c18) rfl (by rw [h20] <;> rfl) ?_))
 refine au [0,1,2,15,2,4,3] ?_
 refine qg qbX ?_
 rintro x29 e29 ⟨a30, c31⟩
 refine qT qbC ?_
 rintro x32 e32 ⟨a33, c34⟩
 refine av [23,3,23,24,2,5,0,1,10] ?_ ?_
 intro _
 refine au [2,4,5,5,0,1,8,22,11,25,10] ?_
 exact qo (none, 0)
 intro _
 refine av [2,4,3,23,24,13,5,0,1,10] ?_ ?_
 intro _
 refine au [2,4,5,5,0,1,8,22,11,25,10] ?_
 exact qo (none, 0)
 intro _
 refine au [12,24,4,1,2,4,3,5,5,0,1,8] ?_
 exact qo (a17, c18)
set_option maxHeartbeats 4000000 in
theorem qc0 {F : Nat} {x1 : Int} {x2 : List Int} {a3 : Option Addr} {c4 : Nat} {x5 : Int} {x6 : Int} {r : (Int × Int × Bool)} (hm : qY F x1 x2 x5 x6 = some r) :
    Pure Tryz.prog 152 [.agg #[.int .i64 x1, .slice a3 x2.length c4], .int .i64 x5, .int .u64 x6] [Sl (eI .u8) 1 (.slice a3 x2.length c4) x2] Unit (fun _ => .tuple #[.int .u64 r.1, .int .i64 r.2.1, .bool r.2.2]) (fun _ => []) (fun _ => []) := by
 refine qh Tryz.func152 rfl Tryz.ntmps152 rfl hm (fun w => ?_)
 refine au [25,12,2,4,24,5] ?_
 intro g7
 refine au [5,5,5,0,1,2,4,3,32,0] ?_
 intro x8 e8 _
 refine au [3,14,14,5,5,0,1] ?_
 refine qe (fun ((_, _) : (Unit × Unit)) => ([(1, .int .i64 x5), (3, .pointer (some ⟨g7, 0, none⟩)), (9, .int .i64 x8.1), (10, .int .u64 x8.2)], [⟨g7, 65, [.int .i64 x1, .slice a3 x2.length c4]⟩], [], [Sl (eI .u8) 1 (.slice a3 x2.length c4) x2], q6 F x1 x2 x5 x8)) ?_ ?_
 refine av [2,4,3,24,13,0,1,10] ?_ ?_
 intro _
 refine au [2,4,24,15,3,3,25,0,30,0] ?_
 intro x15 e15 _
 refine av [3,14,14,5,5,0,1,2,2,4,3,25,1,0,1,10] ?_ ?_
 intro _
 exact az [2,4,5,5,5,0,1,8,11,11,19]
 intro _
 refine av [12,1,2,4,3,3,24,2,0,1,10] ?_ ?_
 intro _
 exact az [2,4,3,3,3,16,25,0,5,5,5,0,1,8,11,19]
 intro _
 exact az [12,25,15]
 intro _
 exact az [12,25,15]
 rintro ⟨_, _⟩
 try dsimp only
 refine au [2,4,24,15,3,3,30,0] ?_
 intro x14 e14 _
 exact az [3,14,14,5,5,0,1,2,4,3,3,25,0,3,3,16,3,5,5,5,0,1,8,19]
theorem qeJ {F : Nat} {x1 : Int} {x2 : Int} {x3 : Bool} {r : (Int × Int × Int)} (hm : qaa F x1 x2 x3 = some r) :
    Pure Tryz.prog 153 [.int .u64 x1, .int .i64 x2, .bool x3] [] Unit (fun _ => .tuple #[.int .u64 r.1, .int .i64 r.2.1, .int .i64 r.2.2]) (fun _ => []) (fun _ => []) := by
 refine qh Tryz.func153 rfl Tryz.ntmps153 rfl hm (fun w => ?_)
 refine av [25,12,2,4,5,5,5,0,1,2,15,2,4,3,25,1,5,0,1,10] ?_ ?_
 intro _
 exact az [2,4,5,5,5,0,1,8,22,11,19]
 intro _
 refine av [2,4,3,24,13,5,0,1,10] ?_ ?_
 intro _
 exact az [2,4,5,5,5,0,1,8,22,11,19]
 intro _
 exact az [12,24,4,1,2,4,3,3,5,5,5,0,1,8,19]
set_option maxHeartbeats 4000000 in
theorem qdq {F : Nat} {x1 : Int} {x2 : List Int} {a3 : Option Addr} {c4 : Nat} {x5 : Int} {x6 : Int} {r : (Int × Int × Int)} (hm : vP F x1 x2 x5 x6 = some r) :
    Pure Tryz.prog 143 [.agg #[.int .i64 x1, .slice a3 x2.length c4], .int .i64 x5, .int .i64 x6] [Sl (eI .u8) 1 (.slice a3 x2.length c4) x2] Unit (fun _ => .tuple #[.int .u64 r.1, .int .i64 r.2.1, .int .i64 r.2.2]) (fun _ => []) (fun _ => []) := by
 refine qh Tryz.func143 rfl Tryz.ntmps143 rfl hm (fun w => ?_)
 refine au [25,12,2,4,24,5] ?_
 intro g7
 refine au [5,5,5,0,1,2,4,24,15,3,32,11] ?_
 intro x8 e8 _
 refine av [3,14,14,14,5,5,5,0,1,2,2,4,3,25,1,0,1,10] ?_ ?_
 intro _
 exact az [2,4,5,5,5,0,1,8,11,19]
 intro _
 refine av [12,1,2,2,4,3,3,24,14,29,13,26,3,0,1,10] ?_ ?_
 intro _
 exact az [2,4,5,5,5,0,1,8,11,19]
 intro _
 refine au [12,1,2,4,3,24,14,3,29,13,26,11] ?_
 intro h11
 refine qdQ rfl rfl rfl rfl h11 ?_
 refine au [5,26,7] ?_
 intro x12 e12
 refine qd (d := 12) (v := .int .u64 x12) rfl (by rw [e12] <;> rfl) ?_
 refine au [0,1,2,27,11] ?_
 intro h17
 refine qn mixed [] [⟨g7, 65, [.int .i64 x1, .slice a3 x2.length c4]⟩] [Sl (eI .u8) 1 (.slice a3 x2.length c4) x2] (.cons 0 rfl .nil) (qF 0 rfl qm) 15 rfl (zA 0 (.agg #[.int .i64 x1, .slice a3 x2.length c4]) rfl rfl rfl (qX (i := 0) rfl tf65 rfl rfl (by simp) rfl) ?_)
 refine au [6,1,6,2,6,3] ?_
 refine qu 4 (.int .u64 (ishl .u64 x12 x6)) rfl rfl rfl (qej rfl rfl h17) ?_
 refine au [6,5,6,6,20,7] ?_
 refine qg qc0 ?_
 intro x20 e20 _
 refine au [0,26,9,6,8,6,9,6,10,6,11,6,12,6,13,6,14,24,1] ?_
 refine qs ?_ (by intro c h; cases h)
 refine au [1,2,4,3,3,16,25,0,3,3] ?_
 refine qg qeJ ?_
 intro x21 e21 _
 exact az [14,14,14,5,5,5,0,1,8,19]
set_option maxHeartbeats 4000000 in
theorem qhG {F : Nat} {x1 : Int} {x2 : List Int} {a3 : Option Addr} {c4 : Nat} {x5 : Int} {x6 : Int} {x7 : Int} {x8 : Int} {r : (List Int × Int × Int)} (hm : qbp F x1 x2 x5 x6 x7 x8 = some r) :
    Pure Tryz.prog 126 [.agg #[.int .i64 x1, .slice a3 x2.length c4], .int .i64 x5, .int .i64 x6, .int .i64 x7, .int .i64 x8] [Sl (eI .u8) 1 (.slice a3 x2.length c4) x2] (Option Addr × Nat) (fun g => .tuple #[.slice g.1 r.1.length g.2, .int .i64 r.2.1, .int .i64 r.2.2]) (fun g => [Ro (eI .i64) 3 1 (.slice g.1 r.1.length g.2) r.1]) (fun _ => []) := by
 refine qh Tryz.func126 rfl Tryz.ntmps126 rfl hm (fun w => ?_)
 refine au [29,9,2,4,24,5] ?_
 intro g9
 refine au [5,5,5,0,1,2,4,3] ?_
 refine qj (cells := [.int .i64 x6, .bool false]) rfl st101 rfl (by kernel_rfl) rfl ?_
 refine au [24,5] ?_
 intro g10
 refine au [5,0,1] ?_
 refine qe (fun (((x105, x108), (a106, c107)) : ((Int × List Int) × (Option Addr × Nat))) => ([(1, .int .i64 x105), (10, .slice a106 x108.length c107)], [], [Ro (eI .i64) 3 1 (.slice a106 x108.length c107) x108], [], qba F x105 x108)) ?_ ?_
 refine au [2,4,3,3,0,1,15,27,7] ?_
 refine qk (fun (((x138, x141, x142, x143, x144), (a139, c140)) : ((Int × List Int × Int × Int × Bool) × (Option Addr × Nat))) => ([(1, .int .i64 x138), (3, .int .i64 x7), (5, .pointer (some ⟨g9, 0, none⟩)), (10, .slice a139 x141.length c140), (13, .pointer (some ⟨g10, 0, none⟩)), (18, .int .i64 x8), (19, .int .i64 x142)], [⟨g10, 101, [.int .i64 x143, .bool x144]⟩, ⟨g9, 65, [.int .i64 x1, .slice a3 x2.length c4]⟩], [Ro (eI .i64) 3 1 (.slice a139 x141.length c140) x141], [Sl (eI .u8) 1 (.slice a3 x2.length c4) x2])) (fun k (s : ((Int × List Int × Int × Int × Bool) × (Option Addr × Nat))) => yW F x1 x2 x7 x8 k s.1) ((x5, ([] : List Int), 0, x6, false), (none, 0)) F ?_
 intro k173
 rintro ⟨⟨x138, x141, x142, x143, x144⟩, ⟨a139, c140⟩⟩
 try dsimp only
 refine qA (m' := j9 F x1 x2 x7 x8 (yW F x1 x2 x7 x8 k173) x138 x141 x142 x143 x144) rfl ?_
 refine av [2,4,24,2,0,1,2,10] ?_ ?_
 intro _
 refine au [12,1,2,15,2,4,5,0,1,2,2,4,25,8,3,3] ?_
 refine qg qdq ?_
 intro x190 e190 _
 refine av [3,14,14,14,5,5,5,0,1,2,4,3,25,6,0,1,10] ?_ ?_
 intro _
 refine au [2,4,3,5,5,5,0,1,8,11,22,11,11,22,11,25,10] ?_
 exact qo (none, 0)
 intro _
 refine au [12,1,2,2,4,3,3,32,7] ?_
 intro x193 e193 _
 refine av [25,1,0,1,10] ?_ ?_
 intro _
 refine au [2,4,5,5,5,0,1,8,11,22,11,11,22,11,25,10] ?_
 exact qo (none, 0)
 intro _
 refine au [12,1,4,3,3,24,7,13,21] ?_
 refine qv (vs := [.int .i64 x193.2.1]) (ys := ([x193.2.1] : List Int)) (qt .i64) (by decide) rfl Tryz.underlying59 tf3 rfl rfl rfl rfl rfl (by decide) (fun a194 c195 => km 1 (qt .i64) rfl Tryz.underlying59 tf3 rfl rfl rfl rfl rfl (.inl ⟨0, _, rfl⟩) rfl rfl (fun x196 e196 a197 c198 => ?_))
 refine au [5,0,24,4,1,4,16,3,0] ?_
 exact qi ((x190.2.1, x196, iadd .i64 x142 1, x193.2.1, x193.2.2), (a197, c198))
 intro _
 refine au [24,10,17,17,24,11] ?_
 exact qa ((x138, x141), (a139, c140))
 rintro ⟨⟨x105, x108⟩, ⟨a106, c107⟩⟩
 try dsimp only
 refine au [2,4,3,3,5,5,5,0,1,8] ?_
 exact qo (a106, c107)
set_option maxHeartbeats 4000000 in
theorem qc7 (F : Nat) (g1 : Nat) (x2 : Int) (x3 : List Int) (a4 : Option Addr) (c5 : Nat) (x6 : Int) (x7 : Int) (x8 : List Int) (a9 : Option Addr) (c10 : Nat) (x11 : Int) (x12 : Int) (x13 : Int) (r : ((List Int × Int × Int) ⊕ (Int × Int))) (hm : yf F x2 x3 x6 x7 x8 x11 x12 x13 = some r) :
    PureL Tryz.prog 108 [.pointer (some ⟨g1, 0, none⟩), .int .i64 x7, .slice a9 x8.length c10, .agg #[.int .i64 x11, .int .i64 x12, .int .i64 x13]] [⟨g1, 166, [.int .i64 x2, .slice a4 x3.length c5, .int .i64 x6]⟩] [] [Sl (eI .u8) 1 (.slice a4 x3.length c5) x3, Sl (eI .i64) 1 (.slice a9 x8.length c10) x8] lostCh (Option Addr × Nat) (fun (r : (List Int × Int × Int)) (g : (Option Addr × Nat)) => .slice g.1 r.1.length g.2) (fun (r : (List Int × Int × Int)) (_ : (Option Addr × Nat)) => [⟨g1, 166, [.int .i64 r.2.1, .slice a4 x3.length c5, .int .i64 r.2.2]⟩]) (fun (r : (List Int × Int × Int)) (g : (Option Addr × Nat)) => [Ro (eI .i64) 3 1 (.slice g.1 r.1.length g.2) r.1]) (fun (z : (Int × Int)) => [⟨g1, 166, [.int .i64 z.1, .slice a4 x3.length c5, .int .i64 z.2]⟩]) r := by
 refine qcw Tryz.func108 rfl Tryz.ntmps108 rfl hm (fun w => ?_)
 refine au [27,6,2,4,24,5] ?_
 intro g14
 refine au [5,0,1,2,4,3] ?_
 refine zT ent121 rfl rfl rfl (fun x15 e15 => kn F g1 x2 x3 a4 c5 x6 300 x15 e15) (.cons 1 rfl .nil) .nil (.consF 0 rfl .nil) (fun x16 _ => ?_) (fun x15 e15 => ?_)
 exact az [25,3,26,6]
 intro _
 refine av [5,0,1,2,2,4,3,25,2,0,1,10] ?_ ?_
 intro _
 refine au [2,4,5,0,1,8,11,25,10] ?_
 exact qay (none, 0) (.inl rfl) (res1 rfl rfl) rfl (.cons 0 rfl .nil) (.cons 0 rfl .nil)
 intro _
 refine au [12,1,2,4,5,0,1] ?_
 refine qe (fun (((x31, x32, x33), (a29, c30)) : ((List Int × Int × Int) × (Option Addr × Nat))) => ([(0, .pointer (some ⟨g1, 0, none⟩)), (1, .int .i64 x7), (7, .pointer (some ⟨g14, 0, none⟩)), (9, .int .i64 x15.1), (10, .slice a29 x31.length c30)], [⟨g1, 166, [.int .i64 x32, .slice a4 x3.length c5, .int .i64 x33]⟩, ⟨g14, 26, [.int .i64 x11, .int .i64 x12, .int .i64 x13]⟩], [Ro (eI .i64) 3 1 (.slice a29 x31.length c30) x31], [Sl (eI .u8) 1 (.slice a4 x3.length c5) x3], kw F x3 x7 x12 x13 x15 x31 x32 x33)) ?_ ?_
 refine av [2,4,13,25,11,24,13,0,1,10] ?_ ?_
 intro _
 refine au [2,4,5,0,1,2,4,3,3,3,23] ?_
 refine zT ent123 rfl rfl rfl (fun x72 e72 => qcn F g1 x15.2.1 x3 a4 c5 x15.2.2 (x8.length : Int) x72 e72) (.cons 0 rfl .nil) .nil (.consF 0 rfl .nil) (fun x73 _ => ?_) (fun x72 e72 => ?_)
 exact az [25,3,25,3,26,6]
 rintro ⟨a74, c75⟩
 refine qg qgz ?_
 rintro x76 e76 ⟨a77, c78⟩
 refine au [3,14,14,5,5,0,1,4,3,25,2,3] ?_
 refine qN 5 ((x76.2 : Int) == 0) [(0, .pointer (some ⟨g1, 0, none⟩)), (1, .int .i64 x7), (7, .pointer (some ⟨g14, 0, none⟩)), (9, .int .i64 x15.1), (10, .slice a77 x76.1.length c78), (41, .bool (((x76.2 : Int) == 0) && (decide ((x76.1.length : Int) ≤ x15.1))))] (fun h79 => ?_) (fun h79 => ?_) ?_
 refine qc (os := _) rfl (qD (k := 36) rfl h79 ?_)
 refine au [3,23,3,27,4,24,8] ?_
 refine qd (d := 41) (v := .bool (((x76.2 : Int) == 0) && (decide ((x76.1.length : Int) ≤ x15.1)))) rfl (by rw [h79]; simp only [Bool.true_and]) ?_
 exact az [0,24,3]
 refine qc (os := _) rfl (qC (k := 36) rfl h79 ?_)
 refine au [9,9,9,9,24,9] ?_
 refine qd (d := 41) (v := .bool (((x76.2 : Int) == 0) && (decide ((x76.1.length : Int) ≤ x15.1)))) rfl (by rw [h79]; simp only [Bool.false_and]) ?_
 exact az [0,24,3]
 refine qc (os := _) rfl (zT ent109 rfl rfl rfl (fun x80 e80 => vd F (((x76.2 : Int) == 0) && (decide ((x76.1.length : Int) ≤ x15.1))) x80 e80) .nil .nil .nil (fun x81 _ => ?_) (fun x80 e80 => ?_))
 exact az [25,3,26,6]
 intro _
 refine au [0] ?_
 exact qa ((x76.1, x72.2.1, x72.2.2), (a77, c78))
 intro _
 refine au [12,25,10] ?_
 exact qa ((([] : List Int), x15.2.1, x15.2.2), (none, 0))
 rintro ⟨⟨x31, x32, x33⟩, ⟨a29, c30⟩⟩
 try dsimp only
 refine av [2,4,3,3,23,25,0,5,0,1,2,2,4,3,25,2,0,1,10] ?_ ?_
 intro _
 refine au [2,4,3,5,0,1,8,11] ?_
 exact qay (a29, c30) (.inl rfl) (res1 rfl rfl) rfl (.cons 0 rfl .nil) (.cons 0 rfl .nil)
 intro _
 refine au [12,1,2,4,5,0,1] ?_
 refine qe (fun (((x42, x43, x44), (a40, c41)) : ((List (Int × Int) × Int × Int) × (Option Addr × Nat))) => ([(0, .pointer (some ⟨g1, 0, none⟩)), (1, .int .i64 x7), (7, .pointer (some ⟨g14, 0, none⟩)), (10, .slice a29 x31.length c30), (12, .int .i64 (isub .i64 x15.1 (x31.length : Int))), (13, .slice a40 x42.length c41)], [⟨g1, 166, [.int .i64 x43, .slice a4 x3.length c5, .int .i64 x44]⟩, ⟨g14, 26, [.int .i64 x11, .int .i64 x12, .int .i64 x13]⟩], [Ro (eI .i64) 3 1 (.slice a29 x31.length c30) x31, Ro eS129 129 2 (.slice a40 x42.length c41) x42], [Sl (eI .u8) 1 (.slice a4 x3.length c5) x3], kx F x3 x7 x13 x15 x31 x42 x43 x44)) ?_ ?_
 refine av [2,4,13,25,11,24,13,0,1,10] ?_ ?_
 intro _
 refine au [4,3,3,13,25,11,3] ?_
 refine zT ent124 rfl rfl rfl (fun x66 e66 => qc9 F g1 x32 x3 a4 c5 x33 x7 x12 (isub .i64 x15.1 (x31.length : Int)) x66 e66) (.cons 0 rfl .nil) .nil (.consF 0 rfl .nil) (fun x67 _ => ?_) (fun x66 e66 => ?_)
 exact az [25,3,26,6]
 rintro ⟨a68, c69⟩
 refine au [5,0] ?_
 exact qa ((x66.1, x66.2.1, x66.2.2), (a68, c69))
 intro _
 refine au [12] ?_
 exact qdk (Int × Int) eS129 129 2 (qa ((([] : List (Int × Int)), x32, x33), (none, 0)))
 rintro ⟨⟨x42, x43, x44⟩, ⟨a40, c41⟩⟩
 try dsimp only
 refine au [2,4,3,27,0] ?_
 refine qg qgA ?_
 rintro x45 e45 ⟨a46, c47⟩
 refine au [3,14,14,5,5,0,1,2,4,3,25,2,3] ?_
 refine qN 5 ((x45.2 : Int) == 0) [(0, .pointer (some ⟨g1, 0, none⟩)), (1, .int .i64 x7), (7, .pointer (some ⟨g14, 0, none⟩)), (10, .slice a29 x31.length c30), (12, .int .i64 (isub .i64 x15.1 (x31.length : Int))), (14, .slice a46 x45.1.length c47), (71, .bool (((x45.2 : Int) == 0) && (decide ((x45.1.length : Int) ≤ (isub .i64 x15.1 (x31.length : Int))))))] (fun h48 => ?_) (fun h48 => ?_) ?_
 refine qc (os := _) rfl (qD (k := 66) rfl h48 ?_)
 refine au [3,23,3,27,4,24,8] ?_
 refine qd (d := 71) (v := .bool (((x45.2 : Int) == 0) && (decide ((x45.1.length : Int) ≤ (isub .i64 x15.1 (x31.length : Int)))))) rfl (by rw [h48]; simp only [Bool.true_and]) ?_
 exact az [0,24,3]
 refine qc (os := _) rfl (qC (k := 66) rfl h48 ?_)
 refine au [9,9,9,9,24,9] ?_
 refine qd (d := 71) (v := .bool (((x45.2 : Int) == 0) && (decide ((x45.1.length : Int) ≤ (isub .i64 x15.1 (x31.length : Int)))))) rfl (by rw [h48]; simp only [Bool.false_and]) ?_
 exact az [0,24,3]
 refine qc (os := _) rfl (zT ent109 rfl rfl rfl (fun x49 e49 => vd F (((x45.2 : Int) == 0) && (decide ((x45.1.length : Int) ≤ (isub .i64 x15.1 (x31.length : Int))))) x49 e49) .nil .nil .nil (fun x50 _ => ?_) (fun x49 e49 => ?_))
 exact az [25,3,26,6]
 intro _
 refine au [0,1,2] ?_
 refine qn mixed [] [⟨g1, 166, [.int .i64 x43, .slice a4 x3.length c5, .int .i64 x44]⟩, ⟨g14, 26, [.int .i64 x11, .int .i64 x12, .int .i64 x13]⟩] [Sl (eI .u8) 1 (.slice a4 x3.length c5) x3] (.cons 0 rfl (.cons 0 rfl .nil)) (qF 0 rfl qm) 23 rfl ?_
 refine au [6,0,6,1,18,2] ?_
 refine zA 3 (.agg #[.int .i64 x43, .slice a4 x3.length c5]) rfl rfl rfl (qX (i := 0) rfl tf65 rfl rfl (by simp) rfl) ?_
 refine au [6,4,6,5,18,6,25,7,7,6,8,18,9,26,1,10,6,11,6,12,26,8,13,6,14,20,15] ?_
 refine qg qhG ?_
 rintro x54 e54 ⟨a55, c56⟩
 refine au [0,27,9,6,16,6,17,6,18,6,19,6,20,6,21,6,22,24,1] ?_
 refine qs ?_ (by intro c h; cases h)
 refine au [1,2,4,3,25,2] ?_
 refine zT ent109 rfl rfl rfl (fun x57 e57 => vd F ((x54.2.2 : Int) == 0) x57 e57) .nil .nil .nil (fun x58 _ => ?_) (fun x57 e57 => ?_)
 exact az [25,3,26,6]
 intro _
 refine au [0,1,2,4,3,3,24,7,13,24,0,0,1,2,4,3,3,3] ?_
 refine qdh 3 rfl (qdh 1 rfl ?_)
 refine au [28,8] ?_
 refine qv (vs := [.slice a29 x31.length c30, .slice a46 x45.1.length c47, .slice a55 x54.1.length c56]) (ys := ([(x31, (a29, c30)), (x45.1, (a46, c47)), (x54.1, (a55, c56))] : List (List Int × (Option Addr × Nat)))) yR (by decide) rfl Tryz.underlying22 tf59 rfl rfl rfl rfl rfl (by decide) (fun a59 c60 => qcN (inn := iN59) ([x31, x45.1, x54.1] : List (List Int)) ([(a29, c30), (a46, c47), (a55, c56)] : List (Option Addr × Nat)) 0 rfl rfl (qB 2 rfl (qB 1 rfl (qB 0 rfl jq))) ?_)
 refine au [33,1] ?_
 rintro x61 e61 ⟨a62, c63⟩
 refine au [5,0,1,2,4,3,33,2] ?_
 intro x64 e64 _
 refine au [26,11] ?_
 intro h65
 replace h65 := of_decide_eq_true h65
 refine qd (d := 10) (v := .slice a62 x64.length c63) rfl (by rw [h65] <;> rfl) (qd (d := 104) (v := .slice a62 x64.length c63) rfl (by rw [h65] <;> rfl) (qd (d := 105) (v := .slice a62 x64.length c63) rfl (by rw [h65] <;> rfl) ?_))
 refine au [0,1,2,4,3,5,0,1,8] ?_
 exact qay (a62, c63) (.inl rfl) (res1 rfl rfl) rfl (.cons 0 rfl .nil) (.cons 0 rfl .nil)
set_option maxHeartbeats 4000000 in
theorem qc8 {F : Nat} {g1 : Nat} {x2 : Int} {x3 : List Int} {a4 : Option Addr} {c5 : Nat} {x6 : Int} {x7 : Int} {x8 : List Int} {a9 : Option Addr} {c10 : Nat} {x11 : Int} {x12 : Int} {x13 : Int} {r : (List Int × Bool × Int × Int)} (hm : yg F x2 x3 x6 x7 x8 x11 x12 x13 = some r) :
    PureM Tryz.prog 96 [.pointer (some ⟨g1, 0, none⟩), .int .i64 x7, .slice a9 x8.length c10, .agg #[.int .i64 x11, .int .i64 x12, .int .i64 x13]] [⟨g1, 166, [.int .i64 x2, .slice a4 x3.length c5, .int .i64 x6]⟩] [] [Sl (eI .u8) 1 (.slice a4 x3.length c5) x3, Sl (eI .i64) 1 (.slice a9 x8.length c10) x8] (Option Addr × Nat) (fun g => .tuple #[.slice g.1 r.1.length g.2, .bool r.2.1]) (fun _ => [⟨g1, 166, [.int .i64 r.2.2.1, .slice a4 x3.length c5, .int .i64 r.2.2.2]⟩]) (fun g => [Ro (eI .i64) 3 1 (.slice g.1 r.1.length g.2) r.1]) := by
 refine qmC Tryz.func96 rfl Tryz.ntmps96 rfl hm (fun w => ?_)
 refine au [27,6,2,4,24,5] ?_
 intro g14
 refine au [24,6] ?_
 intro g15
 refine au [24,6] ?_
 intro g16
 refine au [0,1,2,4,29,0] ?_
 refine qln rfl rfl ?_
 refine au [0,1,2,4,3,24,7,13,28,4,5,0,1,2,4,3,3,3,26,13] ?_
 refine zT ent108 rfl rfl rfl (fun x17 e17 => qc7 F g1 x2 x3 a4 c5 x6 x7 x8 a9 c10 x11 x12 x13 x17 e17) (.cons 3 rfl .nil) .nil (.consF 0 rfl (.consF 1 rfl .nil)) (fun x18 _ => ?_) (fun x17 e17 => ?_)
 refine au [25,3] ?_
 refine qbl ent107 rfl (.cons 2 rfl (.cons 1 rfl .nil)) (qdC _ _ _ _) ?_
 refine au [25,10] ?_
 exact yb (none, 0) (resL (rs := [.cell 8 59, .cell 9 4]) rfl (.cell (i := 0) rfl tf59 rfl rfl (fun _ => rfl) rfl (.cell (i := 1) rfl tf4 rfl rfl (fun _ => rfl) rfl ResOk.nil)) rfl) (hB := fun h => by subst h; exact (.cons 2 rfl .nil)) (hR := fun h => by subst h; exact (.cons 0 rfl .nil))
 rintro ⟨a19, c20⟩
 refine au [25,14,0,1,2,4,28,5,28,6] ?_
 intro x21 e21 _
 refine au [25,2] ?_
 refine zT ent109 rfl rfl rfl (fun x22 e22 => vd F ((x21 : Int) == 0) x22 e22) .nil .nil .nil (fun x23 _ => ?_) (fun x22 e22 => ?_)
 refine au [25,3] ?_
 refine qbl ent107 rfl (.cons 2 rfl (.cons 1 rfl .nil)) (qdC _ _ _ _) ?_
 refine au [25,10] ?_
 exact yb (none, 0) (resL (rs := [.cell 8 59, .cell 9 4]) rfl (.cell (i := 0) rfl tf59 rfl rfl (fun _ => rfl) rfl (.cell (i := 1) rfl tf4 rfl rfl (fun _ => rfl) rfl ResOk.nil)) rfl) (hB := fun h => by subst h; exact (.cons 2 rfl .nil)) (hR := fun h => by subst h; exact (.cons 0 rfl .nil))
 intro _
 refine au [0,1,2,4] ?_
 refine qj (cells := [.int .i64 0, .slice none 0 0, .bool false]) rfl st183 rfl (by kernel_rfl) rfl ?_
 refine au [24,5] ?_
 intro g24
 refine au [5,0,1,2,4,3,3,28,4,3,33,3,27,15,32,3] ?_
 rintro x25 e25 ⟨a26, c27⟩
 refine au [0,1] ?_
 refine qe (fun ((_, _) : (Unit × Unit)) => ([(0, .pointer (some ⟨g1, 0, none⟩)), (8, .pointer (some ⟨g15, 0, none⟩)), (9, .pointer (some ⟨g16, 0, none⟩)), (10, .int .i64 x6), (11, .pointer (some ⟨g24, 0, none⟩))], [⟨g24, 183, [.int .i64 x25.1, .slice a26 x25.2.1.length c27, .bool x25.2.2]⟩, ⟨g1, 166, [.int .i64 x17.2.1, .slice a4 x3.length c5, .int .i64 x17.2.2]⟩, ⟨g16, 4, [.bool false]⟩, ⟨g15, 59, [.slice a19 x17.1.length c20]⟩], [Ro (eI .u8) 5 1 (.slice a26 x25.2.1.length c27) x25.2.1, Ro (eI .i64) 3 1 (.slice a19 x17.1.length c20) x17.1], [Sl (eI .u8) 1 (.slice a4 x3.length c5) x3], ym F x3 x6 x17 x25)) ?_ ?_
 refine av [26,14] ?_ ?_
 intro h97
 refine qef mixed [8, 9] [] [⟨g24, 183, [.int .i64 x25.1, .slice a26 x25.2.1.length c27, .bool x25.2.2]⟩, ⟨g1, 166, [.int .i64 x17.2.1, .slice a4 x3.length c5, .int .i64 x17.2.2]⟩, ⟨g16, 4, [.bool false]⟩, ⟨g15, 59, [.slice a19 x17.1.length c20]⟩, ⟨g14, 26, [.int .i64 x11, .int .i64 x12, .int .i64 x13]⟩] [Sl (eI .u8) 1 (.slice a4 x3.length c5) x3, Sl (eI .i64) 1 (.slice a9 x8.length c10) x8] (.cons 0 rfl (.cons 0 rfl (.cons 0 rfl (.cons 0 rfl (.cons 0 rfl .nil))))) (qF 0 rfl (qF 1 rfl qm)) 20 rfl ?_
 refine au [30,3,30,4,30,5] ?_
 refine qaw 3 (.bool x25.2.2) rfl rfl rfl (qX (i := 0) rfl tf4 rfl rfl (fun _ => rfl) rfl) rfl ?_
 refine au [30,6,33,4] ?_
 refine qf (d := 40) (v := .bool true) rfl (by rw [h97] <;> rfl) ?_
 refine au [33,5,33,6,33,7] ?_
 refine zn 9 _ rfl rfl rfl (qap rfl inferInstance) rfl (qaw 10 (.int .i64 x25.1) rfl rfl rfl (qX (i := 0) rfl tf3 rfl rfl (fun _ => rfl) rfl) rfl ?_)
 refine au [33,8,33,9] ?_
 refine zn 13 _ rfl rfl rfl (qap rfl inferInstance) rfl (qaw 14 (.int .i64 x17.2.2) rfl rfl rfl (qX (i := 1) rfl tf3 rfl rfl (fun _ => rfl) rfl) rfl (zn 15 _ rfl rfl rfl (qbm rfl) rfl (zn 16 _ rfl rfl rfl (qbm rfl) rfl (zn 17 _ rfl rfl rfl (qbm rfl) rfl ?_))))
 refine au [33,10,20,19] ?_
 refine zT ent109 rfl rfl rfl (fun x98 e98 => vd F ((x25.1 : Int) == (isub .i64 x17.2.2 x6)) x98 e98) .nil .nil .nil (fun x99 _ => ?_) (fun x98 e98 => ?_)
 refine au [25,3] ?_
 refine qhs (l' := [(8, .pointer (some ⟨g15, 0, none⟩)), (9, .pointer (some ⟨g16, 0, none⟩))]) (qcF rfl rfl (qcF rfl rfl qi4)) ?_
 refine au [25,3] ?_
 refine qbl ent107 rfl (.cons 3 rfl (.cons 2 rfl .nil)) (qdC _ _ _ _) ?_
 refine au [25,10] ?_
 exact yb (none, 0) (resL (rs := [.cell 8 59, .cell 9 4]) rfl (.cell (i := 0) rfl tf59 rfl rfl (fun _ => rfl) rfl (.cell (i := 1) rfl tf4 rfl rfl (fun _ => rfl) rfl ResOk.nil)) rfl) (hB := fun h => by subst h; exact (.cons 3 rfl .nil)) (hR := fun h => by subst h; exact (.cons 0 rfl .nil))
 intro _
 refine au [0,33,11,24,1] ?_
 refine qjy ?_ (by intro c h; cases h)
 exact az [25,15]
 intro h97
 refine qef mixed [8, 9] [] [⟨g24, 183, [.int .i64 x25.1, .slice a26 x25.2.1.length c27, .bool x25.2.2]⟩, ⟨g1, 166, [.int .i64 x17.2.1, .slice a4 x3.length c5, .int .i64 x17.2.2]⟩, ⟨g16, 4, [.bool false]⟩, ⟨g15, 59, [.slice a19 x17.1.length c20]⟩, ⟨g14, 26, [.int .i64 x11, .int .i64 x12, .int .i64 x13]⟩] [Sl (eI .u8) 1 (.slice a4 x3.length c5) x3, Sl (eI .i64) 1 (.slice a9 x8.length c10) x8] (.cons 0 rfl (.cons 0 rfl (.cons 0 rfl (.cons 0 rfl (.cons 0 rfl .nil))))) (qF 0 rfl (qF 1 rfl qm)) 20 rfl ?_
 refine au [30,3,30,4,30,5] ?_
 refine qaw 3 (.bool x25.2.2) rfl rfl rfl (qX (i := 0) rfl tf4 rfl rfl (fun _ => rfl) rfl) rfl ?_
 refine au [30,6,33,4] ?_
 refine qf (d := 40) (v := .bool false) rfl (by rw [h97] <;> rfl) (yz 6 rfl rfl rfl rfl (yz 7 rfl rfl rfl rfl (yz 8 rfl rfl rfl rfl (yz 9 rfl rfl rfl rfl (yz 10 rfl rfl rfl rfl (yz 11 rfl rfl rfl rfl (yz 12 rfl rfl rfl rfl (yz 13 rfl rfl rfl rfl (yz 14 rfl rfl rfl rfl (yz 15 rfl rfl rfl rfl (yz 16 rfl rfl rfl rfl (yz 17 rfl rfl rfl rfl ?_))))))))))))
 refine au [33,10,20,19] ?_
 refine zT ent109 rfl rfl rfl (fun x100 e100 => vd F false x100 e100) .nil .nil .nil (fun x101 _ => ?_) (fun x100 e100 => ?_)
 refine au [25,3] ?_
 refine qhs (l' := [(8, .pointer (some ⟨g15, 0, none⟩)), (9, .pointer (some ⟨g16, 0, none⟩))]) (qcF rfl rfl (qcF rfl rfl qi4)) ?_
 refine au [25,3] ?_
 refine qbl ent107 rfl (.cons 3 rfl (.cons 2 rfl .nil)) (qdC _ _ _ _) ?_
 refine au [25,10] ?_
 exact yb (none, 0) (resL (rs := [.cell 8 59, .cell 9 4]) rfl (.cell (i := 0) rfl tf59 rfl rfl (fun _ => rfl) rfl (.cell (i := 1) rfl tf4 rfl rfl (fun _ => rfl) rfl ResOk.nil)) rfl) (hB := fun h => by subst h; exact (.cons 3 rfl .nil)) (hR := fun h => by subst h; exact (.cons 0 rfl .nil))
 intro _
 refine au [0,33,11,24,1] ?_
 refine qjy ?_ (by intro c h; cases h)
 exact az [25,15]
 rintro ⟨_, _⟩
 try dsimp only
 refine qe (fun ((_, _) : (Unit × Unit)) => ([(8, .pointer (some ⟨g15, 0, none⟩)), (9, .pointer (some ⟨g16, 0, none⟩))], [⟨g1, 166, [.int .i64 x17.2.1, .slice a4 x3.length c5, .int .i64 x17.2.2]⟩, ⟨g16, 4, [.bool false]⟩, ⟨g15, 59, [.slice a19 x17.1.length c20]⟩], [Ro (eI .i64) 3 1 (.slice a19 x17.1.length c20) x17.1], [Sl (eI .u8) 1 (.slice a4 x3.length c5) x3], qaq F x17)) ?_ ?_
 refine au [2,4,3,24,7,13,13,21,3,0,1,15] ?_
 refine qk (fun ((x75, _) : (Int × Unit)) => ([(0, .pointer (some ⟨g1, 0, none⟩)), (8, .pointer (some ⟨g15, 0, none⟩)), (9, .pointer (some ⟨g16, 0, none⟩)), (10, .int .i64 x6), (11, .pointer (some ⟨g24, 0, none⟩)), (59, .int .i64 x25.1), (60, .int .i64 x75)], [⟨g24, 183, [.int .i64 x25.1, .slice a26 x25.2.1.length c27, .bool x25.2.2]⟩, ⟨g1, 166, [.int .i64 x17.2.1, .slice a4 x3.length c5, .int .i64 x17.2.2]⟩, ⟨g16, 4, [.bool false]⟩, ⟨g15, 59, [.slice a19 x17.1.length c20]⟩], [Ro (eI .u8) 5 1 (.slice a26 x25.2.1.length c27) x25.2.1, Ro (eI .i64) 3 1 (.slice a19 x17.1.length c20) x17.1], [Sl (eI .u8) 1 (.slice a4 x3.length c5) x3])) (fun k (s : (Int × Unit)) => q9 F x3 x6 x17 x25 k s.1) (0, ()) F ?_
 intro k86
 rintro ⟨x75, _⟩
 try dsimp only
 refine qA (m' := yl F x3 x6 x17 x25 (q9 F x3 x6 x17 x25 k86) x75) rfl ?_
 refine av [2,4,24,2,0,1,2,10] ?_ ?_
 intro _
 refine au [12,1,2,15,2,4,3,5,0,1] ?_
 refine qef mixed [8, 9] [] [⟨g24, 183, [.int .i64 x25.1, .slice a26 x25.2.1.length c27, .bool x25.2.2]⟩, ⟨g1, 166, [.int .i64 x17.2.1, .slice a4 x3.length c5, .int .i64 x17.2.2]⟩, ⟨g16, 4, [.bool false]⟩, ⟨g15, 59, [.slice a19 x17.1.length c20]⟩] [Sl (eI .u8) 1 (.slice a4 x3.length c5) x3] (.cons 0 rfl (.cons 0 rfl (.cons 0 rfl (.cons 0 rfl .nil)))) (qF 0 rfl qm) 16 rfl ?_
 refine au [30,3,30,4,30,5] ?_
 refine qaw 3 (.agg #[.int .i64 x25.1, .slice a26 x25.2.1.length c27]) rfl rfl rfl (qX (i := 0) rfl tf65 rfl rfl (by simp) rfl) rfl ?_
 refine au [30,6,33,5,33,6,33,7] ?_
 refine qaw 9 (.agg #[.int .i64 x17.2.1, .slice a4 x3.length c5]) rfl rfl rfl (qX (i := 1) rfl tf65 rfl rfl (by simp) rfl) rfl (zn 10 _ rfl rfl rfl (qbm rfl) rfl ?_)
 refine au [33,8,33,9,20,5,28,3] ?_
 intro x92 e92 _
 refine au [0,30,7,20,13,28,3] ?_
 intro x93 e93 _
 refine au [0,30,7] ?_
 refine zn 14 _ rfl rfl rfl (qbm rfl) rfl ?_
 refine au [20,15] ?_
 refine zT ent109 rfl rfl rfl (fun x94 e94 => vd F ((x92 : Int) == x93) x94 e94) .nil .nil .nil (fun x95 _ => ?_) (fun x94 e94 => ?_)
 refine au [25,3] ?_
 refine qhs (l' := [(8, .pointer (some ⟨g15, 0, none⟩)), (9, .pointer (some ⟨g16, 0, none⟩))]) (qcF rfl rfl (qcF rfl rfl qi4)) ?_
 refine au [27,2,25,3,25,3,27,2,25,3] ?_
 refine qbl ent107 rfl (.cons 3 rfl (.cons 2 rfl .nil)) (qdC _ _ _ _) ?_
 refine au [25,10] ?_
 exact yb (none, 0) (resL (rs := [.cell 8 59, .cell 9 4]) rfl (.cell (i := 0) rfl tf59 rfl rfl (fun _ => rfl) rfl (.cell (i := 1) rfl tf4 rfl rfl (fun _ => rfl) rfl ResOk.nil)) rfl) (hB := fun h => by subst h; exact (.cons 3 rfl .nil)) (hR := fun h => by subst h; exact (.cons 0 rfl .nil))
 intro _
 refine au [0,30,7,24,1] ?_
 refine qjy ?_ (by intro c h; cases h)
 refine au [24,4,1,4,16,3,0] ?_
 exact qi (iadd .i64 x75 1, ())
 intro _
 exact az [24,10,17,17,24,11,25,15]
 rintro ⟨_, _⟩
 try dsimp only
 refine au [2,4,28,5,25,14,25,5,0,1,8] ?_
 exact qjz (.inl rfl) ent107 rfl (qnY _ _) (yb (a19, c20) (resL (rs := [.cell 8 59, .cell 9 4]) rfl (.cell (i := 2) rfl tf59 rfl rfl (fun _ => rfl) rfl (.cell (i := 1) rfl tf4 rfl rfl (fun _ => rfl) rfl ResOk.nil)) rfl) (hB := fun h => by subst h; exact (.cons 0 rfl .nil)) (hR := fun h => by subst h; exact (.cons 0 rfl .nil)))
theorem qhS {F : Nat} {x1 : Int} {x2 : List Int} {a3 : Option Addr} {c4 : Nat} {x5 : Int} {x6 : Int} {x7 : List Int} {a8 : Option Addr} {c9 : Nat} {x10 : Int} {x11 : Int} {x12 : Int} {r : (List Int × Int × Int)} (hm : j4 F x1 x2 x5 x6 x7 x10 x11 x12 = some r) :
    Pure Tryz.prog 83 [.agg #[.int .i64 x1, .slice a3 x2.length c4], .int .i64 x5, .int .i64 x6, .slice a8 x7.length c9, .agg #[.int .i64 x10, .int .i64 x11, .int .i64 x12]] [Sl (eI .u8) 1 (.slice a3 x2.length c4) x2, Sl (eI .i64) 1 (.slice a8 x7.length c9) x7] (Option Addr × Nat) (fun g => .tuple #[.slice g.1 r.1.length g.2, .int .i64 r.2.1, .int .i64 r.2.2]) (fun g => [Ro (eI .i64) 3 1 (.slice g.1 r.1.length g.2) r.1]) (fun _ => []) := by
 refine qh Tryz.func83 rfl Tryz.ntmps83 rfl hm (fun w => ?_)
 refine au [29,9,2,4,24,5] ?_
 intro g13
 refine au [24,5] ?_
 intro g14
 refine au [5,5,5,0,1,2,4,25,8,3] ?_
 refine qj (cells := [.int .i64 x1, .slice a3 x2.length c4, .int .i64 x5]) rfl st166 rfl (by kernel_rfl) rfl ?_
 refine au [24,5] ?_
 intro g15
 refine au [5,0,1,2,4,3,3,3,25,8] ?_
 refine qT qc8 ?_
 rintro x16 e16 ⟨a17, c18⟩
 refine av [3,14,14,5,5,0,1,2,2,4,3,25,1,0,1,10] ?_ ?_
 intro _
 refine au [2,4,5,5,5,0,1,8,11,25,10] ?_
 exact qo (none, 0)
 intro _
 refine au [12,1,2] ?_
 refine qn mixed [] [⟨g15, 166, [.int .i64 x16.2.2.1, .slice a3 x2.length c4, .int .i64 x16.2.2.2]⟩, ⟨g14, 26, [.int .i64 x10, .int .i64 x11, .int .i64 x12]⟩, ⟨g13, 65, [.int .i64 x1, .slice a3 x2.length c4]⟩] [Sl (eI .u8) 1 (.slice a3 x2.length c4) x2, Sl (eI .i64) 1 (.slice a8 x7.length c9) x7] (.cons 0 rfl (.cons 0 rfl (.cons 0 rfl .nil))) (qF 0 rfl (qF 1 rfl qm)) 8 rfl ?_
 refine au [6,0,6,1,6,2,18,3,25,7,4,6,5,6,6,6,7,24,1] ?_
 refine qs ?_ (by intro c h; cases h)
 refine au [1,8] ?_
 exact qo (a17, c18)
set_option maxHeartbeats 4000000 in
theorem qgy {F : Nat} {x1 : Int} {x2 : Int} {x3 : Int} {x4 : Int} {x5 : Int} {x6 : List Int} {a7 : Option Addr} {c8 : Nat} {r : (List (List Int) × Bool)} (hm : qbZ F x1 x2 x3 x4 x5 x6 = some r) :
    Pure Tryz.prog 65 [.agg #[.int .i64 x1, .int .i64 x2, .int .i64 x3, .int .i64 x4, .int .i64 x5, .slice a7 x6.length c8]] [Sl (eI .u8) 1 (.slice a7 x6.length c8) x6] (Option Addr × (Nat × List (Option Addr × Nat))) (fun g => .tuple #[.slice g.1 r.1.length g.2.1, .bool r.2]) (fun g => [RoN eN59 rN59 59 1 (.slice g.1 r.1.length g.2.1) r.1 g.2.2 []]) (fun _ => []) := by
 refine qh Tryz.func65 rfl Tryz.ntmps65 rfl hm (fun w => ?_)
 refine au [25,4,2,4,24,5] ?_
 intro g9
 refine au [5,5,0,1,2,4,5,0,1] ?_
 refine qe (fun (((x261, x262), (a259, c260)) : ((List (List Int) × Int) × (Option Addr × (Nat × List (Option Addr × Nat))))) => ([(1, .pointer (some ⟨g9, 0, none⟩)), (2, .slice a259 x261.length c260.1), (4, .int .i64 x262)], [⟨g9, 75, [.int .i64 x1, .int .i64 x2, .int .i64 x3, .int .i64 x4, .int .i64 x5, .slice a7 x6.length c8]⟩], [RoN eN59 rN59 59 1 (.slice a259 x261.length c260.1) x261 c260.2 []], [Sl (eI .u8) 1 (.slice a7 x6.length c8) x6], qaT F x5 x261 x262)) ?_ ?_
 refine au [2,4,13,21,3,0,1,15,32,8] ?_
 refine qk (fun (((x348, x349, x350), (a346, c347)) : ((List (List Int) × Int × Int) × (Option Addr × (Nat × List (Option Addr × Nat))))) => ([(1, .pointer (some ⟨g9, 0, none⟩)), (2, .slice a346 x348.length c347.1), (4, .int .i64 x349), (14, .int .i64 x1), (15, .int .i64 x350)], [⟨g9, 75, [.int .i64 x1, .int .i64 x2, .int .i64 x3, .int .i64 x4, .int .i64 x5, .slice a7 x6.length c8]⟩], [RoN eN59 rN59 59 1 (.slice a346 x348.length c347.1) x348 c347.2 []], [Sl (eI .u8) 1 (.slice a7 x6.length c8) x6])) (fun k (s : ((List (List Int) × Int × Int) × (Option Addr × (Nat × List (Option Addr × Nat))))) => kp F x1 x2 x3 x4 x5 x6 k s.1) ((([] : List (List Int)), 0, 0), (none, (0, ([] : List (Option Addr × Nat))))) F ?_
 intro k431
 rintro ⟨⟨x348, x349, x350⟩, ⟨a346, c347⟩⟩
 try dsimp only
 refine qA (m' := jQ F x1 x2 x3 x4 x5 x6 (kp F x1 x2 x3 x4 x5 x6 k431) x348 x349 x350) rfl ?_
 refine av [2,4,24,2,0,1,2,10] ?_ ?_
 intro _
 refine au [12,1] ?_
 refine qe (fun (((x472, x473), (a470, c471)) : ((List (List Int) × Int) × (Option Addr × (Nat × List (Option Addr × Nat))))) => ([(1, .pointer (some ⟨g9, 0, none⟩)), (2, .slice a470 x472.length c471.1), (4, .int .i64 x473), (14, .int .i64 x1), (15, .int .i64 x350)], [⟨g9, 75, [.int .i64 x1, .int .i64 x2, .int .i64 x3, .int .i64 x4, .int .i64 x5, .slice a7 x6.length c8]⟩], [RoN eN59 rN59 59 1 (.slice a470 x472.length c471.1) x472 c471.2 []], [Sl (eI .u8) 1 (.slice a7 x6.length c8) x6], vy F (kp F x1 x2 x3 x4 x5 x6 k431) x350 x472 x473)) ?_ ?_
 refine au [15,2,4,3,5,0,1,2,4,24,15,3,3] ?_
 refine qg qiX ?_
 intro x474 e474 _
 refine av [3,14,14,14,5,5,5,0,1,2,2,4,3,25,1,0,1,10] ?_ ?_
 intro _
 refine au [2,4,5,5,0,1,8,11,22,11,11,22,11,25,13] ?_
 exact qo (none, (0, ([] : List (Option Addr × Nat))))
 intro _
 refine av [12,1,2,4,5,0,1,2,2,4,3,24,13,0,1,10] ?_ ?_
 intro _
 refine au [4,3,3,3,25,0] ?_
 refine qnk (j := 0) rfl UnF.u inferInstance rfl rfl rfl rfl ?_
 intro x482 e482 g483 h484 g485 h486
 refine qls (i := 0) rfl h484 (List.not_mem_nil) (qju (j := 1) (p := (x482, g483)) yR rfl rfl tf59 rfl h486 h484 rfl (fun _ => rfl) rfl rfl ?_)
 refine au [5,0,1,2,4,13,24,15,24,6] ?_
 intro g487
 refine au [24,0,0,1,2,4,3,13,24,0,0,1,2,4,13,25,8,3,3,3,24,15,33,12] ?_
 rintro x488 e488 ⟨a489, c490⟩
 refine au [3,14,14,14,5,5,5,0,1,2,2] ?_
 refine qjp (rin := rN59) (p := (x482, g483)) (i := 1) (k := 0) (.cons 1 rfl .nil) rfl rfl h484 ?_
 refine av [4,3,25,6,0,1,10] ?_ ?_
 intro _
 refine au [2,4,5,5,0,1,8,11,22,11,11,22,11,25,13] ?_
 exact qo (none, (0, ([] : List (Option Addr × Nat))))
 intro _
 refine au [12,1,4,3,3] ?_
 refine qv (vs := [.slice a489 x488.1.length c490]) (ys := ([(x488.1, (a489, c490))] : List (List Int × (Option Addr × Nat)))) yR (by decide) rfl Tryz.underlying22 tf59 rfl rfl rfl rfl rfl (by decide) (fun a492 c493 => qcd (rin := rN59) (i := 0) ([x488.1] : List (List Int)) ([(a489, c490)] : List (Option Addr × Nat)) rfl rfl (.cons 1 rfl .nil) ?_)
 refine au [32,9] ?_
 intro x494 e494 a495 c496
 refine au [3,5,5,0,24,4] ?_
 exact qa ((x494, x488.2.1), (a495, (c496, (c347.2 ++ ([(a489, c490)] : List (Option Addr × Nat))))))
 intro _
 refine au [12,1,2,4,13,24,15,24,6] ?_
 intro g498
 refine au [24,0,0,1,2,4,3,13,24,0,0,1,2,4,13,25,8,3,3,3,24,15,27,0,33,12] ?_
 rintro x499 e499 ⟨a500, c501⟩
 refine av [3,14,14,14,5,5,5,0,1,2,2,4,3,25,6,0,1,10] ?_ ?_
 intro _
 refine au [2,4,5,5,0,1,8,11,22,11,11,22,11,25,13] ?_
 exact qo (none, (0, ([] : List (Option Addr × Nat))))
 intro _
 refine au [12,1,4,3,3] ?_
 refine qv (vs := [.slice a500 x499.1.length c501]) (ys := ([(x499.1, (a500, c501))] : List (List Int × (Option Addr × Nat)))) yR (by decide) rfl Tryz.underlying22 tf59 rfl rfl rfl rfl rfl (by decide) (fun a503 c504 => qcd (rin := rN59) (i := 0) ([x499.1] : List (List Int)) ([(a500, c501)] : List (Option Addr × Nat)) rfl rfl (.cons 0 rfl .nil) (qiJ yR rfl UnF.u inferInstance rfl rfl rfl rfl (.cons 2 rfl (.cons 0 rfl .nil)) rfl rfl ?_))
 intro x505 e505 a506 c507
 refine au [3,5,5,0,24,4] ?_
 exact qa ((x505, x499.2.1), (a506, (c507, (c347.2 ++ ([(a500, c501)] : List (Option Addr × Nat))))))
 rintro ⟨⟨x472, x473⟩, ⟨a470, c471⟩⟩
 try dsimp only
 refine au [4,16,3,0] ?_
 exact qi ((x472, x473, iadd .i64 x350 1), (a470, c471))
 intro _
 refine au [24,10,17,17,24,11] ?_
 exact qa ((x348, x349), (a346, c347))
 rintro ⟨⟨x261, x262⟩, ⟨a259, c260⟩⟩
 try dsimp only
 refine au [2] ?_
 refine qn mixed [] [⟨g9, 75, [.int .i64 x1, .int .i64 x2, .int .i64 x3, .int .i64 x4, .int .i64 x5, .slice a7 x6.length c8]⟩] [Sl (eI .u8) 1 (.slice a7 x6.length c8) x6] (.cons 0 rfl .nil) (qF 0 rfl qm) 8 rfl ?_
 refine au [6,0,6,1,18,2,18,3,25,7,4,6,5,6,6,6,7,24,1] ?_
 refine qs ?_ (by intro c h; cases h)
 refine au [1,8] ?_
 exact qo (a259, c260)
set_option maxHeartbeats 4000000 in
theorem qbD {F : Nat} {x1 : List Int} {a2 : Option Addr} {c3 : Nat} {x4 : List Int} {a5 : Option Addr} {c6 : Nat} {r : Bool} (hm : kD F x1 x4 = some r) :
    Pure Tryz.prog 66 [.slice a2 x1.length c3, .slice a5 x4.length c6] [Sl (eI .u8) 1 (.slice a2 x1.length c3) x1, Sl (eI .u8) 1 (.slice a5 x4.length c6) x4] Unit (fun _ => .bool r) (fun _ => []) (fun _ => []) := by
 refine qh Tryz.func66 rfl Tryz.ntmps66 rfl hm (fun w => ?_)
 refine av [24,12,2,4,5,0,1,2,2,4,3,23,3,23,25,6,0,1,10] ?_ ?_
 intro _
 exact az [2,4,5,0,1,8,11,19]
 intro _
 refine au [12,1] ?_
 refine qe (fun ((_, _) : (Unit × Unit)) => ([], [], [], [], jd F)) ?_ ?_
 refine au [2,4,3,23,3,0,1,15] ?_
 refine qk (fun ((x154, _) : (Int × Unit)) => ([(0, .slice a2 x1.length c3), (1, .slice a5 x4.length c6), (12, .int .i64 (x1.length : Int)), (13, .int .i64 x154)], [], [], [Sl (eI .u8) 1 (.slice a2 x1.length c3) x1, Sl (eI .u8) 1 (.slice a5 x4.length c6) x4])) (fun k (s : (Int × Unit)) => qZ F x1 x4 k s.1) (0, ()) F ?_
 intro k191
 rintro ⟨x154, _⟩
 try dsimp only
 refine qA (m' := zU F x1 x4 (qZ F x1 x4 k191) x154) rfl ?_
 refine av [2,4,24,2,0,1,2,10] ?_ ?_
 intro _
 refine au [12,1,2,15,2,4,3,5,0,1,2,29,15] ?_
 intro x218 e218 b219 o220 h221
 replace h221 : a2 = some ⟨b219, o220, none⟩ := h221
 refine au [33,13] ?_
 intro x222 e222 b223 o224 h225
 replace h225 : a5 = some ⟨b223, o224, none⟩ := h225
 refine qn mixed [] [] [qR b223 (o224 + x154.toNat * 1) ((eI .u8) x222), qR b219 (o220 + x154.toNat * 1) ((eI .u8) x218), Sl (eI .u8) 1 (.slice a2 x1.length c3) x1, Sl (eI .u8) 1 (.slice a5 x4.length c6) x4] .nil (qF 0 rfl (qF 1 rfl (qF 2 rfl (qF 3 rfl qm)))) 9 rfl ?_
 refine au [6,0,6,1] ?_
 refine qf (d := 16) (v := .slice (some ⟨b219, o220, none⟩) x1.length c3) rfl (by rw [h221] <;> rfl) (qu 2 (.pointer (some ⟨b219, (o220 + x154.toNat * 1), none⟩)) rfl rfl rfl (qaW Tryz.underlying27 tf5 rfl rfl (zG e218).1 (qav e218)) (qf (d := 16) (v := .slice a2 x1.length c3) rfl (by rw [h221] <;> rfl) (zr 3 (.int .u8 x218) [] rfl rfl rfl (vF (j := 1) rfl tf5 rfl rfl (fun _ => rfl) rfl) ?_)))
 refine au [6,4,6,5] ?_
 refine qf (d := 20) (v := .slice (some ⟨b223, o224, none⟩) x4.length c6) rfl (by rw [h225] <;> rfl) (qu 6 (.pointer (some ⟨b223, (o224 + x154.toNat * 1), none⟩)) rfl rfl rfl (qaW Tryz.underlying27 tf5 rfl rfl (zG e222).1 (qav e222)) (qf (d := 20) (v := .slice a5 x4.length c6) rfl (by rw [h225] <;> rfl) (zr 7 (.int .u8 x222) [] rfl rfl rfl (vF (j := 0) rfl tf5 rfl rfl (fun _ => rfl) rfl) ?_)))
 refine au [6,8,24,1] ?_
 refine qs ?_ (by intro c h; cases h)
 refine av [1,10] ?_ ?_
 intro _
 exact az [2,4,5,0,1,8,22,11,11,22,11,19]
 intro _
 refine au [12,24,4,1,4,16,3,0] ?_
 exact qi (iadd .i64 x154 1, ())
 intro _
 exact az [24,10,17,17,24,11,25,15]
 rintro ⟨_, _⟩
 try dsimp only
 exact az [2,4,5,0,1,8,19]
set_option maxHeartbeats 4000000 in
theorem qhN {F : Nat} {x1 : Int} {x2 : Int} {x3 : Int} {x4 : Int} {x5 : Int} {x6 : List Int} {a7 : Option Addr} {c8 : Nat} {r : (List (List Int) × Int)} (hm : qbr F x1 x2 x3 x4 x5 x6 = some r) :
    Pure Tryz.prog 51 [.agg #[.int .i64 x1, .int .i64 x2, .int .i64 x3, .int .i64 x4, .int .i64 x5, .slice a7 x6.length c8]] [Sl (eI .u8) 1 (.slice a7 x6.length c8) x6] (Option Addr × (Nat × List (Option Addr × Nat))) (fun g => .tuple #[.agg #[.slice g.1 r.1.length g.2.1], .int .i64 r.2]) (fun g => [RoN eN59 rN59 59 1 (.slice g.1 r.1.length g.2.1) r.1 g.2.2 []]) (fun _ => []) := by
 refine qh Tryz.func51 rfl Tryz.ntmps51 rfl hm (fun w => ?_)
 refine au [25,4,2,4,24,5] ?_
 intro g9
 refine au [24,6] ?_
 intro g10
 refine au [5,0,1,2,2,4,25,8] ?_
 refine qg qgw ?_
 intro x13 e13 _
 refine av [5,0,1,2,4,3,25,6,0,1,10] ?_ ?_
 intro _
 refine au [2,4] ?_
 refine qj (cells := [.slice none 0 0]) rfl st24 rfl (by kernel_rfl) rfl ?_
 refine au [3,24,0,5,0,1,8,11,25,13] ?_
 exact qz (none, (0, ([] : List (Option Addr × Nat)))) (resL (rs := [.cell 2 24, .tmp 3]) rfl (.cell (i := 0) rfl tf24 rfl rfl (by simp) rfl (.tmp rfl ResOk.nil)) rfl) (fun h => by subst h; exact (.cons 0 rfl .nil))
 intro _
 refine au [12,1,2,4,25,8] ?_
 refine qg qgy ?_
 rintro x14 e14 ⟨a15, c16⟩
 refine av [3,14,14,5,5,0,1,2,2,4,3,25,1,0,1,10] ?_ ?_
 intro _
 refine au [2,4] ?_
 refine qj (cells := [.slice none 0 0]) rfl st24 rfl (by kernel_rfl) rfl ?_
 refine au [24,0,5,0,1,8,11,25,13] ?_
 exact qz (none, (0, ([] : List (Option Addr × Nat)))) (resL (rs := [.cell 2 24, .tmp 3]) rfl (.cell (i := 0) rfl tf24 rfl rfl (by simp) rfl (.tmp rfl ResOk.nil)) rfl) (fun h => by subst h; exact (.cons 0 rfl .nil))
 intro _
 refine au [12,1,2,4,3] ?_
 refine qj (cells := [.slice a15 x14.1.length c16.1]) rfl st24 rfl (by kernel_rfl) rfl ?_
 refine au [24,6] ?_
 intro g18
 refine au [24,0,0,1,2,2,4,24,15,13,26,13,32,5] ?_
 rintro x28 e28 ⟨a29, c30⟩
 refine au [3,14,14,24,6] ?_
 intro g31
 refine au [24,0,5,0,1,2,4,3,25,6,3] ?_
 refine yA 9 (fun ((x34, _) : (Bool × Unit)) => ([(2, .pointer (some ⟨g10, 0, none⟩)), (7, .pointer (some ⟨g18, 0, none⟩)), (44, .bool x34)], [⟨g18, 24, [.slice a15 x14.1.length c16.1]⟩, ⟨g10, 24, [.slice none 0 0]⟩], [RoN eN59 rN59 59 1 (.slice a15 x14.1.length c16.1) x14.1 c16.2 []], [], qaf F x14 x34)) ?_ ?_
 refine qc (os := _) rfl ?_
 refine av [26,4] ?_ ?_
 intro h32
 refine qD (k := 35) rfl h32 ?_
 refine au [9,9,9,9,9,9,9,9,24,8,0] ?_
 exact qa (true, ())
 intro h32
 refine qC (k := 35) rfl h32 ?_
 refine au [13,13,21,13,13,28,4] ?_
 refine qg qbD ?_
 intro x36 e36 _
 refine au [25,1,24,9,0] ?_
 exact qa ((!x36), ())
 rintro ⟨x34, _⟩
 try dsimp only
 refine qc (os := _) rfl ?_
 refine av [0,1,10] ?_ ?_
 intro _
 refine au [2,4] ?_
 refine qj (cells := [.slice none 0 0]) rfl st24 rfl (by kernel_rfl) rfl ?_
 refine au [25,5,5,0,1,8,11,25,13] ?_
 exact qz (none, (0, ([] : List (Option Addr × Nat)))) (resL (rs := [.cell 2 24, .tmp 3]) rfl (.cell (i := 1) rfl tf24 rfl rfl (by simp) rfl (.tmp rfl ResOk.nil)) rfl) (fun h => by subst h; exact (.cons 0 rfl .nil))
 intro _
 refine au [12,1,2,4,24,15,25,5,5,0,1,8] ?_
 exact qz (a15, c16) (resL (rs := [.cell 2 24, .tmp 3]) rfl (.cell (i := 1) rfl tf24 rfl rfl (by simp) rfl (.tmp rfl ResOk.nil)) rfl) (fun h => by subst h; exact (.cons 0 rfl .nil))
set_option maxHeartbeats 4000000 in
theorem qc1 (F : Nat) (g1 : Nat) (x2 : List Int) (a3 : Option Addr) (c4 : Nat) (x5 : Int) (x6 : Int) (x7 : Bool) (r : (List (List Int) × Bool × Int × Int × Bool)) (hm : vk F x2 x5 x6 x7 = some r) :
    PureM Tryz.prog 37 [.pointer (some ⟨g1, 0, none⟩)] [⟨g1, 80, [.slice a3 x2.length c4, .int .i64 x5, .int .i64 x6, .bool x7]⟩] [] [Sl (eI .u8) 1 (.slice a3 x2.length c4) x2] (Option Addr × (Nat × List (Option Addr × Nat))) (fun g => .tuple #[.agg #[.slice g.1 r.1.length g.2.1], .bool r.2.1]) (fun _ => [⟨g1, 80, [.slice a3 x2.length c4, .int .i64 r.2.2.1, .int .i64 r.2.2.2.1, .bool r.2.2.2.2]⟩]) (fun g => [RoN eN59 rN59 59 1 (.slice g.1 r.1.length g.2.1) r.1 g.2.2 []]) := by
 refine zp Tryz.func37 rfl Tryz.ntmps37 rfl hm (fun w => ?_)
 refine au [25,4,2,4,24,6] ?_
 intro g8
 refine au [5,0,1,2,4,3,27,1] ?_
 intro x9 e9 _
 refine qj (cells := [.int .i64 x9.1, .int .i64 0, .int .i64 0, .int .i64 0, .int .i64 0, .slice none 0 0]) rfl st75 rfl (by kernel_rfl) rfl ?_
 refine au [24,6] ?_
 intro g10
 refine au [24,0,0,1,2,4,3,27,1] ?_
 intro x11 e11 _
 refine au [3,27,1] ?_
 intro x12 e12 _
 refine au [3,27,1] ?_
 intro x13 e13 _
 refine qj (cells := [.int .i64 x11.1, .int .i64 x12.1, .int .i64 x13.1]) rfl st26 rfl (by kernel_rfl) rfl ?_
 refine au [13,25,5,0,1,2,4,3,27,1] ?_
 intro x14 e14 _
 refine av [13,13,25,5,0,1,2,2,4,3,24,7,13,21,0,1,10] ?_ ?_
 intro _
 refine au [2,4] ?_
 refine qj (cells := [.slice none 0 0]) rfl st24 rfl (by kernel_rfl) rfl ?_
 refine au [25,14,5,0,1,8,11,25,13] ?_
 exact yb (none, (0, ([] : List (Option Addr × Nat)))) (resL (rs := [.cell 2 24, .tmp 3]) rfl (.cell (i := 2) rfl tf24 rfl rfl (by simp) rfl (.tmp rfl ResOk.nil)) rfl) (hB := fun h => by subst h; exact (.cons 0 rfl .nil)) (hR := fun h => by subst h; exact (.cons 0 rfl .nil))
 intro _
 refine au [12,1,2] ?_
 refine qiF 0 (qt .u8) rfl ?_
 intro x24 e24 a25 c26 h27 h28
 refine qn mixed [] [⟨g1, 80, [.slice a3 x2.length c4, .int .i64 x14.2.1, .int .i64 x14.2.2.1, .bool x14.2.2.2]⟩, ⟨g8, 24, [.slice none 0 0]⟩] [Sl (eI .u8) 1 (.slice a25 x24.length c26) x24, Sl (eI .u8) 1 (.slice a3 x2.length c4) x2] (.cons 0 rfl (.cons 1 rfl .nil)) (qF 0 rfl (qF 1 rfl qm)) 13 rfl ?_
 refine au [6,0,6,1,18,2,25,7,3,6,4,6,5,18,6,25,7,7] ?_
 refine qu 8 (.slice a25 x24.length c26) rfl rfl rfl (qnB Tryz.underlying27 tf5 rfl rfl rfl e24 h28 h27) ?_
 refine au [20,9,31,2] ?_
 rintro x29 e29 ⟨a30, c31⟩
 refine au [0,33,14,18,10,18,11,20,12,25,5,0,33,14,24,1] ?_
 refine qs ?_ (by intro c h; cases h)
 refine au [1,2,2,4,13,25,8,32,10] ?_
 intro x34 e34 _
 refine av [25,6,0,1,10] ?_ ?_
 intro _
 refine au [2,4] ?_
 refine qj (cells := [.slice none 0 0]) rfl st24 rfl (by kernel_rfl) rfl ?_
 refine au [25,14,5,0,1,8,11,25,13] ?_
 exact yb (none, (0, ([] : List (Option Addr × Nat)))) (resL (rs := [.cell 2 24, .tmp 3]) rfl (.cell (i := 2) rfl tf24 rfl rfl (by simp) rfl (.tmp rfl ResOk.nil)) rfl) (hB := fun h => by subst h; exact (.cons 0 rfl .nil)) (hR := fun h => by subst h; exact (.cons 0 rfl .nil))
 intro _
 refine au [12,1,2,4,3,13,13,25,11,24,7,13,24,0,0,1,2,4,25,8] ?_
 refine qg qhN ?_
 rintro x35 e35 ⟨a36, c37⟩
 refine au [3,14,14,24,6] ?_
 intro g38
 refine au [24,0,5,0,1,2,4,24,15,3,25,2,27,14,5,0,1,8] ?_
 exact yb (a36, c37) (resL (rs := [.cell 2 24, .tmp 3]) rfl (.cell (i := 3) rfl tf24 rfl rfl (by simp) rfl (.tmp rfl ResOk.nil)) rfl) (hB := fun h => by subst h; exact (.cons 1 rfl .nil)) (hR := fun h => by subst h; exact (.cons 0 rfl .nil))
set_option maxHeartbeats 4000000 in
theorem qhM {F : Nat} {x1 : List Int} {a2 : Option Addr} {c3 : Nat} {r : (List (List Int) × Int × Int)} (hm : qaP F x1 = some r) :
    Pure Tryz.prog 21 [.slice a2 x1.length c3] [Sl (eI .u8) 1 (.slice a2 x1.length c3) x1] (Option Addr × (Nat × List (Option Addr × Nat))) (fun g => .tuple #[.agg #[.slice g.1 r.1.length g.2.1], .int .i64 r.2.1, .int .i64 r.2.2]) (fun g => [RoN eN59 rN59 59 1 (.slice g.1 r.1.length g.2.1) r.1 g.2.2 []]) (fun _ => []) := by
 refine qh Tryz.func21 rfl Tryz.ntmps21 rfl hm (fun w => ?_)
 refine au [25,4,2,4,24,6] ?_
 intro g4
 refine av [5,5,0,1,2,2,4,3,23,24,13,0,1,10] ?_ ?_
 intro _
 refine au [2,4] ?_
 refine qj (cells := [.slice none 0 0]) rfl st24 rfl (by kernel_rfl) rfl ?_
 refine au [24,0,5,5,0,1,8,11,25,13] ?_
 exact qz (none, (0, ([] : List (Option Addr × Nat)))) (resL (rs := [.cell 2 24, .tmp 3, .tmp 4]) rfl (.cell (i := 0) rfl tf24 rfl rfl (by simp) rfl (.tmp rfl (.tmp rfl ResOk.nil))) rfl) (fun h => by subst h; exact (.cons 0 rfl .nil))
 intro _
 refine au [12,1,2,2,4,3,23,24,2,3] ?_
 refine yA 5 (fun ((x19, _) : (Bool × Unit)) => ([(0, .slice a2 x1.length c3), (2, .pointer (some ⟨g4, 0, none⟩)), (22, .bool x19)], [⟨g4, 24, [.slice none 0 0]⟩], [], [Sl (eI .u8) 1 (.slice a2 x1.length c3) x1], qae F x1 x19)) ?_ ?_
 refine qc (os := _) rfl ?_
 refine av [26,4] ?_ ?_
 intro h15
 refine qD (k := 17) rfl h15 ?_
 refine au [9,9,9,9,24,8,0] ?_
 exact qa (true, ())
 intro h15
 refine qC (k := 17) rfl h15 ?_
 refine au [3] ?_
 refine qhm (j := 0) (qt .u8) rfl UnF.u inferInstance rfl rfl rfl rfl rfl ?_
 intro x38 e38 a39 c40
 refine qlm (j := 0) rfl UnF.u UnF.u UnF.u rfl rfl rfl (qnp rfl UnF.u rfl rfl rfl ?_)
 refine au [24,9,0] ?_
 exact qa ((!(bstr x38 == bstr ([76, 87] : List Int))), ())
 rintro ⟨x19, _⟩
 try dsimp only
 refine qc (os := _) rfl ?_
 refine av [0,1,10] ?_ ?_
 intro _
 refine au [2,4] ?_
 refine qj (cells := [.slice none 0 0]) rfl st24 rfl (by kernel_rfl) rfl ?_
 refine au [24,0,5,5,0,1,8,11,25,13] ?_
 exact qz (none, (0, ([] : List (Option Addr × Nat)))) (resL (rs := [.cell 2 24, .tmp 3, .tmp 4]) rfl (.cell (i := 0) rfl tf24 rfl rfl (by simp) rfl (.tmp rfl (.tmp rfl ResOk.nil))) rfl) (fun h => by subst h; exact (.cons 0 rfl .nil))
 intro _
 refine au [12,1,2,4,3] ?_
 refine qj (cells := [.slice a2 x1.length c3, .int .i64 3, .int .i64 0, .bool false]) rfl st80 rfl (by kernel_rfl) rfl ?_
 refine au [24,5] ?_
 intro g20
 refine au [5,0,1,2,4] ?_
 refine qho .u8 rfl rfl ?_
 intro g21
 refine au [3,33,15] ?_
 refine qeq (i := 0) rfl Tryz.underlying82 Tryz.underlying5 rfl rfl rfl rfl rfl ?_
 refine au [3,33,15] ?_
 refine qeq (i := 0) rfl Tryz.underlying82 Tryz.underlying5 rfl rfl rfl rfl rfl ?_
 refine au [3,5,0,1,2,4,3,3,29,2] ?_
 intro x22 e22 b23 o24
 refine au [25,9] ?_
 refine qiM (i := 0) rfl Tryz.underlying82 Tryz.underlying5 tf81 rfl rfl rfl rfl ?_ ?_ ?_
 refine au [3,14,14,5,5,0,1,2,2,4,3,25,1,0,1] ?_
 refine js (b := false) rfl (fun h => by cases h) (fun _ => ?_)
 refine au [12,1,2,4,3] ?_
 refine qfh ent36 rfl rfl rfl rfl (fun x25 e25 => qc2 F g20 x1 a2 c3 3 0 false x25 e25) (.cons 1 rfl .nil) .nil (.consF 1 rfl .nil) (fun x25 e25 => ?_)
 rintro ⟨a26, c27⟩
 refine au [3,14,14,24,6] ?_
 intro g28
 refine av [24,0,5,0,1,2,2,4,3,25,1,0,1,10] ?_ ?_
 intro _
 refine au [2,4] ?_
 refine qj (cells := [.slice none 0 0]) rfl st24 rfl (by kernel_rfl) rfl ?_
 refine au [27,14,5,5,0,1,8,11,25,13] ?_
 exact qz (none, (0, ([] : List (Option Addr × Nat)))) (resL (rs := [.cell 2 24, .tmp 3, .tmp 4]) rfl (.cell (i := 3) rfl tf24 rfl rfl (by simp) rfl (.tmp rfl (.tmp rfl ResOk.nil))) rfl) (fun h => by subst h; exact (.cons 0 rfl .nil))
 intro _
 refine au [12,1,2] ?_
 refine qn mixed [] [⟨g28, 24, [.slice a26 x25.1.length c27.1]⟩, ⟨g20, 80, [.slice a2 x1.length c3, .int .i64 x25.2.2.1, .int .i64 x25.2.2.2.1, .bool x25.2.2.2.2]⟩, (blkO g21 (mapF .u8 [(1, .func (.func 36) #[.pointer (some ⟨g20, 0, none⟩)] #[]), (2, .func (.func 37) #[.pointer (some ⟨g20, 0, none⟩)] #[])]))] [qR b23 o24 ((eI .u8) x22), Sl (eI .u8) 1 (.slice a2 x1.length c3) x1] (.cons 0 rfl (.cons 0 rfl (.cons 0 rfl .nil))) (qF 0 rfl (qF 1 rfl qm)) 8 rfl (zA 0 (.agg #[.slice a26 x25.1.length c27.1]) rfl rfl rfl (qX (i := 0) rfl tf24 rfl rfl (by simp) rfl) ?_)
 refine au [6,1,6,2,18,3,26,1,4,20,5,27,14,0,34,0,6,6,6,7,24,1] ?_
 refine qs ?_ (by intro c h; cases h)
 refine au [1,8] ?_
 exact qz (a26, c27) (resL (rs := [.cell 2 24, .tmp 3, .tmp 4]) rfl (.cell (i := 3) rfl tf24 rfl rfl (by simp) rfl (.tmp rfl (.tmp rfl ResOk.nil))) rfl) (fun h => by subst h; exact (.cons 0 rfl .nil))
 refine au [3,14,14,5,5,0,1,2,2,4,3,25,1,0,1] ?_
 refine js (b := false) rfl (fun h => by cases h) (fun _ => ?_)
 refine au [12,1,2,4,3] ?_
 refine qfh ent37 rfl rfl rfl rfl (fun x31 e31 => qc1 F g20 x1 a2 c3 3 0 false x31 e31) (.cons 1 rfl .nil) .nil (.consF 1 rfl .nil) (fun x31 e31 => ?_)
 rintro ⟨a32, c33⟩
 refine au [3,14,14,24,6] ?_
 intro g34
 refine av [24,0,5,0,1,2,2,4,3,25,1,0,1,10] ?_ ?_
 intro _
 refine au [2,4] ?_
 refine qj (cells := [.slice none 0 0]) rfl st24 rfl (by kernel_rfl) rfl ?_
 refine au [27,14,5,5,0,1,8,11,25,13] ?_
 exact qz (none, (0, ([] : List (Option Addr × Nat)))) (resL (rs := [.cell 2 24, .tmp 3, .tmp 4]) rfl (.cell (i := 3) rfl tf24 rfl rfl (by simp) rfl (.tmp rfl (.tmp rfl ResOk.nil))) rfl) (fun h => by subst h; exact (.cons 0 rfl .nil))
 intro _
 refine au [12,1,2] ?_
 refine qn mixed [] [⟨g34, 24, [.slice a32 x31.1.length c33.1]⟩, ⟨g20, 80, [.slice a2 x1.length c3, .int .i64 x31.2.2.1, .int .i64 x31.2.2.2.1, .bool x31.2.2.2.2]⟩, (blkO g21 (mapF .u8 [(1, .func (.func 36) #[.pointer (some ⟨g20, 0, none⟩)] #[]), (2, .func (.func 37) #[.pointer (some ⟨g20, 0, none⟩)] #[])]))] [qR b23 o24 ((eI .u8) x22), Sl (eI .u8) 1 (.slice a2 x1.length c3) x1] (.cons 0 rfl (.cons 0 rfl (.cons 0 rfl .nil))) (qF 0 rfl (qF 1 rfl qm)) 8 rfl (zA 0 (.agg #[.slice a32 x31.1.length c33.1]) rfl rfl rfl (qX (i := 0) rfl tf24 rfl rfl (by simp) rfl) ?_)
 refine au [6,1,6,2,18,3,26,1,4,20,5,27,14,0,34,0,6,6,6,7,24,1] ?_
 refine qs ?_ (by intro c h; cases h)
 refine au [1,8] ?_
 exact qz (a32, c33) (resL (rs := [.cell 2 24, .tmp 3, .tmp 4]) rfl (.cell (i := 3) rfl tf24 rfl rfl (by simp) rfl (.tmp rfl (.tmp rfl ResOk.nil))) rfl) (fun h => by subst h; exact (.cons 0 rfl .nil))
 refine au [3,14,14,5,5,0,1,2,2,4,3,25,1,0,1] ?_
 refine js (b := true) rfl (fun _ => ?_) (fun h => by cases h)
 refine au [2,4] ?_
 refine qj (cells := [.slice none 0 0]) rfl st24 rfl (by kernel_rfl) rfl ?_
 refine au [25,14,5,5,0,1,8,11,25,13] ?_
 exact qz (none, (0, ([] : List (Option Addr × Nat)))) (resL (rs := [.cell 2 24, .tmp 3, .tmp 4]) rfl (.cell (i := 2) rfl tf24 rfl rfl (by simp) rfl (.tmp rfl (.tmp rfl ResOk.nil))) rfl) (fun h => by subst h; exact (.cons 0 rfl .nil))
theorem qhL {F : Nat} {x1 : List (List Int)} {a2 : Option Addr} {c3 : Nat} {s3 : List (Option Addr × Nat)} {r : Int} (hm : qbq F x1 = some r) :
    Pure Tryz.prog 22 [.agg #[.slice a2 x1.length c3]] [SlN eN59 iN59 1 (.slice a2 x1.length c3) x1 s3] Unit (fun _ => .int .i64 r) (fun _ => []) (fun _ => []) := by
 refine qh Tryz.func22 rfl Tryz.ntmps22 rfl hm (fun w => ?_)
 refine au [25,4,2,4,24,5] ?_
 intro g4
 refine au [5,0,1] ?_
 refine qe (fun ((x38, _) : (Int × Unit)) => ([(2, .int .i64 x38)], [], [], [], qbb F x38)) ?_ ?_
 refine au [2,4,13,21,23,3,0,1,15] ?_
 refine qk (fun (((x49, x50), _) : ((Int × Int) × Unit)) => ([(2, .int .i64 x49), (6, .slice a2 x1.length c3), (7, .int .i64 (x1.length : Int)), (8, .int .i64 x50)], [], [], [SlN eN59 iN59 1 (.slice a2 x1.length c3) x1 s3])) (fun k (s : ((Int × Int) × Unit)) => yX F x1 k s.1) ((0, 0), ()) F ?_
 intro k61
 rintro ⟨⟨x49, x50⟩, _⟩
 try dsimp only
 refine qA (m' := qad F x1 (yX F x1 k61) x49 x50) rfl ?_
 refine av [2,4,24,2,0,1,2,10] ?_ ?_
 intro _
 refine au [12,1,2,15,2,4,27,3] ?_
 intro x67 e67 g70 b68 o69
 refine au [25,9,5,0,1,4,3,3,23,16,5,0,24,4,1,4,16,3,0] ?_
 exact qi ((iadd .i64 x49 (x67.length : Int), iadd .i64 x50 1), ())
 intro _
 refine au [24,10,17,17,24,11] ?_
 exact qa (x49, ())
 rintro ⟨x38, _⟩
 try dsimp only
 exact az [2,4,3,5,0,1,8,19]
set_option maxHeartbeats 4000000 in
theorem qhI {F : Nat} {x1 : List Int} {a2 : Option Addr} {c3 : Nat} {r : (Int × Int × Int × Int × Int)} (hm : j2 F x1 = some r) :
    Pure Tryz.prog 12 [.slice a2 x1.length c3] [Sl (eI .u8) 1 (.slice a2 x1.length c3) x1] Unit (fun _ => .tuple #[.agg #[.int .i64 r.1, .int .i64 r.2.1, .int .i64 r.2.2.1, .int .i64 r.2.2.2.1], .int .i64 r.2.2.2.2]) (fun _ => []) (fun _ => []) := by
 refine qh Tryz.func12 rfl Tryz.ntmps12 rfl hm (fun w => ?_)
 refine au [25,4,2,4,24,6] ?_
 intro g4
 refine au [5,0,1,2,4,3,34,1] ?_
 rintro x5 e5 ⟨a6, c7⟩
 refine au [3,14,14,14,24,6] ?_
 intro g8
 refine av [24,0,5,5,0,1,2,2,4,3,25,6,0,1,10] ?_ ?_
 intro _
 refine au [2,4] ?_
 refine qj (cells := [.int .i64 0, .int .i64 0, .int .i64 0, .int .i64 0]) rfl st29 rfl (by kernel_rfl) rfl ?_
 refine au [3,25,5,5,0,1,8,11] ?_
 exact qz () (resL (rs := [.cell 2 29, .tmp 3]) rfl (.cell (i := 1) rfl tf29 rfl rfl (by simp) rfl (.tmp rfl ResOk.nil)) rfl)
 intro _
 refine au [12,1,2] ?_
 refine qn mixed [] [⟨g8, 24, [.slice a6 x5.1.length c7.1]⟩] [Sl (eI .u8) 1 (.slice a2 x1.length c3) x1] (.cons 0 rfl .nil) (qF 0 rfl qm) 11 rfl ?_
 refine au [6,0,26,8,1,18,2,25,7,3,26,8,4] ?_
 refine zA 5 (.agg #[.slice a6 x5.1.length c7.1]) rfl rfl rfl (qX (i := 0) rfl tf24 rfl rfl (by simp) rfl) ?_
 refine au [6,7,20,6,34,2] ?_
 intro x11 e11 _
 refine au [0,26,9] ?_
 refine qu 8 (.agg #[.int .i64 (x1.length : Int), .int .i64 (x5.1.length : Int), .int .i64 x11, .int .i64 x5.2.1]) rfl rfl rfl (qbW (cells := [.int .i64 (x1.length : Int), .int .i64 (x5.1.length : Int), .int .i64 x11, .int .i64 x5.2.1]) st29 rfl (by kernel_rfl)) ?_
 refine au [20,9,25,5,0,26,9,6,10,24,1] ?_
 refine qs ?_ (by intro c h; cases h)
 refine au [1,8] ?_
 exact qz () (resL (rs := [.cell 2 29, .tmp 3]) rfl (.cell (i := 1) rfl tf29 rfl rfl (by simp) rfl (.tmp rfl ResOk.nil)) rfl)
end Go.Proofs.YtlioijpkhffbnaaGreat
