/- Each Go function of this seat computes what its model says, part 5. -/
import Derived.Test.YtmoikolponkmpaaGreatWalks4
namespace Go.Proofs.YtmoikolponkmpaaGreat
open Go SX
set_option maxHeartbeats 4000000 in
theorem qin {F : Nat}  {r : Bool} (hm : qcr F  = some r) :
    Pure Tryz.prog 59 [] [] Unit (fun _ => .bool r) (fun _ => []) (fun _ => []) := by
 refine qk Tryz.func59 rfl Tryz.ntmps59 rfl hm (fun w => ?_)
 refine au [26,11,3,5,4,0,2,3,5] ?_
 refine qh qiw ?_
 intro x1 e1 _
 refine au [1,7,7,4,4,0,2,3,5,33,3] ?_
 rintro x2 e2 ⟨a3, c4⟩
 refine au [1,7,7,4,4,0,2,3,5] ?_
 refine qq (vs := [.int .i64 0, .int .i64 2, .int .i64 4]) (ys := ([0, 2, 4] : List Int)) (qn .i64) (by decide) rfl Tryz.underlying22 tf3 rfl rfl rfl rfl rfl (by decide) (fun a5 c6 => ?_)
 refine au [33,4] ?_
 intro x7 e7 _
 refine au [1,7,7,4,4,0,2,3,5,33,5] ?_
 rintro x8 e8 ⟨a9, c10⟩
 refine au [1,7,7,23] ?_
 intro g11
 refine au [22,4,0,2,3,5,24,5,33,6] ?_
 intro x12 e12 _
 refine au [1,7,7,7,4,4,4,0,2,3,5] ?_
 refine qq (vs := [.int .i64 2, .int .i64 3]) (ys := ([2, 3] : List Int)) (qn .i64) (by decide) rfl Tryz.underlying22 tf3 rfl rfl rfl rfl rfl (by decide) (fun a13 c14 => ?_)
 refine au [33,4] ?_
 intro x15 e15 _
 refine au [1,7,7,4,4,0,2,3,5,24,5,33,6] ?_
 intro x16 e16 _
 refine au [1,7,7,7,4,4,4,0,2,3,5,1,19,1] ?_
 refine qi 3 ((x1.1 : Int) == 8) [(3, .slice a3 x2.1.length c4), (4, .int .i64 x2.2), (5, .int .u64 x7.1), (6, .int .i64 x7.2), (7, .pointer (some ⟨g11, 0, none⟩)), (8, .int .i64 x8.2.2), (9, .int .u64 x12.1), (10, .int .i64 x12.2.1), (11, .int .i64 x12.2.2), (13, .int .i64 x15.2), (16, .int .i64 x16.2.2), (56, .bool (((x1.1 : Int) == 8) && ((x1.2 : Int) == 0)))] (fun h17 => ?_) (fun h17 => ?_) ?_
 refine qa (os := _) rfl (qg (k := 53) rfl h17 ?_)
 refine au [1,19,14] ?_
 refine qb (d := 56) (v := .bool (((x1.1 : Int) == 8) && ((x1.2 : Int) == 0))) rfl (by rw [h17]; simp only [Bool.true_and]) ?_
 exact az [0,8]
 refine qa (os := _) rfl (qf (k := 53) rfl h17 ?_)
 refine au [6,6,15] ?_
 refine qb (d := 56) (v := .bool (((x1.1 : Int) == 8) && ((x1.2 : Int) == 0))) rfl (by rw [h17]; simp only [Bool.false_and]) ?_
 exact az [0,8]
 refine qa (os := _) rfl ?_
 refine au [1] ?_
 refine qy 4 (fun ((x22, _) : (Bool × Unit)) => ([(4, .int .i64 x2.2), (5, .int .u64 x7.1), (6, .int .i64 x7.2), (7, .pointer (some ⟨g11, 0, none⟩)), (8, .int .i64 x8.2.2), (9, .int .u64 x12.1), (10, .int .i64 x12.2.1), (11, .int .i64 x12.2.2), (13, .int .i64 x15.2), (16, .int .i64 x16.2.2), (61, .bool x22)], [⟨g11, 25, [.int .i64 x8.1, .slice a9 x8.2.1.length c10]⟩], [Ro (eI .u8) 5 1 (.slice a9 x8.2.1.length c10) x8.2.1], [], qcc F x2 x7 x8 x12 x15 x16 x22)) ?_ ?_
 refine qa (os := _) rfl ?_
 refine av [24,12] ?_ ?_
 intro h18
 refine qg (k := 57) rfl h18 ?_
 refine au [1] ?_
 refine qq (vs := [.int .i64 0, .int .i64 2, .int .i64 4]) (ys := ([0, 2, 4] : List Int)) (qn .i64) (by decide) rfl Tryz.underlying22 tf3 rfl rfl rfl rfl rfl (by decide) (fun a40 c41 => ?_)
 refine au [27,3] ?_
 intro x42 e42 _
 refine au [14,0] ?_
 exact qc (x42, ())
 intro h18
 refine qf (k := 57) rfl h18 ?_
 refine au [6,6,6,15,0] ?_
 exact qc (false, ())
 rintro ⟨x22, _⟩
 try dsimp only
 refine qa (os := _) rfl ?_
 refine au [1] ?_
 refine qi 3 x22 [(5, .int .u64 x7.1), (6, .int .i64 x7.2), (7, .pointer (some ⟨g11, 0, none⟩)), (8, .int .i64 x8.2.2), (9, .int .u64 x12.1), (10, .int .i64 x12.2.1), (11, .int .i64 x12.2.2), (13, .int .i64 x15.2), (16, .int .i64 x16.2.2), (65, .bool (x22 && ((x2.2 : Int) == 0)))] (fun h23 => ?_) (fun h23 => ?_) ?_
 refine qa (os := _) rfl (qg (k := 62) rfl h23 ?_)
 refine au [1,19,14] ?_
 refine qb (d := 65) (v := .bool (x22 && ((x2.2 : Int) == 0))) rfl (by rw [h23]; simp only [Bool.true_and]) ?_
 exact az [0,8]
 refine qa (os := _) rfl (qf (k := 62) rfl h23 ?_)
 refine au [6,6,15] ?_
 refine qb (d := 65) (v := .bool (x22 && ((x2.2 : Int) == 0))) rfl (by rw [h23]; simp only [Bool.false_and]) ?_
 exact az [0,8]
 refine qa (os := _) rfl ?_
 refine au [1] ?_
 refine qi 3 (x22 && ((x2.2 : Int) == 0)) [(6, .int .i64 x7.2), (7, .pointer (some ⟨g11, 0, none⟩)), (8, .int .i64 x8.2.2), (9, .int .u64 x12.1), (10, .int .i64 x12.2.1), (11, .int .i64 x12.2.2), (13, .int .i64 x15.2), (16, .int .i64 x16.2.2), (69, .bool ((x22 && ((x2.2 : Int) == 0)) && ((x7.1 : Int) == 12)))] (fun h24 => ?_) (fun h24 => ?_) ?_
 refine qa (os := _) rfl (qg (k := 66) rfl h24 ?_)
 refine au [1,19,14] ?_
 refine qb (d := 69) (v := .bool ((x22 && ((x2.2 : Int) == 0)) && ((x7.1 : Int) == 12))) rfl (by rw [h24]; simp only [Bool.true_and]) ?_
 exact az [0,8]
 refine qa (os := _) rfl (qf (k := 66) rfl h24 ?_)
 refine au [6,6,15] ?_
 refine qb (d := 69) (v := .bool ((x22 && ((x2.2 : Int) == 0)) && ((x7.1 : Int) == 12))) rfl (by rw [h24]; simp only [Bool.false_and]) ?_
 exact az [0,8]
 refine qa (os := _) rfl ?_
 refine au [1] ?_
 refine qi 3 ((x22 && ((x2.2 : Int) == 0)) && ((x7.1 : Int) == 12)) [(7, .pointer (some ⟨g11, 0, none⟩)), (8, .int .i64 x8.2.2), (9, .int .u64 x12.1), (10, .int .i64 x12.2.1), (11, .int .i64 x12.2.2), (13, .int .i64 x15.2), (16, .int .i64 x16.2.2), (73, .bool (((x22 && ((x2.2 : Int) == 0)) && ((x7.1 : Int) == 12)) && ((x7.2 : Int) == 0)))] (fun h25 => ?_) (fun h25 => ?_) ?_
 refine qa (os := _) rfl (qg (k := 70) rfl h25 ?_)
 refine au [1,19,14] ?_
 refine qb (d := 73) (v := .bool (((x22 && ((x2.2 : Int) == 0)) && ((x7.1 : Int) == 12)) && ((x7.2 : Int) == 0))) rfl (by rw [h25]; simp only [Bool.true_and]) ?_
 exact az [0,8]
 refine qa (os := _) rfl (qf (k := 70) rfl h25 ?_)
 refine au [6,6,15] ?_
 refine qb (d := 73) (v := .bool (((x22 && ((x2.2 : Int) == 0)) && ((x7.1 : Int) == 12)) && ((x7.2 : Int) == 0))) rfl (by rw [h25]; simp only [Bool.false_and]) ?_
 exact az [0,8]
 refine qa (os := _) rfl ?_
 refine au [1] ?_
 refine qy 5 (fun ((x30, _) : (Bool × Unit)) => ([(8, .int .i64 x8.2.2), (9, .int .u64 x12.1), (10, .int .i64 x12.2.1), (11, .int .i64 x12.2.2), (13, .int .i64 x15.2), (16, .int .i64 x16.2.2), (79, .bool x30)], [], [], [], qcd F x8 x12 x15 x16 x30)) ?_ ?_
 refine qa (os := _) rfl ?_
 refine av [24,12] ?_ ?_
 intro h26
 refine qg (k := 74) rfl h26 ?_
 refine au [24,5] ?_
 refine qq (vs := [.int .u8 172]) (ys := ([172] : List Int)) (qn .u8) (by decide) rfl Tryz.underlying23 tf5 rfl rfl rfl rfl rfl (by decide) (fun a37 c38 => qH (cells := [.int .i64 6, .slice a37 ([172] : List Int).length c38]) rfl st25 rfl (by kernel_rfl) rfl ?_)
 refine au [26,2] ?_
 intro x39 e39 _
 refine au [14,0] ?_
 exact qc (x39, ())
 intro h26
 refine qf (k := 74) rfl h26 ?_
 refine au [6,6,6,6,15,0] ?_
 exact qc (false, ())
 rintro ⟨x30, _⟩
 try dsimp only
 refine qa (os := _) rfl ?_
 refine au [1] ?_
 refine qi 3 x30 [(9, .int .u64 x12.1), (10, .int .i64 x12.2.1), (11, .int .i64 x12.2.2), (13, .int .i64 x15.2), (16, .int .i64 x16.2.2), (83, .bool (x30 && ((x8.2.2 : Int) == 0)))] (fun h31 => ?_) (fun h31 => ?_) ?_
 refine qa (os := _) rfl (qg (k := 80) rfl h31 ?_)
 refine au [1,19,14] ?_
 refine qb (d := 83) (v := .bool (x30 && ((x8.2.2 : Int) == 0))) rfl (by rw [h31]; simp only [Bool.true_and]) ?_
 exact az [0,8]
 refine qa (os := _) rfl (qf (k := 80) rfl h31 ?_)
 refine au [6,6,15] ?_
 refine qb (d := 83) (v := .bool (x30 && ((x8.2.2 : Int) == 0))) rfl (by rw [h31]; simp only [Bool.false_and]) ?_
 exact az [0,8]
 refine qa (os := _) rfl ?_
 refine au [1] ?_
 refine qi 3 (x30 && ((x8.2.2 : Int) == 0)) [(10, .int .i64 x12.2.1), (11, .int .i64 x12.2.2), (13, .int .i64 x15.2), (16, .int .i64 x16.2.2), (87, .bool ((x30 && ((x8.2.2 : Int) == 0)) && ((x12.1 : Int) == 11)))] (fun h32 => ?_) (fun h32 => ?_) ?_
 refine qa (os := _) rfl (qg (k := 84) rfl h32 ?_)
 refine au [1,19,14] ?_
 refine qb (d := 87) (v := .bool ((x30 && ((x8.2.2 : Int) == 0)) && ((x12.1 : Int) == 11))) rfl (by rw [h32]; simp only [Bool.true_and]) ?_
 exact az [0,8]
 refine qa (os := _) rfl (qf (k := 84) rfl h32 ?_)
 refine au [6,6,15] ?_
 refine qb (d := 87) (v := .bool ((x30 && ((x8.2.2 : Int) == 0)) && ((x12.1 : Int) == 11))) rfl (by rw [h32]; simp only [Bool.false_and]) ?_
 exact az [0,8]
 refine qa (os := _) rfl ?_
 refine au [1] ?_
 refine qi 3 ((x30 && ((x8.2.2 : Int) == 0)) && ((x12.1 : Int) == 11)) [(11, .int .i64 x12.2.2), (13, .int .i64 x15.2), (16, .int .i64 x16.2.2), (91, .bool (((x30 && ((x8.2.2 : Int) == 0)) && ((x12.1 : Int) == 11)) && ((x12.2.1 : Int) == 6)))] (fun h33 => ?_) (fun h33 => ?_) ?_
 refine qa (os := _) rfl (qg (k := 88) rfl h33 ?_)
 refine au [1,19,14] ?_
 refine qb (d := 91) (v := .bool (((x30 && ((x8.2.2 : Int) == 0)) && ((x12.1 : Int) == 11)) && ((x12.2.1 : Int) == 6))) rfl (by rw [h33]; simp only [Bool.true_and]) ?_
 exact az [0,8]
 refine qa (os := _) rfl (qf (k := 88) rfl h33 ?_)
 refine au [6,6,15] ?_
 refine qb (d := 91) (v := .bool (((x30 && ((x8.2.2 : Int) == 0)) && ((x12.1 : Int) == 11)) && ((x12.2.1 : Int) == 6))) rfl (by rw [h33]; simp only [Bool.false_and]) ?_
 exact az [0,8]
 refine qa (os := _) rfl ?_
 refine au [1] ?_
 refine qi 3 (((x30 && ((x8.2.2 : Int) == 0)) && ((x12.1 : Int) == 11)) && ((x12.2.1 : Int) == 6)) [(13, .int .i64 x15.2), (16, .int .i64 x16.2.2), (95, .bool ((((x30 && ((x8.2.2 : Int) == 0)) && ((x12.1 : Int) == 11)) && ((x12.2.1 : Int) == 6)) && ((x12.2.2 : Int) == 0)))] (fun h34 => ?_) (fun h34 => ?_) ?_
 refine qa (os := _) rfl (qg (k := 92) rfl h34 ?_)
 refine au [1,19,14] ?_
 refine qb (d := 95) (v := .bool ((((x30 && ((x8.2.2 : Int) == 0)) && ((x12.1 : Int) == 11)) && ((x12.2.1 : Int) == 6)) && ((x12.2.2 : Int) == 0))) rfl (by rw [h34]; simp only [Bool.true_and]) ?_
 exact az [0,8]
 refine qa (os := _) rfl (qf (k := 92) rfl h34 ?_)
 refine au [6,6,15] ?_
 refine qb (d := 95) (v := .bool ((((x30 && ((x8.2.2 : Int) == 0)) && ((x12.1 : Int) == 11)) && ((x12.2.1 : Int) == 6)) && ((x12.2.2 : Int) == 0))) rfl (by rw [h34]; simp only [Bool.false_and]) ?_
 exact az [0,8]
 refine qa (os := _) rfl ?_
 refine au [1] ?_
 refine qi 3 ((((x30 && ((x8.2.2 : Int) == 0)) && ((x12.1 : Int) == 11)) && ((x12.2.1 : Int) == 6)) && ((x12.2.2 : Int) == 0)) [(16, .int .i64 x16.2.2), (99, .bool (((((x30 && ((x8.2.2 : Int) == 0)) && ((x12.1 : Int) == 11)) && ((x12.2.1 : Int) == 6)) && ((x12.2.2 : Int) == 0)) && ((x15.2 : Int) == 4)))] (fun h35 => ?_) (fun h35 => ?_) ?_
 refine qa (os := _) rfl (qg (k := 96) rfl h35 ?_)
 refine au [1,19,14] ?_
 refine qb (d := 99) (v := .bool (((((x30 && ((x8.2.2 : Int) == 0)) && ((x12.1 : Int) == 11)) && ((x12.2.1 : Int) == 6)) && ((x12.2.2 : Int) == 0)) && ((x15.2 : Int) == 4))) rfl (by rw [h35]; simp only [Bool.true_and]) ?_
 exact az [0,8]
 refine qa (os := _) rfl (qf (k := 96) rfl h35 ?_)
 refine au [6,6,15] ?_
 refine qb (d := 99) (v := .bool (((((x30 && ((x8.2.2 : Int) == 0)) && ((x12.1 : Int) == 11)) && ((x12.2.1 : Int) == 6)) && ((x12.2.2 : Int) == 0)) && ((x15.2 : Int) == 4))) rfl (by rw [h35]; simp only [Bool.false_and]) ?_
 exact az [0,8]
 refine qa (os := _) rfl ?_
 refine au [1] ?_
 refine qi 3 (((((x30 && ((x8.2.2 : Int) == 0)) && ((x12.1 : Int) == 11)) && ((x12.2.1 : Int) == 6)) && ((x12.2.2 : Int) == 0)) && ((x15.2 : Int) == 4)) [(103, .bool ((((((x30 && ((x8.2.2 : Int) == 0)) && ((x12.1 : Int) == 11)) && ((x12.2.1 : Int) == 6)) && ((x12.2.2 : Int) == 0)) && ((x15.2 : Int) == 4)) && ((x16.2.2 : Int) == 0)))] (fun h36 => ?_) (fun h36 => ?_) ?_
 refine qa (os := _) rfl (qg (k := 100) rfl h36 ?_)
 refine au [1,19,14] ?_
 refine qb (d := 103) (v := .bool ((((((x30 && ((x8.2.2 : Int) == 0)) && ((x12.1 : Int) == 11)) && ((x12.2.1 : Int) == 6)) && ((x12.2.2 : Int) == 0)) && ((x15.2 : Int) == 4)) && ((x16.2.2 : Int) == 0))) rfl (by rw [h36]; simp only [Bool.true_and]) ?_
 exact az [0,8]
 refine qa (os := _) rfl (qf (k := 100) rfl h36 ?_)
 refine au [6,6,15] ?_
 refine qb (d := 103) (v := .bool ((((((x30 && ((x8.2.2 : Int) == 0)) && ((x12.1 : Int) == 11)) && ((x12.2.1 : Int) == 6)) && ((x12.2.2 : Int) == 0)) && ((x15.2 : Int) == 4)) && ((x16.2.2 : Int) == 0))) rfl (by rw [h36]; simp only [Bool.false_and]) ?_
 exact az [0,8]
 refine qa (os := _) rfl ?_
 exact az [4,0,2,9,16]
theorem qhF {F : Nat} {x1 : List Int} {a2 : Option Addr} {c3 : Nat} {x4 : Int} {r : (Int × Int × Int)} (hm : qbX F x1 x4 = some r) :
    Pure Tryz.prog 151 [.slice a2 x1.length c3, .int .i64 x4] [Sl (eI .u8) 1 (.slice a2 x1.length c3) x1] Unit (fun _ => .tuple #[.int .u64 r.1, .int .i64 r.2.1, .int .i64 r.2.2]) (fun _ => []) (fun _ => []) := by
 refine qk Tryz.func151 rfl Tryz.ntmps151 rfl hm (fun w => ?_)
 refine av [24,10,3,5,4,4,4,0,2,3,18,3,5,1,24,4,24,13,4,0,2,10] ?_ ?_
 intro _
 exact az [3,5,4,4,4,0,2,9,24,0,12,16]
 intro _
 refine au [3,5,1,24,3,1] ?_
 refine qi 5 (decide (x4 < 0)) [(0, .slice a2 x1.length c3), (1, .int .i64 x4), (19, .bool ((decide (x4 < 0)) || (decide ((x1.length : Int) < x4))))] (fun h8 => ?_) (fun h8 => ?_) ?_
 refine qa (os := _) rfl (qg (k := 14) rfl h8 ?_)
 refine au [6,6,6,6,14] ?_
 refine qb (d := 19) (v := .bool ((decide (x4 < 0)) || (decide ((x1.length : Int) < x4)))) rfl (by rw [h8]; simp only [Bool.true_or]) ?_
 exact az [0,8]
 refine qa (os := _) rfl (qf (k := 14) rfl h8 ?_)
 refine au [1,1,24,4,24,13,15] ?_
 refine qb (d := 19) (v := .bool ((decide (x4 < 0)) || (decide ((x1.length : Int) < x4)))) rfl (by rw [h8]; simp only [Bool.false_or]) ?_
 exact az [0,8]
 refine qa (os := _) rfl ?_
 refine av [4,0,2,10] ?_ ?_
 intro _
 exact az [3,5,4,4,4,0,2,9,24,0,12,16]
 intro _
 refine au [13,24,2,2,3,5,1,1,31,10] ?_
 intro x9 e9 _
 exact az [7,7,7,4,4,4,0,2,9,16]
theorem qhD {F : Nat} {x1 : Int} {r : Int} (hm : qdh F x1 = some r) :
    Pure Tryz.prog 153 [.int .i64 x1] [] Unit (fun _ => .int .u64 r) (fun _ => []) (fun _ => []) := by
 refine qk Tryz.func153 rfl Tryz.ntmps153 rfl hm (fun w => ?_)
 refine au [24,14,3,5,4,0,2,3,5,1,25,10,32,11,1,27,0,25,10,33,7,4,26,4] ?_
 intro x2 e2
 refine qb (d := 2) (v := .int .u64 x2) rfl (by rw [e2] <;> rfl) ?_
 exact az [0,2,9,16]
theorem qgi {F : Nat} {x1 : Int} {r : Int} (hm : qd0 F x1 = some r) :
    Pure Tryz.prog 154 [.int .u64 x1] [] Unit (fun _ => .int .i64 r) (fun _ => []) (fun _ => []) := by
 refine qk Tryz.func154 rfl Tryz.ntmps154 rfl hm (fun w => ?_)
 refine au [24,14,3,5,4,0,2,3,5,1,27,0,25,10,1,27,9,25,10] ?_
 refine qpy rfl rfl rfl ?_
 refine au [33,7,4,26,4] ?_
 intro x2 e2
 refine qb (d := 2) (v := .int .i64 x2) rfl (by rw [e2] <;> rfl) ?_
 exact az [0,2,9,16]
set_option maxHeartbeats 4000000 in
theorem qgf {F : Nat}  {r : Bool} (hm : qaA F  = some r) :
    Pure Tryz.prog 60 [] [] Unit (fun _ => .bool r) (fun _ => []) (fun _ => []) := by
 refine qk Tryz.func60 rfl Tryz.ntmps60 rfl hm (fun w => ?_)
 refine au [26,11,3,5,4,0,2,3,5] ?_
 refine qq (vs := [.int .u64 300, .int .u64 0]) (ys := ([300, 0] : List Int)) (qn .u64) (by decide) rfl Tryz.underlying33 tf80 rfl rfl rfl rfl rfl (by decide) (fun a1 c2 => qh (fun h => qd5 F _ _ _ _ h) ?_)
 rintro x3 e3 ⟨a4, c5⟩
 refine au [1,7,7,4,4,0,2,3,5,1,30,5] ?_
 intro x6 e6 _
 refine au [1,7,7,7,4,4,4,0,2,3,5,1] ?_
 refine kU (fun h => qfe F _ _ _ _ h) ?_
 rintro x7 e7 ⟨a8, c9⟩
 refine au [1,7,7,4,4,0,2,3,5] ?_
 refine qq (vs := [.int .u8 128, .int .u8 0]) (ys := ([128, 0] : List Int)) (qn .u8) (by decide) rfl Tryz.underlying23 tf5 rfl rfl rfl rfl rfl (by decide) (fun a10 c11 => ?_)
 refine au [30,5] ?_
 intro x12 e12 _
 refine au [1,7,7,7,4,4,4,0,2,3,5] ?_
 refine qq (vs := [.int .u8 128]) (ys := ([128] : List Int)) (qn .u8) (by decide) rfl Tryz.underlying23 tf5 rfl rfl rfl rfl rfl (by decide) (fun a13 c14 => ?_)
 refine au [30,5] ?_
 intro x15 e15 _
 refine au [1,7,7,7,4,4,4,0,2,3,5,1] ?_
 refine qq (vs := [.int .u8 172, .int .u8 2, .int .u8 0]) (ys := ([172, 2, 0] : List Int)) (qn .u8) (by decide) rfl Tryz.underlying23 tf5 rfl rfl rfl rfl rfl (by decide) (fun a16 c17 => ?_)
 refine au [30,9] ?_
 intro x18 e18 _
 refine au [1] ?_
 refine qi 3 x18 [(3, .int .u64 x6.1), (4, .int .i64 x6.2.1), (5, .int .i64 x6.2.2), (6, .slice a8 x7.1.length c9), (7, .int .i64 x7.2), (10, .int .i64 x12.2.2), (13, .int .i64 x15.2.2), (48, .bool (x18 && ((x3.2 : Int) == 0)))] (fun h19 => ?_) (fun h19 => ?_) ?_
 refine qa (os := _) rfl (qg (k := 45) rfl h19 ?_)
 refine au [1,19,14] ?_
 refine qb (d := 48) (v := .bool (x18 && ((x3.2 : Int) == 0))) rfl (by rw [h19]; simp only [Bool.true_and]) ?_
 exact az [0,8]
 refine qa (os := _) rfl (qf (k := 45) rfl h19 ?_)
 refine au [6,6,15] ?_
 refine qb (d := 48) (v := .bool (x18 && ((x3.2 : Int) == 0))) rfl (by rw [h19]; simp only [Bool.false_and]) ?_
 exact az [0,8]
 refine qa (os := _) rfl ?_
 refine au [1] ?_
 refine qi 3 (x18 && ((x3.2 : Int) == 0)) [(4, .int .i64 x6.2.1), (5, .int .i64 x6.2.2), (6, .slice a8 x7.1.length c9), (7, .int .i64 x7.2), (10, .int .i64 x12.2.2), (13, .int .i64 x15.2.2), (52, .bool ((x18 && ((x3.2 : Int) == 0)) && ((x6.1 : Int) == 300)))] (fun h20 => ?_) (fun h20 => ?_) ?_
 refine qa (os := _) rfl (qg (k := 49) rfl h20 ?_)
 refine au [1,19,14] ?_
 refine qb (d := 52) (v := .bool ((x18 && ((x3.2 : Int) == 0)) && ((x6.1 : Int) == 300))) rfl (by rw [h20]; simp only [Bool.true_and]) ?_
 exact az [0,8]
 refine qa (os := _) rfl (qf (k := 49) rfl h20 ?_)
 refine au [6,6,15] ?_
 refine qb (d := 52) (v := .bool ((x18 && ((x3.2 : Int) == 0)) && ((x6.1 : Int) == 300))) rfl (by rw [h20]; simp only [Bool.false_and]) ?_
 exact az [0,8]
 refine qa (os := _) rfl ?_
 refine au [1] ?_
 refine qi 3 ((x18 && ((x3.2 : Int) == 0)) && ((x6.1 : Int) == 300)) [(5, .int .i64 x6.2.2), (6, .slice a8 x7.1.length c9), (7, .int .i64 x7.2), (10, .int .i64 x12.2.2), (13, .int .i64 x15.2.2), (56, .bool (((x18 && ((x3.2 : Int) == 0)) && ((x6.1 : Int) == 300)) && ((x6.2.1 : Int) == 2)))] (fun h21 => ?_) (fun h21 => ?_) ?_
 refine qa (os := _) rfl (qg (k := 53) rfl h21 ?_)
 refine au [1,19,14] ?_
 refine qb (d := 56) (v := .bool (((x18 && ((x3.2 : Int) == 0)) && ((x6.1 : Int) == 300)) && ((x6.2.1 : Int) == 2))) rfl (by rw [h21]; simp only [Bool.true_and]) ?_
 exact az [0,8]
 refine qa (os := _) rfl (qf (k := 53) rfl h21 ?_)
 refine au [6,6,15] ?_
 refine qb (d := 56) (v := .bool (((x18 && ((x3.2 : Int) == 0)) && ((x6.1 : Int) == 300)) && ((x6.2.1 : Int) == 2))) rfl (by rw [h21]; simp only [Bool.false_and]) ?_
 exact az [0,8]
 refine qa (os := _) rfl ?_
 refine au [1] ?_
 refine qi 3 (((x18 && ((x3.2 : Int) == 0)) && ((x6.1 : Int) == 300)) && ((x6.2.1 : Int) == 2)) [(6, .slice a8 x7.1.length c9), (7, .int .i64 x7.2), (10, .int .i64 x12.2.2), (13, .int .i64 x15.2.2), (60, .bool ((((x18 && ((x3.2 : Int) == 0)) && ((x6.1 : Int) == 300)) && ((x6.2.1 : Int) == 2)) && ((x6.2.2 : Int) == 0)))] (fun h22 => ?_) (fun h22 => ?_) ?_
 refine qa (os := _) rfl (qg (k := 57) rfl h22 ?_)
 refine au [1,19,14] ?_
 refine qb (d := 60) (v := .bool ((((x18 && ((x3.2 : Int) == 0)) && ((x6.1 : Int) == 300)) && ((x6.2.1 : Int) == 2)) && ((x6.2.2 : Int) == 0))) rfl (by rw [h22]; simp only [Bool.true_and]) ?_
 exact az [0,8]
 refine qa (os := _) rfl (qf (k := 57) rfl h22 ?_)
 refine au [6,6,15] ?_
 refine qb (d := 60) (v := .bool ((((x18 && ((x3.2 : Int) == 0)) && ((x6.1 : Int) == 300)) && ((x6.2.1 : Int) == 2)) && ((x6.2.2 : Int) == 0))) rfl (by rw [h22]; simp only [Bool.false_and]) ?_
 exact az [0,8]
 refine qa (os := _) rfl ?_
 refine au [1] ?_
 refine qy 4 (fun ((x27, _) : (Bool × Unit)) => ([(7, .int .i64 x7.2), (10, .int .i64 x12.2.2), (13, .int .i64 x15.2.2), (65, .bool x27)], [], [], [], qaR F x7 x12 x15 x27)) ?_ ?_
 refine qa (os := _) rfl ?_
 refine av [24,12] ?_ ?_
 intro h23
 refine qg (k := 61) rfl h23 ?_
 refine au [1] ?_
 refine qq (vs := [.int .u64 300, .int .u64 0]) (ys := ([300, 0] : List Int)) (qn .u64) (by decide) rfl Tryz.underlying33 tf80 rfl rfl rfl rfl rfl (by decide) (fun a43 c44 => ?_)
 refine au [32,15] ?_
 intro x45 e45 _
 refine au [14,0] ?_
 exact qc (x45, ())
 intro h23
 refine qf (k := 61) rfl h23 ?_
 refine au [6,6,6,15,0] ?_
 exact qc (false, ())
 rintro ⟨x27, _⟩
 try dsimp only
 refine qa (os := _) rfl ?_
 refine au [1] ?_
 refine qi 3 x27 [(10, .int .i64 x12.2.2), (13, .int .i64 x15.2.2), (69, .bool (x27 && ((x7.2 : Int) == 0)))] (fun h28 => ?_) (fun h28 => ?_) ?_
 refine qa (os := _) rfl (qg (k := 66) rfl h28 ?_)
 refine au [1,19,14] ?_
 refine qb (d := 69) (v := .bool (x27 && ((x7.2 : Int) == 0))) rfl (by rw [h28]; simp only [Bool.true_and]) ?_
 exact az [0,8]
 refine qa (os := _) rfl (qf (k := 66) rfl h28 ?_)
 refine au [6,6,15] ?_
 refine qb (d := 69) (v := .bool (x27 && ((x7.2 : Int) == 0))) rfl (by rw [h28]; simp only [Bool.false_and]) ?_
 exact az [0,8]
 refine qa (os := _) rfl ?_
 refine au [1] ?_
 refine qi 3 (x27 && ((x7.2 : Int) == 0)) [(13, .int .i64 x15.2.2), (73, .bool ((x27 && ((x7.2 : Int) == 0)) && ((x12.2.2 : Int) == 1)))] (fun h29 => ?_) (fun h29 => ?_) ?_
 refine qa (os := _) rfl (qg (k := 70) rfl h29 ?_)
 refine au [1,19,14] ?_
 refine qb (d := 73) (v := .bool ((x27 && ((x7.2 : Int) == 0)) && ((x12.2.2 : Int) == 1))) rfl (by rw [h29]; simp only [Bool.true_and]) ?_
 exact az [0,8]
 refine qa (os := _) rfl (qf (k := 70) rfl h29 ?_)
 refine au [6,6,15] ?_
 refine qb (d := 73) (v := .bool ((x27 && ((x7.2 : Int) == 0)) && ((x12.2.2 : Int) == 1))) rfl (by rw [h29]; simp only [Bool.false_and]) ?_
 exact az [0,8]
 refine qa (os := _) rfl ?_
 refine au [1] ?_
 refine qi 3 ((x27 && ((x7.2 : Int) == 0)) && ((x12.2.2 : Int) == 1)) [(77, .bool (((x27 && ((x7.2 : Int) == 0)) && ((x12.2.2 : Int) == 1)) && ((x15.2.2 : Int) == 7)))] (fun h30 => ?_) (fun h30 => ?_) ?_
 refine qa (os := _) rfl (qg (k := 74) rfl h30 ?_)
 refine au [1,19,14] ?_
 refine qb (d := 77) (v := .bool (((x27 && ((x7.2 : Int) == 0)) && ((x12.2.2 : Int) == 1)) && ((x15.2.2 : Int) == 7))) rfl (by rw [h30]; simp only [Bool.true_and]) ?_
 exact az [0,8]
 refine qa (os := _) rfl (qf (k := 74) rfl h30 ?_)
 refine au [6,6,15] ?_
 refine qb (d := 77) (v := .bool (((x27 && ((x7.2 : Int) == 0)) && ((x12.2.2 : Int) == 1)) && ((x15.2.2 : Int) == 7))) rfl (by rw [h30]; simp only [Bool.false_and]) ?_
 exact az [0,8]
 refine qa (os := _) rfl ?_
 refine au [1] ?_
 refine qy 3 (fun ((x33, _) : (Bool × Unit)) => ([(81, .bool x33)], [], [], [], qaS F x33)) ?_ ?_
 refine qa (os := _) rfl ?_
 refine av [24,12] ?_ ?_
 intro h31
 refine qg (k := 78) rfl h31 ?_
 refine au [33,8] ?_
 intro x42 e42 _
 refine au [19,14,0] ?_
 exact qc (((x42 : Int) == 1), ())
 intro h31
 refine qf (k := 78) rfl h31 ?_
 refine au [6,6,15,0] ?_
 exact qc (false, ())
 rintro ⟨x33, _⟩
 try dsimp only
 refine qa (os := _) rfl ?_
 refine au [1] ?_
 refine qy 3 (fun ((x36, _) : (Bool × Unit)) => ([(85, .bool x36)], [], [], [], qaT F x36)) ?_ ?_
 refine qa (os := _) rfl ?_
 refine av [24,12] ?_ ?_
 intro h34
 refine qg (k := 82) rfl h34 ?_
 refine au [33,8] ?_
 intro x41 e41 _
 refine au [19,14,0] ?_
 exact qc (((x41 : Int) == 4), ())
 intro h34
 refine qf (k := 82) rfl h34 ?_
 refine au [6,6,15,0] ?_
 exact qc (false, ())
 rintro ⟨x36, _⟩
 try dsimp only
 refine qa (os := _) rfl ?_
 refine au [1] ?_
 refine qy 3 (fun ((x39, _) : (Bool × Unit)) => ([(89, .bool x39)], [], [], [], qaU F x39)) ?_ ?_
 refine qa (os := _) rfl ?_
 refine av [24,12] ?_ ?_
 intro h37
 refine qg (k := 86) rfl h37 (qh qgi ?_)
 intro x40 e40 _
 refine au [19,14,0] ?_
 exact qc (((x40 : Int) == (-2)), ())
 intro h37
 refine qf (k := 86) rfl h37 ?_
 refine au [6,6,15,0] ?_
 exact qc (false, ())
 rintro ⟨x39, _⟩
 try dsimp only
 refine qa (os := _) rfl ?_
 exact az [4,0,2,9,16]
theorem qiy {F : Nat} {x1 : List Int} {a2 : Option Addr} {c3 : Nat} {r : (Int × Int)} (hm : qct F x1 = some r) :
    Pure Tryz.prog 155 [.slice a2 x1.length c3] [Sl (eI .i64) 1 (.slice a2 x1.length c3) x1] Unit (fun _ => .tuple #[.int .i64 r.1, .int .i64 r.2]) (fun _ => []) (fun _ => []) := by
 refine qk Tryz.func155 rfl Tryz.ntmps155 rfl hm (fun w => ?_)
 refine au [24,14,3,5,4,4,0,2,3,3,5,1,29,14] ?_
 intro x6 e6 _
 refine av [4,0,2,3,5,1,24,15,0,2,10] ?_ ?_
 intro _
 exact az [3,5,1,4,4,0,2,9,12,16]
 intro _
 refine au [13,2,3,5,1,31,15] ?_
 intro x7 e7 _
 exact az [4,4,0,2,9,16]
theorem qiz {F : Nat} {x1 : List Int} {a2 : Option Addr} {c3 : Nat} {x4 : Int} {x5 : List Int} {a6 : Option Addr} {c7 : Nat} {x8 : Int} {r : (Int × Int × Int)} (hm : qbt F x1 x4 x5 x8 = some r) :
    Pure Tryz.prog 156 [.slice a2 x1.length c3, .agg #[.int .i64 x4, .slice a6 x5.length c7], .int .i64 x8] [Sl (eI .i64) 1 (.slice a2 x1.length c3) x1, Sl (eI .u8) 1 (.slice a6 x5.length c7) x5] Unit (fun _ => .tuple #[.int .i64 r.1, .int .i64 r.2.1, .int .i64 r.2.2]) (fun _ => []) (fun _ => []) := by
 refine qk Tryz.func156 rfl Tryz.ntmps156 rfl hm (fun w => ?_)
 refine au [25,8,3,5,24,6] ?_
 intro g9
 refine au [4,4,4,0,2,3,5,1,27,14] ?_
 rintro x10 e10 ⟨a11, c12⟩
 refine au [1,7,7,4,4,0,2] ?_
 refine qm (fun ((x15, _) : (Int × Unit)) => ([(2, .int .i64 x8), (4, .pointer (some ⟨g9, 0, none⟩)), (9, .slice a11 x10.1.length c12.1), (10, .int .i64 x15)], [⟨g9, 25, [.int .i64 x4, .slice a6 x5.length c7]⟩], [RoN eN25 rN25 25 2 (.slice a11 x10.1.length c12.1) x10.1 c12.2 []], [Sl (eI .u8) 1 (.slice a6 x5.length c7) x5], qaE F x4 x5 x8 x10 x15)) ?_ ?_
 refine av [3,5,1,19,0,2,10] ?_ ?_
 intro _
 refine au [5,24,5,1,28,0] ?_
 intro x19 e19 _
 refine au [4,0] ?_
 exact qc (x19, ())
 intro _
 refine au [13] ?_
 exact qc (x10.2, ())
 rintro ⟨x15, _⟩
 try dsimp only
 refine av [3,3,5,1,24,15,0,2,10] ?_ ?_
 intro _
 exact az [3,5,1,4,4,4,0,2,9,12,16]
 intro _
 refine au [13,2,3,5,1,24,5,1,32,10] ?_
 intro x17 e17 _
 exact az [7,7,7,4,4,4,0,2,9,16]
set_option maxHeartbeats 4000000 in
theorem qgv {F : Nat}  {r : Bool} (hm : qa4 F  = some r) :
    Pure Tryz.prog 61 [] [] Unit (fun _ => .bool r) (fun _ => []) (fun _ => []) := by
 refine qk Tryz.func61 rfl Tryz.ntmps61 rfl hm (fun w => ?_)
 refine au [26,11,3,5,4,0,2,3,5] ?_
 refine qq (vs := [.int .i64 2, .int .i64 0, .int .i64 1, .int .i64 3, .int .i64 3]) (ys := ([2, 0, 1, 3, 3] : List Int)) (qn .i64) (by decide) rfl Tryz.underlying22 tf3 rfl rfl rfl rfl rfl (by decide) (fun a1 c2 => ?_)
 refine au [4,0,2,3,5,1] ?_
 refine qh qiy ?_
 intro x3 e3 _
 refine au [1,7,7,4,4,0,2,3,5,1,27,14] ?_
 rintro x4 e4 ⟨a5, c6⟩
 refine au [1,7,7,4,4,0,2,3,3,5,1,24,15,1] ?_
 refine qi 3 ((x3.2 : Int) != 0) [(1, .slice a1 ([2, 0, 1, 3, 3] : List Int).length c2), (2, .int .i64 x3.1), (4, .slice a5 x4.1.length c6.1), (32, .bool (((x3.2 : Int) != 0) || ((x4.2 : Int) != 0)))] (fun h10 => ?_) (fun h10 => ?_) ?_
 refine qa (os := _) rfl (qg (k := 29) rfl h10 ?_)
 refine au [6,6,14] ?_
 refine qb (d := 32) (v := .bool (((x3.2 : Int) != 0) || ((x4.2 : Int) != 0))) rfl (by rw [h10]; simp only [Bool.true_or]) ?_
 exact az [0,8]
 refine qa (os := _) rfl (qf (k := 29) rfl h10 ?_)
 refine au [1,24,15,15] ?_
 refine qb (d := 32) (v := .bool (((x3.2 : Int) != 0) || ((x4.2 : Int) != 0))) rfl (by rw [h10]; simp only [Bool.false_or]) ?_
 exact az [0,8]
 refine qa (os := _) rfl ?_
 refine au [1] ?_
 refine qi 4 (((x3.2 : Int) != 0) || ((x4.2 : Int) != 0)) [(1, .slice a1 ([2, 0, 1, 3, 3] : List Int).length c2), (2, .int .i64 x3.1), (4, .slice a5 x4.1.length c6.1), (37, .bool ((((x3.2 : Int) != 0) || ((x4.2 : Int) != 0)) || (((x4.1.length : Int) : Int) != 5)))] (fun h11 => ?_) (fun h11 => ?_) ?_
 refine qa (os := _) rfl (qg (k := 33) rfl h11 ?_)
 refine au [6,6,6,14] ?_
 refine qb (d := 37) (v := .bool ((((x3.2 : Int) != 0) || ((x4.2 : Int) != 0)) || (((x4.1.length : Int) : Int) != 5))) rfl (by rw [h11]; simp only [Bool.true_or]) ?_
 exact az [0,8]
 refine qa (os := _) rfl (qf (k := 33) rfl h11 ?_)
 refine au [1,24,4,24,15,15] ?_
 refine qb (d := 37) (v := .bool ((((x3.2 : Int) != 0) || ((x4.2 : Int) != 0)) || (((x4.1.length : Int) : Int) != 5))) rfl (by rw [h11]; simp only [Bool.false_or]) ?_
 exact az [0,8]
 refine qa (os := _) rfl ?_
 refine av [0,2,10] ?_ ?_
 intro _
 exact az [3,5,4,0,2,9,12,16]
 intro _
 refine au [13,2,3,5,1,33,9] ?_
 intro x12 e12 _
 refine au [1,7,7,4,4,0,2,3,5,1] ?_
 refine qq (vs := [.int .u8 96]) (ys := ([96] : List Int)) (qn .u8) (by decide) rfl Tryz.underlying23 tf5 rfl rfl rfl rfl rfl (by decide) (fun a13 c14 => qH (cells := [.int .i64 4, .slice a13 ([96] : List Int).length c14]) rfl st25 rfl (by kernel_rfl) rfl ?_)
 refine au [33,10] ?_
 intro x15 e15 _
 refine au [1,7,7,7,4,4,4,0,2,3,5] ?_
 refine qq (vs := [.int .i64 1, .int .i64 1, .int .i64 1]) (ys := ([1, 1, 1] : List Int)) (qn .i64) (by decide) rfl Tryz.underlying22 tf3 rfl rfl rfl rfl rfl (by decide) (fun a16 c17 => ?_)
 refine au [27,14] ?_
 rintro x18 e18 ⟨a19, c20⟩
 refine au [1,7,7,4,4,0,2,3,5] ?_
 refine qq (vs := [.int .i64 2]) (ys := ([2] : List Int)) (qn .i64) (by decide) rfl Tryz.underlying22 tf3 rfl rfl rfl rfl rfl (by decide) (fun a21 c22 => qq (vs := [.int .u8 128]) (ys := ([128] : List Int)) (qn .u8) (by decide) rfl Tryz.underlying23 tf5 rfl rfl rfl rfl rfl (by decide) (fun a23 c24 => qH (cells := [.int .i64 1, .slice a23 ([128] : List Int).length c24]) rfl st25 rfl (by kernel_rfl) rfl ?_))
 refine au [33,10] ?_
 intro x25 e25 _
 refine au [1,7,7,7,4,4,4,0,2,3,5,1,19,1] ?_
 refine qy 7 (fun ((x35, _) : (Bool × Unit)) => ([(4, .slice a5 x4.1.length c6.1), (6, .bool x12.1), (7, .int .i64 x12.2), (8, .int .i64 x15.1), (9, .int .i64 x15.2.1), (10, .int .i64 x15.2.2), (12, .int .i64 x18.2), (15, .int .i64 x25.2.2), (73, .bool x35)], [], [RoN eN25 rN25 25 2 (.slice a5 x4.1.length c6.1) x4.1 c6.2 []], [], vR F x4 x12 x15 x18 x25 x35)) ?_ ?_
 refine qa (os := _) rfl ?_
 refine av [24,12] ?_ ?_
 intro h26
 refine qg (k := 66) rfl h26 ?_
 refine au [1] ?_
 refine qfz (j := 5) rfl UnF.u inferInstance rfl rfl rfl rfl ?_
 intro x79 e79 g80 h81 g82 h83
 refine qbS (i := 5) rfl h81 (List.not_mem_nil) (qaY (j := 1) (p := (x79, g80)) kR rfl rfl tf25 rfl h83 h81 rfl (by simp) rfl rfl (qq (vs := [.int .u8 128]) (ys := ([128] : List Int)) (qn .u8) (by decide) rfl Tryz.underlying23 tf5 rfl rfl rfl rfl rfl (by decide) (fun a84 c85 => qH (cells := [.int .i64 2, .slice a84 ([128] : List Int).length c85]) rfl st25 rfl (by kernel_rfl) rfl ?_)))
 refine au [26,2] ?_
 intro x86 e86 _
 refine au [14,0] ?_
 exact qeZ (rin := rN25) (p := (x79, g80)) (i := 1) (k := 0) (.cons 1 rfl .nil) rfl rfl h81 (qc (x86, ()))
 intro h26
 refine qf (k := 66) rfl h26 ?_
 refine au [6,6,6,6,6,6,15,0] ?_
 exact qc (false, ())
 rintro ⟨x35, _⟩
 try dsimp only
 refine qa (os := _) rfl ?_
 refine au [1] ?_
 refine qy 7 (fun ((x45, _) : (Bool × Unit)) => ([(4, .slice a5 x4.1.length c6.1), (6, .bool x12.1), (7, .int .i64 x12.2), (8, .int .i64 x15.1), (9, .int .i64 x15.2.1), (10, .int .i64 x15.2.2), (12, .int .i64 x18.2), (15, .int .i64 x25.2.2), (81, .bool x45)], [], [RoN eN25 rN25 25 2 (.slice a5 x4.1.length c6.1) x4.1 c6.2 []], [], vS F x4 x12 x15 x18 x25 x45)) ?_ ?_
 refine qa (os := _) rfl ?_
 refine av [24,12] ?_ ?_
 intro h36
 refine qg (k := 74) rfl h36 ?_
 refine au [1,28,1] ?_
 intro x71 e71 g72 h73 g74 h75
 refine qbS (i := 0) rfl h73 (List.not_mem_nil) (qaY (j := 1) (p := (x71, g72)) kR rfl rfl tf25 rfl h75 h73 rfl (by simp) rfl rfl (qq (vs := [.int .u8 0]) (ys := ([0] : List Int)) (qn .u8) (by decide) rfl Tryz.underlying23 tf5 rfl rfl rfl rfl rfl (by decide) (fun a76 c77 => qH (cells := [.int .i64 1, .slice a76 ([0] : List Int).length c77]) rfl st25 rfl (by kernel_rfl) rfl ?_)))
 refine au [26,2] ?_
 intro x78 e78 _
 refine au [14,0] ?_
 exact qeZ (rin := rN25) (p := (x71, g72)) (i := 1) (k := 0) (.cons 1 rfl .nil) rfl rfl h73 (qc (x78, ()))
 intro h36
 refine qf (k := 74) rfl h36 ?_
 refine au [6,6,6,6,6,6,15,0] ?_
 exact qc (false, ())
 rintro ⟨x45, _⟩
 try dsimp only
 refine qa (os := _) rfl ?_
 refine au [1] ?_
 refine qy 7 (fun ((x55, _) : (Bool × Unit)) => ([(6, .bool x12.1), (7, .int .i64 x12.2), (8, .int .i64 x15.1), (9, .int .i64 x15.2.1), (10, .int .i64 x15.2.2), (12, .int .i64 x18.2), (15, .int .i64 x25.2.2), (89, .bool x55)], [], [], [], qa5 F x12 x15 x18 x25 x55)) ?_ ?_
 refine qa (os := _) rfl ?_
 refine av [24,12] ?_ ?_
 intro h46
 refine qg (k := 82) rfl h46 ?_
 refine au [1,28,1] ?_
 intro x63 e63 g64 h65 g66 h67
 refine qbS (i := 0) rfl h65 (List.not_mem_nil) (qaY (j := 1) (p := (x63, g64)) kR rfl rfl tf25 rfl h67 h65 rfl (by simp) rfl rfl (qq (vs := [.int .u8 224]) (ys := ([224] : List Int)) (qn .u8) (by decide) rfl Tryz.underlying23 tf5 rfl rfl rfl rfl rfl (by decide) (fun a68 c69 => qH (cells := [.int .i64 3, .slice a68 ([224] : List Int).length c69]) rfl st25 rfl (by kernel_rfl) rfl ?_)))
 refine au [26,2] ?_
 intro x70 e70 _
 refine au [14,0] ?_
 exact qeZ (rin := rN25) (p := (x63, g64)) (i := 1) (k := 0) (.cons 1 rfl .nil) rfl rfl h65 (qc (x70, ()))
 intro h46
 refine qf (k := 82) rfl h46 ?_
 refine au [6,6,6,6,6,6,15,0] ?_
 exact qc (false, ())
 rintro ⟨x55, _⟩
 try dsimp only
 refine qa (os := _) rfl ?_
 refine au [1] ?_
 refine qi 2 x55 [(7, .int .i64 x12.2), (8, .int .i64 x15.1), (9, .int .i64 x15.2.1), (10, .int .i64 x15.2.2), (12, .int .i64 x18.2), (15, .int .i64 x25.2.2), (92, .bool (x55 && x12.1))] (fun h56 => ?_) (fun h56 => ?_) ?_
 refine qa (os := _) rfl (qg (k := 90) rfl h56 ?_)
 refine au [1,14] ?_
 refine qb (d := 92) (v := .bool (x55 && x12.1)) rfl (by rw [h56]; simp only [Bool.true_and]) ?_
 exact az [0,8]
 refine qa (os := _) rfl (qf (k := 90) rfl h56 ?_)
 refine au [6,15] ?_
 refine qb (d := 92) (v := .bool (x55 && x12.1)) rfl (by rw [h56]; simp only [Bool.false_and]) ?_
 exact az [0,8]
 refine qa (os := _) rfl ?_
 refine au [1] ?_
 refine qi 3 (x55 && x12.1) [(8, .int .i64 x15.1), (9, .int .i64 x15.2.1), (10, .int .i64 x15.2.2), (12, .int .i64 x18.2), (15, .int .i64 x25.2.2), (96, .bool ((x55 && x12.1) && ((x12.2 : Int) == 0)))] (fun h57 => ?_) (fun h57 => ?_) ?_
 refine qa (os := _) rfl (qg (k := 93) rfl h57 ?_)
 refine au [1,19,14] ?_
 refine qb (d := 96) (v := .bool ((x55 && x12.1) && ((x12.2 : Int) == 0))) rfl (by rw [h57]; simp only [Bool.true_and]) ?_
 exact az [0,8]
 refine qa (os := _) rfl (qf (k := 93) rfl h57 ?_)
 refine au [6,6,15] ?_
 refine qb (d := 96) (v := .bool ((x55 && x12.1) && ((x12.2 : Int) == 0))) rfl (by rw [h57]; simp only [Bool.false_and]) ?_
 exact az [0,8]
 refine qa (os := _) rfl ?_
 refine au [1] ?_
 refine qi 3 ((x55 && x12.1) && ((x12.2 : Int) == 0)) [(9, .int .i64 x15.2.1), (10, .int .i64 x15.2.2), (12, .int .i64 x18.2), (15, .int .i64 x25.2.2), (100, .bool (((x55 && x12.1) && ((x12.2 : Int) == 0)) && ((x15.1 : Int) == 3)))] (fun h58 => ?_) (fun h58 => ?_) ?_
 refine qa (os := _) rfl (qg (k := 97) rfl h58 ?_)
 refine au [1,19,14] ?_
 refine qb (d := 100) (v := .bool (((x55 && x12.1) && ((x12.2 : Int) == 0)) && ((x15.1 : Int) == 3))) rfl (by rw [h58]; simp only [Bool.true_and]) ?_
 exact az [0,8]
 refine qa (os := _) rfl (qf (k := 97) rfl h58 ?_)
 refine au [6,6,15] ?_
 refine qb (d := 100) (v := .bool (((x55 && x12.1) && ((x12.2 : Int) == 0)) && ((x15.1 : Int) == 3))) rfl (by rw [h58]; simp only [Bool.false_and]) ?_
 exact az [0,8]
 refine qa (os := _) rfl ?_
 refine au [1] ?_
 refine qi 3 (((x55 && x12.1) && ((x12.2 : Int) == 0)) && ((x15.1 : Int) == 3)) [(10, .int .i64 x15.2.2), (12, .int .i64 x18.2), (15, .int .i64 x25.2.2), (104, .bool ((((x55 && x12.1) && ((x12.2 : Int) == 0)) && ((x15.1 : Int) == 3)) && ((x15.2.1 : Int) == 4)))] (fun h59 => ?_) (fun h59 => ?_) ?_
 refine qa (os := _) rfl (qg (k := 101) rfl h59 ?_)
 refine au [1,19,14] ?_
 refine qb (d := 104) (v := .bool ((((x55 && x12.1) && ((x12.2 : Int) == 0)) && ((x15.1 : Int) == 3)) && ((x15.2.1 : Int) == 4))) rfl (by rw [h59]; simp only [Bool.true_and]) ?_
 exact az [0,8]
 refine qa (os := _) rfl (qf (k := 101) rfl h59 ?_)
 refine au [6,6,15] ?_
 refine qb (d := 104) (v := .bool ((((x55 && x12.1) && ((x12.2 : Int) == 0)) && ((x15.1 : Int) == 3)) && ((x15.2.1 : Int) == 4))) rfl (by rw [h59]; simp only [Bool.false_and]) ?_
 exact az [0,8]
 refine qa (os := _) rfl ?_
 refine au [1] ?_
 refine qi 3 ((((x55 && x12.1) && ((x12.2 : Int) == 0)) && ((x15.1 : Int) == 3)) && ((x15.2.1 : Int) == 4)) [(12, .int .i64 x18.2), (15, .int .i64 x25.2.2), (108, .bool (((((x55 && x12.1) && ((x12.2 : Int) == 0)) && ((x15.1 : Int) == 3)) && ((x15.2.1 : Int) == 4)) && ((x15.2.2 : Int) == 0)))] (fun h60 => ?_) (fun h60 => ?_) ?_
 refine qa (os := _) rfl (qg (k := 105) rfl h60 ?_)
 refine au [1,19,14] ?_
 refine qb (d := 108) (v := .bool (((((x55 && x12.1) && ((x12.2 : Int) == 0)) && ((x15.1 : Int) == 3)) && ((x15.2.1 : Int) == 4)) && ((x15.2.2 : Int) == 0))) rfl (by rw [h60]; simp only [Bool.true_and]) ?_
 exact az [0,8]
 refine qa (os := _) rfl (qf (k := 105) rfl h60 ?_)
 refine au [6,6,15] ?_
 refine qb (d := 108) (v := .bool (((((x55 && x12.1) && ((x12.2 : Int) == 0)) && ((x15.1 : Int) == 3)) && ((x15.2.1 : Int) == 4)) && ((x15.2.2 : Int) == 0))) rfl (by rw [h60]; simp only [Bool.false_and]) ?_
 exact az [0,8]
 refine qa (os := _) rfl ?_
 refine au [1] ?_
 refine qi 3 (((((x55 && x12.1) && ((x12.2 : Int) == 0)) && ((x15.1 : Int) == 3)) && ((x15.2.1 : Int) == 4)) && ((x15.2.2 : Int) == 0)) [(15, .int .i64 x25.2.2), (112, .bool ((((((x55 && x12.1) && ((x12.2 : Int) == 0)) && ((x15.1 : Int) == 3)) && ((x15.2.1 : Int) == 4)) && ((x15.2.2 : Int) == 0)) && ((x18.2 : Int) == 8)))] (fun h61 => ?_) (fun h61 => ?_) ?_
 refine qa (os := _) rfl (qg (k := 109) rfl h61 ?_)
 refine au [1,19,14] ?_
 refine qb (d := 112) (v := .bool ((((((x55 && x12.1) && ((x12.2 : Int) == 0)) && ((x15.1 : Int) == 3)) && ((x15.2.1 : Int) == 4)) && ((x15.2.2 : Int) == 0)) && ((x18.2 : Int) == 8))) rfl (by rw [h61]; simp only [Bool.true_and]) ?_
 exact az [0,8]
 refine qa (os := _) rfl (qf (k := 109) rfl h61 ?_)
 refine au [6,6,15] ?_
 refine qb (d := 112) (v := .bool ((((((x55 && x12.1) && ((x12.2 : Int) == 0)) && ((x15.1 : Int) == 3)) && ((x15.2.1 : Int) == 4)) && ((x15.2.2 : Int) == 0)) && ((x18.2 : Int) == 8))) rfl (by rw [h61]; simp only [Bool.false_and]) ?_
 exact az [0,8]
 refine qa (os := _) rfl ?_
 refine au [1] ?_
 refine qi 3 ((((((x55 && x12.1) && ((x12.2 : Int) == 0)) && ((x15.1 : Int) == 3)) && ((x15.2.1 : Int) == 4)) && ((x15.2.2 : Int) == 0)) && ((x18.2 : Int) == 8)) [(116, .bool (((((((x55 && x12.1) && ((x12.2 : Int) == 0)) && ((x15.1 : Int) == 3)) && ((x15.2.1 : Int) == 4)) && ((x15.2.2 : Int) == 0)) && ((x18.2 : Int) == 8)) && ((x25.2.2 : Int) == 5)))] (fun h62 => ?_) (fun h62 => ?_) ?_
 refine qa (os := _) rfl (qg (k := 113) rfl h62 ?_)
 refine au [1,19,14] ?_
 refine qb (d := 116) (v := .bool (((((((x55 && x12.1) && ((x12.2 : Int) == 0)) && ((x15.1 : Int) == 3)) && ((x15.2.1 : Int) == 4)) && ((x15.2.2 : Int) == 0)) && ((x18.2 : Int) == 8)) && ((x25.2.2 : Int) == 5))) rfl (by rw [h62]; simp only [Bool.true_and]) ?_
 exact az [0,8]
 refine qa (os := _) rfl (qf (k := 113) rfl h62 ?_)
 refine au [6,6,15] ?_
 refine qb (d := 116) (v := .bool (((((((x55 && x12.1) && ((x12.2 : Int) == 0)) && ((x15.1 : Int) == 3)) && ((x15.2.1 : Int) == 4)) && ((x15.2.2 : Int) == 0)) && ((x18.2 : Int) == 8)) && ((x25.2.2 : Int) == 5))) rfl (by rw [h62]; simp only [Bool.false_and]) ?_
 exact az [0,8]
 refine qa (os := _) rfl ?_
 exact az [4,0,2,9,16]
set_option maxHeartbeats 4000000 in
theorem qjo {F : Nat} {x1 : List Int} {a2 : Option Addr} {c3 : Nat} {x4 : List Int} {a5 : Option Addr} {c6 : Nat} {r : (Int × Int)} (hm : qc4 F x1 x4 = some r) :
    Pure Tryz.prog 157 [.slice a2 x1.length c3, .slice a5 x4.length c6] [Sl (eI .i64) 1 (.slice a2 x1.length c3) x1, Sl (eI .i64) 1 (.slice a5 x4.length c6) x4] Unit (fun _ => .tuple #[.int .i64 r.1, .int .i64 r.2]) (fun _ => []) (fun _ => []) := by
 refine qk Tryz.func157 rfl Tryz.ntmps157 rfl hm (fun w => ?_)
 refine au [24,10,3,5,4,4,0,2,3,5,1,29,14] ?_
 intro x7 e7 _
 refine au [4,0,2] ?_
 refine qm (fun ((x10, _) : (Int × Unit)) => ([(0, .slice a2 x1.length c3), (1, .slice a5 x4.length c6), (4, .int .i64 0), (5, .int .i64 x10)], [], [], [Sl (eI .i64) 1 (.slice a2 x1.length c3) x1, Sl (eI .i64) 1 (.slice a5 x4.length c6) x4], qbl F x1 x4 x10)) ?_ ?_
 refine au [3,5,1,19,1] ?_
 refine qi 6 ((x7 : Int) == 0) [(0, .slice a2 x1.length c3), (1, .slice a5 x4.length c6), (4, .int .i64 0), (5, .int .i64 x7), (18, .bool (((x7 : Int) == 0) && (((x1.length : Int) : Int) != (x4.length : Int))))] (fun h325 => ?_) (fun h325 => ?_) ?_
 refine qa (os := _) rfl (qg (k := 12) rfl h325 ?_)
 refine au [1,24,4,1,24,4,24,15,14] ?_
 refine qb (d := 18) (v := .bool (((x7 : Int) == 0) && (((x1.length : Int) : Int) != (x4.length : Int)))) rfl (by rw [h325]; simp only [Bool.true_and]) ?_
 exact az [0,8]
 refine qa (os := _) rfl (qf (k := 12) rfl h325 ?_)
 refine au [6,6,6,6,6,15] ?_
 refine qb (d := 18) (v := .bool (((x7 : Int) == 0) && (((x1.length : Int) : Int) != (x4.length : Int)))) rfl (by rw [h325]; simp only [Bool.false_and]) ?_
 exact az [0,8]
 refine qa (os := _) rfl ?_
 refine av [0,2,10] ?_ ?_
 intro _
 refine au [5,4,0] ?_
 exact qc ((1 : Int), ())
 intro _
 refine au [13] ?_
 exact qc (x7, ())
 rintro ⟨x10, _⟩
 try dsimp only
 refine qm (fun ((x13, _) : (Int × Unit)) => ([(0, .slice a2 x1.length c3), (1, .slice a5 x4.length c6), (4, .int .i64 0), (5, .int .i64 x13)], [], [], [Sl (eI .i64) 1 (.slice a2 x1.length c3) x1, Sl (eI .i64) 1 (.slice a5 x4.length c6) x4], qbm F x1 x4 x13)) ?_ ?_
 refine av [3,5,1,19,0,2,10] ?_ ?_
 intro _
 refine au [5,1] ?_
 refine qh qfa ?_
 intro x323 e323 _
 refine au [4,0] ?_
 exact qc (x323, ())
 intro _
 refine au [13] ?_
 exact qc (x10, ())
 rintro ⟨x13, _⟩
 try dsimp only
 refine av [3,3,5,1,24,15,0,2,10] ?_ ?_
 intro _
 exact az [3,5,1,4,4,0,2,9,12,16]
 intro _
 refine au [13,2] ?_
 refine qm (fun ((x168, _) : (Int × Unit)) => ([(4, .int .i64 x168)], [], [], [], qdW F x168)) ?_ ?_
 refine au [3,5,1,24,4,1,0,2,18] ?_
 refine qx (fun (((x219, x220), _) : ((Int × Int) × Unit)) => ([(1, .slice a5 x4.length c6), (4, .int .i64 x219), (26, .slice a2 x1.length c3), (27, .int .i64 (x1.length : Int)), (28, .int .i64 x220)], [], [], [Sl (eI .i64) 1 (.slice a5 x4.length c6) x4, Sl (eI .i64) 1 (.slice a2 x1.length c3) x1])) (fun k (s : ((Int × Int) × Unit)) => kW F x1 x4 k s.1) ((0, 0), ()) F ?_
 intro k271
 rintro ⟨⟨x219, x220⟩, _⟩
 try dsimp only
 refine qN (m' := qaC F x1 x4 (kW F x1 x4 k271) x219 x220) rfl ?_
 refine av [3,5,24,3,0,2,3,10] ?_ ?_
 intro _
 refine au [13,2,3,18,3,5,1,28,14] ?_
 intro x297 e297 b298 o299
 refine au [25,9,4,4,0,2,3,3,5,1,24,13,1] ?_
 refine qy 6 (fun ((x313, _) : (Bool × Unit)) => ([(1, .slice a5 x4.length c6), (4, .int .i64 x219), (6, .int .i64 x220), (7, .int .i64 x297), (26, .slice a2 x1.length c3), (27, .int .i64 (x1.length : Int)), (28, .int .i64 x220), (41, .bool x313)], [], [], [Sl (eI .i64) 1 (.slice a5 x4.length c6) x4, Sl (eI .i64) 1 (.slice a2 x1.length c3) x1], qaD F (kW F x1 x4 k271) x4 x219 x220 x297 x313)) ?_ ?_
 refine qa (os := _) rfl ?_
 refine av [24,12] ?_ ?_
 intro h309
 refine qg (k := 35) rfl h309 ?_
 refine au [1,1,28,14] ?_
 intro x318 e318 b319 o320
 refine au [25,9,19,14,0] ?_
 exact qc (((x318 : Int) == 0), ())
 intro h309
 refine qf (k := 35) rfl h309 ?_
 refine au [6,6,6,6,6,15,0] ?_
 exact qc (false, ())
 rintro ⟨x313, _⟩
 try dsimp only
 refine qa (os := _) rfl ?_
 refine av [0,2,10] ?_ ?_
 intro _
 exact az [3,5,4,4,0,2,9,12,24,0,12,12,24,0,12,16]
 intro _
 refine au [13,2,5,1,1,1,1,26,6] ?_
 intro x314 e314 b315 o316
 refine au [25,9,27,1,21,4,0,24,2,2,5,21,1,0] ?_
 exact qs ((iadd .i64 x219 (imul .i64 x297 x314), iadd .i64 x220 1), ())
 intro _
 refine au [24,8,20,20,24,9] ?_
 exact qc (x219, ())
 rintro ⟨x168, _⟩
 try dsimp only
 exact az [3,5,1,4,4,0,2,9,16]
set_option maxHeartbeats 4000000 in
theorem qhp {F : Nat}  {r : Bool} (hm : qbV F  = some r) :
    Pure Tryz.prog 62 [] [] Unit (fun _ => .bool r) (fun _ => []) (fun _ => []) := by
 refine qk Tryz.func62 rfl Tryz.ntmps62 rfl hm (fun w => ?_)
 refine au [26,11,3,5,4,0,2,3,5] ?_
 refine qq (vs := [.int .i64 5, .int .i64 0, .int .i64 1, .int .i64 2, .int .i64 1]) (ys := ([5, 0, 1, 2, 1] : List Int)) (qn .i64) (by decide) rfl Tryz.underlying22 tf3 rfl rfl rfl rfl rfl (by decide) (fun a1 c2 => ?_)
 refine au [30,0] ?_
 rintro x3 e3 ⟨a4, c5⟩
 refine au [1,7,7,4,4,0,2,3,5] ?_
 refine qq (vs := [.int .i64 5, .int .i64 0, .int .i64 1, .int .i64 2, .int .i64 1]) (ys := ([5, 0, 1, 2, 1] : List Int)) (qn .i64) (by decide) rfl Tryz.underlying22 tf3 rfl rfl rfl rfl rfl (by decide) (fun a6 c7 => ?_)
 refine au [1] ?_
 refine qh qjo ?_
 intro x8 e8 _
 refine au [1,7,7,4,4,0,2,3,5] ?_
 refine qq (vs := [.int .i64 0, .int .i64 2, .int .i64 0]) (ys := ([0, 2, 0] : List Int)) (qn .i64) (by decide) rfl Tryz.underlying22 tf3 rfl rfl rfl rfl rfl (by decide) (fun a9 c10 => qh (fun h => qf3 F _ _ _ _ _ h) ?_)
 rintro x11 e11 ⟨⟨a12, c13⟩, ⟨a14, c15⟩⟩
 refine au [1,7,7,7,23] ?_
 intro g16
 refine au [4,22,4,0,2,3,5,1,24,5,33,11] ?_
 rintro x17 e17 ⟨a18, c19⟩
 refine au [1,7,7,4,4,0,2,3,5,1,24,5,33,11] ?_
 rintro x20 e20 ⟨a21, c22⟩
 refine au [1,7,7,4,4,0,2,3,5] ?_
 refine qq (vs := [.int .i64 0, .int .i64 7]) (ys := ([0, 7] : List Int)) (qn .i64) (by decide) rfl Tryz.underlying22 tf3 rfl rfl rfl rfl rfl (by decide) (fun a23 c24 => ?_)
 refine au [30,0] ?_
 rintro x25 e25 ⟨a26, c27⟩
 refine au [1,7,7,4,4,0,2,3,5,1] ?_
 refine qq (vs := [.int .i64 1, .int .i64 0, .int .i64 3, .int .i64 2, .int .i64 3]) (ys := ([1, 0, 3, 2, 3] : List Int)) (qn .i64) (by decide) rfl Tryz.underlying22 tf3 rfl rfl rfl rfl rfl (by decide) (fun a28 c29 => ?_)
 refine au [27,3] ?_
 intro x30 e30 _
 refine au [1] ?_
 refine qi 3 x30 [(3, .int .i64 x8.1), (4, .int .i64 x8.2), (6, .pointer (some ⟨g16, 0, none⟩)), (5, .slice a12 x11.1.length c13), (7, .int .i64 x11.2.2.2), (8, .slice a18 x17.1.length c19), (9, .int .i64 x17.2), (11, .int .i64 x20.2), (12, .slice a26 x25.1.length c27), (13, .int .i64 x25.2), (54, .bool (x30 && ((x3.2 : Int) == 0)))] (fun h31 => ?_) (fun h31 => ?_) ?_
 refine qa (os := _) rfl (qg (k := 51) rfl h31 ?_)
 refine au [1,19,14] ?_
 refine qb (d := 54) (v := .bool (x30 && ((x3.2 : Int) == 0))) rfl (by rw [h31]; simp only [Bool.true_and]) ?_
 exact az [0,8]
 refine qa (os := _) rfl (qf (k := 51) rfl h31 ?_)
 refine au [6,6,15] ?_
 refine qb (d := 54) (v := .bool (x30 && ((x3.2 : Int) == 0))) rfl (by rw [h31]; simp only [Bool.false_and]) ?_
 exact az [0,8]
 refine qa (os := _) rfl ?_
 refine au [1] ?_
 refine qi 3 (x30 && ((x3.2 : Int) == 0)) [(4, .int .i64 x8.2), (6, .pointer (some ⟨g16, 0, none⟩)), (5, .slice a12 x11.1.length c13), (7, .int .i64 x11.2.2.2), (8, .slice a18 x17.1.length c19), (9, .int .i64 x17.2), (11, .int .i64 x20.2), (12, .slice a26 x25.1.length c27), (13, .int .i64 x25.2), (58, .bool ((x30 && ((x3.2 : Int) == 0)) && ((x8.1 : Int) == 15)))] (fun h32 => ?_) (fun h32 => ?_) ?_
 refine qa (os := _) rfl (qg (k := 55) rfl h32 ?_)
 refine au [1,19,14] ?_
 refine qb (d := 58) (v := .bool ((x30 && ((x3.2 : Int) == 0)) && ((x8.1 : Int) == 15))) rfl (by rw [h32]; simp only [Bool.true_and]) ?_
 exact az [0,8]
 refine qa (os := _) rfl (qf (k := 55) rfl h32 ?_)
 refine au [6,6,15] ?_
 refine qb (d := 58) (v := .bool ((x30 && ((x3.2 : Int) == 0)) && ((x8.1 : Int) == 15))) rfl (by rw [h32]; simp only [Bool.false_and]) ?_
 exact az [0,8]
 refine qa (os := _) rfl ?_
 refine au [1] ?_
 refine qi 3 ((x30 && ((x3.2 : Int) == 0)) && ((x8.1 : Int) == 15)) [(6, .pointer (some ⟨g16, 0, none⟩)), (5, .slice a12 x11.1.length c13), (7, .int .i64 x11.2.2.2), (8, .slice a18 x17.1.length c19), (9, .int .i64 x17.2), (11, .int .i64 x20.2), (12, .slice a26 x25.1.length c27), (13, .int .i64 x25.2), (62, .bool (((x30 && ((x3.2 : Int) == 0)) && ((x8.1 : Int) == 15)) && ((x8.2 : Int) == 0)))] (fun h33 => ?_) (fun h33 => ?_) ?_
 refine qa (os := _) rfl (qg (k := 59) rfl h33 ?_)
 refine au [1,19,14] ?_
 refine qb (d := 62) (v := .bool (((x30 && ((x3.2 : Int) == 0)) && ((x8.1 : Int) == 15)) && ((x8.2 : Int) == 0))) rfl (by rw [h33]; simp only [Bool.true_and]) ?_
 exact az [0,8]
 refine qa (os := _) rfl (qf (k := 59) rfl h33 ?_)
 refine au [6,6,15] ?_
 refine qb (d := 62) (v := .bool (((x30 && ((x3.2 : Int) == 0)) && ((x8.1 : Int) == 15)) && ((x8.2 : Int) == 0))) rfl (by rw [h33]; simp only [Bool.false_and]) ?_
 exact az [0,8]
 refine qa (os := _) rfl ?_
 refine au [1] ?_
 refine qy 4 (fun ((x38, _) : (Bool × Unit)) => ([(6, .pointer (some ⟨g16, 0, none⟩)), (7, .int .i64 x11.2.2.2), (8, .slice a18 x17.1.length c19), (9, .int .i64 x17.2), (11, .int .i64 x20.2), (12, .slice a26 x25.1.length c27), (13, .int .i64 x25.2), (67, .bool x38)], [⟨g16, 25, [.int .i64 x11.2.1, .slice a14 x11.2.2.1.length c15]⟩], [Ro (eI .i64) 3 1 (.slice a18 x17.1.length c19) x17.1, Ro (eI .i64) 3 1 (.slice a26 x25.1.length c27) x25.1, Ro (eI .u8) 5 1 (.slice a14 x11.2.2.1.length c15) x11.2.2.1], [], jV F x11 x17 x20 x25 x38)) ?_ ?_
 refine qa (os := _) rfl ?_
 refine av [24,12] ?_ ?_
 intro h34
 refine qg (k := 63) rfl h34 ?_
 refine au [1] ?_
 refine qq (vs := [.int .i64 1, .int .i64 0, .int .i64 1]) (ys := ([1, 0, 1] : List Int)) (qn .i64) (by decide) rfl Tryz.underlying22 tf3 rfl rfl rfl rfl rfl (by decide) (fun a60 c61 => ?_)
 refine au [27,3] ?_
 intro x62 e62 _
 refine au [14,0] ?_
 exact qc (x62, ())
 intro h34
 refine qf (k := 63) rfl h34 ?_
 refine au [6,6,6,15,0] ?_
 exact qc (false, ())
 rintro ⟨x38, _⟩
 try dsimp only
 refine qa (os := _) rfl ?_
 refine au [1] ?_
 refine qi 4 x38 [(7, .int .i64 x11.2.2.2), (8, .slice a18 x17.1.length c19), (9, .int .i64 x17.2), (11, .int .i64 x20.2), (12, .slice a26 x25.1.length c27), (13, .int .i64 x25.2), (72, .bool (x38 && ((x11.2.1 : Int) == 3)))] (fun h39 => ?_) (fun h39 => ?_) ?_
 refine qa (os := _) rfl (qg (k := 68) rfl h39 ?_)
 refine au [24,11,25,2,19,14] ?_
 refine qb (d := 72) (v := .bool (x38 && ((x11.2.1 : Int) == 3))) rfl (by rw [h39]; simp only [Bool.true_and]) ?_
 exact az [0,8]
 refine qa (os := _) rfl (qf (k := 68) rfl h39 ?_)
 refine au [6,6,6,15] ?_
 refine qb (d := 72) (v := .bool (x38 && ((x11.2.1 : Int) == 3))) rfl (by rw [h39]; simp only [Bool.false_and]) ?_
 exact az [0,8]
 refine qa (os := _) rfl ?_
 refine au [1] ?_
 refine qi 3 (x38 && ((x11.2.1 : Int) == 3)) [(8, .slice a18 x17.1.length c19), (9, .int .i64 x17.2), (11, .int .i64 x20.2), (12, .slice a26 x25.1.length c27), (13, .int .i64 x25.2), (76, .bool ((x38 && ((x11.2.1 : Int) == 3)) && ((x11.2.2.2 : Int) == 0)))] (fun h40 => ?_) (fun h40 => ?_) ?_
 refine qa (os := _) rfl (qg (k := 73) rfl h40 ?_)
 refine au [1,19,14] ?_
 refine qb (d := 76) (v := .bool ((x38 && ((x11.2.1 : Int) == 3)) && ((x11.2.2.2 : Int) == 0))) rfl (by rw [h40]; simp only [Bool.true_and]) ?_
 exact az [0,8]
 refine qa (os := _) rfl (qf (k := 73) rfl h40 ?_)
 refine au [6,6,15] ?_
 refine qb (d := 76) (v := .bool ((x38 && ((x11.2.1 : Int) == 3)) && ((x11.2.2.2 : Int) == 0))) rfl (by rw [h40]; simp only [Bool.false_and]) ?_
 exact az [0,8]
 refine qa (os := _) rfl ?_
 refine au [1] ?_
 refine qy 4 (fun ((x45, _) : (Bool × Unit)) => ([(9, .int .i64 x17.2), (11, .int .i64 x20.2), (12, .slice a26 x25.1.length c27), (13, .int .i64 x25.2), (81, .bool x45)], [], [Ro (eI .i64) 3 1 (.slice a26 x25.1.length c27) x25.1], [], jW F x17 x20 x25 x45)) ?_ ?_
 refine qa (os := _) rfl ?_
 refine av [24,12] ?_ ?_
 intro h41
 refine qg (k := 77) rfl h41 ?_
 refine au [1] ?_
 refine qq (vs := [.int .i64 0, .int .i64 2, .int .i64 0]) (ys := ([0, 2, 0] : List Int)) (qn .i64) (by decide) rfl Tryz.underlying22 tf3 rfl rfl rfl rfl rfl (by decide) (fun a57 c58 => ?_)
 refine au [27,3] ?_
 intro x59 e59 _
 refine au [14,0] ?_
 exact qc (x59, ())
 intro h41
 refine qf (k := 77) rfl h41 ?_
 refine au [6,6,6,15,0] ?_
 exact qc (false, ())
 rintro ⟨x45, _⟩
 try dsimp only
 refine qa (os := _) rfl ?_
 refine au [1] ?_
 refine qi 3 x45 [(11, .int .i64 x20.2), (12, .slice a26 x25.1.length c27), (13, .int .i64 x25.2), (85, .bool (x45 && ((x17.2 : Int) == 0)))] (fun h46 => ?_) (fun h46 => ?_) ?_
 refine qa (os := _) rfl (qg (k := 82) rfl h46 ?_)
 refine au [1,19,14] ?_
 refine qb (d := 85) (v := .bool (x45 && ((x17.2 : Int) == 0))) rfl (by rw [h46]; simp only [Bool.true_and]) ?_
 exact az [0,8]
 refine qa (os := _) rfl (qf (k := 82) rfl h46 ?_)
 refine au [6,6,15] ?_
 refine qb (d := 85) (v := .bool (x45 && ((x17.2 : Int) == 0))) rfl (by rw [h46]; simp only [Bool.false_and]) ?_
 exact az [0,8]
 refine qa (os := _) rfl ?_
 refine au [1] ?_
 refine qi 3 (x45 && ((x17.2 : Int) == 0)) [(12, .slice a26 x25.1.length c27), (13, .int .i64 x25.2), (89, .bool ((x45 && ((x17.2 : Int) == 0)) && ((x20.2 : Int) == 1)))] (fun h47 => ?_) (fun h47 => ?_) ?_
 refine qa (os := _) rfl (qg (k := 86) rfl h47 ?_)
 refine au [1,19,14] ?_
 refine qb (d := 89) (v := .bool ((x45 && ((x17.2 : Int) == 0)) && ((x20.2 : Int) == 1))) rfl (by rw [h47]; simp only [Bool.true_and]) ?_
 exact az [0,8]
 refine qa (os := _) rfl (qf (k := 86) rfl h47 ?_)
 refine au [6,6,15] ?_
 refine qb (d := 89) (v := .bool ((x45 && ((x17.2 : Int) == 0)) && ((x20.2 : Int) == 1))) rfl (by rw [h47]; simp only [Bool.false_and]) ?_
 exact az [0,8]
 refine qa (os := _) rfl ?_
 refine au [1] ?_
 refine qy 4 (fun ((x52, _) : (Bool × Unit)) => ([(13, .int .i64 x25.2), (94, .bool x52)], [], [], [], qbL F x25 x52)) ?_ ?_
 refine qa (os := _) rfl ?_
 refine av [24,12] ?_ ?_
 intro h48
 refine qg (k := 90) rfl h48 ?_
 refine au [1] ?_
 refine qq (vs := [.int .i64 0, .int .i64 1]) (ys := ([0, 1] : List Int)) (qn .i64) (by decide) rfl Tryz.underlying22 tf3 rfl rfl rfl rfl rfl (by decide) (fun a54 c55 => ?_)
 refine au [27,3] ?_
 intro x56 e56 _
 refine au [14,0] ?_
 exact qc (x56, ())
 intro h48
 refine qf (k := 90) rfl h48 ?_
 refine au [6,6,6,15,0] ?_
 exact qc (false, ())
 rintro ⟨x52, _⟩
 try dsimp only
 refine qa (os := _) rfl ?_
 refine au [1] ?_
 refine qi 3 x52 [(98, .bool (x52 && ((x25.2 : Int) == 0)))] (fun h53 => ?_) (fun h53 => ?_) ?_
 refine qa (os := _) rfl (qg (k := 95) rfl h53 ?_)
 refine au [1,19,14] ?_
 refine qb (d := 98) (v := .bool (x52 && ((x25.2 : Int) == 0))) rfl (by rw [h53]; simp only [Bool.true_and]) ?_
 exact az [0,8]
 refine qa (os := _) rfl (qf (k := 95) rfl h53 ?_)
 refine au [6,6,15] ?_
 refine qb (d := 98) (v := .bool (x52 && ((x25.2 : Int) == 0))) rfl (by rw [h53]; simp only [Bool.false_and]) ?_
 exact az [0,8]
 refine qa (os := _) rfl ?_
 exact az [4,0,2,9,16]
end Go.Proofs.YtmoikolponkmpaaGreat
