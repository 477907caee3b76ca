/- Each Go function of this seat computes what its model says, part 4. -/
import Derived.Test.YtmoikolponkmpaaGreatWalks3
namespace Go.Proofs.YtmoikolponkmpaaGreat
open Go SX
set_option maxHeartbeats 4000000 in
theorem qe1 (F : Nat) (x1 : List Int) (a2 : Option Addr) (c3 : Nat) (x4 : List Int) (a5 : Option Addr) (c6 : Nat) (r : Bool) (hm : jX F x1 x4 = some r) :
    Pure Tryz.prog 64 [.slice a2 x1.length c3, .slice a5 x4.length c6] [Sl (eI .u64) 1 (.slice a2 x1.length c3) x1, Sl (eI .u64) 1 (.slice a5 x4.length c6) x4] Unit (fun _ => .bool r) (fun _ => []) (fun _ => []) := by
 refine qk Tryz.func64 rfl Tryz.ntmps64 rfl hm (fun w => ?_)
 refine av [24,10,3,5,4,0,2,3,3,5,1,24,4,1,24,4,24,15,0,2,10] ?_ ?_
 intro _
 exact az [3,5,4,0,2,9,12,16]
 intro _
 refine au [13,2] ?_
 refine qm (fun ((_, _) : (Unit × Unit)) => ([], [], [], [], qdU F)) ?_ ?_
 refine au [3,5,4,0,2,18] ?_
 refine qx (fun ((x154, _) : (Int × Unit)) => ([(0, .slice a2 x1.length c3), (1, .slice a5 x4.length c6), (5, .int .i64 x154)], [], [], [Sl (eI .u64) 1 (.slice a2 x1.length c3) x1, Sl (eI .u64) 1 (.slice a5 x4.length c6) x4])) (fun k (s : (Int × Unit)) => yq F x1 x4 k s.1) (0, ()) F ?_
 intro k191
 rintro ⟨x154, _⟩
 try dsimp only
 refine qN (m' := qce F x1 x4 (yq F x1 x4 k191) x154) rfl ?_
 refine av [3,3,5,1,1,24,4,24,3,0,2,10] ?_ ?_
 intro _
 refine au [13,2,3,18,3] ?_
 refine qb9 (j := 0) (qn .u64) (by decide) rfl ?_
 intro x218 e218 b219 o220 h221
 replace h221 : a2 = some ⟨b219, o220, none⟩ := h221
 refine qb9 (j := 2) (qn .u64) (by decide) rfl ?_
 intro x222 e222 b223 o224 h225
 replace h225 : a5 = some ⟨b223, o224, none⟩ := h225
 refine qT mixed [] [] [qJ b223 (o224 + x154.toNat * 1) ((eI .u64) x222), qJ b219 (o220 + x154.toNat * 1) ((eI .u64) x218), Sl (eI .u64) 1 (.slice a2 x1.length c3) x1, Sl (eI .u64) 1 (.slice a5 x4.length c6) x4] .nil (qz 0 rfl (qz 1 rfl (qz 2 rfl (qz 3 rfl qL)))) 9 rfl ?_
 refine au [11,0,11,1] ?_
 refine qo (d := 17) (v := .slice (some ⟨b219, o220, none⟩) x1.length c3) rfl (by rw [h221] <;> rfl) (qj 2 (.pointer (some ⟨b219, (o220 + x154.toNat * 1), none⟩)) rfl rfl rfl (qak Tryz.underlying33 tf80 rfl rfl (qt e218).1 (kH e218)) (qo (d := 17) (v := .slice a2 x1.length c3) rfl (by rw [h221] <;> rfl) (zq 3 (.int .u64 x218) [] rfl rfl rfl (zN (j := 1) rfl tf80 rfl rfl (fun _ => rfl) rfl) ?_)))
 refine au [11,4,11,5] ?_
 refine qo (d := 21) (v := .slice (some ⟨b223, o224, none⟩) x4.length c6) rfl (by rw [h225] <;> rfl) (qj 6 (.pointer (some ⟨b223, (o224 + x154.toNat * 1), none⟩)) rfl rfl rfl (qak Tryz.underlying33 tf80 rfl rfl (qt e222).1 (kH e222)) (qo (d := 21) (v := .slice a5 x4.length c6) rfl (by rw [h225] <;> rfl) (zq 7 (.int .u64 x222) [] rfl rfl rfl (zN (j := 0) rfl tf80 rfl rfl (fun _ => rfl) rfl) ?_)))
 refine au [11,8,24,7] ?_
 refine qR ?_ (by intro c h; cases h)
 refine av [2,10] ?_ ?_
 intro _
 exact az [3,5,4,0,2,9,24,0,12,12,24,0,12,16]
 intro _
 refine au [13,24,2,2,5,1,21,4,0] ?_
 exact qs (iadd .i64 x154 1, ())
 intro _
 exact az [24,8,20,20,24,9,25,13]
 rintro ⟨_, _⟩
 try dsimp only
 exact az [3,5,4,0,2,9,16]
theorem qiC {F : Nat} {x1 : Int} {r : (Int × List Int × Int)} (hm : qfi F x1 = some r) :
    Pure Tryz.prog 138 [.int .u64 x1] [] (Option Addr × Nat) (fun g => .tuple #[.agg #[.int .i64 r.1, .slice g.1 r.2.1.length g.2], .int .i64 r.2.2]) (fun g => [Ro (eI .u8) 5 1 (.slice g.1 r.2.1.length g.2) r.2.1]) (fun _ => []) := by
 refine qk Tryz.func138 rfl Tryz.ntmps138 rfl hm (fun w => ?_)
 refine au [24,14,3,5,23] ?_
 intro g2
 refine av [4,0,2,3,3,5,1,25,5,0,2,10] ?_ ?_
 intro _
 refine au [3,5] ?_
 refine qH (cells := [.int .i64 0, .slice none 0 0]) rfl st25 rfl (by kernel_rfl) rfl ?_
 refine au [22,4,0,2,9,12,26,1] ?_
 exact qI (none, 0) (resL (rs := [.cell 2 25, .tmp 3]) rfl (.cell (i := 0) rfl tf25 rfl rfl (by simp) rfl (.tmp rfl ResOk.nil)) rfl) (fun h => by subst h; exact (.cons 0 rfl .nil))
 intro _
 refine au [13,2,3,5,1,27,11] ?_
 rintro x4 e4 ⟨a5, c6⟩
 refine au [22,4,0,2,9] ?_
 exact qI (a5, c6) (resL (rs := [.cell 2 25, .tmp 3]) rfl (.cell (i := 0) rfl tf25 rfl rfl (by simp) rfl (.tmp rfl ResOk.nil)) rfl) (fun h => by subst h; exact (.cons 0 rfl .nil))
set_option maxHeartbeats 4000000 in
theorem qiE {F : Nat} {x1 : Int} {x2 : List Int} {a3 : Option Addr} {c4 : Nat} {x5 : Int} {r : (Int × Int × Int)} (hm : qdA F x1 x2 x5 = some r) :
    Pure Tryz.prog 139 [.agg #[.int .i64 x1, .slice a3 x2.length c4], .int .i64 x5] [Sl (eI .u8) 1 (.slice a3 x2.length c4) x2] Unit (fun _ => .tuple #[.int .u64 r.1, .int .i64 r.2.1, .int .i64 r.2.2]) (fun _ => []) (fun _ => []) := by
 refine qk Tryz.func139 rfl Tryz.ntmps139 rfl hm (fun w => ?_)
 refine au [24,10,3,5,24,6] ?_
 intro g6
 refine au [4,4,4,0,2,3,5,24,5,26,8] ?_
 intro x7 e7 _
 refine au [4,0,2] ?_
 refine qm (fun ((x13, _) : (Int × Unit)) => ([(1, .int .i64 x5), (2, .pointer (some ⟨g6, 0, none⟩)), (7, .int .i64 x13)], [⟨g6, 25, [.int .i64 x1, .slice a3 x2.length c4]⟩], [], [Sl (eI .u8) 1 (.slice a3 x2.length c4) x2], qci F x1 x2 x5 x13)) ?_ ?_
 refine au [3,5,1,19,1] ?_
 refine qy 9 (fun ((x21, _) : (Bool × Unit)) => ([(1, .int .i64 x5), (2, .pointer (some ⟨g6, 0, none⟩)), (7, .int .i64 x7), (24, .bool x21)], [⟨g6, 25, [.int .i64 x1, .slice a3 x2.length c4]⟩], [], [Sl (eI .u8) 1 (.slice a3 x2.length c4) x2], qcj F x1 x2 x5 x7 x21)) ?_ ?_
 refine qa (os := _) rfl ?_
 refine av [24,12] ?_ ?_
 intro h19
 refine qg (k := 15) rfl h19 ?_
 refine au [1,24,3,1] ?_
 refine qi 5 (decide (x5 < 0)) [(1, .int .i64 x5), (2, .pointer (some ⟨g6, 0, none⟩)), (7, .int .i64 x7), (15, .bool true), (23, .bool ((decide (x5 < 0)) || (decide (x1 < x5))))] (fun h23 => ?_) (fun h23 => ?_) ?_
 refine qa (os := _) rfl (qg (k := 18) rfl h23 ?_)
 refine au [6,6,6,6,14] ?_
 refine qb (d := 23) (v := .bool ((decide (x5 < 0)) || (decide (x1 < x5)))) rfl (by rw [h23]; simp only [Bool.true_or]) ?_
 exact az [0,8]
 refine qa (os := _) rfl (qf (k := 18) rfl h23 ?_)
 refine au [1,24,11,25,2,24,13,15] ?_
 refine qb (d := 23) (v := .bool ((decide (x5 < 0)) || (decide (x1 < x5)))) rfl (by rw [h23]; simp only [Bool.false_or]) ?_
 exact az [0,8]
 refine qa (os := _) rfl ?_
 refine au [14,0] ?_
 exact qc (((decide (x5 < 0)) || (decide (x1 < x5))), ())
 intro h19
 refine qf (k := 15) rfl h19 ?_
 refine au [6,6,6,6,6,6,6,6,15,0] ?_
 exact qc (false, ())
 rintro ⟨x21, _⟩
 try dsimp only
 refine qa (os := _) rfl ?_
 refine av [0,2,10] ?_ ?_
 intro _
 refine au [5,4,0] ?_
 exact qc ((3 : Int), ())
 intro _
 refine au [13] ?_
 exact qc (x7, ())
 rintro ⟨x13, _⟩
 try dsimp only
 refine av [3,3,5,1,24,15,0,2,10] ?_ ?_
 intro _
 exact az [3,5,1,4,4,4,0,2,9,12,16]
 intro _
 refine au [13,2,3,5,24,5,1,27,13] ?_
 intro x15 e15 _
 refine av [1,7,7,7,4,4,4,0,2,3,3,5,1,25,7,0,2,10] ?_ ?_
 intro _
 exact az [3,5,4,4,4,0,2,9,12,16]
 intro _
 exact az [13,2,3,5,1,1,4,4,4,0,2,9,16]
set_option maxHeartbeats 4000000 in
theorem qgw {F : Nat}  {r : Bool} (hm : qa8 F  = some r) :
    Pure Tryz.prog 56 [] [] Unit (fun _ => .bool r) (fun _ => []) (fun _ => []) := by
 refine qk Tryz.func56 rfl Tryz.ntmps56 rfl hm (fun w => ?_)
 refine au [26,11,3,5,4,0,2,3,5] ?_
 refine qh qiC ?_
 rintro x1 e1 ⟨a2, c3⟩
 refine au [1,7,7,23] ?_
 intro g4
 refine au [22,4,0,2,3,5,24,5,32,14] ?_
 intro x5 e5 _
 refine au [1,7,7,7,4,4,4,0,2,3,5] ?_
 refine qq (vs := [.int .u64 0, .int .u64 2, .int .u64 1]) (ys := ([0, 2, 1] : List Int)) (qn .u64) (by decide) rfl Tryz.underlying33 tf80 rfl rfl rfl rfl rfl (by decide) (fun a6 c7 => qh (fun h => qfd F _ _ _ _ h) ?_)
 rintro x8 e8 ⟨a9, c10⟩
 refine au [1,7,7,23] ?_
 intro g11
 refine au [22,4,0,2,3,5,24,5] ?_
 refine qh (fun h => qf4 F _ _ _ _ _ _ h) ?_
 rintro x12 e12 ⟨a13, c14⟩
 refine au [1,7,7,7,4,4,4,0,2,3,5] ?_
 refine qH (cells := [.int .i64 0, .slice none 0 0]) rfl st25 rfl (by kernel_rfl) rfl ?_
 refine au [28,8,32,14] ?_
 intro x15 e15 _
 refine au [1,7,7,7,4,4,4,0,2,3,5,25,14] ?_
 refine qq (vs := [.int .u8 16]) (ys := ([16] : List Int)) (qn .u8) (by decide) rfl Tryz.underlying23 tf5 rfl rfl rfl rfl rfl (by decide) (fun a16 c17 => qH (cells := [.int .i64 4, .slice a16 ([16] : List Int).length c17]) rfl st25 rfl (by kernel_rfl) rfl ?_)
 refine au [26,2] ?_
 intro x18 e18 _
 refine au [1] ?_
 refine qi 3 x18 [(3, .int .u64 x5.1), (4, .int .i64 x5.2.1), (5, .int .i64 x5.2.2), (6, .pointer (some ⟨g11, 0, none⟩)), (7, .int .i64 x8.2.2), (8, .slice a13 x12.1.length c14), (9, .int .i64 x12.2.1), (10, .int .i64 x12.2.2), (13, .int .i64 x15.2.2), (48, .bool (x18 && ((x1.2.2 : Int) == 0)))] (fun h19 => ?_) (fun h19 => ?_) ?_
 refine qa (os := _) rfl (qg (k := 45) rfl h19 ?_)
 refine au [1,19,14] ?_
 refine qb (d := 48) (v := .bool (x18 && ((x1.2.2 : Int) == 0))) rfl (by rw [h19]; simp only [Bool.true_and]) ?_
 exact az [0,8]
 refine qa (os := _) rfl (qf (k := 45) rfl h19 ?_)
 refine au [6,6,15] ?_
 refine qb (d := 48) (v := .bool (x18 && ((x1.2.2 : Int) == 0))) rfl (by rw [h19]; simp only [Bool.false_and]) ?_
 exact az [0,8]
 refine qa (os := _) rfl ?_
 refine au [1] ?_
 refine qi 3 (x18 && ((x1.2.2 : Int) == 0)) [(4, .int .i64 x5.2.1), (5, .int .i64 x5.2.2), (6, .pointer (some ⟨g11, 0, none⟩)), (7, .int .i64 x8.2.2), (8, .slice a13 x12.1.length c14), (9, .int .i64 x12.2.1), (10, .int .i64 x12.2.2), (13, .int .i64 x15.2.2), (52, .bool ((x18 && ((x1.2.2 : Int) == 0)) && ((x5.1 : Int) == 2)))] (fun h20 => ?_) (fun h20 => ?_) ?_
 refine qa (os := _) rfl (qg (k := 49) rfl h20 ?_)
 refine au [1,19,14] ?_
 refine qb (d := 52) (v := .bool ((x18 && ((x1.2.2 : Int) == 0)) && ((x5.1 : Int) == 2))) rfl (by rw [h20]; simp only [Bool.true_and]) ?_
 exact az [0,8]
 refine qa (os := _) rfl (qf (k := 49) rfl h20 ?_)
 refine au [6,6,15] ?_
 refine qb (d := 52) (v := .bool ((x18 && ((x1.2.2 : Int) == 0)) && ((x5.1 : Int) == 2))) rfl (by rw [h20]; simp only [Bool.false_and]) ?_
 exact az [0,8]
 refine qa (os := _) rfl ?_
 refine au [1] ?_
 refine qi 3 ((x18 && ((x1.2.2 : Int) == 0)) && ((x5.1 : Int) == 2)) [(5, .int .i64 x5.2.2), (6, .pointer (some ⟨g11, 0, none⟩)), (7, .int .i64 x8.2.2), (8, .slice a13 x12.1.length c14), (9, .int .i64 x12.2.1), (10, .int .i64 x12.2.2), (13, .int .i64 x15.2.2), (56, .bool (((x18 && ((x1.2.2 : Int) == 0)) && ((x5.1 : Int) == 2)) && ((x5.2.1 : Int) == 4)))] (fun h21 => ?_) (fun h21 => ?_) ?_
 refine qa (os := _) rfl (qg (k := 53) rfl h21 ?_)
 refine au [1,19,14] ?_
 refine qb (d := 56) (v := .bool (((x18 && ((x1.2.2 : Int) == 0)) && ((x5.1 : Int) == 2)) && ((x5.2.1 : Int) == 4))) rfl (by rw [h21]; simp only [Bool.true_and]) ?_
 exact az [0,8]
 refine qa (os := _) rfl (qf (k := 53) rfl h21 ?_)
 refine au [6,6,15] ?_
 refine qb (d := 56) (v := .bool (((x18 && ((x1.2.2 : Int) == 0)) && ((x5.1 : Int) == 2)) && ((x5.2.1 : Int) == 4))) rfl (by rw [h21]; simp only [Bool.false_and]) ?_
 exact az [0,8]
 refine qa (os := _) rfl ?_
 refine au [1] ?_
 refine qi 3 (((x18 && ((x1.2.2 : Int) == 0)) && ((x5.1 : Int) == 2)) && ((x5.2.1 : Int) == 4)) [(6, .pointer (some ⟨g11, 0, none⟩)), (7, .int .i64 x8.2.2), (8, .slice a13 x12.1.length c14), (9, .int .i64 x12.2.1), (10, .int .i64 x12.2.2), (13, .int .i64 x15.2.2), (60, .bool ((((x18 && ((x1.2.2 : Int) == 0)) && ((x5.1 : Int) == 2)) && ((x5.2.1 : Int) == 4)) && ((x5.2.2 : Int) == 0)))] (fun h22 => ?_) (fun h22 => ?_) ?_
 refine qa (os := _) rfl (qg (k := 57) rfl h22 ?_)
 refine au [1,19,14] ?_
 refine qb (d := 60) (v := .bool ((((x18 && ((x1.2.2 : Int) == 0)) && ((x5.1 : Int) == 2)) && ((x5.2.1 : Int) == 4)) && ((x5.2.2 : Int) == 0))) rfl (by rw [h22]; simp only [Bool.true_and]) ?_
 exact az [0,8]
 refine qa (os := _) rfl (qf (k := 57) rfl h22 ?_)
 refine au [6,6,15] ?_
 refine qb (d := 60) (v := .bool ((((x18 && ((x1.2.2 : Int) == 0)) && ((x5.1 : Int) == 2)) && ((x5.2.1 : Int) == 4)) && ((x5.2.2 : Int) == 0))) rfl (by rw [h22]; simp only [Bool.false_and]) ?_
 exact az [0,8]
 refine qa (os := _) rfl ?_
 refine au [1] ?_
 refine qy 5 (fun ((x27, _) : (Bool × Unit)) => ([(7, .int .i64 x8.2.2), (8, .slice a13 x12.1.length c14), (9, .int .i64 x12.2.1), (10, .int .i64 x12.2.2), (13, .int .i64 x15.2.2), (66, .bool x27)], [], [Ro (eI .u64) 80 1 (.slice a13 x12.1.length c14) x12.1], [], qa9 F x8 x12 x15 x27)) ?_ ?_
 refine qa (os := _) rfl ?_
 refine av [24,12] ?_ ?_
 intro h23
 refine qg (k := 61) rfl h23 ?_
 refine au [24,5] ?_
 refine qq (vs := [.int .u8 148]) (ys := ([148] : List Int)) (qn .u8) (by decide) rfl Tryz.underlying23 tf5 rfl rfl rfl rfl rfl (by decide) (fun a40 c41 => qH (cells := [.int .i64 6, .slice a40 ([148] : List Int).length c41]) rfl st25 rfl (by kernel_rfl) rfl ?_)
 refine au [26,2] ?_
 intro x42 e42 _
 refine au [14,0] ?_
 exact qc (x42, ())
 intro h23
 refine qf (k := 61) rfl h23 ?_
 refine au [6,6,6,6,15,0] ?_
 exact qc (false, ())
 rintro ⟨x27, _⟩
 try dsimp only
 refine qa (os := _) rfl ?_
 refine au [1] ?_
 refine qi 3 x27 [(8, .slice a13 x12.1.length c14), (9, .int .i64 x12.2.1), (10, .int .i64 x12.2.2), (13, .int .i64 x15.2.2), (70, .bool (x27 && ((x8.2.2 : Int) == 0)))] (fun h28 => ?_) (fun h28 => ?_) ?_
 refine qa (os := _) rfl (qg (k := 67) rfl h28 ?_)
 refine au [1,19,14] ?_
 refine qb (d := 70) (v := .bool (x27 && ((x8.2.2 : Int) == 0))) rfl (by rw [h28]; simp only [Bool.true_and]) ?_
 exact az [0,8]
 refine qa (os := _) rfl (qf (k := 67) rfl h28 ?_)
 refine au [6,6,15] ?_
 refine qb (d := 70) (v := .bool (x27 && ((x8.2.2 : Int) == 0))) rfl (by rw [h28]; simp only [Bool.false_and]) ?_
 exact az [0,8]
 refine qa (os := _) rfl ?_
 refine au [1] ?_
 refine qy 4 (fun ((x33, _) : (Bool × Unit)) => ([(9, .int .i64 x12.2.1), (10, .int .i64 x12.2.2), (13, .int .i64 x15.2.2), (75, .bool x33)], [], [], [], qba F x12 x15 x33)) ?_ ?_
 refine qa (os := _) rfl ?_
 refine av [24,12] ?_ ?_
 intro h29
 refine qg (k := 71) rfl h29 ?_
 refine au [1] ?_
 refine qq (vs := [.int .u64 0, .int .u64 2]) (ys := ([0, 2] : List Int)) (qn .u64) (by decide) rfl Tryz.underlying33 tf80 rfl rfl rfl rfl rfl (by decide) (fun a37 c38 => ?_)
 refine au [32,15] ?_
 intro x39 e39 _
 refine au [14,0] ?_
 exact qc (x39, ())
 intro h29
 refine qf (k := 71) rfl h29 ?_
 refine au [6,6,6,15,0] ?_
 exact qc (false, ())
 rintro ⟨x33, _⟩
 try dsimp only
 refine qa (os := _) rfl ?_
 refine au [1] ?_
 refine qi 3 x33 [(10, .int .i64 x12.2.2), (13, .int .i64 x15.2.2), (79, .bool (x33 && ((x12.2.1 : Int) == 4)))] (fun h34 => ?_) (fun h34 => ?_) ?_
 refine qa (os := _) rfl (qg (k := 76) rfl h34 ?_)
 refine au [1,19,14] ?_
 refine qb (d := 79) (v := .bool (x33 && ((x12.2.1 : Int) == 4))) rfl (by rw [h34]; simp only [Bool.true_and]) ?_
 exact az [0,8]
 refine qa (os := _) rfl (qf (k := 76) rfl h34 ?_)
 refine au [6,6,15] ?_
 refine qb (d := 79) (v := .bool (x33 && ((x12.2.1 : Int) == 4))) rfl (by rw [h34]; simp only [Bool.false_and]) ?_
 exact az [0,8]
 refine qa (os := _) rfl ?_
 refine au [1] ?_
 refine qi 3 (x33 && ((x12.2.1 : Int) == 4)) [(13, .int .i64 x15.2.2), (83, .bool ((x33 && ((x12.2.1 : Int) == 4)) && ((x12.2.2 : Int) == 0)))] (fun h35 => ?_) (fun h35 => ?_) ?_
 refine qa (os := _) rfl (qg (k := 80) rfl h35 ?_)
 refine au [1,19,14] ?_
 refine qb (d := 83) (v := .bool ((x33 && ((x12.2.1 : Int) == 4)) && ((x12.2.2 : Int) == 0))) rfl (by rw [h35]; simp only [Bool.true_and]) ?_
 exact az [0,8]
 refine qa (os := _) rfl (qf (k := 80) rfl h35 ?_)
 refine au [6,6,15] ?_
 refine qb (d := 83) (v := .bool ((x33 && ((x12.2.1 : Int) == 4)) && ((x12.2.2 : Int) == 0))) rfl (by rw [h35]; simp only [Bool.false_and]) ?_
 exact az [0,8]
 refine qa (os := _) rfl ?_
 refine au [1] ?_
 refine qi 3 ((x33 && ((x12.2.1 : Int) == 4)) && ((x12.2.2 : Int) == 0)) [(87, .bool (((x33 && ((x12.2.1 : Int) == 4)) && ((x12.2.2 : Int) == 0)) && ((x15.2.2 : Int) == 7)))] (fun h36 => ?_) (fun h36 => ?_) ?_
 refine qa (os := _) rfl (qg (k := 84) rfl h36 ?_)
 refine au [1,19,14] ?_
 refine qb (d := 87) (v := .bool (((x33 && ((x12.2.1 : Int) == 4)) && ((x12.2.2 : Int) == 0)) && ((x15.2.2 : Int) == 7))) rfl (by rw [h36]; simp only [Bool.true_and]) ?_
 exact az [0,8]
 refine qa (os := _) rfl (qf (k := 84) rfl h36 ?_)
 refine au [6,6,15] ?_
 refine qb (d := 87) (v := .bool (((x33 && ((x12.2.1 : Int) == 4)) && ((x12.2.2 : Int) == 0)) && ((x15.2.2 : Int) == 7))) rfl (by rw [h36]; simp only [Bool.false_and]) ?_
 exact az [0,8]
 refine qa (os := _) rfl ?_
 exact az [4,0,2,9,16]
theorem qfE (F : Nat) (x1 : Int) (r : (Int × List Int)) (hm : qdm F x1 = some r) :
    Pure Tryz.prog 207 [.int .u64 x1] [] (Option Addr × Nat) (fun g => .agg #[.int .i64 r.1, .slice g.1 r.2.length g.2]) (fun g => [Ro (eI .u8) 5 1 (.slice g.1 r.2.length g.2) r.2]) (fun _ => []) := by
 refine qk Tryz.func207 rfl Tryz.ntmps207 rfl hm (fun w => ?_)
 refine au [24,14,3,5,23] ?_
 intro g2
 refine au [0,2,3,5,1,28,3] ?_
 intro x3 e3 _
 refine au [4,0,2,3,5,1,25,10] ?_
 refine qh (fun h => qdk F _ _ h) ?_
 rintro x4 e4 ⟨a5, c6⟩
 refine au [1,21,1,31,5] ?_
 intro x7 e7 _
 refine au [1,26,10] ?_
 rintro x8 e8 ⟨a9, c10⟩
 refine au [22,0,2,9] ?_
 exact qI (a9, c10) (resL (rs := [.cell 2 25]) rfl (.cell (i := 0) rfl tf25 rfl rfl (by simp) rfl ResOk.nil) rfl) (fun h => by subst h; exact (.cons 0 rfl .nil))
theorem qco {F : Nat} {x1 : Int} {r : (Int × List Int × Int)} (hm : vT F x1 = some r) :
    Pure Tryz.prog 116 [.int .u64 x1, .func (.func 207) #[] #[]] [] (Option Addr × Nat) (fun g => .tuple #[.agg #[.int .i64 r.1, .slice g.1 r.2.1.length g.2], .int .i64 r.2.2]) (fun g => [Ro (eI .u8) 5 1 (.slice g.1 r.2.1.length g.2) r.2.1]) (fun _ => []) := by
 refine qk Tryz.func116 rfl Tryz.ntmps116 rfl hm (fun w => ?_)
 refine au [24,10,3,5,23] ?_
 intro g2
 refine av [4,0,2,3,3,5,1,24,13,0,2,10] ?_ ?_
 intro _
 refine au [3,5] ?_
 refine qH (cells := [.int .i64 0, .slice none 0 0]) rfl st25 rfl (by kernel_rfl) rfl ?_
 refine au [22,4,0,2,9,12,26,1] ?_
 exact qI (none, 0) (resL (rs := [.cell 4 25, .tmp 5]) rfl (.cell (i := 0) rfl tf25 rfl rfl (by simp) rfl (.tmp rfl ResOk.nil)) rfl) (fun h => by subst h; exact (.cons 0 rfl .nil))
 intro _
 refine au [13,2,3,5,1,1] ?_
 refine yZ ent207 rfl rfl rfl rfl (fun x4 e4 => qfE F x1 x4 e4) .nil (fun x4 e4 => ?_)
 rintro ⟨a5, c6⟩
 refine au [22,4,0,2,9] ?_
 exact qI (a5, c6) (resL (rs := [.cell 4 25, .tmp 5]) rfl (.cell (i := 0) rfl tf25 rfl rfl (by simp) rfl (.tmp rfl ResOk.nil)) rfl) (fun h => by subst h; exact (.cons 0 rfl .nil))
theorem qht {F : Nat} {x1 : Int} {r : (Int × List Int × Int)} (hm : qeG F x1 = some r) :
    Pure Tryz.prog 140 [.int .u64 x1] [] (Option Addr × Nat) (fun g => .tuple #[.agg #[.int .i64 r.1, .slice g.1 r.2.1.length g.2], .int .i64 r.2.2]) (fun g => [Ro (eI .u8) 5 1 (.slice g.1 r.2.1.length g.2) r.2.1]) (fun _ => []) := by
 refine qk Tryz.func140 rfl Tryz.ntmps140 rfl hm (fun w => ?_)
 refine au [24,14,3,5,23] ?_
 intro g2
 refine au [4,0,2,3,5,1] ?_
 refine qh qco ?_
 rintro x3 e3 ⟨a4, c5⟩
 refine au [7,7,22,4,0,2,9] ?_
 exact qI (a4, c5) (resL (rs := [.cell 2 25, .tmp 3]) rfl (.cell (i := 0) rfl tf25 rfl rfl (by simp) rfl (.tmp rfl ResOk.nil)) rfl) (fun h => by subst h; exact (.cons 0 rfl .nil))
theorem qeD (F : Nat) (x1 : Int) (x2 : List Int) (a3 : Option Addr) (c4 : Nat) (x5 : Int) (r : (Int × Int × Int)) (hm : qcn F x1 x2 x5 = some r) :
    Pure Tryz.prog 241 [.agg #[.int .i64 x1, .slice a3 x2.length c4], .int .i64 x5] [Sl (eI .u8) 1 (.slice a3 x2.length c4) x2] Unit (fun _ => .tuple #[.int .u64 r.1, .int .i64 r.2.1, .int .i64 r.2.2]) (fun _ => []) (fun _ => []) := by
 refine qk Tryz.func241 rfl Tryz.ntmps241 rfl hm (fun w => ?_)
 refine au [24,10,3,5,24,6] ?_
 intro g6
 refine au [4,4,4,0,2,3,5,24,5,1,27,13] ?_
 intro x7 e7 _
 refine av [1,7,7,7,4,4,4,0,2,3,3,5,1,25,7,0,2,10] ?_ ?_
 intro _
 exact az [3,5,4,4,4,0,2,9,12,16]
 intro _
 exact az [13,2,3,5,1,1,4,4,4,0,2,9,16]
set_option maxHeartbeats 4000000 in
theorem jh {F : Nat} {x1 : Int} {x2 : List Int} {a3 : Option Addr} {c4 : Nat} {x5 : Int} {r : (Int × Int × Int)} (hm : kA F x1 x2 x5 = some r) :
    Pure Tryz.prog 242 [.func (.func 241) #[] #[], .agg #[.int .i64 x1, .slice a3 x2.length c4], .int .i64 x5] [Sl (eI .u8) 1 (.slice a3 x2.length c4) x2] Unit (fun _ => .tuple #[.int .u64 r.1, .int .i64 r.2.1, .int .i64 r.2.2]) (fun _ => []) (fun _ => []) := by
 refine qk Tryz.func242 rfl Tryz.ntmps242 rfl hm (fun w => ?_)
 refine au [25,8,3,5,24,6] ?_
 intro g6
 refine au [4,4,4,0,2,3,5,1,24,5,1] ?_
 refine yZ ent241 rfl rfl rfl rfl (fun x7 e7 => qeD F x1 x2 a3 c4 x5 x7 e7) (.consF 0 rfl .nil) (fun x7 e7 _ => ?_)
 refine av [1,7,7,7,4,4,4,0,2,3,3,5,1,24,15,0,2,10] ?_ ?_
 intro _
 exact az [3,5,1,4,4,4,0,2,9,12,16]
 intro _
 refine av [13,2,3,3,5,1,25,5,0,2,10] ?_ ?_
 intro _
 exact az [3,5,4,4,4,0,2,9,12,16]
 intro _
 refine au [13,2,3,5,24,5,1,1,25,10,27,15] ?_
 intro x10 e10 _
 refine av [1,7,7,4,4,0,2,3,3,5,1,25,7,0,2,10] ?_ ?_
 intro _
 exact az [3,5,4,4,4,0,2,9,12,16]
 intro _
 refine au [13,2,3,3,5,1,1,25,4] ?_
 intro h15
 refine qc9 rfl rfl rfl rfl h15 ?_
 refine au [25,0,21,4,26,4] ?_
 intro x16 e16
 refine qb (d := 12) (v := .int .u64 x16) rfl (by rw [e16] <;> rfl) ?_
 refine av [0,2,3,5,1,24,13,0,2,10] ?_ ?_
 intro _
 exact az [3,5,4,4,4,0,2,9,12,16]
 intro _
 exact az [13,2,3,5,1,1,1,25,10,21,4,4,4,0,2,9,16]
theorem qcY (F : Nat) (x1 : Int) (x2 : List Int) (a3 : Option Addr) (c4 : Nat) (x5 : Int) (r : (Int × Int × Int)) (hm : qbd F x1 x2 x5 = some r) :
    Pure Tryz.prog 209 [.agg #[.int .i64 x1, .slice a3 x2.length c4], .int .i64 x5] [Sl (eI .u8) 1 (.slice a3 x2.length c4) x2] Unit (fun _ => .tuple #[.int .u64 r.1, .int .i64 r.2.1, .int .i64 r.2.2]) (fun _ => []) (fun _ => []) := by
 refine qk Tryz.func209 rfl Tryz.ntmps209 rfl hm (fun w => ?_)
 refine au [24,10,3,5,24,6] ?_
 intro g6
 refine au [4,4,4,0,2,3,5,24,5,1] ?_
 refine qh jh ?_
 intro x7 e7 _
 exact az [7,7,7,4,4,4,0,2,9,16]
set_option maxHeartbeats 4000000 in
theorem qhs {F : Nat} {x1 : Int} {x2 : List Int} {a3 : Option Addr} {c4 : Nat} {x5 : Int} {r : Int} (hm : k8 F x1 x2 x5 = some r) :
    Pure Tryz.prog 82 [.agg #[.int .i64 x1, .slice a3 x2.length c4], .int .i64 x5] [Sl (eI .u8) 1 (.slice a3 x2.length c4) x2] Unit (fun _ => .int .i64 r) (fun _ => []) (fun _ => []) := by
 refine qk Tryz.func82 rfl Tryz.ntmps82 rfl hm (fun w => ?_)
 refine au [24,10,3,5,24,6] ?_
 intro g6
 refine au [4,0,2,3,5,24,5,26,8] ?_
 intro x7 e7 _
 refine au [4,0,2] ?_
 refine qm (fun ((x13, _) : (Int × Unit)) => ([(5, .int .i64 x13)], [], [], [], jY F x13)) ?_ ?_
 refine au [3,5,1,19,1] ?_
 refine qy 9 (fun ((x16, _) : (Bool × Unit)) => ([(5, .int .i64 x7), (19, .bool x16)], [], [], [], jZ F x7 x16)) ?_ ?_
 refine qa (os := _) rfl ?_
 refine av [24,12] ?_ ?_
 intro h14
 refine qg (k := 10) rfl h14 ?_
 refine au [1,24,3,1] ?_
 refine qi 5 (decide (x5 < 0)) [(5, .int .i64 x7), (10, .bool true), (18, .bool ((decide (x5 < 0)) || (decide (x1 < x5))))] (fun h18 => ?_) (fun h18 => ?_) ?_
 refine qa (os := _) rfl (qg (k := 13) rfl h18 ?_)
 refine au [6,6,6,6,14] ?_
 refine qb (d := 18) (v := .bool ((decide (x5 < 0)) || (decide (x1 < x5)))) rfl (by rw [h18]; simp only [Bool.true_or]) ?_
 exact az [0,8]
 refine qa (os := _) rfl (qf (k := 13) rfl h18 ?_)
 refine au [1,24,11,25,2,24,13,15] ?_
 refine qb (d := 18) (v := .bool ((decide (x5 < 0)) || (decide (x1 < x5)))) rfl (by rw [h18]; simp only [Bool.false_or]) ?_
 exact az [0,8]
 refine qa (os := _) rfl ?_
 refine au [14,0] ?_
 exact qc (((decide (x5 < 0)) || (decide (x1 < x5))), ())
 intro h14
 refine qf (k := 10) rfl h14 ?_
 refine au [6,6,6,6,6,6,6,6,15,0] ?_
 exact qc (false, ())
 rintro ⟨x16, _⟩
 try dsimp only
 refine qa (os := _) rfl ?_
 refine av [0,2,10] ?_ ?_
 intro _
 refine au [5,4,0] ?_
 exact qc ((3 : Int), ())
 intro _
 refine au [13] ?_
 exact qc (x7, ())
 rintro ⟨x13, _⟩
 try dsimp only
 exact az [3,5,1,4,0,2,9,16]
theorem qcb {F : Nat} {x1 : Int} {x2 : List Int} {a3 : Option Addr} {c4 : Nat} {x5 : Int} {r : (Int × Int × Int)} (hm : vE F x1 x2 x5 = some r) :
    Pure Tryz.prog 208 [.agg #[.int .i64 x1, .slice a3 x2.length c4], .int .i64 x5, .func (.func 209) #[] #[]] [Sl (eI .u8) 1 (.slice a3 x2.length c4) x2] Unit (fun _ => .tuple #[.int .u64 r.1, .int .i64 r.2.1, .int .i64 r.2.2]) (fun _ => []) (fun _ => []) := by
 refine qk Tryz.func208 rfl Tryz.ntmps208 rfl hm (fun w => ?_)
 refine au [25,8,3,5,24,6] ?_
 intro g6
 refine au [4,4,4,0,2,3,3,5,24,5,1,28,0] ?_
 intro x9 e9 _
 refine av [4,0,2,3,5,1,24,15,0,2,10] ?_ ?_
 intro _
 exact az [3,5,1,4,4,4,0,2,9,12,16]
 intro _
 refine au [13,2,3,5,1,24,5,1] ?_
 refine yZ ent209 rfl rfl rfl rfl (fun x10 e10 => qcY F x1 x2 a3 c4 x5 x10 e10) (.consF 0 rfl .nil) (fun x10 e10 _ => ?_)
 exact az [7,7,7,4,4,4,0,2,9,16]
theorem qe6 {F : Nat} {x1 : Int} {x2 : List Int} {a3 : Option Addr} {c4 : Nat} {x5 : Int} {r : (Int × Int × Int)} (hm : qbe F x1 x2 x5 = some r) :
    Pure Tryz.prog 141 [.agg #[.int .i64 x1, .slice a3 x2.length c4], .int .i64 x5] [Sl (eI .u8) 1 (.slice a3 x2.length c4) x2] Unit (fun _ => .tuple #[.int .u64 r.1, .int .i64 r.2.1, .int .i64 r.2.2]) (fun _ => []) (fun _ => []) := by
 refine qk Tryz.func141 rfl Tryz.ntmps141 rfl hm (fun w => ?_)
 refine au [24,10,3,5,24,6] ?_
 intro g6
 refine au [4,4,4,0,2,3,5,24,5,1] ?_
 refine qh qcb ?_
 intro x7 e7 _
 exact az [7,7,7,4,4,4,0,2,9,16]
set_option maxHeartbeats 4000000 in
theorem jB {F : Nat} {x1 : Int} {x2 : List Int} {a3 : Option Addr} {c4 : Nat} {x5 : Int} {r : (Int × Int × Int)} (hm : kK F x1 x2 x5 = some r) :
    Pure Tryz.prog 242 [.func (.func 209) #[] #[], .agg #[.int .i64 x1, .slice a3 x2.length c4], .int .i64 x5] [Sl (eI .u8) 1 (.slice a3 x2.length c4) x2] Unit (fun _ => .tuple #[.int .u64 r.1, .int .i64 r.2.1, .int .i64 r.2.2]) (fun _ => []) (fun _ => []) := by
 refine qk Tryz.func242 rfl Tryz.ntmps242 rfl hm (fun w => ?_)
 refine au [25,8,3,5,24,6] ?_
 intro g6
 refine au [4,4,4,0,2,3,5,1,24,5,1] ?_
 refine yZ ent209 rfl rfl rfl rfl (fun x7 e7 => qcY F x1 x2 a3 c4 x5 x7 e7) (.consF 0 rfl .nil) (fun x7 e7 _ => ?_)
 refine av [1,7,7,7,4,4,4,0,2,3,3,5,1,24,15,0,2,10] ?_ ?_
 intro _
 exact az [3,5,1,4,4,4,0,2,9,12,16]
 intro _
 refine av [13,2,3,3,5,1,25,5,0,2,10] ?_ ?_
 intro _
 exact az [3,5,4,4,4,0,2,9,12,16]
 intro _
 refine au [13,2,3,5,24,5,1,1,25,10,27,15] ?_
 intro x10 e10 _
 refine av [1,7,7,4,4,0,2,3,3,5,1,25,7,0,2,10] ?_ ?_
 intro _
 exact az [3,5,4,4,4,0,2,9,12,16]
 intro _
 refine au [13,2,3,3,5,1,1,25,4] ?_
 intro h15
 refine qc9 rfl rfl rfl rfl h15 ?_
 refine au [25,0,21,4,26,4] ?_
 intro x16 e16
 refine qb (d := 12) (v := .int .u64 x16) rfl (by rw [e16] <;> rfl) ?_
 refine av [0,2,3,5,1,24,13,0,2,10] ?_ ?_
 intro _
 exact az [3,5,4,4,4,0,2,9,12,16]
 intro _
 exact az [13,2,3,5,1,1,1,25,10,21,4,4,4,0,2,9,16]
theorem qe4 (F : Nat) (x1 : Int) (x2 : List Int) (a3 : Option Addr) (c4 : Nat) (x5 : Int) (r : (Int × Int × Int)) (hm : qc0 F x1 x2 x5 = some r) :
    Pure Tryz.prog 210 [.agg #[.int .i64 x1, .slice a3 x2.length c4], .int .i64 x5] [Sl (eI .u8) 1 (.slice a3 x2.length c4) x2] Unit (fun _ => .tuple #[.int .u64 r.1, .int .i64 r.2.1, .int .i64 r.2.2]) (fun _ => []) (fun _ => []) := by
 refine qk Tryz.func210 rfl Tryz.ntmps210 rfl hm (fun w => ?_)
 refine au [24,10,3,5,24,6] ?_
 intro g6
 refine au [4,4,4,0,2,3,5,24,5,1] ?_
 refine qh jB ?_
 intro x7 e7 _
 exact az [7,7,7,4,4,4,0,2,9,16]
theorem qca {F : Nat} {x1 : Int} {x2 : List Int} {a3 : Option Addr} {c4 : Nat} {x5 : Int} {r : (Int × Int × Int)} (hm : vD F x1 x2 x5 = some r) :
    Pure Tryz.prog 208 [.agg #[.int .i64 x1, .slice a3 x2.length c4], .int .i64 x5, .func (.func 210) #[] #[]] [Sl (eI .u8) 1 (.slice a3 x2.length c4) x2] Unit (fun _ => .tuple #[.int .u64 r.1, .int .i64 r.2.1, .int .i64 r.2.2]) (fun _ => []) (fun _ => []) := by
 refine qk Tryz.func208 rfl Tryz.ntmps208 rfl hm (fun w => ?_)
 refine au [25,8,3,5,24,6] ?_
 intro g6
 refine au [4,4,4,0,2,3,3,5,24,5,1,28,0] ?_
 intro x9 e9 _
 refine av [4,0,2,3,5,1,24,15,0,2,10] ?_ ?_
 intro _
 exact az [3,5,1,4,4,4,0,2,9,12,16]
 intro _
 refine au [13,2,3,5,1,24,5,1] ?_
 refine yZ ent210 rfl rfl rfl rfl (fun x10 e10 => qe4 F x1 x2 a3 c4 x5 x10 e10) (.consF 0 rfl .nil) (fun x10 e10 _ => ?_)
 exact az [7,7,7,4,4,4,0,2,9,16]
theorem qe5 {F : Nat} {x1 : Int} {x2 : List Int} {a3 : Option Addr} {c4 : Nat} {x5 : Int} {r : (Int × Int × Int)} (hm : qc1 F x1 x2 x5 = some r) :
    Pure Tryz.prog 142 [.agg #[.int .i64 x1, .slice a3 x2.length c4], .int .i64 x5] [Sl (eI .u8) 1 (.slice a3 x2.length c4) x2] Unit (fun _ => .tuple #[.int .u64 r.1, .int .i64 r.2.1, .int .i64 r.2.2]) (fun _ => []) (fun _ => []) := by
 refine qk Tryz.func142 rfl Tryz.ntmps142 rfl hm (fun w => ?_)
 refine au [24,10,3,5,24,6] ?_
 intro g6
 refine au [4,4,4,0,2,3,5,24,5,1] ?_
 refine qh qca ?_
 intro x7 e7 _
 exact az [7,7,7,4,4,4,0,2,9,16]
theorem qiu {F : Nat} {x1 : Int} {r : (Int × Int × Int)} (hm : qff F x1 = some r) :
    Pure Tryz.prog 143 [.int .u64 x1] [] Unit (fun _ => .tuple #[.int .i64 r.1, .int .i64 r.2.1, .int .i64 r.2.2]) (fun _ => []) (fun _ => []) := by
 refine qk Tryz.func143 rfl Tryz.ntmps143 rfl hm (fun w => ?_)
 refine av [24,14,3,5,4,4,4,0,2,3,3,5,1,24,13,0,2,10] ?_ ?_
 intro _
 exact az [3,5,4,4,4,0,2,9,12,16]
 intro _
 refine au [13,2,3,5,1,28,3] ?_
 intro x3 e3 _
 refine au [4,0,2,3,5,1,27,1,21,1,25,10,28,3] ?_
 intro x4 e4 _
 refine au [27,1,21,1,21,4,4,26,4] ?_
 intro x5 e5
 refine qb (d := 3) (v := .int .i64 x5) rfl (by rw [e5] <;> rfl) ?_
 exact az [4,0,2,9,16]
set_option maxHeartbeats 4000000 in
theorem qgu {F : Nat}  {r : Bool} (hm : qa2 F  = some r) :
    Pure Tryz.prog 57 [] [] Unit (fun _ => .bool r) (fun _ => []) (fun _ => []) := by
 refine qk Tryz.func57 rfl Tryz.ntmps57 rfl hm (fun w => ?_)
 refine au [26,11,3,5,4,0,2,3,5,30,1] ?_
 rintro x1 e1 ⟨a2, c3⟩
 refine au [1,7,7,23] ?_
 intro g4
 refine au [22,4,0,2,3,5] ?_
 refine qh qht ?_
 rintro x5 e5 ⟨a6, c7⟩
 refine au [1,7,7,23] ?_
 intro g8
 refine au [22,4,0,2,3,5,25,14,33,0] ?_
 intro x9 e9 _
 refine au [1,7,7,7,4,4,4,0,2,3,5,24,5] ?_
 refine qh qe5 ?_
 intro x10 e10 _
 refine au [1,7,7,7,4,4,4,0,2,3,5] ?_
 refine qh qiu ?_
 intro x11 e11 _
 refine au [1,7,7,7,4,4,4,0,2,3,5,25,14,33,0] ?_
 intro x12 e12 _
 refine au [1,7,7,7,4,4,4,0,2,3,5,30,1] ?_
 rintro x13 e13 ⟨a14, c15⟩
 refine au [1,7,7,23] ?_
 intro g16
 refine au [22,4,0,2,3,5,26,5] ?_
 refine qq (vs := [.int .u8 40]) (ys := ([40] : List Int)) (qn .u8) (by decide) rfl Tryz.underlying23 tf5 rfl rfl rfl rfl rfl (by decide) (fun a17 c18 => qH (cells := [.int .i64 5, .slice a17 ([40] : List Int).length c18]) rfl st25 rfl (by kernel_rfl) rfl ?_)
 refine au [26,2] ?_
 intro x19 e19 _
 refine au [1] ?_
 refine qi 3 x19 [(3, .pointer (some ⟨g8, 0, none⟩)), (4, .int .i64 x5.2.2), (5, .int .u64 x9.1), (6, .int .i64 x9.2.1), (7, .int .i64 x9.2.2), (8, .int .u64 x10.1), (9, .int .i64 x10.2.1), (10, .int .i64 x10.2.2), (11, .int .i64 x11.1), (12, .int .i64 x11.2.1), (13, .int .i64 x11.2.2), (16, .int .i64 x12.2.2), (18, .int .i64 x13.2.2), (61, .bool (x19 && ((x1.2.2 : Int) == 0)))] (fun h20 => ?_) (fun h20 => ?_) ?_
 refine qa (os := _) rfl (qg (k := 58) rfl h20 ?_)
 refine au [1,19,14] ?_
 refine qb (d := 61) (v := .bool (x19 && ((x1.2.2 : Int) == 0))) rfl (by rw [h20]; simp only [Bool.true_and]) ?_
 exact az [0,8]
 refine qa (os := _) rfl (qf (k := 58) rfl h20 ?_)
 refine au [6,6,15] ?_
 refine qb (d := 61) (v := .bool (x19 && ((x1.2.2 : Int) == 0))) rfl (by rw [h20]; simp only [Bool.false_and]) ?_
 exact az [0,8]
 refine qa (os := _) rfl ?_
 refine au [1] ?_
 refine qy 5 (fun ((x25, _) : (Bool × Unit)) => ([(4, .int .i64 x5.2.2), (5, .int .u64 x9.1), (6, .int .i64 x9.2.1), (7, .int .i64 x9.2.2), (8, .int .u64 x10.1), (9, .int .i64 x10.2.1), (10, .int .i64 x10.2.2), (11, .int .i64 x11.1), (12, .int .i64 x11.2.1), (13, .int .i64 x11.2.2), (16, .int .i64 x12.2.2), (18, .int .i64 x13.2.2), (67, .bool x25)], [], [], [], qa3 F x5 x9 x10 x11 x12 x13 x25)) ?_ ?_
 refine qa (os := _) rfl ?_
 refine av [24,12] ?_ ?_
 intro h21
 refine qg (k := 62) rfl h21 ?_
 refine au [25,14] ?_
 refine qq (vs := [.int .u8 34]) (ys := ([34] : List Int)) (qn .u8) (by decide) rfl Tryz.underlying23 tf5 rfl rfl rfl rfl rfl (by decide) (fun a38 c39 => qH (cells := [.int .i64 8, .slice a38 ([34] : List Int).length c39]) rfl st25 rfl (by kernel_rfl) rfl ?_)
 refine au [26,2] ?_
 intro x40 e40 _
 refine au [14,0] ?_
 exact qc (x40, ())
 intro h21
 refine qf (k := 62) rfl h21 ?_
 refine au [6,6,6,6,15,0] ?_
 exact qc (false, ())
 rintro ⟨x25, _⟩
 try dsimp only
 refine qa (os := _) rfl ?_
 refine au [1] ?_
 refine qi 3 x25 [(5, .int .u64 x9.1), (6, .int .i64 x9.2.1), (7, .int .i64 x9.2.2), (8, .int .u64 x10.1), (9, .int .i64 x10.2.1), (10, .int .i64 x10.2.2), (11, .int .i64 x11.1), (12, .int .i64 x11.2.1), (13, .int .i64 x11.2.2), (16, .int .i64 x12.2.2), (18, .int .i64 x13.2.2), (71, .bool (x25 && ((x5.2.2 : Int) == 0)))] (fun h26 => ?_) (fun h26 => ?_) ?_
 refine qa (os := _) rfl (qg (k := 68) rfl h26 ?_)
 refine au [1,19,14] ?_
 refine qb (d := 71) (v := .bool (x25 && ((x5.2.2 : Int) == 0))) rfl (by rw [h26]; simp only [Bool.true_and]) ?_
 exact az [0,8]
 refine qa (os := _) rfl (qf (k := 68) rfl h26 ?_)
 refine au [6,6,15] ?_
 refine qb (d := 71) (v := .bool (x25 && ((x5.2.2 : Int) == 0))) rfl (by rw [h26]; simp only [Bool.false_and]) ?_
 exact az [0,8]
 refine qa (os := _) rfl ?_
 refine au [1] ?_
 refine qi 3 (x25 && ((x5.2.2 : Int) == 0)) [(6, .int .i64 x9.2.1), (7, .int .i64 x9.2.2), (8, .int .u64 x10.1), (9, .int .i64 x10.2.1), (10, .int .i64 x10.2.2), (11, .int .i64 x11.1), (12, .int .i64 x11.2.1), (13, .int .i64 x11.2.2), (16, .int .i64 x12.2.2), (18, .int .i64 x13.2.2), (75, .bool ((x25 && ((x5.2.2 : Int) == 0)) && ((x9.1 : Int) == 4)))] (fun h27 => ?_) (fun h27 => ?_) ?_
 refine qa (os := _) rfl (qg (k := 72) rfl h27 ?_)
 refine au [1,19,14] ?_
 refine qb (d := 75) (v := .bool ((x25 && ((x5.2.2 : Int) == 0)) && ((x9.1 : Int) == 4))) rfl (by rw [h27]; simp only [Bool.true_and]) ?_
 exact az [0,8]
 refine qa (os := _) rfl (qf (k := 72) rfl h27 ?_)
 refine au [6,6,15] ?_
 refine qb (d := 75) (v := .bool ((x25 && ((x5.2.2 : Int) == 0)) && ((x9.1 : Int) == 4))) rfl (by rw [h27]; simp only [Bool.false_and]) ?_
 exact az [0,8]
 refine qa (os := _) rfl ?_
 refine au [1] ?_
 refine qi 3 ((x25 && ((x5.2.2 : Int) == 0)) && ((x9.1 : Int) == 4)) [(7, .int .i64 x9.2.2), (8, .int .u64 x10.1), (9, .int .i64 x10.2.1), (10, .int .i64 x10.2.2), (11, .int .i64 x11.1), (12, .int .i64 x11.2.1), (13, .int .i64 x11.2.2), (16, .int .i64 x12.2.2), (18, .int .i64 x13.2.2), (79, .bool (((x25 && ((x5.2.2 : Int) == 0)) && ((x9.1 : Int) == 4)) && ((x9.2.1 : Int) == 5)))] (fun h28 => ?_) (fun h28 => ?_) ?_
 refine qa (os := _) rfl (qg (k := 76) rfl h28 ?_)
 refine au [1,19,14] ?_
 refine qb (d := 79) (v := .bool (((x25 && ((x5.2.2 : Int) == 0)) && ((x9.1 : Int) == 4)) && ((x9.2.1 : Int) == 5))) rfl (by rw [h28]; simp only [Bool.true_and]) ?_
 exact az [0,8]
 refine qa (os := _) rfl (qf (k := 76) rfl h28 ?_)
 refine au [6,6,15] ?_
 refine qb (d := 79) (v := .bool (((x25 && ((x5.2.2 : Int) == 0)) && ((x9.1 : Int) == 4)) && ((x9.2.1 : Int) == 5))) rfl (by rw [h28]; simp only [Bool.false_and]) ?_
 exact az [0,8]
 refine qa (os := _) rfl ?_
 refine au [1] ?_
 refine qi 3 (((x25 && ((x5.2.2 : Int) == 0)) && ((x9.1 : Int) == 4)) && ((x9.2.1 : Int) == 5)) [(8, .int .u64 x10.1), (9, .int .i64 x10.2.1), (10, .int .i64 x10.2.2), (11, .int .i64 x11.1), (12, .int .i64 x11.2.1), (13, .int .i64 x11.2.2), (16, .int .i64 x12.2.2), (18, .int .i64 x13.2.2), (83, .bool ((((x25 && ((x5.2.2 : Int) == 0)) && ((x9.1 : Int) == 4)) && ((x9.2.1 : Int) == 5)) && ((x9.2.2 : Int) == 0)))] (fun h29 => ?_) (fun h29 => ?_) ?_
 refine qa (os := _) rfl (qg (k := 80) rfl h29 ?_)
 refine au [1,19,14] ?_
 refine qb (d := 83) (v := .bool ((((x25 && ((x5.2.2 : Int) == 0)) && ((x9.1 : Int) == 4)) && ((x9.2.1 : Int) == 5)) && ((x9.2.2 : Int) == 0))) rfl (by rw [h29]; simp only [Bool.true_and]) ?_
 exact az [0,8]
 refine qa (os := _) rfl (qf (k := 80) rfl h29 ?_)
 refine au [6,6,15] ?_
 refine qb (d := 83) (v := .bool ((((x25 && ((x5.2.2 : Int) == 0)) && ((x9.1 : Int) == 4)) && ((x9.2.1 : Int) == 5)) && ((x9.2.2 : Int) == 0))) rfl (by rw [h29]; simp only [Bool.false_and]) ?_
 exact az [0,8]
 refine qa (os := _) rfl ?_
 refine au [1] ?_
 refine qi 3 ((((x25 && ((x5.2.2 : Int) == 0)) && ((x9.1 : Int) == 4)) && ((x9.2.1 : Int) == 5)) && ((x9.2.2 : Int) == 0)) [(9, .int .i64 x10.2.1), (10, .int .i64 x10.2.2), (11, .int .i64 x11.1), (12, .int .i64 x11.2.1), (13, .int .i64 x11.2.2), (16, .int .i64 x12.2.2), (18, .int .i64 x13.2.2), (87, .bool (((((x25 && ((x5.2.2 : Int) == 0)) && ((x9.1 : Int) == 4)) && ((x9.2.1 : Int) == 5)) && ((x9.2.2 : Int) == 0)) && ((x10.1 : Int) == 9)))] (fun h30 => ?_) (fun h30 => ?_) ?_
 refine qa (os := _) rfl (qg (k := 84) rfl h30 ?_)
 refine au [1,19,14] ?_
 refine qb (d := 87) (v := .bool (((((x25 && ((x5.2.2 : Int) == 0)) && ((x9.1 : Int) == 4)) && ((x9.2.1 : Int) == 5)) && ((x9.2.2 : Int) == 0)) && ((x10.1 : Int) == 9))) rfl (by rw [h30]; simp only [Bool.true_and]) ?_
 exact az [0,8]
 refine qa (os := _) rfl (qf (k := 84) rfl h30 ?_)
 refine au [6,6,15] ?_
 refine qb (d := 87) (v := .bool (((((x25 && ((x5.2.2 : Int) == 0)) && ((x9.1 : Int) == 4)) && ((x9.2.1 : Int) == 5)) && ((x9.2.2 : Int) == 0)) && ((x10.1 : Int) == 9))) rfl (by rw [h30]; simp only [Bool.false_and]) ?_
 exact az [0,8]
 refine qa (os := _) rfl ?_
 refine au [1] ?_
 refine qi 3 (((((x25 && ((x5.2.2 : Int) == 0)) && ((x9.1 : Int) == 4)) && ((x9.2.1 : Int) == 5)) && ((x9.2.2 : Int) == 0)) && ((x10.1 : Int) == 9)) [(10, .int .i64 x10.2.2), (11, .int .i64 x11.1), (12, .int .i64 x11.2.1), (13, .int .i64 x11.2.2), (16, .int .i64 x12.2.2), (18, .int .i64 x13.2.2), (91, .bool ((((((x25 && ((x5.2.2 : Int) == 0)) && ((x9.1 : Int) == 4)) && ((x9.2.1 : Int) == 5)) && ((x9.2.2 : Int) == 0)) && ((x10.1 : Int) == 9)) && ((x10.2.1 : Int) == 8)))] (fun h31 => ?_) (fun h31 => ?_) ?_
 refine qa (os := _) rfl (qg (k := 88) rfl h31 ?_)
 refine au [1,19,14] ?_
 refine qb (d := 91) (v := .bool ((((((x25 && ((x5.2.2 : Int) == 0)) && ((x9.1 : Int) == 4)) && ((x9.2.1 : Int) == 5)) && ((x9.2.2 : Int) == 0)) && ((x10.1 : Int) == 9)) && ((x10.2.1 : Int) == 8))) rfl (by rw [h31]; simp only [Bool.true_and]) ?_
 exact az [0,8]
 refine qa (os := _) rfl (qf (k := 88) rfl h31 ?_)
 refine au [6,6,15] ?_
 refine qb (d := 91) (v := .bool ((((((x25 && ((x5.2.2 : Int) == 0)) && ((x9.1 : Int) == 4)) && ((x9.2.1 : Int) == 5)) && ((x9.2.2 : Int) == 0)) && ((x10.1 : Int) == 9)) && ((x10.2.1 : Int) == 8))) rfl (by rw [h31]; simp only [Bool.false_and]) ?_
 exact az [0,8]
 refine qa (os := _) rfl ?_
 refine au [1] ?_
 refine qi 3 ((((((x25 && ((x5.2.2 : Int) == 0)) && ((x9.1 : Int) == 4)) && ((x9.2.1 : Int) == 5)) && ((x9.2.2 : Int) == 0)) && ((x10.1 : Int) == 9)) && ((x10.2.1 : Int) == 8)) [(11, .int .i64 x11.1), (12, .int .i64 x11.2.1), (13, .int .i64 x11.2.2), (16, .int .i64 x12.2.2), (18, .int .i64 x13.2.2), (95, .bool (((((((x25 && ((x5.2.2 : Int) == 0)) && ((x9.1 : Int) == 4)) && ((x9.2.1 : Int) == 5)) && ((x9.2.2 : Int) == 0)) && ((x10.1 : Int) == 9)) && ((x10.2.1 : Int) == 8)) && ((x10.2.2 : Int) == 0)))] (fun h32 => ?_) (fun h32 => ?_) ?_
 refine qa (os := _) rfl (qg (k := 92) rfl h32 ?_)
 refine au [1,19,14] ?_
 refine qb (d := 95) (v := .bool (((((((x25 && ((x5.2.2 : Int) == 0)) && ((x9.1 : Int) == 4)) && ((x9.2.1 : Int) == 5)) && ((x9.2.2 : Int) == 0)) && ((x10.1 : Int) == 9)) && ((x10.2.1 : Int) == 8)) && ((x10.2.2 : Int) == 0))) rfl (by rw [h32]; simp only [Bool.true_and]) ?_
 exact az [0,8]
 refine qa (os := _) rfl (qf (k := 92) rfl h32 ?_)
 refine au [6,6,15] ?_
 refine qb (d := 95) (v := .bool (((((((x25 && ((x5.2.2 : Int) == 0)) && ((x9.1 : Int) == 4)) && ((x9.2.1 : Int) == 5)) && ((x9.2.2 : Int) == 0)) && ((x10.1 : Int) == 9)) && ((x10.2.1 : Int) == 8)) && ((x10.2.2 : Int) == 0))) rfl (by rw [h32]; simp only [Bool.false_and]) ?_
 exact az [0,8]
 refine qa (os := _) rfl ?_
 refine au [1] ?_
 refine qi 3 (((((((x25 && ((x5.2.2 : Int) == 0)) && ((x9.1 : Int) == 4)) && ((x9.2.1 : Int) == 5)) && ((x9.2.2 : Int) == 0)) && ((x10.1 : Int) == 9)) && ((x10.2.1 : Int) == 8)) && ((x10.2.2 : Int) == 0)) [(12, .int .i64 x11.2.1), (13, .int .i64 x11.2.2), (16, .int .i64 x12.2.2), (18, .int .i64 x13.2.2), (99, .bool ((((((((x25 && ((x5.2.2 : Int) == 0)) && ((x9.1 : Int) == 4)) && ((x9.2.1 : Int) == 5)) && ((x9.2.2 : Int) == 0)) && ((x10.1 : Int) == 9)) && ((x10.2.1 : Int) == 8)) && ((x10.2.2 : Int) == 0)) && ((x11.1 : Int) == 7)))] (fun h33 => ?_) (fun h33 => ?_) ?_
 refine qa (os := _) rfl (qg (k := 96) rfl h33 ?_)
 refine au [1,19,14] ?_
 refine qb (d := 99) (v := .bool ((((((((x25 && ((x5.2.2 : Int) == 0)) && ((x9.1 : Int) == 4)) && ((x9.2.1 : Int) == 5)) && ((x9.2.2 : Int) == 0)) && ((x10.1 : Int) == 9)) && ((x10.2.1 : Int) == 8)) && ((x10.2.2 : Int) == 0)) && ((x11.1 : Int) == 7))) rfl (by rw [h33]; simp only [Bool.true_and]) ?_
 exact az [0,8]
 refine qa (os := _) rfl (qf (k := 96) rfl h33 ?_)
 refine au [6,6,15] ?_
 refine qb (d := 99) (v := .bool ((((((((x25 && ((x5.2.2 : Int) == 0)) && ((x9.1 : Int) == 4)) && ((x9.2.1 : Int) == 5)) && ((x9.2.2 : Int) == 0)) && ((x10.1 : Int) == 9)) && ((x10.2.1 : Int) == 8)) && ((x10.2.2 : Int) == 0)) && ((x11.1 : Int) == 7))) rfl (by rw [h33]; simp only [Bool.false_and]) ?_
 exact az [0,8]
 refine qa (os := _) rfl ?_
 refine au [1] ?_
 refine qi 3 ((((((((x25 && ((x5.2.2 : Int) == 0)) && ((x9.1 : Int) == 4)) && ((x9.2.1 : Int) == 5)) && ((x9.2.2 : Int) == 0)) && ((x10.1 : Int) == 9)) && ((x10.2.1 : Int) == 8)) && ((x10.2.2 : Int) == 0)) && ((x11.1 : Int) == 7)) [(13, .int .i64 x11.2.2), (16, .int .i64 x12.2.2), (18, .int .i64 x13.2.2), (103, .bool (((((((((x25 && ((x5.2.2 : Int) == 0)) && ((x9.1 : Int) == 4)) && ((x9.2.1 : Int) == 5)) && ((x9.2.2 : Int) == 0)) && ((x10.1 : Int) == 9)) && ((x10.2.1 : Int) == 8)) && ((x10.2.2 : Int) == 0)) && ((x11.1 : Int) == 7)) && ((x11.2.1 : Int) == 8)))] (fun h34 => ?_) (fun h34 => ?_) ?_
 refine qa (os := _) rfl (qg (k := 100) rfl h34 ?_)
 refine au [1,19,14] ?_
 refine qb (d := 103) (v := .bool (((((((((x25 && ((x5.2.2 : Int) == 0)) && ((x9.1 : Int) == 4)) && ((x9.2.1 : Int) == 5)) && ((x9.2.2 : Int) == 0)) && ((x10.1 : Int) == 9)) && ((x10.2.1 : Int) == 8)) && ((x10.2.2 : Int) == 0)) && ((x11.1 : Int) == 7)) && ((x11.2.1 : Int) == 8))) rfl (by rw [h34]; simp only [Bool.true_and]) ?_
 exact az [0,8]
 refine qa (os := _) rfl (qf (k := 100) rfl h34 ?_)
 refine au [6,6,15] ?_
 refine qb (d := 103) (v := .bool (((((((((x25 && ((x5.2.2 : Int) == 0)) && ((x9.1 : Int) == 4)) && ((x9.2.1 : Int) == 5)) && ((x9.2.2 : Int) == 0)) && ((x10.1 : Int) == 9)) && ((x10.2.1 : Int) == 8)) && ((x10.2.2 : Int) == 0)) && ((x11.1 : Int) == 7)) && ((x11.2.1 : Int) == 8))) rfl (by rw [h34]; simp only [Bool.false_and]) ?_
 exact az [0,8]
 refine qa (os := _) rfl ?_
 refine au [1] ?_
 refine qi 3 (((((((((x25 && ((x5.2.2 : Int) == 0)) && ((x9.1 : Int) == 4)) && ((x9.2.1 : Int) == 5)) && ((x9.2.2 : Int) == 0)) && ((x10.1 : Int) == 9)) && ((x10.2.1 : Int) == 8)) && ((x10.2.2 : Int) == 0)) && ((x11.1 : Int) == 7)) && ((x11.2.1 : Int) == 8)) [(16, .int .i64 x12.2.2), (18, .int .i64 x13.2.2), (107, .bool ((((((((((x25 && ((x5.2.2 : Int) == 0)) && ((x9.1 : Int) == 4)) && ((x9.2.1 : Int) == 5)) && ((x9.2.2 : Int) == 0)) && ((x10.1 : Int) == 9)) && ((x10.2.1 : Int) == 8)) && ((x10.2.2 : Int) == 0)) && ((x11.1 : Int) == 7)) && ((x11.2.1 : Int) == 8)) && ((x11.2.2 : Int) == 0)))] (fun h35 => ?_) (fun h35 => ?_) ?_
 refine qa (os := _) rfl (qg (k := 104) rfl h35 ?_)
 refine au [1,19,14] ?_
 refine qb (d := 107) (v := .bool ((((((((((x25 && ((x5.2.2 : Int) == 0)) && ((x9.1 : Int) == 4)) && ((x9.2.1 : Int) == 5)) && ((x9.2.2 : Int) == 0)) && ((x10.1 : Int) == 9)) && ((x10.2.1 : Int) == 8)) && ((x10.2.2 : Int) == 0)) && ((x11.1 : Int) == 7)) && ((x11.2.1 : Int) == 8)) && ((x11.2.2 : Int) == 0))) rfl (by rw [h35]; simp only [Bool.true_and]) ?_
 exact az [0,8]
 refine qa (os := _) rfl (qf (k := 104) rfl h35 ?_)
 refine au [6,6,15] ?_
 refine qb (d := 107) (v := .bool ((((((((((x25 && ((x5.2.2 : Int) == 0)) && ((x9.1 : Int) == 4)) && ((x9.2.1 : Int) == 5)) && ((x9.2.2 : Int) == 0)) && ((x10.1 : Int) == 9)) && ((x10.2.1 : Int) == 8)) && ((x10.2.2 : Int) == 0)) && ((x11.1 : Int) == 7)) && ((x11.2.1 : Int) == 8)) && ((x11.2.2 : Int) == 0))) rfl (by rw [h35]; simp only [Bool.false_and]) ?_
 exact az [0,8]
 refine qa (os := _) rfl ?_
 refine au [1] ?_
 refine qi 3 ((((((((((x25 && ((x5.2.2 : Int) == 0)) && ((x9.1 : Int) == 4)) && ((x9.2.1 : Int) == 5)) && ((x9.2.2 : Int) == 0)) && ((x10.1 : Int) == 9)) && ((x10.2.1 : Int) == 8)) && ((x10.2.2 : Int) == 0)) && ((x11.1 : Int) == 7)) && ((x11.2.1 : Int) == 8)) && ((x11.2.2 : Int) == 0)) [(18, .int .i64 x13.2.2), (111, .bool (((((((((((x25 && ((x5.2.2 : Int) == 0)) && ((x9.1 : Int) == 4)) && ((x9.2.1 : Int) == 5)) && ((x9.2.2 : Int) == 0)) && ((x10.1 : Int) == 9)) && ((x10.2.1 : Int) == 8)) && ((x10.2.2 : Int) == 0)) && ((x11.1 : Int) == 7)) && ((x11.2.1 : Int) == 8)) && ((x11.2.2 : Int) == 0)) && ((x12.2.2 : Int) == 7)))] (fun h36 => ?_) (fun h36 => ?_) ?_
 refine qa (os := _) rfl (qg (k := 108) rfl h36 ?_)
 refine au [1,19,14] ?_
 refine qb (d := 111) (v := .bool (((((((((((x25 && ((x5.2.2 : Int) == 0)) && ((x9.1 : Int) == 4)) && ((x9.2.1 : Int) == 5)) && ((x9.2.2 : Int) == 0)) && ((x10.1 : Int) == 9)) && ((x10.2.1 : Int) == 8)) && ((x10.2.2 : Int) == 0)) && ((x11.1 : Int) == 7)) && ((x11.2.1 : Int) == 8)) && ((x11.2.2 : Int) == 0)) && ((x12.2.2 : Int) == 7))) rfl (by rw [h36]; simp only [Bool.true_and]) ?_
 exact az [0,8]
 refine qa (os := _) rfl (qf (k := 108) rfl h36 ?_)
 refine au [6,6,15] ?_
 refine qb (d := 111) (v := .bool (((((((((((x25 && ((x5.2.2 : Int) == 0)) && ((x9.1 : Int) == 4)) && ((x9.2.1 : Int) == 5)) && ((x9.2.2 : Int) == 0)) && ((x10.1 : Int) == 9)) && ((x10.2.1 : Int) == 8)) && ((x10.2.2 : Int) == 0)) && ((x11.1 : Int) == 7)) && ((x11.2.1 : Int) == 8)) && ((x11.2.2 : Int) == 0)) && ((x12.2.2 : Int) == 7))) rfl (by rw [h36]; simp only [Bool.false_and]) ?_
 exact az [0,8]
 refine qa (os := _) rfl ?_
 refine au [1] ?_
 refine qi 3 (((((((((((x25 && ((x5.2.2 : Int) == 0)) && ((x9.1 : Int) == 4)) && ((x9.2.1 : Int) == 5)) && ((x9.2.2 : Int) == 0)) && ((x10.1 : Int) == 9)) && ((x10.2.1 : Int) == 8)) && ((x10.2.2 : Int) == 0)) && ((x11.1 : Int) == 7)) && ((x11.2.1 : Int) == 8)) && ((x11.2.2 : Int) == 0)) && ((x12.2.2 : Int) == 7)) [(115, .bool ((((((((((((x25 && ((x5.2.2 : Int) == 0)) && ((x9.1 : Int) == 4)) && ((x9.2.1 : Int) == 5)) && ((x9.2.2 : Int) == 0)) && ((x10.1 : Int) == 9)) && ((x10.2.1 : Int) == 8)) && ((x10.2.2 : Int) == 0)) && ((x11.1 : Int) == 7)) && ((x11.2.1 : Int) == 8)) && ((x11.2.2 : Int) == 0)) && ((x12.2.2 : Int) == 7)) && ((x13.2.2 : Int) == 3)))] (fun h37 => ?_) (fun h37 => ?_) ?_
 refine qa (os := _) rfl (qg (k := 112) rfl h37 ?_)
 refine au [1,19,14] ?_
 refine qb (d := 115) (v := .bool ((((((((((((x25 && ((x5.2.2 : Int) == 0)) && ((x9.1 : Int) == 4)) && ((x9.2.1 : Int) == 5)) && ((x9.2.2 : Int) == 0)) && ((x10.1 : Int) == 9)) && ((x10.2.1 : Int) == 8)) && ((x10.2.2 : Int) == 0)) && ((x11.1 : Int) == 7)) && ((x11.2.1 : Int) == 8)) && ((x11.2.2 : Int) == 0)) && ((x12.2.2 : Int) == 7)) && ((x13.2.2 : Int) == 3))) rfl (by rw [h37]; simp only [Bool.true_and]) ?_
 exact az [0,8]
 refine qa (os := _) rfl (qf (k := 112) rfl h37 ?_)
 refine au [6,6,15] ?_
 refine qb (d := 115) (v := .bool ((((((((((((x25 && ((x5.2.2 : Int) == 0)) && ((x9.1 : Int) == 4)) && ((x9.2.1 : Int) == 5)) && ((x9.2.2 : Int) == 0)) && ((x10.1 : Int) == 9)) && ((x10.2.1 : Int) == 8)) && ((x10.2.2 : Int) == 0)) && ((x11.1 : Int) == 7)) && ((x11.2.1 : Int) == 8)) && ((x11.2.2 : Int) == 0)) && ((x12.2.2 : Int) == 7)) && ((x13.2.2 : Int) == 3))) rfl (by rw [h37]; simp only [Bool.false_and]) ?_
 exact az [0,8]
 refine qa (os := _) rfl ?_
 exact az [4,0,2,9,16]
set_option maxHeartbeats 4000000 in
theorem qgz {F : Nat} {x1 : Int} {x2 : Int} {r : (Int × List Int × Int)} (hm : qcO F x1 x2 = some r) :
    Pure Tryz.prog 144 [.int .u64 x1, .int .u64 x2] [] (Option Addr × Nat) (fun g => .tuple #[.agg #[.int .i64 r.1, .slice g.1 r.2.1.length g.2], .int .i64 r.2.2]) (fun g => [Ro (eI .u8) 5 1 (.slice g.1 r.2.1.length g.2) r.2.1]) (fun _ => []) := by
 refine qk Tryz.func144 rfl Tryz.ntmps144 rfl hm (fun w => ?_)
 refine au [24,10,3,5,23] ?_
 intro g3
 refine au [4,0,2,3,3,5,1,28,4] ?_
 intro x7 e7 _
 refine au [25,7,1] ?_
 refine qi 4 (!x7) [(0, .int .u64 x1), (1, .int .u64 x2), (4, .pointer (some ⟨g3, 0, none⟩)), (13, .bool ((!x7) || (decide (x2 ≤ x1))))] (fun h8 => ?_) (fun h8 => ?_) ?_
 refine qa (os := _) rfl (qg (k := 9) rfl h8 ?_)
 refine au [6,6,6,14] ?_
 refine qb (d := 13) (v := .bool ((!x7) || (decide (x2 ≤ x1)))) rfl (by rw [h8]; simp only [Bool.true_or]) ?_
 exact az [0,8]
 refine qa (os := _) rfl (qf (k := 9) rfl h8 ?_)
 refine au [1,1,25,5,15] ?_
 refine qb (d := 13) (v := .bool ((!x7) || (decide (x2 ≤ x1)))) rfl (by rw [h8]; simp only [Bool.false_or]) ?_
 exact az [0,8]
 refine qa (os := _) rfl ?_
 refine av [0,2,10] ?_ ?_
 intro _
 refine au [3,5] ?_
 refine qH (cells := [.int .i64 0, .slice none 0 0]) rfl st25 rfl (by kernel_rfl) rfl ?_
 refine au [22,4,0,2,9,12,26,1] ?_
 exact qI (none, 0) (resL (rs := [.cell 4 25, .tmp 5]) rfl (.cell (i := 0) rfl tf25 rfl rfl (by simp) rfl (.tmp rfl ResOk.nil)) rfl) (fun h => by subst h; exact (.cons 0 rfl .nil))
 intro _
 refine au [13,2,3,5] ?_
 refine qH (cells := [.int .i64 0, .slice none 0 0]) rfl st25 rfl (by kernel_rfl) rfl ?_
 refine au [1,1,28,8,29,9] ?_
 rintro x9 e9 ⟨a10, c11⟩
 refine au [22,4,0,2,9] ?_
 exact qI (a10, c11) (resL (rs := [.cell 4 25, .tmp 5]) rfl (.cell (i := 0) rfl tf25 rfl rfl (by simp) rfl (.tmp rfl ResOk.nil)) rfl) (fun h => by subst h; exact (.cons 0 rfl .nil))
theorem qhz {F : Nat} {x1 : Int} {x2 : Int} {r : (Int × Int × Int)} (hm : qeJ F x1 x2 = some r) :
    Pure Tryz.prog 211 [.int .u64 x1, .int .i64 x2] [] Unit (fun _ => .tuple #[.int .i64 r.1, .int .u64 r.2.1, .int .u64 r.2.2]) (fun _ => []) (fun _ => []) := by
 refine qk Tryz.func211 rfl Tryz.ntmps211 rfl hm (fun w => ?_)
 refine au [24,10,3,5,4,4,4,0,2,3,5,1,21,29,7] ?_
 intro x3 e3 _
 refine au [25,0,1,25,4] ?_
 intro h4
 refine qjc rfl rfl rfl rfl h4 ?_
 refine au [4,0,2,3,26,9] ?_
 intro h11
 refine au [26,9] ?_
 intro h13
 refine qT mixed [] [] [] .nil qL 14 rfl ?_
 refine au [11,0,11,1,11,2,11,3] ?_
 refine qj 4 (.int .u64 (ishl .u64 1 (imul .i64 (iquo .i64 (isub .i64 x3 1) x2) x2))) rfl rfl rfl (qf1 rfl rfl h11) ?_
 refine au [11,5,11,6,11,7,11,8,11,9] ?_
 refine qj 10 (.int .u64 (ishl .u64 1 (iadd .i64 (imul .i64 (iquo .i64 (isub .i64 x3 1) x2) x2) x2))) rfl rfl rfl (qf1 rfl rfl h13) ?_
 refine au [11,11,11,12,11,13,24,7] ?_
 refine qR ?_ (by intro c h; cases h)
 exact az [2,9,16]
set_option maxHeartbeats 4000000 in
theorem qhy {F : Nat} {x1 : Int} {x2 : Int} {r : (Int × List Int × Int)} (hm : qeI F x1 x2 = some r) :
    Pure Tryz.prog 145 [.int .u64 x1, .int .i64 x2] [] (Option Addr × Nat) (fun g => .tuple #[.agg #[.int .i64 r.1, .slice g.1 r.2.1.length g.2], .int .i64 r.2.2]) (fun g => [Ro (eI .u8) 5 1 (.slice g.1 r.2.1.length g.2) r.2.1]) (fun _ => []) := by
 refine qk Tryz.func145 rfl Tryz.ntmps145 rfl hm (fun w => ?_)
 refine au [24,10,3,5,23] ?_
 intro g3
 refine au [4,0,2,3,3,5,1,24,3,1] ?_
 refine qi 3 (decide (x2 < 1)) [(0, .int .u64 x1), (1, .int .i64 x2), (4, .pointer (some ⟨g3, 0, none⟩)), (14, .bool ((decide (x2 < 1)) || (decide (16 < x2))))] (fun h7 => ?_) (fun h7 => ?_) ?_
 refine qa (os := _) rfl (qg (k := 11) rfl h7 ?_)
 refine au [6,6,14] ?_
 refine qb (d := 14) (v := .bool ((decide (x2 < 1)) || (decide (16 < x2)))) rfl (by rw [h7]; simp only [Bool.true_or]) ?_
 exact az [0,8]
 refine qa (os := _) rfl (qf (k := 11) rfl h7 ?_)
 refine au [1,24,13,15] ?_
 refine qb (d := 14) (v := .bool ((decide (x2 < 1)) || (decide (16 < x2)))) rfl (by rw [h7]; simp only [Bool.false_or]) ?_
 exact az [0,8]
 refine qa (os := _) rfl ?_
 refine au [1] ?_
 refine qi 3 ((decide (x2 < 1)) || (decide (16 < x2))) [(0, .int .u64 x1), (1, .int .i64 x2), (4, .pointer (some ⟨g3, 0, none⟩)), (18, .bool (((decide (x2 < 1)) || (decide (16 < x2))) || (decide (1099511627776 < x1))))] (fun h8 => ?_) (fun h8 => ?_) ?_
 refine qa (os := _) rfl (qg (k := 15) rfl h8 ?_)
 refine au [6,6,14] ?_
 refine qb (d := 18) (v := .bool (((decide (x2 < 1)) || (decide (16 < x2))) || (decide (1099511627776 < x1)))) rfl (by rw [h8]; simp only [Bool.true_or]) ?_
 exact az [0,8]
 refine qa (os := _) rfl (qf (k := 15) rfl h8 ?_)
 refine au [1,24,13,15] ?_
 refine qb (d := 18) (v := .bool (((decide (x2 < 1)) || (decide (16 < x2))) || (decide (1099511627776 < x1)))) rfl (by rw [h8]; simp only [Bool.false_or]) ?_
 exact az [0,8]
 refine qa (os := _) rfl ?_
 refine av [0,2,10] ?_ ?_
 intro _
 refine au [3,5] ?_
 refine qH (cells := [.int .i64 0, .slice none 0 0]) rfl st25 rfl (by kernel_rfl) rfl ?_
 refine au [22,4,0,2,9,12,26,1] ?_
 exact qI (none, 0) (resL (rs := [.cell 4 25, .tmp 5]) rfl (.cell (i := 0) rfl tf25 rfl rfl (by simp) rfl (.tmp rfl ResOk.nil)) rfl) (fun h => by subst h; exact (.cons 0 rfl .nil))
 intro _
 refine au [13,2,3,5,1,1] ?_
 refine qh qhz ?_
 intro x9 e9 _
 refine au [1,7,7,7,4,4,4,0,2,3,5,1,25,10,27,11] ?_
 rintro x10 e10 ⟨a11, c12⟩
 refine au [1,21,1,25,0,1,1,25,0,29,9] ?_
 rintro x13 e13 ⟨a14, c15⟩
 refine au [22,4,0,2,9] ?_
 exact qI (a14, c15) (resL (rs := [.cell 4 25, .tmp 5]) rfl (.cell (i := 0) rfl tf25 rfl rfl (by simp) rfl (.tmp rfl ResOk.nil)) rfl) (fun h => by subst h; exact (.cons 0 rfl .nil))
set_option maxHeartbeats 4000000 in
theorem qdc {F : Nat} {x1 : List Bool} {a2 : Option Addr} {c3 : Nat} {x4 : Bool} {r : Int} (hm : qas F x1 x4 = some r) :
    Pure Tryz.prog 263 [.slice a2 x1.length c3, .bool x4] [Sl eB 1 (.slice a2 x1.length c3) x1] Unit (fun _ => .int .i64 r) (fun _ => []) (fun _ => []) := by
 refine qk Tryz.func263 rfl Tryz.ntmps263 rfl hm (fun w => ?_)
 refine au [24,10,3,5,4,0,2] ?_
 refine qm (fun ((_, _) : (Unit × Unit)) => ([], [], [], [], je F)) ?_ ?_
 refine au [3,5,1,24,4,1,0,2,18] ?_
 refine qx (fun ((x47, _) : (Int × Unit)) => ([(0, .slice a2 x1.length c3), (1, .bool x4), (7, .int .i64 (x1.length : Int)), (8, .int .i64 x47)], [], [], [Sl eB 1 (.slice a2 x1.length c3) x1])) (fun k (s : (Int × Unit)) => zY F x1 x4 k s.1) (0, ()) F ?_
 intro k58
 rintro ⟨x47, _⟩
 try dsimp only
 refine qN (m' := jd F x1 x4 (zY F x1 x4 k58) x47) rfl ?_
 refine av [3,5,24,3,0,2,3,10] ?_ ?_
 intro _
 refine au [13,2,3,18,3,5,1,4,0,2,3,5,1,1,1] ?_
 refine vv (j := 0) qlv (by decide) rfl UnF.u inferInstance rfl rfl rfl rfl ?_
 intro x64 e64 b65 o66
 refine au [25,9] ?_
 refine qpr rfl UnF.u rfl rfl rfl ?_
 refine av [0,2,10] ?_ ?_
 intro _
 exact az [3,5,1,4,0,2,9,24,0,12,12,24,0,12,16]
 intro _
 refine au [13,24,2,2,5,21,1,0] ?_
 exact qs (iadd .i64 x47 1, ())
 intro _
 exact az [24,8,20,20,24,9,25,13]
 rintro ⟨_, _⟩
 try dsimp only
 exact az [3,5,4,0,2,9,16]
theorem qcq {F : Nat} {x1 : List Bool} {a2 : Option Addr} {c3 : Nat} {x4 : Bool} {r : Bool} (hm : jc F x1 x4 = some r) :
    Pure Tryz.prog 243 [.slice a2 x1.length c3, .bool x4] [Sl eB 1 (.slice a2 x1.length c3) x1] Unit (fun _ => .bool r) (fun _ => []) (fun _ => []) := by
 refine qk Tryz.func243 rfl Tryz.ntmps243 rfl hm (fun w => ?_)
 refine au [24,10,3,5,4,0,2,3,5,1,1] ?_
 refine qh qdc ?_
 intro x5 e5 _
 exact az [25,5,4,0,2,9,16]
set_option maxHeartbeats 4000000 in
theorem qgA {F : Nat} {x1 : Int} {x2 : List Int} {a3 : Option Addr} {c4 : Nat} {x5 : Int} {x6 : List Bool} {a7 : Option Addr} {c8 : Nat} {r : Int} (hm : qbh F x1 x2 x5 x6 = some r) :
    Pure Tryz.prog 212 [.agg #[.int .i64 x1, .slice a3 x2.length c4], .int .i64 x5, .slice a7 x6.length c8] [Sl (eI .u8) 1 (.slice a3 x2.length c4) x2, Sl eB 1 (.slice a7 x6.length c8) x6] Unit (fun _ => .int .i64 r) (fun _ => []) (fun _ => []) := by
 refine qk Tryz.func212 rfl Tryz.ntmps212 rfl hm (fun w => ?_)
 refine au [25,8,3,5,24,6] ?_
 intro g9
 refine au [4,0,2,3,5,24,5,1,28,0] ?_
 intro x10 e10 _
 refine au [4,0,2] ?_
 refine qm (fun ((x16, _) : (Int × Unit)) => ([(7, .int .i64 x16)], [], [], [], qbi F x16)) ?_ ?_
 refine au [3,5,1,19,1] ?_
 refine qy 3 (fun ((x19, _) : (Bool × Unit)) => ([(7, .int .i64 x10), (16, .bool x19)], [], [], [], qbj F x10 x19)) ?_ ?_
 refine qa (os := _) rfl ?_
 refine av [24,12] ?_ ?_
 intro h17
 refine qg (k := 13) rfl h17 ?_
 refine au [1] ?_
 refine qh qcq ?_
 intro x21 e21 _
 refine au [14,0] ?_
 exact qc (x21, ())
 intro h17
 refine qf (k := 13) rfl h17 ?_
 refine au [6,6,15,0] ?_
 exact qc (false, ())
 rintro ⟨x19, _⟩
 try dsimp only
 refine qa (os := _) rfl ?_
 refine av [0,2,10] ?_ ?_
 intro _
 refine au [5,4,0] ?_
 exact qc ((3 : Int), ())
 intro _
 refine au [13] ?_
 exact qc (x10, ())
 rintro ⟨x16, _⟩
 try dsimp only
 exact az [3,5,1,4,0,2,9,16]
set_option maxHeartbeats 4000000 in
theorem qeN {F : Nat} {x1 : Int} {x2 : List Int} {a3 : Option Addr} {c4 : Nat} {x5 : Int} {x6 : Int} {r : (Int × Int × Bool)} (hm : vj F x1 x2 x5 x6 = some r) :
    Pure Tryz.prog 213 [.agg #[.int .i64 x1, .slice a3 x2.length c4], .int .i64 x5, .int .u64 x6] [Sl (eI .u8) 1 (.slice a3 x2.length c4) x2] Unit (fun _ => .tuple #[.int .u64 r.1, .int .i64 r.2.1, .bool r.2.2]) (fun _ => []) (fun _ => []) := by
 refine qk Tryz.func213 rfl Tryz.ntmps213 rfl hm (fun w => ?_)
 refine au [25,8,3,5,24,6] ?_
 intro g7
 refine au [4,4,4,0,2,3,5,1,31,6] ?_
 intro x8 e8 _
 refine au [1,7,7,4,4,0,2] ?_
 refine qm (fun ((_, _) : (Unit × Unit)) => ([(1, .int .i64 x5), (3, .pointer (some ⟨g7, 0, none⟩)), (9, .int .i64 x8.1), (10, .int .u64 x8.2)], [⟨g7, 25, [.int .i64 x1, .slice a3 x2.length c4]⟩], [], [Sl (eI .u8) 1 (.slice a3 x2.length c4) x2], vP F x1 x2 x5 x8)) ?_ ?_
 refine av [3,5,1,24,13,0,2,10] ?_ ?_
 intro _
 refine au [3,5,24,5,1,1,25,0,27,15] ?_
 intro x15 e15 _
 refine av [1,7,7,4,4,0,2,3,3,5,1,25,7,0,2,10] ?_ ?_
 intro _
 exact az [3,5,4,4,4,0,2,9,12,12,16]
 intro _
 refine av [13,2,3,5,1,1,24,3,0,2,10] ?_ ?_
 intro _
 exact az [3,5,1,1,1,21,25,0,4,4,4,0,2,9,12,16]
 intro _
 exact az [13,25,13]
 intro _
 exact az [13,25,13]
 rintro ⟨_, _⟩
 try dsimp only
 refine au [3,5,24,5,1,1,27,15] ?_
 intro x14 e14 _
 exact az [1,7,7,4,4,0,2,3,5,1,1,25,0,1,1,21,1,4,4,4,0,2,9,16]
theorem qgB {F : Nat} {x1 : Int} {x2 : Int} {x3 : Bool} {r : (Int × Int × Int)} (hm : qbk F x1 x2 x3 = some r) :
    Pure Tryz.prog 214 [.int .u64 x1, .int .i64 x2, .bool x3] [] Unit (fun _ => .tuple #[.int .u64 r.1, .int .i64 r.2.1, .int .i64 r.2.2]) (fun _ => []) (fun _ => []) := by
 refine qk Tryz.func214 rfl Tryz.ntmps214 rfl hm (fun w => ?_)
 refine av [25,8,3,5,4,4,4,0,2,3,18,3,5,1,25,7,4,0,2,10] ?_ ?_
 intro _
 exact az [3,5,4,4,4,0,2,9,24,0,12,16]
 intro _
 refine av [3,5,1,24,13,4,0,2,10] ?_ ?_
 intro _
 exact az [3,5,4,4,4,0,2,9,24,0,12,16]
 intro _
 exact az [13,24,2,2,3,5,1,1,4,4,4,0,2,9,16]
set_option maxHeartbeats 4000000 in
theorem qhx {F : Nat} {x1 : Int} {x2 : List Int} {a3 : Option Addr} {c4 : Nat} {x5 : Int} {x6 : Int} {r : (Int × Int × Int)} (hm : qeH F x1 x2 x5 x6 = some r) :
    Pure Tryz.prog 146 [.agg #[.int .i64 x1, .slice a3 x2.length c4], .int .i64 x5, .int .u64 x6] [Sl (eI .u8) 1 (.slice a3 x2.length c4) x2] Unit (fun _ => .tuple #[.int .u64 r.1, .int .i64 r.2.1, .int .i64 r.2.2]) (fun _ => []) (fun _ => []) := by
 refine qk Tryz.func146 rfl Tryz.ntmps146 rfl hm (fun w => ?_)
 refine au [25,8,3,5,24,6] ?_
 intro g7
 refine au [4,4,4,0,2,3,3] ?_
 refine qT mixed [] [⟨g7, 25, [.int .i64 x1, .slice a3 x2.length c4]⟩] [Sl (eI .u8) 1 (.slice a3 x2.length c4) x2] (.cons 0 rfl .nil) (qz 0 rfl qL) 7 rfl (zJ 0 (.agg #[.int .i64 x1, .slice a3 x2.length c4]) rfl rfl rfl (zQ (i := 0) rfl tf25 rfl rfl (by simp) rfl) ?_)
 refine au [11,1,11,2,17,3,28,4] ?_
 intro x21 e21 _
 refine au [0,26,12,17,4] ?_
 refine qq (vs := [.bool x21]) (ys := ([x21] : List Bool)) qlv (by decide) rfl Tryz.underlying296 tf4 rfl rfl rfl rfl rfl (by decide) (fun a22 c23 => ?_)
 refine au [0,26,12,17,5,30,2] ?_
 intro x24 e24 _
 refine au [0,26,12,11,6,24,7] ?_
 refine qR ?_ (by intro c h; cases h)
 refine av [2,3,5,1,24,15,0,2,10] ?_ ?_
 intro _
 exact az [3,5,1,4,4,4,0,2,9,12,16]
 intro _
 refine au [13,2,3,5,24,5,1,27,13] ?_
 intro x25 e25 _
 refine au [1,7,7,7,4,4,4,0,2,3,3,5,1,1] ?_
 refine qi 3 x25.2.2 [(2, .int .u64 x6), (3, .pointer (some ⟨g7, 0, none⟩)), (10, .int .u64 x25.1), (11, .int .i64 x25.2.1), (12, .bool x25.2.2), (34, .bool (x25.2.2 && (decide (8128 ≤ x25.1))))] (fun h28 => ?_) (fun h28 => ?_) ?_
 refine qa (os := _) rfl (qg (k := 31) rfl h28 ?_)
 refine au [1,25,5,14] ?_
 refine qb (d := 34) (v := .bool (x25.2.2 && (decide (8128 ≤ x25.1)))) rfl (by rw [h28]; simp only [Bool.true_and]) ?_
 exact az [0,8]
 refine qa (os := _) rfl (qf (k := 31) rfl h28 ?_)
 refine au [6,6,15] ?_
 refine qb (d := 34) (v := .bool (x25.2.2 && (decide (8128 ≤ x25.1)))) rfl (by rw [h28]; simp only [Bool.false_and]) ?_
 exact az [0,8]
 refine qa (os := _) rfl ?_
 refine av [0,2,10] ?_ ?_
 intro _
 exact az [3,5,4,4,4,0,2,9,12,16]
 intro _
 refine av [13,2,3,3,5,1,25,7,0,2,10] ?_ ?_
 intro _
 exact az [3,5,4,4,4,0,2,9,12,16]
 intro _
 refine au [13,2,3,5,24,5,1,1,30,3] ?_
 intro x30 e30 _
 refine au [1,7,7,7,4,4,4,0,2,3,5,1,1,27,1,1,21,1,1,30,4] ?_
 intro x31 e31 _
 exact az [7,7,7,4,4,4,0,2,9,16]
set_option maxHeartbeats 4000000 in
theorem qe7 {F : Nat} {x1 : Int} {x2 : List Int} {a3 : Option Addr} {c4 : Nat} {x5 : Int} {x6 : Int} {r : (Int × Int × Int)} (hm : qc2 F x1 x2 x5 x6 = some r) :
    Pure Tryz.prog 215 [.agg #[.int .i64 x1, .slice a3 x2.length c4], .int .i64 x5, .int .i64 x6] [Sl (eI .u8) 1 (.slice a3 x2.length c4) x2] Unit (fun _ => .tuple #[.int .u64 r.1, .int .i64 r.2.1, .int .i64 r.2.2]) (fun _ => []) (fun _ => []) := by
 refine qk Tryz.func215 rfl Tryz.ntmps215 rfl hm (fun w => ?_)
 refine au [25,8,3,5,24,6] ?_
 intro g7
 refine au [4,4,4,0,2,3,5,24,5,1,27,13] ?_
 intro x8 e8 _
 refine av [1,7,7,7,4,4,4,0,2,3,3,5,1,25,7,0,2,10] ?_ ?_
 intro _
 exact az [3,5,4,4,4,0,2,9,12,16]
 intro _
 refine av [13,2,3,3,5,1,1,25,10,27,1,25,5,0,2,10] ?_ ?_
 intro _
 exact az [3,5,4,4,4,0,2,9,12,16]
 intro _
 refine au [13,2,3,5,1,25,10,1,27,1,25,4] ?_
 intro h11
 refine qc9 rfl rfl rfl rfl h11 ?_
 refine au [4,26,4] ?_
 intro x12 e12
 refine qb (d := 12) (v := .int .u64 x12) rfl (by rw [e12] <;> rfl) ?_
 refine au [0,2,3,26,9] ?_
 intro h17
 refine qT mixed [] [⟨g7, 25, [.int .i64 x1, .slice a3 x2.length c4]⟩] [Sl (eI .u8) 1 (.slice a3 x2.length c4) x2] (.cons 0 rfl .nil) (qz 0 rfl qL) 15 rfl (zJ 0 (.agg #[.int .i64 x1, .slice a3 x2.length c4]) rfl rfl rfl (zQ (i := 0) rfl tf25 rfl rfl (by simp) rfl) ?_)
 refine au [11,1,11,2,11,3] ?_
 refine qj 4 (.int .u64 (ishl .u64 x12 x6)) rfl rfl rfl (qf1 rfl rfl h17) ?_
 refine au [11,5,11,6,17,7,30,3] ?_
 intro x20 e20 _
 refine au [0,26,12,11,8,11,9,11,10,11,11,11,12,11,13,11,14,24,7] ?_
 refine qR ?_ (by intro c h; cases h)
 refine au [2,3,5,1,1,21,25,0,1,1,30,4] ?_
 intro x21 e21 _
 exact az [7,7,7,4,4,4,0,2,9,16]
theorem qe8 {F : Nat} {x1 : Int} {x2 : List Int} {a3 : Option Addr} {c4 : Nat} {x5 : Int} {x6 : Int} {r : (Int × Int × Int)} (hm : qc3 F x1 x2 x5 x6 = some r) :
    Pure Tryz.prog 147 [.agg #[.int .i64 x1, .slice a3 x2.length c4], .int .i64 x5, .int .i64 x6] [Sl (eI .u8) 1 (.slice a3 x2.length c4) x2] Unit (fun _ => .tuple #[.int .u64 r.1, .int .i64 r.2.1, .int .i64 r.2.2]) (fun _ => []) (fun _ => []) := by
 refine qk Tryz.func147 rfl Tryz.ntmps147 rfl hm (fun w => ?_)
 refine au [25,8,3,5,24,6] ?_
 intro g7
 refine au [4,4,4,0,2,3,3,5,24,5,1,1,25,5,1,27,12] ?_
 refine qq (vs := [.bool (decide (1 ≤ x6)), .bool (decide (x6 ≤ 16))]) (ys := ([(decide (1 ≤ x6)), (decide (x6 ≤ 16))] : List Bool)) qlv (by decide) rfl Tryz.underlying296 tf4 rfl rfl rfl rfl rfl (by decide) (fun a12 c13 => ?_)
 refine au [30,2] ?_
 intro x14 e14 _
 refine av [4,0,2,3,5,1,24,15,0,2,10] ?_ ?_
 intro _
 exact az [3,5,1,4,4,4,0,2,9,12,16]
 intro _
 refine au [13,2,3,5,24,5,1,1] ?_
 refine qh qe7 ?_
 intro x15 e15 _
 exact az [7,7,7,4,4,4,0,2,9,16]
theorem qeM {F : Nat} {x1 : Int} {x2 : List Int} {a3 : Option Addr} {c4 : Nat} {x5 : Int} {x6 : Int} {r : (Int × Int × Int)} (hm : qcP F x1 x2 x5 x6 = some r) :
    Pure Tryz.prog 148 [.agg #[.int .i64 x1, .slice a3 x2.length c4], .int .i64 x5, .int .u64 x6] [Sl (eI .u8) 1 (.slice a3 x2.length c4) x2] Unit (fun _ => .tuple #[.int .u64 r.1, .int .i64 r.2.1, .int .i64 r.2.2]) (fun _ => []) (fun _ => []) := by
 refine qk Tryz.func148 rfl Tryz.ntmps148 rfl hm (fun w => ?_)
 refine au [25,8,3,5,24,6] ?_
 intro g7
 refine au [4,4,4,0,2,3,3] ?_
 refine qT mixed [] [⟨g7, 25, [.int .i64 x1, .slice a3 x2.length c4]⟩] [Sl (eI .u8) 1 (.slice a3 x2.length c4) x2] (.cons 0 rfl .nil) (qz 0 rfl qL) 7 rfl (zJ 0 (.agg #[.int .i64 x1, .slice a3 x2.length c4]) rfl rfl rfl (zQ (i := 0) rfl tf25 rfl rfl (by simp) rfl) ?_)
 refine au [11,1,11,2,17,3,28,4] ?_
 intro x21 e21 _
 refine au [0,26,12,17,4] ?_
 refine qq (vs := [.bool x21]) (ys := ([x21] : List Bool)) qlv (by decide) rfl Tryz.underlying296 tf4 rfl rfl rfl rfl rfl (by decide) (fun a22 c23 => ?_)
 refine au [0,26,12,17,5,30,2] ?_
 intro x24 e24 _
 refine au [0,26,12,11,6,24,7] ?_
 refine qR ?_ (by intro c h; cases h)
 refine av [2,3,5,1,24,15,0,2,10] ?_ ?_
 intro _
 exact az [3,5,1,4,4,4,0,2,9,12,16]
 intro _
 refine au [13,2,3,5,24,5,1,1,30,3] ?_
 intro x25 e25 _
 refine au [7,7,7,30,4] ?_
 intro x26 e26 _
 exact az [7,7,7,4,4,4,0,2,9,16]
set_option maxHeartbeats 4000000 in
theorem qgd {F : Nat}  {r : Bool} (hm : qaw F  = some r) :
    Pure Tryz.prog 58 [] [] Unit (fun _ => .bool r) (fun _ => []) (fun _ => []) := by
 refine qk Tryz.func58 rfl Tryz.ntmps58 rfl hm (fun w => ?_)
 refine au [26,11,3,5,4,0,2,3,5,33,1] ?_
 rintro x1 e1 ⟨a2, c3⟩
 refine au [1,7,7,23] ?_
 intro g4
 refine au [22,4,0,2,3,5,33,2] ?_
 rintro x5 e5 ⟨a6, c7⟩
 refine au [1,7,7,23] ?_
 intro g8
 refine au [22,4,0,2,3,5] ?_
 refine qh qhy ?_
 rintro x9 e9 ⟨a10, c11⟩
 refine au [1,7,7,23] ?_
 intro g12
 refine au [22,4,0,2,3,5,25,14] ?_
 refine qh qhx ?_
 intro x13 e13 _
 refine au [1,7,7,7,4,4,4,0,2,3,5,24,5] ?_
 refine qh qe8 ?_
 intro x14 e14 _
 refine au [1,7,7,7,4,4,4,0,2,3,5,26,5] ?_
 refine qh qeM ?_
 intro x15 e15 _
 refine au [1,7,7,7,4,4,4,0,2,3,5,33,1] ?_
 rintro x16 e16 ⟨a17, c18⟩
 refine au [1,7,7,23] ?_
 intro g19
 refine au [22,4,0,2,3,5,26,15] ?_
 refine qq (vs := [.int .u8 192]) (ys := ([192] : List Int)) (qn .u8) (by decide) rfl Tryz.underlying23 tf5 rfl rfl rfl rfl rfl (by decide) (fun a20 c21 => qH (cells := [.int .i64 3, .slice a20 ([192] : List Int).length c21]) rfl st25 rfl (by kernel_rfl) rfl ?_)
 refine au [26,2] ?_
 intro x22 e22 _
 refine au [1] ?_
 refine qi 3 x22 [(3, .pointer (some ⟨g8, 0, none⟩)), (4, .int .i64 x5.2.2), (5, .pointer (some ⟨g12, 0, none⟩)), (6, .int .i64 x9.2.2), (7, .int .u64 x13.1), (8, .int .i64 x13.2.1), (9, .int .i64 x13.2.2), (10, .int .u64 x14.1), (11, .int .i64 x14.2.1), (12, .int .i64 x14.2.2), (13, .int .u64 x15.1), (14, .int .i64 x15.2.1), (15, .int .i64 x15.2.2), (17, .int .i64 x16.2.2), (59, .bool (x22 && ((x1.2.2 : Int) == 0)))] (fun h23 => ?_) (fun h23 => ?_) ?_
 refine qa (os := _) rfl (qg (k := 56) rfl h23 ?_)
 refine au [1,19,14] ?_
 refine qb (d := 59) (v := .bool (x22 && ((x1.2.2 : Int) == 0))) rfl (by rw [h23]; simp only [Bool.true_and]) ?_
 exact az [0,8]
 refine qa (os := _) rfl (qf (k := 56) rfl h23 ?_)
 refine au [6,6,15] ?_
 refine qb (d := 59) (v := .bool (x22 && ((x1.2.2 : Int) == 0))) rfl (by rw [h23]; simp only [Bool.false_and]) ?_
 exact az [0,8]
 refine qa (os := _) rfl ?_
 refine au [1] ?_
 refine qy 5 (fun ((x28, _) : (Bool × Unit)) => ([(4, .int .i64 x5.2.2), (5, .pointer (some ⟨g12, 0, none⟩)), (6, .int .i64 x9.2.2), (7, .int .u64 x13.1), (8, .int .i64 x13.2.1), (9, .int .i64 x13.2.2), (10, .int .u64 x14.1), (11, .int .i64 x14.2.1), (12, .int .i64 x14.2.2), (13, .int .u64 x15.1), (14, .int .i64 x15.2.1), (15, .int .i64 x15.2.2), (17, .int .i64 x16.2.2), (65, .bool x28)], [⟨g12, 25, [.int .i64 x9.1, .slice a10 x9.2.1.length c11]⟩], [Ro (eI .u8) 5 1 (.slice a10 x9.2.1.length c11) x9.2.1], [], qaP F x5 x9 x13 x14 x15 x16 x28)) ?_ ?_
 refine qa (os := _) rfl ?_
 refine av [24,12] ?_ ?_
 intro h24
 refine qg (k := 60) rfl h24 ?_
 refine au [26,5] ?_
 refine qq (vs := [.int .u8 40]) (ys := ([40] : List Int)) (qn .u8) (by decide) rfl Tryz.underlying23 tf5 rfl rfl rfl rfl rfl (by decide) (fun a49 c50 => qH (cells := [.int .i64 5, .slice a49 ([40] : List Int).length c50]) rfl st25 rfl (by kernel_rfl) rfl ?_)
 refine au [26,2] ?_
 intro x51 e51 _
 refine au [14,0] ?_
 exact qc (x51, ())
 intro h24
 refine qf (k := 60) rfl h24 ?_
 refine au [6,6,6,6,15,0] ?_
 exact qc (false, ())
 rintro ⟨x28, _⟩
 try dsimp only
 refine qa (os := _) rfl ?_
 refine au [1] ?_
 refine qi 3 x28 [(5, .pointer (some ⟨g12, 0, none⟩)), (6, .int .i64 x9.2.2), (7, .int .u64 x13.1), (8, .int .i64 x13.2.1), (9, .int .i64 x13.2.2), (10, .int .u64 x14.1), (11, .int .i64 x14.2.1), (12, .int .i64 x14.2.2), (13, .int .u64 x15.1), (14, .int .i64 x15.2.1), (15, .int .i64 x15.2.2), (17, .int .i64 x16.2.2), (69, .bool (x28 && ((x5.2.2 : Int) == 0)))] (fun h29 => ?_) (fun h29 => ?_) ?_
 refine qa (os := _) rfl (qg (k := 66) rfl h29 ?_)
 refine au [1,19,14] ?_
 refine qb (d := 69) (v := .bool (x28 && ((x5.2.2 : Int) == 0))) rfl (by rw [h29]; simp only [Bool.true_and]) ?_
 exact az [0,8]
 refine qa (os := _) rfl (qf (k := 66) rfl h29 ?_)
 refine au [6,6,15] ?_
 refine qb (d := 69) (v := .bool (x28 && ((x5.2.2 : Int) == 0))) rfl (by rw [h29]; simp only [Bool.false_and]) ?_
 exact az [0,8]
 refine qa (os := _) rfl ?_
 refine au [1] ?_
 refine qy 5 (fun ((x34, _) : (Bool × Unit)) => ([(6, .int .i64 x9.2.2), (7, .int .u64 x13.1), (8, .int .i64 x13.2.1), (9, .int .i64 x13.2.2), (10, .int .u64 x14.1), (11, .int .i64 x14.2.1), (12, .int .i64 x14.2.2), (13, .int .u64 x15.1), (14, .int .i64 x15.2.1), (15, .int .i64 x15.2.2), (17, .int .i64 x16.2.2), (75, .bool x34)], [], [], [], qaQ F x9 x13 x14 x15 x16 x34)) ?_ ?_
 refine qa (os := _) rfl ?_
 refine av [24,12] ?_ ?_
 intro h30
 refine qg (k := 70) rfl h30 ?_
 refine au [24,5] ?_
 refine qq (vs := [.int .u8 224]) (ys := ([224] : List Int)) (qn .u8) (by decide) rfl Tryz.underlying23 tf5 rfl rfl rfl rfl rfl (by decide) (fun a46 c47 => qH (cells := [.int .i64 3, .slice a46 ([224] : List Int).length c47]) rfl st25 rfl (by kernel_rfl) rfl ?_)
 refine au [26,2] ?_
 intro x48 e48 _
 refine au [14,0] ?_
 exact qc (x48, ())
 intro h30
 refine qf (k := 70) rfl h30 ?_
 refine au [6,6,6,6,15,0] ?_
 exact qc (false, ())
 rintro ⟨x34, _⟩
 try dsimp only
 refine qa (os := _) rfl ?_
 refine au [1] ?_
 refine qi 3 x34 [(7, .int .u64 x13.1), (8, .int .i64 x13.2.1), (9, .int .i64 x13.2.2), (10, .int .u64 x14.1), (11, .int .i64 x14.2.1), (12, .int .i64 x14.2.2), (13, .int .u64 x15.1), (14, .int .i64 x15.2.1), (15, .int .i64 x15.2.2), (17, .int .i64 x16.2.2), (79, .bool (x34 && ((x9.2.2 : Int) == 0)))] (fun h35 => ?_) (fun h35 => ?_) ?_
 refine qa (os := _) rfl (qg (k := 76) rfl h35 ?_)
 refine au [1,19,14] ?_
 refine qb (d := 79) (v := .bool (x34 && ((x9.2.2 : Int) == 0))) rfl (by rw [h35]; simp only [Bool.true_and]) ?_
 exact az [0,8]
 refine qa (os := _) rfl (qf (k := 76) rfl h35 ?_)
 refine au [6,6,15] ?_
 refine qb (d := 79) (v := .bool (x34 && ((x9.2.2 : Int) == 0))) rfl (by rw [h35]; simp only [Bool.false_and]) ?_
 exact az [0,8]
 refine qa (os := _) rfl ?_
 refine au [1] ?_
 refine qi 3 (x34 && ((x9.2.2 : Int) == 0)) [(8, .int .i64 x13.2.1), (9, .int .i64 x13.2.2), (10, .int .u64 x14.1), (11, .int .i64 x14.2.1), (12, .int .i64 x14.2.2), (13, .int .u64 x15.1), (14, .int .i64 x15.2.1), (15, .int .i64 x15.2.2), (17, .int .i64 x16.2.2), (83, .bool ((x34 && ((x9.2.2 : Int) == 0)) && ((x13.1 : Int) == 9)))] (fun h36 => ?_) (fun h36 => ?_) ?_
 refine qa (os := _) rfl (qg (k := 80) rfl h36 ?_)
 refine au [1,19,14] ?_
 refine qb (d := 83) (v := .bool ((x34 && ((x9.2.2 : Int) == 0)) && ((x13.1 : Int) == 9))) rfl (by rw [h36]; simp only [Bool.true_and]) ?_
 exact az [0,8]
 refine qa (os := _) rfl (qf (k := 80) rfl h36 ?_)
 refine au [6,6,15] ?_
 refine qb (d := 83) (v := .bool ((x34 && ((x9.2.2 : Int) == 0)) && ((x13.1 : Int) == 9))) rfl (by rw [h36]; simp only [Bool.false_and]) ?_
 exact az [0,8]
 refine qa (os := _) rfl ?_
 refine au [1] ?_
 refine qi 3 ((x34 && ((x9.2.2 : Int) == 0)) && ((x13.1 : Int) == 9)) [(9, .int .i64 x13.2.2), (10, .int .u64 x14.1), (11, .int .i64 x14.2.1), (12, .int .i64 x14.2.2), (13, .int .u64 x15.1), (14, .int .i64 x15.2.1), (15, .int .i64 x15.2.2), (17, .int .i64 x16.2.2), (87, .bool (((x34 && ((x9.2.2 : Int) == 0)) && ((x13.1 : Int) == 9)) && ((x13.2.1 : Int) == 5)))] (fun h37 => ?_) (fun h37 => ?_) ?_
 refine qa (os := _) rfl (qg (k := 84) rfl h37 ?_)
 refine au [1,19,14] ?_
 refine qb (d := 87) (v := .bool (((x34 && ((x9.2.2 : Int) == 0)) && ((x13.1 : Int) == 9)) && ((x13.2.1 : Int) == 5))) rfl (by rw [h37]; simp only [Bool.true_and]) ?_
 exact az [0,8]
 refine qa (os := _) rfl (qf (k := 84) rfl h37 ?_)
 refine au [6,6,15] ?_
 refine qb (d := 87) (v := .bool (((x34 && ((x9.2.2 : Int) == 0)) && ((x13.1 : Int) == 9)) && ((x13.2.1 : Int) == 5))) rfl (by rw [h37]; simp only [Bool.false_and]) ?_
 exact az [0,8]
 refine qa (os := _) rfl ?_
 refine au [1] ?_
 refine qi 3 (((x34 && ((x9.2.2 : Int) == 0)) && ((x13.1 : Int) == 9)) && ((x13.2.1 : Int) == 5)) [(10, .int .u64 x14.1), (11, .int .i64 x14.2.1), (12, .int .i64 x14.2.2), (13, .int .u64 x15.1), (14, .int .i64 x15.2.1), (15, .int .i64 x15.2.2), (17, .int .i64 x16.2.2), (91, .bool ((((x34 && ((x9.2.2 : Int) == 0)) && ((x13.1 : Int) == 9)) && ((x13.2.1 : Int) == 5)) && ((x13.2.2 : Int) == 0)))] (fun h38 => ?_) (fun h38 => ?_) ?_
 refine qa (os := _) rfl (qg (k := 88) rfl h38 ?_)
 refine au [1,19,14] ?_
 refine qb (d := 91) (v := .bool ((((x34 && ((x9.2.2 : Int) == 0)) && ((x13.1 : Int) == 9)) && ((x13.2.1 : Int) == 5)) && ((x13.2.2 : Int) == 0))) rfl (by rw [h38]; simp only [Bool.true_and]) ?_
 exact az [0,8]
 refine qa (os := _) rfl (qf (k := 88) rfl h38 ?_)
 refine au [6,6,15] ?_
 refine qb (d := 91) (v := .bool ((((x34 && ((x9.2.2 : Int) == 0)) && ((x13.1 : Int) == 9)) && ((x13.2.1 : Int) == 5)) && ((x13.2.2 : Int) == 0))) rfl (by rw [h38]; simp only [Bool.false_and]) ?_
 exact az [0,8]
 refine qa (os := _) rfl ?_
 refine au [1] ?_
 refine qi 3 ((((x34 && ((x9.2.2 : Int) == 0)) && ((x13.1 : Int) == 9)) && ((x13.2.1 : Int) == 5)) && ((x13.2.2 : Int) == 0)) [(11, .int .i64 x14.2.1), (12, .int .i64 x14.2.2), (13, .int .u64 x15.1), (14, .int .i64 x15.2.1), (15, .int .i64 x15.2.2), (17, .int .i64 x16.2.2), (95, .bool (((((x34 && ((x9.2.2 : Int) == 0)) && ((x13.1 : Int) == 9)) && ((x13.2.1 : Int) == 5)) && ((x13.2.2 : Int) == 0)) && ((x14.1 : Int) == 2)))] (fun h39 => ?_) (fun h39 => ?_) ?_
 refine qa (os := _) rfl (qg (k := 92) rfl h39 ?_)
 refine au [1,19,14] ?_
 refine qb (d := 95) (v := .bool (((((x34 && ((x9.2.2 : Int) == 0)) && ((x13.1 : Int) == 9)) && ((x13.2.1 : Int) == 5)) && ((x13.2.2 : Int) == 0)) && ((x14.1 : Int) == 2))) rfl (by rw [h39]; simp only [Bool.true_and]) ?_
 exact az [0,8]
 refine qa (os := _) rfl (qf (k := 92) rfl h39 ?_)
 refine au [6,6,15] ?_
 refine qb (d := 95) (v := .bool (((((x34 && ((x9.2.2 : Int) == 0)) && ((x13.1 : Int) == 9)) && ((x13.2.1 : Int) == 5)) && ((x13.2.2 : Int) == 0)) && ((x14.1 : Int) == 2))) rfl (by rw [h39]; simp only [Bool.false_and]) ?_
 exact az [0,8]
 refine qa (os := _) rfl ?_
 refine au [1] ?_
 refine qi 3 (((((x34 && ((x9.2.2 : Int) == 0)) && ((x13.1 : Int) == 9)) && ((x13.2.1 : Int) == 5)) && ((x13.2.2 : Int) == 0)) && ((x14.1 : Int) == 2)) [(12, .int .i64 x14.2.2), (13, .int .u64 x15.1), (14, .int .i64 x15.2.1), (15, .int .i64 x15.2.2), (17, .int .i64 x16.2.2), (99, .bool ((((((x34 && ((x9.2.2 : Int) == 0)) && ((x13.1 : Int) == 9)) && ((x13.2.1 : Int) == 5)) && ((x13.2.2 : Int) == 0)) && ((x14.1 : Int) == 2)) && ((x14.2.1 : Int) == 3)))] (fun h40 => ?_) (fun h40 => ?_) ?_
 refine qa (os := _) rfl (qg (k := 96) rfl h40 ?_)
 refine au [1,19,14] ?_
 refine qb (d := 99) (v := .bool ((((((x34 && ((x9.2.2 : Int) == 0)) && ((x13.1 : Int) == 9)) && ((x13.2.1 : Int) == 5)) && ((x13.2.2 : Int) == 0)) && ((x14.1 : Int) == 2)) && ((x14.2.1 : Int) == 3))) rfl (by rw [h40]; simp only [Bool.true_and]) ?_
 exact az [0,8]
 refine qa (os := _) rfl (qf (k := 96) rfl h40 ?_)
 refine au [6,6,15] ?_
 refine qb (d := 99) (v := .bool ((((((x34 && ((x9.2.2 : Int) == 0)) && ((x13.1 : Int) == 9)) && ((x13.2.1 : Int) == 5)) && ((x13.2.2 : Int) == 0)) && ((x14.1 : Int) == 2)) && ((x14.2.1 : Int) == 3))) rfl (by rw [h40]; simp only [Bool.false_and]) ?_
 exact az [0,8]
 refine qa (os := _) rfl ?_
 refine au [1] ?_
 refine qi 3 ((((((x34 && ((x9.2.2 : Int) == 0)) && ((x13.1 : Int) == 9)) && ((x13.2.1 : Int) == 5)) && ((x13.2.2 : Int) == 0)) && ((x14.1 : Int) == 2)) && ((x14.2.1 : Int) == 3)) [(13, .int .u64 x15.1), (14, .int .i64 x15.2.1), (15, .int .i64 x15.2.2), (17, .int .i64 x16.2.2), (103, .bool (((((((x34 && ((x9.2.2 : Int) == 0)) && ((x13.1 : Int) == 9)) && ((x13.2.1 : Int) == 5)) && ((x13.2.2 : Int) == 0)) && ((x14.1 : Int) == 2)) && ((x14.2.1 : Int) == 3)) && ((x14.2.2 : Int) == 0)))] (fun h41 => ?_) (fun h41 => ?_) ?_
 refine qa (os := _) rfl (qg (k := 100) rfl h41 ?_)
 refine au [1,19,14] ?_
 refine qb (d := 103) (v := .bool (((((((x34 && ((x9.2.2 : Int) == 0)) && ((x13.1 : Int) == 9)) && ((x13.2.1 : Int) == 5)) && ((x13.2.2 : Int) == 0)) && ((x14.1 : Int) == 2)) && ((x14.2.1 : Int) == 3)) && ((x14.2.2 : Int) == 0))) rfl (by rw [h41]; simp only [Bool.true_and]) ?_
 exact az [0,8]
 refine qa (os := _) rfl (qf (k := 100) rfl h41 ?_)
 refine au [6,6,15] ?_
 refine qb (d := 103) (v := .bool (((((((x34 && ((x9.2.2 : Int) == 0)) && ((x13.1 : Int) == 9)) && ((x13.2.1 : Int) == 5)) && ((x13.2.2 : Int) == 0)) && ((x14.1 : Int) == 2)) && ((x14.2.1 : Int) == 3)) && ((x14.2.2 : Int) == 0))) rfl (by rw [h41]; simp only [Bool.false_and]) ?_
 exact az [0,8]
 refine qa (os := _) rfl ?_
 refine au [1] ?_
 refine qi 3 (((((((x34 && ((x9.2.2 : Int) == 0)) && ((x13.1 : Int) == 9)) && ((x13.2.1 : Int) == 5)) && ((x13.2.2 : Int) == 0)) && ((x14.1 : Int) == 2)) && ((x14.2.1 : Int) == 3)) && ((x14.2.2 : Int) == 0)) [(14, .int .i64 x15.2.1), (15, .int .i64 x15.2.2), (17, .int .i64 x16.2.2), (107, .bool ((((((((x34 && ((x9.2.2 : Int) == 0)) && ((x13.1 : Int) == 9)) && ((x13.2.1 : Int) == 5)) && ((x13.2.2 : Int) == 0)) && ((x14.1 : Int) == 2)) && ((x14.2.1 : Int) == 3)) && ((x14.2.2 : Int) == 0)) && ((x15.1 : Int) == 3)))] (fun h42 => ?_) (fun h42 => ?_) ?_
 refine qa (os := _) rfl (qg (k := 104) rfl h42 ?_)
 refine au [1,19,14] ?_
 refine qb (d := 107) (v := .bool ((((((((x34 && ((x9.2.2 : Int) == 0)) && ((x13.1 : Int) == 9)) && ((x13.2.1 : Int) == 5)) && ((x13.2.2 : Int) == 0)) && ((x14.1 : Int) == 2)) && ((x14.2.1 : Int) == 3)) && ((x14.2.2 : Int) == 0)) && ((x15.1 : Int) == 3))) rfl (by rw [h42]; simp only [Bool.true_and]) ?_
 exact az [0,8]
 refine qa (os := _) rfl (qf (k := 104) rfl h42 ?_)
 refine au [6,6,15] ?_
 refine qb (d := 107) (v := .bool ((((((((x34 && ((x9.2.2 : Int) == 0)) && ((x13.1 : Int) == 9)) && ((x13.2.1 : Int) == 5)) && ((x13.2.2 : Int) == 0)) && ((x14.1 : Int) == 2)) && ((x14.2.1 : Int) == 3)) && ((x14.2.2 : Int) == 0)) && ((x15.1 : Int) == 3))) rfl (by rw [h42]; simp only [Bool.false_and]) ?_
 exact az [0,8]
 refine qa (os := _) rfl ?_
 refine au [1] ?_
 refine qi 3 ((((((((x34 && ((x9.2.2 : Int) == 0)) && ((x13.1 : Int) == 9)) && ((x13.2.1 : Int) == 5)) && ((x13.2.2 : Int) == 0)) && ((x14.1 : Int) == 2)) && ((x14.2.1 : Int) == 3)) && ((x14.2.2 : Int) == 0)) && ((x15.1 : Int) == 3)) [(15, .int .i64 x15.2.2), (17, .int .i64 x16.2.2), (111, .bool (((((((((x34 && ((x9.2.2 : Int) == 0)) && ((x13.1 : Int) == 9)) && ((x13.2.1 : Int) == 5)) && ((x13.2.2 : Int) == 0)) && ((x14.1 : Int) == 2)) && ((x14.2.1 : Int) == 3)) && ((x14.2.2 : Int) == 0)) && ((x15.1 : Int) == 3)) && ((x15.2.1 : Int) == 3)))] (fun h43 => ?_) (fun h43 => ?_) ?_
 refine qa (os := _) rfl (qg (k := 108) rfl h43 ?_)
 refine au [1,19,14] ?_
 refine qb (d := 111) (v := .bool (((((((((x34 && ((x9.2.2 : Int) == 0)) && ((x13.1 : Int) == 9)) && ((x13.2.1 : Int) == 5)) && ((x13.2.2 : Int) == 0)) && ((x14.1 : Int) == 2)) && ((x14.2.1 : Int) == 3)) && ((x14.2.2 : Int) == 0)) && ((x15.1 : Int) == 3)) && ((x15.2.1 : Int) == 3))) rfl (by rw [h43]; simp only [Bool.true_and]) ?_
 exact az [0,8]
 refine qa (os := _) rfl (qf (k := 108) rfl h43 ?_)
 refine au [6,6,15] ?_
 refine qb (d := 111) (v := .bool (((((((((x34 && ((x9.2.2 : Int) == 0)) && ((x13.1 : Int) == 9)) && ((x13.2.1 : Int) == 5)) && ((x13.2.2 : Int) == 0)) && ((x14.1 : Int) == 2)) && ((x14.2.1 : Int) == 3)) && ((x14.2.2 : Int) == 0)) && ((x15.1 : Int) == 3)) && ((x15.2.1 : Int) == 3))) rfl (by rw [h43]; simp only [Bool.false_and]) ?_
 exact az [0,8]
 refine qa (os := _) rfl ?_
 refine au [1] ?_
 refine qi 3 (((((((((x34 && ((x9.2.2 : Int) == 0)) && ((x13.1 : Int) == 9)) && ((x13.2.1 : Int) == 5)) && ((x13.2.2 : Int) == 0)) && ((x14.1 : Int) == 2)) && ((x14.2.1 : Int) == 3)) && ((x14.2.2 : Int) == 0)) && ((x15.1 : Int) == 3)) && ((x15.2.1 : Int) == 3)) [(17, .int .i64 x16.2.2), (115, .bool ((((((((((x34 && ((x9.2.2 : Int) == 0)) && ((x13.1 : Int) == 9)) && ((x13.2.1 : Int) == 5)) && ((x13.2.2 : Int) == 0)) && ((x14.1 : Int) == 2)) && ((x14.2.1 : Int) == 3)) && ((x14.2.2 : Int) == 0)) && ((x15.1 : Int) == 3)) && ((x15.2.1 : Int) == 3)) && ((x15.2.2 : Int) == 0)))] (fun h44 => ?_) (fun h44 => ?_) ?_
 refine qa (os := _) rfl (qg (k := 112) rfl h44 ?_)
 refine au [1,19,14] ?_
 refine qb (d := 115) (v := .bool ((((((((((x34 && ((x9.2.2 : Int) == 0)) && ((x13.1 : Int) == 9)) && ((x13.2.1 : Int) == 5)) && ((x13.2.2 : Int) == 0)) && ((x14.1 : Int) == 2)) && ((x14.2.1 : Int) == 3)) && ((x14.2.2 : Int) == 0)) && ((x15.1 : Int) == 3)) && ((x15.2.1 : Int) == 3)) && ((x15.2.2 : Int) == 0))) rfl (by rw [h44]; simp only [Bool.true_and]) ?_
 exact az [0,8]
 refine qa (os := _) rfl (qf (k := 112) rfl h44 ?_)
 refine au [6,6,15] ?_
 refine qb (d := 115) (v := .bool ((((((((((x34 && ((x9.2.2 : Int) == 0)) && ((x13.1 : Int) == 9)) && ((x13.2.1 : Int) == 5)) && ((x13.2.2 : Int) == 0)) && ((x14.1 : Int) == 2)) && ((x14.2.1 : Int) == 3)) && ((x14.2.2 : Int) == 0)) && ((x15.1 : Int) == 3)) && ((x15.2.1 : Int) == 3)) && ((x15.2.2 : Int) == 0))) rfl (by rw [h44]; simp only [Bool.false_and]) ?_
 exact az [0,8]
 refine qa (os := _) rfl ?_
 refine au [1] ?_
 refine qi 3 ((((((((((x34 && ((x9.2.2 : Int) == 0)) && ((x13.1 : Int) == 9)) && ((x13.2.1 : Int) == 5)) && ((x13.2.2 : Int) == 0)) && ((x14.1 : Int) == 2)) && ((x14.2.1 : Int) == 3)) && ((x14.2.2 : Int) == 0)) && ((x15.1 : Int) == 3)) && ((x15.2.1 : Int) == 3)) && ((x15.2.2 : Int) == 0)) [(119, .bool (((((((((((x34 && ((x9.2.2 : Int) == 0)) && ((x13.1 : Int) == 9)) && ((x13.2.1 : Int) == 5)) && ((x13.2.2 : Int) == 0)) && ((x14.1 : Int) == 2)) && ((x14.2.1 : Int) == 3)) && ((x14.2.2 : Int) == 0)) && ((x15.1 : Int) == 3)) && ((x15.2.1 : Int) == 3)) && ((x15.2.2 : Int) == 0)) && ((x16.2.2 : Int) == 3)))] (fun h45 => ?_) (fun h45 => ?_) ?_
 refine qa (os := _) rfl (qg (k := 116) rfl h45 ?_)
 refine au [1,19,14] ?_
 refine qb (d := 119) (v := .bool (((((((((((x34 && ((x9.2.2 : Int) == 0)) && ((x13.1 : Int) == 9)) && ((x13.2.1 : Int) == 5)) && ((x13.2.2 : Int) == 0)) && ((x14.1 : Int) == 2)) && ((x14.2.1 : Int) == 3)) && ((x14.2.2 : Int) == 0)) && ((x15.1 : Int) == 3)) && ((x15.2.1 : Int) == 3)) && ((x15.2.2 : Int) == 0)) && ((x16.2.2 : Int) == 3))) rfl (by rw [h45]; simp only [Bool.true_and]) ?_
 exact az [0,8]
 refine qa (os := _) rfl (qf (k := 116) rfl h45 ?_)
 refine au [6,6,15] ?_
 refine qb (d := 119) (v := .bool (((((((((((x34 && ((x9.2.2 : Int) == 0)) && ((x13.1 : Int) == 9)) && ((x13.2.1 : Int) == 5)) && ((x13.2.2 : Int) == 0)) && ((x14.1 : Int) == 2)) && ((x14.2.1 : Int) == 3)) && ((x14.2.2 : Int) == 0)) && ((x15.1 : Int) == 3)) && ((x15.2.1 : Int) == 3)) && ((x15.2.2 : Int) == 0)) && ((x16.2.2 : Int) == 3))) rfl (by rw [h45]; simp only [Bool.false_and]) ?_
 exact az [0,8]
 refine qa (os := _) rfl ?_
 exact az [4,0,2,9,16]
theorem qiw {F : Nat} {x1 : Int} {r : (Int × Int)} (hm : qfg F x1 = some r) :
    Pure Tryz.prog 149 [.int .i64 x1] [] Unit (fun _ => .tuple #[.int .u64 r.1, .int .i64 r.2]) (fun _ => []) (fun _ => []) := by
 refine qk Tryz.func149 rfl Tryz.ntmps149 rfl hm (fun w => ?_)
 refine au [24,14,3,5,4,4,0,2,3,3,5,1,24,3,1] ?_
 refine qi 3 (decide (x1 < 0)) [(0, .int .i64 x1), (9, .bool ((decide (x1 < 0)) || (decide (64 ≤ x1))))] (fun h4 => ?_) (fun h4 => ?_) ?_
 refine qa (os := _) rfl (qg (k := 6) rfl h4 ?_)
 refine au [6,6,14] ?_
 refine qb (d := 9) (v := .bool ((decide (x1 < 0)) || (decide (64 ≤ x1)))) rfl (by rw [h4]; simp only [Bool.true_or]) ?_
 exact az [0,8]
 refine qa (os := _) rfl (qf (k := 6) rfl h4 ?_)
 refine au [1,25,5,15] ?_
 refine qb (d := 9) (v := .bool ((decide (x1 < 0)) || (decide (64 ≤ x1)))) rfl (by rw [h4]; simp only [Bool.false_or]) ?_
 exact az [0,8]
 refine qa (os := _) rfl ?_
 refine av [0,2,10] ?_ ?_
 intro _
 exact az [3,5,4,4,0,2,9,12,16]
 intro _
 refine au [13,2,3,5,28,5] ?_
 intro x5 e5 _
 refine au [1,25,4] ?_
 intro h6
 replace h6 := of_decide_eq_true h6
 refine qk7 rfl Tryz.underlying180 tf80 rfl rfl h6 rfl (fun x7 e7 => ?_)
 exact az [4,4,0,2,9,16]
set_option maxHeartbeats 4000000 in
theorem qkx {F : Nat} {x1 : Int} {x2 : List Int} {a3 : Option Addr} {c4 : Nat} {x5 : Int} {r : (Int × Int × Int)} (hm : qgI F x1 x2 x5 = some r) :
    Pure Tryz.prog 216 [.agg #[.int .i64 x1, .slice a3 x2.length c4], .int .i64 x5] [Sl (eI .u8) 1 (.slice a3 x2.length c4) x2] Unit (fun _ => .tuple #[.int .u64 r.1, .int .i64 r.2.1, .int .i64 r.2.2]) (fun _ => []) (fun _ => []) := by
 refine qk Tryz.func216 rfl Tryz.ntmps216 rfl hm (fun w => ?_)
 refine au [24,10,3,5,24,6] ?_
 intro g6
 refine au [4,4,4,0,2,3,5,28,5] ?_
 intro x7 e7 _
 refine au [23] ?_
 intro g8
 refine vu (i := 0) (cs' := (List.replicate 64 (0 : Int)).flatMap (eI .u64)) rfl rfl (qcA (i := 0) (xs := (List.replicate 64 (0 : Int))) (k := 64) (qn .u64) rfl List.length_replicate rfl ?_)
 refine au [25,4] ?_
 intro h9
 replace h9 := of_decide_eq_true h9
 refine qfA (j := 0) rfl (List.length_replicate) (zw (i := 0) rfl rfl rfl tf180 rfl (qiK h9) (qiH (List.length_replicate) h9) qiI (qiJ (qaO (List.length_replicate)) h9) (qcA (i := 0) (xs := x7) (k := 64) (qn .u64) rfl h9 rfl ?_))
 refine au [0,2,3,5,4,4,0,2,3,5,4,0,2] ?_
 refine qm (fun ((_, _) : (Unit × Unit)) => ([], [], [], [], qeb F)) ?_ ?_
 refine au [3,5,1,4,0,2,18] ?_
 refine qx (fun (((x223, x224, x225, x226), _) : ((Int × Int × Bool × Int) × Unit)) => ([(1, .int .i64 x5), (2, .pointer (some ⟨g6, 0, none⟩)), (7, .pointer (some ⟨g8, 0, none⟩)), (8, .int .u64 x223), (9, .int .u64 x224), (10, .bool x225), (11, .int .i64 x226)], [⟨g6, 25, [.int .i64 x1, .slice a3 x2.length c4]⟩], [Ro (eI .u64) 180 1 (.slice (some ⟨g8, 0, none⟩) x7.length 64) x7], [Sl (eI .u8) 1 (.slice a3 x2.length c4) x2])) (fun k (s : ((Int × Int × Bool × Int) × Unit)) => yS F x1 x2 x5 x7 k s.1) ((0, 0, false, x5), ()) F ?_
 intro k287
 rintro ⟨⟨x223, x224, x225, x226⟩, _⟩
 try dsimp only
 refine qN (m' := qea F x1 x2 x5 x7 (yS F x1 x2 x5 x7 k287) x223 x224 x225 x226) rfl ?_
 refine av [3,3,5,1,24,11,25,2,24,3,0,2,10] ?_ ?_
 intro _
 refine au [13,2,3,18,3,5,24,5,1,27,5] ?_
 intro x318 e318 _
 refine au [4,0,2] ?_
 refine qm (fun (((x332, x333), _) : ((Int × Bool) × Unit)) => ([(1, .int .i64 x5), (2, .pointer (some ⟨g6, 0, none⟩)), (7, .pointer (some ⟨g8, 0, none⟩)), (8, .int .u64 x332), (10, .bool x333), (11, .int .i64 x226), (12, .int .u64 x318)], [⟨g6, 25, [.int .i64 x1, .slice a3 x2.length c4]⟩], [Ro (eI .u64) 180 1 (.slice (some ⟨g8, 0, none⟩) x7.length 64) x7], [Sl (eI .u8) 1 (.slice a3 x2.length c4) x2], qbf F (yS F x1 x2 x5 x7 k287) x226 x318 x332 x333)) ?_ ?_
 refine au [18,3,5,1,19,1] ?_
 refine qi 3 ((x318 : Int) == 1) [(1, .int .i64 x5), (2, .pointer (some ⟨g6, 0, none⟩)), (7, .pointer (some ⟨g8, 0, none⟩)), (8, .int .u64 x223), (9, .int .u64 x224), (10, .bool x225), (11, .int .i64 x226), (12, .int .u64 x318), (30, .bool (((x318 : Int) == 1) && ((x224 : Int) == 1)))] (fun h334 => ?_) (fun h334 => ?_) ?_
 refine qa (os := _) rfl (qg (k := 27) rfl h334 ?_)
 refine au [1,19,14] ?_
 refine qb (d := 30) (v := .bool (((x318 : Int) == 1) && ((x224 : Int) == 1))) rfl (by rw [h334]; simp only [Bool.true_and]) ?_
 exact az [0,8]
 refine qa (os := _) rfl (qf (k := 27) rfl h334 ?_)
 refine au [6,6,15] ?_
 refine qb (d := 30) (v := .bool (((x318 : Int) == 1) && ((x224 : Int) == 1))) rfl (by rw [h334]; simp only [Bool.false_and]) ?_
 exact az [0,8]
 refine qa (os := _) rfl ?_
 refine au [1] ?_
 refine qy 7 (fun ((x337, _) : (Bool × Unit)) => ([(1, .int .i64 x5), (2, .pointer (some ⟨g6, 0, none⟩)), (7, .pointer (some ⟨g8, 0, none⟩)), (8, .int .u64 x223), (9, .int .u64 x224), (10, .bool x225), (11, .int .i64 x226), (12, .int .u64 x318), (38, .bool x337)], [⟨g6, 25, [.int .i64 x1, .slice a3 x2.length c4]⟩], [Ro (eI .u64) 180 1 (.slice (some ⟨g8, 0, none⟩) x7.length 64) x7], [Sl (eI .u8) 1 (.slice a3 x2.length c4) x2], qcM F (yS F x1 x2 x5 x7 k287) x5 x7 x223 x224 x225 x226 x318 x337)) ?_ ?_
 refine qa (os := _) rfl ?_
 refine av [24,12] ?_ ?_
 intro h335
 refine qg (k := 31) rfl h335 ?_
 refine au [1,1] ?_
 refine qi 4 x225 [(1, .int .i64 x5), (2, .pointer (some ⟨g6, 0, none⟩)), (7, .pointer (some ⟨g8, 0, none⟩)), (8, .int .u64 x223), (9, .int .u64 x224), (10, .bool x225), (11, .int .i64 x226), (12, .int .u64 x318), (31, .bool true), (32, .bool x225), (33, .bool x225), (37, .bool (x225 || (decide (1099511627776 < (isub .u64 x223 1)))))] (fun h346 => ?_) (fun h346 => ?_) ?_
 refine qa (os := _) rfl (qg (k := 33) rfl h346 ?_)
 refine au [6,6,6,14] ?_
 refine qb (d := 37) (v := .bool (x225 || (decide (1099511627776 < (isub .u64 x223 1))))) rfl (by rw [h346]; simp only [Bool.true_or]) (qb (d := 33) (v := .bool x225) rfl (by rw [h346] <;> rfl) ?_)
 exact az [0,8]
 refine qa (os := _) rfl (qf (k := 33) rfl h346 ?_)
 refine au [1,25,0,24,13,15] ?_
 refine qb (d := 37) (v := .bool (x225 || (decide (1099511627776 < (isub .u64 x223 1))))) rfl (by rw [h346]; simp only [Bool.false_or]) (qb (d := 33) (v := .bool x225) rfl (by rw [h346] <;> rfl) ?_)
 exact az [0,8]
 refine qa (os := _) rfl ?_
 refine au [14,0] ?_
 exact qc ((x225 || (decide (1099511627776 < (isub .u64 x223 1)))), ())
 intro h335
 refine qf (k := 31) rfl h335 ?_
 refine au [6,6,6,6,6,6,15,0] ?_
 exact qc (false, ())
 rintro ⟨x337, _⟩
 try dsimp only
 refine qa (os := _) rfl ?_
 refine av [4,0,2,10] ?_ ?_
 intro _
 exact az [3,5,4,4,4,0,2,9,24,0,12,24,0,12,12,24,0,12,16]
 intro _
 refine au [3,5,1,19,1] ?_
 refine qi 3 ((x318 : Int) == 1) [(1, .int .i64 x5), (2, .pointer (some ⟨g6, 0, none⟩)), (7, .pointer (some ⟨g8, 0, none⟩)), (8, .int .u64 x223), (10, .bool x225), (11, .int .i64 x226), (12, .int .u64 x318), (45, .bool (((x318 : Int) == 1) && ((x224 : Int) == 1)))] (fun h338 => ?_) (fun h338 => ?_) ?_
 refine qa (os := _) rfl (qg (k := 42) rfl h338 ?_)
 refine au [1,19,14] ?_
 refine qb (d := 45) (v := .bool (((x318 : Int) == 1) && ((x224 : Int) == 1))) rfl (by rw [h338]; simp only [Bool.true_and]) ?_
 exact az [0,8]
 refine qa (os := _) rfl (qf (k := 42) rfl h338 ?_)
 refine au [6,6,15] ?_
 refine qb (d := 45) (v := .bool (((x318 : Int) == 1) && ((x224 : Int) == 1))) rfl (by rw [h338]; simp only [Bool.false_and]) ?_
 exact az [0,8]
 refine qa (os := _) rfl ?_
 refine av [4,0,2,10] ?_ ?_
 intro _
 exact az [3,5,1,25,0,1,21,4,4,4,0,2,9,24,0,12,24,0,12,12,24,0,12,16]
 intro _
 refine au [3,5,1,19,1] ?_
 refine qi 5 ((x318 : Int) == 1) [(1, .int .i64 x5), (2, .pointer (some ⟨g6, 0, none⟩)), (7, .pointer (some ⟨g8, 0, none⟩)), (8, .int .u64 x223), (10, .bool x225), (11, .int .i64 x226), (12, .int .u64 x318), (58, .bool (((x318 : Int) == 1) && (decide (64 ≤ (isub .i64 x226 x5)))))] (fun h339 => ?_) (fun h339 => ?_) ?_
 refine qa (os := _) rfl (qg (k := 53) rfl h339 ?_)
 refine au [1,1,25,0,25,5,14] ?_
 refine qb (d := 58) (v := .bool (((x318 : Int) == 1) && (decide (64 ≤ (isub .i64 x226 x5))))) rfl (by rw [h339]; simp only [Bool.true_and]) ?_
 exact az [0,8]
 refine qa (os := _) rfl (qf (k := 53) rfl h339 ?_)
 refine au [6,6,6,6,15] ?_
 refine qb (d := 58) (v := .bool (((x318 : Int) == 1) && (decide (64 ≤ (isub .i64 x226 x5))))) rfl (by rw [h339]; simp only [Bool.false_and]) ?_
 exact az [0,8]
 refine qa (os := _) rfl ?_
 refine av [4,0,2,10] ?_ ?_
 intro _
 refine au [5,4,0,24,2] ?_
 exact qc ((x223, true), ())
 intro _
 refine av [3,5,1,19,4,0,2,10] ?_ ?_
 intro _
 refine au [3,5,1,1,1,25,0] ?_
 refine qa1 (j := 0) rfl Tryz.underlying180 tf80 rfl rfl rfl rfl (fun x340 e340 => y8 (j := 0) (y := x340) (qn .u64) rfl rfl tf80 rfl rfl (qt e340).2.2 (fun _ => rfl) rfl rfl ?_)
 refine au [21,4,0,2,5,1,1] ?_
 refine qi 3 x225 [(1, .int .i64 x5), (2, .pointer (some ⟨g6, 0, none⟩)), (7, .pointer (some ⟨g8, 0, none⟩)), (8, .int .u64 (iadd .u64 x223 x340)), (11, .int .i64 x226), (12, .int .u64 x318), (73, .bool (x225 || (decide (2199023255552 < (iadd .u64 x223 x340)))))] (fun h341 => ?_) (fun h341 => ?_) ?_
 refine qa (os := _) rfl (qg (k := 70) rfl h341 ?_)
 refine au [6,6,14] ?_
 refine qb (d := 73) (v := .bool (x225 || (decide (2199023255552 < (iadd .u64 x223 x340))))) rfl (by rw [h341]; simp only [Bool.true_or]) ?_
 exact az [0,8]
 refine qa (os := _) rfl (qf (k := 70) rfl h341 ?_)
 refine au [1,24,13,15] ?_
 refine qb (d := 73) (v := .bool (x225 || (decide (2199023255552 < (iadd .u64 x223 x340))))) rfl (by rw [h341]; simp only [Bool.false_or]) ?_
 exact az [0,8]
 refine qa (os := _) rfl ?_
 refine au [4,0,24,2] ?_
 exact qc ((iadd .u64 x223 x340, (x225 || (decide (2199023255552 < (iadd .u64 x223 x340))))), ())
 intro _
 refine au [13,24,2] ?_
 exact qc ((x223, x225), ())
 rintro ⟨⟨x332, x333⟩, _⟩
 try dsimp only
 refine au [5,1,4,0,24,2,2,5,1,21,4,0] ?_
 exact qs ((x332, x318, x333, iadd .i64 x226 1), ())
 intro _
 exact az [24,8,20,20,24,9,25,13]
 rintro ⟨_, _⟩
 try dsimp only
 exact az [3,5,4,4,4,0,2,9,16]
theorem qky {F : Nat} {x1 : Int} {x2 : List Int} {a3 : Option Addr} {c4 : Nat} {x5 : Int} {r : (Int × Int × Int)} (hm : qeP F x1 x2 x5 = some r) :
    Pure Tryz.prog 150 [.agg #[.int .i64 x1, .slice a3 x2.length c4], .int .i64 x5] [Sl (eI .u8) 1 (.slice a3 x2.length c4) x2] Unit (fun _ => .tuple #[.int .u64 r.1, .int .i64 r.2.1, .int .i64 r.2.2]) (fun _ => []) (fun _ => []) := by
 refine qk Tryz.func150 rfl Tryz.ntmps150 rfl hm (fun w => ?_)
 refine au [24,10,3,5,24,6] ?_
 intro g6
 refine au [4,4,4,0,2,3,3,5,24,5,1,28,0] ?_
 intro x9 e9 _
 refine av [4,0,2,3,5,1,24,15,0,2,10] ?_ ?_
 intro _
 exact az [3,5,1,4,4,4,0,2,9,12,16]
 intro _
 refine au [13,2,3,5,24,5,1] ?_
 refine qh qkx ?_
 intro x10 e10 _
 exact az [7,7,7,4,4,4,0,2,9,16]
end Go.Proofs.YtmoikolponkmpaaGreat
