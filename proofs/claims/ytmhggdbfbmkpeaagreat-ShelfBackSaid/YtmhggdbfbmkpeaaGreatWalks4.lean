/- Each Go function of this seat computes what its model says, part 4. -/
import Derived.Test.YtmhggdbfbmkpeaaGreatWalks3
namespace Go.Proofs.YtmhggdbfbmkpeaaGreat
open Go SX
theorem qlq {F : Nat} {x1 : Int} {x2 : Int} {x3 : Int} {x4 : Int} {x5 : List Int} {a6 : Option Addr} {c7 : Nat} {x8 : Int} {x9 : List Int} {a10 : Option Addr} {c11 : Nat} {x12 : Int} {r : Int} (hm : jL F x1 x2 x3 x4 x5 x8 x9 x12 = some r) :
    Pure Tryz.prog 83 [.agg #[.int .i64 x1, .int .i64 x2, .int .i64 x3, .int .i64 x4, .slice a6 x5.length c7, .int .i64 x8, .slice a10 x9.length c11], .int .i64 x12] [Sl (eI .u8) 1 (.slice a6 x5.length c7) x5, Sl (eI .u8) 1 (.slice a10 x9.length c11) x9] Unit (fun _ => .int .i64 r) (fun _ => []) (fun _ => []) := by
 refine qh Tryz.func83 rfl Tryz.ntmps83 rfl hm (fun w => ?_)
 refine au [24,10,2,4,20] ?_
 intro g13
 refine au [5,0,1,2,4,9,24,5,3,34,0] ?_
 intro x14 e14 _
 refine au [3,25,1,5,0,1,2,4,9,24,5,3,9,16,28,8,9,16,28,9] ?_
 intro x15 e15 _
 refine au [3,14,14,5,5,0,1,2,4,3,9,16,26,3] ?_
 intro h16
 refine qdf rfl rfl rfl rfl h16 ?_
 refine au [3,25,11,32,12,5,26,7] ?_
 intro x17 e17
 refine qc (d := 4) (v := .int .i64 x17) rfl (by rw [e17] <;> rfl) ?_
 exact az [0,1,10,15]
theorem qh5 {F : Nat} {x1 : Int} {x2 : List Int} {a3 : Option Addr} {c4 : Nat} {x5 : Int} {x6 : List Int} {a7 : Option Addr} {c8 : Nat} {r : Bool} (hm : qbd F x1 x2 x5 x6 = some r) :
    Pure Tryz.prog 144 [.agg #[.int .i64 x1, .slice a3 x2.length c4], .agg #[.int .i64 x5, .slice a7 x6.length c8]] [Sl (eI .u8) 1 (.slice a3 x2.length c4) x2, Sl (eI .u8) 1 (.slice a7 x6.length c8) x6] Unit (fun _ => .bool r) (fun _ => []) (fun _ => []) := by
 refine qh Tryz.func144 rfl Tryz.ntmps144 rfl hm (fun w => ?_)
 refine au [24,10,2,4,20] ?_
 intro g9
 refine au [20] ?_
 intro g10
 refine au [5,0,1,2,4,9,25,0,9,16,24,11,3] ?_
 refine qK 6 (fun ((x13, _) : (Bool × Unit)) => ([(16, .bool x13)], [], [], [], jA F x13)) ?_ ?_
 refine qb (os := _) rfl ?_
 refine av [25,8] ?_ ?_
 intro h11
 refine qj (k := 10) rfl h11 ?_
 refine au [9,25,0,9,16,28,10] ?_
 intro x14 e14 _
 refine au [23,0] ?_
 exact qa (x14, ())
 intro h11
 refine qi (k := 10) rfl h11 ?_
 refine au [7,7,7,7,7,24,0,0] ?_
 exact qa (false, ())
 rintro ⟨x13, _⟩
 try dsimp only
 refine qb (os := _) rfl ?_
 exact az [5,0,1,10,15]
set_option maxHeartbeats 4000000 in
theorem qe7 {F : Nat} {x1 : Int} {x2 : Int} {x3 : Int} {x4 : Int} {x5 : List Int} {a6 : Option Addr} {c7 : Nat} {x8 : Int} {x9 : List Int} {a10 : Option Addr} {c11 : Nat} {r : (List Int × Int)} (hm : yZ F x1 x2 x3 x4 x5 x8 x9 = some r) :
    Pure Tryz.prog 107 [.agg #[.int .i64 x1, .int .i64 x2, .int .i64 x3, .int .i64 x4, .slice a6 x5.length c7, .int .i64 x8, .slice a10 x9.length c11]] [Sl (eI .u8) 1 (.slice a6 x5.length c7) x5, Sl (eI .u8) 1 (.slice a10 x9.length c11) x9] (Option Addr × Nat) (fun g => .tuple #[.slice g.1 r.1.length g.2, .int .i64 r.2]) (fun g => [Ro (eI .i64) 3 1 (.slice g.1 r.1.length g.2) r.1]) (fun _ => []) := by
 refine qh Tryz.func107 rfl Tryz.ntmps107 rfl hm (fun w => ?_)
 refine au [25,9,2,4,20] ?_
 intro g12
 refine au [5,5,0,1,2,2,4,9,16,24,4,3] ?_
 refine qo 4 (decide (x1 < 0)) [(1, .pointer (some ⟨g12, 0, none⟩)), (15, .bool ((decide (x1 < 0)) || (decide (300 < x1))))] (fun h17 => ?_) (fun h17 => ?_) ?_
 refine qb (os := _) rfl (qj (k := 11) rfl h17 ?_)
 refine au [7,7,7,23] ?_
 refine qc (d := 15) (v := .bool ((decide (x1 < 0)) || (decide (300 < x1)))) rfl (by rw [h17]; simp only [Bool.true_or]) ?_
 exact az [0,18]
 refine qb (os := _) rfl (qi (k := 11) rfl h17 ?_)
 refine au [9,16,24,12,24,0] ?_
 refine qc (d := 15) (v := .bool ((decide (x1 < 0)) || (decide (300 < x1)))) rfl (by rw [h17]; simp only [Bool.false_or]) ?_
 exact az [0,18]
 refine qb (os := _) rfl ?_
 refine au [3] ?_
 refine qo 4 ((decide (x1 < 0)) || (decide (300 < x1))) [(1, .pointer (some ⟨g12, 0, none⟩)), (20, .bool (((decide (x1 < 0)) || (decide (300 < x1))) || (decide (x2 < 0))))] (fun h18 => ?_) (fun h18 => ?_) ?_
 refine qb (os := _) rfl (qj (k := 16) rfl h18 ?_)
 refine au [7,7,7,23] ?_
 refine qc (d := 20) (v := .bool (((decide (x1 < 0)) || (decide (300 < x1))) || (decide (x2 < 0)))) rfl (by rw [h18]; simp only [Bool.true_or]) ?_
 exact az [0,18]
 refine qb (os := _) rfl (qi (k := 16) rfl h18 ?_)
 refine au [9,16,24,4,24,0] ?_
 refine qc (d := 20) (v := .bool (((decide (x1 < 0)) || (decide (300 < x1))) || (decide (x2 < 0)))) rfl (by rw [h18]; simp only [Bool.false_or]) ?_
 exact az [0,18]
 refine qb (os := _) rfl ?_
 refine au [3] ?_
 refine qo 4 (((decide (x1 < 0)) || (decide (300 < x1))) || (decide (x2 < 0))) [(1, .pointer (some ⟨g12, 0, none⟩)), (25, .bool ((((decide (x1 < 0)) || (decide (300 < x1))) || (decide (x2 < 0))) || (decide (1048576 < x2))))] (fun h19 => ?_) (fun h19 => ?_) ?_
 refine qb (os := _) rfl (qj (k := 21) rfl h19 ?_)
 refine au [7,7,7,23] ?_
 refine qc (d := 25) (v := .bool ((((decide (x1 < 0)) || (decide (300 < x1))) || (decide (x2 < 0))) || (decide (1048576 < x2)))) rfl (by rw [h19]; simp only [Bool.true_or]) ?_
 exact az [0,18]
 refine qb (os := _) rfl (qi (k := 21) rfl h19 ?_)
 refine au [9,16,24,12,24,0] ?_
 refine qc (d := 25) (v := .bool ((((decide (x1 < 0)) || (decide (300 < x1))) || (decide (x2 < 0))) || (decide (1048576 < x2)))) rfl (by rw [h19]; simp only [Bool.false_or]) ?_
 exact az [0,18]
 refine qb (os := _) rfl ?_
 refine av [0,1,11] ?_ ?_
 intro _
 refine au [2,4,5,5,0,1,10,12,25,12] ?_
 exact qt (none, 0)
 intro _
 refine au [13,1,2] ?_
 refine qf (fun ((x49, _) : (Bool × Unit)) => ([(1, .pointer (some ⟨g12, 0, none⟩)), (70, .bool x49)], [⟨g12, 33, [.int .i64 x1, .int .i64 x2, .int .i64 x3, .int .i64 x4, .slice a6 x5.length c7, .int .i64 x8, .slice a10 x9.length c11]⟩], [], [Sl (eI .u8) 1 (.slice a6 x5.length c7) x5, Sl (eI .u8) 1 (.slice a10 x9.length c11) x9], zi F x1 x2 x3 x4 x5 x8 x9 x49)) ?_ ?_
 refine qA mixed [] [⟨g12, 33, [.int .i64 x1, .int .i64 x2, .int .i64 x3, .int .i64 x4, .slice a6 x5.length c7, .int .i64 x8, .slice a10 x9.length c11]⟩] [Sl (eI .u8) 1 (.slice a6 x5.length c7) x5, Sl (eI .u8) 1 (.slice a10 x9.length c11) x9] (.cons 0 rfl .nil) (qR 0 rfl (qR 1 rfl qw)) 45 rfl ?_
 refine au [21,0,25,6,1,21,2,25,6,3,21,4,25,6,5,24,1,6,32,6] ?_
 intro x182 e182 _
 refine av [0,28,12,6,7,6,8,26,1] ?_ ?_
 intro h183
 refine qg (d := 34) (v := .bool true) rfl (by rw [h183] <;> rfl) ?_
 refine au [8,9,8,10,8,11,8,12,6,13,6,14,8,15,8,16,8,17,8,18,6,19,6,20,8,21,8,22,8,23,8,24,8,25,8,26,8,27,8,28,8,29,6,30,6,31,8,32,8,33,8,34,8,35,8,36,8,37,8,38,8,39,8,40,8,41,8,42,8,43,6,44,24,6] ?_
 exact qz (qa (true, ())) (by intro c h; cases h)
 intro h183
 refine qg (d := 34) (v := .bool false) rfl (by rw [h183] <;> rfl) ?_
 refine au [21,9] ?_
 refine zy 10 (.agg #[.int .i64 x4, .slice a6 x5.length c7]) rfl rfl rfl (qW (i := 0) rfl tf29 rfl rfl (by simp) rfl) ?_
 refine au [24,1,11,29,14] ?_
 intro x184 e184 _
 refine av [0,28,12,6,12,6,13,6,14,26,1] ?_ ?_
 intro h185
 refine qg (d := 40) (v := .bool true) rfl (by rw [h185] <;> rfl) ?_
 refine au [8,15,8,16,8,17,8,18,6,19,6,20,8,21,8,22,8,23,8,24,8,25,8,26,8,27,8,28,8,29,6,30,6,31,8,32,8,33,8,34,8,35,8,36,8,37,8,38,8,39,8,40,8,41,8,42,8,43,6,44,24,6] ?_
 exact qz (qa (true, ())) (by intro c h; cases h)
 intro h185
 refine qg (d := 40) (v := .bool false) rfl (by rw [h185] <;> rfl) ?_
 refine au [21,15] ?_
 refine zy 16 (.agg #[.int .i64 x8, .slice a10 x9.length c11]) rfl rfl rfl (qW (i := 0) rfl tf29 rfl rfl (by simp) rfl) ?_
 refine au [24,1,17,29,14] ?_
 intro x186 e186 _
 refine av [0,28,12,6,18,6,19,6,20,26,1] ?_ ?_
 intro h187
 refine qg (d := 46) (v := .bool true) rfl (by rw [h187] <;> rfl) ?_
 refine au [8,21,8,22,8,23,8,24,8,25,8,26,8,27,8,28,8,29,6,30,6,31,8,32,8,33,8,34,8,35,8,36,8,37,8,38,8,39,8,40,8,41,8,42,8,43,6,44,24,6] ?_
 exact qz (qa (true, ())) (by intro c h; cases h)
 intro h187
 refine qg (d := 46) (v := .bool false) rfl (by rw [h187] <;> rfl) ?_
 refine av [21,21,21,22,25,6,23,21,24,25,6,25,21,26,25,6,27,6,28,6,29,6,30,6,31,26,1] ?_ ?_
 intro h188
 refine qg (d := 57) (v := .bool true) rfl (by rw [h188] <;> rfl) ?_
 refine au [8,32,8,33,8,34,8,35,8,36,8,37,8,38,8,39,8,40,8,41,8,42,8,43,6,44,24,6] ?_
 exact qz (qa (true, ())) (by intro c h; cases h)
 intro h188
 refine qg (d := 57) (v := .bool false) rfl (by rw [h188] <;> rfl) ?_
 refine au [21,32] ?_
 refine zy 33 (.agg #[.int .i64 x8, .slice a10 x9.length c11]) rfl rfl rfl (qW (i := 0) rfl tf29 rfl rfl (by simp) rfl) ?_
 refine au [21,34,25,6,35,6,36,24,1,37,34,0] ?_
 intro x189 e189 _
 refine av [0,28,12,6,38,6,39,26,1] ?_ ?_
 intro h190
 refine qg (d := 65) (v := .bool true) rfl (by rw [h190] <;> rfl) ?_
 refine au [21,40,25,6,41,6,42,6,43,6,44,24,6] ?_
 exact qz (qa ((decide (0 < x1)), ())) (by intro c h; cases h)
 intro h190
 refine qg (d := 65) (v := .bool false) rfl (by rw [h190] <;> rfl) ?_
 refine au [8,40,8,41,8,42,6,43,6,44,24,6] ?_
 exact qz (qa (false, ())) (by intro c h; cases h)
 rintro ⟨x49, _⟩
 try dsimp only
 refine av [11] ?_ ?_
 intro _
 refine au [2,4,5,5,0,1,10,12,25,12] ?_
 exact qt (none, 0)
 intro _
 refine au [13,1,2,4,5,0,1] ?_
 refine qf (fun ((x99, (a97, c98)) : (List Int × (Option Addr × Nat))) => ([(1, .pointer (some ⟨g12, 0, none⟩)), (4, .slice a97 x99.length c98)], [⟨g12, 33, [.int .i64 x1, .int .i64 x2, .int .i64 x3, .int .i64 x4, .slice a6 x5.length c7, .int .i64 x8, .slice a10 x9.length c11]⟩], [Ro (eI .i64) 3 1 (.slice a97 x99.length c98) x99], [Sl (eI .u8) 1 (.slice a6 x5.length c7) x5, Sl (eI .u8) 1 (.slice a10 x9.length c11) x9], kG F x2 x4 x5 x8 x9 x99)) ?_ ?_
 refine au [2,4,9,16,3,0,1,17,27,3] ?_
 refine qy (fun (((x150, x151), (a148, c149)) : ((List Int × Int) × (Option Addr × Nat))) => ([(1, .pointer (some ⟨g12, 0, none⟩)), (4, .slice a148 x150.length c149), (72, .int .i64 x1), (73, .int .i64 x151)], [⟨g12, 33, [.int .i64 x1, .int .i64 x2, .int .i64 x3, .int .i64 x4, .slice a6 x5.length c7, .int .i64 x8, .slice a10 x9.length c11]⟩], [Ro (eI .i64) 3 1 (.slice a148 x150.length c149) x150], [Sl (eI .u8) 1 (.slice a6 x5.length c7) x5, Sl (eI .u8) 1 (.slice a10 x9.length c11) x9])) (fun k (s : ((List Int × Int) × (Option Addr × Nat))) => kH F x1 x2 x3 x4 x5 x8 x9 k s.1) ((([] : List Int), 0), (none, 0)) F ?_
 intro k166
 rintro ⟨⟨x150, x151⟩, ⟨a148, c149⟩⟩
 try dsimp only
 refine qI (m' := ja F x1 x2 x3 x4 x5 x8 x9 (kH F x1 x2 x3 x4 x5 x8 x9 k166) x150 x151) rfl ?_
 refine av [2,4,24,4,0,1,2,11] ?_ ?_
 intro _
 refine au [13,1,2,17,2,4,3,5,0,1,4,3,24,5,3,34,1] ?_
 intro x174 e174 _
 refine zg (vs := [.int .i64 x174]) (ys := ([x174] : List Int)) (qV .i64) (by decide) rfl Tryz.underlying39 tf3 rfl rfl rfl rfl rfl (by decide) (fun a175 c176 => kX 1 (qV .i64) rfl Tryz.underlying39 tf3 rfl rfl rfl rfl rfl (.inl ⟨0, _, rfl⟩) rfl rfl (fun x177 e177 a178 c179 => ?_))
 refine au [5,0,24,8,1,4,19,3,0] ?_
 exact ql ((x177, iadd .i64 x151 1), (a178, c179))
 intro _
 refine au [24,13,22,22,24,14] ?_
 exact qa (x150, (a148, c149))
 rintro ⟨x99, ⟨a97, c98⟩⟩
 try dsimp only
 refine au [2,2,4,3,9,16,32,8] ?_
 intro x102 e102 _
 refine av [25,3,0,1,11] ?_ ?_
 intro _
 refine au [2,4,5,5,0,1,10,12,25,12] ?_
 exact qt (none, 0)
 intro _
 refine au [13,1,2,2,4,3,9,16,32,9] ?_
 rintro x118 e118 ⟨⟨a119, c120⟩, ⟨a121, c122⟩⟩
 refine au [3,14,14,24,9] ?_
 intro g123
 refine au [24,3,5,0,1,2,4,3,25,4,3] ?_
 refine qK 7 (fun ((x126, _) : (Bool × Unit)) => ([(1, .pointer (some ⟨g12, 0, none⟩)), (4, .slice a97 x99.length c98), (6, .pointer (some ⟨g123, 0, none⟩)), (104, .bool x126)], [⟨g123, 33, [.int .i64 x118.1, .int .i64 x118.2.1, .int .i64 x118.2.2.1, .int .i64 x118.2.2.2.1, .slice a119 x118.2.2.2.2.1.length c120, .int .i64 x118.2.2.2.2.2.1, .slice a121 x118.2.2.2.2.2.2.1.length c122]⟩, ⟨g12, 33, [.int .i64 x1, .int .i64 x2, .int .i64 x3, .int .i64 x4, .slice a6 x5.length c7, .int .i64 x8, .slice a10 x9.length c11]⟩], [Ro (eI .i64) 3 1 (.slice a97 x99.length c98) x99, Ro (eI .u8) 5 1 (.slice a119 x118.2.2.2.2.1.length c120) x118.2.2.2.2.1, Ro (eI .u8) 5 1 (.slice a121 x118.2.2.2.2.2.2.1.length c122) x118.2.2.2.2.2.2.1], [Sl (eI .u8) 1 (.slice a6 x5.length c7) x5, Sl (eI .u8) 1 (.slice a10 x9.length c11) x9], jb F x8 x9 x99 x118 x126)) ?_ ?_
 refine qb (os := _) rfl ?_
 refine av [25,8] ?_ ?_
 intro h124
 refine qj (k := 97) rfl h124 ?_
 refine au [7,7,7,7,7,7,23,0] ?_
 exact qa (true, ())
 intro h124
 refine qi (k := 97) rfl h124 ?_
 refine au [9,24,5,9,25,2,34,2] ?_
 intro x132 e132 _
 refine au [25,4,24,0,0] ?_
 exact qa ((!x132), ())
 rintro ⟨x126, _⟩
 try dsimp only
 refine qb (os := _) rfl ?_
 refine au [3] ?_
 refine qK 7 (fun ((x129, _) : (Bool × Unit)) => ([(4, .slice a97 x99.length c98), (112, .bool x129)], [], [Ro (eI .i64) 3 1 (.slice a97 x99.length c98) x99], [], qau F x99 x129)) ?_ ?_
 refine qb (os := _) rfl ?_
 refine av [25,8] ?_ ?_
 intro h127
 refine qj (k := 105) rfl h127 ?_
 refine au [7,7,7,7,7,7,23,0] ?_
 exact qa (true, ())
 intro h127
 refine qi (k := 105) rfl h127 ?_
 refine au [9,24,5,9,25,2,34,2] ?_
 intro x131 e131 _
 refine au [25,4,24,0,0] ?_
 exact qa ((!x131), ())
 rintro ⟨x129, _⟩
 try dsimp only
 refine qb (os := _) rfl ?_
 refine av [0,1,11] ?_ ?_
 intro _
 refine au [2,4,5,5,0,1,10,12,25,12] ?_
 exact qt (none, 0)
 intro _
 refine au [13,1,2,4,3,5,5,0,1,10] ?_
 exact qt (a97, c98)
theorem qg2 {F : Nat} {x1 : Int} {x2 : Int} {x3 : Int} {x4 : Int} {x5 : List Int} {a6 : Option Addr} {c7 : Nat} {x8 : Int} {x9 : List Int} {a10 : Option Addr} {c11 : Nat} {r : Int} (hm : qbq F x1 x2 x3 x4 x5 x8 x9 = some r) :
    Pure Tryz.prog 82 [.agg #[.int .i64 x1, .int .i64 x2, .int .i64 x3, .int .i64 x4, .slice a6 x5.length c7, .int .i64 x8, .slice a10 x9.length c11]] [Sl (eI .u8) 1 (.slice a6 x5.length c7) x5, Sl (eI .u8) 1 (.slice a10 x9.length c11) x9] Unit (fun _ => .int .i64 r) (fun _ => []) (fun _ => []) := by
 refine qh Tryz.func82 rfl Tryz.ntmps82 rfl hm (fun w => ?_)
 refine au [25,9,2,4,20] ?_
 intro g12
 refine au [5,0,1,2,4,24,5] ?_
 refine qe qe7 ?_
 rintro x13 e13 ⟨a14, c15⟩
 exact az [3,14,14,5,5,0,1,2,4,3,5,0,1,10,15]
set_option maxHeartbeats 4000000 in
theorem qjh {F : Nat} {x1 : Int} {x2 : Int} {x3 : Int} {x4 : Int} {x5 : List Int} {a6 : Option Addr} {c7 : Nat} {x8 : Int} {x9 : List Int} {a10 : Option Addr} {c11 : Nat} {x12 : Int} {r : (Int × Int)} (hm : qbF F x1 x2 x3 x4 x5 x8 x9 x12 = some r) :
    Pure Tryz.prog 54 [.agg #[.int .i64 x1, .int .i64 x2, .int .i64 x3, .int .i64 x4, .slice a6 x5.length c7, .int .i64 x8, .slice a10 x9.length c11], .int .i64 x12] [Sl (eI .u8) 1 (.slice a6 x5.length c7) x5, Sl (eI .u8) 1 (.slice a10 x9.length c11) x9] Unit (fun _ => .tuple #[.int .i64 r.1, .int .i64 r.2]) (fun _ => []) (fun _ => []) := by
 refine qh Tryz.func54 rfl Tryz.ntmps54 rfl hm (fun w => ?_)
 refine au [24,10,2,4,20] ?_
 intro g13
 refine au [5,5,0,1,2,4,24,5] ?_
 refine qe qg2 ?_
 intro x14 e14 _
 refine au [5,0,1] ?_
 refine qf (fun ((x20, _) : (Int × Unit)) => ([(1, .int .i64 x12), (2, .pointer (some ⟨g13, 0, none⟩)), (6, .int .i64 x20)], [⟨g13, 33, [.int .i64 x1, .int .i64 x2, .int .i64 x3, .int .i64 x4, .slice a6 x5.length c7, .int .i64 x8, .slice a10 x9.length c11]⟩], [], [Sl (eI .u8) 1 (.slice a6 x5.length c7) x5, Sl (eI .u8) 1 (.slice a10 x9.length c11) x9], qaY F x1 x2 x3 x4 x5 x8 x9 x12 x20)) ?_ ?_
 refine au [2,4,3,24,11,3] ?_
 refine qK 9 (fun ((x26, _) : (Bool × Unit)) => ([(1, .int .i64 x12), (2, .pointer (some ⟨g13, 0, none⟩)), (6, .int .i64 x14), (20, .bool x26)], [⟨g13, 33, [.int .i64 x1, .int .i64 x2, .int .i64 x3, .int .i64 x4, .slice a6 x5.length c7, .int .i64 x8, .slice a10 x9.length c11]⟩], [], [Sl (eI .u8) 1 (.slice a6 x5.length c7) x5, Sl (eI .u8) 1 (.slice a10 x9.length c11) x9], qaZ F x1 x2 x3 x4 x5 x8 x9 x12 x14 x26)) ?_ ?_
 refine qb (os := _) rfl ?_
 refine av [25,8] ?_ ?_
 intro h24
 refine qj (k := 11) rfl h24 ?_
 refine au [3,24,4,3] ?_
 refine qo 5 (decide (x12 < 0)) [(1, .int .i64 x12), (2, .pointer (some ⟨g13, 0, none⟩)), (6, .int .i64 x14), (11, .bool true), (19, .bool ((decide (x12 < 0)) || (decide (x1 ≤ x12))))] (fun h28 => ?_) (fun h28 => ?_) ?_
 refine qb (os := _) rfl (qj (k := 14) rfl h28 ?_)
 refine au [7,7,7,7,23] ?_
 refine qc (d := 19) (v := .bool ((decide (x12 < 0)) || (decide (x1 ≤ x12)))) rfl (by rw [h28]; simp only [Bool.true_or]) ?_
 exact az [0,18]
 refine qb (os := _) rfl (qi (k := 14) rfl h28 ?_)
 refine au [3,9,16,26,2,24,0] ?_
 refine qc (d := 19) (v := .bool ((decide (x12 < 0)) || (decide (x1 ≤ x12)))) rfl (by rw [h28]; simp only [Bool.false_or]) ?_
 exact az [0,18]
 refine qb (os := _) rfl ?_
 refine au [23,0] ?_
 exact qa (((decide (x12 < 0)) || (decide (x1 ≤ x12))), ())
 intro h24
 refine qi (k := 11) rfl h24 ?_
 refine au [7,7,7,7,7,7,7,7,24,0,0] ?_
 exact qa (false, ())
 rintro ⟨x26, _⟩
 try dsimp only
 refine qb (os := _) rfl ?_
 refine av [0,1,11] ?_ ?_
 intro _
 refine au [4,5,0] ?_
 exact qa ((3 : Int), ())
 intro _
 refine au [13] ?_
 exact qa (x14, ())
 rintro ⟨x20, _⟩
 try dsimp only
 refine av [2,2,4,3,25,3,0,1,11] ?_ ?_
 intro _
 exact az [2,4,3,5,5,0,1,10,12,15]
 intro _
 refine au [13,1,2,4,24,5,3,34,1] ?_
 intro x22 e22 _
 exact az [5,5,0,1,10,15]
theorem qdi : ∀ (F : Nat) (g1 : Nat) (x2 : Int) (x3 : Int) (x4 : Int) (x5 : Int) (x6 : Int) (x7 : List Int) (a8 : Option Addr) (c9 : Nat) (x10 : Int) (x11 : Int) (x12 : Int) (x13 : Int) (x14 : List Int) (a15 : Option Addr) (c16 : Nat) (x17 : Int) (x18 : List Int) (a19 : Option Addr) (c20 : Nat) (x21 : Int) (x22 : Int) (r : (List Int × Int × Int × Int × Int × Int × Int × Int × Int × Int × Int × Int)), ke F x2 x3 x4 x5 x6 x7 x10 x11 x12 x13 x14 x17 x18 x21 x22 = some r → PureM Tryz.prog 25 [.pointer (some ⟨g1, 0, none⟩), .int .i64 x22] [⟨g1, 64, [.int .i64 x2, .int .i64 x3, .int .i64 x4, .int .i64 x5, .int .i64 x6, .slice a8 x7.length c9, .int .i64 x10, .int .i64 x11, .int .i64 x12, .int .i64 x13, .slice a15 x14.length c16, .int .i64 x17, .slice a19 x18.length c20, .int .i64 x21]⟩] [] [Sl (eI .u8) 1 (.slice a8 x7.length c9) x7, Sl (eI .u8) 1 (.slice a15 x14.length c16) x14, Sl (eI .u8) 1 (.slice a19 x18.length c20) x18] (Option Addr × Nat) (fun g => .slice g.1 r.1.length g.2) (fun _ => [⟨g1, 64, [.int .i64 r.2.1, .int .i64 r.2.2.1, .int .i64 r.2.2.2.1, .int .i64 r.2.2.2.2.1, .int .i64 r.2.2.2.2.2.1, .slice a8 x7.length c9, .int .i64 r.2.2.2.2.2.2.1, .int .i64 r.2.2.2.2.2.2.2.1, .int .i64 r.2.2.2.2.2.2.2.2.1, .int .i64 r.2.2.2.2.2.2.2.2.2.1, .slice a15 x14.length c16, .int .i64 r.2.2.2.2.2.2.2.2.2.2.1, .slice a19 x18.length c20, .int .i64 r.2.2.2.2.2.2.2.2.2.2.2]⟩]) (fun g => [Ro (eI .i64) 3 1 (.slice g.1 r.1.length g.2) r.1]) := by
  intro F
  induction F with
  | zero => intro g1 x2 x3 x4 x5 x6 x7 a8 c9 x10 x11 x12 x13 x14 a15 c16 x17 x18 a19 c20 x21 x22 r hm; exact absurd hm (by simp [ke])
  | succ F ih =>
    intro g1 x2 x3 x4 x5 x6 x7 a8 c9 x10 x11 x12 x13 x14 a15 c16 x17 x18 a19 c20 x21 x22 r hm
    refine zp Tryz.func25 rfl Tryz.ntmps25 rfl hm (fun w => ?_)
    refine qoY (l' := [(0, .pointer (some ⟨g1, 0, none⟩)), (1, .int .i64 x22)]) rfl ?_
    refine jx ?_
    refine zN ?_
    refine yT rfl rfl rfl ?_
    refine yU ?_
    refine yN ?_
    refine jx ?_
    refine zN ?_
    refine kS rfl rfl rfl ?_
    refine jS rfl rfl rfl ?_
    refine zI rfl rfl ff64_1 rfl ?_
    refine ky (i := 0) rfl rfl tf3 rfl rfl (fun _ => rfl) rfl rfl ?_
    refine qlc rfl rfl rfl rfl ?_
    refine jS rfl rfl rfl ?_
    refine zI rfl rfl ff64_1 rfl ?_
    refine yg (i := 0) rfl rfl rfl tf3 rfl rfl rfl rfl rfl ?_
    refine yU ?_
    refine yN ?_
    refine jx ?_
    refine zN ?_
    refine kS rfl rfl rfl ?_
    refine jS rfl rfl rfl ?_
    refine zI rfl rfl ff64_0 rfl ?_
    refine zI rfl rfl ff35_1 rfl ?_
    refine ky (i := 0) rfl rfl tf33 rfl rfl (by simp) rfl rfl ?_
    refine kS rfl rfl rfl ?_
    refine qee ent54 rfl rfl rfl (fun x23 e23 => qjh e23) (.consF 1 rfl (.consF 2 rfl .nil)) (fun x23 e23 => ?_)
    intro _
    refine kS rfl rfl rfl ?_
    refine vo rfl rfl rfl rfl ?_
    refine vo rfl rfl rfl rfl ?_
    refine yT rfl rfl rfl ?_
    refine yT rfl rfl rfl ?_
    refine yU ?_
    refine yN ?_
    refine jx ?_
    refine zN ?_
    refine kS rfl rfl rfl ?_
    refine jS rfl rfl rfl ?_
    refine zI rfl rfl ff64_0 rfl ?_
    refine zI rfl rfl ff35_0 rfl ?_
    refine ky (i := 0) rfl rfl tf31 rfl rfl (by simp) rfl rfl ?_
    refine kS rfl rfl rfl ?_
    refine kS rfl rfl rfl ?_
    refine qee ent55 rfl rfl rfl (fun x24 e24 => qfa e24) (.consF 0 rfl .nil) (fun x24 e24 => ?_)
    intro _
    refine kS rfl rfl rfl ?_
    refine vo rfl rfl rfl rfl ?_
    refine vo rfl rfl rfl rfl ?_
    refine vo rfl rfl rfl rfl ?_
    refine yT rfl rfl rfl ?_
    refine yT rfl rfl rfl ?_
    refine yT rfl rfl rfl ?_
    refine yU ?_
    refine yN ?_
    refine jx ?_
    refine zN ?_
    refine yT rfl rfl rfl ?_
    refine yU ?_
    refine yN ?_
    refine qc6 (fun (((x31, x32, x33, x34, x35, x36, x37, x38, x39, x40, x41, x42), (a29, c30)) : ((List Int × Int × Int × Int × Int × Int × Int × Int × Int × Int × Int × Int) × (Option Addr × Nat))) => [(0, .pointer (some ⟨g1, 0, none⟩)), (1, .int .i64 x22), (7, .int .i64 x24.1), (8, .int .i64 x24.2.1), (10, .slice a29 x31.length c30)]) (fun (((x31, x32, x33, x34, x35, x36, x37, x38, x39, x40, x41, x42), (a29, c30)) : ((List Int × Int × Int × Int × Int × Int × Int × Int × Int × Int × Int × Int) × (Option Addr × Nat))) => [⟨g1, 64, [.int .i64 x32, .int .i64 x33, .int .i64 x34, .int .i64 x35, .int .i64 x36, .slice a8 x7.length c9, .int .i64 x37, .int .i64 x38, .int .i64 x39, .int .i64 x40, .slice a15 x14.length c16, .int .i64 x41, .slice a19 x18.length c20, .int .i64 x42]⟩]) (fun (((x31, x32, x33, x34, x35, x36, x37, x38, x39, x40, x41, x42), (a29, c30)) : ((List Int × Int × Int × Int × Int × Int × Int × Int × Int × Int × Int × Int) × (Option Addr × Nat))) => [Ro (eI .i64) 3 1 (.slice a29 x31.length c30) x31]) (fun (((x31, x32, x33, x34, x35, x36, x37, x38, x39, x40, x41, x42), (a29, c30)) : ((List Int × Int × Int × Int × Int × Int × Int × Int × Int × Int × Int × Int) × (Option Addr × Nat))) => [Sl (eI .u8) 1 (.slice a8 x7.length c9) x7, Sl (eI .u8) 1 (.slice a15 x14.length c16) x14, Sl (eI .u8) 1 (.slice a19 x18.length c20) x18]) (fun (((x31, x32, x33, x34, x35, x36, x37, x38, x39, x40, x41, x42), _) : ((List Int × Int × Int × Int × Int × Int × Int × Int × Int × Int × Int × Int) × (Option Addr × Nat))) => zW F x7 x22 x24 x31 x32 x33 x34 x35 x36 x37 x38 x39 x40 x41 x42) ?_ ?_
    · refine jx ?_
      refine zN ?_
      refine kS rfl rfl rfl ?_
      refine qle rfl rfl rfl rfl ?_
      refine yU ?_
      refine yN ?_
      refine qnM rfl (fun h53 => ?_) (fun h53 => ?_)
      · refine zN ?_
        refine kS rfl rfl rfl ?_
        refine kS rfl rfl rfl ?_
        refine kS rfl rfl rfl ?_
        refine qlf rfl rfl rfl rfl ?_
        refine qgP ent25 rfl rfl rfl (fun x50 e50 => ih g1 x2 x3 x4 x5 x6 x7 a8 c9 x10 x11 x12 x13 x14 a15 c16 x17 x18 a19 c20 (iadd .i64 x21 1) (isub .i64 x22 x24.1) x50 e50) (.cons 0 rfl .nil) .nil (.consF 0 rfl (.consF 1 rfl (.consF 2 rfl .nil))) (fun x50 e50 => ?_)
        rintro ⟨a51, c52⟩
        refine yT rfl rfl rfl ?_
        refine yU ?_
        exact qao ((x50.1, x50.2.1, x50.2.2.1, x50.2.2.2.1, x50.2.2.2.2.1, x50.2.2.2.2.2.1, x50.2.2.2.2.2.2.1, x50.2.2.2.2.2.2.2.1, x50.2.2.2.2.2.2.2.2.1, x50.2.2.2.2.2.2.2.2.2.1, x50.2.2.2.2.2.2.2.2.2.2.1, x50.2.2.2.2.2.2.2.2.2.2.2), (a51, c52)) (hB := (.cons 0 rfl .nil)) (hR := (.cons 0 rfl .nil)) (hF := (qp 0 rfl (qp 1 rfl (qp 2 rfl yS))))
      · refine qi4 ?_
        refine qcL Int (eI .i64) 3 1 ?_
        exact qao ((([] : List Int), x2, x3, x4, x5, x6, x10, x11, x12, x13, x17, iadd .i64 x21 1), (none, 0)) (hB := (.cons 0 rfl .nil)) (hR := (.cons 0 rfl .nil)) (hF := (qp 0 rfl (qp 1 rfl (qp 2 rfl yS))))
    · rintro ⟨⟨x31, x32, x33, x34, x35, x36, x37, x38, x39, x40, x41, x42⟩, ⟨a29, c30⟩⟩
      try dsimp only
      refine jx ?_
      refine zN ?_
      refine kS rfl rfl rfl ?_
      refine jS rfl rfl rfl ?_
      refine zI rfl rfl ff64_0 rfl ?_
      refine zI rfl rfl ff35_0 rfl ?_
      refine zI rfl rfl ff31_1 rfl ?_
      refine ky (i := 0) rfl rfl tf26 rfl rfl (by simp) rfl rfl ?_
      refine qeG rfl tf26 rfl (fun g43 => ?_)
      refine yg (i := 0) rfl rfl rfl tf26 rfl rfl rfl rfl rfl ?_
      refine yU ?_
      refine yN ?_
      refine jx ?_
      refine zN ?_
      refine kS rfl rfl rfl ?_
      refine zI rfl rfl ff26_0 rfl ?_
      refine yg (i := 0) rfl rfl rfl tf3 rfl rfl rfl rfl rfl ?_
      refine yU ?_
      refine yN ?_
      refine jx ?_
      refine qA mixed [] [⟨g43, 26, [.int .i64 x24.1, .int .i64 x34, .int .i64 x35]⟩, ⟨g1, 64, [.int .i64 x32, .int .i64 x33, .int .i64 x34, .int .i64 x35, .int .i64 x36, .slice a8 x7.length c9, .int .i64 x37, .int .i64 x38, .int .i64 x39, .int .i64 x40, .slice a15 x14.length c16, .int .i64 x41, .slice a19 x18.length c20, .int .i64 x42]⟩] [Sl (eI .u8) 1 (.slice a8 x7.length c9) x7, Sl (eI .u8) 1 (.slice a15 x14.length c16) x14, Sl (eI .u8) 1 (.slice a19 x18.length c20) x18] (.cons 0 rfl (.cons 0 rfl .nil)) (qR 0 rfl (qR 1 rfl (qR 2 rfl qw))) 18 rfl ?_
      refine qk 0 (.pointer (some ⟨g1, 0, none⟩)) rfl rfl rfl (vg rfl) ?_
      refine qk 1 (.pointer (some ⟨g1, 0, none⟩)) rfl rfl rfl (vg rfl) ?_
      refine qk 2 (.pointer (some ⟨g1, 0, none⟩)) rfl rfl rfl (yO rfl ff64_0) ?_
      refine qk 3 (.pointer (some ⟨g1, 0, none⟩)) rfl rfl rfl (yO rfl ff35_0) ?_
      refine qk 4 (.pointer (some ⟨g1, 4, none⟩)) rfl rfl rfl (yO rfl ff31_2) ?_
      refine zy 5 (.agg #[.int .i64 x36, .slice a8 x7.length c9]) rfl rfl rfl (qW (i := 1) rfl tf29 rfl rfl (by simp) rfl) ?_
      refine qk 6 (.int .i64 x24.2.1) rfl rfl rfl (vg rfl) ?_
      refine qk 7 (.int .i64 x22) rfl rfl rfl (vg rfl) ?_
      refine qk 8 (.slice a29 x31.length c30) rfl rfl rfl (vg rfl) ?_
      refine zy 9 (.agg #[.int .i64 x24.1, .int .i64 x34, .int .i64 x35]) rfl rfl rfl (qW (i := 0) rfl tf26 rfl rfl (by simp) rfl) ?_
      refine qi1 10 rfl (by kernel_rfl) rfl ?_
      refine qee ent56 rfl rfl rfl (fun x47 e47 => qeL e47) (.consF 0 rfl (.consR 0 (Ro (eI .i64) 3 1 (.slice a29 x31.length c30) x31) rfl .nil)) (fun x47 e47 => ?_)
      rintro ⟨a48, c49⟩
      refine yU ?_
      refine zJ (.cons 0 rfl (.cons 0 rfl .nil)) (qR 0 rfl (qR 1 rfl (qR 2 rfl qw))) ?_
      refine qk 11 (.tuple #[.slice a48 x47.1.length c49, .int .i64 x47.2.1, .int .i64 x47.2.2]) rfl rfl rfl (vg rfl) ?_
      refine qk 12 (.slice a48 x47.1.length c49) rfl rfl rfl (vg rfl) ?_
      refine qk 13 (.int .i64 x47.2.1) rfl rfl rfl (vg rfl) ?_
      refine qk 14 (.int .i64 x47.2.2) rfl rfl rfl (vg rfl) ?_
      refine qk 15 (.slice a48 x47.1.length c49) rfl rfl rfl (vg rfl) ?_
      refine qk 16 (.int .i64 x47.2.1) rfl rfl rfl (vg rfl) ?_
      refine qk 17 (.int .i64 x47.2.2) rfl rfl rfl (vg rfl) ?_
      refine qi0 (by kernel_rfl) ?_
      refine qz ?_ (by intro c h; cases h)
      refine yN ?_
      refine jx ?_
      refine zN ?_
      refine kS rfl rfl rfl ?_
      refine yT rfl rfl rfl ?_
      refine yU ?_
      refine yN ?_
      refine qlb ?_
      exact k9 (a48, c49) (res1 rfl rfl) (hB := fun h => by subst h; exact (.cons 1 rfl .nil)) (hR := fun h => by subst h; exact (.cons 0 rfl .nil))
set_option maxHeartbeats 4000000 in
theorem qhd {F : Nat} {x1 : Int} {x2 : Int} {x3 : Int} {x4 : Int} {x5 : Int} {x6 : List Int} {a7 : Option Addr} {c8 : Nat} {x9 : Int} {x10 : Int} {x11 : Int} {x12 : Int} {x13 : List Int} {a14 : Option Addr} {c15 : Nat} {x16 : Int} {x17 : List Int} {a18 : Option Addr} {c19 : Nat} {x20 : Int} {r : (List Int × Int × Int)} (hm : yJ F x1 x2 x3 x4 x5 x6 x9 x10 x11 x12 x13 x16 x17 x20 = some r) :
    Pure Tryz.prog 9 [.agg #[.int .i64 x1, .int .i64 x2, .int .i64 x3, .int .i64 x4, .int .i64 x5, .slice a7 x6.length c8, .int .i64 x9, .int .i64 x10, .int .i64 x11, .int .i64 x12, .slice a14 x13.length c15, .int .i64 x16, .slice a18 x17.length c19], .int .i64 x20] [Sl (eI .u8) 1 (.slice a7 x6.length c8) x6, Sl (eI .u8) 1 (.slice a14 x13.length c15) x13, Sl (eI .u8) 1 (.slice a18 x17.length c19) x17] (Option Addr × Nat) (fun g => .tuple #[.slice g.1 r.1.length g.2, .int .i64 r.2.1, .int .i64 r.2.2]) (fun g => [Ro (eI .i64) 3 1 (.slice g.1 r.1.length g.2) r.1]) (fun _ => []) := by
 refine qh Tryz.func9 rfl Tryz.ntmps9 rfl hm (fun w => ?_)
 refine au [24,10,2,4,20] ?_
 intro g21
 refine au [5,5,5,0,1,2,4,24,5,28,13] ?_
 intro x22 e22 _
 refine au [5,0,1] ?_
 refine qf (fun ((x28, _) : (Int × Unit)) => ([(1, .int .i64 x20), (2, .pointer (some ⟨g21, 0, none⟩)), (7, .int .i64 x28)], [⟨g21, 35, [.int .i64 x1, .int .i64 x2, .int .i64 x3, .int .i64 x4, .int .i64 x5, .slice a7 x6.length c8, .int .i64 x9, .int .i64 x10, .int .i64 x11, .int .i64 x12, .slice a14 x13.length c15, .int .i64 x16, .slice a18 x17.length c19]⟩], [], [Sl (eI .u8) 1 (.slice a7 x6.length c8) x6, Sl (eI .u8) 1 (.slice a14 x13.length c15) x13, Sl (eI .u8) 1 (.slice a18 x17.length c19) x17], vL F x1 x2 x3 x4 x5 x6 x9 x10 x11 x12 x13 x16 x17 x20 x28)) ?_ ?_
 refine au [2,4,3,24,11,3] ?_
 refine qK 10 (fun ((x37, _) : (Bool × Unit)) => ([(1, .int .i64 x20), (2, .pointer (some ⟨g21, 0, none⟩)), (7, .int .i64 x22), (24, .bool x37)], [⟨g21, 35, [.int .i64 x1, .int .i64 x2, .int .i64 x3, .int .i64 x4, .int .i64 x5, .slice a7 x6.length c8, .int .i64 x9, .int .i64 x10, .int .i64 x11, .int .i64 x12, .slice a14 x13.length c15, .int .i64 x16, .slice a18 x17.length c19]⟩], [], [Sl (eI .u8) 1 (.slice a7 x6.length c8) x6, Sl (eI .u8) 1 (.slice a14 x13.length c15) x13, Sl (eI .u8) 1 (.slice a18 x17.length c19) x17], vM F x1 x2 x3 x4 x5 x6 x9 x10 x11 x12 x13 x16 x17 x20 x22 x37)) ?_ ?_
 refine qb (os := _) rfl ?_
 refine av [25,8] ?_ ?_
 intro h35
 refine qj (k := 14) rfl h35 ?_
 refine au [3,24,4,3] ?_
 refine qo 6 (decide (x20 < 0)) [(1, .int .i64 x20), (2, .pointer (some ⟨g21, 0, none⟩)), (7, .int .i64 x22), (14, .bool true), (23, .bool ((decide (x20 < 0)) || (decide (x1 ≤ x20))))] (fun h39 => ?_) (fun h39 => ?_) ?_
 refine qb (os := _) rfl (qj (k := 17) rfl h39 ?_)
 refine au [7,7,7,7,7,23] ?_
 refine qc (d := 23) (v := .bool ((decide (x20 < 0)) || (decide (x1 ≤ x20)))) rfl (by rw [h39]; simp only [Bool.true_or]) ?_
 exact az [0,18]
 refine qb (os := _) rfl (qi (k := 17) rfl h39 ?_)
 refine au [3,9,9,16,26,2,24,0] ?_
 refine qc (d := 23) (v := .bool ((decide (x20 < 0)) || (decide (x1 ≤ x20)))) rfl (by rw [h39]; simp only [Bool.false_or]) ?_
 exact az [0,18]
 refine qb (os := _) rfl ?_
 refine au [23,0] ?_
 exact qa (((decide (x20 < 0)) || (decide (x1 ≤ x20))), ())
 intro h35
 refine qi (k := 14) rfl h35 ?_
 refine au [7,7,7,7,7,7,7,7,7,24,0,0] ?_
 exact qa (false, ())
 rintro ⟨x37, _⟩
 try dsimp only
 refine qb (os := _) rfl ?_
 refine av [0,1,11] ?_ ?_
 intro _
 refine au [4,5,0] ?_
 exact qa ((3 : Int), ())
 intro _
 refine au [13] ?_
 exact qa (x22, ())
 rintro ⟨x28, _⟩
 try dsimp only
 refine av [2,2,4,3,25,3,0,1,11] ?_ ?_
 intro _
 refine au [2,4,3,5,5,5,0,1,10,12,25,12] ?_
 exact qt (none, 0)
 intro _
 refine au [13,1,2,4,24,5] ?_
 refine qn (cells := [.int .i64 x1, .int .i64 x2, .int .i64 x3, .int .i64 x4, .int .i64 x5, .slice a7 x6.length c8, .int .i64 x9, .int .i64 x10, .int .i64 x11, .int .i64 x12, .slice a14 x13.length c15, .int .i64 x16, .slice a18 x17.length c19, .int .i64 0]) rfl st64 rfl (by kernel_rfl) rfl ?_
 refine au [20] ?_
 intro g30
 refine au [5,0,1,2,4,3,3] ?_
 refine qT (fun h => qdi F _ _ _ _ _ _ _ _ _ _ _ _ _ _ _ _ _ _ _ _ _ _ _ h) ?_
 rintro x31 e31 ⟨a32, c33⟩
 refine au [5,0,1,2] ?_
 refine qA mixed [] [⟨g30, 64, [.int .i64 x31.2.1, .int .i64 x31.2.2.1, .int .i64 x31.2.2.2.1, .int .i64 x31.2.2.2.2.1, .int .i64 x31.2.2.2.2.2.1, .slice a7 x6.length c8, .int .i64 x31.2.2.2.2.2.2.1, .int .i64 x31.2.2.2.2.2.2.2.1, .int .i64 x31.2.2.2.2.2.2.2.2.1, .int .i64 x31.2.2.2.2.2.2.2.2.2.1, .slice a14 x13.length c15, .int .i64 x31.2.2.2.2.2.2.2.2.2.2.1, .slice a18 x17.length c19, .int .i64 x31.2.2.2.2.2.2.2.2.2.2.2]⟩, ⟨g21, 35, [.int .i64 x1, .int .i64 x2, .int .i64 x3, .int .i64 x4, .int .i64 x5, .slice a7 x6.length c8, .int .i64 x9, .int .i64 x10, .int .i64 x11, .int .i64 x12, .slice a14 x13.length c15, .int .i64 x16, .slice a18 x17.length c19]⟩] [Sl (eI .u8) 1 (.slice a7 x6.length c8) x6, Sl (eI .u8) 1 (.slice a14 x13.length c15) x13, Sl (eI .u8) 1 (.slice a18 x17.length c19) x17] (.cons 0 rfl (.cons 0 rfl .nil)) (qR 0 rfl (qR 1 rfl (qR 2 rfl qw))) 8 rfl ?_
 refine au [6,0,6,1,6,2,21,3,25,6,4,6,5,6,6,6,7,24,6] ?_
 refine qz ?_ (by intro c h; cases h)
 refine au [1,10] ?_
 exact qt (a32, c33)
set_option maxHeartbeats 4000000 in
theorem qge {F : Nat} {x1 : Int} {x2 : Int} {x3 : Int} {x4 : Int} {x5 : Int} {x6 : List Int} {a7 : Option Addr} {c8 : Nat} {x9 : Int} {x10 : Int} {x11 : Int} {x12 : Int} {x13 : List Int} {a14 : Option Addr} {c15 : Nat} {x16 : Int} {x17 : List Int} {a18 : Option Addr} {c19 : Nat} {x20 : Int} {x21 : Int} {r : (Bool × Int)} (hm : j1 F x1 x2 x3 x4 x5 x6 x9 x10 x11 x12 x13 x16 x17 x20 x21 = some r) :
    Pure Tryz.prog 10 [.agg #[.int .i64 x1, .int .i64 x2, .int .i64 x3, .int .i64 x4, .int .i64 x5, .slice a7 x6.length c8, .int .i64 x9, .int .i64 x10, .int .i64 x11, .int .i64 x12, .slice a14 x13.length c15, .int .i64 x16, .slice a18 x17.length c19], .int .i64 x20, .int .i64 x21] [Sl (eI .u8) 1 (.slice a7 x6.length c8) x6, Sl (eI .u8) 1 (.slice a14 x13.length c15) x13, Sl (eI .u8) 1 (.slice a18 x17.length c19) x17] Unit (fun _ => .tuple #[.bool r.1, .int .i64 r.2]) (fun _ => []) (fun _ => []) := by
 refine qh Tryz.func10 rfl Tryz.ntmps10 rfl hm (fun w => ?_)
 refine au [25,14,2,4,20] ?_
 intro g22
 refine au [5,5,0,1,2,4,24,5,3,30,7] ?_
 rintro x23 e23 ⟨a24, c25⟩
 refine au [3,14,14,14,5,5,5,0,1] ?_
 refine qf (fun ((x31, _) : (Int × Unit)) => ([(2, .int .i64 x21), (8, .slice a24 x23.1.length c25), (10, .int .i64 x31)], [], [Ro (eI .i64) 3 1 (.slice a24 x23.1.length c25) x23.1], [], jN F x21 x23 x31)) ?_ ?_
 refine au [2,4,3,24,11,3] ?_
 refine qK 10 (fun ((x37, _) : (Bool × Unit)) => ([(2, .int .i64 x21), (8, .slice a24 x23.1.length c25), (10, .int .i64 x23.2.2), (32, .bool x37)], [], [Ro (eI .i64) 3 1 (.slice a24 x23.1.length c25) x23.1], [], jO F x21 x23 x37)) ?_ ?_
 refine qb (os := _) rfl ?_
 refine av [25,8] ?_ ?_
 intro h35
 refine qj (k := 22) rfl h35 ?_
 refine au [3,24,4,3] ?_
 refine qo 6 (decide (x21 < 0)) [(2, .int .i64 x21), (8, .slice a24 x23.1.length c25), (10, .int .i64 x23.2.2), (22, .bool true), (31, .bool ((decide (x21 < 0)) || (decide (x1 ≤ x21))))] (fun h39 => ?_) (fun h39 => ?_) ?_
 refine qb (os := _) rfl (qj (k := 25) rfl h39 ?_)
 refine au [7,7,7,7,7,23] ?_
 refine qc (d := 31) (v := .bool ((decide (x21 < 0)) || (decide (x1 ≤ x21)))) rfl (by rw [h39]; simp only [Bool.true_or]) ?_
 exact az [0,18]
 refine qb (os := _) rfl (qi (k := 25) rfl h39 ?_)
 refine au [3,9,9,16,26,2,24,0] ?_
 refine qc (d := 31) (v := .bool ((decide (x21 < 0)) || (decide (x1 ≤ x21)))) rfl (by rw [h39]; simp only [Bool.false_or]) ?_
 exact az [0,18]
 refine qb (os := _) rfl ?_
 refine au [23,0] ?_
 exact qa (((decide (x21 < 0)) || (decide (x1 ≤ x21))), ())
 intro h35
 refine qi (k := 22) rfl h35 ?_
 refine au [7,7,7,7,7,7,7,7,7,24,0,0] ?_
 exact qa (false, ())
 rintro ⟨x37, _⟩
 try dsimp only
 refine qb (os := _) rfl ?_
 refine av [0,1,11] ?_ ?_
 intro _
 refine au [4,5,0] ?_
 exact qa ((3 : Int), ())
 intro _
 refine au [13] ?_
 exact qa (x23.2.2, ())
 rintro ⟨x31, _⟩
 try dsimp only
 refine av [2,2,4,3,25,3,0,1,11] ?_ ?_
 intro _
 exact az [2,4,3,5,5,0,1,10,12,15]
 intro _
 refine au [13,1,2,4,3,3,29,3] ?_
 intro x33 e33 _
 exact az [3,14,14,5,5,0,1,2,4,3,5,5,0,1,10,15]
set_option maxHeartbeats 4000000 in
theorem qgZ {F : Nat} {x1 : List Int} {a2 : Option Addr} {c3 : Nat} {x4 : List Int} {a5 : Option Addr} {c6 : Nat} {r : Bool} (hm : vq F x1 x4 = some r) :
    Pure Tryz.prog 17 [.slice a2 x1.length c3, .slice a5 x4.length c6] [Sl (eI .i64) 1 (.slice a2 x1.length c3) x1, Sl (eI .i64) 1 (.slice a5 x4.length c6) x4] Unit (fun _ => .bool r) (fun _ => []) (fun _ => []) := by
 refine qh Tryz.func17 rfl Tryz.ntmps17 rfl hm (fun w => ?_)
 refine av [24,10,2,4,5,0,1,2,2,4,3,24,7,3,24,7,25,3,0,1,11] ?_ ?_
 intro _
 exact az [2,4,5,0,1,10,12,15]
 intro _
 refine au [13,1] ?_
 refine qf (fun ((_, _) : (Unit × Unit)) => ([], [], [], [], qcM F)) ?_ ?_
 refine au [2,4,5,0,1,17] ?_
 refine qy (fun ((x154, _) : (Int × Unit)) => ([(0, .slice a2 x1.length c3), (1, .slice a5 x4.length c6), (5, .int .i64 x154)], [], [], [Sl (eI .i64) 1 (.slice a2 x1.length c3) x1, Sl (eI .i64) 1 (.slice a5 x4.length c6) x4])) (fun k (s : (Int × Unit)) => kf F x1 x4 k s.1) (0, ()) F ?_
 intro k191
 rintro ⟨x154, _⟩
 try dsimp only
 refine qI (m' := yo F x1 x4 (kf F x1 x4 k191) x154) rfl ?_
 refine av [2,2,4,3,3,24,7,24,4,0,1,11] ?_ ?_
 intro _
 refine au [13,1,2,17,2,31,9] ?_
 intro x218 e218 b219 o220 h221
 replace h221 : a2 = some ⟨b219, o220, none⟩ := h221
 refine qcq (j := 2) (qV .i64) (by decide) rfl ?_
 intro x222 e222 b223 o224 h225
 replace h225 : a5 = some ⟨b223, o224, none⟩ := h225
 refine qA mixed [] [] [qX b223 (o224 + x154.toNat * 1) ((eI .i64) x222), qX b219 (o220 + x154.toNat * 1) ((eI .i64) x218), Sl (eI .i64) 1 (.slice a2 x1.length c3) x1, Sl (eI .i64) 1 (.slice a5 x4.length c6) x4] .nil (qR 0 rfl (qR 1 rfl (qR 2 rfl (qR 3 rfl qw)))) 9 rfl ?_
 refine au [6,0,6,1] ?_
 refine qg (d := 17) (v := .slice (some ⟨b219, o220, none⟩) x1.length c3) rfl (by rw [h221] <;> rfl) (qk 2 (.pointer (some ⟨b219, (o220 + x154.toNat * 1), none⟩)) rfl rfl rfl (qbm Tryz.underlying39 tf3 rfl rfl (zA e218).1 (qaO e218)) (qg (d := 17) (v := .slice a2 x1.length c3) rfl (by rw [h221] <;> rfl) (zk 3 (.int .i64 x218) [] rfl rfl rfl (vR (j := 1) rfl tf3 rfl rfl (fun _ => rfl) rfl) ?_)))
 refine au [6,4,6,5] ?_
 refine qg (d := 21) (v := .slice (some ⟨b223, o224, none⟩) x4.length c6) rfl (by rw [h225] <;> rfl) (qk 6 (.pointer (some ⟨b223, (o224 + x154.toNat * 1), none⟩)) rfl rfl rfl (qbm Tryz.underlying39 tf3 rfl rfl (zA e222).1 (qaO e222)) (qg (d := 21) (v := .slice a5 x4.length c6) rfl (by rw [h225] <;> rfl) (zk 7 (.int .i64 x222) [] rfl rfl rfl (vR (j := 0) rfl tf3 rfl rfl (fun _ => rfl) rfl) ?_)))
 refine au [6,8,24,6] ?_
 refine qz ?_ (by intro c h; cases h)
 refine av [1,11] ?_ ?_
 intro _
 exact az [2,4,5,0,1,10,24,2,12,12,24,2,12,15]
 intro _
 refine au [13,24,8,1,4,3,19,5,0] ?_
 exact ql (iadd .i64 x154 1, ())
 intro _
 exact az [24,13,22,22,24,14,26,0]
 rintro ⟨_, _⟩
 try dsimp only
 exact az [2,4,5,0,1,10,15]
theorem qfX (F : Nat)  (r : List (List Int)) (hm : kY F  = some r) :
    Pure Tryz.prog 32 [] [] (Option Addr × (Nat × List (Option Addr × Nat))) (fun g => .agg #[.slice g.1 r.length g.2.1]) (fun g => [RoN eN39 rN39 39 1 (.slice g.1 r.length g.2.1) r g.2.2 []]) (fun _ => []) := by
 refine qh Tryz.func32 rfl Tryz.ntmps32 rfl hm (fun w => ?_)
 refine au [30,8,2,4,24,9] ?_
 intro g1
 refine au [0,1,2,4] ?_
 refine zg (vs := [.int .i64 1, .int .i64 2, .int .i64 3, .int .i64 5]) (ys := ([1, 2, 3, 5] : List Int)) (qV .i64) (by decide) rfl Tryz.underlying39 tf3 rfl rfl rfl rfl rfl (by decide) (fun a2 c3 => zg (vs := [.int .i64 1, .int .i64 2, .int .i64 3, .int .i64 5]) (ys := ([1, 2, 3, 5] : List Int)) (qV .i64) (by decide) rfl Tryz.underlying39 tf3 rfl rfl rfl rfl rfl (by decide) (fun a4 c5 => zg (vs := [.int .i64 0, .int .i64 1, .int .i64 2, .int .i64 3, .int .i64 5]) (ys := ([0, 1, 2, 3, 5] : List Int)) (qV .i64) (by decide) rfl Tryz.underlying39 tf3 rfl rfl rfl rfl rfl (by decide) (fun a6 c7 => zg (vs := [.int .i64 4]) (ys := ([4] : List Int)) (qV .i64) (by decide) rfl Tryz.underlying39 tf3 rfl rfl rfl rfl rfl (by decide) (fun a8 c9 => zg (vs := [.int .i64 1, .int .i64 2, .int .i64 3]) (ys := ([1, 2, 3] : List Int)) (qV .i64) (by decide) rfl Tryz.underlying39 tf3 rfl rfl rfl rfl rfl (by decide) (fun a10 c11 => ?_)))))
 refine au [27,10] ?_
 refine zg (vs := [.slice a2 ([1, 2, 3, 5] : List Int).length c3, .slice a4 ([1, 2, 3, 5] : List Int).length c5, .slice a6 ([0, 1, 2, 3, 5] : List Int).length c7, .slice none ([] : List Int).length 0, .slice a8 ([4] : List Int).length c9, .slice a10 ([1, 2, 3] : List Int).length c11]) (ys := ([(([1, 2, 3, 5] : List Int), (a2, c3)), (([1, 2, 3, 5] : List Int), (a4, c5)), (([0, 1, 2, 3, 5] : List Int), (a6, c7)), (([] : List Int), (none, 0)), (([4] : List Int), (a8, c9)), (([1, 2, 3] : List Int), (a10, c11))] : List (List Int × (Option Addr × Nat)))) qai (by decide) rfl Tryz.underlying22 tf39 rfl rfl rfl rfl rfl (by decide) (fun a12 c13 => qdI (rin := rN39) (i := 0) ([([1, 2, 3, 5] : List Int), ([1, 2, 3, 5] : List Int), ([0, 1, 2, 3, 5] : List Int), ([] : List Int), ([4] : List Int), ([1, 2, 3] : List Int)] : List (List Int)) ([(a2, c3), (a4, c5), (a6, c7), (none, 0), (a8, c9), (a10, c11)] : List (Option Addr × Nat)) rfl rfl (.cons 5 rfl (.cons 4 rfl (.cons 3 rfl (.cons 0 rfl (.cons 1 rfl (.cons 0 rfl .nil)))))) (qn (cells := [.slice a12 ([([1, 2, 3, 5] : List Int), ([1, 2, 3, 5] : List Int), ([0, 1, 2, 3, 5] : List Int), ([] : List Int), ([4] : List Int), ([1, 2, 3] : List Int)] : List (List Int)).length c13]) rfl st24 rfl (by kernel_rfl) rfl ?_))
 refine au [24,3,0,1,10] ?_
 exact qF (a12, (c13, ([(a2, c3), (a4, c5), (a6, c7), (none, 0), (a8, c9), (a10, c11)] : List (Option Addr × Nat)))) (resL (rs := [.cell 0 24]) rfl (.cell (i := 0) rfl tf24 rfl rfl (by simp) rfl ResOk.nil) rfl) (fun h => by subst h; exact (.cons 0 rfl .nil))
set_option maxHeartbeats 4000000 in
theorem qe4 (F : Nat)  (r : Bool) (hm : qap F  = some r) :
    Pure Tryz.prog 14 [] [] Unit (fun _ => .bool r) (fun _ => []) (fun _ => []) := by
 refine qh Tryz.func14 rfl Tryz.ntmps14 rfl hm (fun w => ?_)
 refine au [30,8,2,4,5,0,1,2,4,28,3] ?_
 rintro x1 e1 ⟨a2, c3⟩
 refine qn (cells := [.int .i64 3, .int .i64 3, .int .i64 2]) rfl st26 rfl (by kernel_rfl) rfl ?_
 refine au [34,3] ?_
 rintro x4 e4 ⟨⟨a5, c6⟩, ⟨a7, c8⟩, ⟨a9, c10⟩⟩
 refine au [3,14,14,24,9] ?_
 intro g11
 refine au [24,3,5,0,1,2,4,24,5,30,7] ?_
 rintro x12 e12 ⟨a13, c14⟩
 refine au [3,14,14,14,5,5,5,0,1,2,4,24,5,34,4] ?_
 intro x15 e15 _
 refine au [3,14,14,5,5,0,1,2,4,24,5,34,4] ?_
 intro x16 e16 _
 refine au [3,14,14,5,5,0,1,2,4,24,5,30,7] ?_
 rintro x17 e17 ⟨a18, c19⟩
 refine au [3,14,14,14,5,5,5,0,1,2,4,3,24,11,3] ?_
 refine qK 4 (fun ((x24, _) : (Bool × Unit)) => ([(1, .pointer (some ⟨g11, 0, none⟩)), (4, .int .i64 x12.2.1), (5, .int .i64 x12.2.2), (6, .bool x15.1), (7, .int .i64 x15.2), (8, .bool x16.1), (9, .int .i64 x16.2), (12, .int .i64 x17.2.2), (47, .bool x24)], [⟨g11, 35, [.int .i64 x4.1, .int .i64 x4.2.1, .int .i64 x4.2.2.1, .int .i64 x4.2.2.2.1, .int .i64 x4.2.2.2.2.1, .slice a5 x4.2.2.2.2.2.1.length c6, .int .i64 x4.2.2.2.2.2.2.1, .int .i64 x4.2.2.2.2.2.2.2.1, .int .i64 x4.2.2.2.2.2.2.2.2.1, .int .i64 x4.2.2.2.2.2.2.2.2.2.1, .slice a7 x4.2.2.2.2.2.2.2.2.2.2.1.length c8, .int .i64 x4.2.2.2.2.2.2.2.2.2.2.2.1, .slice a9 x4.2.2.2.2.2.2.2.2.2.2.2.2.1.length c10]⟩], [Ro (eI .u8) 5 1 (.slice a5 x4.2.2.2.2.2.1.length c6) x4.2.2.2.2.2.1, Ro (eI .u8) 5 1 (.slice a7 x4.2.2.2.2.2.2.2.2.2.2.1.length c8) x4.2.2.2.2.2.2.2.2.2.2.1, Ro (eI .u8) 5 1 (.slice a9 x4.2.2.2.2.2.2.2.2.2.2.2.2.1.length c10) x4.2.2.2.2.2.2.2.2.2.2.2.2.1], [], v6 F x4 x12 x15 x16 x17 x24)) ?_ ?_
 refine qb (os := _) rfl ?_
 refine av [25,8] ?_ ?_
 intro h20
 refine qj (k := 43) rfl h20 ?_
 refine au [3] ?_
 refine zg (vs := [.int .i64 1, .int .i64 2, .int .i64 3, .int .i64 5]) (ys := ([1, 2, 3, 5] : List Int)) (qV .i64) (by decide) rfl Tryz.underlying39 tf3 rfl rfl rfl rfl rfl (by decide) (fun a40 c41 => ?_)
 refine au [34,5] ?_
 intro x42 e42 _
 refine au [23,0] ?_
 exact qa (x42, ())
 intro h20
 refine qi (k := 43) rfl h20 ?_
 refine au [7,7,7,24,0,0] ?_
 exact qa (false, ())
 rintro ⟨x24, _⟩
 try dsimp only
 refine qb (os := _) rfl ?_
 refine au [3] ?_
 refine qo 3 x24 [(1, .pointer (some ⟨g11, 0, none⟩)), (5, .int .i64 x12.2.2), (6, .bool x15.1), (7, .int .i64 x15.2), (8, .bool x16.1), (9, .int .i64 x16.2), (12, .int .i64 x17.2.2), (51, .bool (x24 && ((x12.2.1 : Int) == 2)))] (fun h25 => ?_) (fun h25 => ?_) ?_
 refine qb (os := _) rfl (qj (k := 48) rfl h25 ?_)
 refine au [3,24,11,23] ?_
 refine qc (d := 51) (v := .bool (x24 && ((x12.2.1 : Int) == 2))) rfl (by rw [h25]; simp only [Bool.true_and]) ?_
 exact az [0,18]
 refine qb (os := _) rfl (qi (k := 48) rfl h25 ?_)
 refine au [7,7,24,0] ?_
 refine qc (d := 51) (v := .bool (x24 && ((x12.2.1 : Int) == 2))) rfl (by rw [h25]; simp only [Bool.false_and]) ?_
 exact az [0,18]
 refine qb (os := _) rfl ?_
 refine au [3] ?_
 refine qo 3 (x24 && ((x12.2.1 : Int) == 2)) [(1, .pointer (some ⟨g11, 0, none⟩)), (6, .bool x15.1), (7, .int .i64 x15.2), (8, .bool x16.1), (9, .int .i64 x16.2), (12, .int .i64 x17.2.2), (55, .bool ((x24 && ((x12.2.1 : Int) == 2)) && ((x12.2.2 : Int) == 0)))] (fun h26 => ?_) (fun h26 => ?_) ?_
 refine qb (os := _) rfl (qj (k := 52) rfl h26 ?_)
 refine au [3,24,11,23] ?_
 refine qc (d := 55) (v := .bool ((x24 && ((x12.2.1 : Int) == 2)) && ((x12.2.2 : Int) == 0))) rfl (by rw [h26]; simp only [Bool.true_and]) ?_
 exact az [0,18]
 refine qb (os := _) rfl (qi (k := 52) rfl h26 ?_)
 refine au [7,7,24,0] ?_
 refine qc (d := 55) (v := .bool ((x24 && ((x12.2.1 : Int) == 2)) && ((x12.2.2 : Int) == 0))) rfl (by rw [h26]; simp only [Bool.false_and]) ?_
 exact az [0,18]
 refine qb (os := _) rfl ?_
 refine au [3] ?_
 refine qo 2 ((x24 && ((x12.2.1 : Int) == 2)) && ((x12.2.2 : Int) == 0)) [(1, .pointer (some ⟨g11, 0, none⟩)), (7, .int .i64 x15.2), (8, .bool x16.1), (9, .int .i64 x16.2), (12, .int .i64 x17.2.2), (58, .bool (((x24 && ((x12.2.1 : Int) == 2)) && ((x12.2.2 : Int) == 0)) && x15.1))] (fun h27 => ?_) (fun h27 => ?_) ?_
 refine qb (os := _) rfl (qj (k := 56) rfl h27 ?_)
 refine au [3,23] ?_
 refine qc (d := 58) (v := .bool (((x24 && ((x12.2.1 : Int) == 2)) && ((x12.2.2 : Int) == 0)) && x15.1)) rfl (by rw [h27]; simp only [Bool.true_and]) ?_
 exact az [0,18]
 refine qb (os := _) rfl (qi (k := 56) rfl h27 ?_)
 refine au [7,24,0] ?_
 refine qc (d := 58) (v := .bool (((x24 && ((x12.2.1 : Int) == 2)) && ((x12.2.2 : Int) == 0)) && x15.1)) rfl (by rw [h27]; simp only [Bool.false_and]) ?_
 exact az [0,18]
 refine qb (os := _) rfl ?_
 refine au [3] ?_
 refine qo 3 (((x24 && ((x12.2.1 : Int) == 2)) && ((x12.2.2 : Int) == 0)) && x15.1) [(1, .pointer (some ⟨g11, 0, none⟩)), (8, .bool x16.1), (9, .int .i64 x16.2), (12, .int .i64 x17.2.2), (62, .bool ((((x24 && ((x12.2.1 : Int) == 2)) && ((x12.2.2 : Int) == 0)) && x15.1) && ((x15.2 : Int) == 0)))] (fun h28 => ?_) (fun h28 => ?_) ?_
 refine qb (os := _) rfl (qj (k := 59) rfl h28 ?_)
 refine au [3,24,11,23] ?_
 refine qc (d := 62) (v := .bool ((((x24 && ((x12.2.1 : Int) == 2)) && ((x12.2.2 : Int) == 0)) && x15.1) && ((x15.2 : Int) == 0))) rfl (by rw [h28]; simp only [Bool.true_and]) ?_
 exact az [0,18]
 refine qb (os := _) rfl (qi (k := 59) rfl h28 ?_)
 refine au [7,7,24,0] ?_
 refine qc (d := 62) (v := .bool ((((x24 && ((x12.2.1 : Int) == 2)) && ((x12.2.2 : Int) == 0)) && x15.1) && ((x15.2 : Int) == 0))) rfl (by rw [h28]; simp only [Bool.false_and]) ?_
 exact az [0,18]
 refine qb (os := _) rfl ?_
 refine au [3] ?_
 refine qo 3 ((((x24 && ((x12.2.1 : Int) == 2)) && ((x12.2.2 : Int) == 0)) && x15.1) && ((x15.2 : Int) == 0)) [(1, .pointer (some ⟨g11, 0, none⟩)), (9, .int .i64 x16.2), (12, .int .i64 x17.2.2), (66, .bool (((((x24 && ((x12.2.1 : Int) == 2)) && ((x12.2.2 : Int) == 0)) && x15.1) && ((x15.2 : Int) == 0)) && (!x16.1)))] (fun h29 => ?_) (fun h29 => ?_) ?_
 refine qb (os := _) rfl (qj (k := 63) rfl h29 ?_)
 refine au [3,25,4,23] ?_
 refine qc (d := 66) (v := .bool (((((x24 && ((x12.2.1 : Int) == 2)) && ((x12.2.2 : Int) == 0)) && x15.1) && ((x15.2 : Int) == 0)) && (!x16.1))) rfl (by rw [h29]; simp only [Bool.true_and]) ?_
 exact az [0,18]
 refine qb (os := _) rfl (qi (k := 63) rfl h29 ?_)
 refine au [7,7,24,0] ?_
 refine qc (d := 66) (v := .bool (((((x24 && ((x12.2.1 : Int) == 2)) && ((x12.2.2 : Int) == 0)) && x15.1) && ((x15.2 : Int) == 0)) && (!x16.1))) rfl (by rw [h29]; simp only [Bool.false_and]) ?_
 exact az [0,18]
 refine qb (os := _) rfl ?_
 refine au [3] ?_
 refine qo 3 (((((x24 && ((x12.2.1 : Int) == 2)) && ((x12.2.2 : Int) == 0)) && x15.1) && ((x15.2 : Int) == 0)) && (!x16.1)) [(1, .pointer (some ⟨g11, 0, none⟩)), (12, .int .i64 x17.2.2), (70, .bool ((((((x24 && ((x12.2.1 : Int) == 2)) && ((x12.2.2 : Int) == 0)) && x15.1) && ((x15.2 : Int) == 0)) && (!x16.1)) && ((x16.2 : Int) == 0)))] (fun h30 => ?_) (fun h30 => ?_) ?_
 refine qb (os := _) rfl (qj (k := 67) rfl h30 ?_)
 refine au [3,24,11,23] ?_
 refine qc (d := 70) (v := .bool ((((((x24 && ((x12.2.1 : Int) == 2)) && ((x12.2.2 : Int) == 0)) && x15.1) && ((x15.2 : Int) == 0)) && (!x16.1)) && ((x16.2 : Int) == 0))) rfl (by rw [h30]; simp only [Bool.true_and]) ?_
 exact az [0,18]
 refine qb (os := _) rfl (qi (k := 67) rfl h30 ?_)
 refine au [7,7,24,0] ?_
 refine qc (d := 70) (v := .bool ((((((x24 && ((x12.2.1 : Int) == 2)) && ((x12.2.2 : Int) == 0)) && x15.1) && ((x15.2 : Int) == 0)) && (!x16.1)) && ((x16.2 : Int) == 0))) rfl (by rw [h30]; simp only [Bool.false_and]) ?_
 exact az [0,18]
 refine qb (os := _) rfl ?_
 refine au [3] ?_
 refine qo 3 ((((((x24 && ((x12.2.1 : Int) == 2)) && ((x12.2.2 : Int) == 0)) && x15.1) && ((x15.2 : Int) == 0)) && (!x16.1)) && ((x16.2 : Int) == 0)) [(1, .pointer (some ⟨g11, 0, none⟩)), (74, .bool (((((((x24 && ((x12.2.1 : Int) == 2)) && ((x12.2.2 : Int) == 0)) && x15.1) && ((x15.2 : Int) == 0)) && (!x16.1)) && ((x16.2 : Int) == 0)) && ((x17.2.2 : Int) == 3)))] (fun h31 => ?_) (fun h31 => ?_) ?_
 refine qb (os := _) rfl (qj (k := 71) rfl h31 ?_)
 refine au [3,24,11,23] ?_
 refine qc (d := 74) (v := .bool (((((((x24 && ((x12.2.1 : Int) == 2)) && ((x12.2.2 : Int) == 0)) && x15.1) && ((x15.2 : Int) == 0)) && (!x16.1)) && ((x16.2 : Int) == 0)) && ((x17.2.2 : Int) == 3))) rfl (by rw [h31]; simp only [Bool.true_and]) ?_
 exact az [0,18]
 refine qb (os := _) rfl (qi (k := 71) rfl h31 ?_)
 refine au [7,7,24,0] ?_
 refine qc (d := 74) (v := .bool (((((((x24 && ((x12.2.1 : Int) == 2)) && ((x12.2.2 : Int) == 0)) && x15.1) && ((x15.2 : Int) == 0)) && (!x16.1)) && ((x16.2 : Int) == 0)) && ((x17.2.2 : Int) == 3))) rfl (by rw [h31]; simp only [Bool.false_and]) ?_
 exact az [0,18]
 refine qb (os := _) rfl ?_
 refine au [3] ?_
 refine qK 4 (fun ((x34, _) : (Bool × Unit)) => ([(1, .pointer (some ⟨g11, 0, none⟩)), (79, .bool x34)], [⟨g11, 35, [.int .i64 x4.1, .int .i64 x4.2.1, .int .i64 x4.2.2.1, .int .i64 x4.2.2.2.1, .int .i64 x4.2.2.2.2.1, .slice a5 x4.2.2.2.2.2.1.length c6, .int .i64 x4.2.2.2.2.2.2.1, .int .i64 x4.2.2.2.2.2.2.2.1, .int .i64 x4.2.2.2.2.2.2.2.2.1, .int .i64 x4.2.2.2.2.2.2.2.2.2.1, .slice a7 x4.2.2.2.2.2.2.2.2.2.2.1.length c8, .int .i64 x4.2.2.2.2.2.2.2.2.2.2.2.1, .slice a9 x4.2.2.2.2.2.2.2.2.2.2.2.2.1.length c10]⟩], [Ro (eI .u8) 5 1 (.slice a5 x4.2.2.2.2.2.1.length c6) x4.2.2.2.2.2.1, Ro (eI .u8) 5 1 (.slice a7 x4.2.2.2.2.2.2.2.2.2.2.1.length c8) x4.2.2.2.2.2.2.2.2.2.2.1, Ro (eI .u8) 5 1 (.slice a9 x4.2.2.2.2.2.2.2.2.2.2.2.2.1.length c10) x4.2.2.2.2.2.2.2.2.2.2.2.2.1], [], v7 F x4 x34)) ?_ ?_
 refine qb (os := _) rfl ?_
 refine av [25,8] ?_ ?_
 intro h32
 refine qj (k := 75) rfl h32 ?_
 refine au [24,5,28,13] ?_
 intro x39 e39 _
 refine au [24,11,23,0] ?_
 exact qa (((x39 : Int) == 0), ())
 intro h32
 refine qi (k := 75) rfl h32 ?_
 refine au [7,7,7,24,0,0] ?_
 exact qa (false, ())
 rintro ⟨x34, _⟩
 try dsimp only
 refine qb (os := _) rfl ?_
 refine au [3] ?_
 refine qK 6 (fun ((x37, _) : (Bool × Unit)) => ([(86, .bool x37)], [], [], [], qaq F x37)) ?_ ?_
 refine qb (os := _) rfl ?_
 refine av [25,8] ?_ ?_
 intro h35
 refine qj (k := 80) rfl h35 ?_
 refine au [9,24,5] ?_
 refine qn (cells := [.int .i64 x4.1, .int .i64 x4.2.1, .int .i64 x4.2.2.1, .int .i64 x4.2.2.2.1, .int .i64 x4.2.2.2.2.1, .slice a5 x4.2.2.2.2.2.1.length c6, .int .i64 0, .int .i64 0, .int .i64 0, .int .i64 0, .slice none 0 0, .int .i64 0, .slice none 0 0]) rfl st35 rfl (by kernel_rfl) rfl ?_
 refine au [26,9,26,9,28,13] ?_
 intro x38 e38 _
 refine au [24,11,23,0] ?_
 exact qa (((x38 : Int) == 4), ())
 intro h35
 refine qi (k := 80) rfl h35 ?_
 refine au [7,7,7,7,7,24,0,0] ?_
 exact qa (false, ())
 rintro ⟨x37, _⟩
 try dsimp only
 refine qb (os := _) rfl ?_
 exact az [5,0,1,10,15]
set_option maxHeartbeats 4000000 in
theorem qfY {F : Nat} {x1 : List Int} {a2 : Option Addr} {c3 : Nat} {x4 : List Int} {a5 : Option Addr} {c6 : Nat} {r : Bool} (hm : qaU F x1 x4 = some r) :
    Pure Tryz.prog 97 [.slice a2 x1.length c3, .slice a5 x4.length c6] [Sl (eI .u8) 1 (.slice a2 x1.length c3) x1, Sl (eI .u8) 1 (.slice a5 x4.length c6) x4] Unit (fun _ => .bool r) (fun _ => []) (fun _ => []) := by
 refine qh Tryz.func97 rfl Tryz.ntmps97 rfl hm (fun w => ?_)
 refine av [24,10,2,4,5,0,1,2,2,4,3,24,7,3,24,7,25,3,0,1,11] ?_ ?_
 intro _
 exact az [2,4,5,0,1,10,12,15]
 intro _
 refine au [13,1] ?_
 refine qf (fun ((_, _) : (Unit × Unit)) => ([], [], [], [], qcg F)) ?_ ?_
 refine au [2,4,5,0,1,17] ?_
 refine qy (fun ((x154, _) : (Int × Unit)) => ([(0, .slice a2 x1.length c3), (1, .slice a5 x4.length c6), (5, .int .i64 x154)], [], [], [Sl (eI .u8) 1 (.slice a2 x1.length c3) x1, Sl (eI .u8) 1 (.slice a5 x4.length c6) x4])) (fun k (s : (Int × Unit)) => kZ F x1 x4 k s.1) (0, ()) F ?_
 intro k191
 rintro ⟨x154, _⟩
 try dsimp only
 refine qI (m' := jI F x1 x4 (kZ F x1 x4 k191) x154) rfl ?_
 refine av [2,2,4,3,3,24,7,24,4,0,1,11] ?_ ?_
 intro _
 refine au [13,1,2,17,2,29,13] ?_
 intro x218 e218 b219 o220 h221
 replace h221 : a2 = some ⟨b219, o220, none⟩ := h221
 refine au [33,15] ?_
 intro x222 e222 b223 o224 h225
 replace h225 : a5 = some ⟨b223, o224, none⟩ := h225
 refine qA mixed [] [] [qX b223 (o224 + x154.toNat * 1) ((eI .u8) x222), qX b219 (o220 + x154.toNat * 1) ((eI .u8) x218), Sl (eI .u8) 1 (.slice a2 x1.length c3) x1, Sl (eI .u8) 1 (.slice a5 x4.length c6) x4] .nil (qR 0 rfl (qR 1 rfl (qR 2 rfl (qR 3 rfl qw)))) 9 rfl ?_
 refine au [6,0,6,1] ?_
 refine qg (d := 17) (v := .slice (some ⟨b219, o220, none⟩) x1.length c3) rfl (by rw [h221] <;> rfl) (qk 2 (.pointer (some ⟨b219, (o220 + x154.toNat * 1), none⟩)) rfl rfl rfl (qbm Tryz.underlying27 tf5 rfl rfl (zA e218).1 (qaO e218)) (qg (d := 17) (v := .slice a2 x1.length c3) rfl (by rw [h221] <;> rfl) (zk 3 (.int .u8 x218) [] rfl rfl rfl (vR (j := 1) rfl tf5 rfl rfl (fun _ => rfl) rfl) ?_)))
 refine au [6,4,6,5] ?_
 refine qg (d := 21) (v := .slice (some ⟨b223, o224, none⟩) x4.length c6) rfl (by rw [h225] <;> rfl) (qk 6 (.pointer (some ⟨b223, (o224 + x154.toNat * 1), none⟩)) rfl rfl rfl (qbm Tryz.underlying27 tf5 rfl rfl (zA e222).1 (qaO e222)) (qg (d := 21) (v := .slice a5 x4.length c6) rfl (by rw [h225] <;> rfl) (zk 7 (.int .u8 x222) [] rfl rfl rfl (vR (j := 0) rfl tf5 rfl rfl (fun _ => rfl) rfl) ?_)))
 refine au [6,8,24,6] ?_
 refine qz ?_ (by intro c h; cases h)
 refine av [1,11] ?_ ?_
 intro _
 exact az [2,4,5,0,1,10,24,2,12,12,24,2,12,15]
 intro _
 refine au [13,24,8,1,4,3,19,5,0] ?_
 exact ql (iadd .i64 x154 1, ())
 intro _
 exact az [24,13,22,22,24,14,26,0]
 rintro ⟨_, _⟩
 try dsimp only
 exact az [2,4,5,0,1,10,15]
theorem qgX {F : Nat} {x1 : Int} {x2 : List Int} {a3 : Option Addr} {c4 : Nat} {x5 : Int} {x6 : List Int} {a7 : Option Addr} {c8 : Nat} {r : Bool} (hm : vp F x1 x2 x5 x6 = some r) :
    Pure Tryz.prog 69 [.agg #[.int .i64 x1, .slice a3 x2.length c4], .agg #[.int .i64 x5, .slice a7 x6.length c8]] [Sl (eI .u8) 1 (.slice a3 x2.length c4) x2, Sl (eI .u8) 1 (.slice a7 x6.length c8) x6] Unit (fun _ => .bool r) (fun _ => []) (fun _ => []) := by
 refine qh Tryz.func69 rfl Tryz.ntmps69 rfl hm (fun w => ?_)
 refine au [24,10,2,4,20] ?_
 intro g9
 refine au [20] ?_
 intro g10
 refine au [5,0,1,2,4,9,25,0,9,16,24,11,3] ?_
 refine qK 6 (fun ((x13, _) : (Bool × Unit)) => ([(16, .bool x13)], [], [], [], vE F x13)) ?_ ?_
 refine qb (os := _) rfl ?_
 refine av [25,8] ?_ ?_
 intro h11
 refine qj (k := 10) rfl h11 ?_
 refine au [9,25,0,9,16] ?_
 refine qe qfY ?_
 intro x14 e14 _
 refine au [23,0] ?_
 exact qa (x14, ())
 intro h11
 refine qi (k := 10) rfl h11 ?_
 refine au [7,7,7,7,7,24,0,0] ?_
 exact qa (false, ())
 rintro ⟨x13, _⟩
 try dsimp only
 refine qb (os := _) rfl ?_
 exact az [5,0,1,10,15]
set_option maxHeartbeats 4000000 in
theorem qgY {F : Nat} {x1 : Int} {x2 : Int} {x3 : Int} {x4 : Int} {x5 : List Int} {a6 : Option Addr} {c7 : Nat} {x8 : Int} {x9 : List Int} {a10 : Option Addr} {c11 : Nat} {x12 : Int} {x13 : Int} {x14 : Int} {x15 : Int} {x16 : List Int} {a17 : Option Addr} {c18 : Nat} {x19 : Int} {x20 : List Int} {a21 : Option Addr} {c22 : Nat} {r : Bool} (hm : qbo F x1 x2 x3 x4 x5 x8 x9 x12 x13 x14 x15 x16 x19 x20 = some r) :
    Pure Tryz.prog 31 [.agg #[.int .i64 x1, .int .i64 x2, .int .i64 x3, .int .i64 x4, .slice a6 x5.length c7, .int .i64 x8, .slice a10 x9.length c11], .agg #[.int .i64 x12, .int .i64 x13, .int .i64 x14, .int .i64 x15, .slice a17 x16.length c18, .int .i64 x19, .slice a21 x20.length c22]] [Sl (eI .u8) 1 (.slice a6 x5.length c7) x5, Sl (eI .u8) 1 (.slice a10 x9.length c11) x9, Sl (eI .u8) 1 (.slice a17 x16.length c18) x16, Sl (eI .u8) 1 (.slice a21 x20.length c22) x20] Unit (fun _ => .bool r) (fun _ => []) (fun _ => []) := by
 refine qh Tryz.func31 rfl Tryz.ntmps31 rfl hm (fun w => ?_)
 refine au [24,10,2,4,20] ?_
 intro g23
 refine au [20] ?_
 intro g24
 refine au [5,0,1,2,4,9,25,0,9,16,24,11,3] ?_
 refine qo 6 ((x1 : Int) == x12) [(2, .pointer (some ⟨g23, 0, none⟩)), (3, .pointer (some ⟨g24, 0, none⟩)), (16, .bool (((x1 : Int) == x12) && ((x2 : Int) == x13)))] (fun h25 => ?_) (fun h25 => ?_) ?_
 refine qb (os := _) rfl (qj (k := 10) rfl h25 ?_)
 refine au [9,25,0,9,16,24,11,23] ?_
 refine qc (d := 16) (v := .bool (((x1 : Int) == x12) && ((x2 : Int) == x13))) rfl (by rw [h25]; simp only [Bool.true_and]) ?_
 exact az [0,18]
 refine qb (os := _) rfl (qi (k := 10) rfl h25 ?_)
 refine au [7,7,7,7,7,24,0] ?_
 refine qc (d := 16) (v := .bool (((x1 : Int) == x12) && ((x2 : Int) == x13))) rfl (by rw [h25]; simp only [Bool.false_and]) ?_
 exact az [0,18]
 refine qb (os := _) rfl ?_
 refine au [3] ?_
 refine qo 6 (((x1 : Int) == x12) && ((x2 : Int) == x13)) [(2, .pointer (some ⟨g23, 0, none⟩)), (3, .pointer (some ⟨g24, 0, none⟩)), (23, .bool ((((x1 : Int) == x12) && ((x2 : Int) == x13)) && ((x3 : Int) == x14)))] (fun h26 => ?_) (fun h26 => ?_) ?_
 refine qb (os := _) rfl (qj (k := 17) rfl h26 ?_)
 refine au [9,25,0,9,16,24,11,23] ?_
 refine qc (d := 23) (v := .bool ((((x1 : Int) == x12) && ((x2 : Int) == x13)) && ((x3 : Int) == x14))) rfl (by rw [h26]; simp only [Bool.true_and]) ?_
 exact az [0,18]
 refine qb (os := _) rfl (qi (k := 17) rfl h26 ?_)
 refine au [7,7,7,7,7,24,0] ?_
 refine qc (d := 23) (v := .bool ((((x1 : Int) == x12) && ((x2 : Int) == x13)) && ((x3 : Int) == x14))) rfl (by rw [h26]; simp only [Bool.false_and]) ?_
 exact az [0,18]
 refine qb (os := _) rfl ?_
 refine au [3] ?_
 refine qK 6 (fun ((x29, _) : (Bool × Unit)) => ([(2, .pointer (some ⟨g23, 0, none⟩)), (3, .pointer (some ⟨g24, 0, none⟩)), (30, .bool x29)], [⟨g24, 33, [.int .i64 x12, .int .i64 x13, .int .i64 x14, .int .i64 x15, .slice a17 x16.length c18, .int .i64 x19, .slice a21 x20.length c22]⟩, ⟨g23, 33, [.int .i64 x1, .int .i64 x2, .int .i64 x3, .int .i64 x4, .slice a6 x5.length c7, .int .i64 x8, .slice a10 x9.length c11]⟩], [], [Sl (eI .u8) 1 (.slice a17 x16.length c18) x16, Sl (eI .u8) 1 (.slice a21 x20.length c22) x20, Sl (eI .u8) 1 (.slice a6 x5.length c7) x5, Sl (eI .u8) 1 (.slice a10 x9.length c11) x9], vF F x8 x9 x19 x20 x29)) ?_ ?_
 refine qb (os := _) rfl ?_
 refine av [25,8] ?_ ?_
 intro h27
 refine qj (k := 24) rfl h27 ?_
 refine au [9,25,2,9,24,5,30,9] ?_
 intro x34 e34 _
 refine au [23,0] ?_
 exact qa (x34, ())
 intro h27
 refine qi (k := 24) rfl h27 ?_
 refine au [7,7,7,7,7,24,0,0] ?_
 exact qa (false, ())
 rintro ⟨x29, _⟩
 try dsimp only
 refine qb (os := _) rfl ?_
 refine au [3] ?_
 refine qK 6 (fun ((x32, _) : (Bool × Unit)) => ([(37, .bool x32)], [], [], [], j5 F x32)) ?_ ?_
 refine qb (os := _) rfl ?_
 refine av [25,8] ?_ ?_
 intro h30
 refine qj (k := 31) rfl h30 ?_
 refine au [9,25,2,9,24,5,30,9] ?_
 intro x33 e33 _
 refine au [23,0] ?_
 exact qa (x33, ())
 intro h30
 refine qi (k := 31) rfl h30 ?_
 refine au [7,7,7,7,7,24,0,0] ?_
 exact qa (false, ())
 rintro ⟨x32, _⟩
 try dsimp only
 refine qb (os := _) rfl ?_
 exact az [5,0,1,10,15]
set_option maxHeartbeats 4000000 in
theorem qe5 {F : Nat} {x1 : Int} {x2 : Int} {x3 : Int} {x4 : Int} {x5 : Int} {x6 : List Int} {a7 : Option Addr} {c8 : Nat} {x9 : Int} {x10 : Int} {x11 : Int} {x12 : Int} {x13 : Int} {x14 : List Int} {a15 : Option Addr} {c16 : Nat} {r : Bool} (hm : qbC F x1 x2 x3 x4 x5 x6 x9 x10 x11 x12 x13 x14 = some r) :
    Pure Tryz.prog 33 [.agg #[.int .i64 x1, .int .i64 x2, .int .i64 x3, .int .i64 x4, .int .i64 x5, .slice a7 x6.length c8], .agg #[.int .i64 x9, .int .i64 x10, .int .i64 x11, .int .i64 x12, .int .i64 x13, .slice a15 x14.length c16]] [Sl (eI .u8) 1 (.slice a7 x6.length c8) x6, Sl (eI .u8) 1 (.slice a15 x14.length c16) x14] Unit (fun _ => .bool r) (fun _ => []) (fun _ => []) := by
 refine qh Tryz.func33 rfl Tryz.ntmps33 rfl hm (fun w => ?_)
 refine au [24,10,2,4,20] ?_
 intro g17
 refine au [20] ?_
 intro g18
 refine au [5,0,1,2,4,9,25,0,9,16,24,11,3] ?_
 refine qo 6 ((x1 : Int) == x9) [(2, .pointer (some ⟨g17, 0, none⟩)), (3, .pointer (some ⟨g18, 0, none⟩)), (16, .bool (((x1 : Int) == x9) && (((x2 : Int) == x10) && (((x3 : Int) == x11) && ((x4 : Int) == x12)))))] (fun h19 => ?_) (fun h19 => ?_) ?_
 refine qb (os := _) rfl (qj (k := 10) rfl h19 ?_)
 refine au [9,25,2,9,24,5] ?_
 refine qnT rfl rfl rfl inferInstance rfl ?_
 refine au [23] ?_
 refine qc (d := 16) (v := .bool (((x1 : Int) == x9) && (((x2 : Int) == x10) && (((x3 : Int) == x11) && ((x4 : Int) == x12))))) rfl (by rw [h19]; simp only [Bool.true_and]) ?_
 exact az [0,18]
 refine qb (os := _) rfl (qi (k := 10) rfl h19 ?_)
 refine au [7,7,7,7,7,24,0] ?_
 refine qc (d := 16) (v := .bool (((x1 : Int) == x9) && (((x2 : Int) == x10) && (((x3 : Int) == x11) && ((x4 : Int) == x12))))) rfl (by rw [h19]; simp only [Bool.false_and]) ?_
 exact az [0,18]
 refine qb (os := _) rfl ?_
 refine au [3] ?_
 refine qK 6 (fun ((x22, _) : (Bool × Unit)) => ([(23, .bool x22)], [], [], [], v8 F x22)) ?_ ?_
 refine qb (os := _) rfl ?_
 refine av [25,8] ?_ ?_
 intro h20
 refine qj (k := 17) rfl h20 ?_
 refine au [9,25,2,9,24,5,30,9] ?_
 intro x23 e23 _
 refine au [23,0] ?_
 exact qa (x23, ())
 intro h20
 refine qi (k := 17) rfl h20 ?_
 refine au [7,7,7,7,7,24,0,0] ?_
 exact qa (false, ())
 rintro ⟨x22, _⟩
 try dsimp only
 refine qb (os := _) rfl ?_
 exact az [5,0,1,10,15]
set_option maxHeartbeats 4000000 in
theorem qf1 {F : Nat} {x1 : Int} {x2 : Int} {x3 : Int} {x4 : Int} {x5 : Int} {x6 : List Int} {a7 : Option Addr} {c8 : Nat} {x9 : Int} {x10 : Int} {x11 : Int} {x12 : Int} {x13 : List Int} {a14 : Option Addr} {c15 : Nat} {x16 : Int} {x17 : List Int} {a18 : Option Addr} {c19 : Nat} {x20 : Int} {x21 : Int} {x22 : Int} {x23 : Int} {x24 : Int} {x25 : List Int} {a26 : Option Addr} {c27 : Nat} {x28 : Int} {x29 : Int} {x30 : Int} {x31 : Int} {x32 : List Int} {a33 : Option Addr} {c34 : Nat} {x35 : Int} {x36 : List Int} {a37 : Option Addr} {c38 : Nat} {r : Bool} (hm : qaX F x1 x2 x3 x4 x5 x6 x9 x10 x11 x12 x13 x16 x17 x20 x21 x22 x23 x24 x25 x28 x29 x30 x31 x32 x35 x36 = some r) :
    Pure Tryz.prog 15 [.agg #[.int .i64 x1, .int .i64 x2, .int .i64 x3, .int .i64 x4, .int .i64 x5, .slice a7 x6.length c8, .int .i64 x9, .int .i64 x10, .int .i64 x11, .int .i64 x12, .slice a14 x13.length c15, .int .i64 x16, .slice a18 x17.length c19], .agg #[.int .i64 x20, .int .i64 x21, .int .i64 x22, .int .i64 x23, .int .i64 x24, .slice a26 x25.length c27, .int .i64 x28, .int .i64 x29, .int .i64 x30, .int .i64 x31, .slice a33 x32.length c34, .int .i64 x35, .slice a37 x36.length c38]] [Sl (eI .u8) 1 (.slice a7 x6.length c8) x6, Sl (eI .u8) 1 (.slice a14 x13.length c15) x13, Sl (eI .u8) 1 (.slice a18 x17.length c19) x17, Sl (eI .u8) 1 (.slice a26 x25.length c27) x25, Sl (eI .u8) 1 (.slice a33 x32.length c34) x32, Sl (eI .u8) 1 (.slice a37 x36.length c38) x36] Unit (fun _ => .bool r) (fun _ => []) (fun _ => []) := by
 refine qh Tryz.func15 rfl Tryz.ntmps15 rfl hm (fun w => ?_)
 refine au [24,10,2,4,20] ?_
 intro g39
 refine au [20] ?_
 intro g40
 refine au [5,0,1,2,4,9,25,2,9,24,5] ?_
 refine qe qe5 ?_
 intro x41 e41 _
 refine au [3] ?_
 refine qK 6 (fun ((x44, _) : (Bool × Unit)) => ([(16, .bool x44)], [], [], [], qaK F x44)) ?_ ?_
 refine qb (os := _) rfl ?_
 refine av [25,8] ?_ ?_
 intro h42
 refine qj (k := 10) rfl h42 ?_
 refine au [9,25,2,9,24,5] ?_
 refine qe qgY ?_
 intro x45 e45 _
 refine au [23,0] ?_
 exact qa (x45, ())
 intro h42
 refine qi (k := 10) rfl h42 ?_
 refine au [7,7,7,7,7,24,0,0] ?_
 exact qa (false, ())
 rintro ⟨x44, _⟩
 try dsimp only
 refine qb (os := _) rfl ?_
 exact az [5,0,1,10,15]
set_option maxHeartbeats 4000000 in
theorem qf0 {F : Nat} {x1 : List (List Int)} {a2 : Option Addr} {c3 : Nat} {s3 : List (Option Addr × Nat)} {x4 : List (List Int)} {a5 : Option Addr} {c6 : Nat} {s6 : List (Option Addr × Nat)} {r : Bool} (hm : qaW F x1 x4 = some r) :
    Pure Tryz.prog 50 [.slice a2 x1.length c3, .slice a5 x4.length c6] [SlN eN39 iN39 1 (.slice a2 x1.length c3) x1 s3, SlN eN39 iN39 1 (.slice a5 x4.length c6) x4 s6] Unit (fun _ => .bool r) (fun _ => []) (fun _ => []) := by
 refine qh Tryz.func50 rfl Tryz.ntmps50 rfl hm (fun w => ?_)
 refine av [24,10,2,4,5,0,1,2,2,4,3,24,7,3,24,7,25,3,0,1,11] ?_ ?_
 intro _
 exact az [2,4,5,0,1,10,12,15]
 intro _
 refine au [13,1] ?_
 refine qf (fun ((_, _) : (Unit × Unit)) => ([], [], [], [], qch F)) ?_ ?_
 refine au [2,4,5,0,1,17] ?_
 refine qy (fun ((x202, _) : (Int × Unit)) => ([(0, .slice a2 x1.length c3), (1, .slice a5 x4.length c6), (5, .int .i64 x202)], [], [], [SlN eN39 iN39 1 (.slice a2 x1.length c3) x1 s3, SlN eN39 iN39 1 (.slice a5 x4.length c6) x4 s6])) (fun k (s : (Int × Unit)) => k6 F x1 x4 k s.1) (0, ()) F ?_
 intro k251
 rintro ⟨x202, _⟩
 try dsimp only
 refine qI (m' := jJ F x1 x4 (k6 F x1 x4 k251) x202) rfl ?_
 refine av [2,2,4,3,3,24,7,24,4,0,1,11] ?_ ?_
 intro _
 refine au [13,1,2,17,2] ?_
 refine qi2 (j := 0) qai (by decide) rfl ?_
 intro x287 e287 g291 b288 o289 h290
 replace h290 : a2 = some ⟨b288, o289, none⟩ := h290
 refine qi2 (j := 3) qai (by decide) rfl ?_
 intro x292 e292 g296 b293 o294 h295
 replace h295 : a5 = some ⟨b293, o294, none⟩ := h295
 refine qA mixed [] [] [qX b293 (o294 + x202.toNat * 1) (eN39 (x292, g296)), Sl (eI .i64) 1 (.slice g296.1 x292.length g296.2) x292, qX b288 (o289 + x202.toNat * 1) (eN39 (x287, g291)), Sl (eI .i64) 1 (.slice g291.1 x287.length g291.2) x287, SlN eN39 iN39 1 (.slice a2 x1.length c3) x1 s3, SlN eN39 iN39 1 (.slice a5 x4.length c6) x4 s6] .nil (qR 0 rfl (qR 1 rfl (qR 2 rfl (qR 3 rfl (qR 4 rfl (qR 5 rfl qw)))))) 10 rfl ?_
 refine au [6,0,6,1] ?_
 refine qg (d := 17) (v := .slice (some ⟨b288, o289, none⟩) x1.length c3) rfl (by rw [h290] <;> rfl) (qk 2 (.pointer (some ⟨b288, (o289 + x202.toNat * 1), none⟩)) rfl rfl rfl (qbm Tryz.underlying22 tf39 rfl rfl (zA e287).1 (qaO e287)) (qg (d := 17) (v := .slice a2 x1.length c3) rfl (by rw [h290] <;> rfl) (zk 3 (.slice g291.1 x287.length g291.2) [] rfl rfl rfl (vR (j := 2) rfl tf39 rfl rfl (fun _ => rfl) rfl) ?_)))
 refine au [6,4,6,5] ?_
 refine qg (d := 21) (v := .slice (some ⟨b293, o294, none⟩) x4.length c6) rfl (by rw [h295] <;> rfl) (qk 6 (.pointer (some ⟨b293, (o294 + x202.toNat * 1), none⟩)) rfl rfl rfl (qbm Tryz.underlying22 tf39 rfl rfl (zA e292).1 (qaO e292)) (qg (d := 21) (v := .slice a5 x4.length c6) rfl (by rw [h295] <;> rfl) (zk 7 (.slice g296.1 x292.length g296.2) [] rfl rfl rfl (vR (j := 0) rfl tf39 rfl rfl (fun _ => rfl) rfl) ?_)))
 refine au [24,1,8,34,5] ?_
 intro x297 e297 _
 refine au [0] ?_
 refine zJ .nil (qR 0 rfl (qR 1 rfl (qR 2 rfl (qR 3 rfl (qR 4 rfl (qR 5 rfl qw)))))) ?_
 refine au [6,9,24,6] ?_
 refine qz ?_ (by intro c h; cases h)
 refine av [1,11] ?_ ?_
 intro _
 exact az [2,4,5,0,1,10,24,2,12,12,24,2,12,15]
 intro _
 refine au [13,24,8,1,4,3,19,5,0] ?_
 exact ql (iadd .i64 x202 1, ())
 intro _
 exact az [24,13,22,22,24,14,26,0]
 rintro ⟨_, _⟩
 try dsimp only
 exact az [2,4,5,0,1,10,15]
theorem qfZ {F : Nat} {x1 : List (List Int)} {a2 : Option Addr} {c3 : Nat} {s3 : List (Option Addr × Nat)} {x4 : List (List Int)} {a5 : Option Addr} {c6 : Nat} {s6 : List (Option Addr × Nat)} {r : Bool} (hm : qaV F x1 x4 = some r) :
    Pure Tryz.prog 36 [.agg #[.slice a2 x1.length c3], .agg #[.slice a5 x4.length c6]] [SlN eN39 iN39 1 (.slice a2 x1.length c3) x1 s3, SlN eN39 iN39 1 (.slice a5 x4.length c6) x4 s6] Unit (fun _ => .bool r) (fun _ => []) (fun _ => []) := by
 refine qh Tryz.func36 rfl Tryz.ntmps36 rfl hm (fun w => ?_)
 refine au [24,10,2,4,20] ?_
 intro g7
 refine au [20] ?_
 intro g8
 refine au [5,0,1,2,4,9,25,0,9,16] ?_
 refine qe qf0 ?_
 intro x9 e9 _
 exact az [5,0,1,10,15]
set_option maxHeartbeats 4000000 in
theorem qfW (F : Nat)  (r : Bool) (hm : qaT F  = some r) :
    Pure Tryz.prog 19 [] [] Unit (fun _ => .bool r) (fun _ => []) (fun _ => []) := by
 refine qh Tryz.func19 rfl Tryz.ntmps19 rfl hm (fun w => ?_)
 refine au [30,8,2,4,5,0,1,2,4] ?_
 refine qn (cells := [.int .i64 3, .int .i64 3, .int .i64 2]) rfl st26 rfl (by kernel_rfl) rfl ?_
 refine au [24,9] ?_
 intro g1
 refine au [24,3,0,1] ?_
 refine qf (fun (((x21, x22, x23, x24, x25, x26, x29), (g20, a27, c28)) : ((Int × Int × Int × Int × Int × Int × List Int) × (Nat × Option Addr × Nat))) => ([(1, .pointer (some ⟨g1, 0, none⟩)), (2, .pointer (some ⟨g20, 0, none⟩)), (3, .int .i64 x21)], [⟨g1, 26, [.int .i64 3, .int .i64 3, .int .i64 2]⟩, ⟨g20, 31, [.int .i64 x22, .int .i64 x23, .int .i64 x24, .int .i64 x25, .int .i64 x26, .slice a27 x29.length c28]⟩], [Ro (eI .u8) 5 1 (.slice a27 x29.length c28) x29], [], yV F x21 x22 x23 x24 x25 x26 x29)) ?_ ?_
 refine qA mixed [] [⟨g1, 26, [.int .i64 3, .int .i64 3, .int .i64 2]⟩] [] (.cons 0 rfl .nil) qw 9 rfl (zy 1 (.agg #[.int .i64 3, .int .i64 3, .int .i64 2]) rfl rfl rfl (qW (i := 0) rfl tf26 rfl rfl (by simp) rfl) (qcH 0 6 rfl rfl (by kernel_rfl) rfl rfl ?_ ?_))
 refine au [28,3] ?_
 rintro x103 e103 ⟨a104, c105⟩
 refine au [0,34,6] ?_
 refine qcH 2 6 rfl rfl (by kernel_rfl) rfl rfl ?_ ?_
 refine au [28,2] ?_
 rintro x106 e106 ⟨a107, c108⟩
 refine au [0,34,6,6,3,6,4,6,5,24,1,6,24,9] ?_
 intro g109
 refine au [0,26,11,24,1,7,24,3,0,26,11,6,8,24,6] ?_
 exact qz (qa ((x106.2.2.2.2.2.2, x106.1, x106.2.1, x106.2.2.1, x106.2.2.2.1, x106.2.2.2.2.1, x106.2.2.2.2.2.1), (g109, a107, c108))) (by intro c h; cases h)
 refine qcK (m' := ((yH F x103 3 3 2).bind fun x111 => yV F x111.2.2.2.2.2.2 x111.1 x111.2.1 x111.2.2.1 x111.2.2.2.1 x111.2.2.2.2.1 x111.2.2.2.2.2.1)) (rfl) ?_
 refine au [24,9] ?_
 intro g110
 refine au [0,26,11,24,1,2,28,2] ?_
 rintro x111 e111 ⟨a112, c113⟩
 refine au [0,26,11,6,3,6,4,6,5,24,1,7,24,3,0,26,11,6,8,24,6] ?_
 exact qz (qa ((x111.2.2.2.2.2.2, x111.1, x111.2.1, x111.2.2.1, x111.2.2.2.1, x111.2.2.2.2.1, x111.2.2.2.2.2.1), (g110, a112, c113))) (by intro c h; cases h)
 refine qcK (m' := ((kY F).bind fun x115 => ((yH F x115 3 3 2).bind fun x118 => yV F x118.2.2.2.2.2.2 x118.1 x118.2.1 x118.2.2.1 x118.2.2.2.1 x118.2.2.2.2.1 x118.2.2.2.2.2.1))) (rfl) ?_
 refine au [24,9] ?_
 intro g114
 refine au [0,26,11,24,1,0,28,3] ?_
 rintro x115 e115 ⟨a116, c117⟩
 refine au [0,26,11,24,1,2,28,2] ?_
 rintro x118 e118 ⟨a119, c120⟩
 refine au [0,26,11,6,3,6,4,6,5,24,1,7,24,3,0,26,11,6,8,24,6] ?_
 exact qz (qa ((x118.2.2.2.2.2.2, x118.1, x118.2.1, x118.2.2.1, x118.2.2.2.1, x118.2.2.2.2.1, x118.2.2.2.2.2.1), (g114, a119, c120))) (by intro c h; cases h)
 rintro ⟨⟨x21, x22, x23, x24, x25, x26, x29⟩, ⟨g20, a27, c28⟩⟩
 try dsimp only
 refine au [2,4,25,2,28,11] ?_
 rintro x30 e30 ⟨a31, c32⟩
 refine au [3,14,14,24,9] ?_
 intro g33
 refine au [24,3,5,0,1,2] ?_
 refine qA mixed [] [⟨g33, 24, [.slice a31 x30.1.length c32.1]⟩, ⟨g1, 26, [.int .i64 3, .int .i64 3, .int .i64 2]⟩, ⟨g20, 31, [.int .i64 x22, .int .i64 x23, .int .i64 x24, .int .i64 x25, .int .i64 x26, .slice a27 x29.length c28]⟩] [] (.cons 0 rfl (.cons 0 rfl (.cons 0 rfl .nil))) qw 10 rfl (zy 1 (.agg #[.int .i64 3, .int .i64 3, .int .i64 2]) rfl rfl rfl (qW (i := 1) rfl tf26 rfl rfl (by simp) rfl) ?_)
 refine au [24,1,0,28,3] ?_
 rintro x42 e42 ⟨a43, c44⟩
 refine au [0,34,7,24,1,2,29,12] ?_
 rintro x45 e45 ⟨⟨a46, c47⟩, ⟨a48, c49⟩⟩
 refine au [0,34,7,6,3,6,4,6,5,6,6,6,7,6,8,6,9,24,6] ?_
 refine qz ?_ (by intro c h; cases h)
 refine au [1,2,4,25,2] ?_
 refine qn (cells := [.int .i64 1, .int .i64 3, .int .i64 3, .int .i64 2, .int .i64 0, .slice none 0 0]) rfl st31 rfl (by kernel_rfl) rfl ?_
 refine au [26,9,28,11] ?_
 rintro x50 e50 ⟨a51, c52⟩
 refine au [3,14,14,24,9] ?_
 intro g53
 refine au [24,3,5,0,1] ?_
 refine qf (fun ((x78, _) : (Bool × Unit)) => ([(0, .bool x78)], [], [], [], qS F x78)) ?_ ?_
 refine av [26,13] ?_ ?_
 intro h79
 refine av [26,13] ?_ ?_
 intro h80
 refine av [26,13] ?_ ?_
 intro h81
 refine qA mixed [] [⟨g53, 24, [.slice a51 x50.1.length c52.1]⟩, ⟨g33, 24, [.slice a31 x30.1.length c32.1]⟩, ⟨g1, 26, [.int .i64 3, .int .i64 3, .int .i64 2]⟩, ⟨g20, 31, [.int .i64 x22, .int .i64 x23, .int .i64 x24, .int .i64 x25, .int .i64 x26, .slice a27 x29.length c28]⟩] [] (.cons 0 rfl (.cons 0 rfl (.cons 0 rfl (.cons 0 rfl .nil)))) qw 59 rfl ?_
 refine au [6,0,6,1,6,2] ?_
 refine qg (d := 38) (v := .bool true) rfl (by rw [h79] <;> rfl) ?_
 refine au [21,3,28,7,4,6,5,6,6,6,7] ?_
 refine qg (d := 43) (v := .bool true) rfl (by rw [h80] <;> rfl) ?_
 refine au [21,8] ?_
 refine zy 9 (.agg #[.int .i64 x23, .int .i64 x24, .int .i64 x25]) rfl rfl rfl (qW (i := 3) rfl tf26 rfl rfl (by simp) rfl) (zy 10 (.agg #[.int .i64 3, .int .i64 3, .int .i64 2]) rfl rfl rfl (qW (i := 2) rfl tf26 rfl rfl (by simp) rfl) (qk 11 (.bool (((x23 : Int) == 3) && (((x24 : Int) == 3) && ((x25 : Int) == 2)))) rfl rfl rfl (qlk rfl rfl se26) ?_))
 refine au [6,12,6,13] ?_
 refine qg (d := 49) (v := .bool true) rfl (by rw [h81] <;> rfl) (zy 14 (.agg #[.slice a31 x30.1.length c32.1]) rfl rfl rfl (qW (i := 1) rfl tf24 rfl rfl (by simp) rfl) ?_)
 refine au [24,1,15,28,3] ?_
 rintro x82 e82 ⟨a83, c84⟩
 refine au [0,26,15,24,1,16] ?_
 refine qe qfZ ?_
 intro x85 e85 _
 refine av [0,26,15,6,17,6,18,26,1] ?_ ?_
 intro h86
 refine qg (d := 54) (v := .bool true) rfl (by rw [h86] <;> rfl) ?_
 refine av [6,19,6,20,6,21,6,22,26,1] ?_ ?_
 intro h87
 refine qg (d := 58) (v := .bool true) rfl (by rw [h87] <;> rfl) ?_
 refine av [6,23,27,8,24,6,25,6,26,6,27,26,1] ?_ ?_
 intro h88
 refine qg (d := 63) (v := .bool true) rfl (by rw [h88] <;> rfl) ?_
 refine au [6,28,24,1,29,34,8] ?_
 intro x89 e89 g90 h91
 refine au [0,26,15,24,1,30] ?_
 refine qeH (j := 3) (y := x89) (qV .i64) rfl rfl tf3 rfl h91 (zA e89).2.2 (fun _ => rfl) rfl rfl ?_
 refine av [0,26,15,6,31,6,32,6,33,26,1] ?_ ?_
 intro h92
 refine qg (d := 69) (v := .bool true) rfl (by rw [h92] <;> rfl) ?_
 refine au [6,34,24,1,35,34,8] ?_
 intro x93 e93 g94 h95
 refine au [0,26,15,24,1,36] ?_
 refine qeH (j := 3) (y := x93) (qV .i64) rfl rfl tf3 rfl h95 (zA e93).2.2 (fun _ => rfl) rfl rfl ?_
 refine av [0,26,15,6,37,6,38,6,39,26,1] ?_ ?_
 intro h96
 refine qg (d := 75) (v := .bool true) rfl (by rw [h96] <;> rfl) ?_
 refine av [6,40,27,8,41,6,42,6,43,6,44,26,1] ?_ ?_
 intro h97
 refine qg (d := 80) (v := .bool true) rfl (by rw [h97] <;> rfl) ?_
 refine au [6,45,24,1,46] ?_
 refine qcJ (j := 4) rfl UnF.u inferInstance rfl rfl rfl rfl ?_
 intro x98 e98 g99 h100
 refine au [0,26,15,24,1,47] ?_
 refine qeH (j := 4) (y := x98) (qV .i64) rfl rfl tf3 rfl h100 (zA e98).2.2 (fun _ => rfl) rfl rfl ?_
 refine av [0,26,15,6,48,6,49,6,50,26,1] ?_ ?_
 intro h101
 refine qg (d := 86) (v := .bool true) rfl (by rw [h101] <;> rfl) ?_
 refine av [6,51,6,52,6,53,6,54,26,1] ?_ ?_
 intro h102
 refine qg (d := 90) (v := .bool true) rfl (by rw [h102] <;> rfl) ?_
 refine au [6,55,6,56,6,57,6,58,24,6] ?_
 exact qz (qa (((x50.2 : Int) == 1), ())) (by intro c h; cases h)
 intro h102
 refine qg (d := 90) (v := .bool false) rfl (by rw [h102] <;> rfl) ?_
 refine au [8,55,8,56,6,57,6,58,24,6] ?_
 exact qz (qa (false, ())) (by intro c h; cases h)
 intro h101
 refine qg (d := 86) (v := .bool false) rfl (by rw [h101] <;> rfl) ?_
 refine au [8,51,8,52,6,53,6,54,8,55,8,56,6,57,6,58,24,6] ?_
 exact qz (qa (false, ())) (by intro c h; cases h)
 intro h97
 refine qg (d := 80) (v := .bool false) rfl (by rw [h97] <;> rfl) ?_
 refine au [8,45,8,46,8,47,8,48,6,49,6,50,8,51,8,52,6,53,6,54,8,55,8,56,6,57,6,58,24,6] ?_
 exact qz (qa (false, ())) (by intro c h; cases h)
 intro h96
 refine qg (d := 75) (v := .bool false) rfl (by rw [h96] <;> rfl) ?_
 refine au [8,40,8,41,8,42,6,43,6,44,8,45,8,46,8,47,8,48,6,49,6,50,8,51,8,52,6,53,6,54,8,55,8,56,6,57,6,58,24,6] ?_
 exact qz (qa (false, ())) (by intro c h; cases h)
 intro h92
 refine qg (d := 69) (v := .bool false) rfl (by rw [h92] <;> rfl) ?_
 refine au [8,34,8,35,8,36,8,37,6,38,6,39,8,40,8,41,8,42,6,43,6,44,8,45,8,46,8,47,8,48,6,49,6,50,8,51,8,52,6,53,6,54,8,55,8,56,6,57,6,58,24,6] ?_
 exact qz (qa (false, ())) (by intro c h; cases h)
 intro h88
 refine qg (d := 63) (v := .bool false) rfl (by rw [h88] <;> rfl) ?_
 refine au [8,28,8,29,8,30,8,31,6,32,6,33,8,34,8,35,8,36,8,37,6,38,6,39,8,40,8,41,8,42,6,43,6,44,8,45,8,46,8,47,8,48,6,49,6,50,8,51,8,52,6,53,6,54,8,55,8,56,6,57,6,58,24,6] ?_
 exact qz (qa (false, ())) (by intro c h; cases h)
 intro h87
 refine qg (d := 58) (v := .bool false) rfl (by rw [h87] <;> rfl) ?_
 refine au [8,23,8,24,8,25,6,26,6,27,8,28,8,29,8,30,8,31,6,32,6,33,8,34,8,35,8,36,8,37,6,38,6,39,8,40,8,41,8,42,6,43,6,44,8,45,8,46,8,47,8,48,6,49,6,50,8,51,8,52,6,53,6,54,8,55,8,56,6,57,6,58,24,6] ?_
 exact qz (qa (false, ())) (by intro c h; cases h)
 intro h86
 refine qg (d := 54) (v := .bool false) rfl (by rw [h86] <;> rfl) ?_
 refine au [8,19,8,20,6,21,6,22,8,23,8,24,8,25,6,26,6,27,8,28,8,29,8,30,8,31,6,32,6,33,8,34,8,35,8,36,8,37,6,38,6,39,8,40,8,41,8,42,6,43,6,44,8,45,8,46,8,47,8,48,6,49,6,50,8,51,8,52,6,53,6,54,8,55,8,56,6,57,6,58,24,6] ?_
 exact qz (qa (false, ())) (by intro c h; cases h)
 intro h81
 refine qA mixed [] [⟨g53, 24, [.slice a51 x50.1.length c52.1]⟩, ⟨g33, 24, [.slice a31 x30.1.length c32.1]⟩, ⟨g1, 26, [.int .i64 3, .int .i64 3, .int .i64 2]⟩, ⟨g20, 31, [.int .i64 x22, .int .i64 x23, .int .i64 x24, .int .i64 x25, .int .i64 x26, .slice a27 x29.length c28]⟩] [] (.cons 0 rfl (.cons 0 rfl (.cons 0 rfl (.cons 0 rfl .nil)))) qw 59 rfl ?_
 refine au [6,0,6,1,6,2] ?_
 refine qg (d := 38) (v := .bool true) rfl (by rw [h79] <;> rfl) ?_
 refine au [21,3,28,7,4,6,5,6,6,6,7] ?_
 refine qg (d := 43) (v := .bool true) rfl (by rw [h80] <;> rfl) ?_
 refine au [21,8] ?_
 refine zy 9 (.agg #[.int .i64 x23, .int .i64 x24, .int .i64 x25]) rfl rfl rfl (qW (i := 3) rfl tf26 rfl rfl (by simp) rfl) (zy 10 (.agg #[.int .i64 3, .int .i64 3, .int .i64 2]) rfl rfl rfl (qW (i := 2) rfl tf26 rfl rfl (by simp) rfl) (qk 11 (.bool (((x23 : Int) == 3) && (((x24 : Int) == 3) && ((x25 : Int) == 2)))) rfl rfl rfl (qlk rfl rfl se26) ?_))
 refine au [6,12,6,13] ?_
 refine qg (d := 49) (v := .bool false) rfl (by rw [h81] <;> rfl) ?_
 refine au [8,14,8,15,8,16,6,17,6,18,8,19,8,20,6,21,6,22,8,23,8,24,8,25,6,26,6,27,8,28,8,29,8,30,8,31,6,32,6,33,8,34,8,35,8,36,8,37,6,38,6,39,8,40,8,41,8,42,6,43,6,44,8,45,8,46,8,47,8,48,6,49,6,50,8,51,8,52,6,53,6,54,8,55,8,56,6,57,6,58,24,6] ?_
 exact qz (qa (false, ())) (by intro c h; cases h)
 intro h80
 refine qA mixed [] [⟨g53, 24, [.slice a51 x50.1.length c52.1]⟩, ⟨g33, 24, [.slice a31 x30.1.length c32.1]⟩, ⟨g1, 26, [.int .i64 3, .int .i64 3, .int .i64 2]⟩, ⟨g20, 31, [.int .i64 x22, .int .i64 x23, .int .i64 x24, .int .i64 x25, .int .i64 x26, .slice a27 x29.length c28]⟩] [] (.cons 0 rfl (.cons 0 rfl (.cons 0 rfl (.cons 0 rfl .nil)))) qw 59 rfl ?_
 refine au [6,0,6,1,6,2] ?_
 refine qg (d := 38) (v := .bool true) rfl (by rw [h79] <;> rfl) ?_
 refine au [21,3,28,7,4,6,5,6,6,6,7] ?_
 refine qg (d := 43) (v := .bool false) rfl (by rw [h80] <;> rfl) ?_
 refine au [8,8,8,9,8,10,8,11,6,12,6,13,8,14,8,15,8,16,6,17,6,18,8,19,8,20,6,21,6,22,8,23,8,24,8,25,6,26,6,27,8,28,8,29,8,30,8,31,6,32,6,33,8,34,8,35,8,36,8,37,6,38,6,39,8,40,8,41,8,42,6,43,6,44,8,45,8,46,8,47,8,48,6,49,6,50,8,51,8,52,6,53,6,54,8,55,8,56,6,57,6,58,24,6] ?_
 exact qz (qa (false, ())) (by intro c h; cases h)
 intro h79
 refine qA mixed [] [⟨g53, 24, [.slice a51 x50.1.length c52.1]⟩, ⟨g33, 24, [.slice a31 x30.1.length c32.1]⟩, ⟨g1, 26, [.int .i64 3, .int .i64 3, .int .i64 2]⟩, ⟨g20, 31, [.int .i64 x22, .int .i64 x23, .int .i64 x24, .int .i64 x25, .int .i64 x26, .slice a27 x29.length c28]⟩] [] (.cons 0 rfl (.cons 0 rfl (.cons 0 rfl (.cons 0 rfl .nil)))) qw 59 rfl ?_
 refine au [6,0,6,1,6,2] ?_
 refine qg (d := 38) (v := .bool false) rfl (by rw [h79] <;> rfl) ?_
 refine au [8,3,8,4,8,5,6,6,6,7,8,8,8,9,8,10,8,11,6,12,6,13,8,14,8,15,8,16,6,17,6,18,8,19,8,20,6,21,6,22,8,23,8,24,8,25,6,26,6,27,8,28,8,29,8,30,8,31,6,32,6,33,8,34,8,35,8,36,8,37,6,38,6,39,8,40,8,41,8,42,6,43,6,44,8,45,8,46,8,47,8,48,6,49,6,50,8,51,8,52,6,53,6,54,8,55,8,56,6,57,6,58,24,6] ?_
 exact qz (qa (false, ())) (by intro c h; cases h)
 rintro ⟨x78, _⟩
 try dsimp only
 exact az [10,15]
set_option maxHeartbeats 4000000 in
theorem qfV (F : Nat) (x1 : Int) (x2 : Int) (x3 : Int) (x4 : Int) (x5 : Int) (x6 : List Int) (a7 : Option Addr) (c8 : Nat) (x9 : Int) (x10 : Int) (x11 : Int) (x12 : Int) (x13 : List Int) (a14 : Option Addr) (c15 : Nat) (x16 : Int) (x17 : List Int) (a18 : Option Addr) (c19 : Nat) (r : Bool) (hm : qb6 F x1 x2 x3 x4 x5 x6 x9 x10 x11 x12 x13 x16 x17 = some r) :
    Pure Tryz.prog 5 [.agg #[.int .i64 x1, .int .i64 x2, .int .i64 x3, .int .i64 x4, .int .i64 x5, .slice a7 x6.length c8, .int .i64 x9, .int .i64 x10, .int .i64 x11, .int .i64 x12, .slice a14 x13.length c15, .int .i64 x16, .slice a18 x17.length c19]] [Sl (eI .u8) 1 (.slice a7 x6.length c8) x6, Sl (eI .u8) 1 (.slice a14 x13.length c15) x13, Sl (eI .u8) 1 (.slice a18 x17.length c19) x17] Unit (fun _ => .bool r) (fun _ => []) (fun _ => []) := by
 refine qh Tryz.func5 rfl Tryz.ntmps5 rfl hm (fun w => ?_)
 refine au [25,9,2,4,20] ?_
 intro g20
 refine au [5,0,1,2,4,24,5,28,13] ?_
 intro x21 e21 _
 refine au [5,0,1,2,2,4] ?_
 refine qe (fun h => qe4 F _ h) ?_
 intro x28 e28 _
 refine au [25,4,3] ?_
 refine qK 3 (fun ((x31, _) : (Bool × Unit)) => ([(1, .pointer (some ⟨g20, 0, none⟩)), (3, .int .i64 x21), (15, .bool x31)], [⟨g20, 35, [.int .i64 x1, .int .i64 x2, .int .i64 x3, .int .i64 x4, .int .i64 x5, .slice a7 x6.length c8, .int .i64 x9, .int .i64 x10, .int .i64 x11, .int .i64 x12, .slice a14 x13.length c15, .int .i64 x16, .slice a18 x17.length c19]⟩], [], [Sl (eI .u8) 1 (.slice a7 x6.length c8) x6, Sl (eI .u8) 1 (.slice a14 x13.length c15) x13, Sl (eI .u8) 1 (.slice a18 x17.length c19) x17], jH F x1 x2 x3 x4 x5 x6 x9 x10 x11 x12 x13 x16 x17 x21 x31)) ?_ ?_
 refine qb (os := _) rfl ?_
 refine av [25,8] ?_ ?_
 intro h29
 refine qj (k := 12) rfl h29 ?_
 refine au [7,7,23,0] ?_
 exact qa (true, ())
 intro h29
 refine qi (k := 12) rfl h29 (qe (fun h => qfW F _ h) ?_)
 intro x52 e52 _
 refine au [25,4,24,0,0] ?_
 exact qa ((!x52), ())
 rintro ⟨x31, _⟩
 try dsimp only
 refine qb (os := _) rfl ?_
 refine av [0,1,11] ?_ ?_
 intro _
 exact az [2,4,5,0,1,10,12,15]
 intro _
 refine av [13,1,2,2,4,3,25,3,0,1,11] ?_ ?_
 intro _
 exact az [2,4,5,0,1,10,12,15]
 intro _
 refine au [13,1,2,4,9,24,5,28,11] ?_
 rintro x33 e33 ⟨a34, c35⟩
 refine au [3,14,14,24,9] ?_
 intro g36
 refine au [24,3,5,0,1,2,4,24,5,9,9,25,2,34,3] ?_
 rintro x37 e37 ⟨⟨a38, c39⟩, ⟨a40, c41⟩, ⟨a42, c43⟩⟩
 refine au [3,14,14,24,9] ?_
 intro g44
 refine au [24,3,5,0,1,2,4,3,24,11,3] ?_
 refine qo 3 ((x33.2 : Int) == 0) [(1, .pointer (some ⟨g20, 0, none⟩)), (6, .pointer (some ⟨g44, 0, none⟩)), (37, .bool (((x33.2 : Int) == 0) && ((x37.2.2.2.2.2.2.2.2.2.2.2.2.2 : Int) == 0)))] (fun h45 => ?_) (fun h45 => ?_) ?_
 refine qb (os := _) rfl (qj (k := 34) rfl h45 ?_)
 refine au [3,24,11,23] ?_
 refine qc (d := 37) (v := .bool (((x33.2 : Int) == 0) && ((x37.2.2.2.2.2.2.2.2.2.2.2.2.2 : Int) == 0))) rfl (by rw [h45]; simp only [Bool.true_and]) ?_
 exact az [0,18]
 refine qb (os := _) rfl (qi (k := 34) rfl h45 ?_)
 refine au [7,7,24,0] ?_
 refine qc (d := 37) (v := .bool (((x33.2 : Int) == 0) && ((x37.2.2.2.2.2.2.2.2.2.2.2.2.2 : Int) == 0))) rfl (by rw [h45]; simp only [Bool.false_and]) ?_
 exact az [0,18]
 refine qb (os := _) rfl ?_
 refine au [3] ?_
 refine qK 4 (fun ((x48, _) : (Bool × Unit)) => ([(42, .bool x48)], [], [], [], qaJ F x48)) ?_ ?_
 refine qb (os := _) rfl ?_
 refine av [25,8] ?_ ?_
 intro h46
 refine qj (k := 38) rfl h46 ?_
 refine au [24,5,25,15] ?_
 refine qe qf1 ?_
 intro x49 e49 _
 refine au [23,0] ?_
 exact qa (x49, ())
 intro h46
 refine qi (k := 38) rfl h46 ?_
 refine au [7,7,7,24,0,0] ?_
 exact qa (false, ())
 rintro ⟨x48, _⟩
 try dsimp only
 refine qb (os := _) rfl ?_
 exact az [5,0,1,10,15]
end Go.Proofs.YtmhggdbfbmkpeaaGreat
