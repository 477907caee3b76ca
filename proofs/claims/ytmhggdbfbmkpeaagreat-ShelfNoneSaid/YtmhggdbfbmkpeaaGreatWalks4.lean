/- Each Go function of this seat computes what its model says, part 4. -/
import Derived.Test.YtmhggdbfbmkpeaaGreatWalks3
namespace Go.Proofs.YtmhggdbfbmkpeaaGreat
open Go SX
theorem qkC {F : Nat} {x1 : Int} {x2 : Int} {x3 : Int} {x4 : Int} {x5 : List Int} {a6 : Option Addr} {c7 : Nat} {x8 : Int} {x9 : List Int} {a10 : Option Addr} {c11 : Nat} {x12 : Int} {r : Int} (hm : js F x1 x2 x3 x4 x5 x8 x9 x12 = some r) :
    Pure Tryz.prog 83 [.agg #[.int .i64 x1, .int .i64 x2, .int .i64 x3, .int .i64 x4, .slice a6 x5.length c7, .int .i64 x8, .slice a10 x9.length c11], .int .i64 x12] [Sl (eI .u8) 1 (.slice a6 x5.length c7) x5, Sl (eI .u8) 1 (.slice a10 x9.length c11) x9] Unit (fun _ => .int .i64 r) (fun _ => []) (fun _ => []) := by
 refine qg Tryz.func83 rfl Tryz.ntmps83 rfl hm (fun w => ?_)
 refine au [24,9,2,4,22] ?_
 intro g13
 refine au [5,0,1,2,4,8,24,4,3,33,8] ?_
 intro x14 e14 _
 refine au [3,25,0,5,0,1,2,4,8,24,4,3,8,17,28,3,8,17,28,4] ?_
 intro x15 e15 _
 refine au [3,14,14,5,5,0,1,2,4,3,8,17,26,1] ?_
 intro h16
 refine qcM rfl rfl rfl rfl h16 ?_
 refine au [3,25,8,32,5,5,26,6] ?_
 intro x17 e17
 refine qc (d := 4) (v := .int .i64 x17) rfl (by rw [e17] <;> rfl) ?_
 exact az [0,1,9,18]
theorem qhq {F : Nat} {x1 : Int} {x2 : List Int} {a3 : Option Addr} {c4 : Nat} {x5 : Int} {x6 : List Int} {a7 : Option Addr} {c8 : Nat} {r : Bool} (hm : qaK F x1 x2 x5 x6 = some r) :
    Pure Tryz.prog 144 [.agg #[.int .i64 x1, .slice a3 x2.length c4], .agg #[.int .i64 x5, .slice a7 x6.length c8]] [Sl (eI .u8) 1 (.slice a3 x2.length c4) x2, Sl (eI .u8) 1 (.slice a7 x6.length c8) x6] Unit (fun _ => .bool r) (fun _ => []) (fun _ => []) := by
 refine qg Tryz.func144 rfl Tryz.ntmps144 rfl hm (fun w => ?_)
 refine au [24,9,2,4,22] ?_
 intro g9
 refine au [22] ?_
 intro g10
 refine au [5,0,1,2,4,8,25,5,8,17,24,11,3] ?_
 refine q8 6 (fun ((x13, _) : (Bool × Unit)) => ([(16, .bool x13)], [], [], [], jk F x13)) ?_ ?_
 refine qa (os := _) rfl ?_
 refine av [25,12] ?_ ?_
 intro h11
 refine qi (k := 10) rfl h11 ?_
 refine au [8,25,5,8,17,28,5] ?_
 intro x14 e14 _
 refine au [23,0] ?_
 exact qb (x14, ())
 intro h11
 refine qh (k := 10) rfl h11 ?_
 refine au [6,6,6,6,6,24,0,0] ?_
 exact qb (false, ())
 rintro ⟨x13, _⟩
 try dsimp only
 refine qa (os := _) rfl ?_
 exact az [5,0,1,9,18]
set_option maxHeartbeats 4000000 in
theorem qez {F : Nat} {x1 : Int} {x2 : Int} {x3 : Int} {x4 : Int} {x5 : List Int} {a6 : Option Addr} {c7 : Nat} {x8 : Int} {x9 : List Int} {a10 : Option Addr} {c11 : Nat} {r : (List Int × Int)} (hm : yR F x1 x2 x3 x4 x5 x8 x9 = some r) :
    Pure Tryz.prog 107 [.agg #[.int .i64 x1, .int .i64 x2, .int .i64 x3, .int .i64 x4, .slice a6 x5.length c7, .int .i64 x8, .slice a10 x9.length c11]] [Sl (eI .u8) 1 (.slice a6 x5.length c7) x5, Sl (eI .u8) 1 (.slice a10 x9.length c11) x9] (Option Addr × Nat) (fun g => .tuple #[.slice g.1 r.1.length g.2, .int .i64 r.2]) (fun g => [Ro (eI .i64) 3 1 (.slice g.1 r.1.length g.2) r.1]) (fun _ => []) := by
 refine qg Tryz.func107 rfl Tryz.ntmps107 rfl hm (fun w => ?_)
 refine au [25,10,2,4,22] ?_
 intro g12
 refine au [5,5,0,1,2,2,4,8,17,24,2,3] ?_
 refine qm 4 (decide (x1 < 0)) [(1, .pointer (some ⟨g12, 0, none⟩)), (15, .bool ((decide (x1 < 0)) || (decide (300 < x1))))] (fun h17 => ?_) (fun h17 => ?_) ?_
 refine qa (os := _) rfl (qi (k := 11) rfl h17 ?_)
 refine au [6,6,6,23] ?_
 refine qc (d := 15) (v := .bool ((decide (x1 < 0)) || (decide (300 < x1)))) rfl (by rw [h17]; simp only [Bool.true_or]) ?_
 exact az [0,15]
 refine qa (os := _) rfl (qh (k := 11) rfl h17 ?_)
 refine au [8,17,24,12,24,0] ?_
 refine qc (d := 15) (v := .bool ((decide (x1 < 0)) || (decide (300 < x1)))) rfl (by rw [h17]; simp only [Bool.false_or]) ?_
 exact az [0,15]
 refine qa (os := _) rfl ?_
 refine au [3] ?_
 refine qm 4 ((decide (x1 < 0)) || (decide (300 < x1))) [(1, .pointer (some ⟨g12, 0, none⟩)), (20, .bool (((decide (x1 < 0)) || (decide (300 < x1))) || (decide (x2 < 0))))] (fun h18 => ?_) (fun h18 => ?_) ?_
 refine qa (os := _) rfl (qi (k := 16) rfl h18 ?_)
 refine au [6,6,6,23] ?_
 refine qc (d := 20) (v := .bool (((decide (x1 < 0)) || (decide (300 < x1))) || (decide (x2 < 0)))) rfl (by rw [h18]; simp only [Bool.true_or]) ?_
 exact az [0,15]
 refine qa (os := _) rfl (qh (k := 16) rfl h18 ?_)
 refine au [8,17,24,2,24,0] ?_
 refine qc (d := 20) (v := .bool (((decide (x1 < 0)) || (decide (300 < x1))) || (decide (x2 < 0)))) rfl (by rw [h18]; simp only [Bool.false_or]) ?_
 exact az [0,15]
 refine qa (os := _) rfl ?_
 refine au [3] ?_
 refine qm 4 (((decide (x1 < 0)) || (decide (300 < x1))) || (decide (x2 < 0))) [(1, .pointer (some ⟨g12, 0, none⟩)), (25, .bool ((((decide (x1 < 0)) || (decide (300 < x1))) || (decide (x2 < 0))) || (decide (1048576 < x2))))] (fun h19 => ?_) (fun h19 => ?_) ?_
 refine qa (os := _) rfl (qi (k := 21) rfl h19 ?_)
 refine au [6,6,6,23] ?_
 refine qc (d := 25) (v := .bool ((((decide (x1 < 0)) || (decide (300 < x1))) || (decide (x2 < 0))) || (decide (1048576 < x2)))) rfl (by rw [h19]; simp only [Bool.true_or]) ?_
 exact az [0,15]
 refine qa (os := _) rfl (qh (k := 21) rfl h19 ?_)
 refine au [8,17,24,12,24,0] ?_
 refine qc (d := 25) (v := .bool ((((decide (x1 < 0)) || (decide (300 < x1))) || (decide (x2 < 0))) || (decide (1048576 < x2)))) rfl (by rw [h19]; simp only [Bool.false_or]) ?_
 exact az [0,15]
 refine qa (os := _) rfl ?_
 refine av [0,1,10] ?_ ?_
 intro _
 refine au [2,4,5,5,0,1,9,12,25,9] ?_
 exact qs (none, 0)
 intro _
 refine au [11,1,2] ?_
 refine qe (fun ((x49, _) : (Bool × Unit)) => ([(1, .pointer (some ⟨g12, 0, none⟩)), (70, .bool x49)], [⟨g12, 33, [.int .i64 x1, .int .i64 x2, .int .i64 x3, .int .i64 x4, .slice a6 x5.length c7, .int .i64 x8, .slice a10 x9.length c11]⟩], [], [Sl (eI .u8) 1 (.slice a6 x5.length c7) x5, Sl (eI .u8) 1 (.slice a10 x9.length c11) x9], zb F x1 x2 x3 x4 x5 x8 x9 x49)) ?_ ?_
 refine qL mixed [] [⟨g12, 33, [.int .i64 x1, .int .i64 x2, .int .i64 x3, .int .i64 x4, .slice a6 x5.length c7, .int .i64 x8, .slice a10 x9.length c11]⟩] [Sl (eI .u8) 1 (.slice a6 x5.length c7) x5, Sl (eI .u8) 1 (.slice a10 x9.length c11) x9] (.cons 0 rfl .nil) (za 0 rfl (za 1 rfl qG)) 45 rfl ?_
 refine au [20,0,25,4,1,20,2,25,4,3,20,4,25,4,5,24,7,6,31,12] ?_
 intro x182 e182 _
 refine av [0,28,6,7,7,7,8,27,8] ?_ ?_
 intro h183
 refine qn (d := 34) (v := .bool true) rfl (by rw [h183] <;> rfl) ?_
 refine au [13,9,13,10,13,11,13,12,7,13,7,14,13,15,13,16,13,17,13,18,7,19,7,20,13,21,13,22,13,23,13,24,13,25,13,26,13,27,13,28,13,29,7,30,7,31,13,32,13,33,13,34,13,35,13,36,13,37,13,38,13,39,13,40,13,41,13,42,13,43,7,44,24,10] ?_
 exact qS (qb (true, ())) (by intro c h; cases h)
 intro h183
 refine qn (d := 34) (v := .bool false) rfl (by rw [h183] <;> rfl) ?_
 refine au [20,9] ?_
 refine kL 10 (.agg #[.int .i64 x4, .slice a6 x5.length c7]) rfl rfl rfl (zy (i := 0) rfl tf29 rfl rfl (by simp) rfl) ?_
 refine au [24,7,11,29,6] ?_
 intro x184 e184 _
 refine av [0,28,6,7,12,7,13,7,14,27,8] ?_ ?_
 intro h185
 refine qn (d := 40) (v := .bool true) rfl (by rw [h185] <;> rfl) ?_
 refine au [13,15,13,16,13,17,13,18,7,19,7,20,13,21,13,22,13,23,13,24,13,25,13,26,13,27,13,28,13,29,7,30,7,31,13,32,13,33,13,34,13,35,13,36,13,37,13,38,13,39,13,40,13,41,13,42,13,43,7,44,24,10] ?_
 exact qS (qb (true, ())) (by intro c h; cases h)
 intro h185
 refine qn (d := 40) (v := .bool false) rfl (by rw [h185] <;> rfl) ?_
 refine au [20,15] ?_
 refine kL 16 (.agg #[.int .i64 x8, .slice a10 x9.length c11]) rfl rfl rfl (zy (i := 0) rfl tf29 rfl rfl (by simp) rfl) ?_
 refine au [24,7,17,29,6] ?_
 intro x186 e186 _
 refine av [0,28,6,7,18,7,19,7,20,27,8] ?_ ?_
 intro h187
 refine qn (d := 46) (v := .bool true) rfl (by rw [h187] <;> rfl) ?_
 refine au [13,21,13,22,13,23,13,24,13,25,13,26,13,27,13,28,13,29,7,30,7,31,13,32,13,33,13,34,13,35,13,36,13,37,13,38,13,39,13,40,13,41,13,42,13,43,7,44,24,10] ?_
 exact qS (qb (true, ())) (by intro c h; cases h)
 intro h187
 refine qn (d := 46) (v := .bool false) rfl (by rw [h187] <;> rfl) ?_
 refine av [20,21,20,22,25,4,23,20,24,25,4,25,20,26,25,4,27,7,28,7,29,7,30,7,31,27,8] ?_ ?_
 intro h188
 refine qn (d := 57) (v := .bool true) rfl (by rw [h188] <;> rfl) ?_
 refine au [13,32,13,33,13,34,13,35,13,36,13,37,13,38,13,39,13,40,13,41,13,42,13,43,7,44,24,10] ?_
 exact qS (qb (true, ())) (by intro c h; cases h)
 intro h188
 refine qn (d := 57) (v := .bool false) rfl (by rw [h188] <;> rfl) ?_
 refine au [20,32] ?_
 refine kL 33 (.agg #[.int .i64 x8, .slice a10 x9.length c11]) rfl rfl rfl (zy (i := 0) rfl tf29 rfl rfl (by simp) rfl) ?_
 refine au [20,34,25,4,35,7,36,24,7,37,33,8] ?_
 intro x189 e189 _
 refine av [0,28,6,7,38,7,39,27,8] ?_ ?_
 intro h190
 refine qn (d := 65) (v := .bool true) rfl (by rw [h190] <;> rfl) ?_
 refine au [20,40,25,4,41,7,42,7,43,7,44,24,10] ?_
 exact qS (qb ((decide (0 < x1)), ())) (by intro c h; cases h)
 intro h190
 refine qn (d := 65) (v := .bool false) rfl (by rw [h190] <;> rfl) ?_
 refine au [13,40,13,41,13,42,7,43,7,44,24,10] ?_
 exact qS (qb (false, ())) (by intro c h; cases h)
 rintro ⟨x49, _⟩
 try dsimp only
 refine av [10] ?_ ?_
 intro _
 refine au [2,4,5,5,0,1,9,12,25,9] ?_
 exact qs (none, 0)
 intro _
 refine au [11,1,2,4,5,0,1] ?_
 refine qe (fun ((x99, (a97, c98)) : (List Int × (Option Addr × Nat))) => ([(1, .pointer (some ⟨g12, 0, none⟩)), (4, .slice a97 x99.length c98)], [⟨g12, 33, [.int .i64 x1, .int .i64 x2, .int .i64 x3, .int .i64 x4, .slice a6 x5.length c7, .int .i64 x8, .slice a10 x9.length c11]⟩], [Ro (eI .i64) 3 1 (.slice a97 x99.length c98) x99], [Sl (eI .u8) 1 (.slice a6 x5.length c7) x5, Sl (eI .u8) 1 (.slice a10 x9.length c11) x9], kA F x2 x4 x5 x8 x9 x99)) ?_ ?_
 refine au [2,4,8,17,3,0,1,16,26,15] ?_
 refine qx (fun (((x150, x151), (a148, c149)) : ((List Int × Int) × (Option Addr × Nat))) => ([(1, .pointer (some ⟨g12, 0, none⟩)), (4, .slice a148 x150.length c149), (72, .int .i64 x1), (73, .int .i64 x151)], [⟨g12, 33, [.int .i64 x1, .int .i64 x2, .int .i64 x3, .int .i64 x4, .slice a6 x5.length c7, .int .i64 x8, .slice a10 x9.length c11]⟩], [Ro (eI .i64) 3 1 (.slice a148 x150.length c149) x150], [Sl (eI .u8) 1 (.slice a6 x5.length c7) x5, Sl (eI .u8) 1 (.slice a10 x9.length c11) x9])) (fun k (s : ((List Int × Int) × (Option Addr × Nat))) => kB F x1 x2 x3 x4 x5 x8 x9 k s.1) ((([] : List Int), 0), (none, 0)) F ?_
 intro k166
 rintro ⟨⟨x150, x151⟩, ⟨a148, c149⟩⟩
 try dsimp only
 refine qJ (m' := vN F x1 x2 x3 x4 x5 x8 x9 (kB F x1 x2 x3 x4 x5 x8 x9 k166) x150 x151) rfl ?_
 refine av [2,4,24,2,0,1,2,10] ?_ ?_
 intro _
 refine au [11,1,2,16,2,4,3,5,0,1,4,3,24,4,3,33,9] ?_
 intro x174 e174 _
 refine q9 (vs := [.int .i64 x174]) (ys := ([x174] : List Int)) (qQ .i64) (by decide) rfl Tryz.underlying39 tf3 rfl rfl rfl rfl rfl (by decide) (fun a175 c176 => kV 1 (qQ .i64) rfl Tryz.underlying39 tf3 rfl rfl rfl rfl rfl (.inl ⟨0, _, rfl⟩) rfl rfl (fun x177 e177 a178 c179 => ?_))
 refine au [5,0,24,5,1,4,19,3,0] ?_
 exact ql ((x177, iadd .i64 x151 1), (a178, c179))
 intro _
 refine au [24,14,21,21,24,15] ?_
 exact qb (x150, (a148, c149))
 rintro ⟨x99, ⟨a97, c98⟩⟩
 try dsimp only
 refine au [2,2,4,3,8,17,31,14] ?_
 intro x102 e102 _
 refine av [25,2,0,1,10] ?_ ?_
 intro _
 refine au [2,4,5,5,0,1,9,12,25,9] ?_
 exact qs (none, 0)
 intro _
 refine au [11,1,2,2,4,3,8,17,31,15] ?_
 rintro x118 e118 ⟨⟨a119, c120⟩, ⟨a121, c122⟩⟩
 refine au [3,14,14,24,8] ?_
 intro g123
 refine au [24,3,5,0,1,2,4,3,25,3,3] ?_
 refine q8 7 (fun ((x126, _) : (Bool × Unit)) => ([(1, .pointer (some ⟨g12, 0, none⟩)), (4, .slice a97 x99.length c98), (6, .pointer (some ⟨g123, 0, none⟩)), (104, .bool x126)], [⟨g123, 33, [.int .i64 x118.1, .int .i64 x118.2.1, .int .i64 x118.2.2.1, .int .i64 x118.2.2.2.1, .slice a119 x118.2.2.2.2.1.length c120, .int .i64 x118.2.2.2.2.2.1, .slice a121 x118.2.2.2.2.2.2.1.length c122]⟩, ⟨g12, 33, [.int .i64 x1, .int .i64 x2, .int .i64 x3, .int .i64 x4, .slice a6 x5.length c7, .int .i64 x8, .slice a10 x9.length c11]⟩], [Ro (eI .i64) 3 1 (.slice a97 x99.length c98) x99, Ro (eI .u8) 5 1 (.slice a119 x118.2.2.2.2.1.length c120) x118.2.2.2.2.1, Ro (eI .u8) 5 1 (.slice a121 x118.2.2.2.2.2.2.1.length c122) x118.2.2.2.2.2.2.1], [Sl (eI .u8) 1 (.slice a6 x5.length c7) x5, Sl (eI .u8) 1 (.slice a10 x9.length c11) x9], vO F x8 x9 x99 x118 x126)) ?_ ?_
 refine qa (os := _) rfl ?_
 refine av [25,12] ?_ ?_
 intro h124
 refine qi (k := 97) rfl h124 ?_
 refine au [6,6,6,6,6,6,23,0] ?_
 exact qb (true, ())
 intro h124
 refine qh (k := 97) rfl h124 ?_
 refine au [8,24,4,8,25,11,33,10] ?_
 intro x132 e132 _
 refine au [25,3,24,0,0] ?_
 exact qb ((!x132), ())
 rintro ⟨x126, _⟩
 try dsimp only
 refine qa (os := _) rfl ?_
 refine au [3] ?_
 refine q8 7 (fun ((x129, _) : (Bool × Unit)) => ([(4, .slice a97 x99.length c98), (112, .bool x129)], [], [Ro (eI .i64) 3 1 (.slice a97 x99.length c98) x99], [], j7 F x99 x129)) ?_ ?_
 refine qa (os := _) rfl ?_
 refine av [25,12] ?_ ?_
 intro h127
 refine qi (k := 105) rfl h127 ?_
 refine au [6,6,6,6,6,6,23,0] ?_
 exact qb (true, ())
 intro h127
 refine qh (k := 105) rfl h127 ?_
 refine au [8,24,4,8,25,11,33,10] ?_
 intro x131 e131 _
 refine au [25,3,24,0,0] ?_
 exact qb ((!x131), ())
 rintro ⟨x129, _⟩
 try dsimp only
 refine qa (os := _) rfl ?_
 refine av [0,1,10] ?_ ?_
 intro _
 refine au [2,4,5,5,0,1,9,12,25,9] ?_
 exact qs (none, 0)
 intro _
 refine au [11,1,2,4,3,5,5,0,1,9] ?_
 exact qs (a97, c98)
theorem qgo {F : Nat} {x1 : Int} {x2 : Int} {x3 : Int} {x4 : Int} {x5 : List Int} {a6 : Option Addr} {c7 : Nat} {x8 : Int} {x9 : List Int} {a10 : Option Addr} {c11 : Nat} {r : Int} (hm : qaY F x1 x2 x3 x4 x5 x8 x9 = some r) :
    Pure Tryz.prog 82 [.agg #[.int .i64 x1, .int .i64 x2, .int .i64 x3, .int .i64 x4, .slice a6 x5.length c7, .int .i64 x8, .slice a10 x9.length c11]] [Sl (eI .u8) 1 (.slice a6 x5.length c7) x5, Sl (eI .u8) 1 (.slice a10 x9.length c11) x9] Unit (fun _ => .int .i64 r) (fun _ => []) (fun _ => []) := by
 refine qg Tryz.func82 rfl Tryz.ntmps82 rfl hm (fun w => ?_)
 refine au [25,10,2,4,22] ?_
 intro g12
 refine au [5,0,1,2,4,24,4] ?_
 refine qf qez ?_
 rintro x13 e13 ⟨a14, c15⟩
 exact az [3,14,14,5,5,0,1,2,4,3,5,0,1,9,18]
set_option maxHeartbeats 4000000 in
theorem qix {F : Nat} {x1 : Int} {x2 : Int} {x3 : Int} {x4 : Int} {x5 : List Int} {a6 : Option Addr} {c7 : Nat} {x8 : Int} {x9 : List Int} {a10 : Option Addr} {c11 : Nat} {x12 : Int} {r : (Int × Int)} (hm : qbd F x1 x2 x3 x4 x5 x8 x9 x12 = some r) :
    Pure Tryz.prog 54 [.agg #[.int .i64 x1, .int .i64 x2, .int .i64 x3, .int .i64 x4, .slice a6 x5.length c7, .int .i64 x8, .slice a10 x9.length c11], .int .i64 x12] [Sl (eI .u8) 1 (.slice a6 x5.length c7) x5, Sl (eI .u8) 1 (.slice a10 x9.length c11) x9] Unit (fun _ => .tuple #[.int .i64 r.1, .int .i64 r.2]) (fun _ => []) (fun _ => []) := by
 refine qg Tryz.func54 rfl Tryz.ntmps54 rfl hm (fun w => ?_)
 refine au [24,9,2,4,22] ?_
 intro g13
 refine au [5,5,0,1,2,4,24,4] ?_
 refine qf qgo ?_
 intro x14 e14 _
 refine au [5,0,1] ?_
 refine qe (fun ((x20, _) : (Int × Unit)) => ([(1, .int .i64 x12), (2, .pointer (some ⟨g13, 0, none⟩)), (6, .int .i64 x20)], [⟨g13, 33, [.int .i64 x1, .int .i64 x2, .int .i64 x3, .int .i64 x4, .slice a6 x5.length c7, .int .i64 x8, .slice a10 x9.length c11]⟩], [], [Sl (eI .u8) 1 (.slice a6 x5.length c7) x5, Sl (eI .u8) 1 (.slice a10 x9.length c11) x9], qav F x1 x2 x3 x4 x5 x8 x9 x12 x20)) ?_ ?_
 refine au [2,4,3,24,11,3] ?_
 refine q8 9 (fun ((x26, _) : (Bool × Unit)) => ([(1, .int .i64 x12), (2, .pointer (some ⟨g13, 0, none⟩)), (6, .int .i64 x14), (20, .bool x26)], [⟨g13, 33, [.int .i64 x1, .int .i64 x2, .int .i64 x3, .int .i64 x4, .slice a6 x5.length c7, .int .i64 x8, .slice a10 x9.length c11]⟩], [], [Sl (eI .u8) 1 (.slice a6 x5.length c7) x5, Sl (eI .u8) 1 (.slice a10 x9.length c11) x9], qaw F x1 x2 x3 x4 x5 x8 x9 x12 x14 x26)) ?_ ?_
 refine qa (os := _) rfl ?_
 refine av [25,12] ?_ ?_
 intro h24
 refine qi (k := 11) rfl h24 ?_
 refine au [3,24,2,3] ?_
 refine qm 5 (decide (x12 < 0)) [(1, .int .i64 x12), (2, .pointer (some ⟨g13, 0, none⟩)), (6, .int .i64 x14), (11, .bool true), (19, .bool ((decide (x12 < 0)) || (decide (x1 ≤ x12))))] (fun h28 => ?_) (fun h28 => ?_) ?_
 refine qa (os := _) rfl (qi (k := 14) rfl h28 ?_)
 refine au [6,6,6,6,23] ?_
 refine qc (d := 19) (v := .bool ((decide (x12 < 0)) || (decide (x1 ≤ x12)))) rfl (by rw [h28]; simp only [Bool.true_or]) ?_
 exact az [0,15]
 refine qa (os := _) rfl (qh (k := 14) rfl h28 ?_)
 refine au [3,8,17,26,0,24,0] ?_
 refine qc (d := 19) (v := .bool ((decide (x12 < 0)) || (decide (x1 ≤ x12)))) rfl (by rw [h28]; simp only [Bool.false_or]) ?_
 exact az [0,15]
 refine qa (os := _) rfl ?_
 refine au [23,0] ?_
 exact qb (((decide (x12 < 0)) || (decide (x1 ≤ x12))), ())
 intro h24
 refine qh (k := 11) rfl h24 ?_
 refine au [6,6,6,6,6,6,6,6,24,0,0] ?_
 exact qb (false, ())
 rintro ⟨x26, _⟩
 try dsimp only
 refine qa (os := _) rfl ?_
 refine av [0,1,10] ?_ ?_
 intro _
 refine au [4,5,0] ?_
 exact qb ((3 : Int), ())
 intro _
 refine au [11] ?_
 exact qb (x14, ())
 rintro ⟨x20, _⟩
 try dsimp only
 refine av [2,2,4,3,25,2,0,1,10] ?_ ?_
 intro _
 exact az [2,4,3,5,5,0,1,9,12,18]
 intro _
 refine au [11,1,2,4,24,4,3,33,9] ?_
 intro x22 e22 _
 exact az [5,5,0,1,9,18]
theorem qcP : ∀ (F : Nat) (g1 : Nat) (x2 : Int) (x3 : Int) (x4 : Int) (x5 : Int) (x6 : Int) (x7 : List Int) (a8 : Option Addr) (c9 : Nat) (x10 : Int) (x11 : Int) (x12 : Int) (x13 : Int) (x14 : List Int) (a15 : Option Addr) (c16 : Nat) (x17 : Int) (x18 : List Int) (a19 : Option Addr) (c20 : Nat) (x21 : Int) (x22 : Int) (r : (List Int × Int × Int × Int × Int × Int × Int × Int × Int × Int × Int × Int)), zY F x2 x3 x4 x5 x6 x7 x10 x11 x12 x13 x14 x17 x18 x21 x22 = some r → PureM Tryz.prog 25 [.pointer (some ⟨g1, 0, none⟩), .int .i64 x22] [⟨g1, 64, [.int .i64 x2, .int .i64 x3, .int .i64 x4, .int .i64 x5, .int .i64 x6, .slice a8 x7.length c9, .int .i64 x10, .int .i64 x11, .int .i64 x12, .int .i64 x13, .slice a15 x14.length c16, .int .i64 x17, .slice a19 x18.length c20, .int .i64 x21]⟩] [] [Sl (eI .u8) 1 (.slice a8 x7.length c9) x7, Sl (eI .u8) 1 (.slice a15 x14.length c16) x14, Sl (eI .u8) 1 (.slice a19 x18.length c20) x18] (Option Addr × Nat) (fun g => .slice g.1 r.1.length g.2) (fun _ => [⟨g1, 64, [.int .i64 r.2.1, .int .i64 r.2.2.1, .int .i64 r.2.2.2.1, .int .i64 r.2.2.2.2.1, .int .i64 r.2.2.2.2.2.1, .slice a8 x7.length c9, .int .i64 r.2.2.2.2.2.2.1, .int .i64 r.2.2.2.2.2.2.2.1, .int .i64 r.2.2.2.2.2.2.2.2.1, .int .i64 r.2.2.2.2.2.2.2.2.2.1, .slice a15 x14.length c16, .int .i64 r.2.2.2.2.2.2.2.2.2.2.1, .slice a19 x18.length c20, .int .i64 r.2.2.2.2.2.2.2.2.2.2.2]⟩]) (fun g => [Ro (eI .i64) 3 1 (.slice g.1 r.1.length g.2) r.1]) := by
  intro F
  induction F with
  | zero => intro g1 x2 x3 x4 x5 x6 x7 a8 c9 x10 x11 x12 x13 x14 a15 c16 x17 x18 a19 c20 x21 x22 r hm; exact absurd hm (by simp [zY])
  | succ F ih =>
    intro g1 x2 x3 x4 x5 x6 x7 a8 c9 x10 x11 x12 x13 x14 a15 c16 x17 x18 a19 c20 x21 x22 r hm
    refine zl Tryz.func25 rfl Tryz.ntmps25 rfl hm (fun w => ?_)
    refine qn7 (l' := [(0, .pointer (some ⟨g1, 0, none⟩)), (1, .int .i64 x22)]) rfl ?_
    refine jg ?_
    refine zI ?_
    refine yM rfl rfl rfl ?_
    refine yN ?_
    refine yH ?_
    refine jg ?_
    refine zI ?_
    refine kO rfl rfl rfl ?_
    refine jy rfl rfl rfl ?_
    refine zE rfl rfl ff64_1 rfl ?_
    refine kp (i := 0) rfl rfl tf3 rfl rfl (fun _ => rfl) rfl rfl ?_
    refine qkp rfl rfl rfl rfl ?_
    refine jy rfl rfl rfl ?_
    refine zE rfl rfl ff64_1 rfl ?_
    refine yb (i := 0) rfl rfl rfl tf3 rfl rfl rfl rfl rfl ?_
    refine yN ?_
    refine yH ?_
    refine jg ?_
    refine zI ?_
    refine kO rfl rfl rfl ?_
    refine jy rfl rfl rfl ?_
    refine zE rfl rfl ff64_0 rfl ?_
    refine zE rfl rfl ff35_1 rfl ?_
    refine kp (i := 0) rfl rfl tf33 rfl rfl (by simp) rfl rfl ?_
    refine kO rfl rfl rfl ?_
    refine qdK ent54 rfl rfl rfl (fun x23 e23 => qix e23) (.consF 1 rfl (.consF 2 rfl .nil)) (fun x23 e23 => ?_)
    intro _
    refine kO rfl rfl rfl ?_
    refine ve rfl rfl rfl rfl ?_
    refine ve rfl rfl rfl rfl ?_
    refine yM rfl rfl rfl ?_
    refine yM rfl rfl rfl ?_
    refine yN ?_
    refine yH ?_
    refine jg ?_
    refine zI ?_
    refine kO rfl rfl rfl ?_
    refine jy rfl rfl rfl ?_
    refine zE rfl rfl ff64_0 rfl ?_
    refine zE rfl rfl ff35_0 rfl ?_
    refine kp (i := 0) rfl rfl tf31 rfl rfl (by simp) rfl rfl ?_
    refine kO rfl rfl rfl ?_
    refine kO rfl rfl rfl ?_
    refine qdK ent55 rfl rfl rfl (fun x24 e24 => qeC e24) (.consF 0 rfl .nil) (fun x24 e24 => ?_)
    intro _
    refine kO rfl rfl rfl ?_
    refine ve rfl rfl rfl rfl ?_
    refine ve rfl rfl rfl rfl ?_
    refine ve rfl rfl rfl rfl ?_
    refine yM rfl rfl rfl ?_
    refine yM rfl rfl rfl ?_
    refine yM rfl rfl rfl ?_
    refine yN ?_
    refine yH ?_
    refine jg ?_
    refine zI ?_
    refine yM rfl rfl rfl ?_
    refine yN ?_
    refine yH ?_
    refine qcC (fun (((x31, x32, x33, x34, x35, x36, x37, x38, x39, x40, x41, x42), (a29, c30)) : ((List Int × Int × Int × Int × Int × Int × Int × Int × Int × Int × Int × Int) × (Option Addr × Nat))) => [(0, .pointer (some ⟨g1, 0, none⟩)), (1, .int .i64 x22), (7, .int .i64 x24.1), (8, .int .i64 x24.2.1), (10, .slice a29 x31.length c30)]) (fun (((x31, x32, x33, x34, x35, x36, x37, x38, x39, x40, x41, x42), (a29, c30)) : ((List Int × Int × Int × Int × Int × Int × Int × Int × Int × Int × Int × Int) × (Option Addr × Nat))) => [⟨g1, 64, [.int .i64 x32, .int .i64 x33, .int .i64 x34, .int .i64 x35, .int .i64 x36, .slice a8 x7.length c9, .int .i64 x37, .int .i64 x38, .int .i64 x39, .int .i64 x40, .slice a15 x14.length c16, .int .i64 x41, .slice a19 x18.length c20, .int .i64 x42]⟩]) (fun (((x31, x32, x33, x34, x35, x36, x37, x38, x39, x40, x41, x42), (a29, c30)) : ((List Int × Int × Int × Int × Int × Int × Int × Int × Int × Int × Int × Int) × (Option Addr × Nat))) => [Ro (eI .i64) 3 1 (.slice a29 x31.length c30) x31]) (fun (((x31, x32, x33, x34, x35, x36, x37, x38, x39, x40, x41, x42), (a29, c30)) : ((List Int × Int × Int × Int × Int × Int × Int × Int × Int × Int × Int × Int) × (Option Addr × Nat))) => [Sl (eI .u8) 1 (.slice a8 x7.length c9) x7, Sl (eI .u8) 1 (.slice a15 x14.length c16) x14, Sl (eI .u8) 1 (.slice a19 x18.length c20) x18]) (fun (((x31, x32, x33, x34, x35, x36, x37, x38, x39, x40, x41, x42), _) : ((List Int × Int × Int × Int × Int × Int × Int × Int × Int × Int × Int × Int) × (Option Addr × Nat))) => zR F x7 x22 x24 x31 x32 x33 x34 x35 x36 x37 x38 x39 x40 x41 x42) ?_ ?_
    · refine jg ?_
      refine zI ?_
      refine kO rfl rfl rfl ?_
      refine qkr rfl rfl rfl rfl ?_
      refine yN ?_
      refine yH ?_
      refine qmX rfl (fun h53 => ?_) (fun h53 => ?_)
      · refine zI ?_
        refine kO rfl rfl rfl ?_
        refine kO rfl rfl rfl ?_
        refine kO rfl rfl rfl ?_
        refine qks rfl rfl rfl rfl ?_
        refine qgd ent25 rfl rfl rfl (fun x50 e50 => ih g1 x2 x3 x4 x5 x6 x7 a8 c9 x10 x11 x12 x13 x14 a15 c16 x17 x18 a19 c20 (iadd .i64 x21 1) (isub .i64 x22 x24.1) x50 e50) (.cons 0 rfl .nil) .nil (.consF 0 rfl (.consF 1 rfl (.consF 2 rfl .nil))) (fun x50 e50 => ?_)
        rintro ⟨a51, c52⟩
        refine yM rfl rfl rfl ?_
        refine yN ?_
        exact j1 ((x50.1, x50.2.1, x50.2.2.1, x50.2.2.2.1, x50.2.2.2.2.1, x50.2.2.2.2.2.1, x50.2.2.2.2.2.2.1, x50.2.2.2.2.2.2.2.1, x50.2.2.2.2.2.2.2.2.1, x50.2.2.2.2.2.2.2.2.2.1, x50.2.2.2.2.2.2.2.2.2.2.1, x50.2.2.2.2.2.2.2.2.2.2.2), (a51, c52)) (hB := (.cons 0 rfl .nil)) (hR := (.cons 0 rfl .nil)) (hF := (qp 0 rfl (qp 1 rfl (qp 2 rfl yL))))
      · refine qik ?_
        refine qcd Int (eI .i64) 3 1 ?_
        exact j1 ((([] : List Int), x2, x3, x4, x5, x6, x10, x11, x12, x13, x17, iadd .i64 x21 1), (none, 0)) (hB := (.cons 0 rfl .nil)) (hR := (.cons 0 rfl .nil)) (hF := (qp 0 rfl (qp 1 rfl (qp 2 rfl yL))))
    · rintro ⟨⟨x31, x32, x33, x34, x35, x36, x37, x38, x39, x40, x41, x42⟩, ⟨a29, c30⟩⟩
      try dsimp only
      refine jg ?_
      refine zI ?_
      refine kO rfl rfl rfl ?_
      refine jy rfl rfl rfl ?_
      refine zE rfl rfl ff64_0 rfl ?_
      refine zE rfl rfl ff35_0 rfl ?_
      refine zE rfl rfl ff31_1 rfl ?_
      refine kp (i := 0) rfl rfl tf26 rfl rfl (by simp) rfl rfl ?_
      refine qeb rfl tf26 rfl (fun g43 => ?_)
      refine yb (i := 0) rfl rfl rfl tf26 rfl rfl rfl rfl rfl ?_
      refine yN ?_
      refine yH ?_
      refine jg ?_
      refine zI ?_
      refine kO rfl rfl rfl ?_
      refine zE rfl rfl ff26_0 rfl ?_
      refine yb (i := 0) rfl rfl rfl tf3 rfl rfl rfl rfl rfl ?_
      refine yN ?_
      refine yH ?_
      refine jg ?_
      refine qL mixed [] [⟨g43, 26, [.int .i64 x24.1, .int .i64 x34, .int .i64 x35]⟩, ⟨g1, 64, [.int .i64 x32, .int .i64 x33, .int .i64 x34, .int .i64 x35, .int .i64 x36, .slice a8 x7.length c9, .int .i64 x37, .int .i64 x38, .int .i64 x39, .int .i64 x40, .slice a15 x14.length c16, .int .i64 x41, .slice a19 x18.length c20, .int .i64 x42]⟩] [Sl (eI .u8) 1 (.slice a8 x7.length c9) x7, Sl (eI .u8) 1 (.slice a15 x14.length c16) x14, Sl (eI .u8) 1 (.slice a19 x18.length c20) x18] (.cons 0 rfl (.cons 0 rfl .nil)) (za 0 rfl (za 1 rfl (za 2 rfl qG))) 18 rfl ?_
      refine qk 0 (.pointer (some ⟨g1, 0, none⟩)) rfl rfl rfl (yZ rfl) ?_
      refine qk 1 (.pointer (some ⟨g1, 0, none⟩)) rfl rfl rfl (yZ rfl) ?_
      refine qk 2 (.pointer (some ⟨g1, 0, none⟩)) rfl rfl rfl (yI rfl ff64_0) ?_
      refine qk 3 (.pointer (some ⟨g1, 0, none⟩)) rfl rfl rfl (yI rfl ff35_0) ?_
      refine qk 4 (.pointer (some ⟨g1, 4, none⟩)) rfl rfl rfl (yI rfl ff31_2) ?_
      refine kL 5 (.agg #[.int .i64 x36, .slice a8 x7.length c9]) rfl rfl rfl (zy (i := 1) rfl tf29 rfl rfl (by simp) rfl) ?_
      refine qk 6 (.int .i64 x24.2.1) rfl rfl rfl (yZ rfl) ?_
      refine qk 7 (.int .i64 x22) rfl rfl rfl (yZ rfl) ?_
      refine qk 8 (.slice a29 x31.length c30) rfl rfl rfl (yZ rfl) ?_
      refine kL 9 (.agg #[.int .i64 x24.1, .int .i64 x34, .int .i64 x35]) rfl rfl rfl (zy (i := 0) rfl tf26 rfl rfl (by simp) rfl) ?_
      refine qii 10 rfl (by kernel_rfl) rfl ?_
      refine qdK ent56 rfl rfl rfl (fun x47 e47 => qef e47) (.consF 0 rfl (.consR 0 (Ro (eI .i64) 3 1 (.slice a29 x31.length c30) x31) rfl .nil)) (fun x47 e47 => ?_)
      rintro ⟨a48, c49⟩
      refine yN ?_
      refine kP (.cons 0 rfl (.cons 0 rfl .nil)) (za 0 rfl (za 1 rfl (za 2 rfl qG))) ?_
      refine qk 11 (.tuple #[.slice a48 x47.1.length c49, .int .i64 x47.2.1, .int .i64 x47.2.2]) rfl rfl rfl (yZ rfl) ?_
      refine qk 12 (.slice a48 x47.1.length c49) rfl rfl rfl (yZ rfl) ?_
      refine qk 13 (.int .i64 x47.2.1) rfl rfl rfl (yZ rfl) ?_
      refine qk 14 (.int .i64 x47.2.2) rfl rfl rfl (yZ rfl) ?_
      refine qk 15 (.slice a48 x47.1.length c49) rfl rfl rfl (yZ rfl) ?_
      refine qk 16 (.int .i64 x47.2.1) rfl rfl rfl (yZ rfl) ?_
      refine qk 17 (.int .i64 x47.2.2) rfl rfl rfl (yZ rfl) ?_
      refine qih (by kernel_rfl) ?_
      refine qS ?_ (by intro c h; cases h)
      refine yH ?_
      refine jg ?_
      refine zI ?_
      refine kO rfl rfl rfl ?_
      refine yM rfl rfl rfl ?_
      refine yN ?_
      refine yH ?_
      refine qko ?_
      exact kY (a48, c49) (res1 rfl rfl) (hB := fun h => by subst h; exact (.cons 1 rfl .nil)) (hR := fun h => by subst h; exact (.cons 0 rfl .nil))
set_option maxHeartbeats 4000000 in
theorem qgz {F : Nat} {x1 : Int} {x2 : Int} {x3 : Int} {x4 : Int} {x5 : Int} {x6 : List Int} {a7 : Option Addr} {c8 : Nat} {x9 : Int} {x10 : Int} {x11 : Int} {x12 : Int} {x13 : List Int} {a14 : Option Addr} {c15 : Nat} {x16 : Int} {x17 : List Int} {a18 : Option Addr} {c19 : Nat} {x20 : Int} {r : (List Int × Int × Int)} (hm : kS F x1 x2 x3 x4 x5 x6 x9 x10 x11 x12 x13 x16 x17 x20 = some r) :
    Pure Tryz.prog 9 [.agg #[.int .i64 x1, .int .i64 x2, .int .i64 x3, .int .i64 x4, .int .i64 x5, .slice a7 x6.length c8, .int .i64 x9, .int .i64 x10, .int .i64 x11, .int .i64 x12, .slice a14 x13.length c15, .int .i64 x16, .slice a18 x17.length c19], .int .i64 x20] [Sl (eI .u8) 1 (.slice a7 x6.length c8) x6, Sl (eI .u8) 1 (.slice a14 x13.length c15) x13, Sl (eI .u8) 1 (.slice a18 x17.length c19) x17] (Option Addr × Nat) (fun g => .tuple #[.slice g.1 r.1.length g.2, .int .i64 r.2.1, .int .i64 r.2.2]) (fun g => [Ro (eI .i64) 3 1 (.slice g.1 r.1.length g.2) r.1]) (fun _ => []) := by
 refine qg Tryz.func9 rfl Tryz.ntmps9 rfl hm (fun w => ?_)
 refine au [24,9,2,4,22] ?_
 intro g21
 refine au [5,5,5,0,1,2,4,24,4,29,15] ?_
 intro x22 e22 _
 refine au [5,0,1] ?_
 refine qe (fun ((x28, _) : (Int × Unit)) => ([(1, .int .i64 x20), (2, .pointer (some ⟨g21, 0, none⟩)), (7, .int .i64 x28)], [⟨g21, 35, [.int .i64 x1, .int .i64 x2, .int .i64 x3, .int .i64 x4, .int .i64 x5, .slice a7 x6.length c8, .int .i64 x9, .int .i64 x10, .int .i64 x11, .int .i64 x12, .slice a14 x13.length c15, .int .i64 x16, .slice a18 x17.length c19]⟩], [], [Sl (eI .u8) 1 (.slice a7 x6.length c8) x6, Sl (eI .u8) 1 (.slice a14 x13.length c15) x13, Sl (eI .u8) 1 (.slice a18 x17.length c19) x17], vx F x1 x2 x3 x4 x5 x6 x9 x10 x11 x12 x13 x16 x17 x20 x28)) ?_ ?_
 refine au [2,4,3,24,11,3] ?_
 refine q8 10 (fun ((x37, _) : (Bool × Unit)) => ([(1, .int .i64 x20), (2, .pointer (some ⟨g21, 0, none⟩)), (7, .int .i64 x22), (24, .bool x37)], [⟨g21, 35, [.int .i64 x1, .int .i64 x2, .int .i64 x3, .int .i64 x4, .int .i64 x5, .slice a7 x6.length c8, .int .i64 x9, .int .i64 x10, .int .i64 x11, .int .i64 x12, .slice a14 x13.length c15, .int .i64 x16, .slice a18 x17.length c19]⟩], [], [Sl (eI .u8) 1 (.slice a7 x6.length c8) x6, Sl (eI .u8) 1 (.slice a14 x13.length c15) x13, Sl (eI .u8) 1 (.slice a18 x17.length c19) x17], vy F x1 x2 x3 x4 x5 x6 x9 x10 x11 x12 x13 x16 x17 x20 x22 x37)) ?_ ?_
 refine qa (os := _) rfl ?_
 refine av [25,12] ?_ ?_
 intro h35
 refine qi (k := 14) rfl h35 ?_
 refine au [3,24,2,3] ?_
 refine qm 6 (decide (x20 < 0)) [(1, .int .i64 x20), (2, .pointer (some ⟨g21, 0, none⟩)), (7, .int .i64 x22), (14, .bool true), (23, .bool ((decide (x20 < 0)) || (decide (x1 ≤ x20))))] (fun h39 => ?_) (fun h39 => ?_) ?_
 refine qa (os := _) rfl (qi (k := 17) rfl h39 ?_)
 refine au [6,6,6,6,6,23] ?_
 refine qc (d := 23) (v := .bool ((decide (x20 < 0)) || (decide (x1 ≤ x20)))) rfl (by rw [h39]; simp only [Bool.true_or]) ?_
 exact az [0,15]
 refine qa (os := _) rfl (qh (k := 17) rfl h39 ?_)
 refine au [3,8,8,17,26,0,24,0] ?_
 refine qc (d := 23) (v := .bool ((decide (x20 < 0)) || (decide (x1 ≤ x20)))) rfl (by rw [h39]; simp only [Bool.false_or]) ?_
 exact az [0,15]
 refine qa (os := _) rfl ?_
 refine au [23,0] ?_
 exact qb (((decide (x20 < 0)) || (decide (x1 ≤ x20))), ())
 intro h35
 refine qh (k := 14) rfl h35 ?_
 refine au [6,6,6,6,6,6,6,6,6,24,0,0] ?_
 exact qb (false, ())
 rintro ⟨x37, _⟩
 try dsimp only
 refine qa (os := _) rfl ?_
 refine av [0,1,10] ?_ ?_
 intro _
 refine au [4,5,0] ?_
 exact qb ((3 : Int), ())
 intro _
 refine au [11] ?_
 exact qb (x22, ())
 rintro ⟨x28, _⟩
 try dsimp only
 refine av [2,2,4,3,25,2,0,1,10] ?_ ?_
 intro _
 refine au [2,4,3,5,5,5,0,1,9,12,25,9] ?_
 exact qs (none, 0)
 intro _
 refine au [11,1,2,4,24,4] ?_
 refine qo (cells := [.int .i64 x1, .int .i64 x2, .int .i64 x3, .int .i64 x4, .int .i64 x5, .slice a7 x6.length c8, .int .i64 x9, .int .i64 x10, .int .i64 x11, .int .i64 x12, .slice a14 x13.length c15, .int .i64 x16, .slice a18 x17.length c19, .int .i64 0]) rfl st64 rfl (by kernel_rfl) rfl ?_
 refine au [22] ?_
 intro g30
 refine au [5,0,1,2,4,3,3] ?_
 refine qO (fun h => qcP F _ _ _ _ _ _ _ _ _ _ _ _ _ _ _ _ _ _ _ _ _ _ _ h) ?_
 rintro x31 e31 ⟨a32, c33⟩
 refine au [5,0,1,2] ?_
 refine qL mixed [] [⟨g30, 64, [.int .i64 x31.2.1, .int .i64 x31.2.2.1, .int .i64 x31.2.2.2.1, .int .i64 x31.2.2.2.2.1, .int .i64 x31.2.2.2.2.2.1, .slice a7 x6.length c8, .int .i64 x31.2.2.2.2.2.2.1, .int .i64 x31.2.2.2.2.2.2.2.1, .int .i64 x31.2.2.2.2.2.2.2.2.1, .int .i64 x31.2.2.2.2.2.2.2.2.2.1, .slice a14 x13.length c15, .int .i64 x31.2.2.2.2.2.2.2.2.2.2.1, .slice a18 x17.length c19, .int .i64 x31.2.2.2.2.2.2.2.2.2.2.2]⟩, ⟨g21, 35, [.int .i64 x1, .int .i64 x2, .int .i64 x3, .int .i64 x4, .int .i64 x5, .slice a7 x6.length c8, .int .i64 x9, .int .i64 x10, .int .i64 x11, .int .i64 x12, .slice a14 x13.length c15, .int .i64 x16, .slice a18 x17.length c19]⟩] [Sl (eI .u8) 1 (.slice a7 x6.length c8) x6, Sl (eI .u8) 1 (.slice a14 x13.length c15) x13, Sl (eI .u8) 1 (.slice a18 x17.length c19) x17] (.cons 0 rfl (.cons 0 rfl .nil)) (za 0 rfl (za 1 rfl (za 2 rfl qG))) 8 rfl ?_
 refine au [7,0,7,1,7,2,20,3,25,4,4,7,5,7,6,7,7,24,10] ?_
 refine qS ?_ (by intro c h; cases h)
 refine au [1,9] ?_
 exact qs (a32, c33)
set_option maxHeartbeats 4000000 in
theorem qfB {F : Nat} {x1 : Int} {x2 : Int} {x3 : Int} {x4 : Int} {x5 : Int} {x6 : List Int} {a7 : Option Addr} {c8 : Nat} {x9 : Int} {x10 : Int} {x11 : Int} {x12 : Int} {x13 : List Int} {a14 : Option Addr} {c15 : Nat} {x16 : Int} {x17 : List Int} {a18 : Option Addr} {c19 : Nat} {x20 : Int} {x21 : Int} {r : (Bool × Int)} (hm : jG F x1 x2 x3 x4 x5 x6 x9 x10 x11 x12 x13 x16 x17 x20 x21 = some r) :
    Pure Tryz.prog 10 [.agg #[.int .i64 x1, .int .i64 x2, .int .i64 x3, .int .i64 x4, .int .i64 x5, .slice a7 x6.length c8, .int .i64 x9, .int .i64 x10, .int .i64 x11, .int .i64 x12, .slice a14 x13.length c15, .int .i64 x16, .slice a18 x17.length c19], .int .i64 x20, .int .i64 x21] [Sl (eI .u8) 1 (.slice a7 x6.length c8) x6, Sl (eI .u8) 1 (.slice a14 x13.length c15) x13, Sl (eI .u8) 1 (.slice a18 x17.length c19) x17] Unit (fun _ => .tuple #[.bool r.1, .int .i64 r.2]) (fun _ => []) (fun _ => []) := by
 refine qg Tryz.func10 rfl Tryz.ntmps10 rfl hm (fun w => ?_)
 refine au [25,14,2,4,22] ?_
 intro g22
 refine au [5,5,0,1,2,4,24,4,3,28,7] ?_
 rintro x23 e23 ⟨a24, c25⟩
 refine au [3,14,14,14,5,5,5,0,1] ?_
 refine qe (fun ((x31, _) : (Int × Unit)) => ([(2, .int .i64 x21), (8, .slice a24 x23.1.length c25), (10, .int .i64 x31)], [], [Ro (eI .i64) 3 1 (.slice a24 x23.1.length c25) x23.1], [], ju F x21 x23 x31)) ?_ ?_
 refine au [2,4,3,24,11,3] ?_
 refine q8 10 (fun ((x37, _) : (Bool × Unit)) => ([(2, .int .i64 x21), (8, .slice a24 x23.1.length c25), (10, .int .i64 x23.2.2), (32, .bool x37)], [], [Ro (eI .i64) 3 1 (.slice a24 x23.1.length c25) x23.1], [], jv F x21 x23 x37)) ?_ ?_
 refine qa (os := _) rfl ?_
 refine av [25,12] ?_ ?_
 intro h35
 refine qi (k := 22) rfl h35 ?_
 refine au [3,24,2,3] ?_
 refine qm 6 (decide (x21 < 0)) [(2, .int .i64 x21), (8, .slice a24 x23.1.length c25), (10, .int .i64 x23.2.2), (22, .bool true), (31, .bool ((decide (x21 < 0)) || (decide (x1 ≤ x21))))] (fun h39 => ?_) (fun h39 => ?_) ?_
 refine qa (os := _) rfl (qi (k := 25) rfl h39 ?_)
 refine au [6,6,6,6,6,23] ?_
 refine qc (d := 31) (v := .bool ((decide (x21 < 0)) || (decide (x1 ≤ x21)))) rfl (by rw [h39]; simp only [Bool.true_or]) ?_
 exact az [0,15]
 refine qa (os := _) rfl (qh (k := 25) rfl h39 ?_)
 refine au [3,8,8,17,26,0,24,0] ?_
 refine qc (d := 31) (v := .bool ((decide (x21 < 0)) || (decide (x1 ≤ x21)))) rfl (by rw [h39]; simp only [Bool.false_or]) ?_
 exact az [0,15]
 refine qa (os := _) rfl ?_
 refine au [23,0] ?_
 exact qb (((decide (x21 < 0)) || (decide (x1 ≤ x21))), ())
 intro h35
 refine qh (k := 22) rfl h35 ?_
 refine au [6,6,6,6,6,6,6,6,6,24,0,0] ?_
 exact qb (false, ())
 rintro ⟨x37, _⟩
 try dsimp only
 refine qa (os := _) rfl ?_
 refine av [0,1,10] ?_ ?_
 intro _
 refine au [4,5,0] ?_
 exact qb ((3 : Int), ())
 intro _
 refine au [11] ?_
 exact qb (x23.2.2, ())
 rintro ⟨x31, _⟩
 try dsimp only
 refine av [2,2,4,3,25,2,0,1,10] ?_ ?_
 intro _
 exact az [2,4,3,5,5,0,1,9,12,18]
 intro _
 refine au [11,1,2,4,3,3,28,13] ?_
 intro x33 e33 _
 exact az [3,14,14,5,5,0,1,2,4,3,5,5,0,1,9,18]
set_option maxHeartbeats 4000000 in
theorem qgl {F : Nat} {x1 : List Int} {a2 : Option Addr} {c3 : Nat} {x4 : List Int} {a5 : Option Addr} {c6 : Nat} {r : Bool} (hm : qaW F x1 x4 = some r) :
    Pure Tryz.prog 17 [.slice a2 x1.length c3, .slice a5 x4.length c6] [Sl (eI .i64) 1 (.slice a2 x1.length c3) x1, Sl (eI .i64) 1 (.slice a5 x4.length c6) x4] Unit (fun _ => .bool r) (fun _ => []) (fun _ => []) := by
 refine qg Tryz.func17 rfl Tryz.ntmps17 rfl hm (fun w => ?_)
 refine av [24,9,2,4,5,0,1,2,2,4,3,24,6,3,24,6,25,2,0,1,10] ?_ ?_
 intro _
 exact az [2,4,5,0,1,9,12,18]
 intro _
 refine au [11,1] ?_
 refine qe (fun ((_, _) : (Unit × Unit)) => ([], [], [], [], qcf F)) ?_ ?_
 refine au [2,4,5,0,1,16] ?_
 refine qx (fun ((x154, _) : (Int × Unit)) => ([(0, .slice a2 x1.length c3), (1, .slice a5 x4.length c6), (5, .int .i64 x154)], [], [], [Sl (eI .i64) 1 (.slice a2 x1.length c3) x1, Sl (eI .i64) 1 (.slice a5 x4.length c6) x4])) (fun k (s : (Int × Unit)) => yj F x1 x4 k s.1) (0, ()) F ?_
 intro k191
 rintro ⟨x154, _⟩
 try dsimp only
 refine qJ (m' := jJ F x1 x4 (yj F x1 x4 k191) x154) rfl ?_
 refine av [2,2,4,3,3,24,6,24,2,0,1,10] ?_ ?_
 intro _
 refine au [11,1,2,16,2,30,15] ?_
 intro x218 e218 b219 o220 h221
 replace h221 : a2 = some ⟨b219, o220, none⟩ := h221
 refine qcB (j := 2) (qQ .i64) (by decide) rfl ?_
 intro x222 e222 b223 o224 h225
 replace h225 : a5 = some ⟨b223, o224, none⟩ := h225
 refine qL mixed [] [] [zi b223 (o224 + x154.toNat * 1) ((eI .i64) x222), zi b219 (o220 + x154.toNat * 1) ((eI .i64) x218), Sl (eI .i64) 1 (.slice a2 x1.length c3) x1, Sl (eI .i64) 1 (.slice a5 x4.length c6) x4] .nil (za 0 rfl (za 1 rfl (za 2 rfl (za 3 rfl qG)))) 9 rfl ?_
 refine au [7,0,7,1] ?_
 refine qn (d := 17) (v := .slice (some ⟨b219, o220, none⟩) x1.length c3) rfl (by rw [h221] <;> rfl) (qk 2 (.pointer (some ⟨b219, (o220 + x154.toNat * 1), none⟩)) rfl rfl rfl (qcD Tryz.underlying39 tf3 rfl rfl (kJ e218).1 (qb4 e218)) (qn (d := 17) (v := .slice a2 x1.length c3) rfl (by rw [h221] <;> rfl) (zA 3 (.int .i64 x218) [] rfl rfl rfl (qaP (j := 1) rfl tf3 rfl rfl (fun _ => rfl) rfl) ?_)))
 refine au [7,4,7,5] ?_
 refine qn (d := 21) (v := .slice (some ⟨b223, o224, none⟩) x4.length c6) rfl (by rw [h225] <;> rfl) (qk 6 (.pointer (some ⟨b223, (o224 + x154.toNat * 1), none⟩)) rfl rfl rfl (qcD Tryz.underlying39 tf3 rfl rfl (kJ e222).1 (qb4 e222)) (qn (d := 21) (v := .slice a5 x4.length c6) rfl (by rw [h225] <;> rfl) (zA 7 (.int .i64 x222) [] rfl rfl rfl (qaP (j := 0) rfl tf3 rfl rfl (fun _ => rfl) rfl) ?_)))
 refine au [7,8,24,10] ?_
 refine qS ?_ (by intro c h; cases h)
 refine av [1,10] ?_ ?_
 intro _
 exact az [2,4,5,0,1,9,24,1,12,12,24,1,12,18]
 intro _
 refine au [11,24,5,1,4,3,19,5,0] ?_
 exact ql (iadd .i64 x154 1, ())
 intro _
 exact az [24,14,21,21,24,15,26,2]
 rintro ⟨_, _⟩
 try dsimp only
 exact az [2,4,5,0,1,9,18]
theorem qfo (F : Nat)  (r : List (List Int)) (hm : qbF F  = some r) :
    Pure Tryz.prog 32 [] [] (Option Addr × (Nat × List (Option Addr × Nat))) (fun g => .agg #[.slice g.1 r.length g.2.1]) (fun g => [RoN eN39 rN39 39 1 (.slice g.1 r.length g.2.1) r g.2.2 []]) (fun _ => []) := by
 refine qg Tryz.func32 rfl Tryz.ntmps32 rfl hm (fun w => ?_)
 refine au [33,11,2,4,24,8] ?_
 intro g1
 refine au [0,1,2,4] ?_
 refine q9 (vs := [.int .i64 1, .int .i64 2, .int .i64 3, .int .i64 5]) (ys := ([1, 2, 3, 5] : List Int)) (qQ .i64) (by decide) rfl Tryz.underlying39 tf3 rfl rfl rfl rfl rfl (by decide) (fun a2 c3 => q9 (vs := [.int .i64 1, .int .i64 2, .int .i64 3, .int .i64 5]) (ys := ([1, 2, 3, 5] : List Int)) (qQ .i64) (by decide) rfl Tryz.underlying39 tf3 rfl rfl rfl rfl rfl (by decide) (fun a4 c5 => q9 (vs := [.int .i64 0, .int .i64 1, .int .i64 2, .int .i64 3, .int .i64 5]) (ys := ([0, 1, 2, 3, 5] : List Int)) (qQ .i64) (by decide) rfl Tryz.underlying39 tf3 rfl rfl rfl rfl rfl (by decide) (fun a6 c7 => q9 (vs := [.int .i64 4]) (ys := ([4] : List Int)) (qQ .i64) (by decide) rfl Tryz.underlying39 tf3 rfl rfl rfl rfl rfl (by decide) (fun a8 c9 => q9 (vs := [.int .i64 1, .int .i64 2, .int .i64 3]) (ys := ([1, 2, 3] : List Int)) (qQ .i64) (by decide) rfl Tryz.underlying39 tf3 rfl rfl rfl rfl rfl (by decide) (fun a10 c11 => ?_)))))
 refine au [27,6] ?_
 refine q9 (vs := [.slice a2 ([1, 2, 3, 5] : List Int).length c3, .slice a4 ([1, 2, 3, 5] : List Int).length c5, .slice a6 ([0, 1, 2, 3, 5] : List Int).length c7, .slice none ([] : List Int).length 0, .slice a8 ([4] : List Int).length c9, .slice a10 ([1, 2, 3] : List Int).length c11]) (ys := ([(([1, 2, 3, 5] : List Int), (a2, c3)), (([1, 2, 3, 5] : List Int), (a4, c5)), (([0, 1, 2, 3, 5] : List Int), (a6, c7)), (([] : List Int), (none, 0)), (([4] : List Int), (a8, c9)), (([1, 2, 3] : List Int), (a10, c11))] : List (List Int × (Option Addr × Nat)))) qaj (by decide) rfl Tryz.underlying22 tf39 rfl rfl rfl rfl rfl (by decide) (fun a12 c13 => qde (rin := rN39) (i := 0) ([([1, 2, 3, 5] : List Int), ([1, 2, 3, 5] : List Int), ([0, 1, 2, 3, 5] : List Int), ([] : List Int), ([4] : List Int), ([1, 2, 3] : List Int)] : List (List Int)) ([(a2, c3), (a4, c5), (a6, c7), (none, 0), (a8, c9), (a10, c11)] : List (Option Addr × Nat)) rfl rfl (.cons 5 rfl (.cons 4 rfl (.cons 3 rfl (.cons 0 rfl (.cons 1 rfl (.cons 0 rfl .nil)))))) (qo (cells := [.slice a12 ([([1, 2, 3, 5] : List Int), ([1, 2, 3, 5] : List Int), ([0, 1, 2, 3, 5] : List Int), ([] : List Int), ([4] : List Int), ([1, 2, 3] : List Int)] : List (List Int)).length c13]) rfl st24 rfl (by kernel_rfl) rfl ?_))
 refine au [24,3,0,1,9] ?_
 exact qC (a12, (c13, ([(a2, c3), (a4, c5), (a6, c7), (none, 0), (a8, c9), (a10, c11)] : List (Option Addr × Nat)))) (resL (rs := [.cell 0 24]) rfl (.cell (i := 0) rfl tf24 rfl rfl (by simp) rfl ResOk.nil) rfl) (fun h => by subst h; exact (.cons 0 rfl .nil))
set_option maxHeartbeats 4000000 in
theorem qex (F : Nat)  (r : Bool) (hm : j2 F  = some r) :
    Pure Tryz.prog 14 [] [] Unit (fun _ => .bool r) (fun _ => []) (fun _ => []) := by
 refine qg Tryz.func14 rfl Tryz.ntmps14 rfl hm (fun w => ?_)
 refine au [33,11,2,4,5,0,1,2,4] ?_
 refine qf (fun h => qfo F _ h) ?_
 rintro x1 e1 ⟨a2, c3⟩
 refine qo (cells := [.int .i64 3, .int .i64 3, .int .i64 2]) rfl st26 rfl (by kernel_rfl) rfl ?_
 refine au [33,12] ?_
 rintro x4 e4 ⟨⟨a5, c6⟩, ⟨a7, c8⟩, ⟨a9, c10⟩⟩
 refine au [3,14,14,24,8] ?_
 intro g11
 refine au [24,3,5,0,1,2,4,24,4,28,7] ?_
 rintro x12 e12 ⟨a13, c14⟩
 refine au [3,14,14,14,5,5,5,0,1,2,4,24,4,33,13] ?_
 intro x15 e15 _
 refine au [3,14,14,5,5,0,1,2,4,24,4,33,13] ?_
 intro x16 e16 _
 refine au [3,14,14,5,5,0,1,2,4,24,4,28,7] ?_
 rintro x17 e17 ⟨a18, c19⟩
 refine au [3,14,14,14,5,5,5,0,1,2,4,3,24,11,3] ?_
 refine q8 4 (fun ((x24, _) : (Bool × Unit)) => ([(1, .pointer (some ⟨g11, 0, none⟩)), (4, .int .i64 x12.2.1), (5, .int .i64 x12.2.2), (6, .bool x15.1), (7, .int .i64 x15.2), (8, .bool x16.1), (9, .int .i64 x16.2), (12, .int .i64 x17.2.2), (47, .bool x24)], [⟨g11, 35, [.int .i64 x4.1, .int .i64 x4.2.1, .int .i64 x4.2.2.1, .int .i64 x4.2.2.2.1, .int .i64 x4.2.2.2.2.1, .slice a5 x4.2.2.2.2.2.1.length c6, .int .i64 x4.2.2.2.2.2.2.1, .int .i64 x4.2.2.2.2.2.2.2.1, .int .i64 x4.2.2.2.2.2.2.2.2.1, .int .i64 x4.2.2.2.2.2.2.2.2.2.1, .slice a7 x4.2.2.2.2.2.2.2.2.2.2.1.length c8, .int .i64 x4.2.2.2.2.2.2.2.2.2.2.2.1, .slice a9 x4.2.2.2.2.2.2.2.2.2.2.2.2.1.length c10]⟩], [Ro (eI .u8) 5 1 (.slice a5 x4.2.2.2.2.2.1.length c6) x4.2.2.2.2.2.1, Ro (eI .u8) 5 1 (.slice a7 x4.2.2.2.2.2.2.2.2.2.2.1.length c8) x4.2.2.2.2.2.2.2.2.2.2.1, Ro (eI .u8) 5 1 (.slice a9 x4.2.2.2.2.2.2.2.2.2.2.2.2.1.length c10) x4.2.2.2.2.2.2.2.2.2.2.2.2.1], [], vL F x4 x12 x15 x16 x17 x24)) ?_ ?_
 refine qa (os := _) rfl ?_
 refine av [25,12] ?_ ?_
 intro h20
 refine qi (k := 43) rfl h20 ?_
 refine au [3] ?_
 refine q9 (vs := [.int .i64 1, .int .i64 2, .int .i64 3, .int .i64 5]) (ys := ([1, 2, 3, 5] : List Int)) (qQ .i64) (by decide) rfl Tryz.underlying39 tf3 rfl rfl rfl rfl rfl (by decide) (fun a40 c41 => qf qgl ?_)
 intro x42 e42 _
 refine au [23,0] ?_
 exact qb (x42, ())
 intro h20
 refine qh (k := 43) rfl h20 ?_
 refine au [6,6,6,24,0,0] ?_
 exact qb (false, ())
 rintro ⟨x24, _⟩
 try dsimp only
 refine qa (os := _) rfl ?_
 refine au [3] ?_
 refine qm 3 x24 [(1, .pointer (some ⟨g11, 0, none⟩)), (5, .int .i64 x12.2.2), (6, .bool x15.1), (7, .int .i64 x15.2), (8, .bool x16.1), (9, .int .i64 x16.2), (12, .int .i64 x17.2.2), (51, .bool (x24 && ((x12.2.1 : Int) == 2)))] (fun h25 => ?_) (fun h25 => ?_) ?_
 refine qa (os := _) rfl (qi (k := 48) rfl h25 ?_)
 refine au [3,24,11,23] ?_
 refine qc (d := 51) (v := .bool (x24 && ((x12.2.1 : Int) == 2))) rfl (by rw [h25]; simp only [Bool.true_and]) ?_
 exact az [0,15]
 refine qa (os := _) rfl (qh (k := 48) rfl h25 ?_)
 refine au [6,6,24,0] ?_
 refine qc (d := 51) (v := .bool (x24 && ((x12.2.1 : Int) == 2))) rfl (by rw [h25]; simp only [Bool.false_and]) ?_
 exact az [0,15]
 refine qa (os := _) rfl ?_
 refine au [3] ?_
 refine qm 3 (x24 && ((x12.2.1 : Int) == 2)) [(1, .pointer (some ⟨g11, 0, none⟩)), (6, .bool x15.1), (7, .int .i64 x15.2), (8, .bool x16.1), (9, .int .i64 x16.2), (12, .int .i64 x17.2.2), (55, .bool ((x24 && ((x12.2.1 : Int) == 2)) && ((x12.2.2 : Int) == 0)))] (fun h26 => ?_) (fun h26 => ?_) ?_
 refine qa (os := _) rfl (qi (k := 52) rfl h26 ?_)
 refine au [3,24,11,23] ?_
 refine qc (d := 55) (v := .bool ((x24 && ((x12.2.1 : Int) == 2)) && ((x12.2.2 : Int) == 0))) rfl (by rw [h26]; simp only [Bool.true_and]) ?_
 exact az [0,15]
 refine qa (os := _) rfl (qh (k := 52) rfl h26 ?_)
 refine au [6,6,24,0] ?_
 refine qc (d := 55) (v := .bool ((x24 && ((x12.2.1 : Int) == 2)) && ((x12.2.2 : Int) == 0))) rfl (by rw [h26]; simp only [Bool.false_and]) ?_
 exact az [0,15]
 refine qa (os := _) rfl ?_
 refine au [3] ?_
 refine qm 2 ((x24 && ((x12.2.1 : Int) == 2)) && ((x12.2.2 : Int) == 0)) [(1, .pointer (some ⟨g11, 0, none⟩)), (7, .int .i64 x15.2), (8, .bool x16.1), (9, .int .i64 x16.2), (12, .int .i64 x17.2.2), (58, .bool (((x24 && ((x12.2.1 : Int) == 2)) && ((x12.2.2 : Int) == 0)) && x15.1))] (fun h27 => ?_) (fun h27 => ?_) ?_
 refine qa (os := _) rfl (qi (k := 56) rfl h27 ?_)
 refine au [3,23] ?_
 refine qc (d := 58) (v := .bool (((x24 && ((x12.2.1 : Int) == 2)) && ((x12.2.2 : Int) == 0)) && x15.1)) rfl (by rw [h27]; simp only [Bool.true_and]) ?_
 exact az [0,15]
 refine qa (os := _) rfl (qh (k := 56) rfl h27 ?_)
 refine au [6,24,0] ?_
 refine qc (d := 58) (v := .bool (((x24 && ((x12.2.1 : Int) == 2)) && ((x12.2.2 : Int) == 0)) && x15.1)) rfl (by rw [h27]; simp only [Bool.false_and]) ?_
 exact az [0,15]
 refine qa (os := _) rfl ?_
 refine au [3] ?_
 refine qm 3 (((x24 && ((x12.2.1 : Int) == 2)) && ((x12.2.2 : Int) == 0)) && x15.1) [(1, .pointer (some ⟨g11, 0, none⟩)), (8, .bool x16.1), (9, .int .i64 x16.2), (12, .int .i64 x17.2.2), (62, .bool ((((x24 && ((x12.2.1 : Int) == 2)) && ((x12.2.2 : Int) == 0)) && x15.1) && ((x15.2 : Int) == 0)))] (fun h28 => ?_) (fun h28 => ?_) ?_
 refine qa (os := _) rfl (qi (k := 59) rfl h28 ?_)
 refine au [3,24,11,23] ?_
 refine qc (d := 62) (v := .bool ((((x24 && ((x12.2.1 : Int) == 2)) && ((x12.2.2 : Int) == 0)) && x15.1) && ((x15.2 : Int) == 0))) rfl (by rw [h28]; simp only [Bool.true_and]) ?_
 exact az [0,15]
 refine qa (os := _) rfl (qh (k := 59) rfl h28 ?_)
 refine au [6,6,24,0] ?_
 refine qc (d := 62) (v := .bool ((((x24 && ((x12.2.1 : Int) == 2)) && ((x12.2.2 : Int) == 0)) && x15.1) && ((x15.2 : Int) == 0))) rfl (by rw [h28]; simp only [Bool.false_and]) ?_
 exact az [0,15]
 refine qa (os := _) rfl ?_
 refine au [3] ?_
 refine qm 3 ((((x24 && ((x12.2.1 : Int) == 2)) && ((x12.2.2 : Int) == 0)) && x15.1) && ((x15.2 : Int) == 0)) [(1, .pointer (some ⟨g11, 0, none⟩)), (9, .int .i64 x16.2), (12, .int .i64 x17.2.2), (66, .bool (((((x24 && ((x12.2.1 : Int) == 2)) && ((x12.2.2 : Int) == 0)) && x15.1) && ((x15.2 : Int) == 0)) && (!x16.1)))] (fun h29 => ?_) (fun h29 => ?_) ?_
 refine qa (os := _) rfl (qi (k := 63) rfl h29 ?_)
 refine au [3,25,3,23] ?_
 refine qc (d := 66) (v := .bool (((((x24 && ((x12.2.1 : Int) == 2)) && ((x12.2.2 : Int) == 0)) && x15.1) && ((x15.2 : Int) == 0)) && (!x16.1))) rfl (by rw [h29]; simp only [Bool.true_and]) ?_
 exact az [0,15]
 refine qa (os := _) rfl (qh (k := 63) rfl h29 ?_)
 refine au [6,6,24,0] ?_
 refine qc (d := 66) (v := .bool (((((x24 && ((x12.2.1 : Int) == 2)) && ((x12.2.2 : Int) == 0)) && x15.1) && ((x15.2 : Int) == 0)) && (!x16.1))) rfl (by rw [h29]; simp only [Bool.false_and]) ?_
 exact az [0,15]
 refine qa (os := _) rfl ?_
 refine au [3] ?_
 refine qm 3 (((((x24 && ((x12.2.1 : Int) == 2)) && ((x12.2.2 : Int) == 0)) && x15.1) && ((x15.2 : Int) == 0)) && (!x16.1)) [(1, .pointer (some ⟨g11, 0, none⟩)), (12, .int .i64 x17.2.2), (70, .bool ((((((x24 && ((x12.2.1 : Int) == 2)) && ((x12.2.2 : Int) == 0)) && x15.1) && ((x15.2 : Int) == 0)) && (!x16.1)) && ((x16.2 : Int) == 0)))] (fun h30 => ?_) (fun h30 => ?_) ?_
 refine qa (os := _) rfl (qi (k := 67) rfl h30 ?_)
 refine au [3,24,11,23] ?_
 refine qc (d := 70) (v := .bool ((((((x24 && ((x12.2.1 : Int) == 2)) && ((x12.2.2 : Int) == 0)) && x15.1) && ((x15.2 : Int) == 0)) && (!x16.1)) && ((x16.2 : Int) == 0))) rfl (by rw [h30]; simp only [Bool.true_and]) ?_
 exact az [0,15]
 refine qa (os := _) rfl (qh (k := 67) rfl h30 ?_)
 refine au [6,6,24,0] ?_
 refine qc (d := 70) (v := .bool ((((((x24 && ((x12.2.1 : Int) == 2)) && ((x12.2.2 : Int) == 0)) && x15.1) && ((x15.2 : Int) == 0)) && (!x16.1)) && ((x16.2 : Int) == 0))) rfl (by rw [h30]; simp only [Bool.false_and]) ?_
 exact az [0,15]
 refine qa (os := _) rfl ?_
 refine au [3] ?_
 refine qm 3 ((((((x24 && ((x12.2.1 : Int) == 2)) && ((x12.2.2 : Int) == 0)) && x15.1) && ((x15.2 : Int) == 0)) && (!x16.1)) && ((x16.2 : Int) == 0)) [(1, .pointer (some ⟨g11, 0, none⟩)), (74, .bool (((((((x24 && ((x12.2.1 : Int) == 2)) && ((x12.2.2 : Int) == 0)) && x15.1) && ((x15.2 : Int) == 0)) && (!x16.1)) && ((x16.2 : Int) == 0)) && ((x17.2.2 : Int) == 3)))] (fun h31 => ?_) (fun h31 => ?_) ?_
 refine qa (os := _) rfl (qi (k := 71) rfl h31 ?_)
 refine au [3,24,11,23] ?_
 refine qc (d := 74) (v := .bool (((((((x24 && ((x12.2.1 : Int) == 2)) && ((x12.2.2 : Int) == 0)) && x15.1) && ((x15.2 : Int) == 0)) && (!x16.1)) && ((x16.2 : Int) == 0)) && ((x17.2.2 : Int) == 3))) rfl (by rw [h31]; simp only [Bool.true_and]) ?_
 exact az [0,15]
 refine qa (os := _) rfl (qh (k := 71) rfl h31 ?_)
 refine au [6,6,24,0] ?_
 refine qc (d := 74) (v := .bool (((((((x24 && ((x12.2.1 : Int) == 2)) && ((x12.2.2 : Int) == 0)) && x15.1) && ((x15.2 : Int) == 0)) && (!x16.1)) && ((x16.2 : Int) == 0)) && ((x17.2.2 : Int) == 3))) rfl (by rw [h31]; simp only [Bool.false_and]) ?_
 exact az [0,15]
 refine qa (os := _) rfl ?_
 refine au [3] ?_
 refine q8 4 (fun ((x34, _) : (Bool × Unit)) => ([(1, .pointer (some ⟨g11, 0, none⟩)), (79, .bool x34)], [⟨g11, 35, [.int .i64 x4.1, .int .i64 x4.2.1, .int .i64 x4.2.2.1, .int .i64 x4.2.2.2.1, .int .i64 x4.2.2.2.2.1, .slice a5 x4.2.2.2.2.2.1.length c6, .int .i64 x4.2.2.2.2.2.2.1, .int .i64 x4.2.2.2.2.2.2.2.1, .int .i64 x4.2.2.2.2.2.2.2.2.1, .int .i64 x4.2.2.2.2.2.2.2.2.2.1, .slice a7 x4.2.2.2.2.2.2.2.2.2.2.1.length c8, .int .i64 x4.2.2.2.2.2.2.2.2.2.2.2.1, .slice a9 x4.2.2.2.2.2.2.2.2.2.2.2.2.1.length c10]⟩], [Ro (eI .u8) 5 1 (.slice a5 x4.2.2.2.2.2.1.length c6) x4.2.2.2.2.2.1, Ro (eI .u8) 5 1 (.slice a7 x4.2.2.2.2.2.2.2.2.2.2.1.length c8) x4.2.2.2.2.2.2.2.2.2.2.1, Ro (eI .u8) 5 1 (.slice a9 x4.2.2.2.2.2.2.2.2.2.2.2.2.1.length c10) x4.2.2.2.2.2.2.2.2.2.2.2.2.1], [], vM F x4 x34)) ?_ ?_
 refine qa (os := _) rfl ?_
 refine av [25,12] ?_ ?_
 intro h32
 refine qi (k := 75) rfl h32 ?_
 refine au [24,4,29,15] ?_
 intro x39 e39 _
 refine au [24,11,23,0] ?_
 exact qb (((x39 : Int) == 0), ())
 intro h32
 refine qh (k := 75) rfl h32 ?_
 refine au [6,6,6,24,0,0] ?_
 exact qb (false, ())
 rintro ⟨x34, _⟩
 try dsimp only
 refine qa (os := _) rfl ?_
 refine au [3] ?_
 refine q8 6 (fun ((x37, _) : (Bool × Unit)) => ([(86, .bool x37)], [], [], [], j3 F x37)) ?_ ?_
 refine qa (os := _) rfl ?_
 refine av [25,12] ?_ ?_
 intro h35
 refine qi (k := 80) rfl h35 ?_
 refine au [8,24,4] ?_
 refine qo (cells := [.int .i64 x4.1, .int .i64 x4.2.1, .int .i64 x4.2.2.1, .int .i64 x4.2.2.2.1, .int .i64 x4.2.2.2.2.1, .slice a5 x4.2.2.2.2.2.1.length c6, .int .i64 0, .int .i64 0, .int .i64 0, .int .i64 0, .slice none 0 0, .int .i64 0, .slice none 0 0]) rfl st35 rfl (by kernel_rfl) rfl ?_
 refine au [26,10,26,10,29,15] ?_
 intro x38 e38 _
 refine au [24,11,23,0] ?_
 exact qb (((x38 : Int) == 4), ())
 intro h35
 refine qh (k := 80) rfl h35 ?_
 refine au [6,6,6,6,6,24,0,0] ?_
 exact qb (false, ())
 rintro ⟨x37, _⟩
 try dsimp only
 refine qa (os := _) rfl ?_
 exact az [5,0,1,9,18]
set_option maxHeartbeats 4000000 in
theorem qfn (F : Nat) (x1 : List (List Int)) (a2 : Option Addr) (c3 : (Nat × List (Option Addr × Nat))) (x4 : Int) (x5 : Int) (x6 : Int) (x7 : Int) (r : Bool) (hm : qbE F x1 x4 x5 x6 x7 = some r) :
    Pure Tryz.prog 6 [.agg #[.slice a2 x1.length c3.1], .agg #[.int .i64 x4, .int .i64 x5, .int .i64 x6], .int .i64 x7] [SlN eN39 iN39 1 (.slice a2 x1.length c3.1) x1 c3.2] Unit (fun _ => .bool r) (fun _ => []) (fun _ => []) := by
 refine qg Tryz.func6 rfl Tryz.ntmps6 rfl hm (fun w => ?_)
 refine au [25,14,2,4,22] ?_
 intro g8
 refine au [22] ?_
 intro g9
 refine au [5,0,1,2,4,8,24,3,0,1,2,4,25,11,24,4,33,12] ?_
 rintro x10 e10 ⟨⟨a11, c12⟩, ⟨a13, c14⟩, ⟨a15, c16⟩⟩
 refine au [3,14,14,24,8] ?_
 intro g17
 refine au [24,3,5,0,1,2,2,4] ?_
 refine qf (fun h => qex F _ h) ?_
 intro x20 e20 _
 refine av [25,3,0,1,10] ?_ ?_
 intro _
 exact az [2,4,5,0,1,9,12,18]
 intro _
 refine au [11,1,2,2,4,3,25,2,3] ?_
 refine qm 3 ((x10.2.2.2.2.2.2.2.2.2.2.2.2.2 : Int) != 0) [(2, .int .i64 x7), (3, .pointer (some ⟨g8, 0, none⟩)), (7, .pointer (some ⟨g17, 0, none⟩)), (26, .bool (((x10.2.2.2.2.2.2.2.2.2.2.2.2.2 : Int) != 0) || (decide (x7 < 0))))] (fun h24 => ?_) (fun h24 => ?_) ?_
 refine qa (os := _) rfl (qi (k := 23) rfl h24 ?_)
 refine au [6,6,23] ?_
 refine qc (d := 26) (v := .bool (((x10.2.2.2.2.2.2.2.2.2.2.2.2.2 : Int) != 0) || (decide (x7 < 0)))) rfl (by rw [h24]; simp only [Bool.true_or]) ?_
 exact az [0,15]
 refine qa (os := _) rfl (qh (k := 23) rfl h24 ?_)
 refine au [3,24,2,24,0] ?_
 refine qc (d := 26) (v := .bool (((x10.2.2.2.2.2.2.2.2.2.2.2.2.2 : Int) != 0) || (decide (x7 < 0)))) rfl (by rw [h24]; simp only [Bool.false_or]) ?_
 exact az [0,15]
 refine qa (os := _) rfl ?_
 refine au [3] ?_
 refine qm 6 (((x10.2.2.2.2.2.2.2.2.2.2.2.2.2 : Int) != 0) || (decide (x7 < 0))) [(2, .int .i64 x7), (7, .pointer (some ⟨g17, 0, none⟩)), (33, .bool ((((x10.2.2.2.2.2.2.2.2.2.2.2.2.2 : Int) != 0) || (decide (x7 < 0))) || (decide ((x1.length : Int) ≤ x7))))] (fun h25 => ?_) (fun h25 => ?_) ?_
 refine qa (os := _) rfl (qi (k := 27) rfl h25 ?_)
 refine au [6,6,6,6,6,23] ?_
 refine qc (d := 33) (v := .bool ((((x10.2.2.2.2.2.2.2.2.2.2.2.2.2 : Int) != 0) || (decide (x7 < 0))) || (decide ((x1.length : Int) ≤ x7)))) rfl (by rw [h25]; simp only [Bool.true_or]) ?_
 exact az [0,15]
 refine qa (os := _) rfl (qh (k := 27) rfl h25 ?_)
 refine au [3,8,27,4,24,6,26,0,24,0] ?_
 refine qc (d := 33) (v := .bool ((((x10.2.2.2.2.2.2.2.2.2.2.2.2.2 : Int) != 0) || (decide (x7 < 0))) || (decide ((x1.length : Int) ≤ x7)))) rfl (by rw [h25]; simp only [Bool.false_or]) ?_
 exact az [0,15]
 refine qa (os := _) rfl ?_
 refine av [0,1,10] ?_ ?_
 intro _
 exact az [2,4,5,0,1,9,12,18]
 intro _
 refine au [11,1,2,4,24,4,3,28,7] ?_
 rintro x26 e26 ⟨a27, c28⟩
 refine au [3,14,14,14,5,5,5,0,1,2,4,3,24,11,3] ?_
 refine qm 3 ((x26.2.2 : Int) == 0) [(46, .bool (((x26.2.2 : Int) == 0) && ((x26.2.1 : Int) == 1)))] (fun h29 => ?_) (fun h29 => ?_) ?_
 refine qa (os := _) rfl (qi (k := 43) rfl h29 ?_)
 refine au [3,24,11,23] ?_
 refine qc (d := 46) (v := .bool (((x26.2.2 : Int) == 0) && ((x26.2.1 : Int) == 1))) rfl (by rw [h29]; simp only [Bool.true_and]) ?_
 exact az [0,15]
 refine qa (os := _) rfl (qh (k := 43) rfl h29 ?_)
 refine au [6,6,24,0] ?_
 refine qc (d := 46) (v := .bool (((x26.2.2 : Int) == 0) && ((x26.2.1 : Int) == 1))) rfl (by rw [h29]; simp only [Bool.false_and]) ?_
 exact az [0,15]
 refine qa (os := _) rfl ?_
 exact az [5,0,1,9,18]
end Go.Proofs.YtmhggdbfbmkpeaaGreat
