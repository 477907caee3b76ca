/- Each Go function of this seat computes what its model says, part 4. -/
import Derived.Test.YtmhggdbfbmkpeaaGreatWalks3
namespace Go.Proofs.YtmhggdbfbmkpeaaGreat
open Go SX
theorem qlc {F : Nat} {x1 : Int} {x2 : Int} {x3 : Int} {x4 : Int} {x5 : List Int} {a6 : Option Addr} {c7 : Nat} {x8 : Int} {x9 : List Int} {a10 : Option Addr} {c11 : Nat} {x12 : Int} {r : Int} (hm : jE F x1 x2 x3 x4 x5 x8 x9 x12 = some r) :
    Pure Tryz.prog 83 [.agg #[.int .i64 x1, .int .i64 x2, .int .i64 x3, .int .i64 x4, .slice a6 x5.length c7, .int .i64 x8, .slice a10 x9.length c11], .int .i64 x12] [Sl (eI .u8) 1 (.slice a6 x5.length c7) x5, Sl (eI .u8) 1 (.slice a10 x9.length c11) x9] Unit (fun _ => .int .i64 r) (fun _ => []) (fun _ => []) := by
 refine qi Tryz.func83 rfl Tryz.ntmps83 rfl hm (fun w => ?_)
 refine au [24,8,3,4,20] ?_
 intro g13
 refine au [5,0,2,3,4,8,24,3,1,33,11] ?_
 intro x14 e14 _
 refine au [1,25,1,5,0,2,3,4,8,24,3,1,8,17,28,3,8,17,28,4] ?_
 intro x15 e15 _
 refine au [1,14,14,5,5,0,2,3,4,1,8,17,26,2] ?_
 intro h16
 refine qda rfl rfl rfl rfl h16 ?_
 refine au [1,25,10,32,7,5,26,6] ?_
 intro x17 e17
 refine qc (d := 4) (v := .int .i64 x17) rfl (by rw [e17] <;> rfl) ?_
 exact az [0,2,9,16]
theorem qhW {F : Nat} {x1 : Int} {x2 : List Int} {a3 : Option Addr} {c4 : Nat} {x5 : Int} {x6 : List Int} {a7 : Option Addr} {c8 : Nat} {r : Bool} (hm : qa3 F x1 x2 x5 x6 = some r) :
    Pure Tryz.prog 144 [.agg #[.int .i64 x1, .slice a3 x2.length c4], .agg #[.int .i64 x5, .slice a7 x6.length c8]] [Sl (eI .u8) 1 (.slice a3 x2.length c4) x2, Sl (eI .u8) 1 (.slice a7 x6.length c8) x6] Unit (fun _ => .bool r) (fun _ => []) (fun _ => []) := by
 refine qi Tryz.func144 rfl Tryz.ntmps144 rfl hm (fun w => ?_)
 refine au [24,8,3,4,20] ?_
 intro g9
 refine au [20] ?_
 intro g10
 refine au [5,0,2,3,4,8,25,0,8,17,24,10,1] ?_
 refine qA 6 (fun ((x13, _) : (Bool × Unit)) => ([(16, .bool x13)], [], [], [], jr F x13)) ?_ ?_
 refine qa (os := _) rfl ?_
 refine av [25,6] ?_ ?_
 intro h11
 refine qh (k := 10) rfl h11 ?_
 refine au [8,25,0,8,17,28,5] ?_
 intro x14 e14 _
 refine au [21,0] ?_
 exact qb (x14, ())
 intro h11
 refine qg (k := 10) rfl h11 ?_
 refine au [6,6,6,6,6,22,0] ?_
 exact qb (false, ())
 rintro ⟨x13, _⟩
 try dsimp only
 refine qa (os := _) rfl ?_
 exact az [5,0,2,9,16]
set_option maxHeartbeats 4000000 in
theorem qeY {F : Nat} {x1 : Int} {x2 : Int} {x3 : Int} {x4 : Int} {x5 : List Int} {a6 : Option Addr} {c7 : Nat} {x8 : Int} {x9 : List Int} {a10 : Option Addr} {c11 : Nat} {r : (List Int × Int)} (hm : yS F x1 x2 x3 x4 x5 x8 x9 = some r) :
    Pure Tryz.prog 107 [.agg #[.int .i64 x1, .int .i64 x2, .int .i64 x3, .int .i64 x4, .slice a6 x5.length c7, .int .i64 x8, .slice a10 x9.length c11]] [Sl (eI .u8) 1 (.slice a6 x5.length c7) x5, Sl (eI .u8) 1 (.slice a10 x9.length c11) x9] (Option Addr × Nat) (fun g => .tuple #[.slice g.1 r.1.length g.2, .int .i64 r.2]) (fun g => [Ro (eI .i64) 3 1 (.slice g.1 r.1.length g.2) r.1]) (fun _ => []) := by
 refine qi Tryz.func107 rfl Tryz.ntmps107 rfl hm (fun w => ?_)
 refine au [25,12,3,4,20] ?_
 intro g12
 refine au [5,5,0,2,3,3,4,8,17,24,2,1] ?_
 refine ql 4 (decide (x1 < 0)) [(1, .pointer (some ⟨g12, 0, none⟩)), (15, .bool ((decide (x1 < 0)) || (decide (300 < x1))))] (fun h17 => ?_) (fun h17 => ?_) ?_
 refine qa (os := _) rfl (qh (k := 11) rfl h17 ?_)
 refine au [6,6,6,21] ?_
 refine qc (d := 15) (v := .bool ((decide (x1 < 0)) || (decide (300 < x1)))) rfl (by rw [h17]; simp only [Bool.true_or]) ?_
 exact az [0,15]
 refine qa (os := _) rfl (qg (k := 11) rfl h17 ?_)
 refine au [8,17,24,12,22] ?_
 refine qc (d := 15) (v := .bool ((decide (x1 < 0)) || (decide (300 < x1)))) rfl (by rw [h17]; simp only [Bool.false_or]) ?_
 exact az [0,15]
 refine qa (os := _) rfl ?_
 refine au [1] ?_
 refine ql 4 ((decide (x1 < 0)) || (decide (300 < x1))) [(1, .pointer (some ⟨g12, 0, none⟩)), (20, .bool (((decide (x1 < 0)) || (decide (300 < x1))) || (decide (x2 < 0))))] (fun h18 => ?_) (fun h18 => ?_) ?_
 refine qa (os := _) rfl (qh (k := 16) rfl h18 ?_)
 refine au [6,6,6,21] ?_
 refine qc (d := 20) (v := .bool (((decide (x1 < 0)) || (decide (300 < x1))) || (decide (x2 < 0)))) rfl (by rw [h18]; simp only [Bool.true_or]) ?_
 exact az [0,15]
 refine qa (os := _) rfl (qg (k := 16) rfl h18 ?_)
 refine au [8,17,24,2,22] ?_
 refine qc (d := 20) (v := .bool (((decide (x1 < 0)) || (decide (300 < x1))) || (decide (x2 < 0)))) rfl (by rw [h18]; simp only [Bool.false_or]) ?_
 exact az [0,15]
 refine qa (os := _) rfl ?_
 refine au [1] ?_
 refine ql 4 (((decide (x1 < 0)) || (decide (300 < x1))) || (decide (x2 < 0))) [(1, .pointer (some ⟨g12, 0, none⟩)), (25, .bool ((((decide (x1 < 0)) || (decide (300 < x1))) || (decide (x2 < 0))) || (decide (1048576 < x2))))] (fun h19 => ?_) (fun h19 => ?_) ?_
 refine qa (os := _) rfl (qh (k := 21) rfl h19 ?_)
 refine au [6,6,6,21] ?_
 refine qc (d := 25) (v := .bool ((((decide (x1 < 0)) || (decide (300 < x1))) || (decide (x2 < 0))) || (decide (1048576 < x2)))) rfl (by rw [h19]; simp only [Bool.true_or]) ?_
 exact az [0,15]
 refine qa (os := _) rfl (qg (k := 21) rfl h19 ?_)
 refine au [8,17,24,12,22] ?_
 refine qc (d := 25) (v := .bool ((((decide (x1 < 0)) || (decide (300 < x1))) || (decide (x2 < 0))) || (decide (1048576 < x2)))) rfl (by rw [h19]; simp only [Bool.false_or]) ?_
 exact az [0,15]
 refine qa (os := _) rfl ?_
 refine av [0,2,10] ?_ ?_
 intro _
 refine au [3,4,5,5,0,2,9,11,25,11] ?_
 exact qt (none, 0)
 intro _
 refine au [12,2,3] ?_
 refine qf (fun ((x49, _) : (Bool × Unit)) => ([(1, .pointer (some ⟨g12, 0, none⟩)), (70, .bool x49)], [⟨g12, 33, [.int .i64 x1, .int .i64 x2, .int .i64 x3, .int .i64 x4, .slice a6 x5.length c7, .int .i64 x8, .slice a10 x9.length c11]⟩], [], [Sl (eI .u8) 1 (.slice a6 x5.length c7) x5, Sl (eI .u8) 1 (.slice a10 x9.length c11) x9], zd F x1 x2 x3 x4 x5 x8 x9 x49)) ?_ ?_
 refine qL mixed [] [⟨g12, 33, [.int .i64 x1, .int .i64 x2, .int .i64 x3, .int .i64 x4, .slice a6 x5.length c7, .int .i64 x8, .slice a10 x9.length c11]⟩] [Sl (eI .u8) 1 (.slice a6 x5.length c7) x5, Sl (eI .u8) 1 (.slice a10 x9.length c11) x9] (.cons 0 rfl .nil) (qZ 0 rfl (qZ 1 rfl qI)) 45 rfl ?_
 refine au [24,0,0,25,7,1,24,0,2,25,7,3,24,0,4,25,7,5,24,7,6,31,15] ?_
 intro x182 e182 _
 refine av [0,28,6,7,7,7,8,27,9] ?_ ?_
 intro h183
 refine qj (d := 34) (v := .bool true) rfl (by rw [h183] <;> rfl) ?_
 refine au [13,9,13,10,13,11,13,12,7,13,7,14,13,15,13,16,13,17,13,18,7,19,7,20,13,21,13,22,13,23,13,24,13,25,13,26,13,27,13,28,13,29,7,30,7,31,13,32,13,33,13,34,13,35,13,36,13,37,13,38,13,39,13,40,13,41,13,42,13,43,7,44,24,11] ?_
 exact qS (qb (true, ())) (by intro c h; cases h)
 intro h183
 refine qj (d := 34) (v := .bool false) rfl (by rw [h183] <;> rfl) ?_
 refine au [24,0,9] ?_
 refine kL 10 (.agg #[.int .i64 x4, .slice a6 x5.length c7]) rfl rfl rfl (zz (i := 0) rfl tf29 rfl rfl (by simp) rfl) ?_
 refine au [24,7,11,29,7] ?_
 intro x184 e184 _
 refine av [0,28,6,7,12,7,13,7,14,27,9] ?_ ?_
 intro h185
 refine qj (d := 40) (v := .bool true) rfl (by rw [h185] <;> rfl) ?_
 refine au [13,15,13,16,13,17,13,18,7,19,7,20,13,21,13,22,13,23,13,24,13,25,13,26,13,27,13,28,13,29,7,30,7,31,13,32,13,33,13,34,13,35,13,36,13,37,13,38,13,39,13,40,13,41,13,42,13,43,7,44,24,11] ?_
 exact qS (qb (true, ())) (by intro c h; cases h)
 intro h185
 refine qj (d := 40) (v := .bool false) rfl (by rw [h185] <;> rfl) ?_
 refine au [24,0,15] ?_
 refine kL 16 (.agg #[.int .i64 x8, .slice a10 x9.length c11]) rfl rfl rfl (zz (i := 0) rfl tf29 rfl rfl (by simp) rfl) ?_
 refine au [24,7,17,29,7] ?_
 intro x186 e186 _
 refine av [0,28,6,7,18,7,19,7,20,27,9] ?_ ?_
 intro h187
 refine qj (d := 46) (v := .bool true) rfl (by rw [h187] <;> rfl) ?_
 refine au [13,21,13,22,13,23,13,24,13,25,13,26,13,27,13,28,13,29,7,30,7,31,13,32,13,33,13,34,13,35,13,36,13,37,13,38,13,39,13,40,13,41,13,42,13,43,7,44,24,11] ?_
 exact qS (qb (true, ())) (by intro c h; cases h)
 intro h187
 refine qj (d := 46) (v := .bool false) rfl (by rw [h187] <;> rfl) ?_
 refine av [24,0,21,24,0,22,25,7,23,24,0,24,25,7,25,24,0,26,25,7,27,7,28,7,29,7,30,7,31,27,9] ?_ ?_
 intro h188
 refine qj (d := 57) (v := .bool true) rfl (by rw [h188] <;> rfl) ?_
 refine au [13,32,13,33,13,34,13,35,13,36,13,37,13,38,13,39,13,40,13,41,13,42,13,43,7,44,24,11] ?_
 exact qS (qb (true, ())) (by intro c h; cases h)
 intro h188
 refine qj (d := 57) (v := .bool false) rfl (by rw [h188] <;> rfl) ?_
 refine au [24,0,32] ?_
 refine kL 33 (.agg #[.int .i64 x8, .slice a10 x9.length c11]) rfl rfl rfl (zz (i := 0) rfl tf29 rfl rfl (by simp) rfl) ?_
 refine au [24,0,34,25,7,35,7,36,24,7,37,33,11] ?_
 intro x189 e189 _
 refine av [0,28,6,7,38,7,39,27,9] ?_ ?_
 intro h190
 refine qj (d := 65) (v := .bool true) rfl (by rw [h190] <;> rfl) ?_
 refine au [24,0,40,25,7,41,7,42,7,43,7,44,24,11] ?_
 exact qS (qb ((decide (0 < x1)), ())) (by intro c h; cases h)
 intro h190
 refine qj (d := 65) (v := .bool false) rfl (by rw [h190] <;> rfl) ?_
 refine au [13,40,13,41,13,42,7,43,7,44,24,11] ?_
 exact qS (qb (false, ())) (by intro c h; cases h)
 rintro ⟨x49, _⟩
 try dsimp only
 refine av [10] ?_ ?_
 intro _
 refine au [3,4,5,5,0,2,9,11,25,11] ?_
 exact qt (none, 0)
 intro _
 refine au [12,2,3,4,5,0,2] ?_
 refine qf (fun ((x99, (a97, c98)) : (List Int × (Option Addr × Nat))) => ([(1, .pointer (some ⟨g12, 0, none⟩)), (4, .slice a97 x99.length c98)], [⟨g12, 33, [.int .i64 x1, .int .i64 x2, .int .i64 x3, .int .i64 x4, .slice a6 x5.length c7, .int .i64 x8, .slice a10 x9.length c11]⟩], [Ro (eI .i64) 3 1 (.slice a97 x99.length c98) x99], [Sl (eI .u8) 1 (.slice a6 x5.length c7) x5, Sl (eI .u8) 1 (.slice a10 x9.length c11) x9], kB F x2 x4 x5 x8 x9 x99)) ?_ ?_
 refine au [3,4,8,17,1,0,2,18,26,15] ?_
 refine qx (fun (((x150, x151), (a148, c149)) : ((List Int × Int) × (Option Addr × Nat))) => ([(1, .pointer (some ⟨g12, 0, none⟩)), (4, .slice a148 x150.length c149), (72, .int .i64 x1), (73, .int .i64 x151)], [⟨g12, 33, [.int .i64 x1, .int .i64 x2, .int .i64 x3, .int .i64 x4, .slice a6 x5.length c7, .int .i64 x8, .slice a10 x9.length c11]⟩], [Ro (eI .i64) 3 1 (.slice a148 x150.length c149) x150], [Sl (eI .u8) 1 (.slice a6 x5.length c7) x5, Sl (eI .u8) 1 (.slice a10 x9.length c11) x9])) (fun k (s : ((List Int × Int) × (Option Addr × Nat))) => kC F x1 x2 x3 x4 x5 x8 x9 k s.1) ((([] : List Int), 0), (none, 0)) F ?_
 intro k166
 rintro ⟨⟨x150, x151⟩, ⟨a148, c149⟩⟩
 try dsimp only
 refine qG (m' := vU F x1 x2 x3 x4 x5 x8 x9 (kC F x1 x2 x3 x4 x5 x8 x9 k166) x150 x151) rfl ?_
 refine av [3,4,24,2,0,2,3,10] ?_ ?_
 intro _
 refine au [12,2,3,18,3,4,1,5,0,2,4,1,24,3,1,33,12] ?_
 intro x174 e174 _
 refine za (vs := [.int .i64 x174]) (ys := ([x174] : List Int)) (qT .i64) (by decide) rfl Tryz.underlying39 tf3 rfl rfl rfl rfl rfl (by decide) (fun a175 c176 => kV 1 (qT .i64) rfl Tryz.underlying39 tf3 rfl rfl rfl rfl rfl (.inl ⟨0, _, rfl⟩) rfl rfl (fun x177 e177 a178 c179 => ?_))
 refine au [5,0,24,6,2,4,19,1,0] ?_
 exact qm ((x177, iadd .i64 x151 1), (a178, c179))
 intro _
 refine au [24,13,23,23,24,14] ?_
 exact qb (x150, (a148, c149))
 rintro ⟨x99, ⟨a97, c98⟩⟩
 try dsimp only
 refine au [3,3,4,1,8,17,32,1] ?_
 intro x102 e102 _
 refine av [25,2,0,2,10] ?_ ?_
 intro _
 refine au [3,4,5,5,0,2,9,11,25,11] ?_
 exact qt (none, 0)
 intro _
 refine au [12,2,3,3,4,1,8,17,32,2] ?_
 rintro x118 e118 ⟨⟨a119, c120⟩, ⟨a121, c122⟩⟩
 refine au [1,14,14,24,9] ?_
 intro g123
 refine au [24,4,5,0,2,3,4,1,25,3,1] ?_
 refine qA 7 (fun ((x126, _) : (Bool × Unit)) => ([(1, .pointer (some ⟨g12, 0, none⟩)), (4, .slice a97 x99.length c98), (6, .pointer (some ⟨g123, 0, none⟩)), (104, .bool x126)], [⟨g123, 33, [.int .i64 x118.1, .int .i64 x118.2.1, .int .i64 x118.2.2.1, .int .i64 x118.2.2.2.1, .slice a119 x118.2.2.2.2.1.length c120, .int .i64 x118.2.2.2.2.2.1, .slice a121 x118.2.2.2.2.2.2.1.length c122]⟩, ⟨g12, 33, [.int .i64 x1, .int .i64 x2, .int .i64 x3, .int .i64 x4, .slice a6 x5.length c7, .int .i64 x8, .slice a10 x9.length c11]⟩], [Ro (eI .i64) 3 1 (.slice a97 x99.length c98) x99, Ro (eI .u8) 5 1 (.slice a119 x118.2.2.2.2.1.length c120) x118.2.2.2.2.1, Ro (eI .u8) 5 1 (.slice a121 x118.2.2.2.2.2.2.1.length c122) x118.2.2.2.2.2.2.1], [Sl (eI .u8) 1 (.slice a6 x5.length c7) x5, Sl (eI .u8) 1 (.slice a10 x9.length c11) x9], vV F x8 x9 x99 x118 x126)) ?_ ?_
 refine qa (os := _) rfl ?_
 refine av [25,6] ?_ ?_
 intro h124
 refine qh (k := 97) rfl h124 ?_
 refine au [6,6,6,6,6,6,21,0] ?_
 exact qb (true, ())
 intro h124
 refine qg (k := 97) rfl h124 ?_
 refine au [8,24,3,8,25,4,33,13] ?_
 intro x132 e132 _
 refine au [25,3,22,0] ?_
 exact qb ((!x132), ())
 rintro ⟨x126, _⟩
 try dsimp only
 refine qa (os := _) rfl ?_
 refine au [1] ?_
 refine qA 7 (fun ((x129, _) : (Bool × Unit)) => ([(4, .slice a97 x99.length c98), (112, .bool x129)], [], [Ro (eI .i64) 3 1 (.slice a97 x99.length c98) x99], [], qan F x99 x129)) ?_ ?_
 refine qa (os := _) rfl ?_
 refine av [25,6] ?_ ?_
 intro h127
 refine qh (k := 105) rfl h127 ?_
 refine au [6,6,6,6,6,6,21,0] ?_
 exact qb (true, ())
 intro h127
 refine qg (k := 105) rfl h127 ?_
 refine au [8,24,3,8,25,4,33,13] ?_
 intro x131 e131 _
 refine au [25,3,22,0] ?_
 exact qb ((!x131), ())
 rintro ⟨x129, _⟩
 try dsimp only
 refine qa (os := _) rfl ?_
 refine av [0,2,10] ?_ ?_
 intro _
 refine au [3,4,5,5,0,2,9,11,25,11] ?_
 exact qt (none, 0)
 intro _
 refine au [12,2,3,4,1,5,5,0,2,9] ?_
 exact qt (a97, c98)
theorem qgT {F : Nat} {x1 : Int} {x2 : Int} {x3 : Int} {x4 : Int} {x5 : List Int} {a6 : Option Addr} {c7 : Nat} {x8 : Int} {x9 : List Int} {a10 : Option Addr} {c11 : Nat} {r : Int} (hm : qbg F x1 x2 x3 x4 x5 x8 x9 = some r) :
    Pure Tryz.prog 82 [.agg #[.int .i64 x1, .int .i64 x2, .int .i64 x3, .int .i64 x4, .slice a6 x5.length c7, .int .i64 x8, .slice a10 x9.length c11]] [Sl (eI .u8) 1 (.slice a6 x5.length c7) x5, Sl (eI .u8) 1 (.slice a10 x9.length c11) x9] Unit (fun _ => .int .i64 r) (fun _ => []) (fun _ => []) := by
 refine qi Tryz.func82 rfl Tryz.ntmps82 rfl hm (fun w => ?_)
 refine au [25,12,3,4,20] ?_
 intro g12
 refine au [5,0,2,3,4,24,3] ?_
 refine qe qeY ?_
 rintro x13 e13 ⟨a14, c15⟩
 exact az [1,14,14,5,5,0,2,3,4,1,5,0,2,9,16]
set_option maxHeartbeats 4000000 in
theorem qi7 {F : Nat} {x1 : Int} {x2 : Int} {x3 : Int} {x4 : Int} {x5 : List Int} {a6 : Option Addr} {c7 : Nat} {x8 : Int} {x9 : List Int} {a10 : Option Addr} {c11 : Nat} {x12 : Int} {r : (Int × Int)} (hm : qbx F x1 x2 x3 x4 x5 x8 x9 x12 = some r) :
    Pure Tryz.prog 54 [.agg #[.int .i64 x1, .int .i64 x2, .int .i64 x3, .int .i64 x4, .slice a6 x5.length c7, .int .i64 x8, .slice a10 x9.length c11], .int .i64 x12] [Sl (eI .u8) 1 (.slice a6 x5.length c7) x5, Sl (eI .u8) 1 (.slice a10 x9.length c11) x9] Unit (fun _ => .tuple #[.int .i64 r.1, .int .i64 r.2]) (fun _ => []) (fun _ => []) := by
 refine qi Tryz.func54 rfl Tryz.ntmps54 rfl hm (fun w => ?_)
 refine au [24,8,3,4,20] ?_
 intro g13
 refine au [5,5,0,2,3,4,24,3] ?_
 refine qe qgT ?_
 intro x14 e14 _
 refine au [5,0,2] ?_
 refine qf (fun ((x20, _) : (Int × Unit)) => ([(1, .int .i64 x12), (2, .pointer (some ⟨g13, 0, none⟩)), (6, .int .i64 x20)], [⟨g13, 33, [.int .i64 x1, .int .i64 x2, .int .i64 x3, .int .i64 x4, .slice a6 x5.length c7, .int .i64 x8, .slice a10 x9.length c11]⟩], [], [Sl (eI .u8) 1 (.slice a6 x5.length c7) x5, Sl (eI .u8) 1 (.slice a10 x9.length c11) x9], qaO F x1 x2 x3 x4 x5 x8 x9 x12 x20)) ?_ ?_
 refine au [3,4,1,24,10,1] ?_
 refine qA 9 (fun ((x26, _) : (Bool × Unit)) => ([(1, .int .i64 x12), (2, .pointer (some ⟨g13, 0, none⟩)), (6, .int .i64 x14), (20, .bool x26)], [⟨g13, 33, [.int .i64 x1, .int .i64 x2, .int .i64 x3, .int .i64 x4, .slice a6 x5.length c7, .int .i64 x8, .slice a10 x9.length c11]⟩], [], [Sl (eI .u8) 1 (.slice a6 x5.length c7) x5, Sl (eI .u8) 1 (.slice a10 x9.length c11) x9], qaP F x1 x2 x3 x4 x5 x8 x9 x12 x14 x26)) ?_ ?_
 refine qa (os := _) rfl ?_
 refine av [25,6] ?_ ?_
 intro h24
 refine qh (k := 11) rfl h24 ?_
 refine au [1,24,2,1] ?_
 refine ql 5 (decide (x12 < 0)) [(1, .int .i64 x12), (2, .pointer (some ⟨g13, 0, none⟩)), (6, .int .i64 x14), (11, .bool true), (19, .bool ((decide (x12 < 0)) || (decide (x1 ≤ x12))))] (fun h28 => ?_) (fun h28 => ?_) ?_
 refine qa (os := _) rfl (qh (k := 14) rfl h28 ?_)
 refine au [6,6,6,6,21] ?_
 refine qc (d := 19) (v := .bool ((decide (x12 < 0)) || (decide (x1 ≤ x12)))) rfl (by rw [h28]; simp only [Bool.true_or]) ?_
 exact az [0,15]
 refine qa (os := _) rfl (qg (k := 14) rfl h28 ?_)
 refine au [1,8,17,26,0,22] ?_
 refine qc (d := 19) (v := .bool ((decide (x12 < 0)) || (decide (x1 ≤ x12)))) rfl (by rw [h28]; simp only [Bool.false_or]) ?_
 exact az [0,15]
 refine qa (os := _) rfl ?_
 refine au [21,0] ?_
 exact qb (((decide (x12 < 0)) || (decide (x1 ≤ x12))), ())
 intro h24
 refine qg (k := 11) rfl h24 ?_
 refine au [6,6,6,6,6,6,6,6,22,0] ?_
 exact qb (false, ())
 rintro ⟨x26, _⟩
 try dsimp only
 refine qa (os := _) rfl ?_
 refine av [0,2,10] ?_ ?_
 intro _
 refine au [4,5,0] ?_
 exact qb ((3 : Int), ())
 intro _
 refine au [12] ?_
 exact qb (x14, ())
 rintro ⟨x20, _⟩
 try dsimp only
 refine av [3,3,4,1,25,2,0,2,10] ?_ ?_
 intro _
 exact az [3,4,1,5,5,0,2,9,11,16]
 intro _
 refine au [12,2,3,4,24,3,1,33,12] ?_
 intro x22 e22 _
 exact az [5,5,0,2,9,16]
theorem qdd : ∀ (F : Nat) (g1 : Nat) (x2 : Int) (x3 : Int) (x4 : Int) (x5 : Int) (x6 : Int) (x7 : List Int) (a8 : Option Addr) (c9 : Nat) (x10 : Int) (x11 : Int) (x12 : Int) (x13 : Int) (x14 : List Int) (a15 : Option Addr) (c16 : Nat) (x17 : Int) (x18 : List Int) (a19 : Option Addr) (c20 : Nat) (x21 : Int) (x22 : Int) (r : (List Int × Int × Int × Int × Int × Int × Int × Int × Int × Int × Int × Int)), zY F x2 x3 x4 x5 x6 x7 x10 x11 x12 x13 x14 x17 x18 x21 x22 = some r → PureM Tryz.prog 25 [.pointer (some ⟨g1, 0, none⟩), .int .i64 x22] [⟨g1, 64, [.int .i64 x2, .int .i64 x3, .int .i64 x4, .int .i64 x5, .int .i64 x6, .slice a8 x7.length c9, .int .i64 x10, .int .i64 x11, .int .i64 x12, .int .i64 x13, .slice a15 x14.length c16, .int .i64 x17, .slice a19 x18.length c20, .int .i64 x21]⟩] [] [Sl (eI .u8) 1 (.slice a8 x7.length c9) x7, Sl (eI .u8) 1 (.slice a15 x14.length c16) x14, Sl (eI .u8) 1 (.slice a19 x18.length c20) x18] (Option Addr × Nat) (fun g => .slice g.1 r.1.length g.2) (fun _ => [⟨g1, 64, [.int .i64 r.2.1, .int .i64 r.2.2.1, .int .i64 r.2.2.2.1, .int .i64 r.2.2.2.2.1, .int .i64 r.2.2.2.2.2.1, .slice a8 x7.length c9, .int .i64 r.2.2.2.2.2.2.1, .int .i64 r.2.2.2.2.2.2.2.1, .int .i64 r.2.2.2.2.2.2.2.2.1, .int .i64 r.2.2.2.2.2.2.2.2.2.1, .slice a15 x14.length c16, .int .i64 r.2.2.2.2.2.2.2.2.2.2.1, .slice a19 x18.length c20, .int .i64 r.2.2.2.2.2.2.2.2.2.2.2]⟩]) (fun g => [Ro (eI .i64) 3 1 (.slice g.1 r.1.length g.2) r.1]) := by
  intro F
  induction F with
  | zero => intro g1 x2 x3 x4 x5 x6 x7 a8 c9 x10 x11 x12 x13 x14 a15 c16 x17 x18 a19 c20 x21 x22 r hm; exact absurd hm (by simp [zY])
  | succ F ih =>
    intro g1 x2 x3 x4 x5 x6 x7 a8 c9 x10 x11 x12 x13 x14 a15 c16 x17 x18 a19 c20 x21 x22 r hm
    refine zl Tryz.func25 rfl Tryz.ntmps25 rfl hm (fun w => ?_)
    refine qoM (l' := [(0, .pointer (some ⟨g1, 0, none⟩)), (1, .int .i64 x22)]) rfl ?_
    refine jo ?_
    refine zI ?_
    refine yN rfl rfl rfl ?_
    refine yO ?_
    refine yI ?_
    refine jo ?_
    refine zI ?_
    refine kO rfl rfl rfl ?_
    refine jL rfl rfl rfl ?_
    refine zE rfl rfl ff64_1 rfl ?_
    refine kq (i := 0) rfl rfl tf3 rfl rfl (fun _ => rfl) rfl rfl ?_
    refine qkZ rfl rfl rfl rfl ?_
    refine jL rfl rfl rfl ?_
    refine zE rfl rfl ff64_1 rfl ?_
    refine yc (i := 0) rfl rfl rfl tf3 rfl rfl rfl rfl rfl ?_
    refine yO ?_
    refine yI ?_
    refine jo ?_
    refine zI ?_
    refine kO rfl rfl rfl ?_
    refine jL rfl rfl rfl ?_
    refine zE rfl rfl ff64_0 rfl ?_
    refine zE rfl rfl ff35_1 rfl ?_
    refine kq (i := 0) rfl rfl tf33 rfl rfl (by simp) rfl rfl ?_
    refine kO rfl rfl rfl ?_
    refine qd8 ent54 rfl rfl rfl (fun x23 e23 => qi7 e23) (.consF 1 rfl (.consF 2 rfl .nil)) (fun x23 e23 => ?_)
    intro _
    refine kO rfl rfl rfl ?_
    refine vf rfl rfl rfl rfl ?_
    refine vf rfl rfl rfl rfl ?_
    refine yN rfl rfl rfl ?_
    refine yN rfl rfl rfl ?_
    refine yO ?_
    refine yI ?_
    refine jo ?_
    refine zI ?_
    refine kO rfl rfl rfl ?_
    refine jL rfl rfl rfl ?_
    refine zE rfl rfl ff64_0 rfl ?_
    refine zE rfl rfl ff35_0 rfl ?_
    refine kq (i := 0) rfl rfl tf31 rfl rfl (by simp) rfl rfl ?_
    refine kO rfl rfl rfl ?_
    refine kO rfl rfl rfl ?_
    refine qd8 ent55 rfl rfl rfl (fun x24 e24 => qe1 e24) (.consF 0 rfl .nil) (fun x24 e24 => ?_)
    intro _
    refine kO rfl rfl rfl ?_
    refine vf rfl rfl rfl rfl ?_
    refine vf rfl rfl rfl rfl ?_
    refine vf rfl rfl rfl rfl ?_
    refine yN rfl rfl rfl ?_
    refine yN rfl rfl rfl ?_
    refine yN rfl rfl rfl ?_
    refine yO ?_
    refine yI ?_
    refine jo ?_
    refine zI ?_
    refine yN rfl rfl rfl ?_
    refine yO ?_
    refine yI ?_
    refine qc2 (fun (((x31, x32, x33, x34, x35, x36, x37, x38, x39, x40, x41, x42), (a29, c30)) : ((List Int × Int × Int × Int × Int × Int × Int × Int × Int × Int × Int × Int) × (Option Addr × Nat))) => [(0, .pointer (some ⟨g1, 0, none⟩)), (1, .int .i64 x22), (7, .int .i64 x24.1), (8, .int .i64 x24.2.1), (10, .slice a29 x31.length c30)]) (fun (((x31, x32, x33, x34, x35, x36, x37, x38, x39, x40, x41, x42), (a29, c30)) : ((List Int × Int × Int × Int × Int × Int × Int × Int × Int × Int × Int × Int) × (Option Addr × Nat))) => [⟨g1, 64, [.int .i64 x32, .int .i64 x33, .int .i64 x34, .int .i64 x35, .int .i64 x36, .slice a8 x7.length c9, .int .i64 x37, .int .i64 x38, .int .i64 x39, .int .i64 x40, .slice a15 x14.length c16, .int .i64 x41, .slice a19 x18.length c20, .int .i64 x42]⟩]) (fun (((x31, x32, x33, x34, x35, x36, x37, x38, x39, x40, x41, x42), (a29, c30)) : ((List Int × Int × Int × Int × Int × Int × Int × Int × Int × Int × Int × Int) × (Option Addr × Nat))) => [Ro (eI .i64) 3 1 (.slice a29 x31.length c30) x31]) (fun (((x31, x32, x33, x34, x35, x36, x37, x38, x39, x40, x41, x42), (a29, c30)) : ((List Int × Int × Int × Int × Int × Int × Int × Int × Int × Int × Int × Int) × (Option Addr × Nat))) => [Sl (eI .u8) 1 (.slice a8 x7.length c9) x7, Sl (eI .u8) 1 (.slice a15 x14.length c16) x14, Sl (eI .u8) 1 (.slice a19 x18.length c20) x18]) (fun (((x31, x32, x33, x34, x35, x36, x37, x38, x39, x40, x41, x42), _) : ((List Int × Int × Int × Int × Int × Int × Int × Int × Int × Int × Int × Int) × (Option Addr × Nat))) => zR F x7 x22 x24 x31 x32 x33 x34 x35 x36 x37 x38 x39 x40 x41 x42) ?_ ?_
    · refine jo ?_
      refine zI ?_
      refine kO rfl rfl rfl ?_
      refine qk1 rfl rfl rfl rfl ?_
      refine yO ?_
      refine yI ?_
      refine qnA rfl (fun h53 => ?_) (fun h53 => ?_)
      · refine zI ?_
        refine kO rfl rfl rfl ?_
        refine kO rfl rfl rfl ?_
        refine kO rfl rfl rfl ?_
        refine qk2 rfl rfl rfl rfl ?_
        refine qgG ent25 rfl rfl rfl (fun x50 e50 => ih g1 x2 x3 x4 x5 x6 x7 a8 c9 x10 x11 x12 x13 x14 a15 c16 x17 x18 a19 c20 (iadd .i64 x21 1) (isub .i64 x22 x24.1) x50 e50) (.cons 0 rfl .nil) .nil (.consF 0 rfl (.consF 1 rfl (.consF 2 rfl .nil))) (fun x50 e50 => ?_)
        rintro ⟨a51, c52⟩
        refine yN rfl rfl rfl ?_
        refine yO ?_
        exact qag ((x50.1, x50.2.1, x50.2.2.1, x50.2.2.2.1, x50.2.2.2.2.1, x50.2.2.2.2.2.1, x50.2.2.2.2.2.2.1, x50.2.2.2.2.2.2.2.1, x50.2.2.2.2.2.2.2.2.1, x50.2.2.2.2.2.2.2.2.2.1, x50.2.2.2.2.2.2.2.2.2.2.1, x50.2.2.2.2.2.2.2.2.2.2.2), (a51, c52)) (hB := (.cons 0 rfl .nil)) (hR := (.cons 0 rfl .nil)) (hF := (qp 0 rfl (qp 1 rfl (qp 2 rfl yM))))
      · refine qiT ?_
        refine qcB Int (eI .i64) 3 1 ?_
        exact qag ((([] : List Int), x2, x3, x4, x5, x6, x10, x11, x12, x13, x17, iadd .i64 x21 1), (none, 0)) (hB := (.cons 0 rfl .nil)) (hR := (.cons 0 rfl .nil)) (hF := (qp 0 rfl (qp 1 rfl (qp 2 rfl yM))))
    · rintro ⟨⟨x31, x32, x33, x34, x35, x36, x37, x38, x39, x40, x41, x42⟩, ⟨a29, c30⟩⟩
      try dsimp only
      refine jo ?_
      refine zI ?_
      refine kO rfl rfl rfl ?_
      refine jL rfl rfl rfl ?_
      refine zE rfl rfl ff64_0 rfl ?_
      refine zE rfl rfl ff35_0 rfl ?_
      refine zE rfl rfl ff31_1 rfl ?_
      refine kq (i := 0) rfl rfl tf26 rfl rfl (by simp) rfl rfl ?_
      refine qez rfl tf26 rfl (fun g43 => ?_)
      refine yc (i := 0) rfl rfl rfl tf26 rfl rfl rfl rfl rfl ?_
      refine yO ?_
      refine yI ?_
      refine jo ?_
      refine zI ?_
      refine kO rfl rfl rfl ?_
      refine zE rfl rfl ff26_0 rfl ?_
      refine yc (i := 0) rfl rfl rfl tf3 rfl rfl rfl rfl rfl ?_
      refine yO ?_
      refine yI ?_
      refine jo ?_
      refine qL mixed [] [⟨g43, 26, [.int .i64 x24.1, .int .i64 x34, .int .i64 x35]⟩, ⟨g1, 64, [.int .i64 x32, .int .i64 x33, .int .i64 x34, .int .i64 x35, .int .i64 x36, .slice a8 x7.length c9, .int .i64 x37, .int .i64 x38, .int .i64 x39, .int .i64 x40, .slice a15 x14.length c16, .int .i64 x41, .slice a19 x18.length c20, .int .i64 x42]⟩] [Sl (eI .u8) 1 (.slice a8 x7.length c9) x7, Sl (eI .u8) 1 (.slice a15 x14.length c16) x14, Sl (eI .u8) 1 (.slice a19 x18.length c20) x18] (.cons 0 rfl (.cons 0 rfl .nil)) (qZ 0 rfl (qZ 1 rfl (qZ 2 rfl qI))) 18 rfl ?_
      refine qk 0 (.pointer (some ⟨g1, 0, none⟩)) rfl rfl rfl (y8 rfl) ?_
      refine qk 1 (.pointer (some ⟨g1, 0, none⟩)) rfl rfl rfl (y8 rfl) ?_
      refine qk 2 (.pointer (some ⟨g1, 0, none⟩)) rfl rfl rfl (yJ rfl ff64_0) ?_
      refine qk 3 (.pointer (some ⟨g1, 0, none⟩)) rfl rfl rfl (yJ rfl ff35_0) ?_
      refine qk 4 (.pointer (some ⟨g1, 4, none⟩)) rfl rfl rfl (yJ rfl ff31_2) ?_
      refine kL 5 (.agg #[.int .i64 x36, .slice a8 x7.length c9]) rfl rfl rfl (zz (i := 1) rfl tf29 rfl rfl (by simp) rfl) ?_
      refine qk 6 (.int .i64 x24.2.1) rfl rfl rfl (y8 rfl) ?_
      refine qk 7 (.int .i64 x22) rfl rfl rfl (y8 rfl) ?_
      refine qk 8 (.slice a29 x31.length c30) rfl rfl rfl (y8 rfl) ?_
      refine kL 9 (.agg #[.int .i64 x24.1, .int .i64 x34, .int .i64 x35]) rfl rfl rfl (zz (i := 0) rfl tf26 rfl rfl (by simp) rfl) ?_
      refine qiR 10 rfl (by kernel_rfl) rfl ?_
      refine qd8 ent56 rfl rfl rfl (fun x47 e47 => qeD e47) (.consF 0 rfl (.consR 0 (Ro (eI .i64) 3 1 (.slice a29 x31.length c30) x31) rfl .nil)) (fun x47 e47 => ?_)
      rintro ⟨a48, c49⟩
      refine yO ?_
      refine kP (.cons 0 rfl (.cons 0 rfl .nil)) (qZ 0 rfl (qZ 1 rfl (qZ 2 rfl qI))) ?_
      refine qk 11 (.tuple #[.slice a48 x47.1.length c49, .int .i64 x47.2.1, .int .i64 x47.2.2]) rfl rfl rfl (y8 rfl) ?_
      refine qk 12 (.slice a48 x47.1.length c49) rfl rfl rfl (y8 rfl) ?_
      refine qk 13 (.int .i64 x47.2.1) rfl rfl rfl (y8 rfl) ?_
      refine qk 14 (.int .i64 x47.2.2) rfl rfl rfl (y8 rfl) ?_
      refine qk 15 (.slice a48 x47.1.length c49) rfl rfl rfl (y8 rfl) ?_
      refine qk 16 (.int .i64 x47.2.1) rfl rfl rfl (y8 rfl) ?_
      refine qk 17 (.int .i64 x47.2.2) rfl rfl rfl (y8 rfl) ?_
      refine qiQ (by kernel_rfl) ?_
      refine qS ?_ (by intro c h; cases h)
      refine yI ?_
      refine jo ?_
      refine zI ?_
      refine kO rfl rfl rfl ?_
      refine yN rfl rfl rfl ?_
      refine yO ?_
      refine yI ?_
      refine qkY ?_
      exact kZ (a48, c49) (res1 rfl rfl) (hB := fun h => by subst h; exact (.cons 1 rfl .nil)) (hR := fun h => by subst h; exact (.cons 0 rfl .nil))
set_option maxHeartbeats 4000000 in
theorem qg4 {F : Nat} {x1 : Int} {x2 : Int} {x3 : Int} {x4 : Int} {x5 : Int} {x6 : List Int} {a7 : Option Addr} {c8 : Nat} {x9 : Int} {x10 : Int} {x11 : Int} {x12 : Int} {x13 : List Int} {a14 : Option Addr} {c15 : Nat} {x16 : Int} {x17 : List Int} {a18 : Option Addr} {c19 : Nat} {x20 : Int} {r : (List Int × Int × Int)} (hm : kS F x1 x2 x3 x4 x5 x6 x9 x10 x11 x12 x13 x16 x17 x20 = some r) :
    Pure Tryz.prog 9 [.agg #[.int .i64 x1, .int .i64 x2, .int .i64 x3, .int .i64 x4, .int .i64 x5, .slice a7 x6.length c8, .int .i64 x9, .int .i64 x10, .int .i64 x11, .int .i64 x12, .slice a14 x13.length c15, .int .i64 x16, .slice a18 x17.length c19], .int .i64 x20] [Sl (eI .u8) 1 (.slice a7 x6.length c8) x6, Sl (eI .u8) 1 (.slice a14 x13.length c15) x13, Sl (eI .u8) 1 (.slice a18 x17.length c19) x17] (Option Addr × Nat) (fun g => .tuple #[.slice g.1 r.1.length g.2, .int .i64 r.2.1, .int .i64 r.2.2]) (fun g => [Ro (eI .i64) 3 1 (.slice g.1 r.1.length g.2) r.1]) (fun _ => []) := by
 refine qi Tryz.func9 rfl Tryz.ntmps9 rfl hm (fun w => ?_)
 refine au [24,8,3,4,20] ?_
 intro g21
 refine au [5,5,5,0,2,3,4,24,3,30,0] ?_
 intro x22 e22 _
 refine au [5,0,2] ?_
 refine qf (fun ((x28, _) : (Int × Unit)) => ([(1, .int .i64 x20), (2, .pointer (some ⟨g21, 0, none⟩)), (7, .int .i64 x28)], [⟨g21, 35, [.int .i64 x1, .int .i64 x2, .int .i64 x3, .int .i64 x4, .int .i64 x5, .slice a7 x6.length c8, .int .i64 x9, .int .i64 x10, .int .i64 x11, .int .i64 x12, .slice a14 x13.length c15, .int .i64 x16, .slice a18 x17.length c19]⟩], [], [Sl (eI .u8) 1 (.slice a7 x6.length c8) x6, Sl (eI .u8) 1 (.slice a14 x13.length c15) x13, Sl (eI .u8) 1 (.slice a18 x17.length c19) x17], vB F x1 x2 x3 x4 x5 x6 x9 x10 x11 x12 x13 x16 x17 x20 x28)) ?_ ?_
 refine au [3,4,1,24,10,1] ?_
 refine qA 10 (fun ((x37, _) : (Bool × Unit)) => ([(1, .int .i64 x20), (2, .pointer (some ⟨g21, 0, none⟩)), (7, .int .i64 x22), (24, .bool x37)], [⟨g21, 35, [.int .i64 x1, .int .i64 x2, .int .i64 x3, .int .i64 x4, .int .i64 x5, .slice a7 x6.length c8, .int .i64 x9, .int .i64 x10, .int .i64 x11, .int .i64 x12, .slice a14 x13.length c15, .int .i64 x16, .slice a18 x17.length c19]⟩], [], [Sl (eI .u8) 1 (.slice a7 x6.length c8) x6, Sl (eI .u8) 1 (.slice a14 x13.length c15) x13, Sl (eI .u8) 1 (.slice a18 x17.length c19) x17], vC F x1 x2 x3 x4 x5 x6 x9 x10 x11 x12 x13 x16 x17 x20 x22 x37)) ?_ ?_
 refine qa (os := _) rfl ?_
 refine av [25,6] ?_ ?_
 intro h35
 refine qh (k := 14) rfl h35 ?_
 refine au [1,24,2,1] ?_
 refine ql 6 (decide (x20 < 0)) [(1, .int .i64 x20), (2, .pointer (some ⟨g21, 0, none⟩)), (7, .int .i64 x22), (14, .bool true), (23, .bool ((decide (x20 < 0)) || (decide (x1 ≤ x20))))] (fun h39 => ?_) (fun h39 => ?_) ?_
 refine qa (os := _) rfl (qh (k := 17) rfl h39 ?_)
 refine au [6,6,6,6,6,21] ?_
 refine qc (d := 23) (v := .bool ((decide (x20 < 0)) || (decide (x1 ≤ x20)))) rfl (by rw [h39]; simp only [Bool.true_or]) ?_
 exact az [0,15]
 refine qa (os := _) rfl (qg (k := 17) rfl h39 ?_)
 refine au [1,8,8,17,26,0,22] ?_
 refine qc (d := 23) (v := .bool ((decide (x20 < 0)) || (decide (x1 ≤ x20)))) rfl (by rw [h39]; simp only [Bool.false_or]) ?_
 exact az [0,15]
 refine qa (os := _) rfl ?_
 refine au [21,0] ?_
 exact qb (((decide (x20 < 0)) || (decide (x1 ≤ x20))), ())
 intro h35
 refine qg (k := 14) rfl h35 ?_
 refine au [6,6,6,6,6,6,6,6,6,22,0] ?_
 exact qb (false, ())
 rintro ⟨x37, _⟩
 try dsimp only
 refine qa (os := _) rfl ?_
 refine av [0,2,10] ?_ ?_
 intro _
 refine au [4,5,0] ?_
 exact qb ((3 : Int), ())
 intro _
 refine au [12] ?_
 exact qb (x22, ())
 rintro ⟨x28, _⟩
 try dsimp only
 refine av [3,3,4,1,25,2,0,2,10] ?_ ?_
 intro _
 refine au [3,4,1,5,5,5,0,2,9,11,25,11] ?_
 exact qt (none, 0)
 intro _
 refine au [12,2,3,4,24,3] ?_
 refine qo (cells := [.int .i64 x1, .int .i64 x2, .int .i64 x3, .int .i64 x4, .int .i64 x5, .slice a7 x6.length c8, .int .i64 x9, .int .i64 x10, .int .i64 x11, .int .i64 x12, .slice a14 x13.length c15, .int .i64 x16, .slice a18 x17.length c19, .int .i64 0]) rfl st64 rfl (by kernel_rfl) rfl ?_
 refine au [20] ?_
 intro g30
 refine au [5,0,2,3,4,1,1] ?_
 refine qP (fun h => qdd F _ _ _ _ _ _ _ _ _ _ _ _ _ _ _ _ _ _ _ _ _ _ _ h) ?_
 rintro x31 e31 ⟨a32, c33⟩
 refine au [5,0,2,3] ?_
 refine qL mixed [] [⟨g30, 64, [.int .i64 x31.2.1, .int .i64 x31.2.2.1, .int .i64 x31.2.2.2.1, .int .i64 x31.2.2.2.2.1, .int .i64 x31.2.2.2.2.2.1, .slice a7 x6.length c8, .int .i64 x31.2.2.2.2.2.2.1, .int .i64 x31.2.2.2.2.2.2.2.1, .int .i64 x31.2.2.2.2.2.2.2.2.1, .int .i64 x31.2.2.2.2.2.2.2.2.2.1, .slice a14 x13.length c15, .int .i64 x31.2.2.2.2.2.2.2.2.2.2.1, .slice a18 x17.length c19, .int .i64 x31.2.2.2.2.2.2.2.2.2.2.2]⟩, ⟨g21, 35, [.int .i64 x1, .int .i64 x2, .int .i64 x3, .int .i64 x4, .int .i64 x5, .slice a7 x6.length c8, .int .i64 x9, .int .i64 x10, .int .i64 x11, .int .i64 x12, .slice a14 x13.length c15, .int .i64 x16, .slice a18 x17.length c19]⟩] [Sl (eI .u8) 1 (.slice a7 x6.length c8) x6, Sl (eI .u8) 1 (.slice a14 x13.length c15) x13, Sl (eI .u8) 1 (.slice a18 x17.length c19) x17] (.cons 0 rfl (.cons 0 rfl .nil)) (qZ 0 rfl (qZ 1 rfl (qZ 2 rfl qI))) 8 rfl ?_
 refine au [7,0,7,1,7,2,24,0,3,25,7,4,7,5,7,6,7,7,24,11] ?_
 refine qS ?_ (by intro c h; cases h)
 refine au [2,9] ?_
 exact qt (a32, c33)
set_option maxHeartbeats 4000000 in
theorem qf4 {F : Nat} {x1 : Int} {x2 : Int} {x3 : Int} {x4 : Int} {x5 : Int} {x6 : List Int} {a7 : Option Addr} {c8 : Nat} {x9 : Int} {x10 : Int} {x11 : Int} {x12 : Int} {x13 : List Int} {a14 : Option Addr} {c15 : Nat} {x16 : Int} {x17 : List Int} {a18 : Option Addr} {c19 : Nat} {x20 : Int} {x21 : Int} {r : (Bool × Int)} (hm : vO F x1 x2 x3 x4 x5 x6 x9 x10 x11 x12 x13 x16 x17 x20 x21 = some r) :
    Pure Tryz.prog 10 [.agg #[.int .i64 x1, .int .i64 x2, .int .i64 x3, .int .i64 x4, .int .i64 x5, .slice a7 x6.length c8, .int .i64 x9, .int .i64 x10, .int .i64 x11, .int .i64 x12, .slice a14 x13.length c15, .int .i64 x16, .slice a18 x17.length c19], .int .i64 x20, .int .i64 x21] [Sl (eI .u8) 1 (.slice a7 x6.length c8) x6, Sl (eI .u8) 1 (.slice a14 x13.length c15) x13, Sl (eI .u8) 1 (.slice a18 x17.length c19) x17] Unit (fun _ => .tuple #[.bool r.1, .int .i64 r.2]) (fun _ => []) (fun _ => []) := by
 refine qi Tryz.func10 rfl Tryz.ntmps10 rfl hm (fun w => ?_)
 refine au [25,14,3,4,20] ?_
 intro g22
 refine au [5,5,0,2,3,4,24,3,1,28,7] ?_
 rintro x23 e23 ⟨a24, c25⟩
 refine au [1,14,14,14,5,5,5,0,2] ?_
 refine qf (fun ((x31, _) : (Int × Unit)) => ([(2, .int .i64 x21), (8, .slice a24 x23.1.length c25), (10, .int .i64 x31)], [], [Ro (eI .i64) 3 1 (.slice a24 x23.1.length c25) x23.1], [], jG F x21 x23 x31)) ?_ ?_
 refine au [3,4,1,24,10,1] ?_
 refine qA 10 (fun ((x37, _) : (Bool × Unit)) => ([(2, .int .i64 x21), (8, .slice a24 x23.1.length c25), (10, .int .i64 x23.2.2), (32, .bool x37)], [], [Ro (eI .i64) 3 1 (.slice a24 x23.1.length c25) x23.1], [], jH F x21 x23 x37)) ?_ ?_
 refine qa (os := _) rfl ?_
 refine av [25,6] ?_ ?_
 intro h35
 refine qh (k := 22) rfl h35 ?_
 refine au [1,24,2,1] ?_
 refine ql 6 (decide (x21 < 0)) [(2, .int .i64 x21), (8, .slice a24 x23.1.length c25), (10, .int .i64 x23.2.2), (22, .bool true), (31, .bool ((decide (x21 < 0)) || (decide (x1 ≤ x21))))] (fun h39 => ?_) (fun h39 => ?_) ?_
 refine qa (os := _) rfl (qh (k := 25) rfl h39 ?_)
 refine au [6,6,6,6,6,21] ?_
 refine qc (d := 31) (v := .bool ((decide (x21 < 0)) || (decide (x1 ≤ x21)))) rfl (by rw [h39]; simp only [Bool.true_or]) ?_
 exact az [0,15]
 refine qa (os := _) rfl (qg (k := 25) rfl h39 ?_)
 refine au [1,8,8,17,26,0,22] ?_
 refine qc (d := 31) (v := .bool ((decide (x21 < 0)) || (decide (x1 ≤ x21)))) rfl (by rw [h39]; simp only [Bool.false_or]) ?_
 exact az [0,15]
 refine qa (os := _) rfl ?_
 refine au [21,0] ?_
 exact qb (((decide (x21 < 0)) || (decide (x1 ≤ x21))), ())
 intro h35
 refine qg (k := 22) rfl h35 ?_
 refine au [6,6,6,6,6,6,6,6,6,22,0] ?_
 exact qb (false, ())
 rintro ⟨x37, _⟩
 try dsimp only
 refine qa (os := _) rfl ?_
 refine av [0,2,10] ?_ ?_
 intro _
 refine au [4,5,0] ?_
 exact qb ((3 : Int), ())
 intro _
 refine au [12] ?_
 exact qb (x23.2.2, ())
 rintro ⟨x31, _⟩
 try dsimp only
 refine av [3,3,4,1,25,2,0,2,10] ?_ ?_
 intro _
 exact az [3,4,1,5,5,0,2,9,11,16]
 intro _
 refine au [12,2,3,4,1,1,28,13] ?_
 intro x33 e33 _
 exact az [1,14,14,5,5,0,2,3,4,1,5,5,0,2,9,16]
set_option maxHeartbeats 4000000 in
theorem qgQ {F : Nat} {x1 : List Int} {a2 : Option Addr} {c3 : Nat} {x4 : List Int} {a5 : Option Addr} {c6 : Nat} {r : Bool} (hm : qaj F x1 x4 = some r) :
    Pure Tryz.prog 17 [.slice a2 x1.length c3, .slice a5 x4.length c6] [Sl (eI .i64) 1 (.slice a2 x1.length c3) x1, Sl (eI .i64) 1 (.slice a5 x4.length c6) x4] Unit (fun _ => .bool r) (fun _ => []) (fun _ => []) := by
 refine qi Tryz.func17 rfl Tryz.ntmps17 rfl hm (fun w => ?_)
 refine av [24,8,3,4,5,0,2,3,3,4,1,24,5,1,24,5,25,2,0,2,10] ?_ ?_
 intro _
 exact az [3,4,5,0,2,9,11,16]
 intro _
 refine au [12,2] ?_
 refine qf (fun ((_, _) : (Unit × Unit)) => ([], [], [], [], qcD F)) ?_ ?_
 refine au [3,4,5,0,2,18] ?_
 refine qx (fun ((x154, _) : (Int × Unit)) => ([(0, .slice a2 x1.length c3), (1, .slice a5 x4.length c6), (5, .int .i64 x154)], [], [], [Sl (eI .i64) 1 (.slice a2 x1.length c3) x1, Sl (eI .i64) 1 (.slice a5 x4.length c6) x4])) (fun k (s : (Int × Unit)) => yk F x1 x4 k s.1) (0, ()) F ?_
 intro k191
 rintro ⟨x154, _⟩
 try dsimp only
 refine qG (m' := jY F x1 x4 (yk F x1 x4 k191) x154) rfl ?_
 refine av [3,3,4,1,1,24,5,24,2,0,2,10] ?_ ?_
 intro _
 refine au [12,2,3,18,3,31,2] ?_
 intro x218 e218 b219 o220 h221
 replace h221 : a2 = some ⟨b219, o220, none⟩ := h221
 refine qc1 (j := 2) (qT .i64) (by decide) rfl ?_
 intro x222 e222 b223 o224 h225
 replace h225 : a5 = some ⟨b223, o224, none⟩ := h225
 refine qL mixed [] [] [zb b223 (o224 + x154.toNat * 1) ((eI .i64) x222), zb b219 (o220 + x154.toNat * 1) ((eI .i64) x218), Sl (eI .i64) 1 (.slice a2 x1.length c3) x1, Sl (eI .i64) 1 (.slice a5 x4.length c6) x4] .nil (qZ 0 rfl (qZ 1 rfl (qZ 2 rfl (qZ 3 rfl qI)))) 9 rfl ?_
 refine au [7,0,7,1] ?_
 refine qj (d := 17) (v := .slice (some ⟨b219, o220, none⟩) x1.length c3) rfl (by rw [h221] <;> rfl) (qk 2 (.pointer (some ⟨b219, (o220 + x154.toNat * 1), none⟩)) rfl rfl rfl (qb9 Tryz.underlying39 tf3 rfl rfl (kb e218).1 (qbH e218)) (qj (d := 17) (v := .slice a2 x1.length c3) rfl (by rw [h221] <;> rfl) (zm 3 (.int .i64 x218) [] rfl rfl rfl (jW (j := 1) rfl tf3 rfl rfl (fun _ => rfl) rfl) ?_)))
 refine au [7,4,7,5] ?_
 refine qj (d := 21) (v := .slice (some ⟨b223, o224, none⟩) x4.length c6) rfl (by rw [h225] <;> rfl) (qk 6 (.pointer (some ⟨b223, (o224 + x154.toNat * 1), none⟩)) rfl rfl rfl (qb9 Tryz.underlying39 tf3 rfl rfl (kb e222).1 (qbH e222)) (qj (d := 21) (v := .slice a5 x4.length c6) rfl (by rw [h225] <;> rfl) (zm 7 (.int .i64 x222) [] rfl rfl rfl (jW (j := 0) rfl tf3 rfl rfl (fun _ => rfl) rfl) ?_)))
 refine au [7,8,24,11] ?_
 refine qS ?_ (by intro c h; cases h)
 refine av [2,10] ?_ ?_
 intro _
 exact az [3,4,5,0,2,9,24,1,11,11,24,1,11,16]
 intro _
 refine au [12,24,6,2,4,1,19,5,0] ?_
 exact qm (iadd .i64 x154 1, ())
 intro _
 exact az [24,13,23,23,24,14,26,1]
 rintro ⟨_, _⟩
 try dsimp only
 exact az [3,4,5,0,2,9,16]
theorem qfP (F : Nat)  (r : List (List Int)) (hm : qb0 F  = some r) :
    Pure Tryz.prog 32 [] [] (Option Addr × (Nat × List (Option Addr × Nat))) (fun g => .agg #[.slice g.1 r.length g.2.1]) (fun g => [RoN eN39 rN39 39 1 (.slice g.1 r.length g.2.1) r g.2.2 []]) (fun _ => []) := by
 refine qi Tryz.func32 rfl Tryz.ntmps32 rfl hm (fun w => ?_)
 refine au [33,14,3,4,24,9] ?_
 intro g1
 refine au [0,2,3,4] ?_
 refine za (vs := [.int .i64 1, .int .i64 2, .int .i64 3, .int .i64 5]) (ys := ([1, 2, 3, 5] : List Int)) (qT .i64) (by decide) rfl Tryz.underlying39 tf3 rfl rfl rfl rfl rfl (by decide) (fun a2 c3 => za (vs := [.int .i64 1, .int .i64 2, .int .i64 3, .int .i64 5]) (ys := ([1, 2, 3, 5] : List Int)) (qT .i64) (by decide) rfl Tryz.underlying39 tf3 rfl rfl rfl rfl rfl (by decide) (fun a4 c5 => za (vs := [.int .i64 0, .int .i64 1, .int .i64 2, .int .i64 3, .int .i64 5]) (ys := ([0, 1, 2, 3, 5] : List Int)) (qT .i64) (by decide) rfl Tryz.underlying39 tf3 rfl rfl rfl rfl rfl (by decide) (fun a6 c7 => za (vs := [.int .i64 4]) (ys := ([4] : List Int)) (qT .i64) (by decide) rfl Tryz.underlying39 tf3 rfl rfl rfl rfl rfl (by decide) (fun a8 c9 => za (vs := [.int .i64 1, .int .i64 2, .int .i64 3]) (ys := ([1, 2, 3] : List Int)) (qT .i64) (by decide) rfl Tryz.underlying39 tf3 rfl rfl rfl rfl rfl (by decide) (fun a10 c11 => ?_)))))
 refine au [27,7] ?_
 refine za (vs := [.slice a2 ([1, 2, 3, 5] : List Int).length c3, .slice a4 ([1, 2, 3, 5] : List Int).length c5, .slice a6 ([0, 1, 2, 3, 5] : List Int).length c7, .slice none ([] : List Int).length 0, .slice a8 ([4] : List Int).length c9, .slice a10 ([1, 2, 3] : List Int).length c11]) (ys := ([(([1, 2, 3, 5] : List Int), (a2, c3)), (([1, 2, 3, 5] : List Int), (a4, c5)), (([0, 1, 2, 3, 5] : List Int), (a6, c7)), (([] : List Int), (none, 0)), (([4] : List Int), (a8, c9)), (([1, 2, 3] : List Int), (a10, c11))] : List (List Int × (Option Addr × Nat)))) qaz (by decide) rfl Tryz.underlying22 tf39 rfl rfl rfl rfl rfl (by decide) (fun a12 c13 => qdC (rin := rN39) (i := 0) ([([1, 2, 3, 5] : List Int), ([1, 2, 3, 5] : List Int), ([0, 1, 2, 3, 5] : List Int), ([] : List Int), ([4] : List Int), ([1, 2, 3] : List Int)] : List (List Int)) ([(a2, c3), (a4, c5), (a6, c7), (none, 0), (a8, c9), (a10, c11)] : List (Option Addr × Nat)) rfl rfl (.cons 5 rfl (.cons 4 rfl (.cons 3 rfl (.cons 0 rfl (.cons 1 rfl (.cons 0 rfl .nil)))))) (qo (cells := [.slice a12 ([([1, 2, 3, 5] : List Int), ([1, 2, 3, 5] : List Int), ([0, 1, 2, 3, 5] : List Int), ([] : List Int), ([4] : List Int), ([1, 2, 3] : List Int)] : List (List Int)).length c13]) rfl st24 rfl (by kernel_rfl) rfl ?_))
 refine au [24,4,0,2,9] ?_
 exact qD (a12, (c13, ([(a2, c3), (a4, c5), (a6, c7), (none, 0), (a8, c9), (a10, c11)] : List (Option Addr × Nat)))) (resL (rs := [.cell 0 24]) rfl (.cell (i := 0) rfl tf24 rfl rfl (by simp) rfl ResOk.nil) rfl) (fun h => by subst h; exact (.cons 0 rfl .nil))
set_option maxHeartbeats 4000000 in
theorem qeV (F : Nat)  (r : Bool) (hm : qah F  = some r) :
    Pure Tryz.prog 14 [] [] Unit (fun _ => .bool r) (fun _ => []) (fun _ => []) := by
 refine qi Tryz.func14 rfl Tryz.ntmps14 rfl hm (fun w => ?_)
 refine au [33,14,3,4,5,0,2,3,4] ?_
 refine qe (fun h => qfP F _ h) ?_
 rintro x1 e1 ⟨a2, c3⟩
 refine qo (cells := [.int .i64 3, .int .i64 3, .int .i64 2]) rfl st26 rfl (by kernel_rfl) rfl ?_
 refine au [33,15] ?_
 rintro x4 e4 ⟨⟨a5, c6⟩, ⟨a7, c8⟩, ⟨a9, c10⟩⟩
 refine au [1,14,14,24,9] ?_
 intro g11
 refine au [24,4,5,0,2,3,4,24,3,28,7] ?_
 rintro x12 e12 ⟨a13, c14⟩
 refine au [1,14,14,14,5,5,5,0,2,3,4,24,3,30,1] ?_
 intro x15 e15 _
 refine au [1,14,14,5,5,0,2,3,4,24,3,30,1] ?_
 intro x16 e16 _
 refine au [1,14,14,5,5,0,2,3,4,24,3,28,7] ?_
 rintro x17 e17 ⟨a18, c19⟩
 refine au [1,14,14,14,5,5,5,0,2,3,4,1,24,10,1] ?_
 refine qA 4 (fun ((x24, _) : (Bool × Unit)) => ([(1, .pointer (some ⟨g11, 0, none⟩)), (4, .int .i64 x12.2.1), (5, .int .i64 x12.2.2), (6, .bool x15.1), (7, .int .i64 x15.2), (8, .bool x16.1), (9, .int .i64 x16.2), (12, .int .i64 x17.2.2), (47, .bool x24)], [⟨g11, 35, [.int .i64 x4.1, .int .i64 x4.2.1, .int .i64 x4.2.2.1, .int .i64 x4.2.2.2.1, .int .i64 x4.2.2.2.2.1, .slice a5 x4.2.2.2.2.2.1.length c6, .int .i64 x4.2.2.2.2.2.2.1, .int .i64 x4.2.2.2.2.2.2.2.1, .int .i64 x4.2.2.2.2.2.2.2.2.1, .int .i64 x4.2.2.2.2.2.2.2.2.2.1, .slice a7 x4.2.2.2.2.2.2.2.2.2.2.1.length c8, .int .i64 x4.2.2.2.2.2.2.2.2.2.2.2.1, .slice a9 x4.2.2.2.2.2.2.2.2.2.2.2.2.1.length c10]⟩], [Ro (eI .u8) 5 1 (.slice a5 x4.2.2.2.2.2.1.length c6) x4.2.2.2.2.2.1, Ro (eI .u8) 5 1 (.slice a7 x4.2.2.2.2.2.2.2.2.2.2.1.length c8) x4.2.2.2.2.2.2.2.2.2.2.1, Ro (eI .u8) 5 1 (.slice a9 x4.2.2.2.2.2.2.2.2.2.2.2.2.1.length c10) x4.2.2.2.2.2.2.2.2.2.2.2.2.1], [], vR F x4 x12 x15 x16 x17 x24)) ?_ ?_
 refine qa (os := _) rfl ?_
 refine av [25,6] ?_ ?_
 intro h20
 refine qh (k := 43) rfl h20 ?_
 refine au [1] ?_
 refine za (vs := [.int .i64 1, .int .i64 2, .int .i64 3, .int .i64 5]) (ys := ([1, 2, 3, 5] : List Int)) (qT .i64) (by decide) rfl Tryz.underlying39 tf3 rfl rfl rfl rfl rfl (by decide) (fun a40 c41 => ?_)
 refine au [34,0] ?_
 intro x42 e42 _
 refine au [21,0] ?_
 exact qb (x42, ())
 intro h20
 refine qg (k := 43) rfl h20 ?_
 refine au [6,6,6,22,0] ?_
 exact qb (false, ())
 rintro ⟨x24, _⟩
 try dsimp only
 refine qa (os := _) rfl ?_
 refine au [1] ?_
 refine ql 3 x24 [(1, .pointer (some ⟨g11, 0, none⟩)), (5, .int .i64 x12.2.2), (6, .bool x15.1), (7, .int .i64 x15.2), (8, .bool x16.1), (9, .int .i64 x16.2), (12, .int .i64 x17.2.2), (51, .bool (x24 && ((x12.2.1 : Int) == 2)))] (fun h25 => ?_) (fun h25 => ?_) ?_
 refine qa (os := _) rfl (qh (k := 48) rfl h25 ?_)
 refine au [1,24,10,21] ?_
 refine qc (d := 51) (v := .bool (x24 && ((x12.2.1 : Int) == 2))) rfl (by rw [h25]; simp only [Bool.true_and]) ?_
 exact az [0,15]
 refine qa (os := _) rfl (qg (k := 48) rfl h25 ?_)
 refine au [6,6,22] ?_
 refine qc (d := 51) (v := .bool (x24 && ((x12.2.1 : Int) == 2))) rfl (by rw [h25]; simp only [Bool.false_and]) ?_
 exact az [0,15]
 refine qa (os := _) rfl ?_
 refine au [1] ?_
 refine ql 3 (x24 && ((x12.2.1 : Int) == 2)) [(1, .pointer (some ⟨g11, 0, none⟩)), (6, .bool x15.1), (7, .int .i64 x15.2), (8, .bool x16.1), (9, .int .i64 x16.2), (12, .int .i64 x17.2.2), (55, .bool ((x24 && ((x12.2.1 : Int) == 2)) && ((x12.2.2 : Int) == 0)))] (fun h26 => ?_) (fun h26 => ?_) ?_
 refine qa (os := _) rfl (qh (k := 52) rfl h26 ?_)
 refine au [1,24,10,21] ?_
 refine qc (d := 55) (v := .bool ((x24 && ((x12.2.1 : Int) == 2)) && ((x12.2.2 : Int) == 0))) rfl (by rw [h26]; simp only [Bool.true_and]) ?_
 exact az [0,15]
 refine qa (os := _) rfl (qg (k := 52) rfl h26 ?_)
 refine au [6,6,22] ?_
 refine qc (d := 55) (v := .bool ((x24 && ((x12.2.1 : Int) == 2)) && ((x12.2.2 : Int) == 0))) rfl (by rw [h26]; simp only [Bool.false_and]) ?_
 exact az [0,15]
 refine qa (os := _) rfl ?_
 refine au [1] ?_
 refine ql 2 ((x24 && ((x12.2.1 : Int) == 2)) && ((x12.2.2 : Int) == 0)) [(1, .pointer (some ⟨g11, 0, none⟩)), (7, .int .i64 x15.2), (8, .bool x16.1), (9, .int .i64 x16.2), (12, .int .i64 x17.2.2), (58, .bool (((x24 && ((x12.2.1 : Int) == 2)) && ((x12.2.2 : Int) == 0)) && x15.1))] (fun h27 => ?_) (fun h27 => ?_) ?_
 refine qa (os := _) rfl (qh (k := 56) rfl h27 ?_)
 refine au [1,21] ?_
 refine qc (d := 58) (v := .bool (((x24 && ((x12.2.1 : Int) == 2)) && ((x12.2.2 : Int) == 0)) && x15.1)) rfl (by rw [h27]; simp only [Bool.true_and]) ?_
 exact az [0,15]
 refine qa (os := _) rfl (qg (k := 56) rfl h27 ?_)
 refine au [6,22] ?_
 refine qc (d := 58) (v := .bool (((x24 && ((x12.2.1 : Int) == 2)) && ((x12.2.2 : Int) == 0)) && x15.1)) rfl (by rw [h27]; simp only [Bool.false_and]) ?_
 exact az [0,15]
 refine qa (os := _) rfl ?_
 refine au [1] ?_
 refine ql 3 (((x24 && ((x12.2.1 : Int) == 2)) && ((x12.2.2 : Int) == 0)) && x15.1) [(1, .pointer (some ⟨g11, 0, none⟩)), (8, .bool x16.1), (9, .int .i64 x16.2), (12, .int .i64 x17.2.2), (62, .bool ((((x24 && ((x12.2.1 : Int) == 2)) && ((x12.2.2 : Int) == 0)) && x15.1) && ((x15.2 : Int) == 0)))] (fun h28 => ?_) (fun h28 => ?_) ?_
 refine qa (os := _) rfl (qh (k := 59) rfl h28 ?_)
 refine au [1,24,10,21] ?_
 refine qc (d := 62) (v := .bool ((((x24 && ((x12.2.1 : Int) == 2)) && ((x12.2.2 : Int) == 0)) && x15.1) && ((x15.2 : Int) == 0))) rfl (by rw [h28]; simp only [Bool.true_and]) ?_
 exact az [0,15]
 refine qa (os := _) rfl (qg (k := 59) rfl h28 ?_)
 refine au [6,6,22] ?_
 refine qc (d := 62) (v := .bool ((((x24 && ((x12.2.1 : Int) == 2)) && ((x12.2.2 : Int) == 0)) && x15.1) && ((x15.2 : Int) == 0))) rfl (by rw [h28]; simp only [Bool.false_and]) ?_
 exact az [0,15]
 refine qa (os := _) rfl ?_
 refine au [1] ?_
 refine ql 3 ((((x24 && ((x12.2.1 : Int) == 2)) && ((x12.2.2 : Int) == 0)) && x15.1) && ((x15.2 : Int) == 0)) [(1, .pointer (some ⟨g11, 0, none⟩)), (9, .int .i64 x16.2), (12, .int .i64 x17.2.2), (66, .bool (((((x24 && ((x12.2.1 : Int) == 2)) && ((x12.2.2 : Int) == 0)) && x15.1) && ((x15.2 : Int) == 0)) && (!x16.1)))] (fun h29 => ?_) (fun h29 => ?_) ?_
 refine qa (os := _) rfl (qh (k := 63) rfl h29 ?_)
 refine au [1,25,3,21] ?_
 refine qc (d := 66) (v := .bool (((((x24 && ((x12.2.1 : Int) == 2)) && ((x12.2.2 : Int) == 0)) && x15.1) && ((x15.2 : Int) == 0)) && (!x16.1))) rfl (by rw [h29]; simp only [Bool.true_and]) ?_
 exact az [0,15]
 refine qa (os := _) rfl (qg (k := 63) rfl h29 ?_)
 refine au [6,6,22] ?_
 refine qc (d := 66) (v := .bool (((((x24 && ((x12.2.1 : Int) == 2)) && ((x12.2.2 : Int) == 0)) && x15.1) && ((x15.2 : Int) == 0)) && (!x16.1))) rfl (by rw [h29]; simp only [Bool.false_and]) ?_
 exact az [0,15]
 refine qa (os := _) rfl ?_
 refine au [1] ?_
 refine ql 3 (((((x24 && ((x12.2.1 : Int) == 2)) && ((x12.2.2 : Int) == 0)) && x15.1) && ((x15.2 : Int) == 0)) && (!x16.1)) [(1, .pointer (some ⟨g11, 0, none⟩)), (12, .int .i64 x17.2.2), (70, .bool ((((((x24 && ((x12.2.1 : Int) == 2)) && ((x12.2.2 : Int) == 0)) && x15.1) && ((x15.2 : Int) == 0)) && (!x16.1)) && ((x16.2 : Int) == 0)))] (fun h30 => ?_) (fun h30 => ?_) ?_
 refine qa (os := _) rfl (qh (k := 67) rfl h30 ?_)
 refine au [1,24,10,21] ?_
 refine qc (d := 70) (v := .bool ((((((x24 && ((x12.2.1 : Int) == 2)) && ((x12.2.2 : Int) == 0)) && x15.1) && ((x15.2 : Int) == 0)) && (!x16.1)) && ((x16.2 : Int) == 0))) rfl (by rw [h30]; simp only [Bool.true_and]) ?_
 exact az [0,15]
 refine qa (os := _) rfl (qg (k := 67) rfl h30 ?_)
 refine au [6,6,22] ?_
 refine qc (d := 70) (v := .bool ((((((x24 && ((x12.2.1 : Int) == 2)) && ((x12.2.2 : Int) == 0)) && x15.1) && ((x15.2 : Int) == 0)) && (!x16.1)) && ((x16.2 : Int) == 0))) rfl (by rw [h30]; simp only [Bool.false_and]) ?_
 exact az [0,15]
 refine qa (os := _) rfl ?_
 refine au [1] ?_
 refine ql 3 ((((((x24 && ((x12.2.1 : Int) == 2)) && ((x12.2.2 : Int) == 0)) && x15.1) && ((x15.2 : Int) == 0)) && (!x16.1)) && ((x16.2 : Int) == 0)) [(1, .pointer (some ⟨g11, 0, none⟩)), (74, .bool (((((((x24 && ((x12.2.1 : Int) == 2)) && ((x12.2.2 : Int) == 0)) && x15.1) && ((x15.2 : Int) == 0)) && (!x16.1)) && ((x16.2 : Int) == 0)) && ((x17.2.2 : Int) == 3)))] (fun h31 => ?_) (fun h31 => ?_) ?_
 refine qa (os := _) rfl (qh (k := 71) rfl h31 ?_)
 refine au [1,24,10,21] ?_
 refine qc (d := 74) (v := .bool (((((((x24 && ((x12.2.1 : Int) == 2)) && ((x12.2.2 : Int) == 0)) && x15.1) && ((x15.2 : Int) == 0)) && (!x16.1)) && ((x16.2 : Int) == 0)) && ((x17.2.2 : Int) == 3))) rfl (by rw [h31]; simp only [Bool.true_and]) ?_
 exact az [0,15]
 refine qa (os := _) rfl (qg (k := 71) rfl h31 ?_)
 refine au [6,6,22] ?_
 refine qc (d := 74) (v := .bool (((((((x24 && ((x12.2.1 : Int) == 2)) && ((x12.2.2 : Int) == 0)) && x15.1) && ((x15.2 : Int) == 0)) && (!x16.1)) && ((x16.2 : Int) == 0)) && ((x17.2.2 : Int) == 3))) rfl (by rw [h31]; simp only [Bool.false_and]) ?_
 exact az [0,15]
 refine qa (os := _) rfl ?_
 refine au [1] ?_
 refine qA 4 (fun ((x34, _) : (Bool × Unit)) => ([(1, .pointer (some ⟨g11, 0, none⟩)), (79, .bool x34)], [⟨g11, 35, [.int .i64 x4.1, .int .i64 x4.2.1, .int .i64 x4.2.2.1, .int .i64 x4.2.2.2.1, .int .i64 x4.2.2.2.2.1, .slice a5 x4.2.2.2.2.2.1.length c6, .int .i64 x4.2.2.2.2.2.2.1, .int .i64 x4.2.2.2.2.2.2.2.1, .int .i64 x4.2.2.2.2.2.2.2.2.1, .int .i64 x4.2.2.2.2.2.2.2.2.2.1, .slice a7 x4.2.2.2.2.2.2.2.2.2.2.1.length c8, .int .i64 x4.2.2.2.2.2.2.2.2.2.2.2.1, .slice a9 x4.2.2.2.2.2.2.2.2.2.2.2.2.1.length c10]⟩], [Ro (eI .u8) 5 1 (.slice a5 x4.2.2.2.2.2.1.length c6) x4.2.2.2.2.2.1, Ro (eI .u8) 5 1 (.slice a7 x4.2.2.2.2.2.2.2.2.2.2.1.length c8) x4.2.2.2.2.2.2.2.2.2.2.1, Ro (eI .u8) 5 1 (.slice a9 x4.2.2.2.2.2.2.2.2.2.2.2.2.1.length c10) x4.2.2.2.2.2.2.2.2.2.2.2.2.1], [], vS F x4 x34)) ?_ ?_
 refine qa (os := _) rfl ?_
 refine av [25,6] ?_ ?_
 intro h32
 refine qh (k := 75) rfl h32 ?_
 refine au [24,3,30,0] ?_
 intro x39 e39 _
 refine au [24,10,21,0] ?_
 exact qb (((x39 : Int) == 0), ())
 intro h32
 refine qg (k := 75) rfl h32 ?_
 refine au [6,6,6,22,0] ?_
 exact qb (false, ())
 rintro ⟨x34, _⟩
 try dsimp only
 refine qa (os := _) rfl ?_
 refine au [1] ?_
 refine qA 6 (fun ((x37, _) : (Bool × Unit)) => ([(86, .bool x37)], [], [], [], qai F x37)) ?_ ?_
 refine qa (os := _) rfl ?_
 refine av [25,6] ?_ ?_
 intro h35
 refine qh (k := 80) rfl h35 ?_
 refine au [8,24,3] ?_
 refine qo (cells := [.int .i64 x4.1, .int .i64 x4.2.1, .int .i64 x4.2.2.1, .int .i64 x4.2.2.2.1, .int .i64 x4.2.2.2.2.1, .slice a5 x4.2.2.2.2.2.1.length c6, .int .i64 0, .int .i64 0, .int .i64 0, .int .i64 0, .slice none 0 0, .int .i64 0, .slice none 0 0]) rfl st35 rfl (by kernel_rfl) rfl ?_
 refine au [26,7,26,7,30,0] ?_
 intro x38 e38 _
 refine au [24,10,21,0] ?_
 exact qb (((x38 : Int) == 4), ())
 intro h35
 refine qg (k := 80) rfl h35 ?_
 refine au [6,6,6,6,6,22,0] ?_
 exact qb (false, ())
 rintro ⟨x37, _⟩
 try dsimp only
 refine qa (os := _) rfl ?_
 exact az [5,0,2,9,16]
set_option maxHeartbeats 4000000 in
theorem qfQ {F : Nat} {x1 : List Int} {a2 : Option Addr} {c3 : Nat} {x4 : List Int} {a5 : Option Addr} {c6 : Nat} {r : Bool} (hm : qaN F x1 x4 = some r) :
    Pure Tryz.prog 97 [.slice a2 x1.length c3, .slice a5 x4.length c6] [Sl (eI .u8) 1 (.slice a2 x1.length c3) x1, Sl (eI .u8) 1 (.slice a5 x4.length c6) x4] Unit (fun _ => .bool r) (fun _ => []) (fun _ => []) := by
 refine qi Tryz.func97 rfl Tryz.ntmps97 rfl hm (fun w => ?_)
 refine av [24,8,3,4,5,0,2,3,3,4,1,24,5,1,24,5,25,2,0,2,10] ?_ ?_
 intro _
 exact az [3,4,5,0,2,9,11,16]
 intro _
 refine au [12,2] ?_
 refine qf (fun ((_, _) : (Unit × Unit)) => ([], [], [], [], qcb F)) ?_ ?_
 refine au [3,4,5,0,2,18] ?_
 refine qx (fun ((x154, _) : (Int × Unit)) => ([(0, .slice a2 x1.length c3), (1, .slice a5 x4.length c6), (5, .int .i64 x154)], [], [], [Sl (eI .u8) 1 (.slice a2 x1.length c3) x1, Sl (eI .u8) 1 (.slice a5 x4.length c6) x4])) (fun k (s : (Int × Unit)) => kW F x1 x4 k s.1) (0, ()) F ?_
 intro k191
 rintro ⟨x154, _⟩
 try dsimp only
 refine qG (m' := jC F x1 x4 (kW F x1 x4 k191) x154) rfl ?_
 refine av [3,3,4,1,1,24,5,24,2,0,2,10] ?_ ?_
 intro _
 refine au [12,2,3,18,3,29,6] ?_
 intro x218 e218 b219 o220 h221
 replace h221 : a2 = some ⟨b219, o220, none⟩ := h221
 refine au [33,10] ?_
 intro x222 e222 b223 o224 h225
 replace h225 : a5 = some ⟨b223, o224, none⟩ := h225
 refine qL mixed [] [] [zb b223 (o224 + x154.toNat * 1) ((eI .u8) x222), zb b219 (o220 + x154.toNat * 1) ((eI .u8) x218), Sl (eI .u8) 1 (.slice a2 x1.length c3) x1, Sl (eI .u8) 1 (.slice a5 x4.length c6) x4] .nil (qZ 0 rfl (qZ 1 rfl (qZ 2 rfl (qZ 3 rfl qI)))) 9 rfl ?_
 refine au [7,0,7,1] ?_
 refine qj (d := 17) (v := .slice (some ⟨b219, o220, none⟩) x1.length c3) rfl (by rw [h221] <;> rfl) (qk 2 (.pointer (some ⟨b219, (o220 + x154.toNat * 1), none⟩)) rfl rfl rfl (qb9 Tryz.underlying27 tf5 rfl rfl (kb e218).1 (qbH e218)) (qj (d := 17) (v := .slice a2 x1.length c3) rfl (by rw [h221] <;> rfl) (zm 3 (.int .u8 x218) [] rfl rfl rfl (jW (j := 1) rfl tf5 rfl rfl (fun _ => rfl) rfl) ?_)))
 refine au [7,4,7,5] ?_
 refine qj (d := 21) (v := .slice (some ⟨b223, o224, none⟩) x4.length c6) rfl (by rw [h225] <;> rfl) (qk 6 (.pointer (some ⟨b223, (o224 + x154.toNat * 1), none⟩)) rfl rfl rfl (qb9 Tryz.underlying27 tf5 rfl rfl (kb e222).1 (qbH e222)) (qj (d := 21) (v := .slice a5 x4.length c6) rfl (by rw [h225] <;> rfl) (zm 7 (.int .u8 x222) [] rfl rfl rfl (jW (j := 0) rfl tf5 rfl rfl (fun _ => rfl) rfl) ?_)))
 refine au [7,8,24,11] ?_
 refine qS ?_ (by intro c h; cases h)
 refine av [2,10] ?_ ?_
 intro _
 exact az [3,4,5,0,2,9,24,1,11,11,24,1,11,16]
 intro _
 refine au [12,24,6,2,4,1,19,5,0] ?_
 exact qm (iadd .i64 x154 1, ())
 intro _
 exact az [24,13,23,23,24,14,26,1]
 rintro ⟨_, _⟩
 try dsimp only
 exact az [3,4,5,0,2,9,16]
theorem qgO {F : Nat} {x1 : Int} {x2 : List Int} {a3 : Option Addr} {c4 : Nat} {x5 : Int} {x6 : List Int} {a7 : Option Addr} {c8 : Nat} {r : Bool} (hm : vg F x1 x2 x5 x6 = some r) :
    Pure Tryz.prog 69 [.agg #[.int .i64 x1, .slice a3 x2.length c4], .agg #[.int .i64 x5, .slice a7 x6.length c8]] [Sl (eI .u8) 1 (.slice a3 x2.length c4) x2, Sl (eI .u8) 1 (.slice a7 x6.length c8) x6] Unit (fun _ => .bool r) (fun _ => []) (fun _ => []) := by
 refine qi Tryz.func69 rfl Tryz.ntmps69 rfl hm (fun w => ?_)
 refine au [24,8,3,4,20] ?_
 intro g9
 refine au [20] ?_
 intro g10
 refine au [5,0,2,3,4,8,25,0,8,17,24,10,1] ?_
 refine qA 6 (fun ((x13, _) : (Bool × Unit)) => ([(16, .bool x13)], [], [], [], vu F x13)) ?_ ?_
 refine qa (os := _) rfl ?_
 refine av [25,6] ?_ ?_
 intro h11
 refine qh (k := 10) rfl h11 ?_
 refine au [8,25,0,8,17] ?_
 refine qe qfQ ?_
 intro x14 e14 _
 refine au [21,0] ?_
 exact qb (x14, ())
 intro h11
 refine qg (k := 10) rfl h11 ?_
 refine au [6,6,6,6,6,22,0] ?_
 exact qb (false, ())
 rintro ⟨x13, _⟩
 try dsimp only
 refine qa (os := _) rfl ?_
 exact az [5,0,2,9,16]
set_option maxHeartbeats 4000000 in
theorem qgP {F : Nat} {x1 : Int} {x2 : Int} {x3 : Int} {x4 : Int} {x5 : List Int} {a6 : Option Addr} {c7 : Nat} {x8 : Int} {x9 : List Int} {a10 : Option Addr} {c11 : Nat} {x12 : Int} {x13 : Int} {x14 : Int} {x15 : Int} {x16 : List Int} {a17 : Option Addr} {c18 : Nat} {x19 : Int} {x20 : List Int} {a21 : Option Addr} {c22 : Nat} {r : Bool} (hm : qbe F x1 x2 x3 x4 x5 x8 x9 x12 x13 x14 x15 x16 x19 x20 = some r) :
    Pure Tryz.prog 31 [.agg #[.int .i64 x1, .int .i64 x2, .int .i64 x3, .int .i64 x4, .slice a6 x5.length c7, .int .i64 x8, .slice a10 x9.length c11], .agg #[.int .i64 x12, .int .i64 x13, .int .i64 x14, .int .i64 x15, .slice a17 x16.length c18, .int .i64 x19, .slice a21 x20.length c22]] [Sl (eI .u8) 1 (.slice a6 x5.length c7) x5, Sl (eI .u8) 1 (.slice a10 x9.length c11) x9, Sl (eI .u8) 1 (.slice a17 x16.length c18) x16, Sl (eI .u8) 1 (.slice a21 x20.length c22) x20] Unit (fun _ => .bool r) (fun _ => []) (fun _ => []) := by
 refine qi Tryz.func31 rfl Tryz.ntmps31 rfl hm (fun w => ?_)
 refine au [24,8,3,4,20] ?_
 intro g23
 refine au [20] ?_
 intro g24
 refine au [5,0,2,3,4,8,25,0,8,17,24,10,1] ?_
 refine ql 6 ((x1 : Int) == x12) [(2, .pointer (some ⟨g23, 0, none⟩)), (3, .pointer (some ⟨g24, 0, none⟩)), (16, .bool (((x1 : Int) == x12) && ((x2 : Int) == x13)))] (fun h25 => ?_) (fun h25 => ?_) ?_
 refine qa (os := _) rfl (qh (k := 10) rfl h25 ?_)
 refine au [8,25,0,8,17,24,10,21] ?_
 refine qc (d := 16) (v := .bool (((x1 : Int) == x12) && ((x2 : Int) == x13))) rfl (by rw [h25]; simp only [Bool.true_and]) ?_
 exact az [0,15]
 refine qa (os := _) rfl (qg (k := 10) rfl h25 ?_)
 refine au [6,6,6,6,6,22] ?_
 refine qc (d := 16) (v := .bool (((x1 : Int) == x12) && ((x2 : Int) == x13))) rfl (by rw [h25]; simp only [Bool.false_and]) ?_
 exact az [0,15]
 refine qa (os := _) rfl ?_
 refine au [1] ?_
 refine ql 6 (((x1 : Int) == x12) && ((x2 : Int) == x13)) [(2, .pointer (some ⟨g23, 0, none⟩)), (3, .pointer (some ⟨g24, 0, none⟩)), (23, .bool ((((x1 : Int) == x12) && ((x2 : Int) == x13)) && ((x3 : Int) == x14)))] (fun h26 => ?_) (fun h26 => ?_) ?_
 refine qa (os := _) rfl (qh (k := 17) rfl h26 ?_)
 refine au [8,25,0,8,17,24,10,21] ?_
 refine qc (d := 23) (v := .bool ((((x1 : Int) == x12) && ((x2 : Int) == x13)) && ((x3 : Int) == x14))) rfl (by rw [h26]; simp only [Bool.true_and]) ?_
 exact az [0,15]
 refine qa (os := _) rfl (qg (k := 17) rfl h26 ?_)
 refine au [6,6,6,6,6,22] ?_
 refine qc (d := 23) (v := .bool ((((x1 : Int) == x12) && ((x2 : Int) == x13)) && ((x3 : Int) == x14))) rfl (by rw [h26]; simp only [Bool.false_and]) ?_
 exact az [0,15]
 refine qa (os := _) rfl ?_
 refine au [1] ?_
 refine qA 6 (fun ((x29, _) : (Bool × Unit)) => ([(2, .pointer (some ⟨g23, 0, none⟩)), (3, .pointer (some ⟨g24, 0, none⟩)), (30, .bool x29)], [⟨g24, 33, [.int .i64 x12, .int .i64 x13, .int .i64 x14, .int .i64 x15, .slice a17 x16.length c18, .int .i64 x19, .slice a21 x20.length c22]⟩, ⟨g23, 33, [.int .i64 x1, .int .i64 x2, .int .i64 x3, .int .i64 x4, .slice a6 x5.length c7, .int .i64 x8, .slice a10 x9.length c11]⟩], [], [Sl (eI .u8) 1 (.slice a17 x16.length c18) x16, Sl (eI .u8) 1 (.slice a21 x20.length c22) x20, Sl (eI .u8) 1 (.slice a6 x5.length c7) x5, Sl (eI .u8) 1 (.slice a10 x9.length c11) x9], vv F x8 x9 x19 x20 x29)) ?_ ?_
 refine qa (os := _) rfl ?_
 refine av [25,6] ?_ ?_
 intro h27
 refine qh (k := 24) rfl h27 ?_
 refine au [8,25,4,8,24,3,30,2] ?_
 intro x34 e34 _
 refine au [21,0] ?_
 exact qb (x34, ())
 intro h27
 refine qg (k := 24) rfl h27 ?_
 refine au [6,6,6,6,6,22,0] ?_
 exact qb (false, ())
 rintro ⟨x29, _⟩
 try dsimp only
 refine qa (os := _) rfl ?_
 refine au [1] ?_
 refine qA 6 (fun ((x32, _) : (Bool × Unit)) => ([(37, .bool x32)], [], [], [], jX F x32)) ?_ ?_
 refine qa (os := _) rfl ?_
 refine av [25,6] ?_ ?_
 intro h30
 refine qh (k := 31) rfl h30 ?_
 refine au [8,25,4,8,24,3,30,2] ?_
 intro x33 e33 _
 refine au [21,0] ?_
 exact qb (x33, ())
 intro h30
 refine qg (k := 31) rfl h30 ?_
 refine au [6,6,6,6,6,22,0] ?_
 exact qb (false, ())
 rintro ⟨x32, _⟩
 try dsimp only
 refine qa (os := _) rfl ?_
 exact az [5,0,2,9,16]
set_option maxHeartbeats 4000000 in
theorem qeW {F : Nat} {x1 : Int} {x2 : Int} {x3 : Int} {x4 : Int} {x5 : Int} {x6 : List Int} {a7 : Option Addr} {c8 : Nat} {x9 : Int} {x10 : Int} {x11 : Int} {x12 : Int} {x13 : Int} {x14 : List Int} {a15 : Option Addr} {c16 : Nat} {r : Bool} (hm : qbu F x1 x2 x3 x4 x5 x6 x9 x10 x11 x12 x13 x14 = some r) :
    Pure Tryz.prog 33 [.agg #[.int .i64 x1, .int .i64 x2, .int .i64 x3, .int .i64 x4, .int .i64 x5, .slice a7 x6.length c8], .agg #[.int .i64 x9, .int .i64 x10, .int .i64 x11, .int .i64 x12, .int .i64 x13, .slice a15 x14.length c16]] [Sl (eI .u8) 1 (.slice a7 x6.length c8) x6, Sl (eI .u8) 1 (.slice a15 x14.length c16) x14] Unit (fun _ => .bool r) (fun _ => []) (fun _ => []) := by
 refine qi Tryz.func33 rfl Tryz.ntmps33 rfl hm (fun w => ?_)
 refine au [24,8,3,4,20] ?_
 intro g17
 refine au [20] ?_
 intro g18
 refine au [5,0,2,3,4,8,25,0,8,17,24,10,1] ?_
 refine ql 6 ((x1 : Int) == x9) [(2, .pointer (some ⟨g17, 0, none⟩)), (3, .pointer (some ⟨g18, 0, none⟩)), (16, .bool (((x1 : Int) == x9) && (((x2 : Int) == x10) && (((x3 : Int) == x11) && ((x4 : Int) == x12)))))] (fun h19 => ?_) (fun h19 => ?_) ?_
 refine qa (os := _) rfl (qh (k := 10) rfl h19 ?_)
 refine au [8,25,4,8,24,3] ?_
 refine qnH rfl rfl rfl inferInstance rfl ?_
 refine au [21] ?_
 refine qc (d := 16) (v := .bool (((x1 : Int) == x9) && (((x2 : Int) == x10) && (((x3 : Int) == x11) && ((x4 : Int) == x12))))) rfl (by rw [h19]; simp only [Bool.true_and]) ?_
 exact az [0,15]
 refine qa (os := _) rfl (qg (k := 10) rfl h19 ?_)
 refine au [6,6,6,6,6,22] ?_
 refine qc (d := 16) (v := .bool (((x1 : Int) == x9) && (((x2 : Int) == x10) && (((x3 : Int) == x11) && ((x4 : Int) == x12))))) rfl (by rw [h19]; simp only [Bool.false_and]) ?_
 exact az [0,15]
 refine qa (os := _) rfl ?_
 refine au [1] ?_
 refine qA 6 (fun ((x22, _) : (Bool × Unit)) => ([(23, .bool x22)], [], [], [], vT F x22)) ?_ ?_
 refine qa (os := _) rfl ?_
 refine av [25,6] ?_ ?_
 intro h20
 refine qh (k := 17) rfl h20 ?_
 refine au [8,25,4,8,24,3,30,2] ?_
 intro x23 e23 _
 refine au [21,0] ?_
 exact qb (x23, ())
 intro h20
 refine qg (k := 17) rfl h20 ?_
 refine au [6,6,6,6,6,22,0] ?_
 exact qb (false, ())
 rintro ⟨x22, _⟩
 try dsimp only
 refine qa (os := _) rfl ?_
 exact az [5,0,2,9,16]
set_option maxHeartbeats 4000000 in
theorem qfR {F : Nat} {x1 : Int} {x2 : Int} {x3 : Int} {x4 : Int} {x5 : Int} {x6 : List Int} {a7 : Option Addr} {c8 : Nat} {x9 : Int} {x10 : Int} {x11 : Int} {x12 : Int} {x13 : List Int} {a14 : Option Addr} {c15 : Nat} {x16 : Int} {x17 : List Int} {a18 : Option Addr} {c19 : Nat} {x20 : Int} {x21 : Int} {x22 : Int} {x23 : Int} {x24 : Int} {x25 : List Int} {a26 : Option Addr} {c27 : Nat} {x28 : Int} {x29 : Int} {x30 : Int} {x31 : Int} {x32 : List Int} {a33 : Option Addr} {c34 : Nat} {x35 : Int} {x36 : List Int} {a37 : Option Addr} {c38 : Nat} {r : Bool} (hm : jO F x1 x2 x3 x4 x5 x6 x9 x10 x11 x12 x13 x16 x17 x20 x21 x22 x23 x24 x25 x28 x29 x30 x31 x32 x35 x36 = some r) :
    Pure Tryz.prog 15 [.agg #[.int .i64 x1, .int .i64 x2, .int .i64 x3, .int .i64 x4, .int .i64 x5, .slice a7 x6.length c8, .int .i64 x9, .int .i64 x10, .int .i64 x11, .int .i64 x12, .slice a14 x13.length c15, .int .i64 x16, .slice a18 x17.length c19], .agg #[.int .i64 x20, .int .i64 x21, .int .i64 x22, .int .i64 x23, .int .i64 x24, .slice a26 x25.length c27, .int .i64 x28, .int .i64 x29, .int .i64 x30, .int .i64 x31, .slice a33 x32.length c34, .int .i64 x35, .slice a37 x36.length c38]] [Sl (eI .u8) 1 (.slice a7 x6.length c8) x6, Sl (eI .u8) 1 (.slice a14 x13.length c15) x13, Sl (eI .u8) 1 (.slice a18 x17.length c19) x17, Sl (eI .u8) 1 (.slice a26 x25.length c27) x25, Sl (eI .u8) 1 (.slice a33 x32.length c34) x32, Sl (eI .u8) 1 (.slice a37 x36.length c38) x36] Unit (fun _ => .bool r) (fun _ => []) (fun _ => []) := by
 refine qi Tryz.func15 rfl Tryz.ntmps15 rfl hm (fun w => ?_)
 refine au [24,8,3,4,20] ?_
 intro g39
 refine au [20] ?_
 intro g40
 refine au [5,0,2,3,4,8,25,4,8,24,3] ?_
 refine qe qeW ?_
 intro x41 e41 _
 refine au [1] ?_
 refine qA 6 (fun ((x44, _) : (Bool × Unit)) => ([(16, .bool x44)], [], [], [], qaE F x44)) ?_ ?_
 refine qa (os := _) rfl ?_
 refine av [25,6] ?_ ?_
 intro h42
 refine qh (k := 10) rfl h42 ?_
 refine au [8,25,4,8,24,3] ?_
 refine qe qgP ?_
 intro x45 e45 _
 refine au [21,0] ?_
 exact qb (x45, ())
 intro h42
 refine qg (k := 10) rfl h42 ?_
 refine au [6,6,6,6,6,22,0] ?_
 exact qb (false, ())
 rintro ⟨x44, _⟩
 try dsimp only
 refine qa (os := _) rfl ?_
 exact az [5,0,2,9,16]
theorem qi4 {F : Nat} {x1 : List Int} {a2 : Option Addr} {c3 : Nat} {x4 : Int} {r : Bool} (hm : qcl F x1 x4 = some r) :
    Pure Tryz.prog 18 [.slice a2 x1.length c3, .int .i64 x4] [Sl (eI .i64) 1 (.slice a2 x1.length c3) x1] Unit (fun _ => .bool r) (fun _ => []) (fun _ => []) := by
 refine qi Tryz.func18 rfl Tryz.ntmps18 rfl hm (fun w => ?_)
 refine au [24,8,3,4,5,0,2] ?_
 refine qf (fun ((_, _) : (Unit × Unit)) => ([], [], [], [], qb1 F)) ?_ ?_
 refine au [3,4,5,0,2,18] ?_
 refine qx (fun ((x47, _) : (Int × Unit)) => ([(0, .slice a2 x1.length c3), (1, .int .i64 x4), (5, .int .i64 x47)], [], [], [Sl (eI .i64) 1 (.slice a2 x1.length c3) x1])) (fun k (s : (Int × Unit)) => vH F x1 x4 k s.1) (0, ()) F ?_
 intro k58
 rintro ⟨x47, _⟩
 try dsimp only
 refine qG (m' := qaM F x1 x4 (vH F x1 x4 k58) x47) rfl ?_
 refine av [3,3,4,1,1,24,5,24,2,0,2,10] ?_ ?_
 intro _
 refine au [12,2,3,18,3,4,1,1,26,3] ?_
 intro x64 e64 b65 o66
 refine av [25,13,1,24,10,0,2,10] ?_ ?_
 intro _
 exact az [3,4,5,0,2,9,24,1,11,11,24,1,11,16]
 intro _
 refine au [12,24,6,2,4,1,19,5,0] ?_
 exact qm (iadd .i64 x47 1, ())
 intro _
 exact az [24,13,23,23,24,14,26,1]
 rintro ⟨_, _⟩
 try dsimp only
 exact az [3,4,5,0,2,9,16]
set_option maxHeartbeats 4000000 in
theorem qfO (F : Nat) (x1 : List (List Int)) (a2 : Option Addr) (c3 : (Nat × List (Option Addr × Nat))) (x4 : Int) (x5 : Int) (x6 : Int) (x7 : Int) (x8 : Int) (r : Bool) (hm : qbZ F x1 x4 x5 x6 x7 x8 = some r) :
    Pure Tryz.prog 4 [.agg #[.slice a2 x1.length c3.1], .agg #[.int .i64 x4, .int .i64 x5, .int .i64 x6], .int .i64 x7, .int .i64 x8] [SlN eN39 iN39 1 (.slice a2 x1.length c3.1) x1 c3.2] Unit (fun _ => .bool r) (fun _ => []) (fun _ => []) := by
 refine qi Tryz.func4 rfl Tryz.ntmps4 rfl hm (fun w => ?_)
 refine au [26,11,3,4,20] ?_
 intro g9
 refine au [20] ?_
 intro g10
 refine au [5,0,2,3,4,25,4,24,3,33,15] ?_
 rintro x11 e11 ⟨⟨a12, c13⟩, ⟨a14, c15⟩, ⟨a16, c17⟩⟩
 refine au [1,14,14,24,9] ?_
 intro g18
 refine au [24,4,5,0,2,3,3,4] ?_
 refine qe (fun h => qeV F _ h) ?_
 intro x21 e21 _
 refine av [25,3,0,2,10] ?_ ?_
 intro _
 exact az [3,4,5,0,2,9,11,16]
 intro _
 refine av [12,2,3,3,4,1,25,2,0,2,10] ?_ ?_
 intro _
 refine au [3,4,24,3] ?_
 refine qo (cells := [.int .i64 0, .int .i64 0, .int .i64 0, .int .i64 0, .int .i64 0, .slice none 0 0, .int .i64 0, .int .i64 0, .int .i64 0, .int .i64 0, .slice none 0 0, .int .i64 0, .slice none 0 0]) rfl st35 rfl (by kernel_rfl) rfl ?_
 refine au [26,7,26,7,26,7] ?_
 refine qe qfR ?_
 intro x24 e24 _
 exact az [5,0,2,9,11,16]
 intro _
 refine au [12,2,3,4,24,3,1,28,7] ?_
 rintro x25 e25 ⟨a26, c27⟩
 refine au [1,14,14,14,5,5,5,0,2,3,3,4,1,24,2,1] ?_
 refine ql 6 (decide (x7 < 0)) [(2, .int .i64 x7), (3, .int .i64 x8), (4, .pointer (some ⟨g9, 0, none⟩)), (9, .pointer (some ⟨g18, 0, none⟩)), (11, .slice a26 x25.1.length c27), (12, .int .i64 x25.2.1), (13, .int .i64 x25.2.2), (44, .bool ((decide (x7 < 0)) || (decide ((x1.length : Int) ≤ x7))))] (fun h30 => ?_) (fun h30 => ?_) ?_
 refine qa (os := _) rfl (qh (k := 38) rfl h30 ?_)
 refine au [6,6,6,6,6,21] ?_
 refine qc (d := 44) (v := .bool ((decide (x7 < 0)) || (decide ((x1.length : Int) ≤ x7)))) rfl (by rw [h30]; simp only [Bool.true_or]) ?_
 exact az [0,15]
 refine qa (os := _) rfl (qg (k := 38) rfl h30 ?_)
 refine au [1,8,27,1,24,5,26,0,22] ?_
 refine qc (d := 44) (v := .bool ((decide (x7 < 0)) || (decide ((x1.length : Int) ≤ x7)))) rfl (by rw [h30]; simp only [Bool.false_or]) ?_
 exact az [0,15]
 refine qa (os := _) rfl ?_
 refine av [0,2,10] ?_ ?_
 intro _
 exact az [3,4,1,24,10,5,0,2,9,11,16]
 intro _
 refine au [12,2,3,3,4,1,25,2,1] ?_
 refine qA 9 (fun ((x52, _) : (Bool × Unit)) => ([(2, .int .i64 x7), (3, .int .i64 x8), (4, .pointer (some ⟨g9, 0, none⟩)), (9, .pointer (some ⟨g18, 0, none⟩)), (11, .slice a26 x25.1.length c27), (12, .int .i64 x25.2.1), (58, .bool x52)], [⟨g18, 35, [.int .i64 x11.1, .int .i64 x11.2.1, .int .i64 x11.2.2.1, .int .i64 x11.2.2.2.1, .int .i64 x11.2.2.2.2.1, .slice a12 x11.2.2.2.2.2.1.length c13, .int .i64 x11.2.2.2.2.2.2.1, .int .i64 x11.2.2.2.2.2.2.2.1, .int .i64 x11.2.2.2.2.2.2.2.2.1, .int .i64 x11.2.2.2.2.2.2.2.2.2.1, .slice a14 x11.2.2.2.2.2.2.2.2.2.2.1.length c15, .int .i64 x11.2.2.2.2.2.2.2.2.2.2.2.1, .slice a16 x11.2.2.2.2.2.2.2.2.2.2.2.2.1.length c17]⟩, ⟨g9, 24, [.slice a2 x1.length c3.1]⟩], [Ro (eI .i64) 3 1 (.slice a26 x25.1.length c27) x25.1, Ro (eI .u8) 5 1 (.slice a12 x11.2.2.2.2.2.1.length c13) x11.2.2.2.2.2.1, Ro (eI .u8) 5 1 (.slice a14 x11.2.2.2.2.2.2.2.2.2.2.1.length c15) x11.2.2.2.2.2.2.2.2.2.2.1, Ro (eI .u8) 5 1 (.slice a16 x11.2.2.2.2.2.2.2.2.2.2.2.2.1.length c17) x11.2.2.2.2.2.2.2.2.2.2.2.2.1], [SlN eN39 iN39 1 (.slice a2 x1.length c3.1) x1 c3.2], jy F x1 x7 x8 x11 x25 x52)) ?_ ?_
 refine qa (os := _) rfl ?_
 refine av [25,6] ?_ ?_
 intro h46
 refine qh (k := 49) rfl h46 ?_
 refine au [6,6,6,6,6,6,6,6,21,0] ?_
 exact qb (true, ())
 intro h46
 refine qg (k := 49) rfl h46 ?_
 refine au [1,8,27,1,1,27,2] ?_
 intro x71 e71 g74 b72 o73
 refine au [25,13,34,0] ?_
 intro x75 e75 _
 refine au [25,3,22,0] ?_
 exact qb ((!x75), ())
 rintro ⟨x52, _⟩
 try dsimp only
 refine qa (os := _) rfl ?_
 refine au [1] ?_
 refine ql 3 x52 [(2, .int .i64 x7), (3, .int .i64 x8), (4, .pointer (some ⟨g9, 0, none⟩)), (9, .pointer (some ⟨g18, 0, none⟩)), (11, .slice a26 x25.1.length c27), (12, .int .i64 x25.2.1), (62, .bool (x52 || (decide (x25.2.1 < 1))))] (fun h53 => ?_) (fun h53 => ?_) ?_
 refine qa (os := _) rfl (qh (k := 59) rfl h53 ?_)
 refine au [6,6,21] ?_
 refine qc (d := 62) (v := .bool (x52 || (decide (x25.2.1 < 1)))) rfl (by rw [h53]; simp only [Bool.true_or]) ?_
 exact az [0,15]
 refine qa (os := _) rfl (qg (k := 59) rfl h53 ?_)
 refine au [1,24,2,22] ?_
 refine qc (d := 62) (v := .bool (x52 || (decide (x25.2.1 < 1)))) rfl (by rw [h53]; simp only [Bool.false_or]) ?_
 exact az [0,15]
 refine qa (os := _) rfl ?_
 refine au [1] ?_
 refine ql 5 (x52 || (decide (x25.2.1 < 1))) [(2, .int .i64 x7), (3, .int .i64 x8), (4, .pointer (some ⟨g9, 0, none⟩)), (9, .pointer (some ⟨g18, 0, none⟩)), (11, .slice a26 x25.1.length c27), (68, .bool ((x52 || (decide (x25.2.1 < 1))) || (decide ((iadd .i64 x7 1) < x25.2.1))))] (fun h54 => ?_) (fun h54 => ?_) ?_
 refine qa (os := _) rfl (qh (k := 63) rfl h54 ?_)
 refine au [6,6,6,6,21] ?_
 refine qc (d := 68) (v := .bool ((x52 || (decide (x25.2.1 < 1))) || (decide ((iadd .i64 x7 1) < x25.2.1)))) rfl (by rw [h54]; simp only [Bool.true_or]) ?_
 exact az [0,15]
 refine qa (os := _) rfl (qg (k := 63) rfl h54 ?_)
 refine au [1,1,19,24,12,22] ?_
 refine qc (d := 68) (v := .bool ((x52 || (decide (x25.2.1 < 1))) || (decide ((iadd .i64 x7 1) < x25.2.1)))) rfl (by rw [h54]; simp only [Bool.false_or]) ?_
 exact az [0,15]
 refine qa (os := _) rfl ?_
 refine av [0,2,10] ?_ ?_
 intro _
 exact az [3,4,5,0,2,9,11,16]
 intro _
 refine au [12,2,3,4,24,3,1,1,30,1] ?_
 intro x55 e55 _
 refine au [1,14,14,5,5,0,2,3,4,1,24,10,1] ?_
 refine qA 10 (fun ((x58, _) : (Bool × Unit)) => ([(3, .int .i64 x8), (11, .slice a26 x25.1.length c27), (14, .bool x55.1), (15, .int .i64 x55.2), (88, .bool x58)], [], [Ro (eI .i64) 3 1 (.slice a26 x25.1.length c27) x25.1], [], jz F x8 x25 x55 x58)) ?_ ?_
 refine qa (os := _) rfl ?_
 refine av [25,6] ?_ ?_
 intro h56
 refine qh (k := 78) rfl h56 ?_
 refine au [1,24,2,1] ?_
 refine ql 6 (decide (x8 < 0)) [(3, .int .i64 x8), (11, .slice a26 x25.1.length c27), (14, .bool x55.1), (15, .int .i64 x55.2), (78, .bool true), (87, .bool ((decide (x8 < 0)) || (decide ((x1.length : Int) ≤ x8))))] (fun h69 => ?_) (fun h69 => ?_) ?_
 refine qa (os := _) rfl (qh (k := 81) rfl h69 ?_)
 refine au [6,6,6,6,6,21] ?_
 refine qc (d := 87) (v := .bool ((decide (x8 < 0)) || (decide ((x1.length : Int) ≤ x8)))) rfl (by rw [h69]; simp only [Bool.true_or]) ?_
 exact az [0,15]
 refine qa (os := _) rfl (qg (k := 81) rfl h69 ?_)
 refine au [1,8,25,0,24,5,26,0,22] ?_
 refine qc (d := 87) (v := .bool ((decide (x8 < 0)) || (decide ((x1.length : Int) ≤ x8)))) rfl (by rw [h69]; simp only [Bool.false_or]) ?_
 exact az [0,15]
 refine qa (os := _) rfl ?_
 refine au [21,0] ?_
 exact qb (((decide (x8 < 0)) || (decide ((x1.length : Int) ≤ x8))), ())
 intro h56
 refine qg (k := 78) rfl h56 ?_
 refine au [6,6,6,6,6,6,6,6,6,22,0] ?_
 exact qb (false, ())
 rintro ⟨x58, _⟩
 try dsimp only
 refine qa (os := _) rfl ?_
 refine au [1] ?_
 refine qA 10 (fun ((x64, _) : (Bool × Unit)) => ([(99, .bool x64)], [], [], [], jA F x64)) ?_ ?_
 refine qa (os := _) rfl ?_
 refine av [25,6] ?_ ?_
 intro h59
 refine qh (k := 89) rfl h59 ?_
 refine au [6,6,6,6,6,6,6,6,6,21,0] ?_
 exact qb (true, ())
 intro h59
 refine qg (k := 89) rfl h59 ?_
 refine au [1,24,10,1] ?_
 refine qA 6 (fun ((x67, _) : (Bool × Unit)) => ([(89, .bool false), (98, .bool x67)], [], [], [], jB F x67)) ?_ ?_
 refine qa (os := _) rfl ?_
 refine av [25,6] ?_ ?_
 intro h65
 refine qh (k := 92) rfl h65 ?_
 refine au [1,1,1] ?_
 refine qe qi4 ?_
 intro x68 e68 _
 refine qoR rfl UnF.u rfl rfl rfl ?_
 refine au [21,0] ?_
 exact qb ((x55.1 == x68), ())
 intro h65
 refine qg (k := 92) rfl h65 ?_
 refine au [6,6,6,6,6,22,0] ?_
 exact qb (false, ())
 rintro ⟨x67, _⟩
 try dsimp only
 refine qa (os := _) rfl ?_
 refine au [22,0] ?_
 exact qb (x67, ())
 rintro ⟨x64, _⟩
 try dsimp only
 refine qa (os := _) rfl ?_
 exact az [5,0,2,9,16]
end Go.Proofs.YtmhggdbfbmkpeaaGreat
