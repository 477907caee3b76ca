/- Each Go function of this seat computes what its model says, part 4. -/
import Derived.Test.YtpnfijegoepiaaaGreatWalks3
namespace Go.Proofs.YtpnfijegoepiaaaGreat
open Go SX
set_option maxHeartbeats 4000000 in
theorem qib {F : Nat} {x1 : Int} {x2 : List Int} {a3 : Option Addr} {c4 : Nat} {x5 : Int} {x6 : Int} {r : (Int × List Int × Int)} (hm : qaY F x1 x2 x5 x6 = some r) :
    PureM Tryz.prog 25 [.agg #[.int .i64 x1, .slice a3 x2.length c4], .int .i64 x5, .int .i64 x6] [] [] [Sl (eI .u8) 1 (.slice a3 x2.length c4) x2] (Option Addr × Nat) (fun g => .tuple #[.agg #[.int .i64 r.1, .slice g.1 r.2.1.length g.2], .int .i64 r.2.2]) (fun _ => []) (fun g => [Ro (eI .u8) 5 1 (.slice g.1 r.2.1.length g.2) r.2.1]) := by
 refine qeR Tryz.func25 rfl Tryz.ntmps25 rfl hm (fun w => ?_)
 refine au [25,13,3,4,24,3] ?_
 intro g7
 refine au [24,7] ?_
 intro g8
 refine au [5,0,2,3,4,25,2,27,3] ?_
 intro x9 e9 _
 refine au [5,0,2] ?_
 refine qe (fun ((x19, _) : (Int × Unit)) => ([(1, .int .i64 x5), (2, .int .i64 x6), (3, .pointer (some ⟨g7, 0, none⟩)), (6, .pointer (some ⟨g8, 0, none⟩)), (7, .int .i64 0), (8, .int .i64 x19)], [⟨g8, 29, [.int .i64 0, .slice none 0 0]⟩, ⟨g7, 29, [.int .i64 x1, .slice a3 x2.length c4]⟩], [], [Sl (eI .u8) 1 (.slice a3 x2.length c4) x2], vo F x1 x2 x5 x6 x19)) ?_ ?_
 refine au [3,4,1,24,9,1] ?_
 refine qE 20 (fun ((x68, _) : (Bool × Unit)) => ([(1, .int .i64 x5), (2, .int .i64 x6), (3, .pointer (some ⟨g7, 0, none⟩)), (6, .pointer (some ⟨g8, 0, none⟩)), (7, .int .i64 0), (8, .int .i64 x9), (35, .bool x68)], [⟨g8, 29, [.int .i64 0, .slice none 0 0]⟩, ⟨g7, 29, [.int .i64 x1, .slice a3 x2.length c4]⟩], [], [Sl (eI .u8) 1 (.slice a3 x2.length c4) x2], vp F x1 x2 x5 x6 x9 x68)) ?_ ?_
 refine qb (os := _) rfl ?_
 refine av [25,7] ?_ ?_
 intro h64
 refine qi (k := 15) rfl h64 ?_
 refine au [1,24,4,1] ?_
 refine qk 5 (decide (x5 < 0)) [(1, .int .i64 x5), (2, .int .i64 x6), (3, .pointer (some ⟨g7, 0, none⟩)), (6, .pointer (some ⟨g8, 0, none⟩)), (7, .int .i64 0), (8, .int .i64 x9), (15, .bool true), (23, .bool ((decide (x5 < 0)) || (decide (x1 < x5))))] (fun h70 => ?_) (fun h70 => ?_) ?_
 refine qb (os := _) rfl (qi (k := 18) rfl h70 ?_)
 refine au [7,7,7,7,19] ?_
 refine qc (d := 23) (v := .bool ((decide (x5 < 0)) || (decide (x1 < x5)))) rfl (by rw [h70]; simp only [Bool.true_or]) ?_
 exact az [0,15]
 refine qb (os := _) rfl (qh (k := 18) rfl h70 ?_)
 refine au [1,13,25,3,24,10,20] ?_
 refine qc (d := 23) (v := .bool ((decide (x5 < 0)) || (decide (x1 < x5)))) rfl (by rw [h70]; simp only [Bool.false_or]) ?_
 exact az [0,15]
 refine qb (os := _) rfl ?_
 refine au [1] ?_
 refine qk 4 ((decide (x5 < 0)) || (decide (x1 < x5))) [(1, .int .i64 x5), (2, .int .i64 x6), (3, .pointer (some ⟨g7, 0, none⟩)), (6, .pointer (some ⟨g8, 0, none⟩)), (7, .int .i64 0), (8, .int .i64 x9), (15, .bool true), (28, .bool (((decide (x5 < 0)) || (decide (x1 < x5))) || (decide (x6 < x5))))] (fun h71 => ?_) (fun h71 => ?_) ?_
 refine qb (os := _) rfl (qi (k := 24) rfl h71 ?_)
 refine au [7,7,7,19] ?_
 refine qc (d := 28) (v := .bool (((decide (x5 < 0)) || (decide (x1 < x5))) || (decide (x6 < x5)))) rfl (by rw [h71]; simp only [Bool.true_or]) ?_
 exact az [0,15]
 refine qb (os := _) rfl (qh (k := 24) rfl h71 ?_)
 refine au [1,1,24,4,20] ?_
 refine qc (d := 28) (v := .bool (((decide (x5 < 0)) || (decide (x1 < x5))) || (decide (x6 < x5)))) rfl (by rw [h71]; simp only [Bool.false_or]) ?_
 exact az [0,15]
 refine qb (os := _) rfl ?_
 refine au [1] ?_
 refine qk 5 (((decide (x5 < 0)) || (decide (x1 < x5))) || (decide (x6 < x5))) [(1, .int .i64 x5), (2, .int .i64 x6), (3, .pointer (some ⟨g7, 0, none⟩)), (6, .pointer (some ⟨g8, 0, none⟩)), (7, .int .i64 0), (8, .int .i64 x9), (15, .bool true), (34, .bool ((((decide (x5 < 0)) || (decide (x1 < x5))) || (decide (x6 < x5))) || (decide (x1 < x6))))] (fun h72 => ?_) (fun h72 => ?_) ?_
 refine qb (os := _) rfl (qi (k := 29) rfl h72 ?_)
 refine au [7,7,7,7,19] ?_
 refine qc (d := 34) (v := .bool ((((decide (x5 < 0)) || (decide (x1 < x5))) || (decide (x6 < x5))) || (decide (x1 < x6)))) rfl (by rw [h72]; simp only [Bool.true_or]) ?_
 exact az [0,15]
 refine qb (os := _) rfl (qh (k := 29) rfl h72 ?_)
 refine au [1,13,25,3,24,10,20] ?_
 refine qc (d := 34) (v := .bool ((((decide (x5 < 0)) || (decide (x1 < x5))) || (decide (x6 < x5))) || (decide (x1 < x6)))) rfl (by rw [h72]; simp only [Bool.false_or]) ?_
 exact az [0,15]
 refine qb (os := _) rfl ?_
 refine au [19,0] ?_
 exact qa (((((decide (x5 < 0)) || (decide (x1 < x5))) || (decide (x6 < x5))) || (decide (x1 < x6))), ())
 intro h64
 refine qh (k := 15) rfl h64 ?_
 refine au [7,7,7,7,7,7,7,7,7,7,7,7,7,7,7,7,7,7,7,20,0] ?_
 exact qa (false, ())
 rintro ⟨x68, _⟩
 try dsimp only
 refine qb (os := _) rfl ?_
 refine av [0,2,10] ?_ ?_
 intro _
 refine au [4,5,0] ?_
 exact qa ((3 : Int), ())
 intro _
 refine au [11] ?_
 exact qa (x9, ())
 rintro ⟨x19, _⟩
 try dsimp only
 refine av [3,3,4,1,25,0,0,2,10] ?_ ?_
 intro _
 refine au [3,4] ?_
 refine ql (cells := [.int .i64 0, .slice none 0 0]) rfl st29 rfl (by kernel_rfl) rfl ?_
 refine au [1,22,5,0,2,9,12,26,0] ?_
 exact qcE [] (none, 0) (.inl rfl) rfl .nil (resL (rs := [.cell 6 29, .tmp 7]) rfl (.cell (i := 0) rfl tf29 rfl rfl (by simp) rfl (.tmp rfl ResOk.nil)) rfl) (fun h => by subst h; rfl) (fun h => by subst h; exact .nil) (fun h => by subst h; exact (.cons 0 rfl .nil))
 intro _
 refine au [11,2,3,4] ?_
 refine ql (cells := [.int .i64 0, .slice none 0 0]) rfl st94 rfl (by kernel_rfl) rfl ?_
 refine au [24,3] ?_
 intro g21
 refine au [24,7] ?_
 intro g22
 refine au [22,0,2,3,3,4,28,14,1,1,30,13] ?_
 rintro x43 e43 ⟨g44, g45, g46⟩
 refine au [0,2,17,32,5] ?_
 refine qdZ (encs := (fun (p : Int) => [.int .u64 p])) (y := (fun ((x51, x54) : (Int × List Int)) (x59 : Int) => js F x51 x54 x59)) (lb := [.pointer (some ⟨g44, 0, none⟩), .pointer (some ⟨g45, 0, none⟩), .pointer (some ⟨g46, 0, none⟩)]) (fun ((x51, x54) : (Int × List Int)) ((a52, c53) : (Option Addr × Nat)) => [⟨g22, 92, [.pointer (some ⟨g21, 0, none⟩)]⟩, ⟨g21, 94, [.int .i64 x51, .slice a52 x54.length c53]⟩, ⟨g8, 29, [.int .i64 0, .slice none 0 0]⟩, ⟨g7, 29, [.int .i64 x1, .slice a3 x2.length c4]⟩]) (fun ((x51, x54) : (Int × List Int)) ((a52, c53) : (Option Addr × Nat)) => [Ro (eI .u8) 5 1 (.slice a52 x54.length c53) x54]) (fun (_ : Empty) (_ : Unit) => []) (fun (_ : Empty) (_ : Unit) => []) (fun _ => .skip) (0, ([] : List Int)) (none, 0) rfl ent78 (fun _ => rfl) rfl (.cons 0 rfl (.cons 0 rfl (.cons 0 rfl .nil))) (.cons 0 rfl (.cons 0 rfl (.cons 0 rfl (.cons 0 rfl .nil)))) (.cons 0 rfl .nil) (.consF 0 rfl .nil) (fun z hz _ _ _ hY => qca F hY (0, ([] : List Int)) (none, 0) g44 x5 g45 x6 g46 x1 x2 a3 c4 z hz) ?_ ?_ ?_
 rintro rc1 L1 D1 ⟨x51, x54⟩ ⟨a52, c53⟩ x59 z w M _
 try dsimp only
 refine qe6 [(1, .int .i64 x5), (2, .int .i64 x6), (3, .pointer (some ⟨g7, 0, none⟩)), (6, .pointer (some ⟨g8, 0, none⟩)), (7, .int .i64 0), (8, .int .i64 x19), (9, .pointer (some ⟨g22, 0, none⟩)), (36, .int .i64 x19), (37, .bool ((x19 : Int) != 0)), (40, .agg #[.int .i64 0, .slice none 0 0]), (41, .pointer (some ⟨g21, 0, none⟩)), (42, .agg #[.int .i64 x1, .slice a3 x2.length c4]), (43, .int .i64 x5), (44, .int .i64 x6), (45, .func (.func 78) #[] #[.pointer (some ⟨g44, 0, none⟩), .pointer (some ⟨g45, 0, none⟩), .pointer (some ⟨g46, 0, none⟩)]), (46, .int .u64 x59)] (qD rfl (qD rfl (qD rfl (qD rfl (qD rfl (qD rfl (qD rfl (qD rfl (qD rfl (qD rfl (qD rfl (qD rfl (qD rfl (qD rfl (qD rfl (qD rfl qc4)))))))))))))))) ?_
 refine au [4,5,0,31,10,17,4,24,1,1,29,7] ?_
 rintro x60 e60 ⟨a61, c62⟩
 refine au [0,24,8] ?_
 exact qcG (rc := rc1) rfl (.cons 4 rfl .nil) rfl (a61, c62) (.cons 2 rfl (.cons 1 rfl (.cons 1 rfl (.cons 1 rfl (.cons 0 rfl (.cons 0 rfl .nil)))))) (.cons 0 rfl .nil)
 rintro ⟨x51, x54⟩ _ ⟨a52, c53⟩ D1
 try dsimp only
 refine au [24,8,2,3,4,30,14,25,1,13,30,15,31,0,5,0,2,9] ?_
 exact qcE [D1] (a52, c53) (.inl rfl) rfl (.cons 0 rfl .nil) (resL (rs := [.cell 6 29, .tmp 7]) rfl (.cell (i := 5) rfl tf29 rfl rfl (by simp) rfl (.tmp rfl ResOk.nil)) rfl) (fun h => by subst h; rfl) (fun h => by subst h; exact .nil) (fun h => by subst h; exact (.cons 0 rfl .nil))
 intro t; exact t.elim
theorem qhb {F : Nat} {x1 : Int} {x2 : List Int} {a3 : Option Addr} {c4 : Nat} {x5 : Int} {x6 : List Int} {a7 : Option Addr} {c8 : Nat} {r : (Int × List Int × Int)} (hm : qd2 F x1 x2 x5 x6 = some r) :
    Pure Tryz.prog 27 [.agg #[.int .i64 x1, .slice a3 x2.length c4], .agg #[.int .i64 x5, .slice a7 x6.length c8]] [Sl (eI .u8) 1 (.slice a3 x2.length c4) x2, Sl (eI .u8) 1 (.slice a7 x6.length c8) x6] (Option Addr × Nat) (fun g => .tuple #[.agg #[.int .i64 r.1, .slice g.1 r.2.1.length g.2], .int .i64 r.2.2]) (fun g => [Ro (eI .u8) 5 1 (.slice g.1 r.2.1.length g.2) r.2.1]) (fun _ => []) := by
 refine qj Tryz.func27 rfl Tryz.ntmps27 rfl hm (fun w => ?_)
 refine au [24,12,3,4,24,3] ?_
 intro g9
 refine au [24,3] ?_
 intro g10
 refine au [24,7] ?_
 intro g11
 refine au [5,0,2,3,4,25,14,27,3] ?_
 intro x12 e12 _
 refine au [5,0,2] ?_
 refine qe (fun ((x15, _) : (Int × Unit)) => ([(2, .pointer (some ⟨g9, 0, none⟩)), (3, .pointer (some ⟨g10, 0, none⟩)), (4, .pointer (some ⟨g11, 0, none⟩)), (6, .int .i64 x15)], [⟨g11, 29, [.int .i64 0, .slice none 0 0]⟩, ⟨g10, 29, [.int .i64 x5, .slice a7 x6.length c8]⟩, ⟨g9, 29, [.int .i64 x1, .slice a3 x2.length c4]⟩], [], [Sl (eI .u8) 1 (.slice a7 x6.length c8) x6, Sl (eI .u8) 1 (.slice a3 x2.length c4) x2], qaZ F x1 x2 x5 x6 x15)) ?_ ?_
 refine av [3,4,1,24,9,0,2,10] ?_ ?_
 intro _
 refine au [4,25,2,27,3] ?_
 intro x26 e26 _
 refine au [5,0] ?_
 exact qa (x26, ())
 intro _
 refine au [11] ?_
 exact qa (x12, ())
 rintro ⟨x15, _⟩
 try dsimp only
 refine qe (fun ((x18, _) : (Int × Unit)) => ([(2, .pointer (some ⟨g9, 0, none⟩)), (3, .pointer (some ⟨g10, 0, none⟩)), (4, .pointer (some ⟨g11, 0, none⟩)), (6, .int .i64 x18)], [⟨g11, 29, [.int .i64 0, .slice none 0 0]⟩, ⟨g10, 29, [.int .i64 x5, .slice a7 x6.length c8]⟩, ⟨g9, 29, [.int .i64 x1, .slice a3 x2.length c4]⟩], [], [Sl (eI .u8) 1 (.slice a7 x6.length c8) x6, Sl (eI .u8) 1 (.slice a3 x2.length c4) x2], qa0 F x1 x2 x5 x6 x18)) ?_ ?_
 refine au [3,4,1,24,9,1] ?_
 refine qk 7 ((x15 : Int) == 0) [(2, .pointer (some ⟨g9, 0, none⟩)), (3, .pointer (some ⟨g10, 0, none⟩)), (4, .pointer (some ⟨g11, 0, none⟩)), (6, .int .i64 x15), (22, .bool (((x15 : Int) == 0) && (decide (8192 < (iadd .i64 x1 x5)))))] (fun h24 => ?_) (fun h24 => ?_) ?_
 refine qb (os := _) rfl (qi (k := 15) rfl h24 ?_)
 refine au [13,26,11,13,25,3,18,24,10,19] ?_
 refine qc (d := 22) (v := .bool (((x15 : Int) == 0) && (decide (8192 < (iadd .i64 x1 x5))))) rfl (by rw [h24]; simp only [Bool.true_and]) ?_
 exact az [0,15]
 refine qb (os := _) rfl (qh (k := 15) rfl h24 ?_)
 refine au [7,7,7,7,7,7,20] ?_
 refine qc (d := 22) (v := .bool (((x15 : Int) == 0) && (decide (8192 < (iadd .i64 x1 x5))))) rfl (by rw [h24]; simp only [Bool.false_and]) ?_
 exact az [0,15]
 refine qb (os := _) rfl ?_
 refine av [0,2,10] ?_ ?_
 intro _
 refine au [4,5,0] ?_
 exact qa ((8 : Int), ())
 intro _
 refine au [11] ?_
 exact qa (x15, ())
 rintro ⟨x18, _⟩
 try dsimp only
 refine av [3,3,4,1,25,0,0,2,10] ?_ ?_
 intro _
 refine au [3,4] ?_
 refine ql (cells := [.int .i64 0, .slice none 0 0]) rfl st29 rfl (by kernel_rfl) rfl ?_
 refine au [1,22,5,0,2,9,12,26,0] ?_
 exact qR (none, 0) (resL (rs := [.cell 4 29, .tmp 5]) rfl (.cell (i := 0) rfl tf29 rfl rfl (by simp) rfl (.tmp rfl ResOk.nil)) rfl) (fun h => by subst h; exact (.cons 0 rfl .nil))
 intro _
 refine au [11,2,3,4,25,14,25,2,28,2] ?_
 rintro x20 e20 ⟨a21, c22⟩
 refine au [22,5,0,2,9] ?_
 exact qR (a21, c22) (resL (rs := [.cell 4 29, .tmp 5]) rfl (.cell (i := 0) rfl tf29 rfl rfl (by simp) rfl (.tmp rfl ResOk.nil)) rfl) (fun h => by subst h; exact (.cons 0 rfl .nil))
theorem qid {F : Nat} {x1 : Int} {x2 : List Int} {a3 : Option Addr} {c4 : Nat} {x5 : Int} {x6 : Int} {r : (Int × List Int × Int)} (hm : qc1 F x1 x2 x5 x6 = some r) :
    Pure Tryz.prog 44 [.agg #[.int .i64 x1, .slice a3 x2.length c4], .int .u64 x5, .int .i64 x6] [Sl (eI .u8) 1 (.slice a3 x2.length c4) x2] (Option Addr × Nat) (fun g => .tuple #[.agg #[.int .i64 r.1, .slice g.1 r.2.1.length g.2], .int .i64 r.2.2]) (fun g => [Ro (eI .u8) 5 1 (.slice g.1 r.2.1.length g.2) r.2.1]) (fun _ => []) := by
 refine qj Tryz.func44 rfl Tryz.ntmps44 rfl hm (fun w => ?_)
 refine au [25,13,3,4,24,3] ?_
 intro g7
 refine au [24,7] ?_
 intro g8
 refine au [5,0,2,3,4,25,2,27,3] ?_
 intro x9 e9 _
 refine au [5,0,2] ?_
 refine qe (fun ((x24, _) : (Int × Unit)) => ([(1, .int .u64 x5), (2, .int .i64 x6), (3, .pointer (some ⟨g7, 0, none⟩)), (6, .pointer (some ⟨g8, 0, none⟩)), (8, .int .i64 x24)], [⟨g8, 29, [.int .i64 0, .slice none 0 0]⟩, ⟨g7, 29, [.int .i64 x1, .slice a3 x2.length c4]⟩], [], [Sl (eI .u8) 1 (.slice a3 x2.length c4) x2], jt F x1 x2 x5 x6 x24)) ?_ ?_
 refine av [17,3,4,1,25,0,5,0,2,10] ?_ ?_
 intro _
 refine au [11,24,8] ?_
 exact qa (x9, ())
 intro _
 refine au [3,4,1,24,4,1] ?_
 refine qk 3 (decide (x6 < 0)) [(1, .int .u64 x5), (2, .int .i64 x6), (3, .pointer (some ⟨g7, 0, none⟩)), (6, .pointer (some ⟨g8, 0, none⟩)), (8, .int .i64 x9), (20, .bool ((decide (x6 < 0)) || (decide (64 < x6))))] (fun h30 => ?_) (fun h30 => ?_) ?_
 refine qb (os := _) rfl (qi (k := 17) rfl h30 ?_)
 refine au [7,7,19] ?_
 refine qc (d := 20) (v := .bool ((decide (x6 < 0)) || (decide (64 < x6)))) rfl (by rw [h30]; simp only [Bool.true_or]) ?_
 exact az [0,15]
 refine qb (os := _) rfl (qh (k := 17) rfl h30 ?_)
 refine au [1,24,10,20] ?_
 refine qc (d := 20) (v := .bool ((decide (x6 < 0)) || (decide (64 < x6)))) rfl (by rw [h30]; simp only [Bool.false_or]) ?_
 exact az [0,15]
 refine qb (os := _) rfl ?_
 refine au [1] ?_
 refine qE 9 (fun ((x36, _) : (Bool × Unit)) => ([(1, .int .u64 x5), (2, .int .i64 x6), (3, .pointer (some ⟨g7, 0, none⟩)), (6, .pointer (some ⟨g8, 0, none⟩)), (8, .int .i64 x9), (30, .bool x36)], [⟨g8, 29, [.int .i64 0, .slice none 0 0]⟩, ⟨g7, 29, [.int .i64 x1, .slice a3 x2.length c4]⟩], [], [Sl (eI .u8) 1 (.slice a3 x2.length c4) x2], qbz F x1 x2 x5 x6 x9 x36)) ?_ ?_
 refine qb (os := _) rfl ?_
 refine av [25,7] ?_ ?_
 intro h31
 refine qi (k := 21) rfl h31 ?_
 refine au [7,7,7,7,7,7,7,7,19,0] ?_
 exact qa (true, ())
 intro h31
 refine qh (k := 21) rfl h31 ?_
 refine au [1,24,4,1] ?_
 refine qE 5 (fun ((x41, _) : (Bool × Unit)) => ([(1, .int .u64 x5), (2, .int .i64 x6), (3, .pointer (some ⟨g7, 0, none⟩)), (6, .pointer (some ⟨g8, 0, none⟩)), (8, .int .i64 x9), (21, .bool false), (29, .bool x41)], [⟨g8, 29, [.int .i64 0, .slice none 0 0]⟩, ⟨g7, 29, [.int .i64 x1, .slice a3 x2.length c4]⟩], [], [Sl (eI .u8) 1 (.slice a3 x2.length c4) x2], qbA F x1 x2 x5 x6 x9 x41)) ?_ ?_
 refine qb (os := _) rfl ?_
 refine av [25,7] ?_ ?_
 intro h39
 refine qi (k := 24) rfl h39 ?_
 refine au [1,1,26,4] ?_
 intro h42
 refine qel rfl rfl rfl rfl h42 ?_
 refine au [25,0,19,0] ?_
 exact qa ((((ishr .u64 x5 x6) : Int) != 0), ())
 intro h39
 refine qh (k := 24) rfl h39 ?_
 refine au [7,7,7,7,20,0] ?_
 exact qa (false, ())
 rintro ⟨x41, _⟩
 try dsimp only
 refine qb (os := _) rfl ?_
 refine au [20,0] ?_
 exact qa (x41, ())
 rintro ⟨x36, _⟩
 try dsimp only
 refine qb (os := _) rfl ?_
 refine av [5,0,2,10] ?_ ?_
 intro _
 refine au [4,5,0,24,8] ?_
 exact qa ((3 : Int), ())
 intro _
 refine av [3,4,13,25,3,1,18,24,10,5,0,2,10] ?_ ?_
 intro _
 refine au [4,5,0,24,8] ?_
 exact qa ((8 : Int), ())
 intro _
 refine au [11,24,8] ?_
 exact qa (x9, ())
 rintro ⟨x24, _⟩
 try dsimp only
 refine av [3,3,4,1,25,0,0,2,10] ?_ ?_
 intro _
 refine au [3,4] ?_
 refine ql (cells := [.int .i64 0, .slice none 0 0]) rfl st29 rfl (by kernel_rfl) rfl ?_
 refine au [1,22,5,0,2,9,12,26,0] ?_
 exact qR (none, 0) (resL (rs := [.cell 6 29, .tmp 7]) rfl (.cell (i := 0) rfl tf29 rfl rfl (by simp) rfl (.tmp rfl ResOk.nil)) rfl) (fun h => by subst h; exact (.cons 0 rfl .nil))
 intro _
 refine au [11,2,3,4,25,2,1,1,28,3] ?_
 rintro x26 e26 ⟨a27, c28⟩
 refine au [22,5,0,2,9] ?_
 exact qR (a27, c28) (resL (rs := [.cell 6 29, .tmp 7]) rfl (.cell (i := 0) rfl tf29 rfl rfl (by simp) rfl (.tmp rfl ResOk.nil)) rfl) (fun h => by subst h; exact (.cons 0 rfl .nil))
theorem qic {F : Nat} {x1 : Int} {x2 : List Int} {a3 : Option Addr} {c4 : Nat} {x5 : Int} {x6 : Int} {r : (Int × Int)} (hm : qc0 F x1 x2 x5 x6 = some r) :
    Pure Tryz.prog 45 [.agg #[.int .i64 x1, .slice a3 x2.length c4], .int .i64 x5, .int .i64 x6] [Sl (eI .u8) 1 (.slice a3 x2.length c4) x2] Unit (fun _ => .tuple #[.int .u64 r.1, .int .i64 r.2]) (fun _ => []) (fun _ => []) := by
 refine qj Tryz.func45 rfl Tryz.ntmps45 rfl hm (fun w => ?_)
 refine au [25,13,3,4,24,3] ?_
 intro g7
 refine au [5,5,0,2,3,4,24,11,27,3] ?_
 intro x8 e8 _
 refine au [5,0,2] ?_
 refine qe (fun ((x18, _) : (Int × Unit)) => ([(1, .int .i64 x5), (2, .int .i64 x6), (3, .pointer (some ⟨g7, 0, none⟩)), (8, .int .i64 x18)], [⟨g7, 29, [.int .i64 x1, .slice a3 x2.length c4]⟩], [], [Sl (eI .u8) 1 (.slice a3 x2.length c4) x2], qbx F x1 x2 x5 x6 x18)) ?_ ?_
 refine au [3,4,1,24,9,1] ?_
 refine qE 17 (fun ((x28, _) : (Bool × Unit)) => ([(1, .int .i64 x5), (2, .int .i64 x6), (3, .pointer (some ⟨g7, 0, none⟩)), (8, .int .i64 x8), (32, .bool x28)], [⟨g7, 29, [.int .i64 x1, .slice a3 x2.length c4]⟩], [], [Sl (eI .u8) 1 (.slice a3 x2.length c4) x2], qby F x1 x2 x5 x6 x8 x28)) ?_ ?_
 refine qb (os := _) rfl ?_
 refine av [25,7] ?_ ?_
 intro h24
 refine qi (k := 15) rfl h24 ?_
 refine au [1,24,4,1] ?_
 refine qk 3 (decide (x6 < 0)) [(1, .int .i64 x5), (2, .int .i64 x6), (3, .pointer (some ⟨g7, 0, none⟩)), (8, .int .i64 x8), (15, .bool true), (21, .bool ((decide (x6 < 0)) || (decide (64 < x6))))] (fun h30 => ?_) (fun h30 => ?_) ?_
 refine qb (os := _) rfl (qi (k := 18) rfl h30 ?_)
 refine au [7,7,19] ?_
 refine qc (d := 21) (v := .bool ((decide (x6 < 0)) || (decide (64 < x6)))) rfl (by rw [h30]; simp only [Bool.true_or]) ?_
 exact az [0,15]
 refine qb (os := _) rfl (qh (k := 18) rfl h30 ?_)
 refine au [1,24,10,20] ?_
 refine qc (d := 21) (v := .bool ((decide (x6 < 0)) || (decide (64 < x6)))) rfl (by rw [h30]; simp only [Bool.false_or]) ?_
 exact az [0,15]
 refine qb (os := _) rfl ?_
 refine au [1] ?_
 refine qk 3 ((decide (x6 < 0)) || (decide (64 < x6))) [(1, .int .i64 x5), (2, .int .i64 x6), (3, .pointer (some ⟨g7, 0, none⟩)), (8, .int .i64 x8), (15, .bool true), (25, .bool (((decide (x6 < 0)) || (decide (64 < x6))) || (decide (x5 < 0))))] (fun h31 => ?_) (fun h31 => ?_) ?_
 refine qb (os := _) rfl (qi (k := 22) rfl h31 ?_)
 refine au [7,7,19] ?_
 refine qc (d := 25) (v := .bool (((decide (x6 < 0)) || (decide (64 < x6))) || (decide (x5 < 0)))) rfl (by rw [h31]; simp only [Bool.true_or]) ?_
 exact az [0,15]
 refine qb (os := _) rfl (qh (k := 22) rfl h31 ?_)
 refine au [1,24,4,20] ?_
 refine qc (d := 25) (v := .bool (((decide (x6 < 0)) || (decide (64 < x6))) || (decide (x5 < 0)))) rfl (by rw [h31]; simp only [Bool.false_or]) ?_
 exact az [0,15]
 refine qb (os := _) rfl ?_
 refine au [1] ?_
 refine qk 5 (((decide (x6 < 0)) || (decide (64 < x6))) || (decide (x5 < 0))) [(1, .int .i64 x5), (2, .int .i64 x6), (3, .pointer (some ⟨g7, 0, none⟩)), (8, .int .i64 x8), (15, .bool true), (31, .bool ((((decide (x6 < 0)) || (decide (64 < x6))) || (decide (x5 < 0))) || (decide (x1 < x5))))] (fun h32 => ?_) (fun h32 => ?_) ?_
 refine qb (os := _) rfl (qi (k := 26) rfl h32 ?_)
 refine au [7,7,7,7,19] ?_
 refine qc (d := 31) (v := .bool ((((decide (x6 < 0)) || (decide (64 < x6))) || (decide (x5 < 0))) || (decide (x1 < x5)))) rfl (by rw [h32]; simp only [Bool.true_or]) ?_
 exact az [0,15]
 refine qb (os := _) rfl (qh (k := 26) rfl h32 ?_)
 refine au [1,13,24,1,24,10,20] ?_
 refine qc (d := 31) (v := .bool ((((decide (x6 < 0)) || (decide (64 < x6))) || (decide (x5 < 0))) || (decide (x1 < x5)))) rfl (by rw [h32]; simp only [Bool.false_or]) ?_
 exact az [0,15]
 refine qb (os := _) rfl ?_
 refine au [19,0] ?_
 exact qa (((((decide (x6 < 0)) || (decide (64 < x6))) || (decide (x5 < 0))) || (decide (x1 < x5))), ())
 intro h24
 refine qh (k := 15) rfl h24 ?_
 refine au [7,7,7,7,7,7,7,7,7,7,7,7,7,7,7,7,20,0] ?_
 exact qa (false, ())
 rintro ⟨x28, _⟩
 try dsimp only
 refine qb (os := _) rfl ?_
 refine av [0,2,10] ?_ ?_
 intro _
 refine au [4,5,0] ?_
 exact qa ((3 : Int), ())
 intro _
 refine au [11] ?_
 exact qa (x8, ())
 rintro ⟨x18, _⟩
 try dsimp only
 refine av [3,3,4,1,25,0,0,2,10] ?_ ?_
 intro _
 exact az [3,4,1,5,5,0,2,9,12,16]
 intro _
 refine au [11,2,3,4,24,11,1,1,29,1] ?_
 intro x20 e20 _
 refine av [1,14,14,5,5,0,2,3,3,4,1,25,5,0,2,10] ?_ ?_
 intro _
 exact az [3,4,5,5,0,2,9,12,16]
 intro _
 exact az [11,2,3,4,1,5,5,0,2,9,16]
set_option maxHeartbeats 4000000 in
theorem qfc (F : Nat)  (r : Bool) (hm : qao F  = some r) :
    Pure Tryz.prog 22 [] [] Unit (fun _ => .bool r) (fun _ => []) (fun _ => []) := by
 refine qj Tryz.func22 rfl Tryz.ntmps22 rfl hm (fun w => ?_)
 refine au [29,3,3,4,5,0,2,3,4] ?_
 refine ql (cells := [.int .i64 0, .slice none 0 0]) rfl st29 rfl (by kernel_rfl) rfl ?_
 refine au [26,12,34,3] ?_
 rintro x1 e1 ⟨a2, c3⟩
 refine au [1,14,14,24,7] ?_
 intro g4
 refine au [22,5,0,2,3,4,24,11,34,3] ?_
 rintro x5 e5 ⟨a6, c7⟩
 refine au [1,14,14,24,7] ?_
 intro g8
 refine au [22,5,0,2,3,4,24,11,34,4] ?_
 intro x9 e9 _
 refine au [1,14,14,5,5,0,2,3,4,25,2,24,11] ?_
 refine qg qhb ?_
 rintro x10 e10 ⟨a11, c12⟩
 refine au [1,14,14,24,7] ?_
 intro g13
 refine au [22,5,0,2,3,4,25,2,34,5] ?_
 rintro x14 e14 ⟨a15, c16⟩
 refine au [1,14,14,24,7] ?_
 intro g17
 refine au [22,5,0,2,3,4,25,14,34,4] ?_
 intro x18 e18 _
 refine au [1,14,14,5,5,0,2,3,4,28,14] ?_
 refine qF (vs := [.int .u8 160]) (ys := ([160] : List Int)) (qv .u8) (by decide) rfl Tryz.underlying27 tf5 rfl rfl rfl rfl rfl (by decide) (fun a19 c20 => ql (cells := [.int .i64 3, .slice a19 ([160] : List Int).length c20]) rfl st29 rfl (by kernel_rfl) rfl ?_)
 refine au [28,8] ?_
 intro x21 e21 _
 refine au [1] ?_
 refine qk 3 x21 [(1, .pointer (some ⟨g4, 0, none⟩)), (3, .pointer (some ⟨g8, 0, none⟩)), (4, .int .i64 x5.2.2), (5, .int .u64 x9.1), (6, .int .i64 x9.2), (7, .pointer (some ⟨g13, 0, none⟩)), (8, .int .i64 x10.2.2), (9, .pointer (some ⟨g17, 0, none⟩)), (10, .int .i64 x14.2.2), (12, .int .i64 x18.2), (51, .bool (x21 && ((x1.2.2 : Int) == 0)))] (fun h22 => ?_) (fun h22 => ?_) ?_
 refine qb (os := _) rfl (qi (k := 48) rfl h22 ?_)
 refine au [1,24,9,19] ?_
 refine qc (d := 51) (v := .bool (x21 && ((x1.2.2 : Int) == 0))) rfl (by rw [h22]; simp only [Bool.true_and]) ?_
 exact az [0,15]
 refine qb (os := _) rfl (qh (k := 48) rfl h22 ?_)
 refine au [7,7,20] ?_
 refine qc (d := 51) (v := .bool (x21 && ((x1.2.2 : Int) == 0))) rfl (by rw [h22]; simp only [Bool.false_and]) ?_
 exact az [0,15]
 refine qb (os := _) rfl ?_
 refine au [1] ?_
 refine qE 5 (fun ((x27, _) : (Bool × Unit)) => ([(1, .pointer (some ⟨g4, 0, none⟩)), (4, .int .i64 x5.2.2), (5, .int .u64 x9.1), (6, .int .i64 x9.2), (7, .pointer (some ⟨g13, 0, none⟩)), (8, .int .i64 x10.2.2), (9, .pointer (some ⟨g17, 0, none⟩)), (10, .int .i64 x14.2.2), (12, .int .i64 x18.2), (57, .bool x27)], [⟨g17, 29, [.int .i64 x14.1, .slice a15 x14.2.1.length c16]⟩, ⟨g13, 29, [.int .i64 x10.1, .slice a11 x10.2.1.length c12]⟩, ⟨g4, 29, [.int .i64 x1.1, .slice a2 x1.2.1.length c3]⟩], [Ro (eI .u8) 5 1 (.slice a15 x14.2.1.length c16) x14.2.1, Ro (eI .u8) 5 1 (.slice a11 x10.2.1.length c12) x10.2.1, Ro (eI .u8) 5 1 (.slice a2 x1.2.1.length c3) x1.2.1], [], j9 F x1 x5 x9 x10 x14 x18 x27)) ?_ ?_
 refine qb (os := _) rfl ?_
 refine av [25,7] ?_ ?_
 intro h23
 refine qi (k := 52) rfl h23 ?_
 refine au [25,14] ?_
 refine qF (vs := [.int .u8 162, .int .u8 64]) (ys := ([162, 64] : List Int)) (qv .u8) (by decide) rfl Tryz.underlying27 tf5 rfl rfl rfl rfl rfl (by decide) (fun a47 c48 => ql (cells := [.int .i64 10, .slice a47 ([162, 64] : List Int).length c48]) rfl st29 rfl (by kernel_rfl) rfl ?_)
 refine au [28,8] ?_
 intro x49 e49 _
 refine au [19,0] ?_
 exact qa (x49, ())
 intro h23
 refine qh (k := 52) rfl h23 ?_
 refine au [7,7,7,7,20,0] ?_
 exact qa (false, ())
 rintro ⟨x27, _⟩
 try dsimp only
 refine qb (os := _) rfl ?_
 refine au [1] ?_
 refine qk 3 x27 [(1, .pointer (some ⟨g4, 0, none⟩)), (5, .int .u64 x9.1), (6, .int .i64 x9.2), (7, .pointer (some ⟨g13, 0, none⟩)), (8, .int .i64 x10.2.2), (9, .pointer (some ⟨g17, 0, none⟩)), (10, .int .i64 x14.2.2), (12, .int .i64 x18.2), (61, .bool (x27 && ((x5.2.2 : Int) == 0)))] (fun h28 => ?_) (fun h28 => ?_) ?_
 refine qb (os := _) rfl (qi (k := 58) rfl h28 ?_)
 refine au [1,24,9,19] ?_
 refine qc (d := 61) (v := .bool (x27 && ((x5.2.2 : Int) == 0))) rfl (by rw [h28]; simp only [Bool.true_and]) ?_
 exact az [0,15]
 refine qb (os := _) rfl (qh (k := 58) rfl h28 ?_)
 refine au [7,7,20] ?_
 refine qc (d := 61) (v := .bool (x27 && ((x5.2.2 : Int) == 0))) rfl (by rw [h28]; simp only [Bool.false_and]) ?_
 exact az [0,15]
 refine qb (os := _) rfl ?_
 refine au [1] ?_
 refine qk 3 (x27 && ((x5.2.2 : Int) == 0)) [(1, .pointer (some ⟨g4, 0, none⟩)), (6, .int .i64 x9.2), (7, .pointer (some ⟨g13, 0, none⟩)), (8, .int .i64 x10.2.2), (9, .pointer (some ⟨g17, 0, none⟩)), (10, .int .i64 x14.2.2), (12, .int .i64 x18.2), (65, .bool ((x27 && ((x5.2.2 : Int) == 0)) && ((x9.1 : Int) == 9)))] (fun h29 => ?_) (fun h29 => ?_) ?_
 refine qb (os := _) rfl (qi (k := 62) rfl h29 ?_)
 refine au [1,24,9,19] ?_
 refine qc (d := 65) (v := .bool ((x27 && ((x5.2.2 : Int) == 0)) && ((x9.1 : Int) == 9))) rfl (by rw [h29]; simp only [Bool.true_and]) ?_
 exact az [0,15]
 refine qb (os := _) rfl (qh (k := 62) rfl h29 ?_)
 refine au [7,7,20] ?_
 refine qc (d := 65) (v := .bool ((x27 && ((x5.2.2 : Int) == 0)) && ((x9.1 : Int) == 9))) rfl (by rw [h29]; simp only [Bool.false_and]) ?_
 exact az [0,15]
 refine qb (os := _) rfl ?_
 refine au [1] ?_
 refine qk 3 ((x27 && ((x5.2.2 : Int) == 0)) && ((x9.1 : Int) == 9)) [(1, .pointer (some ⟨g4, 0, none⟩)), (7, .pointer (some ⟨g13, 0, none⟩)), (8, .int .i64 x10.2.2), (9, .pointer (some ⟨g17, 0, none⟩)), (10, .int .i64 x14.2.2), (12, .int .i64 x18.2), (69, .bool (((x27 && ((x5.2.2 : Int) == 0)) && ((x9.1 : Int) == 9)) && ((x9.2 : Int) == 0)))] (fun h30 => ?_) (fun h30 => ?_) ?_
 refine qb (os := _) rfl (qi (k := 66) rfl h30 ?_)
 refine au [1,24,9,19] ?_
 refine qc (d := 69) (v := .bool (((x27 && ((x5.2.2 : Int) == 0)) && ((x9.1 : Int) == 9)) && ((x9.2 : Int) == 0))) rfl (by rw [h30]; simp only [Bool.true_and]) ?_
 exact az [0,15]
 refine qb (os := _) rfl (qh (k := 66) rfl h30 ?_)
 refine au [7,7,20] ?_
 refine qc (d := 69) (v := .bool (((x27 && ((x5.2.2 : Int) == 0)) && ((x9.1 : Int) == 9)) && ((x9.2 : Int) == 0))) rfl (by rw [h30]; simp only [Bool.false_and]) ?_
 exact az [0,15]
 refine qb (os := _) rfl ?_
 refine au [1] ?_
 refine qk 4 (((x27 && ((x5.2.2 : Int) == 0)) && ((x9.1 : Int) == 9)) && ((x9.2 : Int) == 0)) [(1, .pointer (some ⟨g4, 0, none⟩)), (8, .int .i64 x10.2.2), (9, .pointer (some ⟨g17, 0, none⟩)), (10, .int .i64 x14.2.2), (12, .int .i64 x18.2), (74, .bool ((((x27 && ((x5.2.2 : Int) == 0)) && ((x9.1 : Int) == 9)) && ((x9.2 : Int) == 0)) && ((x10.1 : Int) == 13)))] (fun h31 => ?_) (fun h31 => ?_) ?_
 refine qb (os := _) rfl (qi (k := 70) rfl h31 ?_)
 refine au [13,25,3,24,9,19] ?_
 refine qc (d := 74) (v := .bool ((((x27 && ((x5.2.2 : Int) == 0)) && ((x9.1 : Int) == 9)) && ((x9.2 : Int) == 0)) && ((x10.1 : Int) == 13))) rfl (by rw [h31]; simp only [Bool.true_and]) ?_
 exact az [0,15]
 refine qb (os := _) rfl (qh (k := 70) rfl h31 ?_)
 refine au [7,7,7,20] ?_
 refine qc (d := 74) (v := .bool ((((x27 && ((x5.2.2 : Int) == 0)) && ((x9.1 : Int) == 9)) && ((x9.2 : Int) == 0)) && ((x10.1 : Int) == 13))) rfl (by rw [h31]; simp only [Bool.false_and]) ?_
 exact az [0,15]
 refine qb (os := _) rfl ?_
 refine au [1] ?_
 refine qk 3 ((((x27 && ((x5.2.2 : Int) == 0)) && ((x9.1 : Int) == 9)) && ((x9.2 : Int) == 0)) && ((x10.1 : Int) == 13)) [(1, .pointer (some ⟨g4, 0, none⟩)), (9, .pointer (some ⟨g17, 0, none⟩)), (10, .int .i64 x14.2.2), (12, .int .i64 x18.2), (78, .bool (((((x27 && ((x5.2.2 : Int) == 0)) && ((x9.1 : Int) == 9)) && ((x9.2 : Int) == 0)) && ((x10.1 : Int) == 13)) && ((x10.2.2 : Int) == 0)))] (fun h32 => ?_) (fun h32 => ?_) ?_
 refine qb (os := _) rfl (qi (k := 75) rfl h32 ?_)
 refine au [1,24,9,19] ?_
 refine qc (d := 78) (v := .bool (((((x27 && ((x5.2.2 : Int) == 0)) && ((x9.1 : Int) == 9)) && ((x9.2 : Int) == 0)) && ((x10.1 : Int) == 13)) && ((x10.2.2 : Int) == 0))) rfl (by rw [h32]; simp only [Bool.true_and]) ?_
 exact az [0,15]
 refine qb (os := _) rfl (qh (k := 75) rfl h32 ?_)
 refine au [7,7,20] ?_
 refine qc (d := 78) (v := .bool (((((x27 && ((x5.2.2 : Int) == 0)) && ((x9.1 : Int) == 9)) && ((x9.2 : Int) == 0)) && ((x10.1 : Int) == 13)) && ((x10.2.2 : Int) == 0))) rfl (by rw [h32]; simp only [Bool.false_and]) ?_
 exact az [0,15]
 refine qb (os := _) rfl ?_
 refine au [1] ?_
 refine qE 4 (fun ((x35, _) : (Bool × Unit)) => ([(10, .int .i64 x14.2.2), (12, .int .i64 x18.2), (83, .bool x35)], [], [], [], qaa F x14 x18 x35)) ?_ ?_
 refine qb (os := _) rfl ?_
 refine av [25,7] ?_ ?_
 intro h33
 refine qi (k := 79) rfl h33 ?_
 refine au [24,11,25,14,28,8] ?_
 intro x46 e46 _
 refine au [19,0] ?_
 exact qa (x46, ())
 intro h33
 refine qh (k := 79) rfl h33 ?_
 refine au [7,7,7,20,0] ?_
 exact qa (false, ())
 rintro ⟨x35, _⟩
 try dsimp only
 refine qb (os := _) rfl ?_
 refine au [1] ?_
 refine qk 3 x35 [(12, .int .i64 x18.2), (87, .bool (x35 && ((x14.2.2 : Int) == 0)))] (fun h36 => ?_) (fun h36 => ?_) ?_
 refine qb (os := _) rfl (qi (k := 84) rfl h36 ?_)
 refine au [1,24,9,19] ?_
 refine qc (d := 87) (v := .bool (x35 && ((x14.2.2 : Int) == 0))) rfl (by rw [h36]; simp only [Bool.true_and]) ?_
 exact az [0,15]
 refine qb (os := _) rfl (qh (k := 84) rfl h36 ?_)
 refine au [7,7,20] ?_
 refine qc (d := 87) (v := .bool (x35 && ((x14.2.2 : Int) == 0))) rfl (by rw [h36]; simp only [Bool.false_and]) ?_
 exact az [0,15]
 refine qb (os := _) rfl ?_
 refine au [1] ?_
 refine qk 3 (x35 && ((x14.2.2 : Int) == 0)) [(91, .bool ((x35 && ((x14.2.2 : Int) == 0)) && ((x18.2 : Int) == 7)))] (fun h37 => ?_) (fun h37 => ?_) ?_
 refine qb (os := _) rfl (qi (k := 88) rfl h37 ?_)
 refine au [1,24,9,19] ?_
 refine qc (d := 91) (v := .bool ((x35 && ((x14.2.2 : Int) == 0)) && ((x18.2 : Int) == 7))) rfl (by rw [h37]; simp only [Bool.true_and]) ?_
 exact az [0,15]
 refine qb (os := _) rfl (qh (k := 88) rfl h37 ?_)
 refine au [7,7,20] ?_
 refine qc (d := 91) (v := .bool ((x35 && ((x14.2.2 : Int) == 0)) && ((x18.2 : Int) == 7))) rfl (by rw [h37]; simp only [Bool.false_and]) ?_
 exact az [0,15]
 refine qb (os := _) rfl ?_
 refine au [1] ?_
 refine qE 5 (fun ((x42, _) : (Bool × Unit)) => ([(97, .bool x42)], [], [], [], qab F x42)) ?_ ?_
 refine qb (os := _) rfl ?_
 refine av [25,7] ?_ ?_
 intro h38
 refine qi (k := 92) rfl h38 (qF (vs := [.int .u8 1]) (ys := ([1] : List Int)) (qv .u8) (by decide) rfl Tryz.underlying27 tf5 rfl rfl rfl rfl rfl (by decide) (fun a43 c44 => ql (cells := [.int .i64 3, .slice a43 ([1] : List Int).length c44]) rfl st29 rfl (by kernel_rfl) rfl ?_))
 refine au [27,3] ?_
 intro x45 e45 _
 refine au [24,9,19,0] ?_
 exact qa (((x45 : Int) == 1), ())
 intro h38
 refine qh (k := 92) rfl h38 ?_
 refine au [7,7,7,7,20,0] ?_
 exact qa (false, ())
 rintro ⟨x42, _⟩
 try dsimp only
 refine qb (os := _) rfl ?_
 exact az [5,0,2,9,16]
theorem qh9 {F : Nat} {x1 : Int} {r : List Int} (hm : qbU F x1 = some r) :
    Pure Tryz.prog 41 [.int .u64 x1] [] (Option Addr × Nat) (fun g => .slice g.1 r.length g.2) (fun g => [Ro (eI .i64) 3 1 (.slice g.1 r.length g.2) r]) (fun _ => []) := by
 refine qj Tryz.func41 rfl Tryz.ntmps41 rfl hm (fun w => ?_)
 refine au [25,8,3,4,5,0,2,3,4,5,0,2] ?_
 refine qe (fun ((x31, (a29, c30)) : (List Int × (Option Addr × Nat))) => ([(3, .slice a29 x31.length c30)], [], [Ro (eI .i64) 3 1 (.slice a29 x31.length c30) x31], [], qbw F x31)) ?_ ?_
 refine au [17,27,1] ?_
 refine qt (fun (((x40, x43), (a41, c42)) : ((Int × List Int) × (Option Addr × Nat))) => ([(0, .int .u64 x40), (3, .slice a41 x43.length c42)], [], [Ro (eI .i64) 3 1 (.slice a41 x43.length c42) x43], [])) (fun k (s : ((Int × List Int) × (Option Addr × Nat))) => vn F k s.1) ((x1, ([] : List Int)), (none, 0)) F ?_
 intro k51
 rintro ⟨⟨x40, x43⟩, ⟨a41, c42⟩⟩
 try dsimp only
 refine qJ (m' := qau F (vn F k51) x40 x43) rfl ?_
 refine av [3,3,4,1,24,10,0,2,10] ?_ ?_
 intro _
 refine au [11,2,17,3,4,1,29,5,25,6] ?_
 refine qF (vs := [.int .i64 (iconv .i64 (irem x40 2))]) (ys := ([iconv .i64 (irem x40 2)] : List Int)) (qv .i64) (by decide) rfl Tryz.underlying37 tf3 rfl rfl rfl rfl rfl (by decide) (fun a53 c54 => ?_)
 refine au [1] ?_
 refine kh 0 (qv .i64) rfl Tryz.underlying37 tf3 rfl rfl rfl rfl rfl (.inl ⟨1, _, rfl⟩) rfl rfl (fun x55 e55 a56 c57 => ?_)
 refine au [5,0,2,4,1,28,12,5,0,24,8] ?_
 exact qm ((iquo .u64 x40 2, x55), (a56, c57))
 intro _
 refine au [24,13,21,21,24,14] ?_
 exact qa (x43, (a41, c42))
 rintro ⟨x31, ⟨a29, c30⟩⟩
 try dsimp only
 refine au [3,4,1,5,0,2,9] ?_
 exact qu (a29, c30)
theorem qfg {F : Nat} {x1 : Int} {r : List Int} (hm : qar F x1 = some r) :
    Pure Tryz.prog 20 [.int .u64 x1] [] (Option Addr × Nat) (fun g => .slice g.1 r.length g.2) (fun g => [Ro (eI .i64) 3 1 (.slice g.1 r.length g.2) r]) (fun _ => []) := by
 refine qj Tryz.func20 rfl Tryz.ntmps20 rfl hm (fun w => ?_)
 refine au [25,8,3,4,5,0,2,3,4,1,18] ?_
 refine qg qh9 ?_
 rintro x2 e2 ⟨a3, c4⟩
 refine au [5,0,2,3,4,5,0,2] ?_
 refine qe (fun ((x48, (a46, c47)) : (List Int × (Option Addr × Nat))) => ([(3, .slice a3 x2.length c4), (4, .slice a46 x48.length c47)], [], [Ro (eI .i64) 3 1 (.slice a3 x2.length c4) x2, Ro (eI .i64) 3 1 (.slice a46 x48.length c47) x48], [], qad F x2 x48)) ?_ ?_
 refine au [3,4,5,0,2,17,27,1] ?_
 refine qt (fun (((x66, x67), (a64, c65)) : ((List Int × Int) × (Option Addr × Nat))) => ([(3, .slice a3 x2.length c4), (4, .slice a64 x66.length c65), (5, .int .i64 x67)], [], [Ro (eI .i64) 3 1 (.slice a3 x2.length c4) x2, Ro (eI .i64) 3 1 (.slice a64 x66.length c65) x66], [])) (fun k (s : ((List Int × Int) × (Option Addr × Nat))) => kL F x2 k s.1) ((([] : List Int), 1), (none, 0)) F ?_
 intro k80
 rintro ⟨⟨x66, x67⟩, ⟨a64, c65⟩⟩
 try dsimp only
 refine qJ (m' := jk F x2 (kL F x2 k80) x66 x67) rfl ?_
 refine av [3,3,4,1,1,24,2,24,4,0,2,10] ?_ ?_
 intro _
 refine au [11,2,3,17,4,1] ?_
 refine qF (vs := [.int .i64 0]) (ys := ([0] : List Int)) (qv .i64) (by decide) rfl Tryz.underlying37 tf3 rfl rfl rfl rfl rfl (by decide) (fun a87 c88 => kh 2 (qv .i64) rfl Tryz.underlying37 tf3 rfl rfl rfl rfl rfl (.inl ⟨0, _, rfl⟩) rfl rfl (fun x89 e89 a90 c91 => ?_))
 refine au [5,0,24,8,2,4,1,18,5,0] ?_
 exact qm ((x89, iadd .i64 x67 1), (a90, c91))
 intro _
 refine au [24,13,21,21,24,14] ?_
 exact qa (x66, (a64, c65))
 rintro ⟨x48, ⟨a46, c47⟩⟩
 try dsimp only
 refine au [3,4,1,1] ?_
 refine kh 1 (qv .i64) rfl Tryz.underlying37 tf3 rfl rfl rfl rfl rfl (.inl ⟨0, _, rfl⟩) rfl rfl (fun x49 e49 a50 c51 => ?_)
 refine au [5,0,2,9] ?_
 exact qu (a50, c51)
theorem qch (F : Nat) (x1 : Int) (g2 : Nat) (x3 : Int) (x4 : Int) (x5 : Int) (g6 : Nat) (x7 : List (List Int)) (a8 : Option Addr) (c9 : (Nat × List (Option Addr × Nat))) (g10 : Nat) (x11 : Int) (r : (Int × List Int × Int)) (hm : vT F x1 x3 x4 x5 x7 x11 = some r) :
    PureM Tryz.prog 23 [.int .i64 x1, .pointer (some ⟨g2, 0, none⟩), .pointer (some ⟨g6, 0, none⟩), .pointer (some ⟨g10, 0, none⟩)] [⟨g2, 26, [.int .i64 x3, .int .i64 x4, .int .i64 x5]⟩, ⟨g6, 24, [.slice a8 x7.length c9.1]⟩, ⟨g10, 3, [.int .i64 x11]⟩] [] [SlN eN37 iN37 1 (.slice a8 x7.length c9.1) x7 c9.2] (Option Addr × Nat) (fun g => .tuple #[.agg #[.int .i64 r.1, .slice g.1 r.2.1.length g.2], .int .i64 r.2.2]) (fun _ => [⟨g2, 26, [.int .i64 x3, .int .i64 x4, .int .i64 x5]⟩, ⟨g6, 24, [.slice a8 x7.length c9.1]⟩, ⟨g10, 3, [.int .i64 x11]⟩]) (fun g => [Ro (eI .u8) 5 1 (.slice g.1 r.2.1.length g.2) r.2.1]) := by
 refine zC Tryz.func23 rfl Tryz.ntmps23 rfl hm (fun w => ?_)
 refine au [26,9,3,4,24,7] ?_
 intro g12
 refine au [5,0,2,3,4,5,0,2] ?_
 refine qe (fun ((x17, _) : (Int × Unit)) => ([(0, .int .i64 x1), (1, .pointer (some ⟨g2, 0, none⟩)), (2, .pointer (some ⟨g6, 0, none⟩)), (3, .pointer (some ⟨g10, 0, none⟩)), (5, .pointer (some ⟨g12, 0, none⟩)), (7, .int .i64 x17)], [⟨g12, 29, [.int .i64 0, .slice none 0 0]⟩, ⟨g2, 26, [.int .i64 x3, .int .i64 x4, .int .i64 x5]⟩, ⟨g6, 24, [.slice a8 x7.length c9.1]⟩, ⟨g10, 3, [.int .i64 x11]⟩], [], [SlN eN37 iN37 1 (.slice a8 x7.length c9.1) x7 c9.2], yd F x1 x4 x5 x7 x11 x17)) ?_ ?_
 refine av [3,4,13,25,3,24,10,0,2,10] ?_ ?_
 intro _
 refine au [4,1,25,6] ?_
 refine qg qfg ?_
 rintro x65 e65 ⟨a66, c67⟩
 refine au [24,2,5,0] ?_
 exact qa ((x65.length : Int), ())
 intro _
 refine au [11] ?_
 exact qa ((0 : Int), ())
 rintro ⟨x17, _⟩
 try dsimp only
 refine au [3,4,5,0,2] ?_
 refine qe (fun ((x25, (a23, c24)) : (List Int × (Option Addr × Nat))) => ([(0, .int .i64 x1), (1, .pointer (some ⟨g2, 0, none⟩)), (2, .pointer (some ⟨g6, 0, none⟩)), (3, .pointer (some ⟨g10, 0, none⟩)), (5, .pointer (some ⟨g12, 0, none⟩)), (7, .int .i64 x17), (8, .slice a23 x25.length c24)], [⟨g12, 29, [.int .i64 0, .slice none 0 0]⟩, ⟨g2, 26, [.int .i64 x3, .int .i64 x4, .int .i64 x5]⟩, ⟨g6, 24, [.slice a8 x7.length c9.1]⟩, ⟨g10, 3, [.int .i64 x11]⟩], [], [Sl (eI .i64) 1 (.slice a23 x25.length c24) x25, SlN eN37 iN37 1 (.slice a8 x7.length c9.1) x7 c9.2], ye F x1 x4 x5 x7 x11 x17 x25)) ?_ ?_
 refine av [3,4,1,24,10,0,2,10] ?_ ?_
 intro _
 refine au [4,13,26,11,26,6,1,24,15,27,10] ?_
 intro x60 e60 g63 b61 o62
 refine au [25,12,5,0] ?_
 exact qa (x60, (g63.1, g63.2))
 intro _
 refine au [11,25,9,32,4] ?_
 exact qa (([] : List Int), (none, 0))
 rintro ⟨x25, ⟨a23, c24⟩⟩
 try dsimp only
 refine qe (fun (((x40, x41, x44), (g39, a42, c43)) : ((Int × Int × List Int) × (Nat × Option Addr × Nat))) => ([(5, .pointer (some ⟨g12, 0, none⟩)), (7, .int .i64 x17), (9, .pointer (some ⟨g39, 0, none⟩)), (10, .int .i64 x40)], [⟨g12, 29, [.int .i64 0, .slice none 0 0]⟩, ⟨g2, 26, [.int .i64 x3, .int .i64 x4, .int .i64 x5]⟩, ⟨g6, 24, [.slice a8 x7.length c9.1]⟩, ⟨g10, 3, [.int .i64 x11]⟩, ⟨g39, 29, [.int .i64 x41, .slice a42 x44.length c43]⟩], [Ro (eI .u8) 5 1 (.slice a42 x44.length c43) x44], [SlN eN37 iN37 1 (.slice a8 x7.length c9.1) x7 c9.2], vv F x17 x40 x41 x44)) ?_ ?_
 refine qe4 (j := 1) vQ (by decide) rfl ?_
 intro x47 e47 g51 b48 o49 h50
 replace h50 : a8 = some ⟨b48, o49, none⟩ := h50
 refine qs mixed [] [⟨g12, 29, [.int .i64 0, .slice none 0 0]⟩, ⟨g2, 26, [.int .i64 x3, .int .i64 x4, .int .i64 x5]⟩, ⟨g6, 24, [.slice a8 x7.length c9.1]⟩, ⟨g10, 3, [.int .i64 x11]⟩] [qI b48 (o49 + x11.toNat * 1) (eN37 (x47, g51)), Sl (eI .i64) 1 (.slice g51.1 x47.length g51.2) x47, Sl (eI .i64) 1 (.slice a23 x25.length c24) x25, SlN eN37 iN37 1 (.slice a8 x7.length c9.1) x7 c9.2] (.cons 0 rfl (.cons 0 rfl (.cons 0 rfl (.cons 0 rfl .nil)))) (qO 0 rfl (qO 1 rfl (qO 2 rfl (qO 3 rfl qr)))) 20 rfl ?_
 refine au [27,9,0,23,1,28,15,2,27,9,3] ?_
 refine qf (d := 30) (v := .slice (some ⟨b48, o49, none⟩) x7.length c9.1) rfl (by rw [h50] <;> rfl) (qn 4 (.pointer (some ⟨b48, (o49 + x11.toNat * 1), none⟩)) rfl rfl rfl (qan Tryz.underlying22 tf37 rfl rfl (qP e47).1 (v8 e47)) (qf (d := 30) (v := .slice a8 x7.length c9.1) rfl (by rw [h50] <;> rfl) (q8 5 (.slice g51.1 x47.length g51.2) [] rfl rfl rfl (kE (j := 0) rfl tf37 rfl rfl (fun _ => rfl) rfl) ?_)))
 refine au [6,6,6,7,23,8,26,7,9,23,10,26,7,11] ?_
 refine qn 12 (.agg #[.int .i64 x1, .int .i64 x4, .int .i64 x5]) rfl rfl rfl (qdH (cells := [.int .i64 x1, .int .i64 x4, .int .i64 x5]) st26 rfl (by kernel_rfl)) (qbr 13 17 rfl rfl (by kernel_rfl) rfl rfl ?_ ?_)
 refine au [28,5] ?_
 rintro x52 e52 ⟨a53, c54⟩
 refine au [0] ?_
 refine zE (.cons 0 rfl (.cons 0 rfl (.cons 0 rfl (.cons 0 rfl .nil)))) (qO 0 rfl (qO 1 rfl (qO 2 rfl (qO 3 rfl qr)))) ?_
 refine au [6,14,6,15,6,16,24,0,17,24,7] ?_
 intro g55
 refine au [0,28,9,24,0,18,22,0,28,9,6,19,24,6] ?_
 exact qy (qa ((x52.2.2, x52.1, x52.2.1), (g55, a53, c54))) (by intro c h; cases h)
 refine qbs (m' := ((yo F x11 x47 x25 x1 x4 x5).bind fun x57 => vv F x17 x57.2.2 x57.1 x57.2.1)) (rfl) ?_
 refine au [24,7] ?_
 intro g56
 refine au [0,28,9,24,0,13,28,5] ?_
 rintro x57 e57 ⟨a58, c59⟩
 refine au [0,28,9,6,14,6,15,6,16,24,0,18,22,0,28,9,6,19,24,6] ?_
 exact qy (qa ((x57.2.2, x57.1, x57.2.1), (g56, a58, c59))) (by intro c h; cases h)
 rintro ⟨⟨x40, x41, x44⟩, ⟨g39, a42, c43⟩⟩
 try dsimp only
 refine av [3,3,4,1,25,0,0,2,10] ?_ ?_
 intro _
 refine au [3,4,30,2,22,5,0,2,9,12] ?_
 exact yK (a42, c43) (resL (rs := [.cell 5 29, .tmp 6]) rfl (.cell (i := 0) rfl tf29 rfl rfl (by simp) rfl (.tmp rfl ResOk.nil)) rfl) (hB := fun h => by subst h; exact (.cons 1 rfl (.cons 1 rfl (.cons 1 rfl .nil)))) (hR := fun h => by subst h; exact (.cons 0 rfl .nil))
 intro _
 refine au [11,2,3] ?_
 refine qs mixed [] [⟨g2, 26, [.int .i64 x3, .int .i64 x4, .int .i64 x5]⟩, ⟨g6, 24, [.slice a8 x7.length c9.1]⟩, ⟨g10, 3, [.int .i64 x11]⟩, ⟨g39, 29, [.int .i64 x41, .slice a42 x44.length c43]⟩] [SlN eN37 iN37 1 (.slice a8 x7.length c9.1) x7 c9.2] (.cons 1 rfl (.cons 1 rfl (.cons 1 rfl (.cons 1 rfl .nil)))) (qO 0 rfl qr) 7 rfl (ke 0 (.agg #[.int .i64 x41, .slice a42 x44.length c43]) rfl rfl rfl (zd (i := 3) rfl tf29 rfl rfl (by simp) rfl) ?_)
 refine au [6,1,23,2,27,9,3,6,4,24,0,5,22,0] ?_
 refine zE (.cons 1 rfl (.cons 1 rfl (.cons 1 rfl (.cons 1 rfl .nil)))) (qO 0 rfl qr) ?_
 refine au [6,6,24,6] ?_
 refine qy ?_ (by intro c h; cases h)
 refine au [2,9] ?_
 exact yK (a42, c43) (resL (rs := [.cell 5 29, .tmp 6]) rfl (.cell (i := 0) rfl tf29 rfl rfl (by simp) rfl (.tmp rfl ResOk.nil)) rfl) (hB := fun h => by subst h; exact (.cons 1 rfl (.cons 1 rfl (.cons 1 rfl .nil)))) (hR := fun h => by subst h; exact (.cons 0 rfl .nil))
set_option maxHeartbeats 4000000 in
theorem qge (F : Nat) (x1 : List (List Int)) (a2 : Option Addr) (c3 : (Nat × List (Option Addr × Nat))) (x4 : Int) (x5 : Int) (x6 : Int) (x7 : Int) (x8 : Int) (r : Bool) (hm : qbT F x1 x4 x5 x6 x7 x8 = some r) :
    Pure Tryz.prog 7 [.agg #[.slice a2 x1.length c3.1], .agg #[.int .i64 x4, .int .i64 x5, .int .i64 x6], .int .i64 x7, .int .i64 x8] [SlN eN37 iN37 1 (.slice a2 x1.length c3.1) x1 c3.2] Unit (fun _ => .bool r) (fun _ => []) (fun _ => []) := by
 refine qj Tryz.func7 rfl Tryz.ntmps7 rfl hm (fun w => ?_)
 refine au [26,9,3,4,24,3] ?_
 intro g9
 refine au [24,3] ?_
 intro g10
 refine au [24,3] ?_
 intro g11
 refine au [5,0,2,3,4,25,14,25,2,28,7] ?_
 rintro x12 e12 ⟨a13, c14⟩
 refine au [1,14,14,24,7] ?_
 intro g15
 refine au [22,5,0,2,3,4,28,14,25,14,34,0] ?_
 rintro x16 e16 ⟨⟨a17, c18⟩, ⟨a19, c20⟩⟩
 refine au [1,14,14,14,5,5,5,0,2,3,3,4] ?_
 refine qg (fun h => qfd F _ h) ?_
 intro x31 e31 _
 refine au [25,5,1] ?_
 refine qE 3 (fun ((x34, _) : (Bool × Unit)) => ([(3, .int .i64 x8), (4, .pointer (some ⟨g9, 0, none⟩)), (5, .pointer (some ⟨g10, 0, none⟩)), (6, .pointer (some ⟨g11, 0, none⟩)), (9, .pointer (some ⟨g15, 0, none⟩)), (10, .int .i64 x12.2.2.2.2.2.2), (11, .slice a17 x16.1.length c18), (12, .slice a19 x16.2.1.length c20), (13, .int .i64 x16.2.2), (40, .bool x34)], [⟨g15, 31, [.int .i64 x12.1, .int .i64 x12.2.1, .int .i64 x12.2.2.1, .int .i64 x12.2.2.2.1, .int .i64 x12.2.2.2.2.1, .slice a13 x12.2.2.2.2.2.1.length c14]⟩, ⟨g11, 3, [.int .i64 x7]⟩, ⟨g10, 26, [.int .i64 x4, .int .i64 x5, .int .i64 x6]⟩, ⟨g9, 24, [.slice a2 x1.length c3.1]⟩], [Ro (eI .i64) 3 1 (.slice a17 x16.1.length c18) x16.1, Ro (eI .i64) 3 1 (.slice a19 x16.2.1.length c20) x16.2.1, Ro (eI .u8) 5 1 (.slice a13 x12.2.2.2.2.2.1.length c14) x12.2.2.2.2.2.1], [SlN eN37 iN37 1 (.slice a2 x1.length c3.1) x1 c3.2], jB F x1 x4 x5 x6 x7 x8 x12 x16 x34)) ?_ ?_
 refine qb (os := _) rfl ?_
 refine av [25,7] ?_ ?_
 intro h32
 refine qi (k := 37) rfl h32 ?_
 refine au [7,7,19,0] ?_
 exact qa (true, ())
 intro h32
 refine qh (k := 37) rfl h32 (qg (fun h => qff F _ h) ?_)
 intro x168 e168 _
 refine au [25,5,20,0] ?_
 exact qa ((!x168), ())
 rintro ⟨x34, _⟩
 try dsimp only
 refine qb (os := _) rfl ?_
 refine au [1] ?_
 refine qE 3 (fun ((x37, _) : (Bool × Unit)) => ([(3, .int .i64 x8), (4, .pointer (some ⟨g9, 0, none⟩)), (5, .pointer (some ⟨g10, 0, none⟩)), (6, .pointer (some ⟨g11, 0, none⟩)), (9, .pointer (some ⟨g15, 0, none⟩)), (10, .int .i64 x12.2.2.2.2.2.2), (11, .slice a17 x16.1.length c18), (12, .slice a19 x16.2.1.length c20), (13, .int .i64 x16.2.2), (44, .bool x37)], [⟨g15, 31, [.int .i64 x12.1, .int .i64 x12.2.1, .int .i64 x12.2.2.1, .int .i64 x12.2.2.2.1, .int .i64 x12.2.2.2.2.1, .slice a13 x12.2.2.2.2.2.1.length c14]⟩, ⟨g11, 3, [.int .i64 x7]⟩, ⟨g10, 26, [.int .i64 x4, .int .i64 x5, .int .i64 x6]⟩, ⟨g9, 24, [.slice a2 x1.length c3.1]⟩], [Ro (eI .i64) 3 1 (.slice a17 x16.1.length c18) x16.1, Ro (eI .i64) 3 1 (.slice a19 x16.2.1.length c20) x16.2.1, Ro (eI .u8) 5 1 (.slice a13 x12.2.2.2.2.2.1.length c14) x12.2.2.2.2.2.1], [SlN eN37 iN37 1 (.slice a2 x1.length c3.1) x1 c3.2], jC F x1 x4 x5 x6 x7 x8 x12 x16 x37)) ?_ ?_
 refine qb (os := _) rfl ?_
 refine av [25,7] ?_ ?_
 intro h35
 refine qi (k := 41) rfl h35 ?_
 refine au [7,7,19,0] ?_
 exact qa (true, ())
 intro h35
 refine qh (k := 41) rfl h35 (qg (fun h => qfc F _ h) ?_)
 intro x167 e167 _
 refine au [25,5,20,0] ?_
 exact qa ((!x167), ())
 rintro ⟨x37, _⟩
 try dsimp only
 refine qb (os := _) rfl ?_
 refine av [0,2,10] ?_ ?_
 intro _
 exact az [3,4,5,0,2,9,12,16]
 intro _
 refine au [11,2,3,3,4,1,25,0,1] ?_
 refine qk 3 ((x12.2.2.2.2.2.2 : Int) != 0) [(3, .int .i64 x8), (4, .pointer (some ⟨g9, 0, none⟩)), (5, .pointer (some ⟨g10, 0, none⟩)), (6, .pointer (some ⟨g11, 0, none⟩)), (9, .pointer (some ⟨g15, 0, none⟩)), (10, .int .i64 x12.2.2.2.2.2.2), (11, .slice a17 x16.1.length c18), (12, .slice a19 x16.2.1.length c20), (13, .int .i64 x16.2.2), (50, .bool (((x12.2.2.2.2.2.2 : Int) != 0) || ((x16.2.2 : Int) != 0)))] (fun h40 => ?_) (fun h40 => ?_) ?_
 refine qb (os := _) rfl (qi (k := 47) rfl h40 ?_)
 refine au [7,7,19] ?_
 refine qc (d := 50) (v := .bool (((x12.2.2.2.2.2.2 : Int) != 0) || ((x16.2.2 : Int) != 0))) rfl (by rw [h40]; simp only [Bool.true_or]) ?_
 exact az [0,15]
 refine qb (os := _) rfl (qh (k := 47) rfl h40 ?_)
 refine au [1,25,0,20] ?_
 refine qc (d := 50) (v := .bool (((x12.2.2.2.2.2.2 : Int) != 0) || ((x16.2.2 : Int) != 0))) rfl (by rw [h40]; simp only [Bool.false_or]) ?_
 exact az [0,15]
 refine qb (os := _) rfl ?_
 refine av [0,2,10] ?_ ?_
 intro _
 exact az [3,4,1,1,24,9,5,0,2,9,12,16]
 intro _
 refine au [11,2,3,3,4,25,3,24,4,1] ?_
 refine qk 6 (decide (x7 < 0)) [(3, .int .i64 x8), (4, .pointer (some ⟨g9, 0, none⟩)), (5, .pointer (some ⟨g10, 0, none⟩)), (6, .pointer (some ⟨g11, 0, none⟩)), (9, .pointer (some ⟨g15, 0, none⟩)), (11, .slice a17 x16.1.length c18), (12, .slice a19 x16.2.1.length c20), (62, .bool ((decide (x7 < 0)) || (decide ((x1.length : Int) ≤ x7))))] (fun h46 => ?_) (fun h46 => ?_) ?_
 refine qb (os := _) rfl (qi (k := 56) rfl h46 ?_)
 refine au [7,7,7,7,7,19] ?_
 refine qc (d := 62) (v := .bool ((decide (x7 < 0)) || (decide ((x1.length : Int) ≤ x7)))) rfl (by rw [h46]; simp only [Bool.true_or]) ?_
 exact az [0,15]
 refine qb (os := _) rfl (qh (k := 56) rfl h46 ?_)
 refine au [25,3,13,26,6,24,2,26,3,20] ?_
 refine qc (d := 62) (v := .bool ((decide (x7 < 0)) || (decide ((x1.length : Int) ≤ x7)))) rfl (by rw [h46]; simp only [Bool.false_or]) ?_
 exact az [0,15]
 refine qb (os := _) rfl ?_
 refine au [1] ?_
 refine qk 7 ((decide (x7 < 0)) || (decide ((x1.length : Int) ≤ x7))) [(3, .int .i64 x8), (4, .pointer (some ⟨g9, 0, none⟩)), (5, .pointer (some ⟨g10, 0, none⟩)), (6, .pointer (some ⟨g11, 0, none⟩)), (9, .pointer (some ⟨g15, 0, none⟩)), (11, .slice a17 x16.1.length c18), (12, .slice a19 x16.2.1.length c20), (70, .bool (((decide (x7 < 0)) || (decide ((x1.length : Int) ≤ x7))) || (((x16.1.length : Int) : Int) != (x1.length : Int))))] (fun h47 => ?_) (fun h47 => ?_) ?_
 refine qb (os := _) rfl (qi (k := 63) rfl h47 ?_)
 refine au [7,7,7,7,7,7,19] ?_
 refine qc (d := 70) (v := .bool (((decide (x7 < 0)) || (decide ((x1.length : Int) ≤ x7))) || (((x16.1.length : Int) : Int) != (x1.length : Int)))) rfl (by rw [h47]; simp only [Bool.true_or]) ?_
 exact az [0,15]
 refine qb (os := _) rfl (qh (k := 63) rfl h47 ?_)
 refine au [1,24,2,13,26,6,24,2,25,0,20] ?_
 refine qc (d := 70) (v := .bool (((decide (x7 < 0)) || (decide ((x1.length : Int) ≤ x7))) || (((x16.1.length : Int) : Int) != (x1.length : Int)))) rfl (by rw [h47]; simp only [Bool.false_or]) ?_
 exact az [0,15]
 refine qb (os := _) rfl ?_
 refine au [1] ?_
 refine qk 6 (((decide (x7 < 0)) || (decide ((x1.length : Int) ≤ x7))) || (((x16.1.length : Int) : Int) != (x1.length : Int))) [(3, .int .i64 x8), (4, .pointer (some ⟨g9, 0, none⟩)), (5, .pointer (some ⟨g10, 0, none⟩)), (6, .pointer (some ⟨g11, 0, none⟩)), (9, .pointer (some ⟨g15, 0, none⟩)), (11, .slice a17 x16.1.length c18), (12, .slice a19 x16.2.1.length c20), (77, .bool ((((decide (x7 < 0)) || (decide ((x1.length : Int) ≤ x7))) || (((x16.1.length : Int) : Int) != (x1.length : Int))) || (((x16.2.1.length : Int) : Int) != (x16.1.length : Int))))] (fun h48 => ?_) (fun h48 => ?_) ?_
 refine qb (os := _) rfl (qi (k := 71) rfl h48 ?_)
 refine au [7,7,7,7,7,19] ?_
 refine qc (d := 77) (v := .bool ((((decide (x7 < 0)) || (decide ((x1.length : Int) ≤ x7))) || (((x16.1.length : Int) : Int) != (x1.length : Int))) || (((x16.2.1.length : Int) : Int) != (x16.1.length : Int)))) rfl (by rw [h48]; simp only [Bool.true_or]) ?_
 exact az [0,15]
 refine qb (os := _) rfl (qh (k := 71) rfl h48 ?_)
 refine au [1,24,2,1,24,2,25,0,20] ?_
 refine qc (d := 77) (v := .bool ((((decide (x7 < 0)) || (decide ((x1.length : Int) ≤ x7))) || (((x16.1.length : Int) : Int) != (x1.length : Int))) || (((x16.2.1.length : Int) : Int) != (x16.1.length : Int)))) rfl (by rw [h48]; simp only [Bool.false_or]) ?_
 exact az [0,15]
 refine qb (os := _) rfl ?_
 refine av [0,2,10] ?_ ?_
 intro _
 refine au [3,4,1,24,2,13,26,6,24,2,24,9,1] ?_
 refine qk 6 (((x16.1.length : Int) : Int) == (x1.length : Int)) [(90, .bool ((((x16.1.length : Int) : Int) == (x1.length : Int)) && (((x16.2.1.length : Int) : Int) == (x16.1.length : Int))))] (fun h49 => ?_) (fun h49 => ?_) ?_
 refine qb (os := _) rfl (qi (k := 84) rfl h49 ?_)
 refine au [1,24,2,1,24,2,24,9,19] ?_
 refine qc (d := 90) (v := .bool ((((x16.1.length : Int) : Int) == (x1.length : Int)) && (((x16.2.1.length : Int) : Int) == (x16.1.length : Int)))) rfl (by rw [h49]; simp only [Bool.true_and]) ?_
 exact az [0,15]
 refine qb (os := _) rfl (qh (k := 84) rfl h49 ?_)
 refine au [7,7,7,7,7,20] ?_
 refine qc (d := 90) (v := .bool ((((x16.1.length : Int) : Int) == (x1.length : Int)) && (((x16.2.1.length : Int) : Int) == (x16.1.length : Int)))) rfl (by rw [h49]; simp only [Bool.false_and]) ?_
 exact az [0,15]
 refine qb (os := _) rfl ?_
 exact az [5,0,2,9,12,16]
 intro _
 refine au [11,2,3,4,13,13,24,1,5,0,2] ?_
 refine qe (fun ((x54, _) : (Int × Unit)) => ([(3, .int .i64 x8), (4, .pointer (some ⟨g9, 0, none⟩)), (5, .pointer (some ⟨g10, 0, none⟩)), (6, .pointer (some ⟨g11, 0, none⟩)), (9, .pointer (some ⟨g15, 0, none⟩)), (11, .slice a17 x16.1.length c18), (12, .slice a19 x16.2.1.length c20), (14, .int .i64 x54)], [⟨g15, 31, [.int .i64 x12.1, .int .i64 x12.2.1, .int .i64 x12.2.2.1, .int .i64 x12.2.2.2.1, .int .i64 x12.2.2.2.2.1, .slice a13 x12.2.2.2.2.2.1.length c14]⟩, ⟨g11, 3, [.int .i64 x7]⟩, ⟨g10, 26, [.int .i64 x4, .int .i64 x5, .int .i64 x6]⟩, ⟨g9, 24, [.slice a2 x1.length c3.1]⟩], [Ro (eI .i64) 3 1 (.slice a17 x16.1.length c18) x16.1, Ro (eI .i64) 3 1 (.slice a19 x16.2.1.length c20) x16.2.1, Ro (eI .u8) 5 1 (.slice a13 x12.2.2.2.2.2.1.length c14) x12.2.2.2.2.2.1], [SlN eN37 iN37 1 (.slice a2 x1.length c3.1) x1 c3.2], y8 F x1 x4 x5 x6 x7 x8 x12 x16 x54)) ?_ ?_
 refine av [3,4,25,3,18,1,24,2,24,4,0,2,10] ?_ ?_
 intro _
 refine au [4,1,25,3,18,30,9] ?_
 intro x160 e160 g161 h162
 refine qak (j := 1) (y := x160) (qv .i64) rfl rfl tf3 rfl h162 (qP e160).2.2 (fun _ => rfl) rfl rfl ?_
 refine au [5,0] ?_
 exact qa (x160, ())
 intro _
 refine au [11] ?_
 exact qa (x12.2.2.2.2.1, ())
 rintro ⟨x54, _⟩
 try dsimp only
 refine au [3,4,28,10,5,0,2,3] ?_
 refine qe (fun ((x84, _) : (Bool × Unit)) => ([(3, .int .i64 x8), (5, .pointer (some ⟨g10, 0, none⟩)), (6, .pointer (some ⟨g11, 0, none⟩)), (9, .pointer (some ⟨g15, 0, none⟩)), (11, .slice a17 x16.1.length c18), (12, .slice a19 x16.2.1.length c20), (14, .int .i64 x54), (15, .func (.func 23) #[] #[.pointer (some ⟨g10, 0, none⟩), .pointer (some ⟨g9, 0, none⟩), .pointer (some ⟨g11, 0, none⟩)]), (120, .bool x84)], [⟨g15, 31, [.int .i64 x12.1, .int .i64 x12.2.1, .int .i64 x12.2.2.1, .int .i64 x12.2.2.2.1, .int .i64 x12.2.2.2.2.1, .slice a13 x12.2.2.2.2.2.1.length c14]⟩, ⟨g11, 3, [.int .i64 x7]⟩, ⟨g10, 26, [.int .i64 x4, .int .i64 x5, .int .i64 x6]⟩, ⟨g9, 24, [.slice a2 x1.length c3.1]⟩], [Ro (eI .i64) 3 1 (.slice a17 x16.1.length c18) x16.1, Ro (eI .i64) 3 1 (.slice a19 x16.2.1.length c20) x16.2.1, Ro (eI .u8) 5 1 (.slice a13 x12.2.2.2.2.2.1.length c14) x12.2.2.2.2.2.1], [SlN eN37 iN37 1 (.slice a2 x1.length c3.1) x1 c3.2], jD F x1 x4 x5 x6 x7 x8 x12 x16 x54 x84)) ?_ ?_
 refine au [28,11] ?_
 intro x151 e151 g152 h153
 replace h153 : a17 = some ⟨g152, 0, none⟩ := h153
 have h154 := qeM (k := x16.1.length) (c := c18) h153
 refine av [26,10] ?_ ?_
 intro h155
 refine qs mixed [] [⟨g15, 31, [.int .i64 x12.1, .int .i64 x12.2.1, .int .i64 x12.2.2.1, .int .i64 x12.2.2.2.1, .int .i64 x12.2.2.2.2.1, .slice a13 x12.2.2.2.2.2.1.length c14]⟩, ⟨g11, 3, [.int .i64 x7]⟩, ⟨g10, 26, [.int .i64 x4, .int .i64 x5, .int .i64 x6]⟩, ⟨g9, 24, [.slice a2 x1.length c3.1]⟩] [SlN eN37 iN37 1 (.slice a2 x1.length c3.1) x1 c3.2, qI g152 (x7.toNat * 1) ((eI .i64) x151)] (.cons 0 rfl (.cons 0 rfl (.cons 0 rfl (.cons 0 rfl .nil)))) (qO 0 rfl (qkW 0 rfl (qes (qv .i64) e151 h153) qr)) 16 rfl ?_
 refine au [6,0,26,7,1] ?_
 refine qf (d := 105) (v := .slice (some ⟨g152, 0, none⟩) x16.1.length c18) rfl (by rw [h153] <;> rfl) (qn 2 (.pointer (some ⟨g152, x7.toNat * 1, none⟩)) rfl rfl rfl (qdI Tryz.underlying37 tf3 rfl rfl (qP e151).1 (v8 e151)) (qf (d := 105) (v := .slice a17 x16.1.length c18) rfl (by rw [h153] <;> rfl) (q8 3 (.int .i64 x151) [] rfl rfl rfl (kE (j := 1) rfl tf3 rfl rfl (fun _ => rfl) rfl) ?_)))
 refine au [6,4,6,5] ?_
 refine qf (d := 110) (v := .bool true) rfl (by rw [h155] <;> rfl) ?_
 refine au [8,6,8,7,8,8,8,9,8,10,8,11,8,12,8,13,8,14,6,15,24,6] ?_
 exact qy (qa (true, ())) (by intro c h; cases h)
 intro h155
 refine au [28,11] ?_
 intro x156 e156 g157 h158
 replace h158 : a17 = some ⟨g157, 0, none⟩ := h158
 have h159 := qeM (k := x16.1.length) (c := c18) h158
 refine qs mixed [] [⟨g15, 31, [.int .i64 x12.1, .int .i64 x12.2.1, .int .i64 x12.2.2.1, .int .i64 x12.2.2.2.1, .int .i64 x12.2.2.2.2.1, .slice a13 x12.2.2.2.2.2.1.length c14]⟩, ⟨g11, 3, [.int .i64 x7]⟩, ⟨g10, 26, [.int .i64 x4, .int .i64 x5, .int .i64 x6]⟩, ⟨g9, 24, [.slice a2 x1.length c3.1]⟩] [SlN eN37 iN37 1 (.slice a2 x1.length c3.1) x1 c3.2, qI g152 (x7.toNat * 1) ((eI .i64) x151), qI g157 (x7.toNat * 1) ((eI .i64) x156)] (.cons 0 rfl (.cons 0 rfl (.cons 0 rfl (.cons 0 rfl .nil)))) (qO 0 rfl (qkW 0 rfl (qes (qv .i64) e151 h153) (qkW 0 rfl (qes (qv .i64) e156 h158) qr))) 16 rfl ?_
 refine au [6,0,26,7,1] ?_
 refine qf (d := 105) (v := .slice (some ⟨g152, 0, none⟩) x16.1.length c18) rfl (by rw [h153] <;> rfl) (qn 2 (.pointer (some ⟨g152, x7.toNat * 1, none⟩)) rfl rfl rfl (qdI Tryz.underlying37 tf3 rfl rfl (qP e151).1 (v8 e151)) (qf (d := 105) (v := .slice a17 x16.1.length c18) rfl (by rw [h153] <;> rfl) (q8 3 (.int .i64 x151) [] rfl rfl rfl (kE (j := 1) rfl tf3 rfl rfl (fun _ => rfl) rfl) ?_)))
 refine au [6,4,6,5] ?_
 refine qf (d := 110) (v := .bool false) rfl (by rw [h155] <;> rfl) ?_
 refine au [6,6,26,7,7] ?_
 refine qf (d := 111) (v := .slice (some ⟨g157, 0, none⟩) x16.1.length c18) rfl (by rw [h158] <;> rfl) (qn 8 (.pointer (some ⟨g157, x7.toNat * 1, none⟩)) rfl rfl rfl (qdI Tryz.underlying37 tf3 rfl rfl (qP e156).1 (v8 e156)) (qf (d := 111) (v := .slice a17 x16.1.length c18) rfl (by rw [h158] <;> rfl) (q8 9 (.int .i64 x156) [] rfl rfl rfl (kE (j := 2) rfl tf3 rfl rfl (fun _ => rfl) rfl) ?_)))
 refine au [23,10,28,15,11,26,7,12] ?_
 refine qn 13 (.int .i64 (imin x4 x7)) rfl rfl rfl (qmp rfl rfl) ?_
 refine au [6,14,6,15,24,6] ?_
 exact qy (qa ((decide ((imin x4 x7) < x156)), ())) (by intro c h; cases h)
 rintro ⟨x84, _⟩
 try dsimp only
 refine av [10] ?_ ?_
 intro _
 exact az [3,4,5,0,2,9,12,16]
 intro _
 refine au [11,2,3,4,1,1,25,3,29,2] ?_
 intro x85 e85 g86 h87
 refine qak (j := 0) (y := x85) (qv .i64) rfl rfl tf3 rfl h87 (qP e85).2.2 (fun _ => rfl) rfl rfl (qe8 ent23 rfl rfl rfl rfl (fun x88 e88 => qch F x85 g10 x4 x5 x6 g9 x1 a2 c3 g11 x7 x88 e88) (.cons 2 rfl (.cons 2 rfl (.cons 1 rfl .nil))) .nil (.consF 0 rfl .nil) (fun x88 e88 => ?_))
 rintro ⟨a89, c90⟩
 refine au [1,14,14,24,7] ?_
 intro g91
 refine au [22,5,0,2,3,4,13,30,2,1,13,24,1,24,15,1,34,5] ?_
 rintro x92 e92 ⟨a93, c94⟩
 refine au [1,14,14,24,7] ?_
 intro g95
 refine au [22,5,0,2,3,3,4,1,25,0,1] ?_
 refine qE 5 (fun ((x111, _) : (Bool × Unit)) => ([(3, .int .i64 x8), (5, .pointer (some ⟨g10, 0, none⟩)), (6, .pointer (some ⟨g11, 0, none⟩)), (11, .slice a17 x16.1.length c18), (12, .slice a19 x16.2.1.length c20), (14, .int .i64 x54), (15, .func (.func 23) #[] #[.pointer (some ⟨g10, 0, none⟩), .pointer (some ⟨g9, 0, none⟩), .pointer (some ⟨g11, 0, none⟩)]), (17, .int .i64 x88.2.2), (148, .bool x111)], [⟨g10, 26, [.int .i64 x4, .int .i64 x5, .int .i64 x6]⟩, ⟨g9, 24, [.slice a2 x1.length c3.1]⟩, ⟨g11, 3, [.int .i64 x7]⟩], [Ro (eI .i64) 3 1 (.slice a17 x16.1.length c18) x16.1, Ro (eI .i64) 3 1 (.slice a19 x16.2.1.length c20) x16.2.1], [SlN eN37 iN37 1 (.slice a2 x1.length c3.1) x1 c3.2], jc F x1 x4 x5 x6 x7 x8 x16 x54 x88 x111)) ?_ ?_
 refine qb (os := _) rfl ?_
 refine av [25,7] ?_ ?_
 intro h109
 refine qi (k := 143) rfl h109 ?_
 refine au [7,7,7,7,19,0] ?_
 exact qa (true, ())
 intro h109
 refine qh (k := 143) rfl h109 ?_
 refine au [24,11,25,2,28,8] ?_
 intro x149 e149 _
 refine au [25,5,20,0] ?_
 exact qa ((!x149), ())
 rintro ⟨x111, _⟩
 try dsimp only
 refine qb (os := _) rfl ?_
 refine au [1] ?_
 refine qE 9 (fun ((x116, _) : (Bool × Unit)) => ([(3, .int .i64 x8), (5, .pointer (some ⟨g10, 0, none⟩)), (6, .pointer (some ⟨g11, 0, none⟩)), (11, .slice a17 x16.1.length c18), (15, .func (.func 23) #[] #[.pointer (some ⟨g10, 0, none⟩), .pointer (some ⟨g9, 0, none⟩), .pointer (some ⟨g11, 0, none⟩)]), (17, .int .i64 x88.2.2), (158, .bool x116)], [⟨g10, 26, [.int .i64 x4, .int .i64 x5, .int .i64 x6]⟩, ⟨g9, 24, [.slice a2 x1.length c3.1]⟩, ⟨g11, 3, [.int .i64 x7]⟩], [Ro (eI .i64) 3 1 (.slice a17 x16.1.length c18) x16.1], [SlN eN37 iN37 1 (.slice a2 x1.length c3.1) x1 c3.2], jd F x1 x4 x5 x6 x7 x8 x16 x88 x116)) ?_ ?_
 refine qb (os := _) rfl ?_
 refine av [25,7] ?_ ?_
 intro h112
 refine qi (k := 149) rfl h112 ?_
 refine au [7,7,7,7,7,7,7,7,19,0] ?_
 exact qa (true, ())
 intro h112
 refine qh (k := 149) rfl h112 ?_
 refine au [1,1,26,11,30,9] ?_
 intro x146 e146 g147 h148
 refine qak (j := 1) (y := x146) (qv .i64) rfl rfl tf3 rfl h148 (qP e146).2.2 (fun _ => rfl) rfl rfl ?_
 refine au [24,15,1,25,0,20,0] ?_
 exact qa ((((isub .i64 x54 x146) : Int) != x88.2.2), ())
 rintro ⟨x116, _⟩
 try dsimp only
 refine qb (os := _) rfl ?_
 refine av [0,2,10] ?_ ?_
 intro _
 exact az [3,4,5,0,2,9,12,16]
 intro _
 refine au [11,2,3,3,4,1,24,4,1] ?_
 refine qE 7 (fun ((x121, _) : (Bool × Unit)) => ([(3, .int .i64 x8), (6, .pointer (some ⟨g11, 0, none⟩)), (11, .slice a17 x16.1.length c18), (15, .func (.func 23) #[] #[.pointer (some ⟨g10, 0, none⟩), .pointer (some ⟨g9, 0, none⟩), .pointer (some ⟨g11, 0, none⟩)]), (17, .int .i64 x88.2.2), (168, .bool x121)], [⟨g10, 26, [.int .i64 x4, .int .i64 x5, .int .i64 x6]⟩, ⟨g9, 24, [.slice a2 x1.length c3.1]⟩, ⟨g11, 3, [.int .i64 x7]⟩], [Ro (eI .i64) 3 1 (.slice a17 x16.1.length c18) x16.1], [SlN eN37 iN37 1 (.slice a2 x1.length c3.1) x1 c3.2], je F x1 x4 x5 x6 x7 x8 x16 x88 x121)) ?_ ?_
 refine qb (os := _) rfl ?_
 refine av [25,7] ?_ ?_
 intro h120
 refine qi (k := 161) rfl h120 ?_
 refine au [7,7,7,7,7,7,19,0] ?_
 exact qa (true, ())
 intro h120
 refine qh (k := 161) rfl h120 ?_
 refine au [1,13,24,1,26,11,27,8,24,10,20,0] ?_
 exact qa ((decide ((imin x4 x7) < x8)), ())
 rintro ⟨x121, _⟩
 try dsimp only
 refine qb (os := _) rfl ?_
 refine av [0,2,10] ?_ ?_
 intro _
 exact az [3,4,5,0,2,9,12,16]
 intro _
 refine au [11,2,3,4,1,1] ?_
 refine qe8 ent23 rfl rfl rfl rfl (fun x122 e122 => qch F x8 g10 x4 x5 x6 g9 x1 a2 c3 g11 x7 x122 e122) (.cons 0 rfl (.cons 0 rfl (.cons 0 rfl .nil))) .nil (.consF 0 rfl .nil) (fun x122 e122 => ?_)
 rintro ⟨a123, c124⟩
 refine au [1,14,14,24,7] ?_
 intro g125
 refine au [22,5,0,2,3,4,1,1,24,4,1] ?_
 refine qE 12 (fun ((x135, _) : (Bool × Unit)) => ([(190, .bool x135)], [], [], [], jf F x135)) ?_ ?_
 refine qb (os := _) rfl ?_
 refine av [25,7] ?_ ?_
 intro h126
 refine qi (k := 178) rfl h126 ?_
 refine au [7,7,7,7,7,7,7,7,7,7,7,19,0] ?_
 exact qa (true, ())
 intro h126
 refine qh (k := 178) rfl h126 ?_
 refine au [1,1,24,9,1] ?_
 refine qE 7 (fun ((x140, _) : (Bool × Unit)) => ([(178, .bool false), (189, .bool x140)], [], [], [], jg F x140)) ?_ ?_
 refine qb (os := _) rfl ?_
 refine av [25,7] ?_ ?_
 intro h136
 refine qi (k := 182) rfl h136 ?_
 refine au [1,26,6,30,9] ?_
 intro x141 e141 g142 h143
 refine qak (j := 1) (y := x141) (qv .i64) rfl rfl tf3 rfl h143 (qP e141).2.2 (fun _ => rfl) rfl rfl ?_
 refine au [1,27,0,19,0] ?_
 exact qa ((decide (x141 ≤ x8)), ())
 intro h136
 refine qh (k := 182) rfl h136 ?_
 refine au [7,7,7,7,7,7,20,0] ?_
 exact qa (false, ())
 rintro ⟨x140, _⟩
 try dsimp only
 refine qb (os := _) rfl ?_
 refine au [20,0] ?_
 exact qa (x140, ())
 rintro ⟨x135, _⟩
 try dsimp only
 refine qb (os := _) rfl ?_
 exact az [5,0,2,9,16]
end Go.Proofs.YtpnfijegoepiaaaGreat
