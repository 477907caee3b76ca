/- Each Go function of this seat computes what its model says, part 4. -/
import Derived.Test.YtlioijpkhffbnaaGreatWalks3
namespace Go.Proofs.YtlioijpkhffbnaaGreat
open Go SX
set_option maxHeartbeats 4000000 in
theorem qhJ {F : Nat} {x1 : List Int} {a2 : Option Addr} {c3 : Nat} {x4 : Int} {x5 : Int} {x6 : Int} {x7 : Int} {r : (List (List Int) × Int × Int)} (hm : kF F x1 x4 x5 x6 x7 = some r) :
    Pure Tryz.prog 11 [.slice a2 x1.length c3, .agg #[.int .i64 x4, .int .i64 x5, .int .i64 x6, .int .i64 x7]] [Sl (eI .u8) 1 (.slice a2 x1.length c3) x1] (Option Addr × (Nat × List (Option Addr × Nat))) (fun g => .tuple #[.agg #[.slice g.1 r.1.length g.2.1], .int .i64 r.2.1, .int .i64 r.2.2]) (fun g => [RoN eN59 rN59 59 1 (.slice g.1 r.1.length g.2.1) r.1 g.2.2 []]) (fun _ => []) := by
 refine qh Tryz.func11 rfl Tryz.ntmps11 rfl hm (fun w => ?_)
 refine au [24,12,2,4,24,5] ?_
 intro g8
 refine au [24,6] ?_
 intro g9
 refine av [5,5,0,1,2,2,4,3,23,13,25,11,24,13,0,1,10] ?_ ?_
 intro _
 refine au [2,4] ?_
 refine qj (cells := [.slice none 0 0]) rfl st24 rfl (by kernel_rfl) rfl ?_
 refine au [24,0,5,5,0,1,8,11,25,13] ?_
 exact qz (none, (0, ([] : List (Option Addr × Nat)))) (resL (rs := [.cell 4 24, .tmp 5, .tmp 6]) rfl (.cell (i := 0) rfl tf24 rfl rfl (by simp) rfl (.tmp rfl (.tmp rfl ResOk.nil))) rfl) (fun h => by subst h; exact (.cons 0 rfl .nil))
 intro _
 refine au [12,1,2,4,3,34,1] ?_
 rintro x11 e11 ⟨a12, c13⟩
 refine au [3,14,14,14,24,6] ?_
 intro g14
 refine au [24,0,5,5,0,1] ?_
 refine qe (fun ((x25, _) : (Int × Unit)) => ([(4, .pointer (some ⟨g9, 0, none⟩)), (7, .pointer (some ⟨g14, 0, none⟩)), (8, .int .i64 x11.2.1), (9, .int .i64 x25)], [⟨g14, 24, [.slice a12 x11.1.length c13.1]⟩, ⟨g9, 24, [.slice none 0 0]⟩], [RoN eN59 rN59 59 1 (.slice a12 x11.1.length c13.1) x11.1 c13.2 []], [], jl F x11 x25)) ?_ ?_
 refine qe (fun ((x32, _) : (Bool × Unit)) => ([(4, .pointer (some ⟨g9, 0, none⟩)), (7, .pointer (some ⟨g14, 0, none⟩)), (8, .int .i64 x11.2.1), (9, .int .i64 x11.2.2), (44, .bool x32)], [⟨g14, 24, [.slice a12 x11.1.length c13.1]⟩, ⟨g9, 24, [.slice none 0 0]⟩], [RoN eN59 rN59 59 1 (.slice a12 x11.1.length c13.1) x11.1 c13.2 []], [], yc F x11 x32)) ?_ ?_
 refine av [26,14] ?_ ?_
 intro h34
 refine av [26,14] ?_ ?_
 intro h35
 refine qn mixed [] [⟨g14, 24, [.slice a12 x11.1.length c13.1]⟩, ⟨g9, 24, [.slice none 0 0]⟩, ⟨g8, 29, [.int .i64 x4, .int .i64 x5, .int .i64 x6, .int .i64 x7]⟩] [Sl (eI .u8) 1 (.slice a2 x1.length c3) x1] (.cons 0 rfl (.cons 0 rfl (.cons 0 rfl .nil))) (qF 0 rfl qm) 23 rfl ?_
 refine au [6,0,6,1,6,2] ?_
 refine qf (d := 24) (v := .bool true) rfl (by rw [h34] <;> rfl) ?_
 refine au [18,3,25,7,4,26,8,5,18,6,27,13,7,6,8,6,9] ?_
 refine qf (d := 31) (v := .bool true) rfl (by rw [h35] <;> rfl) ?_
 refine au [7,10,7,11,7,12,7,13,7,14,6,15,6,16,7,17,7,18,7,19,7,20,6,21,6,22,24,1] ?_
 exact qs (qa (true, ())) (by intro c h; cases h)
 intro h35
 refine qn mixed [] [⟨g14, 24, [.slice a12 x11.1.length c13.1]⟩, ⟨g9, 24, [.slice none 0 0]⟩, ⟨g8, 29, [.int .i64 x4, .int .i64 x5, .int .i64 x6, .int .i64 x7]⟩] [Sl (eI .u8) 1 (.slice a2 x1.length c3) x1] (.cons 0 rfl (.cons 0 rfl (.cons 0 rfl .nil))) (qF 0 rfl qm) 23 rfl ?_
 refine au [6,0,6,1,6,2] ?_
 refine qf (d := 24) (v := .bool true) rfl (by rw [h34] <;> rfl) ?_
 refine au [18,3,25,7,4,26,8,5,18,6,27,13,7,6,8,6,9] ?_
 refine qf (d := 31) (v := .bool false) rfl (by rw [h35] <;> rfl) (zA 10 (.agg #[.slice a12 x11.1.length c13.1]) rfl rfl rfl (qX (i := 0) rfl tf24 rfl rfl (by simp) rfl) ?_)
 refine au [18,12,27,13,13,20,11,34,2] ?_
 intro x36 e36 _
 refine au [0] ?_
 refine zN (.cons 0 rfl (.cons 0 rfl (.cons 0 rfl .nil))) (qF 0 rfl qm) ?_
 refine av [6,14,6,15,6,16,26,2] ?_ ?_
 intro h37
 refine qf (d := 38) (v := .bool true) rfl (by rw [h37] <;> rfl) ?_
 refine au [7,17,7,18,7,19,7,20,6,21,6,22,24,1] ?_
 exact qs (qa (true, ())) (by intro c h; cases h)
 intro h37
 refine qf (d := 38) (v := .bool false) rfl (by rw [h37] <;> rfl) ?_
 refine au [6,17,18,18,27,13,19,6,20,6,21,6,22,24,1] ?_
 exact qs (qa ((decide (x7 < x11.2.1)), ())) (by intro c h; cases h)
 intro h34
 refine qn mixed [] [⟨g14, 24, [.slice a12 x11.1.length c13.1]⟩, ⟨g9, 24, [.slice none 0 0]⟩, ⟨g8, 29, [.int .i64 x4, .int .i64 x5, .int .i64 x6, .int .i64 x7]⟩] [Sl (eI .u8) 1 (.slice a2 x1.length c3) x1] (.cons 0 rfl (.cons 0 rfl (.cons 0 rfl .nil))) (qF 0 rfl qm) 23 rfl ?_
 refine au [6,0,6,1,6,2] ?_
 refine qf (d := 24) (v := .bool false) rfl (by rw [h34] <;> rfl) ?_
 refine au [7,3,7,4,7,5,7,6,7,7,7,8,7,9,7,10,7,11,7,12,7,13,7,14,7,15,7,16,7,17,7,18,7,19,7,20,7,21,6,22,24,1] ?_
 exact qs (qa (false, ())) (by intro c h; cases h)
 rintro ⟨x32, _⟩
 try dsimp only
 refine av [10] ?_ ?_
 intro _
 refine au [4,5,0] ?_
 exact qa ((8 : Int), ())
 intro _
 refine au [12] ?_
 exact qa (x11.2.2, ())
 rintro ⟨x25, _⟩
 try dsimp only
 refine av [2,2,4,3,25,6,0,1,10] ?_ ?_
 intro _
 refine au [2,4] ?_
 refine qj (cells := [.slice none 0 0]) rfl st24 rfl (by kernel_rfl) rfl ?_
 refine au [3,25,5,5,5,0,1,8,11,25,13] ?_
 exact qz (none, (0, ([] : List (Option Addr × Nat)))) (resL (rs := [.cell 4 24, .tmp 5, .tmp 6]) rfl (.cell (i := 1) rfl tf24 rfl rfl (by simp) rfl (.tmp rfl (.tmp rfl ResOk.nil))) rfl) (fun h => by subst h; exact (.cons 0 rfl .nil))
 intro _
 refine au [12,1,2,4,24,15,3,25,5,5,5,0,1,8] ?_
 exact qz (a12, c13) (resL (rs := [.cell 4 24, .tmp 5, .tmp 6]) rfl (.cell (i := 1) rfl tf24 rfl rfl (by simp) rfl (.tmp rfl (.tmp rfl ResOk.nil))) rfl) (fun h => by subst h; exact (.cons 0 rfl .nil))
set_option maxHeartbeats 4000000 in
theorem qfo {F : Nat} {x1 : List Int} {a2 : Option Addr} {c3 : Nat} {x4 : List Int} {a5 : Option Addr} {c6 : Nat} {r : Bool} (hm : jD F x1 x4 = some r) :
    Pure Tryz.prog 16 [.slice a2 x1.length c3, .slice a5 x4.length c6] [Sl (eI .u8) 1 (.slice a2 x1.length c3) x1, Sl (eI .u8) 1 (.slice a5 x4.length c6) x4] Unit (fun _ => .bool r) (fun _ => []) (fun _ => []) := by
 refine qh Tryz.func16 rfl Tryz.ntmps16 rfl hm (fun w => ?_)
 refine av [24,12,2,4,5,0,1,2,2,4,3,23,3,23,25,6,0,1,10] ?_ ?_
 intro _
 exact az [2,4,5,0,1,8,11,19]
 intro _
 refine au [12,1] ?_
 refine qe (fun ((_, _) : (Unit × Unit)) => ([], [], [], [], qbM F)) ?_ ?_
 refine au [2,4,5,0,1,15] ?_
 refine qk (fun ((x154, _) : (Int × Unit)) => ([(0, .slice a2 x1.length c3), (1, .slice a5 x4.length c6), (5, .int .i64 x154)], [], [], [Sl (eI .u8) 1 (.slice a2 x1.length c3) x1, Sl (eI .u8) 1 (.slice a5 x4.length c6) x4])) (fun k (s : (Int × Unit)) => kZ F x1 x4 k s.1) (0, ()) F ?_
 intro k191
 rintro ⟨x154, _⟩
 try dsimp only
 refine qA (m' := jv F x1 x4 (kZ F x1 x4 k191) x154) rfl ?_
 refine av [2,2,4,3,3,23,24,2,0,1,10] ?_ ?_
 intro _
 refine au [12,1,2,15,2,29,15] ?_
 intro x218 e218 b219 o220 h221
 replace h221 : a2 = some ⟨b219, o220, none⟩ := h221
 refine au [33,13] ?_
 intro x222 e222 b223 o224 h225
 replace h225 : a5 = some ⟨b223, o224, none⟩ := h225
 refine qn mixed [] [] [qR b223 (o224 + x154.toNat * 1) ((eI .u8) x222), qR b219 (o220 + x154.toNat * 1) ((eI .u8) x218), Sl (eI .u8) 1 (.slice a2 x1.length c3) x1, Sl (eI .u8) 1 (.slice a5 x4.length c6) x4] .nil (qF 0 rfl (qF 1 rfl (qF 2 rfl (qF 3 rfl qm)))) 9 rfl ?_
 refine au [6,0,6,1] ?_
 refine qf (d := 17) (v := .slice (some ⟨b219, o220, none⟩) x1.length c3) rfl (by rw [h221] <;> rfl) (qu 2 (.pointer (some ⟨b219, (o220 + x154.toNat * 1), none⟩)) rfl rfl rfl (qaW Tryz.underlying27 tf5 rfl rfl (zG e218).1 (qav e218)) (qf (d := 17) (v := .slice a2 x1.length c3) rfl (by rw [h221] <;> rfl) (zr 3 (.int .u8 x218) [] rfl rfl rfl (vF (j := 1) rfl tf5 rfl rfl (fun _ => rfl) rfl) ?_)))
 refine au [6,4,6,5] ?_
 refine qf (d := 21) (v := .slice (some ⟨b223, o224, none⟩) x4.length c6) rfl (by rw [h225] <;> rfl) (qu 6 (.pointer (some ⟨b223, (o224 + x154.toNat * 1), none⟩)) rfl rfl rfl (qaW Tryz.underlying27 tf5 rfl rfl (zG e222).1 (qav e222)) (qf (d := 21) (v := .slice a5 x4.length c6) rfl (by rw [h225] <;> rfl) (zr 7 (.int .u8 x222) [] rfl rfl rfl (vF (j := 0) rfl tf5 rfl rfl (fun _ => rfl) rfl) ?_)))
 refine au [6,8,24,1] ?_
 refine qs ?_ (by intro c h; cases h)
 refine av [1,10] ?_ ?_
 intro _
 exact az [2,4,5,0,1,8,22,11,11,22,11,19]
 intro _
 refine au [12,24,4,1,4,3,16,5,0] ?_
 exact qi (iadd .i64 x154 1, ())
 intro _
 exact az [24,10,17,17,24,11,25,15]
 rintro ⟨_, _⟩
 try dsimp only
 exact az [2,4,5,0,1,8,19]
set_option maxHeartbeats 4000000 in
theorem qgs {F : Nat} {x1 : List Int} {a2 : Option Addr} {c3 : Nat} {x4 : List Int} {a5 : Option Addr} {c6 : Nat} {r : Bool} (hm : qaX F x1 x4 = some r) :
    Pure Tryz.prog 44 [.slice a2 x1.length c3, .slice a5 x4.length c6] [Sl (eI .i64) 1 (.slice a2 x1.length c3) x1, Sl (eI .i64) 1 (.slice a5 x4.length c6) x4] Unit (fun _ => .bool r) (fun _ => []) (fun _ => []) := by
 refine qh Tryz.func44 rfl Tryz.ntmps44 rfl hm (fun w => ?_)
 refine av [24,12,2,4,5,0,1,2,2,4,3,23,3,23,25,6,0,1,10] ?_ ?_
 intro _
 exact az [2,4,5,0,1,8,11,19]
 intro _
 refine au [12,1] ?_
 refine qe (fun ((_, _) : (Unit × Unit)) => ([], [], [], [], qcg F)) ?_ ?_
 refine au [2,4,5,0,1,15] ?_
 refine qk (fun ((x154, _) : (Int × Unit)) => ([(0, .slice a2 x1.length c3), (1, .slice a5 x4.length c6), (5, .int .i64 x154)], [], [], [Sl (eI .i64) 1 (.slice a2 x1.length c3) x1, Sl (eI .i64) 1 (.slice a5 x4.length c6) x4])) (fun k (s : (Int × Unit)) => yo F x1 x4 k s.1) (0, ()) F ?_
 intro k191
 rintro ⟨x154, _⟩
 try dsimp only
 refine qA (m' := jJ F x1 x4 (yo F x1 x4 k191) x154) rfl ?_
 refine av [2,2,4,3,3,23,24,2,0,1,10] ?_ ?_
 intro _
 refine au [12,1,2,15,2,31,14] ?_
 intro x218 e218 b219 o220 h221
 replace h221 : a2 = some ⟨b219, o220, none⟩ := h221
 refine qbV (j := 2) (qt .i64) (by decide) rfl ?_
 intro x222 e222 b223 o224 h225
 replace h225 : a5 = some ⟨b223, o224, none⟩ := h225
 refine qn mixed [] [] [qR b223 (o224 + x154.toNat * 1) ((eI .i64) x222), qR b219 (o220 + x154.toNat * 1) ((eI .i64) x218), Sl (eI .i64) 1 (.slice a2 x1.length c3) x1, Sl (eI .i64) 1 (.slice a5 x4.length c6) x4] .nil (qF 0 rfl (qF 1 rfl (qF 2 rfl (qF 3 rfl qm)))) 9 rfl ?_
 refine au [6,0,6,1] ?_
 refine qf (d := 17) (v := .slice (some ⟨b219, o220, none⟩) x1.length c3) rfl (by rw [h221] <;> rfl) (qu 2 (.pointer (some ⟨b219, (o220 + x154.toNat * 1), none⟩)) rfl rfl rfl (qaW Tryz.underlying59 tf3 rfl rfl (zG e218).1 (qav e218)) (qf (d := 17) (v := .slice a2 x1.length c3) rfl (by rw [h221] <;> rfl) (zr 3 (.int .i64 x218) [] rfl rfl rfl (vF (j := 1) rfl tf3 rfl rfl (fun _ => rfl) rfl) ?_)))
 refine au [6,4,6,5] ?_
 refine qf (d := 21) (v := .slice (some ⟨b223, o224, none⟩) x4.length c6) rfl (by rw [h225] <;> rfl) (qu 6 (.pointer (some ⟨b223, (o224 + x154.toNat * 1), none⟩)) rfl rfl rfl (qaW Tryz.underlying59 tf3 rfl rfl (zG e222).1 (qav e222)) (qf (d := 21) (v := .slice a5 x4.length c6) rfl (by rw [h225] <;> rfl) (zr 7 (.int .i64 x222) [] rfl rfl rfl (vF (j := 0) rfl tf3 rfl rfl (fun _ => rfl) rfl) ?_)))
 refine au [6,8,24,1] ?_
 refine qs ?_ (by intro c h; cases h)
 refine av [1,10] ?_ ?_
 intro _
 exact az [2,4,5,0,1,8,22,11,11,22,11,19]
 intro _
 refine au [12,24,4,1,4,3,16,5,0] ?_
 exact qi (iadd .i64 x154 1, ())
 intro _
 exact az [24,10,17,17,24,11,25,15]
 rintro ⟨_, _⟩
 try dsimp only
 exact az [2,4,5,0,1,8,19]
set_option maxHeartbeats 4000000 in
theorem qfq {F : Nat} {x1 : List (List Int)} {a2 : Option Addr} {c3 : Nat} {s3 : List (Option Addr × Nat)} {x4 : List (List Int)} {a5 : Option Addr} {c6 : Nat} {s6 : List (Option Addr × Nat)} {r : Bool} (hm : jE F x1 x4 = some r) :
    Pure Tryz.prog 32 [.slice a2 x1.length c3, .slice a5 x4.length c6] [SlN eN59 iN59 1 (.slice a2 x1.length c3) x1 s3, SlN eN59 iN59 1 (.slice a5 x4.length c6) x4 s6] Unit (fun _ => .bool r) (fun _ => []) (fun _ => []) := by
 refine qh Tryz.func32 rfl Tryz.ntmps32 rfl hm (fun w => ?_)
 refine av [24,12,2,4,5,0,1,2,2,4,3,23,3,23,25,6,0,1,10] ?_ ?_
 intro _
 exact az [2,4,5,0,1,8,11,19]
 intro _
 refine au [12,1] ?_
 refine qe (fun ((_, _) : (Unit × Unit)) => ([], [], [], [], qbN F)) ?_ ?_
 refine au [2,4,5,0,1,15] ?_
 refine qk (fun ((x202, _) : (Int × Unit)) => ([(0, .slice a2 x1.length c3), (1, .slice a5 x4.length c6), (5, .int .i64 x202)], [], [], [SlN eN59 iN59 1 (.slice a2 x1.length c3) x1 s3, SlN eN59 iN59 1 (.slice a5 x4.length c6) x4 s6])) (fun k (s : (Int × Unit)) => k6 F x1 x4 k s.1) (0, ()) F ?_
 intro k251
 rintro ⟨x202, _⟩
 try dsimp only
 refine qA (m' := jw F x1 x4 (k6 F x1 x4 k251) x202) rfl ?_
 refine av [2,2,4,3,3,23,24,2,0,1,10] ?_ ?_
 intro _
 refine au [12,1,2,15,2] ?_
 refine qiG (j := 0) yR (by decide) rfl ?_
 intro x287 e287 g291 b288 o289 h290
 replace h290 : a2 = some ⟨b288, o289, none⟩ := h290
 refine qiG (j := 3) yR (by decide) rfl ?_
 intro x292 e292 g296 b293 o294 h295
 replace h295 : a5 = some ⟨b293, o294, none⟩ := h295
 refine qn mixed [] [] [qR b293 (o294 + x202.toNat * 1) (eN59 (x292, g296)), Sl (eI .i64) 1 (.slice g296.1 x292.length g296.2) x292, qR b288 (o289 + x202.toNat * 1) (eN59 (x287, g291)), Sl (eI .i64) 1 (.slice g291.1 x287.length g291.2) x287, SlN eN59 iN59 1 (.slice a2 x1.length c3) x1 s3, SlN eN59 iN59 1 (.slice a5 x4.length c6) x4 s6] .nil (qF 0 rfl (qF 1 rfl (qF 2 rfl (qF 3 rfl (qF 4 rfl (qF 5 rfl qm)))))) 10 rfl ?_
 refine au [6,0,6,1] ?_
 refine qf (d := 17) (v := .slice (some ⟨b288, o289, none⟩) x1.length c3) rfl (by rw [h290] <;> rfl) (qu 2 (.pointer (some ⟨b288, (o289 + x202.toNat * 1), none⟩)) rfl rfl rfl (qaW Tryz.underlying22 tf59 rfl rfl (zG e287).1 (qav e287)) (qf (d := 17) (v := .slice a2 x1.length c3) rfl (by rw [h290] <;> rfl) (zr 3 (.slice g291.1 x287.length g291.2) [] rfl rfl rfl (vF (j := 2) rfl tf59 rfl rfl (fun _ => rfl) rfl) ?_)))
 refine au [6,4,6,5] ?_
 refine qf (d := 21) (v := .slice (some ⟨b293, o294, none⟩) x4.length c6) rfl (by rw [h295] <;> rfl) (qu 6 (.pointer (some ⟨b293, (o294 + x202.toNat * 1), none⟩)) rfl rfl rfl (qaW Tryz.underlying22 tf59 rfl rfl (zG e292).1 (qav e292)) (qf (d := 21) (v := .slice a5 x4.length c6) rfl (by rw [h295] <;> rfl) (zr 7 (.slice g296.1 x292.length g296.2) [] rfl rfl rfl (vF (j := 0) rfl tf59 rfl rfl (fun _ => rfl) rfl) ?_)))
 refine au [20,8] ?_
 refine qg qgs ?_
 intro x297 e297 _
 refine au [0] ?_
 refine zN .nil (qF 0 rfl (qF 1 rfl (qF 2 rfl (qF 3 rfl (qF 4 rfl (qF 5 rfl qm)))))) ?_
 refine au [6,9,24,1] ?_
 refine qs ?_ (by intro c h; cases h)
 refine av [1,10] ?_ ?_
 intro _
 exact az [2,4,5,0,1,8,22,11,11,22,11,19]
 intro _
 refine au [12,24,4,1,4,3,16,5,0] ?_
 exact qi (iadd .i64 x202 1, ())
 intro _
 exact az [24,10,17,17,24,11,25,15]
 rintro ⟨_, _⟩
 try dsimp only
 exact az [2,4,5,0,1,8,19]
theorem qfp {F : Nat} {x1 : List (List Int)} {a2 : Option Addr} {c3 : Nat} {s3 : List (Option Addr × Nat)} {x4 : List (List Int)} {a5 : Option Addr} {c6 : Nat} {s6 : List (Option Addr × Nat)} {r : Bool} (hm : qaC F x1 x4 = some r) :
    Pure Tryz.prog 17 [.agg #[.slice a2 x1.length c3], .agg #[.slice a5 x4.length c6]] [SlN eN59 iN59 1 (.slice a2 x1.length c3) x1 s3, SlN eN59 iN59 1 (.slice a5 x4.length c6) x4 s6] Unit (fun _ => .bool r) (fun _ => []) (fun _ => []) := by
 refine qh Tryz.func17 rfl Tryz.ntmps17 rfl hm (fun w => ?_)
 refine au [24,12,2,4,24,5] ?_
 intro g7
 refine au [24,5] ?_
 intro g8
 refine au [5,0,1,2,4,13,25,11,13,21,34,3] ?_
 intro x9 e9 _
 exact az [5,0,1,8,19]
theorem qfn (F : Nat)  (r : List (List Int)) (hm : qaB F  = some r) :
    Pure Tryz.prog 31 [] [] (Option Addr × (Nat × List (Option Addr × Nat))) (fun g => .agg #[.slice g.1 r.length g.2.1]) (fun g => [RoN eN59 rN59 59 1 (.slice g.1 r.length g.2.1) r g.2.2 []]) (fun _ => []) := by
 refine qh Tryz.func31 rfl Tryz.ntmps31 rfl hm (fun w => ?_)
 refine au [34,4,2,4,24,6] ?_
 intro g1
 refine au [0,1,2,4] ?_
 refine qv (vs := [.int .i64 1, .int .i64 2, .int .i64 3, .int .i64 5]) (ys := ([1, 2, 3, 5] : List Int)) (qt .i64) (by decide) rfl Tryz.underlying59 tf3 rfl rfl rfl rfl rfl (by decide) (fun a2 c3 => qv (vs := [.int .i64 1, .int .i64 2, .int .i64 3, .int .i64 5]) (ys := ([1, 2, 3, 5] : List Int)) (qt .i64) (by decide) rfl Tryz.underlying59 tf3 rfl rfl rfl rfl rfl (by decide) (fun a4 c5 => qv (vs := [.int .i64 0, .int .i64 1, .int .i64 2, .int .i64 3, .int .i64 5]) (ys := ([0, 1, 2, 3, 5] : List Int)) (qt .i64) (by decide) rfl Tryz.underlying59 tf3 rfl rfl rfl rfl rfl (by decide) (fun a6 c7 => qv (vs := [.int .i64 4]) (ys := ([4] : List Int)) (qt .i64) (by decide) rfl Tryz.underlying59 tf3 rfl rfl rfl rfl rfl (by decide) (fun a8 c9 => qv (vs := [.int .i64 1, .int .i64 2, .int .i64 3]) (ys := ([1, 2, 3] : List Int)) (qt .i64) (by decide) rfl Tryz.underlying59 tf3 rfl rfl rfl rfl rfl (by decide) (fun a10 c11 => ?_)))))
 refine au [27,0] ?_
 refine qv (vs := [.slice a2 ([1, 2, 3, 5] : List Int).length c3, .slice a4 ([1, 2, 3, 5] : List Int).length c5, .slice a6 ([0, 1, 2, 3, 5] : List Int).length c7, .slice none ([] : List Int).length 0, .slice a8 ([4] : List Int).length c9, .slice a10 ([1, 2, 3] : List Int).length c11]) (ys := ([(([1, 2, 3, 5] : List Int), (a2, c3)), (([1, 2, 3, 5] : List Int), (a4, c5)), (([0, 1, 2, 3, 5] : List Int), (a6, c7)), (([] : List Int), (none, 0)), (([4] : List Int), (a8, c9)), (([1, 2, 3] : List Int), (a10, c11))] : List (List Int × (Option Addr × Nat)))) yR (by decide) rfl Tryz.underlying22 tf59 rfl rfl rfl rfl rfl (by decide) (fun a12 c13 => qcd (rin := rN59) (i := 0) ([([1, 2, 3, 5] : List Int), ([1, 2, 3, 5] : List Int), ([0, 1, 2, 3, 5] : List Int), ([] : List Int), ([4] : List Int), ([1, 2, 3] : List Int)] : List (List Int)) ([(a2, c3), (a4, c5), (a6, c7), (none, 0), (a8, c9), (a10, c11)] : List (Option Addr × Nat)) rfl rfl (.cons 5 rfl (.cons 4 rfl (.cons 3 rfl (.cons 0 rfl (.cons 1 rfl (.cons 0 rfl .nil)))))) (qj (cells := [.slice a12 ([([1, 2, 3, 5] : List Int), ([1, 2, 3, 5] : List Int), ([0, 1, 2, 3, 5] : List Int), ([] : List Int), ([4] : List Int), ([1, 2, 3] : List Int)] : List (List Int)).length c13]) rfl st24 rfl (by kernel_rfl) rfl ?_))
 refine au [24,0,0,1,8] ?_
 exact qz (a12, (c13, ([(a2, c3), (a4, c5), (a6, c7), (none, 0), (a8, c9), (a10, c11)] : List (Option Addr × Nat)))) (resL (rs := [.cell 0 24]) rfl (.cell (i := 0) rfl tf24 rfl rfl (by simp) rfl ResOk.nil) rfl) (fun h => by subst h; exact (.cons 0 rfl .nil))
set_option maxHeartbeats 4000000 in
theorem qfm (F : Nat)  (r : Bool) (hm : qaA F  = some r) :
    Pure Tryz.prog 15 [] [] Unit (fun _ => .bool r) (fun _ => []) (fun _ => []) := by
 refine qh Tryz.func15 rfl Tryz.ntmps15 rfl hm (fun w => ?_)
 refine au [34,4,2,4,5,0,1,2,4] ?_
 refine qj (cells := [.int .i64 999, .int .i64 99, .int .i64 99, .int .i64 999]) rfl st29 rfl (by kernel_rfl) rfl ?_
 refine au [24,6] ?_
 intro g1
 refine au [24,0,0,1,2,4] ?_
 refine qv (vs := [.int .i64 1]) (ys := ([1] : List Int)) (qt .i64) (by decide) rfl Tryz.underlying59 tf3 rfl rfl rfl rfl rfl (by decide) (fun a2 c3 => ?_)
 refine au [28,8,27,0,28,8] ?_
 refine qv (vs := [.slice a2 ([1] : List Int).length c3, .slice none 0 0]) (ys := ([(([1] : List Int), (a2, c3)), (([] : List Int), (none, 0))] : List (List Int × (Option Addr × Nat)))) yR (by decide) rfl Tryz.underlying22 tf59 rfl rfl rfl rfl rfl (by decide) (fun a4 c5 => qcN (inn := iN59) ([([1] : List Int), ([] : List Int)] : List (List Int)) ([(a2, c3), (none, 0)] : List (Option Addr × Nat)) 0 rfl rfl (qB 1 rfl (qB 0 rfl jq)) (qj (cells := [.slice a4 ([([1] : List Int), ([] : List Int)] : List (List Int)).length c5]) rfl st24 rfl (by kernel_rfl) rfl (qj (cells := [.int .i64 0, .int .i64 0, .int .i64 0]) rfl st26 rfl (by kernel_rfl) rfl ?_)))
 refine au [30,8] ?_
 rintro x6 e6 ⟨a7, c8⟩
 refine au [3,14,14,5,5,0,1,2,4,34,5] ?_
 rintro x9 e9 ⟨a10, c11⟩
 refine qj (cells := [.int .i64 2, .int .i64 3, .int .i64 1]) rfl st26 rfl (by kernel_rfl) rfl ?_
 refine au [30,8] ?_
 rintro x12 e12 ⟨a13, c14⟩
 refine au [3,14,14,5,5,0,1,2,4,3,24,15,28,11] ?_
 rintro x15 e15 ⟨a16, c17⟩
 refine au [3,14,14,14,24,6] ?_
 intro g18
 refine au [24,0,5,5,0,1,2,4,3,25,8,28,11] ?_
 rintro x19 e19 ⟨a20, c21⟩
 refine au [3,14,14,14,24,6] ?_
 intro g22
 refine au [24,0,5,5,0,1,2,4,3,34,6] ?_
 intro x23 e23 _
 refine au [3,14,14,24,6] ?_
 intro g24
 refine au [24,0,5,0,1,2,4,3] ?_
 refine qj (cells := [.int .i64 999, .int .i64 99, .int .i64 99, .int .i64 3]) rfl st29 rfl (by kernel_rfl) rfl ?_
 refine au [28,11] ?_
 rintro x25 e25 ⟨a26, c27⟩
 refine au [3,14,14,14,24,6] ?_
 intro g28
 refine au [24,0,5,5,0,1,2,4] ?_
 refine qv (vs := [.int .u8 76, .int .u8 87, .int .u8 1]) (ys := ([76, 87, 1] : List Int)) (qt .u8) (by decide) rfl Tryz.underlying27 tf5 rfl rfl rfl rfl rfl (by decide) (fun a29 c30 => ?_)
 refine au [33,3,28,11] ?_
 rintro x31 e31 ⟨a32, c33⟩
 refine au [3,14,14,14,24,6] ?_
 intro g34
 refine au [24,0,5,5,0,1] ?_
 refine qe (fun ((x59, _) : (Bool × Unit)) => ([(0, .bool x59)], [], [], [], qH F x59)) ?_ ?_
 refine qn mixed [] [⟨g34, 24, [.slice a32 x31.1.length c33.1]⟩, ⟨g28, 24, [.slice a26 x25.1.length c27.1]⟩, ⟨g24, 29, [.int .i64 x23.1, .int .i64 x23.2.1, .int .i64 x23.2.2.1, .int .i64 x23.2.2.2.1]⟩, ⟨g22, 24, [.slice a20 x19.1.length c21.1]⟩, ⟨g18, 24, [.slice a16 x15.1.length c17.1]⟩, ⟨g1, 29, [.int .i64 999, .int .i64 99, .int .i64 99, .int .i64 999]⟩] [SlN eN59 iN59 1 (.slice a4 ([([1] : List Int), ([] : List Int)] : List (List Int)).length c5) ([([1] : List Int), ([] : List Int)] : List (List Int)) ([(a2, c3), (none, 0)] : List (Option Addr × Nat)), Sl (eI .i64) 1 (.slice none ([] : List Int).length 0) ([] : List Int), Sl (eI .i64) 1 (.slice a2 ([1] : List Int).length c3) ([1] : List Int)] (.cons 0 rfl (.cons 0 rfl (.cons 0 rfl (.cons 0 rfl (.cons 0 rfl (.cons 0 rfl .nil)))))) (qF 0 rfl (qF 1 rfl (qF 2 rfl qm))) 57 rfl ?_
 refine au [6,0,20,1] ?_
 refine qv (vs := [.int .u8 76, .int .u8 87, .int .u8 1, .int .u8 2, .int .u8 1, .int .u8 2, .int .u8 0]) (ys := ([76, 87, 1, 2, 1, 2, 0] : List Int)) (qt .u8) (by decide) rfl Tryz.underlying27 tf5 rfl rfl rfl rfl rfl (by decide) (fun a60 c61 => ?_)
 refine au [0,30,9,20,2] ?_
 refine qg qfo ?_
 intro x62 e62 _
 refine av [0,30,9,6,3,26,2] ?_ ?_
 intro h63
 refine qf (d := 71) (v := .bool true) rfl (by rw [h63] <;> rfl) ?_
 refine av [6,4,6,5,6,6,6,7,26,2] ?_ ?_
 intro h64
 refine qf (d := 75) (v := .bool true) rfl (by rw [h64] <;> rfl) ?_
 refine av [6,8,6,9,6,10,6,11,26,2] ?_ ?_
 intro h65
 refine qf (d := 79) (v := .bool true) rfl (by rw [h65] <;> rfl) ?_
 refine au [18,12] ?_
 refine zA 13 _ rfl rfl rfl (qX (i := 4) rfl inferInstance rfl rfl (fun _ => rfl) rfl) ?_
 refine au [20,14] ?_
 refine qv (vs := [.int .i64 1]) (ys := ([1] : List Int)) (qt .i64) (by decide) rfl Tryz.underlying59 tf3 rfl rfl rfl rfl rfl (by decide) (fun a66 c67 => ?_)
 refine au [0,30,9,20,15,28,8,27,0] ?_
 refine qv (vs := [.slice a66 ([1] : List Int).length c67, .slice none 0 0]) (ys := ([(([1] : List Int), (a66, c67)), (([] : List Int), (none, 0))] : List (List Int × (Option Addr × Nat)))) yR (by decide) rfl Tryz.underlying22 tf59 rfl rfl rfl rfl rfl (by decide) (fun a68 c69 => qcN (inn := iN59) ([([1] : List Int), ([] : List Int)] : List (List Int)) ([(a66, c67), (none, 0)] : List (Option Addr × Nat)) 0 rfl rfl (qB 0 rfl (qB 2 rfl jq)) ?_)
 refine au [0,28,12,20,16,34,3] ?_
 intro x70 e70 _
 refine av [0,28,12,6,17,6,18,26,2] ?_ ?_
 intro h71
 refine qf (d := 86) (v := .bool true) rfl (by rw [h71] <;> rfl) ?_
 refine av [6,19,6,20,6,21,6,22,26,2] ?_ ?_
 intro h72
 refine qf (d := 90) (v := .bool true) rfl (by rw [h72] <;> rfl) ?_
 refine av [6,23,6,24,6,25,6,26,26,2] ?_ ?_
 intro h73
 refine qf (d := 94) (v := .bool true) rfl (by rw [h73] <;> rfl) (zA 27 (.agg #[.slice a20 x19.1.length c21.1]) rfl rfl rfl (qX (i := 3) rfl tf24 rfl rfl (by simp) rfl) ?_)
 refine au [20,28,34,5] ?_
 rintro x74 e74 ⟨a75, c76⟩
 refine au [0,28,12,20,29] ?_
 refine qg qfp ?_
 intro x77 e77 _
 refine av [0,28,12,6,30,6,31,26,2] ?_ ?_
 intro h78
 refine qf (d := 99) (v := .bool true) rfl (by rw [h78] <;> rfl) ?_
 refine av [6,32,6,33,6,34,6,35,26,2] ?_ ?_
 intro h79
 refine qf (d := 103) (v := .bool true) rfl (by rw [h79] <;> rfl) ?_
 refine av [6,36,6,37,6,38,6,39,26,2] ?_ ?_
 intro h80
 refine qf (d := 107) (v := .bool true) rfl (by rw [h80] <;> rfl) (zA 40 (.agg #[.int .i64 x23.1, .int .i64 x23.2.1, .int .i64 x23.2.2.1, .int .i64 x23.2.2.2.1]) rfl rfl rfl (qX (i := 2) rfl tf29 rfl rfl (by simp) rfl) (qu 41 (.agg #[.int .i64 7, .int .i64 2, .int .i64 1, .int .i64 4]) rfl rfl rfl (qbW (cells := [.int .i64 7, .int .i64 2, .int .i64 1, .int .i64 4]) st29 rfl (by kernel_rfl)) (qu 42 (.bool (((x23.1 : Int) == 7) && (((x23.2.1 : Int) == 2) && (((x23.2.2.1 : Int) == 1) && ((x23.2.2.2.1 : Int) == 4))))) rfl rfl rfl (qoU rfl rfl se29) ?_)))
 refine av [6,43,6,44,26,2] ?_ ?_
 intro h81
 refine qf (d := 112) (v := .bool true) rfl (by rw [h81] <;> rfl) ?_
 refine av [6,45,6,46,6,47,6,48,26,2] ?_ ?_
 intro h82
 refine qf (d := 116) (v := .bool true) rfl (by rw [h82] <;> rfl) ?_
 refine av [6,49,6,50,6,51,6,52,26,2] ?_ ?_
 intro h83
 refine qf (d := 120) (v := .bool true) rfl (by rw [h83] <;> rfl) ?_
 refine au [6,53,6,54,6,55,6,56,24,1] ?_
 exact qs (qa (((x31.2.2 : Int) == 1), ())) (by intro c h; cases h)
 intro h83
 refine qf (d := 120) (v := .bool false) rfl (by rw [h83] <;> rfl) ?_
 refine au [7,53,7,54,6,55,6,56,24,1] ?_
 exact qs (qa (false, ())) (by intro c h; cases h)
 intro h82
 refine qf (d := 116) (v := .bool false) rfl (by rw [h82] <;> rfl) ?_
 refine au [7,49,7,50,6,51,6,52,7,53,7,54,6,55,6,56,24,1] ?_
 exact qs (qa (false, ())) (by intro c h; cases h)
 intro h81
 refine qf (d := 112) (v := .bool false) rfl (by rw [h81] <;> rfl) ?_
 refine au [7,45,7,46,6,47,6,48,7,49,7,50,6,51,6,52,7,53,7,54,6,55,6,56,24,1] ?_
 exact qs (qa (false, ())) (by intro c h; cases h)
 intro h80
 refine qf (d := 107) (v := .bool false) rfl (by rw [h80] <;> rfl) ?_
 refine au [7,40,7,41,7,42,6,43,6,44,7,45,7,46,6,47,6,48,7,49,7,50,6,51,6,52,7,53,7,54,6,55,6,56,24,1] ?_
 exact qs (qa (false, ())) (by intro c h; cases h)
 intro h79
 refine qf (d := 103) (v := .bool false) rfl (by rw [h79] <;> rfl) ?_
 refine au [7,36,7,37,6,38,6,39,7,40,7,41,7,42,6,43,6,44,7,45,7,46,6,47,6,48,7,49,7,50,6,51,6,52,7,53,7,54,6,55,6,56,24,1] ?_
 exact qs (qa (false, ())) (by intro c h; cases h)
 intro h78
 refine qf (d := 99) (v := .bool false) rfl (by rw [h78] <;> rfl) ?_
 refine au [7,32,7,33,6,34,6,35,7,36,7,37,6,38,6,39,7,40,7,41,7,42,6,43,6,44,7,45,7,46,6,47,6,48,7,49,7,50,6,51,6,52,7,53,7,54,6,55,6,56,24,1] ?_
 exact qs (qa (false, ())) (by intro c h; cases h)
 intro h73
 refine qf (d := 94) (v := .bool false) rfl (by rw [h73] <;> rfl) ?_
 refine au [7,27,7,28,7,29,6,30,6,31,7,32,7,33,6,34,6,35,7,36,7,37,6,38,6,39,7,40,7,41,7,42,6,43,6,44,7,45,7,46,6,47,6,48,7,49,7,50,6,51,6,52,7,53,7,54,6,55,6,56,24,1] ?_
 exact qs (qa (false, ())) (by intro c h; cases h)
 intro h72
 refine qf (d := 90) (v := .bool false) rfl (by rw [h72] <;> rfl) ?_
 refine au [7,23,7,24,6,25,6,26,7,27,7,28,7,29,6,30,6,31,7,32,7,33,6,34,6,35,7,36,7,37,6,38,6,39,7,40,7,41,7,42,6,43,6,44,7,45,7,46,6,47,6,48,7,49,7,50,6,51,6,52,7,53,7,54,6,55,6,56,24,1] ?_
 exact qs (qa (false, ())) (by intro c h; cases h)
 intro h71
 refine qf (d := 86) (v := .bool false) rfl (by rw [h71] <;> rfl) ?_
 refine au [7,19,7,20,6,21,6,22,7,23,7,24,6,25,6,26,7,27,7,28,7,29,6,30,6,31,7,32,7,33,6,34,6,35,7,36,7,37,6,38,6,39,7,40,7,41,7,42,6,43,6,44,7,45,7,46,6,47,6,48,7,49,7,50,6,51,6,52,7,53,7,54,6,55,6,56,24,1] ?_
 exact qs (qa (false, ())) (by intro c h; cases h)
 intro h65
 refine qf (d := 79) (v := .bool false) rfl (by rw [h65] <;> rfl) ?_
 refine au [7,12,7,13,7,14,7,15,7,16,6,17,6,18,7,19,7,20,6,21,6,22,7,23,7,24,6,25,6,26,7,27,7,28,7,29,6,30,6,31,7,32,7,33,6,34,6,35,7,36,7,37,6,38,6,39,7,40,7,41,7,42,6,43,6,44,7,45,7,46,6,47,6,48,7,49,7,50,6,51,6,52,7,53,7,54,6,55,6,56,24,1] ?_
 exact qs (qa (false, ())) (by intro c h; cases h)
 intro h64
 refine qf (d := 75) (v := .bool false) rfl (by rw [h64] <;> rfl) ?_
 refine au [7,8,7,9,6,10,6,11,7,12,7,13,7,14,7,15,7,16,6,17,6,18,7,19,7,20,6,21,6,22,7,23,7,24,6,25,6,26,7,27,7,28,7,29,6,30,6,31,7,32,7,33,6,34,6,35,7,36,7,37,6,38,6,39,7,40,7,41,7,42,6,43,6,44,7,45,7,46,6,47,6,48,7,49,7,50,6,51,6,52,7,53,7,54,6,55,6,56,24,1] ?_
 exact qs (qa (false, ())) (by intro c h; cases h)
 intro h63
 refine qf (d := 71) (v := .bool false) rfl (by rw [h63] <;> rfl) ?_
 refine au [7,4,7,5,6,6,6,7,7,8,7,9,6,10,6,11,7,12,7,13,7,14,7,15,7,16,6,17,6,18,7,19,7,20,6,21,6,22,7,23,7,24,6,25,6,26,7,27,7,28,7,29,6,30,6,31,7,32,7,33,6,34,6,35,7,36,7,37,6,38,6,39,7,40,7,41,7,42,6,43,6,44,7,45,7,46,6,47,6,48,7,49,7,50,6,51,6,52,7,53,7,54,6,55,6,56,24,1] ?_
 exact qs (qa (false, ())) (by intro c h; cases h)
 rintro ⟨x59, _⟩
 try dsimp only
 exact az [8,19]
set_option maxHeartbeats 4000000 in
theorem qfl (F : Nat) (x1 : Int) (x2 : Int) (x3 : Int) (x4 : Int) (r : Bool) (hm : qbE F x1 x2 x3 x4 = some r) :
    Pure Tryz.prog 9 [.int .i64 x1, .agg #[.int .i64 x2, .int .i64 x3, .int .i64 x4]] [] Unit (fun _ => .bool r) (fun _ => []) (fun _ => []) := by
 refine qh Tryz.func9 rfl Tryz.ntmps9 rfl hm (fun w => ?_)
 refine au [24,12,2,4,24,5] ?_
 intro g5
 refine au [5,0,1,2,2,4] ?_
 refine qg (fun h => qfm F _ h) ?_
 intro x8 e8 _
 refine av [25,1,0,1,10] ?_ ?_
 intro _
 exact az [2,4,5,0,1,8,11,19]
 intro _
 refine au [12,1,2,2,4,3,24,2,3] ?_
 refine qN 3 (decide (x1 < 0)) [(0, .int .i64 x1), (3, .pointer (some ⟨g5, 0, none⟩)), (16, .bool ((decide (x1 < 0)) || (decide (100 < x1))))] (fun h11 => ?_) (fun h11 => ?_) ?_
 refine qc (os := _) rfl (qD (k := 13) rfl h11 ?_)
 refine au [9,9,24,8] ?_
 refine qd (d := 16) (v := .bool ((decide (x1 < 0)) || (decide (100 < x1)))) rfl (by rw [h11]; simp only [Bool.true_or]) ?_
 exact az [0,24,3]
 refine qc (os := _) rfl (qC (k := 13) rfl h11 ?_)
 refine au [3,24,13,24,9] ?_
 refine qd (d := 16) (v := .bool ((decide (x1 < 0)) || (decide (100 < x1)))) rfl (by rw [h11]; simp only [Bool.false_or]) ?_
 exact az [0,24,3]
 refine qc (os := _) rfl ?_
 refine av [0,1,10] ?_ ?_
 intro _
 exact az [2,4,5,0,1,8,11,19]
 intro _
 refine au [12,1,2] ?_
 refine qn mixed [] [⟨g5, 26, [.int .i64 x2, .int .i64 x3, .int .i64 x4]⟩] [] (.cons 0 rfl .nil) qm 10 rfl ?_
 refine au [6,0] ?_
 refine zA 3 (.agg #[.int .i64 x2, .int .i64 x3, .int .i64 x4]) rfl rfl rfl (qX (i := 0) rfl tf26 rfl rfl (by simp) rfl) ?_
 refine au [20,1] ?_
 refine qoH (rin := rN59) (y := ([] : List Int)) (q := ((none, 0) : Option Addr × Nat)) yR (by decide) qmE rfl UnF.u inferInstance rfl rfl rfl rfl rfl rfl ?_
 intro x18 e18 a19 c20
 refine au [0,34,7] ?_
 refine qu 2 (.agg #[.slice a19 x18.length c20]) rfl rfl rfl (qbW (cells := [.slice a19 x18.length c20]) st24 rfl (by kernel_rfl)) ?_
 refine au [20,4,30,8] ?_
 rintro x21 e21 ⟨a22, c23⟩
 refine au [0,34,7,6,5,6,6,6,7,6,8,6,9,24,1] ?_
 refine qs ?_ (by intro c h; cases h)
 refine au [1,2,4,3,34,6] ?_
 intro x24 e24 _
 refine au [3,14,14,24,6] ?_
 intro g25
 refine au [24,0,5,0,1,2,4,3,25,2,3] ?_
 refine qN 3 ((x21.2 : Int) == 0) [(0, .int .i64 x1), (7, .pointer (some ⟨g25, 0, none⟩)), (35, .bool (((x21.2 : Int) == 0) && ((x24.2.2.2.2 : Int) == 0)))] (fun h26 => ?_) (fun h26 => ?_) ?_
 refine qc (os := _) rfl (qD (k := 32) rfl h26 ?_)
 refine au [3,25,2,24,8] ?_
 refine qd (d := 35) (v := .bool (((x21.2 : Int) == 0) && ((x24.2.2.2.2 : Int) == 0))) rfl (by rw [h26]; simp only [Bool.true_and]) ?_
 exact az [0,24,3]
 refine qc (os := _) rfl (qC (k := 32) rfl h26 ?_)
 refine au [9,9,24,9] ?_
 refine qd (d := 35) (v := .bool (((x21.2 : Int) == 0) && ((x24.2.2.2.2 : Int) == 0))) rfl (by rw [h26]; simp only [Bool.false_and]) ?_
 exact az [0,24,3]
 refine qc (os := _) rfl ?_
 refine au [3] ?_
 refine yA 9 (fun ((x28, _) : (Bool × Unit)) => ([(45, .bool x28)], [], [], [], ju F x28)) ?_ ?_
 refine qc (os := _) rfl ?_
 refine av [26,4] ?_ ?_
 intro h27
 refine qD (k := 36) rfl h27 ?_
 refine au [24,15,3,16,3,3,16] ?_
 refine qj (cells := [.int .i64 (iadd .i64 x1 4), .int .i64 x1, .int .i64 0, .int .i64 (iadd .i64 x1 1)]) rfl st29 rfl (by kernel_rfl) rfl (qnj rfl rfl rfl inferInstance rfl ?_)
 refine au [24,8,0] ?_
 exact qa ((((x24.1 : Int) == (iadd .i64 x1 4)) && (((x24.2.1 : Int) == x1) && (((x24.2.2.1 : Int) == 0) && ((x24.2.2.2.1 : Int) == (iadd .i64 x1 1))))), ())
 intro h27
 refine qC (k := 36) rfl h27 ?_
 refine au [9,9,9,9,9,9,9,9,24,9,0] ?_
 exact qa (false, ())
 rintro ⟨x28, _⟩
 try dsimp only
 refine qc (os := _) rfl ?_
 exact az [5,0,1,8,19]
end Go.Proofs.YtlioijpkhffbnaaGreat
