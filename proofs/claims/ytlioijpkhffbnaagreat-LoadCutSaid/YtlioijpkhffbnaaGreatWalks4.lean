/- Each Go function of this seat computes what its model says, part 4. -/
import Derived.Test.YtlioijpkhffbnaaGreatWalks3
namespace Go.Proofs.YtlioijpkhffbnaaGreat
open Go SX
set_option maxHeartbeats 4000000 in
theorem qhH {F : Nat} {x1 : List Int} {a2 : Option Addr} {c3 : Nat} {x4 : Int} {x5 : Int} {x6 : Int} {x7 : Int} {r : (List (List Int) × Int × Int)} (hm : kF F x1 x4 x5 x6 x7 = some r) :
    Pure Tryz.prog 11 [.slice a2 x1.length c3, .agg #[.int .i64 x4, .int .i64 x5, .int .i64 x6, .int .i64 x7]] [Sl (eI .u8) 1 (.slice a2 x1.length c3) x1] (Option Addr × (Nat × List (Option Addr × Nat))) (fun g => .tuple #[.agg #[.slice g.1 r.1.length g.2.1], .int .i64 r.2.1, .int .i64 r.2.2]) (fun g => [RoN eN59 rN59 59 1 (.slice g.1 r.1.length g.2.1) r.1 g.2.2 []]) (fun _ => []) := by
 refine qh Tryz.func11 rfl Tryz.ntmps11 rfl hm (fun w => ?_)
 refine au [24,12,2,4,24,5] ?_
 intro g8
 refine au [24,6] ?_
 intro g9
 refine av [5,5,0,1,2,2,4,3,23,13,25,11,24,13,0,1,9] ?_ ?_
 intro _
 refine au [2,4] ?_
 refine qj (cells := [.slice none 0 0]) rfl st24 rfl (by kernel_rfl) rfl ?_
 refine au [24,0,5,5,0,1,8,11,25,14] ?_
 exact qy (none, (0, ([] : List (Option Addr × Nat)))) (resL (rs := [.cell 4 24, .tmp 5, .tmp 6]) rfl (.cell (i := 0) rfl tf24 rfl rfl (by simp) rfl (.tmp rfl (.tmp rfl ResOk.nil))) rfl) (fun h => by subst h; exact (.cons 0 rfl .nil))
 intro _
 refine au [12,1,2,4,3,34,3] ?_
 rintro x11 e11 ⟨a12, c13⟩
 refine au [3,14,14,14,24,6] ?_
 intro g14
 refine au [24,0,5,5,0,1] ?_
 refine qe (fun ((x25, _) : (Int × Unit)) => ([(4, .pointer (some ⟨g9, 0, none⟩)), (7, .pointer (some ⟨g14, 0, none⟩)), (8, .int .i64 x11.2.1), (9, .int .i64 x25)], [⟨g14, 24, [.slice a12 x11.1.length c13.1]⟩, ⟨g9, 24, [.slice none 0 0]⟩], [RoN eN59 rN59 59 1 (.slice a12 x11.1.length c13.1) x11.1 c13.2 []], [], jn F x11 x25)) ?_ ?_
 refine qe (fun ((x32, _) : (Bool × Unit)) => ([(4, .pointer (some ⟨g9, 0, none⟩)), (7, .pointer (some ⟨g14, 0, none⟩)), (8, .int .i64 x11.2.1), (9, .int .i64 x11.2.2), (44, .bool x32)], [⟨g14, 24, [.slice a12 x11.1.length c13.1]⟩, ⟨g9, 24, [.slice none 0 0]⟩], [RoN eN59 rN59 59 1 (.slice a12 x11.1.length c13.1) x11.1 c13.2 []], [], yd F x11 x32)) ?_ ?_
 refine av [26,13] ?_ ?_
 intro h34
 refine av [26,13] ?_ ?_
 intro h35
 refine qq mixed [] [⟨g14, 24, [.slice a12 x11.1.length c13.1]⟩, ⟨g9, 24, [.slice none 0 0]⟩, ⟨g8, 29, [.int .i64 x4, .int .i64 x5, .int .i64 x6, .int .i64 x7]⟩] [Sl (eI .u8) 1 (.slice a2 x1.length c3) x1] (.cons 0 rfl (.cons 0 rfl (.cons 0 rfl .nil))) (qF 0 rfl qm) 23 rfl ?_
 refine au [6,0,6,1,6,2] ?_
 refine qf (d := 24) (v := .bool true) rfl (by rw [h34] <;> rfl) ?_
 refine au [19,3,25,7,4,26,7,5,19,6,27,12,7,6,8,6,9] ?_
 refine qf (d := 31) (v := .bool true) rfl (by rw [h35] <;> rfl) ?_
 refine au [7,10,7,11,7,12,7,13,7,14,6,15,6,16,7,17,7,18,7,19,7,20,6,21,6,22,24,1] ?_
 exact qt (qa (true, ())) (by intro c h; cases h)
 intro h35
 refine qq mixed [] [⟨g14, 24, [.slice a12 x11.1.length c13.1]⟩, ⟨g9, 24, [.slice none 0 0]⟩, ⟨g8, 29, [.int .i64 x4, .int .i64 x5, .int .i64 x6, .int .i64 x7]⟩] [Sl (eI .u8) 1 (.slice a2 x1.length c3) x1] (.cons 0 rfl (.cons 0 rfl (.cons 0 rfl .nil))) (qF 0 rfl qm) 23 rfl ?_
 refine au [6,0,6,1,6,2] ?_
 refine qf (d := 24) (v := .bool true) rfl (by rw [h34] <;> rfl) ?_
 refine au [19,3,25,7,4,26,7,5,19,6,27,12,7,6,8,6,9] ?_
 refine qf (d := 31) (v := .bool false) rfl (by rw [h35] <;> rfl) (zG 10 (.agg #[.slice a12 x11.1.length c13.1]) rfl rfl rfl (qZ (i := 0) rfl tf24 rfl rfl (by simp) rfl) ?_)
 refine au [19,12,27,12,13,20,11,34,4] ?_
 intro x36 e36 _
 refine au [0] ?_
 refine zT (.cons 0 rfl (.cons 0 rfl (.cons 0 rfl .nil))) (qF 0 rfl qm) ?_
 refine av [6,14,6,15,6,16,26,3] ?_ ?_
 intro h37
 refine qf (d := 38) (v := .bool true) rfl (by rw [h37] <;> rfl) ?_
 refine au [7,17,7,18,7,19,7,20,6,21,6,22,24,1] ?_
 exact qt (qa (true, ())) (by intro c h; cases h)
 intro h37
 refine qf (d := 38) (v := .bool false) rfl (by rw [h37] <;> rfl) ?_
 refine au [6,17,19,18,27,12,19,6,20,6,21,6,22,24,1] ?_
 exact qt (qa ((decide (x7 < x11.2.1)), ())) (by intro c h; cases h)
 intro h34
 refine qq mixed [] [⟨g14, 24, [.slice a12 x11.1.length c13.1]⟩, ⟨g9, 24, [.slice none 0 0]⟩, ⟨g8, 29, [.int .i64 x4, .int .i64 x5, .int .i64 x6, .int .i64 x7]⟩] [Sl (eI .u8) 1 (.slice a2 x1.length c3) x1] (.cons 0 rfl (.cons 0 rfl (.cons 0 rfl .nil))) (qF 0 rfl qm) 23 rfl ?_
 refine au [6,0,6,1,6,2] ?_
 refine qf (d := 24) (v := .bool false) rfl (by rw [h34] <;> rfl) ?_
 refine au [7,3,7,4,7,5,7,6,7,7,7,8,7,9,7,10,7,11,7,12,7,13,7,14,7,15,7,16,7,17,7,18,7,19,7,20,7,21,6,22,24,1] ?_
 exact qt (qa (false, ())) (by intro c h; cases h)
 rintro ⟨x32, _⟩
 try dsimp only
 refine av [9] ?_ ?_
 intro _
 refine au [4,5,0] ?_
 exact qa ((8 : Int), ())
 intro _
 refine au [12] ?_
 exact qa (x11.2.2, ())
 rintro ⟨x25, _⟩
 try dsimp only
 refine av [2,2,4,3,25,3,0,1,9] ?_ ?_
 intro _
 refine au [2,4] ?_
 refine qj (cells := [.slice none 0 0]) rfl st24 rfl (by kernel_rfl) rfl ?_
 refine au [3,25,6,5,5,0,1,8,11,25,14] ?_
 exact qy (none, (0, ([] : List (Option Addr × Nat)))) (resL (rs := [.cell 4 24, .tmp 5, .tmp 6]) rfl (.cell (i := 1) rfl tf24 rfl rfl (by simp) rfl (.tmp rfl (.tmp rfl ResOk.nil))) rfl) (fun h => by subst h; exact (.cons 0 rfl .nil))
 intro _
 refine au [12,1,2,4,25,0,3,25,6,5,5,0,1,8] ?_
 exact qy (a12, c13) (resL (rs := [.cell 4 24, .tmp 5, .tmp 6]) rfl (.cell (i := 1) rfl tf24 rfl rfl (by simp) rfl (.tmp rfl (.tmp rfl ResOk.nil))) rfl) (fun h => by subst h; exact (.cons 0 rfl .nil))
set_option maxHeartbeats 4000000 in
theorem qfn {F : Nat} {x1 : List Int} {a2 : Option Addr} {c3 : Nat} {x4 : List Int} {a5 : Option Addr} {c6 : Nat} {r : Bool} (hm : jE F x1 x4 = some r) :
    Pure Tryz.prog 16 [.slice a2 x1.length c3, .slice a5 x4.length c6] [Sl (eI .u8) 1 (.slice a2 x1.length c3) x1, Sl (eI .u8) 1 (.slice a5 x4.length c6) x4] Unit (fun _ => .bool r) (fun _ => []) (fun _ => []) := by
 refine qh Tryz.func16 rfl Tryz.ntmps16 rfl hm (fun w => ?_)
 refine av [24,12,2,4,5,0,1,2,2,4,3,23,3,23,25,3,0,1,9] ?_ ?_
 intro _
 exact az [2,4,5,0,1,8,11,17]
 intro _
 refine au [12,1] ?_
 refine qe (fun ((_, _) : (Unit × Unit)) => ([], [], [], [], qbL F)) ?_ ?_
 refine au [2,4,5,0,1,15] ?_
 refine qk (fun ((x154, _) : (Int × Unit)) => ([(0, .slice a2 x1.length c3), (1, .slice a5 x4.length c6), (5, .int .i64 x154)], [], [], [Sl (eI .u8) 1 (.slice a2 x1.length c3) x1, Sl (eI .u8) 1 (.slice a5 x4.length c6) x4])) (fun k (s : (Int × Unit)) => k6 F x1 x4 k s.1) (0, ()) F ?_
 intro k191
 rintro ⟨x154, _⟩
 try dsimp only
 refine qz (m' := jw F x1 x4 (k6 F x1 x4 k191) x154) rfl ?_
 refine av [2,2,4,3,3,23,24,2,0,1,9] ?_ ?_
 intro _
 refine au [12,1,2,15,2,29,6] ?_
 intro x218 e218 b219 o220 h221
 replace h221 : a2 = some ⟨b219, o220, none⟩ := h221
 refine au [33,13] ?_
 intro x222 e222 b223 o224 h225
 replace h225 : a5 = some ⟨b223, o224, none⟩ := h225
 refine qq mixed [] [] [qR b223 (o224 + x154.toNat * 1) ((eI .u8) x222), qR b219 (o220 + x154.toNat * 1) ((eI .u8) x218), Sl (eI .u8) 1 (.slice a2 x1.length c3) x1, Sl (eI .u8) 1 (.slice a5 x4.length c6) x4] .nil (qF 0 rfl (qF 1 rfl (qF 2 rfl (qF 3 rfl qm)))) 9 rfl ?_
 refine au [6,0,6,1] ?_
 refine qf (d := 17) (v := .slice (some ⟨b219, o220, none⟩) x1.length c3) rfl (by rw [h221] <;> rfl) (qv 2 (.pointer (some ⟨b219, (o220 + x154.toNat * 1), none⟩)) rfl rfl rfl (qaW Tryz.underlying27 tf5 rfl rfl (zF e218).1 (qaw e218)) (qf (d := 17) (v := .slice a2 x1.length c3) rfl (by rw [h221] <;> rfl) (zr 3 (.int .u8 x218) [] rfl rfl rfl (vF (j := 1) rfl tf5 rfl rfl (fun _ => rfl) rfl) ?_)))
 refine au [6,4,6,5] ?_
 refine qf (d := 21) (v := .slice (some ⟨b223, o224, none⟩) x4.length c6) rfl (by rw [h225] <;> rfl) (qv 6 (.pointer (some ⟨b223, (o224 + x154.toNat * 1), none⟩)) rfl rfl rfl (qaW Tryz.underlying27 tf5 rfl rfl (zF e222).1 (qaw e222)) (qf (d := 21) (v := .slice a5 x4.length c6) rfl (by rw [h225] <;> rfl) (zr 7 (.int .u8 x222) [] rfl rfl rfl (vF (j := 0) rfl tf5 rfl rfl (fun _ => rfl) rfl) ?_)))
 refine au [6,8,24,1] ?_
 refine qt ?_ (by intro c h; cases h)
 refine av [1,9] ?_ ?_
 intro _
 exact az [2,4,5,0,1,8,22,11,11,22,11,17]
 intro _
 refine au [12,24,4,1,4,3,16,5,0] ?_
 exact qi (iadd .i64 x154 1, ())
 intro _
 exact az [24,8,18,18,24,9,25,13]
 rintro ⟨_, _⟩
 try dsimp only
 exact az [2,4,5,0,1,8,17]
set_option maxHeartbeats 4000000 in
theorem qgq {F : Nat} {x1 : List Int} {a2 : Option Addr} {c3 : Nat} {x4 : List Int} {a5 : Option Addr} {c6 : Nat} {r : Bool} (hm : qaX F x1 x4 = some r) :
    Pure Tryz.prog 44 [.slice a2 x1.length c3, .slice a5 x4.length c6] [Sl (eI .i64) 1 (.slice a2 x1.length c3) x1, Sl (eI .i64) 1 (.slice a5 x4.length c6) x4] Unit (fun _ => .bool r) (fun _ => []) (fun _ => []) := by
 refine qh Tryz.func44 rfl Tryz.ntmps44 rfl hm (fun w => ?_)
 refine av [24,12,2,4,5,0,1,2,2,4,3,23,3,23,25,3,0,1,9] ?_ ?_
 intro _
 exact az [2,4,5,0,1,8,11,17]
 intro _
 refine au [12,1] ?_
 refine qe (fun ((_, _) : (Unit × Unit)) => ([], [], [], [], qce F)) ?_ ?_
 refine au [2,4,5,0,1,15] ?_
 refine qk (fun ((x154, _) : (Int × Unit)) => ([(0, .slice a2 x1.length c3), (1, .slice a5 x4.length c6), (5, .int .i64 x154)], [], [], [Sl (eI .i64) 1 (.slice a2 x1.length c3) x1, Sl (eI .i64) 1 (.slice a5 x4.length c6) x4])) (fun k (s : (Int × Unit)) => yp F x1 x4 k s.1) (0, ()) F ?_
 intro k191
 rintro ⟨x154, _⟩
 try dsimp only
 refine qz (m' := jK F x1 x4 (yp F x1 x4 k191) x154) rfl ?_
 refine av [2,2,4,3,3,23,24,2,0,1,9] ?_ ?_
 intro _
 refine au [12,1,2,15,2,32,4] ?_
 intro x218 e218 b219 o220 h221
 replace h221 : a2 = some ⟨b219, o220, none⟩ := h221
 refine qbU (j := 2) (qr .i64) (by decide) rfl ?_
 intro x222 e222 b223 o224 h225
 replace h225 : a5 = some ⟨b223, o224, none⟩ := h225
 refine qq mixed [] [] [qR b223 (o224 + x154.toNat * 1) ((eI .i64) x222), qR b219 (o220 + x154.toNat * 1) ((eI .i64) x218), Sl (eI .i64) 1 (.slice a2 x1.length c3) x1, Sl (eI .i64) 1 (.slice a5 x4.length c6) x4] .nil (qF 0 rfl (qF 1 rfl (qF 2 rfl (qF 3 rfl qm)))) 9 rfl ?_
 refine au [6,0,6,1] ?_
 refine qf (d := 17) (v := .slice (some ⟨b219, o220, none⟩) x1.length c3) rfl (by rw [h221] <;> rfl) (qv 2 (.pointer (some ⟨b219, (o220 + x154.toNat * 1), none⟩)) rfl rfl rfl (qaW Tryz.underlying59 tf3 rfl rfl (zF e218).1 (qaw e218)) (qf (d := 17) (v := .slice a2 x1.length c3) rfl (by rw [h221] <;> rfl) (zr 3 (.int .i64 x218) [] rfl rfl rfl (vF (j := 1) rfl tf3 rfl rfl (fun _ => rfl) rfl) ?_)))
 refine au [6,4,6,5] ?_
 refine qf (d := 21) (v := .slice (some ⟨b223, o224, none⟩) x4.length c6) rfl (by rw [h225] <;> rfl) (qv 6 (.pointer (some ⟨b223, (o224 + x154.toNat * 1), none⟩)) rfl rfl rfl (qaW Tryz.underlying59 tf3 rfl rfl (zF e222).1 (qaw e222)) (qf (d := 21) (v := .slice a5 x4.length c6) rfl (by rw [h225] <;> rfl) (zr 7 (.int .i64 x222) [] rfl rfl rfl (vF (j := 0) rfl tf3 rfl rfl (fun _ => rfl) rfl) ?_)))
 refine au [6,8,24,1] ?_
 refine qt ?_ (by intro c h; cases h)
 refine av [1,9] ?_ ?_
 intro _
 exact az [2,4,5,0,1,8,22,11,11,22,11,17]
 intro _
 refine au [12,24,4,1,4,3,16,5,0] ?_
 exact qi (iadd .i64 x154 1, ())
 intro _
 exact az [24,8,18,18,24,9,25,13]
 rintro ⟨_, _⟩
 try dsimp only
 exact az [2,4,5,0,1,8,17]
set_option maxHeartbeats 4000000 in
theorem qfp {F : Nat} {x1 : List (List Int)} {a2 : Option Addr} {c3 : Nat} {s3 : List (Option Addr × Nat)} {x4 : List (List Int)} {a5 : Option Addr} {c6 : Nat} {s6 : List (Option Addr × Nat)} {r : Bool} (hm : jF F x1 x4 = some r) :
    Pure Tryz.prog 32 [.slice a2 x1.length c3, .slice a5 x4.length c6] [SlN eN59 iN59 1 (.slice a2 x1.length c3) x1 s3, SlN eN59 iN59 1 (.slice a5 x4.length c6) x4 s6] Unit (fun _ => .bool r) (fun _ => []) (fun _ => []) := by
 refine qh Tryz.func32 rfl Tryz.ntmps32 rfl hm (fun w => ?_)
 refine av [24,12,2,4,5,0,1,2,2,4,3,23,3,23,25,3,0,1,9] ?_ ?_
 intro _
 exact az [2,4,5,0,1,8,11,17]
 intro _
 refine au [12,1] ?_
 refine qe (fun ((_, _) : (Unit × Unit)) => ([], [], [], [], qbM F)) ?_ ?_
 refine au [2,4,5,0,1,15] ?_
 refine qk (fun ((x202, _) : (Int × Unit)) => ([(0, .slice a2 x1.length c3), (1, .slice a5 x4.length c6), (5, .int .i64 x202)], [], [], [SlN eN59 iN59 1 (.slice a2 x1.length c3) x1 s3, SlN eN59 iN59 1 (.slice a5 x4.length c6) x4 s6])) (fun k (s : (Int × Unit)) => k7 F x1 x4 k s.1) (0, ()) F ?_
 intro k251
 rintro ⟨x202, _⟩
 try dsimp only
 refine qz (m' := jx F x1 x4 (k7 F x1 x4 k251) x202) rfl ?_
 refine av [2,2,4,3,3,23,24,2,0,1,9] ?_ ?_
 intro _
 refine au [12,1,2,15,2] ?_
 refine qiF (j := 0) vu (by decide) rfl ?_
 intro x287 e287 g291 b288 o289 h290
 replace h290 : a2 = some ⟨b288, o289, none⟩ := h290
 refine qiF (j := 3) vu (by decide) rfl ?_
 intro x292 e292 g296 b293 o294 h295
 replace h295 : a5 = some ⟨b293, o294, none⟩ := h295
 refine qq mixed [] [] [qR b293 (o294 + x202.toNat * 1) (eN59 (x292, g296)), Sl (eI .i64) 1 (.slice g296.1 x292.length g296.2) x292, qR b288 (o289 + x202.toNat * 1) (eN59 (x287, g291)), Sl (eI .i64) 1 (.slice g291.1 x287.length g291.2) x287, SlN eN59 iN59 1 (.slice a2 x1.length c3) x1 s3, SlN eN59 iN59 1 (.slice a5 x4.length c6) x4 s6] .nil (qF 0 rfl (qF 1 rfl (qF 2 rfl (qF 3 rfl (qF 4 rfl (qF 5 rfl qm)))))) 10 rfl ?_
 refine au [6,0,6,1] ?_
 refine qf (d := 17) (v := .slice (some ⟨b288, o289, none⟩) x1.length c3) rfl (by rw [h290] <;> rfl) (qv 2 (.pointer (some ⟨b288, (o289 + x202.toNat * 1), none⟩)) rfl rfl rfl (qaW Tryz.underlying22 tf59 rfl rfl (zF e287).1 (qaw e287)) (qf (d := 17) (v := .slice a2 x1.length c3) rfl (by rw [h290] <;> rfl) (zr 3 (.slice g291.1 x287.length g291.2) [] rfl rfl rfl (vF (j := 2) rfl tf59 rfl rfl (fun _ => rfl) rfl) ?_)))
 refine au [6,4,6,5] ?_
 refine qf (d := 21) (v := .slice (some ⟨b293, o294, none⟩) x4.length c6) rfl (by rw [h295] <;> rfl) (qv 6 (.pointer (some ⟨b293, (o294 + x202.toNat * 1), none⟩)) rfl rfl rfl (qaW Tryz.underlying22 tf59 rfl rfl (zF e292).1 (qaw e292)) (qf (d := 21) (v := .slice a5 x4.length c6) rfl (by rw [h295] <;> rfl) (zr 7 (.slice g296.1 x292.length g296.2) [] rfl rfl rfl (vF (j := 0) rfl tf59 rfl rfl (fun _ => rfl) rfl) ?_)))
 refine au [20,8] ?_
 refine qg qgq ?_
 intro x297 e297 _
 refine au [0] ?_
 refine zT .nil (qF 0 rfl (qF 1 rfl (qF 2 rfl (qF 3 rfl (qF 4 rfl (qF 5 rfl qm)))))) ?_
 refine au [6,9,24,1] ?_
 refine qt ?_ (by intro c h; cases h)
 refine av [1,9] ?_ ?_
 intro _
 exact az [2,4,5,0,1,8,22,11,11,22,11,17]
 intro _
 refine au [12,24,4,1,4,3,16,5,0] ?_
 exact qi (iadd .i64 x202 1, ())
 intro _
 exact az [24,8,18,18,24,9,25,13]
 rintro ⟨_, _⟩
 try dsimp only
 exact az [2,4,5,0,1,8,17]
theorem qfo {F : Nat} {x1 : List (List Int)} {a2 : Option Addr} {c3 : Nat} {s3 : List (Option Addr × Nat)} {x4 : List (List Int)} {a5 : Option Addr} {c6 : Nat} {s6 : List (Option Addr × Nat)} {r : Bool} (hm : qaD F x1 x4 = some r) :
    Pure Tryz.prog 17 [.agg #[.slice a2 x1.length c3], .agg #[.slice a5 x4.length c6]] [SlN eN59 iN59 1 (.slice a2 x1.length c3) x1 s3, SlN eN59 iN59 1 (.slice a5 x4.length c6) x4 s6] Unit (fun _ => .bool r) (fun _ => []) (fun _ => []) := by
 refine qh Tryz.func17 rfl Tryz.ntmps17 rfl hm (fun w => ?_)
 refine au [24,12,2,4,24,5] ?_
 intro g7
 refine au [24,5] ?_
 intro g8
 refine au [5,0,1,2,4,13,25,11,13,21,34,6] ?_
 intro x9 e9 _
 exact az [5,0,1,8,17]
theorem qfm (F : Nat)  (r : List (List Int)) (hm : qaC F  = some r) :
    Pure Tryz.prog 31 [] [] (Option Addr × (Nat × List (Option Addr × Nat))) (fun g => .agg #[.slice g.1 r.length g.2.1]) (fun g => [RoN eN59 rN59 59 1 (.slice g.1 r.length g.2.1) r g.2.2 []]) (fun _ => []) := by
 refine qh Tryz.func31 rfl Tryz.ntmps31 rfl hm (fun w => ?_)
 refine au [34,7,2,4,24,6] ?_
 intro g1
 refine au [0,1,2,4] ?_
 refine qu (vs := [.int .i64 1, .int .i64 2, .int .i64 3, .int .i64 5]) (ys := ([1, 2, 3, 5] : List Int)) (qr .i64) (by decide) rfl Tryz.underlying59 tf3 rfl rfl rfl rfl rfl (by decide) (fun a2 c3 => qu (vs := [.int .i64 1, .int .i64 2, .int .i64 3, .int .i64 5]) (ys := ([1, 2, 3, 5] : List Int)) (qr .i64) (by decide) rfl Tryz.underlying59 tf3 rfl rfl rfl rfl rfl (by decide) (fun a4 c5 => qu (vs := [.int .i64 0, .int .i64 1, .int .i64 2, .int .i64 3, .int .i64 5]) (ys := ([0, 1, 2, 3, 5] : List Int)) (qr .i64) (by decide) rfl Tryz.underlying59 tf3 rfl rfl rfl rfl rfl (by decide) (fun a6 c7 => qu (vs := [.int .i64 4]) (ys := ([4] : List Int)) (qr .i64) (by decide) rfl Tryz.underlying59 tf3 rfl rfl rfl rfl rfl (by decide) (fun a8 c9 => qu (vs := [.int .i64 1, .int .i64 2, .int .i64 3]) (ys := ([1, 2, 3] : List Int)) (qr .i64) (by decide) rfl Tryz.underlying59 tf3 rfl rfl rfl rfl rfl (by decide) (fun a10 c11 => ?_)))))
 refine au [27,1] ?_
 refine qu (vs := [.slice a2 ([1, 2, 3, 5] : List Int).length c3, .slice a4 ([1, 2, 3, 5] : List Int).length c5, .slice a6 ([0, 1, 2, 3, 5] : List Int).length c7, .slice none ([] : List Int).length 0, .slice a8 ([4] : List Int).length c9, .slice a10 ([1, 2, 3] : List Int).length c11]) (ys := ([(([1, 2, 3, 5] : List Int), (a2, c3)), (([1, 2, 3, 5] : List Int), (a4, c5)), (([0, 1, 2, 3, 5] : List Int), (a6, c7)), (([] : List Int), (none, 0)), (([4] : List Int), (a8, c9)), (([1, 2, 3] : List Int), (a10, c11))] : List (List Int × (Option Addr × Nat)))) vu (by decide) rfl Tryz.underlying22 tf59 rfl rfl rfl rfl rfl (by decide) (fun a12 c13 => qca (rin := rN59) (i := 0) ([([1, 2, 3, 5] : List Int), ([1, 2, 3, 5] : List Int), ([0, 1, 2, 3, 5] : List Int), ([] : List Int), ([4] : List Int), ([1, 2, 3] : List Int)] : List (List Int)) ([(a2, c3), (a4, c5), (a6, c7), (none, 0), (a8, c9), (a10, c11)] : List (Option Addr × Nat)) rfl rfl (.cons 5 rfl (.cons 4 rfl (.cons 3 rfl (.cons 0 rfl (.cons 1 rfl (.cons 0 rfl .nil)))))) (qj (cells := [.slice a12 ([([1, 2, 3, 5] : List Int), ([1, 2, 3, 5] : List Int), ([0, 1, 2, 3, 5] : List Int), ([] : List Int), ([4] : List Int), ([1, 2, 3] : List Int)] : List (List Int)).length c13]) rfl st24 rfl (by kernel_rfl) rfl ?_))
 refine au [24,0,0,1,8] ?_
 exact qy (a12, (c13, ([(a2, c3), (a4, c5), (a6, c7), (none, 0), (a8, c9), (a10, c11)] : List (Option Addr × Nat)))) (resL (rs := [.cell 0 24]) rfl (.cell (i := 0) rfl tf24 rfl rfl (by simp) rfl ResOk.nil) rfl) (fun h => by subst h; exact (.cons 0 rfl .nil))
set_option maxHeartbeats 4000000 in
theorem qfl (F : Nat)  (r : Bool) (hm : qaB F  = some r) :
    Pure Tryz.prog 15 [] [] Unit (fun _ => .bool r) (fun _ => []) (fun _ => []) := by
 refine qh Tryz.func15 rfl Tryz.ntmps15 rfl hm (fun w => ?_)
 refine au [34,7,2,4,5,0,1,2,4] ?_
 refine qj (cells := [.int .i64 999, .int .i64 99, .int .i64 99, .int .i64 999]) rfl st29 rfl (by kernel_rfl) rfl ?_
 refine au [24,6] ?_
 intro g1
 refine au [24,0,0,1,2,4] ?_
 refine qu (vs := [.int .i64 1]) (ys := ([1] : List Int)) (qr .i64) (by decide) rfl Tryz.underlying59 tf3 rfl rfl rfl rfl rfl (by decide) (fun a2 c3 => ?_)
 refine au [28,8,27,1,28,8] ?_
 refine qu (vs := [.slice a2 ([1] : List Int).length c3, .slice none 0 0]) (ys := ([(([1] : List Int), (a2, c3)), (([] : List Int), (none, 0))] : List (List Int × (Option Addr × Nat)))) vu (by decide) rfl Tryz.underlying22 tf59 rfl rfl rfl rfl rfl (by decide) (fun a4 c5 => qcM (inn := iN59) ([([1] : List Int), ([] : List Int)] : List (List Int)) ([(a2, c3), (none, 0)] : List (Option Addr × Nat)) 0 rfl rfl (qB 1 rfl (qB 0 rfl js)) (qj (cells := [.slice a4 ([([1] : List Int), ([] : List Int)] : List (List Int)).length c5]) rfl st24 rfl (by kernel_rfl) rfl (qj (cells := [.int .i64 0, .int .i64 0, .int .i64 0]) rfl st26 rfl (by kernel_rfl) rfl ?_)))
 refine au [34,8] ?_
 rintro x6 e6 ⟨a7, c8⟩
 refine au [3,14,14,5,5,0,1,2,4,34,9] ?_
 rintro x9 e9 ⟨a10, c11⟩
 refine qj (cells := [.int .i64 2, .int .i64 3, .int .i64 1]) rfl st26 rfl (by kernel_rfl) rfl ?_
 refine au [34,8] ?_
 rintro x12 e12 ⟨a13, c14⟩
 refine au [3,14,14,5,5,0,1,2,4,3,25,0,28,11] ?_
 rintro x15 e15 ⟨a16, c17⟩
 refine au [3,14,14,14,24,6] ?_
 intro g18
 refine au [24,0,5,5,0,1,2,4,3,25,8,28,11] ?_
 rintro x19 e19 ⟨a20, c21⟩
 refine au [3,14,14,14,24,6] ?_
 intro g22
 refine au [24,0,5,5,0,1,2,4,3,28,12] ?_
 intro x23 e23 _
 refine au [3,14,14,24,6] ?_
 intro g24
 refine au [24,0,5,0,1,2,4,3] ?_
 refine qj (cells := [.int .i64 999, .int .i64 99, .int .i64 99, .int .i64 3]) rfl st29 rfl (by kernel_rfl) rfl ?_
 refine au [28,11] ?_
 rintro x25 e25 ⟨a26, c27⟩
 refine au [3,14,14,14,24,6] ?_
 intro g28
 refine au [24,0,5,5,0,1,2,4] ?_
 refine qu (vs := [.int .u8 76, .int .u8 87, .int .u8 1]) (ys := ([76, 87, 1] : List Int)) (qr .u8) (by decide) rfl Tryz.underlying27 tf5 rfl rfl rfl rfl rfl (by decide) (fun a29 c30 => ?_)
 refine au [33,3,28,11] ?_
 rintro x31 e31 ⟨a32, c33⟩
 refine au [3,14,14,14,24,6] ?_
 intro g34
 refine au [24,0,5,5,0,1] ?_
 refine qe (fun ((x59, _) : (Bool × Unit)) => ([(0, .bool x59)], [], [], [], qH F x59)) ?_ ?_
 refine qq mixed [] [⟨g34, 24, [.slice a32 x31.1.length c33.1]⟩, ⟨g28, 24, [.slice a26 x25.1.length c27.1]⟩, ⟨g24, 29, [.int .i64 x23.1, .int .i64 x23.2.1, .int .i64 x23.2.2.1, .int .i64 x23.2.2.2.1]⟩, ⟨g22, 24, [.slice a20 x19.1.length c21.1]⟩, ⟨g18, 24, [.slice a16 x15.1.length c17.1]⟩, ⟨g1, 29, [.int .i64 999, .int .i64 99, .int .i64 99, .int .i64 999]⟩] [SlN eN59 iN59 1 (.slice a4 ([([1] : List Int), ([] : List Int)] : List (List Int)).length c5) ([([1] : List Int), ([] : List Int)] : List (List Int)) ([(a2, c3), (none, 0)] : List (Option Addr × Nat)), Sl (eI .i64) 1 (.slice none ([] : List Int).length 0) ([] : List Int), Sl (eI .i64) 1 (.slice a2 ([1] : List Int).length c3) ([1] : List Int)] (.cons 0 rfl (.cons 0 rfl (.cons 0 rfl (.cons 0 rfl (.cons 0 rfl (.cons 0 rfl .nil)))))) (qF 0 rfl (qF 1 rfl (qF 2 rfl qm))) 57 rfl ?_
 refine au [6,0,20,1] ?_
 refine qu (vs := [.int .u8 76, .int .u8 87, .int .u8 1, .int .u8 2, .int .u8 1, .int .u8 2, .int .u8 0]) (ys := ([76, 87, 1, 2, 1, 2, 0] : List Int)) (qr .u8) (by decide) rfl Tryz.underlying27 tf5 rfl rfl rfl rfl rfl (by decide) (fun a60 c61 => ?_)
 refine au [0,30,9,20,2] ?_
 refine qg qfn ?_
 intro x62 e62 _
 refine av [0,30,9,6,3,26,3] ?_ ?_
 intro h63
 refine qf (d := 71) (v := .bool true) rfl (by rw [h63] <;> rfl) ?_
 refine av [6,4,6,5,6,6,6,7,26,3] ?_ ?_
 intro h64
 refine qf (d := 75) (v := .bool true) rfl (by rw [h64] <;> rfl) ?_
 refine av [6,8,6,9,6,10,6,11,26,3] ?_ ?_
 intro h65
 refine qf (d := 79) (v := .bool true) rfl (by rw [h65] <;> rfl) ?_
 refine au [19,12] ?_
 refine zG 13 _ rfl rfl rfl (qZ (i := 4) rfl inferInstance rfl rfl (fun _ => rfl) rfl) ?_
 refine au [20,14] ?_
 refine qu (vs := [.int .i64 1]) (ys := ([1] : List Int)) (qr .i64) (by decide) rfl Tryz.underlying59 tf3 rfl rfl rfl rfl rfl (by decide) (fun a66 c67 => ?_)
 refine au [0,30,9,20,15,28,8,27,1] ?_
 refine qu (vs := [.slice a66 ([1] : List Int).length c67, .slice none 0 0]) (ys := ([(([1] : List Int), (a66, c67)), (([] : List Int), (none, 0))] : List (List Int × (Option Addr × Nat)))) vu (by decide) rfl Tryz.underlying22 tf59 rfl rfl rfl rfl rfl (by decide) (fun a68 c69 => qcM (inn := iN59) ([([1] : List Int), ([] : List Int)] : List (List Int)) ([(a66, c67), (none, 0)] : List (Option Addr × Nat)) 0 rfl rfl (qB 0 rfl (qB 2 rfl js)) ?_)
 refine au [0,28,13,20,16,34,6] ?_
 intro x70 e70 _
 refine av [0,28,13,6,17,6,18,26,3] ?_ ?_
 intro h71
 refine qf (d := 86) (v := .bool true) rfl (by rw [h71] <;> rfl) ?_
 refine av [6,19,6,20,6,21,6,22,26,3] ?_ ?_
 intro h72
 refine qf (d := 90) (v := .bool true) rfl (by rw [h72] <;> rfl) ?_
 refine av [6,23,6,24,6,25,6,26,26,3] ?_ ?_
 intro h73
 refine qf (d := 94) (v := .bool true) rfl (by rw [h73] <;> rfl) (zG 27 (.agg #[.slice a20 x19.1.length c21.1]) rfl rfl rfl (qZ (i := 3) rfl tf24 rfl rfl (by simp) rfl) ?_)
 refine au [20,28,34,9] ?_
 rintro x74 e74 ⟨a75, c76⟩
 refine au [0,28,13,20,29] ?_
 refine qg qfo ?_
 intro x77 e77 _
 refine av [0,28,13,6,30,6,31,26,3] ?_ ?_
 intro h78
 refine qf (d := 99) (v := .bool true) rfl (by rw [h78] <;> rfl) ?_
 refine av [6,32,6,33,6,34,6,35,26,3] ?_ ?_
 intro h79
 refine qf (d := 103) (v := .bool true) rfl (by rw [h79] <;> rfl) ?_
 refine av [6,36,6,37,6,38,6,39,26,3] ?_ ?_
 intro h80
 refine qf (d := 107) (v := .bool true) rfl (by rw [h80] <;> rfl) (zG 40 (.agg #[.int .i64 x23.1, .int .i64 x23.2.1, .int .i64 x23.2.2.1, .int .i64 x23.2.2.2.1]) rfl rfl rfl (qZ (i := 2) rfl tf29 rfl rfl (by simp) rfl) (qv 41 (.agg #[.int .i64 7, .int .i64 2, .int .i64 1, .int .i64 4]) rfl rfl rfl (qcz (cells := [.int .i64 7, .int .i64 2, .int .i64 1, .int .i64 4]) st29 rfl (by kernel_rfl)) (qv 42 (.bool (((x23.1 : Int) == 7) && (((x23.2.1 : Int) == 2) && (((x23.2.2.1 : Int) == 1) && ((x23.2.2.2.1 : Int) == 4))))) rfl rfl rfl (qoV rfl rfl se29) ?_)))
 refine av [6,43,6,44,26,3] ?_ ?_
 intro h81
 refine qf (d := 112) (v := .bool true) rfl (by rw [h81] <;> rfl) ?_
 refine av [6,45,6,46,6,47,6,48,26,3] ?_ ?_
 intro h82
 refine qf (d := 116) (v := .bool true) rfl (by rw [h82] <;> rfl) ?_
 refine av [6,49,6,50,6,51,6,52,26,3] ?_ ?_
 intro h83
 refine qf (d := 120) (v := .bool true) rfl (by rw [h83] <;> rfl) ?_
 refine au [6,53,6,54,6,55,6,56,24,1] ?_
 exact qt (qa (((x31.2.2 : Int) == 1), ())) (by intro c h; cases h)
 intro h83
 refine qf (d := 120) (v := .bool false) rfl (by rw [h83] <;> rfl) ?_
 refine au [7,53,7,54,6,55,6,56,24,1] ?_
 exact qt (qa (false, ())) (by intro c h; cases h)
 intro h82
 refine qf (d := 116) (v := .bool false) rfl (by rw [h82] <;> rfl) ?_
 refine au [7,49,7,50,6,51,6,52,7,53,7,54,6,55,6,56,24,1] ?_
 exact qt (qa (false, ())) (by intro c h; cases h)
 intro h81
 refine qf (d := 112) (v := .bool false) rfl (by rw [h81] <;> rfl) ?_
 refine au [7,45,7,46,6,47,6,48,7,49,7,50,6,51,6,52,7,53,7,54,6,55,6,56,24,1] ?_
 exact qt (qa (false, ())) (by intro c h; cases h)
 intro h80
 refine qf (d := 107) (v := .bool false) rfl (by rw [h80] <;> rfl) ?_
 refine au [7,40,7,41,7,42,6,43,6,44,7,45,7,46,6,47,6,48,7,49,7,50,6,51,6,52,7,53,7,54,6,55,6,56,24,1] ?_
 exact qt (qa (false, ())) (by intro c h; cases h)
 intro h79
 refine qf (d := 103) (v := .bool false) rfl (by rw [h79] <;> rfl) ?_
 refine au [7,36,7,37,6,38,6,39,7,40,7,41,7,42,6,43,6,44,7,45,7,46,6,47,6,48,7,49,7,50,6,51,6,52,7,53,7,54,6,55,6,56,24,1] ?_
 exact qt (qa (false, ())) (by intro c h; cases h)
 intro h78
 refine qf (d := 99) (v := .bool false) rfl (by rw [h78] <;> rfl) ?_
 refine au [7,32,7,33,6,34,6,35,7,36,7,37,6,38,6,39,7,40,7,41,7,42,6,43,6,44,7,45,7,46,6,47,6,48,7,49,7,50,6,51,6,52,7,53,7,54,6,55,6,56,24,1] ?_
 exact qt (qa (false, ())) (by intro c h; cases h)
 intro h73
 refine qf (d := 94) (v := .bool false) rfl (by rw [h73] <;> rfl) ?_
 refine au [7,27,7,28,7,29,6,30,6,31,7,32,7,33,6,34,6,35,7,36,7,37,6,38,6,39,7,40,7,41,7,42,6,43,6,44,7,45,7,46,6,47,6,48,7,49,7,50,6,51,6,52,7,53,7,54,6,55,6,56,24,1] ?_
 exact qt (qa (false, ())) (by intro c h; cases h)
 intro h72
 refine qf (d := 90) (v := .bool false) rfl (by rw [h72] <;> rfl) ?_
 refine au [7,23,7,24,6,25,6,26,7,27,7,28,7,29,6,30,6,31,7,32,7,33,6,34,6,35,7,36,7,37,6,38,6,39,7,40,7,41,7,42,6,43,6,44,7,45,7,46,6,47,6,48,7,49,7,50,6,51,6,52,7,53,7,54,6,55,6,56,24,1] ?_
 exact qt (qa (false, ())) (by intro c h; cases h)
 intro h71
 refine qf (d := 86) (v := .bool false) rfl (by rw [h71] <;> rfl) ?_
 refine au [7,19,7,20,6,21,6,22,7,23,7,24,6,25,6,26,7,27,7,28,7,29,6,30,6,31,7,32,7,33,6,34,6,35,7,36,7,37,6,38,6,39,7,40,7,41,7,42,6,43,6,44,7,45,7,46,6,47,6,48,7,49,7,50,6,51,6,52,7,53,7,54,6,55,6,56,24,1] ?_
 exact qt (qa (false, ())) (by intro c h; cases h)
 intro h65
 refine qf (d := 79) (v := .bool false) rfl (by rw [h65] <;> rfl) ?_
 refine au [7,12,7,13,7,14,7,15,7,16,6,17,6,18,7,19,7,20,6,21,6,22,7,23,7,24,6,25,6,26,7,27,7,28,7,29,6,30,6,31,7,32,7,33,6,34,6,35,7,36,7,37,6,38,6,39,7,40,7,41,7,42,6,43,6,44,7,45,7,46,6,47,6,48,7,49,7,50,6,51,6,52,7,53,7,54,6,55,6,56,24,1] ?_
 exact qt (qa (false, ())) (by intro c h; cases h)
 intro h64
 refine qf (d := 75) (v := .bool false) rfl (by rw [h64] <;> rfl) ?_
 refine au [7,8,7,9,6,10,6,11,7,12,7,13,7,14,7,15,7,16,6,17,6,18,7,19,7,20,6,21,6,22,7,23,7,24,6,25,6,26,7,27,7,28,7,29,6,30,6,31,7,32,7,33,6,34,6,35,7,36,7,37,6,38,6,39,7,40,7,41,7,42,6,43,6,44,7,45,7,46,6,47,6,48,7,49,7,50,6,51,6,52,7,53,7,54,6,55,6,56,24,1] ?_
 exact qt (qa (false, ())) (by intro c h; cases h)
 intro h63
 refine qf (d := 71) (v := .bool false) rfl (by rw [h63] <;> rfl) ?_
 refine au [7,4,7,5,6,6,6,7,7,8,7,9,6,10,6,11,7,12,7,13,7,14,7,15,7,16,6,17,6,18,7,19,7,20,6,21,6,22,7,23,7,24,6,25,6,26,7,27,7,28,7,29,6,30,6,31,7,32,7,33,6,34,6,35,7,36,7,37,6,38,6,39,7,40,7,41,7,42,6,43,6,44,7,45,7,46,6,47,6,48,7,49,7,50,6,51,6,52,7,53,7,54,6,55,6,56,24,1] ?_
 exact qt (qa (false, ())) (by intro c h; cases h)
 rintro ⟨x59, _⟩
 try dsimp only
 exact az [8,17]
set_option maxHeartbeats 4000000 in
theorem qhz (F : Nat) (x1 : List Int) (a2 : Option Addr) (c3 : Nat) (x4 : List Int) (a5 : Option Addr) (c6 : Nat) (x7 : Int) (r : Bool) (hm : qcn F x1 x4 x7 = some r) :
    Pure Tryz.prog 7 [.slice a2 x1.length c3, .slice a5 x4.length c6, .int .i64 x7] [Sl (eI .u8) 1 (.slice a2 x1.length c3) x1, Sl (eI .u8) 1 (.slice a5 x4.length c6) x4] Unit (fun _ => .bool r) (fun _ => []) (fun _ => []) := by
 refine qh Tryz.func7 rfl Tryz.ntmps7 rfl hm (fun w => ?_)
 refine au [25,12,2,4,5,0,1,2,4,3,28,12] ?_
 intro x8 e8 _
 refine au [3,14,14,24,6] ?_
 intro g9
 refine au [24,0,5,0,1,2,2,4] ?_
 refine qg (fun h => qfl F _ h) ?_
 intro x12 e12 _
 refine av [25,1,0,1,9] ?_ ?_
 intro _
 exact az [2,4,5,0,1,8,11,17]
 intro _
 refine av [12,1,2,2,4,3,25,3,0,1,9] ?_ ?_
 intro _
 exact az [2,4,5,0,1,8,11,17]
 intro _
 refine au [12,1] ?_
 refine qe (fun ((_, _) : (Unit × Unit)) => ([(0, .slice a2 x1.length c3), (1, .slice a5 x4.length c6)], [], [], [Sl (eI .u8) 1 (.slice a2 x1.length c3) x1, Sl (eI .u8) 1 (.slice a5 x4.length c6) x4], jh F x1 x4)) ?_ ?_
 refine au [2,4,3,26,0,3] ?_
 refine qN 5 (decide (0 ≤ x7)) [(0, .slice a2 x1.length c3), (1, .slice a5 x4.length c6), (2, .int .i64 x7), (29, .bool ((decide (0 ≤ x7)) && (decide (x7 < (x1.length : Int)))))] (fun h35 => ?_) (fun h35 => ?_) ?_
 refine qc (os := _) rfl (qE (k := 24) rfl h35 ?_)
 refine au [3,3,23,24,2,24,10] ?_
 refine qd (d := 29) (v := .bool ((decide (0 ≤ x7)) && (decide (x7 < (x1.length : Int))))) rfl (by rw [h35]; simp only [Bool.true_and]) ?_
 exact az [0,24,3]
 refine qc (os := _) rfl (qD (k := 24) rfl h35 ?_)
 refine au [10,10,10,10,24,11] ?_
 refine qd (d := 29) (v := .bool ((decide (0 ≤ x7)) && (decide (x7 < (x1.length : Int))))) rfl (by rw [h35]; simp only [Bool.false_and]) ?_
 exact az [0,24,3]
 refine qc (os := _) rfl ?_
 refine av [0,1,9] ?_ ?_
 intro _
 refine au [2,4,3,3,34,0] ?_
 intro x36 e36 a37 c38
 refine au [28,12] ?_
 intro x39 e39 _
 refine au [3,14,14,24,6] ?_
 intro g40
 refine av [24,0,5,0,1,2,4,3,25,3,0,1,9] ?_ ?_
 intro _
 exact az [2,4,5,0,1,8,11,17]
 intro _
 exact az [12,25,13]
 intro _
 exact az [12,25,13]
 rintro ⟨_, _⟩
 try dsimp only
 refine av [2,2,4,3,23,25,2,0,1,9] ?_ ?_
 intro _
 exact az [2,4,5,0,1,8,11,17]
 intro _
 refine au [12,1,2,4,31,3] ?_
 intro a23 c24
 refine au [3,31,4] ?_
 intro x25 e25 a26 c27
 refine au [3] ?_
 refine zW 0 (qr .u8) rfl UnF.u inferInstance rfl rfl rfl rfl rfl (.inr ⟨1, rfl⟩) rfl rfl ?_
 intro x28 e28 a29 c30
 refine au [28,12] ?_
 intro x31 e31 _
 refine au [3,14,14,24,6] ?_
 intro g32
 refine au [24,0,5,0,1,2,4,3,25,2,3] ?_
 refine qN 3 ((x31.2.2.2.2 : Int) == 1) [(56, .bool (((x31.2.2.2.2 : Int) == 1) || ((x31.2.2.2.2 : Int) == 2)))] (fun h33 => ?_) (fun h33 => ?_) ?_
 refine qc (os := _) rfl (qE (k := 53) rfl h33 ?_)
 refine au [10,10,24,10] ?_
 refine qd (d := 56) (v := .bool (((x31.2.2.2.2 : Int) == 1) || ((x31.2.2.2.2 : Int) == 2))) rfl (by rw [h33]; simp only [Bool.true_or]) ?_
 exact az [0,24,3]
 refine qc (os := _) rfl (qD (k := 53) rfl h33 ?_)
 refine au [3,25,2,24,11] ?_
 refine qd (d := 56) (v := .bool (((x31.2.2.2.2 : Int) == 1) || ((x31.2.2.2.2 : Int) == 2))) rfl (by rw [h33]; simp only [Bool.false_or]) ?_
 exact az [0,24,3]
 refine qc (os := _) rfl ?_
 exact az [5,0,1,8,17]
end Go.Proofs.YtlioijpkhffbnaaGreat
