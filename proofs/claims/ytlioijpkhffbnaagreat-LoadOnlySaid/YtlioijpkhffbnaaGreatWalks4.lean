/- Each Go function of this seat computes what its model says, part 4. -/
import Derived.Test.YtlioijpkhffbnaaGreatWalks3
namespace Go.Proofs.YtlioijpkhffbnaaGreat
open Go SX
set_option maxHeartbeats 4000000 in
theorem qhO {F : Nat} {x1 : List Int} {a2 : Option Addr} {c3 : Nat} {x4 : Int} {x5 : Int} {x6 : Int} {x7 : Int} {r : (List (List Int) × Int × Int)} (hm : zH F x1 x4 x5 x6 x7 = some r) :
    Pure Tryz.prog 11 [.slice a2 x1.length c3, .agg #[.int .i64 x4, .int .i64 x5, .int .i64 x6, .int .i64 x7]] [Sl (eI .u8) 1 (.slice a2 x1.length c3) x1] (Option Addr × (Nat × List (Option Addr × Nat))) (fun g => .tuple #[.agg #[.slice g.1 r.1.length g.2.1], .int .i64 r.2.1, .int .i64 r.2.2]) (fun g => [RoN eN59 rN59 59 1 (.slice g.1 r.1.length g.2.1) r.1 g.2.2 []]) (fun _ => []) := by
 refine qh Tryz.func11 rfl Tryz.ntmps11 rfl hm (fun w => ?_)
 refine au [24,12,2,4,24,5] ?_
 intro g8
 refine au [24,6] ?_
 intro g9
 refine av [5,5,0,1,2,2,4,3,24,0,13,25,11,24,13,0,1,10] ?_ ?_
 intro _
 refine au [2,4] ?_
 refine qj (cells := [.slice none 0 0]) rfl st24 rfl (by kernel_rfl) rfl ?_
 refine au [23,5,5,0,1,9,11,25,13] ?_
 exact qB (none, (0, ([] : List (Option Addr × Nat)))) (resL (rs := [.cell 4 24, .tmp 5, .tmp 6]) rfl (.cell (i := 0) rfl tf24 rfl rfl (by simp) rfl (.tmp rfl (.tmp rfl ResOk.nil))) rfl) (fun h => by subst h; exact (.cons 0 rfl .nil))
 intro _
 refine au [12,1,2,4,3,34,1] ?_
 rintro x11 e11 ⟨a12, c13⟩
 refine au [3,14,14,14,24,6] ?_
 intro g14
 refine au [23,5,5,0,1] ?_
 refine qe (fun ((x25, _) : (Int × Unit)) => ([(4, .pointer (some ⟨g9, 0, none⟩)), (7, .pointer (some ⟨g14, 0, none⟩)), (8, .int .i64 x11.2.1), (9, .int .i64 x25)], [⟨g14, 24, [.slice a12 x11.1.length c13.1]⟩, ⟨g9, 24, [.slice none 0 0]⟩], [RoN eN59 rN59 59 1 (.slice a12 x11.1.length c13.1) x11.1 c13.2 []], [], jn F x11 x25)) ?_ ?_
 refine qe (fun ((x32, _) : (Bool × Unit)) => ([(4, .pointer (some ⟨g9, 0, none⟩)), (7, .pointer (some ⟨g14, 0, none⟩)), (8, .int .i64 x11.2.1), (9, .int .i64 x11.2.2), (44, .bool x32)], [⟨g14, 24, [.slice a12 x11.1.length c13.1]⟩, ⟨g9, 24, [.slice none 0 0]⟩], [RoN eN59 rN59 59 1 (.slice a12 x11.1.length c13.1) x11.1 c13.2 []], [], yd F x11 x32)) ?_ ?_
 refine av [26,14] ?_ ?_
 intro h34
 refine av [26,14] ?_ ?_
 intro h35
 refine qn mixed [] [⟨g14, 24, [.slice a12 x11.1.length c13.1]⟩, ⟨g9, 24, [.slice none 0 0]⟩, ⟨g8, 29, [.int .i64 x4, .int .i64 x5, .int .i64 x6, .int .i64 x7]⟩] [Sl (eI .u8) 1 (.slice a2 x1.length c3) x1] (.cons 0 rfl (.cons 0 rfl (.cons 0 rfl .nil))) (qE 0 rfl qm) 23 rfl ?_
 refine au [6,0,6,1,6,2] ?_
 refine qf (d := 24) (v := .bool true) rfl (by rw [h34] <;> rfl) ?_
 refine au [19,3,25,7,4,26,8,5,19,6,27,13,7,6,8,6,9] ?_
 refine qf (d := 31) (v := .bool true) rfl (by rw [h35] <;> rfl) ?_
 refine au [7,10,7,11,7,12,7,13,7,14,6,15,6,16,7,17,7,18,7,19,7,20,6,21,6,22,24,1] ?_
 exact qt (qa (true, ())) (by intro c h; cases h)
 intro h35
 refine qn mixed [] [⟨g14, 24, [.slice a12 x11.1.length c13.1]⟩, ⟨g9, 24, [.slice none 0 0]⟩, ⟨g8, 29, [.int .i64 x4, .int .i64 x5, .int .i64 x6, .int .i64 x7]⟩] [Sl (eI .u8) 1 (.slice a2 x1.length c3) x1] (.cons 0 rfl (.cons 0 rfl (.cons 0 rfl .nil))) (qE 0 rfl qm) 23 rfl ?_
 refine au [6,0,6,1,6,2] ?_
 refine qf (d := 24) (v := .bool true) rfl (by rw [h34] <;> rfl) ?_
 refine au [19,3,25,7,4,26,8,5,19,6,27,13,7,6,8,6,9] ?_
 refine qf (d := 31) (v := .bool false) rfl (by rw [h35] <;> rfl) (zm 10 (.agg #[.slice a12 x11.1.length c13.1]) rfl rfl rfl (qS (i := 0) rfl tf24 rfl rfl (by simp) rfl) ?_)
 refine au [19,12,27,13,13,20,11,34,2] ?_
 intro x36 e36 _
 refine au [0] ?_
 refine zT (.cons 0 rfl (.cons 0 rfl (.cons 0 rfl .nil))) (qE 0 rfl qm) ?_
 refine av [6,14,6,15,6,16,26,3] ?_ ?_
 intro h37
 refine qf (d := 38) (v := .bool true) rfl (by rw [h37] <;> rfl) ?_
 refine au [7,17,7,18,7,19,7,20,6,21,6,22,24,1] ?_
 exact qt (qa (true, ())) (by intro c h; cases h)
 intro h37
 refine qf (d := 38) (v := .bool false) rfl (by rw [h37] <;> rfl) ?_
 refine au [6,17,19,18,27,13,19,6,20,6,21,6,22,24,1] ?_
 exact qt (qa ((decide (x7 < x11.2.1)), ())) (by intro c h; cases h)
 intro h34
 refine qn mixed [] [⟨g14, 24, [.slice a12 x11.1.length c13.1]⟩, ⟨g9, 24, [.slice none 0 0]⟩, ⟨g8, 29, [.int .i64 x4, .int .i64 x5, .int .i64 x6, .int .i64 x7]⟩] [Sl (eI .u8) 1 (.slice a2 x1.length c3) x1] (.cons 0 rfl (.cons 0 rfl (.cons 0 rfl .nil))) (qE 0 rfl qm) 23 rfl ?_
 refine au [6,0,6,1,6,2] ?_
 refine qf (d := 24) (v := .bool false) rfl (by rw [h34] <;> rfl) ?_
 refine au [7,3,7,4,7,5,7,6,7,7,7,8,7,9,7,10,7,11,7,12,7,13,7,14,7,15,7,16,7,17,7,18,7,19,7,20,7,21,6,22,24,1] ?_
 exact qt (qa (false, ())) (by intro c h; cases h)
 rintro ⟨x32, _⟩
 try dsimp only
 refine av [10] ?_ ?_
 intro _
 refine au [4,5,0] ?_
 exact qa ((8 : Int), ())
 intro _
 refine au [12] ?_
 exact qa (x11.2.2, ())
 rintro ⟨x25, _⟩
 try dsimp only
 refine av [2,2,4,3,25,3,0,1,10] ?_ ?_
 intro _
 refine au [2,4] ?_
 refine qj (cells := [.slice none 0 0]) rfl st24 rfl (by kernel_rfl) rfl ?_
 refine au [3,25,6,5,5,0,1,9,11,25,13] ?_
 exact qB (none, (0, ([] : List (Option Addr × Nat)))) (resL (rs := [.cell 4 24, .tmp 5, .tmp 6]) rfl (.cell (i := 1) rfl tf24 rfl rfl (by simp) rfl (.tmp rfl (.tmp rfl ResOk.nil))) rfl) (fun h => by subst h; exact (.cons 0 rfl .nil))
 intro _
 refine au [12,1,2,4,24,14,3,25,6,5,5,0,1,9] ?_
 exact qB (a12, c13) (resL (rs := [.cell 4 24, .tmp 5, .tmp 6]) rfl (.cell (i := 1) rfl tf24 rfl rfl (by simp) rfl (.tmp rfl (.tmp rfl ResOk.nil))) rfl) (fun h => by subst h; exact (.cons 0 rfl .nil))
set_option maxHeartbeats 4000000 in
theorem qhN {F : Nat} {x1 : List Int} {a2 : Option Addr} {c3 : Nat} {r : (Int × Int × Int × Int × Int)} (hm : vg F x1 = some r) :
    Pure Tryz.prog 12 [.slice a2 x1.length c3] [Sl (eI .u8) 1 (.slice a2 x1.length c3) x1] Unit (fun _ => .tuple #[.agg #[.int .i64 r.1, .int .i64 r.2.1, .int .i64 r.2.2.1, .int .i64 r.2.2.2.1], .int .i64 r.2.2.2.2]) (fun _ => []) (fun _ => []) := by
 refine qh Tryz.func12 rfl Tryz.ntmps12 rfl hm (fun w => ?_)
 refine au [25,5,2,4,24,6] ?_
 intro g4
 refine au [5,0,1,2,4,3,34,1] ?_
 rintro x5 e5 ⟨a6, c7⟩
 refine au [3,14,14,14,24,6] ?_
 intro g8
 refine av [23,5,5,0,1,2,2,4,3,25,3,0,1,10] ?_ ?_
 intro _
 refine au [2,4] ?_
 refine qj (cells := [.int .i64 0, .int .i64 0, .int .i64 0, .int .i64 0]) rfl st29 rfl (by kernel_rfl) rfl ?_
 refine au [3,25,6,5,0,1,9,11] ?_
 exact qB () (resL (rs := [.cell 2 29, .tmp 3]) rfl (.cell (i := 1) rfl tf29 rfl rfl (by simp) rfl (.tmp rfl ResOk.nil)) rfl)
 intro _
 refine au [12,1,2] ?_
 refine qn mixed [] [⟨g8, 24, [.slice a6 x5.1.length c7.1]⟩] [Sl (eI .u8) 1 (.slice a2 x1.length c3) x1] (.cons 0 rfl .nil) (qE 0 rfl qm) 11 rfl ?_
 refine au [6,0,26,8,1,19,2,25,7,3,26,8,4] ?_
 refine zm 5 (.agg #[.slice a6 x5.1.length c7.1]) rfl rfl rfl (qS (i := 0) rfl tf24 rfl rfl (by simp) rfl) ?_
 refine au [6,7,20,6,34,2] ?_
 intro x11 e11 _
 refine au [0,26,9] ?_
 refine qu 8 (.agg #[.int .i64 (x1.length : Int), .int .i64 (x5.1.length : Int), .int .i64 x11, .int .i64 x5.2.1]) rfl rfl rfl (qcC (cells := [.int .i64 (x1.length : Int), .int .i64 (x5.1.length : Int), .int .i64 x11, .int .i64 x5.2.1]) st29 rfl (by kernel_rfl)) ?_
 refine au [20,9,25,6,0,26,9,6,10,24,1] ?_
 refine qt ?_ (by intro c h; cases h)
 refine au [1,9] ?_
 exact qB () (resL (rs := [.cell 2 29, .tmp 3]) rfl (.cell (i := 1) rfl tf29 rfl rfl (by simp) rfl (.tmp rfl ResOk.nil)) rfl)
set_option maxHeartbeats 4000000 in
theorem qft {F : Nat} {x1 : List Int} {a2 : Option Addr} {c3 : Nat} {x4 : List Int} {a5 : Option Addr} {c6 : Nat} {r : Bool} (hm : vI F x1 x4 = some r) :
    Pure Tryz.prog 16 [.slice a2 x1.length c3, .slice a5 x4.length c6] [Sl (eI .u8) 1 (.slice a2 x1.length c3) x1, Sl (eI .u8) 1 (.slice a5 x4.length c6) x4] Unit (fun _ => .bool r) (fun _ => []) (fun _ => []) := by
 refine qh Tryz.func16 rfl Tryz.ntmps16 rfl hm (fun w => ?_)
 refine av [24,12,2,4,5,0,1,2,2,4,3,24,0,3,24,0,25,3,0,1,10] ?_ ?_
 intro _
 exact az [2,4,5,0,1,9,11,17]
 intro _
 refine au [12,1] ?_
 refine qe (fun ((_, _) : (Unit × Unit)) => ([], [], [], [], qbN F)) ?_ ?_
 refine au [2,4,5,0,1,15] ?_
 refine qk (fun ((x154, _) : (Int × Unit)) => ([(0, .slice a2 x1.length c3), (1, .slice a5 x4.length c6), (5, .int .i64 x154)], [], [], [Sl (eI .u8) 1 (.slice a2 x1.length c3) x1, Sl (eI .u8) 1 (.slice a5 x4.length c6) x4])) (fun k (s : (Int × Unit)) => k6 F x1 x4 k s.1) (0, ()) F ?_
 intro k191
 rintro ⟨x154, _⟩
 try dsimp only
 refine qC (m' := jw F x1 x4 (k6 F x1 x4 k191) x154) rfl ?_
 refine av [2,2,4,3,3,24,0,24,3,0,1,10] ?_ ?_
 intro _
 refine au [12,1,2,15,2,28,12] ?_
 intro x218 e218 b219 o220 h221
 replace h221 : a2 = some ⟨b219, o220, none⟩ := h221
 refine au [33,14] ?_
 intro x222 e222 b223 o224 h225
 replace h225 : a5 = some ⟨b223, o224, none⟩ := h225
 refine qn mixed [] [] [qQ b223 (o224 + x154.toNat * 1) ((eI .u8) x222), qQ b219 (o220 + x154.toNat * 1) ((eI .u8) x218), Sl (eI .u8) 1 (.slice a2 x1.length c3) x1, Sl (eI .u8) 1 (.slice a5 x4.length c6) x4] .nil (qE 0 rfl (qE 1 rfl (qE 2 rfl (qE 3 rfl qm)))) 9 rfl ?_
 refine au [6,0,6,1] ?_
 refine qf (d := 17) (v := .slice (some ⟨b219, o220, none⟩) x1.length c3) rfl (by rw [h221] <;> rfl) (qu 2 (.pointer (some ⟨b219, (o220 + x154.toNat * 1), none⟩)) rfl rfl rfl (qaB Tryz.underlying27 tf5 rfl rfl (zC e218).1 (qao e218)) (qf (d := 17) (v := .slice a2 x1.length c3) rfl (by rw [h221] <;> rfl) (zk 3 (.int .u8 x218) [] rfl rfl rfl (va (j := 1) rfl tf5 rfl rfl (fun _ => rfl) rfl) ?_)))
 refine au [6,4,6,5] ?_
 refine qf (d := 21) (v := .slice (some ⟨b223, o224, none⟩) x4.length c6) rfl (by rw [h225] <;> rfl) (qu 6 (.pointer (some ⟨b223, (o224 + x154.toNat * 1), none⟩)) rfl rfl rfl (qaB Tryz.underlying27 tf5 rfl rfl (zC e222).1 (qao e222)) (qf (d := 21) (v := .slice a5 x4.length c6) rfl (by rw [h225] <;> rfl) (zk 7 (.int .u8 x222) [] rfl rfl rfl (va (j := 0) rfl tf5 rfl rfl (fun _ => rfl) rfl) ?_)))
 refine au [6,8,24,1] ?_
 refine qt ?_ (by intro c h; cases h)
 refine av [1,10] ?_ ?_
 intro _
 exact az [2,4,5,0,1,9,22,11,11,22,11,17]
 intro _
 refine au [12,24,4,1,4,3,16,5,0] ?_
 exact qi (iadd .i64 x154 1, ())
 intro _
 exact az [24,10,18,18,24,11,26,0]
 rintro ⟨_, _⟩
 try dsimp only
 exact az [2,4,5,0,1,9,17]
set_option maxHeartbeats 4000000 in
theorem qgy {F : Nat} {x1 : List Int} {a2 : Option Addr} {c3 : Nat} {x4 : List Int} {a5 : Option Addr} {c6 : Nat} {r : Bool} (hm : qaZ F x1 x4 = some r) :
    Pure Tryz.prog 44 [.slice a2 x1.length c3, .slice a5 x4.length c6] [Sl (eI .i64) 1 (.slice a2 x1.length c3) x1, Sl (eI .i64) 1 (.slice a5 x4.length c6) x4] Unit (fun _ => .bool r) (fun _ => []) (fun _ => []) := by
 refine qh Tryz.func44 rfl Tryz.ntmps44 rfl hm (fun w => ?_)
 refine av [24,12,2,4,5,0,1,2,2,4,3,24,0,3,24,0,25,3,0,1,10] ?_ ?_
 intro _
 exact az [2,4,5,0,1,9,11,17]
 intro _
 refine au [12,1] ?_
 refine qe (fun ((_, _) : (Unit × Unit)) => ([], [], [], [], qch F)) ?_ ?_
 refine au [2,4,5,0,1,15] ?_
 refine qk (fun ((x154, _) : (Int × Unit)) => ([(0, .slice a2 x1.length c3), (1, .slice a5 x4.length c6), (5, .int .i64 x154)], [], [], [Sl (eI .i64) 1 (.slice a2 x1.length c3) x1, Sl (eI .i64) 1 (.slice a5 x4.length c6) x4])) (fun k (s : (Int × Unit)) => yp F x1 x4 k s.1) (0, ()) F ?_
 intro k191
 rintro ⟨x154, _⟩
 try dsimp only
 refine qC (m' := jL F x1 x4 (yp F x1 x4 k191) x154) rfl ?_
 refine av [2,2,4,3,3,24,0,24,3,0,1,10] ?_ ?_
 intro _
 refine au [12,1,2,15,2,31,15] ?_
 intro x218 e218 b219 o220 h221
 replace h221 : a2 = some ⟨b219, o220, none⟩ := h221
 refine qbW (j := 2) (qr .i64) (by decide) rfl ?_
 intro x222 e222 b223 o224 h225
 replace h225 : a5 = some ⟨b223, o224, none⟩ := h225
 refine qn mixed [] [] [qQ b223 (o224 + x154.toNat * 1) ((eI .i64) x222), qQ b219 (o220 + x154.toNat * 1) ((eI .i64) x218), Sl (eI .i64) 1 (.slice a2 x1.length c3) x1, Sl (eI .i64) 1 (.slice a5 x4.length c6) x4] .nil (qE 0 rfl (qE 1 rfl (qE 2 rfl (qE 3 rfl qm)))) 9 rfl ?_
 refine au [6,0,6,1] ?_
 refine qf (d := 17) (v := .slice (some ⟨b219, o220, none⟩) x1.length c3) rfl (by rw [h221] <;> rfl) (qu 2 (.pointer (some ⟨b219, (o220 + x154.toNat * 1), none⟩)) rfl rfl rfl (qaB Tryz.underlying59 tf3 rfl rfl (zC e218).1 (qao e218)) (qf (d := 17) (v := .slice a2 x1.length c3) rfl (by rw [h221] <;> rfl) (zk 3 (.int .i64 x218) [] rfl rfl rfl (va (j := 1) rfl tf3 rfl rfl (fun _ => rfl) rfl) ?_)))
 refine au [6,4,6,5] ?_
 refine qf (d := 21) (v := .slice (some ⟨b223, o224, none⟩) x4.length c6) rfl (by rw [h225] <;> rfl) (qu 6 (.pointer (some ⟨b223, (o224 + x154.toNat * 1), none⟩)) rfl rfl rfl (qaB Tryz.underlying59 tf3 rfl rfl (zC e222).1 (qao e222)) (qf (d := 21) (v := .slice a5 x4.length c6) rfl (by rw [h225] <;> rfl) (zk 7 (.int .i64 x222) [] rfl rfl rfl (va (j := 0) rfl tf3 rfl rfl (fun _ => rfl) rfl) ?_)))
 refine au [6,8,24,1] ?_
 refine qt ?_ (by intro c h; cases h)
 refine av [1,10] ?_ ?_
 intro _
 exact az [2,4,5,0,1,9,22,11,11,22,11,17]
 intro _
 refine au [12,24,4,1,4,3,16,5,0] ?_
 exact qi (iadd .i64 x154 1, ())
 intro _
 exact az [24,10,18,18,24,11,26,0]
 rintro ⟨_, _⟩
 try dsimp only
 exact az [2,4,5,0,1,9,17]
set_option maxHeartbeats 4000000 in
theorem qfv {F : Nat} {x1 : List (List Int)} {a2 : Option Addr} {c3 : Nat} {s3 : List (Option Addr × Nat)} {x4 : List (List Int)} {a5 : Option Addr} {c6 : Nat} {s6 : List (Option Addr × Nat)} {r : Bool} (hm : jF F x1 x4 = some r) :
    Pure Tryz.prog 32 [.slice a2 x1.length c3, .slice a5 x4.length c6] [SlN eN59 iN59 1 (.slice a2 x1.length c3) x1 s3, SlN eN59 iN59 1 (.slice a5 x4.length c6) x4 s6] Unit (fun _ => .bool r) (fun _ => []) (fun _ => []) := by
 refine qh Tryz.func32 rfl Tryz.ntmps32 rfl hm (fun w => ?_)
 refine av [24,12,2,4,5,0,1,2,2,4,3,24,0,3,24,0,25,3,0,1,10] ?_ ?_
 intro _
 exact az [2,4,5,0,1,9,11,17]
 intro _
 refine au [12,1] ?_
 refine qe (fun ((_, _) : (Unit × Unit)) => ([], [], [], [], qbO F)) ?_ ?_
 refine au [2,4,5,0,1,15] ?_
 refine qk (fun ((x202, _) : (Int × Unit)) => ([(0, .slice a2 x1.length c3), (1, .slice a5 x4.length c6), (5, .int .i64 x202)], [], [], [SlN eN59 iN59 1 (.slice a2 x1.length c3) x1 s3, SlN eN59 iN59 1 (.slice a5 x4.length c6) x4 s6])) (fun k (s : (Int × Unit)) => k7 F x1 x4 k s.1) (0, ()) F ?_
 intro k251
 rintro ⟨x202, _⟩
 try dsimp only
 refine qC (m' := jx F x1 x4 (k7 F x1 x4 k251) x202) rfl ?_
 refine av [2,2,4,3,3,24,0,24,3,0,1,10] ?_ ?_
 intro _
 refine au [12,1,2,15,2] ?_
 refine qiJ (j := 0) vw (by decide) rfl ?_
 intro x287 e287 g291 b288 o289 h290
 replace h290 : a2 = some ⟨b288, o289, none⟩ := h290
 refine qiJ (j := 3) vw (by decide) rfl ?_
 intro x292 e292 g296 b293 o294 h295
 replace h295 : a5 = some ⟨b293, o294, none⟩ := h295
 refine qn mixed [] [] [qQ b293 (o294 + x202.toNat * 1) (eN59 (x292, g296)), Sl (eI .i64) 1 (.slice g296.1 x292.length g296.2) x292, qQ b288 (o289 + x202.toNat * 1) (eN59 (x287, g291)), Sl (eI .i64) 1 (.slice g291.1 x287.length g291.2) x287, SlN eN59 iN59 1 (.slice a2 x1.length c3) x1 s3, SlN eN59 iN59 1 (.slice a5 x4.length c6) x4 s6] .nil (qE 0 rfl (qE 1 rfl (qE 2 rfl (qE 3 rfl (qE 4 rfl (qE 5 rfl qm)))))) 10 rfl ?_
 refine au [6,0,6,1] ?_
 refine qf (d := 17) (v := .slice (some ⟨b288, o289, none⟩) x1.length c3) rfl (by rw [h290] <;> rfl) (qu 2 (.pointer (some ⟨b288, (o289 + x202.toNat * 1), none⟩)) rfl rfl rfl (qaB Tryz.underlying22 tf59 rfl rfl (zC e287).1 (qao e287)) (qf (d := 17) (v := .slice a2 x1.length c3) rfl (by rw [h290] <;> rfl) (zk 3 (.slice g291.1 x287.length g291.2) [] rfl rfl rfl (va (j := 2) rfl tf59 rfl rfl (fun _ => rfl) rfl) ?_)))
 refine au [6,4,6,5] ?_
 refine qf (d := 21) (v := .slice (some ⟨b293, o294, none⟩) x4.length c6) rfl (by rw [h295] <;> rfl) (qu 6 (.pointer (some ⟨b293, (o294 + x202.toNat * 1), none⟩)) rfl rfl rfl (qaB Tryz.underlying22 tf59 rfl rfl (zC e292).1 (qao e292)) (qf (d := 21) (v := .slice a5 x4.length c6) rfl (by rw [h295] <;> rfl) (zk 7 (.slice g296.1 x292.length g296.2) [] rfl rfl rfl (va (j := 0) rfl tf59 rfl rfl (fun _ => rfl) rfl) ?_)))
 refine au [20,8] ?_
 refine qg qgy ?_
 intro x297 e297 _
 refine au [0] ?_
 refine zT .nil (qE 0 rfl (qE 1 rfl (qE 2 rfl (qE 3 rfl (qE 4 rfl (qE 5 rfl qm)))))) ?_
 refine au [6,9,24,1] ?_
 refine qt ?_ (by intro c h; cases h)
 refine av [1,10] ?_ ?_
 intro _
 exact az [2,4,5,0,1,9,22,11,11,22,11,17]
 intro _
 refine au [12,24,4,1,4,3,16,5,0] ?_
 exact qi (iadd .i64 x202 1, ())
 intro _
 exact az [24,10,18,18,24,11,26,0]
 rintro ⟨_, _⟩
 try dsimp only
 exact az [2,4,5,0,1,9,17]
theorem qfu {F : Nat} {x1 : List (List Int)} {a2 : Option Addr} {c3 : Nat} {s3 : List (Option Addr × Nat)} {x4 : List (List Int)} {a5 : Option Addr} {c6 : Nat} {s6 : List (Option Addr × Nat)} {r : Bool} (hm : jE F x1 x4 = some r) :
    Pure Tryz.prog 17 [.agg #[.slice a2 x1.length c3], .agg #[.slice a5 x4.length c6]] [SlN eN59 iN59 1 (.slice a2 x1.length c3) x1 s3, SlN eN59 iN59 1 (.slice a5 x4.length c6) x4 s6] Unit (fun _ => .bool r) (fun _ => []) (fun _ => []) := by
 refine qh Tryz.func17 rfl Tryz.ntmps17 rfl hm (fun w => ?_)
 refine au [24,12,2,4,24,5] ?_
 intro g7
 refine au [24,5] ?_
 intro g8
 refine au [5,0,1,2,4,13,25,11,13,21,34,3] ?_
 intro x9 e9 _
 exact az [5,0,1,9,17]
theorem qfs (F : Nat)  (r : List (List Int)) (hm : qaD F  = some r) :
    Pure Tryz.prog 31 [] [] (Option Addr × (Nat × List (Option Addr × Nat))) (fun g => .agg #[.slice g.1 r.length g.2.1]) (fun g => [RoN eN59 rN59 59 1 (.slice g.1 r.length g.2.1) r g.2.2 []]) (fun _ => []) := by
 refine qh Tryz.func31 rfl Tryz.ntmps31 rfl hm (fun w => ?_)
 refine au [34,4,2,4,24,6] ?_
 intro g1
 refine au [0,1,2,4] ?_
 refine qv (vs := [.int .i64 1, .int .i64 2, .int .i64 3, .int .i64 5]) (ys := ([1, 2, 3, 5] : List Int)) (qr .i64) (by decide) rfl Tryz.underlying59 tf3 rfl rfl rfl rfl rfl (by decide) (fun a2 c3 => qv (vs := [.int .i64 1, .int .i64 2, .int .i64 3, .int .i64 5]) (ys := ([1, 2, 3, 5] : List Int)) (qr .i64) (by decide) rfl Tryz.underlying59 tf3 rfl rfl rfl rfl rfl (by decide) (fun a4 c5 => qv (vs := [.int .i64 0, .int .i64 1, .int .i64 2, .int .i64 3, .int .i64 5]) (ys := ([0, 1, 2, 3, 5] : List Int)) (qr .i64) (by decide) rfl Tryz.underlying59 tf3 rfl rfl rfl rfl rfl (by decide) (fun a6 c7 => qv (vs := [.int .i64 4]) (ys := ([4] : List Int)) (qr .i64) (by decide) rfl Tryz.underlying59 tf3 rfl rfl rfl rfl rfl (by decide) (fun a8 c9 => qv (vs := [.int .i64 1, .int .i64 2, .int .i64 3]) (ys := ([1, 2, 3] : List Int)) (qr .i64) (by decide) rfl Tryz.underlying59 tf3 rfl rfl rfl rfl rfl (by decide) (fun a10 c11 => ?_)))))
 refine au [27,0] ?_
 refine qv (vs := [.slice a2 ([1, 2, 3, 5] : List Int).length c3, .slice a4 ([1, 2, 3, 5] : List Int).length c5, .slice a6 ([0, 1, 2, 3, 5] : List Int).length c7, .slice none ([] : List Int).length 0, .slice a8 ([4] : List Int).length c9, .slice a10 ([1, 2, 3] : List Int).length c11]) (ys := ([(([1, 2, 3, 5] : List Int), (a2, c3)), (([1, 2, 3, 5] : List Int), (a4, c5)), (([0, 1, 2, 3, 5] : List Int), (a6, c7)), (([] : List Int), (none, 0)), (([4] : List Int), (a8, c9)), (([1, 2, 3] : List Int), (a10, c11))] : List (List Int × (Option Addr × Nat)))) vw (by decide) rfl Tryz.underlying22 tf59 rfl rfl rfl rfl rfl (by decide) (fun a12 c13 => qce (rin := rN59) (i := 0) ([([1, 2, 3, 5] : List Int), ([1, 2, 3, 5] : List Int), ([0, 1, 2, 3, 5] : List Int), ([] : List Int), ([4] : List Int), ([1, 2, 3] : List Int)] : List (List Int)) ([(a2, c3), (a4, c5), (a6, c7), (none, 0), (a8, c9), (a10, c11)] : List (Option Addr × Nat)) rfl rfl (.cons 5 rfl (.cons 4 rfl (.cons 3 rfl (.cons 0 rfl (.cons 1 rfl (.cons 0 rfl .nil)))))) (qj (cells := [.slice a12 ([([1, 2, 3, 5] : List Int), ([1, 2, 3, 5] : List Int), ([0, 1, 2, 3, 5] : List Int), ([] : List Int), ([4] : List Int), ([1, 2, 3] : List Int)] : List (List Int)).length c13]) rfl st24 rfl (by kernel_rfl) rfl ?_))
 refine au [23,0,1,9] ?_
 exact qB (a12, (c13, ([(a2, c3), (a4, c5), (a6, c7), (none, 0), (a8, c9), (a10, c11)] : List (Option Addr × Nat)))) (resL (rs := [.cell 0 24]) rfl (.cell (i := 0) rfl tf24 rfl rfl (by simp) rfl ResOk.nil) rfl) (fun h => by subst h; exact (.cons 0 rfl .nil))
set_option maxHeartbeats 4000000 in
theorem qfr (F : Nat)  (r : Bool) (hm : qaC F  = some r) :
    Pure Tryz.prog 15 [] [] Unit (fun _ => .bool r) (fun _ => []) (fun _ => []) := by
 refine qh Tryz.func15 rfl Tryz.ntmps15 rfl hm (fun w => ?_)
 refine au [34,4,2,4,5,0,1,2,4] ?_
 refine qj (cells := [.int .i64 999, .int .i64 99, .int .i64 99, .int .i64 999]) rfl st29 rfl (by kernel_rfl) rfl ?_
 refine au [24,6] ?_
 intro g1
 refine au [23,0,1,2,4] ?_
 refine qv (vs := [.int .i64 1]) (ys := ([1] : List Int)) (qr .i64) (by decide) rfl Tryz.underlying59 tf3 rfl rfl rfl rfl rfl (by decide) (fun a2 c3 => ?_)
 refine au [28,9,27,0,28,9] ?_
 refine qv (vs := [.slice a2 ([1] : List Int).length c3, .slice none 0 0]) (ys := ([(([1] : List Int), (a2, c3)), (([] : List Int), (none, 0))] : List (List Int × (Option Addr × Nat)))) vw (by decide) rfl Tryz.underlying22 tf59 rfl rfl rfl rfl rfl (by decide) (fun a4 c5 => qcQ (inn := iN59) ([([1] : List Int), ([] : List Int)] : List (List Int)) ([(a2, c3), (none, 0)] : List (Option Addr × Nat)) 0 rfl rfl (qD 1 rfl (qD 0 rfl js)) (qj (cells := [.slice a4 ([([1] : List Int), ([] : List Int)] : List (List Int)).length c5]) rfl st24 rfl (by kernel_rfl) rfl (qj (cells := [.int .i64 0, .int .i64 0, .int .i64 0]) rfl st26 rfl (by kernel_rfl) rfl ?_)))
 refine au [30,10] ?_
 rintro x6 e6 ⟨a7, c8⟩
 refine au [3,14,14,5,5,0,1,2,4,34,5] ?_
 rintro x9 e9 ⟨a10, c11⟩
 refine qj (cells := [.int .i64 2, .int .i64 3, .int .i64 1]) rfl st26 rfl (by kernel_rfl) rfl ?_
 refine au [30,10] ?_
 rintro x12 e12 ⟨a13, c14⟩
 refine au [3,14,14,5,5,0,1,2,4,3,24,14,28,1] ?_
 rintro x15 e15 ⟨a16, c17⟩
 refine au [3,14,14,14,24,6] ?_
 intro g18
 refine au [23,5,5,0,1,2,4,3,25,8,28,1] ?_
 rintro x19 e19 ⟨a20, c21⟩
 refine au [3,14,14,14,24,6] ?_
 intro g22
 refine au [23,5,5,0,1,2,4,3,34,6] ?_
 intro x23 e23 _
 refine au [3,14,14,24,6] ?_
 intro g24
 refine au [23,5,0,1,2,4,3] ?_
 refine qj (cells := [.int .i64 999, .int .i64 99, .int .i64 99, .int .i64 3]) rfl st29 rfl (by kernel_rfl) rfl ?_
 refine au [28,1] ?_
 rintro x25 e25 ⟨a26, c27⟩
 refine au [3,14,14,14,24,6] ?_
 intro g28
 refine au [23,5,5,0,1,2,4] ?_
 refine qv (vs := [.int .u8 76, .int .u8 87, .int .u8 1]) (ys := ([76, 87, 1] : List Int)) (qr .u8) (by decide) rfl Tryz.underlying27 tf5 rfl rfl rfl rfl rfl (by decide) (fun a29 c30 => ?_)
 refine au [33,4,28,1] ?_
 rintro x31 e31 ⟨a32, c33⟩
 refine au [3,14,14,14,24,6] ?_
 intro g34
 refine au [23,5,5,0,1] ?_
 refine qe (fun ((x59, _) : (Bool × Unit)) => ([(0, .bool x59)], [], [], [], qH F x59)) ?_ ?_
 refine qn mixed [] [⟨g34, 24, [.slice a32 x31.1.length c33.1]⟩, ⟨g28, 24, [.slice a26 x25.1.length c27.1]⟩, ⟨g24, 29, [.int .i64 x23.1, .int .i64 x23.2.1, .int .i64 x23.2.2.1, .int .i64 x23.2.2.2.1]⟩, ⟨g22, 24, [.slice a20 x19.1.length c21.1]⟩, ⟨g18, 24, [.slice a16 x15.1.length c17.1]⟩, ⟨g1, 29, [.int .i64 999, .int .i64 99, .int .i64 99, .int .i64 999]⟩] [SlN eN59 iN59 1 (.slice a4 ([([1] : List Int), ([] : List Int)] : List (List Int)).length c5) ([([1] : List Int), ([] : List Int)] : List (List Int)) ([(a2, c3), (none, 0)] : List (Option Addr × Nat)), Sl (eI .i64) 1 (.slice none ([] : List Int).length 0) ([] : List Int), Sl (eI .i64) 1 (.slice a2 ([1] : List Int).length c3) ([1] : List Int)] (.cons 0 rfl (.cons 0 rfl (.cons 0 rfl (.cons 0 rfl (.cons 0 rfl (.cons 0 rfl .nil)))))) (qE 0 rfl (qE 1 rfl (qE 2 rfl qm))) 57 rfl ?_
 refine au [6,0,20,1] ?_
 refine qv (vs := [.int .u8 76, .int .u8 87, .int .u8 1, .int .u8 2, .int .u8 1, .int .u8 2, .int .u8 0]) (ys := ([76, 87, 1, 2, 1, 2, 0] : List Int)) (qr .u8) (by decide) rfl Tryz.underlying27 tf5 rfl rfl rfl rfl rfl (by decide) (fun a60 c61 => ?_)
 refine au [0,30,11,20,2,34,7] ?_
 intro x62 e62 _
 refine av [0,30,11,6,3,26,3] ?_ ?_
 intro h63
 refine qf (d := 71) (v := .bool true) rfl (by rw [h63] <;> rfl) ?_
 refine av [6,4,6,5,6,6,6,7,26,3] ?_ ?_
 intro h64
 refine qf (d := 75) (v := .bool true) rfl (by rw [h64] <;> rfl) ?_
 refine av [6,8,6,9,6,10,6,11,26,3] ?_ ?_
 intro h65
 refine qf (d := 79) (v := .bool true) rfl (by rw [h65] <;> rfl) ?_
 refine au [19,12] ?_
 refine zm 13 _ rfl rfl rfl (qS (i := 4) rfl inferInstance rfl rfl (fun _ => rfl) rfl) ?_
 refine au [20,14] ?_
 refine qv (vs := [.int .i64 1]) (ys := ([1] : List Int)) (qr .i64) (by decide) rfl Tryz.underlying59 tf3 rfl rfl rfl rfl rfl (by decide) (fun a66 c67 => ?_)
 refine au [0,30,11,20,15,28,9,27,0] ?_
 refine qv (vs := [.slice a66 ([1] : List Int).length c67, .slice none 0 0]) (ys := ([(([1] : List Int), (a66, c67)), (([] : List Int), (none, 0))] : List (List Int × (Option Addr × Nat)))) vw (by decide) rfl Tryz.underlying22 tf59 rfl rfl rfl rfl rfl (by decide) (fun a68 c69 => qcQ (inn := iN59) ([([1] : List Int), ([] : List Int)] : List (List Int)) ([(a66, c67), (none, 0)] : List (Option Addr × Nat)) 0 rfl rfl (qD 0 rfl (qD 2 rfl js)) ?_)
 refine au [0,28,13,20,16,34,3] ?_
 intro x70 e70 _
 refine av [0,28,13,6,17,6,18,26,3] ?_ ?_
 intro h71
 refine qf (d := 86) (v := .bool true) rfl (by rw [h71] <;> rfl) ?_
 refine av [6,19,6,20,6,21,6,22,26,3] ?_ ?_
 intro h72
 refine qf (d := 90) (v := .bool true) rfl (by rw [h72] <;> rfl) ?_
 refine av [6,23,6,24,6,25,6,26,26,3] ?_ ?_
 intro h73
 refine qf (d := 94) (v := .bool true) rfl (by rw [h73] <;> rfl) (zm 27 (.agg #[.slice a20 x19.1.length c21.1]) rfl rfl rfl (qS (i := 3) rfl tf24 rfl rfl (by simp) rfl) ?_)
 refine au [20,28,34,5] ?_
 rintro x74 e74 ⟨a75, c76⟩
 refine au [0,28,13,20,29,34,8] ?_
 intro x77 e77 _
 refine av [0,28,13,6,30,6,31,26,3] ?_ ?_
 intro h78
 refine qf (d := 99) (v := .bool true) rfl (by rw [h78] <;> rfl) ?_
 refine av [6,32,6,33,6,34,6,35,26,3] ?_ ?_
 intro h79
 refine qf (d := 103) (v := .bool true) rfl (by rw [h79] <;> rfl) ?_
 refine av [6,36,6,37,6,38,6,39,26,3] ?_ ?_
 intro h80
 refine qf (d := 107) (v := .bool true) rfl (by rw [h80] <;> rfl) (zm 40 (.agg #[.int .i64 x23.1, .int .i64 x23.2.1, .int .i64 x23.2.2.1, .int .i64 x23.2.2.2.1]) rfl rfl rfl (qS (i := 2) rfl tf29 rfl rfl (by simp) rfl) (qu 41 (.agg #[.int .i64 7, .int .i64 2, .int .i64 1, .int .i64 4]) rfl rfl rfl (qcC (cells := [.int .i64 7, .int .i64 2, .int .i64 1, .int .i64 4]) st29 rfl (by kernel_rfl)) (qu 42 (.bool (((x23.1 : Int) == 7) && (((x23.2.1 : Int) == 2) && (((x23.2.2.1 : Int) == 1) && ((x23.2.2.2.1 : Int) == 4))))) rfl rfl rfl (qo0 rfl rfl se29) ?_)))
 refine av [6,43,6,44,26,3] ?_ ?_
 intro h81
 refine qf (d := 112) (v := .bool true) rfl (by rw [h81] <;> rfl) ?_
 refine av [6,45,6,46,6,47,6,48,26,3] ?_ ?_
 intro h82
 refine qf (d := 116) (v := .bool true) rfl (by rw [h82] <;> rfl) ?_
 refine av [6,49,6,50,6,51,6,52,26,3] ?_ ?_
 intro h83
 refine qf (d := 120) (v := .bool true) rfl (by rw [h83] <;> rfl) ?_
 refine au [6,53,6,54,6,55,6,56,24,1] ?_
 exact qt (qa (((x31.2.2 : Int) == 1), ())) (by intro c h; cases h)
 intro h83
 refine qf (d := 120) (v := .bool false) rfl (by rw [h83] <;> rfl) ?_
 refine au [7,53,7,54,6,55,6,56,24,1] ?_
 exact qt (qa (false, ())) (by intro c h; cases h)
 intro h82
 refine qf (d := 116) (v := .bool false) rfl (by rw [h82] <;> rfl) ?_
 refine au [7,49,7,50,6,51,6,52,7,53,7,54,6,55,6,56,24,1] ?_
 exact qt (qa (false, ())) (by intro c h; cases h)
 intro h81
 refine qf (d := 112) (v := .bool false) rfl (by rw [h81] <;> rfl) ?_
 refine au [7,45,7,46,6,47,6,48,7,49,7,50,6,51,6,52,7,53,7,54,6,55,6,56,24,1] ?_
 exact qt (qa (false, ())) (by intro c h; cases h)
 intro h80
 refine qf (d := 107) (v := .bool false) rfl (by rw [h80] <;> rfl) ?_
 refine au [7,40,7,41,7,42,6,43,6,44,7,45,7,46,6,47,6,48,7,49,7,50,6,51,6,52,7,53,7,54,6,55,6,56,24,1] ?_
 exact qt (qa (false, ())) (by intro c h; cases h)
 intro h79
 refine qf (d := 103) (v := .bool false) rfl (by rw [h79] <;> rfl) ?_
 refine au [7,36,7,37,6,38,6,39,7,40,7,41,7,42,6,43,6,44,7,45,7,46,6,47,6,48,7,49,7,50,6,51,6,52,7,53,7,54,6,55,6,56,24,1] ?_
 exact qt (qa (false, ())) (by intro c h; cases h)
 intro h78
 refine qf (d := 99) (v := .bool false) rfl (by rw [h78] <;> rfl) ?_
 refine au [7,32,7,33,6,34,6,35,7,36,7,37,6,38,6,39,7,40,7,41,7,42,6,43,6,44,7,45,7,46,6,47,6,48,7,49,7,50,6,51,6,52,7,53,7,54,6,55,6,56,24,1] ?_
 exact qt (qa (false, ())) (by intro c h; cases h)
 intro h73
 refine qf (d := 94) (v := .bool false) rfl (by rw [h73] <;> rfl) ?_
 refine au [7,27,7,28,7,29,6,30,6,31,7,32,7,33,6,34,6,35,7,36,7,37,6,38,6,39,7,40,7,41,7,42,6,43,6,44,7,45,7,46,6,47,6,48,7,49,7,50,6,51,6,52,7,53,7,54,6,55,6,56,24,1] ?_
 exact qt (qa (false, ())) (by intro c h; cases h)
 intro h72
 refine qf (d := 90) (v := .bool false) rfl (by rw [h72] <;> rfl) ?_
 refine au [7,23,7,24,6,25,6,26,7,27,7,28,7,29,6,30,6,31,7,32,7,33,6,34,6,35,7,36,7,37,6,38,6,39,7,40,7,41,7,42,6,43,6,44,7,45,7,46,6,47,6,48,7,49,7,50,6,51,6,52,7,53,7,54,6,55,6,56,24,1] ?_
 exact qt (qa (false, ())) (by intro c h; cases h)
 intro h71
 refine qf (d := 86) (v := .bool false) rfl (by rw [h71] <;> rfl) ?_
 refine au [7,19,7,20,6,21,6,22,7,23,7,24,6,25,6,26,7,27,7,28,7,29,6,30,6,31,7,32,7,33,6,34,6,35,7,36,7,37,6,38,6,39,7,40,7,41,7,42,6,43,6,44,7,45,7,46,6,47,6,48,7,49,7,50,6,51,6,52,7,53,7,54,6,55,6,56,24,1] ?_
 exact qt (qa (false, ())) (by intro c h; cases h)
 intro h65
 refine qf (d := 79) (v := .bool false) rfl (by rw [h65] <;> rfl) ?_
 refine au [7,12,7,13,7,14,7,15,7,16,6,17,6,18,7,19,7,20,6,21,6,22,7,23,7,24,6,25,6,26,7,27,7,28,7,29,6,30,6,31,7,32,7,33,6,34,6,35,7,36,7,37,6,38,6,39,7,40,7,41,7,42,6,43,6,44,7,45,7,46,6,47,6,48,7,49,7,50,6,51,6,52,7,53,7,54,6,55,6,56,24,1] ?_
 exact qt (qa (false, ())) (by intro c h; cases h)
 intro h64
 refine qf (d := 75) (v := .bool false) rfl (by rw [h64] <;> rfl) ?_
 refine au [7,8,7,9,6,10,6,11,7,12,7,13,7,14,7,15,7,16,6,17,6,18,7,19,7,20,6,21,6,22,7,23,7,24,6,25,6,26,7,27,7,28,7,29,6,30,6,31,7,32,7,33,6,34,6,35,7,36,7,37,6,38,6,39,7,40,7,41,7,42,6,43,6,44,7,45,7,46,6,47,6,48,7,49,7,50,6,51,6,52,7,53,7,54,6,55,6,56,24,1] ?_
 exact qt (qa (false, ())) (by intro c h; cases h)
 intro h63
 refine qf (d := 71) (v := .bool false) rfl (by rw [h63] <;> rfl) ?_
 refine au [7,4,7,5,6,6,6,7,7,8,7,9,6,10,6,11,7,12,7,13,7,14,7,15,7,16,6,17,6,18,7,19,7,20,6,21,6,22,7,23,7,24,6,25,6,26,7,27,7,28,7,29,6,30,6,31,7,32,7,33,6,34,6,35,7,36,7,37,6,38,6,39,7,40,7,41,7,42,6,43,6,44,7,45,7,46,6,47,6,48,7,49,7,50,6,51,6,52,7,53,7,54,6,55,6,56,24,1] ?_
 exact qt (qa (false, ())) (by intro c h; cases h)
 rintro ⟨x59, _⟩
 try dsimp only
 exact az [9,17]
set_option maxHeartbeats 4000000 in
theorem qgx (F : Nat) (x1 : List Int) (a2 : Option Addr) (c3 : Nat) (x4 : Int) (x5 : Int) (x6 : Int) (r : Bool) (hm : qbY F x1 x4 x5 x6 = some r) :
    Pure Tryz.prog 5 [.slice a2 x1.length c3, .agg #[.int .i64 x4, .int .i64 x5, .int .i64 x6]] [Sl (eI .u8) 1 (.slice a2 x1.length c3) x1] Unit (fun _ => .bool r) (fun _ => []) (fun _ => []) := by
 refine qh Tryz.func5 rfl Tryz.ntmps5 rfl hm (fun w => ?_)
 refine au [24,12,2,4,24,5] ?_
 intro g7
 refine au [5,0,1,2,4,3,34,6] ?_
 intro x8 e8 _
 refine au [3,14,14,24,6] ?_
 intro g9
 refine au [23,5,0,1,2,2,4] ?_
 refine qg (fun h => qfr F _ h) ?_
 intro x12 e12 _
 refine av [25,2,0,1,10] ?_ ?_
 intro _
 exact az [2,4,5,0,1,9,11,17]
 intro _
 refine av [12,1,2,2,4,3,25,3,0,1,10] ?_ ?_
 intro _
 refine au [2,4,24,14] ?_
 refine qj (cells := [.int .i64 0, .int .i64 0, .int .i64 0, .int .i64 0]) rfl st29 rfl (by kernel_rfl) rfl (qnp rfl rfl rfl inferInstance rfl ?_)
 exact az [5,0,1,9,11,17]
 intro _
 refine au [12,1,2,4,3,24,14,28,1] ?_
 rintro x14 e14 ⟨a15, c16⟩
 refine au [3,14,14,14,24,6] ?_
 intro g17
 refine au [23,5,5,0,1,2,2,4,3,25,3,3] ?_
 refine qN 4 ((x14.2.2 : Int) != 0) [(0, .slice a2 x1.length c3), (3, .pointer (some ⟨g7, 0, none⟩)), (5, .pointer (some ⟨g9, 0, none⟩)), (7, .pointer (some ⟨g17, 0, none⟩)), (40, .bool (((x14.2.2 : Int) != 0) || (decide ((x1.length : Int) < 3))))] (fun h20 => ?_) (fun h20 => ?_) ?_
 refine qb (os := _) rfl (qz (k := 36) rfl h20 ?_)
 refine au [8,8,8,24,7] ?_
 refine qd (d := 40) (v := .bool (((x14.2.2 : Int) != 0) || (decide ((x1.length : Int) < 3)))) rfl (by rw [h20]; simp only [Bool.true_or]) ?_
 exact az [0,24,2]
 refine qb (os := _) rfl (qy (k := 36) rfl h20 ?_)
 refine au [3,24,0,24,3,24,8] ?_
 refine qd (d := 40) (v := .bool (((x14.2.2 : Int) != 0) || (decide ((x1.length : Int) < 3)))) rfl (by rw [h20]; simp only [Bool.false_or]) ?_
 exact az [0,24,2]
 refine qb (os := _) rfl ?_
 refine av [0,1,10] ?_ ?_
 intro _
 exact az [2,4,5,0,1,9,11,17]
 intro _
 refine au [12,1,2,28,12] ?_
 intro x28 e28 b29 o30 h31
 replace h31 : a2 = some ⟨b29, o30, none⟩ := h31
 refine qn mixed [] [⟨g17, 24, [.slice a15 x14.1.length c16.1]⟩, ⟨g9, 29, [.int .i64 x8.1, .int .i64 x8.2.1, .int .i64 x8.2.2.1, .int .i64 x8.2.2.2.1]⟩, ⟨g7, 26, [.int .i64 x4, .int .i64 x5, .int .i64 x6]⟩] [qQ b29 (o30 + (2 : Int).toNat * 1) ((eI .u8) x28), Sl (eI .u8) 1 (.slice a2 x1.length c3) x1] (.cons 0 rfl (.cons 0 rfl (.cons 0 rfl .nil))) (qE 0 rfl (qE 1 rfl qm)) 12 rfl (zm 0 (.agg #[.slice a15 x14.1.length c16.1]) rfl rfl rfl (qS (i := 0) rfl tf24 rfl rfl (by simp) rfl) ?_)
 refine au [6,1] ?_
 refine qf (d := 43) (v := .slice (some ⟨b29, o30, none⟩) x1.length c3) rfl (by rw [h31] <;> rfl) (qu 2 (.pointer (some ⟨b29, (o30 + (2 : Int).toNat * 1), none⟩)) rfl rfl rfl (qaB Tryz.underlying27 tf5 rfl rfl (zC e28).1 (qao e28)) (qf (d := 43) (v := .slice a2 x1.length c3) rfl (by rw [h31] <;> rfl) (zk 3 (.int .u8 x28) [] rfl rfl rfl (va (j := 0) rfl tf5 rfl rfl (fun _ => rfl) rfl) ?_)))
 refine au [28,15,4] ?_
 refine zm 5 (.agg #[.int .i64 x4, .int .i64 x5, .int .i64 x6]) rfl rfl rfl (qS (i := 2) rfl tf26 rfl rfl (by simp) rfl) ?_
 refine au [20,6,30,10] ?_
 rintro x32 e32 ⟨a33, c34⟩
 refine au [0,30,9,6,7,6,8,6,9,6,10,6,11,24,1] ?_
 refine qt ?_ (by intro c h; cases h)
 refine au [1,2,4,3] ?_
 refine qj (cells := [.int .i64 4096, .int .i64 100, .int .i64 600, .int .i64 8192]) rfl st29 rfl (by kernel_rfl) rfl ?_
 refine au [28,1] ?_
 rintro x35 e35 ⟨a36, c37⟩
 refine au [3,14,14,14,24,6] ?_
 intro g38
 refine au [23,5,5,0,1,2,2,4,3] ?_
 refine j3 (j := 1) (qr .u8) (by decide) rfl UnF.u inferInstance rfl rfl rfl rfl ?_
 intro x49 e49 b50 o51
 refine av [25,9,25,1,0,1,10] ?_ ?_
 intro _
 refine au [2,4,3,25,1,3] ?_
 refine kR 4 (fun ((x54, _) : (Bool × Unit)) => ([(5, .pointer (some ⟨g9, 0, none⟩)), (13, .int .i64 x35.2.1), (14, .int .i64 x35.2.2), (68, .bool x54)], [⟨g9, 29, [.int .i64 x8.1, .int .i64 x8.2.1, .int .i64 x8.2.2.1, .int .i64 x8.2.2.2.1]⟩], [], [], jK F x8 x35 x54)) ?_ ?_
 refine qb (os := _) rfl ?_
 refine av [25,14] ?_ ?_
 intro h52
 refine qz (k := 64) rfl h52 ?_
 refine au [3,3,34,7] ?_
 intro x57 e57 _
 refine au [24,7,0] ?_
 exact qa (x57, ())
 intro h52
 refine qy (k := 64) rfl h52 ?_
 refine au [8,8,8,24,8,0] ?_
 exact qa (false, ())
 rintro ⟨x54, _⟩
 try dsimp only
 refine qb (os := _) rfl ?_
 refine au [3] ?_
 refine qN 3 x54 [(5, .pointer (some ⟨g9, 0, none⟩)), (13, .int .i64 x35.2.1), (72, .bool (x54 && ((x35.2.2 : Int) == 0)))] (fun h55 => ?_) (fun h55 => ?_) ?_
 refine qb (os := _) rfl (qz (k := 69) rfl h55 ?_)
 refine au [3,25,1,24,7] ?_
 refine qd (d := 72) (v := .bool (x54 && ((x35.2.2 : Int) == 0))) rfl (by rw [h55]; simp only [Bool.true_and]) ?_
 exact az [0,24,2]
 refine qb (os := _) rfl (qy (k := 69) rfl h55 ?_)
 refine au [8,8,24,8] ?_
 refine qd (d := 72) (v := .bool (x54 && ((x35.2.2 : Int) == 0))) rfl (by rw [h55]; simp only [Bool.false_and]) ?_
 exact az [0,24,2]
 refine qb (os := _) rfl ?_
 refine au [3] ?_
 refine qN 5 (x54 && ((x35.2.2 : Int) == 0)) [(78, .bool ((x54 && ((x35.2.2 : Int) == 0)) && ((x35.2.1 : Int) == x8.2.2.2.1)))] (fun h56 => ?_) (fun h56 => ?_) ?_
 refine qb (os := _) rfl (qz (k := 73) rfl h56 ?_)
 refine au [3,13,21,25,1,24,7] ?_
 refine qd (d := 78) (v := .bool ((x54 && ((x35.2.2 : Int) == 0)) && ((x35.2.1 : Int) == x8.2.2.2.1))) rfl (by rw [h56]; simp only [Bool.true_and]) ?_
 exact az [0,24,2]
 refine qb (os := _) rfl (qy (k := 73) rfl h56 ?_)
 refine au [8,8,8,8,24,8] ?_
 refine qd (d := 78) (v := .bool ((x54 && ((x35.2.2 : Int) == 0)) && ((x35.2.1 : Int) == x8.2.2.2.1))) rfl (by rw [h56]; simp only [Bool.false_and]) ?_
 exact az [0,24,2]
 refine qb (os := _) rfl ?_
 exact az [5,0,1,9,11,17]
 intro _
 refine au [12,1,2,4,3,25,3,3] ?_
 refine kR 8 (fun ((x63, _) : (Bool × Unit)) => ([(89, .bool x63)], [], [], [], qaT F x63)) ?_ ?_
 refine qb (os := _) rfl ?_
 refine av [25,14] ?_ ?_
 intro h58
 refine qz (k := 81) rfl h58 ?_
 refine au [8,8,8,8,8,8,8,24,7,0] ?_
 exact qa (true, ())
 intro h58
 refine qy (k := 81) rfl h58 ?_
 refine au [3,25,1,3] ?_
 refine kR 4 (fun ((x66, _) : (Bool × Unit)) => ([(81, .bool false), (88, .bool x66)], [], [], [], qaU F x66)) ?_ ?_
 refine qb (os := _) rfl ?_
 refine av [25,14] ?_ ?_
 intro h64
 refine qz (k := 84) rfl h64 ?_
 refine au [24,14,25,8,34,8] ?_
 intro x67 e67 _
 refine au [24,7,0] ?_
 exact qa (x67, ())
 intro h64
 refine qy (k := 84) rfl h64 ?_
 refine au [8,8,8,24,8,0] ?_
 exact qa (false, ())
 rintro ⟨x66, _⟩
 try dsimp only
 refine qb (os := _) rfl ?_
 refine au [24,8,0] ?_
 exact qa (x66, ())
 rintro ⟨x63, _⟩
 try dsimp only
 refine qb (os := _) rfl ?_
 exact az [5,0,1,9,17]
end Go.Proofs.YtlioijpkhffbnaaGreat
