/- Each Go function of this seat computes what its model says, part 4. -/
import Derived.Test.YtlioijpkhffbnaaGreatWalks3
namespace Go.Proofs.YtlioijpkhffbnaaGreat
open Go SX
set_option maxHeartbeats 4000000 in
theorem qez {F : Nat} {x1 : List (List Int)} {a2 : Option Addr} {c3 : Nat} {s3 : List (Option Addr × Nat)} {x4 : Int} {x5 : Int} {x6 : Int} {r : (List Int × Int)} (hm : jN F x1 x4 x5 x6 = some r) :
    Pure Tryz.prog 20 [.agg #[.slice a2 x1.length c3], .agg #[.int .i64 x4, .int .i64 x5, .int .i64 x6]] [SlN eN59 iN59 1 (.slice a2 x1.length c3) x1 s3] (Option Addr × Nat) (fun g => .tuple #[.slice g.1 r.1.length g.2, .int .i64 r.2]) (fun g => [Ro (eI .u8) 5 1 (.slice g.1 r.1.length g.2) r.1]) (fun _ => []) := by
 refine qh Tryz.func20 rfl Tryz.ntmps20 rfl hm (fun w => ?_)
 refine au [24,13,2,4,24,5] ?_
 intro g7
 refine au [24,5] ?_
 intro g8
 refine au [5,5,0,1,2,4,25,8,24,14,33,14] ?_
 rintro x9 e9 ⟨a10, c11⟩
 refine au [3,14,14,24,6] ?_
 intro g12
 refine av [23,5,0,1,2,2,4,3,25,3,0,1,10] ?_ ?_
 intro _
 refine au [2,4,3,5,5,0,1,9,11,26,1] ?_
 exact qn (none, 0)
 intro _
 refine au [12,1,2,4] ?_
 refine qek (vs := [.int .u8 76, .int .u8 87]) (ys := ([76, 87] : List Int)) (qs .u8) (by decide) rfl Tryz.underlying27 tf5 rfl rfl rfl rfl rfl (by decide) (by decide) (fun g14 => ?_)
 refine au [30,8] ?_
 refine qu (vs := [.int .u8 2]) (ys := ([2] : List Int)) (qs .u8) (by decide) rfl Tryz.underlying27 tf5 rfl rfl rfl rfl rfl (by decide) (fun a15 c16 => qdT 0 rfl Tryz.underlying27 tf5 rfl rfl rfl rfl rfl (.inl ⟨0, _, rfl⟩) (by decide) rfl rfl (fun x17 e17 a18 c19 => ?_))
 refine au [5,0,1] ?_
 refine qe (fun ((x71, (a69, c70)) : (List Int × (Option Addr × Nat))) => ([(6, .pointer (some ⟨g12, 0, none⟩)), (8, .slice a69 x71.length c70)], [⟨g12, 75, [.int .i64 x9.1, .int .i64 x9.2.1, .int .i64 x9.2.2.1, .int .i64 x9.2.2.2.1, .int .i64 x9.2.2.2.2.1, .slice a10 x9.2.2.2.2.2.1.length c11]⟩], [Ro (eI .u8) 5 1 (.slice a69 x71.length c70) x71, Ro (eI .u8) 5 1 (.slice a10 x9.2.2.2.2.2.1.length c11) x9.2.2.2.2.2.1], [], jY F x9 x71)) ?_ ?_
 refine au [2,4,13,21,13,25,11,13,25,11,13,25,11,13,13,21] ?_
 refine qu (vs := [.int .i64 x9.1, .int .i64 x4, .int .i64 x5, .int .i64 x6, .int .i64 x9.2.2.2.2.1]) (ys := ([x9.1, x4, x5, x6, x9.2.2.2.2.1] : List Int)) (qs .i64) (by decide) rfl Tryz.underlying59 tf3 rfl rfl rfl rfl rfl (by decide) (fun a75 c76 => ?_)
 refine au [24,1,3,0,1,15] ?_
 refine qk (fun (((x93, x94), (a91, c92)) : ((List Int × Int) × (Option Addr × Nat))) => ([(6, .pointer (some ⟨g12, 0, none⟩)), (8, .slice a91 x93.length c92), (35, .slice a75 ([x9.1, x4, x5, x6, x9.2.2.2.2.1] : List Int).length c76), (36, .int .i64 (([x9.1, x4, x5, x6, x9.2.2.2.2.1] : List Int).length : Int)), (37, .int .i64 x94)], [⟨g12, 75, [.int .i64 x9.1, .int .i64 x9.2.1, .int .i64 x9.2.2.1, .int .i64 x9.2.2.2.1, .int .i64 x9.2.2.2.2.1, .slice a10 x9.2.2.2.2.2.1.length c11]⟩], [Ro (eI .u8) 5 1 (.slice a91 x93.length c92) x93, Ro (eI .i64) 3 1 (.slice a75 ([x9.1, x4, x5, x6, x9.2.2.2.2.1] : List Int).length c76) ([x9.1, x4, x5, x6, x9.2.2.2.2.1] : List Int), Ro (eI .u8) 5 1 (.slice a10 x9.2.2.2.2.2.1.length c11) x9.2.2.2.2.2.1], [])) (fun k (s : ((List Int × Int) × (Option Addr × Nat))) => zj F x4 x5 x6 x9 k s.1) ((x17, 0), (a18, c19)) F ?_
 intro k109
 rintro ⟨⟨x93, x94⟩, ⟨a91, c92⟩⟩
 try dsimp only
 refine qC (m' := kD F x4 x5 x6 x9 (zj F x4 x5 x6 x9 k109) x93 x94) rfl ?_
 refine av [2,4,24,4,0,1,2,10] ?_ ?_
 intro _
 refine au [12,1,2,15,2,4,34,4] ?_
 intro x117 e117 g118 h119
 refine qgm (j := 1) (y := x117) (qs .i64) rfl rfl tf3 rfl h119 (zG e117).2.2 (fun _ => rfl) rfl rfl ?_
 refine au [5,0,1,4,3,3,24,15,28,1] ?_
 rintro x120 e120 ⟨a121, c122⟩
 refine au [5,0,24,3,1,4,16,3,0] ?_
 exact qi ((x120, iadd .i64 x94 1), (a121, c122))
 intro _
 refine au [24,11,17,17,24,12] ?_
 exact qa (x93, (a91, c92))
 rintro ⟨x71, ⟨a69, c70⟩⟩
 try dsimp only
 refine au [2,4,3,13,13,21] ?_
 refine km 0 (qs .u8) rfl Tryz.underlying27 tf5 rfl rfl rfl rfl rfl (.inl ⟨1, _, rfl⟩) rfl rfl (fun x72 e72 a73 c74 => ?_)
 refine au [5,5,0,1,9] ?_
 exact qn (a73, c74)
set_option maxHeartbeats 4000000 in
theorem qhM {F : Nat} {x1 : List (List Int)} {a2 : Option Addr} {c3 : Nat} {s3 : List (Option Addr × Nat)} {x4 : Int} {x5 : Int} {x6 : Int} {x7 : Int} {r : (List Int × Int)} (hm : qaR F x1 x4 x5 x6 x7 = some r) :
    Pure Tryz.prog 10 [.agg #[.slice a2 x1.length c3], .int .i64 x4, .agg #[.int .i64 x5, .int .i64 x6, .int .i64 x7]] [SlN eN59 iN59 1 (.slice a2 x1.length c3) x1 s3] (Option Addr × Nat) (fun g => .tuple #[.slice g.1 r.1.length g.2, .int .i64 r.2]) (fun g => [Ro (eI .u8) 5 1 (.slice g.1 r.1.length g.2) r.1]) (fun _ => []) := by
 refine qh Tryz.func10 rfl Tryz.ntmps10 rfl hm (fun w => ?_)
 refine au [25,12,2,4,24,5] ?_
 intro g8
 refine au [24,5] ?_
 intro g9
 refine au [5,5,0,1,2,4,25,8,29,4] ?_
 intro x10 e10 _
 refine au [5,0,1] ?_
 refine qe (fun (((x22, x23), (a20, c21)) : ((List Int × Int) × (Option Addr × Nat))) => ([(6, .slice a20 x22.length c21), (7, .int .i64 x23)], [], [Ro (eI .u8) 5 1 (.slice a20 x22.length c21) x22], [], zX F x22 x23)) ?_ ?_
 refine av [15,2,4,3,25,3,5,0,1,10] ?_ ?_
 intro _
 refine au [12,24,3,26,1] ?_
 exact qa ((([] : List Int), x10), (none, 0))
 intro _
 refine av [2,4,3,25,2,5,0,1,10] ?_ ?_
 intro _
 refine au [4,25,8] ?_
 refine qg qeA ?_
 rintro x31 e31 ⟨a32, c33⟩
 refine au [5,0,24,3] ?_
 exact qa ((x31, x10), (a32, c33))
 intro _
 refine av [2,4,3,25,2,5,0,1,10] ?_ ?_
 intro _
 refine au [4,25,8,24,14] ?_
 refine qg qez ?_
 rintro x34 e34 ⟨a35, c36⟩
 refine au [3,14,14,5,5,0,24,3] ?_
 exact qa ((x34.1, x34.2), (a35, c36))
 intro _
 refine au [4,5,0,24,3,26,1] ?_
 exact qa ((([] : List Int), (3 : Int)), (none, 0))
 rintro ⟨⟨x22, x23⟩, ⟨a20, c21⟩⟩
 try dsimp only
 refine qe (fun ((x26, _) : (Int × Unit)) => ([(6, .slice a20 x22.length c21), (7, .int .i64 x26)], [], [Ro (eI .u8) 5 1 (.slice a20 x22.length c21) x22], [], jn F x22 x26)) ?_ ?_
 refine au [2,4,3,25,2,3] ?_
 refine qF 4 ((x23 : Int) == 0) [(6, .slice a20 x22.length c21), (7, .int .i64 x23), (33, .bool (((x23 : Int) == 0) && (decide (4096 < (x22.length : Int)))))] (fun h29 => ?_) (fun h29 => ?_) ?_
 refine qb (os := _) rfl (qw (k := 29) rfl h29 ?_)
 refine au [3,24,1,24,9,24,7] ?_
 refine qd (d := 33) (v := .bool (((x23 : Int) == 0) && (decide (4096 < (x22.length : Int))))) rfl (by rw [h29]; simp only [Bool.true_and]) ?_
 exact az [0,24,0]
 refine qb (os := _) rfl (qv (k := 29) rfl h29 ?_)
 refine au [8,8,8,24,8] ?_
 refine qd (d := 33) (v := .bool (((x23 : Int) == 0) && (decide (4096 < (x22.length : Int))))) rfl (by rw [h29]; simp only [Bool.false_and]) ?_
 exact az [0,24,0]
 refine qb (os := _) rfl ?_
 refine av [0,1,10] ?_ ?_
 intro _
 refine au [4,5,0] ?_
 exact qa ((2 : Int), ())
 intro _
 refine au [12] ?_
 exact qa (x23, ())
 rintro ⟨x26, _⟩
 try dsimp only
 refine av [2,2,4,3,25,3,0,1,10] ?_ ?_
 intro _
 refine au [2,4,3,5,5,0,1,9,11,26,1] ?_
 exact qn (none, 0)
 intro _
 refine au [12,1,2,4,3,5,5,0,1,9] ?_
 exact qn (a20, c21)
set_option maxHeartbeats 4000000 in
theorem qfr {F : Nat} {x1 : List Int} {a2 : Option Addr} {c3 : Nat} {x4 : List Int} {a5 : Option Addr} {c6 : Nat} {r : Bool} (hm : jE F x1 x4 = some r) :
    Pure Tryz.prog 16 [.slice a2 x1.length c3, .slice a5 x4.length c6] [Sl (eI .u8) 1 (.slice a2 x1.length c3) x1, Sl (eI .u8) 1 (.slice a5 x4.length c6) x4] Unit (fun _ => .bool r) (fun _ => []) (fun _ => []) := by
 refine qh Tryz.func16 rfl Tryz.ntmps16 rfl hm (fun w => ?_)
 refine av [24,13,2,4,5,0,1,2,2,4,3,24,1,3,24,1,25,3,0,1,10] ?_ ?_
 intro _
 exact az [2,4,5,0,1,9,11,19]
 intro _
 refine au [12,1] ?_
 refine qe (fun ((_, _) : (Unit × Unit)) => ([], [], [], [], qbO F)) ?_ ?_
 refine au [2,4,5,0,1,15] ?_
 refine qk (fun ((x154, _) : (Int × Unit)) => ([(0, .slice a2 x1.length c3), (1, .slice a5 x4.length c6), (5, .int .i64 x154)], [], [], [Sl (eI .u8) 1 (.slice a2 x1.length c3) x1, Sl (eI .u8) 1 (.slice a5 x4.length c6) x4])) (fun k (s : (Int × Unit)) => k6 F x1 x4 k s.1) (0, ()) F ?_
 intro k191
 rintro ⟨x154, _⟩
 try dsimp only
 refine qC (m' := jv F x1 x4 (k6 F x1 x4 k191) x154) rfl ?_
 refine av [2,2,4,3,3,24,1,24,4,0,1,10] ?_ ?_
 intro _
 refine au [12,1,2,15,2,29,6] ?_
 intro x218 e218 b219 o220 h221
 replace h221 : a2 = some ⟨b219, o220, none⟩ := h221
 refine au [33,13] ?_
 intro x222 e222 b223 o224 h225
 replace h225 : a5 = some ⟨b223, o224, none⟩ := h225
 refine qq mixed [] [] [qR b223 (o224 + x154.toNat * 1) ((eI .u8) x222), qR b219 (o220 + x154.toNat * 1) ((eI .u8) x218), Sl (eI .u8) 1 (.slice a2 x1.length c3) x1, Sl (eI .u8) 1 (.slice a5 x4.length c6) x4] .nil (qG 0 rfl (qG 1 rfl (qG 2 rfl (qG 3 rfl qm)))) 9 rfl ?_
 refine au [6,0,6,1] ?_
 refine qf (d := 17) (v := .slice (some ⟨b219, o220, none⟩) x1.length c3) rfl (by rw [h221] <;> rfl) (qx 2 (.pointer (some ⟨b219, (o220 + x154.toNat * 1), none⟩)) rfl rfl rfl (qaZ Tryz.underlying27 tf5 rfl rfl (zG e218).1 (qay e218)) (qf (d := 17) (v := .slice a2 x1.length c3) rfl (by rw [h221] <;> rfl) (zu 3 (.int .u8 x218) [] rfl rfl rfl (vH (j := 1) rfl tf5 rfl rfl (fun _ => rfl) rfl) ?_)))
 refine au [6,4,6,5] ?_
 refine qf (d := 21) (v := .slice (some ⟨b223, o224, none⟩) x4.length c6) rfl (by rw [h225] <;> rfl) (qx 6 (.pointer (some ⟨b223, (o224 + x154.toNat * 1), none⟩)) rfl rfl rfl (qaZ Tryz.underlying27 tf5 rfl rfl (zG e222).1 (qay e222)) (qf (d := 21) (v := .slice a5 x4.length c6) rfl (by rw [h225] <;> rfl) (zu 7 (.int .u8 x222) [] rfl rfl rfl (vH (j := 0) rfl tf5 rfl rfl (fun _ => rfl) rfl) ?_)))
 refine au [6,8,24,2] ?_
 refine qt ?_ (by intro c h; cases h)
 refine av [1,10] ?_ ?_
 intro _
 exact az [2,4,5,0,1,9,22,11,11,22,11,19]
 intro _
 refine au [12,24,3,1,4,3,16,5,0] ?_
 exact qi (iadd .i64 x154 1, ())
 intro _
 exact az [24,11,17,17,24,12,25,15]
 rintro ⟨_, _⟩
 try dsimp only
 exact az [2,4,5,0,1,9,19]
set_option maxHeartbeats 4000000 in
theorem qgv {F : Nat} {x1 : List Int} {a2 : Option Addr} {c3 : Nat} {x4 : List Int} {a5 : Option Addr} {c6 : Nat} {r : Bool} (hm : qa0 F x1 x4 = some r) :
    Pure Tryz.prog 44 [.slice a2 x1.length c3, .slice a5 x4.length c6] [Sl (eI .i64) 1 (.slice a2 x1.length c3) x1, Sl (eI .i64) 1 (.slice a5 x4.length c6) x4] Unit (fun _ => .bool r) (fun _ => []) (fun _ => []) := by
 refine qh Tryz.func44 rfl Tryz.ntmps44 rfl hm (fun w => ?_)
 refine av [24,13,2,4,5,0,1,2,2,4,3,24,1,3,24,1,25,3,0,1,10] ?_ ?_
 intro _
 exact az [2,4,5,0,1,9,11,19]
 intro _
 refine au [12,1] ?_
 refine qe (fun ((_, _) : (Unit × Unit)) => ([], [], [], [], qci F)) ?_ ?_
 refine au [2,4,5,0,1,15] ?_
 refine qk (fun ((x154, _) : (Int × Unit)) => ([(0, .slice a2 x1.length c3), (1, .slice a5 x4.length c6), (5, .int .i64 x154)], [], [], [Sl (eI .i64) 1 (.slice a2 x1.length c3) x1, Sl (eI .i64) 1 (.slice a5 x4.length c6) x4])) (fun k (s : (Int × Unit)) => yp F x1 x4 k s.1) (0, ()) F ?_
 intro k191
 rintro ⟨x154, _⟩
 try dsimp only
 refine qC (m' := jK F x1 x4 (yp F x1 x4 k191) x154) rfl ?_
 refine av [2,2,4,3,3,24,1,24,4,0,1,10] ?_ ?_
 intro _
 refine au [12,1,2,15,2,32,4] ?_
 intro x218 e218 b219 o220 h221
 replace h221 : a2 = some ⟨b219, o220, none⟩ := h221
 refine qbX (j := 2) (qs .i64) (by decide) rfl ?_
 intro x222 e222 b223 o224 h225
 replace h225 : a5 = some ⟨b223, o224, none⟩ := h225
 refine qq mixed [] [] [qR b223 (o224 + x154.toNat * 1) ((eI .i64) x222), qR b219 (o220 + x154.toNat * 1) ((eI .i64) x218), Sl (eI .i64) 1 (.slice a2 x1.length c3) x1, Sl (eI .i64) 1 (.slice a5 x4.length c6) x4] .nil (qG 0 rfl (qG 1 rfl (qG 2 rfl (qG 3 rfl qm)))) 9 rfl ?_
 refine au [6,0,6,1] ?_
 refine qf (d := 17) (v := .slice (some ⟨b219, o220, none⟩) x1.length c3) rfl (by rw [h221] <;> rfl) (qx 2 (.pointer (some ⟨b219, (o220 + x154.toNat * 1), none⟩)) rfl rfl rfl (qaZ Tryz.underlying59 tf3 rfl rfl (zG e218).1 (qay e218)) (qf (d := 17) (v := .slice a2 x1.length c3) rfl (by rw [h221] <;> rfl) (zu 3 (.int .i64 x218) [] rfl rfl rfl (vH (j := 1) rfl tf3 rfl rfl (fun _ => rfl) rfl) ?_)))
 refine au [6,4,6,5] ?_
 refine qf (d := 21) (v := .slice (some ⟨b223, o224, none⟩) x4.length c6) rfl (by rw [h225] <;> rfl) (qx 6 (.pointer (some ⟨b223, (o224 + x154.toNat * 1), none⟩)) rfl rfl rfl (qaZ Tryz.underlying59 tf3 rfl rfl (zG e222).1 (qay e222)) (qf (d := 21) (v := .slice a5 x4.length c6) rfl (by rw [h225] <;> rfl) (zu 7 (.int .i64 x222) [] rfl rfl rfl (vH (j := 0) rfl tf3 rfl rfl (fun _ => rfl) rfl) ?_)))
 refine au [6,8,24,2] ?_
 refine qt ?_ (by intro c h; cases h)
 refine av [1,10] ?_ ?_
 intro _
 exact az [2,4,5,0,1,9,22,11,11,22,11,19]
 intro _
 refine au [12,24,3,1,4,3,16,5,0] ?_
 exact qi (iadd .i64 x154 1, ())
 intro _
 exact az [24,11,17,17,24,12,25,15]
 rintro ⟨_, _⟩
 try dsimp only
 exact az [2,4,5,0,1,9,19]
set_option maxHeartbeats 4000000 in
theorem qft {F : Nat} {x1 : List (List Int)} {a2 : Option Addr} {c3 : Nat} {s3 : List (Option Addr × Nat)} {x4 : List (List Int)} {a5 : Option Addr} {c6 : Nat} {s6 : List (Option Addr × Nat)} {r : Bool} (hm : jF F x1 x4 = some r) :
    Pure Tryz.prog 32 [.slice a2 x1.length c3, .slice a5 x4.length c6] [SlN eN59 iN59 1 (.slice a2 x1.length c3) x1 s3, SlN eN59 iN59 1 (.slice a5 x4.length c6) x4 s6] Unit (fun _ => .bool r) (fun _ => []) (fun _ => []) := by
 refine qh Tryz.func32 rfl Tryz.ntmps32 rfl hm (fun w => ?_)
 refine av [24,13,2,4,5,0,1,2,2,4,3,24,1,3,24,1,25,3,0,1,10] ?_ ?_
 intro _
 exact az [2,4,5,0,1,9,11,19]
 intro _
 refine au [12,1] ?_
 refine qe (fun ((_, _) : (Unit × Unit)) => ([], [], [], [], qbP F)) ?_ ?_
 refine au [2,4,5,0,1,15] ?_
 refine qk (fun ((x202, _) : (Int × Unit)) => ([(0, .slice a2 x1.length c3), (1, .slice a5 x4.length c6), (5, .int .i64 x202)], [], [], [SlN eN59 iN59 1 (.slice a2 x1.length c3) x1 s3, SlN eN59 iN59 1 (.slice a5 x4.length c6) x4 s6])) (fun k (s : (Int × Unit)) => k7 F x1 x4 k s.1) (0, ()) F ?_
 intro k251
 rintro ⟨x202, _⟩
 try dsimp only
 refine qC (m' := jw F x1 x4 (k7 F x1 x4 k251) x202) rfl ?_
 refine av [2,2,4,3,3,24,1,24,4,0,1,10] ?_ ?_
 intro _
 refine au [12,1,2,15,2] ?_
 refine qiH (j := 0) vw (by decide) rfl ?_
 intro x287 e287 g291 b288 o289 h290
 replace h290 : a2 = some ⟨b288, o289, none⟩ := h290
 refine qiH (j := 3) vw (by decide) rfl ?_
 intro x292 e292 g296 b293 o294 h295
 replace h295 : a5 = some ⟨b293, o294, none⟩ := h295
 refine qq mixed [] [] [qR b293 (o294 + x202.toNat * 1) (eN59 (x292, g296)), Sl (eI .i64) 1 (.slice g296.1 x292.length g296.2) x292, qR b288 (o289 + x202.toNat * 1) (eN59 (x287, g291)), Sl (eI .i64) 1 (.slice g291.1 x287.length g291.2) x287, SlN eN59 iN59 1 (.slice a2 x1.length c3) x1 s3, SlN eN59 iN59 1 (.slice a5 x4.length c6) x4 s6] .nil (qG 0 rfl (qG 1 rfl (qG 2 rfl (qG 3 rfl (qG 4 rfl (qG 5 rfl qm)))))) 10 rfl ?_
 refine au [6,0,6,1] ?_
 refine qf (d := 17) (v := .slice (some ⟨b288, o289, none⟩) x1.length c3) rfl (by rw [h290] <;> rfl) (qx 2 (.pointer (some ⟨b288, (o289 + x202.toNat * 1), none⟩)) rfl rfl rfl (qaZ Tryz.underlying22 tf59 rfl rfl (zG e287).1 (qay e287)) (qf (d := 17) (v := .slice a2 x1.length c3) rfl (by rw [h290] <;> rfl) (zu 3 (.slice g291.1 x287.length g291.2) [] rfl rfl rfl (vH (j := 2) rfl tf59 rfl rfl (fun _ => rfl) rfl) ?_)))
 refine au [6,4,6,5] ?_
 refine qf (d := 21) (v := .slice (some ⟨b293, o294, none⟩) x4.length c6) rfl (by rw [h295] <;> rfl) (qx 6 (.pointer (some ⟨b293, (o294 + x202.toNat * 1), none⟩)) rfl rfl rfl (qaZ Tryz.underlying22 tf59 rfl rfl (zG e292).1 (qay e292)) (qf (d := 21) (v := .slice a5 x4.length c6) rfl (by rw [h295] <;> rfl) (zu 7 (.slice g296.1 x292.length g296.2) [] rfl rfl rfl (vH (j := 0) rfl tf59 rfl rfl (fun _ => rfl) rfl) ?_)))
 refine au [20,8] ?_
 refine qg qgv ?_
 intro x297 e297 _
 refine au [0] ?_
 refine zT .nil (qG 0 rfl (qG 1 rfl (qG 2 rfl (qG 3 rfl (qG 4 rfl (qG 5 rfl qm)))))) ?_
 refine au [6,9,24,2] ?_
 refine qt ?_ (by intro c h; cases h)
 refine av [1,10] ?_ ?_
 intro _
 exact az [2,4,5,0,1,9,22,11,11,22,11,19]
 intro _
 refine au [12,24,3,1,4,3,16,5,0] ?_
 exact qi (iadd .i64 x202 1, ())
 intro _
 exact az [24,11,17,17,24,12,25,15]
 rintro ⟨_, _⟩
 try dsimp only
 exact az [2,4,5,0,1,9,19]
theorem qfs {F : Nat} {x1 : List (List Int)} {a2 : Option Addr} {c3 : Nat} {s3 : List (Option Addr × Nat)} {x4 : List (List Int)} {a5 : Option Addr} {c6 : Nat} {s6 : List (Option Addr × Nat)} {r : Bool} (hm : yN F x1 x4 = some r) :
    Pure Tryz.prog 17 [.agg #[.slice a2 x1.length c3], .agg #[.slice a5 x4.length c6]] [SlN eN59 iN59 1 (.slice a2 x1.length c3) x1 s3, SlN eN59 iN59 1 (.slice a5 x4.length c6) x4 s6] Unit (fun _ => .bool r) (fun _ => []) (fun _ => []) := by
 refine qh Tryz.func17 rfl Tryz.ntmps17 rfl hm (fun w => ?_)
 refine au [24,13,2,4,24,5] ?_
 intro g7
 refine au [24,5] ?_
 intro g8
 refine au [5,0,1,2,4,13,25,11,13,21,34,5] ?_
 intro x9 e9 _
 exact az [5,0,1,9,19]
theorem qfq (F : Nat)  (r : List (List Int)) (hm : qaE F  = some r) :
    Pure Tryz.prog 31 [] [] (Option Addr × (Nat × List (Option Addr × Nat))) (fun g => .agg #[.slice g.1 r.length g.2.1]) (fun g => [RoN eN59 rN59 59 1 (.slice g.1 r.length g.2.1) r g.2.2 []]) (fun _ => []) := by
 refine qh Tryz.func31 rfl Tryz.ntmps31 rfl hm (fun w => ?_)
 refine au [34,6,2,4,24,6] ?_
 intro g1
 refine au [0,1,2,4] ?_
 refine qu (vs := [.int .i64 1, .int .i64 2, .int .i64 3, .int .i64 5]) (ys := ([1, 2, 3, 5] : List Int)) (qs .i64) (by decide) rfl Tryz.underlying59 tf3 rfl rfl rfl rfl rfl (by decide) (fun a2 c3 => qu (vs := [.int .i64 1, .int .i64 2, .int .i64 3, .int .i64 5]) (ys := ([1, 2, 3, 5] : List Int)) (qs .i64) (by decide) rfl Tryz.underlying59 tf3 rfl rfl rfl rfl rfl (by decide) (fun a4 c5 => qu (vs := [.int .i64 0, .int .i64 1, .int .i64 2, .int .i64 3, .int .i64 5]) (ys := ([0, 1, 2, 3, 5] : List Int)) (qs .i64) (by decide) rfl Tryz.underlying59 tf3 rfl rfl rfl rfl rfl (by decide) (fun a6 c7 => qu (vs := [.int .i64 4]) (ys := ([4] : List Int)) (qs .i64) (by decide) rfl Tryz.underlying59 tf3 rfl rfl rfl rfl rfl (by decide) (fun a8 c9 => qu (vs := [.int .i64 1, .int .i64 2, .int .i64 3]) (ys := ([1, 2, 3] : List Int)) (qs .i64) (by decide) rfl Tryz.underlying59 tf3 rfl rfl rfl rfl rfl (by decide) (fun a10 c11 => ?_)))))
 refine au [27,2] ?_
 refine qu (vs := [.slice a2 ([1, 2, 3, 5] : List Int).length c3, .slice a4 ([1, 2, 3, 5] : List Int).length c5, .slice a6 ([0, 1, 2, 3, 5] : List Int).length c7, .slice none ([] : List Int).length 0, .slice a8 ([4] : List Int).length c9, .slice a10 ([1, 2, 3] : List Int).length c11]) (ys := ([(([1, 2, 3, 5] : List Int), (a2, c3)), (([1, 2, 3, 5] : List Int), (a4, c5)), (([0, 1, 2, 3, 5] : List Int), (a6, c7)), (([] : List Int), (none, 0)), (([4] : List Int), (a8, c9)), (([1, 2, 3] : List Int), (a10, c11))] : List (List Int × (Option Addr × Nat)))) vw (by decide) rfl Tryz.underlying22 tf59 rfl rfl rfl rfl rfl (by decide) (fun a12 c13 => qce (rin := rN59) (i := 0) ([([1, 2, 3, 5] : List Int), ([1, 2, 3, 5] : List Int), ([0, 1, 2, 3, 5] : List Int), ([] : List Int), ([4] : List Int), ([1, 2, 3] : List Int)] : List (List Int)) ([(a2, c3), (a4, c5), (a6, c7), (none, 0), (a8, c9), (a10, c11)] : List (Option Addr × Nat)) rfl rfl (.cons 5 rfl (.cons 4 rfl (.cons 3 rfl (.cons 0 rfl (.cons 1 rfl (.cons 0 rfl .nil)))))) (qj (cells := [.slice a12 ([([1, 2, 3, 5] : List Int), ([1, 2, 3, 5] : List Int), ([0, 1, 2, 3, 5] : List Int), ([] : List Int), ([4] : List Int), ([1, 2, 3] : List Int)] : List (List Int)).length c13]) rfl st24 rfl (by kernel_rfl) rfl ?_))
 refine au [23,0,1,9] ?_
 exact qB (a12, (c13, ([(a2, c3), (a4, c5), (a6, c7), (none, 0), (a8, c9), (a10, c11)] : List (Option Addr × Nat)))) (resL (rs := [.cell 0 24]) rfl (.cell (i := 0) rfl tf24 rfl rfl (by simp) rfl ResOk.nil) rfl) (fun h => by subst h; exact (.cons 0 rfl .nil))
set_option maxHeartbeats 4000000 in
theorem qfp (F : Nat)  (r : Bool) (hm : qaD F  = some r) :
    Pure Tryz.prog 15 [] [] Unit (fun _ => .bool r) (fun _ => []) (fun _ => []) := by
 refine qh Tryz.func15 rfl Tryz.ntmps15 rfl hm (fun w => ?_)
 refine au [34,6,2,4,5,0,1,2,4] ?_
 refine qj (cells := [.int .i64 999, .int .i64 99, .int .i64 99, .int .i64 999]) rfl st29 rfl (by kernel_rfl) rfl ?_
 refine au [24,6] ?_
 intro g1
 refine au [23,0,1,2,4] ?_
 refine qu (vs := [.int .i64 1]) (ys := ([1] : List Int)) (qs .i64) (by decide) rfl Tryz.underlying59 tf3 rfl rfl rfl rfl rfl (by decide) (fun a2 c3 => ?_)
 refine au [28,9,27,2,28,9] ?_
 refine qu (vs := [.slice a2 ([1] : List Int).length c3, .slice none 0 0]) (ys := ([(([1] : List Int), (a2, c3)), (([] : List Int), (none, 0))] : List (List Int × (Option Addr × Nat)))) vw (by decide) rfl Tryz.underlying22 tf59 rfl rfl rfl rfl rfl (by decide) (fun a4 c5 => qcS (inn := iN59) ([([1] : List Int), ([] : List Int)] : List (List Int)) ([(a2, c3), (none, 0)] : List (Option Addr × Nat)) 0 rfl rfl (qD 1 rfl (qD 0 rfl jr)) (qj (cells := [.slice a4 ([([1] : List Int), ([] : List Int)] : List (List Int)).length c5]) rfl st24 rfl (by kernel_rfl) rfl (qj (cells := [.int .i64 0, .int .i64 0, .int .i64 0]) rfl st26 rfl (by kernel_rfl) rfl ?_)))
 refine au [34,7] ?_
 rintro x6 e6 ⟨a7, c8⟩
 refine au [3,14,14,5,5,0,1,2,4,34,8] ?_
 rintro x9 e9 ⟨a10, c11⟩
 refine qj (cells := [.int .i64 2, .int .i64 3, .int .i64 1]) rfl st26 rfl (by kernel_rfl) rfl ?_
 refine au [34,7] ?_
 rintro x12 e12 ⟨a13, c14⟩
 refine au [3,14,14,5,5,0,1,2,4,3,24,14,28,2] ?_
 rintro x15 e15 ⟨a16, c17⟩
 refine au [3,14,14,14,24,6] ?_
 intro g18
 refine au [23,5,5,0,1,2,4,3,25,8,28,2] ?_
 rintro x19 e19 ⟨a20, c21⟩
 refine au [3,14,14,14,24,6] ?_
 intro g22
 refine au [23,5,5,0,1,2,4,3,34,9] ?_
 intro x23 e23 _
 refine au [3,14,14,24,6] ?_
 intro g24
 refine au [23,5,0,1,2,4,3] ?_
 refine qj (cells := [.int .i64 999, .int .i64 99, .int .i64 99, .int .i64 3]) rfl st29 rfl (by kernel_rfl) rfl ?_
 refine au [28,2] ?_
 rintro x25 e25 ⟨a26, c27⟩
 refine au [3,14,14,14,24,6] ?_
 intro g28
 refine au [23,5,5,0,1,2,4] ?_
 refine qu (vs := [.int .u8 76, .int .u8 87, .int .u8 1]) (ys := ([76, 87, 1] : List Int)) (qs .u8) (by decide) rfl Tryz.underlying27 tf5 rfl rfl rfl rfl rfl (by decide) (fun a29 c30 => ?_)
 refine au [33,3,28,2] ?_
 rintro x31 e31 ⟨a32, c33⟩
 refine au [3,14,14,14,24,6] ?_
 intro g34
 refine au [23,5,5,0,1] ?_
 refine qe (fun ((x59, _) : (Bool × Unit)) => ([(0, .bool x59)], [], [], [], qI F x59)) ?_ ?_
 refine qq mixed [] [⟨g34, 24, [.slice a32 x31.1.length c33.1]⟩, ⟨g28, 24, [.slice a26 x25.1.length c27.1]⟩, ⟨g24, 29, [.int .i64 x23.1, .int .i64 x23.2.1, .int .i64 x23.2.2.1, .int .i64 x23.2.2.2.1]⟩, ⟨g22, 24, [.slice a20 x19.1.length c21.1]⟩, ⟨g18, 24, [.slice a16 x15.1.length c17.1]⟩, ⟨g1, 29, [.int .i64 999, .int .i64 99, .int .i64 99, .int .i64 999]⟩] [SlN eN59 iN59 1 (.slice a4 ([([1] : List Int), ([] : List Int)] : List (List Int)).length c5) ([([1] : List Int), ([] : List Int)] : List (List Int)) ([(a2, c3), (none, 0)] : List (Option Addr × Nat)), Sl (eI .i64) 1 (.slice none ([] : List Int).length 0) ([] : List Int), Sl (eI .i64) 1 (.slice a2 ([1] : List Int).length c3) ([1] : List Int)] (.cons 0 rfl (.cons 0 rfl (.cons 0 rfl (.cons 0 rfl (.cons 0 rfl (.cons 0 rfl .nil)))))) (qG 0 rfl (qG 1 rfl (qG 2 rfl qm))) 57 rfl ?_
 refine au [6,0,20,1] ?_
 refine qu (vs := [.int .u8 76, .int .u8 87, .int .u8 1, .int .u8 2, .int .u8 1, .int .u8 2, .int .u8 0]) (ys := ([76, 87, 1, 2, 1, 2, 0] : List Int)) (qs .u8) (by decide) rfl Tryz.underlying27 tf5 rfl rfl rfl rfl rfl (by decide) (fun a60 c61 => ?_)
 refine au [0,30,9,20,2] ?_
 refine qg qfr ?_
 intro x62 e62 _
 refine av [0,30,9,6,3,26,4] ?_ ?_
 intro h63
 refine qf (d := 71) (v := .bool true) rfl (by rw [h63] <;> rfl) ?_
 refine av [6,4,6,5,6,6,6,7,26,4] ?_ ?_
 intro h64
 refine qf (d := 75) (v := .bool true) rfl (by rw [h64] <;> rfl) ?_
 refine av [6,8,6,9,6,10,6,11,26,4] ?_ ?_
 intro h65
 refine qf (d := 79) (v := .bool true) rfl (by rw [h65] <;> rfl) ?_
 refine au [18,12] ?_
 refine zH 13 _ rfl rfl rfl (qZ (i := 4) rfl inferInstance rfl rfl (fun _ => rfl) rfl) ?_
 refine au [20,14] ?_
 refine qu (vs := [.int .i64 1]) (ys := ([1] : List Int)) (qs .i64) (by decide) rfl Tryz.underlying59 tf3 rfl rfl rfl rfl rfl (by decide) (fun a66 c67 => ?_)
 refine au [0,30,9,20,15,28,9,27,2] ?_
 refine qu (vs := [.slice a66 ([1] : List Int).length c67, .slice none 0 0]) (ys := ([(([1] : List Int), (a66, c67)), (([] : List Int), (none, 0))] : List (List Int × (Option Addr × Nat)))) vw (by decide) rfl Tryz.underlying22 tf59 rfl rfl rfl rfl rfl (by decide) (fun a68 c69 => qcS (inn := iN59) ([([1] : List Int), ([] : List Int)] : List (List Int)) ([(a66, c67), (none, 0)] : List (Option Addr × Nat)) 0 rfl rfl (qD 0 rfl (qD 2 rfl jr)) ?_)
 refine au [0,28,12,20,16,34,5] ?_
 intro x70 e70 _
 refine av [0,28,12,6,17,6,18,26,4] ?_ ?_
 intro h71
 refine qf (d := 86) (v := .bool true) rfl (by rw [h71] <;> rfl) ?_
 refine av [6,19,6,20,6,21,6,22,26,4] ?_ ?_
 intro h72
 refine qf (d := 90) (v := .bool true) rfl (by rw [h72] <;> rfl) ?_
 refine av [6,23,6,24,6,25,6,26,26,4] ?_ ?_
 intro h73
 refine qf (d := 94) (v := .bool true) rfl (by rw [h73] <;> rfl) (zH 27 (.agg #[.slice a20 x19.1.length c21.1]) rfl rfl rfl (qZ (i := 3) rfl tf24 rfl rfl (by simp) rfl) ?_)
 refine au [20,28,34,8] ?_
 rintro x74 e74 ⟨a75, c76⟩
 refine au [0,28,12,20,29,30,10] ?_
 intro x77 e77 _
 refine av [0,28,12,6,30,6,31,26,4] ?_ ?_
 intro h78
 refine qf (d := 99) (v := .bool true) rfl (by rw [h78] <;> rfl) ?_
 refine av [6,32,6,33,6,34,6,35,26,4] ?_ ?_
 intro h79
 refine qf (d := 103) (v := .bool true) rfl (by rw [h79] <;> rfl) ?_
 refine av [6,36,6,37,6,38,6,39,26,4] ?_ ?_
 intro h80
 refine qf (d := 107) (v := .bool true) rfl (by rw [h80] <;> rfl) (zH 40 (.agg #[.int .i64 x23.1, .int .i64 x23.2.1, .int .i64 x23.2.2.1, .int .i64 x23.2.2.2.1]) rfl rfl rfl (qZ (i := 2) rfl tf29 rfl rfl (by simp) rfl) (qx 41 (.agg #[.int .i64 7, .int .i64 2, .int .i64 1, .int .i64 4]) rfl rfl rfl (qcF (cells := [.int .i64 7, .int .i64 2, .int .i64 1, .int .i64 4]) st29 rfl (by kernel_rfl)) (qx 42 (.bool (((x23.1 : Int) == 7) && (((x23.2.1 : Int) == 2) && (((x23.2.2.1 : Int) == 1) && ((x23.2.2.2.1 : Int) == 4))))) rfl rfl rfl (qo1 rfl rfl se29) ?_)))
 refine av [6,43,6,44,26,4] ?_ ?_
 intro h81
 refine qf (d := 112) (v := .bool true) rfl (by rw [h81] <;> rfl) ?_
 refine av [6,45,6,46,6,47,6,48,26,4] ?_ ?_
 intro h82
 refine qf (d := 116) (v := .bool true) rfl (by rw [h82] <;> rfl) ?_
 refine av [6,49,6,50,6,51,6,52,26,4] ?_ ?_
 intro h83
 refine qf (d := 120) (v := .bool true) rfl (by rw [h83] <;> rfl) ?_
 refine au [6,53,6,54,6,55,6,56,24,2] ?_
 exact qt (qa (((x31.2.2 : Int) == 1), ())) (by intro c h; cases h)
 intro h83
 refine qf (d := 120) (v := .bool false) rfl (by rw [h83] <;> rfl) ?_
 refine au [7,53,7,54,6,55,6,56,24,2] ?_
 exact qt (qa (false, ())) (by intro c h; cases h)
 intro h82
 refine qf (d := 116) (v := .bool false) rfl (by rw [h82] <;> rfl) ?_
 refine au [7,49,7,50,6,51,6,52,7,53,7,54,6,55,6,56,24,2] ?_
 exact qt (qa (false, ())) (by intro c h; cases h)
 intro h81
 refine qf (d := 112) (v := .bool false) rfl (by rw [h81] <;> rfl) ?_
 refine au [7,45,7,46,6,47,6,48,7,49,7,50,6,51,6,52,7,53,7,54,6,55,6,56,24,2] ?_
 exact qt (qa (false, ())) (by intro c h; cases h)
 intro h80
 refine qf (d := 107) (v := .bool false) rfl (by rw [h80] <;> rfl) ?_
 refine au [7,40,7,41,7,42,6,43,6,44,7,45,7,46,6,47,6,48,7,49,7,50,6,51,6,52,7,53,7,54,6,55,6,56,24,2] ?_
 exact qt (qa (false, ())) (by intro c h; cases h)
 intro h79
 refine qf (d := 103) (v := .bool false) rfl (by rw [h79] <;> rfl) ?_
 refine au [7,36,7,37,6,38,6,39,7,40,7,41,7,42,6,43,6,44,7,45,7,46,6,47,6,48,7,49,7,50,6,51,6,52,7,53,7,54,6,55,6,56,24,2] ?_
 exact qt (qa (false, ())) (by intro c h; cases h)
 intro h78
 refine qf (d := 99) (v := .bool false) rfl (by rw [h78] <;> rfl) ?_
 refine au [7,32,7,33,6,34,6,35,7,36,7,37,6,38,6,39,7,40,7,41,7,42,6,43,6,44,7,45,7,46,6,47,6,48,7,49,7,50,6,51,6,52,7,53,7,54,6,55,6,56,24,2] ?_
 exact qt (qa (false, ())) (by intro c h; cases h)
 intro h73
 refine qf (d := 94) (v := .bool false) rfl (by rw [h73] <;> rfl) ?_
 refine au [7,27,7,28,7,29,6,30,6,31,7,32,7,33,6,34,6,35,7,36,7,37,6,38,6,39,7,40,7,41,7,42,6,43,6,44,7,45,7,46,6,47,6,48,7,49,7,50,6,51,6,52,7,53,7,54,6,55,6,56,24,2] ?_
 exact qt (qa (false, ())) (by intro c h; cases h)
 intro h72
 refine qf (d := 90) (v := .bool false) rfl (by rw [h72] <;> rfl) ?_
 refine au [7,23,7,24,6,25,6,26,7,27,7,28,7,29,6,30,6,31,7,32,7,33,6,34,6,35,7,36,7,37,6,38,6,39,7,40,7,41,7,42,6,43,6,44,7,45,7,46,6,47,6,48,7,49,7,50,6,51,6,52,7,53,7,54,6,55,6,56,24,2] ?_
 exact qt (qa (false, ())) (by intro c h; cases h)
 intro h71
 refine qf (d := 86) (v := .bool false) rfl (by rw [h71] <;> rfl) ?_
 refine au [7,19,7,20,6,21,6,22,7,23,7,24,6,25,6,26,7,27,7,28,7,29,6,30,6,31,7,32,7,33,6,34,6,35,7,36,7,37,6,38,6,39,7,40,7,41,7,42,6,43,6,44,7,45,7,46,6,47,6,48,7,49,7,50,6,51,6,52,7,53,7,54,6,55,6,56,24,2] ?_
 exact qt (qa (false, ())) (by intro c h; cases h)
 intro h65
 refine qf (d := 79) (v := .bool false) rfl (by rw [h65] <;> rfl) ?_
 refine au [7,12,7,13,7,14,7,15,7,16,6,17,6,18,7,19,7,20,6,21,6,22,7,23,7,24,6,25,6,26,7,27,7,28,7,29,6,30,6,31,7,32,7,33,6,34,6,35,7,36,7,37,6,38,6,39,7,40,7,41,7,42,6,43,6,44,7,45,7,46,6,47,6,48,7,49,7,50,6,51,6,52,7,53,7,54,6,55,6,56,24,2] ?_
 exact qt (qa (false, ())) (by intro c h; cases h)
 intro h64
 refine qf (d := 75) (v := .bool false) rfl (by rw [h64] <;> rfl) ?_
 refine au [7,8,7,9,6,10,6,11,7,12,7,13,7,14,7,15,7,16,6,17,6,18,7,19,7,20,6,21,6,22,7,23,7,24,6,25,6,26,7,27,7,28,7,29,6,30,6,31,7,32,7,33,6,34,6,35,7,36,7,37,6,38,6,39,7,40,7,41,7,42,6,43,6,44,7,45,7,46,6,47,6,48,7,49,7,50,6,51,6,52,7,53,7,54,6,55,6,56,24,2] ?_
 exact qt (qa (false, ())) (by intro c h; cases h)
 intro h63
 refine qf (d := 71) (v := .bool false) rfl (by rw [h63] <;> rfl) ?_
 refine au [7,4,7,5,6,6,6,7,7,8,7,9,6,10,6,11,7,12,7,13,7,14,7,15,7,16,6,17,6,18,7,19,7,20,6,21,6,22,7,23,7,24,6,25,6,26,7,27,7,28,7,29,6,30,6,31,7,32,7,33,6,34,6,35,7,36,7,37,6,38,6,39,7,40,7,41,7,42,6,43,6,44,7,45,7,46,6,47,6,48,7,49,7,50,6,51,6,52,7,53,7,54,6,55,6,56,24,2] ?_
 exact qt (qa (false, ())) (by intro c h; cases h)
 rintro ⟨x59, _⟩
 try dsimp only
 exact az [9,19]
set_option maxHeartbeats 4000000 in
theorem qfo (F : Nat) (x1 : List Int) (a2 : Option Addr) (c3 : Nat) (x4 : Int) (x5 : Int) (x6 : Int) (x7 : Int) (x8 : Int) (x9 : Int) (x10 : Int) (x11 : Int) (r : Bool) (hm : jD F x1 x4 x5 x6 x7 x8 x9 x10 x11 = some r) :
    Pure Tryz.prog 6 [.slice a2 x1.length c3, .agg #[.int .i64 x4, .int .i64 x5, .int .i64 x6, .int .i64 x7], .int .i64 x8, .int .i64 x9, .int .i64 x10, .int .i64 x11] [Sl (eI .u8) 1 (.slice a2 x1.length c3) x1] Unit (fun _ => .bool r) (fun _ => []) (fun _ => []) := by
 refine qh Tryz.func6 rfl Tryz.ntmps6 rfl hm (fun w => qnd ?_)
 refine au [2,4,24,5] ?_
 intro g12
 refine au [5,0,1,2,4,3,24,14,28,2] ?_
 rintro x13 e13 ⟨a14, c15⟩
 refine au [3,14,14,14,24,6] ?_
 intro g16
 refine au [23,5,5,0,1,2,2,4] ?_
 refine qg (fun h => qfp F _ h) ?_
 intro x19 e19 _
 refine av [25,1,0,1,10] ?_ ?_
 intro _
 exact az [2,4,5,0,1,9,11,19]
 intro _
 refine av [12,1,2,2,4,3,25,3,0,1,10] ?_ ?_
 intro _
 refine au [2,4,3,25,2,3] ?_
 refine yc 4 (fun ((x27, _) : (Bool × Unit)) => ([(39, .bool x27)], [], [], [], qas F x27)) ?_ ?_
 refine qb (os := _) rfl ?_
 refine av [26,2] ?_ ?_
 intro h25
 refine qw (k := 35) rfl h25 ?_
 refine au [24,14] ?_
 refine qj (cells := [.slice none 0 0]) rfl st24 rfl (by kernel_rfl) rfl (qnu (List Int) (Option Addr × Nat) eN59 rN59 59 1 ?_)
 refine au [30,10] ?_
 intro x28 e28 _
 refine au [24,7,0] ?_
 exact qa (x28, ())
 intro h25
 refine qv (k := 35) rfl h25 ?_
 refine au [8,8,8,24,8,0] ?_
 exact qa (false, ())
 rintro ⟨x27, _⟩
 try dsimp only
 refine qb (os := _) rfl ?_
 exact az [5,0,1,9,11,19]
 intro _
 refine au [12,1,2,4,3,34,9] ?_
 intro x29 e29 _
 refine au [3,14,14,24,6] ?_
 intro g30
 refine au [23,5,0,1,2,2,4,3,25,3,3] ?_
 refine qF 6 ((x29.2.2.2.2 : Int) != 0) [(0, .slice a2 x1.length c3), (2, .int .i64 x8), (3, .int .i64 x9), (4, .int .i64 x10), (5, .int .i64 x11), (7, .pointer (some ⟨g12, 0, none⟩)), (13, .pointer (some ⟨g16, 0, none⟩)), (14, .int .i64 x13.2.1), (16, .pointer (some ⟨g30, 0, none⟩)), (53, .bool (((x29.2.2.2.2 : Int) != 0) || (decide (x4 < x29.1))))] (fun h37 => ?_) (fun h37 => ?_) ?_
 refine qb (os := _) rfl (qw (k := 47) rfl h37 ?_)
 refine au [8,8,8,8,8,24,7] ?_
 refine qd (d := 53) (v := .bool (((x29.2.2.2.2 : Int) != 0) || (decide (x4 < x29.1)))) rfl (by rw [h37]; simp only [Bool.true_or]) ?_
 exact az [0,24,0]
 refine qb (os := _) rfl (qv (k := 47) rfl h37 ?_)
 refine au [13,21,13,26,3,24,9,24,8] ?_
 refine qd (d := 53) (v := .bool (((x29.2.2.2.2 : Int) != 0) || (decide (x4 < x29.1)))) rfl (by rw [h37]; simp only [Bool.false_or]) ?_
 exact az [0,24,0]
 refine qb (os := _) rfl ?_
 refine au [3] ?_
 refine qF 6 (((x29.2.2.2.2 : Int) != 0) || (decide (x4 < x29.1))) [(0, .slice a2 x1.length c3), (2, .int .i64 x8), (3, .int .i64 x9), (4, .int .i64 x10), (5, .int .i64 x11), (7, .pointer (some ⟨g12, 0, none⟩)), (13, .pointer (some ⟨g16, 0, none⟩)), (14, .int .i64 x13.2.1), (16, .pointer (some ⟨g30, 0, none⟩)), (60, .bool ((((x29.2.2.2.2 : Int) != 0) || (decide (x4 < x29.1))) || (decide (x5 < x29.2.1))))] (fun h38 => ?_) (fun h38 => ?_) ?_
 refine qb (os := _) rfl (qw (k := 54) rfl h38 ?_)
 refine au [8,8,8,8,8,24,7] ?_
 refine qd (d := 60) (v := .bool ((((x29.2.2.2.2 : Int) != 0) || (decide (x4 < x29.1))) || (decide (x5 < x29.2.1)))) rfl (by rw [h38]; simp only [Bool.true_or]) ?_
 exact az [0,24,0]
 refine qb (os := _) rfl (qv (k := 54) rfl h38 ?_)
 refine au [13,21,13,26,3,24,9,24,8] ?_
 refine qd (d := 60) (v := .bool ((((x29.2.2.2.2 : Int) != 0) || (decide (x4 < x29.1))) || (decide (x5 < x29.2.1)))) rfl (by rw [h38]; simp only [Bool.false_or]) ?_
 exact az [0,24,0]
 refine qb (os := _) rfl ?_
 refine au [3] ?_
 refine qF 6 ((((x29.2.2.2.2 : Int) != 0) || (decide (x4 < x29.1))) || (decide (x5 < x29.2.1))) [(0, .slice a2 x1.length c3), (2, .int .i64 x8), (3, .int .i64 x9), (4, .int .i64 x10), (5, .int .i64 x11), (7, .pointer (some ⟨g12, 0, none⟩)), (13, .pointer (some ⟨g16, 0, none⟩)), (14, .int .i64 x13.2.1), (16, .pointer (some ⟨g30, 0, none⟩)), (67, .bool (((((x29.2.2.2.2 : Int) != 0) || (decide (x4 < x29.1))) || (decide (x5 < x29.2.1))) || (decide (x6 < x29.2.2.1))))] (fun h39 => ?_) (fun h39 => ?_) ?_
 refine qb (os := _) rfl (qw (k := 61) rfl h39 ?_)
 refine au [8,8,8,8,8,24,7] ?_
 refine qd (d := 67) (v := .bool (((((x29.2.2.2.2 : Int) != 0) || (decide (x4 < x29.1))) || (decide (x5 < x29.2.1))) || (decide (x6 < x29.2.2.1)))) rfl (by rw [h39]; simp only [Bool.true_or]) ?_
 exact az [0,24,0]
 refine qb (os := _) rfl (qv (k := 61) rfl h39 ?_)
 refine au [13,21,13,26,3,24,9,24,8] ?_
 refine qd (d := 67) (v := .bool (((((x29.2.2.2.2 : Int) != 0) || (decide (x4 < x29.1))) || (decide (x5 < x29.2.1))) || (decide (x6 < x29.2.2.1)))) rfl (by rw [h39]; simp only [Bool.false_or]) ?_
 exact az [0,24,0]
 refine qb (os := _) rfl ?_
 refine au [3] ?_
 refine qF 6 (((((x29.2.2.2.2 : Int) != 0) || (decide (x4 < x29.1))) || (decide (x5 < x29.2.1))) || (decide (x6 < x29.2.2.1))) [(0, .slice a2 x1.length c3), (2, .int .i64 x8), (3, .int .i64 x9), (4, .int .i64 x10), (5, .int .i64 x11), (7, .pointer (some ⟨g12, 0, none⟩)), (13, .pointer (some ⟨g16, 0, none⟩)), (14, .int .i64 x13.2.1), (16, .pointer (some ⟨g30, 0, none⟩)), (74, .bool ((((((x29.2.2.2.2 : Int) != 0) || (decide (x4 < x29.1))) || (decide (x5 < x29.2.1))) || (decide (x6 < x29.2.2.1))) || (decide (x7 < x29.2.2.2.1))))] (fun h40 => ?_) (fun h40 => ?_) ?_
 refine qb (os := _) rfl (qw (k := 68) rfl h40 ?_)
 refine au [8,8,8,8,8,24,7] ?_
 refine qd (d := 74) (v := .bool ((((((x29.2.2.2.2 : Int) != 0) || (decide (x4 < x29.1))) || (decide (x5 < x29.2.1))) || (decide (x6 < x29.2.2.1))) || (decide (x7 < x29.2.2.2.1)))) rfl (by rw [h40]; simp only [Bool.true_or]) ?_
 exact az [0,24,0]
 refine qb (os := _) rfl (qv (k := 68) rfl h40 ?_)
 refine au [13,21,13,26,3,24,9,24,8] ?_
 refine qd (d := 74) (v := .bool ((((((x29.2.2.2.2 : Int) != 0) || (decide (x4 < x29.1))) || (decide (x5 < x29.2.1))) || (decide (x6 < x29.2.2.1))) || (decide (x7 < x29.2.2.2.1)))) rfl (by rw [h40]; simp only [Bool.false_or]) ?_
 exact az [0,24,0]
 refine qb (os := _) rfl ?_
 refine au [3] ?_
 refine qF 5 ((((((x29.2.2.2.2 : Int) != 0) || (decide (x4 < x29.1))) || (decide (x5 < x29.2.1))) || (decide (x6 < x29.2.2.1))) || (decide (x7 < x29.2.2.2.1))) [(0, .slice a2 x1.length c3), (2, .int .i64 x8), (3, .int .i64 x9), (4, .int .i64 x10), (5, .int .i64 x11), (7, .pointer (some ⟨g12, 0, none⟩)), (13, .pointer (some ⟨g16, 0, none⟩)), (14, .int .i64 x13.2.1), (80, .bool (((((((x29.2.2.2.2 : Int) != 0) || (decide (x4 < x29.1))) || (decide (x5 < x29.2.1))) || (decide (x6 < x29.2.2.1))) || (decide (x7 < x29.2.2.2.1))) || ((x13.2.1 : Int) != x29.2.2.2.1)))] (fun h41 => ?_) (fun h41 => ?_) ?_
 refine qb (os := _) rfl (qw (k := 75) rfl h41 ?_)
 refine au [8,8,8,8,24,7] ?_
 refine qd (d := 80) (v := .bool (((((((x29.2.2.2.2 : Int) != 0) || (decide (x4 < x29.1))) || (decide (x5 < x29.2.1))) || (decide (x6 < x29.2.2.1))) || (decide (x7 < x29.2.2.2.1))) || ((x13.2.1 : Int) != x29.2.2.2.1))) rfl (by rw [h41]; simp only [Bool.true_or]) ?_
 exact az [0,24,0]
 refine qb (os := _) rfl (qv (k := 75) rfl h41 ?_)
 refine au [3,13,21,25,3,24,8] ?_
 refine qd (d := 80) (v := .bool (((((((x29.2.2.2.2 : Int) != 0) || (decide (x4 < x29.1))) || (decide (x5 < x29.2.1))) || (decide (x6 < x29.2.2.1))) || (decide (x7 < x29.2.2.2.1))) || ((x13.2.1 : Int) != x29.2.2.2.1))) rfl (by rw [h41]; simp only [Bool.false_or]) ?_
 exact az [0,24,0]
 refine qb (os := _) rfl ?_
 refine av [0,1,10] ?_ ?_
 intro _
 exact az [2,4,5,0,1,9,11,19]
 intro _
 refine au [12,1,2,4,13,26,3,3,28,13,13,26,3,3,28,13,13,26,3,3,28,13,13,26,3,3,28,13] ?_
 refine qj (cells := [.int .i64 (imax x4 x8), .int .i64 (imax x5 x9), .int .i64 (imax x6 x10), .int .i64 (imax x7 x11)]) rfl st29 rfl (by kernel_rfl) rfl ?_
 refine au [24,6] ?_
 intro g42
 refine au [23,0,1,2,4,3,24,14,28,2] ?_
 rintro x43 e43 ⟨a44, c45⟩
 refine au [3,14,14,14,24,6] ?_
 intro g46
 refine au [23,5,5,0,1,2,4,3,25,2,3] ?_
 refine qF 4 ((x43.2.2 : Int) == 0) [(13, .pointer (some ⟨g16, 0, none⟩)), (19, .pointer (some ⟨g46, 0, none⟩)), (111, .bool (((x43.2.2 : Int) == 0) && ((x43.2.1 : Int) == x13.2.1)))] (fun h47 => ?_) (fun h47 => ?_) ?_
 refine qb (os := _) rfl (qw (k := 107) rfl h47 ?_)
 refine au [3,3,25,2,24,7] ?_
 refine qd (d := 111) (v := .bool (((x43.2.2 : Int) == 0) && ((x43.2.1 : Int) == x13.2.1))) rfl (by rw [h47]; simp only [Bool.true_and]) ?_
 exact az [0,24,0]
 refine qb (os := _) rfl (qv (k := 107) rfl h47 ?_)
 refine au [8,8,8,24,8] ?_
 refine qd (d := 111) (v := .bool (((x43.2.2 : Int) == 0) && ((x43.2.1 : Int) == x13.2.1))) rfl (by rw [h47]; simp only [Bool.false_and]) ?_
 exact az [0,24,0]
 refine qb (os := _) rfl ?_
 refine au [3] ?_
 refine yc 4 (fun ((x50, _) : (Bool × Unit)) => ([(116, .bool x50)], [], [], [], qat F x50)) ?_ ?_
 refine qb (os := _) rfl ?_
 refine av [26,2] ?_ ?_
 intro h48
 refine qw (k := 112) rfl h48 ?_
 refine au [24,14,31,9,30,10] ?_
 intro x51 e51 _
 refine au [24,7,0] ?_
 exact qa (x51, ())
 intro h48
 refine qv (k := 112) rfl h48 ?_
 refine au [8,8,8,24,8,0] ?_
 exact qa (false, ())
 rintro ⟨x50, _⟩
 try dsimp only
 refine qb (os := _) rfl ?_
 exact az [5,0,1,9,19]
end Go.Proofs.YtlioijpkhffbnaaGreat
