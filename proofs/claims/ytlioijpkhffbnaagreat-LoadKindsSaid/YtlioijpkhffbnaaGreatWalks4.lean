/- Each Go function of this seat computes what its model says, part 4. -/
import Derived.Test.YtlioijpkhffbnaaGreatWalks3
namespace Go.Proofs.YtlioijpkhffbnaaGreat
open Go SX
set_option maxHeartbeats 4000000 in
theorem qhT {F : Nat} {x1 : List Int} {a2 : Option Addr} {c3 : Nat} {r : (List (List Int) × Int × Int)} (hm : qaU F x1 = some r) :
    Pure Tryz.prog 21 [.slice a2 x1.length c3] [Sl (eI .u8) 1 (.slice a2 x1.length c3) x1] (Option Addr × (Nat × List (Option Addr × Nat))) (fun g => .tuple #[.agg #[.slice g.1 r.1.length g.2.1], .int .i64 r.2.1, .int .i64 r.2.2]) (fun g => [RoN eN59 rN59 59 1 (.slice g.1 r.1.length g.2.1) r.1 g.2.2 []]) (fun _ => []) := by
 refine qi Tryz.func21 rfl Tryz.ntmps21 rfl hm (fun w => ?_)
 refine au [25,4,2,4,24,6] ?_
 intro g4
 refine av [5,5,0,1,2,2,4,3,23,24,13,0,1,9] ?_ ?_
 intro _
 refine au [2,4] ?_
 refine qj (cells := [.slice none 0 0]) rfl st24 rfl (by kernel_rfl) rfl ?_
 refine au [24,0,5,5,0,1,8,11,25,14] ?_
 exact qA (none, (0, ([] : List (Option Addr × Nat)))) (resL (rs := [.cell 2 24, .tmp 3, .tmp 4]) rfl (.cell (i := 0) rfl tf24 rfl rfl (by simp) rfl (.tmp rfl (.tmp rfl ResOk.nil))) rfl) (fun h => by subst h; exact (.cons 0 rfl .nil))
 intro _
 refine au [12,1,2,2,4,3,23,24,4,3] ?_
 refine yC 5 (fun ((x19, _) : (Bool × Unit)) => ([(0, .slice a2 x1.length c3), (2, .pointer (some ⟨g4, 0, none⟩)), (22, .bool x19)], [⟨g4, 24, [.slice none 0 0]⟩], [], [Sl (eI .u8) 1 (.slice a2 x1.length c3) x1], qai F x1 x19)) ?_ ?_
 refine qc (os := _) rfl ?_
 refine av [26,5] ?_ ?_
 intro h15
 refine qG (k := 17) rfl h15 ?_
 refine au [10,10,10,10,24,10,0] ?_
 exact qa (true, ())
 intro h15
 refine qF (k := 17) rfl h15 ?_
 refine au [3] ?_
 refine qht (j := 0) (qq .u8) rfl UnF.u inferInstance rfl rfl rfl rfl rfl ?_
 intro x38 e38 a39 c40
 refine qlu (j := 0) rfl UnF.u UnF.u UnF.u rfl rfl rfl (qny rfl UnF.u rfl rfl rfl ?_)
 refine au [24,11,0] ?_
 exact qa ((!(bstr x38 == bstr ([76, 87] : List Int))), ())
 rintro ⟨x19, _⟩
 try dsimp only
 refine qc (os := _) rfl ?_
 refine av [0,1,9] ?_ ?_
 intro _
 refine au [2,4] ?_
 refine qj (cells := [.slice none 0 0]) rfl st24 rfl (by kernel_rfl) rfl ?_
 refine au [24,0,5,5,0,1,8,11,25,14] ?_
 exact qA (none, (0, ([] : List (Option Addr × Nat)))) (resL (rs := [.cell 2 24, .tmp 3, .tmp 4]) rfl (.cell (i := 0) rfl tf24 rfl rfl (by simp) rfl (.tmp rfl (.tmp rfl ResOk.nil))) rfl) (fun h => by subst h; exact (.cons 0 rfl .nil))
 intro _
 refine au [12,1,2,4,3] ?_
 refine qj (cells := [.slice a2 x1.length c3, .int .i64 3, .int .i64 0, .bool false]) rfl st80 rfl (by kernel_rfl) rfl ?_
 refine au [24,3] ?_
 intro g20
 refine au [5,0,1,2,4] ?_
 refine qhv .u8 rfl rfl ?_
 intro g21
 refine au [3,34,0] ?_
 refine qeB (i := 0) rfl Tryz.underlying82 Tryz.underlying5 rfl rfl rfl rfl rfl ?_
 refine au [3,34,0] ?_
 refine qeB (i := 0) rfl Tryz.underlying82 Tryz.underlying5 rfl rfl rfl rfl rfl ?_
 refine au [3,5,0,1,2,4,3,3,29,4] ?_
 intro x22 e22 b23 o24
 refine au [25,9] ?_
 refine qiT (i := 0) rfl Tryz.underlying82 Tryz.underlying5 tf81 rfl rfl rfl rfl ?_ ?_ ?_
 refine au [3,14,14,5,5,0,1,2,2,4,3,25,1,0,1] ?_
 refine jv (b := false) rfl (fun h => by cases h) (fun _ => ?_)
 refine au [12,1,2,4,3] ?_
 refine qfs ent36 rfl rfl rfl rfl (fun x25 e25 => qdb F g20 x1 a2 c3 3 0 false x25 e25) (.cons 1 rfl .nil) .nil (.consF 1 rfl .nil) (fun x25 e25 => ?_)
 rintro ⟨a26, c27⟩
 refine au [3,14,14,24,6] ?_
 intro g28
 refine av [24,0,5,0,1,2,2,4,3,25,1,0,1,9] ?_ ?_
 intro _
 refine au [2,4] ?_
 refine qj (cells := [.slice none 0 0]) rfl st24 rfl (by kernel_rfl) rfl ?_
 refine au [27,14,5,5,0,1,8,11,25,14] ?_
 exact qA (none, (0, ([] : List (Option Addr × Nat)))) (resL (rs := [.cell 2 24, .tmp 3, .tmp 4]) rfl (.cell (i := 3) rfl tf24 rfl rfl (by simp) rfl (.tmp rfl (.tmp rfl ResOk.nil))) rfl) (fun h => by subst h; exact (.cons 0 rfl .nil))
 intro _
 refine au [12,1,2] ?_
 refine qr mixed [] [⟨g28, 24, [.slice a26 x25.1.length c27.1]⟩, ⟨g20, 80, [.slice a2 x1.length c3, .int .i64 x25.2.2.1, .int .i64 x25.2.2.2.1, .bool x25.2.2.2.2]⟩, (blkO g21 (mapF .u8 [(1, .func (.func 36) #[.pointer (some ⟨g20, 0, none⟩)] #[]), (2, .func (.func 37) #[.pointer (some ⟨g20, 0, none⟩)] #[])]))] [qQ b23 o24 ((eI .u8) x22), Sl (eI .u8) 1 (.slice a2 x1.length c3) x1] (.cons 0 rfl (.cons 0 rfl (.cons 0 rfl .nil))) (qD 0 rfl (qD 1 rfl qm)) 8 rfl (zI 0 (.agg #[.slice a26 x25.1.length c27.1]) rfl rfl rfl (qZ (i := 0) rfl tf24 rfl rfl (by simp) rfl) ?_)
 refine au [6,1,6,2,18,3,26,2,4,20,5,27,14,0,34,1,6,6,6,7,24,1] ?_
 refine qu ?_ (by intro c h; cases h)
 refine au [1,8] ?_
 exact qA (a26, c27) (resL (rs := [.cell 2 24, .tmp 3, .tmp 4]) rfl (.cell (i := 3) rfl tf24 rfl rfl (by simp) rfl (.tmp rfl (.tmp rfl ResOk.nil))) rfl) (fun h => by subst h; exact (.cons 0 rfl .nil))
 refine au [3,14,14,5,5,0,1,2,2,4,3,25,1,0,1] ?_
 refine jv (b := false) rfl (fun h => by cases h) (fun _ => ?_)
 refine au [12,1,2,4,3] ?_
 refine qfs ent37 rfl rfl rfl rfl (fun x31 e31 => qda F g20 x1 a2 c3 3 0 false x31 e31) (.cons 1 rfl .nil) .nil (.consF 1 rfl .nil) (fun x31 e31 => ?_)
 rintro ⟨a32, c33⟩
 refine au [3,14,14,24,6] ?_
 intro g34
 refine av [24,0,5,0,1,2,2,4,3,25,1,0,1,9] ?_ ?_
 intro _
 refine au [2,4] ?_
 refine qj (cells := [.slice none 0 0]) rfl st24 rfl (by kernel_rfl) rfl ?_
 refine au [27,14,5,5,0,1,8,11,25,14] ?_
 exact qA (none, (0, ([] : List (Option Addr × Nat)))) (resL (rs := [.cell 2 24, .tmp 3, .tmp 4]) rfl (.cell (i := 3) rfl tf24 rfl rfl (by simp) rfl (.tmp rfl (.tmp rfl ResOk.nil))) rfl) (fun h => by subst h; exact (.cons 0 rfl .nil))
 intro _
 refine au [12,1,2] ?_
 refine qr mixed [] [⟨g34, 24, [.slice a32 x31.1.length c33.1]⟩, ⟨g20, 80, [.slice a2 x1.length c3, .int .i64 x31.2.2.1, .int .i64 x31.2.2.2.1, .bool x31.2.2.2.2]⟩, (blkO g21 (mapF .u8 [(1, .func (.func 36) #[.pointer (some ⟨g20, 0, none⟩)] #[]), (2, .func (.func 37) #[.pointer (some ⟨g20, 0, none⟩)] #[])]))] [qQ b23 o24 ((eI .u8) x22), Sl (eI .u8) 1 (.slice a2 x1.length c3) x1] (.cons 0 rfl (.cons 0 rfl (.cons 0 rfl .nil))) (qD 0 rfl (qD 1 rfl qm)) 8 rfl (zI 0 (.agg #[.slice a32 x31.1.length c33.1]) rfl rfl rfl (qZ (i := 0) rfl tf24 rfl rfl (by simp) rfl) ?_)
 refine au [6,1,6,2,18,3,26,2,4,20,5,27,14,0,34,1,6,6,6,7,24,1] ?_
 refine qu ?_ (by intro c h; cases h)
 refine au [1,8] ?_
 exact qA (a32, c33) (resL (rs := [.cell 2 24, .tmp 3, .tmp 4]) rfl (.cell (i := 3) rfl tf24 rfl rfl (by simp) rfl (.tmp rfl (.tmp rfl ResOk.nil))) rfl) (fun h => by subst h; exact (.cons 0 rfl .nil))
 refine au [3,14,14,5,5,0,1,2,2,4,3,25,1,0,1] ?_
 refine jv (b := true) rfl (fun _ => ?_) (fun h => by cases h)
 refine au [2,4] ?_
 refine qj (cells := [.slice none 0 0]) rfl st24 rfl (by kernel_rfl) rfl ?_
 refine au [25,15,5,5,0,1,8,11,25,14] ?_
 exact qA (none, (0, ([] : List (Option Addr × Nat)))) (resL (rs := [.cell 2 24, .tmp 3, .tmp 4]) rfl (.cell (i := 2) rfl tf24 rfl rfl (by simp) rfl (.tmp rfl (.tmp rfl ResOk.nil))) rfl) (fun h => by subst h; exact (.cons 0 rfl .nil))
theorem qhS {F : Nat} {x1 : List (List Int)} {a2 : Option Addr} {c3 : Nat} {s3 : List (Option Addr × Nat)} {r : Int} (hm : qby F x1 = some r) :
    Pure Tryz.prog 22 [.agg #[.slice a2 x1.length c3]] [SlN eN59 iN59 1 (.slice a2 x1.length c3) x1 s3] Unit (fun _ => .int .i64 r) (fun _ => []) (fun _ => []) := by
 refine qi Tryz.func22 rfl Tryz.ntmps22 rfl hm (fun w => ?_)
 refine au [25,4,2,4,24,3] ?_
 intro g4
 refine au [5,0,1] ?_
 refine qe (fun ((x38, _) : (Int × Unit)) => ([(2, .int .i64 x38)], [], [], [], qbh F x38)) ?_ ?_
 refine au [2,4,13,22,23,3,0,1,15] ?_
 refine qk (fun (((x49, x50), _) : ((Int × Int) × Unit)) => ([(2, .int .i64 x49), (6, .slice a2 x1.length c3), (7, .int .i64 (x1.length : Int)), (8, .int .i64 x50)], [], [], [SlN eN59 iN59 1 (.slice a2 x1.length c3) x1 s3])) (fun k (s : ((Int × Int) × Unit)) => yZ F x1 k s.1) ((0, 0), ()) F ?_
 intro k61
 rintro ⟨⟨x49, x50⟩, _⟩
 try dsimp only
 refine qz (m' := qah F x1 (yZ F x1 k61) x49 x50) rfl ?_
 refine av [2,4,24,4,0,1,2,9] ?_ ?_
 intro _
 refine au [12,1,2,15,2,4,27,3] ?_
 intro x67 e67 g70 b68 o69
 refine au [25,9,5,0,1,4,3,3,23,16,5,0,24,2,1,4,16,3,0] ?_
 exact qh ((iadd .i64 x49 (x67.length : Int), iadd .i64 x50 1), ())
 intro _
 refine au [24,7,17,17,24,8] ?_
 exact qa (x49, ())
 rintro ⟨x38, _⟩
 try dsimp only
 exact az [2,4,3,5,0,1,8,19]
set_option maxHeartbeats 4000000 in
theorem qhQ {F : Nat} {x1 : List Int} {a2 : Option Addr} {c3 : Nat} {x4 : Int} {x5 : Int} {x6 : Int} {x7 : Int} {r : (List (List Int) × Int × Int)} (hm : zS F x1 x4 x5 x6 x7 = some r) :
    Pure Tryz.prog 11 [.slice a2 x1.length c3, .agg #[.int .i64 x4, .int .i64 x5, .int .i64 x6, .int .i64 x7]] [Sl (eI .u8) 1 (.slice a2 x1.length c3) x1] (Option Addr × (Nat × List (Option Addr × Nat))) (fun g => .tuple #[.agg #[.slice g.1 r.1.length g.2.1], .int .i64 r.2.1, .int .i64 r.2.2]) (fun g => [RoN eN59 rN59 59 1 (.slice g.1 r.1.length g.2.1) r.1 g.2.2 []]) (fun _ => []) := by
 refine qi Tryz.func11 rfl Tryz.ntmps11 rfl hm (fun w => ?_)
 refine au [24,12,2,4,24,3] ?_
 intro g8
 refine au [24,6] ?_
 intro g9
 refine av [5,5,0,1,2,2,4,3,23,13,25,11,24,13,0,1,9] ?_ ?_
 intro _
 refine au [2,4] ?_
 refine qj (cells := [.slice none 0 0]) rfl st24 rfl (by kernel_rfl) rfl ?_
 refine au [24,0,5,5,0,1,8,11,25,14] ?_
 exact qA (none, (0, ([] : List (Option Addr × Nat)))) (resL (rs := [.cell 4 24, .tmp 5, .tmp 6]) rfl (.cell (i := 0) rfl tf24 rfl rfl (by simp) rfl (.tmp rfl (.tmp rfl ResOk.nil))) rfl) (fun h => by subst h; exact (.cons 0 rfl .nil))
 intro _
 refine au [12,1,2,4,3,34,2] ?_
 rintro x11 e11 ⟨a12, c13⟩
 refine au [3,14,14,14,24,6] ?_
 intro g14
 refine au [24,0,5,5,0,1] ?_
 refine qe (fun ((x25, _) : (Int × Unit)) => ([(4, .pointer (some ⟨g9, 0, none⟩)), (7, .pointer (some ⟨g14, 0, none⟩)), (8, .int .i64 x11.2.1), (9, .int .i64 x25)], [⟨g14, 24, [.slice a12 x11.1.length c13.1]⟩, ⟨g9, 24, [.slice none 0 0]⟩], [RoN eN59 rN59 59 1 (.slice a12 x11.1.length c13.1) x11.1 c13.2 []], [], jp F x11 x25)) ?_ ?_
 refine qe (fun ((x32, _) : (Bool × Unit)) => ([(4, .pointer (some ⟨g9, 0, none⟩)), (7, .pointer (some ⟨g14, 0, none⟩)), (8, .int .i64 x11.2.1), (9, .int .i64 x11.2.2), (44, .bool x32)], [⟨g14, 24, [.slice a12 x11.1.length c13.1]⟩, ⟨g9, 24, [.slice none 0 0]⟩], [RoN eN59 rN59 59 1 (.slice a12 x11.1.length c13.1) x11.1 c13.2 []], [], ye F x11 x32)) ?_ ?_
 refine av [26,14] ?_ ?_
 intro h34
 refine av [26,14] ?_ ?_
 intro h35
 refine qr mixed [] [⟨g14, 24, [.slice a12 x11.1.length c13.1]⟩, ⟨g9, 24, [.slice none 0 0]⟩, ⟨g8, 29, [.int .i64 x4, .int .i64 x5, .int .i64 x6, .int .i64 x7]⟩] [Sl (eI .u8) 1 (.slice a2 x1.length c3) x1] (.cons 0 rfl (.cons 0 rfl (.cons 0 rfl .nil))) (qD 0 rfl qm) 23 rfl ?_
 refine au [6,0,6,1,6,2] ?_
 refine qf (d := 24) (v := .bool true) rfl (by rw [h34] <;> rfl) ?_
 refine au [18,3,25,7,4,26,9,5,18,6,27,13,7,6,8,6,9] ?_
 refine qf (d := 31) (v := .bool true) rfl (by rw [h35] <;> rfl) ?_
 refine au [7,10,7,11,7,12,7,13,7,14,6,15,6,16,7,17,7,18,7,19,7,20,6,21,6,22,24,1] ?_
 exact qu (qa (true, ())) (by intro c h; cases h)
 intro h35
 refine qr mixed [] [⟨g14, 24, [.slice a12 x11.1.length c13.1]⟩, ⟨g9, 24, [.slice none 0 0]⟩, ⟨g8, 29, [.int .i64 x4, .int .i64 x5, .int .i64 x6, .int .i64 x7]⟩] [Sl (eI .u8) 1 (.slice a2 x1.length c3) x1] (.cons 0 rfl (.cons 0 rfl (.cons 0 rfl .nil))) (qD 0 rfl qm) 23 rfl ?_
 refine au [6,0,6,1,6,2] ?_
 refine qf (d := 24) (v := .bool true) rfl (by rw [h34] <;> rfl) ?_
 refine au [18,3,25,7,4,26,9,5,18,6,27,13,7,6,8,6,9] ?_
 refine qf (d := 31) (v := .bool false) rfl (by rw [h35] <;> rfl) (zI 10 (.agg #[.slice a12 x11.1.length c13.1]) rfl rfl rfl (qZ (i := 0) rfl tf24 rfl rfl (by simp) rfl) ?_)
 refine au [18,12,27,13,13,20,11,34,3] ?_
 intro x36 e36 _
 refine au [0] ?_
 refine zW (.cons 0 rfl (.cons 0 rfl (.cons 0 rfl .nil))) (qD 0 rfl qm) ?_
 refine av [6,14,6,15,6,16,26,3] ?_ ?_
 intro h37
 refine qf (d := 38) (v := .bool true) rfl (by rw [h37] <;> rfl) ?_
 refine au [7,17,7,18,7,19,7,20,6,21,6,22,24,1] ?_
 exact qu (qa (true, ())) (by intro c h; cases h)
 intro h37
 refine qf (d := 38) (v := .bool false) rfl (by rw [h37] <;> rfl) ?_
 refine au [6,17,18,18,27,13,19,6,20,6,21,6,22,24,1] ?_
 exact qu (qa ((decide (x7 < x11.2.1)), ())) (by intro c h; cases h)
 intro h34
 refine qr mixed [] [⟨g14, 24, [.slice a12 x11.1.length c13.1]⟩, ⟨g9, 24, [.slice none 0 0]⟩, ⟨g8, 29, [.int .i64 x4, .int .i64 x5, .int .i64 x6, .int .i64 x7]⟩] [Sl (eI .u8) 1 (.slice a2 x1.length c3) x1] (.cons 0 rfl (.cons 0 rfl (.cons 0 rfl .nil))) (qD 0 rfl qm) 23 rfl ?_
 refine au [6,0,6,1,6,2] ?_
 refine qf (d := 24) (v := .bool false) rfl (by rw [h34] <;> rfl) ?_
 refine au [7,3,7,4,7,5,7,6,7,7,7,8,7,9,7,10,7,11,7,12,7,13,7,14,7,15,7,16,7,17,7,18,7,19,7,20,7,21,6,22,24,1] ?_
 exact qu (qa (false, ())) (by intro c h; cases h)
 rintro ⟨x32, _⟩
 try dsimp only
 refine av [9] ?_ ?_
 intro _
 refine au [4,5,0] ?_
 exact qa ((8 : Int), ())
 intro _
 refine au [12] ?_
 exact qa (x11.2.2, ())
 rintro ⟨x25, _⟩
 try dsimp only
 refine av [2,2,4,3,25,2,0,1,9] ?_ ?_
 intro _
 refine au [2,4] ?_
 refine qj (cells := [.slice none 0 0]) rfl st24 rfl (by kernel_rfl) rfl ?_
 refine au [3,25,6,5,5,0,1,8,11,25,14] ?_
 exact qA (none, (0, ([] : List (Option Addr × Nat)))) (resL (rs := [.cell 4 24, .tmp 5, .tmp 6]) rfl (.cell (i := 1) rfl tf24 rfl rfl (by simp) rfl (.tmp rfl (.tmp rfl ResOk.nil))) rfl) (fun h => by subst h; exact (.cons 0 rfl .nil))
 intro _
 refine au [12,1,2,4,24,14,3,25,6,5,5,0,1,8] ?_
 exact qA (a12, c13) (resL (rs := [.cell 4 24, .tmp 5, .tmp 6]) rfl (.cell (i := 1) rfl tf24 rfl rfl (by simp) rfl (.tmp rfl (.tmp rfl ResOk.nil))) rfl) (fun h => by subst h; exact (.cons 0 rfl .nil))
set_option maxHeartbeats 4000000 in
theorem qhP {F : Nat} {x1 : List Int} {a2 : Option Addr} {c3 : Nat} {r : (Int × Int × Int × Int × Int)} (hm : qaT F x1 = some r) :
    Pure Tryz.prog 12 [.slice a2 x1.length c3] [Sl (eI .u8) 1 (.slice a2 x1.length c3) x1] Unit (fun _ => .tuple #[.agg #[.int .i64 r.1, .int .i64 r.2.1, .int .i64 r.2.2.1, .int .i64 r.2.2.2.1], .int .i64 r.2.2.2.2]) (fun _ => []) (fun _ => []) := by
 refine qi Tryz.func12 rfl Tryz.ntmps12 rfl hm (fun w => ?_)
 refine au [25,4,2,4,24,6] ?_
 intro g4
 refine au [5,0,1,2,4,3,34,2] ?_
 rintro x5 e5 ⟨a6, c7⟩
 refine au [3,14,14,14,24,6] ?_
 intro g8
 refine av [24,0,5,5,0,1,2,2,4,3,25,2,0,1,9] ?_ ?_
 intro _
 refine au [2,4] ?_
 refine qj (cells := [.int .i64 0, .int .i64 0, .int .i64 0, .int .i64 0]) rfl st29 rfl (by kernel_rfl) rfl ?_
 refine au [3,25,6,5,0,1,8,11] ?_
 exact qA () (resL (rs := [.cell 2 29, .tmp 3]) rfl (.cell (i := 1) rfl tf29 rfl rfl (by simp) rfl (.tmp rfl ResOk.nil)) rfl)
 intro _
 refine au [12,1,2] ?_
 refine qr mixed [] [⟨g8, 24, [.slice a6 x5.1.length c7.1]⟩] [Sl (eI .u8) 1 (.slice a2 x1.length c3) x1] (.cons 0 rfl .nil) (qD 0 rfl qm) 11 rfl ?_
 refine au [6,0,26,9,1,18,2,25,7,3,26,9,4] ?_
 refine zI 5 (.agg #[.slice a6 x5.1.length c7.1]) rfl rfl rfl (qZ (i := 0) rfl tf24 rfl rfl (by simp) rfl) ?_
 refine au [6,7,20,6,34,3] ?_
 intro x11 e11 _
 refine au [0,26,10] ?_
 refine qw 8 (.agg #[.int .i64 (x1.length : Int), .int .i64 (x5.1.length : Int), .int .i64 x11, .int .i64 x5.2.1]) rfl rfl rfl (qcM (cells := [.int .i64 (x1.length : Int), .int .i64 (x5.1.length : Int), .int .i64 x11, .int .i64 x5.2.1]) st29 rfl (by kernel_rfl)) ?_
 refine au [20,9,25,6,0,26,10,6,10,24,1] ?_
 refine qu ?_ (by intro c h; cases h)
 refine au [1,8] ?_
 exact qA () (resL (rs := [.cell 2 29, .tmp 3]) rfl (.cell (i := 1) rfl tf29 rfl rfl (by simp) rfl (.tmp rfl ResOk.nil)) rfl)
set_option maxHeartbeats 4000000 in
theorem qfA {F : Nat} {x1 : List Int} {a2 : Option Addr} {c3 : Nat} {x4 : List Int} {a5 : Option Addr} {c6 : Nat} {r : Bool} (hm : jF F x1 x4 = some r) :
    Pure Tryz.prog 16 [.slice a2 x1.length c3, .slice a5 x4.length c6] [Sl (eI .u8) 1 (.slice a2 x1.length c3) x1, Sl (eI .u8) 1 (.slice a5 x4.length c6) x4] Unit (fun _ => .bool r) (fun _ => []) (fun _ => []) := by
 refine qi Tryz.func16 rfl Tryz.ntmps16 rfl hm (fun w => ?_)
 refine av [24,12,2,4,5,0,1,2,2,4,3,23,3,23,25,2,0,1,9] ?_ ?_
 intro _
 exact az [2,4,5,0,1,8,11,19]
 intro _
 refine au [12,1] ?_
 refine qe (fun ((_, _) : (Unit × Unit)) => ([], [], [], [], qbU F)) ?_ ?_
 refine au [2,4,5,0,1,15] ?_
 refine qk (fun ((x154, _) : (Int × Unit)) => ([(0, .slice a2 x1.length c3), (1, .slice a5 x4.length c6), (5, .int .i64 x154)], [], [], [Sl (eI .u8) 1 (.slice a2 x1.length c3) x1, Sl (eI .u8) 1 (.slice a5 x4.length c6) x4])) (fun k (s : (Int × Unit)) => k7 F x1 x4 k s.1) (0, ()) F ?_
 intro k191
 rintro ⟨x154, _⟩
 try dsimp only
 refine qz (m' := jx F x1 x4 (k7 F x1 x4 k191) x154) rfl ?_
 refine av [2,2,4,3,3,23,24,4,0,1,9] ?_ ?_
 intro _
 refine au [12,1,2,15,2,30,1] ?_
 intro x218 e218 b219 o220 h221
 replace h221 : a2 = some ⟨b219, o220, none⟩ := h221
 refine au [33,14] ?_
 intro x222 e222 b223 o224 h225
 replace h225 : a5 = some ⟨b223, o224, none⟩ := h225
 refine qr mixed [] [] [qQ b223 (o224 + x154.toNat * 1) ((eI .u8) x222), qQ b219 (o220 + x154.toNat * 1) ((eI .u8) x218), Sl (eI .u8) 1 (.slice a2 x1.length c3) x1, Sl (eI .u8) 1 (.slice a5 x4.length c6) x4] .nil (qD 0 rfl (qD 1 rfl (qD 2 rfl (qD 3 rfl qm)))) 9 rfl ?_
 refine au [6,0,6,1] ?_
 refine qf (d := 17) (v := .slice (some ⟨b219, o220, none⟩) x1.length c3) rfl (by rw [h221] <;> rfl) (qw 2 (.pointer (some ⟨b219, (o220 + x154.toNat * 1), none⟩)) rfl rfl rfl (qa1 Tryz.underlying27 tf5 rfl rfl (zD e218).1 (qaA e218)) (qf (d := 17) (v := .slice a2 x1.length c3) rfl (by rw [h221] <;> rfl) (zv 3 (.int .u8 x218) [] rfl rfl rfl (vI (j := 1) rfl tf5 rfl rfl (fun _ => rfl) rfl) ?_)))
 refine au [6,4,6,5] ?_
 refine qf (d := 21) (v := .slice (some ⟨b223, o224, none⟩) x4.length c6) rfl (by rw [h225] <;> rfl) (qw 6 (.pointer (some ⟨b223, (o224 + x154.toNat * 1), none⟩)) rfl rfl rfl (qa1 Tryz.underlying27 tf5 rfl rfl (zD e222).1 (qaA e222)) (qf (d := 21) (v := .slice a5 x4.length c6) rfl (by rw [h225] <;> rfl) (zv 7 (.int .u8 x222) [] rfl rfl rfl (vI (j := 0) rfl tf5 rfl rfl (fun _ => rfl) rfl) ?_)))
 refine au [6,8,24,1] ?_
 refine qu ?_ (by intro c h; cases h)
 refine av [1,9] ?_ ?_
 intro _
 exact az [2,4,5,0,1,8,21,11,11,21,11,19]
 intro _
 refine au [12,24,2,1,4,3,16,5,0] ?_
 exact qh (iadd .i64 x154 1, ())
 intro _
 exact az [24,7,17,17,24,8,25,13]
 rintro ⟨_, _⟩
 try dsimp only
 exact az [2,4,5,0,1,8,19]
set_option maxHeartbeats 4000000 in
theorem qgB {F : Nat} {x1 : List Int} {a2 : Option Addr} {c3 : Nat} {x4 : List Int} {a5 : Option Addr} {c6 : Nat} {r : Bool} (hm : qa2 F x1 x4 = some r) :
    Pure Tryz.prog 44 [.slice a2 x1.length c3, .slice a5 x4.length c6] [Sl (eI .i64) 1 (.slice a2 x1.length c3) x1, Sl (eI .i64) 1 (.slice a5 x4.length c6) x4] Unit (fun _ => .bool r) (fun _ => []) (fun _ => []) := by
 refine qi Tryz.func44 rfl Tryz.ntmps44 rfl hm (fun w => ?_)
 refine av [24,12,2,4,5,0,1,2,2,4,3,23,3,23,25,2,0,1,9] ?_ ?_
 intro _
 exact az [2,4,5,0,1,8,11,19]
 intro _
 refine au [12,1] ?_
 refine qe (fun ((_, _) : (Unit × Unit)) => ([], [], [], [], qcr F)) ?_ ?_
 refine au [2,4,5,0,1,15] ?_
 refine qk (fun ((x154, _) : (Int × Unit)) => ([(0, .slice a2 x1.length c3), (1, .slice a5 x4.length c6), (5, .int .i64 x154)], [], [], [Sl (eI .i64) 1 (.slice a2 x1.length c3) x1, Sl (eI .i64) 1 (.slice a5 x4.length c6) x4])) (fun k (s : (Int × Unit)) => yq F x1 x4 k s.1) (0, ()) F ?_
 intro k191
 rintro ⟨x154, _⟩
 try dsimp only
 refine qz (m' := jM F x1 x4 (yq F x1 x4 k191) x154) rfl ?_
 refine av [2,2,4,3,3,23,24,4,0,1,9] ?_ ?_
 intro _
 refine au [12,1,2,15,2,31,14] ?_
 intro x218 e218 b219 o220 h221
 replace h221 : a2 = some ⟨b219, o220, none⟩ := h221
 refine qb5 (j := 2) (qq .i64) (by decide) rfl ?_
 intro x222 e222 b223 o224 h225
 replace h225 : a5 = some ⟨b223, o224, none⟩ := h225
 refine qr mixed [] [] [qQ b223 (o224 + x154.toNat * 1) ((eI .i64) x222), qQ b219 (o220 + x154.toNat * 1) ((eI .i64) x218), Sl (eI .i64) 1 (.slice a2 x1.length c3) x1, Sl (eI .i64) 1 (.slice a5 x4.length c6) x4] .nil (qD 0 rfl (qD 1 rfl (qD 2 rfl (qD 3 rfl qm)))) 9 rfl ?_
 refine au [6,0,6,1] ?_
 refine qf (d := 17) (v := .slice (some ⟨b219, o220, none⟩) x1.length c3) rfl (by rw [h221] <;> rfl) (qw 2 (.pointer (some ⟨b219, (o220 + x154.toNat * 1), none⟩)) rfl rfl rfl (qa1 Tryz.underlying59 tf3 rfl rfl (zD e218).1 (qaA e218)) (qf (d := 17) (v := .slice a2 x1.length c3) rfl (by rw [h221] <;> rfl) (zv 3 (.int .i64 x218) [] rfl rfl rfl (vI (j := 1) rfl tf3 rfl rfl (fun _ => rfl) rfl) ?_)))
 refine au [6,4,6,5] ?_
 refine qf (d := 21) (v := .slice (some ⟨b223, o224, none⟩) x4.length c6) rfl (by rw [h225] <;> rfl) (qw 6 (.pointer (some ⟨b223, (o224 + x154.toNat * 1), none⟩)) rfl rfl rfl (qa1 Tryz.underlying59 tf3 rfl rfl (zD e222).1 (qaA e222)) (qf (d := 21) (v := .slice a5 x4.length c6) rfl (by rw [h225] <;> rfl) (zv 7 (.int .i64 x222) [] rfl rfl rfl (vI (j := 0) rfl tf3 rfl rfl (fun _ => rfl) rfl) ?_)))
 refine au [6,8,24,1] ?_
 refine qu ?_ (by intro c h; cases h)
 refine av [1,9] ?_ ?_
 intro _
 exact az [2,4,5,0,1,8,21,11,11,21,11,19]
 intro _
 refine au [12,24,2,1,4,3,16,5,0] ?_
 exact qh (iadd .i64 x154 1, ())
 intro _
 exact az [24,7,17,17,24,8,25,13]
 rintro ⟨_, _⟩
 try dsimp only
 exact az [2,4,5,0,1,8,19]
set_option maxHeartbeats 4000000 in
theorem qfC {F : Nat} {x1 : List (List Int)} {a2 : Option Addr} {c3 : Nat} {s3 : List (Option Addr × Nat)} {x4 : List (List Int)} {a5 : Option Addr} {c6 : Nat} {s6 : List (Option Addr × Nat)} {r : Bool} (hm : jH F x1 x4 = some r) :
    Pure Tryz.prog 32 [.slice a2 x1.length c3, .slice a5 x4.length c6] [SlN eN59 iN59 1 (.slice a2 x1.length c3) x1 s3, SlN eN59 iN59 1 (.slice a5 x4.length c6) x4 s6] Unit (fun _ => .bool r) (fun _ => []) (fun _ => []) := by
 refine qi Tryz.func32 rfl Tryz.ntmps32 rfl hm (fun w => ?_)
 refine av [24,12,2,4,5,0,1,2,2,4,3,23,3,23,25,2,0,1,9] ?_ ?_
 intro _
 exact az [2,4,5,0,1,8,11,19]
 intro _
 refine au [12,1] ?_
 refine qe (fun ((_, _) : (Unit × Unit)) => ([], [], [], [], qbV F)) ?_ ?_
 refine au [2,4,5,0,1,15] ?_
 refine qk (fun ((x202, _) : (Int × Unit)) => ([(0, .slice a2 x1.length c3), (1, .slice a5 x4.length c6), (5, .int .i64 x202)], [], [], [SlN eN59 iN59 1 (.slice a2 x1.length c3) x1 s3, SlN eN59 iN59 1 (.slice a5 x4.length c6) x4 s6])) (fun k (s : (Int × Unit)) => k8 F x1 x4 k s.1) (0, ()) F ?_
 intro k251
 rintro ⟨x202, _⟩
 try dsimp only
 refine qz (m' := jy F x1 x4 (k8 F x1 x4 k251) x202) rfl ?_
 refine av [2,2,4,3,3,23,24,4,0,1,9] ?_ ?_
 intro _
 refine au [12,1,2,15,2] ?_
 refine qiN (j := 0) yT (by decide) rfl ?_
 intro x287 e287 g291 b288 o289 h290
 replace h290 : a2 = some ⟨b288, o289, none⟩ := h290
 refine qiN (j := 3) yT (by decide) rfl ?_
 intro x292 e292 g296 b293 o294 h295
 replace h295 : a5 = some ⟨b293, o294, none⟩ := h295
 refine qr mixed [] [] [qQ b293 (o294 + x202.toNat * 1) (eN59 (x292, g296)), Sl (eI .i64) 1 (.slice g296.1 x292.length g296.2) x292, qQ b288 (o289 + x202.toNat * 1) (eN59 (x287, g291)), Sl (eI .i64) 1 (.slice g291.1 x287.length g291.2) x287, SlN eN59 iN59 1 (.slice a2 x1.length c3) x1 s3, SlN eN59 iN59 1 (.slice a5 x4.length c6) x4 s6] .nil (qD 0 rfl (qD 1 rfl (qD 2 rfl (qD 3 rfl (qD 4 rfl (qD 5 rfl qm)))))) 10 rfl ?_
 refine au [6,0,6,1] ?_
 refine qf (d := 17) (v := .slice (some ⟨b288, o289, none⟩) x1.length c3) rfl (by rw [h290] <;> rfl) (qw 2 (.pointer (some ⟨b288, (o289 + x202.toNat * 1), none⟩)) rfl rfl rfl (qa1 Tryz.underlying22 tf59 rfl rfl (zD e287).1 (qaA e287)) (qf (d := 17) (v := .slice a2 x1.length c3) rfl (by rw [h290] <;> rfl) (zv 3 (.slice g291.1 x287.length g291.2) [] rfl rfl rfl (vI (j := 2) rfl tf59 rfl rfl (fun _ => rfl) rfl) ?_)))
 refine au [6,4,6,5] ?_
 refine qf (d := 21) (v := .slice (some ⟨b293, o294, none⟩) x4.length c6) rfl (by rw [h295] <;> rfl) (qw 6 (.pointer (some ⟨b293, (o294 + x202.toNat * 1), none⟩)) rfl rfl rfl (qa1 Tryz.underlying22 tf59 rfl rfl (zD e292).1 (qaA e292)) (qf (d := 21) (v := .slice a5 x4.length c6) rfl (by rw [h295] <;> rfl) (zv 7 (.slice g296.1 x292.length g296.2) [] rfl rfl rfl (vI (j := 0) rfl tf59 rfl rfl (fun _ => rfl) rfl) ?_)))
 refine au [20,8] ?_
 refine qg qgB ?_
 intro x297 e297 _
 refine au [0] ?_
 refine zW .nil (qD 0 rfl (qD 1 rfl (qD 2 rfl (qD 3 rfl (qD 4 rfl (qD 5 rfl qm)))))) ?_
 refine au [6,9,24,1] ?_
 refine qu ?_ (by intro c h; cases h)
 refine av [1,9] ?_ ?_
 intro _
 exact az [2,4,5,0,1,8,21,11,11,21,11,19]
 intro _
 refine au [12,24,2,1,4,3,16,5,0] ?_
 exact qh (iadd .i64 x202 1, ())
 intro _
 exact az [24,7,17,17,24,8,25,13]
 rintro ⟨_, _⟩
 try dsimp only
 exact az [2,4,5,0,1,8,19]
theorem qfB {F : Nat} {x1 : List (List Int)} {a2 : Option Addr} {c3 : Nat} {s3 : List (Option Addr × Nat)} {x4 : List (List Int)} {a5 : Option Addr} {c6 : Nat} {s6 : List (Option Addr × Nat)} {r : Bool} (hm : jG F x1 x4 = some r) :
    Pure Tryz.prog 17 [.agg #[.slice a2 x1.length c3], .agg #[.slice a5 x4.length c6]] [SlN eN59 iN59 1 (.slice a2 x1.length c3) x1 s3, SlN eN59 iN59 1 (.slice a5 x4.length c6) x4 s6] Unit (fun _ => .bool r) (fun _ => []) (fun _ => []) := by
 refine qi Tryz.func17 rfl Tryz.ntmps17 rfl hm (fun w => ?_)
 refine au [24,12,2,4,24,3] ?_
 intro g7
 refine au [24,3] ?_
 intro g8
 refine au [5,0,1,2,4,13,25,11,13,22,34,4] ?_
 intro x9 e9 _
 exact az [5,0,1,8,19]
theorem qfz (F : Nat)  (r : List (List Int)) (hm : qaG F  = some r) :
    Pure Tryz.prog 31 [] [] (Option Addr × (Nat × List (Option Addr × Nat))) (fun g => .agg #[.slice g.1 r.length g.2.1]) (fun g => [RoN eN59 rN59 59 1 (.slice g.1 r.length g.2.1) r g.2.2 []]) (fun _ => []) := by
 refine qi Tryz.func31 rfl Tryz.ntmps31 rfl hm (fun w => ?_)
 refine au [34,5,2,4,24,6] ?_
 intro g1
 refine au [0,1,2,4] ?_
 refine qs (vs := [.int .i64 1, .int .i64 2, .int .i64 3, .int .i64 5]) (ys := ([1, 2, 3, 5] : List Int)) (qq .i64) (by decide) rfl Tryz.underlying59 tf3 rfl rfl rfl rfl rfl (by decide) (fun a2 c3 => qs (vs := [.int .i64 1, .int .i64 2, .int .i64 3, .int .i64 5]) (ys := ([1, 2, 3, 5] : List Int)) (qq .i64) (by decide) rfl Tryz.underlying59 tf3 rfl rfl rfl rfl rfl (by decide) (fun a4 c5 => qs (vs := [.int .i64 0, .int .i64 1, .int .i64 2, .int .i64 3, .int .i64 5]) (ys := ([0, 1, 2, 3, 5] : List Int)) (qq .i64) (by decide) rfl Tryz.underlying59 tf3 rfl rfl rfl rfl rfl (by decide) (fun a6 c7 => qs (vs := [.int .i64 4]) (ys := ([4] : List Int)) (qq .i64) (by decide) rfl Tryz.underlying59 tf3 rfl rfl rfl rfl rfl (by decide) (fun a8 c9 => qs (vs := [.int .i64 1, .int .i64 2, .int .i64 3]) (ys := ([1, 2, 3] : List Int)) (qq .i64) (by decide) rfl Tryz.underlying59 tf3 rfl rfl rfl rfl rfl (by decide) (fun a10 c11 => ?_)))))
 refine au [27,0] ?_
 refine qs (vs := [.slice a2 ([1, 2, 3, 5] : List Int).length c3, .slice a4 ([1, 2, 3, 5] : List Int).length c5, .slice a6 ([0, 1, 2, 3, 5] : List Int).length c7, .slice none ([] : List Int).length 0, .slice a8 ([4] : List Int).length c9, .slice a10 ([1, 2, 3] : List Int).length c11]) (ys := ([(([1, 2, 3, 5] : List Int), (a2, c3)), (([1, 2, 3, 5] : List Int), (a4, c5)), (([0, 1, 2, 3, 5] : List Int), (a6, c7)), (([] : List Int), (none, 0)), (([4] : List Int), (a8, c9)), (([1, 2, 3] : List Int), (a10, c11))] : List (List Int × (Option Addr × Nat)))) yT (by decide) rfl Tryz.underlying22 tf59 rfl rfl rfl rfl rfl (by decide) (fun a12 c13 => qco (rin := rN59) (i := 0) ([([1, 2, 3, 5] : List Int), ([1, 2, 3, 5] : List Int), ([0, 1, 2, 3, 5] : List Int), ([] : List Int), ([4] : List Int), ([1, 2, 3] : List Int)] : List (List Int)) ([(a2, c3), (a4, c5), (a6, c7), (none, 0), (a8, c9), (a10, c11)] : List (Option Addr × Nat)) rfl rfl (.cons 5 rfl (.cons 4 rfl (.cons 3 rfl (.cons 0 rfl (.cons 1 rfl (.cons 0 rfl .nil)))))) (qj (cells := [.slice a12 ([([1, 2, 3, 5] : List Int), ([1, 2, 3, 5] : List Int), ([0, 1, 2, 3, 5] : List Int), ([] : List Int), ([4] : List Int), ([1, 2, 3] : List Int)] : List (List Int)).length c13]) rfl st24 rfl (by kernel_rfl) rfl ?_))
 refine au [24,0,0,1,8] ?_
 exact qA (a12, (c13, ([(a2, c3), (a4, c5), (a6, c7), (none, 0), (a8, c9), (a10, c11)] : List (Option Addr × Nat)))) (resL (rs := [.cell 0 24]) rfl (.cell (i := 0) rfl tf24 rfl rfl (by simp) rfl ResOk.nil) rfl) (fun h => by subst h; exact (.cons 0 rfl .nil))
set_option maxHeartbeats 4000000 in
theorem qfy (F : Nat)  (r : Bool) (hm : qaF F  = some r) :
    Pure Tryz.prog 15 [] [] Unit (fun _ => .bool r) (fun _ => []) (fun _ => []) := by
 refine qi Tryz.func15 rfl Tryz.ntmps15 rfl hm (fun w => ?_)
 refine au [34,5,2,4,5,0,1,2,4] ?_
 refine qj (cells := [.int .i64 999, .int .i64 99, .int .i64 99, .int .i64 999]) rfl st29 rfl (by kernel_rfl) rfl ?_
 refine au [24,6] ?_
 intro g1
 refine au [24,0,0,1,2,4] ?_
 refine qs (vs := [.int .i64 1]) (ys := ([1] : List Int)) (qq .i64) (by decide) rfl Tryz.underlying59 tf3 rfl rfl rfl rfl rfl (by decide) (fun a2 c3 => ?_)
 refine au [28,1,27,0,28,1] ?_
 refine qs (vs := [.slice a2 ([1] : List Int).length c3, .slice none 0 0]) (ys := ([(([1] : List Int), (a2, c3)), (([] : List Int), (none, 0))] : List (List Int × (Option Addr × Nat)))) yT (by decide) rfl Tryz.underlying22 tf59 rfl rfl rfl rfl rfl (by decide) (fun a4 c5 => qb6 (inn := iN59) ([([1] : List Int), ([] : List Int)] : List (List Int)) ([(a2, c3), (none, 0)] : List (Option Addr × Nat)) 0 rfl rfl (qv 1 rfl (qv 0 rfl vQ)) (qj (cells := [.slice a4 ([([1] : List Int), ([] : List Int)] : List (List Int)).length c5]) rfl st24 rfl (by kernel_rfl) rfl (qj (cells := [.int .i64 0, .int .i64 0, .int .i64 0]) rfl st26 rfl (by kernel_rfl) rfl ?_)))
 refine au [28,9] ?_
 rintro x6 e6 ⟨a7, c8⟩
 refine au [3,14,14,5,5,0,1,2,4,34,6] ?_
 rintro x9 e9 ⟨a10, c11⟩
 refine qj (cells := [.int .i64 2, .int .i64 3, .int .i64 1]) rfl st26 rfl (by kernel_rfl) rfl ?_
 refine au [28,9] ?_
 rintro x12 e12 ⟨a13, c14⟩
 refine au [3,14,14,5,5,0,1,2,4,3,24,14,28,10] ?_
 rintro x15 e15 ⟨a16, c17⟩
 refine au [3,14,14,14,24,6] ?_
 intro g18
 refine au [24,0,5,5,0,1,2,4,3,25,8,28,10] ?_
 rintro x19 e19 ⟨a20, c21⟩
 refine au [3,14,14,14,24,6] ?_
 intro g22
 refine au [24,0,5,5,0,1,2,4,3] ?_
 refine qg qhP ?_
 intro x23 e23 _
 refine au [3,14,14,24,6] ?_
 intro g24
 refine au [24,0,5,0,1,2,4,3] ?_
 refine qj (cells := [.int .i64 999, .int .i64 99, .int .i64 99, .int .i64 3]) rfl st29 rfl (by kernel_rfl) rfl ?_
 refine au [28,10] ?_
 rintro x25 e25 ⟨a26, c27⟩
 refine au [3,14,14,14,24,6] ?_
 intro g28
 refine au [24,0,5,5,0,1,2,4] ?_
 refine qs (vs := [.int .u8 76, .int .u8 87, .int .u8 1]) (ys := ([76, 87, 1] : List Int)) (qq .u8) (by decide) rfl Tryz.underlying27 tf5 rfl rfl rfl rfl rfl (by decide) (fun a29 c30 => ?_)
 refine au [33,4,28,10] ?_
 rintro x31 e31 ⟨a32, c33⟩
 refine au [3,14,14,14,24,6] ?_
 intro g34
 refine au [24,0,5,5,0,1] ?_
 refine qe (fun ((x59, _) : (Bool × Unit)) => ([(0, .bool x59)], [], [], [], qH F x59)) ?_ ?_
 refine qr mixed [] [⟨g34, 24, [.slice a32 x31.1.length c33.1]⟩, ⟨g28, 24, [.slice a26 x25.1.length c27.1]⟩, ⟨g24, 29, [.int .i64 x23.1, .int .i64 x23.2.1, .int .i64 x23.2.2.1, .int .i64 x23.2.2.2.1]⟩, ⟨g22, 24, [.slice a20 x19.1.length c21.1]⟩, ⟨g18, 24, [.slice a16 x15.1.length c17.1]⟩, ⟨g1, 29, [.int .i64 999, .int .i64 99, .int .i64 99, .int .i64 999]⟩] [SlN eN59 iN59 1 (.slice a4 ([([1] : List Int), ([] : List Int)] : List (List Int)).length c5) ([([1] : List Int), ([] : List Int)] : List (List Int)) ([(a2, c3), (none, 0)] : List (Option Addr × Nat)), Sl (eI .i64) 1 (.slice none ([] : List Int).length 0) ([] : List Int), Sl (eI .i64) 1 (.slice a2 ([1] : List Int).length c3) ([1] : List Int)] (.cons 0 rfl (.cons 0 rfl (.cons 0 rfl (.cons 0 rfl (.cons 0 rfl (.cons 0 rfl .nil)))))) (qD 0 rfl (qD 1 rfl (qD 2 rfl qm))) 57 rfl ?_
 refine au [6,0,20,1] ?_
 refine qs (vs := [.int .u8 76, .int .u8 87, .int .u8 1, .int .u8 2, .int .u8 1, .int .u8 2, .int .u8 0]) (ys := ([76, 87, 1, 2, 1, 2, 0] : List Int)) (qq .u8) (by decide) rfl Tryz.underlying27 tf5 rfl rfl rfl rfl rfl (by decide) (fun a60 c61 => ?_)
 refine au [0,30,9,20,2] ?_
 refine qg qfA ?_
 intro x62 e62 _
 refine av [0,30,9,6,3,26,3] ?_ ?_
 intro h63
 refine qf (d := 71) (v := .bool true) rfl (by rw [h63] <;> rfl) ?_
 refine av [6,4,6,5,6,6,6,7,26,3] ?_ ?_
 intro h64
 refine qf (d := 75) (v := .bool true) rfl (by rw [h64] <;> rfl) ?_
 refine av [6,8,6,9,6,10,6,11,26,3] ?_ ?_
 intro h65
 refine qf (d := 79) (v := .bool true) rfl (by rw [h65] <;> rfl) ?_
 refine au [18,12] ?_
 refine zI 13 _ rfl rfl rfl (qZ (i := 4) rfl inferInstance rfl rfl (fun _ => rfl) rfl) ?_
 refine au [20,14] ?_
 refine qs (vs := [.int .i64 1]) (ys := ([1] : List Int)) (qq .i64) (by decide) rfl Tryz.underlying59 tf3 rfl rfl rfl rfl rfl (by decide) (fun a66 c67 => ?_)
 refine au [0,30,9,20,15,28,1,27,0] ?_
 refine qs (vs := [.slice a66 ([1] : List Int).length c67, .slice none 0 0]) (ys := ([(([1] : List Int), (a66, c67)), (([] : List Int), (none, 0))] : List (List Int × (Option Addr × Nat)))) yT (by decide) rfl Tryz.underlying22 tf59 rfl rfl rfl rfl rfl (by decide) (fun a68 c69 => qb6 (inn := iN59) ([([1] : List Int), ([] : List Int)] : List (List Int)) ([(a66, c67), (none, 0)] : List (Option Addr × Nat)) 0 rfl rfl (qv 0 rfl (qv 2 rfl vQ)) ?_)
 refine au [0,28,14,20,16,34,4] ?_
 intro x70 e70 _
 refine av [0,28,14,6,17,6,18,26,3] ?_ ?_
 intro h71
 refine qf (d := 86) (v := .bool true) rfl (by rw [h71] <;> rfl) ?_
 refine av [6,19,6,20,6,21,6,22,26,3] ?_ ?_
 intro h72
 refine qf (d := 90) (v := .bool true) rfl (by rw [h72] <;> rfl) ?_
 refine av [6,23,6,24,6,25,6,26,26,3] ?_ ?_
 intro h73
 refine qf (d := 94) (v := .bool true) rfl (by rw [h73] <;> rfl) (zI 27 (.agg #[.slice a20 x19.1.length c21.1]) rfl rfl rfl (qZ (i := 3) rfl tf24 rfl rfl (by simp) rfl) ?_)
 refine au [20,28,34,6] ?_
 rintro x74 e74 ⟨a75, c76⟩
 refine au [0,28,14,20,29,34,7] ?_
 intro x77 e77 _
 refine av [0,28,14,6,30,6,31,26,3] ?_ ?_
 intro h78
 refine qf (d := 99) (v := .bool true) rfl (by rw [h78] <;> rfl) ?_
 refine av [6,32,6,33,6,34,6,35,26,3] ?_ ?_
 intro h79
 refine qf (d := 103) (v := .bool true) rfl (by rw [h79] <;> rfl) ?_
 refine av [6,36,6,37,6,38,6,39,26,3] ?_ ?_
 intro h80
 refine qf (d := 107) (v := .bool true) rfl (by rw [h80] <;> rfl) (zI 40 (.agg #[.int .i64 x23.1, .int .i64 x23.2.1, .int .i64 x23.2.2.1, .int .i64 x23.2.2.2.1]) rfl rfl rfl (qZ (i := 2) rfl tf29 rfl rfl (by simp) rfl) (qw 41 (.agg #[.int .i64 7, .int .i64 2, .int .i64 1, .int .i64 4]) rfl rfl rfl (qcM (cells := [.int .i64 7, .int .i64 2, .int .i64 1, .int .i64 4]) st29 rfl (by kernel_rfl)) (qw 42 (.bool (((x23.1 : Int) == 7) && (((x23.2.1 : Int) == 2) && (((x23.2.2.1 : Int) == 1) && ((x23.2.2.2.1 : Int) == 4))))) rfl rfl rfl (qo3 rfl rfl se29) ?_)))
 refine av [6,43,6,44,26,3] ?_ ?_
 intro h81
 refine qf (d := 112) (v := .bool true) rfl (by rw [h81] <;> rfl) ?_
 refine av [6,45,6,46,6,47,6,48,26,3] ?_ ?_
 intro h82
 refine qf (d := 116) (v := .bool true) rfl (by rw [h82] <;> rfl) ?_
 refine av [6,49,6,50,6,51,6,52,26,3] ?_ ?_
 intro h83
 refine qf (d := 120) (v := .bool true) rfl (by rw [h83] <;> rfl) ?_
 refine au [6,53,6,54,6,55,6,56,24,1] ?_
 exact qu (qa (((x31.2.2 : Int) == 1), ())) (by intro c h; cases h)
 intro h83
 refine qf (d := 120) (v := .bool false) rfl (by rw [h83] <;> rfl) ?_
 refine au [7,53,7,54,6,55,6,56,24,1] ?_
 exact qu (qa (false, ())) (by intro c h; cases h)
 intro h82
 refine qf (d := 116) (v := .bool false) rfl (by rw [h82] <;> rfl) ?_
 refine au [7,49,7,50,6,51,6,52,7,53,7,54,6,55,6,56,24,1] ?_
 exact qu (qa (false, ())) (by intro c h; cases h)
 intro h81
 refine qf (d := 112) (v := .bool false) rfl (by rw [h81] <;> rfl) ?_
 refine au [7,45,7,46,6,47,6,48,7,49,7,50,6,51,6,52,7,53,7,54,6,55,6,56,24,1] ?_
 exact qu (qa (false, ())) (by intro c h; cases h)
 intro h80
 refine qf (d := 107) (v := .bool false) rfl (by rw [h80] <;> rfl) ?_
 refine au [7,40,7,41,7,42,6,43,6,44,7,45,7,46,6,47,6,48,7,49,7,50,6,51,6,52,7,53,7,54,6,55,6,56,24,1] ?_
 exact qu (qa (false, ())) (by intro c h; cases h)
 intro h79
 refine qf (d := 103) (v := .bool false) rfl (by rw [h79] <;> rfl) ?_
 refine au [7,36,7,37,6,38,6,39,7,40,7,41,7,42,6,43,6,44,7,45,7,46,6,47,6,48,7,49,7,50,6,51,6,52,7,53,7,54,6,55,6,56,24,1] ?_
 exact qu (qa (false, ())) (by intro c h; cases h)
 intro h78
 refine qf (d := 99) (v := .bool false) rfl (by rw [h78] <;> rfl) ?_
 refine au [7,32,7,33,6,34,6,35,7,36,7,37,6,38,6,39,7,40,7,41,7,42,6,43,6,44,7,45,7,46,6,47,6,48,7,49,7,50,6,51,6,52,7,53,7,54,6,55,6,56,24,1] ?_
 exact qu (qa (false, ())) (by intro c h; cases h)
 intro h73
 refine qf (d := 94) (v := .bool false) rfl (by rw [h73] <;> rfl) ?_
 refine au [7,27,7,28,7,29,6,30,6,31,7,32,7,33,6,34,6,35,7,36,7,37,6,38,6,39,7,40,7,41,7,42,6,43,6,44,7,45,7,46,6,47,6,48,7,49,7,50,6,51,6,52,7,53,7,54,6,55,6,56,24,1] ?_
 exact qu (qa (false, ())) (by intro c h; cases h)
 intro h72
 refine qf (d := 90) (v := .bool false) rfl (by rw [h72] <;> rfl) ?_
 refine au [7,23,7,24,6,25,6,26,7,27,7,28,7,29,6,30,6,31,7,32,7,33,6,34,6,35,7,36,7,37,6,38,6,39,7,40,7,41,7,42,6,43,6,44,7,45,7,46,6,47,6,48,7,49,7,50,6,51,6,52,7,53,7,54,6,55,6,56,24,1] ?_
 exact qu (qa (false, ())) (by intro c h; cases h)
 intro h71
 refine qf (d := 86) (v := .bool false) rfl (by rw [h71] <;> rfl) ?_
 refine au [7,19,7,20,6,21,6,22,7,23,7,24,6,25,6,26,7,27,7,28,7,29,6,30,6,31,7,32,7,33,6,34,6,35,7,36,7,37,6,38,6,39,7,40,7,41,7,42,6,43,6,44,7,45,7,46,6,47,6,48,7,49,7,50,6,51,6,52,7,53,7,54,6,55,6,56,24,1] ?_
 exact qu (qa (false, ())) (by intro c h; cases h)
 intro h65
 refine qf (d := 79) (v := .bool false) rfl (by rw [h65] <;> rfl) ?_
 refine au [7,12,7,13,7,14,7,15,7,16,6,17,6,18,7,19,7,20,6,21,6,22,7,23,7,24,6,25,6,26,7,27,7,28,7,29,6,30,6,31,7,32,7,33,6,34,6,35,7,36,7,37,6,38,6,39,7,40,7,41,7,42,6,43,6,44,7,45,7,46,6,47,6,48,7,49,7,50,6,51,6,52,7,53,7,54,6,55,6,56,24,1] ?_
 exact qu (qa (false, ())) (by intro c h; cases h)
 intro h64
 refine qf (d := 75) (v := .bool false) rfl (by rw [h64] <;> rfl) ?_
 refine au [7,8,7,9,6,10,6,11,7,12,7,13,7,14,7,15,7,16,6,17,6,18,7,19,7,20,6,21,6,22,7,23,7,24,6,25,6,26,7,27,7,28,7,29,6,30,6,31,7,32,7,33,6,34,6,35,7,36,7,37,6,38,6,39,7,40,7,41,7,42,6,43,6,44,7,45,7,46,6,47,6,48,7,49,7,50,6,51,6,52,7,53,7,54,6,55,6,56,24,1] ?_
 exact qu (qa (false, ())) (by intro c h; cases h)
 intro h63
 refine qf (d := 71) (v := .bool false) rfl (by rw [h63] <;> rfl) ?_
 refine au [7,4,7,5,6,6,6,7,7,8,7,9,6,10,6,11,7,12,7,13,7,14,7,15,7,16,6,17,6,18,7,19,7,20,6,21,6,22,7,23,7,24,6,25,6,26,7,27,7,28,7,29,6,30,6,31,7,32,7,33,6,34,6,35,7,36,7,37,6,38,6,39,7,40,7,41,7,42,6,43,6,44,7,45,7,46,6,47,6,48,7,49,7,50,6,51,6,52,7,53,7,54,6,55,6,56,24,1] ?_
 exact qu (qa (false, ())) (by intro c h; cases h)
 rintro ⟨x59, _⟩
 try dsimp only
 exact az [8,19]
set_option maxHeartbeats 4000000 in
theorem qfx (F : Nat) (x1 : List (List Int)) (a2 : Option Addr) (c3 : (Nat × List (Option Addr × Nat))) (x4 : Int) (x5 : Int) (x6 : Int) (x7 : Int) (x8 : Int) (x9 : Int) (r : Bool) (hm : qbM F x1 x4 x5 x6 x7 x8 x9 = some r) :
    Pure Tryz.prog 8 [.agg #[.slice a2 x1.length c3.1], .agg #[.int .i64 x4, .int .i64 x5, .int .i64 x6], .agg #[.int .i64 x7, .int .i64 x8, .int .i64 x9]] [SlN eN59 iN59 1 (.slice a2 x1.length c3.1) x1 c3.2] Unit (fun _ => .bool r) (fun _ => []) (fun _ => []) := by
 refine qi Tryz.func8 rfl Tryz.ntmps8 rfl hm (fun w => ?_)
 refine au [25,12,2,4,24,3] ?_
 intro g10
 refine au [24,3] ?_
 intro g11
 refine au [24,3] ?_
 intro g12
 refine au [5,0,1,2,4,26,1,25,8,28,9] ?_
 rintro x13 e13 ⟨a14, c15⟩
 refine au [3,14,14,5,5,0,1,2,4,26,1,25,8,28,9] ?_
 rintro x16 e16 ⟨a17, c18⟩
 refine au [3,14,14,5,5,0,1,2,4,26,1,24,14,28,9] ?_
 rintro x19 e19 ⟨a20, c21⟩
 refine au [3,14,14,5,5,0,1,2,2,4] ?_
 refine qg (fun h => qfy F _ h) ?_
 intro x24 e24 _
 refine av [25,1,0,1,9] ?_ ?_
 intro _
 exact az [2,4,5,0,1,8,11,19]
 intro _
 refine au [12,1,2,4] ?_
 refine qj (cells := [.int .i64 4096, .int .i64 100, .int .i64 600, .int .i64 8192]) rfl st29 rfl (by kernel_rfl) rfl ?_
 refine au [24,6] ?_
 intro g25
 refine au [24,0,0,1] ?_
 refine qe (fun ((_, _) : (Unit × Unit)) => ([], [], [], [], qbu F)) ?_ ?_
 refine au [2,4,3,3,3] ?_
 refine qcm 2 rfl ?_
 refine au [33,3,28,1] ?_
 refine qs (vs := [.slice a14 x13.1.length c15, .slice a17 x16.1.length c18, .slice a20 x19.1.length c21]) (ys := ([(x13.1, (a14, c15)), (x16.1, (a17, c18)), (x19.1, (a20, c21))] : List (List Int × (Option Addr × Nat)))) qj2 (by decide) rfl Tryz.underlying47 tf27 rfl rfl rfl rfl rfl (by decide) (fun a186 c187 => qb6 (inn := iN27) ([x13.1, x16.1, x19.1] : List (List Int)) ([(a14, c15), (a17, c18), (a20, c21)] : List (Option Addr × Nat)) 0 rfl rfl (qv 2 rfl (qv 1 rfl (qv 0 rfl vQ))) ?_)
 refine au [23,3,0,1,15] ?_
 refine qk (fun ((x240, _) : (Int × Unit)) => ([(3, .pointer (some ⟨g10, 0, none⟩)), (8, .int .i64 x13.2), (10, .int .i64 x16.2), (12, .int .i64 x19.2), (13, .pointer (some ⟨g25, 0, none⟩)), (43, .slice a186 ([x13.1, x16.1, x19.1] : List (List Int)).length c187), (44, .int .i64 (([x13.1, x16.1, x19.1] : List (List Int)).length : Int)), (45, .int .i64 x240)], [⟨g25, 29, [.int .i64 4096, .int .i64 100, .int .i64 600, .int .i64 8192]⟩, ⟨g10, 24, [.slice a2 x1.length c3.1]⟩], [], [SlN eN27 iN27 1 (.slice a186 ([x13.1, x16.1, x19.1] : List (List Int)).length c187) ([x13.1, x16.1, x19.1] : List (List Int)) ([(a14, c15), (a17, c18), (a20, c21)] : List (Option Addr × Nat)), SlN eN59 iN59 1 (.slice a2 x1.length c3.1) x1 c3.2])) (fun k (s : (Int × Unit)) => zi F x1 x13 x16 x19 k s.1) (0, ()) F ?_
 intro k293
 rintro ⟨x240, _⟩
 try dsimp only
 refine qz (m' := zp F x1 x13 x16 x19 (zi F x1 x13 x16 x19 k293) x240) rfl ?_
 refine av [2,4,24,4,0,1,2,9] ?_ ?_
 intro _
 refine au [12,1] ?_
 refine qe (fun ((_, _) : (Unit × Unit)) => ([(3, .pointer (some ⟨g10, 0, none⟩)), (8, .int .i64 x13.2), (10, .int .i64 x16.2), (12, .int .i64 x19.2), (13, .pointer (some ⟨g25, 0, none⟩)), (43, .slice a186 ([x13.1, x16.1, x19.1] : List (List Int)).length c187), (44, .int .i64 (([x13.1, x16.1, x19.1] : List (List Int)).length : Int)), (45, .int .i64 x240)], [⟨g25, 29, [.int .i64 4096, .int .i64 100, .int .i64 600, .int .i64 8192]⟩, ⟨g10, 24, [.slice a2 x1.length c3.1]⟩], [], [SlN eN27 iN27 1 (.slice a186 ([x13.1, x16.1, x19.1] : List (List Int)).length c187) ([x13.1, x16.1, x19.1] : List (List Int)) ([(a14, c15), (a17, c18), (a20, c21)] : List (Option Addr × Nat)), SlN eN59 iN59 1 (.slice a2 x1.length c3.1) x1 c3.2], j7 F (zi F x1 x13 x16 x19 k293) x240)) ?_ ?_
 refine au [15,2,4,3] ?_
 refine qfu (j := 0) qj2 (by decide) rfl UnF.u inferInstance rfl rfl rfl rfl ?_
 intro x320 e320 g323 b321 o322
 refine au [25,9,5,5,0,1,2,2,4,3,3,3] ?_
 refine qs (vs := [.int .i64 x13.2, .int .i64 x16.2, .int .i64 x19.2]) (ys := ([x13.2, x16.2, x19.2] : List Int)) (qq .i64) (by decide) rfl Tryz.underlying48 tf30 rfl rfl rfl rfl rfl (by decide) (fun a330 c331 => ?_)
 refine au [3,28,13] ?_
 intro x332 e332 g333 h334
 refine qep (j := 0) (y := x332) (qq .i64) rfl rfl tf30 rfl h334 (zD e332).2.2 (fun _ => rfl) rfl rfl ?_
 refine av [25,2,0,1,9] ?_ ?_
 intro _
 exact az [24,7,17,24,8,25,13]
 intro _
 refine au [12,1,2,4,3,24,14,28,10] ?_
 rintro x335 e335 ⟨a336, c337⟩
 refine au [3,14,14,14,24,6] ?_
 intro g338
 refine au [24,0,5,5,0,1,2,4,3,25,2,3] ?_
 refine yC 5 (fun ((x341, _) : (Bool × Unit)) => ([(3, .pointer (some ⟨g10, 0, none⟩)), (8, .int .i64 x13.2), (10, .int .i64 x16.2), (12, .int .i64 x19.2), (13, .pointer (some ⟨g25, 0, none⟩)), (43, .slice a186 ([x13.1, x16.1, x19.1] : List (List Int)).length c187), (44, .int .i64 (([x13.1, x16.1, x19.1] : List (List Int)).length : Int)), (45, .int .i64 x240), (72, .bool x341)], [⟨g25, 29, [.int .i64 4096, .int .i64 100, .int .i64 600, .int .i64 8192]⟩, ⟨g10, 24, [.slice a2 x1.length c3.1]⟩], [], [SlN eN27 iN27 1 (.slice a186 ([x13.1, x16.1, x19.1] : List (List Int)).length c187) ([x13.1, x16.1, x19.1] : List (List Int)) ([(a14, c15), (a17, c18), (a20, c21)] : List (Option Addr × Nat)), SlN eN59 iN59 1 (.slice a2 x1.length c3.1) x1 c3.2], j8 F (zi F x1 x13 x16 x19 k293) x240 x341)) ?_ ?_
 refine qc (os := _) rfl ?_
 refine av [26,5] ?_ ?_
 intro h339
 refine qG (k := 67) rfl h339 ?_
 refine au [10,10,10,10,24,10,0] ?_
 exact qa (true, ())
 intro h339
 refine qF (k := 67) rfl h339 ?_
 refine au [24,14,26,1,34,7] ?_
 intro x343 e343 _
 refine au [25,1,24,11,0] ?_
 exact qa ((!x343), ())
 rintro ⟨x341, _⟩
 try dsimp only
 refine qc (os := _) rfl ?_
 refine av [0,1,9] ?_ ?_
 intro _
 exact az [2,4,5,0,1,8,21,11,11,21,11,19]
 intro _
 exact az [12,24,2,25,13]
 rintro ⟨_, _⟩
 try dsimp only
 refine au [4,16,3,0] ?_
 exact qh (iadd .i64 x240 1, ())
 intro _
 exact az [24,7,17,17,24,8,25,13]
 rintro ⟨_, _⟩
 try dsimp only
 exact az [2,4,5,0,1,8,19]
end Go.Proofs.YtlioijpkhffbnaaGreat
