/- Each Go function of this seat computes what its model says, part 3. -/
import Derived.Test.YtpnfijegoepiaaaGreatWalks2
namespace Go.Proofs.YtpnfijegoepiaaaGreat
open Go SX
theorem qex {F : Nat} {x1 : List (List Int)} {a2 : Option Addr} {c3 : Nat} {s3 : List (Option Addr × Nat)} {r : List Int} (hm : zo F x1 = some r) :
    Pure Tryz.prog 127 [.slice a2 x1.length c3] [SlN eN37 iN37 1 (.slice a2 x1.length c3) x1 s3] (Option Addr × Nat) (fun g => .slice g.1 r.length g.2) (fun g => [Ro (eI .i64) 3 1 (.slice g.1 r.length g.2) r]) (fun _ => []) := by
 refine qi Tryz.func127 rfl Tryz.ntmps127 rfl hm (fun w => ?_)
 refine au [25,5,3,4,5,0,2,3,4,5,0,2] ?_
 refine qc (fun ((x43, _) : (Int × Unit)) => ([(0, .slice a2 x1.length c3), (3, .int .i64 x43)], [], [], [SlN eN37 iN37 1 (.slice a2 x1.length c3) x1 s3], zO F x1 x43)) ?_ ?_
 refine au [3,4,1,19,1,0,2,14] ?_
 refine qk (fun (((x168, x169), _) : ((Int × Int) × Unit)) => ([(0, .slice a2 x1.length c3), (3, .int .i64 x168), (9, .slice a2 x1.length c3), (10, .int .i64 (x1.length : Int)), (11, .int .i64 x169)], [], [], [SlN eN37 iN37 1 (.slice a2 x1.length c3) x1 s3])) (fun k (s : ((Int × Int) × Unit)) => qM F x1 k s.1) ((0, 0), ()) F ?_
 intro k182
 rintro ⟨⟨x168, x169⟩, _⟩
 try dsimp only
 refine ql (m' := qF F x1 (qM F x1 k182) x168 x169) rfl ?_
 refine av [3,4,22,0,2,3,9] ?_ ?_
 intro _
 refine au [10,2,3,14,3,4,27,10] ?_
 intro x189 e189 g192 b190 o191
 refine av [25,1,5,0,2,3,4,1,1,19,15,5,0,2,3,4,1,22,0,2,9] ?_ ?_
 intro _
 exact az [33,7]
 intro _
 refine au [10,21,2,4,15,1,0] ?_
 exact qh ((iadd .i64 x168 (x189.length : Int), iadd .i64 x169 1), ())
 intro _
 refine au [24,4,16,16,24,5] ?_
 exact qa (x168, ())
 rintro ⟨x43, _⟩
 try dsimp only
 refine au [3,4,1,27,15] ?_
 refine zy qfi ?_
 rintro x44 e44 ⟨a45, c46⟩
 refine au [5,0,2] ?_
 refine qc (fun ((x102, (a100, c101)) : (List Int × (Option Addr × Nat))) => ([(6, .slice a100 x102.length c101)], [], [Ro (eI .i64) 3 1 (.slice a100 x102.length c101) x102], [], yO F x102)) ?_ ?_
 refine au [3,4,1,19,1,0,2,14] ?_
 refine qk (fun (((x121, x122), (a119, c120)) : ((List Int × Int) × (Option Addr × Nat))) => ([(6, .slice a119 x121.length c120), (25, .slice a2 x1.length c3), (26, .int .i64 (x1.length : Int)), (27, .int .i64 x122)], [], [Ro (eI .i64) 3 1 (.slice a119 x121.length c120) x121], [SlN eN37 iN37 1 (.slice a2 x1.length c3) x1 s3])) (fun k (s : ((List Int × Int) × (Option Addr × Nat))) => qL F x1 k s.1) ((x44, 0), (a45, c46)) F ?_
 intro k139
 rintro ⟨⟨x121, x122⟩, ⟨a119, c120⟩⟩
 try dsimp only
 refine ql (m' := qE F x1 (qL F x1 k139) x121 x122) rfl ?_
 refine av [3,4,22,0,2,3,9] ?_ ?_
 intro _
 refine au [10,2,3,14,3,4,27,10] ?_
 intro x148 e148 g151 b149 o150
 refine au [25,1,5,0,2,4,1,1] ?_
 refine qA 0 (qo .i64) rfl UnF.u inferInstance rfl rfl rfl rfl rfl (.inr ⟨1, rfl⟩) rfl rfl ?_
 intro x152 e152 a153 c154
 refine au [5,0,21,2,4,15,1,0] ?_
 exact qh ((x152, iadd .i64 x122 1), (a153, c154))
 intro _
 refine au [24,4,16,16,24,5] ?_
 exact qa (x121, (a119, c120))
 rintro ⟨x102, ⟨a100, c101⟩⟩
 try dsimp only
 refine au [3,4,1,5,0,2,12] ?_
 exact qj (a100, c101)
theorem qfj {F : Nat} {x1 : List Int} {a2 : Option Addr} {c3 : Nat} {r : List Int} (hm : zg F x1 = some r) :
    PureM Tryz.prog 128 [.slice a2 x1.length c3] [] [Ro (eI .i64) 3 1 (.slice a2 x1.length c3) x1] [] Unit (fun _ => .tuple #[]) (fun _ => []) (fun _ => [Ro (eI .i64) 3 1 (.slice a2 r.length c3) r]) := by
  unfold zg at hm
  split at hm
  · cases hm
    exact qns Tryz.slices_Sort_int Tryz.slices_Sort_int_none (by assumption)
  · simp at hm
theorem qje {F : Nat} {x1 : Int} {x2 : Int} {x3 : Int} {r : Bool} (hm : qbs F x1 x2 x3 = some r) :
    Pure Tryz.prog 148 [.int .i64 x1, .int .i64 x2, .int .i64 x3] [] Unit (fun _ => .bool r) (fun _ => []) (fun _ => []) := by
 refine qi Tryz.func148 rfl Tryz.ntmps148 rfl hm (fun w => ?_)
 refine au [25,13,3,4,5,0,2,3,4,1,1,26,2,1] ?_
 refine qB 4 (decide (x2 ≤ x1)) [(14, .bool ((decide (x2 ≤ x1)) && (decide (x1 ≤ x3))))] (fun h4 => ?_) (fun h4 => ?_) ?_
 refine qb (os := _) rfl (qq (k := 10) rfl h4 ?_)
 refine au [1,1,26,9,24,8] ?_
 refine qe (d := 14) (v := .bool ((decide (x2 ≤ x1)) && (decide (x1 ≤ x3)))) rfl (by rw [h4]; simp only [Bool.true_and]) ?_
 exact az [0,24,1]
 refine qb (os := _) rfl (qp (k := 10) rfl h4 ?_)
 refine au [7,7,7,24,9] ?_
 refine qe (d := 14) (v := .bool ((decide (x2 ≤ x1)) && (decide (x1 ≤ x3)))) rfl (by rw [h4]; simp only [Bool.false_and]) ?_
 exact az [0,24,1]
 refine qb (os := _) rfl ?_
 exact az [5,0,2,12,18]
set_option maxHeartbeats 4000000 in
theorem qjd {F : Nat} {x1 : List (Int × Int)} {a2 : Option Addr} {c3 : Nat} {r : (List Int × Int)} (hm : qc7 F x1 = some r) :
    Pure Tryz.prog 139 [.slice a2 x1.length c3] [Sl eS141 2 (.slice a2 x1.length c3) x1] (Option Addr × Nat) (fun g => .tuple #[.slice g.1 r.1.length g.2, .int .i64 r.2]) (fun g => [Ro (eI .i64) 3 1 (.slice g.1 r.1.length g.2) r.1]) (fun _ => []) := by
 refine qi Tryz.func139 rfl Tryz.ntmps139 rfl hm (fun w => ?_)
 refine av [25,5,3,4,5,5,0,2,3,3,4,1,19,24,6,0,2,9] ?_ ?_
 intro _
 refine au [3,4,5,5,0,2,12,11,24,14] ?_
 exact qj (none, 0)
 intro _
 refine au [10,2,3,4,5,0,2] ?_
 refine qc (fun ((_, _) : (Unit × Unit)) => ([(0, .slice a2 x1.length c3)], [], [], [Sl eS141 2 (.slice a2 x1.length c3) x1], qaA F x1)) ?_ ?_
 refine au [3,4,1,19,1,0,2,14] ?_
 refine qk (fun (((x807, x808), _) : ((Int × Int) × Unit)) => ([(0, .slice a2 x1.length c3), (4, .int .i64 x807), (14, .slice a2 x1.length c3), (15, .int .i64 (x1.length : Int)), (16, .int .i64 x808)], [], [], [Sl eS141 2 (.slice a2 x1.length c3) x1])) (fun k (s : ((Int × Int) × Unit)) => kz F x1 k s.1) ((-2, 0), ()) F ?_
 intro k863
 rintro ⟨⟨x807, x808⟩, _⟩
 try dsimp only
 refine ql (m' := qaz F x1 (kz F x1 k863) x807 x808) rfl ?_
 refine av [3,4,22,0,2,3,9] ?_ ?_
 intro _
 refine au [10,2,3,14,3,4,29,14] ?_
 intro x891 e891 b892 o893
 refine au [29,15,25,0] ?_
 intro g894
 refine au [24,11,0,2,3,14] ?_
 refine qc (fun ((x910, _) : (Bool × Unit)) => ([(0, .slice a2 x1.length c3), (4, .int .i64 x807), (6, .pointer (some ⟨g894, 0, none⟩)), (14, .slice a2 x1.length c3), (15, .int .i64 (x1.length : Int)), (16, .int .i64 x808), (20, .bool x910)], [⟨g894, 141, [.int .i64 x891.1, .int .i64 x891.2]⟩], [], [Sl eS141 2 (.slice a2 x1.length c3) x1], vC F (kz F x1 k863) x807 x808 x891 x910)) ?_ ?_
 refine au [3,4,13,23,33,10] ?_
 intro x913 e913 _
 refine av [25,4,5,0,2,9] ?_ ?_
 intro _
 refine au [10] ?_
 exact qa ((!x913), ())
 intro _
 refine au [3,4,13,23,33,10] ?_
 intro x914 e914 _
 refine av [25,4,5,0,2,9] ?_ ?_
 intro _
 refine au [10] ?_
 exact qa ((!x914), ())
 intro _
 refine au [4,13,23,13,23,15,24,10,24,6,5,0] ?_
 exact qa ((decide (1048576 < (isub .i64 (iadd .i64 x891.1 x891.2) 1))), ())
 rintro ⟨x910, _⟩
 try dsimp only
 refine av [9] ?_ ?_
 intro _
 refine au [3,4,5,5,0,2,12,20,11,20,11,11,20,11,24,14] ?_
 exact qj (none, 0)
 intro _
 refine av [3,4,13,23,1,15,22,5,0,2,9] ?_ ?_
 intro _
 refine au [3,4,5,5,0,2,12,20,11,20,11,11,20,11,24,14] ?_
 exact qj (none, 0)
 intro _
 refine au [10,21,2,4,13,23,13,23,15,24,10,5,0,21,2,4,15,1,0] ?_
 exact qh ((isub .i64 (iadd .i64 x891.1 x891.2) 1, iadd .i64 x808 1), ())
 intro _
 exact az [24,4,16,16,24,5,26,1]
 rintro ⟨_, _⟩
 try dsimp only
 refine au [3,4,5,0,2] ?_
 refine qc (fun ((x462, (a460, c461)) : (List Int × (Option Addr × Nat))) => ([(7, .slice a460 x462.length c461)], [], [Ro (eI .i64) 3 1 (.slice a460 x462.length c461) x462], [], qec F x462)) ?_ ?_
 refine au [3,4,1,19,1,0,2,14,25,14] ?_
 refine qk (fun (((x560, x561), (a558, c559)) : ((List Int × Int) × (Option Addr × Nat))) => ([(7, .slice a558 x560.length c559), (49, .slice a2 x1.length c3), (50, .int .i64 (x1.length : Int)), (51, .int .i64 x561)], [], [Ro (eI .i64) 3 1 (.slice a558 x560.length c559) x560], [Sl eS141 2 (.slice a2 x1.length c3) x1])) (fun k (s : ((List Int × Int) × (Option Addr × Nat))) => q8 F x1 k s.1) ((([] : List Int), 0), (none, 0)) F ?_
 intro k657
 rintro ⟨⟨x560, x561⟩, ⟨a558, c559⟩⟩
 try dsimp only
 refine ql (m' := qax F x1 (q8 F x1 k657) x560 x561) rfl ?_
 refine av [3,4,22,0,2,3,9] ?_ ?_
 intro _
 refine au [10,2] ?_
 refine qc (fun ((x706, (a704, c705)) : (List Int × (Option Addr × Nat))) => ([(7, .slice a704 x706.length c705), (49, .slice a2 x1.length c3), (50, .int .i64 (x1.length : Int)), (51, .int .i64 x561)], [], [Ro (eI .i64) 3 1 (.slice a704 x706.length c705) x706], [Sl eS141 2 (.slice a2 x1.length c3) x1], qaB F (q8 F x1 k657) x561 x706)) ?_ ?_
 refine au [14,3,4,29,14] ?_
 intro x707 e707 b708 o709
 refine au [29,15,25,0] ?_
 intro g710
 refine au [24,11,0,2,3,4,13,23,1,0,2,14] ?_
 refine qk (fun (((x725, x726), (a723, c724)) : ((List Int × Int) × (Option Addr × Nat))) => ([(7, .slice a723 x725.length c724), (9, .pointer (some ⟨g710, 0, none⟩)), (49, .slice a2 x1.length c3), (50, .int .i64 (x1.length : Int)), (51, .int .i64 x561), (56, .int .i64 x707.2), (57, .int .i64 x726)], [⟨g710, 141, [.int .i64 x707.1, .int .i64 x707.2]⟩], [Ro (eI .i64) 3 1 (.slice a723 x725.length c724) x725], [Sl eS141 2 (.slice a2 x1.length c3) x1])) (fun k (s : ((List Int × Int) × (Option Addr × Nat))) => yf F (q8 F x1 k657) x561 x707 k s.1) ((x560, 0), (a558, c559)) F ?_
 intro k739
 rintro ⟨⟨x725, x726⟩, ⟨a723, c724⟩⟩
 try dsimp only
 refine ql (m' := qay F (q8 F x1 k657) x561 x707 (yf F (q8 F x1 k657) x561 x707 k739) x725 x726) rfl ?_
 refine av [3,4,22,0,2,3,9] ?_ ?_
 intro _
 refine au [10,2,3,14,3,4,1,5,0,2,4,1,13,23,1,15] ?_
 refine qy (vs := [.int .i64 (iadd .i64 x707.1 x726)]) (ys := ([iadd .i64 x707.1 x726] : List Int)) (qo .i64) (by decide) rfl Tryz.underlying37 tf3 rfl rfl rfl rfl rfl (by decide) (fun a746 c747 => qA 1 (qo .i64) rfl Tryz.underlying37 tf3 rfl rfl rfl rfl rfl (.inl ⟨0, _, rfl⟩) rfl rfl (fun x748 e748 a749 c750 => ?_))
 refine au [5,0,21,2,4,15,1,0] ?_
 exact qh ((x748, iadd .i64 x726 1), (a749, c750))
 intro _
 refine au [24,4,16,16,24,5,21] ?_
 exact qa (x725, (a723, c724))
 rintro ⟨x706, ⟨a704, c705⟩⟩
 try dsimp only
 refine au [4,15,1,0] ?_
 exact qh ((x706, iadd .i64 x561 1), (a704, c705))
 intro _
 refine au [24,4,16,16,24,5] ?_
 exact qa (x560, (a558, c559))
 rintro ⟨x462, ⟨a460, c461⟩⟩
 try dsimp only
 refine au [3,4,1,5,5,0,2,12] ?_
 exact qj (a460, c461)
theorem qek {F : Nat} {x1 : List Int} {a2 : Option Addr} {c3 : Nat} {r : List Int} (hm : ka F x1 = some r) :
    PureM Tryz.prog 140 [.slice a2 x1.length c3] [] [Ro (eI .i64) 3 1 (.slice a2 x1.length c3) x1] [] (Option Addr × Nat) (fun g => .slice g.1 r.length g.2) (fun _ => []) (fun g => [Ro (eI .i64) 3 1 (.slice g.1 r.length g.2) r]) := by
  unfold ka at hm
  split at hm
  · cases hm
    exact qjg Tryz.slices_Compact_int Tryz.slices_Compact_int_empty (by assumption)
  · simp at hm
theorem qeO {F : Nat} {x1 : List Int} {a2 : Option Addr} {c3 : Nat} {r : List Int} (hm : yx F x1 = some r) :
    Pure Tryz.prog 141 [.slice a2 x1.length c3] [Sl (eI .i64) 1 (.slice a2 x1.length c3) x1] (Option Addr × Nat) (fun g => .slice g.1 r.length g.2) (fun g => [Ro (eI .i64) 3 1 (.slice g.1 r.length g.2) r]) (fun _ => []) := by
 refine qi Tryz.func141 rfl Tryz.ntmps141 rfl hm (fun w => ?_)
 refine av [25,5,3,4,5,0,2,3,3,4,1,31,4,0,2,31,5] ?_ ?_
 intro h11
 refine qmB 0 (qo .i64) (by decide) rfl h11 (fun h12 => ?_)
 subst h12
 refine ql (m' := some ([] : List Int)) rfl ?_
 refine au [3,4,5,0,2,12,11,24,14] ?_
 exact qj (none, 0)
 intro _
 refine au [10,2,3,4,30,8] ?_
 intro a6 c7
 refine au [1,28,0] ?_
 intro x8 e8 a9 c10
 refine au [5,0,2,12] ?_
 exact qj (a9, c10)
theorem qkx {F : Nat} {x1 : List (Int × Int)} {a2 : Option Addr} {c3 : Nat} {x4 : List Int} {a5 : Option Addr} {c6 : Nat} {r : (List Int × Int)} (hm : qdx F x1 x4 = some r) :
    Pure Tryz.prog 125 [.slice a2 x1.length c3, .slice a5 x4.length c6] [Sl eS141 2 (.slice a2 x1.length c3) x1, Sl (eI .i64) 1 (.slice a5 x4.length c6) x4] (Option Addr × Nat) (fun g => .tuple #[.slice g.1 r.1.length g.2, .int .i64 r.2]) (fun g => [Ro (eI .i64) 3 1 (.slice g.1 r.1.length g.2) r.1]) (fun _ => []) := by
 refine qi Tryz.func125 rfl Tryz.ntmps125 rfl hm (fun w => ?_)
 refine au [24,13,3,4,5,5,0,2,3,4,1] ?_
 refine qg qjd ?_
 rintro x7 e7 ⟨a8, c9⟩
 refine au [1,17,17,5,5,0,2] ?_
 refine qc (fun ((x12, _) : (Int × Unit)) => ([(1, .slice a5 x4.length c6), (6, .slice a8 x7.1.length c9), (7, .int .i64 x12)], [], [Ro (eI .i64) 3 1 (.slice a8 x7.1.length c9) x7.1], [Sl (eI .i64) 1 (.slice a5 x4.length c6) x4], jY F x4 x7 x12)) ?_ ?_
 refine av [3,4,1,24,15,0,2,9] ?_ ?_
 intro _
 refine au [4,1,28,11] ?_
 intro x38 e38 _
 refine au [5,0] ?_
 exact qa (x38, ())
 intro _
 refine au [10] ?_
 exact qa (x7.2, ())
 rintro ⟨x12, _⟩
 try dsimp only
 refine av [3,3,4,1,25,3,0,2,9] ?_ ?_
 intro _
 refine au [3,4,1,5,5,0,2,12,11,24,14] ?_
 exact qj (none, 0)
 intro _
 refine au [10,2,3,4,1,1,33,11] ?_
 refine qy (vs := [.slice a8 x7.1.length c9, .slice a5 x4.length c6]) (ys := ([(x7.1, (a8, c9)), (x4, (a5, c6))] : List (List Int × (Option Addr × Nat)))) kY (by decide) rfl Tryz.underlying22 tf37 rfl rfl rfl rfl rfl (by decide) (fun a14 c15 => qj2 (inn := iN37) ([x7.1, x4] : List (List Int)) ([(a8, c9), (a5, c6)] : List (Option Addr × Nat)) 0 rfl rfl (qT 0 rfl (qT 1 rfl qbY)) ?_)
 refine au [33,12] ?_
 rintro x16 e16 ⟨a17, c18⟩
 refine au [5,0,2,3,4,1,33,13] ?_
 intro x19 e19 _
 refine au [26,3] ?_
 intro h20
 replace h20 := of_decide_eq_true h20
 refine qe (d := 8) (v := .slice a17 x19.length c18) rfl (by rw [h20] <;> rfl) (qe (d := 24) (v := .slice a17 x19.length c18) rfl (by rw [h20] <;> rfl) (qe (d := 25) (v := .slice a17 x19.length c18) rfl (by rw [h20] <;> rfl) ?_))
 refine au [0,2,3,14,3,4,1] ?_
 refine qg qeO ?_
 rintro x29 e29 ⟨a30, c31⟩
 refine zy qek ?_
 rintro x32 e32 ⟨a33, c34⟩
 refine av [19,1,19,22,5,0,2,9] ?_ ?_
 intro _
 refine au [3,4,5,5,0,2,12,20,11,24,14] ?_
 exact qj (none, 0)
 intro _
 refine av [3,4,1,19,24,6,5,0,2,9] ?_ ?_
 intro _
 refine au [3,4,5,5,0,2,12,20,11,24,14] ?_
 exact qj (none, 0)
 intro _
 refine au [10,21,2,3,4,1,5,5,0,2,12] ?_
 exact qj (a17, c18)
theorem qga {F : Nat} {x1 : Int} {x2 : List Int} {a3 : Option Addr} {c4 : Nat} {x5 : Int} {x6 : Int} {r : (Int × Int × Bool)} (hm : za F x1 x2 x5 x6 = some r) :
    Pure Tryz.prog 149 [.agg #[.int .i64 x1, .slice a3 x2.length c4], .int .i64 x5, .int .u64 x6] [Sl (eI .u8) 1 (.slice a3 x2.length c4) x2] Unit (fun _ => .tuple #[.int .u64 r.1, .int .i64 r.2.1, .bool r.2.2]) (fun _ => []) (fun _ => []) := by
 refine qi Tryz.func149 rfl Tryz.ntmps149 rfl hm (fun w => ?_)
 refine au [25,13,3,4,24,3] ?_
 intro g7
 refine au [5,5,5,0,2,3,4,1,32,8] ?_
 intro x8 e8 _
 refine au [1,17,17,5,5,0,2] ?_
 refine qc (fun ((_, _) : (Unit × Unit)) => ([(1, .int .i64 x5), (3, .pointer (some ⟨g7, 0, none⟩)), (9, .int .i64 x8.1), (10, .int .u64 x8.2)], [⟨g7, 29, [.int .i64 x1, .slice a3 x2.length c4]⟩], [], [Sl (eI .u8) 1 (.slice a3 x2.length c4) x2], zd F x1 x2 x5 x8)) ?_ ?_
 refine av [3,4,1,24,6,0,2,9] ?_ ?_
 intro _
 refine au [3,4,25,2,1,1,24,10,30,6] ?_
 intro x15 e15 _
 refine av [1,17,17,5,5,0,2,3,3,4,1,25,4,0,2,9] ?_ ?_
 intro _
 exact az [3,4,5,5,5,0,2,12,11,11,18]
 intro _
 refine av [10,2,3,4,1,1,22,0,2,9] ?_ ?_
 intro _
 exact az [3,4,1,1,1,15,24,10,5,5,5,0,2,12,11,18]
 intro _
 exact az [10,26,1]
 intro _
 exact az [10,26,1]
 rintro ⟨_, _⟩
 try dsimp only
 refine au [3,4,25,2,1,1,30,6] ?_
 intro x14 e14 _
 exact az [1,17,17,5,5,0,2,3,4,1,1,24,10,1,1,15,1,5,5,5,0,2,12,18]
theorem qhU {F : Nat} {x1 : Int} {x2 : Int} {x3 : Bool} {r : (Int × Int × Int)} (hm : qci F x1 x2 x3 = some r) :
    Pure Tryz.prog 150 [.int .u64 x1, .int .i64 x2, .bool x3] [] Unit (fun _ => .tuple #[.int .u64 r.1, .int .i64 r.2.1, .int .i64 r.2.2]) (fun _ => []) (fun _ => []) := by
 refine qi Tryz.func150 rfl Tryz.ntmps150 rfl hm (fun w => ?_)
 refine av [25,13,3,4,5,5,5,0,2,3,14,3,4,1,25,4,5,0,2,9] ?_ ?_
 intro _
 exact az [3,4,5,5,5,0,2,12,20,11,18]
 intro _
 refine av [3,4,1,24,6,5,0,2,9] ?_ ?_
 intro _
 exact az [3,4,5,5,5,0,2,12,20,11,18]
 intro _
 exact az [10,21,2,3,4,1,1,5,5,5,0,2,12,18]
theorem qgy {F : Nat} {x1 : Int} {x2 : List Int} {a3 : Option Addr} {c4 : Nat} {x5 : Int} {x6 : Int} {r : (Int × Int × Int)} (hm : qal F x1 x2 x5 x6 = some r) :
    Pure Tryz.prog 142 [.agg #[.int .i64 x1, .slice a3 x2.length c4], .int .i64 x5, .int .i64 x6] [Sl (eI .u8) 1 (.slice a3 x2.length c4) x2] Unit (fun _ => .tuple #[.int .u64 r.1, .int .i64 r.2.1, .int .i64 r.2.2]) (fun _ => []) (fun _ => []) := by
 refine qi Tryz.func142 rfl Tryz.ntmps142 rfl hm (fun w => ?_)
 refine au [25,13,3,4,24,3] ?_
 intro g7
 refine au [5,5,5,0,2,3,4,25,2,1,33,2] ?_
 intro x8 e8 _
 refine av [1,17,17,17,5,5,5,0,2,3,3,4,1,25,4,0,2,9] ?_ ?_
 intro _
 exact az [3,4,5,5,5,0,2,12,11,18]
 intro _
 refine av [10,2,3,3,4,1,1,24,12,27,2,26,2,0,2,9] ?_ ?_
 intro _
 exact az [3,4,5,5,5,0,2,12,11,18]
 intro _
 refine au [10,2,3,4,1,24,12,1,27,2,26,3] ?_
 intro h11
 refine qbR rfl rfl rfl rfl h11 ?_
 refine au [5,26,0] ?_
 intro x12 e12
 refine qe (d := 12) (v := .int .u64 x12) rfl (by rw [e12] <;> rfl) ?_
 refine au [0,2,3,27,11] ?_
 intro h17
 refine qw mixed [] [⟨g7, 29, [.int .i64 x1, .slice a3 x2.length c4]⟩] [Sl (eI .u8) 1 (.slice a3 x2.length c4) x2] (.cons 0 rfl .nil) (qC 0 rfl qu) 15 rfl (kH 0 (.agg #[.int .i64 x1, .slice a3 x2.length c4]) rfl rfl rfl (zw (i := 0) rfl tf29 rfl rfl (by simp) rfl) ?_)
 refine au [6,1,6,2,6,3] ?_
 refine qm 4 (.int .u64 (ishl .u64 x12 x6)) rfl rfl rfl (qgu rfl rfl h17) ?_
 refine au [6,5,6,6,24,0,7] ?_
 refine qg qga ?_
 intro x20 e20 _
 refine au [0,28,2,6,8,6,9,6,10,6,11,6,12,6,13,6,14,24,7] ?_
 refine qz ?_ (by intro c h; cases h)
 refine au [2,3,4,1,1,15,24,10,1,1] ?_
 refine qg qhU ?_
 intro x21 e21 _
 exact az [17,17,17,5,5,5,0,2,12,18]
theorem qf9 {F : Nat} {g1 : Nat} {x2 : Int} {x3 : Bool} {x4 : Int} {r : (Bool × Int × Bool)} (hm : kg F x2 x3 x4 = some r) :
    PureM Tryz.prog 143 [.pointer (some ⟨g1, 0, none⟩), .int .u64 x4] [⟨g1, 162, [.int .i64 x2, .bool x3]⟩] [] [] Unit (fun _ => .bool r.1) (fun _ => [⟨g1, 162, [.int .i64 r.2.1, .bool r.2.2]⟩]) (fun _ => []) := by
 refine kF Tryz.func143 rfl Tryz.ntmps143 rfl hm (fun w => ?_)
 refine av [24,13,3,4,5,0,2,3,3,4,1,24,6,0,2,9] ?_ ?_
 intro _
 exact az [3,4,5,0,2,12,11,30,0]
 intro _
 refine au [10,2] ?_
 refine qc (fun ((x8, _) : (Int × Unit)) => ([(0, .pointer (some ⟨g1, 0, none⟩))], [⟨g1, 162, [.int .i64 x8, .bool x3]⟩], [], [], kM F x8)) ?_ ?_
 refine av [3,4,1,25,6,13,23,0,2,9] ?_ ?_
 intro _
 refine au [4,1,25,6,13,23,1,24,12,15,15,25,6,13,24,11,0] ?_
 exact qa (iadd .i64 x2 (iadd .i64 (iconv .i64 x4) 1), ())
 intro _
 refine qw mixed [9] [] [(BlkD.is ⟨g1, 162, [.int .i64 x2, .bool x3]⟩)] .nil (qjh 0 rfl qu) 10 rfl ?_
 refine au [6,0,6,1,24,2,2] ?_
 refine qK 3 (.int .i64 x2) [[9]] rfl rfl rfl (qaM (j := 0) rfl tf3 rfl rfl (fun _ => rfl) rfl) ?_
 refine au [6,4,24,0,5,33,6] ?_
 intro x10 e10 _
 refine au [0,29,13,6,6,6,7,24,2,8,24,0,9,24,11,0] ?_
 refine qd1 9 rfl (by kernel_rfl) .nil ?_
 refine au [24,7] ?_
 exact qz (qa (iadd .i64 x2 x10, ())) (by intro c h; cases h)
 rintro ⟨x8, _⟩
 try dsimp only
 refine au [3,4,1,25,6,13,24,11,0,2,3,4,1,25,6,13,23,31,9] ?_
 intro x9 e9 _
 exact az [5,0,2,12,30,0]
theorem qlD {F : Nat} {x1 : Int} {x2 : List Int} {a3 : Option Addr} {c4 : Nat} {x5 : Int} {x6 : Int} {x7 : Int} {x8 : Int} {r : (List Int × Int × Int)} (hm : qd8 F x1 x2 x5 x6 x7 x8 = some r) :
    Pure Tryz.prog 126 [.agg #[.int .i64 x1, .slice a3 x2.length c4], .int .i64 x5, .int .i64 x6, .int .i64 x7, .int .i64 x8] [Sl (eI .u8) 1 (.slice a3 x2.length c4) x2] (Option Addr × Nat) (fun g => .tuple #[.slice g.1 r.1.length g.2, .int .i64 r.2.1, .int .i64 r.2.2]) (fun g => [Ro (eI .i64) 3 1 (.slice g.1 r.1.length g.2) r.1]) (fun _ => []) := by
 refine qi Tryz.func126 rfl Tryz.ntmps126 rfl hm (fun w => ?_)
 refine au [28,6,3,4,24,3] ?_
 intro g9
 refine au [5,5,5,0,2,3,4,1] ?_
 refine qD (cells := [.int .i64 x6, .bool false]) rfl st162 rfl (by kernel_rfl) rfl ?_
 refine au [24,3] ?_
 intro g10
 refine au [5,0,2] ?_
 refine qc (fun (((x105, x108), (a106, c107)) : ((Int × List Int) × (Option Addr × Nat))) => ([(1, .int .i64 x105), (10, .slice a106 x108.length c107)], [], [Ro (eI .i64) 3 1 (.slice a106 x108.length c107) x108], [], qdM F x105 x108)) ?_ ?_
 refine au [3,4,1,1,0,2,14,25,14] ?_
 refine qk (fun (((x138, x141, x142, x143, x144), (a139, c140)) : ((Int × List Int × Int × Int × Bool) × (Option Addr × Nat))) => ([(1, .int .i64 x138), (3, .int .i64 x7), (5, .pointer (some ⟨g9, 0, none⟩)), (10, .slice a139 x141.length c140), (13, .pointer (some ⟨g10, 0, none⟩)), (18, .int .i64 x8), (19, .int .i64 x142)], [⟨g10, 162, [.int .i64 x143, .bool x144]⟩, ⟨g9, 29, [.int .i64 x1, .slice a3 x2.length c4]⟩], [Ro (eI .i64) 3 1 (.slice a139 x141.length c140) x141], [Sl (eI .u8) 1 (.slice a3 x2.length c4) x2])) (fun k (s : ((Int × List Int × Int × Int × Bool) × (Option Addr × Nat))) => jk F x1 x2 x7 x8 k s.1) ((x5, ([] : List Int), 0, x6, false), (none, 0)) F ?_
 intro k173
 rintro ⟨⟨x138, x141, x142, x143, x144⟩, ⟨a139, c140⟩⟩
 try dsimp only
 refine ql (m' := qch F x1 x2 x7 x8 (jk F x1 x2 x7 x8 k173) x138 x141 x142 x143 x144) rfl ?_
 refine av [3,4,22,0,2,3,9] ?_ ?_
 intro _
 refine au [10,2,3,14,3,4,5,0,2,3,3,4,25,7,1,1] ?_
 refine qg qgy ?_
 intro x190 e190 _
 refine av [1,17,17,17,5,5,5,0,2,3,4,1,25,3,0,2,9] ?_ ?_
 intro _
 refine au [3,4,1,5,5,5,0,2,12,11,20,11,11,20,11,24,14] ?_
 exact qj (none, 0)
 intro _
 refine au [10,2,3,3,4,1,1] ?_
 refine zy qf9 ?_
 intro x193 e193 _
 refine av [25,4,0,2,9] ?_ ?_
 intro _
 refine au [3,4,5,5,5,0,2,12,11,20,11,11,20,11,24,14] ?_
 exact qj (none, 0)
 intro _
 refine au [10,2,4,1,1,25,6,13,23] ?_
 refine qy (vs := [.int .i64 x193.2.1]) (ys := ([x193.2.1] : List Int)) (qo .i64) (by decide) rfl Tryz.underlying37 tf3 rfl rfl rfl rfl rfl (by decide) (fun a194 c195 => qA 1 (qo .i64) rfl Tryz.underlying37 tf3 rfl rfl rfl rfl rfl (.inl ⟨0, _, rfl⟩) rfl rfl (fun x196 e196 a197 c198 => ?_))
 refine au [5,0,21,2,4,15,1,0] ?_
 exact qh ((x190.2.1, x196, iadd .i64 x142 1, x193.2.1, x193.2.2), (a197, c198))
 intro _
 refine au [24,4,16,16,24,5] ?_
 exact qa ((x138, x141), (a139, c140))
 rintro ⟨⟨x105, x108⟩, ⟨a106, c107⟩⟩
 try dsimp only
 refine au [3,4,1,1,5,5,5,0,2,12] ?_
 exact qj (a106, c107)
set_option maxHeartbeats 4000000 in
theorem qge (F : Nat) (g1 : Nat) (x2 : Int) (x3 : List Int) (a4 : Option Addr) (c5 : Nat) (x6 : Int) (x7 : Int) (x8 : List Int) (a9 : Option Addr) (c10 : Nat) (x11 : Int) (x12 : Int) (x13 : Int) (r : ((List Int × Int × Int) ⊕ (Int × Int))) (hm : yP F x2 x3 x6 x7 x8 x11 x12 x13 = some r) :
    PureL Tryz.prog 107 [.pointer (some ⟨g1, 0, none⟩), .int .i64 x7, .slice a9 x8.length c10, .agg #[.int .i64 x11, .int .i64 x12, .int .i64 x13]] [⟨g1, 137, [.int .i64 x2, .slice a4 x3.length c5, .int .i64 x6]⟩] [] [Sl (eI .u8) 1 (.slice a4 x3.length c5) x3, Sl (eI .i64) 1 (.slice a9 x8.length c10) x8] lostCh (Option Addr × Nat) (fun (r : (List Int × Int × Int)) (g : (Option Addr × Nat)) => .slice g.1 r.1.length g.2) (fun (r : (List Int × Int × Int)) (_ : (Option Addr × Nat)) => [⟨g1, 137, [.int .i64 r.2.1, .slice a4 x3.length c5, .int .i64 r.2.2]⟩]) (fun (r : (List Int × Int × Int)) (g : (Option Addr × Nat)) => [Ro (eI .i64) 3 1 (.slice g.1 r.1.length g.2) r.1]) (fun (z : (Int × Int)) => [⟨g1, 137, [.int .i64 z.1, .slice a4 x3.length c5, .int .i64 z.2]⟩]) r := by
 refine qfy Tryz.func107 rfl Tryz.ntmps107 rfl hm (fun w => ?_)
 refine au [27,4,3,4,24,3] ?_
 intro g14
 refine au [5,0,2,3,4,1] ?_
 refine km ent121 rfl rfl rfl (fun x15 e15 => kG F g1 x2 x3 a4 c5 x6 300 x15 e15) (.cons 1 rfl .nil) .nil (.consF 0 rfl .nil) (fun x16 _ => ?_) (fun x15 e15 => ?_)
 exact az [25,8,26,8]
 intro _
 refine av [5,0,2,3,3,4,1,24,15,0,2,9] ?_ ?_
 intro _
 refine au [3,4,5,0,2,12,11,24,14] ?_
 exact qcJ (none, 0) (.inl rfl) (res1 rfl rfl) rfl (.cons 0 rfl .nil) (.cons 0 rfl .nil)
 intro _
 refine au [10,2,3,4,5,0,2] ?_
 refine qc (fun (((x31, x32, x33), (a29, c30)) : ((List Int × Int × Int) × (Option Addr × Nat))) => ([(0, .pointer (some ⟨g1, 0, none⟩)), (1, .int .i64 x7), (7, .pointer (some ⟨g14, 0, none⟩)), (9, .int .i64 x15.1), (10, .slice a29 x31.length c30)], [⟨g1, 137, [.int .i64 x32, .slice a4 x3.length c5, .int .i64 x33]⟩, ⟨g14, 26, [.int .i64 x11, .int .i64 x12, .int .i64 x13]⟩], [Ro (eI .i64) 3 1 (.slice a29 x31.length c30) x31], [Sl (eI .u8) 1 (.slice a4 x3.length c5) x3], kN F x3 x7 x12 x13 x15 x31 x32 x33)) ?_ ?_
 refine av [3,4,13,25,12,24,6,0,2,9] ?_ ?_
 intro _
 refine au [3,4,5,0,2,3,4,1,1,1,19] ?_
 refine km ent123 rfl rfl rfl (fun x72 e72 => qfl F g1 x15.2.1 x3 a4 c5 x15.2.2 (x8.length : Int) x72 e72) (.cons 0 rfl .nil) .nil (.consF 0 rfl .nil) (fun x73 _ => ?_) (fun x72 e72 => ?_)
 exact az [25,8,25,8,26,8]
 rintro ⟨a74, c75⟩
 refine qg qkw ?_
 rintro x76 e76 ⟨a77, c78⟩
 refine au [1,17,17,5,5,0,2,4,1,24,15,1] ?_
 refine qB 5 ((x76.2 : Int) == 0) [(0, .pointer (some ⟨g1, 0, none⟩)), (1, .int .i64 x7), (7, .pointer (some ⟨g14, 0, none⟩)), (9, .int .i64 x15.1), (10, .slice a77 x76.1.length c78), (41, .bool (((x76.2 : Int) == 0) && (decide ((x76.1.length : Int) ≤ x15.1))))] (fun h79 => ?_) (fun h79 => ?_) ?_
 refine qb (os := _) rfl (qq (k := 36) rfl h79 ?_)
 refine au [1,19,1,26,9,24,8] ?_
 refine qe (d := 41) (v := .bool (((x76.2 : Int) == 0) && (decide ((x76.1.length : Int) ≤ x15.1)))) rfl (by rw [h79]; simp only [Bool.true_and]) ?_
 exact az [0,24,1]
 refine qb (os := _) rfl (qp (k := 36) rfl h79 ?_)
 refine au [7,7,7,7,24,9] ?_
 refine qe (d := 41) (v := .bool (((x76.2 : Int) == 0) && (decide ((x76.1.length : Int) ≤ x15.1)))) rfl (by rw [h79]; simp only [Bool.false_and]) ?_
 exact az [0,24,1]
 refine qb (os := _) rfl (km ent108 rfl rfl rfl (fun x80 e80 => jr F (((x76.2 : Int) == 0) && (decide ((x76.1.length : Int) ≤ x15.1))) x80 e80) .nil .nil .nil (fun x81 _ => ?_) (fun x80 e80 => ?_))
 exact az [25,8,26,8]
 intro _
 refine au [0] ?_
 exact qa ((x76.1, x72.2.1, x72.2.2), (a77, c78))
 intro _
 refine au [10,24,14] ?_
 exact qa ((([] : List Int), x15.2.1, x15.2.2), (none, 0))
 rintro ⟨⟨x31, x32, x33⟩, ⟨a29, c30⟩⟩
 try dsimp only
 refine av [3,4,1,1,19,24,10,5,0,2,3,3,4,1,24,15,0,2,9] ?_ ?_
 intro _
 refine au [3,4,1,5,0,2,12,11] ?_
 exact qcJ (a29, c30) (.inl rfl) (res1 rfl rfl) rfl (.cons 0 rfl .nil) (.cons 0 rfl .nil)
 intro _
 refine au [10,2,3,4,5,0,2] ?_
 refine qc (fun (((x42, x43, x44), (a40, c41)) : ((List (Int × Int) × Int × Int) × (Option Addr × Nat))) => ([(0, .pointer (some ⟨g1, 0, none⟩)), (1, .int .i64 x7), (7, .pointer (some ⟨g14, 0, none⟩)), (10, .slice a29 x31.length c30), (12, .int .i64 (isub .i64 x15.1 (x31.length : Int))), (13, .slice a40 x42.length c41)], [⟨g1, 137, [.int .i64 x43, .slice a4 x3.length c5, .int .i64 x44]⟩, ⟨g14, 26, [.int .i64 x11, .int .i64 x12, .int .i64 x13]⟩], [Ro (eI .i64) 3 1 (.slice a29 x31.length c30) x31, Ro eS141 141 2 (.slice a40 x42.length c41) x42], [Sl (eI .u8) 1 (.slice a4 x3.length c5) x3], kO F x3 x7 x13 x15 x31 x42 x43 x44)) ?_ ?_
 refine av [3,4,13,25,12,24,6,0,2,9] ?_ ?_
 intro _
 refine au [4,1,1,13,25,12,1] ?_
 refine km ent124 rfl rfl rfl (fun x66 e66 => qgg F g1 x32 x3 a4 c5 x33 x7 x12 (isub .i64 x15.1 (x31.length : Int)) x66 e66) (.cons 0 rfl .nil) .nil (.consF 0 rfl .nil) (fun x67 _ => ?_) (fun x66 e66 => ?_)
 exact az [25,8,26,8]
 rintro ⟨a68, c69⟩
 refine au [5,0] ?_
 exact qa ((x66.1, x66.2.1, x66.2.2), (a68, c69))
 intro _
 refine au [10] ?_
 exact qgt (Int × Int) eS141 141 2 (qa ((([] : List (Int × Int)), x32, x33), (none, 0)))
 rintro ⟨⟨x42, x43, x44⟩, ⟨a40, c41⟩⟩
 try dsimp only
 refine au [3,4,1,27,15] ?_
 refine qg qkx ?_
 rintro x45 e45 ⟨a46, c47⟩
 refine au [1,17,17,5,5,0,2,3,4,1,24,15,1] ?_
 refine qB 5 ((x45.2 : Int) == 0) [(0, .pointer (some ⟨g1, 0, none⟩)), (1, .int .i64 x7), (7, .pointer (some ⟨g14, 0, none⟩)), (10, .slice a29 x31.length c30), (12, .int .i64 (isub .i64 x15.1 (x31.length : Int))), (14, .slice a46 x45.1.length c47), (71, .bool (((x45.2 : Int) == 0) && (decide ((x45.1.length : Int) ≤ (isub .i64 x15.1 (x31.length : Int))))))] (fun h48 => ?_) (fun h48 => ?_) ?_
 refine qb (os := _) rfl (qq (k := 66) rfl h48 ?_)
 refine au [1,19,1,26,9,24,8] ?_
 refine qe (d := 71) (v := .bool (((x45.2 : Int) == 0) && (decide ((x45.1.length : Int) ≤ (isub .i64 x15.1 (x31.length : Int)))))) rfl (by rw [h48]; simp only [Bool.true_and]) ?_
 exact az [0,24,1]
 refine qb (os := _) rfl (qp (k := 66) rfl h48 ?_)
 refine au [7,7,7,7,24,9] ?_
 refine qe (d := 71) (v := .bool (((x45.2 : Int) == 0) && (decide ((x45.1.length : Int) ≤ (isub .i64 x15.1 (x31.length : Int)))))) rfl (by rw [h48]; simp only [Bool.false_and]) ?_
 exact az [0,24,1]
 refine qb (os := _) rfl (km ent108 rfl rfl rfl (fun x49 e49 => jr F (((x45.2 : Int) == 0) && (decide ((x45.1.length : Int) ≤ (isub .i64 x15.1 (x31.length : Int))))) x49 e49) .nil .nil .nil (fun x50 _ => ?_) (fun x49 e49 => ?_))
 exact az [25,8,26,8]
 intro _
 refine au [0,2,3] ?_
 refine qw mixed [] [⟨g1, 137, [.int .i64 x43, .slice a4 x3.length c5, .int .i64 x44]⟩, ⟨g14, 26, [.int .i64 x11, .int .i64 x12, .int .i64 x13]⟩] [Sl (eI .u8) 1 (.slice a4 x3.length c5) x3] (.cons 0 rfl (.cons 0 rfl .nil)) (qC 0 rfl qu) 23 rfl ?_
 refine au [6,0,6,1,24,2,2] ?_
 refine kH 3 (.agg #[.int .i64 x43, .slice a4 x3.length c5]) rfl rfl rfl (zw (i := 0) rfl tf29 rfl rfl (by simp) rfl) ?_
 refine au [6,4,6,5,24,2,6,25,9,7,6,8,24,2,9,28,13,10,6,11,6,12,27,13,13,6,14,24,0,15] ?_
 refine qg qlD ?_
 rintro x54 e54 ⟨a55, c56⟩
 refine au [0,30,1,6,16,6,17,6,18,6,19,6,20,6,21,6,22,24,7] ?_
 refine qz ?_ (by intro c h; cases h)
 refine au [2,3,4,1,24,15] ?_
 refine km ent108 rfl rfl rfl (fun x57 e57 => jr F ((x54.2.2 : Int) == 0) x57 e57) .nil .nil .nil (fun x58 _ => ?_) (fun x57 e57 => ?_)
 exact az [25,8,26,8]
 intro _
 refine au [0,2,3,4,1,1,25,6,13,24,11,0,2,3,4,1,1,1] ?_
 refine qgr 3 rfl ?_
 refine au [33,14,33,11] ?_
 refine qy (vs := [.slice a29 x31.length c30, .slice a46 x45.1.length c47, .slice a55 x54.1.length c56]) (ys := ([(x31, (a29, c30)), (x45.1, (a46, c47)), (x54.1, (a55, c56))] : List (List Int × (Option Addr × Nat)))) kY (by decide) rfl Tryz.underlying22 tf37 rfl rfl rfl rfl rfl (by decide) (fun a59 c60 => qj2 (inn := iN37) ([x31, x45.1, x54.1] : List (List Int)) ([(a29, c30), (a46, c47), (a55, c56)] : List (Option Addr × Nat)) 0 rfl rfl (qT 2 rfl (qT 1 rfl (qT 0 rfl qbY))) ?_)
 refine au [33,12] ?_
 rintro x61 e61 ⟨a62, c63⟩
 refine au [5,0,2,3,4,1,33,13] ?_
 intro x64 e64 _
 refine au [26,3] ?_
 intro h65
 replace h65 := of_decide_eq_true h65
 refine qe (d := 10) (v := .slice a62 x64.length c63) rfl (by rw [h65] <;> rfl) (qe (d := 104) (v := .slice a62 x64.length c63) rfl (by rw [h65] <;> rfl) (qe (d := 105) (v := .slice a62 x64.length c63) rfl (by rw [h65] <;> rfl) ?_))
 refine au [0,2,3,4,1,5,0,2,12] ?_
 exact qcJ (a62, c63) (.inl rfl) (res1 rfl rfl) rfl (.cons 0 rfl .nil) (.cons 0 rfl .nil)
set_option maxHeartbeats 4000000 in
theorem qgf {F : Nat} {g1 : Nat} {x2 : Int} {x3 : List Int} {a4 : Option Addr} {c5 : Nat} {x6 : Int} {x7 : Int} {x8 : List Int} {a9 : Option Addr} {c10 : Nat} {x11 : Int} {x12 : Int} {x13 : Int} {r : (List Int × Bool × Int × Int)} (hm : yQ F x2 x3 x6 x7 x8 x11 x12 x13 = some r) :
    PureM Tryz.prog 83 [.pointer (some ⟨g1, 0, none⟩), .int .i64 x7, .slice a9 x8.length c10, .agg #[.int .i64 x11, .int .i64 x12, .int .i64 x13]] [⟨g1, 137, [.int .i64 x2, .slice a4 x3.length c5, .int .i64 x6]⟩] [] [Sl (eI .u8) 1 (.slice a4 x3.length c5) x3, Sl (eI .i64) 1 (.slice a9 x8.length c10) x8] (Option Addr × Nat) (fun g => .tuple #[.slice g.1 r.1.length g.2, .bool r.2.1]) (fun _ => [⟨g1, 137, [.int .i64 r.2.2.1, .slice a4 x3.length c5, .int .i64 r.2.2.2]⟩]) (fun g => [Ro (eI .i64) 3 1 (.slice g.1 r.1.length g.2) r.1]) := by
 refine qqm Tryz.func83 rfl Tryz.ntmps83 rfl hm (fun w => ?_)
 refine au [27,4,3,4,24,3] ?_
 intro g14
 refine au [25,0] ?_
 intro g15
 refine au [25,0] ?_
 intro g16
 refine au [0,2,3,4,29,10] ?_
 refine qpm rfl rfl ?_
 refine au [0,2,3,4,1,25,6,13,28,10,5,0,2,3,4,1,1,1,26,5] ?_
 refine km ent107 rfl rfl rfl (fun x17 e17 => qge F g1 x2 x3 a4 c5 x6 x7 x8 a9 c10 x11 x12 x13 x17 e17) (.cons 3 rfl .nil) .nil (.consF 0 rfl (.consF 1 rfl .nil)) (fun x18 _ => ?_) (fun x17 e17 => ?_)
 refine au [25,8] ?_
 refine qd2 ent106 rfl (.cons 2 rfl (.cons 1 rfl .nil)) (qgL _ _ _ _) ?_
 refine au [24,14] ?_
 exact qbf (none, 0) (resL (rs := [.cell 8 37, .cell 9 4]) rfl (.cell (i := 0) rfl tf37 rfl rfl (fun _ => rfl) rfl (.cell (i := 1) rfl tf4 rfl rfl (fun _ => rfl) rfl ResOk.nil)) rfl) (hB := fun h => by subst h; exact (.cons 2 rfl .nil)) (hR := fun h => by subst h; exact (.cons 0 rfl .nil))
 rintro ⟨a19, c20⟩
 refine au [27,5,0,2,3,4,26,6,28,11] ?_
 intro x21 e21 _
 refine au [24,15] ?_
 refine km ent108 rfl rfl rfl (fun x22 e22 => jr F ((x21 : Int) == 0) x22 e22) .nil .nil .nil (fun x23 _ => ?_) (fun x22 e22 => ?_)
 refine au [25,8] ?_
 refine qd2 ent106 rfl (.cons 2 rfl (.cons 1 rfl .nil)) (qgL _ _ _ _) ?_
 refine au [24,14] ?_
 exact qbf (none, 0) (resL (rs := [.cell 8 37, .cell 9 4]) rfl (.cell (i := 0) rfl tf37 rfl rfl (fun _ => rfl) rfl (.cell (i := 1) rfl tf4 rfl rfl (fun _ => rfl) rfl ResOk.nil)) rfl) (hB := fun h => by subst h; exact (.cons 2 rfl .nil)) (hR := fun h => by subst h; exact (.cons 0 rfl .nil))
 intro _
 refine au [0,2,3,4] ?_
 refine qD (cells := [.int .i64 0, .slice none 0 0, .bool false]) rfl st90 rfl (by kernel_rfl) rfl ?_
 refine au [24,3] ?_
 intro g24
 refine au [5,0,2,3,4,1,1,28,10,1,30,9,27,14,32,13] ?_
 rintro x25 e25 ⟨a26, c27⟩
 refine au [0,2] ?_
 refine qc (fun ((_, _) : (Unit × Unit)) => ([(0, .pointer (some ⟨g1, 0, none⟩)), (8, .pointer (some ⟨g15, 0, none⟩)), (9, .pointer (some ⟨g16, 0, none⟩)), (10, .int .i64 x6), (11, .pointer (some ⟨g24, 0, none⟩))], [⟨g24, 90, [.int .i64 x25.1, .slice a26 x25.2.1.length c27, .bool x25.2.2]⟩, ⟨g1, 137, [.int .i64 x17.2.1, .slice a4 x3.length c5, .int .i64 x17.2.2]⟩, ⟨g16, 4, [.bool false]⟩, ⟨g15, 37, [.slice a19 x17.1.length c20]⟩], [Ro (eI .u8) 5 1 (.slice a26 x25.2.1.length c27) x25.2.1, Ro (eI .i64) 3 1 (.slice a19 x17.1.length c20) x17.1], [Sl (eI .u8) 1 (.slice a4 x3.length c5) x3], yV F x3 x6 x17 x25)) ?_ ?_
 refine av [26,10] ?_ ?_
 intro h97
 refine qhk mixed [8, 9] [] [⟨g24, 90, [.int .i64 x25.1, .slice a26 x25.2.1.length c27, .bool x25.2.2]⟩, ⟨g1, 137, [.int .i64 x17.2.1, .slice a4 x3.length c5, .int .i64 x17.2.2]⟩, ⟨g16, 4, [.bool false]⟩, ⟨g15, 37, [.slice a19 x17.1.length c20]⟩, ⟨g14, 26, [.int .i64 x11, .int .i64 x12, .int .i64 x13]⟩] [Sl (eI .u8) 1 (.slice a4 x3.length c5) x3, Sl (eI .i64) 1 (.slice a9 x8.length c10) x8] (.cons 0 rfl (.cons 0 rfl (.cons 0 rfl (.cons 0 rfl (.cons 0 rfl .nil))))) (qC 0 rfl (qC 1 rfl qu)) 20 rfl ?_
 refine au [30,10,30,11,30,12] ?_
 refine qcI 3 (.bool x25.2.2) rfl rfl rfl (zw (i := 0) rfl tf4 rfl rfl (fun _ => rfl) rfl) rfl ?_
 refine au [30,13,33,15] ?_
 refine qf (d := 40) (v := .bool true) rfl (by rw [h97] <;> rfl) ?_
 refine au [34,0,34,1,34,2] ?_
 refine zF 9 _ rfl rfl rfl (qcr rfl inferInstance) rfl (qcI 10 (.int .i64 x25.1) rfl rfl rfl (zw (i := 0) rfl tf3 rfl rfl (fun _ => rfl) rfl) rfl ?_)
 refine au [34,3,34,4] ?_
 refine zF 13 _ rfl rfl rfl (qcr rfl inferInstance) rfl (qcI 14 (.int .i64 x17.2.2) rfl rfl rfl (zw (i := 1) rfl tf3 rfl rfl (fun _ => rfl) rfl) rfl (zF 15 _ rfl rfl rfl (qd4 rfl) rfl (zF 16 _ rfl rfl rfl (qd4 rfl) rfl (zF 17 _ rfl rfl rfl (qd4 rfl) rfl ?_))))
 refine au [34,5,24,0,19] ?_
 refine km ent108 rfl rfl rfl (fun x98 e98 => jr F ((x25.1 : Int) == (isub .i64 x17.2.2 x6)) x98 e98) .nil .nil .nil (fun x99 _ => ?_) (fun x98 e98 => ?_)
 refine au [25,8] ?_
 refine qll (l' := [(8, .pointer (some ⟨g15, 0, none⟩)), (9, .pointer (some ⟨g16, 0, none⟩))]) (qfL rfl rfl (qfL rfl rfl qm7)) ?_
 refine au [25,8] ?_
 refine qd2 ent106 rfl (.cons 3 rfl (.cons 2 rfl .nil)) (qgL _ _ _ _) ?_
 refine au [24,14] ?_
 exact qbf (none, 0) (resL (rs := [.cell 8 37, .cell 9 4]) rfl (.cell (i := 0) rfl tf37 rfl rfl (fun _ => rfl) rfl (.cell (i := 1) rfl tf4 rfl rfl (fun _ => rfl) rfl ResOk.nil)) rfl) (hB := fun h => by subst h; exact (.cons 3 rfl .nil)) (hR := fun h => by subst h; exact (.cons 0 rfl .nil))
 intro _
 refine au [0,34,6,24,7] ?_
 refine qnA ?_ (by intro c h; cases h)
 exact az [26,1]
 intro h97
 refine qhk mixed [8, 9] [] [⟨g24, 90, [.int .i64 x25.1, .slice a26 x25.2.1.length c27, .bool x25.2.2]⟩, ⟨g1, 137, [.int .i64 x17.2.1, .slice a4 x3.length c5, .int .i64 x17.2.2]⟩, ⟨g16, 4, [.bool false]⟩, ⟨g15, 37, [.slice a19 x17.1.length c20]⟩, ⟨g14, 26, [.int .i64 x11, .int .i64 x12, .int .i64 x13]⟩] [Sl (eI .u8) 1 (.slice a4 x3.length c5) x3, Sl (eI .i64) 1 (.slice a9 x8.length c10) x8] (.cons 0 rfl (.cons 0 rfl (.cons 0 rfl (.cons 0 rfl (.cons 0 rfl .nil))))) (qC 0 rfl (qC 1 rfl qu)) 20 rfl ?_
 refine au [30,10,30,11,30,12] ?_
 refine qcI 3 (.bool x25.2.2) rfl rfl rfl (zw (i := 0) rfl tf4 rfl rfl (fun _ => rfl) rfl) rfl ?_
 refine au [30,13,33,15] ?_
 refine qf (d := 40) (v := .bool false) rfl (by rw [h97] <;> rfl) (vm 6 rfl rfl rfl rfl (vm 7 rfl rfl rfl rfl (vm 8 rfl rfl rfl rfl (vm 9 rfl rfl rfl rfl (vm 10 rfl rfl rfl rfl (vm 11 rfl rfl rfl rfl (vm 12 rfl rfl rfl rfl (vm 13 rfl rfl rfl rfl (vm 14 rfl rfl rfl rfl (vm 15 rfl rfl rfl rfl (vm 16 rfl rfl rfl rfl (vm 17 rfl rfl rfl rfl ?_))))))))))))
 refine au [34,5,24,0,19] ?_
 refine km ent108 rfl rfl rfl (fun x100 e100 => jr F false x100 e100) .nil .nil .nil (fun x101 _ => ?_) (fun x100 e100 => ?_)
 refine au [25,8] ?_
 refine qll (l' := [(8, .pointer (some ⟨g15, 0, none⟩)), (9, .pointer (some ⟨g16, 0, none⟩))]) (qfL rfl rfl (qfL rfl rfl qm7)) ?_
 refine au [25,8] ?_
 refine qd2 ent106 rfl (.cons 3 rfl (.cons 2 rfl .nil)) (qgL _ _ _ _) ?_
 refine au [24,14] ?_
 exact qbf (none, 0) (resL (rs := [.cell 8 37, .cell 9 4]) rfl (.cell (i := 0) rfl tf37 rfl rfl (fun _ => rfl) rfl (.cell (i := 1) rfl tf4 rfl rfl (fun _ => rfl) rfl ResOk.nil)) rfl) (hB := fun h => by subst h; exact (.cons 3 rfl .nil)) (hR := fun h => by subst h; exact (.cons 0 rfl .nil))
 intro _
 refine au [0,34,6,24,7] ?_
 refine qnA ?_ (by intro c h; cases h)
 exact az [26,1]
 rintro ⟨_, _⟩
 try dsimp only
 refine qc (fun ((_, _) : (Unit × Unit)) => ([(8, .pointer (some ⟨g15, 0, none⟩)), (9, .pointer (some ⟨g16, 0, none⟩))], [⟨g1, 137, [.int .i64 x17.2.1, .slice a4 x3.length c5, .int .i64 x17.2.2]⟩, ⟨g16, 4, [.bool false]⟩, ⟨g15, 37, [.slice a19 x17.1.length c20]⟩], [Ro (eI .i64) 3 1 (.slice a19 x17.1.length c20) x17.1], [Sl (eI .u8) 1 (.slice a4 x3.length c5) x3], qcs F x17)) ?_ ?_
 refine au [3,4,1,25,6,13,13,23,1,0,2,14] ?_
 refine qk (fun ((x75, _) : (Int × Unit)) => ([(0, .pointer (some ⟨g1, 0, none⟩)), (8, .pointer (some ⟨g15, 0, none⟩)), (9, .pointer (some ⟨g16, 0, none⟩)), (10, .int .i64 x6), (11, .pointer (some ⟨g24, 0, none⟩)), (59, .int .i64 x25.1), (60, .int .i64 x75)], [⟨g24, 90, [.int .i64 x25.1, .slice a26 x25.2.1.length c27, .bool x25.2.2]⟩, ⟨g1, 137, [.int .i64 x17.2.1, .slice a4 x3.length c5, .int .i64 x17.2.2]⟩, ⟨g16, 4, [.bool false]⟩, ⟨g15, 37, [.slice a19 x17.1.length c20]⟩], [Ro (eI .u8) 5 1 (.slice a26 x25.2.1.length c27) x25.2.1, Ro (eI .i64) 3 1 (.slice a19 x17.1.length c20) x17.1], [Sl (eI .u8) 1 (.slice a4 x3.length c5) x3])) (fun k (s : (Int × Unit)) => zi F x3 x6 x17 x25 k s.1) (0, ()) F ?_
 intro k86
 rintro ⟨x75, _⟩
 try dsimp only
 refine ql (m' := yU F x3 x6 x17 x25 (zi F x3 x6 x17 x25 k86) x75) rfl ?_
 refine av [3,4,22,0,2,3,9] ?_ ?_
 intro _
 refine au [10,2,3,14,3,4,1,5,0,2] ?_
 refine qhk mixed [8, 9] [] [⟨g24, 90, [.int .i64 x25.1, .slice a26 x25.2.1.length c27, .bool x25.2.2]⟩, ⟨g1, 137, [.int .i64 x17.2.1, .slice a4 x3.length c5, .int .i64 x17.2.2]⟩, ⟨g16, 4, [.bool false]⟩, ⟨g15, 37, [.slice a19 x17.1.length c20]⟩] [Sl (eI .u8) 1 (.slice a4 x3.length c5) x3] (.cons 0 rfl (.cons 0 rfl (.cons 0 rfl (.cons 0 rfl .nil)))) (qC 0 rfl qu) 16 rfl ?_
 refine au [30,10,30,11,30,12] ?_
 refine qcI 3 (.agg #[.int .i64 x25.1, .slice a26 x25.2.1.length c27]) rfl rfl rfl (zw (i := 0) rfl tf29 rfl rfl (by simp) rfl) rfl ?_
 refine au [30,13,34,0,34,1,34,2] ?_
 refine qcI 9 (.agg #[.int .i64 x17.2.1, .slice a4 x3.length c5]) rfl rfl rfl (zw (i := 1) rfl tf29 rfl rfl (by simp) rfl) rfl (zF 10 _ rfl rfl rfl (qd4 rfl) rfl ?_)
 refine au [34,3,34,4,24,0,5,28,8] ?_
 intro x92 e92 _
 refine au [0,30,14,24,0,13,28,8] ?_
 intro x93 e93 _
 refine au [0,30,14] ?_
 refine zF 14 _ rfl rfl rfl (qd4 rfl) rfl ?_
 refine au [24,0,15] ?_
 refine km ent108 rfl rfl rfl (fun x94 e94 => jr F ((x92 : Int) == x93) x94 e94) .nil .nil .nil (fun x95 _ => ?_) (fun x94 e94 => ?_)
 refine au [25,8] ?_
 refine qll (l' := [(8, .pointer (some ⟨g15, 0, none⟩)), (9, .pointer (some ⟨g16, 0, none⟩))]) (qfL rfl rfl (qfL rfl rfl qm7)) ?_
 refine au [27,6,25,8,25,8,27,6,25,8] ?_
 refine qd2 ent106 rfl (.cons 3 rfl (.cons 2 rfl .nil)) (qgL _ _ _ _) ?_
 refine au [24,14] ?_
 exact qbf (none, 0) (resL (rs := [.cell 8 37, .cell 9 4]) rfl (.cell (i := 0) rfl tf37 rfl rfl (fun _ => rfl) rfl (.cell (i := 1) rfl tf4 rfl rfl (fun _ => rfl) rfl ResOk.nil)) rfl) (hB := fun h => by subst h; exact (.cons 3 rfl .nil)) (hR := fun h => by subst h; exact (.cons 0 rfl .nil))
 intro _
 refine au [0,30,14,24,7] ?_
 refine qnA ?_ (by intro c h; cases h)
 refine au [21,2,4,15,1,0] ?_
 exact qh (iadd .i64 x75 1, ())
 intro _
 exact az [24,4,16,16,24,5,26,1]
 rintro ⟨_, _⟩
 try dsimp only
 refine au [3,4,26,6,27,5,25,10,0,2,12] ?_
 exact qnB (.inl rfl) ent106 rfl (qrM _ _) (qbf (a19, c20) (resL (rs := [.cell 8 37, .cell 9 4]) rfl (.cell (i := 2) rfl tf37 rfl rfl (fun _ => rfl) rfl (.cell (i := 1) rfl tf4 rfl rfl (fun _ => rfl) rfl ResOk.nil)) rfl) (hB := fun h => by subst h; exact (.cons 0 rfl .nil)) (hR := fun h => by subst h; exact (.cons 0 rfl .nil)))
theorem qlL {F : Nat} {x1 : Int} {x2 : List Int} {a3 : Option Addr} {c4 : Nat} {x5 : Int} {x6 : Int} {x7 : List Int} {a8 : Option Addr} {c9 : Nat} {x10 : Int} {x11 : Int} {x12 : Int} {r : (List Int × Int × Int)} (hm : qb4 F x1 x2 x5 x6 x7 x10 x11 x12 = some r) :
    Pure Tryz.prog 57 [.agg #[.int .i64 x1, .slice a3 x2.length c4], .int .i64 x5, .int .i64 x6, .slice a8 x7.length c9, .agg #[.int .i64 x10, .int .i64 x11, .int .i64 x12]] [Sl (eI .u8) 1 (.slice a3 x2.length c4) x2, Sl (eI .i64) 1 (.slice a8 x7.length c9) x7] (Option Addr × Nat) (fun g => .tuple #[.slice g.1 r.1.length g.2, .int .i64 r.2.1, .int .i64 r.2.2]) (fun g => [Ro (eI .i64) 3 1 (.slice g.1 r.1.length g.2) r.1]) (fun _ => []) := by
 refine qi Tryz.func57 rfl Tryz.ntmps57 rfl hm (fun w => ?_)
 refine au [28,6,3,4,24,3] ?_
 intro g13
 refine au [24,3] ?_
 intro g14
 refine au [5,5,5,0,2,3,4,25,7,1] ?_
 refine qD (cells := [.int .i64 x1, .slice a3 x2.length c4, .int .i64 x5]) rfl st137 rfl (by kernel_rfl) rfl ?_
 refine au [24,3] ?_
 intro g15
 refine au [5,0,2,3,4,1,1,1,25,7] ?_
 refine zy qgf ?_
 rintro x16 e16 ⟨a17, c18⟩
 refine av [1,17,17,5,5,0,2,3,3,4,1,25,4,0,2,9] ?_ ?_
 intro _
 refine au [3,4,5,5,5,0,2,12,11,24,14] ?_
 exact qj (none, 0)
 intro _
 refine au [10,2,3] ?_
 refine qw mixed [] [⟨g15, 137, [.int .i64 x16.2.2.1, .slice a3 x2.length c4, .int .i64 x16.2.2.2]⟩, ⟨g14, 26, [.int .i64 x10, .int .i64 x11, .int .i64 x12]⟩, ⟨g13, 29, [.int .i64 x1, .slice a3 x2.length c4]⟩] [Sl (eI .u8) 1 (.slice a3 x2.length c4) x2, Sl (eI .i64) 1 (.slice a8 x7.length c9) x7] (.cons 0 rfl (.cons 0 rfl (.cons 0 rfl .nil))) (qC 0 rfl (qC 1 rfl qu)) 8 rfl ?_
 refine au [6,0,6,1,6,2,24,2,3,25,9,4,6,5,6,6,6,7,24,7] ?_
 refine qz ?_ (by intro c h; cases h)
 refine au [2,12] ?_
 exact qj (a17, c18)
set_option maxHeartbeats 4000000 in
theorem qkv {F : Nat} {x1 : Int} {x2 : Int} {x3 : Int} {x4 : Int} {x5 : Int} {x6 : List Int} {a7 : Option Addr} {c8 : Nat} {r : (List (List Int) × Bool)} (hm : qeX F x1 x2 x3 x4 x5 x6 = some r) :
    Pure Tryz.prog 30 [.agg #[.int .i64 x1, .int .i64 x2, .int .i64 x3, .int .i64 x4, .int .i64 x5, .slice a7 x6.length c8]] [Sl (eI .u8) 1 (.slice a7 x6.length c8) x6] (Option Addr × (Nat × List (Option Addr × Nat))) (fun g => .tuple #[.slice g.1 r.1.length g.2.1, .bool r.2]) (fun g => [RoN eN37 rN37 37 1 (.slice g.1 r.1.length g.2.1) r.1 g.2.2 []]) (fun _ => []) := by
 refine qi Tryz.func30 rfl Tryz.ntmps30 rfl hm (fun w => ?_)
 refine au [25,5,3,4,24,3] ?_
 intro g9
 refine au [5,5,0,2,3,4,5,0,2] ?_
 refine qc (fun (((x261, x262), (a259, c260)) : ((List (List Int) × Int) × (Option Addr × (Nat × List (Option Addr × Nat))))) => ([(1, .pointer (some ⟨g9, 0, none⟩)), (2, .slice a259 x261.length c260.1), (4, .int .i64 x262)], [⟨g9, 31, [.int .i64 x1, .int .i64 x2, .int .i64 x3, .int .i64 x4, .int .i64 x5, .slice a7 x6.length c8]⟩], [RoN eN37 rN37 37 1 (.slice a259 x261.length c260.1) x261 c260.2 []], [Sl (eI .u8) 1 (.slice a7 x6.length c8) x6], qdn F x5 x261 x262)) ?_ ?_
 refine au [3,4,13,23,1,0,2,14,34,7] ?_
 refine qk (fun (((x348, x349, x350), (a346, c347)) : ((List (List Int) × Int × Int) × (Option Addr × (Nat × List (Option Addr × Nat))))) => ([(1, .pointer (some ⟨g9, 0, none⟩)), (2, .slice a346 x348.length c347.1), (4, .int .i64 x349), (14, .int .i64 x1), (15, .int .i64 x350)], [⟨g9, 31, [.int .i64 x1, .int .i64 x2, .int .i64 x3, .int .i64 x4, .int .i64 x5, .slice a7 x6.length c8]⟩], [RoN eN37 rN37 37 1 (.slice a346 x348.length c347.1) x348 c347.2 []], [Sl (eI .u8) 1 (.slice a7 x6.length c8) x6])) (fun k (s : ((List (List Int) × Int × Int) × (Option Addr × (Nat × List (Option Addr × Nat))))) => kJ F x1 x2 x3 x4 x5 x6 k s.1) ((([] : List (List Int)), 0, 0), (none, (0, ([] : List (Option Addr × Nat))))) F ?_
 intro k431
 rintro ⟨⟨x348, x349, x350⟩, ⟨a346, c347⟩⟩
 try dsimp only
 refine ql (m' := qbM F x1 x2 x3 x4 x5 x6 (kJ F x1 x2 x3 x4 x5 x6 k431) x348 x349 x350) rfl ?_
 refine av [3,4,22,0,2,3,9] ?_ ?_
 intro _
 refine au [10,2] ?_
 refine qc (fun (((x472, x473), (a470, c471)) : ((List (List Int) × Int) × (Option Addr × (Nat × List (Option Addr × Nat))))) => ([(1, .pointer (some ⟨g9, 0, none⟩)), (2, .slice a470 x472.length c471.1), (4, .int .i64 x473), (14, .int .i64 x1), (15, .int .i64 x350)], [⟨g9, 31, [.int .i64 x1, .int .i64 x2, .int .i64 x3, .int .i64 x4, .int .i64 x5, .slice a7 x6.length c8]⟩], [RoN eN37 rN37 37 1 (.slice a470 x472.length c471.1) x472 c471.2 []], [Sl (eI .u8) 1 (.slice a7 x6.length c8) x6], jW F (kJ F x1 x2 x3 x4 x5 x6 k431) x350 x472 x473)) ?_ ?_
 refine au [14,3,4,1,5,0,2,3,4,25,2,1,1] ?_
 refine qg qmW ?_
 intro x474 e474 _
 refine av [1,17,17,17,5,5,5,0,2,3,3,4,1,25,4,0,2,9] ?_ ?_
 intro _
 refine au [3,4,5,5,0,2,12,11,20,11,11,20,11,26,11] ?_
 exact qj (none, (0, ([] : List (Option Addr × Nat))))
 intro _
 refine av [10,2,3,4,5,0,2,3,3,4,1,24,6,0,2,9] ?_ ?_
 intro _
 refine au [4,1,1,1,24,10] ?_
 refine qmD (j := 0) rfl UnF.u inferInstance rfl rfl rfl rfl ?_
 intro x482 e482 g483 h484 g485 h486
 refine qj3 (i := 0) rfl h484 (List.not_mem_nil) (qiJ (j := 1) (p := (x482, g483)) kY rfl rfl tf37 rfl h486 h484 rfl (fun _ => rfl) rfl rfl ?_)
 refine au [5,0,2,3,4,13,25,2,25,0] ?_
 intro g487
 refine au [24,11,0,2,3,4,1,13,24,11,0,2,3,4,13,25,7,1,1,1,25,2,34,8] ?_
 rintro x488 e488 ⟨a489, c490⟩
 refine au [1,17,17,17,5,5,5,0,2,3,3] ?_
 refine qiC (rin := rN37) (p := (x482, g483)) (i := 1) (k := 0) (.cons 1 rfl .nil) rfl rfl h484 ?_
 refine av [4,1,25,3,0,2,9] ?_ ?_
 intro _
 refine au [3,4,5,5,0,2,12,11,20,11,11,20,11,26,11] ?_
 exact qj (none, (0, ([] : List (Option Addr × Nat))))
 intro _
 refine au [10,2,4,1,1] ?_
 refine qy (vs := [.slice a489 x488.1.length c490]) (ys := ([(x488.1, (a489, c490))] : List (List Int × (Option Addr × Nat)))) kY (by decide) rfl Tryz.underlying22 tf37 rfl rfl rfl rfl rfl (by decide) (fun a492 c493 => qd0 (rin := rN37) (i := 0) ([x488.1] : List (List Int)) ([(a489, c490)] : List (Option Addr × Nat)) rfl rfl (.cons 1 rfl .nil) ?_)
 refine au [34,9] ?_
 intro x494 e494 a495 c496
 refine au [1,5,5,0,21] ?_
 exact qa ((x494, x488.2.1), (a495, (c496, (c347.2 ++ ([(a489, c490)] : List (Option Addr × Nat))))))
 intro _
 refine au [10,2,3,4,13,25,2,25,0] ?_
 intro g498
 refine au [24,11,0,2,3,4,1,13,24,11,0,2,3,4,13,25,7,1,1,1,25,2,27,15,34,8] ?_
 rintro x499 e499 ⟨a500, c501⟩
 refine av [1,17,17,17,5,5,5,0,2,3,3,4,1,25,3,0,2,9] ?_ ?_
 intro _
 refine au [3,4,5,5,0,2,12,11,20,11,11,20,11,26,11] ?_
 exact qj (none, (0, ([] : List (Option Addr × Nat))))
 intro _
 refine au [10,2,4,1,1] ?_
 refine qy (vs := [.slice a500 x499.1.length c501]) (ys := ([(x499.1, (a500, c501))] : List (List Int × (Option Addr × Nat)))) kY (by decide) rfl Tryz.underlying22 tf37 rfl rfl rfl rfl rfl (by decide) (fun a503 c504 => qd0 (rin := rN37) (i := 0) ([x499.1] : List (List Int)) ([(a500, c501)] : List (Option Addr × Nat)) rfl rfl (.cons 0 rfl .nil) (qiF kY rfl UnF.u inferInstance rfl rfl rfl rfl (.cons 2 rfl (.cons 0 rfl .nil)) rfl rfl ?_))
 intro x505 e505 a506 c507
 refine au [1,5,5,0,21] ?_
 exact qa ((x505, x499.2.1), (a506, (c507, (c347.2 ++ ([(a500, c501)] : List (Option Addr × Nat))))))
 rintro ⟨⟨x472, x473⟩, ⟨a470, c471⟩⟩
 try dsimp only
 refine au [4,15,1,0] ?_
 exact qh ((x472, x473, iadd .i64 x350 1), (a470, c471))
 intro _
 refine au [24,4,16,16,24,5] ?_
 exact qa ((x348, x349), (a346, c347))
 rintro ⟨⟨x261, x262⟩, ⟨a259, c260⟩⟩
 try dsimp only
 refine au [3] ?_
 refine qw mixed [] [⟨g9, 31, [.int .i64 x1, .int .i64 x2, .int .i64 x3, .int .i64 x4, .int .i64 x5, .slice a7 x6.length c8]⟩] [Sl (eI .u8) 1 (.slice a7 x6.length c8) x6] (.cons 0 rfl .nil) (qC 0 rfl qu) 8 rfl ?_
 refine au [6,0,6,1,24,2,2,24,2,3,25,9,4,6,5,6,6,6,7,24,7] ?_
 refine qz ?_ (by intro c h; cases h)
 refine au [2,12] ?_
 exact qj (a259, c260)
theorem qel {F : Nat} {x1 : List Int} {a2 : Option Addr} {c3 : Nat} {x4 : List Int} {a5 : Option Addr} {c6 : Nat} {r : Bool} (hm : kX F x1 x4 = some r) :
    Pure Tryz.prog 31 [.slice a2 x1.length c3, .slice a5 x4.length c6] [Sl (eI .u8) 1 (.slice a2 x1.length c3) x1, Sl (eI .u8) 1 (.slice a5 x4.length c6) x4] Unit (fun _ => .bool r) (fun _ => []) (fun _ => []) := by
 refine qi Tryz.func31 rfl Tryz.ntmps31 rfl hm (fun w => ?_)
 refine av [24,13,3,4,5,0,2,3,3,4,1,19,1,19,25,3,0,2,9] ?_ ?_
 intro _
 exact az [3,4,5,0,2,12,11,18]
 intro _
 refine au [10,2] ?_
 refine qc (fun ((_, _) : (Unit × Unit)) => ([], [], [], [], qaC F)) ?_ ?_
 refine au [3,4,1,19,1,0,2,14] ?_
 refine qk (fun ((x154, _) : (Int × Unit)) => ([(0, .slice a2 x1.length c3), (1, .slice a5 x4.length c6), (12, .int .i64 (x1.length : Int)), (13, .int .i64 x154)], [], [], [Sl (eI .u8) 1 (.slice a2 x1.length c3) x1, Sl (eI .u8) 1 (.slice a5 x4.length c6) x4])) (fun k (s : (Int × Unit)) => zb F x1 x4 k s.1) (0, ()) F ?_
 intro k191
 rintro ⟨x154, _⟩
 try dsimp only
 refine ql (m' := kn F x1 x4 (zb F x1 x4 k191) x154) rfl ?_
 refine av [3,4,22,0,2,3,9] ?_ ?_
 intro _
 refine au [10,2,3,14,3,4,1,5,0,2,3,30,5] ?_
 intro x218 e218 b219 o220 h221
 replace h221 : a2 = some ⟨b219, o220, none⟩ := h221
 refine au [34,10] ?_
 intro x222 e222 b223 o224 h225
 replace h225 : a5 = some ⟨b223, o224, none⟩ := h225
 refine qw mixed [] [] [qt b223 (o224 + x154.toNat * 1) ((eI .u8) x222), qt b219 (o220 + x154.toNat * 1) ((eI .u8) x218), Sl (eI .u8) 1 (.slice a2 x1.length c3) x1, Sl (eI .u8) 1 (.slice a5 x4.length c6) x4] .nil (qC 0 rfl (qC 1 rfl (qC 2 rfl (qC 3 rfl qu)))) 9 rfl ?_
 refine au [6,0,6,1] ?_
 refine qf (d := 16) (v := .slice (some ⟨b219, o220, none⟩) x1.length c3) rfl (by rw [h221] <;> rfl) (qm 2 (.pointer (some ⟨b219, (o220 + x154.toNat * 1), none⟩)) rfl rfl rfl (yq Tryz.underlying27 tf5 rfl rfl (qJ e218).1 (kj e218)) (qf (d := 16) (v := .slice a2 x1.length c3) rfl (by rw [h221] <;> rfl) (qK 3 (.int .u8 x218) [] rfl rfl rfl (zx (j := 1) rfl tf5 rfl rfl (fun _ => rfl) rfl) ?_)))
 refine au [6,4,6,5] ?_
 refine qf (d := 20) (v := .slice (some ⟨b223, o224, none⟩) x4.length c6) rfl (by rw [h225] <;> rfl) (qm 6 (.pointer (some ⟨b223, (o224 + x154.toNat * 1), none⟩)) rfl rfl rfl (yq Tryz.underlying27 tf5 rfl rfl (qJ e222).1 (kj e222)) (qf (d := 20) (v := .slice a5 x4.length c6) rfl (by rw [h225] <;> rfl) (qK 7 (.int .u8 x222) [] rfl rfl rfl (zx (j := 0) rfl tf5 rfl rfl (fun _ => rfl) rfl) ?_)))
 refine au [6,8,24,7] ?_
 refine qz ?_ (by intro c h; cases h)
 refine av [2,9] ?_ ?_
 intro _
 exact az [3,4,5,0,2,12,20,11,11,20,11,18]
 intro _
 refine au [10,21,2,4,15,1,0] ?_
 exact qh (iadd .i64 x154 1, ())
 intro _
 exact az [24,4,16,16,24,5,26,1]
 rintro ⟨_, _⟩
 try dsimp only
 exact az [3,4,5,0,2,12,18]
theorem qlF {F : Nat} {x1 : Int} {x2 : Int} {x3 : Int} {x4 : Int} {x5 : Int} {x6 : List Int} {a7 : Option Addr} {c8 : Nat} {r : (List (List Int) × Int)} (hm : qb3 F x1 x2 x3 x4 x5 x6 = some r) :
    Pure Tryz.prog 10 [.agg #[.int .i64 x1, .int .i64 x2, .int .i64 x3, .int .i64 x4, .int .i64 x5, .slice a7 x6.length c8]] [Sl (eI .u8) 1 (.slice a7 x6.length c8) x6] (Option Addr × (Nat × List (Option Addr × Nat))) (fun g => .tuple #[.agg #[.slice g.1 r.1.length g.2.1], .int .i64 r.2]) (fun g => [RoN eN37 rN37 37 1 (.slice g.1 r.1.length g.2.1) r.1 g.2.2 []]) (fun _ => []) := by
 refine qi Tryz.func10 rfl Tryz.ntmps10 rfl hm (fun w => ?_)
 refine au [25,5,3,4,24,3] ?_
 intro g9
 refine au [25,0] ?_
 intro g10
 refine au [5,0,2,3,3,4,25,7] ?_
 refine qg qkt ?_
 intro x13 e13 _
 refine av [5,0,2,3,4,1,25,3,0,2,9] ?_ ?_
 intro _
 refine au [3,4] ?_
 refine qD (cells := [.slice none 0 0]) rfl st24 rfl (by kernel_rfl) rfl ?_
 refine au [1,24,11,5,0,2,12,11,26,11] ?_
 exact qN (none, (0, ([] : List (Option Addr × Nat)))) (resL (rs := [.cell 2 24, .tmp 3]) rfl (.cell (i := 0) rfl tf24 rfl rfl (by simp) rfl (.tmp rfl ResOk.nil)) rfl) (fun h => by subst h; exact (.cons 0 rfl .nil))
 intro _
 refine au [10,2,3,4,25,7] ?_
 refine qg qkv ?_
 rintro x14 e14 ⟨a15, c16⟩
 refine av [1,17,17,5,5,0,2,3,3,4,1,25,4,0,2,9] ?_ ?_
 intro _
 refine au [3,4] ?_
 refine qD (cells := [.slice none 0 0]) rfl st24 rfl (by kernel_rfl) rfl ?_
 refine au [24,11,5,0,2,12,11,26,11] ?_
 exact qN (none, (0, ([] : List (Option Addr × Nat)))) (resL (rs := [.cell 2 24, .tmp 3]) rfl (.cell (i := 0) rfl tf24 rfl rfl (by simp) rfl (.tmp rfl ResOk.nil)) rfl) (fun h => by subst h; exact (.cons 0 rfl .nil))
 intro _
 refine au [10,2,3,4,1] ?_
 refine qD (cells := [.slice a15 x14.1.length c16.1]) rfl st24 rfl (by kernel_rfl) rfl ?_
 refine au [25,0] ?_
 intro g18
 refine au [24,11,0,2,3,3,4,25,2,13,26,5,29,0] ?_
 rintro x28 e28 ⟨a29, c30⟩
 refine au [1,17,17,25,0] ?_
 intro g31
 refine au [24,11,5,0,2,3,4,1,25,3,1] ?_
 refine q7 9 (fun ((x34, _) : (Bool × Unit)) => ([(2, .pointer (some ⟨g10, 0, none⟩)), (7, .pointer (some ⟨g18, 0, none⟩)), (44, .bool x34)], [⟨g18, 24, [.slice a15 x14.1.length c16.1]⟩, ⟨g10, 24, [.slice none 0 0]⟩], [RoN eN37 rN37 37 1 (.slice a15 x14.1.length c16.1) x14.1 c16.2 []], [], qcl F x14 x34)) ?_ ?_
 refine qb (os := _) rfl ?_
 refine av [25,11] ?_ ?_
 intro h32
 refine qq (k := 35) rfl h32 ?_
 refine au [7,7,7,7,7,7,7,7,24,8,0] ?_
 exact qa (true, ())
 intro h32
 refine qp (k := 35) rfl h32 ?_
 refine au [13,13,23,13,13,28,10] ?_
 refine qg qel ?_
 intro x36 e36 _
 refine au [25,4,24,9,0] ?_
 exact qa ((!x36), ())
 rintro ⟨x34, _⟩
 try dsimp only
 refine qb (os := _) rfl ?_
 refine av [0,2,9] ?_ ?_
 intro _
 refine au [3,4] ?_
 refine qD (cells := [.slice none 0 0]) rfl st24 rfl (by kernel_rfl) rfl ?_
 refine au [25,10,5,0,2,12,11,26,11] ?_
 exact qN (none, (0, ([] : List (Option Addr × Nat)))) (resL (rs := [.cell 2 24, .tmp 3]) rfl (.cell (i := 1) rfl tf24 rfl rfl (by simp) rfl (.tmp rfl ResOk.nil)) rfl) (fun h => by subst h; exact (.cons 0 rfl .nil))
 intro _
 refine au [10,2,3,4,25,2,25,10,5,0,2,12] ?_
 exact qN (a15, c16) (resL (rs := [.cell 2 24, .tmp 3]) rfl (.cell (i := 1) rfl tf24 rfl rfl (by simp) rfl (.tmp rfl ResOk.nil)) rfl) (fun h => by subst h; exact (.cons 0 rfl .nil))
theorem qlG {F : Nat} {x1 : List (List Int)} {a2 : Option Addr} {c3 : Nat} {s3 : List (Option Addr × Nat)} {x4 : Int} {x5 : Int} {x6 : Int} {r : (List Int × List Int × Int)} (hm : qdc F x1 x4 x5 x6 = some r) :
    Pure Tryz.prog 11 [.agg #[.slice a2 x1.length c3], .agg #[.int .i64 x4, .int .i64 x5, .int .i64 x6]] [SlN eN37 iN37 1 (.slice a2 x1.length c3) x1 s3] ((Option Addr × Nat) × (Option Addr × Nat)) (fun g => .tuple #[.slice g.1.1 r.1.length g.1.2, .slice g.2.1 r.2.1.length g.2.2, .int .i64 r.2.2]) (fun g => [Ro (eI .i64) 3 1 (.slice g.1.1 r.1.length g.1.2) r.1, Ro (eI .i64) 3 1 (.slice g.2.1 r.2.1.length g.2.2) r.2.1]) (fun _ => []) := by
 refine qi Tryz.func11 rfl Tryz.ntmps11 rfl hm (fun w => ?_)
 refine au [24,13,3,4,24,3] ?_
 intro g7
 refine au [24,3] ?_
 intro g8
 refine au [5,5,5,0,2,3,4,25,7,25,2,33,1] ?_
 rintro x9 e9 ⟨⟨a10, c11⟩, ⟨a12, c13⟩, ⟨a14, c15⟩, g16⟩
 refine av [1,17,17,5,5,0,2,3,3,4,1,25,3,0,2,9] ?_ ?_
 intro _
 refine au [3,4,1,5,5,5,0,2,12,11,24,14,24,14] ?_
 exact qj ((none, 0), (none, 0))
 intro _
 refine au [10,2,3] ?_
 refine qw mixed [] [⟨g16, 66, [.int .i64 x9.1, .int .i64 x9.2.1, .int .i64 x9.2.2.1, .int .i64 x9.2.2.2.1, .int .i64 x9.2.2.2.2.1, .slice a10 x9.2.2.2.2.2.1.length c11, .slice a12 x9.2.2.2.2.2.2.1.length c13, .slice a14 x9.2.2.2.2.2.2.2.1.length c15]⟩, ⟨g8, 26, [.int .i64 x4, .int .i64 x5, .int .i64 x6]⟩, ⟨g7, 24, [.slice a2 x1.length c3]⟩] [SlN eN37 iN37 1 (.slice a2 x1.length c3) x1 s3] (.cons 0 rfl (.cons 0 rfl (.cons 0 rfl .nil))) (qC 0 rfl qu) 11 rfl ?_
 refine au [6,0,6,1,24,2,2,25,9,3,6,4,6,5,24,2,6,25,9,7,6,8,6,9,6,10,24,7] ?_
 refine qz ?_ (by intro c h; cases h)
 refine au [2,12] ?_
 exact qj ((a12, c13), (a14, c15))
theorem qlz {F : Nat} {x1 : Int} {x2 : Int} {x3 : Int} {r : Bool} (hm : zE F x1 x2 x3 = some r) :
    Pure Tryz.prog 40 [.int .i64 x1, .int .i64 x2, .int .i64 x3] [] Unit (fun _ => .bool r) (fun _ => []) (fun _ => []) := by
 refine qi Tryz.func40 rfl Tryz.ntmps40 rfl hm (fun w => ?_)
 refine au [25,13,3,4,5,0,2,3,4,1,1,26,2,1] ?_
 refine qB 4 (decide (x2 ≤ x1)) [(14, .bool ((decide (x2 ≤ x1)) && (decide (x1 ≤ x3))))] (fun h4 => ?_) (fun h4 => ?_) ?_
 refine qb (os := _) rfl (qq (k := 10) rfl h4 ?_)
 refine au [1,1,26,9,24,8] ?_
 refine qe (d := 14) (v := .bool ((decide (x2 ≤ x1)) && (decide (x1 ≤ x3)))) rfl (by rw [h4]; simp only [Bool.true_and]) ?_
 exact az [0,24,1]
 refine qb (os := _) rfl (qp (k := 10) rfl h4 ?_)
 refine au [7,7,7,24,9] ?_
 refine qe (d := 14) (v := .bool ((decide (x2 ≤ x1)) && (decide (x1 ≤ x3)))) rfl (by rw [h4]; simp only [Bool.false_and]) ?_
 exact az [0,24,1]
 refine qb (os := _) rfl ?_
 exact az [5,0,2,12,18]
set_option maxHeartbeats 4000000 in
theorem qhR {F : Nat} {x1 : List (List Int)} {a2 : Option Addr} {c3 : Nat} {s3 : List (Option Addr × Nat)} {r : Int} (hm : qb5 F x1 = some r) :
    Pure Tryz.prog 19 [.agg #[.slice a2 x1.length c3]] [SlN eN37 iN37 1 (.slice a2 x1.length c3) x1 s3] Unit (fun _ => .int .i64 r) (fun _ => []) (fun _ => []) := by
 refine qi Tryz.func19 rfl Tryz.ntmps19 rfl hm (fun w => ?_)
 refine au [25,5,3,4,24,3] ?_
 intro g4
 refine av [5,0,2,3,4,13,23,19,5,0,2,3,3,4,1,24,6,0,2,9] ?_ ?_
 intro _
 exact az [3,4,5,0,2,12,11,18]
 intro _
 refine au [10,2,3,4,5,0,2] ?_
 refine qc (fun ((x3744, _) : (Int × Unit)) => ([(4, .int .i64 x3744)], [], [], [], qbS F x3744)) ?_ ?_
 refine au [3,4,5,0,2,14] ?_
 refine qk (fun (((x4992, x4993), _) : ((Int × Int) × Unit)) => ([(1, .pointer (some ⟨g4, 0, none⟩)), (3, .int .i64 (x1.length : Int)), (4, .int .i64 x4992), (5, .int .i64 x4993)], [⟨g4, 24, [.slice a2 x1.length c3]⟩], [], [SlN eN37 iN37 1 (.slice a2 x1.length c3) x1 s3])) (fun k (s : ((Int × Int) × Unit)) => qO F x1 k s.1) ((0, 0), ()) F ?_
 intro k6239
 rintro ⟨⟨x4992, x4993⟩, _⟩
 try dsimp only
 refine ql (m' := vN F x1 (qO F x1 k6239) x4992 x4993) rfl ?_
 refine av [3,3,4,1,1,22,0,2,9] ?_ ?_
 intro _
 refine au [10,2] ?_
 refine qc (fun ((x6862, _) : (Int × Unit)) => ([(1, .pointer (some ⟨g4, 0, none⟩)), (3, .int .i64 (x1.length : Int)), (4, .int .i64 x6862), (5, .int .i64 x4993)], [⟨g4, 24, [.slice a2 x1.length c3]⟩], [], [SlN eN37 iN37 1 (.slice a2 x1.length c3) x1 s3], zV F (qO F x1 k6239) x4993 x6862)) ?_ ?_
 refine au [14,3,4,5,0,2,14] ?_
 refine qk (fun (((x7069, x7070), _) : ((Int × Int) × Unit)) => ([(1, .pointer (some ⟨g4, 0, none⟩)), (3, .int .i64 (x1.length : Int)), (4, .int .i64 x7069), (5, .int .i64 x4993), (6, .int .i64 x7070)], [⟨g4, 24, [.slice a2 x1.length c3]⟩], [], [SlN eN37 iN37 1 (.slice a2 x1.length c3) x1 s3])) (fun k (s : ((Int × Int) × Unit)) => q5 F (qO F x1 k6239) x1 x4993 k s.1) ((x4992, 0), ()) F ?_
 intro k7277
 rintro ⟨⟨x7069, x7070⟩, _⟩
 try dsimp only
 refine ql (m' := vO F (qO F x1 k6239) x1 x4993 (q5 F (qO F x1 k6239) x1 x4993 k7277) x7069 x7070) rfl ?_
 refine au [3,3,4,1,13,23,1,27,10] ?_
 intro x7283 e7283 g7286 b7284 o7285
 refine av [25,1,19,22,0,2,9] ?_ ?_
 intro _
 refine au [10,2,3,14,3,3,4,13,23,1] ?_
 refine qiI (j := 2) kY (by decide) rfl UnF.u inferInstance rfl rfl rfl rfl ?_
 intro x7394 e7394 g7397 b7395 o7396
 refine au [25,1,1,26,14] ?_
 intro x7398 e7398 b7399 o7400
 refine au [25,1,1,24,10,26,15] ?_
 intro x7401 e7401 _
 refine av [25,4,0,2,9] ?_ ?_
 intro _
 exact az [3,4,5,0,2,12,11,20,11,11,20,20,11,11,20,11,18]
 intro _
 refine au [10,2,3] ?_
 refine qc (fun ((x7461, _) : (Bool × Unit)) => ([(1, .pointer (some ⟨g4, 0, none⟩)), (3, .int .i64 (x1.length : Int)), (4, .int .i64 x7069), (5, .int .i64 x4993), (6, .int .i64 x7070), (60, .bool x7461)], [⟨g4, 24, [.slice a2 x1.length c3]⟩], [], [SlN eN37 iN37 1 (.slice a2 x1.length c3) x1 s3], zW F (q5 F (qO F x1 k6239) x1 x4993 k7277) x7069 x7070 x7461)) ?_ ?_
 refine av [26,10] ?_ ?_
 intro h7463
 refine qfD (j := 5) kY (by decide) rfl ?_
 intro x7464 e7464 g7468 b7465 o7466 h7467
 replace h7467 : a2 = some ⟨b7465, o7466, none⟩ := h7467
 refine au [28,5] ?_
 intro x7469 e7469 b7470 o7471 h7472
 replace h7472 : g7468.1 = some ⟨b7470, o7471, none⟩ := h7472
 refine qfD (j := 8) kY (by decide) rfl ?_
 intro x7473 e7473 g7477 b7474 o7475 h7476
 replace h7476 : a2 = some ⟨b7474, o7475, none⟩ := h7476
 refine au [28,5] ?_
 intro x7478 e7478 b7479 o7480 h7481
 replace h7481 : g7477.1 = some ⟨b7479, o7480, none⟩ := h7481
 refine qw mixed [] [⟨g4, 24, [.slice a2 x1.length c3]⟩] [qt b7479 (o7480 + (isub .i64 x7070 1).toNat * 1) ((eI .i64) x7478), qt b7474 (o7475 + x4993.toNat * 1) (eN37 (x7473, g7477)), Sl (eI .i64) 1 (.slice g7477.1 x7473.length g7477.2) x7473, qt b7470 (o7471 + x7070.toNat * 1) ((eI .i64) x7469), qt b7465 (o7466 + x4993.toNat * 1) (eN37 (x7464, g7468)), Sl (eI .i64) 1 (.slice g7468.1 x7464.length g7468.2) x7464, qt b7399 o7400 ((eI .i64) x7398), qt b7395 o7396 (eN37 (x7394, g7397)), Sl (eI .i64) 1 (.slice g7397.1 x7394.length g7397.2) x7394, qt b7284 o7285 (eN37 (x7283, g7286)), Sl (eI .i64) 1 (.slice g7286.1 x7283.length g7286.2) x7283, SlN eN37 iN37 1 (.slice a2 x1.length c3) x1 s3] (.cons 0 rfl .nil) (qC 0 rfl (qC 1 rfl (qC 2 rfl (qC 3 rfl (qC 4 rfl (qC 5 rfl (qC 6 rfl (qC 7 rfl (qC 8 rfl (qC 9 rfl (qC 10 rfl (qC 11 rfl qu)))))))))))) 22 rfl ?_
 refine au [6,0,6,1,6,2] ?_
 refine qf (d := 41) (v := .bool true) rfl (by rw [h7463] <;> rfl) ?_
 refine au [24,2,3,25,9,4,6,5] ?_
 refine qf (d := 43) (v := .slice (some ⟨b7465, o7466, none⟩) x1.length c3) rfl (by rw [h7467] <;> rfl) (qm 6 (.pointer (some ⟨b7465, (o7466 + x4993.toNat * 1), none⟩)) rfl rfl rfl (yq Tryz.underlying22 tf37 rfl rfl (qJ e7464).1 (kj e7464)) (qf (d := 43) (v := .slice a2 x1.length c3) rfl (by rw [h7467] <;> rfl) (qK 7 (.slice g7468.1 x7464.length g7468.2) [] rfl rfl rfl (zx (j := 4) rfl tf37 rfl rfl (fun _ => rfl) rfl) ?_)))
 refine au [6,8] ?_
 refine qf (d := 46) (v := .slice (some ⟨b7470, o7471, none⟩) x7464.length g7468.2) rfl (by rw [h7472] <;> rfl) (qm 9 (.pointer (some ⟨b7470, (o7471 + x7070.toNat * 1), none⟩)) rfl rfl rfl (yq Tryz.underlying37 tf3 rfl rfl (qJ e7469).1 (kj e7469)) (qf (d := 46) (v := .slice g7468.1 x7464.length g7468.2) rfl (by rw [h7472] <;> rfl) (qK 10 (.int .i64 x7469) [] rfl rfl rfl (zx (j := 3) rfl tf3 rfl rfl (fun _ => rfl) rfl) ?_)))
 refine au [24,2,11,25,9,12,6,13] ?_
 refine qf (d := 51) (v := .slice (some ⟨b7474, o7475, none⟩) x1.length c3) rfl (by rw [h7476] <;> rfl) (qm 14 (.pointer (some ⟨b7474, (o7475 + x4993.toNat * 1), none⟩)) rfl rfl rfl (yq Tryz.underlying22 tf37 rfl rfl (qJ e7473).1 (kj e7473)) (qf (d := 51) (v := .slice a2 x1.length c3) rfl (by rw [h7476] <;> rfl) (qK 15 (.slice g7477.1 x7473.length g7477.2) [] rfl rfl rfl (zx (j := 1) rfl tf37 rfl rfl (fun _ => rfl) rfl) ?_)))
 refine au [6,16,6,17] ?_
 refine qf (d := 54) (v := .slice (some ⟨b7479, o7480, none⟩) x7473.length g7477.2) rfl (by rw [h7481] <;> rfl) (qm 18 (.pointer (some ⟨b7479, (o7480 + (isub .i64 x7070 1).toNat * 1), none⟩)) rfl rfl rfl (yq Tryz.underlying37 tf3 rfl rfl (qJ e7478).1 (kj e7478)) (qf (d := 54) (v := .slice g7477.1 x7473.length g7477.2) rfl (by rw [h7481] <;> rfl) (qK 19 (.int .i64 x7478) [] rfl rfl rfl (zx (j := 0) rfl tf3 rfl rfl (fun _ => rfl) rfl) ?_)))
 refine au [6,20,6,21,24,7] ?_
 exact qz (qa ((decide (x7469 ≤ x7478)), ())) (by intro c h; cases h)
 intro h7463
 refine qw mixed [] [⟨g4, 24, [.slice a2 x1.length c3]⟩] [qt b7399 o7400 ((eI .i64) x7398), qt b7395 o7396 (eN37 (x7394, g7397)), Sl (eI .i64) 1 (.slice g7397.1 x7394.length g7397.2) x7394, qt b7284 o7285 (eN37 (x7283, g7286)), Sl (eI .i64) 1 (.slice g7286.1 x7283.length g7286.2) x7283, SlN eN37 iN37 1 (.slice a2 x1.length c3) x1 s3] (.cons 0 rfl .nil) (qC 0 rfl (qC 1 rfl (qC 2 rfl (qC 3 rfl (qC 4 rfl (qC 5 rfl qu)))))) 22 rfl ?_
 refine au [6,0,6,1,6,2] ?_
 refine qf (d := 41) (v := .bool false) rfl (by rw [h7463] <;> rfl) ?_
 refine au [8,3,8,4,8,5,8,6,8,7,8,8,8,9,8,10,8,11,8,12,8,13,8,14,8,15,8,16,8,17,8,18,8,19,8,20,6,21,24,7] ?_
 exact qz (qa (false, ())) (by intro c h; cases h)
 rintro ⟨x7461, _⟩
 try dsimp only
 refine av [9] ?_ ?_
 intro _
 exact az [3,4,5,0,2,12,11,20,11,11,20,20,11,11,20,11,18]
 intro _
 refine au [10,2,4,1,15,5,0,21,2,4,1,15,5,0] ?_
 exact qh ((iadd .i64 x7069 1, iadd .i64 x7070 1), ())
 intro _
 refine au [24,4,16,16,24,5,21] ?_
 exact qa (x7069, ())
 rintro ⟨x6862, _⟩
 try dsimp only
 refine au [4,1,15,5,0] ?_
 exact qh ((x6862, iadd .i64 x4993 1), ())
 intro _
 refine au [24,4,16,16,24,5] ?_
 exact qa (x4992, ())
 rintro ⟨x3744, _⟩
 try dsimp only
 refine av [3,3,4,1,24,6,0,2,9] ?_ ?_
 intro _
 exact az [3,4,5,0,2,12,11,18]
 intro _
 exact az [10,2,3,4,5,0,2,12,18]
theorem qke {F : Nat} {x1 : Int} {x2 : Int} {x3 : Int} {r : Int} (hm : qaQ F x1 x2 x3 = some r) :
    Pure Tryz.prog 32 [.agg #[.int .i64 x1, .int .i64 x2, .int .i64 x3]] [] Unit (fun _ => .int .i64 r) (fun _ => []) (fun _ => []) := by
 refine qi Tryz.func32 rfl Tryz.ntmps32 rfl hm (fun w => ?_)
 refine au [25,5,3,4,24,3] ?_
 intro g4
 refine au [5,0,2,3,3,4,13,23,26,15] ?_
 intro x21 e21 _
 refine au [25,4,1] ?_
 refine q7 10 (fun ((x27, _) : (Bool × Unit)) => ([(1, .pointer (some ⟨g4, 0, none⟩)), (17, .bool x27)], [⟨g4, 26, [.int .i64 x1, .int .i64 x2, .int .i64 x3]⟩], [], [], jP F x3 x27)) ?_ ?_
 refine qb (os := _) rfl ?_
 refine av [25,11] ?_ ?_
 intro h22
 refine qq (k := 7) rfl h22 ?_
 refine au [7,7,7,7,7,7,7,7,7,24,8,0] ?_
 exact qa (true, ())
 intro h22
 refine qp (k := 7) rfl h22 ?_
 refine au [13,23,25,3,1] ?_
 refine q7 5 (fun ((x35, _) : (Bool × Unit)) => ([(1, .pointer (some ⟨g4, 0, none⟩)), (7, .bool false), (16, .bool x35)], [⟨g4, 26, [.int .i64 x1, .int .i64 x2, .int .i64 x3]⟩], [], [], qbA F x3 x35)) ?_ ?_
 refine qb (os := _) rfl ?_
 refine av [25,11] ?_ ?_
 intro h33
 refine qq (k := 11) rfl h33 ?_
 refine au [13,23,26,15] ?_
 intro x36 e36 _
 refine au [25,4,24,8,0] ?_
 exact qa ((!x36), ())
 intro h33
 refine qp (k := 11) rfl h33 ?_
 refine au [7,7,7,7,24,9,0] ?_
 exact qa (false, ())
 rintro ⟨x35, _⟩
 try dsimp only
 refine qb (os := _) rfl ?_
 refine au [24,9,0] ?_
 exact qa (x35, ())
 rintro ⟨x27, _⟩
 try dsimp only
 refine qb (os := _) rfl ?_
 refine au [1] ?_
 refine q7 5 (fun ((x30, _) : (Bool × Unit)) => ([(23, .bool x30)], [], [], [], qbz F x30)) ?_ ?_
 refine qb (os := _) rfl ?_
 refine av [25,11] ?_ ?_
 intro h28
 refine qq (k := 18) rfl h28 ?_
 refine au [7,7,7,7,24,8,0] ?_
 exact qa (true, ())
 intro h28
 refine qp (k := 18) rfl h28 ?_
 refine au [13,23,26,15] ?_
 intro x32 e32 _
 refine au [25,4,24,9,0] ?_
 exact qa ((!x32), ())
 rintro ⟨x30, _⟩
 try dsimp only
 refine qb (os := _) rfl ?_
 refine av [0,2,9] ?_ ?_
 intro _
 exact az [3,4,5,0,2,12,11,18]
 intro _
 exact az [10,2,3,4,5,0,2,12,18]
theorem qmR {F : Nat} {x1 : Int} {r : List Int} (hm : qeU F x1 = some r) :
    Pure Tryz.prog 41 [.int .u64 x1] [] (Option Addr × Nat) (fun g => .slice g.1 r.length g.2) (fun g => [Ro (eI .i64) 3 1 (.slice g.1 r.length g.2) r]) (fun _ => []) := by
 refine qi Tryz.func41 rfl Tryz.ntmps41 rfl hm (fun w => ?_)
 refine au [25,5,3,4,5,0,2,3,4,5,0,2] ?_
 refine qc (fun ((x31, (a29, c30)) : (List Int × (Option Addr × Nat))) => ([(3, .slice a29 x31.length c30)], [], [Ro (eI .i64) 3 1 (.slice a29 x31.length c30) x31], [], qeq F x31)) ?_ ?_
 refine au [14,25,14] ?_
 refine qk (fun (((x40, x43), (a41, c42)) : ((Int × List Int) × (Option Addr × Nat))) => ([(0, .int .u64 x40), (3, .slice a41 x43.length c42)], [], [Ro (eI .i64) 3 1 (.slice a41 x43.length c42) x43], [])) (fun k (s : ((Int × List Int) × (Option Addr × Nat))) => j7 F k s.1) ((x1, ([] : List Int)), (none, 0)) F ?_
 intro k51
 rintro ⟨⟨x40, x43⟩, ⟨a41, c42⟩⟩
 try dsimp only
 refine ql (m' := qcX F (j7 F k51) x40 x43) rfl ?_
 refine av [3,3,4,1,24,6,0,2,9] ?_ ?_
 intro _
 refine au [10,2,14,3,4,1,27,0,24,12] ?_
 refine qy (vs := [.int .i64 (iconv .i64 (irem x40 2))]) (ys := ([iconv .i64 (irem x40 2)] : List Int)) (qo .i64) (by decide) rfl Tryz.underlying37 tf3 rfl rfl rfl rfl rfl (by decide) (fun a53 c54 => ?_)
 refine au [1] ?_
 refine qA 0 (qo .i64) rfl Tryz.underlying37 tf3 rfl rfl rfl rfl rfl (.inl ⟨1, _, rfl⟩) rfl rfl (fun x55 e55 a56 c57 => ?_)
 refine au [5,0,2,4,1,26,13,5,0,21] ?_
 exact qh ((iquo .u64 x40 2, x55), (a56, c57))
 intro _
 refine au [24,4,16,16,24,5] ?_
 exact qa (x43, (a41, c42))
 rintro ⟨x31, ⟨a29, c30⟩⟩
 try dsimp only
 refine au [3,4,1,5,0,2,12] ?_
 exact qj (a29, c30)
theorem qiR {F : Nat} {x1 : Int} {r : List Int} (hm : zQ F x1 = some r) :
    Pure Tryz.prog 20 [.int .u64 x1] [] (Option Addr × Nat) (fun g => .slice g.1 r.length g.2) (fun g => [Ro (eI .i64) 3 1 (.slice g.1 r.length g.2) r]) (fun _ => []) := by
 refine qi Tryz.func20 rfl Tryz.ntmps20 rfl hm (fun w => ?_)
 refine au [25,5,3,4,5,0,2,3,4,1,15] ?_
 refine qg qmR ?_
 rintro x2 e2 ⟨a3, c4⟩
 refine au [5,0,2,3,4,5,0,2] ?_
 refine qc (fun ((x48, (a46, c47)) : (List Int × (Option Addr × Nat))) => ([(3, .slice a3 x2.length c4), (4, .slice a46 x48.length c47)], [], [Ro (eI .i64) 3 1 (.slice a3 x2.length c4) x2, Ro (eI .i64) 3 1 (.slice a46 x48.length c47) x48], [], qcu F x2 x48)) ?_ ?_
 refine au [3,4,5,0,2,14,25,14] ?_
 refine qk (fun (((x66, x67), (a64, c65)) : ((List Int × Int) × (Option Addr × Nat))) => ([(3, .slice a3 x2.length c4), (4, .slice a64 x66.length c65), (5, .int .i64 x67)], [], [Ro (eI .i64) 3 1 (.slice a3 x2.length c4) x2, Ro (eI .i64) 3 1 (.slice a64 x66.length c65) x66], [])) (fun k (s : ((List Int × Int) × (Option Addr × Nat))) => yB F x2 k s.1) ((([] : List Int), 1), (none, 0)) F ?_
 intro k80
 rintro ⟨⟨x66, x67⟩, ⟨a64, c65⟩⟩
 try dsimp only
 refine ql (m' := qaP F x2 (yB F x2 k80) x66 x67) rfl ?_
 refine av [3,3,4,1,1,19,22,0,2,9] ?_ ?_
 intro _
 refine au [10,2,3,14,4,1] ?_
 refine qy (vs := [.int .i64 0]) (ys := ([0] : List Int)) (qo .i64) (by decide) rfl Tryz.underlying37 tf3 rfl rfl rfl rfl rfl (by decide) (fun a87 c88 => qA 2 (qo .i64) rfl Tryz.underlying37 tf3 rfl rfl rfl rfl rfl (.inl ⟨0, _, rfl⟩) rfl rfl (fun x89 e89 a90 c91 => ?_))
 refine au [5,0,21,2,4,1,15,5,0] ?_
 exact qh ((x89, iadd .i64 x67 1), (a90, c91))
 intro _
 refine au [24,4,16,16,24,5] ?_
 exact qa (x66, (a64, c65))
 rintro ⟨x48, ⟨a46, c47⟩⟩
 try dsimp only
 refine au [3,4,1,1] ?_
 refine qA 1 (qo .i64) rfl Tryz.underlying37 tf3 rfl rfl rfl rfl rfl (.inl ⟨0, _, rfl⟩) rfl rfl (fun x49 e49 a50 c51 => ?_)
 refine au [5,0,2,12] ?_
 exact qj (a50, c51)
theorem qmP {F : Nat} {x1 : List Int} {a2 : Option Addr} {c3 : Nat} {x4 : Int} {r : Bool} (hm : qaE F x1 x4 = some r) :
    Pure Tryz.prog 109 [.slice a2 x1.length c3, .int .i64 x4] [Sl (eI .i64) 1 (.slice a2 x1.length c3) x1] Unit (fun _ => .bool r) (fun _ => []) (fun _ => []) := by
 refine qi Tryz.func109 rfl Tryz.ntmps109 rfl hm (fun w => ?_)
 refine au [24,13,3,4,5,0,2] ?_
 refine qc (fun ((_, _) : (Unit × Unit)) => ([], [], [], [], qeo F)) ?_ ?_
 refine au [3,4,5,0,2,14] ?_
 refine qk (fun ((x47, _) : (Int × Unit)) => ([(0, .slice a2 x1.length c3), (1, .int .i64 x4), (5, .int .i64 x47)], [], [], [Sl (eI .i64) 1 (.slice a2 x1.length c3) x1])) (fun k (s : (Int × Unit)) => j6 F x1 x4 k s.1) (0, ()) F ?_
 intro k58
 rintro ⟨x47, _⟩
 try dsimp only
 refine ql (m' := qcO F x1 x4 (j6 F x1 x4 k58) x47) rfl ?_
 refine av [3,3,4,1,1,19,22,0,2,9] ?_ ?_
 intro _
 refine au [10,2,3,14,3,4,1,1,25,15] ?_
 intro x64 e64 b65 o66
 refine av [25,1,1,24,15,0,2,9] ?_ ?_
 intro _
 exact az [3,4,5,0,2,12,20,11,11,20,11,18]
 intro _
 refine au [10,21,2,4,1,15,5,0] ?_
 exact qh (iadd .i64 x47 1, ())
 intro _
 exact az [24,4,16,16,24,5,26,1]
 rintro ⟨_, _⟩
 try dsimp only
 exact az [3,4,5,0,2,12,18]
set_option maxHeartbeats 4000000 in
theorem qhB {F : Nat} {x1 : List Int} {a2 : Option Addr} {c3 : Nat} {x4 : List Int} {a5 : Option Addr} {c6 : Nat} {r : (List Int × List Int)} (hm : qbB F x1 x4 = some r) :
    Pure Tryz.prog 84 [.slice a2 x1.length c3, .slice a5 x4.length c6] [Sl (eI .i64) 1 (.slice a2 x1.length c3) x1, Sl (eI .i64) 1 (.slice a5 x4.length c6) x4] ((Option Addr × Nat) × (Option Addr × Nat)) (fun g => .tuple #[.slice g.1.1 r.1.length g.1.2, .slice g.2.1 r.2.length g.2.2]) (fun g => [Ro (eI .i64) 3 1 (.slice g.1.1 r.1.length g.1.2) r.1, Ro (eI .i64) 3 1 (.slice g.2.1 r.2.length g.2.2) r.2]) (fun _ => []) := by
 refine qi Tryz.func84 rfl Tryz.ntmps84 rfl hm (fun w => ?_)
 refine au [24,13,3,4,5,5,0,2,3,4,5,5,0,2,3,4,5,0,2] ?_
 refine qc (fun ((x210, (a208, c209)) : (List Int × (Option Addr × Nat))) => ([(0, .slice a2 x1.length c3), (1, .slice a5 x4.length c6), (6, .slice a208 x210.length c209), (7, .slice none 0 0)], [], [Ro (eI .i64) 3 1 (.slice a208 x210.length c209) x210], [Sl (eI .i64) 1 (.slice a2 x1.length c3) x1, Sl (eI .i64) 1 (.slice a5 x4.length c6) x4], qbh F x1 x4 x210)) ?_ ?_
 refine au [3,4,5,0,2,14,25,14] ?_
 refine qk (fun (((x511, x512, x513), (a509, c510)) : ((List Int × Int × Int) × (Option Addr × Nat))) => ([(0, .slice a2 x1.length c3), (1, .slice a5 x4.length c6), (6, .slice a509 x511.length c510), (7, .slice none 0 0), (8, .int .i64 x512), (9, .int .i64 x513)], [], [Ro (eI .i64) 3 1 (.slice a509 x511.length c510) x511], [Sl (eI .i64) 1 (.slice a2 x1.length c3) x1, Sl (eI .i64) 1 (.slice a5 x4.length c6) x4])) (fun k (s : ((List Int × Int × Int) × (Option Addr × Nat))) => zk F x1 x4 k s.1) ((([] : List Int), 0, 0), (none, 0)) F ?_
 intro k562
 rintro ⟨⟨x511, x512, x513⟩, ⟨a509, c510⟩⟩
 try dsimp only
 refine ql (m' := vQ F x1 x4 (zk F x1 x4 k562) x511 x512 x513) rfl ?_
 refine av [3,3,4,1,1,19,22,0,2,9] ?_ ?_
 intro _
 refine au [10,2] ?_
 refine qc (fun (((x587, x588), (a585, c586)) : ((List Int × Int) × (Option Addr × Nat))) => ([(0, .slice a2 x1.length c3), (1, .slice a5 x4.length c6), (6, .slice a585 x587.length c586), (7, .slice none 0 0), (8, .int .i64 x588), (9, .int .i64 x513)], [], [Ro (eI .i64) 3 1 (.slice a585 x587.length c586) x587], [Sl (eI .i64) 1 (.slice a2 x1.length c3) x1, Sl (eI .i64) 1 (.slice a5 x4.length c6) x4], vS F (zk F x1 x4 k562) x513 x587 x588)) ?_ ?_
 refine au [14,3,4,5,0,2] ?_
 refine qc (fun ((x594, _) : (Bool × Unit)) => ([(0, .slice a2 x1.length c3), (1, .slice a5 x4.length c6), (6, .slice a509 x511.length c510), (7, .slice none 0 0), (8, .int .i64 x512), (9, .int .i64 x513), (10, .bool x594)], [], [Ro (eI .i64) 3 1 (.slice a509 x511.length c510) x511], [Sl (eI .i64) 1 (.slice a2 x1.length c3) x1, Sl (eI .i64) 1 (.slice a5 x4.length c6) x4], yr F (zk F x1 x4 k562) x1 x4 x511 x512 x513 x594)) ?_ ?_
 refine av [3,4,1,24,6,0,2,9] ?_ ?_
 intro _
 refine au [4,1,1,1,24,10,25,15] ?_
 intro x605 e605 b606 o607
 refine au [25,1,29,1] ?_
 intro x608 e608 _
 refine au [5,0] ?_
 exact qa (x608, ())
 intro _
 refine au [10] ?_
 exact qa (true, ())
 rintro ⟨x594, _⟩
 try dsimp only
 refine au [3,4,1,1,1,25,15] ?_
 intro x595 e595 b596 o597
 refine au [25,1,29,1] ?_
 intro x598 e598 _
 refine av [1,32,0,0,2,9] ?_ ?_
 intro _
 refine au [3,4,1,1,1,24,10] ?_
 refine qy (vs := [.int .i64 (isub .i64 x513 x512)]) (ys := ([isub .i64 x513 x512] : List Int)) (qo .i64) (by decide) rfl Tryz.underlying37 tf3 rfl rfl rfl rfl rfl (by decide) (fun a599 c600 => qA 1 (qo .i64) rfl Tryz.underlying37 tf3 rfl rfl rfl rfl rfl (.inl ⟨0, _, rfl⟩) rfl rfl (fun x601 e601 a602 c603 => ?_))
 refine au [5,0,2,4,1,5,0,21] ?_
 exact qa ((x601, x513), (a602, c603))
 intro _
 refine au [10,21] ?_
 exact qa ((x511, x512), (a509, c510))
 rintro ⟨⟨x587, x588⟩, ⟨a585, c586⟩⟩
 try dsimp only
 refine au [4,1,15,5,0] ?_
 exact qh ((x587, x588, iadd .i64 x513 1), (a585, c586))
 intro _
 refine au [24,4,16,16,24,5] ?_
 exact qa (x511, (a509, c510))
 rintro ⟨x210, ⟨a208, c209⟩⟩
 try dsimp only
 refine qc (fun ((x311, (a309, c310)) : (List Int × (Option Addr × Nat))) => ([(6, .slice a208 x210.length c209), (7, .slice a309 x311.length c310)], [], [Ro (eI .i64) 3 1 (.slice a208 x210.length c209) x210, Ro (eI .i64) 3 1 (.slice a309 x311.length c310) x311], [], qbi F x210 x311)) ?_ ?_
 refine au [3,4,5,0,2,14,25,14] ?_
 refine qk (fun (((x345, x346), (a343, c344)) : ((List Int × Int) × (Option Addr × Nat))) => ([(0, .slice a2 x1.length c3), (1, .slice a5 x4.length c6), (6, .slice a208 x210.length c209), (7, .slice a343 x345.length c344), (11, .int .i64 x346)], [], [Ro (eI .i64) 3 1 (.slice a208 x210.length c209) x210, Ro (eI .i64) 3 1 (.slice a343 x345.length c344) x345], [Sl (eI .i64) 1 (.slice a2 x1.length c3) x1, Sl (eI .i64) 1 (.slice a5 x4.length c6) x4])) (fun k (s : ((List Int × Int) × (Option Addr × Nat))) => zX F x1 x4 x210 k s.1) ((([] : List Int), 0), (none, 0)) F ?_
 intro k378
 rintro ⟨⟨x345, x346⟩, ⟨a343, c344⟩⟩
 try dsimp only
 refine ql (m' := vP F x1 x4 x210 (zX F x1 x4 x210 k378) x345 x346) rfl ?_
 refine av [3,3,4,1,1,19,22,0,2,9] ?_ ?_
 intro _
 refine au [10,2] ?_
 refine qc (fun ((x395, (a393, c394)) : (List Int × (Option Addr × Nat))) => ([(0, .slice a2 x1.length c3), (1, .slice a5 x4.length c6), (6, .slice a208 x210.length c209), (7, .slice a393 x395.length c394), (11, .int .i64 x346)], [], [Ro (eI .i64) 3 1 (.slice a208 x210.length c209) x210, Ro (eI .i64) 3 1 (.slice a393 x395.length c394) x395], [Sl (eI .i64) 1 (.slice a2 x1.length c3) x1, Sl (eI .i64) 1 (.slice a5 x4.length c6) x4], vR F (zX F x1 x4 x210 k378) x346 x395)) ?_ ?_
 refine au [14,3,4,1,1,1,26,14] ?_
 intro x396 e396 b397 o398
 refine au [25,1,29,1] ?_
 intro x399 e399 _
 refine av [25,4,0,2,9] ?_ ?_
 intro _
 refine au [4,1,1,1,34,11] ?_
 intro x400 e400 b401 o402
 refine au [25,1] ?_
 refine qy (vs := [.int .i64 x400]) (ys := ([x400] : List Int)) (qo .i64) (by decide) rfl Tryz.underlying37 tf3 rfl rfl rfl rfl rfl (by decide) (fun a403 c404 => qA 2 (qo .i64) rfl Tryz.underlying37 tf3 rfl rfl rfl rfl rfl (.inl ⟨0, _, rfl⟩) rfl rfl (fun x405 e405 a406 c407 => ?_))
 refine au [5,0,21] ?_
 exact qa (x405, (a406, c407))
 intro _
 refine au [10,21] ?_
 exact qa (x345, (a343, c344))
 rintro ⟨x395, ⟨a393, c394⟩⟩
 try dsimp only
 refine au [4,1,15,5,0] ?_
 exact qh ((x395, iadd .i64 x346 1), (a393, c394))
 intro _
 refine au [24,4,16,16,24,5] ?_
 exact qa (x345, (a343, c344))
 rintro ⟨x311, ⟨a309, c310⟩⟩
 try dsimp only
 refine au [3,4,1,1,5,5,0,2,12] ?_
 exact qj ((a208, c209), (a309, c310))
set_option maxHeartbeats 4000000 in
theorem qiY {F : Nat} {x1 : List Int} {a2 : Option Addr} {c3 : Nat} {x4 : Int} {r : (List (Int × Int) × List Int)} (hm : qcT F x1 x4 = some r) :
    Pure Tryz.prog 85 [.slice a2 x1.length c3, .int .i64 x4] [Sl (eI .i64) 1 (.slice a2 x1.length c3) x1] ((Option Addr × Nat) × (Option Addr × Nat)) (fun g => .tuple #[.slice g.1.1 r.1.length g.1.2, .slice g.2.1 r.2.length g.2.2]) (fun g => [Ro eS141 141 2 (.slice g.1.1 r.1.length g.1.2) r.1, Ro (eI .i64) 3 1 (.slice g.2.1 r.2.length g.2.2) r.2]) (fun _ => []) := by
 refine qi Tryz.func85 rfl Tryz.ntmps85 rfl hm (fun w => ?_)
 refine au [24,13,3,4,5,5,0,2,3,4,5,0,2,3,4,5,0,2] ?_
 refine qc (fun (((x600, x603), (a598, c599, a601, c602)) : ((List (Int × Int) × List Int) × (Option Addr × Nat × Option Addr × Nat))) => ([(6, .slice a598 x600.length c599), (7, .slice a601 x603.length c602)], [], [Ro eS141 141 2 (.slice a598 x600.length c599) x600, Ro (eI .i64) 3 1 (.slice a601 x603.length c602) x603], [], qca F x600 x603)) ?_ ?_
 refine au [3,4,5,0,2,14,32,2,25,14] ?_
 refine qk (fun (((x804, x807, x808), (a802, c803, a805, c806)) : ((List (Int × Int) × List Int × Int) × (Option Addr × Nat × Option Addr × Nat))) => ([(0, .slice a2 x1.length c3), (1, .int .i64 x4), (6, .slice a802 x804.length c803), (7, .slice a805 x807.length c806), (8, .int .i64 x808)], [], [Ro eS141 141 2 (.slice a802 x804.length c803) x804, Ro (eI .i64) 3 1 (.slice a805 x807.length c806) x807], [Sl (eI .i64) 1 (.slice a2 x1.length c3) x1])) (fun k (s : ((List (Int × Int) × List Int × Int) × (Option Addr × Nat × Option Addr × Nat))) => qv F x1 x4 k s.1) ((([] : List (Int × Int)), ([] : List Int), 0), (none, 0, none, 0)) F ?_
 intro k1001
 rintro ⟨⟨x804, x807, x808⟩, ⟨a802, c803, a805, c806⟩⟩
 try dsimp only
 refine ql (m' := ya F x1 x4 (qv F x1 x4 k1001) x804 x807 x808) rfl ?_
 refine av [3,3,4,1,1,19,22,0,2,9] ?_ ?_
 intro _
 refine au [10,2] ?_
 refine qc (fun (((x1097, x1100), (a1095, c1096, a1098, c1099)) : ((List (Int × Int) × List Int) × (Option Addr × Nat × Option Addr × Nat))) => ([(0, .slice a2 x1.length c3), (1, .int .i64 x4), (6, .slice a1095 x1097.length c1096), (7, .slice a1098 x1100.length c1099), (8, .int .i64 x808)], [], [Ro eS141 141 2 (.slice a1095 x1097.length c1096) x1097, Ro (eI .i64) 3 1 (.slice a1098 x1100.length c1099) x1100], [Sl (eI .i64) 1 (.slice a2 x1.length c3) x1], vo F (qv F x1 x4 k1001) x808 x1097 x1100)) ?_ ?_
 refine au [14,3,28,12] ?_
 intro x1109 e1109 b1110 o1111 h1112
 replace h1112 : a2 = some ⟨b1110, o1111, none⟩ := h1112
 refine au [28,5] ?_
 intro x1113 e1113 b1114 o1115 h1116
 replace h1116 : a2 = some ⟨b1114, o1115, none⟩ := h1116
 refine qw mixed [] [] [qt b1114 (o1115 + x808.toNat * 1) ((eI .i64) x1113), qt b1110 (o1111 + x808.toNat * 1) ((eI .i64) x1109), Sl (eI .i64) 1 (.slice a2 x1.length c3) x1] .nil (qC 0 rfl (qC 1 rfl (qC 2 rfl qu))) 10 rfl ?_
 refine au [6,0,6,1] ?_
 refine qf (d := 17) (v := .slice (some ⟨b1110, o1111, none⟩) x1.length c3) rfl (by rw [h1112] <;> rfl) (qm 2 (.pointer (some ⟨b1110, (o1111 + x808.toNat * 1), none⟩)) rfl rfl rfl (yq Tryz.underlying37 tf3 rfl rfl (qJ e1109).1 (kj e1109)) (qf (d := 17) (v := .slice a2 x1.length c3) rfl (by rw [h1112] <;> rfl) (qK 3 (.int .i64 x1109) [] rfl rfl rfl (zx (j := 1) rfl tf3 rfl rfl (fun _ => rfl) rfl) ?_)))
 refine au [6,4,6,5] ?_
 refine qf (d := 21) (v := .slice (some ⟨b1114, o1115, none⟩) x1.length c3) rfl (by rw [h1116] <;> rfl) (qm 6 (.pointer (some ⟨b1114, (o1115 + x808.toNat * 1), none⟩)) rfl rfl rfl (yq Tryz.underlying37 tf3 rfl rfl (qJ e1113).1 (kj e1113)) (qf (d := 21) (v := .slice a2 x1.length c3) rfl (by rw [h1116] <;> rfl) (qK 7 (.int .i64 x1113) [] rfl rfl rfl (zx (j := 0) rfl tf3 rfl rfl (fun _ => rfl) rfl) ?_)))
 refine au [6,8,6,9,24,7] ?_
 refine qz ?_ (by intro c h; cases h)
 refine au [2] ?_
 refine qc (fun ((x1131, _) : (Int × Unit)) => ([(0, .slice a2 x1.length c3), (1, .int .i64 x4), (6, .slice a802 x804.length c803), (7, .slice a805 x807.length c806), (8, .int .i64 x808), (9, .int .i64 x1131), (10, .int .i64 x1113)], [], [Ro eS141 141 2 (.slice a802 x804.length c803) x804, Ro (eI .i64) 3 1 (.slice a805 x807.length c806) x807], [Sl (eI .i64) 1 (.slice a2 x1.length c3) x1], qae F (qv F x1 x4 k1001) x1 x4 x804 x807 x808 x1113 x1131)) ?_ ?_
 refine au [14] ?_
 refine qk (fun ((x1183, _) : (Int × Unit)) => ([(0, .slice a2 x1.length c3), (1, .int .i64 x4), (6, .slice a802 x804.length c803), (7, .slice a805 x807.length c806), (8, .int .i64 x808), (9, .int .i64 x1183), (10, .int .i64 x1113)], [], [Ro eS141 141 2 (.slice a802 x804.length c803) x804, Ro (eI .i64) 3 1 (.slice a805 x807.length c806) x807], [Sl (eI .i64) 1 (.slice a2 x1.length c3) x1])) (fun k (s : (Int × Unit)) => kr F (qv F x1 x4 k1001) x1 x4 x804 x807 x808 x1113 k s.1) (x1109, ()) F ?_
 intro k1188
 rintro ⟨x1183, _⟩
 try dsimp only
 refine ql (m' := yc F (qv F x1 x4 k1001) x1 x4 x804 x807 x808 x1113 (kr F (qv F x1 x4 k1001) x1 x4 x804 x807 x808 x1113 k1188) x1183) rfl ?_
 refine au [3,3,4,1,1,24,10,29,1] ?_
 intro x1191 e1191 _
 refine av [0,2,9] ?_ ?_
 intro _
 refine au [10,2,14,4,1,24,10,5,0,21] ?_
 exact qh (isub .i64 x1183 1, ())
 intro _
 refine au [24,4,16,16,24,5] ?_
 exact qa (x1183, ())
 rintro ⟨x1131, _⟩
 try dsimp only
 refine qc (fun ((x1146, _) : (Int × Unit)) => ([(0, .slice a2 x1.length c3), (1, .int .i64 x4), (6, .slice a802 x804.length c803), (7, .slice a805 x807.length c806), (8, .int .i64 x808), (9, .int .i64 x1131), (10, .int .i64 x1146)], [], [Ro eS141 141 2 (.slice a802 x804.length c803) x804, Ro (eI .i64) 3 1 (.slice a805 x807.length c806) x807], [Sl (eI .i64) 1 (.slice a2 x1.length c3) x1], qaf F (qv F x1 x4 k1001) x1 x4 x804 x807 x808 x1131 x1146)) ?_ ?_
 refine au [14] ?_
 refine qk (fun ((x1169, _) : (Int × Unit)) => ([(0, .slice a2 x1.length c3), (1, .int .i64 x4), (6, .slice a802 x804.length c803), (7, .slice a805 x807.length c806), (8, .int .i64 x808), (9, .int .i64 x1131), (10, .int .i64 x1169)], [], [Ro eS141 141 2 (.slice a802 x804.length c803) x804, Ro (eI .i64) 3 1 (.slice a805 x807.length c806) x807], [Sl (eI .i64) 1 (.slice a2 x1.length c3) x1])) (fun k (s : (Int × Unit)) => kq F (qv F x1 x4 k1001) x1 x4 x804 x807 x808 x1131 k s.1) (x1113, ()) F ?_
 intro k1174
 rintro ⟨x1169, _⟩
 try dsimp only
 refine ql (m' := yb F (qv F x1 x4 k1001) x1 x4 x804 x807 x808 x1131 (kq F (qv F x1 x4 k1001) x1 x4 x804 x807 x808 x1131 k1174) x1169) rfl ?_
 refine au [3,3,4,1,1,15,29,1] ?_
 intro x1177 e1177 _
 refine av [0,2,9] ?_ ?_
 intro _
 refine au [10,2,14,4,1,15,5,0,21] ?_
 exact qh (iadd .i64 x1169 1, ())
 intro _
 refine au [24,4,16,16,24,5] ?_
 exact qa (x1169, ())
 rintro ⟨x1146, _⟩
 try dsimp only
 refine av [3,4,1,1,24,10,15,1,22,0,2,9] ?_ ?_
 intro _
 refine au [4,1,1,1,25,15] ?_
 intro x1147 e1147 b1148 o1149
 refine au [25,1] ?_
 refine qy (vs := [.int .i64 x1147]) (ys := ([x1147] : List Int)) (qo .i64) (by decide) rfl Tryz.underlying37 tf3 rfl rfl rfl rfl rfl (by decide) (fun a1150 c1151 => qA 2 (qo .i64) rfl Tryz.underlying37 tf3 rfl rfl rfl rfl rfl (.inl ⟨0, _, rfl⟩) rfl rfl (fun x1152 e1152 a1153 c1154 => ?_))
 refine au [5,0,21] ?_
 exact qa ((x804, x1152), (a802, c803, a1153, c1154))
 intro _
 refine au [3,4,1,1,1,25,15] ?_
 intro x1155 e1155 b1156 o1157
 refine av [25,1,24,15,0,2,9] ?_ ?_
 intro _
 refine au [4,1,1,1,1,24,10,15] ?_
 refine qD (cells := [.int .i64 x1131, .int .i64 (iadd .i64 (isub .i64 x1146 x1131) 1)]) rfl st141 rfl (by kernel_rfl) rfl (qy (vs := [.agg #[.int .i64 x1131, .int .i64 (iadd .i64 (isub .i64 x1146 x1131) 1)]]) (ys := ([(x1131, iadd .i64 (isub .i64 x1146 x1131) 1)] : List (Int × Int))) kb (by decide) rfl Tryz.underlying117 tf141 rfl rfl rfl rfl rfl (by decide) (fun a1158 c1159 => qA 1 kb rfl Tryz.underlying117 tf141 rfl rfl rfl rfl rfl (.inl ⟨0, _, rfl⟩) rfl rfl (fun x1160 e1160 a1161 c1162 => ?_)))
 refine au [5,0,21] ?_
 exact qa ((x1160, x807), (a1161, c1162, a805, c806))
 intro _
 refine au [10,21] ?_
 exact qa ((x804, x807), (a802, c803, a805, c806))
 rintro ⟨⟨x1097, x1100⟩, ⟨a1095, c1096, a1098, c1099⟩⟩
 try dsimp only
 refine au [4,1,15,5,0] ?_
 exact qh ((x1097, x1100, iadd .i64 x808 1), (a1095, c1096, a1098, c1099))
 intro _
 refine au [24,4,16,16,24,5] ?_
 exact qa ((x804, x807), (a802, c803, a805, c806))
 rintro ⟨⟨x600, x603⟩, ⟨a598, c599, a601, c602⟩⟩
 try dsimp only
 refine au [3,4,1,1,5,5,0,2,12] ?_
 exact qj ((a598, c599), (a601, c602))
theorem qmN {F : Nat} {x1 : Int} {r : Int} (hm : qdG F x1 = some r) :
    Pure Tryz.prog 86 [.int .i64 x1] [] Unit (fun _ => .int .u64 r) (fun _ => []) (fun _ => []) := by
 refine qi Tryz.func86 rfl Tryz.ntmps86 rfl hm (fun w => ?_)
 refine av [25,5,3,4,5,0,2,3,3,4,1,22,0,2,9] ?_ ?_
 intro _
 refine au [3,4,1,15,33,5,24,12,27,2,15,5,26,0] ?_
 intro x4 e4
 refine qe (d := 2) (v := .int .u64 x4) rfl (by rw [e4] <;> rfl) ?_
 exact az [0,2,12,11,18]
 intro _
 exact az [10,2,3,4,1,24,12,27,2,5,0,2,12,18]
theorem qkp {F : Nat} {x1 : Int} {x2 : Int} {r : (Int × Int × Int)} (hm : qeV F x1 x2 = some r) :
    Pure Tryz.prog 129 [.int .u64 x1, .int .i64 x2] [] Unit (fun _ => .tuple #[.int .u64 r.1, .int .u64 r.2.1, .int .u64 r.2.2]) (fun _ => []) (fun _ => []) := by
 refine qi Tryz.func129 rfl Tryz.ntmps129 rfl hm (fun w => ?_)
 refine au [24,13,3,4,5,5,5,0,2,3,4,5,5,0,2] ?_
 refine qc (fun (((x21, x22), _) : ((Int × Int) × Unit)) => ([(1, .int .i64 x2), (7, .int .u64 x21), (8, .int .u64 x22)], [], [], [], qdl F x2 x21 x22)) ?_ ?_
 refine au [14] ?_
 refine qdF (fun (((x34, x35), _) : ((Int × Int) × Unit)) => [(0, .int .u64 x1), (1, .int .i64 x2), (7, .int .u64 x34), (8, .int .u64 x35)]) (fun (((x34, x35), _) : ((Int × Int) × Unit)) => []) (fun (((x34, x35), _) : ((Int × Int) × Unit)) => []) (fun (((x34, x35), _) : ((Int × Int) × Unit)) => []) (fun k (s : ((Int × Int) × Unit)) => ve F x1 x2 k s.1) ((0, 1), ()) F ?_
 intro k41
 rintro ⟨⟨x34, x35⟩, _⟩
 try dsimp only
 refine ql (m' := qbH F x1 x2 (ve F x1 x2 k41) x34 x35) rfl ?_
 refine au [3,3,4,1,15,1,1,26,3] ?_
 intro h44
 refine qbR rfl rfl rfl rfl h44 ?_
 refine av [26,2,0,2,9] ?_ ?_
 intro _
 refine au [10,2,14,3,4,1,1,26,3] ?_
 intro h45
 refine qbR rfl rfl rfl rfl h45 ?_
 refine au [5,0,2,4,1,15,5,0,21] ?_
 exact qh ((iadd .u64 x34 1, ishl .u64 x35 x2), ())
 intro _
 refine au [24,4,16,16,24,5] ?_
 exact qa ((x34, x35), ())
 rintro ⟨⟨x21, x22⟩, _⟩
 try dsimp only
 refine au [3,27,11] ?_
 intro h26
 refine qw mixed [] [] [] .nil qu 8 rfl ?_
 refine au [6,0,6,1,6,2,6,3] ?_
 refine qm 4 (.int .u64 (ishl .u64 x22 x2)) rfl rfl rfl (qgu rfl rfl h26) ?_
 refine au [6,5,6,6,6,7,24,7] ?_
 refine qz ?_ (by intro c h; cases h)
 exact az [2,12,18]
theorem qi2 {F : Nat} {x1 : Int} {r : List Int} (hm : qcW F x1 = some r) :
    Pure Tryz.prog 130 [.int .u64 x1] [] (Option Addr × Nat) (fun g => .slice g.1 r.length g.2) (fun g => [Ro (eI .i64) 3 1 (.slice g.1 r.length g.2) r]) (fun _ => []) := by
 refine qi Tryz.func130 rfl Tryz.ntmps130 rfl hm (fun w => ?_)
 refine au [25,5,3,4,5,0,2,3,4,5,0,2] ?_
 refine qc (fun ((x45, (a43, c44)) : (List Int × (Option Addr × Nat))) => ([(3, .slice a43 x45.length c44)], [], [Ro (eI .i64) 3 1 (.slice a43 x45.length c44) x45], [], qcz F x45)) ?_ ?_
 refine au [3,4,5,0,2,14,25,14] ?_
 refine qk (fun (((x65, x66), (a63, c64)) : ((List Int × Int) × (Option Addr × Nat))) => ([(0, .int .u64 x1), (3, .slice a63 x65.length c64), (4, .int .u64 x66)], [], [Ro (eI .i64) 3 1 (.slice a63 x65.length c64) x65], [])) (fun k (s : ((List Int × Int) × (Option Addr × Nat))) => yI F x1 k s.1) ((([] : List Int), 0), (none, 0)) F ?_
 intro k79
 rintro ⟨⟨x65, x66⟩, ⟨a63, c64⟩⟩
 try dsimp only
 refine ql (m' := qa7 F x1 (yI F x1 k79) x65 x66) rfl ?_
 refine av [3,3,4,1,1,22,0,2,9] ?_ ?_
 intro _
 refine au [10,2,3,14,4,1] ?_
 refine qy (vs := [.int .i64 0]) (ys := ([0] : List Int)) (qo .i64) (by decide) rfl Tryz.underlying37 tf3 rfl rfl rfl rfl rfl (by decide) (fun a86 c87 => qA 1 (qo .i64) rfl Tryz.underlying37 tf3 rfl rfl rfl rfl rfl (.inl ⟨0, _, rfl⟩) rfl rfl (fun x88 e88 a89 c90 => ?_))
 refine au [5,0,21,2,4,1,15,5,0] ?_
 exact qh ((x88, iadd .u64 x66 1), (a89, c90))
 intro _
 refine au [24,4,16,16,24,5] ?_
 exact qa (x65, (a63, c64))
 rintro ⟨x45, ⟨a43, c44⟩⟩
 try dsimp only
 refine au [3,4,1] ?_
 refine qy (vs := [.int .i64 1]) (ys := ([1] : List Int)) (qo .i64) (by decide) rfl Tryz.underlying37 tf3 rfl rfl rfl rfl rfl (by decide) (fun a46 c47 => qA 1 (qo .i64) rfl Tryz.underlying37 tf3 rfl rfl rfl rfl rfl (.inl ⟨0, _, rfl⟩) rfl rfl (fun x48 e48 a49 c50 => ?_))
 refine au [5,0,2,12] ?_
 exact qj (a49, c50)
theorem qlw {F : Nat} {x1 : Int} {x2 : Int} {r : List Int} (hm : qda F x1 x2 = some r) :
    Pure Tryz.prog 147 [.int .u64 x1, .int .i64 x2] [] (Option Addr × Nat) (fun g => .slice g.1 r.length g.2) (fun g => [Ro (eI .i64) 3 1 (.slice g.1 r.length g.2) r]) (fun _ => []) := by
 refine qi Tryz.func147 rfl Tryz.ntmps147 rfl hm (fun w => ?_)
 refine au [24,13,3,4,5,0,2,3,4,1,33,4] ?_
 intro x3 e3 a4 c5
 refine au [5,0,2] ?_
 refine qc (fun ((x52, _) : (List Int × Unit)) => ([(5, .slice a4 x52.length c5)], [], [Ro (eI .i64) 3 1 (.slice a4 x52.length c5) x52], [], qdH F x52)) ?_ ?_
 refine au [3,4,1,24,10,5,0,2,14] ?_
 refine qk (fun (((x67, x68, x69), _) : ((Int × List Int × Int) × Unit)) => ([(0, .int .u64 x67), (5, .slice a4 x68.length c5), (6, .int .i64 x69)], [], [Ro (eI .i64) 3 1 (.slice a4 x68.length c5) x68], [])) (fun k (s : ((Int × List Int × Int) × Unit)) => yM F k s.1) ((x1, x3, isub .i64 x2 1), ()) F ?_
 intro k84
 rintro ⟨⟨x67, x68, x69⟩, _⟩
 try dsimp only
 refine ql (m' := v8 F (yM F k84) x67 x68 x69) rfl ?_
 refine av [3,3,4,1,26,2,0,2,9] ?_ ?_
 intro _
 refine au [10,2,3,14,3,4,1,1,1,27,0,24,12,28,15] ?_
 intro x92 e92 g93 h94
 refine qfb (j := 0) (y' := iconv .i64 (irem x67 2)) (qo .i64) rfl rfl rfl tf3 rfl h94 (qJ e92).2.1 rfl (fun x95 e95 h96 => ?_)
 have h97 : x95.length = x68.length := by rw [← e95, List.length_set]
 refine qe (d := 5) (v := .slice a4 x95.length c5) rfl h96 (qe (d := 15) (v := .slice a4 x95.length c5) rfl h96 ?_)
 refine au [0,2,4,1,26,13,5,0,21,2,4,1,24,10,5,0] ?_
 exact qh ((iquo .u64 x67 2, x95, isub .i64 x69 1), ())
 intro _
 refine au [24,4,16,16,24,5] ?_
 exact qa (x68, ())
 rintro ⟨x52, _⟩
 try dsimp only
 refine au [3,4,1,5,0,2,12] ?_
 exact qj (a4, c5)
theorem qiT {F : Nat} {x1 : Int} {x2 : Int} {r : List Int} (hm : qcP F x1 x2 = some r) :
    Pure Tryz.prog 131 [.int .u64 x1, .int .u64 x2] [] (Option Addr × Nat) (fun g => .slice g.1 r.length g.2) (fun g => [Ro (eI .i64) 3 1 (.slice g.1 r.length g.2) r]) (fun _ => []) := by
 refine qi Tryz.func131 rfl Tryz.ntmps131 rfl hm (fun w => ?_)
 refine au [24,13,3,4,5,0,2,3,4,5,0,2] ?_
 refine qc (fun ((x15, _) : (Int × Unit)) => ([(0, .int .u64 x1), (1, .int .u64 x2), (5, .int .i64 x15)], [], [], [], qcv F x1 x2 x15)) ?_ ?_
 refine au [14] ?_
 refine qdF (fun ((x30, _) : (Int × Unit)) => [(0, .int .u64 x1), (1, .int .u64 x2), (5, .int .i64 x30)]) (fun ((x30, _) : (Int × Unit)) => []) (fun ((x30, _) : (Int × Unit)) => []) (fun ((x30, _) : (Int × Unit)) => []) (fun k (s : (Int × Unit)) => yC F x1 x2 k s.1) (0, ()) F ?_
 intro k35
 rintro ⟨x30, _⟩
 try dsimp only
 refine ql (m' := qaR F x1 x2 (yC F x1 x2 k35) x30) rfl ?_
 refine au [3,3,4,1,26,3] ?_
 intro h38
 refine qbR rfl rfl rfl rfl h38 ?_
 refine av [1,22,0,2,9] ?_ ?_
 intro _
 refine au [10,2,14,4,1,15,5,0,21] ?_
 exact qh (iadd .i64 x30 1, ())
 intro _
 refine au [24,4,16,16,24,5] ?_
 exact qa (x30, ())
 rintro ⟨x15, _⟩
 try dsimp only
 refine au [3,4,1,26,3] ?_
 intro h16
 refine qbR rfl rfl rfl rfl h16 ?_
 refine av [1,24,10,5,0,2,3,3,4,1,1,22,0,2,9] ?_ ?_
 intro _
 refine au [3,4,1,1,24,10,34,12] ?_
 rintro x21 e21 ⟨a22, c23⟩
 refine au [5,0,2,12,11] ?_
 exact qj (a22, c23)
 intro _
 refine au [10,2,3,4,1,1,15,1,34,12] ?_
 rintro x24 e24 ⟨a25, c26⟩
 refine au [5,0,2,12] ?_
 exact qj (a25, c26)
theorem qkm {F : Nat} {x1 : Int} {x2 : Int} {r : List Int} (hm : qdq F x1 x2 = some r) :
    Pure Tryz.prog 110 [.int .u64 x1, .int .i64 x2] [] (Option Addr × Nat) (fun g => .slice g.1 r.length g.2) (fun g => [Ro (eI .i64) 3 1 (.slice g.1 r.length g.2) r]) (fun _ => []) := by
 refine qi Tryz.func110 rfl Tryz.ntmps110 rfl hm (fun w => ?_)
 refine au [24,13,3,4,5,0,2,3,4,1,1] ?_
 refine qg qkp ?_
 intro x3 e3 _
 refine au [1,17,17,17,5,5,5,0,2,3,4,1] ?_
 refine qg qi2 ?_
 rintro x4 e4 ⟨a5, c6⟩
 refine au [1,15,1,24,10,1,1,24,10] ?_
 refine qg qiT ?_
 rintro x7 e7 ⟨a8, c9⟩
 refine qA 1 (qo .i64) rfl Tryz.underlying37 tf3 rfl rfl rfl rfl rfl (.inl ⟨0, _, rfl⟩) rfl rfl (fun x10 e10 a11 c12 => ?_)
 refine au [5,0,2,12] ?_
 exact qj (a11, c12)
theorem qi4 {F : Nat} {x1 : List Int} {a2 : Option Addr} {c3 : Nat} {x4 : Int} {r : List Int} (hm : qep F x1 x4 = some r) :
    Pure Tryz.prog 87 [.slice a2 x1.length c3, .int .i64 x4] [Sl (eI .u64) 1 (.slice a2 x1.length c3) x1] (Option Addr × Nat) (fun g => .slice g.1 r.length g.2) (fun g => [Ro (eI .i64) 3 1 (.slice g.1 r.length g.2) r]) (fun _ => []) := by
 refine qi Tryz.func87 rfl Tryz.ntmps87 rfl hm (fun w => ?_)
 refine au [24,13,3,4,5,0,2,3,4,5,0,2] ?_
 refine qc (fun ((x72, (a70, c71)) : (List Int × (Option Addr × Nat))) => ([(5, .slice a70 x72.length c71)], [], [Ro (eI .i64) 3 1 (.slice a70 x72.length c71) x72], [], qcA F x72)) ?_ ?_
 refine au [3,4,5,0,2,14,25,14] ?_
 refine qk (fun (((x95, x96), (a93, c94)) : ((List Int × Int) × (Option Addr × Nat))) => ([(0, .slice a2 x1.length c3), (1, .int .i64 x4), (5, .slice a93 x95.length c94), (6, .int .i64 x96)], [], [Ro (eI .i64) 3 1 (.slice a93 x95.length c94) x95], [Sl (eI .u64) 1 (.slice a2 x1.length c3) x1])) (fun k (s : ((List Int × Int) × (Option Addr × Nat))) => kU F x1 x4 k s.1) ((([] : List Int), 0), (none, 0)) F ?_
 intro k117
 rintro ⟨⟨x95, x96⟩, ⟨a93, c94⟩⟩
 try dsimp only
 refine ql (m' := qa9 F x1 x4 (kU F x1 x4 k117) x95 x96) rfl ?_
 refine av [3,3,4,1,1,19,22,0,2,9] ?_ ?_
 intro _
 refine au [10,2,3,14,4,1,1,1,32,9] ?_
 intro x128 e128 b129 o130
 refine au [25,1,1] ?_
 refine qg qkm ?_
 rintro x131 e131 ⟨a132, c133⟩
 refine qA 1 (qo .i64) rfl Tryz.underlying37 tf3 rfl rfl rfl rfl rfl (.inl ⟨0, _, rfl⟩) rfl rfl (fun x134 e134 a135 c136 => ?_)
 refine au [5,0,21,2,4,1,15,5,0] ?_
 exact qh ((x134, iadd .i64 x96 1), (a135, c136))
 intro _
 refine au [24,4,16,16,24,5] ?_
 exact qa (x95, (a93, c94))
 rintro ⟨x72, ⟨a70, c71⟩⟩
 try dsimp only
 refine au [3,4,1,5,0,2,12] ?_
 exact qj (a70, c71)
end Go.Proofs.YtpnfijegoepiaaaGreat
