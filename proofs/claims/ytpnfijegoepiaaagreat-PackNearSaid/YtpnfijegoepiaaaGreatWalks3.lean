/- Each Go function of this seat computes what its model says, part 3. -/
import Derived.Test.YtpnfijegoepiaaaGreatWalks2
namespace Go.Proofs.YtpnfijegoepiaaaGreat
open Go SX
theorem qcf {F : Nat} {x1 : List Int} {a2 : Option Addr} {c3 : Nat} {x4 : Int} {r : List Int} (hm : kV F x1 c3 x4 = some r) :
    PureM Tryz.prog 144 [.slice a2 x1.length c3, .int .i64 x4] [] [Ro (eI .i64) 3 1 (.slice a2 x1.length c3) x1] [] (Option Addr × Nat) (fun g => .slice g.1 r.length g.2) (fun _ => []) (fun g => [Ro (eI .i64) 3 1 (.slice g.1 r.length g.2) r]) := by
 refine zC Tryz.func144 rfl Tryz.ntmps144 rfl hm (fun w => ?_)
 refine av [24,12,3,4,5,0,2,3,3,4,1,24,4,0,2,10] ?_ ?_
 intro _
 exact az [32,11]
 intro _
 refine au [11,2] ?_
 refine qe (fun ((x15, (a13, c14)) : (List Int × (Option Addr × Nat))) => ([(0, .slice a13 x15.length c14)], [], [Ro (eI .i64) 3 1 (.slice a13 x15.length c14) x15], [], yw F x15)) ?_ ?_
 refine au [3,4,1,1,32,12,1,24,2,24,15,24,15,5,26,5] ?_
 intro x16 e16
 refine qc (d := 1) (v := .int .i64 x16) rfl (by rw [e16] <;> rfl) ?_
 refine av [0,2,3,4,1,24,10,0,2,10] ?_ ?_
 intro _
 refine au [4,1,1,32,12,32,13] ?_
 intro x17 e17
 refine au [1] ?_
 refine ql7 (y := (0 : Int)) 0 (qv .i64) rfl UnF.u UnF.u inferInstance rfl rfl rfl rfl rfl rfl rfl rfl rfl ?_
 intro x18 e18 a19 c20
 refine au [1,24,2,32,13] ?_
 intro x21 e21
 refine au [5,0] ?_
 exact qa (x21, (a19, c20))
 intro _
 refine au [11] ?_
 exact qa (x1, (a2, c3))
 rintro ⟨x15, ⟨a13, c14⟩⟩
 try dsimp only
 refine au [3,4,1,5,0,2,9] ?_
 exact zv (a13, c14)
theorem qbF {F : Nat} {x1 : List (List Int)} {a2 : Option Addr} {c3 : Nat} {s3 : List (Option Addr × Nat)} {r : List Int} (hm : q6 F x1 = some r) :
    Pure Tryz.prog 127 [.slice a2 x1.length c3] [SlN eN37 iN37 1 (.slice a2 x1.length c3) x1 s3] (Option Addr × Nat) (fun g => .slice g.1 r.length g.2) (fun g => [Ro (eI .i64) 3 1 (.slice g.1 r.length g.2) r]) (fun _ => []) := by
 refine qj Tryz.func127 rfl Tryz.ntmps127 rfl hm (fun w => ?_)
 refine au [25,8,3,4,5,0,2,3,4,5,0,2] ?_
 refine qe (fun ((x43, _) : (Int × Unit)) => ([(0, .slice a2 x1.length c3), (3, .int .i64 x43)], [], [], [SlN eN37 iN37 1 (.slice a2 x1.length c3) x1 s3], zp F x1 x43)) ?_ ?_
 refine au [3,4,1,24,2,1,0,2,17] ?_
 refine qt (fun (((x168, x169), _) : ((Int × Int) × Unit)) => ([(0, .slice a2 x1.length c3), (3, .int .i64 x168), (9, .slice a2 x1.length c3), (10, .int .i64 (x1.length : Int)), (11, .int .i64 x169)], [], [], [SlN eN37 iN37 1 (.slice a2 x1.length c3) x1 s3])) (fun k (s : ((Int × Int) × Unit)) => qx F x1 k s.1) ((0, 0), ()) F ?_
 intro k182
 rintro ⟨⟨x168, x169⟩, _⟩
 try dsimp only
 refine qJ (m' := qp F x1 (qx F x1 k182) x168 x169) rfl ?_
 refine av [3,4,24,4,0,2,3,10] ?_ ?_
 intro _
 refine au [11,2,3,17,3,4,27,10] ?_
 intro x189 e189 g192 b190 o191
 refine av [25,12,5,0,2,3,4,1,1,24,2,18,5,0,2,3,4,1,24,4,0,2,10] ?_ ?_
 intro _
 exact az [32,11]
 intro _
 refine au [11,24,8,2,4,18,1,0] ?_
 exact qm ((iadd .i64 x168 (x189.length : Int), iadd .i64 x169 1), ())
 intro _
 refine au [24,13,21,21,24,14] ?_
 exact qa (x168, ())
 rintro ⟨x43, _⟩
 try dsimp only
 refine au [3,4,1,26,14] ?_
 refine q9 qcf ?_
 rintro x44 e44 ⟨a45, c46⟩
 refine au [5,0,2] ?_
 refine qe (fun ((x102, (a100, c101)) : (List Int × (Option Addr × Nat))) => ([(6, .slice a100 x102.length c101)], [], [Ro (eI .i64) 3 1 (.slice a100 x102.length c101) x102], [], kP F x102)) ?_ ?_
 refine au [3,4,1,24,2,1,0,2,17] ?_
 refine qt (fun (((x121, x122), (a119, c120)) : ((List Int × Int) × (Option Addr × Nat))) => ([(6, .slice a119 x121.length c120), (25, .slice a2 x1.length c3), (26, .int .i64 (x1.length : Int)), (27, .int .i64 x122)], [], [Ro (eI .i64) 3 1 (.slice a119 x121.length c120) x121], [SlN eN37 iN37 1 (.slice a2 x1.length c3) x1 s3])) (fun k (s : ((List Int × Int) × (Option Addr × Nat))) => qw F x1 k s.1) ((x44, 0), (a45, c46)) F ?_
 intro k139
 rintro ⟨⟨x121, x122⟩, ⟨a119, c120⟩⟩
 try dsimp only
 refine qJ (m' := qo F x1 (qw F x1 k139) x121 x122) rfl ?_
 refine av [3,4,24,4,0,2,3,10] ?_ ?_
 intro _
 refine au [11,2,3,17,3,4,27,10] ?_
 intro x148 e148 g151 b149 o150
 refine au [25,12,5,0,2,4,1,1] ?_
 refine kh 0 (qv .i64) rfl UnF.u inferInstance rfl rfl rfl rfl rfl (.inr ⟨1, rfl⟩) rfl rfl ?_
 intro x152 e152 a153 c154
 refine au [5,0,24,8,2,4,18,1,0] ?_
 exact qm ((x152, iadd .i64 x122 1), (a153, c154))
 intro _
 refine au [24,13,21,21,24,14] ?_
 exact qa (x121, (a119, c120))
 rintro ⟨x102, ⟨a100, c101⟩⟩
 try dsimp only
 refine au [3,4,1,5,0,2,9] ?_
 exact qu (a100, c101)
theorem qcg {F : Nat} {x1 : List Int} {a2 : Option Addr} {c3 : Nat} {r : List Int} (hm : qX F x1 = some r) :
    PureM Tryz.prog 128 [.slice a2 x1.length c3] [] [Ro (eI .i64) 3 1 (.slice a2 x1.length c3) x1] [] Unit (fun _ => .tuple #[]) (fun _ => []) (fun _ => [Ro (eI .i64) 3 1 (.slice a2 r.length c3) r]) := by
  unfold qX at hm
  split at hm
  · cases hm
    exact qiK Tryz.slices_Sort_int Tryz.slices_Sort_int_none (by assumption)
  · simp at hm
theorem qft {F : Nat} {x1 : Int} {x2 : Int} {x3 : Int} {r : Bool} (hm : jy F x1 x2 x3 = some r) :
    Pure Tryz.prog 148 [.int .i64 x1, .int .i64 x2, .int .i64 x3] [] Unit (fun _ => .bool r) (fun _ => []) (fun _ => []) := by
 refine qj Tryz.func148 rfl Tryz.ntmps148 rfl hm (fun w => ?_)
 refine au [25,13,3,4,5,0,2,3,4,1,1,26,3,1] ?_
 refine qk 4 (decide (x2 ≤ x1)) [(14, .bool ((decide (x2 ≤ x1)) && (decide (x1 ≤ x3))))] (fun h4 => ?_) (fun h4 => ?_) ?_
 refine qb (os := _) rfl (qi (k := 10) rfl h4 ?_)
 refine au [1,1,27,0,19] ?_
 refine qc (d := 14) (v := .bool ((decide (x2 ≤ x1)) && (decide (x1 ≤ x3)))) rfl (by rw [h4]; simp only [Bool.true_and]) ?_
 exact az [0,15]
 refine qb (os := _) rfl (qh (k := 10) rfl h4 ?_)
 refine au [7,7,7,20] ?_
 refine qc (d := 14) (v := .bool ((decide (x2 ≤ x1)) && (decide (x1 ≤ x3)))) rfl (by rw [h4]; simp only [Bool.false_and]) ?_
 exact az [0,15]
 refine qb (os := _) rfl ?_
 exact az [5,0,2,9,16]
set_option maxHeartbeats 4000000 in
theorem qfs {F : Nat} {x1 : List (Int × Int)} {a2 : Option Addr} {c3 : Nat} {r : (List Int × Int)} (hm : qaE F x1 = some r) :
    Pure Tryz.prog 139 [.slice a2 x1.length c3] [Sl eS141 2 (.slice a2 x1.length c3) x1] (Option Addr × Nat) (fun g => .tuple #[.slice g.1 r.1.length g.2, .int .i64 r.2]) (fun g => [Ro (eI .i64) 3 1 (.slice g.1 r.1.length g.2) r.1]) (fun _ => []) := by
 refine qj Tryz.func139 rfl Tryz.ntmps139 rfl hm (fun w => ?_)
 refine av [25,8,3,4,5,5,0,2,3,3,4,1,24,2,24,10,0,2,10] ?_ ?_
 intro _
 refine au [3,4,5,5,0,2,9,12,25,9] ?_
 exact qu (none, 0)
 intro _
 refine au [11,2,3,4,5,0,2] ?_
 refine qe (fun ((_, _) : (Unit × Unit)) => ([(0, .slice a2 x1.length c3)], [], [], [Sl eS141 2 (.slice a2 x1.length c3) x1], vN F x1)) ?_ ?_
 refine au [3,4,1,24,2,1,0,2,17] ?_
 refine qt (fun (((x807, x808), _) : ((Int × Int) × Unit)) => ([(0, .slice a2 x1.length c3), (4, .int .i64 x807), (14, .slice a2 x1.length c3), (15, .int .i64 (x1.length : Int)), (16, .int .i64 x808)], [], [], [Sl eS141 2 (.slice a2 x1.length c3) x1])) (fun k (s : ((Int × Int) × Unit)) => zL F x1 k s.1) ((-2, 0), ()) F ?_
 intro k863
 rintro ⟨⟨x807, x808⟩, _⟩
 try dsimp only
 refine qJ (m' := vM F x1 (zL F x1 k863) x807 x808) rfl ?_
 refine av [3,4,24,4,0,2,3,10] ?_ ?_
 intro _
 refine au [11,2,3,17,3,4,29,11] ?_
 intro x891 e891 b892 o893
 refine au [29,12,24,7] ?_
 intro g894
 refine au [22,0,2,3,17] ?_
 refine qe (fun ((x910, _) : (Bool × Unit)) => ([(0, .slice a2 x1.length c3), (4, .int .i64 x807), (6, .pointer (some ⟨g894, 0, none⟩)), (14, .slice a2 x1.length c3), (15, .int .i64 (x1.length : Int)), (16, .int .i64 x808), (20, .bool x910)], [⟨g894, 141, [.int .i64 x891.1, .int .i64 x891.2]⟩], [], [Sl eS141 2 (.slice a2 x1.length c3) x1], ym F (zL F x1 k863) x807 x808 x891 x910)) ?_ ?_
 refine au [3,4,13,24,1,32,14] ?_
 intro x913 e913 _
 refine av [25,5,5,0,2,10] ?_ ?_
 intro _
 refine au [11] ?_
 exact qa ((!x913), ())
 intro _
 refine au [3,4,13,24,1,32,14] ?_
 intro x914 e914 _
 refine av [25,5,5,0,2,10] ?_ ?_
 intro _
 refine au [11] ?_
 exact qa ((!x914), ())
 intro _
 refine au [4,13,24,1,13,24,1,18,24,15,24,10,5,0] ?_
 exact qa ((decide (1048576 < (isub .i64 (iadd .i64 x891.1 x891.2) 1))), ())
 rintro ⟨x910, _⟩
 try dsimp only
 refine av [10] ?_ ?_
 intro _
 refine au [3,4,5,5,0,2,9,24,5,12,24,5,12,12,24,5,12,25,9] ?_
 exact qu (none, 0)
 intro _
 refine av [3,4,13,24,1,1,18,24,4,5,0,2,10] ?_ ?_
 intro _
 refine au [3,4,5,5,0,2,9,24,5,12,24,5,12,12,24,5,12,25,9] ?_
 exact qu (none, 0)
 intro _
 refine au [11,24,8,2,4,13,24,1,13,24,1,18,24,15,5,0,24,8,2,4,18,1,0] ?_
 exact qm ((isub .i64 (iadd .i64 x891.1 x891.2) 1, iadd .i64 x808 1), ())
 intro _
 exact az [24,13,21,21,24,14,25,15]
 rintro ⟨_, _⟩
 try dsimp only
 refine au [3,4,5,0,2] ?_
 refine qe (fun ((x462, (a460, c461)) : (List Int × (Option Addr × Nat))) => ([(7, .slice a460 x462.length c461)], [], [Ro (eI .i64) 3 1 (.slice a460 x462.length c461) x462], [], qbo F x462)) ?_ ?_
 refine au [3,4,1,24,2,1,0,2,17,27,1] ?_
 refine qt (fun (((x560, x561), (a558, c559)) : ((List Int × Int) × (Option Addr × Nat))) => ([(7, .slice a558 x560.length c559), (49, .slice a2 x1.length c3), (50, .int .i64 (x1.length : Int)), (51, .int .i64 x561)], [], [Ro (eI .i64) 3 1 (.slice a558 x560.length c559) x560], [Sl eS141 2 (.slice a2 x1.length c3) x1])) (fun k (s : ((List Int × Int) × (Option Addr × Nat))) => qS F x1 k s.1) ((([] : List Int), 0), (none, 0)) F ?_
 intro k657
 rintro ⟨⟨x560, x561⟩, ⟨a558, c559⟩⟩
 try dsimp only
 refine qJ (m' := vK F x1 (qS F x1 k657) x560 x561) rfl ?_
 refine av [3,4,24,4,0,2,3,10] ?_ ?_
 intro _
 refine au [11,2] ?_
 refine qe (fun ((x706, (a704, c705)) : (List Int × (Option Addr × Nat))) => ([(7, .slice a704 x706.length c705), (49, .slice a2 x1.length c3), (50, .int .i64 (x1.length : Int)), (51, .int .i64 x561)], [], [Ro (eI .i64) 3 1 (.slice a704 x706.length c705) x706], [Sl eS141 2 (.slice a2 x1.length c3) x1], vO F (qS F x1 k657) x561 x706)) ?_ ?_
 refine au [17,3,4,29,11] ?_
 intro x707 e707 b708 o709
 refine au [29,12,24,7] ?_
 intro g710
 refine au [22,0,2,3,4,13,24,1,1,0,2,17] ?_
 refine qt (fun (((x725, x726), (a723, c724)) : ((List Int × Int) × (Option Addr × Nat))) => ([(7, .slice a723 x725.length c724), (9, .pointer (some ⟨g710, 0, none⟩)), (49, .slice a2 x1.length c3), (50, .int .i64 (x1.length : Int)), (51, .int .i64 x561), (56, .int .i64 x707.2), (57, .int .i64 x726)], [⟨g710, 141, [.int .i64 x707.1, .int .i64 x707.2]⟩], [Ro (eI .i64) 3 1 (.slice a723 x725.length c724) x725], [Sl eS141 2 (.slice a2 x1.length c3) x1])) (fun k (s : ((List Int × Int) × (Option Addr × Nat))) => kv F (qS F x1 k657) x561 x707 k s.1) ((x560, 0), (a558, c559)) F ?_
 intro k739
 rintro ⟨⟨x725, x726⟩, ⟨a723, c724⟩⟩
 try dsimp only
 refine qJ (m' := vL F (qS F x1 k657) x561 x707 (kv F (qS F x1 k657) x561 x707 k739) x725 x726) rfl ?_
 refine av [3,4,24,4,0,2,3,10] ?_ ?_
 intro _
 refine au [11,2,3,17,3,4,1,5,0,2,4,1,13,24,1,1,18] ?_
 refine qF (vs := [.int .i64 (iadd .i64 x707.1 x726)]) (ys := ([iadd .i64 x707.1 x726] : List Int)) (qv .i64) (by decide) rfl Tryz.underlying37 tf3 rfl rfl rfl rfl rfl (by decide) (fun a746 c747 => kh 1 (qv .i64) rfl Tryz.underlying37 tf3 rfl rfl rfl rfl rfl (.inl ⟨0, _, rfl⟩) rfl rfl (fun x748 e748 a749 c750 => ?_))
 refine au [5,0,24,8,2,4,18,1,0] ?_
 exact qm ((x748, iadd .i64 x726 1), (a749, c750))
 intro _
 refine au [24,13,21,21,24,14,24,8] ?_
 exact qa (x725, (a723, c724))
 rintro ⟨x706, ⟨a704, c705⟩⟩
 try dsimp only
 refine au [4,18,1,0] ?_
 exact qm ((x706, iadd .i64 x561 1), (a704, c705))
 intro _
 refine au [24,13,21,21,24,14] ?_
 exact qa (x560, (a558, c559))
 rintro ⟨x462, ⟨a460, c461⟩⟩
 try dsimp only
 refine au [3,4,1,5,5,0,2,9] ?_
 exact qu (a460, c461)
theorem qbu {F : Nat} {x1 : List Int} {a2 : Option Addr} {c3 : Nat} {r : List Int} (hm : zw F x1 = some r) :
    PureM Tryz.prog 140 [.slice a2 x1.length c3] [] [Ro (eI .i64) 3 1 (.slice a2 x1.length c3) x1] [] (Option Addr × Nat) (fun g => .slice g.1 r.length g.2) (fun _ => []) (fun g => [Ro (eI .i64) 3 1 (.slice g.1 r.length g.2) r]) := by
  unfold zw at hm
  split at hm
  · cases hm
    exact qfv Tryz.slices_Compact_int Tryz.slices_Compact_int_empty (by assumption)
  · simp at hm
theorem qbS {F : Nat} {x1 : List Int} {a2 : Option Addr} {c3 : Nat} {r : List Int} (hm : kI F x1 = some r) :
    Pure Tryz.prog 141 [.slice a2 x1.length c3] [Sl (eI .i64) 1 (.slice a2 x1.length c3) x1] (Option Addr × Nat) (fun g => .slice g.1 r.length g.2) (fun g => [Ro (eI .i64) 3 1 (.slice g.1 r.length g.2) r]) (fun _ => []) := by
 refine qj Tryz.func141 rfl Tryz.ntmps141 rfl hm (fun w => ?_)
 refine av [25,8,3,4,5,0,2,3,3,4,1,30,10,0,2,30,11] ?_ ?_
 intro h11
 refine qh0 0 (qv .i64) (by decide) rfl h11 (fun h12 => ?_)
 subst h12
 refine qJ (m' := some ([] : List Int)) rfl ?_
 refine au [3,4,5,0,2,9,12,25,9] ?_
 exact qu (none, 0)
 intro _
 refine au [11,2,3,4] ?_
 refine qF (vs := []) (ys := ([] : List Int)) (qv .i64) (by decide) rfl UnF.u inferInstance rfl rfl rfl rfl rfl (by decide) ?_
 intro a6 c7
 refine au [1,30,1] ?_
 intro x8 e8 a9 c10
 refine au [5,0,2,9] ?_
 exact qu (a9, c10)
theorem qgo {F : Nat} {x1 : List (Int × Int)} {a2 : Option Addr} {c3 : Nat} {x4 : List Int} {a5 : Option Addr} {c6 : Nat} {r : (List Int × Int)} (hm : qaR F x1 x4 = some r) :
    Pure Tryz.prog 125 [.slice a2 x1.length c3, .slice a5 x4.length c6] [Sl eS141 2 (.slice a2 x1.length c3) x1, Sl (eI .i64) 1 (.slice a5 x4.length c6) x4] (Option Addr × Nat) (fun g => .tuple #[.slice g.1 r.1.length g.2, .int .i64 r.2]) (fun g => [Ro (eI .i64) 3 1 (.slice g.1 r.1.length g.2) r.1]) (fun _ => []) := by
 refine qj Tryz.func125 rfl Tryz.ntmps125 rfl hm (fun w => ?_)
 refine au [24,12,3,4,5,5,0,2,3,4,1] ?_
 refine qg qfs ?_
 rintro x7 e7 ⟨a8, c9⟩
 refine au [1,14,14,5,5,0,2] ?_
 refine qe (fun ((x12, _) : (Int × Unit)) => ([(1, .slice a5 x4.length c6), (6, .slice a8 x7.1.length c9), (7, .int .i64 x12)], [], [Ro (eI .i64) 3 1 (.slice a8 x7.1.length c9) x7.1], [Sl (eI .i64) 1 (.slice a5 x4.length c6) x4], vg F x4 x7 x12)) ?_ ?_
 refine av [3,4,1,24,9,0,2,10] ?_ ?_
 intro _
 refine au [4,1,28,1] ?_
 intro x38 e38 _
 refine au [5,0] ?_
 exact qa (x38, ())
 intro _
 refine au [11] ?_
 exact qa (x7.2, ())
 rintro ⟨x12, _⟩
 try dsimp only
 refine av [3,3,4,1,25,0,0,2,10] ?_ ?_
 intro _
 refine au [3,4,1,5,5,0,2,9,12,25,9] ?_
 exact qu (none, 0)
 intro _
 refine au [11,2,3,4,1,1,32,15] ?_
 refine qF (vs := [.slice a8 x7.1.length c9, .slice a5 x4.length c6]) (ys := ([(x7.1, (a8, c9)), (x4, (a5, c6))] : List (List Int × (Option Addr × Nat)))) vQ (by decide) rfl Tryz.underlying22 tf37 rfl rfl rfl rfl rfl (by decide) (fun a14 c15 => qf6 (inn := iN37) ([x7.1, x4] : List (List Int)) ([(a8, c9), (a5, c6)] : List (Option Addr × Nat)) 0 rfl rfl (qB 0 rfl (qB 1 rfl jQ)) ?_)
 refine au [33,0] ?_
 rintro x16 e16 ⟨a17, c18⟩
 refine au [5,0,2,3,4,1,33,1] ?_
 intro x19 e19 _
 refine au [26,4] ?_
 intro h20
 replace h20 := of_decide_eq_true h20
 refine qc (d := 8) (v := .slice a17 x19.length c18) rfl (by rw [h20] <;> rfl) (qc (d := 24) (v := .slice a17 x19.length c18) rfl (by rw [h20] <;> rfl) (qc (d := 25) (v := .slice a17 x19.length c18) rfl (by rw [h20] <;> rfl) ?_))
 refine au [0,2,3,17,3,4,1] ?_
 refine qg qbS ?_
 rintro x29 e29 ⟨a30, c31⟩
 refine q9 qbu ?_
 rintro x32 e32 ⟨a33, c34⟩
 refine av [24,2,1,24,2,24,4,5,0,2,10] ?_ ?_
 intro _
 refine au [3,4,5,5,0,2,9,24,5,12,25,9] ?_
 exact qu (none, 0)
 intro _
 refine av [3,4,1,24,2,24,10,5,0,2,10] ?_ ?_
 intro _
 refine au [3,4,5,5,0,2,9,24,5,12,25,9] ?_
 exact qu (none, 0)
 intro _
 refine au [11,24,8,2,3,4,1,5,5,0,2,9] ?_
 exact qu (a17, c18)
theorem qcR {F : Nat} {x1 : Int} {x2 : List Int} {a3 : Option Addr} {c4 : Nat} {x5 : Int} {x6 : Int} {r : (Int × Int × Bool)} (hm : qU F x1 x2 x5 x6 = some r) :
    Pure Tryz.prog 149 [.agg #[.int .i64 x1, .slice a3 x2.length c4], .int .i64 x5, .int .u64 x6] [Sl (eI .u8) 1 (.slice a3 x2.length c4) x2] Unit (fun _ => .tuple #[.int .u64 r.1, .int .i64 r.2.1, .bool r.2.2]) (fun _ => []) (fun _ => []) := by
 refine qj Tryz.func149 rfl Tryz.ntmps149 rfl hm (fun w => ?_)
 refine au [25,13,3,4,24,3] ?_
 intro g7
 refine au [5,5,5,0,2,3,4,1,31,15] ?_
 intro x8 e8 _
 refine au [1,14,14,5,5,0,2] ?_
 refine qe (fun ((_, _) : (Unit × Unit)) => ([(1, .int .i64 x5), (3, .pointer (some ⟨g7, 0, none⟩)), (9, .int .i64 x8.1), (10, .int .u64 x8.2)], [⟨g7, 29, [.int .i64 x1, .slice a3 x2.length c4]⟩], [], [Sl (eI .u8) 1 (.slice a3 x2.length c4) x2], qW F x1 x2 x5 x8)) ?_ ?_
 refine av [3,4,1,24,10,0,2,10] ?_ ?_
 intro _
 refine au [3,4,24,11,1,1,24,15,29,1] ?_
 intro x15 e15 _
 refine av [1,14,14,5,5,0,2,3,3,4,1,25,5,0,2,10] ?_ ?_
 intro _
 exact az [3,4,5,5,5,0,2,9,12,12,16]
 intro _
 refine av [11,2,3,4,1,1,24,4,0,2,10] ?_ ?_
 intro _
 exact az [3,4,1,1,1,18,24,15,5,5,5,0,2,9,12,16]
 intro _
 exact az [11,25,15]
 intro _
 exact az [11,25,15]
 rintro ⟨_, _⟩
 try dsimp only
 refine au [3,4,24,11,1,1,29,1] ?_
 intro x14 e14 _
 exact az [1,14,14,5,5,0,2,3,4,1,1,24,15,1,1,18,1,5,5,5,0,2,9,16]
theorem qep {F : Nat} {x1 : Int} {x2 : Int} {x3 : Bool} {r : (Int × Int × Int)} (hm : jU F x1 x2 x3 = some r) :
    Pure Tryz.prog 150 [.int .u64 x1, .int .i64 x2, .bool x3] [] Unit (fun _ => .tuple #[.int .u64 r.1, .int .i64 r.2.1, .int .i64 r.2.2]) (fun _ => []) (fun _ => []) := by
 refine qj Tryz.func150 rfl Tryz.ntmps150 rfl hm (fun w => ?_)
 refine av [25,13,3,4,5,5,5,0,2,3,17,3,4,1,25,5,5,0,2,10] ?_ ?_
 intro _
 exact az [3,4,5,5,5,0,2,9,24,5,12,16]
 intro _
 refine av [3,4,1,24,10,5,0,2,10] ?_ ?_
 intro _
 exact az [3,4,5,5,5,0,2,9,24,5,12,16]
 intro _
 exact az [11,24,8,2,3,4,1,1,5,5,5,0,2,9,16]
theorem qdf {F : Nat} {x1 : Int} {x2 : List Int} {a3 : Option Addr} {c4 : Nat} {x5 : Int} {x6 : Int} {r : (Int × Int × Int)} (hm : vy F x1 x2 x5 x6 = some r) :
    Pure Tryz.prog 142 [.agg #[.int .i64 x1, .slice a3 x2.length c4], .int .i64 x5, .int .i64 x6] [Sl (eI .u8) 1 (.slice a3 x2.length c4) x2] Unit (fun _ => .tuple #[.int .u64 r.1, .int .i64 r.2.1, .int .i64 r.2.2]) (fun _ => []) (fun _ => []) := by
 refine qj Tryz.func142 rfl Tryz.ntmps142 rfl hm (fun w => ?_)
 refine au [25,13,3,4,24,3] ?_
 intro g7
 refine au [5,5,5,0,2,3,4,24,11,1,32,8] ?_
 intro x8 e8 _
 refine av [1,14,14,14,5,5,5,0,2,3,3,4,1,25,5,0,2,10] ?_ ?_
 intro _
 exact az [3,4,5,5,5,0,2,9,12,16]
 intro _
 refine av [11,2,3,3,4,1,1,25,6,33,2,26,3,0,2,10] ?_ ?_
 intro _
 exact az [3,4,5,5,5,0,2,9,12,16]
 intro _
 refine au [11,2,3,4,1,25,6,1,33,2,26,4] ?_
 intro h11
 refine qek rfl rfl rfl rfl h11 ?_
 refine au [5,26,5] ?_
 intro x12 e12
 refine qc (d := 12) (v := .int .u64 x12) rfl (by rw [e12] <;> rfl) ?_
 refine au [0,2,3,27,11] ?_
 intro h17
 refine qs mixed [] [⟨g7, 29, [.int .i64 x1, .slice a3 x2.length c4]⟩] [Sl (eI .u8) 1 (.slice a3 x2.length c4) x2] (.cons 0 rfl .nil) (qO 0 rfl qr) 15 rfl (ke 0 (.agg #[.int .i64 x1, .slice a3 x2.length c4]) rfl rfl rfl (zd (i := 0) rfl tf29 rfl rfl (by simp) rfl) ?_)
 refine au [6,1,6,2,6,3] ?_
 refine qn 4 (.int .u64 (ishl .u64 x12 x6)) rfl rfl rfl (qd1 rfl rfl h17) ?_
 refine au [6,5,6,6,24,0,7] ?_
 refine qg qcR ?_
 intro x20 e20 _
 refine au [0,29,6,6,8,6,9,6,10,6,11,6,12,6,13,6,14,24,6] ?_
 refine qy ?_ (by intro c h; cases h)
 refine au [2,3,4,1,1,18,24,15,1,1] ?_
 refine qg qep ?_
 intro x21 e21 _
 exact az [14,14,14,5,5,5,0,2,9,16]
theorem qcQ {F : Nat} {g1 : Nat} {x2 : Int} {x3 : Bool} {x4 : Int} {r : (Bool × Int × Bool)} (hm : zy F x2 x3 x4 = some r) :
    PureM Tryz.prog 143 [.pointer (some ⟨g1, 0, none⟩), .int .u64 x4] [⟨g1, 162, [.int .i64 x2, .bool x3]⟩] [] [] Unit (fun _ => .bool r.1) (fun _ => [⟨g1, 162, [.int .i64 r.2.1, .bool r.2.2]⟩]) (fun _ => []) := by
 refine zC Tryz.func143 rfl Tryz.ntmps143 rfl hm (fun w => ?_)
 refine av [24,12,3,4,5,0,2,3,3,4,1,24,10,0,2,10] ?_ ?_
 intro _
 exact az [3,4,5,0,2,9,12,29,13]
 intro _
 refine au [11,2] ?_
 refine qe (fun ((x8, _) : (Int × Unit)) => ([(0, .pointer (some ⟨g1, 0, none⟩))], [⟨g1, 162, [.int .i64 x8, .bool x3]⟩], [], [], zW F x8)) ?_ ?_
 refine av [3,4,1,25,1,13,24,1,0,2,10] ?_ ?_
 intro _
 refine au [4,1,25,1,13,24,1,1,25,6,18,18,25,1,13,22,0] ?_
 exact qa (iadd .i64 x2 (iadd .i64 (iconv .i64 x4) 1), ())
 intro _
 refine qs mixed [9] [] [(BlkD.is ⟨g1, 162, [.int .i64 x2, .bool x3]⟩)] .nil (qfw 0 rfl qr) 10 rfl ?_
 refine au [6,0,6,1,23,2] ?_
 refine q8 3 (.int .i64 x2) [[9]] rfl rfl rfl (jb (j := 0) rfl tf3 rfl rfl (fun _ => rfl) rfl) ?_
 refine au [6,4,24,0,5,32,10] ?_
 intro x10 e10 _
 refine au [0,29,10,6,6,6,7,23,8,24,0,9,22,0] ?_
 refine qbg 9 rfl (by kernel_rfl) .nil ?_
 refine au [24,6] ?_
 exact qy (qa (iadd .i64 x2 x10, ())) (by intro c h; cases h)
 rintro ⟨x8, _⟩
 try dsimp only
 refine au [3,4,1,25,1,13,22,0,2,3,4,1,25,1,13,24,1,31,1] ?_
 intro x9 e9 _
 exact az [5,0,2,9,29,13]
theorem qhe {F : Nat} {x1 : Int} {x2 : List Int} {a3 : Option Addr} {c4 : Nat} {x5 : Int} {x6 : Int} {x7 : Int} {x8 : Int} {r : (List Int × Int × Int)} (hm : qbk F x1 x2 x5 x6 x7 x8 = some r) :
    Pure Tryz.prog 126 [.agg #[.int .i64 x1, .slice a3 x2.length c4], .int .i64 x5, .int .i64 x6, .int .i64 x7, .int .i64 x8] [Sl (eI .u8) 1 (.slice a3 x2.length c4) x2] (Option Addr × Nat) (fun g => .tuple #[.slice g.1 r.1.length g.2, .int .i64 r.2.1, .int .i64 r.2.2]) (fun g => [Ro (eI .i64) 3 1 (.slice g.1 r.1.length g.2) r.1]) (fun _ => []) := by
 refine qj Tryz.func126 rfl Tryz.ntmps126 rfl hm (fun w => ?_)
 refine au [29,0,3,4,24,3] ?_
 intro g9
 refine au [5,5,5,0,2,3,4,1] ?_
 refine ql (cells := [.int .i64 x6, .bool false]) rfl st162 rfl (by kernel_rfl) rfl ?_
 refine au [24,3] ?_
 intro g10
 refine au [5,0,2] ?_
 refine qe (fun (((x105, x108), (a106, c107)) : ((Int × List Int) × (Option Addr × Nat))) => ([(1, .int .i64 x105), (10, .slice a106 x108.length c107)], [], [Ro (eI .i64) 3 1 (.slice a106 x108.length c107) x108], [], qa3 F x105 x108)) ?_ ?_
 refine au [3,4,1,1,0,2,17,27,1] ?_
 refine qt (fun (((x138, x141, x142, x143, x144), (a139, c140)) : ((Int × List Int × Int × Int × Bool) × (Option Addr × Nat))) => ([(1, .int .i64 x138), (3, .int .i64 x7), (5, .pointer (some ⟨g9, 0, none⟩)), (10, .slice a139 x141.length c140), (13, .pointer (some ⟨g10, 0, none⟩)), (18, .int .i64 x8), (19, .int .i64 x142)], [⟨g10, 162, [.int .i64 x143, .bool x144]⟩, ⟨g9, 29, [.int .i64 x1, .slice a3 x2.length c4]⟩], [Ro (eI .i64) 3 1 (.slice a139 x141.length c140) x141], [Sl (eI .u8) 1 (.slice a3 x2.length c4) x2])) (fun k (s : ((Int × List Int × Int × Int × Bool) × (Option Addr × Nat))) => yE F x1 x2 x7 x8 k s.1) ((x5, ([] : List Int), 0, x6, false), (none, 0)) F ?_
 intro k173
 rintro ⟨⟨x138, x141, x142, x143, x144⟩, ⟨a139, c140⟩⟩
 try dsimp only
 refine qJ (m' := jT F x1 x2 x7 x8 (yE F x1 x2 x7 x8 k173) x138 x141 x142 x143 x144) rfl ?_
 refine av [3,4,24,4,0,2,3,10] ?_ ?_
 intro _
 refine au [11,2,3,17,3,4,5,0,2,3,3,4,25,2,1,1] ?_
 refine qg qdf ?_
 intro x190 e190 _
 refine av [1,14,14,14,5,5,5,0,2,3,4,1,25,0,0,2,10] ?_ ?_
 intro _
 refine au [3,4,1,5,5,5,0,2,9,12,24,5,12,12,24,5,12,25,9] ?_
 exact qu (none, 0)
 intro _
 refine au [11,2,3,3,4,1,1] ?_
 refine q9 qcQ ?_
 intro x193 e193 _
 refine av [25,5,0,2,10] ?_ ?_
 intro _
 refine au [3,4,5,5,5,0,2,9,12,24,5,12,12,24,5,12,25,9] ?_
 exact qu (none, 0)
 intro _
 refine au [11,2,4,1,1,25,1,13,24,1] ?_
 refine qF (vs := [.int .i64 x193.2.1]) (ys := ([x193.2.1] : List Int)) (qv .i64) (by decide) rfl Tryz.underlying37 tf3 rfl rfl rfl rfl rfl (by decide) (fun a194 c195 => kh 1 (qv .i64) rfl Tryz.underlying37 tf3 rfl rfl rfl rfl rfl (.inl ⟨0, _, rfl⟩) rfl rfl (fun x196 e196 a197 c198 => ?_))
 refine au [5,0,24,8,2,4,18,1,0] ?_
 exact qm ((x190.2.1, x196, iadd .i64 x142 1, x193.2.1, x193.2.2), (a197, c198))
 intro _
 refine au [24,13,21,21,24,14] ?_
 exact qa ((x138, x141), (a139, c140))
 rintro ⟨⟨x105, x108⟩, ⟨a106, c107⟩⟩
 try dsimp only
 refine au [3,4,1,1,5,5,5,0,2,9] ?_
 exact qu (a106, c107)
set_option maxHeartbeats 4000000 in
theorem qcV (F : Nat) (g1 : Nat) (x2 : Int) (x3 : List Int) (a4 : Option Addr) (c5 : Nat) (x6 : Int) (x7 : Int) (x8 : List Int) (a9 : Option Addr) (c10 : Nat) (x11 : Int) (x12 : Int) (x13 : Int) (r : ((List Int × Int × Int) ⊕ (Int × Int))) (hm : kQ F x2 x3 x6 x7 x8 x11 x12 x13 = some r) :
    PureL Tryz.prog 107 [.pointer (some ⟨g1, 0, none⟩), .int .i64 x7, .slice a9 x8.length c10, .agg #[.int .i64 x11, .int .i64 x12, .int .i64 x13]] [⟨g1, 137, [.int .i64 x2, .slice a4 x3.length c5, .int .i64 x6]⟩] [] [Sl (eI .u8) 1 (.slice a4 x3.length c5) x3, Sl (eI .i64) 1 (.slice a9 x8.length c10) x8] lostCh (Option Addr × Nat) (fun (r : (List Int × Int × Int)) (g : (Option Addr × Nat)) => .slice g.1 r.1.length g.2) (fun (r : (List Int × Int × Int)) (_ : (Option Addr × Nat)) => [⟨g1, 137, [.int .i64 r.2.1, .slice a4 x3.length c5, .int .i64 r.2.2]⟩]) (fun (r : (List Int × Int × Int)) (g : (Option Addr × Nat)) => [Ro (eI .i64) 3 1 (.slice g.1 r.1.length g.2) r.1]) (fun (z : (Int × Int)) => [⟨g1, 137, [.int .i64 z.1, .slice a4 x3.length c5, .int .i64 z.2]⟩]) r := by
 refine qcq Tryz.func107 rfl Tryz.ntmps107 rfl hm (fun w => ?_)
 refine au [26,9,3,4,24,3] ?_
 intro g14
 refine au [5,0,2,3,4,1] ?_
 refine zD ent121 rfl rfl rfl (fun x15 e15 => zR F g1 x2 x3 a4 c5 x6 300 x15 e15) (.cons 1 rfl .nil) .nil (.consF 0 rfl .nil) (fun x16 _ => ?_) (fun x15 e15 => ?_)
 exact az [25,4,26,2]
 intro _
 refine av [5,0,2,3,3,4,1,24,9,0,2,10] ?_ ?_
 intro _
 refine au [3,4,5,0,2,9,12,25,9] ?_
 exact qal (none, 0) (.inl rfl) (res1 rfl rfl) rfl (.cons 0 rfl .nil) (.cons 0 rfl .nil)
 intro _
 refine au [11,2,3,4,5,0,2] ?_
 refine qe (fun (((x31, x32, x33), (a29, c30)) : ((List Int × Int × Int) × (Option Addr × Nat))) => ([(0, .pointer (some ⟨g1, 0, none⟩)), (1, .int .i64 x7), (7, .pointer (some ⟨g14, 0, none⟩)), (9, .int .i64 x15.1), (10, .slice a29 x31.length c30)], [⟨g1, 137, [.int .i64 x32, .slice a4 x3.length c5, .int .i64 x33]⟩, ⟨g14, 26, [.int .i64 x11, .int .i64 x12, .int .i64 x13]⟩], [Ro (eI .i64) 3 1 (.slice a29 x31.length c30) x31], [Sl (eI .u8) 1 (.slice a4 x3.length c5) x3], zX F x3 x7 x12 x13 x15 x31 x32 x33)) ?_ ?_
 refine av [3,4,13,25,3,24,10,0,2,10] ?_ ?_
 intro _
 refine au [3,4,5,0,2,3,4,1,1,1,24,2] ?_
 refine zD ent123 rfl rfl rfl (fun x72 e72 => qcj F g1 x15.2.1 x3 a4 c5 x15.2.2 (x8.length : Int) x72 e72) (.cons 0 rfl .nil) .nil (.consF 0 rfl .nil) (fun x73 _ => ?_) (fun x72 e72 => ?_)
 exact az [25,4,25,4,26,2]
 rintro ⟨a74, c75⟩
 refine qg qgn ?_
 rintro x76 e76 ⟨a77, c78⟩
 refine au [1,14,14,5,5,0,2,4,1,24,9,1] ?_
 refine qk 5 ((x76.2 : Int) == 0) [(0, .pointer (some ⟨g1, 0, none⟩)), (1, .int .i64 x7), (7, .pointer (some ⟨g14, 0, none⟩)), (9, .int .i64 x15.1), (10, .slice a77 x76.1.length c78), (41, .bool (((x76.2 : Int) == 0) && (decide ((x76.1.length : Int) ≤ x15.1))))] (fun h79 => ?_) (fun h79 => ?_) ?_
 refine qb (os := _) rfl (qi (k := 36) rfl h79 ?_)
 refine au [1,24,2,1,27,0,19] ?_
 refine qc (d := 41) (v := .bool (((x76.2 : Int) == 0) && (decide ((x76.1.length : Int) ≤ x15.1)))) rfl (by rw [h79]; simp only [Bool.true_and]) ?_
 exact az [0,15]
 refine qb (os := _) rfl (qh (k := 36) rfl h79 ?_)
 refine au [7,7,7,7,20] ?_
 refine qc (d := 41) (v := .bool (((x76.2 : Int) == 0) && (decide ((x76.1.length : Int) ≤ x15.1)))) rfl (by rw [h79]; simp only [Bool.false_and]) ?_
 exact az [0,15]
 refine qb (os := _) rfl (zD ent108 rfl rfl rfl (fun x80 e80 => yL F (((x76.2 : Int) == 0) && (decide ((x76.1.length : Int) ≤ x15.1))) x80 e80) .nil .nil .nil (fun x81 _ => ?_) (fun x80 e80 => ?_))
 exact az [25,4,26,2]
 intro _
 refine au [0] ?_
 exact qa ((x76.1, x72.2.1, x72.2.2), (a77, c78))
 intro _
 refine au [11,25,9] ?_
 exact qa ((([] : List Int), x15.2.1, x15.2.2), (none, 0))
 rintro ⟨⟨x31, x32, x33⟩, ⟨a29, c30⟩⟩
 try dsimp only
 refine av [3,4,1,1,24,2,24,15,5,0,2,3,3,4,1,24,9,0,2,10] ?_ ?_
 intro _
 refine au [3,4,1,5,0,2,9,12] ?_
 exact qal (a29, c30) (.inl rfl) (res1 rfl rfl) rfl (.cons 0 rfl .nil) (.cons 0 rfl .nil)
 intro _
 refine au [11,2,3,4,5,0,2] ?_
 refine qe (fun (((x42, x43, x44), (a40, c41)) : ((List (Int × Int) × Int × Int) × (Option Addr × Nat))) => ([(0, .pointer (some ⟨g1, 0, none⟩)), (1, .int .i64 x7), (7, .pointer (some ⟨g14, 0, none⟩)), (10, .slice a29 x31.length c30), (12, .int .i64 (isub .i64 x15.1 (x31.length : Int))), (13, .slice a40 x42.length c41)], [⟨g1, 137, [.int .i64 x43, .slice a4 x3.length c5, .int .i64 x44]⟩, ⟨g14, 26, [.int .i64 x11, .int .i64 x12, .int .i64 x13]⟩], [Ro (eI .i64) 3 1 (.slice a29 x31.length c30) x31, Ro eS141 141 2 (.slice a40 x42.length c41) x42], [Sl (eI .u8) 1 (.slice a4 x3.length c5) x3], zY F x3 x7 x13 x15 x31 x42 x43 x44)) ?_ ?_
 refine av [3,4,13,25,3,24,10,0,2,10] ?_ ?_
 intro _
 refine au [4,1,1,13,25,3,1] ?_
 refine zD ent124 rfl rfl rfl (fun x66 e66 => qcX F g1 x32 x3 a4 c5 x33 x7 x12 (isub .i64 x15.1 (x31.length : Int)) x66 e66) (.cons 0 rfl .nil) .nil (.consF 0 rfl .nil) (fun x67 _ => ?_) (fun x66 e66 => ?_)
 exact az [25,4,26,2]
 rintro ⟨a68, c69⟩
 refine au [5,0] ?_
 exact qa ((x66.1, x66.2.1, x66.2.2), (a68, c69))
 intro _
 refine au [11] ?_
 exact qda (Int × Int) eS141 141 2 (qa ((([] : List (Int × Int)), x32, x33), (none, 0)))
 rintro ⟨⟨x42, x43, x44⟩, ⟨a40, c41⟩⟩
 try dsimp only
 refine au [3,4,1,26,14] ?_
 refine qg qgo ?_
 rintro x45 e45 ⟨a46, c47⟩
 refine au [1,14,14,5,5,0,2,3,4,1,24,9,1] ?_
 refine qk 5 ((x45.2 : Int) == 0) [(0, .pointer (some ⟨g1, 0, none⟩)), (1, .int .i64 x7), (7, .pointer (some ⟨g14, 0, none⟩)), (10, .slice a29 x31.length c30), (12, .int .i64 (isub .i64 x15.1 (x31.length : Int))), (14, .slice a46 x45.1.length c47), (71, .bool (((x45.2 : Int) == 0) && (decide ((x45.1.length : Int) ≤ (isub .i64 x15.1 (x31.length : Int))))))] (fun h48 => ?_) (fun h48 => ?_) ?_
 refine qb (os := _) rfl (qi (k := 66) rfl h48 ?_)
 refine au [1,24,2,1,27,0,19] ?_
 refine qc (d := 71) (v := .bool (((x45.2 : Int) == 0) && (decide ((x45.1.length : Int) ≤ (isub .i64 x15.1 (x31.length : Int)))))) rfl (by rw [h48]; simp only [Bool.true_and]) ?_
 exact az [0,15]
 refine qb (os := _) rfl (qh (k := 66) rfl h48 ?_)
 refine au [7,7,7,7,20] ?_
 refine qc (d := 71) (v := .bool (((x45.2 : Int) == 0) && (decide ((x45.1.length : Int) ≤ (isub .i64 x15.1 (x31.length : Int)))))) rfl (by rw [h48]; simp only [Bool.false_and]) ?_
 exact az [0,15]
 refine qb (os := _) rfl (zD ent108 rfl rfl rfl (fun x49 e49 => yL F (((x45.2 : Int) == 0) && (decide ((x45.1.length : Int) ≤ (isub .i64 x15.1 (x31.length : Int))))) x49 e49) .nil .nil .nil (fun x50 _ => ?_) (fun x49 e49 => ?_))
 exact az [25,4,26,2]
 intro _
 refine au [0,2,3] ?_
 refine qs mixed [] [⟨g1, 137, [.int .i64 x43, .slice a4 x3.length c5, .int .i64 x44]⟩, ⟨g14, 26, [.int .i64 x11, .int .i64 x12, .int .i64 x13]⟩] [Sl (eI .u8) 1 (.slice a4 x3.length c5) x3] (.cons 0 rfl (.cons 0 rfl .nil)) (qO 0 rfl qr) 23 rfl ?_
 refine au [6,0,6,1,23,2] ?_
 refine ke 3 (.agg #[.int .i64 x43, .slice a4 x3.length c5]) rfl rfl rfl (zd (i := 0) rfl tf29 rfl rfl (by simp) rfl) ?_
 refine au [6,4,6,5,23,6,25,10,7,6,8,23,9,26,7,10,6,11,6,12,27,13,13,6,14,24,0,15] ?_
 refine qg qhe ?_
 rintro x54 e54 ⟨a55, c56⟩
 refine au [0,29,14,6,16,6,17,6,18,6,19,6,20,6,21,6,22,24,6] ?_
 refine qy ?_ (by intro c h; cases h)
 refine au [2,3,4,1,24,9] ?_
 refine zD ent108 rfl rfl rfl (fun x57 e57 => yL F ((x54.2.2 : Int) == 0) x57 e57) .nil .nil .nil (fun x58 _ => ?_) (fun x57 e57 => ?_)
 exact az [25,4,26,2]
 intro _
 refine au [0,2,3,4,1,1,25,1,13,22,0,2,3,4,1,1,1] ?_
 refine qc7 3 rfl (qc7 1 rfl ?_)
 refine au [32,15] ?_
 refine qF (vs := [.slice a29 x31.length c30, .slice a46 x45.1.length c47, .slice a55 x54.1.length c56]) (ys := ([(x31, (a29, c30)), (x45.1, (a46, c47)), (x54.1, (a55, c56))] : List (List Int × (Option Addr × Nat)))) vQ (by decide) rfl Tryz.underlying22 tf37 rfl rfl rfl rfl rfl (by decide) (fun a59 c60 => qf6 (inn := iN37) ([x31, x45.1, x54.1] : List (List Int)) ([(a29, c30), (a46, c47), (a55, c56)] : List (Option Addr × Nat)) 0 rfl rfl (qB 2 rfl (qB 1 rfl (qB 0 rfl jQ))) ?_)
 refine au [33,0] ?_
 rintro x61 e61 ⟨a62, c63⟩
 refine au [5,0,2,3,4,1,33,1] ?_
 intro x64 e64 _
 refine au [26,4] ?_
 intro h65
 replace h65 := of_decide_eq_true h65
 refine qc (d := 10) (v := .slice a62 x64.length c63) rfl (by rw [h65] <;> rfl) (qc (d := 104) (v := .slice a62 x64.length c63) rfl (by rw [h65] <;> rfl) (qc (d := 105) (v := .slice a62 x64.length c63) rfl (by rw [h65] <;> rfl) ?_))
 refine au [0,2,3,4,1,5,0,2,9] ?_
 exact qal (a62, c63) (.inl rfl) (res1 rfl rfl) rfl (.cons 0 rfl .nil) (.cons 0 rfl .nil)
set_option maxHeartbeats 4000000 in
theorem qcW {F : Nat} {g1 : Nat} {x2 : Int} {x3 : List Int} {a4 : Option Addr} {c5 : Nat} {x6 : Int} {x7 : Int} {x8 : List Int} {a9 : Option Addr} {c10 : Nat} {x11 : Int} {x12 : Int} {x13 : Int} {r : (List Int × Bool × Int × Int)} (hm : kR F x2 x3 x6 x7 x8 x11 x12 x13 = some r) :
    PureM Tryz.prog 83 [.pointer (some ⟨g1, 0, none⟩), .int .i64 x7, .slice a9 x8.length c10, .agg #[.int .i64 x11, .int .i64 x12, .int .i64 x13]] [⟨g1, 137, [.int .i64 x2, .slice a4 x3.length c5, .int .i64 x6]⟩] [] [Sl (eI .u8) 1 (.slice a4 x3.length c5) x3, Sl (eI .i64) 1 (.slice a9 x8.length c10) x8] (Option Addr × Nat) (fun g => .tuple #[.slice g.1 r.1.length g.2, .bool r.2.1]) (fun _ => [⟨g1, 137, [.int .i64 r.2.2.1, .slice a4 x3.length c5, .int .i64 r.2.2.2]⟩]) (fun g => [Ro (eI .i64) 3 1 (.slice g.1 r.1.length g.2) r.1]) := by
 refine qls Tryz.func83 rfl Tryz.ntmps83 rfl hm (fun w => ?_)
 refine au [26,9,3,4,24,3] ?_
 intro g14
 refine au [24,7] ?_
 intro g15
 refine au [24,7] ?_
 intro g16
 refine au [0,2,3,4,28,10] ?_
 refine qkp rfl rfl ?_
 refine au [0,2,3,4,1,25,1,13,26,6,5,0,2,3,4,1,1,1,25,14] ?_
 refine zD ent107 rfl rfl rfl (fun x17 e17 => qcV F g1 x2 x3 a4 c5 x6 x7 x8 a9 c10 x11 x12 x13 x17 e17) (.cons 3 rfl .nil) .nil (.consF 0 rfl (.consF 1 rfl .nil)) (fun x18 _ => ?_) (fun x17 e17 => ?_)
 refine au [25,4] ?_
 refine qbh ent106 rfl (.cons 2 rfl (.cons 1 rfl .nil)) (qds _ _ _ _) ?_
 refine au [25,9] ?_
 exact yK (none, 0) (resL (rs := [.cell 8 37, .cell 9 4]) rfl (.cell (i := 0) rfl tf37 rfl rfl (fun _ => rfl) rfl (.cell (i := 1) rfl tf4 rfl rfl (fun _ => rfl) rfl ResOk.nil)) rfl) (hB := fun h => by subst h; exact (.cons 2 rfl .nil)) (hR := fun h => by subst h; exact (.cons 0 rfl .nil))
 rintro ⟨a19, c20⟩
 refine au [27,2,0,2,3,4,26,11,28,1] ?_
 intro x21 e21 _
 refine au [24,9] ?_
 refine zD ent108 rfl rfl rfl (fun x22 e22 => yL F ((x21 : Int) == 0) x22 e22) .nil .nil .nil (fun x23 _ => ?_) (fun x22 e22 => ?_)
 refine au [25,4] ?_
 refine qbh ent106 rfl (.cons 2 rfl (.cons 1 rfl .nil)) (qds _ _ _ _) ?_
 refine au [25,9] ?_
 exact yK (none, 0) (resL (rs := [.cell 8 37, .cell 9 4]) rfl (.cell (i := 0) rfl tf37 rfl rfl (fun _ => rfl) rfl (.cell (i := 1) rfl tf4 rfl rfl (fun _ => rfl) rfl ResOk.nil)) rfl) (hB := fun h => by subst h; exact (.cons 2 rfl .nil)) (hR := fun h => by subst h; exact (.cons 0 rfl .nil))
 intro _
 refine au [0,2,3,4] ?_
 refine ql (cells := [.int .i64 0, .slice none 0 0, .bool false]) rfl st90 rfl (by kernel_rfl) rfl ?_
 refine au [24,3] ?_
 intro g24
 refine au [5,0,2,3,4,1,1,26,6,1,30,2,26,12,32,3] ?_
 rintro x25 e25 ⟨a26, c27⟩
 refine au [0,2] ?_
 refine qe (fun ((_, _) : (Unit × Unit)) => ([(0, .pointer (some ⟨g1, 0, none⟩)), (8, .pointer (some ⟨g15, 0, none⟩)), (9, .pointer (some ⟨g16, 0, none⟩)), (10, .int .i64 x6), (11, .pointer (some ⟨g24, 0, none⟩))], [⟨g24, 90, [.int .i64 x25.1, .slice a26 x25.2.1.length c27, .bool x25.2.2]⟩, ⟨g1, 137, [.int .i64 x17.2.1, .slice a4 x3.length c5, .int .i64 x17.2.2]⟩, ⟨g16, 4, [.bool false]⟩, ⟨g15, 37, [.slice a19 x17.1.length c20]⟩], [Ro (eI .u8) 5 1 (.slice a26 x25.2.1.length c27) x25.2.1, Ro (eI .i64) 3 1 (.slice a19 x17.1.length c20) x17.1], [Sl (eI .u8) 1 (.slice a4 x3.length c5) x3], kX F x3 x6 x17 x25)) ?_ ?_
 refine av [26,10] ?_ ?_
 intro h97
 refine qdY mixed [8, 9] [] [⟨g24, 90, [.int .i64 x25.1, .slice a26 x25.2.1.length c27, .bool x25.2.2]⟩, ⟨g1, 137, [.int .i64 x17.2.1, .slice a4 x3.length c5, .int .i64 x17.2.2]⟩, ⟨g16, 4, [.bool false]⟩, ⟨g15, 37, [.slice a19 x17.1.length c20]⟩, ⟨g14, 26, [.int .i64 x11, .int .i64 x12, .int .i64 x13]⟩] [Sl (eI .u8) 1 (.slice a4 x3.length c5) x3, Sl (eI .i64) 1 (.slice a9 x8.length c10) x8] (.cons 0 rfl (.cons 0 rfl (.cons 0 rfl (.cons 0 rfl (.cons 0 rfl .nil))))) (qO 0 rfl (qO 1 rfl qr)) 20 rfl ?_
 refine au [30,3,30,4,30,5] ?_
 refine qai 3 (.bool x25.2.2) rfl rfl rfl (zd (i := 0) rfl tf4 rfl rfl (fun _ => rfl) rfl) rfl ?_
 refine au [30,6,33,3] ?_
 refine qf (d := 40) (v := .bool true) rfl (by rw [h97] <;> rfl) ?_
 refine au [33,4,33,5,33,6] ?_
 refine zi 9 _ rfl rfl rfl (j7 rfl inferInstance) rfl (qai 10 (.int .i64 x25.1) rfl rfl rfl (zd (i := 0) rfl tf3 rfl rfl (fun _ => rfl) rfl) rfl ?_)
 refine au [33,7,33,8] ?_
 refine zi 13 _ rfl rfl rfl (j7 rfl inferInstance) rfl (qai 14 (.int .i64 x17.2.2) rfl rfl rfl (zd (i := 1) rfl tf3 rfl rfl (fun _ => rfl) rfl) rfl (zi 15 _ rfl rfl rfl (qbi rfl) rfl (zi 16 _ rfl rfl rfl (qbi rfl) rfl (zi 17 _ rfl rfl rfl (qbi rfl) rfl ?_))))
 refine au [33,9,24,0,19] ?_
 refine zD ent108 rfl rfl rfl (fun x98 e98 => yL F ((x25.1 : Int) == (isub .i64 x17.2.2 x6)) x98 e98) .nil .nil .nil (fun x99 _ => ?_) (fun x98 e98 => ?_)
 refine au [25,4] ?_
 refine qg2 (l' := [(8, .pointer (some ⟨g15, 0, none⟩)), (9, .pointer (some ⟨g16, 0, none⟩))]) (qcv rfl rfl (qcv rfl rfl qis)) ?_
 refine au [25,4] ?_
 refine qbh ent106 rfl (.cons 3 rfl (.cons 2 rfl .nil)) (qds _ _ _ _) ?_
 refine au [25,9] ?_
 exact yK (none, 0) (resL (rs := [.cell 8 37, .cell 9 4]) rfl (.cell (i := 0) rfl tf37 rfl rfl (fun _ => rfl) rfl (.cell (i := 1) rfl tf4 rfl rfl (fun _ => rfl) rfl ResOk.nil)) rfl) (hB := fun h => by subst h; exact (.cons 3 rfl .nil)) (hR := fun h => by subst h; exact (.cons 0 rfl .nil))
 intro _
 refine au [0,33,10,24,6] ?_
 refine qiW ?_ (by intro c h; cases h)
 exact az [25,15]
 intro h97
 refine qdY mixed [8, 9] [] [⟨g24, 90, [.int .i64 x25.1, .slice a26 x25.2.1.length c27, .bool x25.2.2]⟩, ⟨g1, 137, [.int .i64 x17.2.1, .slice a4 x3.length c5, .int .i64 x17.2.2]⟩, ⟨g16, 4, [.bool false]⟩, ⟨g15, 37, [.slice a19 x17.1.length c20]⟩, ⟨g14, 26, [.int .i64 x11, .int .i64 x12, .int .i64 x13]⟩] [Sl (eI .u8) 1 (.slice a4 x3.length c5) x3, Sl (eI .i64) 1 (.slice a9 x8.length c10) x8] (.cons 0 rfl (.cons 0 rfl (.cons 0 rfl (.cons 0 rfl (.cons 0 rfl .nil))))) (qO 0 rfl (qO 1 rfl qr)) 20 rfl ?_
 refine au [30,3,30,4,30,5] ?_
 refine qai 3 (.bool x25.2.2) rfl rfl rfl (zd (i := 0) rfl tf4 rfl rfl (fun _ => rfl) rfl) rfl ?_
 refine au [30,6,33,3] ?_
 refine qf (d := 40) (v := .bool false) rfl (by rw [h97] <;> rfl) (yc 6 rfl rfl rfl rfl (yc 7 rfl rfl rfl rfl (yc 8 rfl rfl rfl rfl (yc 9 rfl rfl rfl rfl (yc 10 rfl rfl rfl rfl (yc 11 rfl rfl rfl rfl (yc 12 rfl rfl rfl rfl (yc 13 rfl rfl rfl rfl (yc 14 rfl rfl rfl rfl (yc 15 rfl rfl rfl rfl (yc 16 rfl rfl rfl rfl (yc 17 rfl rfl rfl rfl ?_))))))))))))
 refine au [33,9,24,0,19] ?_
 refine zD ent108 rfl rfl rfl (fun x100 e100 => yL F false x100 e100) .nil .nil .nil (fun x101 _ => ?_) (fun x100 e100 => ?_)
 refine au [25,4] ?_
 refine qg2 (l' := [(8, .pointer (some ⟨g15, 0, none⟩)), (9, .pointer (some ⟨g16, 0, none⟩))]) (qcv rfl rfl (qcv rfl rfl qis)) ?_
 refine au [25,4] ?_
 refine qbh ent106 rfl (.cons 3 rfl (.cons 2 rfl .nil)) (qds _ _ _ _) ?_
 refine au [25,9] ?_
 exact yK (none, 0) (resL (rs := [.cell 8 37, .cell 9 4]) rfl (.cell (i := 0) rfl tf37 rfl rfl (fun _ => rfl) rfl (.cell (i := 1) rfl tf4 rfl rfl (fun _ => rfl) rfl ResOk.nil)) rfl) (hB := fun h => by subst h; exact (.cons 3 rfl .nil)) (hR := fun h => by subst h; exact (.cons 0 rfl .nil))
 intro _
 refine au [0,33,10,24,6] ?_
 refine qiW ?_ (by intro c h; cases h)
 exact az [25,15]
 rintro ⟨_, _⟩
 try dsimp only
 refine qe (fun ((_, _) : (Unit × Unit)) => ([(8, .pointer (some ⟨g15, 0, none⟩)), (9, .pointer (some ⟨g16, 0, none⟩))], [⟨g1, 137, [.int .i64 x17.2.1, .slice a4 x3.length c5, .int .i64 x17.2.2]⟩, ⟨g16, 4, [.bool false]⟩, ⟨g15, 37, [.slice a19 x17.1.length c20]⟩], [Ro (eI .i64) 3 1 (.slice a19 x17.1.length c20) x17.1], [Sl (eI .u8) 1 (.slice a4 x3.length c5) x3], j8 F x17)) ?_ ?_
 refine au [3,4,1,25,1,13,13,24,1,1,0,2,17] ?_
 refine qt (fun ((x75, _) : (Int × Unit)) => ([(0, .pointer (some ⟨g1, 0, none⟩)), (8, .pointer (some ⟨g15, 0, none⟩)), (9, .pointer (some ⟨g16, 0, none⟩)), (10, .int .i64 x6), (11, .pointer (some ⟨g24, 0, none⟩)), (59, .int .i64 x25.1), (60, .int .i64 x75)], [⟨g24, 90, [.int .i64 x25.1, .slice a26 x25.2.1.length c27, .bool x25.2.2]⟩, ⟨g1, 137, [.int .i64 x17.2.1, .slice a4 x3.length c5, .int .i64 x17.2.2]⟩, ⟨g16, 4, [.bool false]⟩, ⟨g15, 37, [.slice a19 x17.1.length c20]⟩], [Ro (eI .u8) 5 1 (.slice a26 x25.2.1.length c27) x25.2.1, Ro (eI .i64) 3 1 (.slice a19 x17.1.length c20) x17.1], [Sl (eI .u8) 1 (.slice a4 x3.length c5) x3])) (fun k (s : (Int × Unit)) => qY F x3 x6 x17 x25 k s.1) (0, ()) F ?_
 intro k86
 rintro ⟨x75, _⟩
 try dsimp only
 refine qJ (m' := kW F x3 x6 x17 x25 (qY F x3 x6 x17 x25 k86) x75) rfl ?_
 refine av [3,4,24,4,0,2,3,10] ?_ ?_
 intro _
 refine au [11,2,3,17,3,4,1,5,0,2] ?_
 refine qdY mixed [8, 9] [] [⟨g24, 90, [.int .i64 x25.1, .slice a26 x25.2.1.length c27, .bool x25.2.2]⟩, ⟨g1, 137, [.int .i64 x17.2.1, .slice a4 x3.length c5, .int .i64 x17.2.2]⟩, ⟨g16, 4, [.bool false]⟩, ⟨g15, 37, [.slice a19 x17.1.length c20]⟩] [Sl (eI .u8) 1 (.slice a4 x3.length c5) x3] (.cons 0 rfl (.cons 0 rfl (.cons 0 rfl (.cons 0 rfl .nil)))) (qO 0 rfl qr) 16 rfl ?_
 refine au [30,3,30,4,30,5] ?_
 refine qai 3 (.agg #[.int .i64 x25.1, .slice a26 x25.2.1.length c27]) rfl rfl rfl (zd (i := 0) rfl tf29 rfl rfl (by simp) rfl) rfl ?_
 refine au [30,6,33,4,33,5,33,6] ?_
 refine qai 9 (.agg #[.int .i64 x17.2.1, .slice a4 x3.length c5]) rfl rfl rfl (zd (i := 1) rfl tf29 rfl rfl (by simp) rfl) rfl (zi 10 _ rfl rfl rfl (qbi rfl) rfl ?_)
 refine au [33,7,33,8,24,0,5,28,0] ?_
 intro x92 e92 _
 refine au [0,30,7,24,0,13,28,0] ?_
 intro x93 e93 _
 refine au [0,30,7] ?_
 refine zi 14 _ rfl rfl rfl (qbi rfl) rfl ?_
 refine au [24,0,15] ?_
 refine zD ent108 rfl rfl rfl (fun x94 e94 => yL F ((x92 : Int) == x93) x94 e94) .nil .nil .nil (fun x95 _ => ?_) (fun x94 e94 => ?_)
 refine au [25,4] ?_
 refine qg2 (l' := [(8, .pointer (some ⟨g15, 0, none⟩)), (9, .pointer (some ⟨g16, 0, none⟩))]) (qcv rfl rfl (qcv rfl rfl qis)) ?_
 refine au [27,4,25,4,25,4,27,4,25,4] ?_
 refine qbh ent106 rfl (.cons 3 rfl (.cons 2 rfl .nil)) (qds _ _ _ _) ?_
 refine au [25,9] ?_
 exact yK (none, 0) (resL (rs := [.cell 8 37, .cell 9 4]) rfl (.cell (i := 0) rfl tf37 rfl rfl (fun _ => rfl) rfl (.cell (i := 1) rfl tf4 rfl rfl (fun _ => rfl) rfl ResOk.nil)) rfl) (hB := fun h => by subst h; exact (.cons 3 rfl .nil)) (hR := fun h => by subst h; exact (.cons 0 rfl .nil))
 intro _
 refine au [0,30,7,24,6] ?_
 refine qiW ?_ (by intro c h; cases h)
 refine au [24,8,2,4,18,1,0] ?_
 exact qm (iadd .i64 x75 1, ())
 intro _
 exact az [24,13,21,21,24,14,25,15]
 rintro ⟨_, _⟩
 try dsimp only
 refine au [3,4,26,11,27,2,25,11,0,2,9] ?_
 exact qiX (.inl rfl) ent106 rfl (qmN _ _) (yK (a19, c20) (resL (rs := [.cell 8 37, .cell 9 4]) rfl (.cell (i := 2) rfl tf37 rfl rfl (fun _ => rfl) rfl (.cell (i := 1) rfl tf4 rfl rfl (fun _ => rfl) rfl ResOk.nil)) rfl) (hB := fun h => by subst h; exact (.cons 0 rfl .nil)) (hR := fun h => by subst h; exact (.cons 0 rfl .nil)))
theorem qhm {F : Nat} {x1 : Int} {x2 : List Int} {a3 : Option Addr} {c4 : Nat} {x5 : Int} {x6 : Int} {x7 : List Int} {a8 : Option Addr} {c9 : Nat} {x10 : Int} {x11 : Int} {x12 : Int} {r : (List Int × Int × Int)} (hm : vZ F x1 x2 x5 x6 x7 x10 x11 x12 = some r) :
    Pure Tryz.prog 57 [.agg #[.int .i64 x1, .slice a3 x2.length c4], .int .i64 x5, .int .i64 x6, .slice a8 x7.length c9, .agg #[.int .i64 x10, .int .i64 x11, .int .i64 x12]] [Sl (eI .u8) 1 (.slice a3 x2.length c4) x2, Sl (eI .i64) 1 (.slice a8 x7.length c9) x7] (Option Addr × Nat) (fun g => .tuple #[.slice g.1 r.1.length g.2, .int .i64 r.2.1, .int .i64 r.2.2]) (fun g => [Ro (eI .i64) 3 1 (.slice g.1 r.1.length g.2) r.1]) (fun _ => []) := by
 refine qj Tryz.func57 rfl Tryz.ntmps57 rfl hm (fun w => ?_)
 refine au [29,0,3,4,24,3] ?_
 intro g13
 refine au [24,3] ?_
 intro g14
 refine au [5,5,5,0,2,3,4,25,2,1] ?_
 refine ql (cells := [.int .i64 x1, .slice a3 x2.length c4, .int .i64 x5]) rfl st137 rfl (by kernel_rfl) rfl ?_
 refine au [24,3] ?_
 intro g15
 refine au [5,0,2,3,4,1,1,1,25,2] ?_
 refine q9 qcW ?_
 rintro x16 e16 ⟨a17, c18⟩
 refine av [1,14,14,5,5,0,2,3,3,4,1,25,5,0,2,10] ?_ ?_
 intro _
 refine au [3,4,5,5,5,0,2,9,12,25,9] ?_
 exact qu (none, 0)
 intro _
 refine au [11,2,3] ?_
 refine qs mixed [] [⟨g15, 137, [.int .i64 x16.2.2.1, .slice a3 x2.length c4, .int .i64 x16.2.2.2]⟩, ⟨g14, 26, [.int .i64 x10, .int .i64 x11, .int .i64 x12]⟩, ⟨g13, 29, [.int .i64 x1, .slice a3 x2.length c4]⟩] [Sl (eI .u8) 1 (.slice a3 x2.length c4) x2, Sl (eI .i64) 1 (.slice a8 x7.length c9) x7] (.cons 0 rfl (.cons 0 rfl (.cons 0 rfl .nil))) (qO 0 rfl (qO 1 rfl qr)) 8 rfl ?_
 refine au [6,0,6,1,6,2,23,3,25,10,4,6,5,6,6,6,7,24,6] ?_
 refine qy ?_ (by intro c h; cases h)
 refine au [2,9] ?_
 exact qu (a17, c18)
set_option maxHeartbeats 4000000 in
theorem qgm {F : Nat} {x1 : Int} {x2 : Int} {x3 : Int} {x4 : Int} {x5 : Int} {x6 : List Int} {a7 : Option Addr} {c8 : Nat} {r : (List (List Int) × Bool)} (hm : qbW F x1 x2 x3 x4 x5 x6 = some r) :
    Pure Tryz.prog 30 [.agg #[.int .i64 x1, .int .i64 x2, .int .i64 x3, .int .i64 x4, .int .i64 x5, .slice a7 x6.length c8]] [Sl (eI .u8) 1 (.slice a7 x6.length c8) x6] (Option Addr × (Nat × List (Option Addr × Nat))) (fun g => .tuple #[.slice g.1 r.1.length g.2.1, .bool r.2]) (fun g => [RoN eN37 rN37 37 1 (.slice g.1 r.1.length g.2.1) r.1 g.2.2 []]) (fun _ => []) := by
 refine qj Tryz.func30 rfl Tryz.ntmps30 rfl hm (fun w => ?_)
 refine au [25,8,3,4,24,3] ?_
 intro g9
 refine au [5,5,0,2,3,4,5,0,2] ?_
 refine qe (fun (((x261, x262), (a259, c260)) : ((List (List Int) × Int) × (Option Addr × (Nat × List (Option Addr × Nat))))) => ([(1, .pointer (some ⟨g9, 0, none⟩)), (2, .slice a259 x261.length c260.1), (4, .int .i64 x262)], [⟨g9, 31, [.int .i64 x1, .int .i64 x2, .int .i64 x3, .int .i64 x4, .int .i64 x5, .slice a7 x6.length c8]⟩], [RoN eN37 rN37 37 1 (.slice a259 x261.length c260.1) x261 c260.2 []], [Sl (eI .u8) 1 (.slice a7 x6.length c8) x6], qaN F x5 x261 x262)) ?_ ?_
 refine au [3,4,13,24,1,1,0,2,17] ?_
 refine ql4 (List Int) (Option Addr × Nat) eN37 rN37 37 1 (qt (fun (((x348, x349, x350), (a346, c347)) : ((List (List Int) × Int × Int) × (Option Addr × (Nat × List (Option Addr × Nat))))) => ([(1, .pointer (some ⟨g9, 0, none⟩)), (2, .slice a346 x348.length c347.1), (4, .int .i64 x349), (14, .int .i64 x1), (15, .int .i64 x350)], [⟨g9, 31, [.int .i64 x1, .int .i64 x2, .int .i64 x3, .int .i64 x4, .int .i64 x5, .slice a7 x6.length c8]⟩], [RoN eN37 rN37 37 1 (.slice a346 x348.length c347.1) x348 c347.2 []], [Sl (eI .u8) 1 (.slice a7 x6.length c8) x6])) (fun k (s : ((List (List Int) × Int × Int) × (Option Addr × (Nat × List (Option Addr × Nat))))) => zT F x1 x2 x3 x4 x5 x6 k s.1) ((([] : List (List Int)), 0, 0), (none, (0, ([] : List (Option Addr × Nat))))) F ?_)
 intro k431
 rintro ⟨⟨x348, x349, x350⟩, ⟨a346, c347⟩⟩
 try dsimp only
 refine qJ (m' := jI F x1 x2 x3 x4 x5 x6 (zT F x1 x2 x3 x4 x5 x6 k431) x348 x349 x350) rfl ?_
 refine av [3,4,24,4,0,2,3,10] ?_ ?_
 intro _
 refine au [11,2] ?_
 refine qe (fun (((x472, x473), (a470, c471)) : ((List (List Int) × Int) × (Option Addr × (Nat × List (Option Addr × Nat))))) => ([(1, .pointer (some ⟨g9, 0, none⟩)), (2, .slice a470 x472.length c471.1), (4, .int .i64 x473), (14, .int .i64 x1), (15, .int .i64 x350)], [⟨g9, 31, [.int .i64 x1, .int .i64 x2, .int .i64 x3, .int .i64 x4, .int .i64 x5, .slice a7 x6.length c8]⟩], [RoN eN37 rN37 37 1 (.slice a470 x472.length c471.1) x472 c471.2 []], [Sl (eI .u8) 1 (.slice a7 x6.length c8) x6], ve F (zT F x1 x2 x3 x4 x5 x6 k431) x350 x472 x473)) ?_ ?_
 refine au [17,3,4,1,5,0,2,3,4,24,11,1,1] ?_
 refine qg qih ?_
 intro x474 e474 _
 refine av [1,14,14,14,5,5,5,0,2,3,3,4,1,25,5,0,2,10] ?_ ?_
 intro _
 refine au [3,4,5,5,0,2,9,12,24,5,12,12,24,5,12,27,15] ?_
 exact qu (none, (0, ([] : List (Option Addr × Nat))))
 intro _
 refine av [11,2,3,4,5,0,2,3,3,4,1,24,10,0,2,10] ?_ ?_
 intro _
 refine au [4,1,1,1,24,15] ?_
 refine qmc (j := 0) rfl UnF.u inferInstance rfl rfl rfl rfl ?_
 intro x482 e482 g483 h484 g485 h486
 refine qku (i := 0) rfl h484 (List.not_mem_nil) (qiS (j := 1) (p := (x482, g483)) vQ rfl rfl tf37 rfl h486 h484 rfl (fun _ => rfl) rfl rfl ?_)
 refine au [5,0,2,3,4,13,24,11,24,7] ?_
 intro g487
 refine au [22,0,2,3,4,1,13,22,0,2,3,4,13,25,2,1,1,1,24,11,30,8] ?_
 rintro x488 e488 ⟨a489, c490⟩
 refine au [1,14,14,14,5,5,5,0,2,3,3] ?_
 refine qiN (rin := rN37) (p := (x482, g483)) (i := 1) (k := 0) (.cons 1 rfl .nil) rfl rfl h484 ?_
 refine av [4,1,25,0,0,2,10] ?_ ?_
 intro _
 refine au [3,4,5,5,0,2,9,12,24,5,12,12,24,5,12,27,15] ?_
 exact qu (none, (0, ([] : List (Option Addr × Nat))))
 intro _
 refine au [11,2,4,1,1] ?_
 refine qF (vs := [.slice a489 x488.1.length c490]) (ys := ([(x488.1, (a489, c490))] : List (List Int × (Option Addr × Nat)))) vQ (by decide) rfl Tryz.underlying22 tf37 rfl rfl rfl rfl rfl (by decide) (fun a492 c493 => qc8 (rin := rN37) (i := 0) ([x488.1] : List (List Int)) ([(a489, c490)] : List (Option Addr × Nat)) rfl rfl (.cons 1 rfl .nil) (qh1 vQ rfl UnF.u inferInstance rfl rfl rfl rfl (.cons 1 rfl (.cons 0 rfl .nil)) rfl rfl ?_))
 intro x494 e494 a495 c496
 refine au [1,5,5,0,24,8] ?_
 exact qa ((x494, x488.2.1), (a495, (c496, (c347.2 ++ ([(a489, c490)] : List (Option Addr × Nat))))))
 intro _
 refine au [11,2,3,4,13,24,11,24,7] ?_
 intro g498
 refine au [22,0,2,3,4,1,13,22,0,2,3,4,13,25,2,1,1,1,24,11,26,14,30,8] ?_
 rintro x499 e499 ⟨a500, c501⟩
 refine av [1,14,14,14,5,5,5,0,2,3,3,4,1,25,0,0,2,10] ?_ ?_
 intro _
 refine au [3,4,5,5,0,2,9,12,24,5,12,12,24,5,12,27,15] ?_
 exact qu (none, (0, ([] : List (Option Addr × Nat))))
 intro _
 refine au [11,2,4,1,1] ?_
 refine qF (vs := [.slice a500 x499.1.length c501]) (ys := ([(x499.1, (a500, c501))] : List (List Int × (Option Addr × Nat)))) vQ (by decide) rfl Tryz.underlying22 tf37 rfl rfl rfl rfl rfl (by decide) (fun a503 c504 => qc8 (rin := rN37) (i := 0) ([x499.1] : List (List Int)) ([(a500, c501)] : List (Option Addr × Nat)) rfl rfl (.cons 0 rfl .nil) (qh1 vQ rfl UnF.u inferInstance rfl rfl rfl rfl (.cons 2 rfl (.cons 0 rfl .nil)) rfl rfl ?_))
 intro x505 e505 a506 c507
 refine au [1,5,5,0,24,8] ?_
 exact qa ((x505, x499.2.1), (a506, (c507, (c347.2 ++ ([(a500, c501)] : List (Option Addr × Nat))))))
 rintro ⟨⟨x472, x473⟩, ⟨a470, c471⟩⟩
 try dsimp only
 refine au [4,18,1,0] ?_
 exact qm ((x472, x473, iadd .i64 x350 1), (a470, c471))
 intro _
 refine au [24,13,21,21,24,14] ?_
 exact qa ((x348, x349), (a346, c347))
 rintro ⟨⟨x261, x262⟩, ⟨a259, c260⟩⟩
 try dsimp only
 refine au [3] ?_
 refine qs mixed [] [⟨g9, 31, [.int .i64 x1, .int .i64 x2, .int .i64 x3, .int .i64 x4, .int .i64 x5, .slice a7 x6.length c8]⟩] [Sl (eI .u8) 1 (.slice a7 x6.length c8) x6] (.cons 0 rfl .nil) (qO 0 rfl qr) 8 rfl ?_
 refine au [6,0,6,1,23,2,23,3,25,10,4,6,5,6,6,6,7,24,6] ?_
 refine qy ?_ (by intro c h; cases h)
 refine au [2,9] ?_
 exact qu (a259, c260)
theorem qbv {F : Nat} {x1 : List Int} {a2 : Option Addr} {c3 : Nat} {x4 : List Int} {a5 : Option Addr} {c6 : Nat} {r : Bool} (hm : kg F x1 x4 = some r) :
    Pure Tryz.prog 31 [.slice a2 x1.length c3, .slice a5 x4.length c6] [Sl (eI .u8) 1 (.slice a2 x1.length c3) x1, Sl (eI .u8) 1 (.slice a5 x4.length c6) x4] Unit (fun _ => .bool r) (fun _ => []) (fun _ => []) := by
 refine qj Tryz.func31 rfl Tryz.ntmps31 rfl hm (fun w => ?_)
 refine av [24,12,3,4,5,0,2,3,3,4,1,24,2,1,24,2,25,0,0,2,10] ?_ ?_
 intro _
 exact az [3,4,5,0,2,9,12,16]
 intro _
 refine au [11,2] ?_
 refine qe (fun ((_, _) : (Unit × Unit)) => ([], [], [], [], vP F)) ?_ ?_
 refine au [3,4,1,24,2,1,0,2,17] ?_
 refine qt (fun ((x154, _) : (Int × Unit)) => ([(0, .slice a2 x1.length c3), (1, .slice a5 x4.length c6), (12, .int .i64 (x1.length : Int)), (13, .int .i64 x154)], [], [], [Sl (eI .u8) 1 (.slice a2 x1.length c3) x1, Sl (eI .u8) 1 (.slice a5 x4.length c6) x4])) (fun k (s : (Int × Unit)) => qV F x1 x4 k s.1) (0, ()) F ?_
 intro k191
 rintro ⟨x154, _⟩
 try dsimp only
 refine qJ (m' := zF F x1 x4 (qV F x1 x4 k191) x154) rfl ?_
 refine av [3,4,24,4,0,2,3,10] ?_ ?_
 intro _
 refine au [11,2,3,17,3,4,1,5,0,2,3,30,0] ?_
 intro x218 e218 b219 o220 h221
 replace h221 : a2 = some ⟨b219, o220, none⟩ := h221
 refine au [33,11] ?_
 intro x222 e222 b223 o224 h225
 replace h225 : a5 = some ⟨b223, o224, none⟩ := h225
 refine qs mixed [] [] [qI b223 (o224 + x154.toNat * 1) ((eI .u8) x222), qI b219 (o220 + x154.toNat * 1) ((eI .u8) x218), Sl (eI .u8) 1 (.slice a2 x1.length c3) x1, Sl (eI .u8) 1 (.slice a5 x4.length c6) x4] .nil (qO 0 rfl (qO 1 rfl (qO 2 rfl (qO 3 rfl qr)))) 9 rfl ?_
 refine au [6,0,6,1] ?_
 refine qf (d := 16) (v := .slice (some ⟨b219, o220, none⟩) x1.length c3) rfl (by rw [h221] <;> rfl) (qn 2 (.pointer (some ⟨b219, (o220 + x154.toNat * 1), none⟩)) rfl rfl rfl (qan Tryz.underlying27 tf5 rfl rfl (qP e218).1 (v8 e218)) (qf (d := 16) (v := .slice a2 x1.length c3) rfl (by rw [h221] <;> rfl) (q8 3 (.int .u8 x218) [] rfl rfl rfl (kE (j := 1) rfl tf5 rfl rfl (fun _ => rfl) rfl) ?_)))
 refine au [6,4,6,5] ?_
 refine qf (d := 20) (v := .slice (some ⟨b223, o224, none⟩) x4.length c6) rfl (by rw [h225] <;> rfl) (qn 6 (.pointer (some ⟨b223, (o224 + x154.toNat * 1), none⟩)) rfl rfl rfl (qan Tryz.underlying27 tf5 rfl rfl (qP e222).1 (v8 e222)) (qf (d := 20) (v := .slice a5 x4.length c6) rfl (by rw [h225] <;> rfl) (q8 7 (.int .u8 x222) [] rfl rfl rfl (kE (j := 0) rfl tf5 rfl rfl (fun _ => rfl) rfl) ?_)))
 refine au [6,8,24,6] ?_
 refine qy ?_ (by intro c h; cases h)
 refine av [2,10] ?_ ?_
 intro _
 exact az [3,4,5,0,2,9,24,5,12,12,24,5,12,16]
 intro _
 refine au [11,24,8,2,4,18,1,0] ?_
 exact qm (iadd .i64 x154 1, ())
 intro _
 exact az [24,13,21,21,24,14,25,15]
 rintro ⟨_, _⟩
 try dsimp only
 exact az [3,4,5,0,2,9,16]
theorem qhg {F : Nat} {x1 : Int} {x2 : Int} {x3 : Int} {x4 : Int} {x5 : Int} {x6 : List Int} {a7 : Option Addr} {c8 : Nat} {r : (List (List Int) × Int)} (hm : qaH F x1 x2 x3 x4 x5 x6 = some r) :
    Pure Tryz.prog 10 [.agg #[.int .i64 x1, .int .i64 x2, .int .i64 x3, .int .i64 x4, .int .i64 x5, .slice a7 x6.length c8]] [Sl (eI .u8) 1 (.slice a7 x6.length c8) x6] (Option Addr × (Nat × List (Option Addr × Nat))) (fun g => .tuple #[.agg #[.slice g.1 r.1.length g.2.1], .int .i64 r.2]) (fun g => [RoN eN37 rN37 37 1 (.slice g.1 r.1.length g.2.1) r.1 g.2.2 []]) (fun _ => []) := by
 refine qj Tryz.func10 rfl Tryz.ntmps10 rfl hm (fun w => ?_)
 refine au [25,8,3,4,24,3] ?_
 intro g9
 refine au [24,7] ?_
 intro g10
 refine au [5,0,2,3,3,4,25,2] ?_
 refine qg qgk ?_
 intro x13 e13 _
 refine av [5,0,2,3,4,1,25,0,0,2,10] ?_ ?_
 intro _
 refine au [3,4] ?_
 refine ql (cells := [.slice none 0 0]) rfl st24 rfl (by kernel_rfl) rfl ?_
 refine au [1,22,5,0,2,9,12,27,15] ?_
 exact qR (none, (0, ([] : List (Option Addr × Nat)))) (resL (rs := [.cell 2 24, .tmp 3]) rfl (.cell (i := 0) rfl tf24 rfl rfl (by simp) rfl (.tmp rfl ResOk.nil)) rfl) (fun h => by subst h; exact (.cons 0 rfl .nil))
 intro _
 refine au [11,2,3,4,25,2] ?_
 refine qg qgm ?_
 rintro x14 e14 ⟨a15, c16⟩
 refine av [1,14,14,5,5,0,2,3,3,4,1,25,5,0,2,10] ?_ ?_
 intro _
 refine au [3,4] ?_
 refine ql (cells := [.slice none 0 0]) rfl st24 rfl (by kernel_rfl) rfl ?_
 refine au [22,5,0,2,9,12,27,15] ?_
 exact qR (none, (0, ([] : List (Option Addr × Nat)))) (resL (rs := [.cell 2 24, .tmp 3]) rfl (.cell (i := 0) rfl tf24 rfl rfl (by simp) rfl (.tmp rfl ResOk.nil)) rfl) (fun h => by subst h; exact (.cons 0 rfl .nil))
 intro _
 refine au [11,2,3,4,1] ?_
 refine ql (cells := [.slice a15 x14.1.length c16.1]) rfl st24 rfl (by kernel_rfl) rfl ?_
 refine au [24,7] ?_
 intro g18
 refine au [22,0,2,3,3,4,24,11,13,25,14,28,7] ?_
 rintro x28 e28 ⟨a29, c30⟩
 refine au [1,14,14,24,7] ?_
 intro g31
 refine au [22,5,0,2,3,4,1,25,0,1] ?_
 refine qE 9 (fun ((x34, _) : (Bool × Unit)) => ([(2, .pointer (some ⟨g10, 0, none⟩)), (7, .pointer (some ⟨g18, 0, none⟩)), (44, .bool x34)], [⟨g18, 24, [.slice a15 x14.1.length c16.1]⟩, ⟨g10, 24, [.slice none 0 0]⟩], [RoN eN37 rN37 37 1 (.slice a15 x14.1.length c16.1) x14.1 c16.2 []], [], jX F x14 x34)) ?_ ?_
 refine qb (os := _) rfl ?_
 refine av [25,7] ?_ ?_
 intro h32
 refine qi (k := 35) rfl h32 ?_
 refine au [7,7,7,7,7,7,7,7,19,0] ?_
 exact qa (true, ())
 intro h32
 refine qh (k := 35) rfl h32 ?_
 refine au [13,13,24,1,13,13,26,6] ?_
 refine qg qbv ?_
 intro x36 e36 _
 refine au [25,5,20,0] ?_
 exact qa ((!x36), ())
 rintro ⟨x34, _⟩
 try dsimp only
 refine qb (os := _) rfl ?_
 refine av [0,2,10] ?_ ?_
 intro _
 refine au [3,4] ?_
 refine ql (cells := [.slice none 0 0]) rfl st24 rfl (by kernel_rfl) rfl ?_
 refine au [25,11,5,0,2,9,12,27,15] ?_
 exact qR (none, (0, ([] : List (Option Addr × Nat)))) (resL (rs := [.cell 2 24, .tmp 3]) rfl (.cell (i := 1) rfl tf24 rfl rfl (by simp) rfl (.tmp rfl ResOk.nil)) rfl) (fun h => by subst h; exact (.cons 0 rfl .nil))
 intro _
 refine au [11,2,3,4,24,11,25,11,5,0,2,9] ?_
 exact qR (a15, c16) (resL (rs := [.cell 2 24, .tmp 3]) rfl (.cell (i := 1) rfl tf24 rfl rfl (by simp) rfl (.tmp rfl ResOk.nil)) rfl) (fun h => by subst h; exact (.cons 0 rfl .nil))
theorem qgg {F : Nat} {x1 : List Int} {a2 : Option Addr} {c3 : Nat} {x4 : List Int} {a5 : Option Addr} {c6 : Nat} {r : Bool} (hm : yf F x1 x4 = some r) :
    Pure Tryz.prog 18 [.slice a2 x1.length c3, .slice a5 x4.length c6] [Sl (eI .i64) 1 (.slice a2 x1.length c3) x1, Sl (eI .i64) 1 (.slice a5 x4.length c6) x4] Unit (fun _ => .bool r) (fun _ => []) (fun _ => []) := by
 refine qj Tryz.func18 rfl Tryz.ntmps18 rfl hm (fun w => ?_)
 refine av [24,12,3,4,5,0,2,3,3,4,1,24,2,1,24,2,25,0,0,2,10] ?_ ?_
 intro _
 exact az [3,4,5,0,2,9,12,16]
 intro _
 refine au [11,2] ?_
 refine qe (fun ((_, _) : (Unit × Unit)) => ([], [], [], [], qcb F)) ?_ ?_
 refine au [3,4,5,0,2,17] ?_
 refine qt (fun ((x154, _) : (Int × Unit)) => ([(0, .slice a2 x1.length c3), (1, .slice a5 x4.length c6), (5, .int .i64 x154)], [], [], [Sl (eI .i64) 1 (.slice a2 x1.length c3) x1, Sl (eI .i64) 1 (.slice a5 x4.length c6) x4])) (fun k (s : (Int × Unit)) => zS F x1 x4 k s.1) (0, ()) F ?_
 intro k191
 rintro ⟨x154, _⟩
 try dsimp only
 refine qJ (m' := va F x1 x4 (zS F x1 x4 k191) x154) rfl ?_
 refine av [3,3,4,1,1,24,2,24,4,0,2,10] ?_ ?_
 intro _
 refine au [11,2,3,17,3,31,9] ?_
 intro x218 e218 b219 o220 h221
 replace h221 : a2 = some ⟨b219, o220, none⟩ := h221
 refine qbR (j := 2) (qv .i64) (by decide) rfl ?_
 intro x222 e222 b223 o224 h225
 replace h225 : a5 = some ⟨b223, o224, none⟩ := h225
 refine qs mixed [] [] [qI b223 (o224 + x154.toNat * 1) ((eI .i64) x222), qI b219 (o220 + x154.toNat * 1) ((eI .i64) x218), Sl (eI .i64) 1 (.slice a2 x1.length c3) x1, Sl (eI .i64) 1 (.slice a5 x4.length c6) x4] .nil (qO 0 rfl (qO 1 rfl (qO 2 rfl (qO 3 rfl qr)))) 9 rfl ?_
 refine au [6,0,6,1] ?_
 refine qf (d := 17) (v := .slice (some ⟨b219, o220, none⟩) x1.length c3) rfl (by rw [h221] <;> rfl) (qn 2 (.pointer (some ⟨b219, (o220 + x154.toNat * 1), none⟩)) rfl rfl rfl (qan Tryz.underlying37 tf3 rfl rfl (qP e218).1 (v8 e218)) (qf (d := 17) (v := .slice a2 x1.length c3) rfl (by rw [h221] <;> rfl) (q8 3 (.int .i64 x218) [] rfl rfl rfl (kE (j := 1) rfl tf3 rfl rfl (fun _ => rfl) rfl) ?_)))
 refine au [6,4,6,5] ?_
 refine qf (d := 21) (v := .slice (some ⟨b223, o224, none⟩) x4.length c6) rfl (by rw [h225] <;> rfl) (qn 6 (.pointer (some ⟨b223, (o224 + x154.toNat * 1), none⟩)) rfl rfl rfl (qan Tryz.underlying37 tf3 rfl rfl (qP e222).1 (v8 e222)) (qf (d := 21) (v := .slice a5 x4.length c6) rfl (by rw [h225] <;> rfl) (q8 7 (.int .i64 x222) [] rfl rfl rfl (kE (j := 0) rfl tf3 rfl rfl (fun _ => rfl) rfl) ?_)))
 refine au [6,8,24,6] ?_
 refine qy ?_ (by intro c h; cases h)
 refine av [2,10] ?_ ?_
 intro _
 exact az [3,4,5,0,2,9,24,5,12,12,24,5,12,16]
 intro _
 refine au [11,24,8,2,4,1,18,5,0] ?_
 exact qm (iadd .i64 x154 1, ())
 intro _
 exact az [24,13,21,21,24,14,25,15]
 rintro ⟨_, _⟩
 try dsimp only
 exact az [3,4,5,0,2,9,16]
theorem qfj {F : Nat} {x1 : List (List Int)} {a2 : Option Addr} {c3 : Nat} {s3 : List (Option Addr × Nat)} {x4 : List (List Int)} {a5 : Option Addr} {c6 : Nat} {s6 : List (Option Addr × Nat)} {r : Bool} (hm : qat F x1 x4 = some r) :
    Pure Tryz.prog 39 [.slice a2 x1.length c3, .slice a5 x4.length c6] [SlN eN37 iN37 1 (.slice a2 x1.length c3) x1 s3, SlN eN37 iN37 1 (.slice a5 x4.length c6) x4 s6] Unit (fun _ => .bool r) (fun _ => []) (fun _ => []) := by
 refine qj Tryz.func39 rfl Tryz.ntmps39 rfl hm (fun w => ?_)
 refine av [24,12,3,4,5,0,2,3,3,4,1,24,2,1,24,2,25,0,0,2,10] ?_ ?_
 intro _
 exact az [3,4,5,0,2,9,12,16]
 intro _
 refine au [11,2] ?_
 refine qe (fun ((_, _) : (Unit × Unit)) => ([], [], [], [], qbH F)) ?_ ?_
 refine au [3,4,5,0,2,17] ?_
 refine qt (fun ((x202, _) : (Int × Unit)) => ([(0, .slice a2 x1.length c3), (1, .slice a5 x4.length c6), (5, .int .i64 x202)], [], [], [SlN eN37 iN37 1 (.slice a2 x1.length c3) x1 s3, SlN eN37 iN37 1 (.slice a5 x4.length c6) x4 s6])) (fun k (s : (Int × Unit)) => kM F x1 x4 k s.1) (0, ()) F ?_
 intro k251
 rintro ⟨x202, _⟩
 try dsimp only
 refine qJ (m' := jl F x1 x4 (kM F x1 x4 k251) x202) rfl ?_
 refine av [3,3,4,1,1,24,2,24,4,0,2,10] ?_ ?_
 intro _
 refine au [11,2,3,17,3] ?_
 refine qe4 (j := 0) vQ (by decide) rfl ?_
 intro x287 e287 g291 b288 o289 h290
 replace h290 : a2 = some ⟨b288, o289, none⟩ := h290
 refine qe4 (j := 3) vQ (by decide) rfl ?_
 intro x292 e292 g296 b293 o294 h295
 replace h295 : a5 = some ⟨b293, o294, none⟩ := h295
 refine qs mixed [] [] [qI b293 (o294 + x202.toNat * 1) (eN37 (x292, g296)), Sl (eI .i64) 1 (.slice g296.1 x292.length g296.2) x292, qI b288 (o289 + x202.toNat * 1) (eN37 (x287, g291)), Sl (eI .i64) 1 (.slice g291.1 x287.length g291.2) x287, SlN eN37 iN37 1 (.slice a2 x1.length c3) x1 s3, SlN eN37 iN37 1 (.slice a5 x4.length c6) x4 s6] .nil (qO 0 rfl (qO 1 rfl (qO 2 rfl (qO 3 rfl (qO 4 rfl (qO 5 rfl qr)))))) 10 rfl ?_
 refine au [6,0,6,1] ?_
 refine qf (d := 17) (v := .slice (some ⟨b288, o289, none⟩) x1.length c3) rfl (by rw [h290] <;> rfl) (qn 2 (.pointer (some ⟨b288, (o289 + x202.toNat * 1), none⟩)) rfl rfl rfl (qan Tryz.underlying22 tf37 rfl rfl (qP e287).1 (v8 e287)) (qf (d := 17) (v := .slice a2 x1.length c3) rfl (by rw [h290] <;> rfl) (q8 3 (.slice g291.1 x287.length g291.2) [] rfl rfl rfl (kE (j := 2) rfl tf37 rfl rfl (fun _ => rfl) rfl) ?_)))
 refine au [6,4,6,5] ?_
 refine qf (d := 21) (v := .slice (some ⟨b293, o294, none⟩) x4.length c6) rfl (by rw [h295] <;> rfl) (qn 6 (.pointer (some ⟨b293, (o294 + x202.toNat * 1), none⟩)) rfl rfl rfl (qan Tryz.underlying22 tf37 rfl rfl (qP e292).1 (v8 e292)) (qf (d := 21) (v := .slice a5 x4.length c6) rfl (by rw [h295] <;> rfl) (q8 7 (.slice g296.1 x292.length g296.2) [] rfl rfl rfl (kE (j := 0) rfl tf37 rfl rfl (fun _ => rfl) rfl) ?_)))
 refine au [24,0,8,33,12] ?_
 intro x297 e297 _
 refine au [0] ?_
 refine zE .nil (qO 0 rfl (qO 1 rfl (qO 2 rfl (qO 3 rfl (qO 4 rfl (qO 5 rfl qr)))))) ?_
 refine au [6,9,24,6] ?_
 refine qy ?_ (by intro c h; cases h)
 refine av [2,10] ?_ ?_
 intro _
 exact az [3,4,5,0,2,9,24,5,12,12,24,5,12,16]
 intro _
 refine au [11,24,8,2,4,1,18,5,0] ?_
 exact qm (iadd .i64 x202 1, ())
 intro _
 exact az [24,13,21,21,24,14,25,15]
 rintro ⟨_, _⟩
 try dsimp only
 exact az [3,4,5,0,2,9,16]
theorem qfi {F : Nat} {x1 : List (List Int)} {a2 : Option Addr} {c3 : Nat} {s3 : List (Option Addr × Nat)} {x4 : List (List Int)} {a5 : Option Addr} {c6 : Nat} {s6 : List (Option Addr × Nat)} {r : Bool} (hm : qas F x1 x4 = some r) :
    Pure Tryz.prog 17 [.agg #[.slice a2 x1.length c3], .agg #[.slice a5 x4.length c6]] [SlN eN37 iN37 1 (.slice a2 x1.length c3) x1 s3, SlN eN37 iN37 1 (.slice a5 x4.length c6) x4 s6] Unit (fun _ => .bool r) (fun _ => []) (fun _ => []) := by
 refine qj Tryz.func17 rfl Tryz.ntmps17 rfl hm (fun w => ?_)
 refine au [24,12,3,4,24,3] ?_
 intro g7
 refine au [24,3] ?_
 intro g8
 refine au [5,0,2,3,4,13,25,3,13,24,1] ?_
 refine qg qfj ?_
 intro x9 e9 _
 exact az [5,0,2,9,16]
theorem qfe (F : Nat)  (r : List (List Int)) (hm : vl F  = some r) :
    Pure Tryz.prog 38 [] [] (Option Addr × (Nat × List (Option Addr × Nat))) (fun g => .agg #[.slice g.1 r.length g.2.1]) (fun g => [RoN eN37 rN37 37 1 (.slice g.1 r.length g.2.1) r g.2.2 []]) (fun _ => []) := by
 refine qj Tryz.func38 rfl Tryz.ntmps38 rfl hm (fun w => ?_)
 refine au [29,3,3,4,24,7] ?_
 intro g1
 refine au [0,2,3,4] ?_
 refine qF (vs := [.int .i64 1, .int .i64 2, .int .i64 3, .int .i64 5]) (ys := ([1, 2, 3, 5] : List Int)) (qv .i64) (by decide) rfl Tryz.underlying37 tf3 rfl rfl rfl rfl rfl (by decide) (fun a2 c3 => qF (vs := [.int .i64 1, .int .i64 2, .int .i64 3, .int .i64 5]) (ys := ([1, 2, 3, 5] : List Int)) (qv .i64) (by decide) rfl Tryz.underlying37 tf3 rfl rfl rfl rfl rfl (by decide) (fun a4 c5 => qF (vs := [.int .i64 0, .int .i64 1, .int .i64 2, .int .i64 3, .int .i64 5]) (ys := ([0, 1, 2, 3, 5] : List Int)) (qv .i64) (by decide) rfl Tryz.underlying37 tf3 rfl rfl rfl rfl rfl (by decide) (fun a6 c7 => qF (vs := [.int .i64 4]) (ys := ([4] : List Int)) (qv .i64) (by decide) rfl Tryz.underlying37 tf3 rfl rfl rfl rfl rfl (by decide) (fun a8 c9 => qF (vs := [.int .i64 1, .int .i64 2, .int .i64 3]) (ys := ([1, 2, 3] : List Int)) (qv .i64) (by decide) rfl Tryz.underlying37 tf3 rfl rfl rfl rfl rfl (by decide) (fun a10 c11 => ?_)))))
 refine au [26,14] ?_
 refine qF (vs := [.slice a2 ([1, 2, 3, 5] : List Int).length c3, .slice a4 ([1, 2, 3, 5] : List Int).length c5, .slice a6 ([0, 1, 2, 3, 5] : List Int).length c7, .slice none ([] : List Int).length 0, .slice a8 ([4] : List Int).length c9, .slice a10 ([1, 2, 3] : List Int).length c11]) (ys := ([(([1, 2, 3, 5] : List Int), (a2, c3)), (([1, 2, 3, 5] : List Int), (a4, c5)), (([0, 1, 2, 3, 5] : List Int), (a6, c7)), (([] : List Int), (none, 0)), (([4] : List Int), (a8, c9)), (([1, 2, 3] : List Int), (a10, c11))] : List (List Int × (Option Addr × Nat)))) vQ (by decide) rfl Tryz.underlying22 tf37 rfl rfl rfl rfl rfl (by decide) (fun a12 c13 => qc8 (rin := rN37) (i := 0) ([([1, 2, 3, 5] : List Int), ([1, 2, 3, 5] : List Int), ([0, 1, 2, 3, 5] : List Int), ([] : List Int), ([4] : List Int), ([1, 2, 3] : List Int)] : List (List Int)) ([(a2, c3), (a4, c5), (a6, c7), (none, 0), (a8, c9), (a10, c11)] : List (Option Addr × Nat)) rfl rfl (.cons 5 rfl (.cons 4 rfl (.cons 3 rfl (.cons 0 rfl (.cons 1 rfl (.cons 0 rfl .nil)))))) (ql (cells := [.slice a12 ([([1, 2, 3, 5] : List Int), ([1, 2, 3, 5] : List Int), ([0, 1, 2, 3, 5] : List Int), ([] : List Int), ([4] : List Int), ([1, 2, 3] : List Int)] : List (List Int)).length c13]) rfl st24 rfl (by kernel_rfl) rfl ?_))
 refine au [22,0,2,9] ?_
 exact qR (a12, (c13, ([(a2, c3), (a4, c5), (a6, c7), (none, 0), (a8, c9), (a10, c11)] : List (Option Addr × Nat)))) (resL (rs := [.cell 0 24]) rfl (.cell (i := 0) rfl tf24 rfl rfl (by simp) rfl ResOk.nil) rfl) (fun h => by subst h; exact (.cons 0 rfl .nil))
set_option maxHeartbeats 4000000 in
theorem qfd (F : Nat)  (r : Bool) (hm : qap F  = some r) :
    Pure Tryz.prog 15 [] [] Unit (fun _ => .bool r) (fun _ => []) (fun _ => []) := by
 refine qj Tryz.func15 rfl Tryz.ntmps15 rfl hm (fun w => ?_)
 refine au [29,3,3,4,5,0,2,3,4] ?_
 refine ql (cells := [.int .i64 3, .int .i64 3, .int .i64 2]) rfl st26 rfl (by kernel_rfl) rfl ?_
 refine au [24,7] ?_
 intro g1
 refine au [22,0,2] ?_
 refine qe (fun (((x21, x22, x23, x24, x25, x26, x29), (g20, a27, c28)) : ((Int × Int × Int × Int × Int × Int × List Int) × (Nat × Option Addr × Nat))) => ([(1, .pointer (some ⟨g1, 0, none⟩)), (2, .pointer (some ⟨g20, 0, none⟩)), (3, .int .i64 x21)], [⟨g1, 26, [.int .i64 3, .int .i64 3, .int .i64 2]⟩, ⟨g20, 31, [.int .i64 x22, .int .i64 x23, .int .i64 x24, .int .i64 x25, .int .i64 x26, .slice a27 x29.length c28]⟩], [Ro (eI .u8) 5 1 (.slice a27 x29.length c28) x29], [], yA F x21 x22 x23 x24 x25 x26 x29)) ?_ ?_
 refine qs mixed [] [⟨g1, 26, [.int .i64 3, .int .i64 3, .int .i64 2]⟩] [] (.cons 0 rfl .nil) qr 9 rfl (ke 1 (.agg #[.int .i64 3, .int .i64 3, .int .i64 2]) rfl rfl rfl (zd (i := 0) rfl tf26 rfl rfl (by simp) rfl) (qbr 0 6 rfl rfl (by kernel_rfl) rfl rfl ?_ ?_))
 refine au [29,4] ?_
 rintro x103 e103 ⟨a104, c105⟩
 refine au [0,33,13] ?_
 refine qbr 2 6 rfl rfl (by kernel_rfl) rfl rfl ?_ ?_
 refine au [28,7] ?_
 rintro x106 e106 ⟨a107, c108⟩
 refine au [0,33,13,6,3,6,4,6,5,24,0,6,24,7] ?_
 intro g109
 refine au [0,26,15,24,0,7,22,0,26,15,6,8,24,6] ?_
 exact qy (qa ((x106.2.2.2.2.2.2, x106.1, x106.2.1, x106.2.2.1, x106.2.2.2.1, x106.2.2.2.2.1, x106.2.2.2.2.2.1), (g109, a107, c108))) (by intro c h; cases h)
 refine qbs (m' := ((yl F x103 3 3 2).bind fun x111 => yA F x111.2.2.2.2.2.2 x111.1 x111.2.1 x111.2.2.1 x111.2.2.2.1 x111.2.2.2.2.1 x111.2.2.2.2.2.1)) (rfl) ?_
 refine au [24,7] ?_
 intro g110
 refine au [0,26,15,24,0,2,28,7] ?_
 rintro x111 e111 ⟨a112, c113⟩
 refine au [0,26,15,6,3,6,4,6,5,24,0,7,22,0,26,15,6,8,24,6] ?_
 exact qy (qa ((x111.2.2.2.2.2.2, x111.1, x111.2.1, x111.2.2.1, x111.2.2.2.1, x111.2.2.2.2.1, x111.2.2.2.2.2.1), (g110, a112, c113))) (by intro c h; cases h)
 refine qbs (m' := ((vl F).bind fun x115 => ((yl F x115 3 3 2).bind fun x118 => yA F x118.2.2.2.2.2.2 x118.1 x118.2.1 x118.2.2.1 x118.2.2.2.1 x118.2.2.2.2.1 x118.2.2.2.2.2.1))) (rfl) ?_
 refine au [24,7] ?_
 intro g114
 refine au [0,26,15,24,0,0,29,4] ?_
 rintro x115 e115 ⟨a116, c117⟩
 refine au [0,26,15,24,0,2,28,7] ?_
 rintro x118 e118 ⟨a119, c120⟩
 refine au [0,26,15,6,3,6,4,6,5,24,0,7,22,0,26,15,6,8,24,6] ?_
 exact qy (qa ((x118.2.2.2.2.2.2, x118.1, x118.2.1, x118.2.2.1, x118.2.2.2.1, x118.2.2.2.2.1, x118.2.2.2.2.2.1), (g114, a119, c120))) (by intro c h; cases h)
 rintro ⟨⟨x21, x22, x23, x24, x25, x26, x29⟩, ⟨g20, a27, c28⟩⟩
 try dsimp only
 refine au [3,4,25,2,33,14] ?_
 rintro x30 e30 ⟨a31, c32⟩
 refine au [1,14,14,24,7] ?_
 intro g33
 refine au [22,5,0,2,3] ?_
 refine qs mixed [] [⟨g33, 24, [.slice a31 x30.1.length c32.1]⟩, ⟨g1, 26, [.int .i64 3, .int .i64 3, .int .i64 2]⟩, ⟨g20, 31, [.int .i64 x22, .int .i64 x23, .int .i64 x24, .int .i64 x25, .int .i64 x26, .slice a27 x29.length c28]⟩] [] (.cons 0 rfl (.cons 0 rfl (.cons 0 rfl .nil))) qr 10 rfl (ke 1 (.agg #[.int .i64 3, .int .i64 3, .int .i64 2]) rfl rfl rfl (zd (i := 1) rfl tf26 rfl rfl (by simp) rfl) ?_)
 refine au [24,0,0,29,4] ?_
 rintro x42 e42 ⟨a43, c44⟩
 refine au [0,33,15,24,0,2,34,0] ?_
 rintro x45 e45 ⟨⟨a46, c47⟩, ⟨a48, c49⟩⟩
 refine au [0,33,15,6,3,6,4,6,5,6,6,6,7,6,8,6,9,24,6] ?_
 refine qy ?_ (by intro c h; cases h)
 refine au [2,3,4,25,2] ?_
 refine ql (cells := [.int .i64 1, .int .i64 3, .int .i64 3, .int .i64 2, .int .i64 0, .slice none 0 0]) rfl st31 rfl (by kernel_rfl) rfl ?_
 refine au [26,12,33,14] ?_
 rintro x50 e50 ⟨a51, c52⟩
 refine au [1,14,14,24,7] ?_
 intro g53
 refine au [22,5,0,2] ?_
 refine qe (fun ((x78, _) : (Bool × Unit)) => ([(0, .bool x78)], [], [], [], qK F x78)) ?_ ?_
 refine av [26,10] ?_ ?_
 intro h79
 refine av [26,10] ?_ ?_
 intro h80
 refine av [26,10] ?_ ?_
 intro h81
 refine qs mixed [] [⟨g53, 24, [.slice a51 x50.1.length c52.1]⟩, ⟨g33, 24, [.slice a31 x30.1.length c32.1]⟩, ⟨g1, 26, [.int .i64 3, .int .i64 3, .int .i64 2]⟩, ⟨g20, 31, [.int .i64 x22, .int .i64 x23, .int .i64 x24, .int .i64 x25, .int .i64 x26, .slice a27 x29.length c28]⟩] [] (.cons 0 rfl (.cons 0 rfl (.cons 0 rfl (.cons 0 rfl .nil)))) qr 59 rfl ?_
 refine au [6,0,6,1,6,2] ?_
 refine qf (d := 38) (v := .bool true) rfl (by rw [h79] <;> rfl) ?_
 refine au [23,3,27,9,4,6,5,6,6,6,7] ?_
 refine qf (d := 43) (v := .bool true) rfl (by rw [h80] <;> rfl) ?_
 refine au [23,8] ?_
 refine ke 9 (.agg #[.int .i64 x23, .int .i64 x24, .int .i64 x25]) rfl rfl rfl (zd (i := 3) rfl tf26 rfl rfl (by simp) rfl) (ke 10 (.agg #[.int .i64 3, .int .i64 3, .int .i64 2]) rfl rfl rfl (zd (i := 2) rfl tf26 rfl rfl (by simp) rfl) (qn 11 (.bool (((x23 : Int) == 3) && (((x24 : Int) == 3) && ((x25 : Int) == 2)))) rfl rfl rfl (qjU rfl rfl se26) ?_))
 refine au [6,12,6,13] ?_
 refine qf (d := 49) (v := .bool true) rfl (by rw [h81] <;> rfl) (ke 14 (.agg #[.slice a31 x30.1.length c32.1]) rfl rfl rfl (zd (i := 1) rfl tf24 rfl rfl (by simp) rfl) ?_)
 refine au [24,0,15,29,4] ?_
 rintro x82 e82 ⟨a83, c84⟩
 refine au [0,27,5,24,0,16] ?_
 refine qg qfi ?_
 intro x85 e85 _
 refine av [0,27,5,6,17,6,18,27,6] ?_ ?_
 intro h86
 refine qf (d := 54) (v := .bool true) rfl (by rw [h86] <;> rfl) ?_
 refine av [6,19,6,20,6,21,6,22,27,6] ?_ ?_
 intro h87
 refine qf (d := 58) (v := .bool true) rfl (by rw [h87] <;> rfl) ?_
 refine av [6,23,27,13,24,6,25,6,26,6,27,27,6] ?_ ?_
 intro h88
 refine qf (d := 63) (v := .bool true) rfl (by rw [h88] <;> rfl) ?_
 refine au [6,28,24,0,29,34,1] ?_
 intro x89 e89 g90 h91
 refine au [0,27,5,24,0,30] ?_
 refine qak (j := 3) (y := x89) (qv .i64) rfl rfl tf3 rfl h91 (qP e89).2.2 (fun _ => rfl) rfl rfl ?_
 refine av [0,27,5,6,31,6,32,6,33,27,6] ?_ ?_
 intro h92
 refine qf (d := 69) (v := .bool true) rfl (by rw [h92] <;> rfl) ?_
 refine au [6,34,24,0,35,34,1] ?_
 intro x93 e93 g94 h95
 refine au [0,27,5,24,0,36] ?_
 refine qak (j := 3) (y := x93) (qv .i64) rfl rfl tf3 rfl h95 (qP e93).2.2 (fun _ => rfl) rfl rfl ?_
 refine av [0,27,5,6,37,6,38,6,39,27,6] ?_ ?_
 intro h96
 refine qf (d := 75) (v := .bool true) rfl (by rw [h96] <;> rfl) ?_
 refine av [6,40,27,13,41,6,42,6,43,6,44,27,6] ?_ ?_
 intro h97
 refine qf (d := 80) (v := .bool true) rfl (by rw [h97] <;> rfl) ?_
 refine au [6,45,24,0,46] ?_
 refine qbf (j := 4) rfl UnF.u inferInstance rfl rfl rfl rfl ?_
 intro x98 e98 g99 h100
 refine au [0,27,5,24,0,47] ?_
 refine qak (j := 4) (y := x98) (qv .i64) rfl rfl tf3 rfl h100 (qP e98).2.2 (fun _ => rfl) rfl rfl ?_
 refine av [0,27,5,6,48,6,49,6,50,27,6] ?_ ?_
 intro h101
 refine qf (d := 86) (v := .bool true) rfl (by rw [h101] <;> rfl) ?_
 refine av [6,51,6,52,6,53,6,54,27,6] ?_ ?_
 intro h102
 refine qf (d := 90) (v := .bool true) rfl (by rw [h102] <;> rfl) ?_
 refine au [6,55,6,56,6,57,6,58,24,6] ?_
 exact qy (qa (((x50.2 : Int) == 1), ())) (by intro c h; cases h)
 intro h102
 refine qf (d := 90) (v := .bool false) rfl (by rw [h102] <;> rfl) ?_
 refine au [8,55,8,56,6,57,6,58,24,6] ?_
 exact qy (qa (false, ())) (by intro c h; cases h)
 intro h101
 refine qf (d := 86) (v := .bool false) rfl (by rw [h101] <;> rfl) ?_
 refine au [8,51,8,52,6,53,6,54,8,55,8,56,6,57,6,58,24,6] ?_
 exact qy (qa (false, ())) (by intro c h; cases h)
 intro h97
 refine qf (d := 80) (v := .bool false) rfl (by rw [h97] <;> rfl) ?_
 refine au [8,45,8,46,8,47,8,48,6,49,6,50,8,51,8,52,6,53,6,54,8,55,8,56,6,57,6,58,24,6] ?_
 exact qy (qa (false, ())) (by intro c h; cases h)
 intro h96
 refine qf (d := 75) (v := .bool false) rfl (by rw [h96] <;> rfl) ?_
 refine au [8,40,8,41,8,42,6,43,6,44,8,45,8,46,8,47,8,48,6,49,6,50,8,51,8,52,6,53,6,54,8,55,8,56,6,57,6,58,24,6] ?_
 exact qy (qa (false, ())) (by intro c h; cases h)
 intro h92
 refine qf (d := 69) (v := .bool false) rfl (by rw [h92] <;> rfl) ?_
 refine au [8,34,8,35,8,36,8,37,6,38,6,39,8,40,8,41,8,42,6,43,6,44,8,45,8,46,8,47,8,48,6,49,6,50,8,51,8,52,6,53,6,54,8,55,8,56,6,57,6,58,24,6] ?_
 exact qy (qa (false, ())) (by intro c h; cases h)
 intro h88
 refine qf (d := 63) (v := .bool false) rfl (by rw [h88] <;> rfl) ?_
 refine au [8,28,8,29,8,30,8,31,6,32,6,33,8,34,8,35,8,36,8,37,6,38,6,39,8,40,8,41,8,42,6,43,6,44,8,45,8,46,8,47,8,48,6,49,6,50,8,51,8,52,6,53,6,54,8,55,8,56,6,57,6,58,24,6] ?_
 exact qy (qa (false, ())) (by intro c h; cases h)
 intro h87
 refine qf (d := 58) (v := .bool false) rfl (by rw [h87] <;> rfl) ?_
 refine au [8,23,8,24,8,25,6,26,6,27,8,28,8,29,8,30,8,31,6,32,6,33,8,34,8,35,8,36,8,37,6,38,6,39,8,40,8,41,8,42,6,43,6,44,8,45,8,46,8,47,8,48,6,49,6,50,8,51,8,52,6,53,6,54,8,55,8,56,6,57,6,58,24,6] ?_
 exact qy (qa (false, ())) (by intro c h; cases h)
 intro h86
 refine qf (d := 54) (v := .bool false) rfl (by rw [h86] <;> rfl) ?_
 refine au [8,19,8,20,6,21,6,22,8,23,8,24,8,25,6,26,6,27,8,28,8,29,8,30,8,31,6,32,6,33,8,34,8,35,8,36,8,37,6,38,6,39,8,40,8,41,8,42,6,43,6,44,8,45,8,46,8,47,8,48,6,49,6,50,8,51,8,52,6,53,6,54,8,55,8,56,6,57,6,58,24,6] ?_
 exact qy (qa (false, ())) (by intro c h; cases h)
 intro h81
 refine qs mixed [] [⟨g53, 24, [.slice a51 x50.1.length c52.1]⟩, ⟨g33, 24, [.slice a31 x30.1.length c32.1]⟩, ⟨g1, 26, [.int .i64 3, .int .i64 3, .int .i64 2]⟩, ⟨g20, 31, [.int .i64 x22, .int .i64 x23, .int .i64 x24, .int .i64 x25, .int .i64 x26, .slice a27 x29.length c28]⟩] [] (.cons 0 rfl (.cons 0 rfl (.cons 0 rfl (.cons 0 rfl .nil)))) qr 59 rfl ?_
 refine au [6,0,6,1,6,2] ?_
 refine qf (d := 38) (v := .bool true) rfl (by rw [h79] <;> rfl) ?_
 refine au [23,3,27,9,4,6,5,6,6,6,7] ?_
 refine qf (d := 43) (v := .bool true) rfl (by rw [h80] <;> rfl) ?_
 refine au [23,8] ?_
 refine ke 9 (.agg #[.int .i64 x23, .int .i64 x24, .int .i64 x25]) rfl rfl rfl (zd (i := 3) rfl tf26 rfl rfl (by simp) rfl) (ke 10 (.agg #[.int .i64 3, .int .i64 3, .int .i64 2]) rfl rfl rfl (zd (i := 2) rfl tf26 rfl rfl (by simp) rfl) (qn 11 (.bool (((x23 : Int) == 3) && (((x24 : Int) == 3) && ((x25 : Int) == 2)))) rfl rfl rfl (qjU rfl rfl se26) ?_))
 refine au [6,12,6,13] ?_
 refine qf (d := 49) (v := .bool false) rfl (by rw [h81] <;> rfl) ?_
 refine au [8,14,8,15,8,16,6,17,6,18,8,19,8,20,6,21,6,22,8,23,8,24,8,25,6,26,6,27,8,28,8,29,8,30,8,31,6,32,6,33,8,34,8,35,8,36,8,37,6,38,6,39,8,40,8,41,8,42,6,43,6,44,8,45,8,46,8,47,8,48,6,49,6,50,8,51,8,52,6,53,6,54,8,55,8,56,6,57,6,58,24,6] ?_
 exact qy (qa (false, ())) (by intro c h; cases h)
 intro h80
 refine qs mixed [] [⟨g53, 24, [.slice a51 x50.1.length c52.1]⟩, ⟨g33, 24, [.slice a31 x30.1.length c32.1]⟩, ⟨g1, 26, [.int .i64 3, .int .i64 3, .int .i64 2]⟩, ⟨g20, 31, [.int .i64 x22, .int .i64 x23, .int .i64 x24, .int .i64 x25, .int .i64 x26, .slice a27 x29.length c28]⟩] [] (.cons 0 rfl (.cons 0 rfl (.cons 0 rfl (.cons 0 rfl .nil)))) qr 59 rfl ?_
 refine au [6,0,6,1,6,2] ?_
 refine qf (d := 38) (v := .bool true) rfl (by rw [h79] <;> rfl) ?_
 refine au [23,3,27,9,4,6,5,6,6,6,7] ?_
 refine qf (d := 43) (v := .bool false) rfl (by rw [h80] <;> rfl) ?_
 refine au [8,8,8,9,8,10,8,11,6,12,6,13,8,14,8,15,8,16,6,17,6,18,8,19,8,20,6,21,6,22,8,23,8,24,8,25,6,26,6,27,8,28,8,29,8,30,8,31,6,32,6,33,8,34,8,35,8,36,8,37,6,38,6,39,8,40,8,41,8,42,6,43,6,44,8,45,8,46,8,47,8,48,6,49,6,50,8,51,8,52,6,53,6,54,8,55,8,56,6,57,6,58,24,6] ?_
 exact qy (qa (false, ())) (by intro c h; cases h)
 intro h79
 refine qs mixed [] [⟨g53, 24, [.slice a51 x50.1.length c52.1]⟩, ⟨g33, 24, [.slice a31 x30.1.length c32.1]⟩, ⟨g1, 26, [.int .i64 3, .int .i64 3, .int .i64 2]⟩, ⟨g20, 31, [.int .i64 x22, .int .i64 x23, .int .i64 x24, .int .i64 x25, .int .i64 x26, .slice a27 x29.length c28]⟩] [] (.cons 0 rfl (.cons 0 rfl (.cons 0 rfl (.cons 0 rfl .nil)))) qr 59 rfl ?_
 refine au [6,0,6,1,6,2] ?_
 refine qf (d := 38) (v := .bool false) rfl (by rw [h79] <;> rfl) ?_
 refine au [8,3,8,4,8,5,6,6,6,7,8,8,8,9,8,10,8,11,6,12,6,13,8,14,8,15,8,16,6,17,6,18,8,19,8,20,6,21,6,22,8,23,8,24,8,25,6,26,6,27,8,28,8,29,8,30,8,31,6,32,6,33,8,34,8,35,8,36,8,37,6,38,6,39,8,40,8,41,8,42,6,43,6,44,8,45,8,46,8,47,8,48,6,49,6,50,8,51,8,52,6,53,6,54,8,55,8,56,6,57,6,58,24,6] ?_
 exact qy (qa (false, ())) (by intro c h; cases h)
 rintro ⟨x78, _⟩
 try dsimp only
 exact az [9,16]
theorem qfh {F : Nat} {x1 : List Int} {a2 : Option Addr} {c3 : Nat} {x4 : List Int} {a5 : Option Addr} {c6 : Nat} {r : Bool} (hm : vm F x1 x4 = some r) :
    Pure Tryz.prog 52 [.slice a2 x1.length c3, .slice a5 x4.length c6] [Sl (eI .u8) 1 (.slice a2 x1.length c3) x1, Sl (eI .u8) 1 (.slice a5 x4.length c6) x4] Unit (fun _ => .bool r) (fun _ => []) (fun _ => []) := by
 refine qj Tryz.func52 rfl Tryz.ntmps52 rfl hm (fun w => ?_)
 refine av [24,12,3,4,5,0,2,3,3,4,1,24,2,1,24,2,25,0,0,2,10] ?_ ?_
 intro _
 exact az [3,4,5,0,2,9,12,16]
 intro _
 refine au [11,2] ?_
 refine qe (fun ((_, _) : (Unit × Unit)) => ([], [], [], [], qbG F)) ?_ ?_
 refine au [3,4,5,0,2,17] ?_
 refine qt (fun ((x154, _) : (Int × Unit)) => ([(0, .slice a2 x1.length c3), (1, .slice a5 x4.length c6), (5, .int .i64 x154)], [], [], [Sl (eI .u8) 1 (.slice a2 x1.length c3) x1, Sl (eI .u8) 1 (.slice a5 x4.length c6) x4])) (fun k (s : (Int × Unit)) => zA F x1 x4 k s.1) (0, ()) F ?_
 intro k191
 rintro ⟨x154, _⟩
 try dsimp only
 refine qJ (m' := yB F x1 x4 (zA F x1 x4 k191) x154) rfl ?_
 refine av [3,3,4,1,1,24,2,24,4,0,2,10] ?_ ?_
 intro _
 refine au [11,2,3,17,3,30,0] ?_
 intro x218 e218 b219 o220 h221
 replace h221 : a2 = some ⟨b219, o220, none⟩ := h221
 refine au [33,11] ?_
 intro x222 e222 b223 o224 h225
 replace h225 : a5 = some ⟨b223, o224, none⟩ := h225
 refine qs mixed [] [] [qI b223 (o224 + x154.toNat * 1) ((eI .u8) x222), qI b219 (o220 + x154.toNat * 1) ((eI .u8) x218), Sl (eI .u8) 1 (.slice a2 x1.length c3) x1, Sl (eI .u8) 1 (.slice a5 x4.length c6) x4] .nil (qO 0 rfl (qO 1 rfl (qO 2 rfl (qO 3 rfl qr)))) 9 rfl ?_
 refine au [6,0,6,1] ?_
 refine qf (d := 17) (v := .slice (some ⟨b219, o220, none⟩) x1.length c3) rfl (by rw [h221] <;> rfl) (qn 2 (.pointer (some ⟨b219, (o220 + x154.toNat * 1), none⟩)) rfl rfl rfl (qan Tryz.underlying27 tf5 rfl rfl (qP e218).1 (v8 e218)) (qf (d := 17) (v := .slice a2 x1.length c3) rfl (by rw [h221] <;> rfl) (q8 3 (.int .u8 x218) [] rfl rfl rfl (kE (j := 1) rfl tf5 rfl rfl (fun _ => rfl) rfl) ?_)))
 refine au [6,4,6,5] ?_
 refine qf (d := 21) (v := .slice (some ⟨b223, o224, none⟩) x4.length c6) rfl (by rw [h225] <;> rfl) (qn 6 (.pointer (some ⟨b223, (o224 + x154.toNat * 1), none⟩)) rfl rfl rfl (qan Tryz.underlying27 tf5 rfl rfl (qP e222).1 (v8 e222)) (qf (d := 21) (v := .slice a5 x4.length c6) rfl (by rw [h225] <;> rfl) (q8 7 (.int .u8 x222) [] rfl rfl rfl (kE (j := 0) rfl tf5 rfl rfl (fun _ => rfl) rfl) ?_)))
 refine au [6,8,24,6] ?_
 refine qy ?_ (by intro c h; cases h)
 refine av [2,10] ?_ ?_
 intro _
 exact az [3,4,5,0,2,9,24,5,12,12,24,5,12,16]
 intro _
 refine au [11,24,8,2,4,1,18,5,0] ?_
 exact qm (iadd .i64 x154 1, ())
 intro _
 exact az [24,13,21,21,24,14,25,15]
 rintro ⟨_, _⟩
 try dsimp only
 exact az [3,4,5,0,2,9,16]
theorem qgf {F : Nat} {x1 : Int} {x2 : List Int} {a3 : Option Addr} {c4 : Nat} {x5 : Int} {x6 : List Int} {a7 : Option Addr} {c8 : Nat} {r : Bool} (hm : kF F x1 x2 x5 x6 = some r) :
    Pure Tryz.prog 26 [.agg #[.int .i64 x1, .slice a3 x2.length c4], .agg #[.int .i64 x5, .slice a7 x6.length c8]] [Sl (eI .u8) 1 (.slice a3 x2.length c4) x2, Sl (eI .u8) 1 (.slice a7 x6.length c8) x6] Unit (fun _ => .bool r) (fun _ => []) (fun _ => []) := by
 refine qj Tryz.func26 rfl Tryz.ntmps26 rfl hm (fun w => ?_)
 refine au [24,12,3,4,24,3] ?_
 intro g9
 refine au [24,3] ?_
 intro g10
 refine au [5,0,2,3,4,13,25,3,13,24,1,24,9,1] ?_
 refine qE 6 (fun ((x13, _) : (Bool × Unit)) => ([(16, .bool x13)], [], [], [], y9 F x13)) ?_ ?_
 refine qb (os := _) rfl ?_
 refine av [25,7] ?_ ?_
 intro h11
 refine qi (k := 10) rfl h11 ?_
 refine au [13,25,3,13,24,1] ?_
 refine qg qfh ?_
 intro x14 e14 _
 refine au [19,0] ?_
 exact qa (x14, ())
 intro h11
 refine qh (k := 10) rfl h11 ?_
 refine au [7,7,7,7,7,20,0] ?_
 exact qa (false, ())
 rintro ⟨x13, _⟩
 try dsimp only
 refine qb (os := _) rfl ?_
 exact az [5,0,2,9,16]
theorem qfl {F : Nat} {x1 : Int} {x2 : List Int} {a3 : Option Addr} {c4 : Nat} {x5 : Int} {r : Int} (hm : qav F x1 x2 x5 = some r) :
    Pure Tryz.prog 66 [.agg #[.int .i64 x1, .slice a3 x2.length c4], .int .i64 x5] [Sl (eI .u8) 1 (.slice a3 x2.length c4) x2] Unit (fun _ => .int .i64 r) (fun _ => []) (fun _ => []) := by
 refine qj Tryz.func66 rfl Tryz.ntmps66 rfl hm (fun w => ?_)
 refine au [24,12,3,4,24,3] ?_
 intro g6
 refine au [5,0,2,3,4,24,11,27,3] ?_
 intro x7 e7 _
 refine au [5,0,2] ?_
 refine qe (fun ((x13, _) : (Int × Unit)) => ([(5, .int .i64 x13)], [], [], [], jn F x13)) ?_ ?_
 refine au [3,4,1,24,9,1] ?_
 refine qE 9 (fun ((x16, _) : (Bool × Unit)) => ([(5, .int .i64 x7), (19, .bool x16)], [], [], [], jo F x7 x16)) ?_ ?_
 refine qb (os := _) rfl ?_
 refine av [25,7] ?_ ?_
 intro h14
 refine qi (k := 10) rfl h14 ?_
 refine au [1,24,4,1] ?_
 refine qk 5 (decide (x5 < 0)) [(5, .int .i64 x7), (10, .bool true), (18, .bool ((decide (x5 < 0)) || (decide (x1 < x5))))] (fun h18 => ?_) (fun h18 => ?_) ?_
 refine qb (os := _) rfl (qi (k := 13) rfl h18 ?_)
 refine au [7,7,7,7,19] ?_
 refine qc (d := 18) (v := .bool ((decide (x5 < 0)) || (decide (x1 < x5)))) rfl (by rw [h18]; simp only [Bool.true_or]) ?_
 exact az [0,15]
 refine qb (os := _) rfl (qh (k := 13) rfl h18 ?_)
 refine au [1,13,24,1,24,10,20] ?_
 refine qc (d := 18) (v := .bool ((decide (x5 < 0)) || (decide (x1 < x5)))) rfl (by rw [h18]; simp only [Bool.false_or]) ?_
 exact az [0,15]
 refine qb (os := _) rfl ?_
 refine au [19,0] ?_
 exact qa (((decide (x5 < 0)) || (decide (x1 < x5))), ())
 intro h14
 refine qh (k := 10) rfl h14 ?_
 refine au [7,7,7,7,7,7,7,7,20,0] ?_
 exact qa (false, ())
 rintro ⟨x16, _⟩
 try dsimp only
 refine qb (os := _) rfl ?_
 refine av [0,2,10] ?_ ?_
 intro _
 refine au [4,5,0] ?_
 exact qa ((3 : Int), ())
 intro _
 refine au [11] ?_
 exact qa (x7, ())
 rintro ⟨x13, _⟩
 try dsimp only
 exact az [3,4,1,5,0,2,9,16]
theorem qhn {F : Nat} {x1 : Int} {x2 : List Int} {a3 : Option Addr} {c4 : Nat} {x5 : Int} {x6 : Int} {x7 : List Int} {a8 : Option Addr} {c9 : Nat} {x10 : Int} {x11 : Int} {x12 : Int} {r : (List Int × Int × Int)} (hm : qaJ F x1 x2 x5 x6 x7 x10 x11 x12 = some r) :
    Pure Tryz.prog 42 [.agg #[.int .i64 x1, .slice a3 x2.length c4], .int .i64 x5, .int .i64 x6, .slice a8 x7.length c9, .agg #[.int .i64 x10, .int .i64 x11, .int .i64 x12]] [Sl (eI .u8) 1 (.slice a3 x2.length c4) x2, Sl (eI .i64) 1 (.slice a8 x7.length c9) x7] (Option Addr × Nat) (fun g => .tuple #[.slice g.1 r.1.length g.2, .int .i64 r.2.1, .int .i64 r.2.2]) (fun g => [Ro (eI .i64) 3 1 (.slice g.1 r.1.length g.2) r.1]) (fun _ => []) := by
 refine qj Tryz.func42 rfl Tryz.ntmps42 rfl hm (fun w => ?_)
 refine au [29,0,3,4,24,3] ?_
 intro g13
 refine au [24,3] ?_
 intro g14
 refine au [5,5,5,0,2,3,4,24,11,28,4] ?_
 intro x15 e15 _
 refine au [5,0,2] ?_
 refine qe (fun ((x18, _) : (Int × Unit)) => ([(1, .int .i64 x5), (2, .int .i64 x6), (3, .slice a8 x7.length c9), (5, .pointer (some ⟨g13, 0, none⟩)), (9, .pointer (some ⟨g14, 0, none⟩)), (13, .int .i64 x18)], [⟨g14, 26, [.int .i64 x10, .int .i64 x11, .int .i64 x12]⟩, ⟨g13, 29, [.int .i64 x1, .slice a3 x2.length c4]⟩], [], [Sl (eI .i64) 1 (.slice a8 x7.length c9) x7, Sl (eI .u8) 1 (.slice a3 x2.length c4) x2], v6 F x1 x2 x5 x6 x7 x10 x11 x12 x18)) ?_ ?_
 refine av [3,4,1,24,9,0,2,10] ?_ ?_
 intro _
 refine au [4,25,2,1] ?_
 refine qg qfl ?_
 intro x29 e29 _
 refine au [5,0] ?_
 exact qa (x29, ())
 intro _
 refine au [11] ?_
 exact qa (x15, ())
 rintro ⟨x18, _⟩
 try dsimp only
 refine qe (fun ((x21, _) : (Int × Unit)) => ([(1, .int .i64 x5), (2, .int .i64 x6), (3, .slice a8 x7.length c9), (5, .pointer (some ⟨g13, 0, none⟩)), (9, .pointer (some ⟨g14, 0, none⟩)), (13, .int .i64 x21)], [⟨g14, 26, [.int .i64 x10, .int .i64 x11, .int .i64 x12]⟩, ⟨g13, 29, [.int .i64 x1, .slice a3 x2.length c4]⟩], [], [Sl (eI .i64) 1 (.slice a8 x7.length c9) x7, Sl (eI .u8) 1 (.slice a3 x2.length c4) x2], v7 F x1 x2 x5 x6 x7 x10 x11 x12 x21)) ?_ ?_
 refine av [3,4,1,24,9,0,2,10] ?_ ?_
 intro _
 refine au [4,1,1,24,11,32,2] ?_
 intro x27 e27 _
 refine au [5,0] ?_
 exact qa (x27, ())
 intro _
 refine au [11] ?_
 exact qa (x18, ())
 rintro ⟨x21, _⟩
 try dsimp only
 refine av [3,3,4,1,25,0,0,2,10] ?_ ?_
 intro _
 refine au [3,4,1,5,5,5,0,2,9,12,25,9] ?_
 exact qu (none, 0)
 intro _
 refine au [11,2,3,4,25,2,1,1,1,24,11,30,8] ?_
 rintro x23 e23 ⟨a24, c25⟩
 refine au [14,14,14,5,5,5,0,2,9] ?_
 exact qu (a24, c25)
set_option maxHeartbeats 4000000 in
theorem qff (F : Nat)  (r : Bool) (hm : qaq F  = some r) :
    Pure Tryz.prog 21 [] [] Unit (fun _ => .bool r) (fun _ => []) (fun _ => []) := by
 refine qj Tryz.func21 rfl Tryz.ntmps21 rfl hm (fun w => ?_)
 refine au [29,3,3,4,5,0,2,3,4] ?_
 refine ql (cells := [.int .i64 1, .int .i64 3, .int .i64 2]) rfl st26 rfl (by kernel_rfl) rfl ?_
 refine au [24,7] ?_
 intro g1
 refine au [22,0,2,3,4] ?_
 refine qF (vs := [.int .i64 2, .int .i64 3, .int .i64 4, .int .i64 5, .int .i64 9, .int .i64 20]) (ys := ([2, 3, 4, 5, 9, 20] : List Int)) (qv .i64) (by decide) rfl Tryz.underlying37 tf3 rfl rfl rfl rfl rfl (by decide) (fun a2 c3 => ?_)
 refine au [5,0,2,3,4,1] ?_
 refine qF (vs := [.int .i64 3, .int .i64 9, .int .i64 11]) (ys := ([3, 9, 11] : List Int)) (qv .i64) (by decide) rfl Tryz.underlying37 tf3 rfl rfl rfl rfl rfl (by decide) (fun a4 c5 => ?_)
 refine au [24,11,28,5] ?_
 rintro x6 e6 ⟨a7, c8⟩
 refine au [1,14,14,24,7] ?_
 intro g9
 refine au [22,5,0,2,3,4,24,11] ?_
 refine qF (vs := [.int .i64 3, .int .i64 9, .int .i64 11]) (ys := ([3, 9, 11] : List Int)) (qv .i64) (by decide) rfl Tryz.underlying37 tf3 rfl rfl rfl rfl rfl (by decide) (fun a10 c11 => ?_)
 refine au [25,2,34,2] ?_
 rintro x12 e12 ⟨a13, c14⟩
 refine au [1,14,14,14,5,5,5,0,2,3,4] ?_
 refine ql (cells := [.int .i64 0, .int .i64 0, .int .i64 1]) rfl st26 rfl (by kernel_rfl) rfl ?_
 refine au [26,14,26,14,28,5] ?_
 rintro x15 e15 ⟨a16, c17⟩
 refine au [1,14,14,24,7] ?_
 intro g18
 refine au [22,5,0,2,3,4] ?_
 refine ql (cells := [.int .i64 0, .slice none 0 0]) rfl st29 rfl (by kernel_rfl) rfl (ql (cells := [.int .i64 0, .int .i64 0, .int .i64 1]) rfl st26 rfl (by kernel_rfl) rfl ?_)
 refine au [26,12,26,14,34,2] ?_
 rintro x19 e19 ⟨a20, c21⟩
 refine au [1,14,14,14,5,5,5,0,2,3,4,1,24,9,1] ?_
 refine qE 4 (fun ((x24, _) : (Bool × Unit)) => ([(3, .pointer (some ⟨g9, 0, none⟩)), (6, .int .i64 x12.2.1), (7, .int .i64 x12.2.2), (8, .pointer (some ⟨g18, 0, none⟩)), (9, .int .i64 x15.2.2), (12, .int .i64 x19.2.2), (48, .bool x24)], [⟨g18, 29, [.int .i64 x15.1, .slice a16 x15.2.1.length c17]⟩, ⟨g9, 29, [.int .i64 x6.1, .slice a7 x6.2.1.length c8]⟩], [Ro (eI .u8) 5 1 (.slice a16 x15.2.1.length c17) x15.2.1, Ro (eI .u8) 5 1 (.slice a7 x6.2.1.length c8) x6.2.1], [], jh F x6 x12 x15 x19 x24)) ?_ ?_
 refine qb (os := _) rfl ?_
 refine av [25,7] ?_ ?_
 intro h22
 refine qi (k := 44) rfl h22 ?_
 refine au [1,1,33,12] ?_
 intro x41 e41 _
 refine au [19,0] ?_
 exact qa (x41, ())
 intro h22
 refine qh (k := 44) rfl h22 ?_
 refine au [7,7,7,20,0] ?_
 exact qa (false, ())
 rintro ⟨x24, _⟩
 try dsimp only
 refine qb (os := _) rfl ?_
 refine au [1] ?_
 refine qk 5 x24 [(7, .int .i64 x12.2.2), (8, .pointer (some ⟨g18, 0, none⟩)), (9, .int .i64 x15.2.2), (12, .int .i64 x19.2.2), (54, .bool (x24 && ((x12.2.1 : Int) == x6.1)))] (fun h25 => ?_) (fun h25 => ?_) ?_
 refine qb (os := _) rfl (qi (k := 49) rfl h25 ?_)
 refine au [1,13,25,3,24,9,19] ?_
 refine qc (d := 54) (v := .bool (x24 && ((x12.2.1 : Int) == x6.1))) rfl (by rw [h25]; simp only [Bool.true_and]) ?_
 exact az [0,15]
 refine qb (os := _) rfl (qh (k := 49) rfl h25 ?_)
 refine au [7,7,7,7,20] ?_
 refine qc (d := 54) (v := .bool (x24 && ((x12.2.1 : Int) == x6.1))) rfl (by rw [h25]; simp only [Bool.false_and]) ?_
 exact az [0,15]
 refine qb (os := _) rfl ?_
 refine au [1] ?_
 refine qk 3 (x24 && ((x12.2.1 : Int) == x6.1)) [(8, .pointer (some ⟨g18, 0, none⟩)), (9, .int .i64 x15.2.2), (12, .int .i64 x19.2.2), (58, .bool ((x24 && ((x12.2.1 : Int) == x6.1)) && ((x12.2.2 : Int) == 0)))] (fun h26 => ?_) (fun h26 => ?_) ?_
 refine qb (os := _) rfl (qi (k := 55) rfl h26 ?_)
 refine au [1,24,9,19] ?_
 refine qc (d := 58) (v := .bool ((x24 && ((x12.2.1 : Int) == x6.1)) && ((x12.2.2 : Int) == 0))) rfl (by rw [h26]; simp only [Bool.true_and]) ?_
 exact az [0,15]
 refine qb (os := _) rfl (qh (k := 55) rfl h26 ?_)
 refine au [7,7,20] ?_
 refine qc (d := 58) (v := .bool ((x24 && ((x12.2.1 : Int) == x6.1)) && ((x12.2.2 : Int) == 0))) rfl (by rw [h26]; simp only [Bool.false_and]) ?_
 exact az [0,15]
 refine qb (os := _) rfl ?_
 refine au [1] ?_
 refine qE 5 (fun ((x31, _) : (Bool × Unit)) => ([(9, .int .i64 x15.2.2), (12, .int .i64 x19.2.2), (64, .bool x31)], [], [], [], ji F x15 x19 x31)) ?_ ?_
 refine qb (os := _) rfl ?_
 refine av [25,7] ?_ ?_
 intro h27
 refine qi (k := 59) rfl h27 ?_
 refine au [24,11] ?_
 refine qF (vs := [.int .u8 128]) (ys := ([128] : List Int)) (qv .u8) (by decide) rfl Tryz.underlying27 tf5 rfl rfl rfl rfl rfl (by decide) (fun a38 c39 => ql (cells := [.int .i64 1, .slice a38 ([128] : List Int).length c39]) rfl st29 rfl (by kernel_rfl) rfl ?_)
 refine au [28,8] ?_
 intro x40 e40 _
 refine au [19,0] ?_
 exact qa (x40, ())
 intro h27
 refine qh (k := 59) rfl h27 ?_
 refine au [7,7,7,7,20,0] ?_
 exact qa (false, ())
 rintro ⟨x31, _⟩
 try dsimp only
 refine qb (os := _) rfl ?_
 refine au [1] ?_
 refine qk 3 x31 [(12, .int .i64 x19.2.2), (68, .bool (x31 && ((x15.2.2 : Int) == 0)))] (fun h32 => ?_) (fun h32 => ?_) ?_
 refine qb (os := _) rfl (qi (k := 65) rfl h32 ?_)
 refine au [1,24,9,19] ?_
 refine qc (d := 68) (v := .bool (x31 && ((x15.2.2 : Int) == 0))) rfl (by rw [h32]; simp only [Bool.true_and]) ?_
 exact az [0,15]
 refine qb (os := _) rfl (qh (k := 65) rfl h32 ?_)
 refine au [7,7,20] ?_
 refine qc (d := 68) (v := .bool (x31 && ((x15.2.2 : Int) == 0))) rfl (by rw [h32]; simp only [Bool.false_and]) ?_
 exact az [0,15]
 refine qb (os := _) rfl ?_
 refine au [1] ?_
 refine qk 3 (x31 && ((x15.2.2 : Int) == 0)) [(72, .bool ((x31 && ((x15.2.2 : Int) == 0)) && ((x19.2.2 : Int) == 1)))] (fun h33 => ?_) (fun h33 => ?_) ?_
 refine qb (os := _) rfl (qi (k := 69) rfl h33 ?_)
 refine au [1,24,9,19] ?_
 refine qc (d := 72) (v := .bool ((x31 && ((x15.2.2 : Int) == 0)) && ((x19.2.2 : Int) == 1))) rfl (by rw [h33]; simp only [Bool.true_and]) ?_
 exact az [0,15]
 refine qb (os := _) rfl (qh (k := 69) rfl h33 ?_)
 refine au [7,7,20] ?_
 refine qc (d := 72) (v := .bool ((x31 && ((x15.2.2 : Int) == 0)) && ((x19.2.2 : Int) == 1))) rfl (by rw [h33]; simp only [Bool.false_and]) ?_
 exact az [0,15]
 refine qb (os := _) rfl ?_
 refine au [1] ?_
 refine qE 4 (fun ((x36, _) : (Bool × Unit)) => ([(77, .bool x36)], [], [], [], qac F x36)) ?_ ?_
 refine qb (os := _) rfl ?_
 refine av [25,7] ?_ ?_
 intro h34
 refine qi (k := 73) rfl h34 (ql (cells := [.int .i64 0, .int .i64 1, .int .i64 1]) rfl st26 rfl (by kernel_rfl) rfl ?_)
 refine au [28,4] ?_
 intro x37 e37 _
 refine au [24,9,19,0] ?_
 exact qa (((x37 : Int) == 3), ())
 intro h34
 refine qh (k := 73) rfl h34 ?_
 refine au [7,7,7,20,0] ?_
 exact qa (false, ())
 rintro ⟨x36, _⟩
 try dsimp only
 refine qb (os := _) rfl ?_
 exact az [5,0,2,9,16]
end Go.Proofs.YtpnfijegoepiaaaGreat
