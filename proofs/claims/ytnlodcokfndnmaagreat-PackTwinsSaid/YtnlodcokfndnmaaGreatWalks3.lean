/- Each Go function of this seat computes what its model says, part 3. -/
import Derived.Test.YtnlodcokfndnmaaGreatWalks2
namespace Go.Proofs.YtnlodcokfndnmaaGreat
open Go SX
set_option maxHeartbeats 4000000 in
theorem qa3 {F : Nat} {x1 : List (List Int)} {a2 : Option Addr} {c3 : Nat} {s3 : List (Option Addr × Nat)} {r : List Int} (hm : q4 F x1 = some r) :
    Pure Tryz.prog 54 [.slice a2 x1.length c3] [SlN eN30 iN30 1 (.slice a2 x1.length c3) x1 s3] (Option Addr × Nat) (fun g => .slice g.1 r.length g.2) (fun g => [Ro (eI .i64) 3 1 (.slice g.1 r.length g.2) r]) (fun _ => []) := by
 refine qh Tryz.func54 rfl Tryz.ntmps54 rfl hm (fun w => ?_)
 refine au [25,2,2,4,5,0,1,2,4,5,0,1] ?_
 refine qf (fun ((x43, _) : (Int × Unit)) => ([(0, .slice a2 x1.length c3), (3, .int .i64 x43)], [], [], [SlN eN30 iN30 1 (.slice a2 x1.length c3) x1 s3], zo F x1 x43)) ?_ ?_
 refine au [2,4,3,23,3,0,1,14] ?_
 refine qo (fun (((x168, x169), _) : ((Int × Int) × Unit)) => ([(0, .slice a2 x1.length c3), (3, .int .i64 x168), (9, .slice a2 x1.length c3), (10, .int .i64 (x1.length : Int)), (11, .int .i64 x169)], [], [], [SlN eN30 iN30 1 (.slice a2 x1.length c3) x1 s3])) (fun k (s : ((Int × Int) × Unit)) => qq F x1 k s.1) ((0, 0), ()) F ?_
 intro k182
 rintro ⟨⟨x168, x169⟩, _⟩
 try dsimp only
 refine qB (m' := ql F x1 (qq F x1 k182) x168 x169) rfl ?_
 refine av [2,4,24,0,0,1,2,10] ?_ ?_
 intro _
 refine au [12,1,2,14,2,4,27,4] ?_
 intro x189 e189 g192 b190 o191
 refine av [25,9,5,0,1,2,4,3,3,23,16,5,0,1,2,4,3,24,0,0,1,10] ?_ ?_
 intro _
 exact az [31,14]
 intro _
 refine au [12,24,5,1,4,16,3,0] ?_
 exact qi ((iadd .i64 x168 (x189.length : Int), iadd .i64 x169 1), ())
 intro _
 refine au [24,9,18,18,24,10] ?_
 exact qa (x168, ())
 rintro ⟨x43, _⟩
 try dsimp only
 refine au [2,4,3,27,10] ?_
 refine q8 qbB ?_
 rintro x44 e44 ⟨a45, c46⟩
 refine au [5,0,1] ?_
 refine qf (fun ((x102, (a100, c101)) : (List Int × (Option Addr × Nat))) => ([(6, .slice a100 x102.length c101)], [], [Ro (eI .i64) 3 1 (.slice a100 x102.length c101) x102], [], kO F x102)) ?_ ?_
 refine au [2,4,3,23,3,0,1,14] ?_
 refine qo (fun (((x121, x122), (a119, c120)) : ((List Int × Int) × (Option Addr × Nat))) => ([(6, .slice a119 x121.length c120), (25, .slice a2 x1.length c3), (26, .int .i64 (x1.length : Int)), (27, .int .i64 x122)], [], [Ro (eI .i64) 3 1 (.slice a119 x121.length c120) x121], [SlN eN30 iN30 1 (.slice a2 x1.length c3) x1 s3])) (fun k (s : ((List Int × Int) × (Option Addr × Nat))) => qp F x1 k s.1) ((x44, 0), (a45, c46)) F ?_
 intro k139
 rintro ⟨⟨x121, x122⟩, ⟨a119, c120⟩⟩
 try dsimp only
 refine qB (m' := qk F x1 (qp F x1 k139) x121 x122) rfl ?_
 refine av [2,4,24,0,0,1,2,10] ?_ ?_
 intro _
 refine au [12,1,2,14,2,4,27,4] ?_
 intro x148 e148 g151 b149 o150
 refine au [25,9,5,0,1,4,3,3] ?_
 refine zW 0 (qz .i64) rfl UnF.u inferInstance rfl rfl rfl rfl rfl (.inr ⟨1, rfl⟩) rfl rfl ?_
 intro x152 e152 a153 c154
 refine au [5,0,24,5,1,4,16,3,0] ?_
 exact qi ((x152, iadd .i64 x122 1), (a153, c154))
 intro _
 refine au [24,9,18,18,24,10] ?_
 exact qa (x121, (a119, c120))
 rintro ⟨x102, ⟨a100, c101⟩⟩
 try dsimp only
 refine au [2,4,3,5,0,1,9] ?_
 exact qt (a100, c101)
theorem qbC {F : Nat} {x1 : List Int} {a2 : Option Addr} {c3 : Nat} {r : List Int} (hm : qX F x1 = some r) :
    PureM Tryz.prog 55 [.slice a2 x1.length c3] [] [Ro (eI .i64) 3 1 (.slice a2 x1.length c3) x1] [] Unit (fun _ => .tuple #[]) (fun _ => []) (fun _ => [Ro (eI .i64) 3 1 (.slice a2 r.length c3) r]) := by
  unfold qX at hm
  split at hm
  · cases hm
    exact qhM Tryz.slices_Sort_int Tryz.slices_Sort_int_none (by assumption)
  · simp at hm
theorem qeI {F : Nat} {x1 : Int} {x2 : Int} {x3 : Int} {r : Bool} (hm : jc F x1 x2 x3 = some r) :
    Pure Tryz.prog 89 [.int .i64 x1, .int .i64 x2, .int .i64 x3] [] Unit (fun _ => .bool r) (fun _ => []) (fun _ => []) := by
 refine qh Tryz.func89 rfl Tryz.ntmps89 rfl hm (fun w => ?_)
 refine au [25,12,2,4,5,0,1,2,4,3,3,25,13,3] ?_
 refine qR 4 (decide (x2 ≤ x1)) [(14, .bool ((decide (x2 ≤ x1)) && (decide (x1 ≤ x3))))] (fun h4 => ?_) (fun h4 => ?_) ?_
 refine qc (os := _) rfl (qI (k := 10) rfl h4 ?_)
 refine au [3,3,26,11,24,7] ?_
 refine qd (d := 14) (v := .bool ((decide (x2 ≤ x1)) && (decide (x1 ≤ x3)))) rfl (by rw [h4]; simp only [Bool.true_and]) ?_
 exact az [0,24,1]
 refine qc (os := _) rfl (qH (k := 10) rfl h4 ?_)
 refine au [8,8,8,24,8] ?_
 refine qd (d := 14) (v := .bool ((decide (x2 ≤ x1)) && (decide (x1 ≤ x3)))) rfl (by rw [h4]; simp only [Bool.false_and]) ?_
 exact az [0,24,1]
 refine qc (os := _) rfl ?_
 exact az [5,0,1,9,15]
set_option maxHeartbeats 4000000 in
theorem qeH {F : Nat} {x1 : List (Int × Int)} {a2 : Option Addr} {c3 : Nat} {r : (List Int × Int)} (hm : j7 F x1 = some r) :
    Pure Tryz.prog 73 [.slice a2 x1.length c3] [Sl eS137 2 (.slice a2 x1.length c3) x1] (Option Addr × Nat) (fun g => .tuple #[.slice g.1 r.1.length g.2, .int .i64 r.2]) (fun g => [Ro (eI .i64) 3 1 (.slice g.1 r.1.length g.2) r.1]) (fun _ => []) := by
 refine qh Tryz.func73 rfl Tryz.ntmps73 rfl hm (fun w => ?_)
 refine av [25,2,2,4,5,5,0,1,2,2,4,3,23,24,11,0,1,10] ?_ ?_
 intro _
 refine au [2,4,5,5,0,1,9,11,25,8] ?_
 exact qt (none, 0)
 intro _
 refine au [12,1,2,4,5,0,1] ?_
 refine qf (fun ((_, _) : (Unit × Unit)) => ([(0, .slice a2 x1.length c3)], [], [], [Sl eS137 2 (.slice a2 x1.length c3) x1], vD F x1)) ?_ ?_
 refine au [2,4,3,23,3,0,1,14] ?_
 refine qo (fun (((x807, x808), _) : ((Int × Int) × Unit)) => ([(0, .slice a2 x1.length c3), (4, .int .i64 x807), (14, .slice a2 x1.length c3), (15, .int .i64 (x1.length : Int)), (16, .int .i64 x808)], [], [], [Sl eS137 2 (.slice a2 x1.length c3) x1])) (fun k (s : ((Int × Int) × Unit)) => zM F x1 k s.1) ((-2, 0), ()) F ?_
 intro k863
 rintro ⟨⟨x807, x808⟩, _⟩
 try dsimp only
 refine qB (m' := vC F x1 (zM F x1 k863) x807 x808) rfl ?_
 refine av [2,4,24,0,0,1,2,10] ?_ ?_
 intro _
 refine au [12,1,2,14,2,4,29,1] ?_
 intro x891 e891 b892 o893
 refine au [29,2,24,6] ?_
 intro g894
 refine au [24,4,0,1,2,14] ?_
 refine qf (fun ((x910, _) : (Bool × Unit)) => ([(0, .slice a2 x1.length c3), (4, .int .i64 x807), (6, .pointer (some ⟨g894, 0, none⟩)), (14, .slice a2 x1.length c3), (15, .int .i64 (x1.length : Int)), (16, .int .i64 x808), (20, .bool x910)], [⟨g894, 137, [.int .i64 x891.1, .int .i64 x891.2]⟩], [], [Sl eS137 2 (.slice a2 x1.length c3) x1], yj F (zM F x1 k863) x807 x808 x891 x910)) ?_ ?_
 refine au [2,4,13,21,32,1] ?_
 intro x913 e913 _
 refine av [25,3,5,0,1,10] ?_ ?_
 intro _
 refine au [12] ?_
 exact qa ((!x913), ())
 intro _
 refine au [2,4,13,21,32,1] ?_
 intro x914 e914 _
 refine av [25,3,5,0,1,10] ?_ ?_
 intro _
 refine au [12] ?_
 exact qa ((!x914), ())
 intro _
 refine au [4,13,21,13,21,16,24,13,24,11,5,0] ?_
 exact qa ((decide (1048576 < (isub .i64 (iadd .i64 x891.1 x891.2) 1))), ())
 rintro ⟨x910, _⟩
 try dsimp only
 refine av [10] ?_ ?_
 intro _
 refine au [2,4,5,5,0,1,9,22,11,22,11,11,22,11,25,8] ?_
 exact qt (none, 0)
 intro _
 refine av [2,4,13,21,3,16,24,0,5,0,1,10] ?_ ?_
 intro _
 refine au [2,4,5,5,0,1,9,22,11,22,11,11,22,11,25,8] ?_
 exact qt (none, 0)
 intro _
 refine au [12,24,5,1,4,13,21,13,21,16,24,13,5,0,24,5,1,4,16,3,0] ?_
 exact qi ((isub .i64 (iadd .i64 x891.1 x891.2) 1, iadd .i64 x808 1), ())
 intro _
 exact az [24,9,18,18,24,10,25,14]
 rintro ⟨_, _⟩
 try dsimp only
 refine au [2,4,5,0,1] ?_
 refine qf (fun ((x462, (a460, c461)) : (List Int × (Option Addr × Nat))) => ([(7, .slice a460 x462.length c461)], [], [Ro (eI .i64) 3 1 (.slice a460 x462.length c461) x462], [], qaQ F x462)) ?_ ?_
 refine au [2,4,3,23,3,0,1,14,26,12] ?_
 refine qo (fun (((x560, x561), (a558, c559)) : ((List Int × Int) × (Option Addr × Nat))) => ([(7, .slice a558 x560.length c559), (49, .slice a2 x1.length c3), (50, .int .i64 (x1.length : Int)), (51, .int .i64 x561)], [], [Ro (eI .i64) 3 1 (.slice a558 x560.length c559) x560], [Sl eS137 2 (.slice a2 x1.length c3) x1])) (fun k (s : ((List Int × Int) × (Option Addr × Nat))) => qO F x1 k s.1) ((([] : List Int), 0), (none, 0)) F ?_
 intro k657
 rintro ⟨⟨x560, x561⟩, ⟨a558, c559⟩⟩
 try dsimp only
 refine qB (m' := vA F x1 (qO F x1 k657) x560 x561) rfl ?_
 refine av [2,4,24,0,0,1,2,10] ?_ ?_
 intro _
 refine au [12,1] ?_
 refine qf (fun ((x706, (a704, c705)) : (List Int × (Option Addr × Nat))) => ([(7, .slice a704 x706.length c705), (49, .slice a2 x1.length c3), (50, .int .i64 (x1.length : Int)), (51, .int .i64 x561)], [], [Ro (eI .i64) 3 1 (.slice a704 x706.length c705) x706], [Sl eS137 2 (.slice a2 x1.length c3) x1], vE F (qO F x1 k657) x561 x706)) ?_ ?_
 refine au [14,2,4,29,1] ?_
 intro x707 e707 b708 o709
 refine au [29,2,24,6] ?_
 intro g710
 refine au [24,4,0,1,2,4,13,21,3,0,1,14] ?_
 refine qo (fun (((x725, x726), (a723, c724)) : ((List Int × Int) × (Option Addr × Nat))) => ([(7, .slice a723 x725.length c724), (9, .pointer (some ⟨g710, 0, none⟩)), (49, .slice a2 x1.length c3), (50, .int .i64 (x1.length : Int)), (51, .int .i64 x561), (56, .int .i64 x707.2), (57, .int .i64 x726)], [⟨g710, 137, [.int .i64 x707.1, .int .i64 x707.2]⟩], [Ro (eI .i64) 3 1 (.slice a723 x725.length c724) x725], [Sl eS137 2 (.slice a2 x1.length c3) x1])) (fun k (s : ((List Int × Int) × (Option Addr × Nat))) => ku F (qO F x1 k657) x561 x707 k s.1) ((x560, 0), (a558, c559)) F ?_
 intro k739
 rintro ⟨⟨x725, x726⟩, ⟨a723, c724⟩⟩
 try dsimp only
 refine qB (m' := vB F (qO F x1 k657) x561 x707 (ku F (qO F x1 k657) x561 x707 k739) x725 x726) rfl ?_
 refine av [2,4,24,0,0,1,2,10] ?_ ?_
 intro _
 refine au [12,1,2,14,2,4,3,5,0,1,4,3,13,21,3,16] ?_
 refine qV (vs := [.int .i64 (iadd .i64 x707.1 x726)]) (ys := ([iadd .i64 x707.1 x726] : List Int)) (qz .i64) (by decide) rfl Tryz.underlying30 tf3 rfl rfl rfl rfl rfl (by decide) (fun a746 c747 => zW 1 (qz .i64) rfl Tryz.underlying30 tf3 rfl rfl rfl rfl rfl (.inl ⟨0, _, rfl⟩) rfl rfl (fun x748 e748 a749 c750 => ?_))
 refine au [5,0,24,5,1,4,16,3,0] ?_
 exact qi ((x748, iadd .i64 x726 1), (a749, c750))
 intro _
 refine au [24,9,18,18,24,10,24,5] ?_
 exact qa (x725, (a723, c724))
 rintro ⟨x706, ⟨a704, c705⟩⟩
 try dsimp only
 refine au [4,16,3,0] ?_
 exact qi ((x706, iadd .i64 x561 1), (a704, c705))
 intro _
 refine au [24,9,18,18,24,10] ?_
 exact qa (x560, (a558, c559))
 rintro ⟨x462, ⟨a460, c461⟩⟩
 try dsimp only
 refine au [2,4,3,5,5,0,1,9] ?_
 exact qt (a460, c461)
theorem qaU {F : Nat} {x1 : List Int} {a2 : Option Addr} {c3 : Nat} {r : List Int} (hm : zy F x1 = some r) :
    PureM Tryz.prog 74 [.slice a2 x1.length c3] [] [Ro (eI .i64) 3 1 (.slice a2 x1.length c3) x1] [] (Option Addr × Nat) (fun g => .slice g.1 r.length g.2) (fun _ => []) (fun g => [Ro (eI .i64) 3 1 (.slice g.1 r.length g.2) r]) := by
  unfold zy at hm
  split at hm
  · cases hm
    exact qeK Tryz.slices_Compact_int Tryz.slices_Compact_int_empty (by assumption)
  · simp at hm
theorem qbe {F : Nat} {x1 : List Int} {a2 : Option Addr} {c3 : Nat} {r : List Int} (hm : kG F x1 = some r) :
    Pure Tryz.prog 75 [.slice a2 x1.length c3] [Sl (eI .i64) 1 (.slice a2 x1.length c3) x1] (Option Addr × Nat) (fun g => .slice g.1 r.length g.2) (fun g => [Ro (eI .i64) 3 1 (.slice g.1 r.length g.2) r]) (fun _ => []) := by
 refine qh Tryz.func75 rfl Tryz.ntmps75 rfl hm (fun w => ?_)
 refine av [25,2,2,4,5,0,1,2,2,4,3,30,1,0,1,30,2] ?_ ?_
 intro h11
 refine qg7 0 (qz .i64) (by decide) rfl h11 (fun h12 => ?_)
 subst h12
 refine qB (m' := some ([] : List Int)) rfl ?_
 refine au [2,4,5,0,1,9,11,25,8] ?_
 exact qt (none, 0)
 intro _
 refine au [12,1,2,4] ?_
 refine qV (vs := []) (ys := ([] : List Int)) (qz .i64) (by decide) rfl UnF.u inferInstance rfl rfl rfl rfl rfl (by decide) ?_
 intro a6 c7
 refine au [3,29,9] ?_
 intro x8 e8 a9 c10
 refine au [5,0,1,9] ?_
 exact qt (a9, c10)
set_option maxHeartbeats 4000000 in
theorem qfz {F : Nat} {x1 : List (Int × Int)} {a2 : Option Addr} {c3 : Nat} {x4 : List Int} {a5 : Option Addr} {c6 : Nat} {r : (List Int × Int)} (hm : qam F x1 x4 = some r) :
    Pure Tryz.prog 52 [.slice a2 x1.length c3, .slice a5 x4.length c6] [Sl eS137 2 (.slice a2 x1.length c3) x1, Sl (eI .i64) 1 (.slice a5 x4.length c6) x4] (Option Addr × Nat) (fun g => .tuple #[.slice g.1 r.1.length g.2, .int .i64 r.2]) (fun g => [Ro (eI .i64) 3 1 (.slice g.1 r.1.length g.2) r.1]) (fun _ => []) := by
 refine qh Tryz.func52 rfl Tryz.ntmps52 rfl hm (fun w => ?_)
 refine au [24,12,2,4,5,5,0,1,2,4,3] ?_
 refine qg qeH ?_
 rintro x7 e7 ⟨a8, c9⟩
 refine au [3,17,17,5,5,0,1] ?_
 refine qf (fun ((x12, _) : (Int × Unit)) => ([(1, .slice a5 x4.length c6), (6, .slice a8 x7.1.length c9), (7, .int .i64 x12)], [], [Ro (eI .i64) 3 1 (.slice a8 x7.1.length c9) x7.1], [Sl (eI .i64) 1 (.slice a5 x4.length c6) x4], y8 F x4 x7 x12)) ?_ ?_
 refine av [2,4,3,25,5,0,1,10] ?_ ?_
 intro _
 refine au [4,3,27,14] ?_
 intro x38 e38 _
 refine au [5,0] ?_
 exact qa (x38, ())
 intro _
 refine au [12] ?_
 exact qa (x7.2, ())
 rintro ⟨x12, _⟩
 try dsimp only
 refine av [2,2,4,3,25,7,0,1,10] ?_ ?_
 intro _
 refine au [2,4,3,5,5,0,1,9,11,25,8] ?_
 exact qt (none, 0)
 intro _
 refine au [12,1,2,4,3,3,32,2] ?_
 refine qV (vs := [.slice a8 x7.1.length c9, .slice a5 x4.length c6]) (ys := ([(x7.1, (a8, c9)), (x4, (a5, c6))] : List (List Int × (Option Addr × Nat)))) kI (by decide) rfl Tryz.underlying22 tf30 rfl rfl rfl rfl rfl (by decide) (fun a14 c15 => qfi (inn := iN30) ([x7.1, x4] : List (List Int)) ([(a8, c9), (a5, c6)] : List (Option Addr × Nat)) 0 rfl rfl (qx 0 rfl (qx 1 rfl vY)) ?_)
 refine au [32,3] ?_
 rintro x16 e16 ⟨a17, c18⟩
 refine au [5,0,1,2,4,3,32,4] ?_
 intro x19 e19 _
 refine au [26,6] ?_
 intro h20
 replace h20 := of_decide_eq_true h20
 refine qd (d := 8) (v := .slice a17 x19.length c18) rfl (by rw [h20] <;> rfl) (qd (d := 24) (v := .slice a17 x19.length c18) rfl (by rw [h20] <;> rfl) (qd (d := 25) (v := .slice a17 x19.length c18) rfl (by rw [h20] <;> rfl) ?_))
 refine au [0,1,2,14,2,4,3] ?_
 refine qg qbe ?_
 rintro x29 e29 ⟨a30, c31⟩
 refine q8 qaU ?_
 rintro x32 e32 ⟨a33, c34⟩
 refine av [23,3,23,24,0,5,0,1,10] ?_ ?_
 intro _
 refine au [2,4,5,5,0,1,9,22,11,25,8] ?_
 exact qt (none, 0)
 intro _
 refine av [2,4,3,23,24,11,5,0,1,10] ?_ ?_
 intro _
 refine au [2,4,5,5,0,1,9,22,11,25,8] ?_
 exact qt (none, 0)
 intro _
 refine au [12,24,5,1,2,4,3,5,5,0,1,9] ?_
 exact qt (a17, c18)
set_option maxHeartbeats 4000000 in
theorem qcd {F : Nat} {x1 : Int} {x2 : List Int} {a3 : Option Addr} {c4 : Nat} {x5 : Int} {x6 : Int} {r : (Int × Int × Bool)} (hm : qS F x1 x2 x5 x6 = some r) :
    Pure Tryz.prog 90 [.agg #[.int .i64 x1, .slice a3 x2.length c4], .int .i64 x5, .int .u64 x6] [Sl (eI .u8) 1 (.slice a3 x2.length c4) x2] Unit (fun _ => .tuple #[.int .u64 r.1, .int .i64 r.2.1, .bool r.2.2]) (fun _ => []) (fun _ => []) := by
 refine qh Tryz.func90 rfl Tryz.ntmps90 rfl hm (fun w => ?_)
 refine au [25,12,2,4,24,2] ?_
 intro g7
 refine au [5,5,5,0,1,2,4,3,31,3] ?_
 intro x8 e8 _
 refine au [3,17,17,5,5,0,1] ?_
 refine qf (fun ((_, _) : (Unit × Unit)) => ([(1, .int .i64 x5), (3, .pointer (some ⟨g7, 0, none⟩)), (9, .int .i64 x8.1), (10, .int .u64 x8.2)], [⟨g7, 33, [.int .i64 x1, .slice a3 x2.length c4]⟩], [], [Sl (eI .u8) 1 (.slice a3 x2.length c4) x2], qW F x1 x2 x5 x8)) ?_ ?_
 refine av [2,4,3,24,11,0,1,10] ?_ ?_
 intro _
 refine au [2,4,24,15,3,3,24,13,29,8] ?_
 intro x15 e15 _
 refine av [3,17,17,5,5,0,1,2,2,4,3,25,3,0,1,10] ?_ ?_
 intro _
 exact az [2,4,5,5,5,0,1,9,11,11,15]
 intro _
 refine av [12,1,2,4,3,3,24,0,0,1,10] ?_ ?_
 intro _
 exact az [2,4,3,3,3,16,24,13,5,5,5,0,1,9,11,15]
 intro _
 exact az [12,25,14]
 intro _
 exact az [12,25,14]
 rintro ⟨_, _⟩
 try dsimp only
 refine au [2,4,24,15,3,3,29,8] ?_
 intro x14 e14 _
 exact az [3,17,17,5,5,0,1,2,4,3,3,24,13,3,3,16,3,5,5,5,0,1,9,15]
theorem qdN {F : Nat} {x1 : Int} {x2 : Int} {x3 : Bool} {r : (Int × Int × Int)} (hm : jz F x1 x2 x3 = some r) :
    Pure Tryz.prog 91 [.int .u64 x1, .int .i64 x2, .bool x3] [] Unit (fun _ => .tuple #[.int .u64 r.1, .int .i64 r.2.1, .int .i64 r.2.2]) (fun _ => []) (fun _ => []) := by
 refine qh Tryz.func91 rfl Tryz.ntmps91 rfl hm (fun w => ?_)
 refine av [25,12,2,4,5,5,5,0,1,2,14,2,4,3,25,3,5,0,1,10] ?_ ?_
 intro _
 exact az [2,4,5,5,5,0,1,9,22,11,15]
 intro _
 refine av [2,4,3,24,11,5,0,1,10] ?_ ?_
 intro _
 exact az [2,4,5,5,5,0,1,9,22,11,15]
 intro _
 exact az [12,24,5,1,2,4,3,3,5,5,5,0,1,9,15]
set_option maxHeartbeats 4000000 in
theorem qcw {F : Nat} {x1 : Int} {x2 : List Int} {a3 : Option Addr} {c4 : Nat} {x5 : Int} {x6 : Int} {r : (Int × Int × Int)} (hm : vn F x1 x2 x5 x6 = some r) :
    Pure Tryz.prog 76 [.agg #[.int .i64 x1, .slice a3 x2.length c4], .int .i64 x5, .int .i64 x6] [Sl (eI .u8) 1 (.slice a3 x2.length c4) x2] Unit (fun _ => .tuple #[.int .u64 r.1, .int .i64 r.2.1, .int .i64 r.2.2]) (fun _ => []) (fun _ => []) := by
 refine qh Tryz.func76 rfl Tryz.ntmps76 rfl hm (fun w => ?_)
 refine au [25,12,2,4,24,2] ?_
 intro g7
 refine au [5,5,5,0,1,2,4,24,15,3,31,11] ?_
 intro x8 e8 _
 refine av [3,17,17,17,5,5,5,0,1,2,2,4,3,25,3,0,1,10] ?_ ?_
 intro _
 exact az [2,4,5,5,5,0,1,9,11,15]
 intro _
 refine av [12,1,2,2,4,3,3,25,1,32,5,25,13,0,1,10] ?_ ?_
 intro _
 exact az [2,4,5,5,5,0,1,9,11,15]
 intro _
 refine au [12,1,2,4,3,25,1,3,32,5,26,6] ?_
 intro h11
 refine qdF rfl rfl rfl rfl h11 ?_
 refine au [5,26,1] ?_
 intro x12 e12
 refine qd (d := 12) (v := .int .u64 x12) rfl (by rw [e12] <;> rfl) ?_
 refine au [0,1,2,27,5] ?_
 intro h17
 refine qr mixed [] [⟨g7, 33, [.int .i64 x1, .slice a3 x2.length c4]⟩] [Sl (eI .u8) 1 (.slice a3 x2.length c4) x2] (.cons 0 rfl .nil) (qy 0 rfl qn) 15 rfl (kA 0 (.agg #[.int .i64 x1, .slice a3 x2.length c4]) rfl rfl rfl (zd (i := 0) rfl tf33 rfl rfl (by simp) rfl) ?_)
 refine au [6,1,6,2,6,3] ?_
 refine qj 4 (.int .u64 (ishl .u64 x12 x6)) rfl rfl rfl (qdo rfl rfl h17) ?_
 refine au [6,5,6,6,20,7] ?_
 refine qg qcd ?_
 intro x20 e20 _
 refine au [0,28,9,6,8,6,9,6,10,6,11,6,12,6,13,6,14,24,3] ?_
 refine qv ?_ (by intro c h; cases h)
 refine au [1,2,4,3,3,16,24,13,3,3] ?_
 refine qg qdN ?_
 intro x21 e21 _
 exact az [17,17,17,5,5,5,0,1,9,15]
set_option maxHeartbeats 4000000 in
theorem qcc {F : Nat} {g1 : Nat} {x2 : Int} {x3 : Bool} {x4 : Int} {r : (Bool × Int × Bool)} (hm : zC F x2 x3 x4 = some r) :
    PureM Tryz.prog 77 [.pointer (some ⟨g1, 0, none⟩), .int .u64 x4] [⟨g1, 142, [.int .i64 x2, .bool x3]⟩] [] [] Unit (fun _ => .bool r.1) (fun _ => [⟨g1, 142, [.int .i64 r.2.1, .bool r.2.2]⟩]) (fun _ => []) := by
 refine zS Tryz.func77 rfl Tryz.ntmps77 rfl hm (fun w => ?_)
 refine av [24,12,2,4,5,0,1,2,2,4,3,24,11,0,1,10] ?_ ?_
 intro _
 exact az [2,4,5,0,1,9,11,29,3]
 intro _
 refine au [12,1] ?_
 refine qf (fun ((x8, _) : (Int × Unit)) => ([(0, .pointer (some ⟨g1, 0, none⟩))], [⟨g1, 142, [.int .i64 x8, .bool x3]⟩], [], [], zX F x8)) ?_ ?_
 refine av [2,4,3,24,14,13,21,0,1,10] ?_ ?_
 intro _
 refine au [4,3,24,14,13,21,3,25,1,16,16,24,14,13,24,4,0] ?_
 exact qa (iadd .i64 x2 (iadd .i64 (iconv .i64 x4) 1), ())
 intro _
 refine qr mixed [9] [] [(BlkD.is ⟨g1, 142, [.int .i64 x2, .bool x3]⟩)] .nil (qeL 0 rfl qn) 10 rfl ?_
 refine au [6,0,6,1,19,2] ?_
 refine qU 3 (.int .i64 x2) [[9]] rfl rfl rfl (vP (j := 0) rfl tf3 rfl rfl (fun _ => rfl) rfl) ?_
 refine au [6,4,20,5,31,13] ?_
 intro x10 e10 _
 refine au [0,28,14,6,6,6,7,19,8,20,9,24,4,0] ?_
 refine qaI 9 rfl (by kernel_rfl) .nil ?_
 refine au [24,3] ?_
 exact qv (qa (iadd .i64 x2 x10, ())) (by intro c h; cases h)
 rintro ⟨x8, _⟩
 try dsimp only
 refine au [2,4,3,24,14,13,24,4,0,1,2,4,3,24,14,13,21,30,7] ?_
 intro x9 e9 _
 exact az [5,0,1,9,29,3]
set_option maxHeartbeats 4000000 in
theorem qgn {F : Nat} {x1 : Int} {x2 : List Int} {a3 : Option Addr} {c4 : Nat} {x5 : Int} {x6 : Int} {x7 : Int} {x8 : Int} {r : (List Int × Int × Int)} (hm : qaM F x1 x2 x5 x6 x7 x8 = some r) :
    Pure Tryz.prog 53 [.agg #[.int .i64 x1, .slice a3 x2.length c4], .int .i64 x5, .int .i64 x6, .int .i64 x7, .int .i64 x8] [Sl (eI .u8) 1 (.slice a3 x2.length c4) x2] (Option Addr × Nat) (fun g => .tuple #[.slice g.1 r.1.length g.2, .int .i64 r.2.1, .int .i64 r.2.2]) (fun g => [Ro (eI .i64) 3 1 (.slice g.1 r.1.length g.2) r.1]) (fun _ => []) := by
 refine qh Tryz.func53 rfl Tryz.ntmps53 rfl hm (fun w => ?_)
 refine au [29,4,2,4,24,2] ?_
 intro g9
 refine au [5,5,5,0,1,2,4,3] ?_
 refine qF (cells := [.int .i64 x6, .bool false]) rfl st142 rfl (by kernel_rfl) rfl ?_
 refine au [24,2] ?_
 intro g10
 refine au [5,0,1] ?_
 refine qf (fun (((x105, x108), (a106, c107)) : ((Int × List Int) × (Option Addr × Nat))) => ([(1, .int .i64 x105), (10, .slice a106 x108.length c107)], [], [Ro (eI .i64) 3 1 (.slice a106 x108.length c107) x108], [], qaw F x105 x108)) ?_ ?_
 refine au [2,4,3,3,0,1,14,26,12] ?_
 refine qo (fun (((x138, x141, x142, x143, x144), (a139, c140)) : ((Int × List Int × Int × Int × Bool) × (Option Addr × Nat))) => ([(1, .int .i64 x138), (3, .int .i64 x7), (5, .pointer (some ⟨g9, 0, none⟩)), (10, .slice a139 x141.length c140), (13, .pointer (some ⟨g10, 0, none⟩)), (18, .int .i64 x8), (19, .int .i64 x142)], [⟨g10, 142, [.int .i64 x143, .bool x144]⟩, ⟨g9, 33, [.int .i64 x1, .slice a3 x2.length c4]⟩], [Ro (eI .i64) 3 1 (.slice a139 x141.length c140) x141], [Sl (eI .u8) 1 (.slice a3 x2.length c4) x2])) (fun k (s : ((Int × List Int × Int × Int × Bool) × (Option Addr × Nat))) => yz F x1 x2 x7 x8 k s.1) ((x5, ([] : List Int), 0, x6, false), (none, 0)) F ?_
 intro k173
 rintro ⟨⟨x138, x141, x142, x143, x144⟩, ⟨a139, c140⟩⟩
 try dsimp only
 refine qB (m' := jy F x1 x2 x7 x8 (yz F x1 x2 x7 x8 k173) x138 x141 x142 x143 x144) rfl ?_
 refine av [2,4,24,0,0,1,2,10] ?_ ?_
 intro _
 refine au [12,1,2,14,2,4,5,0,1,2,2,4,25,6,3,3] ?_
 refine qg qcw ?_
 intro x190 e190 _
 refine av [3,17,17,17,5,5,5,0,1,2,4,3,25,7,0,1,10] ?_ ?_
 intro _
 refine au [2,4,3,5,5,5,0,1,9,11,22,11,11,22,11,25,8] ?_
 exact qt (none, 0)
 intro _
 refine au [12,1,2,2,4,3,3] ?_
 refine q8 qcc ?_
 intro x193 e193 _
 refine av [25,3,0,1,10] ?_ ?_
 intro _
 refine au [2,4,5,5,5,0,1,9,11,22,11,11,22,11,25,8] ?_
 exact qt (none, 0)
 intro _
 refine au [12,1,4,3,3,24,14,13,21] ?_
 refine qV (vs := [.int .i64 x193.2.1]) (ys := ([x193.2.1] : List Int)) (qz .i64) (by decide) rfl Tryz.underlying30 tf3 rfl rfl rfl rfl rfl (by decide) (fun a194 c195 => zW 1 (qz .i64) rfl Tryz.underlying30 tf3 rfl rfl rfl rfl rfl (.inl ⟨0, _, rfl⟩) rfl rfl (fun x196 e196 a197 c198 => ?_))
 refine au [5,0,24,5,1,4,16,3,0] ?_
 exact qi ((x190.2.1, x196, iadd .i64 x142 1, x193.2.1, x193.2.2), (a197, c198))
 intro _
 refine au [24,9,18,18,24,10] ?_
 exact qa ((x138, x141), (a139, c140))
 rintro ⟨⟨x105, x108⟩, ⟨a106, c107⟩⟩
 try dsimp only
 refine au [2,4,3,3,5,5,5,0,1,9] ?_
 exact qt (a106, c107)
set_option maxHeartbeats 4000000 in
theorem qch (F : Nat) (g1 : Nat) (x2 : Int) (x3 : List Int) (a4 : Option Addr) (c5 : Nat) (x6 : Int) (x7 : Int) (x8 : List Int) (a9 : Option Addr) (c10 : Nat) (x11 : Int) (x12 : Int) (x13 : Int) (r : ((List Int × Int × Int) ⊕ (Int × Int))) (hm : kP F x2 x3 x6 x7 x8 x11 x12 x13 = some r) :
    PureL Tryz.prog 37 [.pointer (some ⟨g1, 0, none⟩), .int .i64 x7, .slice a9 x8.length c10, .agg #[.int .i64 x11, .int .i64 x12, .int .i64 x13]] [⟨g1, 75, [.int .i64 x2, .slice a4 x3.length c5, .int .i64 x6]⟩] [] [Sl (eI .u8) 1 (.slice a4 x3.length c5) x3, Sl (eI .i64) 1 (.slice a9 x8.length c10) x8] lostCh (Option Addr × Nat) (fun (r : (List Int × Int × Int)) (g : (Option Addr × Nat)) => .slice g.1 r.1.length g.2) (fun (r : (List Int × Int × Int)) (_ : (Option Addr × Nat)) => [⟨g1, 75, [.int .i64 r.2.1, .slice a4 x3.length c5, .int .i64 r.2.2]⟩]) (fun (r : (List Int × Int × Int)) (g : (Option Addr × Nat)) => [Ro (eI .i64) 3 1 (.slice g.1 r.1.length g.2) r.1]) (fun (z : (Int × Int)) => [⟨g1, 75, [.int .i64 z.1, .slice a4 x3.length c5, .int .i64 z.2]⟩]) r := by
 refine qbM Tryz.func37 rfl Tryz.ntmps37 rfl hm (fun w => ?_)
 refine au [27,1,2,4,24,2] ?_
 intro g14
 refine au [5,0,1,2,4,3] ?_
 refine zF ent48 rfl rfl rfl (fun x15 e15 => zT F g1 x2 x3 a4 c5 x6 300 x15 e15) (.cons 1 rfl .nil) .nil (.consF 0 rfl .nil) (fun x16 _ => ?_) (fun x15 e15 => ?_)
 exact az [25,0,26,0]
 intro _
 refine av [5,0,1,2,2,4,3,25,5,0,1,10] ?_ ?_
 intro _
 refine au [2,4,5,0,1,9,11,25,8] ?_
 exact jS (none, 0) (.inl rfl) (res1 rfl rfl) rfl (.cons 0 rfl .nil) (.cons 0 rfl .nil)
 intro _
 refine au [12,1,2,4,5,0,1] ?_
 refine qf (fun (((x31, x32, x33), (a29, c30)) : ((List Int × Int × Int) × (Option Addr × Nat))) => ([(0, .pointer (some ⟨g1, 0, none⟩)), (1, .int .i64 x7), (7, .pointer (some ⟨g14, 0, none⟩)), (9, .int .i64 x15.1), (10, .slice a29 x31.length c30)], [⟨g1, 75, [.int .i64 x32, .slice a4 x3.length c5, .int .i64 x33]⟩, ⟨g14, 26, [.int .i64 x11, .int .i64 x12, .int .i64 x13]⟩], [Ro (eI .i64) 3 1 (.slice a29 x31.length c30) x31], [Sl (eI .u8) 1 (.slice a4 x3.length c5) x3], zY F x3 x7 x12 x13 x15 x31 x32 x33)) ?_ ?_
 refine av [2,4,13,25,11,24,11,0,1,10] ?_ ?_
 intro _
 refine au [2,4,5,0,1,2,4,3,3,3,23] ?_
 refine zF ent50 rfl rfl rfl (fun x72 e72 => qbE F g1 x15.2.1 x3 a4 c5 x15.2.2 (x8.length : Int) x72 e72) (.cons 0 rfl .nil) .nil (.consF 0 rfl .nil) (fun x73 _ => ?_) (fun x72 e72 => ?_)
 exact az [25,0,25,0,26,0]
 rintro ⟨a74, c75⟩
 refine qg qfy ?_
 rintro x76 e76 ⟨a77, c78⟩
 refine au [3,17,17,5,5,0,1,4,3,25,5,3] ?_
 refine qR 5 ((x76.2 : Int) == 0) [(0, .pointer (some ⟨g1, 0, none⟩)), (1, .int .i64 x7), (7, .pointer (some ⟨g14, 0, none⟩)), (9, .int .i64 x15.1), (10, .slice a77 x76.1.length c78), (41, .bool (((x76.2 : Int) == 0) && (decide ((x76.1.length : Int) ≤ x15.1))))] (fun h79 => ?_) (fun h79 => ?_) ?_
 refine qc (os := _) rfl (qI (k := 36) rfl h79 ?_)
 refine au [3,23,3,26,11,24,7] ?_
 refine qd (d := 41) (v := .bool (((x76.2 : Int) == 0) && (decide ((x76.1.length : Int) ≤ x15.1)))) rfl (by rw [h79]; simp only [Bool.true_and]) ?_
 exact az [0,24,1]
 refine qc (os := _) rfl (qH (k := 36) rfl h79 ?_)
 refine au [8,8,8,8,24,8] ?_
 refine qd (d := 41) (v := .bool (((x76.2 : Int) == 0) && (decide ((x76.1.length : Int) ≤ x15.1)))) rfl (by rw [h79]; simp only [Bool.false_and]) ?_
 exact az [0,24,1]
 refine qc (os := _) rfl (zF ent38 rfl rfl rfl (fun x80 e80 => yF F (((x76.2 : Int) == 0) && (decide ((x76.1.length : Int) ≤ x15.1))) x80 e80) .nil .nil .nil (fun x81 _ => ?_) (fun x80 e80 => ?_))
 exact az [25,0,26,0]
 intro _
 refine au [0] ?_
 exact qa ((x76.1, x72.2.1, x72.2.2), (a77, c78))
 intro _
 refine au [12,25,8] ?_
 exact qa ((([] : List Int), x15.2.1, x15.2.2), (none, 0))
 rintro ⟨⟨x31, x32, x33⟩, ⟨a29, c30⟩⟩
 try dsimp only
 refine av [2,4,3,3,23,24,13,5,0,1,2,2,4,3,25,5,0,1,10] ?_ ?_
 intro _
 refine au [2,4,3,5,0,1,9,11] ?_
 exact jS (a29, c30) (.inl rfl) (res1 rfl rfl) rfl (.cons 0 rfl .nil) (.cons 0 rfl .nil)
 intro _
 refine au [12,1,2,4,5,0,1] ?_
 refine qf (fun (((x42, x43, x44), (a40, c41)) : ((List (Int × Int) × Int × Int) × (Option Addr × Nat))) => ([(0, .pointer (some ⟨g1, 0, none⟩)), (1, .int .i64 x7), (7, .pointer (some ⟨g14, 0, none⟩)), (10, .slice a29 x31.length c30), (12, .int .i64 (isub .i64 x15.1 (x31.length : Int))), (13, .slice a40 x42.length c41)], [⟨g1, 75, [.int .i64 x43, .slice a4 x3.length c5, .int .i64 x44]⟩, ⟨g14, 26, [.int .i64 x11, .int .i64 x12, .int .i64 x13]⟩], [Ro (eI .i64) 3 1 (.slice a29 x31.length c30) x31, Ro eS137 137 2 (.slice a40 x42.length c41) x42], [Sl (eI .u8) 1 (.slice a4 x3.length c5) x3], zZ F x3 x7 x13 x15 x31 x42 x43 x44)) ?_ ?_
 refine av [2,4,13,25,11,24,11,0,1,10] ?_ ?_
 intro _
 refine au [4,3,3,13,25,11,3] ?_
 refine zF ent51 rfl rfl rfl (fun x66 e66 => qcj F g1 x32 x3 a4 c5 x33 x7 x12 (isub .i64 x15.1 (x31.length : Int)) x66 e66) (.cons 0 rfl .nil) .nil (.consF 0 rfl .nil) (fun x67 _ => ?_) (fun x66 e66 => ?_)
 exact az [25,0,26,0]
 rintro ⟨a68, c69⟩
 refine au [5,0] ?_
 exact qa ((x66.1, x66.2.1, x66.2.2), (a68, c69))
 intro _
 refine au [12] ?_
 exact qcr (Int × Int) eS137 137 2 (qa ((([] : List (Int × Int)), x32, x33), (none, 0)))
 rintro ⟨⟨x42, x43, x44⟩, ⟨a40, c41⟩⟩
 try dsimp only
 refine au [2,4,3,27,10] ?_
 refine qg qfz ?_
 rintro x45 e45 ⟨a46, c47⟩
 refine au [3,17,17,5,5,0,1,2,4,3,25,5,3] ?_
 refine qR 5 ((x45.2 : Int) == 0) [(0, .pointer (some ⟨g1, 0, none⟩)), (1, .int .i64 x7), (7, .pointer (some ⟨g14, 0, none⟩)), (10, .slice a29 x31.length c30), (12, .int .i64 (isub .i64 x15.1 (x31.length : Int))), (14, .slice a46 x45.1.length c47), (71, .bool (((x45.2 : Int) == 0) && (decide ((x45.1.length : Int) ≤ (isub .i64 x15.1 (x31.length : Int))))))] (fun h48 => ?_) (fun h48 => ?_) ?_
 refine qc (os := _) rfl (qI (k := 66) rfl h48 ?_)
 refine au [3,23,3,26,11,24,7] ?_
 refine qd (d := 71) (v := .bool (((x45.2 : Int) == 0) && (decide ((x45.1.length : Int) ≤ (isub .i64 x15.1 (x31.length : Int)))))) rfl (by rw [h48]; simp only [Bool.true_and]) ?_
 exact az [0,24,1]
 refine qc (os := _) rfl (qH (k := 66) rfl h48 ?_)
 refine au [8,8,8,8,24,8] ?_
 refine qd (d := 71) (v := .bool (((x45.2 : Int) == 0) && (decide ((x45.1.length : Int) ≤ (isub .i64 x15.1 (x31.length : Int)))))) rfl (by rw [h48]; simp only [Bool.false_and]) ?_
 exact az [0,24,1]
 refine qc (os := _) rfl (zF ent38 rfl rfl rfl (fun x49 e49 => yF F (((x45.2 : Int) == 0) && (decide ((x45.1.length : Int) ≤ (isub .i64 x15.1 (x31.length : Int))))) x49 e49) .nil .nil .nil (fun x50 _ => ?_) (fun x49 e49 => ?_))
 exact az [25,0,26,0]
 intro _
 refine au [0,1,2] ?_
 refine qr mixed [] [⟨g1, 75, [.int .i64 x43, .slice a4 x3.length c5, .int .i64 x44]⟩, ⟨g14, 26, [.int .i64 x11, .int .i64 x12, .int .i64 x13]⟩] [Sl (eI .u8) 1 (.slice a4 x3.length c5) x3] (.cons 0 rfl (.cons 0 rfl .nil)) (qy 0 rfl qn) 23 rfl ?_
 refine au [6,0,6,1,19,2] ?_
 refine kA 3 (.agg #[.int .i64 x43, .slice a4 x3.length c5]) rfl rfl rfl (zd (i := 0) rfl tf33 rfl rfl (by simp) rfl) ?_
 refine au [6,4,6,5,19,6,25,4,7,6,8,19,9,28,7,10,6,11,6,12,26,8,13,6,14,20,15] ?_
 refine qg qgn ?_
 rintro x54 e54 ⟨a55, c56⟩
 refine au [0,29,5,6,16,6,17,6,18,6,19,6,20,6,21,6,22,24,3] ?_
 refine qv ?_ (by intro c h; cases h)
 refine au [1,2,4,3,25,5] ?_
 refine zF ent38 rfl rfl rfl (fun x57 e57 => yF F ((x54.2.2 : Int) == 0) x57 e57) .nil .nil .nil (fun x58 _ => ?_) (fun x57 e57 => ?_)
 exact az [25,0,26,0]
 intro _
 refine au [0,1,2,4,3,3,24,14,13,24,4,0,1,2,4,3,3,3] ?_
 refine qcp 3 rfl (qcp 1 rfl ?_)
 refine au [32,2] ?_
 refine qV (vs := [.slice a29 x31.length c30, .slice a46 x45.1.length c47, .slice a55 x54.1.length c56]) (ys := ([(x31, (a29, c30)), (x45.1, (a46, c47)), (x54.1, (a55, c56))] : List (List Int × (Option Addr × Nat)))) kI (by decide) rfl Tryz.underlying22 tf30 rfl rfl rfl rfl rfl (by decide) (fun a59 c60 => qfi (inn := iN30) ([x31, x45.1, x54.1] : List (List Int)) ([(a29, c30), (a46, c47), (a55, c56)] : List (Option Addr × Nat)) 0 rfl rfl (qx 2 rfl (qx 1 rfl (qx 0 rfl vY))) ?_)
 refine au [32,3] ?_
 rintro x61 e61 ⟨a62, c63⟩
 refine au [5,0,1,2,4,3,32,4] ?_
 intro x64 e64 _
 refine au [26,6] ?_
 intro h65
 replace h65 := of_decide_eq_true h65
 refine qd (d := 10) (v := .slice a62 x64.length c63) rfl (by rw [h65] <;> rfl) (qd (d := 104) (v := .slice a62 x64.length c63) rfl (by rw [h65] <;> rfl) (qd (d := 105) (v := .slice a62 x64.length c63) rfl (by rw [h65] <;> rfl) ?_))
 refine au [0,1,2,4,3,5,0,1,9] ?_
 exact jS (a62, c63) (.inl rfl) (res1 rfl rfl) rfl (.cons 0 rfl .nil) (.cons 0 rfl .nil)
set_option maxHeartbeats 4000000 in
theorem qci {F : Nat} {g1 : Nat} {x2 : Int} {x3 : List Int} {a4 : Option Addr} {c5 : Nat} {x6 : Int} {x7 : Int} {x8 : List Int} {a9 : Option Addr} {c10 : Nat} {x11 : Int} {x12 : Int} {x13 : Int} {r : (List Int × Bool × Int × Int)} (hm : kQ F x2 x3 x6 x7 x8 x11 x12 x13 = some r) :
    PureM Tryz.prog 29 [.pointer (some ⟨g1, 0, none⟩), .int .i64 x7, .slice a9 x8.length c10, .agg #[.int .i64 x11, .int .i64 x12, .int .i64 x13]] [⟨g1, 75, [.int .i64 x2, .slice a4 x3.length c5, .int .i64 x6]⟩] [] [Sl (eI .u8) 1 (.slice a4 x3.length c5) x3, Sl (eI .i64) 1 (.slice a9 x8.length c10) x8] (Option Addr × Nat) (fun g => .tuple #[.slice g.1 r.1.length g.2, .bool r.2.1]) (fun _ => [⟨g1, 75, [.int .i64 r.2.2.1, .slice a4 x3.length c5, .int .i64 r.2.2.2]⟩]) (fun g => [Ro (eI .i64) 3 1 (.slice g.1 r.1.length g.2) r.1]) := by
 refine qky Tryz.func29 rfl Tryz.ntmps29 rfl hm (fun w => ?_)
 refine au [27,1,2,4,24,2] ?_
 intro g14
 refine au [24,6] ?_
 intro g15
 refine au [24,6] ?_
 intro g16
 refine au [0,1,2,4,28,10] ?_
 refine qjt rfl rfl ?_
 refine au [0,1,2,4,3,24,14,13,27,13,5,0,1,2,4,3,3,3,26,2] ?_
 refine zF ent37 rfl rfl rfl (fun x17 e17 => qch F g1 x2 x3 a4 c5 x6 x7 x8 a9 c10 x11 x12 x13 x17 e17) (.cons 3 rfl .nil) .nil (.consF 0 rfl (.consF 1 rfl .nil)) (fun x18 _ => ?_) (fun x17 e17 => ?_)
 refine au [25,0] ?_
 refine qaJ ent36 rfl (.cons 2 rfl (.cons 1 rfl .nil)) (lost36 _ _ _ _) ?_
 refine au [25,8] ?_
 exact vW (none, 0) (resL (rs := [.cell 8 30, .cell 9 4]) rfl (.cell (i := 0) rfl tf30 rfl rfl (fun _ => rfl) rfl (.cell (i := 1) rfl tf4 rfl rfl (fun _ => rfl) rfl ResOk.nil)) rfl) (hB := fun h => by subst h; exact (.cons 2 rfl .nil)) (hR := fun h => by subst h; exact (.cons 0 rfl .nil))
 rintro ⟨a19, c20⟩
 refine au [26,13,0,1,2,4,27,8,27,14] ?_
 intro x21 e21 _
 refine au [25,5] ?_
 refine zF ent38 rfl rfl rfl (fun x22 e22 => yF F ((x21 : Int) == 0) x22 e22) .nil .nil .nil (fun x23 _ => ?_) (fun x22 e22 => ?_)
 refine au [25,0] ?_
 refine qaJ ent36 rfl (.cons 2 rfl (.cons 1 rfl .nil)) (lost36 _ _ _ _) ?_
 refine au [25,8] ?_
 exact vW (none, 0) (resL (rs := [.cell 8 30, .cell 9 4]) rfl (.cell (i := 0) rfl tf30 rfl rfl (fun _ => rfl) rfl (.cell (i := 1) rfl tf4 rfl rfl (fun _ => rfl) rfl ResOk.nil)) rfl) (hB := fun h => by subst h; exact (.cons 2 rfl .nil)) (hR := fun h => by subst h; exact (.cons 0 rfl .nil))
 intro _
 refine au [0,1,2,4] ?_
 refine qF (cells := [.int .i64 0, .slice none 0 0, .bool false]) rfl st94 rfl (by kernel_rfl) rfl ?_
 refine au [24,2] ?_
 intro g24
 refine au [5,0,1,2,4,3,3,27,13,3] ?_
 refine yE (i := 4) rfl rfl inferInstance rfl rfl (by simp) rfl rfl ?_
 refine au [27,3,31,6] ?_
 rintro x25 e25 ⟨a26, c27⟩
 refine au [0,1] ?_
 refine qf (fun ((_, _) : (Unit × Unit)) => ([(0, .pointer (some ⟨g1, 0, none⟩)), (8, .pointer (some ⟨g15, 0, none⟩)), (9, .pointer (some ⟨g16, 0, none⟩)), (10, .int .i64 x6), (11, .pointer (some ⟨g24, 0, none⟩))], [⟨g24, 94, [.int .i64 x25.1, .slice a26 x25.2.1.length c27, .bool x25.2.2]⟩, ⟨g1, 75, [.int .i64 x17.2.1, .slice a4 x3.length c5, .int .i64 x17.2.2]⟩, ⟨g16, 4, [.bool false]⟩, ⟨g15, 30, [.slice a19 x17.1.length c20]⟩], [Ro (eI .u8) 5 1 (.slice a26 x25.2.1.length c27) x25.2.1, Ro (eI .i64) 3 1 (.slice a19 x17.1.length c20) x17.1], [Sl (eI .u8) 1 (.slice a4 x3.length c5) x3], kW F x3 x6 x17 x25)) ?_ ?_
 refine av [26,7] ?_ ?_
 intro h97
 refine qdl mixed [8, 9] [] [⟨g24, 94, [.int .i64 x25.1, .slice a26 x25.2.1.length c27, .bool x25.2.2]⟩, ⟨g1, 75, [.int .i64 x17.2.1, .slice a4 x3.length c5, .int .i64 x17.2.2]⟩, ⟨g16, 4, [.bool false]⟩, ⟨g15, 30, [.slice a19 x17.1.length c20]⟩, ⟨g14, 26, [.int .i64 x11, .int .i64 x12, .int .i64 x13]⟩] [Sl (eI .u8) 1 (.slice a4 x3.length c5) x3, Sl (eI .i64) 1 (.slice a9 x8.length c10) x8] (.cons 0 rfl (.cons 0 rfl (.cons 0 rfl (.cons 0 rfl (.cons 0 rfl .nil))))) (qy 0 rfl (qy 1 rfl qn)) 20 rfl ?_
 refine au [29,11,29,12,29,13] ?_
 refine jQ 3 (.bool x25.2.2) rfl rfl rfl (zd (i := 0) rfl tf4 rfl rfl (fun _ => rfl) rfl) rfl ?_
 refine au [29,14,32,6] ?_
 refine qe (d := 40) (v := .bool true) rfl (by rw [h97] <;> rfl) ?_
 refine au [32,7,32,8,32,9] ?_
 refine zb 9 _ rfl rfl rfl (jJ rfl inferInstance) rfl (jQ 10 (.int .i64 x25.1) rfl rfl rfl (zd (i := 0) rfl tf3 rfl rfl (fun _ => rfl) rfl) rfl ?_)
 refine au [32,10,32,11] ?_
 refine zb 13 _ rfl rfl rfl (jJ rfl inferInstance) rfl (jQ 14 (.int .i64 x17.2.2) rfl rfl rfl (zd (i := 1) rfl tf3 rfl rfl (fun _ => rfl) rfl) rfl (zb 15 _ rfl rfl rfl (qaK rfl) rfl (zb 16 _ rfl rfl rfl (qaK rfl) rfl (zb 17 _ rfl rfl rfl (qaK rfl) rfl ?_))))
 refine au [32,12,20,19] ?_
 refine zF ent38 rfl rfl rfl (fun x98 e98 => yF F ((x25.1 : Int) == (isub .i64 x17.2.2 x6)) x98 e98) .nil .nil .nil (fun x99 _ => ?_) (fun x98 e98 => ?_)
 refine au [25,0] ?_
 refine qgb (l' := [(8, .pointer (some ⟨g15, 0, none⟩)), (9, .pointer (some ⟨g16, 0, none⟩))]) (qbR rfl rfl (qbR rfl rfl qhu)) ?_
 refine au [25,0] ?_
 refine qaJ ent36 rfl (.cons 3 rfl (.cons 2 rfl .nil)) (lost36 _ _ _ _) ?_
 refine au [25,8] ?_
 exact vW (none, 0) (resL (rs := [.cell 8 30, .cell 9 4]) rfl (.cell (i := 0) rfl tf30 rfl rfl (fun _ => rfl) rfl (.cell (i := 1) rfl tf4 rfl rfl (fun _ => rfl) rfl ResOk.nil)) rfl) (hB := fun h => by subst h; exact (.cons 3 rfl .nil)) (hR := fun h => by subst h; exact (.cons 0 rfl .nil))
 intro _
 refine au [0,32,13,24,3] ?_
 refine qhY ?_ (by intro c h; cases h)
 exact az [25,14]
 intro h97
 refine qdl mixed [8, 9] [] [⟨g24, 94, [.int .i64 x25.1, .slice a26 x25.2.1.length c27, .bool x25.2.2]⟩, ⟨g1, 75, [.int .i64 x17.2.1, .slice a4 x3.length c5, .int .i64 x17.2.2]⟩, ⟨g16, 4, [.bool false]⟩, ⟨g15, 30, [.slice a19 x17.1.length c20]⟩, ⟨g14, 26, [.int .i64 x11, .int .i64 x12, .int .i64 x13]⟩] [Sl (eI .u8) 1 (.slice a4 x3.length c5) x3, Sl (eI .i64) 1 (.slice a9 x8.length c10) x8] (.cons 0 rfl (.cons 0 rfl (.cons 0 rfl (.cons 0 rfl (.cons 0 rfl .nil))))) (qy 0 rfl (qy 1 rfl qn)) 20 rfl ?_
 refine au [29,11,29,12,29,13] ?_
 refine jQ 3 (.bool x25.2.2) rfl rfl rfl (zd (i := 0) rfl tf4 rfl rfl (fun _ => rfl) rfl) rfl ?_
 refine au [29,14,32,6] ?_
 refine qe (d := 40) (v := .bool false) rfl (by rw [h97] <;> rfl) (yd 6 rfl rfl rfl rfl (yd 7 rfl rfl rfl rfl (yd 8 rfl rfl rfl rfl (yd 9 rfl rfl rfl rfl (yd 10 rfl rfl rfl rfl (yd 11 rfl rfl rfl rfl (yd 12 rfl rfl rfl rfl (yd 13 rfl rfl rfl rfl (yd 14 rfl rfl rfl rfl (yd 15 rfl rfl rfl rfl (yd 16 rfl rfl rfl rfl (yd 17 rfl rfl rfl rfl ?_))))))))))))
 refine au [32,12,20,19] ?_
 refine zF ent38 rfl rfl rfl (fun x100 e100 => yF F false x100 e100) .nil .nil .nil (fun x101 _ => ?_) (fun x100 e100 => ?_)
 refine au [25,0] ?_
 refine qgb (l' := [(8, .pointer (some ⟨g15, 0, none⟩)), (9, .pointer (some ⟨g16, 0, none⟩))]) (qbR rfl rfl (qbR rfl rfl qhu)) ?_
 refine au [25,0] ?_
 refine qaJ ent36 rfl (.cons 3 rfl (.cons 2 rfl .nil)) (lost36 _ _ _ _) ?_
 refine au [25,8] ?_
 exact vW (none, 0) (resL (rs := [.cell 8 30, .cell 9 4]) rfl (.cell (i := 0) rfl tf30 rfl rfl (fun _ => rfl) rfl (.cell (i := 1) rfl tf4 rfl rfl (fun _ => rfl) rfl ResOk.nil)) rfl) (hB := fun h => by subst h; exact (.cons 3 rfl .nil)) (hR := fun h => by subst h; exact (.cons 0 rfl .nil))
 intro _
 refine au [0,32,13,24,3] ?_
 refine qhY ?_ (by intro c h; cases h)
 exact az [25,14]
 rintro ⟨_, _⟩
 try dsimp only
 refine qf (fun ((_, _) : (Unit × Unit)) => ([(8, .pointer (some ⟨g15, 0, none⟩)), (9, .pointer (some ⟨g16, 0, none⟩))], [⟨g1, 75, [.int .i64 x17.2.1, .slice a4 x3.length c5, .int .i64 x17.2.2]⟩, ⟨g16, 4, [.bool false]⟩, ⟨g15, 30, [.slice a19 x17.1.length c20]⟩], [Ro (eI .i64) 3 1 (.slice a19 x17.1.length c20) x17.1], [Sl (eI .u8) 1 (.slice a4 x3.length c5) x3], jK F x17)) ?_ ?_
 refine au [2,4,3,24,14,13,13,21,3,0,1,14] ?_
 refine qo (fun ((x75, _) : (Int × Unit)) => ([(0, .pointer (some ⟨g1, 0, none⟩)), (8, .pointer (some ⟨g15, 0, none⟩)), (9, .pointer (some ⟨g16, 0, none⟩)), (10, .int .i64 x6), (11, .pointer (some ⟨g24, 0, none⟩)), (59, .int .i64 x25.1), (60, .int .i64 x75)], [⟨g24, 94, [.int .i64 x25.1, .slice a26 x25.2.1.length c27, .bool x25.2.2]⟩, ⟨g1, 75, [.int .i64 x17.2.1, .slice a4 x3.length c5, .int .i64 x17.2.2]⟩, ⟨g16, 4, [.bool false]⟩, ⟨g15, 30, [.slice a19 x17.1.length c20]⟩], [Ro (eI .u8) 5 1 (.slice a26 x25.2.1.length c27) x25.2.1, Ro (eI .i64) 3 1 (.slice a19 x17.1.length c20) x17.1], [Sl (eI .u8) 1 (.slice a4 x3.length c5) x3])) (fun k (s : (Int × Unit)) => qY F x3 x6 x17 x25 k s.1) (0, ()) F ?_
 intro k86
 rintro ⟨x75, _⟩
 try dsimp only
 refine qB (m' := kV F x3 x6 x17 x25 (qY F x3 x6 x17 x25 k86) x75) rfl ?_
 refine av [2,4,24,0,0,1,2,10] ?_ ?_
 intro _
 refine au [12,1,2,14,2,4,3,5,0,1] ?_
 refine qdl mixed [8, 9] [] [⟨g24, 94, [.int .i64 x25.1, .slice a26 x25.2.1.length c27, .bool x25.2.2]⟩, ⟨g1, 75, [.int .i64 x17.2.1, .slice a4 x3.length c5, .int .i64 x17.2.2]⟩, ⟨g16, 4, [.bool false]⟩, ⟨g15, 30, [.slice a19 x17.1.length c20]⟩] [Sl (eI .u8) 1 (.slice a4 x3.length c5) x3] (.cons 0 rfl (.cons 0 rfl (.cons 0 rfl (.cons 0 rfl .nil)))) (qy 0 rfl qn) 16 rfl ?_
 refine au [29,11,29,12,29,13] ?_
 refine jQ 3 (.agg #[.int .i64 x25.1, .slice a26 x25.2.1.length c27]) rfl rfl rfl (zd (i := 0) rfl tf33 rfl rfl (by simp) rfl) rfl ?_
 refine au [29,14,32,7,32,8,32,9] ?_
 refine jQ 9 (.agg #[.int .i64 x17.2.1, .slice a4 x3.length c5]) rfl rfl rfl (zd (i := 1) rfl tf33 rfl rfl (by simp) rfl) rfl (zb 10 _ rfl rfl rfl (qaK rfl) rfl ?_)
 refine au [32,10,32,11,20,5,27,12] ?_
 intro x92 e92 _
 refine au [0,29,15,20,13,27,12] ?_
 intro x93 e93 _
 refine au [0,29,15] ?_
 refine zb 14 _ rfl rfl rfl (qaK rfl) rfl ?_
 refine au [20,15] ?_
 refine zF ent38 rfl rfl rfl (fun x94 e94 => yF F ((x92 : Int) == x93) x94 e94) .nil .nil .nil (fun x95 _ => ?_) (fun x94 e94 => ?_)
 refine au [25,0] ?_
 refine qgb (l' := [(8, .pointer (some ⟨g15, 0, none⟩)), (9, .pointer (some ⟨g16, 0, none⟩))]) (qbR rfl rfl (qbR rfl rfl qhu)) ?_
 refine au [26,14,25,0,25,0,26,14,25,0] ?_
 refine qaJ ent36 rfl (.cons 3 rfl (.cons 2 rfl .nil)) (lost36 _ _ _ _) ?_
 refine au [25,8] ?_
 exact vW (none, 0) (resL (rs := [.cell 8 30, .cell 9 4]) rfl (.cell (i := 0) rfl tf30 rfl rfl (fun _ => rfl) rfl (.cell (i := 1) rfl tf4 rfl rfl (fun _ => rfl) rfl ResOk.nil)) rfl) (hB := fun h => by subst h; exact (.cons 3 rfl .nil)) (hR := fun h => by subst h; exact (.cons 0 rfl .nil))
 intro _
 refine au [0,29,15,24,3] ?_
 refine qhY ?_ (by intro c h; cases h)
 refine au [24,5,1,4,16,3,0] ?_
 exact qi (iadd .i64 x75 1, ())
 intro _
 exact az [24,9,18,18,24,10,25,14]
 rintro ⟨_, _⟩
 try dsimp only
 refine au [2,4,27,8,26,13,25,10,0,1,9] ?_
 exact qhZ (.inl rfl) ent36 rfl (idle36 _ _) (vW (a19, c20) (resL (rs := [.cell 8 30, .cell 9 4]) rfl (.cell (i := 2) rfl tf30 rfl rfl (fun _ => rfl) rfl (.cell (i := 1) rfl tf4 rfl rfl (fun _ => rfl) rfl ResOk.nil)) rfl) (hB := fun h => by subst h; exact (.cons 0 rfl .nil)) (hR := fun h => by subst h; exact (.cons 0 rfl .nil)))
theorem qgv {F : Nat} {x1 : Int} {x2 : List Int} {a3 : Option Addr} {c4 : Nat} {x5 : Int} {x6 : Int} {x7 : List Int} {a8 : Option Addr} {c9 : Nat} {x10 : Int} {x11 : Int} {x12 : Int} {r : (List Int × Int × Int)} (hm : ju F x1 x2 x5 x6 x7 x10 x11 x12 = some r) :
    Pure Tryz.prog 24 [.agg #[.int .i64 x1, .slice a3 x2.length c4], .int .i64 x5, .int .i64 x6, .slice a8 x7.length c9, .agg #[.int .i64 x10, .int .i64 x11, .int .i64 x12]] [Sl (eI .u8) 1 (.slice a3 x2.length c4) x2, Sl (eI .i64) 1 (.slice a8 x7.length c9) x7] (Option Addr × Nat) (fun g => .tuple #[.slice g.1 r.1.length g.2, .int .i64 r.2.1, .int .i64 r.2.2]) (fun g => [Ro (eI .i64) 3 1 (.slice g.1 r.1.length g.2) r.1]) (fun _ => []) := by
 refine qh Tryz.func24 rfl Tryz.ntmps24 rfl hm (fun w => ?_)
 refine au [29,4,2,4,24,2] ?_
 intro g13
 refine au [24,2] ?_
 intro g14
 refine au [5,5,5,0,1,2,4,25,6,3] ?_
 refine qF (cells := [.int .i64 x1, .slice a3 x2.length c4, .int .i64 x5]) rfl st75 rfl (by kernel_rfl) rfl ?_
 refine au [24,2] ?_
 intro g15
 refine au [5,0,1,2,4,3,3,3,25,6] ?_
 refine q8 qci ?_
 rintro x16 e16 ⟨a17, c18⟩
 refine av [3,17,17,5,5,0,1,2,2,4,3,25,3,0,1,10] ?_ ?_
 intro _
 refine au [2,4,5,5,5,0,1,9,11,25,8] ?_
 exact qt (none, 0)
 intro _
 refine au [12,1,2] ?_
 refine qr mixed [] [⟨g15, 75, [.int .i64 x16.2.2.1, .slice a3 x2.length c4, .int .i64 x16.2.2.2]⟩, ⟨g14, 26, [.int .i64 x10, .int .i64 x11, .int .i64 x12]⟩, ⟨g13, 33, [.int .i64 x1, .slice a3 x2.length c4]⟩] [Sl (eI .u8) 1 (.slice a3 x2.length c4) x2, Sl (eI .i64) 1 (.slice a8 x7.length c9) x7] (.cons 0 rfl (.cons 0 rfl (.cons 0 rfl .nil))) (qy 0 rfl (qy 1 rfl qn)) 8 rfl ?_
 refine au [6,0,6,1,6,2,19,3,25,4,4,6,5,6,6,6,7,24,3] ?_
 refine qv ?_ (by intro c h; cases h)
 refine au [1,9] ?_
 exact qt (a17, c18)
set_option maxHeartbeats 4000000 in
theorem qfx {F : Nat} {x1 : Int} {x2 : Int} {x3 : Int} {x4 : Int} {x5 : Int} {x6 : List Int} {a7 : Option Addr} {c8 : Nat} {r : (List (List Int) × Bool)} (hm : qbh F x1 x2 x3 x4 x5 x6 = some r) :
    Pure Tryz.prog 16 [.agg #[.int .i64 x1, .int .i64 x2, .int .i64 x3, .int .i64 x4, .int .i64 x5, .slice a7 x6.length c8]] [Sl (eI .u8) 1 (.slice a7 x6.length c8) x6] (Option Addr × (Nat × List (Option Addr × Nat))) (fun g => .tuple #[.slice g.1 r.1.length g.2.1, .bool r.2]) (fun g => [RoN eN30 rN30 30 1 (.slice g.1 r.1.length g.2.1) r.1 g.2.2 []]) (fun _ => []) := by
 refine qh Tryz.func16 rfl Tryz.ntmps16 rfl hm (fun w => ?_)
 refine au [25,2,2,4,24,2] ?_
 intro g9
 refine au [5,5,0,1,2,4,5,0,1] ?_
 refine qf (fun (((x261, x262), (a259, c260)) : ((List (List Int) × Int) × (Option Addr × (Nat × List (Option Addr × Nat))))) => ([(1, .pointer (some ⟨g9, 0, none⟩)), (2, .slice a259 x261.length c260.1), (4, .int .i64 x262)], [⟨g9, 35, [.int .i64 x1, .int .i64 x2, .int .i64 x3, .int .i64 x4, .int .i64 x5, .slice a7 x6.length c8]⟩], [RoN eN30 rN30 30 1 (.slice a259 x261.length c260.1) x261 c260.2 []], [Sl (eI .u8) 1 (.slice a7 x6.length c8) x6], qag F x5 x261 x262)) ?_ ?_
 refine au [2,4,13,21,3,0,1,14] ?_
 refine qk4 (List Int) (Option Addr × Nat) eN30 rN30 30 1 (qo (fun (((x348, x349, x350), (a346, c347)) : ((List (List Int) × Int × Int) × (Option Addr × (Nat × List (Option Addr × Nat))))) => ([(1, .pointer (some ⟨g9, 0, none⟩)), (2, .slice a346 x348.length c347.1), (4, .int .i64 x349), (14, .int .i64 x1), (15, .int .i64 x350)], [⟨g9, 35, [.int .i64 x1, .int .i64 x2, .int .i64 x3, .int .i64 x4, .int .i64 x5, .slice a7 x6.length c8]⟩], [RoN eN30 rN30 30 1 (.slice a346 x348.length c347.1) x348 c347.2 []], [Sl (eI .u8) 1 (.slice a7 x6.length c8) x6])) (fun k (s : ((List (List Int) × Int × Int) × (Option Addr × (Nat × List (Option Addr × Nat))))) => zU F x1 x2 x3 x4 x5 x6 k s.1) ((([] : List (List Int)), 0, 0), (none, (0, ([] : List (Option Addr × Nat))))) F ?_)
 intro k431
 rintro ⟨⟨x348, x349, x350⟩, ⟨a346, c347⟩⟩
 try dsimp only
 refine qB (m' := jl F x1 x2 x3 x4 x5 x6 (zU F x1 x2 x3 x4 x5 x6 k431) x348 x349 x350) rfl ?_
 refine av [2,4,24,0,0,1,2,10] ?_ ?_
 intro _
 refine au [12,1] ?_
 refine qf (fun (((x472, x473), (a470, c471)) : ((List (List Int) × Int) × (Option Addr × (Nat × List (Option Addr × Nat))))) => ([(1, .pointer (some ⟨g9, 0, none⟩)), (2, .slice a470 x472.length c471.1), (4, .int .i64 x473), (14, .int .i64 x1), (15, .int .i64 x350)], [⟨g9, 35, [.int .i64 x1, .int .i64 x2, .int .i64 x3, .int .i64 x4, .int .i64 x5, .slice a7 x6.length c8]⟩], [RoN eN30 rN30 30 1 (.slice a470 x472.length c471.1) x472 c471.2 []], [Sl (eI .u8) 1 (.slice a7 x6.length c8) x6], yY F (zU F x1 x2 x3 x4 x5 x6 k431) x350 x472 x473)) ?_ ?_
 refine au [14,2,4,3,5,0,1,2,4,24,15,3,3] ?_
 refine qg qhl ?_
 intro x474 e474 _
 refine av [3,17,17,17,5,5,5,0,1,2,2,4,3,25,3,0,1,10] ?_ ?_
 intro _
 refine au [2,4,5,5,0,1,9,11,22,11,11,22,11,27,11] ?_
 exact qt (none, (0, ([] : List (Option Addr × Nat))))
 intro _
 refine av [12,1,2,4,5,0,1,2,2,4,3,24,11,0,1,10] ?_ ?_
 intro _
 refine au [4,3,3,3,24,13] ?_
 refine qlc (j := 0) rfl UnF.u inferInstance rfl rfl rfl rfl ?_
 intro x482 e482 g483 h484 g485 h486
 refine qjy (i := 0) rfl h484 (List.not_mem_nil) (qhU (j := 1) (p := (x482, g483)) kI rfl rfl tf30 rfl h486 h484 rfl (fun _ => rfl) rfl rfl ?_)
 refine au [5,0,1,2,4,13,24,15,24,6] ?_
 intro g487
 refine au [24,4,0,1,2,4,3,13,24,4,0,1,2,4,13,25,6,3,3,3,24,15,32,14] ?_
 rintro x488 e488 ⟨a489, c490⟩
 refine au [3,17,17,17,5,5,5,0,1,2,2] ?_
 refine qhO (rin := rN30) (p := (x482, g483)) (i := 1) (k := 0) (.cons 1 rfl .nil) rfl rfl h484 ?_
 refine av [4,3,25,7,0,1,10] ?_ ?_
 intro _
 refine au [2,4,5,5,0,1,9,11,22,11,11,22,11,27,11] ?_
 exact qt (none, (0, ([] : List (Option Addr × Nat))))
 intro _
 refine au [12,1,4,3,3] ?_
 refine qV (vs := [.slice a489 x488.1.length c490]) (ys := ([(x488.1, (a489, c490))] : List (List Int × (Option Addr × Nat)))) kI (by decide) rfl Tryz.underlying22 tf30 rfl rfl rfl rfl rfl (by decide) (fun a492 c493 => qcq (rin := rN30) (i := 0) ([x488.1] : List (List Int)) ([(a489, c490)] : List (Option Addr × Nat)) rfl rfl (.cons 1 rfl .nil) (qg8 kI rfl UnF.u inferInstance rfl rfl rfl rfl (.cons 1 rfl (.cons 0 rfl .nil)) rfl rfl ?_))
 intro x494 e494 a495 c496
 refine au [3,5,5,0,24,5] ?_
 exact qa ((x494, x488.2.1), (a495, (c496, (c347.2 ++ ([(a489, c490)] : List (Option Addr × Nat))))))
 intro _
 refine au [12,1,2,4,13,24,15,24,6] ?_
 intro g498
 refine au [24,4,0,1,2,4,3,13,24,4,0,1,2,4,13,25,6,3,3,3,24,15,27,10,32,14] ?_
 rintro x499 e499 ⟨a500, c501⟩
 refine av [3,17,17,17,5,5,5,0,1,2,2,4,3,25,7,0,1,10] ?_ ?_
 intro _
 refine au [2,4,5,5,0,1,9,11,22,11,11,22,11,27,11] ?_
 exact qt (none, (0, ([] : List (Option Addr × Nat))))
 intro _
 refine au [12,1,4,3,3] ?_
 refine qV (vs := [.slice a500 x499.1.length c501]) (ys := ([(x499.1, (a500, c501))] : List (List Int × (Option Addr × Nat)))) kI (by decide) rfl Tryz.underlying22 tf30 rfl rfl rfl rfl rfl (by decide) (fun a503 c504 => qcq (rin := rN30) (i := 0) ([x499.1] : List (List Int)) ([(a500, c501)] : List (Option Addr × Nat)) rfl rfl (.cons 0 rfl .nil) (qg8 kI rfl UnF.u inferInstance rfl rfl rfl rfl (.cons 2 rfl (.cons 0 rfl .nil)) rfl rfl ?_))
 intro x505 e505 a506 c507
 refine au [3,5,5,0,24,5] ?_
 exact qa ((x505, x499.2.1), (a506, (c507, (c347.2 ++ ([(a500, c501)] : List (Option Addr × Nat))))))
 rintro ⟨⟨x472, x473⟩, ⟨a470, c471⟩⟩
 try dsimp only
 refine au [4,16,3,0] ?_
 exact qi ((x472, x473, iadd .i64 x350 1), (a470, c471))
 intro _
 refine au [24,9,18,18,24,10] ?_
 exact qa ((x348, x349), (a346, c347))
 rintro ⟨⟨x261, x262⟩, ⟨a259, c260⟩⟩
 try dsimp only
 refine au [2] ?_
 refine qr mixed [] [⟨g9, 35, [.int .i64 x1, .int .i64 x2, .int .i64 x3, .int .i64 x4, .int .i64 x5, .slice a7 x6.length c8]⟩] [Sl (eI .u8) 1 (.slice a7 x6.length c8) x6] (.cons 0 rfl .nil) (qy 0 rfl qn) 8 rfl ?_
 refine au [6,0,6,1,19,2,19,3,25,4,4,6,5,6,6,6,7,24,3] ?_
 refine qv ?_ (by intro c h; cases h)
 refine au [1,9] ?_
 exact qt (a259, c260)
set_option maxHeartbeats 4000000 in
theorem qaV {F : Nat} {x1 : List Int} {a2 : Option Addr} {c3 : Nat} {x4 : List Int} {a5 : Option Addr} {c6 : Nat} {r : Bool} (hm : kg F x1 x4 = some r) :
    Pure Tryz.prog 17 [.slice a2 x1.length c3, .slice a5 x4.length c6] [Sl (eI .u8) 1 (.slice a2 x1.length c3) x1, Sl (eI .u8) 1 (.slice a5 x4.length c6) x4] Unit (fun _ => .bool r) (fun _ => []) (fun _ => []) := by
 refine qh Tryz.func17 rfl Tryz.ntmps17 rfl hm (fun w => ?_)
 refine av [24,12,2,4,5,0,1,2,2,4,3,23,3,23,25,7,0,1,10] ?_ ?_
 intro _
 exact az [2,4,5,0,1,9,11,15]
 intro _
 refine au [12,1] ?_
 refine qf (fun ((_, _) : (Unit × Unit)) => ([], [], [], [], vF F)) ?_ ?_
 refine au [2,4,3,23,3,0,1,14] ?_
 refine qo (fun ((x154, _) : (Int × Unit)) => ([(0, .slice a2 x1.length c3), (1, .slice a5 x4.length c6), (12, .int .i64 (x1.length : Int)), (13, .int .i64 x154)], [], [], [Sl (eI .u8) 1 (.slice a2 x1.length c3) x1, Sl (eI .u8) 1 (.slice a5 x4.length c6) x4])) (fun k (s : (Int × Unit)) => qT F x1 x4 k s.1) (0, ()) F ?_
 intro k191
 rintro ⟨x154, _⟩
 try dsimp only
 refine qB (m' := zH F x1 x4 (qT F x1 x4 k191) x154) rfl ?_
 refine av [2,4,24,0,0,1,2,10] ?_ ?_
 intro _
 refine au [12,1,2,14,2,4,3,5,0,1,2,31,10] ?_
 intro x218 e218 b219 o220 h221
 replace h221 : a2 = some ⟨b219, o220, none⟩ := h221
 refine qbd (j := 2) (qz .u8) (by decide) rfl ?_
 intro x222 e222 b223 o224 h225
 replace h225 : a5 = some ⟨b223, o224, none⟩ := h225
 refine qr mixed [] [] [qs b223 (o224 + x154.toNat * 1) ((eI .u8) x222), qs b219 (o220 + x154.toNat * 1) ((eI .u8) x218), Sl (eI .u8) 1 (.slice a2 x1.length c3) x1, Sl (eI .u8) 1 (.slice a5 x4.length c6) x4] .nil (qy 0 rfl (qy 1 rfl (qy 2 rfl (qy 3 rfl qn)))) 9 rfl ?_
 refine au [6,0,6,1] ?_
 refine qe (d := 16) (v := .slice (some ⟨b219, o220, none⟩) x1.length c3) rfl (by rw [h221] <;> rfl) (qj 2 (.pointer (some ⟨b219, (o220 + x154.toNat * 1), none⟩)) rfl rfl rfl (v6 Tryz.underlying31 tf5 rfl rfl (qN e218).1 (yT e218)) (qe (d := 16) (v := .slice a2 x1.length c3) rfl (by rw [h221] <;> rfl) (qU 3 (.int .u8 x218) [] rfl rfl rfl (kp (j := 1) rfl tf5 rfl rfl (fun _ => rfl) rfl) ?_)))
 refine au [6,4,6,5] ?_
 refine qe (d := 20) (v := .slice (some ⟨b223, o224, none⟩) x4.length c6) rfl (by rw [h225] <;> rfl) (qj 6 (.pointer (some ⟨b223, (o224 + x154.toNat * 1), none⟩)) rfl rfl rfl (v6 Tryz.underlying31 tf5 rfl rfl (qN e222).1 (yT e222)) (qe (d := 20) (v := .slice a5 x4.length c6) rfl (by rw [h225] <;> rfl) (qU 7 (.int .u8 x222) [] rfl rfl rfl (kp (j := 0) rfl tf5 rfl rfl (fun _ => rfl) rfl) ?_)))
 refine au [6,8,24,3] ?_
 refine qv ?_ (by intro c h; cases h)
 refine av [1,10] ?_ ?_
 intro _
 exact az [2,4,5,0,1,9,22,11,11,22,11,15]
 intro _
 refine au [12,24,5,1,4,16,3,0] ?_
 exact qi (iadd .i64 x154 1, ())
 intro _
 exact az [24,9,18,18,24,10,25,14]
 rintro ⟨_, _⟩
 try dsimp only
 exact az [2,4,5,0,1,9,15]
set_option maxHeartbeats 4000000 in
theorem qgp {F : Nat} {x1 : Int} {x2 : Int} {x3 : Int} {x4 : Int} {x5 : Int} {x6 : List Int} {a7 : Option Addr} {c8 : Nat} {r : (List (List Int) × Int)} (hm : qaa F x1 x2 x3 x4 x5 x6 = some r) :
    Pure Tryz.prog 10 [.agg #[.int .i64 x1, .int .i64 x2, .int .i64 x3, .int .i64 x4, .int .i64 x5, .slice a7 x6.length c8]] [Sl (eI .u8) 1 (.slice a7 x6.length c8) x6] (Option Addr × (Nat × List (Option Addr × Nat))) (fun g => .tuple #[.agg #[.slice g.1 r.1.length g.2.1], .int .i64 r.2]) (fun g => [RoN eN30 rN30 30 1 (.slice g.1 r.1.length g.2.1) r.1 g.2.2 []]) (fun _ => []) := by
 refine qh Tryz.func10 rfl Tryz.ntmps10 rfl hm (fun w => ?_)
 refine au [25,2,2,4,24,2] ?_
 intro g9
 refine au [24,6] ?_
 intro g10
 refine au [5,0,1,2,2,4,25,6] ?_
 refine qg qfv ?_
 intro x13 e13 _
 refine av [5,0,1,2,4,3,25,7,0,1,10] ?_ ?_
 intro _
 refine au [2,4] ?_
 refine qF (cells := [.slice none 0 0]) rfl st24 rfl (by kernel_rfl) rfl ?_
 refine au [3,24,4,5,0,1,9,11,27,11] ?_
 exact za (none, (0, ([] : List (Option Addr × Nat)))) (resL (rs := [.cell 2 24, .tmp 3]) rfl (.cell (i := 0) rfl tf24 rfl rfl (by simp) rfl (.tmp rfl ResOk.nil)) rfl) (fun h => by subst h; exact (.cons 0 rfl .nil))
 intro _
 refine au [12,1,2,4,25,6] ?_
 refine qg qfx ?_
 rintro x14 e14 ⟨a15, c16⟩
 refine av [3,17,17,5,5,0,1,2,2,4,3,25,3,0,1,10] ?_ ?_
 intro _
 refine au [2,4] ?_
 refine qF (cells := [.slice none 0 0]) rfl st24 rfl (by kernel_rfl) rfl ?_
 refine au [24,4,5,0,1,9,11,27,11] ?_
 exact za (none, (0, ([] : List (Option Addr × Nat)))) (resL (rs := [.cell 2 24, .tmp 3]) rfl (.cell (i := 0) rfl tf24 rfl rfl (by simp) rfl (.tmp rfl ResOk.nil)) rfl) (fun h => by subst h; exact (.cons 0 rfl .nil))
 intro _
 refine au [12,1,2,4,3] ?_
 refine qF (cells := [.slice a15 x14.1.length c16.1]) rfl st24 rfl (by kernel_rfl) rfl ?_
 refine au [24,6] ?_
 intro g18
 refine au [24,4,0,1,2,2,4,24,15,13,26,2,28,0] ?_
 rintro x28 e28 ⟨a29, c30⟩
 refine au [3,17,17,24,6] ?_
 intro g31
 refine au [24,4,5,0,1,2,4,3,25,7,3] ?_
 refine vj 9 (fun ((x34, _) : (Bool × Unit)) => ([(2, .pointer (some ⟨g10, 0, none⟩)), (7, .pointer (some ⟨g18, 0, none⟩)), (44, .bool x34)], [⟨g18, 24, [.slice a15 x14.1.length c16.1]⟩, ⟨g10, 24, [.slice none 0 0]⟩], [RoN eN30 rN30 30 1 (.slice a15 x14.1.length c16.1) x14.1 c16.2 []], [], jC F x14 x34)) ?_ ?_
 refine qc (os := _) rfl ?_
 refine av [26,3] ?_ ?_
 intro h32
 refine qI (k := 35) rfl h32 ?_
 refine au [8,8,8,8,8,8,8,8,24,7,0] ?_
 exact qa (true, ())
 intro h32
 refine qH (k := 35) rfl h32 ?_
 refine au [13,13,21,13,13,27,13] ?_
 refine qg qaV ?_
 intro x36 e36 _
 refine au [25,3,24,8,0] ?_
 exact qa ((!x36), ())
 rintro ⟨x34, _⟩
 try dsimp only
 refine qc (os := _) rfl ?_
 refine av [0,1,10] ?_ ?_
 intro _
 refine au [2,4] ?_
 refine qF (cells := [.slice none 0 0]) rfl st24 rfl (by kernel_rfl) rfl ?_
 refine au [25,10,5,0,1,9,11,27,11] ?_
 exact za (none, (0, ([] : List (Option Addr × Nat)))) (resL (rs := [.cell 2 24, .tmp 3]) rfl (.cell (i := 1) rfl tf24 rfl rfl (by simp) rfl (.tmp rfl ResOk.nil)) rfl) (fun h => by subst h; exact (.cons 0 rfl .nil))
 intro _
 refine au [12,1,2,4,24,15,25,10,5,0,1,9] ?_
 exact za (a15, c16) (resL (rs := [.cell 2 24, .tmp 3]) rfl (.cell (i := 1) rfl tf24 rfl rfl (by simp) rfl (.tmp rfl ResOk.nil)) rfl) (fun h => by subst h; exact (.cons 0 rfl .nil))
set_option maxHeartbeats 4000000 in
theorem qfr {F : Nat} {x1 : List Int} {a2 : Option Addr} {c3 : Nat} {x4 : List Int} {a5 : Option Addr} {c6 : Nat} {r : Bool} (hm : qah F x1 x4 = some r) :
    Pure Tryz.prog 25 [.slice a2 x1.length c3, .slice a5 x4.length c6] [Sl (eI .i64) 1 (.slice a2 x1.length c3) x1, Sl (eI .i64) 1 (.slice a5 x4.length c6) x4] Unit (fun _ => .bool r) (fun _ => []) (fun _ => []) := by
 refine qh Tryz.func25 rfl Tryz.ntmps25 rfl hm (fun w => ?_)
 refine av [24,12,2,4,5,0,1,2,2,4,3,23,3,23,25,7,0,1,10] ?_ ?_
 intro _
 exact az [2,4,5,0,1,9,11,15]
 intro _
 refine au [12,1] ?_
 refine qf (fun ((_, _) : (Unit × Unit)) => ([], [], [], [], qby F)) ?_ ?_
 refine au [2,4,5,0,1,14] ?_
 refine qo (fun ((x154, _) : (Int × Unit)) => ([(0, .slice a2 x1.length c3), (1, .slice a5 x4.length c6), (5, .int .i64 x154)], [], [], [Sl (eI .i64) 1 (.slice a2 x1.length c3) x1, Sl (eI .i64) 1 (.slice a5 x4.length c6) x4])) (fun k (s : (Int × Unit)) => kZ F x1 x4 k s.1) (0, ()) F ?_
 intro k191
 rintro ⟨x154, _⟩
 try dsimp only
 refine qB (m' := jf F x1 x4 (kZ F x1 x4 k191) x154) rfl ?_
 refine av [2,2,4,3,3,23,24,0,0,1,10] ?_ ?_
 intro _
 refine au [12,1,2,14,2,30,14] ?_
 intro x218 e218 b219 o220 h221
 replace h221 : a2 = some ⟨b219, o220, none⟩ := h221
 refine qbd (j := 2) (qz .i64) (by decide) rfl ?_
 intro x222 e222 b223 o224 h225
 replace h225 : a5 = some ⟨b223, o224, none⟩ := h225
 refine qr mixed [] [] [qs b223 (o224 + x154.toNat * 1) ((eI .i64) x222), qs b219 (o220 + x154.toNat * 1) ((eI .i64) x218), Sl (eI .i64) 1 (.slice a2 x1.length c3) x1, Sl (eI .i64) 1 (.slice a5 x4.length c6) x4] .nil (qy 0 rfl (qy 1 rfl (qy 2 rfl (qy 3 rfl qn)))) 9 rfl ?_
 refine au [6,0,6,1] ?_
 refine qe (d := 17) (v := .slice (some ⟨b219, o220, none⟩) x1.length c3) rfl (by rw [h221] <;> rfl) (qj 2 (.pointer (some ⟨b219, (o220 + x154.toNat * 1), none⟩)) rfl rfl rfl (v6 Tryz.underlying30 tf3 rfl rfl (qN e218).1 (yT e218)) (qe (d := 17) (v := .slice a2 x1.length c3) rfl (by rw [h221] <;> rfl) (qU 3 (.int .i64 x218) [] rfl rfl rfl (kp (j := 1) rfl tf3 rfl rfl (fun _ => rfl) rfl) ?_)))
 refine au [6,4,6,5] ?_
 refine qe (d := 21) (v := .slice (some ⟨b223, o224, none⟩) x4.length c6) rfl (by rw [h225] <;> rfl) (qj 6 (.pointer (some ⟨b223, (o224 + x154.toNat * 1), none⟩)) rfl rfl rfl (v6 Tryz.underlying30 tf3 rfl rfl (qN e222).1 (yT e222)) (qe (d := 21) (v := .slice a5 x4.length c6) rfl (by rw [h225] <;> rfl) (qU 7 (.int .i64 x222) [] rfl rfl rfl (kp (j := 0) rfl tf3 rfl rfl (fun _ => rfl) rfl) ?_)))
 refine au [6,8,24,3] ?_
 refine qv ?_ (by intro c h; cases h)
 refine av [1,10] ?_ ?_
 intro _
 exact az [2,4,5,0,1,9,22,11,11,22,11,15]
 intro _
 refine au [12,24,5,1,4,3,16,5,0] ?_
 exact qi (iadd .i64 x154 1, ())
 intro _
 exact az [24,9,18,18,24,10,25,14]
 rintro ⟨_, _⟩
 try dsimp only
 exact az [2,4,5,0,1,9,15]
set_option maxHeartbeats 4000000 in
theorem qez {F : Nat} {x1 : List (List Int)} {a2 : Option Addr} {c3 : Nat} {s3 : List (Option Addr × Nat)} {x4 : List (List Int)} {a5 : Option Addr} {c6 : Nat} {s6 : List (Option Addr × Nat)} {r : Bool} (hm : jW F x1 x4 = some r) :
    Pure Tryz.prog 18 [.slice a2 x1.length c3, .slice a5 x4.length c6] [SlN eN30 iN30 1 (.slice a2 x1.length c3) x1 s3, SlN eN30 iN30 1 (.slice a5 x4.length c6) x4 s6] Unit (fun _ => .bool r) (fun _ => []) (fun _ => []) := by
 refine qh Tryz.func18 rfl Tryz.ntmps18 rfl hm (fun w => ?_)
 refine av [24,12,2,4,5,0,1,2,2,4,3,23,3,23,25,7,0,1,10] ?_ ?_
 intro _
 exact az [2,4,5,0,1,9,11,15]
 intro _
 refine au [12,1] ?_
 refine qf (fun ((_, _) : (Unit × Unit)) => ([], [], [], [], qa4 F)) ?_ ?_
 refine au [2,4,5,0,1,14] ?_
 refine qo (fun ((x202, _) : (Int × Unit)) => ([(0, .slice a2 x1.length c3), (1, .slice a5 x4.length c6), (5, .int .i64 x202)], [], [], [SlN eN30 iN30 1 (.slice a2 x1.length c3) x1 s3, SlN eN30 iN30 1 (.slice a5 x4.length c6) x4 s6])) (fun k (s : (Int × Unit)) => kL F x1 x4 k s.1) (0, ()) F ?_
 intro k251
 rintro ⟨x202, _⟩
 try dsimp only
 refine qB (m' := vR F x1 x4 (kL F x1 x4 k251) x202) rfl ?_
 refine av [2,2,4,3,3,23,24,0,0,1,10] ?_ ?_
 intro _
 refine au [12,1,2,14,2,30,0] ?_
 intro x287 e287 g291 b288 o289 h290
 replace h290 : a2 = some ⟨b288, o289, none⟩ := h290
 refine qcX (j := 3) kI (by decide) rfl ?_
 intro x292 e292 g296 b293 o294 h295
 replace h295 : a5 = some ⟨b293, o294, none⟩ := h295
 refine qr mixed [] [] [qs b293 (o294 + x202.toNat * 1) (eN30 (x292, g296)), Sl (eI .i64) 1 (.slice g296.1 x292.length g296.2) x292, qs b288 (o289 + x202.toNat * 1) (eN30 (x287, g291)), Sl (eI .i64) 1 (.slice g291.1 x287.length g291.2) x287, SlN eN30 iN30 1 (.slice a2 x1.length c3) x1 s3, SlN eN30 iN30 1 (.slice a5 x4.length c6) x4 s6] .nil (qy 0 rfl (qy 1 rfl (qy 2 rfl (qy 3 rfl (qy 4 rfl (qy 5 rfl qn)))))) 10 rfl ?_
 refine au [6,0,6,1] ?_
 refine qe (d := 17) (v := .slice (some ⟨b288, o289, none⟩) x1.length c3) rfl (by rw [h290] <;> rfl) (qj 2 (.pointer (some ⟨b288, (o289 + x202.toNat * 1), none⟩)) rfl rfl rfl (v6 Tryz.underlying22 tf30 rfl rfl (qN e287).1 (yT e287)) (qe (d := 17) (v := .slice a2 x1.length c3) rfl (by rw [h290] <;> rfl) (qU 3 (.slice g291.1 x287.length g291.2) [] rfl rfl rfl (kp (j := 2) rfl tf30 rfl rfl (fun _ => rfl) rfl) ?_)))
 refine au [6,4,6,5] ?_
 refine qe (d := 21) (v := .slice (some ⟨b293, o294, none⟩) x4.length c6) rfl (by rw [h295] <;> rfl) (qj 6 (.pointer (some ⟨b293, (o294 + x202.toNat * 1), none⟩)) rfl rfl rfl (v6 Tryz.underlying22 tf30 rfl rfl (qN e292).1 (yT e292)) (qe (d := 21) (v := .slice a5 x4.length c6) rfl (by rw [h295] <;> rfl) (qU 7 (.slice g296.1 x292.length g296.2) [] rfl rfl rfl (kp (j := 0) rfl tf30 rfl rfl (fun _ => rfl) rfl) ?_)))
 refine au [20,8] ?_
 refine qg qfr ?_
 intro x297 e297 _
 refine au [0] ?_
 refine zG .nil (qy 0 rfl (qy 1 rfl (qy 2 rfl (qy 3 rfl (qy 4 rfl (qy 5 rfl qn)))))) ?_
 refine au [6,9,24,3] ?_
 refine qv ?_ (by intro c h; cases h)
 refine av [1,10] ?_ ?_
 intro _
 exact az [2,4,5,0,1,9,22,11,11,22,11,15]
 intro _
 refine au [12,24,5,1,4,3,16,5,0] ?_
 exact qi (iadd .i64 x202 1, ())
 intro _
 exact az [24,9,18,18,24,10,25,14]
 rintro ⟨_, _⟩
 try dsimp only
 exact az [2,4,5,0,1,9,15]
theorem qey {F : Nat} {x1 : List (List Int)} {a2 : Option Addr} {c3 : Nat} {s3 : List (Option Addr × Nat)} {x4 : List (List Int)} {a5 : Option Addr} {c6 : Nat} {s6 : List (Option Addr × Nat)} {r : Bool} (hm : jV F x1 x4 = some r) :
    Pure Tryz.prog 11 [.agg #[.slice a2 x1.length c3], .agg #[.slice a5 x4.length c6]] [SlN eN30 iN30 1 (.slice a2 x1.length c3) x1 s3, SlN eN30 iN30 1 (.slice a5 x4.length c6) x4 s6] Unit (fun _ => .bool r) (fun _ => []) (fun _ => []) := by
 refine qh Tryz.func11 rfl Tryz.ntmps11 rfl hm (fun w => ?_)
 refine au [24,12,2,4,24,2] ?_
 intro g7
 refine au [24,2] ?_
 intro g8
 refine au [5,0,1,2,4,13,25,11,13,21] ?_
 refine qg qez ?_
 intro x9 e9 _
 exact az [5,0,1,9,15]
set_option maxHeartbeats 4000000 in
theorem qev (F : Nat)  (r : Bool) (hm : jU F  = some r) :
    Pure Tryz.prog 4 [] [] Unit (fun _ => .bool r) (fun _ => []) (fun _ => []) := by
 refine qh Tryz.func4 rfl Tryz.ntmps4 rfl hm (fun w => ?_)
 refine au [31,9,2,4,5,0,1,2,4] ?_
 refine qF (cells := [.int .i64 3, .int .i64 3, .int .i64 2]) rfl st26 rfl (by kernel_rfl) rfl ?_
 refine au [24,6] ?_
 intro g1
 refine au [24,4,0,1] ?_
 refine qf (fun (((x21, x22, x23, x24, x25, x26, x29), (g20, a27, c28)) : ((Int × Int × Int × Int × Int × Int × List Int) × (Nat × Option Addr × Nat))) => ([(1, .pointer (some ⟨g1, 0, none⟩)), (2, .pointer (some ⟨g20, 0, none⟩)), (3, .int .i64 x21)], [⟨g1, 26, [.int .i64 3, .int .i64 3, .int .i64 2]⟩, ⟨g20, 35, [.int .i64 x22, .int .i64 x23, .int .i64 x24, .int .i64 x25, .int .i64 x26, .slice a27 x29.length c28]⟩], [Ro (eI .u8) 5 1 (.slice a27 x29.length c28) x29], [], yv F x21 x22 x23 x24 x25 x26 x29)) ?_ ?_
 refine qr mixed [] [⟨g1, 26, [.int .i64 3, .int .i64 3, .int .i64 2]⟩] [] (.cons 0 rfl .nil) qn 9 rfl (kA 1 (.agg #[.int .i64 3, .int .i64 3, .int .i64 2]) rfl rfl rfl (zd (i := 0) rfl tf26 rfl rfl (by simp) rfl) (qbs 0 6 rfl rfl (by kernel_rfl) rfl rfl ?_ ?_))
 refine au [28,8] ?_
 rintro x103 e103 ⟨a104, c105⟩
 refine au [0,32,15] ?_
 refine qbs 2 6 rfl rfl (by kernel_rfl) rfl rfl ?_ ?_
 refine au [28,0] ?_
 rintro x106 e106 ⟨a107, c108⟩
 refine au [0,32,15,6,3,6,4,6,5,20,6,24,6] ?_
 intro g109
 refine au [0,26,10,20,7,24,4,0,26,10,6,8,24,3] ?_
 exact qv (qa ((x106.2.2.2.2.2.2, x106.1, x106.2.1, x106.2.2.1, x106.2.2.2.1, x106.2.2.2.2.1, x106.2.2.2.2.2.1), (g109, a107, c108))) (by intro c h; cases h)
 refine qbu (m' := ((yi F x103 3 3 2).bind fun x111 => yv F x111.2.2.2.2.2.2 x111.1 x111.2.1 x111.2.2.1 x111.2.2.2.1 x111.2.2.2.2.1 x111.2.2.2.2.2.1)) (rfl) ?_
 refine au [24,6] ?_
 intro g110
 refine au [0,26,10,20,2,28,0] ?_
 rintro x111 e111 ⟨a112, c113⟩
 refine au [0,26,10,6,3,6,4,6,5,20,7,24,4,0,26,10,6,8,24,3] ?_
 exact qv (qa ((x111.2.2.2.2.2.2, x111.1, x111.2.1, x111.2.2.1, x111.2.2.2.1, x111.2.2.2.2.1, x111.2.2.2.2.2.1), (g110, a112, c113))) (by intro c h; cases h)
 refine qbu (m' := ((ve F).bind fun x115 => ((yi F x115 3 3 2).bind fun x118 => yv F x118.2.2.2.2.2.2 x118.1 x118.2.1 x118.2.2.1 x118.2.2.2.1 x118.2.2.2.2.1 x118.2.2.2.2.2.1))) (rfl) ?_
 refine au [24,6] ?_
 intro g114
 refine au [0,26,10,20,0,28,8] ?_
 rintro x115 e115 ⟨a116, c117⟩
 refine au [0,26,10,20,2,28,0] ?_
 rintro x118 e118 ⟨a119, c120⟩
 refine au [0,26,10,6,3,6,4,6,5,20,7,24,4,0,26,10,6,8,24,3] ?_
 exact qv (qa ((x118.2.2.2.2.2.2, x118.1, x118.2.1, x118.2.2.1, x118.2.2.2.1, x118.2.2.2.2.1, x118.2.2.2.2.2.1), (g114, a119, c120))) (by intro c h; cases h)
 rintro ⟨⟨x21, x22, x23, x24, x25, x26, x29⟩, ⟨g20, a27, c28⟩⟩
 try dsimp only
 refine au [2,4,25,6,33,0] ?_
 rintro x30 e30 ⟨a31, c32⟩
 refine au [3,17,17,24,6] ?_
 intro g33
 refine au [24,4,5,0,1,2] ?_
 refine qr mixed [] [⟨g33, 24, [.slice a31 x30.1.length c32.1]⟩, ⟨g1, 26, [.int .i64 3, .int .i64 3, .int .i64 2]⟩, ⟨g20, 35, [.int .i64 x22, .int .i64 x23, .int .i64 x24, .int .i64 x25, .int .i64 x26, .slice a27 x29.length c28]⟩] [] (.cons 0 rfl (.cons 0 rfl (.cons 0 rfl .nil))) qn 10 rfl (kA 1 (.agg #[.int .i64 3, .int .i64 3, .int .i64 2]) rfl rfl rfl (zd (i := 1) rfl tf26 rfl rfl (by simp) rfl) ?_)
 refine au [20,0,28,8] ?_
 rintro x42 e42 ⟨a43, c44⟩
 refine au [0,33,1,20,2,33,2] ?_
 rintro x45 e45 ⟨⟨a46, c47⟩, ⟨a48, c49⟩⟩
 refine au [0,33,1,6,3,6,4,6,5,6,6,6,7,6,8,6,9,24,3] ?_
 refine qv ?_ (by intro c h; cases h)
 refine au [1,2,4,25,6] ?_
 refine qF (cells := [.int .i64 1, .int .i64 3, .int .i64 3, .int .i64 2, .int .i64 0, .slice none 0 0]) rfl st35 rfl (by kernel_rfl) rfl ?_
 refine au [27,3,33,0] ?_
 rintro x50 e50 ⟨a51, c52⟩
 refine au [3,17,17,24,6] ?_
 intro g53
 refine au [24,4,5,0,1] ?_
 refine qf (fun ((x78, _) : (Bool × Unit)) => ([(0, .bool x78)], [], [], [], qJ F x78)) ?_ ?_
 refine av [26,7] ?_ ?_
 intro h79
 refine av [26,7] ?_ ?_
 intro h80
 refine av [26,7] ?_ ?_
 intro h81
 refine qr mixed [] [⟨g53, 24, [.slice a51 x50.1.length c52.1]⟩, ⟨g33, 24, [.slice a31 x30.1.length c32.1]⟩, ⟨g1, 26, [.int .i64 3, .int .i64 3, .int .i64 2]⟩, ⟨g20, 35, [.int .i64 x22, .int .i64 x23, .int .i64 x24, .int .i64 x25, .int .i64 x26, .slice a27 x29.length c28]⟩] [] (.cons 0 rfl (.cons 0 rfl (.cons 0 rfl (.cons 0 rfl .nil)))) qn 59 rfl ?_
 refine au [6,0,6,1,6,2] ?_
 refine qe (d := 38) (v := .bool true) rfl (by rw [h79] <;> rfl) ?_
 refine au [19,3,28,6,4,6,5,6,6,6,7] ?_
 refine qe (d := 43) (v := .bool true) rfl (by rw [h80] <;> rfl) ?_
 refine au [19,8] ?_
 refine kA 9 (.agg #[.int .i64 x23, .int .i64 x24, .int .i64 x25]) rfl rfl rfl (zd (i := 3) rfl tf26 rfl rfl (by simp) rfl) (kA 10 (.agg #[.int .i64 3, .int .i64 3, .int .i64 2]) rfl rfl rfl (zd (i := 2) rfl tf26 rfl rfl (by simp) rfl) (qj 11 (.bool (((x23 : Int) == 3) && (((x24 : Int) == 3) && ((x25 : Int) == 2)))) rfl rfl rfl (qiY rfl rfl se26) ?_))
 refine au [6,12,6,13] ?_
 refine qe (d := 49) (v := .bool true) rfl (by rw [h81] <;> rfl) (kA 14 (.agg #[.slice a31 x30.1.length c32.1]) rfl rfl rfl (zd (i := 1) rfl tf24 rfl rfl (by simp) rfl) ?_)
 refine au [20,15,28,8] ?_
 rintro x82 e82 ⟨a83, c84⟩
 refine au [0,26,15,20,16] ?_
 refine qg qey ?_
 intro x85 e85 _
 refine av [0,26,15,6,17,6,18,27,0] ?_ ?_
 intro h86
 refine qe (d := 54) (v := .bool true) rfl (by rw [h86] <;> rfl) ?_
 refine av [6,19,6,20,6,21,6,22,27,0] ?_ ?_
 intro h87
 refine qe (d := 58) (v := .bool true) rfl (by rw [h87] <;> rfl) ?_
 refine av [6,23,26,8,24,6,25,6,26,6,27,27,0] ?_ ?_
 intro h88
 refine qe (d := 63) (v := .bool true) rfl (by rw [h88] <;> rfl) ?_
 refine au [6,28,20,29,33,3] ?_
 intro x89 e89 g90 h91
 refine au [0,26,15,20,30] ?_
 refine qbY (j := 3) (y := x89) (qz .i64) rfl rfl tf3 rfl h91 (qN e89).2.2 (fun _ => rfl) rfl rfl ?_
 refine av [0,26,15,6,31,6,32,6,33,27,0] ?_ ?_
 intro h92
 refine qe (d := 69) (v := .bool true) rfl (by rw [h92] <;> rfl) ?_
 refine au [6,34,20,35,33,3] ?_
 intro x93 e93 g94 h95
 refine au [0,26,15,20,36] ?_
 refine qbY (j := 3) (y := x93) (qz .i64) rfl rfl tf3 rfl h95 (qN e93).2.2 (fun _ => rfl) rfl rfl ?_
 refine av [0,26,15,6,37,6,38,6,39,27,0] ?_ ?_
 intro h96
 refine qe (d := 75) (v := .bool true) rfl (by rw [h96] <;> rfl) ?_
 refine av [6,40,26,8,41,6,42,6,43,6,44,27,0] ?_ ?_
 intro h97
 refine qe (d := 80) (v := .bool true) rfl (by rw [h97] <;> rfl) ?_
 refine au [6,45,20,46] ?_
 refine qaH (j := 4) rfl UnF.u inferInstance rfl rfl rfl rfl ?_
 intro x98 e98 g99 h100
 refine au [0,26,15,20,47] ?_
 refine qbY (j := 4) (y := x98) (qz .i64) rfl rfl tf3 rfl h100 (qN e98).2.2 (fun _ => rfl) rfl rfl ?_
 refine av [0,26,15,6,48,6,49,6,50,27,0] ?_ ?_
 intro h101
 refine qe (d := 86) (v := .bool true) rfl (by rw [h101] <;> rfl) ?_
 refine av [6,51,6,52,6,53,6,54,27,0] ?_ ?_
 intro h102
 refine qe (d := 90) (v := .bool true) rfl (by rw [h102] <;> rfl) ?_
 refine au [6,55,6,56,6,57,6,58,24,3] ?_
 exact qv (qa (((x50.2 : Int) == 1), ())) (by intro c h; cases h)
 intro h102
 refine qe (d := 90) (v := .bool false) rfl (by rw [h102] <;> rfl) ?_
 refine au [7,55,7,56,6,57,6,58,24,3] ?_
 exact qv (qa (false, ())) (by intro c h; cases h)
 intro h101
 refine qe (d := 86) (v := .bool false) rfl (by rw [h101] <;> rfl) ?_
 refine au [7,51,7,52,6,53,6,54,7,55,7,56,6,57,6,58,24,3] ?_
 exact qv (qa (false, ())) (by intro c h; cases h)
 intro h97
 refine qe (d := 80) (v := .bool false) rfl (by rw [h97] <;> rfl) ?_
 refine au [7,45,7,46,7,47,7,48,6,49,6,50,7,51,7,52,6,53,6,54,7,55,7,56,6,57,6,58,24,3] ?_
 exact qv (qa (false, ())) (by intro c h; cases h)
 intro h96
 refine qe (d := 75) (v := .bool false) rfl (by rw [h96] <;> rfl) ?_
 refine au [7,40,7,41,7,42,6,43,6,44,7,45,7,46,7,47,7,48,6,49,6,50,7,51,7,52,6,53,6,54,7,55,7,56,6,57,6,58,24,3] ?_
 exact qv (qa (false, ())) (by intro c h; cases h)
 intro h92
 refine qe (d := 69) (v := .bool false) rfl (by rw [h92] <;> rfl) ?_
 refine au [7,34,7,35,7,36,7,37,6,38,6,39,7,40,7,41,7,42,6,43,6,44,7,45,7,46,7,47,7,48,6,49,6,50,7,51,7,52,6,53,6,54,7,55,7,56,6,57,6,58,24,3] ?_
 exact qv (qa (false, ())) (by intro c h; cases h)
 intro h88
 refine qe (d := 63) (v := .bool false) rfl (by rw [h88] <;> rfl) ?_
 refine au [7,28,7,29,7,30,7,31,6,32,6,33,7,34,7,35,7,36,7,37,6,38,6,39,7,40,7,41,7,42,6,43,6,44,7,45,7,46,7,47,7,48,6,49,6,50,7,51,7,52,6,53,6,54,7,55,7,56,6,57,6,58,24,3] ?_
 exact qv (qa (false, ())) (by intro c h; cases h)
 intro h87
 refine qe (d := 58) (v := .bool false) rfl (by rw [h87] <;> rfl) ?_
 refine au [7,23,7,24,7,25,6,26,6,27,7,28,7,29,7,30,7,31,6,32,6,33,7,34,7,35,7,36,7,37,6,38,6,39,7,40,7,41,7,42,6,43,6,44,7,45,7,46,7,47,7,48,6,49,6,50,7,51,7,52,6,53,6,54,7,55,7,56,6,57,6,58,24,3] ?_
 exact qv (qa (false, ())) (by intro c h; cases h)
 intro h86
 refine qe (d := 54) (v := .bool false) rfl (by rw [h86] <;> rfl) ?_
 refine au [7,19,7,20,6,21,6,22,7,23,7,24,7,25,6,26,6,27,7,28,7,29,7,30,7,31,6,32,6,33,7,34,7,35,7,36,7,37,6,38,6,39,7,40,7,41,7,42,6,43,6,44,7,45,7,46,7,47,7,48,6,49,6,50,7,51,7,52,6,53,6,54,7,55,7,56,6,57,6,58,24,3] ?_
 exact qv (qa (false, ())) (by intro c h; cases h)
 intro h81
 refine qr mixed [] [⟨g53, 24, [.slice a51 x50.1.length c52.1]⟩, ⟨g33, 24, [.slice a31 x30.1.length c32.1]⟩, ⟨g1, 26, [.int .i64 3, .int .i64 3, .int .i64 2]⟩, ⟨g20, 35, [.int .i64 x22, .int .i64 x23, .int .i64 x24, .int .i64 x25, .int .i64 x26, .slice a27 x29.length c28]⟩] [] (.cons 0 rfl (.cons 0 rfl (.cons 0 rfl (.cons 0 rfl .nil)))) qn 59 rfl ?_
 refine au [6,0,6,1,6,2] ?_
 refine qe (d := 38) (v := .bool true) rfl (by rw [h79] <;> rfl) ?_
 refine au [19,3,28,6,4,6,5,6,6,6,7] ?_
 refine qe (d := 43) (v := .bool true) rfl (by rw [h80] <;> rfl) ?_
 refine au [19,8] ?_
 refine kA 9 (.agg #[.int .i64 x23, .int .i64 x24, .int .i64 x25]) rfl rfl rfl (zd (i := 3) rfl tf26 rfl rfl (by simp) rfl) (kA 10 (.agg #[.int .i64 3, .int .i64 3, .int .i64 2]) rfl rfl rfl (zd (i := 2) rfl tf26 rfl rfl (by simp) rfl) (qj 11 (.bool (((x23 : Int) == 3) && (((x24 : Int) == 3) && ((x25 : Int) == 2)))) rfl rfl rfl (qiY rfl rfl se26) ?_))
 refine au [6,12,6,13] ?_
 refine qe (d := 49) (v := .bool false) rfl (by rw [h81] <;> rfl) ?_
 refine au [7,14,7,15,7,16,6,17,6,18,7,19,7,20,6,21,6,22,7,23,7,24,7,25,6,26,6,27,7,28,7,29,7,30,7,31,6,32,6,33,7,34,7,35,7,36,7,37,6,38,6,39,7,40,7,41,7,42,6,43,6,44,7,45,7,46,7,47,7,48,6,49,6,50,7,51,7,52,6,53,6,54,7,55,7,56,6,57,6,58,24,3] ?_
 exact qv (qa (false, ())) (by intro c h; cases h)
 intro h80
 refine qr mixed [] [⟨g53, 24, [.slice a51 x50.1.length c52.1]⟩, ⟨g33, 24, [.slice a31 x30.1.length c32.1]⟩, ⟨g1, 26, [.int .i64 3, .int .i64 3, .int .i64 2]⟩, ⟨g20, 35, [.int .i64 x22, .int .i64 x23, .int .i64 x24, .int .i64 x25, .int .i64 x26, .slice a27 x29.length c28]⟩] [] (.cons 0 rfl (.cons 0 rfl (.cons 0 rfl (.cons 0 rfl .nil)))) qn 59 rfl ?_
 refine au [6,0,6,1,6,2] ?_
 refine qe (d := 38) (v := .bool true) rfl (by rw [h79] <;> rfl) ?_
 refine au [19,3,28,6,4,6,5,6,6,6,7] ?_
 refine qe (d := 43) (v := .bool false) rfl (by rw [h80] <;> rfl) ?_
 refine au [7,8,7,9,7,10,7,11,6,12,6,13,7,14,7,15,7,16,6,17,6,18,7,19,7,20,6,21,6,22,7,23,7,24,7,25,6,26,6,27,7,28,7,29,7,30,7,31,6,32,6,33,7,34,7,35,7,36,7,37,6,38,6,39,7,40,7,41,7,42,6,43,6,44,7,45,7,46,7,47,7,48,6,49,6,50,7,51,7,52,6,53,6,54,7,55,7,56,6,57,6,58,24,3] ?_
 exact qv (qa (false, ())) (by intro c h; cases h)
 intro h79
 refine qr mixed [] [⟨g53, 24, [.slice a51 x50.1.length c52.1]⟩, ⟨g33, 24, [.slice a31 x30.1.length c32.1]⟩, ⟨g1, 26, [.int .i64 3, .int .i64 3, .int .i64 2]⟩, ⟨g20, 35, [.int .i64 x22, .int .i64 x23, .int .i64 x24, .int .i64 x25, .int .i64 x26, .slice a27 x29.length c28]⟩] [] (.cons 0 rfl (.cons 0 rfl (.cons 0 rfl (.cons 0 rfl .nil)))) qn 59 rfl ?_
 refine au [6,0,6,1,6,2] ?_
 refine qe (d := 38) (v := .bool false) rfl (by rw [h79] <;> rfl) ?_
 refine au [7,3,7,4,7,5,6,6,6,7,7,8,7,9,7,10,7,11,6,12,6,13,7,14,7,15,7,16,6,17,6,18,7,19,7,20,6,21,6,22,7,23,7,24,7,25,6,26,6,27,7,28,7,29,7,30,7,31,6,32,6,33,7,34,7,35,7,36,7,37,6,38,6,39,7,40,7,41,7,42,6,43,6,44,7,45,7,46,7,47,7,48,6,49,6,50,7,51,7,52,6,53,6,54,7,55,7,56,6,57,6,58,24,3] ?_
 exact qv (qa (false, ())) (by intro c h; cases h)
 rintro ⟨x78, _⟩
 try dsimp only
 exact az [9,15]
theorem qgj {F : Nat} {x1 : Int} {x2 : Int} {x3 : Int} {r : Bool} (hm : qbG F x1 x2 x3 = some r) :
    Pure Tryz.prog 12 [.int .i64 x1, .int .i64 x2, .int .i64 x3] [] Unit (fun _ => .bool r) (fun _ => []) (fun _ => []) := by
 refine qh Tryz.func12 rfl Tryz.ntmps12 rfl hm (fun w => ?_)
 refine au [25,12,2,4,5,0,1,2,4,3,3,25,13,3] ?_
 refine qR 4 (decide (x2 ≤ x1)) [(14, .bool ((decide (x2 ≤ x1)) && (decide (x1 ≤ x3))))] (fun h4 => ?_) (fun h4 => ?_) ?_
 refine qc (os := _) rfl (qI (k := 10) rfl h4 ?_)
 refine au [3,3,26,11,24,7] ?_
 refine qd (d := 14) (v := .bool ((decide (x2 ≤ x1)) && (decide (x1 ≤ x3)))) rfl (by rw [h4]; simp only [Bool.true_and]) ?_
 exact az [0,24,1]
 refine qc (os := _) rfl (qH (k := 10) rfl h4 ?_)
 refine au [8,8,8,24,8] ?_
 refine qd (d := 14) (v := .bool ((decide (x2 ≤ x1)) && (decide (x1 ≤ x3)))) rfl (by rw [h4]; simp only [Bool.false_and]) ?_
 exact az [0,24,1]
 refine qc (os := _) rfl ?_
 exact az [5,0,1,9,15]
set_option maxHeartbeats 4000000 in
theorem qdL {F : Nat} {x1 : List (List Int)} {a2 : Option Addr} {c3 : Nat} {s3 : List (Option Addr × Nat)} {r : Int} (hm : jv F x1 = some r) :
    Pure Tryz.prog 5 [.agg #[.slice a2 x1.length c3]] [SlN eN30 iN30 1 (.slice a2 x1.length c3) x1 s3] Unit (fun _ => .int .i64 r) (fun _ => []) (fun _ => []) := by
 refine qh Tryz.func5 rfl Tryz.ntmps5 rfl hm (fun w => ?_)
 refine au [25,2,2,4,24,2] ?_
 intro g4
 refine av [5,0,1,2,4,13,21,23,5,0,1,2,2,4,3,24,11,0,1,10] ?_ ?_
 intro _
 exact az [2,4,5,0,1,9,11,15]
 intro _
 refine au [12,1,2,4,5,0,1] ?_
 refine qf (fun ((x3744, _) : (Int × Unit)) => ([(4, .int .i64 x3744)], [], [], [], jq F x3744)) ?_ ?_
 refine au [2,4,5,0,1,14] ?_
 refine qo (fun (((x4992, x4993), _) : ((Int × Int) × Unit)) => ([(1, .pointer (some ⟨g4, 0, none⟩)), (3, .int .i64 (x1.length : Int)), (4, .int .i64 x4992), (5, .int .i64 x4993)], [⟨g4, 24, [.slice a2 x1.length c3]⟩], [], [SlN eN30 iN30 1 (.slice a2 x1.length c3) x1 s3])) (fun k (s : ((Int × Int) × Unit)) => qu F x1 k s.1) ((0, 0), ()) F ?_
 intro k6239
 rintro ⟨⟨x4992, x4993⟩, _⟩
 try dsimp only
 refine qB (m' := yq F x1 (qu F x1 k6239) x4992 x4993) rfl ?_
 refine av [2,2,4,3,3,24,0,0,1,10] ?_ ?_
 intro _
 refine au [12,1] ?_
 refine qf (fun ((x6862, _) : (Int × Unit)) => ([(1, .pointer (some ⟨g4, 0, none⟩)), (3, .int .i64 (x1.length : Int)), (4, .int .i64 x6862), (5, .int .i64 x4993)], [⟨g4, 24, [.slice a2 x1.length c3]⟩], [], [SlN eN30 iN30 1 (.slice a2 x1.length c3) x1 s3], zv F (qu F x1 k6239) x4993 x6862)) ?_ ?_
 refine au [14,2,4,5,0,1,14] ?_
 refine qo (fun (((x7069, x7070), _) : ((Int × Int) × Unit)) => ([(1, .pointer (some ⟨g4, 0, none⟩)), (3, .int .i64 (x1.length : Int)), (4, .int .i64 x7069), (5, .int .i64 x4993), (6, .int .i64 x7070)], [⟨g4, 24, [.slice a2 x1.length c3]⟩], [], [SlN eN30 iN30 1 (.slice a2 x1.length c3) x1 s3])) (fun k (s : ((Int × Int) × Unit)) => qM F (qu F x1 k6239) x1 x4993 k s.1) ((x4992, 0), ()) F ?_
 intro k7277
 rintro ⟨⟨x7069, x7070⟩, _⟩
 try dsimp only
 refine qB (m' := yr F (qu F x1 k6239) x1 x4993 (qM F (qu F x1 k6239) x1 x4993 k7277) x7069 x7070) rfl ?_
 refine au [2,2,4,3,13,21,3,27,4] ?_
 intro x7283 e7283 g7286 b7284 o7285
 refine av [25,9,23,24,0,0,1,10] ?_ ?_
 intro _
 refine au [12,1,2,14,2,2,4,13,21,3] ?_
 refine qeq (j := 2) kI (by decide) rfl UnF.u inferInstance rfl rfl rfl rfl ?_
 intro x7394 e7394 g7397 b7395 o7396
 refine au [25,9,3,28,5] ?_
 intro x7398 e7398 b7399 o7400
 refine au [25,9,3,24,13] ?_
 refine qg qgj ?_
 intro x7401 e7401 _
 refine av [25,3,0,1,10] ?_ ?_
 intro _
 exact az [2,4,5,0,1,9,11,22,11,11,22,22,11,11,22,11,15]
 intro _
 refine au [12,1,2] ?_
 refine qf (fun ((x7461, _) : (Bool × Unit)) => ([(1, .pointer (some ⟨g4, 0, none⟩)), (3, .int .i64 (x1.length : Int)), (4, .int .i64 x7069), (5, .int .i64 x4993), (6, .int .i64 x7070), (60, .bool x7461)], [⟨g4, 24, [.slice a2 x1.length c3]⟩], [], [SlN eN30 iN30 1 (.slice a2 x1.length c3) x1 s3], zw F (qM F (qu F x1 k6239) x1 x4993 k7277) x7069 x7070 x7461)) ?_ ?_
 refine av [26,7] ?_ ?_
 intro h7463
 refine qcX (j := 5) kI (by decide) rfl ?_
 intro x7464 e7464 g7468 b7465 o7466 h7467
 replace h7467 : a2 = some ⟨b7465, o7466, none⟩ := h7467
 refine au [28,15] ?_
 intro x7469 e7469 b7470 o7471 h7472
 replace h7472 : g7468.1 = some ⟨b7470, o7471, none⟩ := h7472
 refine qcX (j := 8) kI (by decide) rfl ?_
 intro x7473 e7473 g7477 b7474 o7475 h7476
 replace h7476 : a2 = some ⟨b7474, o7475, none⟩ := h7476
 refine au [28,15] ?_
 intro x7478 e7478 b7479 o7480 h7481
 replace h7481 : g7477.1 = some ⟨b7479, o7480, none⟩ := h7481
 refine qr mixed [] [⟨g4, 24, [.slice a2 x1.length c3]⟩] [qs b7479 (o7480 + (isub .i64 x7070 1).toNat * 1) ((eI .i64) x7478), qs b7474 (o7475 + x4993.toNat * 1) (eN30 (x7473, g7477)), Sl (eI .i64) 1 (.slice g7477.1 x7473.length g7477.2) x7473, qs b7470 (o7471 + x7070.toNat * 1) ((eI .i64) x7469), qs b7465 (o7466 + x4993.toNat * 1) (eN30 (x7464, g7468)), Sl (eI .i64) 1 (.slice g7468.1 x7464.length g7468.2) x7464, qs b7399 o7400 ((eI .i64) x7398), qs b7395 o7396 (eN30 (x7394, g7397)), Sl (eI .i64) 1 (.slice g7397.1 x7394.length g7397.2) x7394, qs b7284 o7285 (eN30 (x7283, g7286)), Sl (eI .i64) 1 (.slice g7286.1 x7283.length g7286.2) x7283, SlN eN30 iN30 1 (.slice a2 x1.length c3) x1 s3] (.cons 0 rfl .nil) (qy 0 rfl (qy 1 rfl (qy 2 rfl (qy 3 rfl (qy 4 rfl (qy 5 rfl (qy 6 rfl (qy 7 rfl (qy 8 rfl (qy 9 rfl (qy 10 rfl (qy 11 rfl qn)))))))))))) 22 rfl ?_
 refine au [6,0,6,1,6,2] ?_
 refine qe (d := 41) (v := .bool true) rfl (by rw [h7463] <;> rfl) ?_
 refine au [19,3,25,4,4,6,5] ?_
 refine qe (d := 43) (v := .slice (some ⟨b7465, o7466, none⟩) x1.length c3) rfl (by rw [h7467] <;> rfl) (qj 6 (.pointer (some ⟨b7465, (o7466 + x4993.toNat * 1), none⟩)) rfl rfl rfl (v6 Tryz.underlying22 tf30 rfl rfl (qN e7464).1 (yT e7464)) (qe (d := 43) (v := .slice a2 x1.length c3) rfl (by rw [h7467] <;> rfl) (qU 7 (.slice g7468.1 x7464.length g7468.2) [] rfl rfl rfl (kp (j := 4) rfl tf30 rfl rfl (fun _ => rfl) rfl) ?_)))
 refine au [6,8] ?_
 refine qe (d := 46) (v := .slice (some ⟨b7470, o7471, none⟩) x7464.length g7468.2) rfl (by rw [h7472] <;> rfl) (qj 9 (.pointer (some ⟨b7470, (o7471 + x7070.toNat * 1), none⟩)) rfl rfl rfl (v6 Tryz.underlying30 tf3 rfl rfl (qN e7469).1 (yT e7469)) (qe (d := 46) (v := .slice g7468.1 x7464.length g7468.2) rfl (by rw [h7472] <;> rfl) (qU 10 (.int .i64 x7469) [] rfl rfl rfl (kp (j := 3) rfl tf3 rfl rfl (fun _ => rfl) rfl) ?_)))
 refine au [19,11,25,4,12,6,13] ?_
 refine qe (d := 51) (v := .slice (some ⟨b7474, o7475, none⟩) x1.length c3) rfl (by rw [h7476] <;> rfl) (qj 14 (.pointer (some ⟨b7474, (o7475 + x4993.toNat * 1), none⟩)) rfl rfl rfl (v6 Tryz.underlying22 tf30 rfl rfl (qN e7473).1 (yT e7473)) (qe (d := 51) (v := .slice a2 x1.length c3) rfl (by rw [h7476] <;> rfl) (qU 15 (.slice g7477.1 x7473.length g7477.2) [] rfl rfl rfl (kp (j := 1) rfl tf30 rfl rfl (fun _ => rfl) rfl) ?_)))
 refine au [6,16,6,17] ?_
 refine qe (d := 54) (v := .slice (some ⟨b7479, o7480, none⟩) x7473.length g7477.2) rfl (by rw [h7481] <;> rfl) (qj 18 (.pointer (some ⟨b7479, (o7480 + (isub .i64 x7070 1).toNat * 1), none⟩)) rfl rfl rfl (v6 Tryz.underlying30 tf3 rfl rfl (qN e7478).1 (yT e7478)) (qe (d := 54) (v := .slice g7477.1 x7473.length g7477.2) rfl (by rw [h7481] <;> rfl) (qU 19 (.int .i64 x7478) [] rfl rfl rfl (kp (j := 0) rfl tf3 rfl rfl (fun _ => rfl) rfl) ?_)))
 refine au [6,20,6,21,24,3] ?_
 exact qv (qa ((decide (x7469 ≤ x7478)), ())) (by intro c h; cases h)
 intro h7463
 refine qr mixed [] [⟨g4, 24, [.slice a2 x1.length c3]⟩] [qs b7399 o7400 ((eI .i64) x7398), qs b7395 o7396 (eN30 (x7394, g7397)), Sl (eI .i64) 1 (.slice g7397.1 x7394.length g7397.2) x7394, qs b7284 o7285 (eN30 (x7283, g7286)), Sl (eI .i64) 1 (.slice g7286.1 x7283.length g7286.2) x7283, SlN eN30 iN30 1 (.slice a2 x1.length c3) x1 s3] (.cons 0 rfl .nil) (qy 0 rfl (qy 1 rfl (qy 2 rfl (qy 3 rfl (qy 4 rfl (qy 5 rfl qn)))))) 22 rfl ?_
 refine au [6,0,6,1,6,2] ?_
 refine qe (d := 41) (v := .bool false) rfl (by rw [h7463] <;> rfl) ?_
 refine au [7,3,7,4,7,5,7,6,7,7,7,8,7,9,7,10,7,11,7,12,7,13,7,14,7,15,7,16,7,17,7,18,7,19,7,20,6,21,24,3] ?_
 exact qv (qa (false, ())) (by intro c h; cases h)
 rintro ⟨x7461, _⟩
 try dsimp only
 refine av [10] ?_ ?_
 intro _
 exact az [2,4,5,0,1,9,11,22,11,11,22,22,11,11,22,11,15]
 intro _
 refine au [12,1,4,3,16,5,0,24,5,1,4,3,16,5,0] ?_
 exact qi ((iadd .i64 x7069 1, iadd .i64 x7070 1), ())
 intro _
 refine au [24,9,18,18,24,10,24,5] ?_
 exact qa (x7069, ())
 rintro ⟨x6862, _⟩
 try dsimp only
 refine au [4,3,16,5,0] ?_
 exact qi ((x6862, iadd .i64 x4993 1), ())
 intro _
 refine au [24,9,18,18,24,10] ?_
 exact qa (x4992, ())
 rintro ⟨x3744, _⟩
 try dsimp only
 refine av [2,2,4,3,24,11,0,1,10] ?_ ?_
 intro _
 exact az [2,4,5,0,1,9,11,15]
 intro _
 exact az [12,1,2,4,5,0,1,9,15]
theorem qhg {F : Nat} {x1 : Int} {r : List Int} (hm : qbf F x1 = some r) :
    Pure Tryz.prog 14 [.int .u64 x1] [] (Option Addr × Nat) (fun g => .slice g.1 r.length g.2) (fun g => [Ro (eI .i64) 3 1 (.slice g.1 r.length g.2) r]) (fun _ => []) := by
 refine qh Tryz.func14 rfl Tryz.ntmps14 rfl hm (fun w => ?_)
 refine au [25,2,2,4,5,0,1,2,4,5,0,1] ?_
 refine qf (fun ((x31, (a29, c30)) : (List Int × (Option Addr × Nat))) => ([(3, .slice a29 x31.length c30)], [], [Ro (eI .i64) 3 1 (.slice a29 x31.length c30) x31], [], qaX F x31)) ?_ ?_
 refine au [14,26,12] ?_
 refine qo (fun (((x40, x43), (a41, c42)) : ((Int × List Int) × (Option Addr × Nat))) => ([(0, .int .u64 x40), (3, .slice a41 x43.length c42)], [], [Ro (eI .i64) 3 1 (.slice a41 x43.length c42) x43], [])) (fun k (s : ((Int × List Int) × (Option Addr × Nat))) => vf F k s.1) ((x1, ([] : List Int)), (none, 0)) F ?_
 intro k51
 rintro ⟨⟨x40, x43⟩, ⟨a41, c42⟩⟩
 try dsimp only
 refine qB (m' := jX F (vf F k51) x40 x43) rfl ?_
 refine av [2,2,4,3,24,11,0,1,10] ?_ ?_
 intro _
 refine au [12,1,14,2,4,3,28,11,25,1] ?_
 refine qV (vs := [.int .i64 (iconv .i64 (irem x40 2))]) (ys := ([iconv .i64 (irem x40 2)] : List Int)) (qz .i64) (by decide) rfl Tryz.underlying30 tf3 rfl rfl rfl rfl rfl (by decide) (fun a53 c54 => ?_)
 refine au [3] ?_
 refine zW 0 (qz .i64) rfl Tryz.underlying30 tf3 rfl rfl rfl rfl rfl (.inl ⟨1, _, rfl⟩) rfl rfl (fun x55 e55 a56 c57 => ?_)
 refine au [5,0,1,4,3,28,1,5,0,24,5] ?_
 exact qi ((iquo .u64 x40 2, x55), (a56, c57))
 intro _
 refine au [24,9,18,18,24,10] ?_
 exact qa (x43, (a41, c42))
 rintro ⟨x31, ⟨a29, c30⟩⟩
 try dsimp only
 refine au [2,4,3,5,0,1,9] ?_
 exact qt (a29, c30)
set_option maxHeartbeats 4000000 in
theorem qex {F : Nat} {x1 : Int} {r : List Int} (hm : v7 F x1 = some r) :
    Pure Tryz.prog 8 [.int .u64 x1] [] (Option Addr × Nat) (fun g => .slice g.1 r.length g.2) (fun g => [Ro (eI .i64) 3 1 (.slice g.1 r.length g.2) r]) (fun _ => []) := by
 refine qh Tryz.func8 rfl Tryz.ntmps8 rfl hm (fun w => ?_)
 refine au [25,2,2,4,5,0,1,2,4,3,16] ?_
 refine qg qhg ?_
 rintro x2 e2 ⟨a3, c4⟩
 refine au [5,0,1,2,4,5,0,1] ?_
 refine qf (fun ((x48, (a46, c47)) : (List Int × (Option Addr × Nat))) => ([(3, .slice a3 x2.length c4), (4, .slice a46 x48.length c47)], [], [Ro (eI .i64) 3 1 (.slice a3 x2.length c4) x2, Ro (eI .i64) 3 1 (.slice a46 x48.length c47) x48], [], jL F x2 x48)) ?_ ?_
 refine au [2,4,5,0,1,14,26,12] ?_
 refine qo (fun (((x66, x67), (a64, c65)) : ((List Int × Int) × (Option Addr × Nat))) => ([(3, .slice a3 x2.length c4), (4, .slice a64 x66.length c65), (5, .int .i64 x67)], [], [Ro (eI .i64) 3 1 (.slice a3 x2.length c4) x2, Ro (eI .i64) 3 1 (.slice a64 x66.length c65) x66], [])) (fun k (s : ((List Int × Int) × (Option Addr × Nat))) => kK F x2 k s.1) ((([] : List Int), 1), (none, 0)) F ?_
 intro k80
 rintro ⟨⟨x66, x67⟩, ⟨a64, c65⟩⟩
 try dsimp only
 refine qB (m' := vQ F x2 (kK F x2 k80) x66 x67) rfl ?_
 refine av [2,2,4,3,3,23,24,0,0,1,10] ?_ ?_
 intro _
 refine au [12,1,2,14,4,3] ?_
 refine qV (vs := [.int .i64 0]) (ys := ([0] : List Int)) (qz .i64) (by decide) rfl Tryz.underlying30 tf3 rfl rfl rfl rfl rfl (by decide) (fun a87 c88 => zW 2 (qz .i64) rfl Tryz.underlying30 tf3 rfl rfl rfl rfl rfl (.inl ⟨0, _, rfl⟩) rfl rfl (fun x89 e89 a90 c91 => ?_))
 refine au [5,0,24,5,1,4,3,16,5,0] ?_
 exact qi ((x89, iadd .i64 x67 1), (a90, c91))
 intro _
 refine au [24,9,18,18,24,10] ?_
 exact qa (x66, (a64, c65))
 rintro ⟨x48, ⟨a46, c47⟩⟩
 try dsimp only
 refine au [2,4,3,3] ?_
 refine zW 1 (qz .i64) rfl Tryz.underlying30 tf3 rfl rfl rfl rfl rfl (.inl ⟨0, _, rfl⟩) rfl rfl (fun x49 e49 a50 c51 => ?_)
 refine au [5,0,1,9] ?_
 exact qt (a50, c51)
set_option maxHeartbeats 4000000 in
theorem qeu (F : Nat) (x1 : List (List Int)) (a2 : Option Addr) (c3 : (Nat × List (Option Addr × Nat))) (x4 : Int) (x5 : Int) (x6 : Int) (x7 : Int) (r : Bool) (hm : qaW F x1 x4 x5 x6 x7 = some r) :
    Pure Tryz.prog 3 [.agg #[.slice a2 x1.length c3.1], .agg #[.int .i64 x4, .int .i64 x5, .int .i64 x6], .int .i64 x7] [SlN eN30 iN30 1 (.slice a2 x1.length c3.1) x1 c3.2] Unit (fun _ => .bool r) (fun _ => []) (fun _ => []) := by
 refine qh Tryz.func3 rfl Tryz.ntmps3 rfl hm (fun w => ?_)
 refine au [25,12,2,4,24,2] ?_
 intro g8
 refine au [24,2] ?_
 intro g9
 refine au [5,0,1,2,2,4] ?_
 refine qg (fun h => qev F _ h) ?_
 intro x12 e12 _
 refine av [25,3,0,1,10] ?_ ?_
 intro _
 exact az [2,4,5,0,1,9,11,15]
 intro _
 refine au [12,1,2,2,4,25,6] ?_
 refine qg qdL ?_
 intro x17 e17 _
 refine au [25,7,3] ?_
 refine qR 3 ((x17 : Int) != 0) [(2, .int .i64 x7), (3, .pointer (some ⟨g8, 0, none⟩)), (4, .pointer (some ⟨g9, 0, none⟩)), (22, .bool (((x17 : Int) != 0) || (decide (x7 < 1))))] (fun h18 => ?_) (fun h18 => ?_) ?_
 refine qc (os := _) rfl (qI (k := 19) rfl h18 ?_)
 refine au [8,8,24,7] ?_
 refine qd (d := 22) (v := .bool (((x17 : Int) != 0) || (decide (x7 < 1)))) rfl (by rw [h18]; simp only [Bool.true_or]) ?_
 exact az [0,24,1]
 refine qc (os := _) rfl (qH (k := 19) rfl h18 ?_)
 refine au [3,24,0,24,8] ?_
 refine qd (d := 22) (v := .bool (((x17 : Int) != 0) || (decide (x7 < 1)))) rfl (by rw [h18]; simp only [Bool.false_or]) ?_
 exact az [0,24,1]
 refine qc (os := _) rfl ?_
 refine au [3] ?_
 refine qR 6 (((x17 : Int) != 0) || (decide (x7 < 1))) [(2, .int .i64 x7), (3, .pointer (some ⟨g8, 0, none⟩)), (4, .pointer (some ⟨g9, 0, none⟩)), (29, .bool ((((x17 : Int) != 0) || (decide (x7 < 1))) || (decide ((x1.length : Int) ≤ x7))))] (fun h19 => ?_) (fun h19 => ?_) ?_
 refine qc (os := _) rfl (qI (k := 23) rfl h19 ?_)
 refine au [8,8,8,8,8,24,7] ?_
 refine qd (d := 29) (v := .bool ((((x17 : Int) != 0) || (decide (x7 < 1))) || (decide ((x1.length : Int) ≤ x7)))) rfl (by rw [h19]; simp only [Bool.true_or]) ?_
 exact az [0,24,1]
 refine qc (os := _) rfl (qH (k := 23) rfl h19 ?_)
 refine au [3,13,25,11,23,25,13,24,8] ?_
 refine qd (d := 29) (v := .bool ((((x17 : Int) != 0) || (decide (x7 < 1))) || (decide ((x1.length : Int) ≤ x7)))) rfl (by rw [h19]; simp only [Bool.false_or]) ?_
 exact az [0,24,1]
 refine qc (os := _) rfl ?_
 refine av [0,1,10] ?_ ?_
 intro _
 exact az [2,4,5,0,1,9,11,15]
 intro _
 refine au [12,1,2,4] ?_
 refine qV (vs := []) (ys := ([] : List (List Int × (Option Addr × Nat)))) kI (by decide) rfl UnF.u inferInstance rfl rfl rfl rfl rfl (by decide) ?_
 intro a20 c21
 refine au [13,25,11] ?_
 refine qhQ (j := 0) 0 kI rfl UnF.u inferInstance rfl rfl rfl rfl rfl rfl rfl rfl ?_
 intro x22 e22 h25 a23 c24
 refine qF (cells := [.slice a23 x22.length c24]) rfl st24 rfl (by kernel_rfl) rfl ?_
 refine au [24,6] ?_
 intro g26
 refine au [24,4,0,1,2,30,0] ?_
 intro x40 e40 g44 b41 o42 h43
 replace h43 : a2 = some ⟨b41, o42, none⟩ := h43
 refine qhP (j := 0) h25 rfl (fun x45 e45 g46 h47 => ?_)
 replace h47 : a23 = some ⟨g46, 0, none⟩ := h47
 have h48 := qde (k := x22.length) (c := c24) h47
 refine qr mixed [] [⟨g26, 24, [.slice a23 x22.length c24]⟩, ⟨g9, 26, [.int .i64 x4, .int .i64 x5, .int .i64 x6]⟩, ⟨g8, 24, [.slice a2 x1.length c3.1]⟩] [qs b41 (o42 + (isub .i64 x7 1).toNat * 1) (eN30 (x40, g44)), Sl (eI .i64) 1 (.slice g44.1 x40.length g44.2) x40, SlN eN30 iN30 1 (.slice a2 x1.length c3.1) x1 c3.2] (.cons 0 rfl (.cons 0 rfl (.cons 0 rfl .nil))) (qy 0 rfl (qy 1 rfl (qy 2 rfl qn))) 11 rfl ?_
 refine au [19,0,25,4,1,6,2,19,3,29,0,4,6,5,6,6] ?_
 refine qe (d := 39) (v := .slice (some ⟨b41, o42, none⟩) x1.length c3.1) rfl (by rw [h43] <;> rfl) (qj 7 (.pointer (some ⟨b41, (o42 + (isub .i64 x7 1).toNat * 1), none⟩)) rfl rfl rfl (v6 Tryz.underlying22 tf30 rfl rfl (qN e40).1 (yT e40)) (qe (d := 39) (v := .slice a2 x1.length c3.1) rfl (by rw [h43] <;> rfl) (qU 8 (.slice g44.1 x40.length g44.2) [] rfl rfl rfl (kp (j := 0) rfl tf30 rfl rfl (fun _ => rfl) rfl) (qe (d := 36) (v := .slice (some ⟨g46, 0, none⟩) x22.length c24) rfl (by rw [h47] <;> rfl) (qj 9 (.pointer (some ⟨g46, x7.toNat * 1, none⟩)) rfl rfl rfl (qdI Tryz.underlying22 tf30 rfl rfl (qN e45).1 (yT e45)) (qe (d := 36) (v := .slice a23 x22.length c24) rfl (by rw [h47] <;> rfl) ?_))))))
 refine au [20,10] ?_
 refine qga (j := 0) (y' := x40) (q' := (g44.1, g44.2)) h25 kI rfl rfl rfl tf30 rfl (qde h47) (qN e45).2.1 rfl (fun x49 e49 h50 h51 => ?_)
 have h52 : x49.length = x22.length := by rw [← e49, List.length_set]
 refine qd (d := 33) (v := .slice a23 x49.length c24) rfl h50 (qd (d := 36) (v := .slice a23 x49.length c24) rfl h50 (qcY (i := 0) (cs' := [.slice a23 x49.length c24]) rfl (by rw [h50] <;> rfl) (qlf (inn := iN30) 0 2 x40 (g44.1, g44.2) h51 rfl rfl (qx 1 rfl vY) (qnb e22 e49) ?_)))
 refine au [0] ?_
 refine zG (.cons 0 (by rw [h52]; rfl) (.cons 0 rfl (.cons 0 rfl .nil))) (qy 1 rfl (qy 2 rfl (qy 3 rfl qn))) ?_
 refine au [24,3] ?_
 refine qv ?_ (by intro c h; cases h)
 refine au [1,2,4,24,15,25,6,28,0] ?_
 rintro x53 e53 ⟨a54, c55⟩
 refine au [3,17,17,24,6] ?_
 intro g56
 refine au [24,4,5,0,1,2,4,25,6,26,2,33,2] ?_
 rintro x57 e57 ⟨⟨a58, c59⟩, ⟨a60, c61⟩⟩
 refine au [3,17,17,17,5,5,5,0,1,2,2,4,3,25,7,3] ?_
 refine qR 3 ((x53.2.2.2.2.2.2 : Int) != 0) [(2, .int .i64 x7), (4, .pointer (some ⟨g9, 0, none⟩)), (7, .pointer (some ⟨g26, 0, none⟩)), (8, .pointer (some ⟨g56, 0, none⟩)), (9, .int .i64 x53.2.2.2.2.2.2), (11, .slice a60 x57.2.1.length c61), (12, .int .i64 x57.2.2), (63, .bool (((x53.2.2.2.2.2.2 : Int) != 0) || ((x57.2.2 : Int) != 0)))] (fun h65 => ?_) (fun h65 => ?_) ?_
 refine qc (os := _) rfl (qI (k := 60) rfl h65 ?_)
 refine au [8,8,24,7] ?_
 refine qd (d := 63) (v := .bool (((x53.2.2.2.2.2.2 : Int) != 0) || ((x57.2.2 : Int) != 0))) rfl (by rw [h65]; simp only [Bool.true_or]) ?_
 exact az [0,24,1]
 refine qc (os := _) rfl (qH (k := 60) rfl h65 ?_)
 refine au [3,25,7,24,8] ?_
 refine qd (d := 63) (v := .bool (((x53.2.2.2.2.2.2 : Int) != 0) || ((x57.2.2 : Int) != 0))) rfl (by rw [h65]; simp only [Bool.false_or]) ?_
 exact az [0,24,1]
 refine qc (os := _) rfl ?_
 refine au [3] ?_
 refine qR 4 (((x53.2.2.2.2.2.2 : Int) != 0) || ((x57.2.2 : Int) != 0)) [(2, .int .i64 x7), (7, .pointer (some ⟨g26, 0, none⟩)), (8, .pointer (some ⟨g56, 0, none⟩)), (9, .int .i64 x53.2.2.2.2.2.2), (11, .slice a60 x57.2.1.length c61), (12, .int .i64 x57.2.2), (68, .bool ((((x53.2.2.2.2.2.2 : Int) != 0) || ((x57.2.2 : Int) != 0)) || ((x4 : Int) == 0)))] (fun h66 => ?_) (fun h66 => ?_) ?_
 refine qc (os := _) rfl (qI (k := 64) rfl h66 ?_)
 refine au [8,8,8,24,7] ?_
 refine qd (d := 68) (v := .bool ((((x53.2.2.2.2.2.2 : Int) != 0) || ((x57.2.2 : Int) != 0)) || ((x4 : Int) == 0))) rfl (by rw [h66]; simp only [Bool.true_or]) ?_
 exact az [0,24,1]
 refine qc (os := _) rfl (qH (k := 64) rfl h66 ?_)
 refine au [13,27,8,25,5,24,8] ?_
 refine qd (d := 68) (v := .bool ((((x53.2.2.2.2.2.2 : Int) != 0) || ((x57.2.2 : Int) != 0)) || ((x4 : Int) == 0))) rfl (by rw [h66]; simp only [Bool.false_or]) ?_
 exact az [0,24,1]
 refine qc (os := _) rfl ?_
 refine av [0,1,10] ?_ ?_
 intro _
 exact az [2,4,3,3,25,5,5,0,1,9,11,15]
 intro _
 refine au [12,1,2,4,13,13,21,5,0,1] ?_
 refine qf (fun ((x71, _) : (Int × Unit)) => ([(2, .int .i64 x7), (7, .pointer (some ⟨g26, 0, none⟩)), (11, .slice a60 x57.2.1.length c61), (13, .int .i64 x71)], [⟨g26, 24, [.slice a23 x49.length c24]⟩], [Ro (eI .i64) 3 1 (.slice a60 x57.2.1.length c61) x57.2.1], [SlN eN30 iN30 1 (.slice a23 x49.length c24) x49 (c3.2.set x7.toNat (g44.1, g44.2))], yu F x7 x49 x57 x71)) ?_ ?_
 refine av [2,4,3,16,3,23,24,0,0,1,10] ?_ ?_
 intro _
 refine au [4,3,3,16] ?_
 refine qaH (j := 1) rfl UnF.u inferInstance rfl rfl rfl rfl ?_
 intro x102 e102 g103 h104
 refine qbY (j := 1) (y := x102) (qz .i64) rfl rfl tf3 rfl h104 (qN e102).2.2 (fun _ => rfl) rfl rfl ?_
 refine au [5,0] ?_
 exact qa (x102, ())
 intro _
 refine au [12] ?_
 exact qa (x53.2.2.2.2.1, ())
 rintro ⟨x71, _⟩
 try dsimp only
 refine au [2,28,12] ?_
 intro x87 e87 g88 h89
 replace h89 : a60 = some ⟨g88, 0, none⟩ := h89
 have h90 := qde (k := x57.2.1.length) (c := c61) h89
 refine au [30,0] ?_
 intro x91 e91 g95 b92 o93 h94
 replace h94 : a23 = some ⟨b92, o93, none⟩ := h94
 refine qr mixed [] [⟨g26, 24, [.slice a23 x49.length c24]⟩] [qs b92 (o93 + x7.toNat * 1) (eN30 (x91, g95)), Sl (eI .i64) 1 (.slice g95.1 x91.length g95.2) x91, SlN eN30 iN30 1 (.slice a23 x49.length c24) x49 (c3.2.set x7.toNat (g44.1, g44.2)), qs g88 (x7.toNat * 1) ((eI .i64) x87)] (.cons 0 rfl .nil) (qy 0 rfl (qy 1 rfl (qy 2 rfl (qj6 0 rfl (qdQ (qz .i64) e87 h89) qn)))) 21 rfl ?_
 refine au [6,0,6,1,6,2] ?_
 refine qe (d := 86) (v := .slice (some ⟨g88, 0, none⟩) x57.2.1.length c61) rfl (by rw [h89] <;> rfl) (qj 3 (.pointer (some ⟨g88, x7.toNat * 1, none⟩)) rfl rfl rfl (qdI Tryz.underlying30 tf3 rfl rfl (qN e87).1 (yT e87)) (qe (d := 86) (v := .slice a60 x57.2.1.length c61) rfl (by rw [h89] <;> rfl) (qU 4 (.int .i64 x87) [] rfl rfl rfl (kp (j := 3) rfl tf3 rfl rfl (fun _ => rfl) rfl) ?_)))
 refine au [6,5,19,8,25,4,9,6,10] ?_
 refine qe (d := 94) (v := .slice (some ⟨b92, o93, none⟩) x49.length c24) rfl (by rw [h94] <;> rfl) (qj 11 (.pointer (some ⟨b92, (o93 + x7.toNat * 1), none⟩)) rfl rfl rfl (v6 Tryz.underlying22 tf30 rfl rfl (qN e91).1 (yT e91)) (qe (d := 94) (v := .slice a23 x49.length c24) rfl (by rw [h94] <;> rfl) (qU 12 (.slice g95.1 x91.length g95.2) [] rfl rfl rfl (kp (j := 0) rfl tf30 rfl rfl (fun _ => rfl) rfl) ?_)))
 refine au [26,8,13,30,3,14,20,6,33,4] ?_
 rintro x96 e96 ⟨a97, c98⟩
 refine au [0] ?_
 refine zG (.cons 0 rfl .nil) (qy 0 rfl (qy 1 rfl (qy 2 rfl (qj6 1 rfl (qdQ (qz .i64) e87 h89) qn)))) ?_
 refine au [26,8,7,20,15,33,4] ?_
 rintro x99 e99 ⟨a100, c101⟩
 refine au [0] ?_
 refine zG (.cons 0 rfl .nil) (qy 0 rfl (qy 1 rfl (qy 2 rfl (qj6 2 rfl (qdQ (qz .i64) e87 h89) qn)))) ?_
 refine au [26,8,16,6,17,6,18,6,19,6,20,24,3] ?_
 refine qv ?_ (by intro c h; cases h)
 exact az [1,9,15]
end Go.Proofs.YtnlodcokfndnmaaGreat
