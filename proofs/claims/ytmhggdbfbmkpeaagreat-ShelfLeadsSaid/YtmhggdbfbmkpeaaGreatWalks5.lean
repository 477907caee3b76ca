/- Each Go function of this seat computes what its model says, part 5. -/
import Derived.Test.YtmhggdbfbmkpeaaGreatWalks4
namespace Go.Proofs.YtmhggdbfbmkpeaaGreat
open Go SX
set_option maxHeartbeats 4000000 in
theorem qbi {F : Nat} {x1 : List (Int × Int)} {a2 : Option Addr} {c3 : Nat} {r : List (Int × Int)} (hm : zK F x1 = some r) :
    PureM Tryz.prog 78 [.slice a2 x1.length c3] [] [Ro eS88 88 2 (.slice a2 x1.length c3) x1] [] (Option Addr × Nat) (fun g => .slice g.1 r.length g.2) (fun _ => []) (fun g => [Ro eS88 88 2 (.slice g.1 r.length g.2) r]) := by
 refine zi Tryz.func78 rfl Tryz.ntmps78 rfl hm (fun w => ?_)
 refine av [25,3,2,4,5,0,1,2,2,4,3,24,6,24,4,0,1,11] ?_ ?_
 intro _
 refine au [2,4,3,5,0,1,8,10] ?_
 exact q7 (a2, c3)
 intro _
 refine au [12,1] ?_
 refine qe (fun ((_, _) : (Unit × Unit)) => ([(0, .slice a2 x1.length c3)], [], [Ro eS88 88 2 (.slice a2 x1.length c3) x1], [], zZ F x1)) ?_ ?_
 refine au [2,4,5,0,1,15] ?_
 refine qw (fun ((x1975, _) : (Int × Unit)) => ([(0, .slice a2 x1.length c3), (3, .int .i64 x1975)], [], [Ro eS88 88 2 (.slice a2 x1.length c3) x1], [])) (fun k (s : (Int × Unit)) => qA F x1 k s.1) (1, ()) F ?_
 intro k2468
 rintro ⟨x1975, _⟩
 try dsimp only
 refine qJ (m' := zB F x1 (qA F x1 k2468) x1975) rfl ?_
 refine av [2,2,4,3,3,24,6,24,4,0,1,11] ?_ ?_
 intro _
 refine au [12,1] ?_
 refine qe (fun ((_, _) : (Unit × Unit)) => ([(0, .slice a2 x1.length c3), (3, .int .i64 x1975)], [], [Ro eS88 88 2 (.slice a2 x1.length c3) x1], [], zW F (qA F x1 k2468) x1975)) ?_ ?_
 refine au [15,2,28,6] ?_
 intro x2723 e2723 g2724 h2725
 replace h2725 : a2 = some ⟨g2724, 0, none⟩ := h2725
 have h2726 := qdN (k := x1.length) (c := c3) h2725
 refine au [28,6] ?_
 intro x2727 e2727 g2728 h2729
 replace h2729 : a2 = some ⟨g2728, 0, none⟩ := h2729
 have h2730 := qdN (k := x1.length) (c := c3) h2729
 refine qH mixed [] [] [qR g2724 (x1975.toNat * 2) (eS88 x2723), qR g2728 ((isub .i64 x1975 1).toNat * 2) (eS88 x2727)] .nil (qgq 0 rfl (qgJ kT e2723 h2725) (qgq 0 rfl (qgJ kT e2727 h2729) qB)) 10 rfl ?_
 refine au [7,0,7,1] ?_
 refine qn (d := 16) (v := .slice (some ⟨g2724, 0, none⟩) x1.length c3) rfl (by rw [h2725] <;> rfl) (qo 2 (.pointer (some ⟨g2724, x1975.toNat * 2, none⟩)) rfl rfl rfl (qew Tryz.underlying85 tf88 rfl rfl (zd e2723).1 (qax e2723)) (qn (d := 16) (v := .slice a2 x1.length c3) rfl (by rw [h2725] <;> rfl) (zk 3 (.agg #[.int .i64 x2723.1, .int .i64 x2723.2]) [] rfl rfl rfl (ym (j := 0) rfl tf88 rfl rfl (by simp) rfl) ?_)))
 refine au [7,4,7,5,7,6] ?_
 refine qn (d := 20) (v := .slice (some ⟨g2728, 0, none⟩) x1.length c3) rfl (by rw [h2729] <;> rfl) (qo 7 (.pointer (some ⟨g2728, (isub .i64 x1975 1).toNat * 2, none⟩)) rfl rfl rfl (qew Tryz.underlying85 tf88 rfl rfl (zd e2727).1 (qax e2727)) (qn (d := 20) (v := .slice a2 x1.length c3) rfl (by rw [h2729] <;> rfl) (zk 8 (.agg #[.int .i64 x2727.1, .int .i64 x2727.2]) [] rfl rfl rfl (ym (j := 1) rfl tf88 rfl rfl (by simp) rfl) (qo 9 (.bool (((x2723.1 : Int) == x2727.1) && ((x2723.2 : Int) == x2727.2))) rfl rfl rfl (qr3 rfl rfl se88) ?_))))
 refine au [24,9] ?_
 refine qQ ?_ (by intro c h; cases h)
 refine av [1,11] ?_ ?_
 intro _
 refine au [2,4,3,3,35,6] ?_
 intro h2731 g2732 h2733
 refine au [5,0,1] ?_
 refine qe (fun (((x2842, x2843), _) : ((List (Int × Int) × Int) × Unit)) => ([(0, .slice a2 x2842.length c3), (3, .int .i64 x2843)], [], [Ro eS88 88 2 (.slice a2 x2842.length c3) x2842], [], zX F x2842 x2843)) ?_ ?_
 refine au [2,4,5,0,1,15] ?_
 refine qw (fun (((x2879, x2880, x2881), _) : ((List (Int × Int) × Int × Int) × Unit)) => ([(0, .slice a2 x2879.length c3), (3, .int .i64 x2880), (4, .slice (some ⟨g2732, x1975.toNat * 2, none⟩) (x1.length - x1975.toNat) (c3 - x1975.toNat)), (5, .int .i64 x2881)], [], [Ro eS88 88 2 (.slice a2 x2879.length c3) x2879], [])) (fun k (s : ((List (Int × Int) × Int × Int) × Unit)) => qx F x1 x1975 k s.1) ((x1, x1975, 1), ()) F ?_
 intro k2920
 rintro ⟨⟨x2879, x2880, x2881⟩, _⟩
 try dsimp only
 refine qJ (m' := zr F x1 x1975 (qx F x1 x1975 k2920) x2879 x2880 x2881) rfl ?_
 refine av [2,2,4,3,3,24,6,24,4,0,1,11] ?_ ?_
 intro _
 refine au [12,1] ?_
 refine qe (fun (((x2939, x2940), _) : ((List (Int × Int) × Int) × Unit)) => ([(0, .slice a2 x2939.length c3), (3, .int .i64 x2940), (4, .slice (some ⟨g2732, x1975.toNat * 2, none⟩) (x1.length - x1975.toNat) (c3 - x1975.toNat)), (5, .int .i64 x2881)], [], [Ro eS88 88 2 (.slice a2 x2939.length c3) x2939], [], q6 F (qx F x1 x1975 k2920) x2881 x2939 x2940)) ?_ ?_
 refine au [15,2,26,12] ?_
 intro h2945
 replace h2945 := of_decide_eq_true h2945
 refine au [35,7] ?_
 intro x2946 e2946
 refine au [26,12] ?_
 intro h2947
 replace h2947 := of_decide_eq_true h2947
 refine au [35,7] ?_
 intro x2948 e2948
 refine qH mixed [] [] [qR g2732 (x1975.toNat * 2 + x2881.toNat * 2) (eS88 x2946), qR g2732 (x1975.toNat * 2 + (isub .i64 x2881 1).toNat * 2) (eS88 x2948)] .nil (qgq 0 rfl (qmu kT e2946 h2733) (qgq 0 rfl (qmu kT e2948 h2733) qB)) 10 rfl ?_
 refine au [7,0,7,1] ?_
 refine qo 2 (.pointer (some ⟨g2732, x1975.toNat * 2 + x2881.toNat * 2, none⟩)) rfl rfl rfl (qbI Tryz.underlying85 tf88 rfl rfl (qhy h2945 e2946).1 (qhy h2945 e2946).2) (zk 3 (.agg #[.int .i64 x2946.1, .int .i64 x2946.2]) [] rfl rfl rfl (ym (j := 0) rfl tf88 rfl rfl (by simp) rfl) ?_)
 refine au [7,4,7,5,7,6] ?_
 refine qo 7 (.pointer (some ⟨g2732, x1975.toNat * 2 + (isub .i64 x2881 1).toNat * 2, none⟩)) rfl rfl rfl (qbI Tryz.underlying85 tf88 rfl rfl (qhy h2947 e2948).1 (qhy h2947 e2948).2) (zk 8 (.agg #[.int .i64 x2948.1, .int .i64 x2948.2]) [] rfl rfl rfl (ym (j := 1) rfl tf88 rfl rfl (by simp) rfl) (qo 9 (.bool (!(((x2946.1 : Int) == x2948.1) && ((x2946.2 : Int) == x2948.2)))) rfl rfl rfl (qnJ rfl rfl se88) ?_))
 refine au [24,9] ?_
 refine qQ ?_ (by intro c h; cases h)
 refine av [1,11] ?_ ?_
 intro _
 refine au [2,4,3,3,3,3,26,1] ?_
 intro h2949
 replace h2949 := of_decide_eq_true h2949
 refine qma (xs := x2879) h2949 rfl Tryz.underlying85 tf88 rfl rfl rfl (fun x2950 e2950 => qot (j := 0) kT rfl rfl tf88 rfl h2733 e2950 (by simp) rfl rfl ?_)
 refine au [28,15] ?_
 intro x2951 e2951 g2952 h2953
 refine qbQ (j := 0) (y' := (x2950.1, x2950.2)) kT rfl rfl rfl tf88 rfl h2953 (zd e2951).2.1 rfl (fun x2954 e2954 h2955 => ?_)
 have h2956 : x2954.length = x2879.length := by rw [← e2954, List.length_set]
 refine qc (d := 0) (v := .slice a2 x2954.length c3) rfl h2955 (qc (d := 45) (v := .slice a2 x2954.length c3) rfl h2955 ?_)
 refine au [0,1,4,3,19,5,0,24,5] ?_
 exact qb ((x2954, iadd .i64 x2880 1), ())
 intro _
 refine au [12,24,5] ?_
 exact qb ((x2879, x2880), ())
 rintro ⟨⟨x2939, x2940⟩, _⟩
 try dsimp only
 refine au [4,3,19,5,0] ?_
 exact qp ((x2939, x2940, iadd .i64 x2881 1), ())
 intro _
 refine au [24,11,20,20,24,12] ?_
 exact qb ((x2879, x2880), ())
 rintro ⟨⟨x2842, x2843⟩, _⟩
 try dsimp only
 refine au [2,4,3,3,35,6] ?_
 intro h2844 g2845 h2846
 refine ql7 (j := 0) (zy := ((0 : Int), (0 : Int))) kT (by decide) rfl (by have := h2844; omega) rfl Tryz.underlying85 tf88 rfl rfl rfl h2846 (fun x2847 e2847 h2848 => ?_)
 have h2849 : x2847.length = x2842.length := by have := congrArg List.length e2847; simp only [List.length_append, List.length_take, List.length_replicate] at this; have := h2844; omega
 refine qc (d := 0) (v := .slice a2 x2847.length c3) rfl (by rw [h2848] <;> rfl) (qc (d := 54) (v := .slice a2 x2847.length c3) rfl (by rw [h2848] <;> rfl) ?_)
 refine au [0,1,2,4,3,3] ?_
 refine qlb (i := 0) kT rfl UnF.u inferInstance rfl rfl rfl rfl ?_
 intro x2850 e2850
 refine au [5,0,1,8,24,1,10,10,24,1,10] ?_
 exact q7 (a2, c3)
 intro _
 exact az [12,24,5,25,15]
 rintro ⟨_, _⟩
 try dsimp only
 refine au [4,3,19,5,0] ?_
 exact qp (iadd .i64 x1975 1, ())
 intro _
 exact az [24,11,20,20,24,12,25,15]
 rintro ⟨_, _⟩
 try dsimp only
 refine au [2,4,3,5,0,1,8] ?_
 exact q7 (a2, c3)
set_option maxHeartbeats 4000000 in
theorem qiP {F : Nat} {x1 : List (List Int)} {a2 : Option Addr} {c3 : Nat} {s3 : List (Option Addr × Nat)} {r : (List (List Int) × Int)} (hm : qcp F x1 = some r) :
    Pure Tryz.prog 48 [.agg #[.slice a2 x1.length c3]] [SlN eN39 iN39 1 (.slice a2 x1.length c3) x1 s3] (Option Addr × (Nat × List (Option Addr × Nat))) (fun g => .tuple #[.agg #[.slice g.1 r.1.length g.2.1], .int .i64 r.2]) (fun g => [RoN eN39 rN39 39 1 (.slice g.1 r.1.length g.2.1) r.1 g.2.2 []]) (fun _ => []) := by
 refine qk Tryz.func48 rfl Tryz.ntmps48 rfl hm (fun w => ?_)
 refine au [25,3,2,4,22] ?_
 intro g4
 refine au [24,7] ?_
 intro g5
 refine au [5,0,1,2,2,4,25,7,28,0] ?_
 intro x8 e8 _
 refine av [5,0,1,2,4,3,25,1,0,1,11] ?_ ?_
 intro _
 refine au [2,4] ?_
 refine ql (cells := [.slice none 0 0]) rfl st24 rfl (by kernel_rfl) rfl ?_
 refine au [3,24,2,5,0,1,8,10,26,5] ?_
 exact qu (none, (0, ([] : List (Option Addr × Nat)))) (resL (rs := [.cell 2 24, .tmp 3]) rfl (.cell (i := 0) rfl tf24 rfl rfl (by simp) rfl (.tmp rfl ResOk.nil)) rfl) (fun h => by subst h; exact (.cons 0 rfl .nil))
 intro _
 refine au [12,1,2] ?_
 refine qH mixed [] [⟨g5, 24, [.slice none 0 0]⟩, ⟨g4, 24, [.slice a2 x1.length c3]⟩] [SlN eN39 iN39 1 (.slice a2 x1.length c3) x1 s3] (.cons 0 rfl (.cons 0 rfl .nil)) (qW 0 rfl qB) 7 rfl (kN 0 (.agg #[.slice a2 x1.length c3]) rfl rfl rfl (zI (i := 1) rfl tf24 rfl rfl (by simp) rfl) (kN 3 (.agg #[.slice a2 x1.length c3]) rfl rfl rfl (zI (i := 1) rfl tf24 rfl rfl (by simp) rfl) ?_))
 refine au [24,3,1,29,5] ?_
 intro x20 e20 g21
 refine au [0,26,4,24,3,2,35,5] ?_
 rintro x22 e22 ⟨a23, c24⟩
 refine au [0,26,4,24,3,4,35,2] ?_
 rintro x25 e25 ⟨a26, c27⟩
 refine au [0,26,4,24,3,5] ?_
 refine kx 1 kT rfl Tryz.underlying85 tf88 rfl rfl rfl rfl rfl (.inl ⟨0, _, rfl⟩) rfl rfl (fun x28 e28 a29 c30 => ?_)
 refine au [0,26,4,7,6,24,9] ?_
 refine qQ ?_ (by intro c h; cases h)
 refine au [1,2,4,3,35,1] ?_
 intro x31 e31 _
 refine au [26,1] ?_
 intro h32
 replace h32 := of_decide_eq_true h32
 refine qc (d := 5) (v := .slice a29 x31.length c30) rfl (by rw [h32] <;> rfl) (qc (d := 17) (v := .slice a29 x31.length c30) rfl (by rw [h32] <;> rfl) (qc (d := 18) (v := .slice a29 x31.length c30) rfl (by rw [h32] <;> rfl) ?_))
 refine au [0,1,2,4,3] ?_
 refine qz qbi ?_
 rintro x33 e33 ⟨a34, c35⟩
 refine av [5,0,1,2,2,4,3,24,6,24,14,0,1,11] ?_ ?_
 intro _
 refine au [2,4] ?_
 refine ql (cells := [.slice none 0 0]) rfl st24 rfl (by kernel_rfl) rfl ?_
 refine au [24,15,5,0,1,8,10,26,5] ?_
 exact qu (none, (0, ([] : List (Option Addr × Nat)))) (resL (rs := [.cell 2 24, .tmp 3]) rfl (.cell (i := 1) rfl tf24 rfl rfl (by simp) rfl (.tmp rfl ResOk.nil)) rfl) (fun h => by subst h; exact (.cons 0 rfl .nil))
 intro _
 refine au [12,1,2,4,9,26,11,24,6,3,31,2] ?_
 rintro x37 e37 ⟨a38, c39⟩
 refine au [24,15,5,0,1,8] ?_
 exact qu (a38, c39) (resL (rs := [.cell 2 24, .tmp 3]) rfl (.cell (i := 1) rfl tf24 rfl rfl (by simp) rfl (.tmp rfl ResOk.nil)) rfl) (fun h => by subst h; exact (.cons 0 rfl .nil))
set_option maxHeartbeats 4000000 in
theorem qgl {F : Nat} {x1 : List (List Int)} {a2 : Option Addr} {c3 : Nat} {s3 : List (Option Addr × Nat)} {r : (List Int × List Int × Int)} (hm : qaZ F x1 = some r) :
    PureM Tryz.prog 49 [.agg #[.slice a2 x1.length c3]] [] [] [SlN eN39 iN39 1 (.slice a2 x1.length c3) x1 s3] ((Option Addr × Nat) × (Option Addr × Nat)) (fun g => .tuple #[.slice g.1.1 r.1.length g.1.2, .slice g.2.1 r.2.1.length g.2.2, .int .i64 r.2.2]) (fun _ => []) (fun g => [Ro (eI .i64) 3 1 (.slice g.1.1 r.1.length g.1.2) r.1, Ro (eI .i64) 3 1 (.slice g.2.1 r.2.1.length g.2.2) r.2.1]) := by
 refine qcV Tryz.func49 rfl Tryz.ntmps49 rfl hm (fun w => ?_)
 refine au [25,3,2,4,22] ?_
 intro g4
 refine au [24,7] ?_
 intro g5
 refine au [24,7] ?_
 intro g6
 refine au [5,0,1,2,2,4,25,14,28,0] ?_
 intro x9 e9 _
 refine av [5,0,1,2,4,3,25,1,0,1,11] ?_ ?_
 intro _
 refine au [2,4,3,24,15,24,2,5,0,1,8,10,25,10,25,10] ?_
 exact qaL [] ((none, 0), (none, 0)) (.inl rfl) rfl .nil (resL (rs := [.cell 2 39, .cell 3 39, .tmp 4]) rfl (.cell (i := 1) rfl tf39 rfl rfl (fun _ => rfl) rfl (.cell (i := 0) rfl tf39 rfl rfl (fun _ => rfl) rfl (.tmp rfl ResOk.nil))) rfl) (fun h => by subst h; rfl) (fun h => by subst h; exact .nil) (fun h => by subst h; exact (.cons 0 rfl (.cons 0 rfl .nil)))
 intro _
 refine au [12,1] ?_
 refine qe (fun (((x27, x30), (a25, c26, a28, c29)) : ((List Int × List Int) × (Option Addr × Nat × Option Addr × Nat))) => ([(1, .pointer (some ⟨g4, 0, none⟩)), (2, .pointer (some ⟨g5, 0, none⟩)), (3, .pointer (some ⟨g6, 0, none⟩)), (4, .int .i64 0)], [⟨g6, 39, [.slice a25 x27.length c26]⟩, ⟨g5, 39, [.slice a28 x30.length c29]⟩, ⟨g4, 24, [.slice a2 x1.length c3]⟩], [Ro (eI .i64) 3 1 (.slice a25 x27.length c26) x27, Ro (eI .i64) 3 1 (.slice a28 x30.length c29) x30], [SlN eN39 iN39 1 (.slice a2 x1.length c3) x1 s3], k8 F x1 x27 x30)) ?_ ?_
 refine qH mixed [] [⟨g4, 24, [.slice a2 x1.length c3]⟩] [SlN eN39 iN39 1 (.slice a2 x1.length c3) x1 s3] (.cons 2 rfl .nil) (qW 0 rfl qB) 10 rfl ?_
 refine au [21,0,25,2,1,27,7,2,21,4,25,2,5,27,7,6] ?_
 refine qdR 3 7 rfl rfl (by kernel_rfl) rfl rfl ?_ ?_
 refine au [28,1] ?_
 intro x165 e165 a166 c167
 refine au [0,26,3] ?_
 refine qdR 7 8 rfl rfl (by kernel_rfl) rfl rfl ?_ ?_
 refine au [28,1] ?_
 intro x168 e168 a169 c170
 refine au [0,26,3,24,3,8,24,15,0,26,3,24,3,9,24,2,0,26,3,24,9] ?_
 exact qQ (qb ((x168, x165), (a169, c170, a166, c167))) (by intro c h; cases h)
 refine qdT (m' := ((mk 17592186044416 (0 : Int) (x1.length : Int)).bind fun x171 => k8 F x1 x171 x165)) (rfl) ?_
 refine au [24,15,0,26,3,24,3,7,28,1] ?_
 intro x171 e171 a172 c173
 refine au [0,26,3,24,3,9,24,2,0,26,3,24,9] ?_
 exact qQ (qb ((x171, x165), (a172, c173, a166, c167))) (by intro c h; cases h)
 refine qdT (m' := ((mk 17592186044416 (0 : Int) (x1.length : Int)).bind fun x174 => ((mk 17592186044416 (0 : Int) (x1.length : Int)).bind fun x177 => k8 F x1 x174 x177))) (by show ((mk 17592186044416 (0 : Int) (x1.length : Int)).bind fun x165 => ((mk 17592186044416 (0 : Int) (x1.length : Int)).bind fun x168 => k8 F x1 x168 x165)) = _; generalize (mk 17592186044416 (0 : Int) (x1.length : Int)) = q0; cases q0 <;> rfl) ?_
 refine au [28,1] ?_
 intro x174 e174 a175 c176
 refine au [0,26,3,24,3,3,28,1] ?_
 intro x177 e177 a178 c179
 refine au [0,26,3,24,3,8,24,15,0,26,3,24,3,9,24,2,0,26,3,24,9] ?_
 exact qQ (qb ((x174, x177), (a175, c176, a178, c179))) (by intro c h; cases h)
 rintro ⟨⟨x27, x30⟩, ⟨a25, c26, a28, c29⟩⟩
 try dsimp only
 refine au [2,2,4,25,14,29,5] ?_
 intro x98 e98 g99
 refine au [0,1,15] ?_
 refine qbP (encs := (fun (p : (Int × Int)) => [.agg #[.int .i64 p.1, .int .i64 p.2]])) (y := (fun ((x121, x122) : (List Int × List Int)) ((x144, x145) : (Int × Int)) => yS F x121 x122 x144 x145)) (lb := [.pointer (some ⟨g99, 0, none⟩)]) (fun ((x121, x122) : (List Int × List Int)) (_ : Unit) => [⟨g6, 39, [.slice a25 x121.length c26]⟩, ⟨g5, 39, [.slice a28 x122.length c29]⟩, ⟨g4, 24, [.slice a2 x1.length c3]⟩]) (fun ((x121, x122) : (List Int × List Int)) (_ : Unit) => [Ro (eI .i64) 3 1 (.slice a25 x121.length c26) x121, Ro (eI .i64) 3 1 (.slice a28 x122.length c29) x122]) (fun (_ : Empty) (_ : Unit) => []) (fun (_ : Empty) (_ : Unit) => []) (fun _ => .skip) (x27, x30) () rfl ent101 (fun _ => rfl) rfl (.cons 0 rfl .nil) (.cons 0 rfl (.cons 0 rfl (.cons 0 rfl .nil))) (.cons 0 rfl (.cons 0 rfl .nil)) (.consF 0 rfl .nil) (fun z hz _ _ _ hY => qdc F hY (x27, x30) () g99 x1 a2 (c3, s3) z hz) ?_ ?_ ?_
 rintro rc1 L1 D1 ⟨x121, x122⟩ _ ⟨x144, x145⟩ z w M _
 try dsimp only
 refine qcX [(1, .pointer (some ⟨g4, 0, none⟩)), (2, .pointer (some ⟨g5, 0, none⟩)), (3, .pointer (some ⟨g6, 0, none⟩)), (4, .int .i64 0), (20, .agg #[.slice a2 x1.length c3]), (21, .func (.func 101) #[] #[.pointer (some ⟨g99, 0, none⟩)]), (22, .agg #[.int .i64 x144, .int .i64 x145])] (qt rfl (qt rfl (qt rfl (qt rfl (qt rfl (qt rfl (qt rfl qcT))))))) ?_
 refine au [4,24,7] ?_
 intro g146
 refine au [24,2,0,32,3,15,2,4,26,11,9,18,29,7] ?_
 intro x147 e147 g148 h149
 refine qf4 (j := 1) (y := x147) (qP .i64) rfl rfl tf3 rfl h149 (zd e147).2.2 (fun _ => rfl) rfl rfl ?_
 refine au [19,29,7] ?_
 intro x150 e150 g151 h152
 refine qbQ (j := 1) (y' := iadd .i64 x147 1) (qP .i64) rfl rfl rfl tf3 rfl h152 (zd e150).2.1 rfl (fun x153 e153 h154 => ?_)
 have h155 : x153.length = x122.length := by rw [← e153, List.length_set]
 refine qc (d := 23) (v := .slice a28 x153.length c29) rfl h154 (qcA (i := 2) (cs' := [.slice a28 x153.length c29]) rfl (by rw [h154] <;> rfl) ?_)
 refine au [0,1,4,25,6,9,18,29,7] ?_
 intro x156 e156 g157 h158
 refine qf4 (j := 1) (y := x156) (qP .i64) rfl rfl tf3 rfl h158 (zd e156).2.2 (fun _ => rfl) rfl rfl ?_
 refine au [19,29,7] ?_
 intro x159 e159 g160 h161
 refine qbQ (j := 1) (y' := iadd .i64 x156 1) (qP .i64) rfl rfl rfl tf3 rfl h161 (zd e159).2.1 rfl (fun x162 e162 h163 => ?_)
 have h164 : x162.length = x121.length := by rw [← e162, List.length_set]
 refine qc (d := 30) (v := .slice a25 x162.length c26) rfl h163 (qcA (i := 1) (cs' := [.slice a25 x162.length c26]) rfl (by rw [h163] <;> rfl) ?_)
 refine au [0,24,5] ?_
 exact qaN (rc := rc1) rfl (.cons 4 rfl .nil) rfl () (.cons 2 rfl (.cons 2 rfl (.cons 2 rfl (.cons 0 rfl (.cons 1 rfl .nil))))) (.cons 0 rfl (.cons 0 rfl .nil))
 rintro ⟨x121, x122⟩ _ _ D1
 try dsimp only
 refine au [24,5,1,2] ?_
 refine qH mixed [] [(dblk D1), ⟨g99, 24, [.slice a2 x1.length c3]⟩, ⟨g6, 39, [.slice a25 x121.length c26]⟩, ⟨g5, 39, [.slice a28 x122.length c29]⟩, ⟨g4, 24, [.slice a2 x1.length c3]⟩] [SlN eN39 iN39 1 (.slice a2 x1.length c3) x1 s3] (.cons 0 rfl (.cons 0 rfl (.cons 0 rfl (.cons 0 rfl (.cons 0 rfl .nil))))) (qW 0 rfl qB) 5 rfl ?_
 refine au [32,4,0,29,13,1,24,3,2,28,11,0,28,12,24,3,3,26,10,0,28,12,7,4,24,9] ?_
 refine qQ ?_ (by intro c h; cases h)
 refine au [1,8] ?_
 exact qaL [D1] ((a28, c29), (a25, c26)) (.inl rfl) rfl (.cons 0 rfl .nil) (resL (rs := [.cell 2 39, .cell 3 39, .tmp 4]) rfl (.cell (i := 2) rfl tf39 rfl rfl (fun _ => rfl) rfl (.cell (i := 1) rfl tf39 rfl rfl (fun _ => rfl) rfl (.tmp rfl ResOk.nil))) rfl) (fun h => by subst h; rfl) (fun h => by subst h; exact .nil) (fun h => by subst h; exact (.cons 1 rfl (.cons 0 rfl .nil)))
 intro t; exact t.elim
set_option maxHeartbeats 4000000 in
theorem qhB {F : Nat} {x1 : List (List Int)} {a2 : Option Addr} {c3 : Nat} {s3 : List (Option Addr × Nat)} {x4 : List (List Int)} {a5 : Option Addr} {c6 : Nat} {s6 : List (Option Addr × Nat)} {r : Bool} (hm : vL F x1 x4 = some r) :
    Pure Tryz.prog 50 [.slice a2 x1.length c3, .slice a5 x4.length c6] [SlN eN39 iN39 1 (.slice a2 x1.length c3) x1 s3, SlN eN39 iN39 1 (.slice a5 x4.length c6) x4 s6] Unit (fun _ => .bool r) (fun _ => []) (fun _ => []) := by
 refine qk Tryz.func50 rfl Tryz.ntmps50 rfl hm (fun w => ?_)
 refine av [24,10,2,4,5,0,1,2,2,4,3,24,6,3,24,6,25,1,0,1,11] ?_ ?_
 intro _
 exact az [2,4,5,0,1,8,10,17]
 intro _
 refine au [12,1] ?_
 refine qe (fun ((_, _) : (Unit × Unit)) => ([], [], [], [], qdq F)) ?_ ?_
 refine au [2,4,5,0,1,15] ?_
 refine qw (fun ((x202, _) : (Int × Unit)) => ([(0, .slice a2 x1.length c3), (1, .slice a5 x4.length c6), (5, .int .i64 x202)], [], [], [SlN eN39 iN39 1 (.slice a2 x1.length c3) x1 s3, SlN eN39 iN39 1 (.slice a5 x4.length c6) x4 s6])) (fun k (s : (Int × Unit)) => yL F x1 x4 k s.1) (0, ()) F ?_
 intro k251
 rintro ⟨x202, _⟩
 try dsimp only
 refine qJ (m' := qaz F x1 x4 (yL F x1 x4 k251) x202) rfl ?_
 refine av [2,2,4,3,3,24,6,24,4,0,1,11] ?_ ?_
 intro _
 refine au [12,1,2,15,2] ?_
 refine qk6 (j := 0) km (by decide) rfl ?_
 intro x287 e287 g291 b288 o289 h290
 replace h290 : a2 = some ⟨b288, o289, none⟩ := h290
 refine qk6 (j := 3) km (by decide) rfl ?_
 intro x292 e292 g296 b293 o294 h295
 replace h295 : a5 = some ⟨b293, o294, none⟩ := h295
 refine qH mixed [] [] [qR b293 (o294 + x202.toNat * 1) (eN39 (x292, g296)), Sl (eI .i64) 1 (.slice g296.1 x292.length g296.2) x292, qR b288 (o289 + x202.toNat * 1) (eN39 (x287, g291)), Sl (eI .i64) 1 (.slice g291.1 x287.length g291.2) x287, SlN eN39 iN39 1 (.slice a2 x1.length c3) x1 s3, SlN eN39 iN39 1 (.slice a5 x4.length c6) x4 s6] .nil (qW 0 rfl (qW 1 rfl (qW 2 rfl (qW 3 rfl (qW 4 rfl (qW 5 rfl qB)))))) 10 rfl ?_
 refine au [7,0,7,1] ?_
 refine qn (d := 17) (v := .slice (some ⟨b288, o289, none⟩) x1.length c3) rfl (by rw [h290] <;> rfl) (qo 2 (.pointer (some ⟨b288, (o289 + x202.toNat * 1), none⟩)) rfl rfl rfl (qbI Tryz.underlying22 tf39 rfl rfl (zd e287).1 (qax e287)) (qn (d := 17) (v := .slice a2 x1.length c3) rfl (by rw [h290] <;> rfl) (zk 3 (.slice g291.1 x287.length g291.2) [] rfl rfl rfl (ym (j := 2) rfl tf39 rfl rfl (fun _ => rfl) rfl) ?_)))
 refine au [7,4,7,5] ?_
 refine qn (d := 21) (v := .slice (some ⟨b293, o294, none⟩) x4.length c6) rfl (by rw [h295] <;> rfl) (qo 6 (.pointer (some ⟨b293, (o294 + x202.toNat * 1), none⟩)) rfl rfl rfl (qbI Tryz.underlying22 tf39 rfl rfl (zd e292).1 (qax e292)) (qn (d := 21) (v := .slice a5 x4.length c6) rfl (by rw [h295] <;> rfl) (zk 7 (.slice g296.1 x292.length g296.2) [] rfl rfl rfl (ym (j := 0) rfl tf39 rfl rfl (fun _ => rfl) rfl) ?_)))
 refine au [24,3,8,29,4] ?_
 intro x297 e297 _
 refine au [0] ?_
 refine kj .nil (qW 0 rfl (qW 1 rfl (qW 2 rfl (qW 3 rfl (qW 4 rfl (qW 5 rfl qB)))))) ?_
 refine au [7,9,24,9] ?_
 refine qQ ?_ (by intro c h; cases h)
 refine av [1,11] ?_ ?_
 intro _
 exact az [2,4,5,0,1,8,24,1,10,10,24,1,10,17]
 intro _
 refine au [12,24,5,1,4,3,19,5,0] ?_
 exact qp (iadd .i64 x202 1, ())
 intro _
 exact az [24,11,20,20,24,12,25,15]
 rintro ⟨_, _⟩
 try dsimp only
 exact az [2,4,5,0,1,8,17]
set_option maxHeartbeats 4000000 in
theorem qiE {F : Nat} {x1 : List (Int × Int)} {a2 : Option Addr} {c3 : Nat} {x4 : List (Int × Int)} {a5 : Option Addr} {c6 : Nat} {r : Bool} (hm : qck F x1 x4 = some r) :
    Pure Tryz.prog 51 [.slice a2 x1.length c3, .slice a5 x4.length c6] [Sl eS88 2 (.slice a2 x1.length c3) x1, Sl eS88 2 (.slice a5 x4.length c6) x4] Unit (fun _ => .bool r) (fun _ => []) (fun _ => []) := by
 refine qk Tryz.func51 rfl Tryz.ntmps51 rfl hm (fun w => ?_)
 refine av [24,10,2,4,5,0,1,2,2,4,3,24,6,3,24,6,25,1,0,1,11] ?_ ?_
 intro _
 exact az [2,4,5,0,1,8,10,17]
 intro _
 refine au [12,1] ?_
 refine qe (fun ((_, _) : (Unit × Unit)) => ([], [], [], [], qdV F)) ?_ ?_
 refine au [2,4,5,0,1,15] ?_
 refine qw (fun ((x154, _) : (Int × Unit)) => ([(0, .slice a2 x1.length c3), (1, .slice a5 x4.length c6), (5, .int .i64 x154)], [], [], [Sl eS88 2 (.slice a2 x1.length c3) x1, Sl eS88 2 (.slice a5 x4.length c6) x4])) (fun k (s : (Int × Unit)) => vi F x1 x4 k s.1) (0, ()) F ?_
 intro k191
 rintro ⟨x154, _⟩
 try dsimp only
 refine qJ (m' := qaW F x1 x4 (vi F x1 x4 k191) x154) rfl ?_
 refine av [2,2,4,3,3,24,6,24,4,0,1,11] ?_ ?_
 intro _
 refine au [12,1,2,15,2] ?_
 refine qcd (j := 0) kT (by decide) rfl ?_
 intro x218 e218 b219 o220 h221
 replace h221 : a2 = some ⟨b219, o220, none⟩ := h221
 refine qcd (j := 2) kT (by decide) rfl ?_
 intro x222 e222 b223 o224 h225
 replace h225 : a5 = some ⟨b223, o224, none⟩ := h225
 refine qH mixed [] [] [qR b223 (o224 + x154.toNat * 2) (eS88 x222), qR b219 (o220 + x154.toNat * 2) (eS88 x218), Sl eS88 2 (.slice a2 x1.length c3) x1, Sl eS88 2 (.slice a5 x4.length c6) x4] .nil (qW 0 rfl (qW 1 rfl (qW 2 rfl (qW 3 rfl qB)))) 9 rfl ?_
 refine au [7,0,7,1] ?_
 refine qn (d := 17) (v := .slice (some ⟨b219, o220, none⟩) x1.length c3) rfl (by rw [h221] <;> rfl) (qo 2 (.pointer (some ⟨b219, (o220 + x154.toNat * 2), none⟩)) rfl rfl rfl (qbI Tryz.underlying85 tf88 rfl rfl (zd e218).1 (qax e218)) (qn (d := 17) (v := .slice a2 x1.length c3) rfl (by rw [h221] <;> rfl) (zk 3 (.agg #[.int .i64 x218.1, .int .i64 x218.2]) [] rfl rfl rfl (ym (j := 1) rfl tf88 rfl rfl (by simp) rfl) ?_)))
 refine au [7,4,7,5] ?_
 refine qn (d := 21) (v := .slice (some ⟨b223, o224, none⟩) x4.length c6) rfl (by rw [h225] <;> rfl) (qo 6 (.pointer (some ⟨b223, (o224 + x154.toNat * 2), none⟩)) rfl rfl rfl (qbI Tryz.underlying85 tf88 rfl rfl (zd e222).1 (qax e222)) (qn (d := 21) (v := .slice a5 x4.length c6) rfl (by rw [h225] <;> rfl) (zk 7 (.agg #[.int .i64 x222.1, .int .i64 x222.2]) [] rfl rfl rfl (ym (j := 0) rfl tf88 rfl rfl (by simp) rfl) (qo 8 (.bool (!(((x218.1 : Int) == x222.1) && ((x218.2 : Int) == x222.2)))) rfl rfl rfl (qnJ rfl rfl se88) ?_))))
 refine au [24,9] ?_
 refine qQ ?_ (by intro c h; cases h)
 refine av [1,11] ?_ ?_
 intro _
 exact az [2,4,5,0,1,8,24,1,10,10,24,1,10,17]
 intro _
 refine au [12,24,5,1,4,3,19,5,0] ?_
 exact qp (iadd .i64 x154 1, ())
 intro _
 exact az [24,11,20,20,24,12,25,15]
 rintro ⟨_, _⟩
 try dsimp only
 exact az [2,4,5,0,1,8,17]
set_option maxHeartbeats 4000000 in
theorem qgA (F : Nat)  (r : Bool) (hm : qbj F  = some r) :
    Pure Tryz.prog 22 [] [] Unit (fun _ => .bool r) (fun _ => []) (fun _ => []) := by
 refine qk Tryz.func22 rfl Tryz.ntmps22 rfl hm (fun w => ?_)
 refine au [30,15,2,4,5,0,1,2,4] ?_
 refine ql (cells := [.int .i64 2, .int .i64 0]) rfl st88 rfl (by kernel_rfl) rfl (ql (cells := [.int .i64 0, .int .i64 1]) rfl st88 rfl (by kernel_rfl) rfl (ql (cells := [.int .i64 0, .int .i64 0]) rfl st88 rfl (by kernel_rfl) rfl (qv (vs := [.agg #[.int .i64 2, .int .i64 0], .agg #[.int .i64 0, .int .i64 1], .agg #[.int .i64 0, .int .i64 0]]) (ys := ([(2, 0), (0, 1), (0, 0)] : List (Int × Int))) kT (by decide) rfl Tryz.underlying85 tf88 rfl rfl rfl rfl rfl (by decide) (fun a1 c2 => ?_))))
 refine au [35,8] ?_
 rintro x3 e3 ⟨a4, c5⟩
 refine au [3,13,13,24,7] ?_
 intro g6
 refine au [24,2,5,0,1,2,4,24,8] ?_
 refine qf qiO ?_
 rintro x7 e7 ⟨a8, c9⟩
 refine au [3,13,13,5,5,0,1,2,4,24,8,35,9] ?_
 rintro x10 e10 ⟨a11, c12⟩
 refine au [3,13,13,24,7] ?_
 intro g13
 refine au [24,2,5,0,1,2,4,25,7] ?_
 refine qf qiP ?_
 rintro x14 e14 ⟨a15, c16⟩
 refine au [3,13,13,24,7] ?_
 intro g17
 refine au [24,2,5,0,1,2,4,25,14] ?_
 refine qz qgl ?_
 rintro x18 e18 ⟨⟨a19, c20⟩, ⟨a21, c22⟩⟩
 refine au [3,13,13,13,5,5,5,0,1,2,4] ?_
 refine ql (cells := [.int .i64 0, .int .i64 0]) rfl st88 rfl (by kernel_rfl) rfl (ql (cells := [.int .i64 0, .int .i64 0]) rfl st88 rfl (by kernel_rfl) rfl (qv (vs := [.agg #[.int .i64 0, .int .i64 0], .agg #[.int .i64 0, .int .i64 0]]) (ys := ([(0, 0), (0, 0)] : List (Int × Int))) kT (by decide) rfl Tryz.underlying85 tf88 rfl rfl rfl rfl rfl (by decide) (fun a23 c24 => ?_)))
 refine au [35,8] ?_
 rintro x25 e25 ⟨a26, c27⟩
 refine au [3,13,13,24,7] ?_
 intro g28
 refine au [24,2,5,0,1,2,4,9,27,11] ?_
 refine qv (vs := [.int .i64 0, .int .i64 1]) (ys := ([0, 1] : List Int)) (qP .i64) (by decide) rfl Tryz.underlying39 tf3 rfl rfl rfl rfl rfl (by decide) (fun a29 c30 => qv (vs := [.int .i64 0]) (ys := ([0] : List Int)) (qP .i64) (by decide) rfl Tryz.underlying39 tf3 rfl rfl rfl rfl rfl (by decide) (fun a31 c32 => ?_))
 refine au [29,0,27,1,27,3,27,3] ?_
 refine qv (vs := [.slice a29 ([0, 1] : List Int).length c30, .slice none 0 0, .slice a31 ([0] : List Int).length c32]) (ys := ([(([0, 1] : List Int), (a29, c30)), (([] : List Int), (none, 0)), (([0] : List Int), (a31, c32))] : List (List Int × (Option Addr × Nat)))) km (by decide) rfl Tryz.underlying22 tf39 rfl rfl rfl rfl rfl (by decide) (fun a33 c34 => qcE (inn := iN39) ([([0, 1] : List Int), ([] : List Int), ([0] : List Int)] : List (List Int)) ([(a29, c30), (none, 0), (a31, c32)] : List (Option Addr × Nat)) 0 rfl rfl (qm 2 rfl (qm 1 rfl (qm 0 rfl ke))) ?_)
 refine au [31,3] ?_
 intro x35 e35 _
 refine au [3] ?_
 refine qq 3 x35 [(3, .slice a8 x7.1.length c9), (4, .int .i64 x7.2), (5, .pointer (some ⟨g13, 0, none⟩)), (6, .int .i64 x10.2), (7, .pointer (some ⟨g17, 0, none⟩)), (8, .int .i64 x14.2), (9, .slice a19 x18.1.length c20), (10, .slice a21 x18.2.1.length c22), (11, .int .i64 x18.2.2), (13, .int .i64 x25.2), (59, .bool (x35 && ((x3.2 : Int) == 0)))] (fun h36 => ?_) (fun h36 => ?_) ?_
 refine qa (os := _) rfl (qi (k := 56) rfl h36 ?_)
 refine au [3,24,13,23] ?_
 refine qc (d := 59) (v := .bool (x35 && ((x3.2 : Int) == 0))) rfl (by rw [h36]; simp only [Bool.true_and]) ?_
 exact az [0,16]
 refine qa (os := _) rfl (qh (k := 56) rfl h36 ?_)
 refine au [6,6,24,0] ?_
 refine qc (d := 59) (v := .bool (x35 && ((x3.2 : Int) == 0))) rfl (by rw [h36]; simp only [Bool.false_and]) ?_
 exact az [0,16]
 refine qa (os := _) rfl ?_
 refine au [3] ?_
 refine qY 7 (fun ((x41, _) : (Bool × Unit)) => ([(4, .int .i64 x7.2), (5, .pointer (some ⟨g13, 0, none⟩)), (6, .int .i64 x10.2), (7, .pointer (some ⟨g17, 0, none⟩)), (8, .int .i64 x14.2), (9, .slice a19 x18.1.length c20), (10, .slice a21 x18.2.1.length c22), (11, .int .i64 x18.2.2), (13, .int .i64 x25.2), (67, .bool x41)], [⟨g17, 24, [.slice a15 x14.1.length c16.1]⟩, ⟨g13, 24, [.slice a11 x10.1.length c12.1]⟩], [Ro (eI .i64) 3 1 (.slice a19 x18.1.length c20) x18.1, Ro (eI .i64) 3 1 (.slice a21 x18.2.1.length c22) x18.2.1, RoN eN39 rN39 39 1 (.slice a15 x14.1.length c16.1) x14.1 c16.2 [], RoN eN39 rN39 39 1 (.slice a11 x10.1.length c12.1) x10.1 c12.2 []], [], jS F x7 x10 x14 x18 x25 x41)) ?_ ?_
 refine qa (os := _) rfl ?_
 refine av [25,9] ?_ ?_
 intro h37
 refine qi (k := 60) rfl h37 ?_
 refine au [3] ?_
 refine ql (cells := [.int .i64 0, .int .i64 0]) rfl st88 rfl (by kernel_rfl) rfl (ql (cells := [.int .i64 0, .int .i64 1]) rfl st88 rfl (by kernel_rfl) rfl (ql (cells := [.int .i64 2, .int .i64 0]) rfl st88 rfl (by kernel_rfl) rfl (qv (vs := [.agg #[.int .i64 0, .int .i64 0], .agg #[.int .i64 0, .int .i64 1], .agg #[.int .i64 2, .int .i64 0]]) (ys := ([(0, 0), (0, 1), (2, 0)] : List (Int × Int))) kT (by decide) rfl Tryz.underlying85 tf88 rfl rfl rfl rfl rfl (by decide) (fun a111 c112 => qf qiE ?_))))
 intro x113 e113 _
 refine au [23,0] ?_
 exact qb (x113, ())
 intro h37
 refine qh (k := 60) rfl h37 ?_
 refine au [6,6,6,6,6,6,24,0,0] ?_
 exact qb (false, ())
 rintro ⟨x41, _⟩
 try dsimp only
 refine qa (os := _) rfl ?_
 refine au [3] ?_
 refine qq 3 x41 [(5, .pointer (some ⟨g13, 0, none⟩)), (6, .int .i64 x10.2), (7, .pointer (some ⟨g17, 0, none⟩)), (8, .int .i64 x14.2), (9, .slice a19 x18.1.length c20), (10, .slice a21 x18.2.1.length c22), (11, .int .i64 x18.2.2), (13, .int .i64 x25.2), (71, .bool (x41 && ((x7.2 : Int) == 0)))] (fun h42 => ?_) (fun h42 => ?_) ?_
 refine qa (os := _) rfl (qi (k := 68) rfl h42 ?_)
 refine au [3,24,13,23] ?_
 refine qc (d := 71) (v := .bool (x41 && ((x7.2 : Int) == 0))) rfl (by rw [h42]; simp only [Bool.true_and]) ?_
 exact az [0,16]
 refine qa (os := _) rfl (qh (k := 68) rfl h42 ?_)
 refine au [6,6,24,0] ?_
 refine qc (d := 71) (v := .bool (x41 && ((x7.2 : Int) == 0))) rfl (by rw [h42]; simp only [Bool.false_and]) ?_
 exact az [0,16]
 refine qa (os := _) rfl ?_
 refine au [3] ?_
 refine qY 7 (fun ((x51, _) : (Bool × Unit)) => ([(6, .int .i64 x10.2), (7, .pointer (some ⟨g17, 0, none⟩)), (8, .int .i64 x14.2), (9, .slice a19 x18.1.length c20), (10, .slice a21 x18.2.1.length c22), (11, .int .i64 x18.2.2), (13, .int .i64 x25.2), (79, .bool x51)], [⟨g17, 24, [.slice a15 x14.1.length c16.1]⟩], [Ro (eI .i64) 3 1 (.slice a19 x18.1.length c20) x18.1, Ro (eI .i64) 3 1 (.slice a21 x18.2.1.length c22) x18.2.1, RoN eN39 rN39 39 1 (.slice a15 x14.1.length c16.1) x14.1 c16.2 []], [], jT F x10 x14 x18 x25 x51)) ?_ ?_
 refine qa (os := _) rfl ?_
 refine av [25,9] ?_ ?_
 intro h43
 refine qi (k := 72) rfl h43 ?_
 refine au [9,25,6] ?_
 refine qv (vs := [.int .i64 0, .int .i64 2]) (ys := ([0, 2] : List Int)) (qP .i64) (by decide) rfl Tryz.underlying39 tf3 rfl rfl rfl rfl rfl (by decide) (fun a104 c105 => qv (vs := [.int .i64 0]) (ys := ([0] : List Int)) (qP .i64) (by decide) rfl Tryz.underlying39 tf3 rfl rfl rfl rfl rfl (by decide) (fun a106 c107 => ?_))
 refine au [29,0,27,3,27,1,27,3] ?_
 refine qv (vs := [.slice a104 ([0, 2] : List Int).length c105, .slice a106 ([0] : List Int).length c107, .slice none 0 0]) (ys := ([(([0, 2] : List Int), (a104, c105)), (([0] : List Int), (a106, c107)), (([] : List Int), (none, 0))] : List (List Int × (Option Addr × Nat)))) km (by decide) rfl Tryz.underlying22 tf39 rfl rfl rfl rfl rfl (by decide) (fun a108 c109 => qcE (inn := iN39) ([([0, 2] : List Int), ([0] : List Int), ([] : List Int)] : List (List Int)) ([(a104, c105), (a106, c107), (none, 0)] : List (Option Addr × Nat)) 0 rfl rfl (qm 2 rfl (qm 1 rfl (qm 0 rfl ke))) ?_)
 refine au [31,3] ?_
 intro x110 e110 _
 refine au [23,0] ?_
 exact qb (x110, ())
 intro h43
 refine qh (k := 72) rfl h43 ?_
 refine au [6,6,6,6,6,6,24,0,0] ?_
 exact qb (false, ())
 rintro ⟨x51, _⟩
 try dsimp only
 refine qa (os := _) rfl ?_
 refine au [3] ?_
 refine qq 3 x51 [(7, .pointer (some ⟨g17, 0, none⟩)), (8, .int .i64 x14.2), (9, .slice a19 x18.1.length c20), (10, .slice a21 x18.2.1.length c22), (11, .int .i64 x18.2.2), (13, .int .i64 x25.2), (83, .bool (x51 && ((x10.2 : Int) == 0)))] (fun h52 => ?_) (fun h52 => ?_) ?_
 refine qa (os := _) rfl (qi (k := 80) rfl h52 ?_)
 refine au [3,24,13,23] ?_
 refine qc (d := 83) (v := .bool (x51 && ((x10.2 : Int) == 0))) rfl (by rw [h52]; simp only [Bool.true_and]) ?_
 exact az [0,16]
 refine qa (os := _) rfl (qh (k := 80) rfl h52 ?_)
 refine au [6,6,24,0] ?_
 refine qc (d := 83) (v := .bool (x51 && ((x10.2 : Int) == 0))) rfl (by rw [h52]; simp only [Bool.false_and]) ?_
 exact az [0,16]
 refine qa (os := _) rfl ?_
 refine au [3] ?_
 refine qY 8 (fun ((x63, _) : (Bool × Unit)) => ([(8, .int .i64 x14.2), (9, .slice a19 x18.1.length c20), (10, .slice a21 x18.2.1.length c22), (11, .int .i64 x18.2.2), (13, .int .i64 x25.2), (92, .bool x63)], [], [Ro (eI .i64) 3 1 (.slice a19 x18.1.length c20) x18.1, Ro (eI .i64) 3 1 (.slice a21 x18.2.1.length c22) x18.2.1], [], jU F x14 x18 x25 x63)) ?_ ?_
 refine qa (os := _) rfl ?_
 refine av [25,9] ?_ ?_
 intro h53
 refine qi (k := 84) rfl h53 ?_
 refine au [9,18] ?_
 refine qv (vs := [.int .i64 0, .int .i64 1, .int .i64 2]) (ys := ([0, 1, 2] : List Int)) (qP .i64) (by decide) rfl Tryz.underlying39 tf3 rfl rfl rfl rfl rfl (by decide) (fun a95 c96 => qv (vs := [.int .i64 0]) (ys := ([0] : List Int)) (qP .i64) (by decide) rfl Tryz.underlying39 tf3 rfl rfl rfl rfl rfl (by decide) (fun a97 c98 => qv (vs := [.int .i64 0]) (ys := ([0] : List Int)) (qP .i64) (by decide) rfl Tryz.underlying39 tf3 rfl rfl rfl rfl rfl (by decide) (fun a99 c100 => qdS 2 rfl ?_)))
 refine au [29,0,27,3] ?_
 refine qv (vs := [.slice a95 ([0, 1, 2] : List Int).length c96, .slice a97 ([0] : List Int).length c98, .slice a99 ([0] : List Int).length c100]) (ys := ([(([0, 1, 2] : List Int), (a95, c96)), (([0] : List Int), (a97, c98)), (([0] : List Int), (a99, c100))] : List (List Int × (Option Addr × Nat)))) km (by decide) rfl Tryz.underlying22 tf39 rfl rfl rfl rfl rfl (by decide) (fun a101 c102 => qcE (inn := iN39) ([([0, 1, 2] : List Int), ([0] : List Int), ([0] : List Int)] : List (List Int)) ([(a95, c96), (a97, c98), (a99, c100)] : List (Option Addr × Nat)) 0 rfl rfl (qm 2 rfl (qm 1 rfl (qm 0 rfl ke))) ?_)
 refine au [31,3] ?_
 intro x103 e103 _
 refine au [23,0] ?_
 exact qb (x103, ())
 intro h53
 refine qh (k := 84) rfl h53 ?_
 refine au [6,6,6,6,6,6,6,24,0,0] ?_
 exact qb (false, ())
 rintro ⟨x63, _⟩
 try dsimp only
 refine qa (os := _) rfl ?_
 refine au [3] ?_
 refine qq 3 x63 [(9, .slice a19 x18.1.length c20), (10, .slice a21 x18.2.1.length c22), (11, .int .i64 x18.2.2), (13, .int .i64 x25.2), (96, .bool (x63 && ((x14.2 : Int) == 0)))] (fun h64 => ?_) (fun h64 => ?_) ?_
 refine qa (os := _) rfl (qi (k := 93) rfl h64 ?_)
 refine au [3,24,13,23] ?_
 refine qc (d := 96) (v := .bool (x63 && ((x14.2 : Int) == 0))) rfl (by rw [h64]; simp only [Bool.true_and]) ?_
 exact az [0,16]
 refine qa (os := _) rfl (qh (k := 93) rfl h64 ?_)
 refine au [6,6,24,0] ?_
 refine qc (d := 96) (v := .bool (x63 && ((x14.2 : Int) == 0))) rfl (by rw [h64]; simp only [Bool.false_and]) ?_
 exact az [0,16]
 refine qa (os := _) rfl ?_
 refine au [3] ?_
 refine qY 4 (fun ((x69, _) : (Bool × Unit)) => ([(10, .slice a21 x18.2.1.length c22), (11, .int .i64 x18.2.2), (13, .int .i64 x25.2), (101, .bool x69)], [], [Ro (eI .i64) 3 1 (.slice a21 x18.2.1.length c22) x18.2.1], [], jV F x18 x25 x69)) ?_ ?_
 refine qa (os := _) rfl ?_
 refine av [25,9] ?_ ?_
 intro h65
 refine qi (k := 97) rfl h65 ?_
 refine au [3] ?_
 refine qv (vs := [.int .i64 2, .int .i64 0, .int .i64 1]) (ys := ([2, 0, 1] : List Int)) (qP .i64) (by decide) rfl Tryz.underlying39 tf3 rfl rfl rfl rfl rfl (by decide) (fun a92 c93 => ?_)
 refine au [29,4] ?_
 intro x94 e94 _
 refine au [23,0] ?_
 exact qb (x94, ())
 intro h65
 refine qh (k := 97) rfl h65 ?_
 refine au [6,6,6,24,0,0] ?_
 exact qb (false, ())
 rintro ⟨x69, _⟩
 try dsimp only
 refine qa (os := _) rfl ?_
 refine au [3] ?_
 refine qY 4 (fun ((x74, _) : (Bool × Unit)) => ([(11, .int .i64 x18.2.2), (13, .int .i64 x25.2), (106, .bool x74)], [], [], [], jW F x18 x25 x74)) ?_ ?_
 refine qa (os := _) rfl ?_
 refine av [25,9] ?_ ?_
 intro h70
 refine qi (k := 102) rfl h70 ?_
 refine au [3] ?_
 refine qv (vs := [.int .i64 2, .int .i64 1, .int .i64 0]) (ys := ([2, 1, 0] : List Int)) (qP .i64) (by decide) rfl Tryz.underlying39 tf3 rfl rfl rfl rfl rfl (by decide) (fun a89 c90 => ?_)
 refine au [29,4] ?_
 intro x91 e91 _
 refine au [23,0] ?_
 exact qb (x91, ())
 intro h70
 refine qh (k := 102) rfl h70 ?_
 refine au [6,6,6,24,0,0] ?_
 exact qb (false, ())
 rintro ⟨x74, _⟩
 try dsimp only
 refine qa (os := _) rfl ?_
 refine au [3] ?_
 refine qq 3 x74 [(13, .int .i64 x25.2), (110, .bool (x74 && ((x18.2.2 : Int) == 0)))] (fun h75 => ?_) (fun h75 => ?_) ?_
 refine qa (os := _) rfl (qi (k := 107) rfl h75 ?_)
 refine au [3,24,13,23] ?_
 refine qc (d := 110) (v := .bool (x74 && ((x18.2.2 : Int) == 0))) rfl (by rw [h75]; simp only [Bool.true_and]) ?_
 exact az [0,16]
 refine qa (os := _) rfl (qh (k := 107) rfl h75 ?_)
 refine au [6,6,24,0] ?_
 refine qc (d := 110) (v := .bool (x74 && ((x18.2.2 : Int) == 0))) rfl (by rw [h75]; simp only [Bool.false_and]) ?_
 exact az [0,16]
 refine qa (os := _) rfl ?_
 refine au [3] ?_
 refine qq 3 (x74 && ((x18.2.2 : Int) == 0)) [(114, .bool ((x74 && ((x18.2.2 : Int) == 0)) && ((x25.2 : Int) == 6)))] (fun h76 => ?_) (fun h76 => ?_) ?_
 refine qa (os := _) rfl (qi (k := 111) rfl h76 ?_)
 refine au [3,24,13,23] ?_
 refine qc (d := 114) (v := .bool ((x74 && ((x18.2.2 : Int) == 0)) && ((x25.2 : Int) == 6))) rfl (by rw [h76]; simp only [Bool.true_and]) ?_
 exact az [0,16]
 refine qa (os := _) rfl (qh (k := 111) rfl h76 ?_)
 refine au [6,6,24,0] ?_
 refine qc (d := 114) (v := .bool ((x74 && ((x18.2.2 : Int) == 0)) && ((x25.2 : Int) == 6))) rfl (by rw [h76]; simp only [Bool.false_and]) ?_
 exact az [0,16]
 refine qa (os := _) rfl ?_
 refine au [3] ?_
 refine qY 6 (fun ((x83, _) : (Bool × Unit)) => ([(121, .bool x83)], [], [], [], qbk F x83)) ?_ ?_
 refine qa (os := _) rfl ?_
 refine av [25,9] ?_ ?_
 intro h77
 refine qi (k := 115) rfl h77 (qv (vs := [.int .i64 1]) (ys := ([1] : List Int)) (qP .i64) (by decide) rfl Tryz.underlying39 tf3 rfl rfl rfl rfl rfl (by decide) (fun a84 c85 => ?_))
 refine au [27,3] ?_
 refine qv (vs := [.slice a84 ([1] : List Int).length c85]) (ys := ([(([1] : List Int), (a84, c85))] : List (List Int × (Option Addr × Nat)))) km (by decide) rfl Tryz.underlying22 tf39 rfl rfl rfl rfl rfl (by decide) (fun a86 c87 => qcE (inn := iN39) ([([1] : List Int)] : List (List Int)) ([(a84, c85)] : List (Option Addr × Nat)) 0 rfl rfl (qm 0 rfl ke) (ql (cells := [.slice a86 ([([1] : List Int)] : List (List Int)).length c87]) rfl st24 rfl (by kernel_rfl) rfl ?_))
 refine au [28,0] ?_
 intro x88 e88 _
 refine au [24,13,23,0] ?_
 exact qb (((x88 : Int) == 3), ())
 intro h77
 refine qh (k := 115) rfl h77 ?_
 refine au [6,6,6,6,6,24,0,0] ?_
 exact qb (false, ())
 rintro ⟨x83, _⟩
 try dsimp only
 refine qa (os := _) rfl ?_
 exact az [5,0,1,8,17]
set_option maxHeartbeats 4000000 in
theorem qgz (F : Nat) (x1 : List (List Int)) (a2 : Option Addr) (c3 : (Nat × List (Option Addr × Nat))) (x4 : Int) (x5 : Int) (x6 : Int) (x7 : Int) (x8 : Int) (r : Bool) (hm : qcF F x1 x4 x5 x6 x7 x8 = some r) :
    Pure Tryz.prog 7 [.agg #[.slice a2 x1.length c3.1], .agg #[.int .i64 x4, .int .i64 x5, .int .i64 x6], .int .i64 x7, .int .i64 x8] [SlN eN39 iN39 1 (.slice a2 x1.length c3.1) x1 c3.2] Unit (fun _ => .bool r) (fun _ => []) (fun _ => []) := by
 refine qk Tryz.func7 rfl Tryz.ntmps7 rfl hm (fun w => ?_)
 refine au [26,15,2,4,22] ?_
 intro g9
 refine au [22] ?_
 intro g10
 refine au [5,0,1,2,4,25,7,35,9] ?_
 rintro x11 e11 ⟨a12, c13⟩
 refine au [3,13,13,24,7] ?_
 intro g14
 refine au [24,2,5,0,1,2,4,25,14,25,7,31,0] ?_
 rintro x15 e15 ⟨⟨a16, c17⟩, ⟨a18, c19⟩, ⟨a20, c21⟩⟩
 refine au [3,13,13,24,7] ?_
 intro g22
 refine au [24,2,5,0,1,2,4,25,7,25,14,31,0] ?_
 rintro x23 e23 ⟨⟨a24, c25⟩, ⟨a26, c27⟩, ⟨a28, c29⟩⟩
 refine au [3,13,13,24,7] ?_
 intro g30
 refine au [24,2,5,0,1,2,2,4] ?_
 refine qf (fun h => qgB F _ h) ?_
 intro x37 e37 _
 refine au [25,4,3] ?_
 refine qY 3 (fun ((x40, _) : (Bool × Unit)) => ([(2, .int .i64 x7), (3, .int .i64 x8), (10, .int .i64 x11.2), (11, .pointer (some ⟨g22, 0, none⟩)), (12, .int .i64 x15.2.2.2.2.2.2.2.2.2.2.2.2.2), (13, .pointer (some ⟨g30, 0, none⟩)), (14, .int .i64 x23.2.2.2.2.2.2.2.2.2.2.2.2.2), (41, .bool x40)], [⟨g30, 35, [.int .i64 x23.1, .int .i64 x23.2.1, .int .i64 x23.2.2.1, .int .i64 x23.2.2.2.1, .int .i64 x23.2.2.2.2.1, .slice a24 x23.2.2.2.2.2.1.length c25, .int .i64 x23.2.2.2.2.2.2.1, .int .i64 x23.2.2.2.2.2.2.2.1, .int .i64 x23.2.2.2.2.2.2.2.2.1, .int .i64 x23.2.2.2.2.2.2.2.2.2.1, .slice a26 x23.2.2.2.2.2.2.2.2.2.2.1.length c27, .int .i64 x23.2.2.2.2.2.2.2.2.2.2.2.1, .slice a28 x23.2.2.2.2.2.2.2.2.2.2.2.2.1.length c29]⟩, ⟨g22, 35, [.int .i64 x15.1, .int .i64 x15.2.1, .int .i64 x15.2.2.1, .int .i64 x15.2.2.2.1, .int .i64 x15.2.2.2.2.1, .slice a16 x15.2.2.2.2.2.1.length c17, .int .i64 x15.2.2.2.2.2.2.1, .int .i64 x15.2.2.2.2.2.2.2.1, .int .i64 x15.2.2.2.2.2.2.2.2.1, .int .i64 x15.2.2.2.2.2.2.2.2.2.1, .slice a18 x15.2.2.2.2.2.2.2.2.2.2.1.length c19, .int .i64 x15.2.2.2.2.2.2.2.2.2.2.2.1, .slice a20 x15.2.2.2.2.2.2.2.2.2.2.2.2.1.length c21]⟩], [Ro (eI .u8) 5 1 (.slice a24 x23.2.2.2.2.2.1.length c25) x23.2.2.2.2.2.1, Ro (eI .u8) 5 1 (.slice a26 x23.2.2.2.2.2.2.2.2.2.2.1.length c27) x23.2.2.2.2.2.2.2.2.2.2.1, Ro (eI .u8) 5 1 (.slice a28 x23.2.2.2.2.2.2.2.2.2.2.2.2.1.length c29) x23.2.2.2.2.2.2.2.2.2.2.2.2.1, Ro (eI .u8) 5 1 (.slice a16 x15.2.2.2.2.2.1.length c17) x15.2.2.2.2.2.1, Ro (eI .u8) 5 1 (.slice a18 x15.2.2.2.2.2.2.2.2.2.2.1.length c19) x15.2.2.2.2.2.2.2.2.2.2.1, Ro (eI .u8) 5 1 (.slice a20 x15.2.2.2.2.2.2.2.2.2.2.2.2.1.length c21) x15.2.2.2.2.2.2.2.2.2.2.2.2.1], [], jR F x7 x8 x11 x15 x23 x40)) ?_ ?_
 refine qa (os := _) rfl ?_
 refine av [25,9] ?_ ?_
 intro h38
 refine qi (k := 38) rfl h38 ?_
 refine au [6,6,23,0] ?_
 exact qb (true, ())
 intro h38
 refine qh (k := 38) rfl h38 (qf (fun h => qgA F _ h) ?_)
 intro x51 e51 _
 refine au [25,4,24,0,0] ?_
 exact qb ((!x51), ())
 rintro ⟨x40, _⟩
 try dsimp only
 refine qa (os := _) rfl ?_
 refine av [0,1,11] ?_ ?_
 intro _
 exact az [2,4,5,0,1,8,10,17]
 intro _
 refine au [12,1,2,2,4,3,25,1,3] ?_
 refine qq 3 ((x11.2 : Int) != 0) [(2, .int .i64 x7), (3, .int .i64 x8), (11, .pointer (some ⟨g22, 0, none⟩)), (13, .pointer (some ⟨g30, 0, none⟩)), (14, .int .i64 x23.2.2.2.2.2.2.2.2.2.2.2.2.2), (47, .bool (((x11.2 : Int) != 0) || ((x15.2.2.2.2.2.2.2.2.2.2.2.2.2 : Int) != 0)))] (fun h44 => ?_) (fun h44 => ?_) ?_
 refine qa (os := _) rfl (qi (k := 44) rfl h44 ?_)
 refine au [6,6,23] ?_
 refine qc (d := 47) (v := .bool (((x11.2 : Int) != 0) || ((x15.2.2.2.2.2.2.2.2.2.2.2.2.2 : Int) != 0))) rfl (by rw [h44]; simp only [Bool.true_or]) ?_
 exact az [0,16]
 refine qa (os := _) rfl (qh (k := 44) rfl h44 ?_)
 refine au [3,25,1,24,0] ?_
 refine qc (d := 47) (v := .bool (((x11.2 : Int) != 0) || ((x15.2.2.2.2.2.2.2.2.2.2.2.2.2 : Int) != 0))) rfl (by rw [h44]; simp only [Bool.false_or]) ?_
 exact az [0,16]
 refine qa (os := _) rfl ?_
 refine au [3] ?_
 refine qq 3 (((x11.2 : Int) != 0) || ((x15.2.2.2.2.2.2.2.2.2.2.2.2.2 : Int) != 0)) [(2, .int .i64 x7), (3, .int .i64 x8), (11, .pointer (some ⟨g22, 0, none⟩)), (13, .pointer (some ⟨g30, 0, none⟩)), (51, .bool ((((x11.2 : Int) != 0) || ((x15.2.2.2.2.2.2.2.2.2.2.2.2.2 : Int) != 0)) || ((x23.2.2.2.2.2.2.2.2.2.2.2.2.2 : Int) != 0)))] (fun h45 => ?_) (fun h45 => ?_) ?_
 refine qa (os := _) rfl (qi (k := 48) rfl h45 ?_)
 refine au [6,6,23] ?_
 refine qc (d := 51) (v := .bool ((((x11.2 : Int) != 0) || ((x15.2.2.2.2.2.2.2.2.2.2.2.2.2 : Int) != 0)) || ((x23.2.2.2.2.2.2.2.2.2.2.2.2.2 : Int) != 0))) rfl (by rw [h45]; simp only [Bool.true_or]) ?_
 exact az [0,16]
 refine qa (os := _) rfl (qh (k := 48) rfl h45 ?_)
 refine au [3,25,1,24,0] ?_
 refine qc (d := 51) (v := .bool ((((x11.2 : Int) != 0) || ((x15.2.2.2.2.2.2.2.2.2.2.2.2.2 : Int) != 0)) || ((x23.2.2.2.2.2.2.2.2.2.2.2.2.2 : Int) != 0))) rfl (by rw [h45]; simp only [Bool.false_or]) ?_
 exact az [0,16]
 refine qa (os := _) rfl ?_
 refine av [0,1,11] ?_ ?_
 intro _
 exact az [2,4,5,0,1,8,10,17]
 intro _
 refine au [12,1,2,4,25,7,3,3,29,3] ?_
 intro x46 e46 _
 refine au [3,13,13,5,5,0,1,2,4,24,8,3,3,29,3] ?_
 intro x47 e47 _
 refine au [3,13,13,5,5,0,1,2,4,3,3,24,13,3] ?_
 refine qq 4 ((x46.2 : Int) == x47.2) [(73, .bool (((x46.2 : Int) == x47.2) && (x46.1 == x47.1)))] (fun h48 => ?_) (fun h48 => ?_) ?_
 refine qa (os := _) rfl (qi (k := 69) rfl h48 ?_)
 refine au [3,3] ?_
 refine qrK rfl UnF.u rfl rfl rfl ?_
 refine au [23] ?_
 refine qc (d := 73) (v := .bool (((x46.2 : Int) == x47.2) && (x46.1 == x47.1))) rfl (by rw [h48]; simp only [Bool.true_and]) ?_
 exact az [0,16]
 refine qa (os := _) rfl (qh (k := 69) rfl h48 ?_)
 refine au [6,6,6,24,0] ?_
 refine qc (d := 73) (v := .bool (((x46.2 : Int) == x47.2) && (x46.1 == x47.1))) rfl (by rw [h48]; simp only [Bool.false_and]) ?_
 exact az [0,16]
 refine qa (os := _) rfl ?_
 exact az [5,0,1,8,17]
end Go.Proofs.YtmhggdbfbmkpeaaGreat
