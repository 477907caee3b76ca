/- Each Go function of this seat computes what its model says, part 3. -/
import Derived.Test.YtfjkpdlcdceenaaGreatDoorWalks2
namespace Go.Proofs.YtfjkpdlcdceenaaGreatDoor
open Go SX
theorem qbR {F : Nat} {x1 : List (List Int)} {a2 : Option Addr} {c3 : Nat} {s3 : List (Option Addr × Nat)} {r : List (Int × Int)} (hm : k8 F x1 = some r) :
    PureM Tryz.prog 52 [.agg #[.slice a2 x1.length c3]] [] [] [SlN eN66 iN66 1 (.slice a2 x1.length c3) x1 s3] (Option Addr × Nat) (fun g => .slice g.1 r.length g.2) (fun _ => []) (fun g => [Ro eS44 44 2 (.slice g.1 r.length g.2) r]) := by
 refine qap Tryz.func52 rfl Tryz.ntmps52 rfl hm (fun w => ?_)
 refine au [24,12,2,3,25,0] ?_
 intro g4
 refine au [5,0,1,2,3,14] ?_
 intro g5
 refine au [0,1,2,2,3,25,5,26,11] ?_
 intro x35 e35 g36
 refine au [0,1,13,27,14] ?_
 refine jT (encs := (fun (p : (Int × Int)) => [.agg #[.int .i64 p.1, .int .i64 p.2]])) (y := (fun (x47 : List (Int × Int)) ((x56, x57) : (Int × Int)) => jx F x47 x56 x57)) (lb := [.pointer (some ⟨g36, 0, none⟩)]) (fun (x47 : List (Int × Int)) ((a45, c46) : (Option Addr × Nat)) => [⟨g5, 39, [.slice a45 x47.length c46]⟩, ⟨g4, 24, [.slice a2 x1.length c3]⟩]) (fun (x47 : List (Int × Int)) ((a45, c46) : (Option Addr × Nat)) => [Ro eS44 44 2 (.slice a45 x47.length c46) x47]) (fun (_ : Empty) (_ : Unit) => []) (fun (_ : Empty) (_ : Unit) => []) (fun _ => .skip) ([] : List (Int × Int)) (none, 0) rfl ent42 (fun _ => rfl) rfl (.cons 0 rfl .nil) (.cons 0 rfl (.cons 0 rfl .nil)) (.cons 0 rfl .nil) (.consF 0 rfl .nil) (fun z hz _ _ _ hY => vt F hY ([] : List (Int × Int)) (none, 0) g36 x1 a2 (c3, s3) z hz) ?_ ?_ ?_
 rintro rc1 L1 D1 x47 ⟨a45, c46⟩ ⟨x56, x57⟩ z w M _
 try dsimp only
 refine qat [(0, .agg #[.slice a2 x1.length c3]), (1, .pointer (some ⟨g4, 0, none⟩)), (2, .slice none 0 0), (3, .pointer (some ⟨g5, 0, none⟩)), (5, .agg #[.slice a2 x1.length c3]), (6, .func (.func 42) #[] #[.pointer (some ⟨g36, 0, none⟩)]), (7, .agg #[.int .i64 x56, .int .i64 x57])] (qv rfl (qv rfl (qv rfl (qv rfl (qv rfl (qv rfl (qv rfl j4))))))) ?_
 refine au [3,14] ?_
 intro g58
 refine au [19,0,29,2,13,3,26,5,23,24,4,23,24,4] ?_
 refine qh (cells := [.int .i64 x57, .int .i64 x56]) rfl st44 rfl (by kernel_rfl) rfl (qE (vs := [.agg #[.int .i64 x57, .int .i64 x56]]) (ys := ([(x57, x56)] : List (Int × Int))) ql (by decide) rfl Tryz.underlying39 tf44 rfl rfl rfl rfl rfl (by decide) (fun a59 c60 => yv 1 ql rfl Tryz.underlying39 tf44 rfl rfl rfl rfl rfl (.inl ⟨0, _, rfl⟩) rfl rfl (fun x61 e61 a62 c63 => ?_)))
 refine au [24,9,0,24,0] ?_
 exact jc (rc := rc1) rfl (.cons 3 rfl .nil) rfl (a62, c63) (.cons 2 rfl (.cons 2 rfl (.cons 0 rfl (.cons 1 rfl .nil)))) (.cons 0 rfl .nil)
 rintro x47 _ ⟨a45, c46⟩ D1
 try dsimp only
 refine au [24,0,1,2,3,25,12,5,0,1,8] ?_
 exact vr [D1] (a45, c46) (.inl rfl) rfl (.cons 0 rfl .nil) (res1 rfl rfl) (fun h => by subst h; rfl) (fun h => by subst h; exact .nil) (fun h => by subst h; exact (.cons 0 rfl .nil))
 intro t; exact t.elim
set_option maxHeartbeats 4000000 in
theorem qdc {F : Nat} {x1 : List (List Int)} {a2 : Option Addr} {c3 : Nat} {s3 : List (Option Addr × Nat)} {r : (List (List Int) × Int)} (hm : vU F x1 = some r) :
    Pure Tryz.prog 35 [.agg #[.slice a2 x1.length c3]] [SlN eN66 iN66 1 (.slice a2 x1.length c3) x1 s3] (Option Addr × (Nat × List (Option Addr × Nat))) (fun g => .tuple #[.agg #[.slice g.1 r.1.length g.2.1], .int .i64 r.2]) (fun g => [RoN eN66 rN66 66 1 (.slice g.1 r.1.length g.2.1) r.1 g.2.2 []]) (fun _ => []) := by
 refine qM Tryz.func35 rfl Tryz.ntmps35 rfl hm (fun w => ?_)
 refine au [24,12,2,3,25,0] ?_
 intro g4
 refine au [14] ?_
 intro g5
 refine au [5,0,1,2,2,3,25,5,26,8] ?_
 intro x8 e8 _
 refine av [5,0,1,2,3,4,25,3,0,1,9] ?_ ?_
 intro _
 refine au [2,3] ?_
 refine qh (cells := [.slice none 0 0]) rfl st24 rfl (by kernel_rfl) rfl ?_
 refine au [4,19,5,0,1,8,7,25,6] ?_
 exact qO (none, (0, ([] : List (Option Addr × Nat)))) (resL (rs := [.cell 2 24, .tmp 3]) rfl (.cell (i := 0) rfl tf24 rfl rfl (by simp) rfl (.tmp rfl ResOk.nil)) rfl) (fun h => by subst h; exact (.cons 0 rfl .nil))
 intro _
 refine au [10,1,2] ?_
 refine q6 mixed [] [⟨g4, 24, [.slice a2 x1.length c3]⟩] [SlN eN66 iN66 1 (.slice a2 x1.length c3) x1 s3] (.cons 1 rfl .nil) (q4 0 rfl qn) 10 rfl ?_
 refine au [24,8,0,25,1,1,28,15,2] ?_
 refine yu 3 (.agg #[.slice a2 x1.length c3]) rfl rfl rfl (kS (i := 0) rfl tf24 rfl rfl (by simp) rfl) ?_
 refine au [12,4,30,13] ?_
 rintro x20 e20 ⟨a21, c22⟩
 refine au [0] ?_
 refine qs (.cons 1 rfl .nil) (q4 0 rfl qn) ?_
 refine au [12,5,30,1] ?_
 intro x23 e23 g24
 refine au [0,25,9,12,6,30,2] ?_
 rintro x25 e25 ⟨a26, c27⟩
 refine au [0,25,9,12,7,28,10] ?_
 rintro x28 e28 ⟨a29, c30⟩
 refine au [0,25,9,12,8,24,9,0,25,9,11,9,24,5] ?_
 refine q9 ?_ (by intro c h; cases h)
 refine au [1,8] ?_
 exact qO (a29, c30) (resL (rs := [.cell 2 24, .tmp 3]) rfl (.cell (i := 1) rfl tf24 rfl rfl (by simp) rfl (.tmp rfl ResOk.nil)) rfl) (fun h => by subst h; exact (.cons 0 rfl .nil))
set_option maxHeartbeats 4000000 in
theorem yY {F : Nat} {x1 : List (Int × Int)} {a2 : Option Addr} {c3 : Nat} {r : List (Int × Int)} (hm : zb F x1 = some r) :
    PureM Tryz.prog 54 [.slice a2 x1.length c3] [] [Ro eS44 44 2 (.slice a2 x1.length c3) x1] [] (Option Addr × Nat) (fun g => .slice g.1 r.length g.2) (fun _ => []) (fun g => [Ro eS44 44 2 (.slice g.1 r.length g.2) r]) := by
 refine yb Tryz.func54 rfl Tryz.ntmps54 rfl hm (fun w => ?_)
 refine av [24,12,2,3,5,0,1,2,2,3,4,24,1,24,2,0,1,9] ?_ ?_
 intro _
 refine au [2,3,4,5,0,1,8,7] ?_
 exact zp (a2, c3)
 intro _
 refine au [10,1] ?_
 refine qf (fun ((_, _) : (Unit × Unit)) => ([(0, .slice a2 x1.length c3)], [], [Ro eS44 44 2 (.slice a2 x1.length c3) x1], [], zl F x1)) ?_ ?_
 refine au [2,3,5,0,1,13] ?_
 refine qK (fun ((x1975, _) : (Int × Unit)) => ([(0, .slice a2 x1.length c3), (3, .int .i64 x1975)], [], [Ro eS44 44 2 (.slice a2 x1.length c3) x1], [])) (fun k (s : (Int × Unit)) => qp F x1 k s.1) (1, ()) F ?_
 intro k2468
 rintro ⟨x1975, _⟩
 try dsimp only
 refine q5 (m' := qU F x1 (qp F x1 k2468) x1975) rfl ?_
 refine av [2,2,3,4,4,24,1,24,2,0,1,9] ?_ ?_
 intro _
 refine au [10,1] ?_
 refine qf (fun ((_, _) : (Unit × Unit)) => ([(0, .slice a2 x1.length c3), (3, .int .i64 x1975)], [], [Ro eS44 44 2 (.slice a2 x1.length c3) x1], [], zg F (qp F x1 k2468) x1975)) ?_ ?_
 refine au [13,2,28,1] ?_
 intro x2723 e2723 g2724 h2725
 replace h2725 : a2 = some ⟨g2724, 0, none⟩ := h2725
 have h2726 := vp (k := x1.length) (c := c3) h2725
 refine au [28,1] ?_
 intro x2727 e2727 g2728 h2729
 replace h2729 : a2 = some ⟨g2728, 0, none⟩ := h2729
 have h2730 := vp (k := x1.length) (c := c3) h2729
 refine q6 mixed [] [] [qk g2724 (x1975.toNat * 2) (eS44 x2723), qk g2728 ((isub .i64 x1975 1).toNat * 2) (eS44 x2727)] .nil (zt 0 rfl (qF ql e2723 h2725) (zt 0 rfl (qF ql e2727 h2729) qn)) 10 rfl ?_
 refine au [11,0,11,1] ?_
 refine qg (d := 16) (v := .slice (some ⟨g2724, 0, none⟩) x1.length c3) rfl (by rw [h2725] <;> rfl) (qo 2 (.pointer (some ⟨g2724, x1975.toNat * 2, none⟩)) rfl rfl rfl (vy Tryz.underlying39 tf44 rfl rfl (qr e2723).1 (zZ e2723)) (qg (d := 16) (v := .slice a2 x1.length c3) rfl (by rw [h2725] <;> rfl) (q7 3 (.agg #[.int .i64 x2723.1, .int .i64 x2723.2]) [] rfl rfl rfl (zk (j := 0) rfl tf44 rfl rfl (by simp) rfl) ?_)))
 refine au [11,4,11,5,11,6] ?_
 refine qg (d := 20) (v := .slice (some ⟨g2728, 0, none⟩) x1.length c3) rfl (by rw [h2729] <;> rfl) (qo 7 (.pointer (some ⟨g2728, (isub .i64 x1975 1).toNat * 2, none⟩)) rfl rfl rfl (vy Tryz.underlying39 tf44 rfl rfl (qr e2727).1 (zZ e2727)) (qg (d := 20) (v := .slice a2 x1.length c3) rfl (by rw [h2729] <;> rfl) (q7 8 (.agg #[.int .i64 x2727.1, .int .i64 x2727.2]) [] rfl rfl rfl (zk (j := 1) rfl tf44 rfl rfl (by simp) rfl) (qo 9 (.bool (((x2723.1 : Int) == x2727.1) && ((x2723.2 : Int) == x2727.2))) rfl rfl rfl (qfj rfl rfl se44) ?_))))
 refine au [24,5] ?_
 refine q9 ?_ (by intro c h; cases h)
 refine av [1,9] ?_ ?_
 intro _
 refine au [2,3,4,4,30,14] ?_
 intro h2731 g2732 h2733
 refine au [5,0,1] ?_
 refine qf (fun (((x2842, x2843), _) : ((List (Int × Int) × Int) × Unit)) => ([(0, .slice a2 x2842.length c3), (3, .int .i64 x2843)], [], [Ro eS44 44 2 (.slice a2 x2842.length c3) x2842], [], zh F x2842 x2843)) ?_ ?_
 refine au [2,3,5,0,1,13] ?_
 refine qK (fun (((x2879, x2880, x2881), _) : ((List (Int × Int) × Int × Int) × Unit)) => ([(0, .slice a2 x2879.length c3), (3, .int .i64 x2880), (4, .slice (some ⟨g2732, x1975.toNat * 2, none⟩) (x1.length - x1975.toNat) (c3 - x1975.toNat)), (5, .int .i64 x2881)], [], [Ro eS44 44 2 (.slice a2 x2879.length c3) x2879], [])) (fun k (s : ((List (Int × Int) × Int × Int) × Unit)) => qm F x1 x1975 k s.1) ((x1, x1975, 1), ()) F ?_
 intro k2920
 rintro ⟨⟨x2879, x2880, x2881⟩, _⟩
 try dsimp only
 refine q5 (m' := qR F x1 x1975 (qm F x1 x1975 k2920) x2879 x2880 x2881) rfl ?_
 refine av [2,2,3,4,4,24,1,24,2,0,1,9] ?_ ?_
 intro _
 refine au [10,1] ?_
 refine qf (fun (((x2939, x2940), _) : ((List (Int × Int) × Int) × Unit)) => ([(0, .slice a2 x2939.length c3), (3, .int .i64 x2940), (4, .slice (some ⟨g2732, x1975.toNat * 2, none⟩) (x1.length - x1975.toNat) (c3 - x1975.toNat)), (5, .int .i64 x2881)], [], [Ro eS44 44 2 (.slice a2 x2939.length c3) x2939], [], qD F (qm F x1 x1975 k2920) x2881 x2939 x2940)) ?_ ?_
 refine au [13,2,30,15] ?_
 intro h2945
 replace h2945 := of_decide_eq_true h2945
 refine au [31,0] ?_
 intro x2946 e2946
 refine au [30,15] ?_
 intro h2947
 replace h2947 := of_decide_eq_true h2947
 refine au [31,0] ?_
 intro x2948 e2948
 refine q6 mixed [] [] [qk g2732 (x1975.toNat * 2 + x2881.toNat * 2) (eS44 x2946), qk g2732 (x1975.toNat * 2 + (isub .i64 x2881 1).toNat * 2) (eS44 x2948)] .nil (zt 0 rfl (qeZ ql e2946 h2733) (zt 0 rfl (qeZ ql e2948 h2733) qn)) 10 rfl ?_
 refine au [11,0,11,1] ?_
 refine qo 2 (.pointer (some ⟨g2732, x1975.toNat * 2 + x2881.toNat * 2, none⟩)) rfl rfl rfl (yc Tryz.underlying39 tf44 rfl rfl (qcp h2945 e2946).1 (qcp h2945 e2946).2) (q7 3 (.agg #[.int .i64 x2946.1, .int .i64 x2946.2]) [] rfl rfl rfl (zk (j := 0) rfl tf44 rfl rfl (by simp) rfl) ?_)
 refine au [11,4,11,5,11,6] ?_
 refine qo 7 (.pointer (some ⟨g2732, x1975.toNat * 2 + (isub .i64 x2881 1).toNat * 2, none⟩)) rfl rfl rfl (yc Tryz.underlying39 tf44 rfl rfl (qcp h2947 e2948).1 (qcp h2947 e2948).2) (q7 8 (.agg #[.int .i64 x2948.1, .int .i64 x2948.2]) [] rfl rfl rfl (zk (j := 1) rfl tf44 rfl rfl (by simp) rfl) (qo 9 (.bool (!(((x2946.1 : Int) == x2948.1) && ((x2946.2 : Int) == x2948.2)))) rfl rfl rfl (qfk rfl rfl se44) ?_))
 refine au [24,5] ?_
 refine q9 ?_ (by intro c h; cases h)
 refine av [1,9] ?_ ?_
 intro _
 refine au [2,3,4,4,4,4,27,12] ?_
 intro h2949
 replace h2949 := of_decide_eq_true h2949
 refine qeO (xs := x2879) h2949 rfl Tryz.underlying39 tf44 rfl rfl rfl (fun x2950 e2950 => qfD (j := 0) ql rfl rfl tf44 rfl h2733 e2950 (by simp) rfl rfl ?_)
 refine au [26,10] ?_
 intro x2951 e2951 g2952 h2953
 refine qaU (j := 0) (y' := (x2950.1, x2950.2)) ql rfl rfl rfl tf44 rfl h2953 (qr e2951).2.1 rfl (fun x2954 e2954 h2955 => ?_)
 have h2956 : x2954.length = x2879.length := by rw [← e2954, List.length_set]
 refine qc (d := 0) (v := .slice a2 x2954.length c3) rfl h2955 (qc (d := 45) (v := .slice a2 x2954.length c3) rfl h2955 ?_)
 refine au [0,1,3,4,24,3,5,0,24,0] ?_
 exact qa ((x2954, iadd .i64 x2880 1), ())
 intro _
 refine au [10,24,0] ?_
 exact qa ((x2879, x2880), ())
 rintro ⟨⟨x2939, x2940⟩, _⟩
 try dsimp only
 refine au [3,4,24,3,5,0] ?_
 exact qw ((x2939, x2940, iadd .i64 x2881 1), ())
 intro _
 refine au [24,6,15,15,24,7] ?_
 exact qa ((x2879, x2880), ())
 rintro ⟨⟨x2842, x2843⟩, _⟩
 try dsimp only
 refine au [2,3,4,4,30,14] ?_
 intro h2844 g2845 h2846
 refine qeM (j := 0) (zy := ((0 : Int), (0 : Int))) ql (by decide) rfl (by have := h2844; omega) rfl Tryz.underlying39 tf44 rfl rfl rfl h2846 (fun x2847 e2847 h2848 => ?_)
 have h2849 : x2847.length = x2842.length := by have := congrArg List.length e2847; simp only [List.length_append, List.length_take, List.length_replicate] at this; have := h2844; omega
 refine qc (d := 0) (v := .slice a2 x2847.length c3) rfl (by rw [h2848] <;> rfl) (qc (d := 54) (v := .slice a2 x2847.length c3) rfl (by rw [h2848] <;> rfl) ?_)
 refine au [0,1,2,3,4,4] ?_
 refine qgt (i := 0) ql rfl UnF.u inferInstance rfl rfl rfl rfl ?_
 intro x2850 e2850
 refine au [5,0,1,8,22,7,7,22,7] ?_
 exact zp (a2, c3)
 intro _
 exact az [10,24,0,25,7]
 rintro ⟨_, _⟩
 try dsimp only
 refine au [3,4,24,3,5,0] ?_
 exact qw (iadd .i64 x1975 1, ())
 intro _
 exact az [24,6,15,15,24,7,25,7]
 rintro ⟨_, _⟩
 try dsimp only
 refine au [2,3,4,5,0,1,8] ?_
 exact zp (a2, c3)
set_option maxHeartbeats 4000000 in
theorem qdb {F : Nat} {x1 : List (List Int)} {a2 : Option Addr} {c3 : Nat} {s3 : List (Option Addr × Nat)} {r : (List (List Int) × Int)} (hm : vT F x1 = some r) :
    Pure Tryz.prog 36 [.agg #[.slice a2 x1.length c3]] [SlN eN66 iN66 1 (.slice a2 x1.length c3) x1 s3] (Option Addr × (Nat × List (Option Addr × Nat))) (fun g => .tuple #[.agg #[.slice g.1 r.1.length g.2.1], .int .i64 r.2]) (fun g => [RoN eN66 rN66 66 1 (.slice g.1 r.1.length g.2.1) r.1 g.2.2 []]) (fun _ => []) := by
 refine qM Tryz.func36 rfl Tryz.ntmps36 rfl hm (fun w => ?_)
 refine au [24,12,2,3,25,0] ?_
 intro g4
 refine au [14] ?_
 intro g5
 refine au [5,0,1,2,2,3,25,5,26,8] ?_
 intro x8 e8 _
 refine av [5,0,1,2,3,4,25,3,0,1,9] ?_ ?_
 intro _
 refine au [2,3] ?_
 refine qh (cells := [.slice none 0 0]) rfl st24 rfl (by kernel_rfl) rfl ?_
 refine au [4,19,5,0,1,8,7,25,6] ?_
 exact qO (none, (0, ([] : List (Option Addr × Nat)))) (resL (rs := [.cell 2 24, .tmp 3]) rfl (.cell (i := 0) rfl tf24 rfl rfl (by simp) rfl (.tmp rfl ResOk.nil)) rfl) (fun h => by subst h; exact (.cons 0 rfl .nil))
 intro _
 refine au [10,1,2] ?_
 refine q6 mixed [] [⟨g5, 24, [.slice none 0 0]⟩, ⟨g4, 24, [.slice a2 x1.length c3]⟩] [SlN eN66 iN66 1 (.slice a2 x1.length c3) x1 s3] (.cons 0 rfl (.cons 0 rfl .nil)) (q4 0 rfl qn) 7 rfl (yu 0 (.agg #[.slice a2 x1.length c3]) rfl rfl rfl (kS (i := 1) rfl tf24 rfl rfl (by simp) rfl) (yu 3 (.agg #[.slice a2 x1.length c3]) rfl rfl rfl (kS (i := 1) rfl tf24 rfl rfl (by simp) rfl) ?_))
 refine au [12,1,26,11] ?_
 intro x20 e20 g21
 refine au [0,28,4,12,2,30,12] ?_
 rintro x22 e22 ⟨a23, c24⟩
 refine au [0,28,4,12,4,30,13] ?_
 rintro x25 e25 ⟨a26, c27⟩
 refine au [0,28,4,12,5] ?_
 refine yv 1 ql rfl Tryz.underlying39 tf44 rfl rfl rfl rfl rfl (.inl ⟨0, _, rfl⟩) rfl rfl (fun x28 e28 a29 c30 => ?_)
 refine au [0,28,4,11,6,24,5] ?_
 refine q9 ?_ (by intro c h; cases h)
 refine au [1,2,3,4,30,0] ?_
 intro x31 e31 _
 refine au [27,12] ?_
 intro h32
 replace h32 := of_decide_eq_true h32
 refine qc (d := 5) (v := .slice a29 x31.length c30) rfl (by rw [h32] <;> rfl) (qc (d := 17) (v := .slice a29 x31.length c30) rfl (by rw [h32] <;> rfl) (qc (d := 18) (v := .slice a29 x31.length c30) rfl (by rw [h32] <;> rfl) ?_))
 refine au [0,1,2,3,4] ?_
 refine zU yY ?_
 rintro x33 e33 ⟨a34, c35⟩
 refine av [5,0,1,2,2,3,4,24,1,25,2,0,1,9] ?_ ?_
 intro _
 refine au [2,3] ?_
 refine qh (cells := [.slice none 0 0]) rfl st24 rfl (by kernel_rfl) rfl ?_
 refine au [24,9,5,0,1,8,7,25,6] ?_
 exact qO (none, (0, ([] : List (Option Addr × Nat)))) (resL (rs := [.cell 2 24, .tmp 3]) rfl (.cell (i := 1) rfl tf24 rfl rfl (by simp) rfl (.tmp rfl ResOk.nil)) rfl) (fun h => by subst h; exact (.cons 0 rfl .nil))
 intro _
 refine au [10,1,2,3,23,25,12,24,1,4,28,10] ?_
 rintro x37 e37 ⟨a38, c39⟩
 refine au [24,9,5,0,1,8] ?_
 exact qO (a38, c39) (resL (rs := [.cell 2 24, .tmp 3]) rfl (.cell (i := 1) rfl tf24 rfl rfl (by simp) rfl (.tmp rfl ResOk.nil)) rfl) (fun h => by subst h; exact (.cons 0 rfl .nil))
set_option maxHeartbeats 4000000 in
theorem qbF {F : Nat} {x1 : List (List Int)} {a2 : Option Addr} {c3 : Nat} {s3 : List (Option Addr × Nat)} {r : (List Int × List Int × Int)} (hm : yG F x1 = some r) :
    PureM Tryz.prog 37 [.agg #[.slice a2 x1.length c3]] [] [] [SlN eN66 iN66 1 (.slice a2 x1.length c3) x1 s3] ((Option Addr × Nat) × (Option Addr × Nat)) (fun g => .tuple #[.slice g.1.1 r.1.length g.1.2, .slice g.2.1 r.2.1.length g.2.2, .int .i64 r.2.2]) (fun _ => []) (fun g => [Ro (eI .i64) 3 1 (.slice g.1.1 r.1.length g.1.2) r.1, Ro (eI .i64) 3 1 (.slice g.2.1 r.2.1.length g.2.2) r.2.1]) := by
 refine qap Tryz.func37 rfl Tryz.ntmps37 rfl hm (fun w => ?_)
 refine au [24,12,2,3,25,0] ?_
 intro g4
 refine au [14] ?_
 intro g5
 refine au [14] ?_
 intro g6
 refine au [5,0,1,2,2,3,25,13,26,8] ?_
 intro x9 e9 _
 refine av [5,0,1,2,3,4,25,3,0,1,9] ?_ ?_
 intro _
 refine au [2,3,4,24,9,19,5,0,1,8,7,31,1,31,1] ?_
 exact vr [] ((none, 0), (none, 0)) (.inl rfl) rfl .nil (resL (rs := [.cell 2 66, .cell 3 66, .tmp 4]) rfl (.cell (i := 1) rfl tf66 rfl rfl (fun _ => rfl) rfl (.cell (i := 0) rfl tf66 rfl rfl (fun _ => rfl) rfl (.tmp rfl ResOk.nil))) rfl) (fun h => by subst h; rfl) (fun h => by subst h; exact .nil) (fun h => by subst h; exact (.cons 0 rfl (.cons 0 rfl .nil)))
 intro _
 refine au [10,1] ?_
 refine qf (fun (((x27, x30), (a25, c26, a28, c29)) : ((List Int × List Int) × (Option Addr × Nat × Option Addr × Nat))) => ([(1, .pointer (some ⟨g4, 0, none⟩)), (2, .pointer (some ⟨g5, 0, none⟩)), (3, .pointer (some ⟨g6, 0, none⟩)), (4, .int .i64 0)], [⟨g6, 66, [.slice a25 x27.length c26]⟩, ⟨g5, 66, [.slice a28 x30.length c29]⟩, ⟨g4, 24, [.slice a2 x1.length c3]⟩], [Ro (eI .i64) 3 1 (.slice a25 x27.length c26) x27, Ro (eI .i64) 3 1 (.slice a28 x30.length c29) x30], [SlN eN66 iN66 1 (.slice a2 x1.length c3) x1 s3], zK F x1 x27 x30)) ?_ ?_
 refine q6 mixed [] [⟨g4, 24, [.slice a2 x1.length c3]⟩] [SlN eN66 iN66 1 (.slice a2 x1.length c3) x1 s3] (.cons 2 rfl .nil) (q4 0 rfl qn) 10 rfl ?_
 refine au [24,8,0,25,1,1,28,15,2,24,8,4,25,1,5,28,15,6] ?_
 refine yL 3 7 rfl rfl (by kernel_rfl) rfl rfl ?_ ?_
 refine au [27,3] ?_
 intro x165 e165 a166 c167
 refine au [0,25,9] ?_
 refine yL 7 8 rfl rfl (by kernel_rfl) rfl rfl ?_ ?_
 refine au [27,3] ?_
 intro x168 e168 a169 c170
 refine au [0,25,9,12,8,24,9,0,25,9,12,9,19,0,25,9,24,5] ?_
 exact q9 (qa ((x168, x165), (a169, c170, a166, c167))) (by intro c h; cases h)
 refine yM (m' := ((mk 17592186044416 (0 : Int) (x1.length : Int)).bind fun x171 => zK F x1 x171 x165)) (rfl) ?_
 refine au [24,9,0,25,9,12,7,27,3] ?_
 intro x171 e171 a172 c173
 refine au [0,25,9,12,9,19,0,25,9,24,5] ?_
 exact q9 (qa ((x171, x165), (a172, c173, a166, c167))) (by intro c h; cases h)
 refine yM (m' := ((mk 17592186044416 (0 : Int) (x1.length : Int)).bind fun x174 => ((mk 17592186044416 (0 : Int) (x1.length : Int)).bind fun x177 => zK F x1 x174 x177))) (Eq.trans (b := ((mk 17592186044416 (0 : Int) (x1.length : Int)).bind fun x165 => ((mk 17592186044416 (0 : Int) (x1.length : Int)).bind fun x168 => zK F x1 x168 x165))) rfl (by generalize (mk 17592186044416 (0 : Int) (x1.length : Int)) = q0; cases q0 <;> rfl)) ?_
 refine au [27,3] ?_
 intro x174 e174 a175 c176
 refine au [0,25,9,12,3,27,3] ?_
 intro x177 e177 a178 c179
 refine au [0,25,9,12,8,24,9,0,25,9,12,9,19,0,25,9,24,5] ?_
 exact q9 (qa ((x174, x177), (a175, c176, a178, c179))) (by intro c h; cases h)
 rintro ⟨⟨x27, x30⟩, ⟨a25, c26, a28, c29⟩⟩
 try dsimp only
 refine au [2,2,3,25,13,26,11] ?_
 intro x98 e98 g99
 refine au [0,1,13] ?_
 refine jT (encs := (fun (p : (Int × Int)) => [.agg #[.int .i64 p.1, .int .i64 p.2]])) (y := (fun ((x121, x122) : (List Int × List Int)) ((x144, x145) : (Int × Int)) => kk F x121 x122 x144 x145)) (lb := [.pointer (some ⟨g99, 0, none⟩)]) (fun ((x121, x122) : (List Int × List Int)) (_ : Unit) => [⟨g6, 66, [.slice a25 x121.length c26]⟩, ⟨g5, 66, [.slice a28 x122.length c29]⟩, ⟨g4, 24, [.slice a2 x1.length c3]⟩]) (fun ((x121, x122) : (List Int × List Int)) (_ : Unit) => [Ro (eI .i64) 3 1 (.slice a25 x121.length c26) x121, Ro (eI .i64) 3 1 (.slice a28 x122.length c29) x122]) (fun (_ : Empty) (_ : Unit) => []) (fun (_ : Empty) (_ : Unit) => []) (fun _ => .skip) (x27, x30) () rfl ent42 (fun _ => rfl) rfl (.cons 0 rfl .nil) (.cons 0 rfl (.cons 0 rfl (.cons 0 rfl .nil))) (.cons 0 rfl (.cons 0 rfl .nil)) (.consF 0 rfl .nil) (fun z hz _ _ _ hY => vt F hY (x27, x30) () g99 x1 a2 (c3, s3) z hz) ?_ ?_ ?_
 rintro rc1 L1 D1 ⟨x121, x122⟩ _ ⟨x144, x145⟩ z w M _
 try dsimp only
 refine qat [(1, .pointer (some ⟨g4, 0, none⟩)), (2, .pointer (some ⟨g5, 0, none⟩)), (3, .pointer (some ⟨g6, 0, none⟩)), (4, .int .i64 0), (20, .agg #[.slice a2 x1.length c3]), (21, .func (.func 42) #[] #[.pointer (some ⟨g99, 0, none⟩)]), (22, .agg #[.int .i64 x144, .int .i64 x145])] (qv rfl (qv rfl (qv rfl (qv rfl (qv rfl (qv rfl (qv rfl j4))))))) ?_
 refine au [3,14] ?_
 intro g146
 refine au [19,0] ?_
 refine qbo (i := 4) rfl ?_
 refine au [13,2,3,25,12,23,24,4,26,12] ?_
 intro x147 e147 g148 h149
 refine zV (j := 1) (y := x147) (ky .i64) rfl rfl tf3 rfl h149 (qr e147).2.2 (fun _ => rfl) rfl rfl ?_
 refine au [24,3,26,12] ?_
 intro x150 e150 g151 h152
 refine qaU (j := 1) (y' := iadd .i64 x147 1) (ky .i64) rfl rfl rfl tf3 rfl h152 (qr e150).2.1 rfl (fun x153 e153 h154 => ?_)
 have h155 : x153.length = x122.length := by rw [← e153, List.length_set]
 refine qc (d := 23) (v := .slice a28 x153.length c29) rfl h154 (vZ (i := 2) (cs' := [.slice a28 x153.length c29]) rfl (by rw [h154] <;> rfl) ?_)
 refine au [0,1,3,26,5,23,24,4,26,12] ?_
 intro x156 e156 g157 h158
 refine zV (j := 1) (y := x156) (ky .i64) rfl rfl tf3 rfl h158 (qr e156).2.2 (fun _ => rfl) rfl rfl ?_
 refine au [24,3,26,12] ?_
 intro x159 e159 g160 h161
 refine qaU (j := 1) (y' := iadd .i64 x156 1) (ky .i64) rfl rfl rfl tf3 rfl h161 (qr e159).2.1 rfl (fun x162 e162 h163 => ?_)
 have h164 : x162.length = x121.length := by rw [← e162, List.length_set]
 refine qc (d := 30) (v := .slice a25 x162.length c26) rfl h163 (vZ (i := 1) (cs' := [.slice a25 x162.length c26]) rfl (by rw [h163] <;> rfl) ?_)
 refine au [0,24,0] ?_
 exact jc (rc := rc1) rfl (.cons 4 rfl .nil) rfl () (.cons 2 rfl (.cons 2 rfl (.cons 2 rfl (.cons 0 rfl (.cons 1 rfl .nil))))) (.cons 0 rfl (.cons 0 rfl .nil))
 rintro ⟨x121, x122⟩ _ _ D1
 try dsimp only
 refine au [24,0,1,2] ?_
 refine q6 mixed [] [(dblk D1), ⟨g99, 24, [.slice a2 x1.length c3]⟩, ⟨g6, 66, [.slice a25 x121.length c26]⟩, ⟨g5, 66, [.slice a28 x122.length c29]⟩, ⟨g4, 24, [.slice a2 x1.length c3]⟩] [SlN eN66 iN66 1 (.slice a2 x1.length c3) x1 s3] (.cons 0 rfl (.cons 0 rfl (.cons 0 rfl (.cons 0 rfl (.cons 0 rfl .nil))))) (q4 0 rfl qn) 5 rfl (yu 0 _ rfl rfl rfl (kS (i := 3) rfl inferInstance rfl rfl (fun _ => rfl) rfl) ?_)
 refine au [27,8,1,12,2,27,13,0,31,2,12,3,26,14,0,31,2,11,4,24,5] ?_
 refine q9 ?_ (by intro c h; cases h)
 refine au [1,8] ?_
 exact vr [D1] ((a28, c29), (a25, c26)) (.inl rfl) rfl (.cons 0 rfl .nil) (resL (rs := [.cell 2 66, .cell 3 66, .tmp 4]) rfl (.cell (i := 2) rfl tf66 rfl rfl (fun _ => rfl) rfl (.cell (i := 1) rfl tf66 rfl rfl (fun _ => rfl) rfl (.tmp rfl ResOk.nil))) rfl) (fun h => by subst h; rfl) (fun h => by subst h; exact .nil) (fun h => by subst h; exact (.cons 1 rfl (.cons 0 rfl .nil)))
 intro t; exact t.elim
set_option maxHeartbeats 4000000 in
theorem qc7 {F : Nat} {x1 : List (Int × Int)} {a2 : Option Addr} {c3 : Nat} {x4 : List (Int × Int)} {a5 : Option Addr} {c6 : Nat} {r : Bool} (hm : vR F x1 x4 = some r) :
    Pure Tryz.prog 38 [.slice a2 x1.length c3, .slice a5 x4.length c6] [Sl eS44 2 (.slice a2 x1.length c3) x1, Sl eS44 2 (.slice a5 x4.length c6) x4] Unit (fun _ => .bool r) (fun _ => []) (fun _ => []) := by
 refine qM Tryz.func38 rfl Tryz.ntmps38 rfl hm (fun w => ?_)
 refine av [24,15,2,3,5,0,1,2,2,3,4,24,1,4,24,1,25,3,0,1,9] ?_ ?_
 intro _
 exact az [2,3,5,0,1,8,7,16]
 intro _
 refine au [10,1] ?_
 refine qf (fun ((_, _) : (Unit × Unit)) => ([], [], [], [], qag F)) ?_ ?_
 refine au [2,3,5,0,1,13] ?_
 refine qK (fun ((x154, _) : (Int × Unit)) => ([(0, .slice a2 x1.length c3), (1, .slice a5 x4.length c6), (5, .int .i64 x154)], [], [], [Sl eS44 2 (.slice a2 x1.length c3) x1, Sl eS44 2 (.slice a5 x4.length c6) x4])) (fun k (s : (Int × Unit)) => kq F x1 x4 k s.1) (0, ()) F ?_
 intro k191
 rintro ⟨x154, _⟩
 try dsimp only
 refine q5 (m' := yD F x1 x4 (kq F x1 x4 k191) x154) rfl ?_
 refine av [2,2,3,4,4,24,1,24,2,0,1,9] ?_ ?_
 intro _
 refine au [10,1,2,13,2,30,6] ?_
 intro x218 e218 b219 o220 h221
 replace h221 : a2 = some ⟨b219, o220, none⟩ := h221
 refine va (j := 2) ql (by decide) rfl ?_
 intro x222 e222 b223 o224 h225
 replace h225 : a5 = some ⟨b223, o224, none⟩ := h225
 refine q6 mixed [] [] [qk b223 (o224 + x154.toNat * 2) (eS44 x222), qk b219 (o220 + x154.toNat * 2) (eS44 x218), Sl eS44 2 (.slice a2 x1.length c3) x1, Sl eS44 2 (.slice a5 x4.length c6) x4] .nil (q4 0 rfl (q4 1 rfl (q4 2 rfl (q4 3 rfl qn)))) 9 rfl ?_
 refine au [11,0,11,1] ?_
 refine qg (d := 17) (v := .slice (some ⟨b219, o220, none⟩) x1.length c3) rfl (by rw [h221] <;> rfl) (qo 2 (.pointer (some ⟨b219, (o220 + x154.toNat * 2), none⟩)) rfl rfl rfl (yc Tryz.underlying39 tf44 rfl rfl (qr e218).1 (zZ e218)) (qg (d := 17) (v := .slice a2 x1.length c3) rfl (by rw [h221] <;> rfl) (q7 3 (.agg #[.int .i64 x218.1, .int .i64 x218.2]) [] rfl rfl rfl (zk (j := 1) rfl tf44 rfl rfl (by simp) rfl) ?_)))
 refine au [11,4,11,5] ?_
 refine qg (d := 21) (v := .slice (some ⟨b223, o224, none⟩) x4.length c6) rfl (by rw [h225] <;> rfl) (qo 6 (.pointer (some ⟨b223, (o224 + x154.toNat * 2), none⟩)) rfl rfl rfl (yc Tryz.underlying39 tf44 rfl rfl (qr e222).1 (zZ e222)) (qg (d := 21) (v := .slice a5 x4.length c6) rfl (by rw [h225] <;> rfl) (q7 7 (.agg #[.int .i64 x222.1, .int .i64 x222.2]) [] rfl rfl rfl (zk (j := 0) rfl tf44 rfl rfl (by simp) rfl) (qo 8 (.bool (!(((x218.1 : Int) == x222.1) && ((x218.2 : Int) == x222.2)))) rfl rfl rfl (qfk rfl rfl se44) ?_))))
 refine au [24,5] ?_
 refine q9 ?_ (by intro c h; cases h)
 refine av [1,9] ?_ ?_
 intro _
 exact az [2,3,5,0,1,8,22,7,7,22,7,16]
 intro _
 refine au [10,24,0,1,3,4,24,3,5,0] ?_
 exact qw (iadd .i64 x154 1, ())
 intro _
 exact az [24,6,15,15,24,7,25,7]
 rintro ⟨_, _⟩
 try dsimp only
 exact az [2,3,5,0,1,8,16]
set_option maxHeartbeats 4000000 in
theorem qbO (F : Nat)  (r : Bool) (hm : y0 F  = some r) :
    Pure Tryz.prog 16 [] [] Unit (fun _ => .bool r) (fun _ => []) (fun _ => []) := by
 refine qM Tryz.func16 rfl Tryz.ntmps16 rfl hm (fun w => ?_)
 refine au [30,8,2,3,5,0,1,2,3] ?_
 refine qh (cells := [.int .i64 2, .int .i64 0]) rfl st44 rfl (by kernel_rfl) rfl (qh (cells := [.int .i64 0, .int .i64 1]) rfl st44 rfl (by kernel_rfl) rfl (qh (cells := [.int .i64 0, .int .i64 0]) rfl st44 rfl (by kernel_rfl) rfl (qE (vs := [.agg #[.int .i64 2, .int .i64 0], .agg #[.int .i64 0, .int .i64 1], .agg #[.int .i64 0, .int .i64 0]]) (ys := ([(2, 0), (0, 1), (0, 0)] : List (Int × Int))) ql (by decide) rfl Tryz.underlying39 tf44 rfl rfl rfl rfl rfl (by decide) (fun a1 c2 => ?_))))
 refine au [27,15] ?_
 rintro x3 e3 ⟨a4, c5⟩
 refine au [4,21,21,14] ?_
 intro g6
 refine au [19,5,0,1,2,3,24,13,31,3] ?_
 rintro x7 e7 ⟨a8, c9⟩
 refine au [4,21,21,5,5,0,1,2,3,24,13] ?_
 refine qB qdc ?_
 rintro x10 e10 ⟨a11, c12⟩
 refine au [4,21,21,14] ?_
 intro g13
 refine au [19,5,0,1,2,3,25,5] ?_
 refine qB qdb ?_
 rintro x14 e14 ⟨a15, c16⟩
 refine au [4,21,21,14] ?_
 intro g17
 refine au [19,5,0,1,2,3,25,13] ?_
 refine zU qbF ?_
 rintro x18 e18 ⟨⟨a19, c20⟩, ⟨a21, c22⟩⟩
 refine au [4,21,21,21,5,5,5,0,1,2,3] ?_
 refine qh (cells := [.int .i64 0, .int .i64 0]) rfl st44 rfl (by kernel_rfl) rfl (qh (cells := [.int .i64 0, .int .i64 0]) rfl st44 rfl (by kernel_rfl) rfl (qE (vs := [.agg #[.int .i64 0, .int .i64 0], .agg #[.int .i64 0, .int .i64 0]]) (ys := ([(0, 0), (0, 0)] : List (Int × Int))) ql (by decide) rfl Tryz.underlying39 tf44 rfl rfl rfl rfl rfl (by decide) (fun a23 c24 => ?_)))
 refine au [27,15] ?_
 rintro x25 e25 ⟨a26, c27⟩
 refine au [4,21,21,14] ?_
 intro g28
 refine au [19,5,0,1,2,3,23,30,11] ?_
 refine qE (vs := [.int .i64 0, .int .i64 1]) (ys := ([0, 1] : List Int)) (ky .i64) (by decide) rfl Tryz.underlying66 tf3 rfl rfl rfl rfl rfl (by decide) (fun a29 c30 => qE (vs := [.int .i64 0]) (ys := ([0] : List Int)) (ky .i64) (by decide) rfl Tryz.underlying66 tf3 rfl rfl rfl rfl rfl (by decide) (fun a31 c32 => ?_))
 refine au [28,3,31,4,26,3,26,3] ?_
 refine qE (vs := [.slice a29 ([0, 1] : List Int).length c30, .slice none 0 0, .slice a31 ([0] : List Int).length c32]) (ys := ([(([0, 1] : List Int), (a29, c30)), (([] : List Int), (none, 0)), (([0] : List Int), (a31, c32))] : List (List Int × (Option Addr × Nat)))) zi (by decide) rfl Tryz.underlying22 tf66 rfl rfl rfl rfl rfl (by decide) (fun a33 c34 => jW (inn := iN66) ([([0, 1] : List Int), ([] : List Int), ([0] : List Int)] : List (List Int)) ([(a29, c30), (none, 0), (a31, c32)] : List (Option Addr × Nat)) 0 rfl rfl (qz 2 rfl (qz 1 rfl (qz 0 rfl yA))) ?_)
 refine au [27,1] ?_
 intro x35 e35 _
 refine au [4] ?_
 refine qN 3 x35 [(3, .slice a8 x7.1.length c9), (4, .int .i64 x7.2), (5, .pointer (some ⟨g13, 0, none⟩)), (6, .int .i64 x10.2), (7, .pointer (some ⟨g17, 0, none⟩)), (8, .int .i64 x14.2), (9, .slice a19 x18.1.length c20), (10, .slice a21 x18.2.1.length c22), (11, .int .i64 x18.2.2), (13, .int .i64 x25.2), (59, .bool (x35 && ((x3.2 : Int) == 0)))] (fun h36 => ?_) (fun h36 => ?_) ?_
 refine qb (os := _) rfl (qj (k := 56) rfl h36 ?_)
 refine au [4,24,11,17] ?_
 refine qc (d := 59) (v := .bool (x35 && ((x3.2 : Int) == 0))) rfl (by rw [h36]; simp only [Bool.true_and]) ?_
 exact az [0,20]
 refine qb (os := _) rfl (qi (k := 56) rfl h36 ?_)
 refine au [6,6,18] ?_
 refine qc (d := 59) (v := .bool (x35 && ((x3.2 : Int) == 0))) rfl (by rw [h36]; simp only [Bool.false_and]) ?_
 exact az [0,20]
 refine qb (os := _) rfl ?_
 refine au [4] ?_
 refine qy 7 (fun ((x41, _) : (Bool × Unit)) => ([(4, .int .i64 x7.2), (5, .pointer (some ⟨g13, 0, none⟩)), (6, .int .i64 x10.2), (7, .pointer (some ⟨g17, 0, none⟩)), (8, .int .i64 x14.2), (9, .slice a19 x18.1.length c20), (10, .slice a21 x18.2.1.length c22), (11, .int .i64 x18.2.2), (13, .int .i64 x25.2), (67, .bool x41)], [⟨g17, 24, [.slice a15 x14.1.length c16.1]⟩, ⟨g13, 24, [.slice a11 x10.1.length c12.1]⟩], [Ro (eI .i64) 3 1 (.slice a19 x18.1.length c20) x18.1, Ro (eI .i64) 3 1 (.slice a21 x18.2.1.length c22) x18.2.1, RoN eN66 rN66 66 1 (.slice a15 x14.1.length c16.1) x14.1 c16.2 [], RoN eN66 rN66 66 1 (.slice a11 x10.1.length c12.1) x10.1 c12.2 []], [], kV F x7 x10 x14 x18 x25 x41)) ?_ ?_
 refine qb (os := _) rfl ?_
 refine av [24,10] ?_ ?_
 intro h37
 refine qj (k := 60) rfl h37 ?_
 refine au [4] ?_
 refine qh (cells := [.int .i64 0, .int .i64 0]) rfl st44 rfl (by kernel_rfl) rfl (qh (cells := [.int .i64 0, .int .i64 1]) rfl st44 rfl (by kernel_rfl) rfl (qh (cells := [.int .i64 2, .int .i64 0]) rfl st44 rfl (by kernel_rfl) rfl (qE (vs := [.agg #[.int .i64 0, .int .i64 0], .agg #[.int .i64 0, .int .i64 1], .agg #[.int .i64 2, .int .i64 0]]) (ys := ([(0, 0), (0, 1), (2, 0)] : List (Int × Int))) ql (by decide) rfl Tryz.underlying39 tf44 rfl rfl rfl rfl rfl (by decide) (fun a111 c112 => qB qc7 ?_))))
 intro x113 e113 _
 refine au [17,0] ?_
 exact qa (x113, ())
 intro h37
 refine qi (k := 60) rfl h37 ?_
 refine au [6,6,6,6,6,6,18,0] ?_
 exact qa (false, ())
 rintro ⟨x41, _⟩
 try dsimp only
 refine qb (os := _) rfl ?_
 refine au [4] ?_
 refine qN 3 x41 [(5, .pointer (some ⟨g13, 0, none⟩)), (6, .int .i64 x10.2), (7, .pointer (some ⟨g17, 0, none⟩)), (8, .int .i64 x14.2), (9, .slice a19 x18.1.length c20), (10, .slice a21 x18.2.1.length c22), (11, .int .i64 x18.2.2), (13, .int .i64 x25.2), (71, .bool (x41 && ((x7.2 : Int) == 0)))] (fun h42 => ?_) (fun h42 => ?_) ?_
 refine qb (os := _) rfl (qj (k := 68) rfl h42 ?_)
 refine au [4,24,11,17] ?_
 refine qc (d := 71) (v := .bool (x41 && ((x7.2 : Int) == 0))) rfl (by rw [h42]; simp only [Bool.true_and]) ?_
 exact az [0,20]
 refine qb (os := _) rfl (qi (k := 68) rfl h42 ?_)
 refine au [6,6,18] ?_
 refine qc (d := 71) (v := .bool (x41 && ((x7.2 : Int) == 0))) rfl (by rw [h42]; simp only [Bool.false_and]) ?_
 exact az [0,20]
 refine qb (os := _) rfl ?_
 refine au [4] ?_
 refine qy 7 (fun ((x51, _) : (Bool × Unit)) => ([(6, .int .i64 x10.2), (7, .pointer (some ⟨g17, 0, none⟩)), (8, .int .i64 x14.2), (9, .slice a19 x18.1.length c20), (10, .slice a21 x18.2.1.length c22), (11, .int .i64 x18.2.2), (13, .int .i64 x25.2), (79, .bool x51)], [⟨g17, 24, [.slice a15 x14.1.length c16.1]⟩], [Ro (eI .i64) 3 1 (.slice a19 x18.1.length c20) x18.1, Ro (eI .i64) 3 1 (.slice a21 x18.2.1.length c22) x18.2.1, RoN eN66 rN66 66 1 (.slice a15 x14.1.length c16.1) x14.1 c16.2 []], [], kW F x10 x14 x18 x25 x51)) ?_ ?_
 refine qb (os := _) rfl ?_
 refine av [24,10] ?_ ?_
 intro h43
 refine qj (k := 72) rfl h43 ?_
 refine au [23,26,5] ?_
 refine qE (vs := [.int .i64 0, .int .i64 2]) (ys := ([0, 2] : List Int)) (ky .i64) (by decide) rfl Tryz.underlying66 tf3 rfl rfl rfl rfl rfl (by decide) (fun a104 c105 => qE (vs := [.int .i64 0]) (ys := ([0] : List Int)) (ky .i64) (by decide) rfl Tryz.underlying66 tf3 rfl rfl rfl rfl rfl (by decide) (fun a106 c107 => ?_))
 refine au [28,3,26,3,31,4,26,3] ?_
 refine qE (vs := [.slice a104 ([0, 2] : List Int).length c105, .slice a106 ([0] : List Int).length c107, .slice none 0 0]) (ys := ([(([0, 2] : List Int), (a104, c105)), (([0] : List Int), (a106, c107)), (([] : List Int), (none, 0))] : List (List Int × (Option Addr × Nat)))) zi (by decide) rfl Tryz.underlying22 tf66 rfl rfl rfl rfl rfl (by decide) (fun a108 c109 => jW (inn := iN66) ([([0, 2] : List Int), ([0] : List Int), ([] : List Int)] : List (List Int)) ([(a104, c105), (a106, c107), (none, 0)] : List (Option Addr × Nat)) 0 rfl rfl (qz 2 rfl (qz 1 rfl (qz 0 rfl yA))) ?_)
 refine au [27,1] ?_
 intro x110 e110 _
 refine au [17,0] ?_
 exact qa (x110, ())
 intro h43
 refine qi (k := 72) rfl h43 ?_
 refine au [6,6,6,6,6,6,18,0] ?_
 exact qa (false, ())
 rintro ⟨x51, _⟩
 try dsimp only
 refine qb (os := _) rfl ?_
 refine au [4] ?_
 refine qN 3 x51 [(7, .pointer (some ⟨g17, 0, none⟩)), (8, .int .i64 x14.2), (9, .slice a19 x18.1.length c20), (10, .slice a21 x18.2.1.length c22), (11, .int .i64 x18.2.2), (13, .int .i64 x25.2), (83, .bool (x51 && ((x10.2 : Int) == 0)))] (fun h52 => ?_) (fun h52 => ?_) ?_
 refine qb (os := _) rfl (qj (k := 80) rfl h52 ?_)
 refine au [4,24,11,17] ?_
 refine qc (d := 83) (v := .bool (x51 && ((x10.2 : Int) == 0))) rfl (by rw [h52]; simp only [Bool.true_and]) ?_
 exact az [0,20]
 refine qb (os := _) rfl (qi (k := 80) rfl h52 ?_)
 refine au [6,6,18] ?_
 refine qc (d := 83) (v := .bool (x51 && ((x10.2 : Int) == 0))) rfl (by rw [h52]; simp only [Bool.false_and]) ?_
 exact az [0,20]
 refine qb (os := _) rfl ?_
 refine au [4] ?_
 refine qy 8 (fun ((x63, _) : (Bool × Unit)) => ([(8, .int .i64 x14.2), (9, .slice a19 x18.1.length c20), (10, .slice a21 x18.2.1.length c22), (11, .int .i64 x18.2.2), (13, .int .i64 x25.2), (92, .bool x63)], [], [Ro (eI .i64) 3 1 (.slice a19 x18.1.length c20) x18.1, Ro (eI .i64) 3 1 (.slice a21 x18.2.1.length c22) x18.2.1], [], kX F x14 x18 x25 x63)) ?_ ?_
 refine qb (os := _) rfl ?_
 refine av [24,10] ?_ ?_
 intro h53
 refine qj (k := 84) rfl h53 ?_
 refine au [23,24,4] ?_
 refine qE (vs := [.int .i64 0, .int .i64 1, .int .i64 2]) (ys := ([0, 1, 2] : List Int)) (ky .i64) (by decide) rfl Tryz.underlying66 tf3 rfl rfl rfl rfl rfl (by decide) (fun a95 c96 => qE (vs := [.int .i64 0]) (ys := ([0] : List Int)) (ky .i64) (by decide) rfl Tryz.underlying66 tf3 rfl rfl rfl rfl rfl (by decide) (fun a97 c98 => qE (vs := [.int .i64 0]) (ys := ([0] : List Int)) (ky .i64) (by decide) rfl Tryz.underlying66 tf3 rfl rfl rfl rfl rfl (by decide) (fun a99 c100 => qaS 2 rfl ?_)))
 refine au [28,3,26,3] ?_
 refine qE (vs := [.slice a95 ([0, 1, 2] : List Int).length c96, .slice a97 ([0] : List Int).length c98, .slice a99 ([0] : List Int).length c100]) (ys := ([(([0, 1, 2] : List Int), (a95, c96)), (([0] : List Int), (a97, c98)), (([0] : List Int), (a99, c100))] : List (List Int × (Option Addr × Nat)))) zi (by decide) rfl Tryz.underlying22 tf66 rfl rfl rfl rfl rfl (by decide) (fun a101 c102 => jW (inn := iN66) ([([0, 1, 2] : List Int), ([0] : List Int), ([0] : List Int)] : List (List Int)) ([(a95, c96), (a97, c98), (a99, c100)] : List (Option Addr × Nat)) 0 rfl rfl (qz 2 rfl (qz 1 rfl (qz 0 rfl yA))) ?_)
 refine au [27,1] ?_
 intro x103 e103 _
 refine au [17,0] ?_
 exact qa (x103, ())
 intro h53
 refine qi (k := 84) rfl h53 ?_
 refine au [6,6,6,6,6,6,6,18,0] ?_
 exact qa (false, ())
 rintro ⟨x63, _⟩
 try dsimp only
 refine qb (os := _) rfl ?_
 refine au [4] ?_
 refine qN 3 x63 [(9, .slice a19 x18.1.length c20), (10, .slice a21 x18.2.1.length c22), (11, .int .i64 x18.2.2), (13, .int .i64 x25.2), (96, .bool (x63 && ((x14.2 : Int) == 0)))] (fun h64 => ?_) (fun h64 => ?_) ?_
 refine qb (os := _) rfl (qj (k := 93) rfl h64 ?_)
 refine au [4,24,11,17] ?_
 refine qc (d := 96) (v := .bool (x63 && ((x14.2 : Int) == 0))) rfl (by rw [h64]; simp only [Bool.true_and]) ?_
 exact az [0,20]
 refine qb (os := _) rfl (qi (k := 93) rfl h64 ?_)
 refine au [6,6,18] ?_
 refine qc (d := 96) (v := .bool (x63 && ((x14.2 : Int) == 0))) rfl (by rw [h64]; simp only [Bool.false_and]) ?_
 exact az [0,20]
 refine qb (os := _) rfl ?_
 refine au [4] ?_
 refine qy 4 (fun ((x69, _) : (Bool × Unit)) => ([(10, .slice a21 x18.2.1.length c22), (11, .int .i64 x18.2.2), (13, .int .i64 x25.2), (101, .bool x69)], [], [Ro (eI .i64) 3 1 (.slice a21 x18.2.1.length c22) x18.2.1], [], kY F x18 x25 x69)) ?_ ?_
 refine qb (os := _) rfl ?_
 refine av [24,10] ?_ ?_
 intro h65
 refine qj (k := 97) rfl h65 ?_
 refine au [4] ?_
 refine qE (vs := [.int .i64 2, .int .i64 0, .int .i64 1]) (ys := ([2, 0, 1] : List Int)) (ky .i64) (by decide) rfl Tryz.underlying66 tf3 rfl rfl rfl rfl rfl (by decide) (fun a92 c93 => ?_)
 refine au [28,13] ?_
 intro x94 e94 _
 refine au [17,0] ?_
 exact qa (x94, ())
 intro h65
 refine qi (k := 97) rfl h65 ?_
 refine au [6,6,6,18,0] ?_
 exact qa (false, ())
 rintro ⟨x69, _⟩
 try dsimp only
 refine qb (os := _) rfl ?_
 refine au [4] ?_
 refine qy 4 (fun ((x74, _) : (Bool × Unit)) => ([(11, .int .i64 x18.2.2), (13, .int .i64 x25.2), (106, .bool x74)], [], [], [], kZ F x18 x25 x74)) ?_ ?_
 refine qb (os := _) rfl ?_
 refine av [24,10] ?_ ?_
 intro h70
 refine qj (k := 102) rfl h70 ?_
 refine au [4] ?_
 refine qE (vs := [.int .i64 2, .int .i64 1, .int .i64 0]) (ys := ([2, 1, 0] : List Int)) (ky .i64) (by decide) rfl Tryz.underlying66 tf3 rfl rfl rfl rfl rfl (by decide) (fun a89 c90 => ?_)
 refine au [28,13] ?_
 intro x91 e91 _
 refine au [17,0] ?_
 exact qa (x91, ())
 intro h70
 refine qi (k := 102) rfl h70 ?_
 refine au [6,6,6,18,0] ?_
 exact qa (false, ())
 rintro ⟨x74, _⟩
 try dsimp only
 refine qb (os := _) rfl ?_
 refine au [4] ?_
 refine qN 3 x74 [(13, .int .i64 x25.2), (110, .bool (x74 && ((x18.2.2 : Int) == 0)))] (fun h75 => ?_) (fun h75 => ?_) ?_
 refine qb (os := _) rfl (qj (k := 107) rfl h75 ?_)
 refine au [4,24,11,17] ?_
 refine qc (d := 110) (v := .bool (x74 && ((x18.2.2 : Int) == 0))) rfl (by rw [h75]; simp only [Bool.true_and]) ?_
 exact az [0,20]
 refine qb (os := _) rfl (qi (k := 107) rfl h75 ?_)
 refine au [6,6,18] ?_
 refine qc (d := 110) (v := .bool (x74 && ((x18.2.2 : Int) == 0))) rfl (by rw [h75]; simp only [Bool.false_and]) ?_
 exact az [0,20]
 refine qb (os := _) rfl ?_
 refine au [4] ?_
 refine qN 3 (x74 && ((x18.2.2 : Int) == 0)) [(114, .bool ((x74 && ((x18.2.2 : Int) == 0)) && ((x25.2 : Int) == 6)))] (fun h76 => ?_) (fun h76 => ?_) ?_
 refine qb (os := _) rfl (qj (k := 111) rfl h76 ?_)
 refine au [4,24,11,17] ?_
 refine qc (d := 114) (v := .bool ((x74 && ((x18.2.2 : Int) == 0)) && ((x25.2 : Int) == 6))) rfl (by rw [h76]; simp only [Bool.true_and]) ?_
 exact az [0,20]
 refine qb (os := _) rfl (qi (k := 111) rfl h76 ?_)
 refine au [6,6,18] ?_
 refine qc (d := 114) (v := .bool ((x74 && ((x18.2.2 : Int) == 0)) && ((x25.2 : Int) == 6))) rfl (by rw [h76]; simp only [Bool.false_and]) ?_
 exact az [0,20]
 refine qb (os := _) rfl ?_
 refine au [4] ?_
 refine qy 6 (fun ((x83, _) : (Bool × Unit)) => ([(121, .bool x83)], [], [], [], y1 F x83)) ?_ ?_
 refine qb (os := _) rfl ?_
 refine av [24,10] ?_ ?_
 intro h77
 refine qj (k := 115) rfl h77 (qE (vs := [.int .i64 1]) (ys := ([1] : List Int)) (ky .i64) (by decide) rfl Tryz.underlying66 tf3 rfl rfl rfl rfl rfl (by decide) (fun a84 c85 => ?_))
 refine au [26,3] ?_
 refine qE (vs := [.slice a84 ([1] : List Int).length c85]) (ys := ([(([1] : List Int), (a84, c85))] : List (List Int × (Option Addr × Nat)))) zi (by decide) rfl Tryz.underlying22 tf66 rfl rfl rfl rfl rfl (by decide) (fun a86 c87 => jW (inn := iN66) ([([1] : List Int)] : List (List Int)) ([(a84, c85)] : List (Option Addr × Nat)) 0 rfl rfl (qz 0 rfl yA) (qh (cells := [.slice a86 ([([1] : List Int)] : List (List Int)).length c87]) rfl st24 rfl (by kernel_rfl) rfl ?_))
 refine au [26,8] ?_
 intro x88 e88 _
 refine au [24,11,17,0] ?_
 exact qa (((x88 : Int) == 3), ())
 intro h77
 refine qi (k := 115) rfl h77 ?_
 refine au [6,6,6,6,6,18,0] ?_
 exact qa (false, ())
 rintro ⟨x83, _⟩
 try dsimp only
 refine qb (os := _) rfl ?_
 exact az [5,0,1,8,16]
set_option maxHeartbeats 4000000 in
theorem qc6 (F : Nat) (x1 : List (List Int)) (a2 : Option Addr) (c3 : (Nat × List (Option Addr × Nat))) (x4 : Int) (r : Bool) (hm : jX F x1 x4 = some r) :
    Pure Tryz.prog 7 [.agg #[.slice a2 x1.length c3.1], .int .i64 x4] [SlN eN66 iN66 1 (.slice a2 x1.length c3.1) x1 c3.2, GF] Unit (fun _ => .bool r) (fun _ => []) (fun _ => []) := by
 refine qM Tryz.func7 rfl Tryz.ntmps7 rfl hm (fun w => ?_)
 refine au [24,15,2,3,25,0] ?_
 intro g5
 refine au [5,0,1,2,3,24,13,31,3] ?_
 rintro x6 e6 ⟨a7, c8⟩
 refine au [4,21,21,5,5,0,1,2,2,3,27,2] ?_
 intro x15 e15 _
 refine au [25,8,4] ?_
 refine qy 3 (fun ((x18, _) : (Bool × Unit)) => ([(1, .int .i64 x4), (2, .pointer (some ⟨g5, 0, none⟩)), (5, .slice a7 x6.1.length c8), (6, .int .i64 x6.2), (22, .bool x18)], [⟨g5, 24, [.slice a2 x1.length c3.1]⟩], [Ro eS44 44 2 (.slice a7 x6.1.length c8) x6.1], [SlN eN66 iN66 1 (.slice a2 x1.length c3.1) x1 c3.2, GF], yB F x1 x4 x6 x18)) ?_ ?_
 refine qb (os := _) rfl ?_
 refine av [24,10] ?_ ?_
 intro h16
 refine qj (k := 19) rfl h16 ?_
 refine au [6,6,17,0] ?_
 exact qa (true, ())
 intro h16
 refine qi (k := 19) rfl h16 (qB (fun h => qbO F _ h) ?_)
 intro x510 e510 _
 refine au [25,8,18,0] ?_
 exact qa ((!x510), ())
 rintro ⟨x18, _⟩
 try dsimp only
 refine qb (os := _) rfl ?_
 refine av [0,1,9] ?_ ?_
 intro _
 exact az [2,3,5,0,1,8,7,16]
 intro _
 refine av [10,1,2,2,3,4,25,3,0,1,9] ?_ ?_
 intro _
 exact az [2,3,5,0,1,8,7,16]
 intro _
 refine au [10,1,2,3,23,24,4,24,1,26,1] ?_
 intro x20 e20 _
 refine qA (a := ([48] : List Int)) (b := x20) rfl Tryz.underlying9 rfl rfl rfl (fun x21 e21 => qA (a := x21) (b := ([10] : List Int)) rfl Tryz.underlying9 rfl rfl rfl (fun x22 e22 => ?_))
 refine au [5,0,1] ?_
 refine qf (fun ((x257, _) : (List Int × Unit)) => ([(2, .pointer (some ⟨g5, 0, none⟩)), (7, .string (bstr x257))], [⟨g5, 24, [.slice a2 x1.length c3.1]⟩], [], [SlN eN66 iN66 1 (.slice a2 x1.length c3.1) x1 c3.2, GF], yC F x1 x257)) ?_ ?_
 refine au [2,3,5,0,1,13] ?_
 refine qK (fun (((x351, x352), _) : ((List Int × Int) × Unit)) => ([(1, .int .i64 x4), (2, .pointer (some ⟨g5, 0, none⟩)), (5, .slice a7 x6.1.length c8), (7, .string (bstr x351)), (8, .int .i64 x352)], [⟨g5, 24, [.slice a2 x1.length c3.1]⟩], [Ro eS44 44 2 (.slice a7 x6.1.length c8) x6.1], [SlN eN66 iN66 1 (.slice a2 x1.length c3.1) x1 c3.2, GF])) (fun k (s : ((List Int × Int) × Unit)) => qX F x1 x4 x6 k s.1) ((x22, 0), ()) F ?_
 intro k430
 rintro ⟨⟨x351, x352⟩, _⟩
 try dsimp only
 refine q5 (m' := ye F x1 x4 x6 (qX F x1 x4 x6 k430) x351 x352) rfl ?_
 refine av [2,2,3,4,4,24,1,24,2,0,1,9] ?_ ?_
 intro _
 refine au [10,1] ?_
 refine qf (fun ((x469, _) : (List Int × Unit)) => ([(1, .int .i64 x4), (2, .pointer (some ⟨g5, 0, none⟩)), (5, .slice a7 x6.1.length c8), (7, .string (bstr x469)), (8, .int .i64 x352)], [⟨g5, 24, [.slice a2 x1.length c3.1]⟩], [Ro eS44 44 2 (.slice a7 x6.1.length c8) x6.1], [SlN eN66 iN66 1 (.slice a2 x1.length c3.1) x1 c3.2, GF], zI F (qX F x1 x4 x6 k430) x352 x469)) ?_ ?_
 refine au [13,2,3,4,4,4,28,11,24,3,28,11,24,3,4,24,1,27,12] ?_
 intro h470
 refine qfc rfl rfl rfl rfl h470 ?_
 refine au [26,10] ?_
 intro x471 e471 g472 h473
 refine zV (j := 0) (y := x471) ql rfl rfl tf44 rfl h473 (qr e471).2.2 (by simp) rfl rfl ?_
 refine au [14] ?_
 intro g474
 refine au [19,0,1] ?_
 refine q6 mixed [] [⟨g474, 44, [.int .i64 x471.1, .int .i64 x471.2]⟩, ⟨g5, 24, [.slice a2 x1.length c3.1]⟩] [SlN eN66 iN66 1 (.slice a2 x1.length c3.1) x1 c3.2, GF] (.cons 0 rfl (.cons 0 rfl .nil)) (q4 0 rfl (q4 1 rfl qn)) 13 rfl ?_
 refine au [11,0,24,8,1,25,1,2,24,8,6,25,1,7,12,3,26,1] ?_
 intro x475 e475 _
 refine au [0,25,4] ?_
 refine yL 4 8 rfl rfl (by kernel_rfl) rfl rfl ?_ ?_
 refine qA (a := ([32, 48, 48] : List Int)) (b := x475) rfl Tryz.underlying9 rfl rfl rfl (fun x477 e477 => ?_)
 refine au [0,25,4] ?_
 refine yL 5 8 rfl rfl (by kernel_rfl) rfl rfl ?_ ?_
 refine qA (a := x477) (b := ([32, 32, 32, 48] : List Int)) rfl Tryz.underlying9 rfl rfl rfl (fun x479 e479 => ?_)
 refine au [0,25,4,12,8,26,1] ?_
 intro x480 e480 _
 refine au [0,25,4,12,9] ?_
 refine qA (a := x479) (b := x480) rfl Tryz.underlying9 rfl rfl rfl (fun x482 e482 => ?_)
 refine au [0,25,4,12,10] ?_
 refine qA (a := x482) (b := ([32, 10] : List Int)) rfl Tryz.underlying9 rfl rfl rfl (fun x484 e484 => ?_)
 refine au [0,25,4,12,11] ?_
 refine qA (a := x351) (b := x484) rfl Tryz.underlying9 rfl rfl rfl (fun x486 e486 => ?_)
 refine au [0,25,4,11,12,24,5] ?_
 refine q9 ?_ (by intro c h; cases h)
 refine au [24,0] ?_
 exact qa (x486, ())
 refine yM (m' := ((qS F x471.2).bind fun x487 => ((app 9223372036854775807 x477 ([32, 32, 32, 48] : List Int)).bind fun x489 => ((app 9223372036854775807 x489 x487).bind fun x491 => ((app 9223372036854775807 x491 ([32, 10] : List Int)).bind fun x493 => ((app 9223372036854775807 x351 x493).bind fun x495 => zI F (qX F x1 x4 x6 k430) x352 x495)))))) (Eq.trans (b := ((app 9223372036854775807 x477 ([32, 32, 32, 48] : List Int)).bind fun x479 => ((qS F x471.2).bind fun x480 => ((app 9223372036854775807 x479 x480).bind fun x482 => ((app 9223372036854775807 x482 ([32, 10] : List Int)).bind fun x484 => ((app 9223372036854775807 x351 x484).bind fun x486 => zI F (qX F x1 x4 x6 k430) x352 x486)))))) rfl (by generalize (app 9223372036854775807 x477 ([32, 32, 32, 48] : List Int)) = q0; generalize (qS F x471.2) = q1; cases q0 <;> cases q1 <;> rfl)) ?_
 refine au [26,1] ?_
 intro x487 e487 _
 refine au [0,25,4,12,5] ?_
 refine qA (a := x477) (b := ([32, 32, 32, 48] : List Int)) rfl Tryz.underlying9 rfl rfl rfl (fun x489 e489 => ?_)
 refine au [0,25,4,12,9] ?_
 refine qA (a := x489) (b := x487) rfl Tryz.underlying9 rfl rfl rfl (fun x491 e491 => ?_)
 refine au [0,25,4,12,10] ?_
 refine qA (a := x491) (b := ([32, 10] : List Int)) rfl Tryz.underlying9 rfl rfl rfl (fun x493 e493 => ?_)
 refine au [0,25,4,12,11] ?_
 refine qA (a := x351) (b := x493) rfl Tryz.underlying9 rfl rfl rfl (fun x495 e495 => ?_)
 refine au [0,25,4,11,12,24,5] ?_
 refine q9 ?_ (by intro c h; cases h)
 refine au [24,0] ?_
 exact qa (x495, ())
 refine yM (m' := ((qS F x471.2).bind fun x496 => ((app 9223372036854775807 ([32, 48, 48] : List Int) x475).bind fun x498 => ((app 9223372036854775807 x498 ([32, 32, 32, 48] : List Int)).bind fun x500 => ((app 9223372036854775807 x500 x496).bind fun x502 => ((app 9223372036854775807 x502 ([32, 10] : List Int)).bind fun x504 => ((app 9223372036854775807 x351 x504).bind fun x506 => zI F (qX F x1 x4 x6 k430) x352 x506))))))) (Eq.trans (b := ((app 9223372036854775807 ([32, 48, 48] : List Int) x475).bind fun x477 => ((app 9223372036854775807 x477 ([32, 32, 32, 48] : List Int)).bind fun x479 => ((qS F x471.2).bind fun x480 => ((app 9223372036854775807 x479 x480).bind fun x482 => ((app 9223372036854775807 x482 ([32, 10] : List Int)).bind fun x484 => ((app 9223372036854775807 x351 x484).bind fun x486 => zI F (qX F x1 x4 x6 k430) x352 x486))))))) rfl (by generalize (app 9223372036854775807 ([32, 48, 48] : List Int) x475) = q0; generalize (qS F x471.2) = q1; cases q0 <;> cases q1 <;> (first | rfl | simp only [onb, osb, bno]))) ?_
 refine au [26,1] ?_
 intro x496 e496 _
 refine au [0,25,4,12,4] ?_
 refine qA (a := ([32, 48, 48] : List Int)) (b := x475) rfl Tryz.underlying9 rfl rfl rfl (fun x498 e498 => ?_)
 refine au [0,25,4,12,5] ?_
 refine qA (a := x498) (b := ([32, 32, 32, 48] : List Int)) rfl Tryz.underlying9 rfl rfl rfl (fun x500 e500 => ?_)
 refine au [0,25,4,12,9] ?_
 refine qA (a := x500) (b := x496) rfl Tryz.underlying9 rfl rfl rfl (fun x502 e502 => ?_)
 refine au [0,25,4,12,10] ?_
 refine qA (a := x502) (b := ([32, 10] : List Int)) rfl Tryz.underlying9 rfl rfl rfl (fun x504 e504 => ?_)
 refine au [0,25,4,12,11] ?_
 refine qA (a := x351) (b := x504) rfl Tryz.underlying9 rfl rfl rfl (fun x506 e506 => ?_)
 refine au [0,25,4,11,12,24,5] ?_
 refine q9 ?_ (by intro c h; cases h)
 refine au [24,0] ?_
 exact qa (x506, ())
 rintro ⟨x469, _⟩
 try dsimp only
 refine au [3,4,24,3,5,0] ?_
 exact qw ((x469, iadd .i64 x352 1), ())
 intro _
 refine au [24,6,15,15,24,7] ?_
 exact qa (x351, ())
 rintro ⟨x257, _⟩
 try dsimp only
 refine au [2,3,4,25,10] ?_
 rintro x258 e258 ⟨a259, c260⟩
 refine au [4,21,21,14] ?_
 intro g261
 refine au [14] ?_
 intro g262
 refine au [24,9,19,0,1,2,3,24,13] ?_
 refine qh (cells := [.int .i64 0, .int .i64 2]) rfl st29 rfl (by kernel_rfl) rfl ?_
 refine au [26,2,4] ?_
 refine qN 4 (((x258.2.1 : Int) == 0) && ((x258.2.2 : Int) == 2)) [(2, .pointer (some ⟨g5, 0, none⟩)), (10, .pointer (some ⟨g261, 0, none⟩)), (11, .pointer (some ⟨g262, 0, none⟩)), (73, .bool ((((x258.2.1 : Int) == 0) && ((x258.2.2 : Int) == 2)) && (decide (16000 < (x257.length : Int)))))] (fun h263 => ?_) (fun h263 => ?_) ?_
 refine qb (os := _) rfl (qj (k := 69) rfl h263 ?_)
 refine au [4] ?_
 refine zw (a := x257) rfl Tryz.underlying9 rfl rfl ?_
 refine au [25,2,17] ?_
 refine qc (d := 73) (v := .bool ((((x258.2.1 : Int) == 0) && ((x258.2.2 : Int) == 2)) && (decide (16000 < (x257.length : Int))))) rfl (by rw [h263]; simp only [Bool.true_and]) ?_
 exact az [0,20]
 refine qb (os := _) rfl (qi (k := 69) rfl h263 ?_)
 refine au [6,6,6,18] ?_
 refine qc (d := 73) (v := .bool ((((x258.2.1 : Int) == 0) && ((x258.2.2 : Int) == 2)) && (decide (16000 < (x257.length : Int))))) rfl (by rw [h263]; simp only [Bool.false_and]) ?_
 exact az [0,20]
 refine qb (os := _) rfl ?_
 refine au [4] ?_
 refine qy 9 (fun ((x269, _) : (Bool × Unit)) => ([(83, .bool x269)], [], [], [GF], vK F x269)) ?_ ?_
 refine qb (os := _) rfl ?_
 refine av [24,10] ?_ ?_
 intro h264
 refine qj (k := 74) rfl h264 ?_
 refine au [6,6,6,6,6,6,6,6,17,0] ?_
 exact qa (true, ())
 intro h264
 refine qi (k := 74) rfl h264 ?_
 refine au [24,13] ?_
 refine qh (cells := [.int .i64 0, .int .i64 0]) rfl st29 rfl (by kernel_rfl) rfl ?_
 refine au [26,2,4] ?_
 refine qy 4 (fun ((x272, _) : (Bool × Unit)) => ([(74, .bool false), (82, .bool x272)], [], [], [GF], vj F x272)) ?_ ?_
 refine qb (os := _) rfl ?_
 refine av [24,10] ?_ ?_
 intro h270
 refine qj (k := 78) rfl h270 ?_
 refine au [25,5,25,13,26,7] ?_
 intro x273 e273 _
 refine au [17,0] ?_
 exact qa (x273, ())
 intro h270
 refine qi (k := 78) rfl h270 ?_
 refine au [6,6,6,18,0] ?_
 exact qa (false, ())
 rintro ⟨x272, _⟩
 try dsimp only
 refine qb (os := _) rfl ?_
 refine au [18,0] ?_
 exact qa (x272, ())
 rintro ⟨x269, _⟩
 try dsimp only
 refine qb (os := _) rfl ?_
 exact az [5,0,1,8,16]
end Go.Proofs.YtfjkpdlcdceenaaGreatDoor
