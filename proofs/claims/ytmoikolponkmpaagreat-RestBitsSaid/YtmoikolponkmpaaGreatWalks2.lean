/- Each Go function of this seat computes what its model says, part 2. -/
import Derived.Test.YtmoikolponkmpaaGreatWalks
namespace Go.Proofs.YtmoikolponkmpaaGreat
open Go SX
theorem qcp {F : Nat} {x1 : Int} {r : (Int × List Int × Int)} (hm : k7 F x1 = some r) :
    Pure Tryz.prog 116 [.int .u64 x1, .func (.func 117) #[] #[]] [] (Option Addr × Nat) (fun g => .tuple #[.agg #[.int .i64 r.1, .slice g.1 r.2.1.length g.2], .int .i64 r.2.2]) (fun g => [Ro (eI .u8) 5 1 (.slice g.1 r.2.1.length g.2) r.2.1]) (fun _ => []) := by
 refine qk Tryz.func116 rfl Tryz.ntmps116 rfl hm (fun w => ?_)
 refine au [24,10,3,5,23] ?_
 intro g2
 refine av [4,0,2,3,3,5,1,24,13,0,2,10] ?_ ?_
 intro _
 refine au [3,5] ?_
 refine qH (cells := [.int .i64 0, .slice none 0 0]) rfl st25 rfl (by kernel_rfl) rfl ?_
 refine au [22,4,0,2,9,12,26,1] ?_
 exact qI (none, 0) (resL (rs := [.cell 4 25, .tmp 5]) rfl (.cell (i := 0) rfl tf25 rfl rfl (by simp) rfl (.tmp rfl ResOk.nil)) rfl) (fun h => by subst h; exact (.cons 0 rfl .nil))
 intro _
 refine au [13,2,3,5,1,1] ?_
 refine yZ ent117 rfl rfl rfl rfl (fun x4 e4 => qdk F x1 x4 e4) .nil (fun x4 e4 => ?_)
 rintro ⟨a5, c6⟩
 refine au [22,4,0,2,9] ?_
 exact qI (a5, c6) (resL (rs := [.cell 4 25, .tmp 5]) rfl (.cell (i := 0) rfl tf25 rfl rfl (by simp) rfl (.tmp rfl ResOk.nil)) rfl) (fun h => by subst h; exact (.cons 0 rfl .nil))
theorem qhu {F : Nat} {x1 : Int} {r : (Int × List Int × Int)} (hm : vK F x1 = some r) :
    Pure Tryz.prog 42 [.int .u64 x1] [] (Option Addr × Nat) (fun g => .tuple #[.agg #[.int .i64 r.1, .slice g.1 r.2.1.length g.2], .int .i64 r.2.2]) (fun g => [Ro (eI .u8) 5 1 (.slice g.1 r.2.1.length g.2) r.2.1]) (fun _ => []) := by
 refine qk Tryz.func42 rfl Tryz.ntmps42 rfl hm (fun w => ?_)
 refine au [24,14,3,5,23] ?_
 intro g2
 refine au [4,0,2,3,5,1] ?_
 refine qh qcp ?_
 rintro x3 e3 ⟨a4, c5⟩
 refine au [7,7,22,4,0,2,9] ?_
 exact qI (a4, c5) (resL (rs := [.cell 2 25, .tmp 3]) rfl (.cell (i := 0) rfl tf25 rfl rfl (by simp) rfl (.tmp rfl ResOk.nil)) rfl) (fun h => by subst h; exact (.cons 0 rfl .nil))
theorem qgC {F : Nat} {x1 : Int} {r : Bool} (hm : yj F x1 = some r) :
    Pure Tryz.prog 118 [.int .u64 x1] [] Unit (fun _ => .bool r) (fun _ => []) (fun _ => []) := by
 refine qk Tryz.func118 rfl Tryz.ntmps118 rfl hm (fun w => ?_)
 refine au [24,14,3,5,4,0,2,3,5,1,25,5,1] ?_
 refine qi 3 (decide (1 ≤ x1)) [(8, .bool ((decide (1 ≤ x1)) && (decide (x1 ≤ 1099511627776))))] (fun h2 => ?_) (fun h2 => ?_) ?_
 refine qa (os := _) rfl (qg (k := 5) rfl h2 ?_)
 refine au [1,27,12,14] ?_
 refine qb (d := 8) (v := .bool ((decide (1 ≤ x1)) && (decide (x1 ≤ 1099511627776)))) rfl (by rw [h2]; simp only [Bool.true_and]) ?_
 exact az [0,8]
 refine qa (os := _) rfl (qf (k := 5) rfl h2 ?_)
 refine au [6,6,15] ?_
 refine qb (d := 8) (v := .bool ((decide (1 ≤ x1)) && (decide (x1 ≤ 1099511627776)))) rfl (by rw [h2]; simp only [Bool.false_and]) ?_
 exact az [0,8]
 refine qa (os := _) rfl ?_
 exact az [4,0,2,9,16]
theorem qgD {F : Nat} {x1 : Int} {r : (Int × Int)} (hm : jq F x1 = some r) :
    Pure Tryz.prog 190 [.int .u64 x1] [] Unit (fun _ => .tuple #[.int .i64 r.1, .int .u64 r.2]) (fun _ => []) (fun _ => []) := by
 refine qk Tryz.func190 rfl Tryz.ntmps190 rfl hm (fun w => ?_)
 refine au [24,14,3,5,4,4,0,2,3,5,1,25,0,29,7] ?_
 intro x2 e2 _
 refine au [4,0,2,3,26,9] ?_
 intro h6
 refine qT mixed [] [] [] .nil qL 7 rfl ?_
 refine au [11,0,11,1] ?_
 refine qj 2 (.int .u64 (ishl .u64 1 x2)) rfl rfl rfl (qf1 rfl rfl h6) ?_
 refine au [11,3,11,4,11,5,11,6,24,7] ?_
 refine qR ?_ (by intro c h; cases h)
 exact az [2,9,16]
theorem qe9 {F : Nat} {x1 : Int} {x2 : List Int} {a3 : Option Addr} {c4 : Nat} {x5 : Int} {x6 : Int} {r : (Int × List Int)} (hm : kL F x1 x2 x5 x6 = some r) :
    Pure Tryz.prog 119 [.agg #[.int .i64 x1, .slice a3 x2.length c4], .int .u64 x5, .int .u64 x6] [Sl (eI .u8) 1 (.slice a3 x2.length c4) x2] (Option Addr × Nat) (fun g => .agg #[.int .i64 r.1, .slice g.1 r.2.length g.2]) (fun g => [Ro (eI .u8) 5 1 (.slice g.1 r.2.length g.2) r.2]) (fun _ => []) := by
 refine qk Tryz.func119 rfl Tryz.ntmps119 rfl hm (fun w => ?_)
 refine au [25,8,3,5,24,6] ?_
 intro g7
 refine au [23] ?_
 intro g8
 refine au [0,2,3,5,1,31,6] ?_
 intro x9 e9 _
 refine av [1,7,7,4,4,0,2,3,3,5,1,1,24,3,0,2,10] ?_ ?_
 intro _
 refine au [3,5,25,14,1,1,25,0,26,10] ?_
 rintro x14 e14 ⟨a15, c16⟩
 refine au [22,0,2,9,12] ?_
 exact qI (a15, c16) (resL (rs := [.cell 6 25]) rfl (.cell (i := 0) rfl tf25 rfl rfl (by simp) rfl ResOk.nil) rfl) (fun h => by subst h; exact (.cons 0 rfl .nil))
 intro _
 refine au [13,2,3,5,25,14,1,1,21,1,26,10] ?_
 rintro x17 e17 ⟨a18, c19⟩
 refine au [22,0,2,9] ?_
 exact qI (a18, c19) (resL (rs := [.cell 6 25]) rfl (.cell (i := 0) rfl tf25 rfl rfl (by simp) rfl ResOk.nil) rfl) (fun h => by subst h; exact (.cons 0 rfl .nil))
set_option maxHeartbeats 4000000 in
theorem qhw {F : Nat} {x1 : Int} {x2 : Int} {r : (Int × List Int × Int)} (hm : qap F x1 x2 = some r) :
    Pure Tryz.prog 43 [.int .u64 x1, .int .u64 x2] [] (Option Addr × Nat) (fun g => .tuple #[.agg #[.int .i64 r.1, .slice g.1 r.2.1.length g.2], .int .i64 r.2.2]) (fun g => [Ro (eI .u8) 5 1 (.slice g.1 r.2.1.length g.2) r.2.1]) (fun _ => []) := by
 refine qk Tryz.func43 rfl Tryz.ntmps43 rfl hm (fun w => ?_)
 refine au [24,10,3,5,23] ?_
 intro g3
 refine au [4,0,2,3,3,5,1,28,4] ?_
 intro x11 e11 _
 refine au [25,7,1] ?_
 refine qi 3 (!x11) [(0, .int .u64 x1), (1, .int .u64 x2), (4, .pointer (some ⟨g3, 0, none⟩)), (12, .bool ((!x11) || (decide (1099511627776 < x1))))] (fun h12 => ?_) (fun h12 => ?_) ?_
 refine qa (os := _) rfl (qg (k := 9) rfl h12 ?_)
 refine au [6,6,14] ?_
 refine qb (d := 12) (v := .bool ((!x11) || (decide (1099511627776 < x1)))) rfl (by rw [h12]; simp only [Bool.true_or]) ?_
 exact az [0,8]
 refine qa (os := _) rfl (qf (k := 9) rfl h12 ?_)
 refine au [1,24,13,15] ?_
 refine qb (d := 12) (v := .bool ((!x11) || (decide (1099511627776 < x1)))) rfl (by rw [h12]; simp only [Bool.false_or]) ?_
 exact az [0,8]
 refine qa (os := _) rfl ?_
 refine au [1] ?_
 refine qy 5 (fun ((x15, _) : (Bool × Unit)) => ([(0, .int .u64 x1), (1, .int .u64 x2), (4, .pointer (some ⟨g3, 0, none⟩)), (18, .bool x15)], [⟨g3, 25, [.int .i64 0, .slice none 0 0]⟩], [], [], j4 F x1 x2 x15)) ?_ ?_
 refine qa (os := _) rfl ?_
 refine av [24,12] ?_ ?_
 intro h13
 refine qg (k := 13) rfl h13 ?_
 refine au [6,6,6,6,14,0] ?_
 exact qc (true, ())
 intro h13
 refine qf (k := 13) rfl h13 ?_
 refine au [1,1,25,4] ?_
 intro h41
 refine qjc rfl rfl rfl rfl h41 ?_
 refine au [25,5,15,0] ?_
 exact qc ((decide (8128 ≤ (iquo .u64 x1 x2))), ())
 rintro ⟨x15, _⟩
 try dsimp only
 refine qa (os := _) rfl ?_
 refine av [0,2,10] ?_ ?_
 intro _
 refine au [3,5] ?_
 refine qH (cells := [.int .i64 0, .slice none 0 0]) rfl st25 rfl (by kernel_rfl) rfl ?_
 refine au [22,4,0,2,9,12,26,1] ?_
 exact qI (none, 0) (resL (rs := [.cell 4 25, .tmp 5]) rfl (.cell (i := 0) rfl tf25 rfl rfl (by simp) rfl (.tmp rfl ResOk.nil)) rfl) (fun h => by subst h; exact (.cons 0 rfl .nil))
 intro _
 refine au [13,2,3,26,9] ?_
 intro h28
 refine au [26,9] ?_
 intro h30
 refine qT mixed [] [] [] .nil qL 11 rfl ?_
 refine au [11,0,11,1] ?_
 refine qj 2 (.int .u64 (iquo .u64 x1 x2)) rfl rfl rfl (qoN rfl rfl h28) ?_
 refine au [11,4,11,5] ?_
 refine qj 6 (.int .u64 (irem x1 x2)) rfl rfl rfl (qhn rfl rfl h30) ?_
 refine au [11,7,17,3,27,11] ?_
 rintro x34 e34 ⟨a35, c36⟩
 refine au [0,29,8,17,8,29,9] ?_
 rintro x37 e37 ⟨a38, c39⟩
 refine au [0,29,8,17,9,22,0,29,8,11,10,24,7] ?_
 refine qR ?_ (by intro c h; cases h)
 refine au [2,9] ?_
 exact qI (a38, c39) (resL (rs := [.cell 4 25, .tmp 5]) rfl (.cell (i := 0) rfl tf25 rfl rfl (by simp) rfl (.tmp rfl ResOk.nil)) rfl) (fun h => by subst h; exact (.cons 0 rfl .nil))
set_option maxHeartbeats 4000000 in
theorem qhv {F : Nat}  {r : List Int} (hm : yL F  = some r) :
    Pure Tryz.prog 122 [] [] Unit (fun _ => .agg (r.flatMap (eI .u64)).toArray) (fun _ => []) (fun _ => []) := by
 refine qk Tryz.func122 rfl Tryz.ntmps122 rfl hm (fun w => ?_)
 refine au [26,11,3,5,23] ?_
 intro g1
 refine vu (i := 0) (cs' := (List.replicate 64 (0 : Int)).flatMap (eI .u64)) rfl rfl (qcA (i := 0) (xs := (List.replicate 64 (0 : Int))) (k := 64) (qn .u64) rfl List.length_replicate rfl ?_)
 refine au [0,2,3,5] ?_
 refine qa1 (j := 0) rfl Tryz.underlying180 tf80 rfl rfl rfl rfl (fun x2 e2 => kz (j := 0) (y' := 1) (qn .u64) rfl rfl rfl tf80 rfl rfl (qt e2).2.1 rfl (fun x3 e3 h4 => ?_))
 have h5 : x3.length = (List.replicate 64 (0 : Int)).length := by rw [← e3, List.length_set]
 refine qa1 (j := 0) rfl Tryz.underlying180 tf80 rfl rfl rfl rfl (fun x6 e6 => kz (j := 0) (y' := 2) (qn .u64) rfl rfl rfl tf80 rfl rfl (qt e6).2.1 rfl (fun x7 e7 h8 => ?_))
 have h9 : x7.length = x3.length := by rw [← e7, List.length_set]
 refine au [0,2] ?_
 refine qm (fun ((x73, _) : (List Int × Unit)) => ([(0, .pointer (some ⟨g1, 0, none⟩))], [], [Ro (eI .u64) 180 1 (.slice (some ⟨g1, 0, none⟩) x73.length 64) x73], [], qdo F x73)) ?_ ?_
 refine au [3,5,4,0,2,18] ?_
 refine qx (fun (((x97, x98), _) : ((List Int × Int) × Unit)) => ([(0, .pointer (some ⟨g1, 0, none⟩)), (1, .int .i64 x98)], [], [Ro (eI .u64) 180 1 (.slice (some ⟨g1, 0, none⟩) x97.length 64) x97], [])) (fun k (s : ((List Int × Int) × Unit)) => j3 F k s.1) ((x7, 2), ()) F ?_
 intro k119
 rintro ⟨⟨x97, x98⟩, _⟩
 try dsimp only
 refine qN (m' := qdn F (j3 F k119) x97 x98) rfl ?_
 refine av [3,3,5,1,24,3,0,2,10] ?_ ?_
 intro _
 refine au [13,2,3,18,29,10] ?_
 intro x130 e130 h131
 refine au [29,10] ?_
 intro x132 e132 h133
 refine au [29,10] ?_
 intro x134 e134 h135
 refine qT mixed [11] [] [qJ g1 ((isub .i64 x98 1).toNat * 1) ((eI .u64) x130), qJ g1 ((isub .i64 x98 2).toNat * 1) ((eI .u64) x132), qJ g1 (x98.toNat * 1) ((eI .u64) x134)] .nil (qeE 0 rfl (qdC (qn .u64) e130 rfl) (qeE 0 rfl (qdC (qn .u64) e132 rfl) (qeE 0 rfl (qdC (qn .u64) e134 rfl) qL))) 12 rfl ?_
 refine au [11,0,11,1,11,2] ?_
 refine qj 3 (.pointer (some ⟨g1, (isub .i64 x98 1).toNat * 1, none⟩)) rfl rfl rfl (qjg Tryz.underlying180 tf80 rfl rfl (qt e130).1 h131) (zq 4 (.int .u64 x130) [[11]] rfl rfl rfl (zN (j := 0) rfl tf80 rfl rfl (fun _ => rfl) rfl) ?_)
 refine au [11,5,11,6] ?_
 refine qj 7 (.pointer (some ⟨g1, (isub .i64 x98 2).toNat * 1, none⟩)) rfl rfl rfl (qjg Tryz.underlying180 tf80 rfl rfl (qt e132).1 h133) (zq 8 (.int .u64 x132) [[11]] rfl rfl rfl (zN (j := 1) rfl tf80 rfl rfl (fun _ => rfl) rfl) ?_)
 refine au [11,9] ?_
 refine qj 10 (.pointer (some ⟨g1, x98.toNat * 1, none⟩)) rfl rfl rfl (qjg Tryz.underlying180 tf80 rfl rfl (qt e134).1 h135) ?_
 refine au [17,11] ?_
 refine kz (j := 0) (y' := iadd .u64 x130 x132) (qn .u64) rfl rfl rfl tf80 rfl rfl (qt e134).2.1 rfl (fun x136 e136 h137 => ?_)
 have h138 : x136.length = x97.length := by rw [← e136, List.length_set]
 refine au [0] ?_
 refine qdu 11 rfl (by kernel_rfl) .nil ?_
 refine au [24,7] ?_
 refine qR ?_ (by intro c h; cases h)
 refine au [24,2,2,5,1,21,4,0] ?_
 exact qs ((x136, iadd .i64 x98 1), ())
 intro _
 refine au [24,8,20,20,24,9] ?_
 exact qc (x97, ())
 rintro ⟨x73, _⟩
 try dsimp only
 refine au [3,5,25,4] ?_
 intro h74
 replace h74 := of_decide_eq_true h74
 refine qfA (j := 0) rfl h74 (zh (i := 0) rfl rfl tf180 rfl (qm1 (qaO h74)) (by simp) (qm0 (qaO h74)) rfl (qcA (i := 0) (xs := x73) (k := 64) (qn .u64) rfl h74 rfl ?_))
 refine au [25,4] ?_
 intro h75
 replace h75 := of_decide_eq_true h75
 refine qfA (j := 0) rfl h75 (zw (i := 0) rfl rfl rfl tf180 rfl (qiK h75) (qiH h75 h75) qiI (qiJ (qaO h75) h75) (qcA (i := 0) (xs := x73) (k := 64) (qn .u64) rfl h75 rfl ?_))
 refine au [0,2,9,28,2] ?_
 intro h76
 replace h76 := of_decide_eq_true h76
 exact qpC (j := 0) rfl h76 (qI () (resL (rs := [.cell 0 180]) rfl (.cell (i := 0) rfl tf180 rfl (qm1 (qaO h76)) (by simp) (qm0 (qaO h76)) ResOk.nil) rfl))
set_option maxHeartbeats 4000000 in
theorem qdd {F : Nat} {x1 : List Int} {a2 : Option Addr} {c3 : Nat} {r : List Int} (hm : kC F x1 = some r) :
    PureM Tryz.prog 192 [.slice a2 x1.length c3] [] [Ro (eI .i64) 3 1 (.slice a2 x1.length c3) x1] [] Unit (fun _ => .tuple #[]) (fun _ => []) (fun _ => [Ro (eI .i64) 3 1 (.slice a2 r.length c3) r]) := by
 refine k6 Tryz.func192 rfl Tryz.ntmps192 rfl hm (fun w => ?_)
 refine au [24,14,3,5,1,24,4,25,0,4,4,0,2,18] ?_
 refine qx (fun (((x51, x52, x53), _) : ((List Int × Int × Int) × Unit)) => ([(0, .slice a2 x51.length c3), (2, .int .i64 x52), (3, .int .i64 x53)], [], [Ro (eI .i64) 3 1 (.slice a2 x51.length c3) x51], [])) (fun k (s : ((List Int × Int × Int) × Unit)) => zm F k s.1) ((x1, 0, isub .i64 (x1.length : Int) 1), ()) F ?_
 intro k100
 rintro ⟨⟨x51, x52, x53⟩, _⟩
 try dsimp only
 refine qN (m' := zZ F (zm F k100) x51 x52 x53) rfl ?_
 refine av [3,3,5,1,1,24,3,0,2,10] ?_ ?_
 intro _
 refine au [13,2,3,18,27,4] ?_
 intro x124 e124 g125 h126
 replace h126 : a2 = some ⟨g125, 0, none⟩ := h126
 have h127 := qaV (k := x51.length) (c := c3) h126
 refine au [27,4] ?_
 intro x128 e128 g129 h130
 replace h130 : a2 = some ⟨g129, 0, none⟩ := h130
 have h131 := qaV (k := x51.length) (c := c3) h130
 refine au [27,4] ?_
 intro x132 e132 g133 h134
 replace h134 : a2 = some ⟨g133, 0, none⟩ := h134
 have h135 := qaV (k := x51.length) (c := c3) h134
 refine au [27,4] ?_
 intro x136 e136 g137 h138
 replace h138 : a2 = some ⟨g137, 0, none⟩ := h138
 have h139 := qaV (k := x51.length) (c := c3) h138
 refine qT mixed [13, 15] [] [qJ g125 (x53.toNat * 1) ((eI .i64) x124), qJ g129 (x52.toNat * 1) ((eI .i64) x128), qJ g133 (x52.toNat * 1) ((eI .i64) x132), qJ g137 (x53.toNat * 1) ((eI .i64) x136)] .nil (qeE 0 rfl (qdC (qn .i64) e124 h126) (qeE 0 rfl (qdC (qn .i64) e128 h130) (qeE 0 rfl (qdC (qn .i64) e132 h134) (qeE 0 rfl (qdC (qn .i64) e136 h138) qL)))) 16 rfl ?_
 refine au [11,0,11,1,11,2,11,3,11,4,11,5] ?_
 refine qo (d := 18) (v := .slice (some ⟨g125, 0, none⟩) x51.length c3) rfl (by rw [h126] <;> rfl) (qj 6 (.pointer (some ⟨g125, x53.toNat * 1, none⟩)) rfl rfl rfl (qbG Tryz.underlying22 tf3 rfl rfl (qt e124).1 (kH e124)) (qo (d := 18) (v := .slice a2 x51.length c3) rfl (by rw [h126] <;> rfl) (zq 7 (.int .i64 x124) [[13], [15]] rfl rfl rfl (zN (j := 0) rfl tf3 rfl rfl (fun _ => rfl) rfl) ?_)))
 refine au [11,8,11,9] ?_
 refine qo (d := 22) (v := .slice (some ⟨g129, 0, none⟩) x51.length c3) rfl (by rw [h130] <;> rfl) (qj 10 (.pointer (some ⟨g129, x52.toNat * 1, none⟩)) rfl rfl rfl (qbG Tryz.underlying22 tf3 rfl rfl (qt e128).1 (kH e128)) (qo (d := 22) (v := .slice a2 x51.length c3) rfl (by rw [h130] <;> rfl) (zq 11 (.int .i64 x128) [[13], [15]] rfl rfl rfl (zN (j := 1) rfl tf3 rfl rfl (fun _ => rfl) rfl) (qo (d := 14) (v := .slice (some ⟨g133, 0, none⟩) x51.length c3) rfl (by rw [h134] <;> rfl) (qj 12 (.pointer (some ⟨g133, x52.toNat * 1, none⟩)) rfl rfl rfl (qbG Tryz.underlying22 tf3 rfl rfl (qt e132).1 (kH e132)) (qo (d := 14) (v := .slice a2 x51.length c3) rfl (by rw [h134] <;> rfl) ?_))))))
 refine au [17,13] ?_
 refine kz (j := 0) (y' := x124) (qn .i64) rfl rfl rfl tf3 rfl (qaV h134) (qt e132).2.1 rfl (fun x140 e140 h141 => ?_)
 have h142 : x140.length = x51.length := by rw [← e140, List.length_set]
 refine qb (d := 0) (v := .slice a2 x140.length c3) rfl h141 (qb (d := 14) (v := .slice a2 x140.length c3) rfl h141 (qb (d := 16) (v := .slice a2 x140.length c3) rfl h141 (qb (d := 18) (v := .slice a2 x140.length c3) rfl h141 (qb (d := 22) (v := .slice a2 x140.length c3) rfl h141 ?_))))
 refine au [0,31,7] ?_
 refine qo (d := 16) (v := .slice (some ⟨g137, 0, none⟩) x140.length c3) rfl (by rw [h138] <;> rfl) (qj 14 (.pointer (some ⟨g137, x53.toNat * 1, none⟩)) rfl rfl rfl (qbG Tryz.underlying22 tf3 rfl rfl (qt e136).1 (by rw [h142]; exact (kH e136))) (qo (d := 16) (v := .slice a2 x140.length c3) rfl (by rw [h138] <;> rfl) ?_))
 refine au [17,15] ?_
 refine kz (j := 0) (y' := x128) (qn .i64) rfl rfl rfl tf3 rfl (qaV h138) (by rw [h142]; exact (qt e136).2.1) rfl (fun x143 e143 h144 => ?_)
 have h145 : x143.length = x140.length := by rw [← e143, List.length_set]
 refine qb (d := 0) (v := .slice a2 x143.length c3) rfl h144 (qb (d := 14) (v := .slice a2 x143.length c3) rfl h144 (qb (d := 16) (v := .slice a2 x143.length c3) rfl h144 (qb (d := 18) (v := .slice a2 x143.length c3) rfl h144 (qb (d := 22) (v := .slice a2 x143.length c3) rfl h144 ?_))))
 refine au [0,31,7,24,7] ?_
 refine qR ?_ (by intro c h; cases h)
 refine au [24,2,2,5,1,21,1,25,0,4,4,0] ?_
 exact qs ((x143, iadd .i64 x52 1, isub .i64 x53 1), ())
 intro _
 exact az [24,8,20,20,24,9,31,8]
set_option maxHeartbeats 4000000 in
theorem qjn {F : Nat} {x1 : Int} {r : List Int} (hm : qb2 F x1 = some r) :
    Pure Tryz.prog 121 [.int .u64 x1] [] (Option Addr × Nat) (fun g => .slice g.1 r.length g.2) (fun g => [Ro (eI .i64) 3 1 (.slice g.1 r.length g.2) r]) (fun _ => []) := by
 refine qk Tryz.func121 rfl Tryz.ntmps121 rfl hm (fun w => ?_)
 refine au [24,14,3,5,4,0,2,3,5,28,5] ?_
 intro x2 e2 _
 refine au [23] ?_
 intro g3
 refine vu (i := 0) (cs' := (List.replicate 64 (0 : Int)).flatMap (eI .u64)) rfl rfl (qcA (i := 0) (xs := (List.replicate 64 (0 : Int))) (k := 64) (qn .u64) rfl List.length_replicate rfl ?_)
 refine au [25,4] ?_
 intro h4
 replace h4 := of_decide_eq_true h4
 refine qfA (j := 0) rfl (List.length_replicate) (zw (i := 0) rfl rfl rfl tf180 rfl (qiK h4) (qiH (List.length_replicate) h4) qiI (qiJ (qaO (List.length_replicate)) h4) (qcA (i := 0) (xs := x2) (k := 64) (qn .u64) rfl h4 rfl ?_))
 refine au [0,2,3,5,4,0,2] ?_
 refine qm (fun ((x81, (a79, c80)) : (List Int × (Option Addr × Nat))) => ([(4, .slice a79 x81.length c80)], [], [Ro (eI .i64) 3 1 (.slice a79 x81.length c80) x81], [], qcN F x81)) ?_ ?_
 refine au [3,5,4,0,2,18,29,11] ?_
 refine qx (fun (((x108, x111, x112), (a109, c110)) : ((Int × List Int × Int) × (Option Addr × Nat))) => ([(0, .int .u64 x108), (3, .pointer (some ⟨g3, 0, none⟩)), (4, .slice a109 x111.length c110), (5, .int .i64 x112)], [], [Ro (eI .u64) 180 1 (.slice (some ⟨g3, 0, none⟩) x2.length 64) x2, Ro (eI .i64) 3 1 (.slice a109 x111.length c110) x111], [])) (fun k (s : ((Int × List Int × Int) × (Option Addr × Nat))) => yi F x2 k s.1) ((x1, ([] : List Int), 63), (none, 0)) F ?_
 intro k135
 rintro ⟨⟨x108, x111, x112⟩, ⟨a109, c110⟩⟩
 try dsimp only
 refine qN (m' := qbg F x2 (yi F x2 k135) x108 x111 x112) rfl ?_
 refine av [3,3,5,1,25,5,0,2,10] ?_ ?_
 intro _
 refine au [13,2] ?_
 refine qm (fun (((x145, x148), (a146, c147)) : ((Int × List Int) × (Option Addr × Nat))) => ([(0, .int .u64 x145), (3, .pointer (some ⟨g3, 0, none⟩)), (4, .slice a146 x148.length c147), (5, .int .i64 x112)], [], [Ro (eI .u64) 180 1 (.slice (some ⟨g3, 0, none⟩) x2.length 64) x2, Ro (eI .i64) 3 1 (.slice a146 x148.length c147) x148], [], jp F (yi F x2 k135) x112 x145 x148)) ?_ ?_
 refine au [18,3,5,1] ?_
 refine qa1 (j := 0) rfl Tryz.underlying180 tf80 rfl rfl rfl rfl (fun x149 e149 => y8 (j := 0) (y := x149) (qn .u64) rfl rfl tf80 rfl rfl (qt e149).2.2 (fun _ => rfl) rfl rfl ?_)
 refine av [1,27,12,0,2,10] ?_ ?_
 intro _
 refine au [3,5,1,1] ?_
 refine qa1 (j := 0) rfl Tryz.underlying180 tf80 rfl rfl rfl rfl (fun x150 e150 => y8 (j := 0) (y := x150) (qn .u64) rfl rfl tf80 rfl rfl (qt e150).2.2 (fun _ => rfl) rfl rfl ?_)
 refine au [25,0,4,0,2,5,1,1] ?_
 refine qq (vs := [.int .i64 x112]) (ys := ([x112] : List Int)) (qn .i64) (by decide) rfl Tryz.underlying22 tf3 rfl rfl rfl rfl rfl (by decide) (fun a151 c152 => yo 2 (qn .i64) rfl Tryz.underlying22 tf3 rfl rfl rfl rfl rfl (.inl ⟨0, _, rfl⟩) rfl rfl (fun x153 e153 a154 c155 => ?_))
 refine au [4,0,24,2] ?_
 exact qc ((isub .u64 x108 x150, x153), (a154, c155))
 intro _
 refine au [13,24,2] ?_
 exact qc ((x108, x111), (a109, c110))
 rintro ⟨⟨x145, x148⟩, ⟨a146, c147⟩⟩
 try dsimp only
 refine au [5,1,25,0,4,0] ?_
 exact qs ((x145, x148, isub .i64 x112 1), (a146, c147))
 intro _
 refine au [24,8,20,20,24,9] ?_
 exact qc (x111, (a109, c110))
 rintro ⟨x81, ⟨a79, c80⟩⟩
 try dsimp only
 refine au [3,5,1] ?_
 refine kU qdd ?_
 intro x82 e82 _
 refine au [25,4] ?_
 intro h83
 replace h83 := of_decide_eq_true h83
 refine qb (d := 4) (v := .slice a79 x82.length c80) rfl (by rw [h83] <;> rfl) (qb (d := 25) (v := .slice a79 x82.length c80) rfl (by rw [h83] <;> rfl) ?_)
 refine au [0,2,3,5,1,4,0,2,9] ?_
 exact zC (a79, c80)
theorem qdw {F : Nat} {x1 : List Int} {a2 : Option Addr} {c3 : Nat} {x4 : Int} {r : Int} (hm : vr F x1 x4 = some r) :
    Pure Tryz.prog 236 [.slice a2 x1.length c3, .int .i64 x4] [Sl (eI .i64) 1 (.slice a2 x1.length c3) x1] Unit (fun _ => .int .i64 r) (fun _ => []) (fun _ => []) := by
 refine qk Tryz.func236 rfl Tryz.ntmps236 rfl hm (fun w => ?_)
 refine au [24,10,3,5,4,0,2] ?_
 refine qm (fun ((_, _) : (Unit × Unit)) => ([], [], [], [], qaj F)) ?_ ?_
 refine au [3,5,1,24,4,1,0,2,18] ?_
 refine qx (fun ((x47, _) : (Int × Unit)) => ([(0, .slice a2 x1.length c3), (1, .int .i64 x4), (7, .int .i64 (x1.length : Int)), (8, .int .i64 x47)], [], [], [Sl (eI .i64) 1 (.slice a2 x1.length c3) x1])) (fun k (s : (Int × Unit)) => zk F x1 x4 k s.1) (0, ()) F ?_
 intro k58
 rintro ⟨x47, _⟩
 try dsimp only
 refine qN (m' := kv F x1 x4 (zk F x1 x4 k58) x47) rfl ?_
 refine av [3,5,24,3,0,2,3,10] ?_ ?_
 intro _
 refine au [13,2,3,18,3,5,1,4,0,2,3,5,1,1,1,26,6] ?_
 intro x64 e64 b65 o66
 refine av [25,9,19,0,2,10] ?_ ?_
 intro _
 exact az [3,5,1,4,0,2,9,24,0,12,12,24,0,12,16]
 intro _
 refine au [13,24,2,2,5,21,1,0] ?_
 exact qs (iadd .i64 x47 1, ())
 intro _
 exact az [24,8,20,20,24,9,25,13]
 rintro ⟨_, _⟩
 try dsimp only
 exact az [3,5,4,0,2,9,16]
theorem qcX {F : Nat} {x1 : List Int} {a2 : Option Addr} {c3 : Nat} {x4 : Int} {r : Bool} (hm : ku F x1 x4 = some r) :
    Pure Tryz.prog 191 [.slice a2 x1.length c3, .int .i64 x4] [Sl (eI .i64) 1 (.slice a2 x1.length c3) x1] Unit (fun _ => .bool r) (fun _ => []) (fun _ => []) := by
 refine qk Tryz.func191 rfl Tryz.ntmps191 rfl hm (fun w => ?_)
 refine au [24,10,3,5,4,0,2,3,5,1,1] ?_
 refine qh qdw ?_
 intro x5 e5 _
 exact az [25,5,4,0,2,9,16]
set_option maxHeartbeats 4000000 in
theorem ql9 {F : Nat} {x1 : Int} {r : (Int × List Int)} (hm : qep F x1 = some r) :
    Pure Tryz.prog 120 [.int .u64 x1] [] (Option Addr × Nat) (fun g => .agg #[.int .i64 r.1, .slice g.1 r.2.length g.2]) (fun g => [Ro (eI .u8) 5 1 (.slice g.1 r.2.length g.2) r.2]) (fun _ => []) := by
 refine qk Tryz.func120 rfl Tryz.ntmps120 rfl hm (fun w => ?_)
 refine au [24,14,3,5,23] ?_
 intro g2
 refine au [0,2,3,5,1,21,31,9] ?_
 rintro x3 e3 ⟨a4, c5⟩
 refine au [4,0,2,3,5] ?_
 refine qH (cells := [.int .i64 0, .slice none 0 0]) rfl st25 rfl (by kernel_rfl) rfl ?_
 refine au [23] ?_
 intro g6
 refine au [22,0,2] ?_
 refine qm (fun (((x71, x74), (a72, c73)) : ((Int × List Int) × (Option Addr × Nat))) => ([(2, .pointer (some ⟨g2, 0, none⟩)), (4, .pointer (some ⟨g6, 0, none⟩))], [⟨g6, 25, [.int .i64 x71, .slice a72 x74.length c73]⟩, ⟨g2, 25, [.int .i64 0, .slice none 0 0]⟩], [Ro (eI .u8) 5 1 (.slice a72 x74.length c73) x74], [], qdy F x71 x74)) ?_ ?_
 refine au [3,5,1,1,24,4,25,0,27,8] ?_
 intro x78 e78 g79 h80
 refine y8 (j := 0) (y := x78) (qn .i64) rfl rfl tf3 rfl h80 (qt e78).2.2 (fun _ => rfl) rfl rfl ?_
 refine au [21,1,0,2,18,27,10] ?_
 refine qx (fun (((x100, x101, x104), (a102, c103)) : ((Int × Int × List Int) × (Option Addr × Nat))) => ([(2, .pointer (some ⟨g2, 0, none⟩)), (3, .slice a4 x3.length c5), (4, .pointer (some ⟨g6, 0, none⟩)), (17, .int .i64 (iadd .i64 x78 1)), (18, .int .i64 x100)], [⟨g6, 25, [.int .i64 x101, .slice a102 x104.length c103]⟩, ⟨g2, 25, [.int .i64 0, .slice none 0 0]⟩], [Ro (eI .i64) 3 1 (.slice a4 x3.length c5) x3, Ro (eI .u8) 5 1 (.slice a102 x104.length c103) x104], [])) (fun k (s : ((Int × Int × List Int) × (Option Addr × Nat))) => yK F x3 x78 k s.1) ((0, 0, ([] : List Int)), (none, 0)) F ?_
 intro k123
 rintro ⟨⟨x100, x101, x104⟩, ⟨a102, c103⟩⟩
 try dsimp only
 refine qN (m' := qbW F x3 x78 (yK F x3 x78 k123) x100 x101 x104) rfl ?_
 refine av [3,5,24,3,0,2,3,10] ?_ ?_
 intro _
 refine au [13,2,3,18,3,5,1,4,0,2,3,5,4,0,2] ?_
 refine qm (fun ((x135, _) : (Int × Unit)) => ([(2, .pointer (some ⟨g2, 0, none⟩)), (3, .slice a4 x3.length c5), (4, .pointer (some ⟨g6, 0, none⟩)), (6, .int .u64 x135), (17, .int .i64 (iadd .i64 x78 1)), (18, .int .i64 x100)], [⟨g6, 25, [.int .i64 x101, .slice a102 x104.length c103]⟩, ⟨g2, 25, [.int .i64 0, .slice none 0 0]⟩], [Ro (eI .i64) 3 1 (.slice a4 x3.length c5) x3, Ro (eI .u8) 5 1 (.slice a102 x104.length c103) x104], [], qao F (yK F x3 x78 k123) x100 x101 x104 x135)) ?_ ?_
 refine au [3,5,1,1] ?_
 refine qh qcX ?_
 intro x139 e139 _
 refine av [0,2,10] ?_ ?_
 intro _
 refine au [5,4,0] ?_
 exact qc ((1 : Int), ())
 intro _
 refine au [13] ?_
 exact qc ((0 : Int), ())
 rintro ⟨x135, _⟩
 try dsimp only
 refine au [5,24,5,1,26,10] ?_
 rintro x136 e136 ⟨a137, c138⟩
 refine au [22,0,24,2,2,5,21,1,0] ?_
 exact qs ((iadd .i64 x100 1, x136.1, x136.2), (a137, c138))
 intro _
 refine au [24,8,20,20,24,9] ?_
 exact qc ((x101, x104), (a102, c103))
 rintro ⟨⟨x71, x74⟩, ⟨a72, c73⟩⟩
 try dsimp only
 refine au [3,5,24,5,26,10] ?_
 rintro x75 e75 ⟨a76, c77⟩
 refine au [25,6,0,2,9] ?_
 exact qI (a76, c77) (resL (rs := [.cell 2 25]) rfl (.cell (i := 1) rfl tf25 rfl rfl (by simp) rfl ResOk.nil) rfl) (fun h => by subst h; exact (.cons 0 rfl .nil))
theorem qkw {F : Nat} {x1 : Int} {r : (Int × List Int × Int)} (hm : qcL F x1 = some r) :
    Pure Tryz.prog 44 [.int .u64 x1] [] (Option Addr × Nat) (fun g => .tuple #[.agg #[.int .i64 r.1, .slice g.1 r.2.1.length g.2], .int .i64 r.2.2]) (fun g => [Ro (eI .u8) 5 1 (.slice g.1 r.2.1.length g.2) r.2.1]) (fun _ => []) := by
 refine qk Tryz.func44 rfl Tryz.ntmps44 rfl hm (fun w => ?_)
 refine au [24,14,3,5,23] ?_
 intro g2
 refine av [4,0,2,3,3,5,1,24,13,0,2,10] ?_ ?_
 intro _
 refine au [3,5] ?_
 refine qH (cells := [.int .i64 0, .slice none 0 0]) rfl st25 rfl (by kernel_rfl) rfl ?_
 refine au [22,4,0,2,9,12,26,1] ?_
 exact qI (none, 0) (resL (rs := [.cell 2 25, .tmp 3]) rfl (.cell (i := 0) rfl tf25 rfl rfl (by simp) rfl (.tmp rfl ResOk.nil)) rfl) (fun h => by subst h; exact (.cons 0 rfl .nil))
 intro _
 refine au [13,2,3,5,1] ?_
 refine qh ql9 ?_
 rintro x4 e4 ⟨a5, c6⟩
 refine au [22,4,0,2,9] ?_
 exact qI (a5, c6) (resL (rs := [.cell 2 25, .tmp 3]) rfl (.cell (i := 0) rfl tf25 rfl rfl (by simp) rfl (.tmp rfl ResOk.nil)) rfl) (fun h => by subst h; exact (.cons 0 rfl .nil))
theorem qjm {F : Nat} {x1 : Int} {r : (List Int × Int)} (hm : qb1 F x1 = some r) :
    Pure Tryz.prog 45 [.int .u64 x1] [] (Option Addr × Nat) (fun g => .tuple #[.slice g.1 r.1.length g.2, .int .i64 r.2]) (fun g => [Ro (eI .i64) 3 1 (.slice g.1 r.1.length g.2) r.1]) (fun _ => []) := by
 refine qk Tryz.func45 rfl Tryz.ntmps45 rfl hm (fun w => ?_)
 refine av [24,14,3,5,4,4,0,2,3,3,5,1,24,13,0,2,10] ?_ ?_
 intro _
 refine au [3,5,4,4,0,2,9,12,26,14] ?_
 exact zC (none, 0)
 intro _
 refine au [13,2,3,5,1,31,9] ?_
 rintro x3 e3 ⟨a4, c5⟩
 refine au [4,4,0,2,9] ?_
 exact zC (a4, c5)
set_option maxHeartbeats 4000000 in
theorem qhQ (F : Nat) (x1 : List Int) (a2 : Option Addr) (c3 : Nat) (r : (Int × Int)) (hm : qcC F x1 = some r) :
    Pure Tryz.prog 46 [.slice a2 x1.length c3] [Sl (eI .i64) 1 (.slice a2 x1.length c3) x1] Unit (fun _ => .tuple #[.int .u64 r.1, .int .i64 r.2]) (fun _ => []) (fun _ => []) := by
 refine qk Tryz.func46 rfl Tryz.ntmps46 rfl hm (fun w => ?_)
 refine au [24,14,3,5,4,4,0,2,3,5,28,5] ?_
 intro x4 e4 _
 refine au [23] ?_
 intro g5
 refine vu (i := 0) (cs' := (List.replicate 64 (0 : Int)).flatMap (eI .u64)) rfl rfl (qcA (i := 0) (xs := (List.replicate 64 (0 : Int))) (k := 64) (qn .u64) rfl List.length_replicate rfl ?_)
 refine au [25,4] ?_
 intro h6
 replace h6 := of_decide_eq_true h6
 refine qfA (j := 0) rfl (List.length_replicate) (zw (i := 0) rfl rfl rfl tf180 rfl (qiK h6) (qiH (List.length_replicate) h6) qiI (qiJ (qaO (List.length_replicate)) h6) (qcA (i := 0) (xs := x4) (k := 64) (qn .u64) rfl h6 rfl ?_))
 refine au [0,2,3,5,4,0,2] ?_
 refine qm (fun ((x77, _) : (Int × Unit)) => ([(2, .int .u64 x77)], [], [], [], qfh F x77)) ?_ ?_
 refine au [3,5,1,24,4,1,0,2,18] ?_
 refine qx (fun (((x100, x101, x102), _) : ((Int × Int × Int) × Unit)) => ([(2, .int .u64 x100), (4, .pointer (some ⟨g5, 0, none⟩)), (5, .int .i64 x101), (9, .slice a2 x1.length c3), (10, .int .i64 (x1.length : Int)), (11, .int .i64 x102)], [], [Ro (eI .u64) 180 1 (.slice (some ⟨g5, 0, none⟩) x4.length 64) x4], [Sl (eI .i64) 1 (.slice a2 x1.length c3) x1])) (fun k (s : ((Int × Int × Int) × Unit)) => j1 F x1 x4 k s.1) ((0, -2, 0), ()) F ?_
 intro k125
 rintro ⟨⟨x100, x101, x102⟩, _⟩
 try dsimp only
 refine qN (m' := qcs F x1 x4 (j1 F x1 x4 k125) x100 x101 x102) rfl ?_
 refine av [3,5,24,3,0,2,3,10] ?_ ?_
 intro _
 refine au [13,2,3,18,3,5,26,6] ?_
 intro x137 e137 b138 o139
 refine au [25,9,4,0,2,3,18,3,5,1,24,3,1] ?_
 refine qi 3 (decide (x137 < 0)) [(2, .int .u64 x100), (4, .pointer (some ⟨g5, 0, none⟩)), (5, .int .i64 x101), (9, .slice a2 x1.length c3), (10, .int .i64 (x1.length : Int)), (11, .int .i64 x102), (7, .int .i64 x137), (21, .bool ((decide (x137 < 0)) || (decide (64 ≤ x137))))] (fun h143 => ?_) (fun h143 => ?_) ?_
 refine qa (os := _) rfl (qg (k := 18) rfl h143 ?_)
 refine au [6,6,14] ?_
 refine qb (d := 21) (v := .bool ((decide (x137 < 0)) || (decide (64 ≤ x137)))) rfl (by rw [h143]; simp only [Bool.true_or]) ?_
 exact az [0,8]
 refine qa (os := _) rfl (qf (k := 18) rfl h143 ?_)
 refine au [1,25,5,15] ?_
 refine qb (d := 21) (v := .bool ((decide (x137 < 0)) || (decide (64 ≤ x137)))) rfl (by rw [h143]; simp only [Bool.false_or]) ?_
 exact az [0,8]
 refine qa (os := _) rfl ?_
 refine av [4,0,2,10] ?_ ?_
 intro _
 exact az [3,5,4,4,0,2,9,24,0,12,24,0,12,12,24,0,12,16]
 intro _
 refine av [3,5,1,1,21,27,12,4,0,2,10] ?_ ?_
 intro _
 exact az [3,5,4,4,0,2,9,24,0,12,24,0,12,12,24,0,12,16]
 intro _
 refine au [13,24,2,2,5,1,1] ?_
 refine qa1 (j := 0) rfl Tryz.underlying180 tf80 rfl rfl rfl rfl (fun x144 e144 => y8 (j := 0) (y := x144) (qn .u64) rfl rfl tf80 rfl rfl (qt e144).2.2 (fun _ => rfl) rfl rfl ?_)
 refine au [21,1,4,4,0,24,2,2,5,21,1,0] ?_
 exact qs ((iadd .u64 x100 x144, x137, iadd .i64 x102 1), ())
 intro _
 refine au [24,8,20,20,24,9] ?_
 exact qc (x100, ())
 rintro ⟨x77, _⟩
 try dsimp only
 exact az [3,5,1,4,4,0,2,9,16]
theorem qiF {F : Nat} {x1 : List Int} {a2 : Option Addr} {c3 : Nat} {x4 : Int} {r : List Int} (hm : qcv F x1 x4 = some r) :
    PureM Tryz.prog 123 [.slice a2 x1.length c3, .int .u64 x4] [] [Ro (eI .u8) 5 1 (.slice a2 x1.length c3) x1] [] (Option Addr × Nat) (fun g => .slice g.1 r.length g.2) (fun _ => []) (fun g => [Ro (eI .u8) 5 1 (.slice g.1 r.length g.2) r]) := by
 refine k6 Tryz.func123 rfl Tryz.ntmps123 rfl hm (fun w => ?_)
 refine au [24,10,3,5,4,0,2] ?_
 refine qm (fun (((x48, x49), (a46, c47)) : ((List Int × Int) × (Option Addr × Nat))) => ([(0, .slice a46 x48.length c47), (1, .int .u64 x49)], [], [Ro (eI .u8) 5 1 (.slice a46 x48.length c47) x48], [], qck F x48 x49)) ?_ ?_
 refine au [18] ?_
 refine qx (fun (((x69, x70), (a67, c68)) : ((List Int × Int) × (Option Addr × Nat))) => ([(0, .slice a67 x69.length c68), (1, .int .u64 x70)], [], [Ro (eI .u8) 5 1 (.slice a67 x69.length c68) x69], [])) (fun k (s : ((List Int × Int) × (Option Addr × Nat))) => yx F k s.1) ((x1, x4), (a2, c3)) F ?_
 intro k83
 rintro ⟨⟨x69, x70⟩, ⟨a67, c68⟩⟩
 try dsimp only
 refine qN (m' := qaN F (yx F k83) x69 x70) rfl ?_
 refine av [3,3,5,1,25,5,0,2,10] ?_ ?_
 intro _
 refine au [13,2,3,18,5,1,1,25,10,29,12] ?_
 refine qq (vs := [.int .u8 (ior .u8 (iconv .u8 x70) 128)]) (ys := ([ior .u8 (iconv .u8 x70) 128] : List Int)) (qn .u8) (by decide) rfl Tryz.underlying23 tf5 rfl rfl rfl rfl rfl (by decide) (fun a90 c91 => yo 1 (qn .u8) rfl Tryz.underlying23 tf5 rfl rfl rfl rfl rfl (.inl ⟨0, _, rfl⟩) rfl rfl (fun x92 e92 a93 c94 => ?_))
 refine au [4,0,24,2,2,5,1,27,0,4,0] ?_
 exact qs ((x92, ishr .u64 x70 7), (a93, c94))
 intro _
 refine au [24,8,20,20,24,9] ?_
 exact qc ((x69, x70), (a67, c68))
 rintro ⟨⟨x48, x49⟩, ⟨a46, c47⟩⟩
 try dsimp only
 refine au [3,5,1,1,25,10] ?_
 refine qq (vs := [.int .u8 (iconv .u8 x49)]) (ys := ([iconv .u8 x49] : List Int)) (qn .u8) (by decide) rfl Tryz.underlying23 tf5 rfl rfl rfl rfl rfl (by decide) (fun a50 c51 => yo 1 (qn .u8) rfl Tryz.underlying23 tf5 rfl rfl rfl rfl rfl (.inl ⟨0, _, rfl⟩) rfl rfl (fun x52 e52 a53 c54 => ?_))
 refine au [4,0,2,9] ?_
 exact vN (a53, c54)
set_option maxHeartbeats 4000000 in
theorem qd5 (F : Nat) (x1 : List Int) (a2 : Option Addr) (c3 : Nat) (r : (List Int × Int)) (hm : js F x1 = some r) :
    Pure Tryz.prog 47 [.slice a2 x1.length c3] [Sl (eI .u64) 1 (.slice a2 x1.length c3) x1] (Option Addr × Nat) (fun g => .tuple #[.slice g.1 r.1.length g.2, .int .i64 r.2]) (fun g => [Ro (eI .u8) 5 1 (.slice g.1 r.1.length g.2) r.1]) (fun _ => []) := by
 refine qk Tryz.func47 rfl Tryz.ntmps47 rfl hm (fun w => ?_)
 refine au [24,14,3,5,4,4,0,2,3,5,4,0,2] ?_
 refine qm (fun ((x59, (a57, c58)) : (List Int × (Option Addr × Nat))) => ([(4, .slice a57 x59.length c58)], [], [Ro (eI .u8) 5 1 (.slice a57 x59.length c58) x59], [], qbz F x59)) ?_ ?_
 refine au [3,5,1,24,4,1,0,2,18,27,10] ?_
 refine qx (fun (((x78, x79), (a76, c77)) : ((List Int × Int) × (Option Addr × Nat))) => ([(4, .slice a76 x78.length c77), (7, .slice a2 x1.length c3), (8, .int .i64 (x1.length : Int)), (9, .int .i64 x79)], [], [Ro (eI .u8) 5 1 (.slice a76 x78.length c77) x78], [Sl (eI .u64) 1 (.slice a2 x1.length c3) x1])) (fun k (s : ((List Int × Int) × (Option Addr × Nat))) => kQ F x1 k s.1) ((([] : List Int), 0), (none, 0)) F ?_
 intro k96
 rintro ⟨⟨x78, x79⟩, ⟨a76, c77⟩⟩
 try dsimp only
 refine qN (m' := jf F x1 (kQ F x1 k96) x78 x79) rfl ?_
 refine av [3,5,24,3,0,2,3,10] ?_ ?_
 intro _
 refine au [13,2,3,18,3,5,29,6] ?_
 intro x105 e105 b106 o107
 refine au [25,9,4,0,2,3,5,1,1] ?_
 refine kU qiF ?_
 rintro x108 e108 ⟨a109, c110⟩
 refine av [4,0,2,3,5,1,24,4,24,13,0,2,10] ?_ ?_
 intro _
 refine au [3,5,4,4,0,2,9,24,0,12,12,24,0,12,26,1] ?_
 exact zC (none, 0)
 intro _
 refine au [13,24,2,2,5,21,1,0] ?_
 exact qs ((x108, iadd .i64 x79 1), (a109, c110))
 intro _
 refine au [24,8,20,20,24,9] ?_
 exact qc (x78, (a76, c77))
 rintro ⟨x59, ⟨a57, c58⟩⟩
 try dsimp only
 refine au [3,5,1,4,4,0,2,9] ?_
 exact zC (a57, c58)
theorem qhG {F : Nat} {x1 : List Int} {a2 : Option Addr} {c3 : Nat} {r : Unit} (hm : qdi F x1 = some r) :
    PureM Tryz.prog 124 [.slice a2 x1.length c3] [] [] [Sl (eI .u8) 1 (.slice a2 x1.length c3) x1] Nat (fun g => .func (.func 193) #[] #[.pointer (some ⟨g, 0, none⟩)]) (fun g => [⟨g, 23, [.slice a2 x1.length c3]⟩]) (fun _ => []) := by
 refine k6 Tryz.func124 rfl Tryz.ntmps124 rfl hm (fun w => ?_)
 refine au [24,14,3,5,24,6] ?_
 intro g4
 refine au [4,0,2,3,5,29,2,4,0,2,9] ?_
 exact vN g4
set_option maxHeartbeats 4000000 in
theorem qhE {F : Nat} {x1 : List Int} {a2 : Option Addr} {c3 : Nat} {x4 : Int} {r : (Int × Int × Int)} (hm : qat F x1 x4 = some r) :
    Pure Tryz.prog 194 [.slice a2 x1.length c3, .int .i64 x4] [Sl (eI .u8) 1 (.slice a2 x1.length c3) x1] Unit (fun _ => .tuple #[.int .u64 r.1, .int .i64 r.2.1, .int .i64 r.2.2]) (fun _ => []) (fun _ => []) := by
 refine qk Tryz.func194 rfl Tryz.ntmps194 rfl hm (fun w => ?_)
 refine au [24,10,3,5,4,4,4,0,2,3,5,4,0,2,18] ?_
 refine qx (fun (((x37, x38), _) : ((Int × Int) × Unit)) => ([(0, .slice a2 x1.length c3), (1, .int .i64 x4), (4, .int .u64 x37), (7, .int .i64 x38)], [], [], [Sl (eI .u8) 1 (.slice a2 x1.length c3) x1])) (fun k (s : ((Int × Int) × Unit)) => yg F x1 x4 k s.1) ((0, 0), ()) F ?_
 intro k71
 rintro ⟨⟨x37, x38⟩, _⟩
 try dsimp only
 refine qN (m' := qac F x1 x4 (yg F x1 x4 k71) x37 x38) rfl ?_
 refine av [3,18,3,3,5,1,1,21,1,24,4,25,5,0,2,10] ?_ ?_
 intro _
 exact az [3,5,4,4,4,0,2,9,12,24,0,12,12,24,0,16]
 intro _
 refine au [13,2,3,5,1,1,1,21,30,15] ?_
 intro x89 e89 b90 o91
 refine au [25,9,4,0,2,3,18,3,5,1,19,1] ?_
 refine qi 3 ((x38 : Int) == 9) [(0, .slice a2 x1.length c3), (1, .int .i64 x4), (4, .int .u64 x37), (7, .int .i64 x38), (8, .int .u8 x89), (29, .bool (((x38 : Int) == 9) && (decide (1 < x89))))] (fun h96 => ?_) (fun h96 => ?_) ?_
 refine qa (os := _) rfl (qg (k := 26) rfl h96 ?_)
 refine au [1,24,13,14] ?_
 refine qb (d := 29) (v := .bool (((x38 : Int) == 9) && (decide (1 < x89)))) rfl (by rw [h96]; simp only [Bool.true_and]) ?_
 exact az [0,8]
 refine qa (os := _) rfl (qf (k := 26) rfl h96 ?_)
 refine au [6,6,15] ?_
 refine qb (d := 29) (v := .bool (((x38 : Int) == 9) && (decide (1 < x89)))) rfl (by rw [h96]; simp only [Bool.false_and]) ?_
 exact az [0,8]
 refine qa (os := _) rfl ?_
 refine av [4,0,2,10] ?_ ?_
 intro _
 exact az [3,5,4,4,4,0,2,9,24,0,12,24,0,12,12,24,0,16]
 intro _
 refine au [3,5,1,24,13,1] ?_
 refine qi 3 (decide (0 < x38)) [(0, .slice a2 x1.length c3), (1, .int .i64 x4), (4, .int .u64 x37), (7, .int .i64 x38), (8, .int .u8 x89), (36, .bool ((decide (0 < x38)) && ((x89 : Int) == 0)))] (fun h97 => ?_) (fun h97 => ?_) ?_
 refine qa (os := _) rfl (qg (k := 33) rfl h97 ?_)
 refine au [1,19,14] ?_
 refine qb (d := 36) (v := .bool ((decide (0 < x38)) && ((x89 : Int) == 0))) rfl (by rw [h97]; simp only [Bool.true_and]) ?_
 exact az [0,8]
 refine qa (os := _) rfl (qf (k := 33) rfl h97 ?_)
 refine au [6,6,15] ?_
 refine qb (d := 36) (v := .bool ((decide (0 < x38)) && ((x89 : Int) == 0))) rfl (by rw [h97]; simp only [Bool.false_and]) ?_
 exact az [0,8]
 refine qa (os := _) rfl ?_
 refine av [4,0,2,10] ?_ ?_
 intro _
 exact az [3,5,4,4,4,0,2,9,24,0,12,24,0,12,12,24,0,16]
 intro _
 refine au [13,24,2,2,3,5,1,1,27,9,25,10,1,27,1,25,4] ?_
 intro h98
 refine qc9 rfl rfl rfl rfl h98 ?_
 refine au [29,12,4,26,4] ?_
 intro x99 e99
 refine qb (d := 4) (v := .int .u64 x99) rfl (by rw [e99] <;> rfl) ?_
 refine av [0,2,3,5,1,24,3,0,2,10] ?_ ?_
 intro _
 exact az [3,5,1,1,1,21,21,4,4,4,0,2,9,24,0,12,12,24,0,16]
 intro _
 refine au [13,24,2,2,5,1,21,4,0] ?_
 exact qs ((x99, iadd .i64 x38 1), ())
set_option maxHeartbeats 4000000 in
theorem qgj (F : Nat) {σ τ : Type} {J : Rounds σ τ} {yy : σ → (Int × Int) → Option (σ ⊕ τ)} {L : Nat} (hY : YieldC Tryz.prog L (fun (p : (Int × Int)) => [.int .u64 p.1, .int .i64 p.2]) J yy) (s0 : σ) (gs0 : J.γ) (g1 : Nat) (x2 : List Int) (a3 : Option Addr) (c4 : Nat) (r : σ ⊕ τ) (hm : qcl F yy x2 s0 = some r) :
    PureM Tryz.prog 193 ([.func (.yield L) #[] #[], .pointer (some ⟨g1, 0, none⟩)]) ([⟨g1, 23, [.slice a3 x2.length c4]⟩] ++ J.IB s0 gs0) (J.IR s0 gs0) [J.F, Sl (eI .u8) 1 (.slice a3 x2.length c4) x2] (J.G r) (fun _ => .tuple #[]) (fun g => [⟨g1, 23, [.slice a3 x2.length c4]⟩] ++ J.bs r g) (fun g => J.rs r g) := by
 refine k6 Tryz.func193 rfl Tryz.ntmps193 rfl hm (fun w => ?_)
 refine au [24,10,3,5,4,0,2,18] ?_
 refine qcE (fun (((x18, x19), g20) : ((Int × σ) × J.γ)) => [(0, .func (.yield L) #[] #[]), (1, .pointer (some ⟨g1, 0, none⟩)), (3, .int .i64 x18)]) (fun (((x18, x19), g20) : ((Int × σ) × J.γ)) => [⟨g1, 23, [.slice a3 x2.length c4]⟩] ++ J.IB x19 g20) (fun (((x18, x19), g20) : ((Int × σ) × J.γ)) => [] ++ J.IR x19 g20) (fun (((x18, x19), g20) : ((Int × σ) × J.γ)) => [Sl (eI .u8) 1 (.slice a3 x2.length c4) x2, J.F]) (fun k (s : ((Int × σ) × J.γ)) => ky F yy x2 k s.1) ((0, s0), gs0) F ?_ (hB := (.cons 0 rfl (zP 0 rfl))) (hR := (zP 0 rfl)) (hF := (qe 1 rfl (qe 0 rfl zi)))
 intro k34
 rintro ⟨⟨x18, x19⟩, g20⟩
 try dsimp only
 refine qN (m' := vt F yy x2 (ky F yy x2 k34) x18 x19) rfl ?_
 refine av [3,3,5,1,25,2,24,4,24,3,0,2,10] ?_ ?_
 intro _
 refine au [13,2,18,3,5,25,2,1,31,10] ?_
 intro x36 e36 _
 refine au [1,7,7,7,4,4,4,0,2,3,3,5,1,1,1] ?_
 refine qih hY x19 (x36.1, x36.2.2) g20 (B1 := [⟨g1, 23, [.slice a3 x2.length c4]⟩]) (R1 := []) (j := 1) rfl rfl rfl rfl rfl rfl rfl (fun x42 _ g44 => ?_) (fun x43 _ g44 => ?_)
 refine av [25,7,1,1,24,15,15,0,2,10] ?_ ?_
 intro _
 refine au [9,12,24,0,12,24,0] ?_
 exact qdv (B0 := [⟨g1, 23, [.slice a3 x2.length c4]⟩]) (x := .inl x42) g44 (.inl rfl) (res0 rfl) (.cons 0 rfl (zP 0 rfl)) (zP 0 rfl)
 intro _
 refine au [13,2,5,1,4,0,24,2] ?_
 exact jz ((x36.2.1, x42), g44) (hB := (.cons 0 rfl (zP 0 rfl))) (hR := (zP 0 rfl)) (hF := (qe 0 rfl (qe 1 rfl zi)))
 refine au [25,7,1,6,6,14,0,2] ?_
 refine qbC (b := true) rfl (fun _ => ?_) (fun h => by cases h)
 refine au [9,12,24,0,12,24,0] ?_
 exact qdv (B0 := [⟨g1, 23, [.slice a3 x2.length c4]⟩]) (x := .inr x43) g44 (.inl rfl) (res0 rfl) (.cons 0 rfl (zP 0 rfl)) (zP 0 rfl)
 intro _
 refine au [24,8,20,20,24,9] ?_
 exact qdv (B0 := [⟨g1, 23, [.slice a3 x2.length c4]⟩]) (x := .inl x19) g20 (.inr rfl) (res0 rfl) (.cons 0 rfl (zP 0 rfl)) (zP 0 rfl)
set_option maxHeartbeats 4000000 in
theorem qfe (F : Nat) (x1 : List Int) (a2 : Option Addr) (c3 : Nat) (r : (List Int × Int)) (hm : qby F x1 = some r) :
    PureM Tryz.prog 48 [.slice a2 x1.length c3] [] [] [Sl (eI .u8) 1 (.slice a2 x1.length c3) x1] (Option Addr × Nat) (fun g => .tuple #[.slice g.1 r.1.length g.2, .int .i64 r.2]) (fun _ => []) (fun g => [Ro (eI .u64) 80 1 (.slice g.1 r.1.length g.2) r.1]) := by
 refine qg0 Tryz.func48 rfl Tryz.ntmps48 rfl hm (fun w => ?_)
 refine au [24,14,3,5,23] ?_
 intro g4
 refine au [23] ?_
 intro g5
 refine av [0,2,3,3,5,1,24,4,24,13,0,2,10] ?_ ?_
 intro _
 refine au [3,5,25,6,22,0,2,9,12,29,13] ?_
 exact qcG [] (none, 0) (.inl rfl) rfl .nil (resL (rs := [.cell 2 33, .cell 3 34]) rfl (.cell (i := 1) rfl tf33 rfl rfl (fun _ => rfl) rfl (.cell (i := 0) rfl tf34 rfl rfl (fun _ => rfl) rfl ResOk.nil)) rfl) (fun h => by subst h; rfl) (fun h => by subst h; exact .nil) (fun h => by subst h; exact (.cons 0 rfl .nil))
 intro _
 refine au [13,2,3,5,23] ?_
 intro g7
 refine au [0,2,3,3,5,1] ?_
 refine kU qhG ?_
 intro x44 e44 g45
 refine au [0,2,18,31,11] ?_
 refine qfU (encs := (fun (p : (Int × Int)) => [.int .u64 p.1, .int .i64 p.2])) (y := (fun (x57 : List Int) ((x71, x72) : (Int × Int)) => yz F x57 x71 x72)) (lb := [.pointer (some ⟨g45, 0, none⟩)]) (fun (x57 : List Int) ((a55, c56) : (Option Addr × Nat)) => [⟨g7, 33, [.slice a55 x57.length c56]⟩, ⟨g5, 34, [.int .i64 0]⟩, ⟨g4, 33, [.slice none 0 0]⟩]) (fun (x57 : List Int) ((a55, c56) : (Option Addr × Nat)) => [Ro (eI .u64) 80 1 (.slice a55 x57.length c56) x57]) (fun ((x69, x70) : (List Int × Int)) ((a67, c68) : (Option Addr × Nat)) => [⟨g7, 33, [.slice a67 x69.length c68]⟩, ⟨g5, 34, [.int .i64 x70]⟩, ⟨g4, 33, [.slice none 0 0]⟩]) (fun ((x69, x70) : (List Int × Int)) ((a67, c68) : (Option Addr × Nat)) => [Ro (eI .u64) 80 1 (.slice a67 x69.length c68) x69]) (fun _ => .ret) ([] : List Int) (none, 0) rfl ent193 (fun _ => rfl) rfl (.cons 0 rfl .nil) (.cons 0 rfl (.cons 0 rfl (.cons 0 rfl .nil))) (.cons 0 rfl .nil) (.consF 0 rfl .nil) (fun z hz _ _ _ hY => qgj F hY ([] : List Int) (none, 0) g45 x1 a2 c3 z hz) ?_ ?_ ?_
 rintro rc1 L1 D1 x57 ⟨a55, c56⟩ ⟨x71, x72⟩ z w M _
 try dsimp only
 refine qg9 [(0, .slice a2 x1.length c3), (2, .pointer (some ⟨g4, 0, none⟩)), (3, .pointer (some ⟨g5, 0, none⟩)), (4, .pointer (some ⟨g7, 0, none⟩)), (7, .slice a2 x1.length c3), (8, .int .i64 (x1.length : Int)), (9, .bool (decide (4096 < (x1.length : Int)))), (10, .slice a2 x1.length c3), (11, .func (.func 193) #[] #[.pointer (some ⟨g45, 0, none⟩)]), (12, .int .u64 x71), (13, .int .i64 x72)] (qS rfl (qS rfl (qS rfl (qS rfl (qS rfl (qS rfl (qS rfl (qS rfl (qS rfl (qS rfl (qS rfl qeU))))))))))) ?_
 refine au [3,5,4,0,2,5,4,0] ?_
 refine qfW (i := 3) rfl ?_
 refine av [18,3,3,5,1,24,15,0,2,10] ?_ ?_
 intro _
 refine au [3,5,1] ?_
 refine zw (i := 2) rfl rfl rfl inferInstance rfl rfl rfl rfl rfl ?_
 refine au [25,6,0,2,9,12,24,0] ?_
 exact qeC (rc := rc1) rfl (.cons 3 rfl .nil) rfl (a55, c56) (.cons 1 rfl (.cons 1 rfl (.cons 1 rfl (.cons 0 rfl (.cons 0 rfl .nil))))) (.cons 0 rfl .nil)
 intro _
 refine au [13,2,5,25,2,1] ?_
 refine qq (vs := [.int .u64 x71]) (ys := ([x71] : List Int)) (qn .u64) (by decide) rfl Tryz.underlying33 tf80 rfl rfl rfl rfl rfl (by decide) (fun a74 c75 => yo 1 (qn .u64) rfl Tryz.underlying33 tf80 rfl rfl rfl rfl rfl (.inl ⟨0, _, rfl⟩) rfl rfl (fun x76 e76 a77 c78 => ?_))
 refine au [22,0,24,2] ?_
 exact qeC (rc := rc1) rfl (.cons 3 rfl .nil) rfl (a77, c78) (.cons 1 rfl (.cons 1 rfl (.cons 1 rfl (.cons 0 rfl (.cons 0 rfl .nil))))) (.cons 0 rfl .nil)
 rintro x57 _ ⟨a55, c56⟩ D1
 try dsimp only
 refine au [24,2,2,3,5,31,2] ?_
 refine zw (i := 4) rfl rfl rfl inferInstance rfl rfl rfl rfl rfl (zw (i := 3) rfl rfl rfl inferInstance rfl rfl rfl rfl rfl ?_)
 refine au [0,2,9] ?_
 exact qcG [D1] (a55, c56) (.inl rfl) rfl (.cons 0 rfl .nil) (resL (rs := [.cell 2 33, .cell 3 34]) rfl (.cell (i := 3) rfl tf33 rfl rfl (fun _ => rfl) rfl (.cell (i := 2) rfl tf34 rfl rfl (fun _ => rfl) rfl ResOk.nil)) rfl) (fun h => by subst h; rfl) (fun h => by subst h; exact .nil) (fun h => by subst h; exact (.cons 0 rfl .nil))
 rintro ⟨x69, x70⟩ _ ⟨a67, c68⟩ D1
 try dsimp only
 refine au [9,24,0,12,29,13] ?_
 exact qcG [D1] (none, 0) (.inl rfl) rfl (.cons 0 rfl .nil) (resL (rs := [.cell 2 33, .cell 3 34]) rfl (.cell (i := 3) rfl tf33 rfl rfl (fun _ => rfl) rfl (.cell (i := 2) rfl tf34 rfl rfl (fun _ => rfl) rfl ResOk.nil)) rfl) (fun h => by subst h; rfl) (fun h => by subst h; exact .nil) (fun h => by subst h; exact (.cons 0 rfl .nil))
set_option maxHeartbeats 4000000 in
theorem qiD {F : Nat} {x1 : Int} {x2 : List Int} {a3 : Option Addr} {c4 : Nat} {x5 : Int} {r : (Int × Int × Bool)} (hm : yD F x1 x2 x5 = some r) :
    Pure Tryz.prog 125 [.agg #[.int .i64 x1, .slice a3 x2.length c4], .int .i64 x5] [Sl (eI .u8) 1 (.slice a3 x2.length c4) x2] Unit (fun _ => .tuple #[.int .u64 r.1, .int .i64 r.2.1, .bool r.2.2]) (fun _ => []) (fun _ => []) := by
 refine qk Tryz.func125 rfl Tryz.ntmps125 rfl hm (fun w => ?_)
 refine au [24,10,3,5,24,6] ?_
 intro g6
 refine au [4,4,4,0,2] ?_
 refine qm (fun ((_, _) : (Unit × Unit)) => ([], [], [], [], qdY F)) ?_ ?_
 refine au [3,5,1,4,0,2,18] ?_
 refine qx (fun ((x33, _) : (Int × Unit)) => ([(1, .int .i64 x5), (2, .pointer (some ⟨g6, 0, none⟩)), (7, .int .i64 x33)], [⟨g6, 25, [.int .i64 x1, .slice a3 x2.length c4]⟩], [], [Sl (eI .u8) 1 (.slice a3 x2.length c4) x2])) (fun k (s : (Int × Unit)) => yu F x1 x2 x5 k s.1) (x5, ()) F ?_
 intro k40
 rintro ⟨x33, _⟩
 try dsimp only
 refine qN (m' := qaJ F x1 x2 x5 (yu F x1 x2 x5 k40) x33) rfl ?_
 refine av [3,3,5,1,24,11,25,2,24,3,0,2,10] ?_ ?_
 intro _
 refine au [13,2,3,18,3,5,24,5,1,27,5] ?_
 intro x44 e44 _
 refine av [19,0,2,10] ?_ ?_
 intro _
 exact az [3,5,1,1,25,0,25,10,1,21,4,4,4,0,2,9,24,0,12,12,24,0,12,16]
 intro _
 refine au [13,24,2,2,5,1,21,4,0] ?_
 exact qs (iadd .i64 x33 1, ())
 intro _
 exact az [24,8,20,20,24,9,25,13]
 rintro ⟨_, _⟩
 try dsimp only
 exact az [3,5,4,4,4,0,2,9,16]
set_option maxHeartbeats 4000000 in
theorem qf4 (F : Nat) (x1 : Int) (x2 : List Int) (a3 : Option Addr) (c4 : Nat) (x5 : Int) (r : (List Int × Int × Int)) (hm : qb4 F x1 x2 x5 = some r) :
    Pure Tryz.prog 49 [.agg #[.int .i64 x1, .slice a3 x2.length c4], .int .i64 x5] [Sl (eI .u8) 1 (.slice a3 x2.length c4) x2] (Option Addr × Nat) (fun g => .tuple #[.slice g.1 r.1.length g.2, .int .i64 r.2.1, .int .i64 r.2.2]) (fun g => [Ro (eI .u64) 80 1 (.slice g.1 r.1.length g.2) r.1]) (fun _ => []) := by
 refine qk Tryz.func49 rfl Tryz.ntmps49 rfl hm (fun w => ?_)
 refine au [24,10,3,5,24,6] ?_
 intro g6
 refine au [4,4,4,0,2,3,5,24,5,26,8] ?_
 intro x7 e7 _
 refine au [4,0,2] ?_
 refine qm (fun ((x13, _) : (Int × Unit)) => ([(1, .int .i64 x5), (2, .pointer (some ⟨g6, 0, none⟩)), (4, .slice none 0 0), (5, .int .i64 0), (6, .int .i64 x13)], [⟨g6, 25, [.int .i64 x1, .slice a3 x2.length c4]⟩], [], [Sl (eI .u8) 1 (.slice a3 x2.length c4) x2], yW F x1 x2 x5 x13)) ?_ ?_
 refine au [3,5,1,19,1] ?_
 refine qy 7 (fun ((x171, _) : (Bool × Unit)) => ([(1, .int .i64 x5), (2, .pointer (some ⟨g6, 0, none⟩)), (4, .slice none 0 0), (5, .int .i64 0), (6, .int .i64 x7), (21, .bool x171)], [⟨g6, 25, [.int .i64 x1, .slice a3 x2.length c4]⟩], [], [Sl (eI .u8) 1 (.slice a3 x2.length c4) x2], yr F x1 x2 x5 x7 x171)) ?_ ?_
 refine qa (os := _) rfl ?_
 refine av [24,12] ?_ ?_
 intro h169
 refine qg (k := 14) rfl h169 ?_
 refine au [1,24,3,1] ?_
 refine qi 3 (decide (x5 < 0)) [(1, .int .i64 x5), (2, .pointer (some ⟨g6, 0, none⟩)), (4, .slice none 0 0), (5, .int .i64 0), (6, .int .i64 x7), (14, .bool true), (20, .bool ((decide (x5 < 0)) || (decide (8192 < x5))))] (fun h173 => ?_) (fun h173 => ?_) ?_
 refine qa (os := _) rfl (qg (k := 17) rfl h173 ?_)
 refine au [6,6,14] ?_
 refine qb (d := 20) (v := .bool ((decide (x5 < 0)) || (decide (8192 < x5)))) rfl (by rw [h173]; simp only [Bool.true_or]) ?_
 exact az [0,8]
 refine qa (os := _) rfl (qf (k := 17) rfl h173 ?_)
 refine au [1,24,13,15] ?_
 refine qb (d := 20) (v := .bool ((decide (x5 < 0)) || (decide (8192 < x5)))) rfl (by rw [h173]; simp only [Bool.false_or]) ?_
 exact az [0,8]
 refine qa (os := _) rfl ?_
 refine au [14,0] ?_
 exact qc (((decide (x5 < 0)) || (decide (8192 < x5))), ())
 intro h169
 refine qf (k := 14) rfl h169 ?_
 refine au [6,6,6,6,6,6,15,0] ?_
 exact qc (false, ())
 rintro ⟨x171, _⟩
 try dsimp only
 refine qa (os := _) rfl ?_
 refine av [0,2,10] ?_ ?_
 intro _
 refine au [5,4,0] ?_
 exact qc ((3 : Int), ())
 intro _
 refine au [13] ?_
 exact qc (x7, ())
 rintro ⟨x13, _⟩
 try dsimp only
 refine qm (fun (((x90, x91, x92), (a88, c89)) : ((List Int × Int × Int) × (Option Addr × Nat))) => ([(4, .slice a88 x90.length c89), (5, .int .i64 x91), (6, .int .i64 x92)], [], [Ro (eI .u64) 80 1 (.slice a88 x90.length c89) x90], [], qch F x90 x91 x92)) ?_ ?_
 refine au [18,31,11] ?_
 refine qx (fun (((x118, x121, x122, x123), (a119, c120)) : ((Int × List Int × Int × Int) × (Option Addr × Nat))) => ([(1, .int .i64 x118), (2, .pointer (some ⟨g6, 0, none⟩)), (4, .slice a119 x121.length c120), (5, .int .i64 x122), (6, .int .i64 x123)], [⟨g6, 25, [.int .i64 x1, .slice a3 x2.length c4]⟩], [Ro (eI .u64) 80 1 (.slice a119 x121.length c120) x121], [Sl (eI .u8) 1 (.slice a3 x2.length c4) x2])) (fun k (s : ((Int × List Int × Int × Int) × (Option Addr × Nat))) => kZ F x1 x2 k s.1) ((x5, ([] : List Int), 0, x13), (none, 0)) F ?_
 intro k146
 rintro ⟨⟨x118, x121, x122, x123⟩, ⟨a119, c120⟩⟩
 try dsimp only
 refine qN (m' := zO F x1 x2 (kZ F x1 x2 k146) x118 x121 x122 x123) rfl ?_
 refine au [3,3,5,1,19,1] ?_
 refine qi 3 ((x123 : Int) == 0) [(1, .int .i64 x118), (2, .pointer (some ⟨g6, 0, none⟩)), (4, .slice a119 x121.length c120), (5, .int .i64 x122), (6, .int .i64 x123), (27, .bool (((x123 : Int) == 0) && (decide (0 < x118))))] (fun h149 => ?_) (fun h149 => ?_) ?_
 refine qa (os := _) rfl (qg (k := 24) rfl h149 ?_)
 refine au [1,24,13,14] ?_
 refine qb (d := 27) (v := .bool (((x123 : Int) == 0) && (decide (0 < x118)))) rfl (by rw [h149]; simp only [Bool.true_and]) ?_
 exact az [0,8]
 refine qa (os := _) rfl (qf (k := 24) rfl h149 ?_)
 refine au [6,6,15] ?_
 refine qb (d := 27) (v := .bool (((x123 : Int) == 0) && (decide (0 < x118)))) rfl (by rw [h149]; simp only [Bool.false_and]) ?_
 exact az [0,8]
 refine qa (os := _) rfl ?_
 refine av [0,2,10] ?_ ?_
 intro _
 refine au [13,2,3,18,3,5,24,5,1,27,13] ?_
 intro x159 e159 _
 refine au [1,7,7,7,4,4,4,0,2] ?_
 refine qm (fun ((x161, _) : (Int × Unit)) => ([(1, .int .i64 x118), (2, .pointer (some ⟨g6, 0, none⟩)), (4, .slice a119 x121.length c120), (6, .int .i64 x161), (7, .int .u64 x159.1), (8, .int .i64 x159.2.1)], [⟨g6, 25, [.int .i64 x1, .slice a3 x2.length c4]⟩], [Ro (eI .u64) 80 1 (.slice a119 x121.length c120) x121], [Sl (eI .u8) 1 (.slice a3 x2.length c4) x2], vF F (kZ F x1 x2 k146) x118 x121 x159 x161)) ?_ ?_
 refine av [3,5,1,25,7,0,2,10] ?_ ?_
 intro _
 refine au [5,4,0] ?_
 exact qc ((7 : Int), ())
 intro _
 refine au [13] ?_
 exact qc (x123, ())
 rintro ⟨x161, _⟩
 try dsimp only
 refine au [5,1,1] ?_
 refine qq (vs := [.int .u64 x159.1]) (ys := ([x159.1] : List Int)) (qn .u64) (by decide) rfl Tryz.underlying33 tf80 rfl rfl rfl rfl rfl (by decide) (fun a162 c163 => yo 1 (qn .u64) rfl Tryz.underlying33 tf80 rfl rfl rfl rfl rfl (.inl ⟨0, _, rfl⟩) rfl rfl (fun x164 e164 a165 c166 => ?_))
 refine au [1,4,4,0,24,2,2,5,1,25,0,4,0] ?_
 exact qs ((isub .i64 x118 1, x164, x159.2.1, x161), (a165, c166))
 intro _
 refine au [24,8,20,20,24,9] ?_
 exact qc ((x121, x122, x123), (a119, c120))
 rintro ⟨⟨x90, x91, x92⟩, ⟨a88, c89⟩⟩
 try dsimp only
 refine av [3,3,5,1,24,15,0,2,10] ?_ ?_
 intro _
 refine au [3,5,1,4,4,4,0,2,9,12,29,13] ?_
 exact zC (none, 0)
 intro _
 refine au [13,2,3,5,1,1,4,4,4,0,2,9] ?_
 exact zC (a88, c89)
theorem qgh (F : Nat) (x1 : Int) (r : Bool) (hm : qcf F x1 = some r) :
    Pure Tryz.prog 195 [.int .i64 x1] [] Unit (fun _ => .bool r) (fun _ => []) (fun _ => []) := by
 refine qk Tryz.func195 rfl Tryz.ntmps195 rfl hm (fun w => ?_)
 refine au [24,14,3,5,4,0,2,3,5,1,24,3,1] ?_
 refine qi 3 (decide (x1 < 0)) [(8, .bool ((decide (x1 < 0)) || (decide (24 < x1))))] (fun h2 => ?_) (fun h2 => ?_) ?_
 refine qa (os := _) rfl (qg (k := 5) rfl h2 ?_)
 refine au [6,6,14] ?_
 refine qb (d := 8) (v := .bool ((decide (x1 < 0)) || (decide (24 < x1)))) rfl (by rw [h2]; simp only [Bool.true_or]) ?_
 exact az [0,8]
 refine qa (os := _) rfl (qf (k := 5) rfl h2 ?_)
 refine au [1,24,13,15] ?_
 refine qb (d := 8) (v := .bool ((decide (x1 < 0)) || (decide (24 < x1)))) rfl (by rw [h2]; simp only [Bool.false_or]) ?_
 exact az [0,8]
 refine qa (os := _) rfl ?_
 exact az [4,0,2,9,16]
set_option maxHeartbeats 4000000 in
theorem vO {F : Nat} {x1 : List Int} {a2 : Option Addr} {c3 : Nat} {r : Int} (hm : zD F x1 = some r) :
    Pure Tryz.prog 205 [.slice a2 x1.length c3, .func (.func 195) #[] #[]] [Sl (eI .i64) 1 (.slice a2 x1.length c3) x1] Unit (fun _ => .int .i64 r) (fun _ => []) (fun _ => []) := by
 refine qk Tryz.func205 rfl Tryz.ntmps205 rfl hm (fun w => ?_)
 refine au [24,10,3,5,4,0,2] ?_
 refine qm (fun ((_, _) : (Unit × Unit)) => ([], [], [], [], z6 F)) ?_ ?_
 refine au [3,5,1,24,4,1,0,2,18] ?_
 refine qx (fun ((x54, _) : (Int × Unit)) => ([(0, .slice a2 x1.length c3), (1, .func (.func 195) #[] #[]), (7, .int .i64 (x1.length : Int)), (8, .int .i64 x54)], [], [], [Sl (eI .i64) 1 (.slice a2 x1.length c3) x1])) (fun k (s : (Int × Unit)) => qC F x1 k s.1) (0, ()) F ?_
 intro k67
 rintro ⟨x54, _⟩
 try dsimp only
 refine qN (m' := qZ F x1 (qC F x1 k67) x54) rfl ?_
 refine av [3,5,24,3,0,2,3,10] ?_ ?_
 intro _
 refine au [13,2,3,18,3,5,1,4,0,2,3,5,1,1,1,26,6] ?_
 intro x74 e74 b75 o76
 refine au [25,9] ?_
 refine yZ ent195 rfl rfl rfl rfl (fun x77 e77 => qgh F x74 x77 e77) .nil (fun x77 e77 _ => ?_)
 refine av [0,2,10] ?_ ?_
 intro _
 exact az [3,5,1,4,0,2,9,24,0,12,12,24,0,12,16]
 intro _
 refine au [13,24,2,2,5,21,1,0] ?_
 exact qs (iadd .i64 x54 1, ())
 intro _
 exact az [24,8,20,20,24,9,25,13]
 rintro ⟨_, _⟩
 try dsimp only
 exact az [3,5,4,0,2,9,16]
theorem y9 {F : Nat} {x1 : List Int} {a2 : Option Addr} {c3 : Nat} {r : Bool} (hm : zr F x1 = some r) :
    Pure Tryz.prog 133 [.slice a2 x1.length c3, .func (.func 195) #[] #[]] [Sl (eI .i64) 1 (.slice a2 x1.length c3) x1] Unit (fun _ => .bool r) (fun _ => []) (fun _ => []) := by
 refine qk Tryz.func133 rfl Tryz.ntmps133 rfl hm (fun w => ?_)
 refine au [24,10,3,5,4,0,2,3,5,1,1] ?_
 refine qh vO ?_
 intro x4 e4 _
 exact az [25,5,4,0,2,9,16]
theorem qhB {F : Nat} {x1 : List Int} {a2 : Option Addr} {c3 : Nat} {r : Int} (hm : vM F x1 = some r) :
    Pure Tryz.prog 126 [.slice a2 x1.length c3] [Sl (eI .i64) 1 (.slice a2 x1.length c3) x1] Unit (fun _ => .int .i64 r) (fun _ => []) (fun _ => []) := by
 refine qk Tryz.func126 rfl Tryz.ntmps126 rfl hm (fun w => ?_)
 refine av [24,14,3,5,4,0,2,3,18,3,5,1,24,4,24,13,4,0,2,10] ?_ ?_
 intro _
 exact az [3,5,4,0,2,9,24,0,12,16]
 intro _
 refine au [3,5,1] ?_
 refine qh y9 ?_
 intro x7 e7 _
 refine av [4,0,2,10] ?_ ?_
 intro _
 exact az [3,5,4,0,2,9,24,0,12,16]
 intro _
 exact az [13,24,2,2,3,5,4,0,2,9,16]
set_option maxHeartbeats 4000000 in
theorem qiA {F : Nat} {x1 : List Int} {a2 : Option Addr} {c3 : Nat} {r : Int} (hm : qbv F x1 = some r) :
    Pure Tryz.prog 127 [.slice a2 x1.length c3] [Sl (eI .i64) 1 (.slice a2 x1.length c3) x1] Unit (fun _ => .int .i64 r) (fun _ => []) (fun _ => []) := by
 refine qk Tryz.func127 rfl Tryz.ntmps127 rfl hm (fun w => ?_)
 refine au [24,14,3,5,4,0,2,3,5,4,0,2] ?_
 refine qm (fun ((x52, _) : (Int × Unit)) => ([(3, .int .i64 x52)], [], [], [], qdX F x52)) ?_ ?_
 refine au [3,5,1,24,4,1,0,2,18] ?_
 refine qx (fun (((x68, x69), _) : ((Int × Int) × Unit)) => ([(3, .int .i64 x68), (6, .slice a2 x1.length c3), (7, .int .i64 (x1.length : Int)), (8, .int .i64 x69)], [], [], [Sl (eI .i64) 1 (.slice a2 x1.length c3) x1])) (fun k (s : ((Int × Int) × Unit)) => kX F x1 k s.1) ((16777216, 0), ()) F ?_
 intro k85
 rintro ⟨⟨x68, x69⟩, _⟩
 try dsimp only
 refine qN (m' := qaF F x1 (kX F x1 k85) x68 x69) rfl ?_
 refine av [3,5,24,3,0,2,3,10] ?_ ?_
 intro _
 refine au [13,2] ?_
 refine qm (fun ((x93, _) : (Int × Unit)) => ([(3, .int .i64 x93), (6, .slice a2 x1.length c3), (7, .int .i64 (x1.length : Int)), (8, .int .i64 x69)], [], [], [Sl (eI .i64) 1 (.slice a2 x1.length c3) x1], qaG F (kX F x1 k85) x69 x93)) ?_ ?_
 refine au [18,3,5,26,6] ?_
 intro x94 e94 b95 o96
 refine av [25,9,4,0,2,3,5,1,24,13,0,2,10] ?_ ?_
 intro _
 refine au [5,1,1,25,0,25,4] ?_
 intro h97
 refine qc9 rfl rfl rfl rfl h97 ?_
 refine au [25,0,4,26,4] ?_
 intro x98 e98
 refine qb (d := 3) (v := .int .i64 x98) rfl (by rw [e98] <;> rfl) ?_
 refine au [0,24,2] ?_
 exact qc (x98, ())
 intro _
 refine au [13,24,2] ?_
 exact qc (x68, ())
 rintro ⟨x93, _⟩
 try dsimp only
 refine au [5,21,1,0] ?_
 exact qs ((x93, iadd .i64 x69 1), ())
 intro _
 refine au [24,8,20,20,24,9] ?_
 exact qc (x68, ())
 rintro ⟨x52, _⟩
 try dsimp only
 exact az [3,5,1,4,0,2,9,16]
theorem qit {F : Nat} {x1 : List Int} {a2 : Option Addr} {c3 : Nat} {r : Int} (hm : qbc F x1 = some r) :
    Pure Tryz.prog 198 [.slice a2 x1.length c3] [Sl (eI .i64) 1 (.slice a2 x1.length c3) x1] Unit (fun _ => .int .i64 r) (fun _ => []) (fun _ => []) := by
 refine qk Tryz.func198 rfl Tryz.ntmps198 rfl hm (fun w => ?_)
 refine au [24,14,3,5,4,0,2,3,5,4,0,2] ?_
 refine qm (fun ((_, _) : (Unit × Unit)) => ([(3, .int .i64 0)], [], [], [], qdV F)) ?_ ?_
 refine au [3,5,1,24,4,1,0,2,18] ?_
 refine qx (fun ((x46, _) : (Int × Unit)) => ([(3, .int .i64 0), (6, .slice a2 x1.length c3), (7, .int .i64 (x1.length : Int)), (8, .int .i64 x46)], [], [], [Sl (eI .i64) 1 (.slice a2 x1.length c3) x1])) (fun k (s : (Int × Unit)) => kV F x1 k s.1) (0, ()) F ?_
 intro k57
 rintro ⟨x46, _⟩
 try dsimp only
 refine qN (m' := kp F x1 (kV F x1 k57) x46) rfl ?_
 refine av [3,5,24,3,0,2,3,10] ?_ ?_
 intro _
 refine au [13,2,3,18,3,5,26,6] ?_
 intro x63 e63 b64 o65
 refine av [25,9,4,0,2,3,5,1,1,24,15,0,2,10] ?_ ?_
 intro _
 exact az [3,5,1,4,0,2,9,24,0,12,12,24,0,12,16]
 intro _
 refine au [13,24,2,2,5,21,1,0] ?_
 exact qs (iadd .i64 x46 1, ())
 intro _
 exact az [24,8,20,20,24,9,25,13]
 rintro ⟨_, _⟩
 try dsimp only
 exact az [3,5,1,4,0,2,9,16]
theorem qgg {F : Nat} {x1 : Int} {r : Bool} (hm : qaB F x1 = some r) :
    Pure Tryz.prog 238 [.int .i64 x1] [] Unit (fun _ => .bool r) (fun _ => []) (fun _ => []) := by
 refine qk Tryz.func238 rfl Tryz.ntmps238 rfl hm (fun w => ?_)
 exact az [24,14,3,5,4,0,2,3,5,1,1,24,15,4,0,2,9,16]
set_option maxHeartbeats 4000000 in
theorem qe3 {F : Nat} {x1 : Int} {x2 : Int} {r : Int} (hm : kd F x1 x2 = some r) :
    Pure Tryz.prog 199 [.int .i64 x1, .int .i64 x2] [] Unit (fun _ => .int .i64 r) (fun _ => []) (fun _ => []) := by
 refine qk Tryz.func199 rfl Tryz.ntmps199 rfl hm (fun w => ?_)
 refine au [24,10,3,5,4,0,2,3,5,1,31,12] ?_
 intro x3 e3 _
 refine au [4,0,2,3,5,1,31,12] ?_
 intro x4 e4 _
 refine av [4,0,2,3,3,5,1,0,2,10] ?_ ?_
 intro _
 refine av [3,3,5,1,0,2,10] ?_ ?_
 intro _
 exact az [3,5,4,0,2,9,12,12,16]
 intro _
 exact az [13,2,3,5,4,0,2,9,12,16]
 intro _
 refine av [13,2,3,3,5,1,0,2,10] ?_ ?_
 intro _
 exact az [3,5,4,0,2,9,12,16]
 intro _
 refine av [13,2,3,3,5,1,1,24,3,0,2,10] ?_ ?_
 intro _
 exact az [3,5,4,0,2,9,12,16]
 intro _
 refine av [13,2,3,3,5,1,1,24,13,0,2,10] ?_ ?_
 intro _
 exact az [3,5,4,0,2,9,12,16]
 intro _
 exact az [13,2,3,5,4,0,2,9,16]
theorem qgH (F : Nat) (x1 : Int) (x2 : Int) (g3 : Nat) (x4 : List Int) (a5 : Option Addr) (c6 : Nat) (r : Int) (hm : qbw F x1 x2 x4 = some r) :
    PureM Tryz.prog 197 [.int .i64 x1, .int .i64 x2, .pointer (some ⟨g3, 0, none⟩)] [⟨g3, 22, [.slice a5 x4.length c6]⟩] [] [Sl (eI .i64) 1 (.slice a5 x4.length c6) x4] Unit (fun _ => .int .i64 r) (fun _ => [⟨g3, 22, [.slice a5 x4.length c6]⟩]) (fun _ => []) := by
 refine k6 Tryz.func197 rfl Tryz.ntmps197 rfl hm (fun w => ?_)
 refine au [25,8,3,5,4,0,2,3,28,12] ?_
 intro x20 e20 b21 o22 h23
 replace h23 : a5 = some ⟨b21, o22, none⟩ := h23
 refine au [31,13] ?_
 intro x24 e24 b25 o26 h27
 replace h27 : a5 = some ⟨b25, o26, none⟩ := h27
 refine qT mixed [] [⟨g3, 22, [.slice a5 x4.length c6]⟩] [qJ b25 (o26 + x2.toNat * 1) ((eI .i64) x24), qJ b21 (o22 + x1.toNat * 1) ((eI .i64) x20), Sl (eI .i64) 1 (.slice a5 x4.length c6) x4] (.cons 0 rfl .nil) (qz 0 rfl (qz 1 rfl (qz 2 rfl qL))) 15 rfl ?_
 refine au [25,11,0,11,1] ?_
 refine qo (d := 6) (v := .slice (some ⟨b21, o22, none⟩) x4.length c6) rfl (by rw [h23] <;> rfl) (qj 2 (.pointer (some ⟨b21, (o22 + x1.toNat * 1), none⟩)) rfl rfl rfl (qak Tryz.underlying22 tf3 rfl rfl (qt e20).1 (kH e20)) (qo (d := 6) (v := .slice a5 x4.length c6) rfl (by rw [h23] <;> rfl) (zq 3 (.int .i64 x20) [] rfl rfl rfl (zN (j := 1) rfl tf3 rfl rfl (fun _ => rfl) rfl) ?_)))
 refine au [25,11,4,11,5] ?_
 refine qo (d := 10) (v := .slice (some ⟨b25, o26, none⟩) x4.length c6) rfl (by rw [h27] <;> rfl) (qj 6 (.pointer (some ⟨b25, (o26 + x2.toNat * 1), none⟩)) rfl rfl rfl (qak Tryz.underlying22 tf3 rfl rfl (qt e24).1 (kH e24)) (qo (d := 10) (v := .slice a5 x4.length c6) rfl (by rw [h27] <;> rfl) (zq 7 (.int .i64 x24) [] rfl rfl rfl (zN (j := 0) rfl tf3 rfl rfl (fun _ => rfl) rfl) ?_)))
 refine au [11,9,11,10,17,8,28,6] ?_
 intro x28 e28 _
 refine au [0,28,7,17,11,28,6] ?_
 intro x29 e29 _
 refine au [0,28,7,17,12] ?_
 refine qq (vs := [.int .i64 x28, .int .i64 x29]) (ys := ([x28, x29] : List Int)) (qn .i64) (by decide) rfl Tryz.underlying22 tf3 rfl rfl rfl rfl rfl (by decide) (fun a30 c31 => ?_)
 refine au [0,28,7,17,13,31,14] ?_
 intro x32 e32 _
 refine au [0,28,7,11,14,24,7] ?_
 refine qR ?_ (by intro c h; cases h)
 exact az [2,9,31,8]
theorem jk {F : Nat} {x1 : List Int} {a2 : Option Addr} {c3 : Nat} {g4 : Nat} {x5 : List Int} {a6 : Option Addr} {c7 : Nat} {r : List Int} (hm : zM F x1 x5 = some r) :
    PureM Tryz.prog 196 [.slice a2 x1.length c3, .func (.func 197) #[] #[.pointer (some ⟨g4, 0, none⟩)]] [⟨g4, 22, [.slice a6 x5.length c7]⟩] [Ro (eI .i64) 3 1 (.slice a2 x1.length c3) x1] [Sl (eI .i64) 1 (.slice a6 x5.length c7) x5] Unit (fun _ => .tuple #[]) (fun _ => [⟨g4, 22, [.slice a6 x5.length c7]⟩]) (fun _ => [Ro (eI .i64) 3 1 (.slice a2 r.length c3) r]) :=
  qkg (cb := [.pointer (some ⟨g4, 0, none⟩)]) (BC := [⟨g4, 22, [.slice a6 x5.length c7]⟩]) (Φ := [Sl (eI .i64) 1 (.slice a6 x5.length c7) x5]) (qn .i64) (by decide) (qk0 _) (fun p cap w => Tryz.sortn196 p cap _ w) (fun a b z h => qgH F a b g4 x5 a6 c7 z h) hm
set_option maxHeartbeats 4000000 in
theorem qiB {F : Nat} {x1 : List Int} {a2 : Option Addr} {c3 : Nat} {r : List Int} (hm : qcu F x1 = some r) :
    Pure Tryz.prog 128 [.slice a2 x1.length c3] [Sl (eI .i64) 1 (.slice a2 x1.length c3) x1] (Option Addr × Nat) (fun g => .slice g.1 r.length g.2) (fun g => [Ro (eI .i64) 3 1 (.slice g.1 r.length g.2) r]) (fun _ => []) := by
 refine qk Tryz.func128 rfl Tryz.ntmps128 rfl hm (fun w => ?_)
 refine au [24,14,3,5,24,6] ?_
 intro g4
 refine au [4,0,2,3,5,4,0,2] ?_
 refine qm (fun ((x81, (a79, c80)) : (List Int × (Option Addr × Nat))) => ([(1, .pointer (some ⟨g4, 0, none⟩)), (3, .slice a79 x81.length c80)], [⟨g4, 22, [.slice a2 x1.length c3]⟩], [Ro (eI .i64) 3 1 (.slice a79 x81.length c80) x81], [Sl (eI .i64) 1 (.slice a2 x1.length c3) x1], qcg F x1 x81)) ?_ ?_
 refine au [3,5,25,2,24,4,1,0,2,18,29,11] ?_
 refine qx (fun (((x109, x110), (a107, c108)) : ((List Int × Int) × (Option Addr × Nat))) => ([(1, .pointer (some ⟨g4, 0, none⟩)), (3, .slice a107 x109.length c108), (6, .slice a2 x1.length c3), (7, .int .i64 (x1.length : Int)), (8, .int .i64 x110)], [⟨g4, 22, [.slice a2 x1.length c3]⟩], [Ro (eI .i64) 3 1 (.slice a107 x109.length c108) x109], [Sl (eI .i64) 1 (.slice a2 x1.length c3) x1])) (fun k (s : ((List Int × Int) × (Option Addr × Nat))) => kY F x1 k s.1) ((([] : List Int), 0), (none, 0)) F ?_
 intro k134
 rintro ⟨⟨x109, x110⟩, ⟨a107, c108⟩⟩
 try dsimp only
 refine qN (m' := qaH F x1 (kY F x1 k134) x109 x110) rfl ?_
 refine av [3,5,24,3,0,2,3,10] ?_ ?_
 intro _
 refine au [13,2] ?_
 refine qm (fun ((x147, (a145, c146)) : (List Int × (Option Addr × Nat))) => ([(1, .pointer (some ⟨g4, 0, none⟩)), (3, .slice a145 x147.length c146), (6, .slice a2 x1.length c3), (7, .int .i64 (x1.length : Int)), (8, .int .i64 x110)], [⟨g4, 22, [.slice a2 x1.length c3]⟩], [Ro (eI .i64) 3 1 (.slice a145 x147.length c146) x147], [Sl (eI .i64) 1 (.slice a2 x1.length c3) x1], qaI F (kY F x1 k134) x110 x147)) ?_ ?_
 refine au [18,3,5,1,26,6] ?_
 intro x148 e148 b149 o150
 refine av [25,9,4,4,0,2,3,5,1,24,13,0,2,10] ?_ ?_
 intro _
 refine au [5,1,1] ?_
 refine qq (vs := [.int .i64 x110]) (ys := ([x110] : List Int)) (qn .i64) (by decide) rfl Tryz.underlying22 tf3 rfl rfl rfl rfl rfl (by decide) (fun a151 c152 => yo 1 (qn .i64) rfl Tryz.underlying22 tf3 rfl rfl rfl rfl rfl (.inl ⟨0, _, rfl⟩) rfl rfl (fun x153 e153 a154 c155 => ?_))
 refine au [4,0,24,2] ?_
 exact qc (x153, (a154, c155))
 intro _
 refine au [13,24,2] ?_
 exact qc (x109, (a107, c108))
 rintro ⟨x147, ⟨a145, c146⟩⟩
 try dsimp only
 refine au [5,21,1,0] ?_
 exact qs ((x147, iadd .i64 x110 1), (a145, c146))
 intro _
 refine au [24,8,20,20,24,9] ?_
 exact qc (x109, (a107, c108))
 rintro ⟨x81, ⟨a79, c80⟩⟩
 try dsimp only
 refine au [3,5,1,29,2] ?_
 refine kU jk ?_
 intro x82 e82 _
 refine au [25,4] ?_
 intro h83
 replace h83 := of_decide_eq_true h83
 refine qb (d := 3) (v := .slice a79 x82.length c80) rfl (by rw [h83] <;> rfl) (qb (d := 20) (v := .slice a79 x82.length c80) rfl (by rw [h83] <;> rfl) ?_)
 refine au [0,2,3,5,1,4,0,2,9] ?_
 exact zC (a79, c80)
set_option maxHeartbeats 4000000 in
theorem qda (F : Nat) (x1 : List Int) (a2 : Option Addr) (c3 : Nat) (r : (List (Int × List Int) × Int)) (hm : z8 F x1 = some r) :
    Pure Tryz.prog 50 [.slice a2 x1.length c3] [Sl (eI .i64) 1 (.slice a2 x1.length c3) x1] (Option Addr × (Nat × List (Option Addr × Nat))) (fun g => .tuple #[.slice g.1 r.1.length g.2.1, .int .i64 r.2]) (fun g => [RoN eN25 rN25 25 2 (.slice g.1 r.1.length g.2.1) r.1 g.2.2 []]) (fun _ => []) := by
 refine qk Tryz.func50 rfl Tryz.ntmps50 rfl hm (fun w => ?_)
 refine au [24,14,3,5,4,4,0,2,3,5,1,29,14] ?_
 intro x4 e4 _
 refine au [4,0,2] ?_
 refine qm (fun ((x10, _) : (Int × Unit)) => ([(0, .slice a2 x1.length c3), (4, .int .i64 x10)], [], [], [Sl (eI .i64) 1 (.slice a2 x1.length c3) x1], qaa F x1 x10)) ?_ ?_
 refine au [3,5,1,19,1] ?_
 refine qy 4 (fun ((x650, _) : (Bool × Unit)) => ([(0, .slice a2 x1.length c3), (4, .int .i64 x4), (18, .bool x650)], [], [], [Sl (eI .i64) 1 (.slice a2 x1.length c3) x1], qab F x1 x4 x650)) ?_ ?_
 refine qa (os := _) rfl ?_
 refine av [24,12] ?_ ?_
 intro h648
 refine qg (k := 14) rfl h648 ?_
 refine au [1,31,15] ?_
 intro x652 e652 _
 refine au [24,3,14,0] ?_
 exact qc ((decide (x652 < 0)), ())
 intro h648
 refine qf (k := 14) rfl h648 ?_
 refine au [6,6,6,15,0] ?_
 exact qc (false, ())
 rintro ⟨x650, _⟩
 try dsimp only
 refine qa (os := _) rfl ?_
 refine av [0,2,10] ?_ ?_
 intro _
 refine au [5,4,0] ?_
 exact qc ((8 : Int), ())
 intro _
 refine au [13] ?_
 exact qc (x4, ())
 rintro ⟨x10, _⟩
 try dsimp only
 refine av [3,3,5,1,24,15,0,2,10] ?_ ?_
 intro _
 refine au [3,5,1,4,4,0,2,9,12] ?_
 exact qoA (Int × List Int) (Option Addr × Nat) eN25 rN25 25 2 (zC (none, (0, ([] : List (Option Addr × Nat)))))
 intro _
 refine au [13,2,3,5,1,24,4] ?_
 refine qpw (rin := rN25) (y := ((0 : Int), ([] : List Int))) (q := ((none, 0) : Option Addr × Nat)) kR (by decide) qnL rfl UnF.u inferInstance rfl rfl rfl rfl rfl rfl ?_
 intro x12 e12 a13 c14
 refine au [4,0,2,3,5,4,4,0,2] ?_
 refine qm (fun ((x331, g330) : (List (Int × List Int) × List (Option Addr × Nat))) => ([(5, .slice a13 x331.length c14)], [], [RoN eN25 rN25 25 2 (.slice a13 x331.length c14) x331 g330 []], [], qbO F x331)) ?_ ?_
 refine au [3,5,1] ?_
 refine qh qiB ?_
 rintro x332 e332 ⟨a333, c334⟩
 refine au [24,4,1,0,2,18] ?_
 refine qx (fun (((x438, x439, x440, x441), g437) : ((List (Int × List Int) × Int × Int × Int) × List (Option Addr × Nat))) => ([(0, .slice a2 x1.length c3), (5, .slice a13 x438.length c14), (6, .int .u64 x439), (7, .int .i64 x440), (26, .slice a333 x332.length c334), (27, .int .i64 (x332.length : Int)), (28, .int .i64 x441)], [], [RoN eN25 rN25 25 2 (.slice a13 x438.length c14) x438 g437 [], Ro (eI .i64) 3 1 (.slice a333 x332.length c334) x332], [Sl (eI .i64) 1 (.slice a2 x1.length c3) x1])) (fun k (s : ((List (Int × List Int) × Int × Int × Int) × List (Option Addr × Nat))) => yf F x1 x332 k s.1) ((x12, 0, 0, 0), (List.replicate x12.length ((none, 0) : Option Addr × Nat))) F ?_
 intro k544
 rintro ⟨⟨x438, x439, x440, x441⟩, g437⟩
 try dsimp only
 refine qN (m' := j9 F x1 x332 (yf F x1 x332 k544) x438 x439 x440 x441) rfl ?_
 refine av [3,5,24,3,0,2,3,10] ?_ ?_
 intro _
 refine au [13,2,3,18,3,5,30,12] ?_
 intro x596 e596 g597 h598
 refine y8 (j := 1) (y := x596) (qn .i64) rfl rfl tf3 rfl h598 (qt e596).2.2 (fun _ => rfl) rfl rfl ?_
 refine au [4,0,2,3,5,1,1,1,26,6] ?_
 intro x599 e599 b600 o601
 refine au [25,9,1,25,0,25,4] ?_
 intro h602
 refine qc9 rfl rfl rfl rfl h602 ?_
 refine au [4,0,2,3,31,13] ?_
 intro x624 e624 b625 o626 h627
 replace h627 : a2 = some ⟨b625, o626, none⟩ := h627
 refine au [28,13] ?_
 intro x628 e628 b629 o630 h631
 replace h631 : a2 = some ⟨b629, o630, none⟩ := h631
 refine au [32,0] ?_
 intro x632 e632 g633 h634 g635 h636
 replace h636 : a13 = some ⟨g635, 0, none⟩ := h636
 have h637 := qaV (k := x438.length) (c := c14) h636
 refine qdt (i := 0) rfl h634 (List.not_mem_nil) (qT mixed [] [] [qJ b629 (o630 + x596.toNat * 1) ((eI .i64) x628), qJ b625 (o626 + x596.toNat * 1) ((eI .i64) x624), qJ b600 o601 ((eI .i64) x599), Sl (eI .i64) 1 (.slice a2 x1.length c3) x1] .nil (qz 0 rfl (qz 1 rfl (qz 2 rfl (qz 3 rfl qL)))) 16 rfl ?_)
 refine au [11,0,11,1] ?_
 refine qj 2 (.agg #[.int .i64 0, .slice none 0 0]) rfl rfl rfl (qbE (cells := [.int .i64 0, .slice none 0 0]) st25 rfl (by kernel_rfl)) ?_
 refine au [11,3,11,4,11,5] ?_
 refine qo (d := 44) (v := .slice (some ⟨b625, o626, none⟩) x1.length c3) rfl (by rw [h627] <;> rfl) (qj 6 (.pointer (some ⟨b625, (o626 + x596.toNat * 1), none⟩)) rfl rfl rfl (qak Tryz.underlying22 tf3 rfl rfl (qt e624).1 (kH e624)) (qo (d := 44) (v := .slice a2 x1.length c3) rfl (by rw [h627] <;> rfl) (zq 7 (.int .i64 x624) [] rfl rfl rfl (zN (j := 1) rfl tf3 rfl rfl (fun _ => rfl) rfl) ?_)))
 refine au [11,9,11,10] ?_
 refine qo (d := 49) (v := .slice (some ⟨b629, o630, none⟩) x1.length c3) rfl (by rw [h631] <;> rfl) (qj 11 (.pointer (some ⟨b629, (o630 + x596.toNat * 1), none⟩)) rfl rfl rfl (qak Tryz.underlying22 tf3 rfl rfl (qt e628).1 (kH e628)) (qo (d := 49) (v := .slice a2 x1.length c3) rfl (by rw [h631] <;> rfl) (zq 12 (.int .i64 x628) [] rfl rfl rfl (zN (j := 0) rfl tf3 rfl rfl (fun _ => rfl) rfl) ?_)))
 refine au [17,8,28,8,26,10] ?_
 rintro x638 e638 ⟨a639, c640⟩
 refine au [0,32,1] ?_
 refine qo (d := 40) (v := .slice (some ⟨g635, 0, none⟩) x438.length c14) rfl (by rw [h636] <;> rfl) (qj 13 (.pointer (some ⟨g635, x596.toNat * 2, none⟩)) rfl rfl rfl (qbG Tryz.underlying95 tf25 rfl rfl (qt e632).1 (kH e632)) (qo (d := 40) (v := .slice a13 x438.length c14) rfl (by rw [h636] <;> rfl) ?_))
 refine au [17,14] ?_
 refine qlc (j := 3) (kh := 0) (y' := (x638.1, x638.2)) (q' := (a639, c640)) kR rfl rfl rfl tf25 rfl (qaV h636) rfl (qt e632).2.1 rfl (.cons 0 rfl .nil) (fun x641 e641 h642 g644 => ?_)
 have h643 : x641.length = x438.length := by rw [← e641, List.length_set]
 refine qb (d := 5) (v := .slice a13 x641.length c14) rfl (by rw [h642] <;> rfl) (qb (d := 40) (v := .slice a13 x641.length c14) rfl (by rw [h642] <;> rfl) ?_)
 refine au [0,32,1,11,15,24,7] ?_
 refine qR ?_ (by intro c h; cases h)
 refine au [2,5,1,21,4,26,4] ?_
 intro x645 e645
 refine qb (d := 6) (v := .int .u64 x645) rfl (by rw [e645] <;> rfl) ?_
 refine au [0,24,2,2,5,21,1,0] ?_
 exact qs ((x641, x645, x628, iadd .i64 x441 1), g644)
 intro _
 refine au [24,8,20,20,24,9] ?_
 exact qc (x438, g437)
 rintro ⟨x331, g330⟩
 try dsimp only
 refine au [3,5,1,4,4,0,2,9] ?_
 exact zC (a13, (c14, g330))
set_option maxHeartbeats 4000000 in
theorem qgG {F : Nat} {x1 : Int} {x2 : List Int} {a3 : Option Addr} {c4 : Nat} {x5 : Int} {x6 : Int} {x7 : List Int} {a8 : Option Addr} {c9 : Nat} {r : Bool} (hm : yV F x1 x2 x5 x6 x7 = some r) :
    Pure Tryz.prog 129 [.agg #[.int .i64 x1, .slice a3 x2.length c4], .int .i64 x5, .agg #[.int .i64 x6, .slice a8 x7.length c9]] [Sl (eI .u8) 1 (.slice a3 x2.length c4) x2, Sl (eI .u8) 1 (.slice a8 x7.length c9) x7] Unit (fun _ => .bool r) (fun _ => []) (fun _ => []) := by
 refine qk Tryz.func129 rfl Tryz.ntmps129 rfl hm (fun w => ?_)
 refine au [25,8,3,5,24,6] ?_
 intro g10
 refine au [24,6] ?_
 intro g11
 refine au [4,0,2] ?_
 refine qm (fun ((_, _) : (Unit × Unit)) => ([], [], [], [], qbu F)) ?_ ?_
 refine au [3,5,24,11,25,2,24,11,26,7,1,25,0,31,3,1,0,2,18] ?_
 refine qx (fun ((x62, _) : (Int × Unit)) => ([(1, .int .i64 x5), (3, .pointer (some ⟨g10, 0, none⟩)), (5, .pointer (some ⟨g11, 0, none⟩)), (14, .int .i64 (imin x6 (isub .i64 x1 x5))), (15, .int .i64 x62)], [⟨g11, 25, [.int .i64 x6, .slice a8 x7.length c9]⟩, ⟨g10, 25, [.int .i64 x1, .slice a3 x2.length c4]⟩], [], [Sl (eI .u8) 1 (.slice a8 x7.length c9) x7, Sl (eI .u8) 1 (.slice a3 x2.length c4) x2])) (fun k (s : (Int × Unit)) => kO F x1 x2 x5 x6 x7 k s.1) (0, ()) F ?_
 intro k75
 rintro ⟨x62, _⟩
 try dsimp only
 refine qN (m' := jb F x1 x2 x5 x6 x7 (kO F x1 x2 x5 x6 x7 k75) x62) rfl ?_
 refine av [3,5,24,3,0,2,3,10] ?_ ?_
 intro _
 refine au [13,2,3,18,3,5,1,4,0,2,3] ?_
 refine qT mixed [] [⟨g11, 25, [.int .i64 x6, .slice a8 x7.length c9]⟩, ⟨g10, 25, [.int .i64 x1, .slice a3 x2.length c4]⟩] [Sl (eI .u8) 1 (.slice a8 x7.length c9) x7, Sl (eI .u8) 1 (.slice a3 x2.length c4) x2] (.cons 0 rfl (.cons 0 rfl .nil)) (qz 0 rfl (qz 1 rfl qL)) 9 rfl (zJ 0 (.agg #[.int .i64 x1, .slice a3 x2.length c4]) rfl rfl rfl (zQ (i := 1) rfl tf25 rfl rfl (by simp) rfl) ?_)
 refine au [11,1,11,2,11,3] ?_
 refine zJ 5 (.agg #[.int .i64 x6, .slice a8 x7.length c9]) rfl rfl rfl (zQ (i := 0) rfl tf25 rfl rfl (by simp) rfl) ?_
 refine au [11,6,17,4,27,5] ?_
 intro x84 e84 _
 refine au [0,32,2,17,7,27,5] ?_
 intro x85 e85 _
 refine au [0,32,2,11,8,24,7] ?_
 refine qR ?_ (by intro c h; cases h)
 refine av [2,10] ?_ ?_
 intro _
 exact az [3,5,4,0,2,9,24,0,12,12,24,0,12,16]
 intro _
 refine au [13,24,2,2,5,21,1,0] ?_
 exact qs (iadd .i64 x62 1, ())
 intro _
 exact az [24,8,20,20,24,9,25,13]
 rintro ⟨_, _⟩
 try dsimp only
 exact az [3,5,4,0,2,9,16]
set_option maxHeartbeats 4000000 in
theorem qhA {F : Nat} {x1 : List (Int × List Int)} {a2 : Option Addr} {c3 : Nat} {s3 : List (Option Addr × Nat)} {r : (Bool × Int)} (hm : qaq F x1 = some r) :
    Pure Tryz.prog 51 [.slice a2 x1.length c3] [SlN eN25 iN25 2 (.slice a2 x1.length c3) x1 s3] Unit (fun _ => .tuple #[.bool r.1, .int .i64 r.2]) (fun _ => []) (fun _ => []) := by
 refine qk Tryz.func51 rfl Tryz.ntmps51 rfl hm (fun w => ?_)
 refine av [24,14,3,5,4,4,0,2,3,3,5,1,24,4,24,13,0,2,10] ?_ ?_
 intro _
 exact az [3,5,4,4,0,2,9,12,16]
 intro _
 refine au [13,2] ?_
 refine qm (fun ((_, _) : (Unit × Unit)) => ([(0, .slice a2 x1.length c3)], [], [], [SlN eN25 iN25 2 (.slice a2 x1.length c3) x1 s3], j8 F x1)) ?_ ?_
 refine au [3,5,1,24,4,1,0,2,18] ?_
 refine qx (fun ((x1083, _) : (Int × Unit)) => ([(0, .slice a2 x1.length c3), (14, .slice a2 x1.length c3), (15, .int .i64 (x1.length : Int)), (16, .int .i64 x1083)], [], [], [SlN eN25 iN25 2 (.slice a2 x1.length c3) x1 s3])) (fun k (s : (Int × Unit)) => kN F x1 k s.1) (0, ()) F ?_
 intro k1100
 rintro ⟨x1083, _⟩
 try dsimp only
 refine qN (m' := vY F x1 (kN F x1 k1100) x1083) rfl ?_
 refine av [3,5,24,3,0,2,3,10] ?_ ?_
 intro _
 refine au [13,2,3,18,3,5,29,15] ?_
 intro x1109 e1109 g1112 b1110 o1111
 refine au [28,9,23] ?_
 intro g1113
 refine au [22,0,2,3,5,24,5,26,8] ?_
 intro x1114 e1114 _
 refine av [4,0,2,3,5,1,24,15,0,2,10] ?_ ?_
 intro _
 exact az [3,5,1,4,4,0,2,9,24,0,12,12,24,0,12,16]
 intro _
 refine au [13,24,2,2,5,21,1,0] ?_
 exact qs (iadd .i64 x1083 1, ())
 intro _
 exact az [24,8,20,20,24,9,25,13]
 rintro ⟨_, _⟩
 try dsimp only
 refine qm (fun ((_, _) : (Unit × Unit)) => ([], [], [], [], qc5 F)) ?_ ?_
 refine au [3,5,1,24,4,1,0,2,18] ?_
 refine qx (fun ((x729, _) : (Int × Unit)) => ([(0, .slice a2 x1.length c3), (26, .slice a2 x1.length c3), (27, .int .i64 (x1.length : Int)), (28, .int .i64 x729)], [], [], [SlN eN25 iN25 2 (.slice a2 x1.length c3) x1 s3])) (fun k (s : (Int × Unit)) => zd F x1 k s.1) (0, ()) F ?_
 intro k898
 rintro ⟨x729, _⟩
 try dsimp only
 refine qN (m' := vW F x1 (zd F x1 k898) x729) rfl ?_
 refine av [3,5,24,3,0,2,3,10] ?_ ?_
 intro _
 refine au [13,2] ?_
 refine qm (fun ((_, _) : (Unit × Unit)) => ([(0, .slice a2 x1.length c3), (26, .slice a2 x1.length c3), (27, .int .i64 (x1.length : Int)), (28, .int .i64 x729)], [], [], [SlN eN25 iN25 2 (.slice a2 x1.length c3) x1 s3], vZ F (zd F x1 k898) x729)) ?_ ?_
 refine au [18,3,5,1,29,15] ?_
 intro x983 e983 g986 b984 o985
 refine au [28,9,23] ?_
 intro g987
 refine au [4,22,0,2,3,5,1,1] ?_
 refine qoo (j := 2) kR rfl UnF.u inferInstance rfl rfl rfl rfl rfl ?_
 intro x988 e988 a989 c990 g991
 refine au [24,4,1,0,2,18] ?_
 refine qx (fun ((x1016, _) : (Int × Unit)) => ([(0, .slice a2 x1.length c3), (8, .pointer (some ⟨g987, 0, none⟩)), (26, .slice a2 x1.length c3), (27, .int .i64 (x1.length : Int)), (28, .int .i64 x729), (35, .slice a989 x988.length c990), (36, .int .i64 (x988.length : Int)), (37, .int .i64 x1016)], [⟨g987, 25, [.int .i64 x983.1, .slice g986.1 x983.2.length g986.2]⟩], [], [SlN eN25 iN25 2 (.slice a2 x1.length c3) x1 s3, SlN eN25 iN25 2 (.slice a989 x988.length c990) x988 g991, Sl (eI .u8) 1 (.slice g986.1 x983.2.length g986.2) x983.2])) (fun k (s : (Int × Unit)) => ke F (zd F x1 k898) x729 x983 x988 k s.1) (0, ()) F ?_
 intro k1041
 rintro ⟨x1016, _⟩
 try dsimp only
 refine qN (m' := vX F (zd F x1 k898) x729 x983 x988 (ke F (zd F x1 k898) x729 x983 x988 k1041) x1016) rfl ?_
 refine av [3,5,24,3,0,2,3,10] ?_ ?_
 intro _
 refine au [13,2,3,18,3,5] ?_
 refine qeY (j := 1) kR (by decide) rfl UnF.u inferInstance rfl rfl rfl rfl ?_
 intro x1054 e1054 g1057 b1055 o1056
 refine au [28,9,23] ?_
 intro g1058
 refine au [22,0,2,3,5,24,11,26,7,24,13,1] ?_
 refine qi 4 (decide (0 < x983.1)) [(0, .slice a2 x1.length c3), (8, .pointer (some ⟨g987, 0, none⟩)), (26, .slice a2 x1.length c3), (27, .int .i64 (x1.length : Int)), (28, .int .i64 x729), (35, .slice a989 x988.length c990), (36, .int .i64 (x988.length : Int)), (37, .int .i64 x1016), (10, .pointer (some ⟨g1058, 0, none⟩)), (48, .bool ((decide (0 < x983.1)) && (decide (0 < x1054.1))))] (fun h1059 => ?_) (fun h1059 => ?_) ?_
 refine qa (os := _) rfl (qg (k := 44) rfl h1059 ?_)
 refine au [24,11,25,2,24,13,14] ?_
 refine qb (d := 48) (v := .bool ((decide (0 < x983.1)) && (decide (0 < x1054.1)))) rfl (by rw [h1059]; simp only [Bool.true_and]) ?_
 exact az [0,8]
 refine qa (os := _) rfl (qf (k := 44) rfl h1059 ?_)
 refine au [6,6,6,15] ?_
 refine qb (d := 48) (v := .bool ((decide (0 < x983.1)) && (decide (0 < x1054.1)))) rfl (by rw [h1059]; simp only [Bool.false_and]) ?_
 exact az [0,8]
 refine qa (os := _) rfl ?_
 refine au [1] ?_
 refine qy 4 (fun ((x1062, _) : (Bool × Unit)) => ([(0, .slice a2 x1.length c3), (8, .pointer (some ⟨g987, 0, none⟩)), (26, .slice a2 x1.length c3), (27, .int .i64 (x1.length : Int)), (28, .int .i64 x729), (35, .slice a989 x988.length c990), (36, .int .i64 (x988.length : Int)), (37, .int .i64 x1016), (53, .bool x1062)], [⟨g987, 25, [.int .i64 x983.1, .slice g986.1 x983.2.length g986.2]⟩], [], [SlN eN25 iN25 2 (.slice a2 x1.length c3) x1 s3, SlN eN25 iN25 2 (.slice a989 x988.length c990) x988 g991, Sl (eI .u8) 1 (.slice g986.1 x983.2.length g986.2) x983.2], v6 F (ke F (zd F x1 k898) x729 x983 x988 k1041) x1016 x1062)) ?_ ?_
 refine qa (os := _) rfl ?_
 refine av [24,12] ?_ ?_
 intro h1060
 refine qg (k := 49) rfl h1060 ?_
 refine au [25,14,24,5,32,3] ?_
 intro x1064 e1064 _
 refine au [14,0] ?_
 exact qc (x1064, ())
 intro h1060
 refine qf (k := 49) rfl h1060 ?_
 refine au [6,6,6,15,0] ?_
 exact qc (false, ())
 rintro ⟨x1062, _⟩
 try dsimp only
 refine qa (os := _) rfl ?_
 refine av [0,2,10] ?_ ?_
 intro _
 exact az [3,5,4,4,0,2,9,24,0,12,12,24,0,24,0,12,12,24,0,12,16]
 intro _
 refine au [13,24,2,2,5,21,1,0] ?_
 exact qs (iadd .i64 x1016 1, ())
 intro _
 exact az [24,8,20,20,24,9,24,2,25,13]
 rintro ⟨_, _⟩
 try dsimp only
 refine au [5,21,1,0] ?_
 exact qs (iadd .i64 x729 1, ())
 intro _
 exact az [24,8,20,20,24,9,25,13]
 rintro ⟨_, _⟩
 try dsimp only
 exact az [3,5,4,4,0,2,9,16]
set_option maxHeartbeats 4000000 in
theorem qd1 {F : Nat} {x1 : List Int} {a2 : Option Addr} {c3 : Nat} {x4 : Int} {r : List Int} (hm : ym F x1 c3 x4 = some r) :
    PureM Tryz.prog 161 [.slice a2 x1.length c3, .int .i64 x4] [] [Ro (eI .i64) 3 1 (.slice a2 x1.length c3) x1] [] (Option Addr × Nat) (fun g => .slice g.1 r.length g.2) (fun _ => []) (fun g => [Ro (eI .i64) 3 1 (.slice g.1 r.length g.2) r]) := by
 refine k6 Tryz.func161 rfl Tryz.ntmps161 rfl hm (fun w => ?_)
 refine av [24,10,3,5,4,0,2,3,3,5,1,24,3,0,2,10] ?_ ?_
 intro _
 exact az [32,4]
 intro _
 refine au [13,2] ?_
 refine qm (fun ((x15, (a13, c14)) : (List Int × (Option Addr × Nat))) => ([(0, .slice a13 x15.length c14)], [], [Ro (eI .i64) 3 1 (.slice a13 x15.length c14) x15], [], yM F x15)) ?_ ?_
 refine au [3,5,1,1,32,5,1,24,4,25,0,25,0,4,26,4] ?_
 intro x16 e16
 refine qb (d := 1) (v := .int .i64 x16) rfl (by rw [e16] <;> rfl) ?_
 refine av [0,2,3,5,1,24,13,0,2,10] ?_ ?_
 intro _
 refine au [5,1,1,32,5,32,6] ?_
 intro x17 e17
 refine au [1] ?_
 refine qok (y := (0 : Int)) 0 (qn .i64) rfl UnF.u UnF.u inferInstance rfl rfl rfl rfl rfl rfl rfl rfl rfl ?_
 intro x18 e18 a19 c20
 refine au [1,24,4,32,6] ?_
 intro x21 e21
 refine au [4,0] ?_
 exact qc (x21, (a19, c20))
 intro _
 refine au [13] ?_
 exact qc (x1, (a2, c3))
 rintro ⟨x15, ⟨a13, c14⟩⟩
 try dsimp only
 refine au [3,5,1,4,0,2,9] ?_
 exact vN (a13, c14)
set_option maxHeartbeats 4000000 in
theorem yP (F : Nat) (x1 : List (List Int)) (a2 : Option Addr) (c3 : (Nat × List (Option Addr × Nat))) (r : List Int) (hm : zI F x1 = some r) :
    Pure Tryz.prog 72 [.slice a2 x1.length c3.1] [SlN eN22 iN22 1 (.slice a2 x1.length c3.1) x1 c3.2] (Option Addr × Nat) (fun g => .slice g.1 r.length g.2) (fun g => [Ro (eI .i64) 3 1 (.slice g.1 r.length g.2) r]) (fun _ => []) := by
 refine qk Tryz.func72 rfl Tryz.ntmps72 rfl hm (fun w => ?_)
 refine au [24,14,3,5,4,0,2,3,5,4,0,2] ?_
 refine qm (fun ((x43, _) : (Int × Unit)) => ([(0, .slice a2 x1.length c3.1), (3, .int .i64 x43)], [], [], [SlN eN22 iN22 1 (.slice a2 x1.length c3.1) x1 c3.2], kf F x1 x43)) ?_ ?_
 refine au [3,5,1,24,4,1,0,2,18] ?_
 refine qx (fun (((x168, x169), _) : ((Int × Int) × Unit)) => ([(0, .slice a2 x1.length c3.1), (3, .int .i64 x168), (9, .slice a2 x1.length c3.1), (10, .int .i64 (x1.length : Int)), (11, .int .i64 x169)], [], [], [SlN eN22 iN22 1 (.slice a2 x1.length c3.1) x1 c3.2])) (fun k (s : ((Int × Int) × Unit)) => zg F x1 k s.1) ((0, 0), ()) F ?_
 intro k182
 rintro ⟨⟨x168, x169⟩, _⟩
 try dsimp only
 refine qN (m' := qV F x1 (zg F x1 k182) x168 x169) rfl ?_
 refine av [3,5,24,3,0,2,3,10] ?_ ?_
 intro _
 refine au [13,2,3,18,3,5,32,7] ?_
 intro x189 e189 g192 b190 o191
 refine av [25,9,4,0,2,3,5,1,1,24,4,21,4,0,2,3,5,1,24,3,0,2,10] ?_ ?_
 intro _
 exact az [32,4]
 intro _
 refine au [13,24,2,2,5,21,1,0] ?_
 exact qs ((iadd .i64 x168 (x189.length : Int), iadd .i64 x169 1), ())
 intro _
 refine au [24,8,20,20,24,9] ?_
 exact qc (x168, ())
 rintro ⟨x43, _⟩
 try dsimp only
 refine au [3,5,1] ?_
 refine qen Int (eI .i64) 3 1 (kU qd1 ?_)
 rintro x44 e44 ⟨a45, c46⟩
 refine au [4,0,2] ?_
 refine qm (fun ((x102, (a100, c101)) : (List Int × (Option Addr × Nat))) => ([(6, .slice a100 x102.length c101)], [], [Ro (eI .i64) 3 1 (.slice a100 x102.length c101) x102], [], jr F x102)) ?_ ?_
 refine au [3,5,1,24,4,1,0,2,18] ?_
 refine qx (fun (((x121, x122), (a119, c120)) : ((List Int × Int) × (Option Addr × Nat))) => ([(6, .slice a119 x121.length c120), (25, .slice a2 x1.length c3.1), (26, .int .i64 (x1.length : Int)), (27, .int .i64 x122)], [], [Ro (eI .i64) 3 1 (.slice a119 x121.length c120) x121], [SlN eN22 iN22 1 (.slice a2 x1.length c3.1) x1 c3.2])) (fun k (s : ((List Int × Int) × (Option Addr × Nat))) => zf F x1 k s.1) ((x44, 0), (a45, c46)) F ?_
 intro k139
 rintro ⟨⟨x121, x122⟩, ⟨a119, c120⟩⟩
 try dsimp only
 refine qN (m' := qU F x1 (zf F x1 k139) x121 x122) rfl ?_
 refine av [3,5,24,3,0,2,3,10] ?_ ?_
 intro _
 refine au [13,2,3,18,3,5,32,7] ?_
 intro x148 e148 g151 b149 o150
 refine au [25,9,4,0,2,5,1,1] ?_
 refine yo 0 (qn .i64) rfl UnF.u inferInstance rfl rfl rfl rfl rfl (.inr ⟨1, rfl⟩) rfl rfl ?_
 intro x152 e152 a153 c154
 refine au [4,0,24,2,2,5,21,1,0] ?_
 exact qs ((x152, iadd .i64 x122 1), (a153, c154))
 intro _
 refine au [24,8,20,20,24,9] ?_
 exact qc (x121, (a119, c120))
 rintro ⟨x102, ⟨a100, c101⟩⟩
 try dsimp only
 refine au [3,5,1,4,0,2,9] ?_
 exact zC (a100, c101)
theorem qd2 {F : Nat} {x1 : List Int} {a2 : Option Addr} {c3 : Nat} {r : List Int} (hm : yn F x1 = some r) :
    PureM Tryz.prog 73 [.slice a2 x1.length c3] [] [Ro (eI .i64) 3 1 (.slice a2 x1.length c3) x1] [] Unit (fun _ => .tuple #[]) (fun _ => []) (fun _ => [Ro (eI .i64) 3 1 (.slice a2 r.length c3) r]) := by
  unfold yn at hm
  split at hm
  · cases hm
    exact qk2 Tryz.slices_Sort_int Tryz.slices_Sort_int_none (by assumption)
  · simp at hm
theorem qix {F : Nat} {x1 : Int} {r : Bool} (hm : qdz F x1 = some r) :
    Pure Tryz.prog 201 [.int .i64 x1] [] Unit (fun _ => .bool r) (fun _ => []) (fun _ => []) := by
 refine qk Tryz.func201 rfl Tryz.ntmps201 rfl hm (fun w => ?_)
 refine au [24,14,3,5,4,0,2,3,5,1,25,5,1] ?_
 refine qi 3 (decide (0 ≤ x1)) [(8, .bool ((decide (0 ≤ x1)) && (decide (x1 ≤ 1048576))))] (fun h2 => ?_) (fun h2 => ?_) ?_
 refine qa (os := _) rfl (qg (k := 5) rfl h2 ?_)
 refine au [1,27,12,14] ?_
 refine qb (d := 8) (v := .bool ((decide (0 ≤ x1)) && (decide (x1 ≤ 1048576)))) rfl (by rw [h2]; simp only [Bool.true_and]) ?_
 exact az [0,8]
 refine qa (os := _) rfl (qf (k := 5) rfl h2 ?_)
 refine au [6,6,15] ?_
 refine qb (d := 8) (v := .bool ((decide (0 ≤ x1)) && (decide (x1 ≤ 1048576)))) rfl (by rw [h2]; simp only [Bool.false_and]) ?_
 exact az [0,8]
 refine qa (os := _) rfl ?_
 exact az [4,0,2,9,16]
theorem qgE (F : Nat) (x1 : Int) (r : Bool) (hm : qcR F x1 = some r) :
    Pure Tryz.prog 200 [.int .i64 x1] [] Unit (fun _ => .bool r) (fun _ => []) (fun _ => []) := by
 refine qk Tryz.func200 rfl Tryz.ntmps200 rfl hm (fun w => ?_)
 refine au [24,14,3,5,4,0,2,3,5,1] ?_
 refine qh qix ?_
 intro x2 e2 _
 exact az [25,7,4,0,2,9,16]
set_option maxHeartbeats 4000000 in
theorem ji {F : Nat} {x1 : List Int} {a2 : Option Addr} {c3 : Nat} {r : Int} (hm : zF F x1 = some r) :
    Pure Tryz.prog 205 [.slice a2 x1.length c3, .func (.func 200) #[] #[]] [Sl (eI .i64) 1 (.slice a2 x1.length c3) x1] Unit (fun _ => .int .i64 r) (fun _ => []) (fun _ => []) := by
 refine qk Tryz.func205 rfl Tryz.ntmps205 rfl hm (fun w => ?_)
 refine au [24,10,3,5,4,0,2] ?_
 refine qm (fun ((_, _) : (Unit × Unit)) => ([], [], [], [], kg F)) ?_ ?_
 refine au [3,5,1,24,4,1,0,2,18] ?_
 refine qx (fun ((x54, _) : (Int × Unit)) => ([(0, .slice a2 x1.length c3), (1, .func (.func 200) #[] #[]), (7, .int .i64 (x1.length : Int)), (8, .int .i64 x54)], [], [], [Sl (eI .i64) 1 (.slice a2 x1.length c3) x1])) (fun k (s : (Int × Unit)) => qF F x1 k s.1) (0, ()) F ?_
 intro k67
 rintro ⟨x54, _⟩
 try dsimp only
 refine qN (m' := q7 F x1 (qF F x1 k67) x54) rfl ?_
 refine av [3,5,24,3,0,2,3,10] ?_ ?_
 intro _
 refine au [13,2,3,18,3,5,1,4,0,2,3,5,1,1,1,26,6] ?_
 intro x74 e74 b75 o76
 refine au [25,9] ?_
 refine yZ ent200 rfl rfl rfl rfl (fun x77 e77 => qgE F x74 x77 e77) .nil (fun x77 e77 _ => ?_)
 refine av [0,2,10] ?_ ?_
 intro _
 exact az [3,5,1,4,0,2,9,24,0,12,12,24,0,12,16]
 intro _
 refine au [13,24,2,2,5,21,1,0] ?_
 exact qs (iadd .i64 x54 1, ())
 intro _
 exact az [24,8,20,20,24,9,25,13]
 rintro ⟨_, _⟩
 try dsimp only
 exact az [3,5,4,0,2,9,16]
theorem vd {F : Nat} {x1 : List Int} {a2 : Option Addr} {c3 : Nat} {r : Bool} (hm : zv F x1 = some r) :
    Pure Tryz.prog 133 [.slice a2 x1.length c3, .func (.func 200) #[] #[]] [Sl (eI .i64) 1 (.slice a2 x1.length c3) x1] Unit (fun _ => .bool r) (fun _ => []) (fun _ => []) := by
 refine qk Tryz.func133 rfl Tryz.ntmps133 rfl hm (fun w => ?_)
 refine au [24,10,3,5,4,0,2,3,5,1,1] ?_
 refine qh ji ?_
 intro x4 e4 _
 exact az [25,5,4,0,2,9,16]
theorem qfa {F : Nat} {x1 : List Int} {a2 : Option Addr} {c3 : Nat} {r : Int} (hm : qbo F x1 = some r) :
    Pure Tryz.prog 130 [.slice a2 x1.length c3] [Sl (eI .i64) 1 (.slice a2 x1.length c3) x1] Unit (fun _ => .int .i64 r) (fun _ => []) (fun _ => []) := by
 refine qk Tryz.func130 rfl Tryz.ntmps130 rfl hm (fun w => ?_)
 refine av [24,14,3,5,4,0,2,3,18,3,5,1,24,4,24,13,4,0,2,10] ?_ ?_
 intro _
 exact az [3,5,4,0,2,9,24,0,12,16]
 intro _
 refine au [3,5,1] ?_
 refine qh vd ?_
 intro x7 e7 _
 refine av [4,0,2,10] ?_ ?_
 intro _
 exact az [3,5,4,0,2,9,24,0,12,16]
 intro _
 exact az [13,24,2,2,3,5,4,0,2,9,16]
set_option maxHeartbeats 4000000 in
theorem qfb (F : Nat) (x1 : List Int) (a2 : Option Addr) (c3 : Nat) (x4 : Int) (x5 : List Int) (a6 : Option Addr) (c7 : Nat) (x8 : Int) (r : Int) (hm : qbr F x1 x4 x5 x8 = some r) :
    Pure Tryz.prog 203 [.agg #[.slice a2 x1.length c3, .int .i64 x4], .agg #[.slice a6 x5.length c7, .int .i64 x8]] [Sl (eI .i64) 1 (.slice a2 x1.length c3) x1, Sl (eI .i64) 1 (.slice a6 x5.length c7) x5] Unit (fun _ => .int .i64 r) (fun _ => []) (fun _ => []) := by
 refine qk Tryz.func203 rfl Tryz.ntmps203 rfl hm (fun w => ?_)
 refine au [24,10,3,5,24,6] ?_
 intro g9
 refine au [24,6] ?_
 intro g10
 refine au [4,0,2,3,28,12] ?_
 intro x24 e24 b25 o26 h27
 replace h27 : a2 = some ⟨b25, o26, none⟩ := h27
 refine au [28,13] ?_
 intro x28 e28 b29 o30 h31
 replace h31 : a6 = some ⟨b29, o30, none⟩ := h31
 refine qT mixed [] [⟨g10, 193, [.slice a6 x5.length c7, .int .i64 x8]⟩, ⟨g9, 193, [.slice a2 x1.length c3, .int .i64 x4]⟩] [qJ b29 (o30 + (0 : Int).toNat * 1) ((eI .i64) x28), qJ b25 (o26 + (0 : Int).toNat * 1) ((eI .i64) x24), Sl (eI .i64) 1 (.slice a2 x1.length c3) x1, Sl (eI .i64) 1 (.slice a6 x5.length c7) x5] (.cons 0 rfl (.cons 0 rfl .nil)) (qz 0 rfl (qz 1 rfl (qz 2 rfl (qz 3 rfl qL)))) 17 rfl ?_
 refine au [25,3,0,28,11,1,25,3,2,25,11,3,25,3,5,28,11,6] ?_
 refine qo (d := 11) (v := .slice (some ⟨b25, o26, none⟩) x1.length c3) rfl (by rw [h27] <;> rfl) (qj 7 (.pointer (some ⟨b25, (o26 + (0 : Int).toNat * 1), none⟩)) rfl rfl rfl (qak Tryz.underlying22 tf3 rfl rfl (qt e24).1 (kH e24)) (qo (d := 11) (v := .slice a2 x1.length c3) rfl (by rw [h27] <;> rfl) (zq 8 (.int .i64 x24) [] rfl rfl rfl (zN (j := 1) rfl tf3 rfl rfl (fun _ => rfl) rfl) ?_)))
 refine au [25,3,9,25,11,10] ?_
 refine qo (d := 15) (v := .slice (some ⟨b29, o30, none⟩) x5.length c7) rfl (by rw [h31] <;> rfl) (qj 11 (.pointer (some ⟨b29, (o30 + (0 : Int).toNat * 1), none⟩)) rfl rfl rfl (qak Tryz.underlying22 tf3 rfl rfl (qt e28).1 (kH e28)) (qo (d := 15) (v := .slice a6 x5.length c7) rfl (by rw [h31] <;> rfl) (zq 12 (.int .i64 x28) [] rfl rfl rfl (zN (j := 0) rfl tf3 rfl rfl (fun _ => rfl) rfl) ?_)))
 refine au [17,4,28,6] ?_
 intro x32 e32 _
 refine au [0,27,2,17,13,28,6] ?_
 intro x33 e33 _
 refine au [0,27,2,17,14] ?_
 refine qq (vs := [.int .i64 x32, .int .i64 x33]) (ys := ([x32, x33] : List Int)) (qn .i64) (by decide) rfl Tryz.underlying22 tf3 rfl rfl rfl rfl rfl (by decide) (fun a34 c35 => ?_)
 refine au [0,27,2,17,15,31,14] ?_
 intro x36 e36 _
 refine au [0,27,2,11,16,24,7] ?_
 refine qR ?_ (by intro c h; cases h)
 exact az [2,9,16]
set_option maxHeartbeats 4000000 in
theorem zS (F : Nat) (x1 : List (List Int × Int)) (a2 : Option Addr) (c3 : (Nat × List (Option Addr × Nat))) (x4 : List Int) (a5 : Option Addr) (c6 : Nat) (x7 : Int) (r : (Int × Bool)) (hm : qp F x1 x4 x7 = some r) :
    Pure Tryz.prog 202 [.slice a2 x1.length c3.1, .agg #[.slice a5 x4.length c6, .int .i64 x7], .func (.func 203) #[] #[]] [SlN eN193 iN193 2 (.slice a2 x1.length c3.1) x1 c3.2, Sl (eI .i64) 1 (.slice a5 x4.length c6) x4] Unit (fun _ => .tuple #[.int .i64 r.1, .bool r.2]) (fun _ => []) (fun _ => []) := by
 refine qk Tryz.func202 rfl Tryz.ntmps202 rfl hm (fun w => ?_)
 refine au [25,8,3,5,24,6] ?_
 intro g8
 refine au [4,4,0,2,3,5,1,24,4,4,0,2,3,5,1,4,4,0,2] ?_
 refine qm (fun ((x60, _) : (Int × Unit)) => ([(0, .slice a2 x1.length c3.1), (2, .func (.func 203) #[] #[]), (4, .pointer (some ⟨g8, 0, none⟩)), (8, .int .i64 (x1.length : Int)), (9, .int .i64 x60)], [⟨g8, 193, [.slice a5 x4.length c6, .int .i64 x7]⟩], [], [SlN eN193 iN193 2 (.slice a2 x1.length c3.1) x1 c3.2, Sl (eI .i64) 1 (.slice a5 x4.length c6) x4], qK F x1 x4 x7 x60)) ?_ ?_
 refine au [18] ?_
 refine qx (fun (((x92, x93), _) : ((Int × Int) × Unit)) => ([(0, .slice a2 x1.length c3.1), (2, .func (.func 203) #[] #[]), (4, .pointer (some ⟨g8, 0, none⟩)), (8, .int .i64 (x1.length : Int)), (9, .int .i64 x92), (10, .int .i64 x93)], [⟨g8, 193, [.slice a5 x4.length c6, .int .i64 x7]⟩], [], [SlN eN193 iN193 2 (.slice a2 x1.length c3.1) x1 c3.2, Sl (eI .i64) 1 (.slice a5 x4.length c6) x4])) (fun k (s : ((Int × Int) × Unit)) => ql F x1 x4 x7 k s.1) ((0, (x1.length : Int)), ()) F ?_
 intro k110
 rintro ⟨⟨x92, x93⟩, _⟩
 try dsimp only
 refine qN (m' := qu F x1 x4 x7 (ql F x1 x4 x7 k110) x92 x93) rfl ?_
 refine av [3,3,5,1,1,24,3,0,2,10] ?_ ?_
 intro _
 refine au [13,2,18,3,5,1,1,21,25,10,27,0,25,10,4,26,4] ?_
 intro x112 e112
 refine qb (d := 11) (v := .int .i64 x112) rfl (by rw [e112] <;> rfl) ?_
 refine au [0,2,3,32,8] ?_
 intro x119 e119 g123 b120 o121 h122
 replace h122 : a2 = some ⟨b120, o121, none⟩ := h122
 refine qT mixed [] [⟨g8, 193, [.slice a5 x4.length c6, .int .i64 x7]⟩] [qJ b120 (o121 + x112.toNat * 2) (eN193 (x119, g123)), Sl (eI .i64) 1 (.slice g123.1 x119.1.length g123.2) x119.1, SlN eN193 iN193 2 (.slice a2 x1.length c3.1) x1 c3.2, Sl (eI .i64) 1 (.slice a5 x4.length c6) x4] (.cons 0 rfl .nil) (qz 0 rfl (qz 1 rfl (qz 2 rfl (qz 3 rfl qL)))) 8 rfl ?_
 refine au [11,0,11,1,11,2] ?_
 refine qo (d := 25) (v := .slice (some ⟨b120, o121, none⟩) x1.length c3.1) rfl (by rw [h122] <;> rfl) (qj 3 (.pointer (some ⟨b120, (o121 + x112.toNat * 2), none⟩)) rfl rfl rfl (qak Tryz.underlying190 tf193 rfl rfl (qt e119).1 (kH e119)) (qo (d := 25) (v := .slice a2 x1.length c3.1) rfl (by rw [h122] <;> rfl) (zq 4 (.agg #[.slice g123.1 x119.1.length g123.2, .int .i64 x119.2]) [] rfl rfl rfl (zN (j := 0) rfl tf193 rfl rfl (by simp) rfl) (zJ 5 (.agg #[.slice a5 x4.length c6, .int .i64 x7]) rfl rfl rfl (zQ (i := 0) rfl tf193 rfl rfl (by simp) rfl) ?_))))
 refine au [17,6] ?_
 refine yZ ent203 rfl rfl rfl rfl (fun x124 e124 => qfb F x119.1 g123.1 g123.2 x119.2 x4 a5 c6 x7 x124 e124) (.consF 1 rfl (.consF 3 rfl .nil)) (fun x124 e124 _ => ?_)
 refine au [0,32,9,11,7,24,7] ?_
 refine qR ?_ (by intro c h; cases h)
 refine av [2,10] ?_ ?_
 intro _
 refine au [5,1,21,4,0,24,2] ?_
 exact qs ((iadd .i64 x112 1, x93), ())
 intro _
 refine au [5,1,4,0,24,2] ?_
 exact qs ((x92, x112), ())
 intro _
 refine au [24,8,20,20,24,9] ?_
 exact qc (x92, ())
 rintro ⟨x60, _⟩
 try dsimp only
 refine qm (fun ((x68, _) : (Bool × Unit)) => ([(6, .int .i64 x60), (7, .bool x68)], [], [], [], qw F x60 x68)) ?_ ?_
 refine av [30,13] ?_ ?_
 intro h69
 refine au [32,8] ?_
 intro x70 e70 g74 b71 o72 h73
 replace h73 : a2 = some ⟨b71, o72, none⟩ := h73
 refine qT mixed [] [⟨g8, 193, [.slice a5 x4.length c6, .int .i64 x7]⟩] [qJ b71 (o72 + x60.toNat * 2) (eN193 (x70, g74)), Sl (eI .i64) 1 (.slice g74.1 x70.1.length g74.2) x70.1, SlN eN193 iN193 2 (.slice a2 x1.length c3.1) x1 c3.2, Sl (eI .i64) 1 (.slice a5 x4.length c6) x4] (.cons 0 rfl .nil) (qz 0 rfl (qz 1 rfl (qz 2 rfl (qz 3 rfl qL)))) 16 rfl ?_
 refine au [11,0,11,1,11,2,11,3,11,4] ?_
 refine qo (d := 39) (v := .bool true) rfl (by rw [h69] <;> rfl) ?_
 refine au [11,5,11,6,11,7] ?_
 refine qo (d := 41) (v := .slice (some ⟨b71, o72, none⟩) x1.length c3.1) rfl (by rw [h73] <;> rfl) (qj 8 (.pointer (some ⟨b71, (o72 + x60.toNat * 2), none⟩)) rfl rfl rfl (qak Tryz.underlying190 tf193 rfl rfl (qt e70).1 (kH e70)) (qo (d := 41) (v := .slice a2 x1.length c3.1) rfl (by rw [h73] <;> rfl) (zq 9 (.agg #[.slice g74.1 x70.1.length g74.2, .int .i64 x70.2]) [] rfl rfl rfl (zN (j := 0) rfl tf193 rfl rfl (by simp) rfl) (zJ 10 (.agg #[.slice a5 x4.length c6, .int .i64 x7]) rfl rfl rfl (zQ (i := 0) rfl tf193 rfl rfl (by simp) rfl) ?_))))
 refine au [17,11] ?_
 refine yZ ent203 rfl rfl rfl rfl (fun x75 e75 => qfb F x70.1 g74.1 g74.2 x70.2 x4 a5 c6 x7 x75 e75) (.consF 1 rfl (.consF 3 rfl .nil)) (fun x75 e75 _ => ?_)
 refine au [0,32,9,11,12,11,13,11,14,11,15,24,7] ?_
 exact qR (qc (((x75 : Int) == 0), ())) (by intro c h; cases h)
 intro h69
 refine qT mixed [] [⟨g8, 193, [.slice a5 x4.length c6, .int .i64 x7]⟩] [SlN eN193 iN193 2 (.slice a2 x1.length c3.1) x1 c3.2, Sl (eI .i64) 1 (.slice a5 x4.length c6) x4] (.cons 0 rfl .nil) (qz 0 rfl (qz 1 rfl qL)) 16 rfl ?_
 refine au [11,0,11,1,11,2,11,3,11,4] ?_
 refine qo (d := 39) (v := .bool false) rfl (by rw [h69] <;> rfl) ?_
 refine au [25,1,5,25,1,6,25,1,7,25,1,8,25,1,9,25,1,10,25,1,11,25,1,12,11,13,11,14,11,15,24,7] ?_
 exact qR (qc (false, ())) (by intro c h; cases h)
 rintro ⟨x68, _⟩
 try dsimp only
 exact az [9,16]
end Go.Proofs.YtmoikolponkmpaaGreat
