/- Each Go function of this seat computes what its model says, part 4. -/
import Derived.Test.YtpnfijegoepiaaaGreatWalks3
namespace Go.Proofs.YtpnfijegoepiaaaGreat
open Go SX
theorem qmO {F : Nat} {x1 : List Int} {a2 : Option Addr} {c3 : Nat} {x4 : Int} {r : List Int} (hm : qeR F x1 x4 = some r) :
    Pure Tryz.prog 88 [.slice a2 x1.length c3, .int .i64 x4] [Sl (eI .i64) 1 (.slice a2 x1.length c3) x1] (Option Addr × Nat) (fun g => .slice g.1 r.length g.2) (fun g => [Ro (eI .u64) 50 1 (.slice g.1 r.length g.2) r]) (fun _ => []) := by
 refine qi Tryz.func88 rfl Tryz.ntmps88 rfl hm (fun w => ?_)
 refine au [24,13,3,4,5,0,2,3,4,5,0,2] ?_
 refine qc (fun ((x165, (a163, c164)) : (List Int × (Option Addr × Nat))) => ([(5, .slice a163 x165.length c164)], [], [Ro (eI .u64) 50 1 (.slice a163 x165.length c164) x165], [], qen F x165)) ?_ ?_
 refine au [3,4,5,0,2,14,32,10] ?_
 refine qk (fun (((x219, x220), (a217, c218)) : ((List Int × Int) × (Option Addr × Nat))) => ([(0, .slice a2 x1.length c3), (1, .int .i64 x4), (5, .slice a217 x219.length c218), (6, .int .i64 x220)], [], [Ro (eI .u64) 50 1 (.slice a217 x219.length c218) x219], [Sl (eI .i64) 1 (.slice a2 x1.length c3) x1])) (fun k (s : ((List Int × Int) × (Option Addr × Nat))) => vJ F x1 x4 k s.1) ((([] : List Int), 0), (none, 0)) F ?_
 intro k272
 rintro ⟨⟨x219, x220⟩, ⟨a217, c218⟩⟩
 try dsimp only
 refine ql (m' := qcN F x1 x4 (vJ F x1 x4 k272) x219 x220) rfl ?_
 refine av [3,3,4,1,1,19,22,0,2,9] ?_ ?_
 intro _
 refine au [10,2] ?_
 refine qc (fun ((x299, (a297, c298)) : (List Int × (Option Addr × Nat))) => ([(0, .slice a2 x1.length c3), (1, .int .i64 x4), (5, .slice a297 x299.length c298), (6, .int .i64 x220)], [], [Ro (eI .u64) 50 1 (.slice a297 x299.length c298) x299], [Sl (eI .i64) 1 (.slice a2 x1.length c3) x1], qbl F (vJ F x1 x4 k272) x220 x299)) ?_ ?_
 refine av [14,3,4,1,24,15,0,2,9] ?_ ?_
 intro _
 refine au [4,1,1,25,15] ?_
 intro x300 e300 b301 o302
 refine au [25,1,1,24,10,34,13] ?_
 intro x303 e303 _
 refine qy (vs := [.int .u64 x303]) (ys := ([x303] : List Int)) (qo .u64) (by decide) rfl Tryz.underlying123 tf50 rfl rfl rfl rfl rfl (by decide) (fun a304 c305 => qA 1 (qo .u64) rfl Tryz.underlying123 tf50 rfl rfl rfl rfl rfl (.inl ⟨0, _, rfl⟩) rfl rfl (fun x306 e306 a307 c308 => ?_))
 refine au [5,0,21] ?_
 exact qa (x306, (a307, c308))
 intro _
 refine au [28,12] ?_
 intro x309 e309 b310 o311 h312
 replace h312 : a2 = some ⟨b310, o311, none⟩ := h312
 refine au [28,5] ?_
 intro x313 e313 b314 o315 h316
 replace h316 : a2 = some ⟨b314, o315, none⟩ := h316
 refine qw mixed [] [] [qt b314 (o315 + (isub .i64 x220 1).toNat * 1) ((eI .i64) x313), qt b310 (o311 + x220.toNat * 1) ((eI .i64) x309), Sl (eI .i64) 1 (.slice a2 x1.length c3) x1] .nil (qC 0 rfl (qC 1 rfl (qC 2 rfl qu))) 16 rfl ?_
 refine au [6,0,6,1,6,2] ?_
 refine qf (d := 25) (v := .slice (some ⟨b310, o311, none⟩) x1.length c3) rfl (by rw [h312] <;> rfl) (qm 3 (.pointer (some ⟨b310, (o311 + x220.toNat * 1), none⟩)) rfl rfl rfl (yq Tryz.underlying37 tf3 rfl rfl (qJ e309).1 (kj e309)) (qf (d := 25) (v := .slice a2 x1.length c3) rfl (by rw [h312] <;> rfl) (qK 4 (.int .i64 x309) [] rfl rfl rfl (zx (j := 1) rfl tf3 rfl rfl (fun _ => rfl) rfl) ?_)))
 refine au [6,5,6,6,6,7] ?_
 refine qf (d := 29) (v := .slice (some ⟨b314, o315, none⟩) x1.length c3) rfl (by rw [h316] <;> rfl) (qm 8 (.pointer (some ⟨b314, (o315 + (isub .i64 x220 1).toNat * 1), none⟩)) rfl rfl rfl (yq Tryz.underlying37 tf3 rfl rfl (qJ e313).1 (kj e313)) (qf (d := 29) (v := .slice a2 x1.length c3) rfl (by rw [h316] <;> rfl) (qK 9 (.int .i64 x313) [] rfl rfl rfl (zx (j := 0) rfl tf3 rfl rfl (fun _ => rfl) rfl) ?_)))
 refine au [6,10,6,11,29,3,12,24,0,13] ?_
 refine qy (vs := [.int .u64 (iconv .u64 (isub .i64 (isub .i64 x309 x313) 1))]) (ys := ([iconv .u64 (isub .i64 (isub .i64 x309 x313) 1)] : List Int)) (qo .u64) (by decide) rfl Tryz.underlying123 tf50 rfl rfl rfl rfl rfl (by decide) (fun a317 c318 => ?_)
 refine au [0,34,14,24,0,14] ?_
 refine qA 1 (qo .u64) rfl Tryz.underlying123 tf50 rfl rfl rfl rfl rfl (.inl ⟨0, _, rfl⟩) rfl rfl (fun x319 e319 a320 c321 => ?_)
 refine au [0,34,14,6,15,24,7] ?_
 refine qz ?_ (by intro c h; cases h)
 refine au [21] ?_
 exact qa (x319, (a320, c321))
 rintro ⟨x299, ⟨a297, c298⟩⟩
 try dsimp only
 refine au [4,1,15,5,0] ?_
 exact qh ((x299, iadd .i64 x220 1), (a297, c298))
 intro _
 refine au [24,4,16,16,24,5] ?_
 exact qa (x219, (a217, c218))
 rintro ⟨x165, ⟨a163, c164⟩⟩
 try dsimp only
 refine au [3,4,1,5,0,2,12] ?_
 exact qj (a163, c164)
set_option maxHeartbeats 4000000 in
theorem qkk {F : Nat} {x1 : Int} {x2 : List Int} {a3 : Option Addr} {c4 : Nat} {x5 : List Int} {a6 : Option Addr} {c7 : Nat} {x8 : Int} {x9 : Int} {x10 : Int} {r : List Int} (hm : qcd F x1 x2 x5 x8 x9 x10 = some r) :
    Pure Tryz.prog 58 [.int .i64 x1, .slice a3 x2.length c4, .slice a6 x5.length c7, .agg #[.int .i64 x8, .int .i64 x9, .int .i64 x10]] [Sl (eI .i64) 1 (.slice a3 x2.length c4) x2, Sl (eI .i64) 1 (.slice a6 x5.length c7) x5] (Option Addr × Nat) (fun g => .slice g.1 r.length g.2) (fun g => [Ro (eI .i64) 3 1 (.slice g.1 r.length g.2) r]) (fun _ => []) := by
 refine qi Tryz.func58 rfl Tryz.ntmps58 rfl hm (fun w => ?_)
 refine au [27,4,3,4,24,3] ?_
 intro g11
 refine au [5,0,2,3,4,1,19,24,12,27,7] ?_
 rintro x12 e12 ⟨a13, c14⟩
 refine av [5,0,2,3,3,4,1,19,24,15,0,2,9] ?_ ?_
 intro _
 refine au [3,4,1,5,0,2,12,11] ?_
 exact qj (a13, c14)
 intro _
 refine au [10,2,3,4,1,5,0,2] ?_
 refine qc (fun (((x113, x116), (a111, c112, a114, c115)) : ((List Int × List Int) × (Option Addr × Nat × Option Addr × Nat))) => ([(0, .int .i64 x1), (7, .pointer (some ⟨g11, 0, none⟩)), (9, .slice a111 x113.length c112), (10, .slice a114 x116.length c115)], [⟨g11, 26, [.int .i64 x8, .int .i64 x9, .int .i64 x10]⟩], [Ro (eI .i64) 3 1 (.slice a111 x113.length c112) x113], [Sl (eI .i64) 1 (.slice a114 x116.length c115) x116], ym F x1 x9 x10 x113 x116)) ?_ ?_
 refine av [3,4,13,23,24,6,0,2,9] ?_ ?_
 intro _
 refine au [3,4,5,0,2,3,4,1,1] ?_
 refine qg qhB ?_
 rintro x1041 e1041 ⟨⟨a1042, c1043⟩, ⟨a1044, c1045⟩⟩
 refine au [1,17,17,5,5,0,2,3,4,1,1,19,24,12,27,7] ?_
 rintro x1046 e1046 ⟨a1047, c1048⟩
 refine qA 3 (qo .i64) rfl Tryz.underlying37 tf3 rfl rfl rfl rfl rfl (.inl ⟨0, _, rfl⟩) rfl rfl (fun x1049 e1049 a1050 c1051 => ?_)
 refine au [5,0,2,3,4,5,0,2,14] ?_
 refine qk (fun (((x1080, x1081), (a1078, c1079)) : ((List Int × Int) × (Option Addr × Nat))) => ([(0, .int .i64 x1), (7, .pointer (some ⟨g11, 0, none⟩)), (9, .slice a1078 x1080.length c1079), (10, .slice a1044 x1041.2.length c1045), (11, .slice a1042 x1041.1.length c1043), (12, .int .i64 x1081)], [⟨g11, 26, [.int .i64 x8, .int .i64 x9, .int .i64 x10]⟩], [Ro (eI .i64) 3 1 (.slice a1078 x1080.length c1079) x1080, Ro (eI .i64) 3 1 (.slice a1044 x1041.2.length c1045) x1041.2, Ro (eI .i64) 3 1 (.slice a1042 x1041.1.length c1043) x1041.1], [])) (fun k (s : ((List Int × Int) × (Option Addr × Nat))) => zT F x1 x9 x10 x1041 k s.1) ((x1049, 0), (a1050, c1051)) F ?_
 intro k1108
 rintro ⟨⟨x1080, x1081⟩, ⟨a1078, c1079⟩⟩
 try dsimp only
 refine ql (m' := qa5 F x1 x9 x10 x1041 (zT F x1 x9 x10 x1041 k1108) x1080 x1081) rfl ?_
 refine av [3,3,4,1,1,19,22,0,2,9] ?_ ?_
 intro _
 refine au [10,2,3,14,3,4,1,1,34,15] ?_
 intro x1122 e1122 g1123 h1124
 refine qeM (j := 2) (y := x1122) (qo .i64) rfl rfl tf3 rfl h1124 (qJ e1122).2.2 (fun _ => rfl) rfl rfl ?_
 refine au [5,0,2] ?_
 refine qc (fun ((x1126, _) : (Int × Unit)) => ([(0, .int .i64 x1), (7, .pointer (some ⟨g11, 0, none⟩)), (9, .slice a1078 x1080.length c1079), (10, .slice a1044 x1041.2.length c1045), (11, .slice a1042 x1041.1.length c1043), (12, .int .i64 x1081), (13, .int .i64 x1126)], [⟨g11, 26, [.int .i64 x8, .int .i64 x9, .int .i64 x10]⟩], [Ro (eI .i64) 3 1 (.slice a1078 x1080.length c1079) x1080, Ro (eI .i64) 3 1 (.slice a1044 x1041.2.length c1045) x1041.2, Ro (eI .i64) 3 1 (.slice a1042 x1041.1.length c1043) x1041.1], [], jg F (zT F x1 x9 x10 x1041 k1108) x1080 x1081 x1126)) ?_ ?_
 refine av [3,4,1,24,6,0,2,9] ?_ ?_
 intro _
 refine au [4,1,24,10,5,0] ?_
 exact qa (isub .i64 x1122 1, ())
 intro _
 refine au [10] ?_
 exact qa (x1122, ())
 rintro ⟨x1126, _⟩
 try dsimp only
 refine au [4,1,1,24,12,27,7] ?_
 rintro x1127 e1127 ⟨a1128, c1129⟩
 refine qA 1 (qo .i64) rfl Tryz.underlying37 tf3 rfl rfl rfl rfl rfl (.inl ⟨0, _, rfl⟩) rfl rfl (fun x1130 e1130 a1131 c1132 => ?_)
 refine au [5,0,21,2,4,1,15,5,0] ?_
 exact qh ((x1130, iadd .i64 x1081 1), (a1131, c1132))
 intro _
 refine au [24,4,16,16,24,5,35,0] ?_
 exact qa ((x1080, x1041.2), (a1078, c1079, a1044, c1045))
 intro _
 refine au [10] ?_
 exact qa ((x12, x2), (a13, c14, a3, c4))
 rintro ⟨⟨x113, x116⟩, ⟨a111, c112, a114, c115⟩⟩
 try dsimp only
 refine av [3,3,4,1,19,24,15,0,2,9] ?_ ?_
 intro _
 refine au [3,4,1,5,0,2,12,11] ?_
 exact qj (a111, c112)
 intro _
 refine au [10,2] ?_
 refine qc (fun (((x569, x572), (a567, c568, a570, c571)) : ((List Int × List Int) × (Option Addr × Nat × Option Addr × Nat))) => ([(0, .int .i64 x1), (7, .pointer (some ⟨g11, 0, none⟩)), (9, .slice a567 x569.length c568), (10, .slice a570 x572.length c571)], [⟨g11, 26, [.int .i64 x8, .int .i64 x9, .int .i64 x10]⟩], [Ro (eI .i64) 3 1 (.slice a567 x569.length c568) x569], [Sl (eI .i64) 1 (.slice a570 x572.length c571) x572], je F x1 x10 x569 x572)) ?_ ?_
 refine av [3,4,13,23,24,6,0,2,9] ?_ ?_
 intro _
 refine au [3,4,5,0,2,3,4,1,13,23] ?_
 refine qg qiY ?_
 rintro x591 e591 ⟨⟨a592, c593⟩, ⟨a594, c595⟩⟩
 refine au [1,17,17,5,5,0,2,3,4,1,1,19,24,12,27,7] ?_
 rintro x596 e596 ⟨a597, c598⟩
 refine qA 3 (qo .i64) rfl Tryz.underlying37 tf3 rfl rfl rfl rfl rfl (.inl ⟨0, _, rfl⟩) rfl rfl (fun x599 e599 a600 c601 => ?_)
 refine au [5,0,2,3,4,5,0,2,14] ?_
 refine qk (fun (((x748, x749), (a746, c747)) : ((List Int × Int) × (Option Addr × Nat))) => ([(0, .int .i64 x1), (7, .pointer (some ⟨g11, 0, none⟩)), (9, .slice a746 x748.length c747), (10, .slice a594 x591.2.length c595), (14, .slice a592 x591.1.length c593), (15, .int .i64 x749)], [⟨g11, 26, [.int .i64 x8, .int .i64 x9, .int .i64 x10]⟩], [Ro (eI .i64) 3 1 (.slice a746 x748.length c747) x748, Ro (eI .i64) 3 1 (.slice a594 x591.2.length c595) x591.2, Ro eS141 141 2 (.slice a592 x591.1.length c593) x591.1], [])) (fun k (s : ((List Int × Int) × (Option Addr × Nat))) => zS F x1 x9 x10 x591 k s.1) ((x599, 0), (a600, c601)) F ?_
 intro k894
 rintro ⟨⟨x748, x749⟩, ⟨a746, c747⟩⟩
 try dsimp only
 refine ql (m' := qa4 F x1 x9 x10 x591 (zS F x1 x9 x10 x591 k894) x748 x749) rfl ?_
 refine av [3,3,4,1,1,19,22,0,2,9] ?_ ?_
 intro _
 refine au [10,2,3,14] ?_
 refine qc (fun ((x998, (a996, c997)) : (List Int × (Option Addr × Nat))) => ([(0, .int .i64 x1), (7, .pointer (some ⟨g11, 0, none⟩)), (9, .slice a996 x998.length c997), (10, .slice a594 x591.2.length c595), (14, .slice a592 x591.1.length c593), (15, .int .i64 x749)], [⟨g11, 26, [.int .i64 x8, .int .i64 x9, .int .i64 x10]⟩], [Ro (eI .i64) 3 1 (.slice a996 x998.length c997) x998, Ro (eI .i64) 3 1 (.slice a594 x591.2.length c595) x591.2, Ro eS141 141 2 (.slice a592 x591.1.length c593) x591.1], [], jf F (zS F x1 x9 x10 x591 k894) x9 x591 x749 x998)) ?_ ?_
 refine av [3,4,1,24,15,0,2,9] ?_ ?_
 intro _
 refine au [4,1,1,34,15] ?_
 intro x1009 e1009 g1010 h1011
 refine au [13] ?_
 refine qiK (j := 2) (y := x1009) (off := 0) kb rfl rfl tf3 rfl h1011 (qJ e1009).2.2 rfl (fun _ => rfl) rfl rfl ?_
 refine au [1,24,10,34,13] ?_
 intro x1012 e1012 _
 refine au [27,7] ?_
 rintro x1013 e1013 ⟨a1014, c1015⟩
 refine qA 1 (qo .i64) rfl Tryz.underlying37 tf3 rfl rfl rfl rfl rfl (.inl ⟨0, _, rfl⟩) rfl rfl (fun x1016 e1016 a1017 c1018 => ?_)
 refine au [5,0] ?_
 exact qa (x1016, (a1017, c1018))
 intro _
 refine au [29,8] ?_
 intro x1019 e1019 g1020 h1021
 replace h1021 : a592 = some ⟨g1020, 0, none⟩ := h1021
 have h1022 := qfu (k := x591.1.length) (c := c593) h1021
 refine au [29,8] ?_
 intro x1023 e1023 g1024 h1025
 replace h1025 : a592 = some ⟨g1024, 0, none⟩ := h1025
 have h1026 := qfu (k := x591.1.length) (c := c593) h1025
 refine au [29,8] ?_
 intro x1027 e1027 g1028 h1029
 replace h1029 : a592 = some ⟨g1028, 0, none⟩ := h1029
 have h1030 := qfu (k := x591.1.length) (c := c593) h1029
 refine qw mixed [] [⟨g11, 26, [.int .i64 x8, .int .i64 x9, .int .i64 x10]⟩] [qt g1020 (x749.toNat * 2) (eS141 x1019), qt g1024 ((isub .i64 x749 1).toNat * 2) (eS141 x1023), qt g1028 ((isub .i64 x749 1).toNat * 2) (eS141 x1027)] (.cons 0 rfl .nil) (qgm 2 rfl (qbX kb e1019 h1021) (qgm 2 rfl (qbX kb e1023 h1025) (qgm 2 rfl (qbX kb e1027 h1029) qu))) 26 rfl ?_
 refine au [6,0,6,1,6,2] ?_
 refine qf (d := 98) (v := .slice (some ⟨g1020, 0, none⟩) x591.1.length c593) rfl (by rw [h1021] <;> rfl) (qm 3 (.pointer (some ⟨g1020, x749.toNat * 2, none⟩)) rfl rfl rfl (qfd Tryz.underlying117 tf141 rfl rfl (qJ e1019).1 (kj e1019)) (qf (d := 98) (v := .slice a592 x591.1.length c593) rfl (by rw [h1021] <;> rfl) ?_))
 refine au [24,2,4] ?_
 refine qK 5 (.int .i64 x1019.1) [] rfl rfl rfl (qfZ (j := 0) (off := 0) rfl tf3 rfl rfl (fun _ => rfl) rfl) ?_
 refine au [6,6,6,7,6,8] ?_
 refine qf (d := 103) (v := .slice (some ⟨g1024, 0, none⟩) x591.1.length c593) rfl (by rw [h1025] <;> rfl) (qm 9 (.pointer (some ⟨g1024, (isub .i64 x749 1).toNat * 2, none⟩)) rfl rfl rfl (qfd Tryz.underlying117 tf141 rfl rfl (qJ e1023).1 (kj e1023)) (qf (d := 103) (v := .slice a592 x591.1.length c593) rfl (by rw [h1025] <;> rfl) ?_))
 refine au [24,2,10] ?_
 refine qK 11 (.int .i64 x1023.1) [] rfl rfl rfl (qfZ (j := 1) (off := 0) rfl tf3 rfl rfl (fun _ => rfl) rfl) ?_
 refine au [6,12,6,13,6,14] ?_
 refine qf (d := 109) (v := .slice (some ⟨g1028, 0, none⟩) x591.1.length c593) rfl (by rw [h1029] <;> rfl) (qm 15 (.pointer (some ⟨g1028, (isub .i64 x749 1).toNat * 2, none⟩)) rfl rfl rfl (qfd Tryz.underlying117 tf141 rfl rfl (qJ e1027).1 (kj e1027)) (qf (d := 109) (v := .slice a592 x591.1.length c593) rfl (by rw [h1029] <;> rfl) ?_))
 refine au [24,2,16] ?_
 refine qK 17 (.int .i64 x1027.2) [] rfl rfl rfl (qfZ (j := 2) (off := 1) rfl tf3 rfl rfl (fun _ => rfl) rfl) ?_
 refine au [6,18,6,19,6,20,6,21,29,3,22,24,0,23,27,7] ?_
 rintro x1031 e1031 ⟨a1032, c1033⟩
 refine au [0] ?_
 refine zG (.cons 0 rfl .nil) (qgm 3 rfl (qbX kb e1019 h1021) (qgm 3 rfl (qbX kb e1023 h1025) (qgm 3 rfl (qbX kb e1027 h1029) qu))) ?_
 refine au [24,0,24] ?_
 refine qA 1 (qo .i64) rfl Tryz.underlying37 tf3 rfl rfl rfl rfl rfl (.inl ⟨0, _, rfl⟩) rfl rfl (fun x1034 e1034 a1035 c1036 => ?_)
 refine au [0] ?_
 refine zG (.cons 0 rfl .nil) (qgm 3 rfl (qbX kb e1019 h1021) (qgm 3 rfl (qbX kb e1023 h1025) (qgm 3 rfl (qbX kb e1027 h1029) qu))) ?_
 refine au [6,25,24,7] ?_
 exact qz (qa (x1034, (a1035, c1036))) (by intro c h; cases h)
 rintro ⟨x998, ⟨a996, c997⟩⟩
 try dsimp only
 refine au [29,8] ?_
 intro x999 e999 g1000 h1001
 replace h1001 : a592 = some ⟨g1000, 0, none⟩ := h1001
 have h1002 := qfu (k := x591.1.length) (c := c593) h1001
 refine qw mixed [] [⟨g11, 26, [.int .i64 x8, .int .i64 x9, .int .i64 x10]⟩] [qt g1000 (x749.toNat * 2) (eS141 x999)] (.cons 0 rfl .nil) (qgm 2 rfl (qbX kb e999 h1001) qu) 13 rfl ?_
 refine au [6,0,6,1,6,2] ?_
 refine qf (d := 123) (v := .slice (some ⟨g1000, 0, none⟩) x591.1.length c593) rfl (by rw [h1001] <;> rfl) (qm 3 (.pointer (some ⟨g1000, x749.toNat * 2, none⟩)) rfl rfl rfl (qfd Tryz.underlying117 tf141 rfl rfl (qJ e999).1 (kj e999)) (qf (d := 123) (v := .slice a592 x591.1.length c593) rfl (by rw [h1001] <;> rfl) ?_))
 refine au [24,2,4] ?_
 refine qK 5 (.int .i64 x999.2) [] rfl rfl rfl (qfZ (j := 0) (off := 1) rfl tf3 rfl rfl (fun _ => rfl) rfl) ?_
 refine au [24,2,6,25,9,7,6,8,29,3,9,24,0,10,27,7] ?_
 rintro x1003 e1003 ⟨a1004, c1005⟩
 refine au [0] ?_
 refine zG (.cons 0 rfl .nil) (qgm 3 rfl (qbX kb e999 h1001) qu) ?_
 refine au [24,0,11] ?_
 refine qA 1 (qo .i64) rfl Tryz.underlying37 tf3 rfl rfl rfl rfl rfl (.inl ⟨0, _, rfl⟩) rfl rfl (fun x1006 e1006 a1007 c1008 => ?_)
 refine au [0] ?_
 refine zG (.cons 0 rfl .nil) (qgm 3 rfl (qbX kb e999 h1001) qu) ?_
 refine au [6,12,24,7] ?_
 refine qz ?_ (by intro c h; cases h)
 refine au [21,2,4,1,15,5,0] ?_
 exact qh ((x1006, iadd .i64 x749 1), (a1007, c1008))
 intro _
 refine au [24,4,16,16,24,5,35,0] ?_
 exact qa ((x748, x591.2), (a746, c747, a594, c595))
 intro _
 refine au [10] ?_
 exact qa ((x113, x116), (a111, c112, a114, c115))
 rintro ⟨⟨x569, x572⟩, ⟨a567, c568, a570, c571⟩⟩
 try dsimp only
 refine au [3] ?_
 refine qw mixed [] [⟨g11, 26, [.int .i64 x8, .int .i64 x9, .int .i64 x10]⟩] [Sl (eI .i64) 1 (.slice a570 x572.length c571) x572] (.cons 0 rfl .nil) (qC 0 rfl qu) 9 rfl ?_
 refine au [6,0,6,1,6,2,24,2,4,25,9,5,24,0,3] ?_
 refine qg qmO ?_
 rintro x582 e582 ⟨a583, c584⟩
 refine au [0,28,2,24,0,6] ?_
 refine qg qi4 ?_
 rintro x585 e585 ⟨a586, c587⟩
 refine au [0,28,2,24,0,7] ?_
 refine qA 2 (qo .i64) rfl Tryz.underlying37 tf3 rfl rfl rfl rfl rfl (.inl ⟨0, _, rfl⟩) rfl rfl (fun x588 e588 a589 c590 => ?_)
 refine au [0,28,2,6,8,24,7] ?_
 refine qz ?_ (by intro c h; cases h)
 refine au [2,12] ?_
 exact qj (a589, c590)
set_option maxHeartbeats 4000000 in
theorem qkg {F : Nat} {x1 : List (List Int)} {a2 : Option Addr} {c3 : Nat} {s3 : List (Option Addr × Nat)} {x4 : Int} {x5 : Int} {x6 : Int} {x7 : Int} {r : (Int × List Int)} (hm : qeS F x1 x4 x5 x6 x7 = some r) :
    Pure Tryz.prog 33 [.agg #[.slice a2 x1.length c3], .int .i64 x4, .agg #[.int .i64 x5, .int .i64 x6, .int .i64 x7]] [SlN eN37 iN37 1 (.slice a2 x1.length c3) x1 s3] (Option Addr × Nat) (fun g => .tuple #[.int .i64 r.1, .slice g.1 r.2.length g.2]) (fun g => [Ro (eI .i64) 3 1 (.slice g.1 r.2.length g.2) r.2]) (fun _ => []) := by
 refine qi Tryz.func33 rfl Tryz.ntmps33 rfl hm (fun w => ?_)
 refine au [25,13,3,4,24,3] ?_
 intro g8
 refine au [24,3] ?_
 intro g9
 refine au [5,5,0,2,3,4,5,0,2,3,4,5,0,2] ?_
 refine qc (fun (((x331, x334), (a332, c333)) : ((Int × List Int) × (Option Addr × Nat))) => ([(8, .int .i64 x331), (9, .slice a332 x334.length c333)], [], [Ro (eI .i64) 3 1 (.slice a332 x334.length c333) x334], [], qcx F x331 x334)) ?_ ?_
 refine au [3,4,5,0,2,14,25,14] ?_
 refine qk (fun (((x441, x444, x445), (a442, c443)) : ((Int × List Int × Int) × (Option Addr × Nat))) => ([(1, .int .i64 x4), (3, .pointer (some ⟨g8, 0, none⟩)), (5, .pointer (some ⟨g9, 0, none⟩)), (8, .int .i64 x441), (9, .slice a442 x444.length c443), (10, .int .i64 x445)], [⟨g9, 26, [.int .i64 x5, .int .i64 x6, .int .i64 x7]⟩, ⟨g8, 24, [.slice a2 x1.length c3]⟩], [Ro (eI .i64) 3 1 (.slice a442 x444.length c443) x444], [SlN eN37 iN37 1 (.slice a2 x1.length c3) x1 s3])) (fun k (s : ((Int × List Int × Int) × (Option Addr × Nat))) => zm F x1 x4 x5 x6 x7 k s.1) ((-1, ([] : List Int), 0), (none, 0)) F ?_
 intro k550
 rintro ⟨⟨x441, x444, x445⟩, ⟨a442, c443⟩⟩
 try dsimp only
 refine ql (m' := qaV F x1 x4 x5 x6 x7 (zm F x1 x4 x5 x6 x7 k550) x441 x444 x445) rfl ?_
 refine au [3,3,4,1,13,23,26,9,1] ?_
 refine qB 4 (decide (x445 ≤ x5)) [(1, .int .i64 x4), (3, .pointer (some ⟨g8, 0, none⟩)), (5, .pointer (some ⟨g9, 0, none⟩)), (8, .int .i64 x441), (9, .slice a442 x444.length c443), (10, .int .i64 x445), (21, .bool ((decide (x445 ≤ x5)) && (decide (x445 ≤ x4))))] (fun h553 => ?_) (fun h553 => ?_) ?_
 refine qb (os := _) rfl (qq (k := 17) rfl h553 ?_)
 refine au [1,1,26,9,24,8] ?_
 refine qe (d := 21) (v := .bool ((decide (x445 ≤ x5)) && (decide (x445 ≤ x4)))) rfl (by rw [h553]; simp only [Bool.true_and]) ?_
 exact az [0,24,1]
 refine qb (os := _) rfl (qp (k := 17) rfl h553 ?_)
 refine au [7,7,7,24,9] ?_
 refine qe (d := 21) (v := .bool ((decide (x445 ≤ x5)) && (decide (x445 ≤ x4)))) rfl (by rw [h553]; simp only [Bool.false_and]) ?_
 exact az [0,24,1]
 refine qb (os := _) rfl ?_
 refine av [0,2,9] ?_ ?_
 intro _
 refine au [10,2] ?_
 refine qc (fun (((x602, x605), (a603, c604)) : ((Int × List Int) × (Option Addr × Nat))) => ([(1, .int .i64 x4), (3, .pointer (some ⟨g8, 0, none⟩)), (5, .pointer (some ⟨g9, 0, none⟩)), (8, .int .i64 x602), (9, .slice a603 x605.length c604), (10, .int .i64 x445)], [⟨g9, 26, [.int .i64 x5, .int .i64 x6, .int .i64 x7]⟩, ⟨g8, 24, [.slice a2 x1.length c3]⟩], [Ro (eI .i64) 3 1 (.slice a603 x605.length c604) x605], [SlN eN37 iN37 1 (.slice a2 x1.length c3) x1 s3], qaW F (zm F x1 x4 x5 x6 x7 k550) x445 x602 x605)) ?_ ?_
 refine au [14,3,4,5,0,2] ?_
 refine qc (fun ((x612, (a610, c611)) : (List Int × (Option Addr × Nat))) => ([(1, .int .i64 x4), (3, .pointer (some ⟨g8, 0, none⟩)), (5, .pointer (some ⟨g9, 0, none⟩)), (8, .int .i64 x441), (9, .slice a442 x444.length c443), (10, .int .i64 x445), (11, .slice a610 x612.length c611)], [⟨g9, 26, [.int .i64 x5, .int .i64 x6, .int .i64 x7]⟩, ⟨g8, 24, [.slice a2 x1.length c3]⟩], [Ro (eI .i64) 3 1 (.slice a442 x444.length c443) x444, Ro (eI .i64) 3 1 (.slice a610 x612.length c611) x612], [SlN eN37 iN37 1 (.slice a2 x1.length c3) x1 s3], ja F (zm F x1 x4 x5 x6 x7 k550) x1 x4 x6 x7 x441 x444 x445 x612)) ?_ ?_
 refine av [3,4,13,23,24,6,0,2,9] ?_ ?_
 intro _
 refine au [4,1,24,12,27,7] ?_
 rintro x650 e650 ⟨a651, c652⟩
 refine au [5,0] ?_
 exact qa (x650, (a651, c652))
 intro _
 refine au [10,24,14] ?_
 exact qa (([] : List Int), (none, 0))
 rintro ⟨x612, ⟨a610, c611⟩⟩
 try dsimp only
 refine au [3,4,5,0,2] ?_
 refine qc (fun ((x620, (a618, c619)) : (List Int × (Option Addr × Nat))) => ([(1, .int .i64 x4), (3, .pointer (some ⟨g8, 0, none⟩)), (5, .pointer (some ⟨g9, 0, none⟩)), (8, .int .i64 x441), (9, .slice a442 x444.length c443), (10, .int .i64 x445), (11, .slice a610 x612.length c611), (12, .slice a618 x620.length c619)], [⟨g9, 26, [.int .i64 x5, .int .i64 x6, .int .i64 x7]⟩, ⟨g8, 24, [.slice a2 x1.length c3]⟩], [Ro (eI .i64) 3 1 (.slice a442 x444.length c443) x444, Ro (eI .i64) 3 1 (.slice a610 x612.length c611) x612], [Sl (eI .i64) 1 (.slice a618 x620.length c619) x620, SlN eN37 iN37 1 (.slice a2 x1.length c3) x1 s3], jb F (zm F x1 x4 x5 x6 x7 k550) x1 x4 x6 x7 x441 x444 x445 x612 x620)) ?_ ?_
 refine av [3,4,1,24,6,0,2,9] ?_ ?_
 intro _
 refine au [4,13,25,12,1,1,24,10,27,10] ?_
 intro x645 e645 g648 b646 o647
 refine au [25,1,5,0] ?_
 exact qa (x645, (g648.1, g648.2))
 intro _
 refine au [10,24,14,32,14] ?_
 exact qa (([] : List Int), (none, 0))
 rintro ⟨x620, ⟨a618, c619⟩⟩
 try dsimp only
 refine au [3] ?_
 refine qfD (j := 1) kY (by decide) rfl ?_
 intro x632 e632 g636 b633 o634 h635
 replace h635 : a2 = some ⟨b633, o634, none⟩ := h635
 refine qw mixed [] [⟨g9, 26, [.int .i64 x5, .int .i64 x6, .int .i64 x7]⟩, ⟨g8, 24, [.slice a2 x1.length c3]⟩] [qt b633 (o634 + x4.toNat * 1) (eN37 (x632, g636)), Sl (eI .i64) 1 (.slice g636.1 x632.length g636.2) x632, Sl (eI .i64) 1 (.slice a618 x620.length c619) x620, SlN eN37 iN37 1 (.slice a2 x1.length c3) x1 s3] (.cons 0 rfl (.cons 0 rfl .nil)) (qC 0 rfl (qC 1 rfl (qC 2 rfl (qC 3 rfl qu)))) 17 rfl ?_
 refine au [6,0,6,1,24,2,2,28,13,3,6,4] ?_
 refine qf (d := 42) (v := .slice (some ⟨b633, o634, none⟩) x1.length c3) rfl (by rw [h635] <;> rfl) (qm 5 (.pointer (some ⟨b633, (o634 + x4.toNat * 1), none⟩)) rfl rfl rfl (yq Tryz.underlying22 tf37 rfl rfl (qJ e632).1 (kj e632)) (qf (d := 42) (v := .slice a2 x1.length c3) rfl (by rw [h635] <;> rfl) (qK 6 (.slice g636.1 x632.length g636.2) [] rfl rfl rfl (zx (j := 0) rfl tf37 rfl rfl (fun _ => rfl) rfl) ?_)))
 refine au [6,7,6,8,24,2,9,25,9,10,24,2,11,25,9,12] ?_
 refine qm 13 (.agg #[.int .i64 x445, .int .i64 x6, .int .i64 x7]) rfl rfl rfl (qfH (cells := [.int .i64 x445, .int .i64 x6, .int .i64 x7]) st26 rfl (by kernel_rfl)) ?_
 refine au [24,0,14,35,1] ?_
 rintro x637 e637 ⟨a638, c639⟩
 refine au [0,30,4,24,0,15] ?_
 refine qA 2 (qo .i64) rfl Tryz.underlying37 tf3 rfl rfl rfl rfl rfl (.inl ⟨0, _, rfl⟩) rfl rfl (fun x640 e640 a641 c642 => ?_)
 refine au [0,30,4,6,16,24,7] ?_
 refine qz ?_ (by intro c h; cases h)
 refine au [2,3,4,1,22,1] ?_
 refine qB 6 (decide (x441 < 0)) [(1, .int .i64 x4), (3, .pointer (some ⟨g8, 0, none⟩)), (5, .pointer (some ⟨g9, 0, none⟩)), (8, .int .i64 x441), (9, .slice a442 x444.length c443), (10, .int .i64 x445), (11, .slice a641 x640.length c642), (63, .bool ((decide (x441 < 0)) || (decide ((x640.length : Int) < (x444.length : Int)))))] (fun h643 => ?_) (fun h643 => ?_) ?_
 refine qb (os := _) rfl (qq (k := 57) rfl h643 ?_)
 refine au [7,7,7,7,7,24,8] ?_
 refine qe (d := 63) (v := .bool ((decide (x441 < 0)) || (decide ((x640.length : Int) < (x444.length : Int))))) rfl (by rw [h643]; simp only [Bool.true_or]) ?_
 exact az [0,24,1]
 refine qb (os := _) rfl (qp (k := 57) rfl h643 ?_)
 refine au [1,19,1,19,22,24,9] ?_
 refine qe (d := 63) (v := .bool ((decide (x441 < 0)) || (decide ((x640.length : Int) < (x444.length : Int))))) rfl (by rw [h643]; simp only [Bool.false_or]) ?_
 exact az [0,24,1]
 refine qb (os := _) rfl ?_
 refine av [0,2,9] ?_ ?_
 intro _
 refine au [4,1,1,5,5,0,21] ?_
 exact qa ((x445, x640), (a641, c642))
 intro _
 refine au [10,21] ?_
 exact qa ((x441, x444), (a442, c443))
 rintro ⟨⟨x602, x605⟩, ⟨a603, c604⟩⟩
 try dsimp only
 refine au [4,1,15,5,0] ?_
 exact qh ((x602, x605, iadd .i64 x445 1), (a603, c604))
 intro _
 refine au [24,4,16,16,24,5] ?_
 exact qa ((x441, x444), (a442, c443))
 rintro ⟨⟨x331, x334⟩, ⟨a332, c333⟩⟩
 try dsimp only
 refine au [3,4,1,1,5,5,0,2,12] ?_
 exact qj (a332, c333)
theorem qiV {F : Nat} {x1 : List (List Int)} {a2 : Option Addr} {c3 : Nat} {s3 : List (Option Addr × Nat)} {x4 : Int} {x5 : Int} {x6 : Int} {r : (List Int × List Int × List Int × Int)} (hm : qbm F x1 x4 x5 x6 = some r) :
    Pure Tryz.prog 12 [.agg #[.slice a2 x1.length c3], .agg #[.int .i64 x4, .int .i64 x5, .int .i64 x6]] [SlN eN37 iN37 1 (.slice a2 x1.length c3) x1 s3] ((Option Addr × Nat) × (Option Addr × Nat) × (Option Addr × Nat)) (fun g => .tuple #[.slice g.1.1 r.1.length g.1.2, .slice g.2.1.1 r.2.1.length g.2.1.2, .slice g.2.2.1 r.2.2.1.length g.2.2.2, .int .i64 r.2.2.2]) (fun g => [Ro (eI .i64) 3 1 (.slice g.1.1 r.1.length g.1.2) r.1, Ro (eI .i64) 3 1 (.slice g.2.1.1 r.2.1.length g.2.1.2) r.2.1, Ro (eI .i64) 3 1 (.slice g.2.2.1 r.2.2.1.length g.2.2.2) r.2.2.1]) (fun _ => []) := by
 refine qi Tryz.func12 rfl Tryz.ntmps12 rfl hm (fun w => ?_)
 refine au [24,13,3,4,24,3] ?_
 intro g7
 refine au [24,3] ?_
 intro g8
 refine au [5,5,5,5,0,2,3,4,25,7] ?_
 refine qg qhR ?_
 intro x9 e9 _
 refine au [5,0,2] ?_
 refine qc (fun ((x12, _) : (Int × Unit)) => ([(2, .pointer (some ⟨g7, 0, none⟩)), (3, .pointer (some ⟨g8, 0, none⟩)), (8, .int .i64 x12)], [⟨g8, 26, [.int .i64 x4, .int .i64 x5, .int .i64 x6]⟩, ⟨g7, 24, [.slice a2 x1.length c3]⟩], [], [SlN eN37 iN37 1 (.slice a2 x1.length c3) x1 s3], qa0 F x1 x4 x5 x6 x12)) ?_ ?_
 refine av [3,4,1,24,15,0,2,9] ?_ ?_
 intro _
 refine au [4,25,2,30,15] ?_
 intro x279 e279 _
 refine au [5,0] ?_
 exact qa (x279, ())
 intro _
 refine au [10] ?_
 exact qa (x9, ())
 rintro ⟨x12, _⟩
 try dsimp only
 refine av [3,3,4,1,25,3,0,2,9] ?_ ?_
 intro _
 refine au [3,4,1,5,5,5,5,0,2,12,11,24,14,24,14,24,14] ?_
 exact qN ((none, 0), (none, 0), (none, 0)) (resL (rs := [.tmp 4, .tmp 5, .tmp 6, .tmp 7]) rfl (.tmp rfl (.tmp rfl (.tmp rfl (.tmp rfl ResOk.nil)))) rfl) (fun h => by subst h; exact (.cons 0 rfl (.cons 0 rfl (.cons 0 rfl .nil))))
 intro _
 refine au [10,2,3,4,5,5,5,0,2] ?_
 refine qc (fun (((x147, x150, x153), (a145, c146, a148, c149, a151, c152)) : ((List Int × List Int × List Int) × (Option Addr × Nat × Option Addr × Nat × Option Addr × Nat))) => ([(9, .slice a145 x147.length c146), (10, .slice a148 x150.length c149), (11, .slice a151 x153.length c152)], [], [Ro (eI .i64) 3 1 (.slice a145 x147.length c146) x147, Ro (eI .i64) 3 1 (.slice a148 x150.length c149) x150, Ro (eI .i64) 3 1 (.slice a151 x153.length c152) x153], [], qcy F x147 x150 x153)) ?_ ?_
 refine au [3,4,5,0,2,14,25,14,25,14,25,14] ?_
 refine qk (fun (((x201, x204, x207, x208), (a199, c200, a202, c203, a205, c206)) : ((List Int × List Int × List Int × Int) × (Option Addr × Nat × Option Addr × Nat × Option Addr × Nat))) => ([(2, .pointer (some ⟨g7, 0, none⟩)), (3, .pointer (some ⟨g8, 0, none⟩)), (9, .slice a199 x201.length c200), (10, .slice a202 x204.length c203), (11, .slice a205 x207.length c206), (12, .int .i64 x208)], [⟨g8, 26, [.int .i64 x4, .int .i64 x5, .int .i64 x6]⟩, ⟨g7, 24, [.slice a2 x1.length c3]⟩], [Ro (eI .i64) 3 1 (.slice a199 x201.length c200) x201, Ro (eI .i64) 3 1 (.slice a202 x204.length c203) x204, Ro (eI .i64) 3 1 (.slice a205 x207.length c206) x207], [SlN eN37 iN37 1 (.slice a2 x1.length c3) x1 s3])) (fun k (s : ((List Int × List Int × List Int × Int) × (Option Addr × Nat × Option Addr × Nat × Option Addr × Nat))) => kT F x1 x4 x5 x6 k s.1) ((([] : List Int), ([] : List Int), ([] : List Int), 0), (none, 0, none, 0, none, 0)) F ?_
 intro k243
 rintro ⟨⟨x201, x204, x207, x208⟩, ⟨a199, c200, a202, c203, a205, c206⟩⟩
 try dsimp only
 refine ql (m' := qaZ F x1 x4 x5 x6 (kT F x1 x4 x5 x6 k243) x201 x204 x207 x208) rfl ?_
 refine av [3,3,4,1,13,25,12,19,22,0,2,9] ?_ ?_
 intro _
 refine au [10,2,3,14,3,4,25,7,1,25,2] ?_
 refine qg qkg ?_
 rintro x261 e261 ⟨a262, c263⟩
 refine au [1,17,17,5,5,0,2,3,4,1,1] ?_
 refine qy (vs := [.int .i64 x261.1]) (ys := ([x261.1] : List Int)) (qo .i64) (by decide) rfl Tryz.underlying37 tf3 rfl rfl rfl rfl rfl (by decide) (fun a264 c265 => qA 3 (qo .i64) rfl Tryz.underlying37 tf3 rfl rfl rfl rfl rfl (.inl ⟨0, _, rfl⟩) rfl rfl (fun x266 e266 a267 c268 => ?_))
 refine au [1,1,19] ?_
 refine qy (vs := [.int .i64 (x201.length : Int)]) (ys := ([(x201.length : Int)] : List Int)) (qo .i64) (by decide) rfl Tryz.underlying37 tf3 rfl rfl rfl rfl rfl (by decide) (fun a269 c270 => qA 5 (qo .i64) rfl Tryz.underlying37 tf3 rfl rfl rfl rfl rfl (.inl ⟨0, _, rfl⟩) rfl rfl (fun x271 e271 a272 c273 => ?_))
 refine au [5,5,0,2,4,1,1] ?_
 refine qA 5 (qo .i64) rfl Tryz.underlying37 tf3 rfl rfl rfl rfl rfl (.inl ⟨4, _, rfl⟩) rfl rfl (fun x274 e274 a275 c276 => ?_)
 refine au [5,0,21,2,4,1,15,5,0] ?_
 exact qh ((x274, x266, x271, iadd .i64 x208 1), (a275, c276, a267, c268, a272, c273))
 intro _
 refine au [24,4,16,16,24,5] ?_
 exact qa ((x201, x204, x207), (a199, c200, a202, c203, a205, c206))
 rintro ⟨⟨x147, x150, x153⟩, ⟨a145, c146, a148, c149, a151, c152⟩⟩
 try dsimp only
 refine av [3,3,4,1,19,24,6,0,2,9] ?_ ?_
 intro _
 refine au [3,4,5,5,5,5,0,2,12,11,24,14,24,14,24,14] ?_
 exact qN ((none, 0), (none, 0), (none, 0)) (resL (rs := [.tmp 4, .tmp 5, .tmp 6, .tmp 7]) rfl (.tmp rfl (.tmp rfl (.tmp rfl (.tmp rfl ResOk.nil)))) rfl) (fun h => by subst h; exact (.cons 0 rfl (.cons 0 rfl (.cons 0 rfl .nil))))
 intro _
 refine au [10,2,3,4,1,1,1,5,5,5,5,0,2,12] ?_
 exact qN ((a145, c146), (a148, c149), (a151, c152)) (resL (rs := [.tmp 4, .tmp 5, .tmp 6, .tmp 7]) rfl (.tmp rfl (.tmp rfl (.tmp rfl (.tmp rfl ResOk.nil)))) rfl) (fun h => by subst h; exact (.cons 0 rfl (.cons 0 rfl (.cons 0 rfl .nil))))
theorem qkf {F : Nat} {x1 : List Int} {a2 : Option Addr} {c3 : Nat} {r : (Int × List Int)} (hm : qdo F x1 = some r) :
    Pure Tryz.prog 13 [.slice a2 x1.length c3] [Sl (eI .i64) 1 (.slice a2 x1.length c3) x1] (Option Addr × Nat) (fun g => .agg #[.int .i64 r.1, .slice g.1 r.2.length g.2]) (fun g => [Ro (eI .u8) 5 1 (.slice g.1 r.2.length g.2) r.2]) (fun _ => []) := by
 refine qi Tryz.func13 rfl Tryz.ntmps13 rfl hm (fun w => ?_)
 refine au [25,5,3,4,25,0] ?_
 intro g4
 refine au [0,2,3,4,1,19] ?_
 refine qD (cells := [.int .i64 (x1.length : Int), .slice none 0 0]) rfl st29 rfl (by kernel_rfl) rfl ?_
 refine au [25,0] ?_
 intro g5
 refine au [24,11,0,2] ?_
 refine qc (fun ((x497, (a495, c496)) : (List Int × (Option Addr × Nat))) => ([(2, .pointer (some ⟨g4, 0, none⟩)), (3, .pointer (some ⟨g5, 0, none⟩))], [⟨g5, 29, [.int .i64 (x1.length : Int), .slice a495 x497.length c496]⟩, ⟨g4, 29, [.int .i64 0, .slice none 0 0]⟩], [Ro (eI .u8) 5 1 (.slice a495 x497.length c496) x497], [], qeA F x1 x497)) ?_ ?_
 refine au [3,4,5,0,2,14,32,15] ?_
 refine qk (fun (((x660, x663), (a661, c662)) : ((Int × List Int) × (Option Addr × Nat))) => ([(0, .slice a2 x1.length c3), (2, .pointer (some ⟨g4, 0, none⟩)), (3, .pointer (some ⟨g5, 0, none⟩)), (4, .int .i64 x660)], [⟨g5, 29, [.int .i64 (x1.length : Int), .slice a661 x663.length c662]⟩, ⟨g4, 29, [.int .i64 0, .slice none 0 0]⟩], [Ro (eI .u8) 5 1 (.slice a661 x663.length c662) x663], [Sl (eI .i64) 1 (.slice a2 x1.length c3) x1])) (fun k (s : ((Int × List Int) × (Option Addr × Nat))) => qX F x1 k s.1) ((0, ([] : List Int)), (none, 0)) F ?_
 intro k825
 rintro ⟨⟨x660, x663⟩, ⟨a661, c662⟩⟩
 try dsimp only
 refine ql (m' := qaU F x1 (qX F x1 k825) x660 x663) rfl ?_
 refine av [3,3,4,1,1,19,22,0,2,9] ?_ ?_
 intro _
 refine au [10,2] ?_
 refine qc (fun ((x907, (a905, c906)) : (List Int × (Option Addr × Nat))) => ([(0, .slice a2 x1.length c3), (2, .pointer (some ⟨g4, 0, none⟩)), (3, .pointer (some ⟨g5, 0, none⟩)), (4, .int .i64 x660)], [⟨g5, 29, [.int .i64 (x1.length : Int), .slice a905 x907.length c906]⟩, ⟨g4, 29, [.int .i64 0, .slice none 0 0]⟩], [Ro (eI .u8) 5 1 (.slice a905 x907.length c906) x907], [Sl (eI .i64) 1 (.slice a2 x1.length c3) x1], qb6 F (qX F x1 k825) x660 x907)) ?_ ?_
 refine au [14,3,4,5,0,2] ?_
 refine qc (fun ((x944, _) : (Int × Unit)) => ([(0, .slice a2 x1.length c3), (2, .pointer (some ⟨g4, 0, none⟩)), (3, .pointer (some ⟨g5, 0, none⟩)), (4, .int .i64 x660), (5, .int .i64 x944)], [⟨g5, 29, [.int .i64 (x1.length : Int), .slice a661 x663.length c662]⟩, ⟨g4, 29, [.int .i64 0, .slice none 0 0]⟩], [Ro (eI .u8) 5 1 (.slice a661 x663.length c662) x663], [Sl (eI .i64) 1 (.slice a2 x1.length c3) x1], qad F (qX F x1 k825) x660 x663 x944)) ?_ ?_
 refine au [3,4,5,0,2,14] ?_
 refine qk (fun (((x961, x962), _) : ((Int × Int) × Unit)) => ([(0, .slice a2 x1.length c3), (2, .pointer (some ⟨g4, 0, none⟩)), (3, .pointer (some ⟨g5, 0, none⟩)), (4, .int .i64 x660), (5, .int .i64 x961), (6, .int .i64 x962)], [⟨g5, 29, [.int .i64 (x1.length : Int), .slice a661 x663.length c662]⟩, ⟨g4, 29, [.int .i64 0, .slice none 0 0]⟩], [Ro (eI .u8) 5 1 (.slice a661 x663.length c662) x663], [Sl (eI .i64) 1 (.slice a2 x1.length c3) x1])) (fun k (s : ((Int × Int) × Unit)) => ko F (qX F x1 k825) x1 x660 x663 k s.1) ((0, 0), ()) F ?_
 intro k974
 rintro ⟨⟨x961, x962⟩, _⟩
 try dsimp only
 refine ql (m' := qac F (qX F x1 k825) x1 x660 x663 (ko F (qX F x1 k825) x1 x660 x663 k974) x961 x962) rfl ?_
 refine av [3,3,4,1,22,0,2,9] ?_ ?_
 intro _
 refine au [10,2] ?_
 refine qc (fun ((x980, _) : (Int × Unit)) => ([(0, .slice a2 x1.length c3), (2, .pointer (some ⟨g4, 0, none⟩)), (3, .pointer (some ⟨g5, 0, none⟩)), (4, .int .i64 x660), (5, .int .i64 x980), (6, .int .i64 x962)], [⟨g5, 29, [.int .i64 (x1.length : Int), .slice a661 x663.length c662]⟩, ⟨g4, 29, [.int .i64 0, .slice none 0 0]⟩], [Ro (eI .u8) 5 1 (.slice a661 x663.length c662) x663], [Sl (eI .i64) 1 (.slice a2 x1.length c3) x1], vn F (ko F (qX F x1 k825) x1 x660 x663 k974) x962 x980)) ?_ ?_
 refine av [14,3,4,1,27,2,5,0,2,3,4,1,1,15,1,19,22,0,2,9] ?_ ?_
 intro _
 refine au [4,1,1,1,1,15,25,15] ?_
 intro x981 e981 b982 o983
 refine au [25,1,15,5,0,21] ?_
 exact qa (iadd .i64 (imul .i64 2 x961) x981, ())
 intro _
 refine au [10,21] ?_
 exact qa (imul .i64 2 x961, ())
 rintro ⟨x980, _⟩
 try dsimp only
 refine au [4,1,15,5,0] ?_
 exact qh ((x980, iadd .i64 x962 1), ())
 intro _
 refine au [24,4,16,16,24,5] ?_
 exact qa (x961, ())
 rintro ⟨x944, _⟩
 try dsimp only
 refine au [4,13,23,1,24,12] ?_
 refine qy (vs := [.int .u8 (iconv .u8 x944)]) (ys := ([iconv .u8 x944] : List Int)) (qo .u8) (by decide) rfl Tryz.underlying27 tf5 rfl rfl rfl rfl rfl (by decide) (fun a945 c946 => qA 1 (qo .u8) rfl Tryz.underlying27 tf5 rfl rfl rfl rfl rfl (.inl ⟨0, _, rfl⟩) rfl rfl (fun x947 e947 a948 c949 => ?_))
 refine au [13,24,11,0,21] ?_
 exact qa (x947, (a948, c949))
 rintro ⟨x907, ⟨a905, c906⟩⟩
 try dsimp only
 refine au [4,1,15,5,0] ?_
 exact qh ((iadd .i64 x660 8, x907), (a905, c906))
 intro _
 refine au [24,4,16,16,24,5] ?_
 exact qa (x663, (a661, c662))
 rintro ⟨x497, ⟨a495, c496⟩⟩
 try dsimp only
 refine au [3,4,25,2,25,10,0,2,12] ?_
 exact qN (a495, c496) (resL (rs := [.cell 2 29]) rfl (.cell (i := 1) rfl tf29 rfl rfl (by simp) rfl ResOk.nil) rfl) (fun h => by subst h; exact (.cons 0 rfl .nil))
theorem qkj {F : Nat} {x1 : List Int} {a2 : Option Addr} {c3 : Nat} {x4 : List Int} {a5 : Option Addr} {c6 : Nat} {r : Bool} (hm : kV F x1 x4 = some r) :
    Pure Tryz.prog 18 [.slice a2 x1.length c3, .slice a5 x4.length c6] [Sl (eI .i64) 1 (.slice a2 x1.length c3) x1, Sl (eI .i64) 1 (.slice a5 x4.length c6) x4] Unit (fun _ => .bool r) (fun _ => []) (fun _ => []) := by
 refine qi Tryz.func18 rfl Tryz.ntmps18 rfl hm (fun w => ?_)
 refine av [24,13,3,4,5,0,2,3,3,4,1,19,1,19,25,3,0,2,9] ?_ ?_
 intro _
 exact az [3,4,5,0,2,12,11,18]
 intro _
 refine au [10,2] ?_
 refine qc (fun ((_, _) : (Unit × Unit)) => ([], [], [], [], qff F)) ?_ ?_
 refine au [3,4,5,0,2,14] ?_
 refine qk (fun ((x154, _) : (Int × Unit)) => ([(0, .slice a2 x1.length c3), (1, .slice a5 x4.length c6), (5, .int .i64 x154)], [], [], [Sl (eI .i64) 1 (.slice a2 x1.length c3) x1, Sl (eI .i64) 1 (.slice a5 x4.length c6) x4])) (fun k (s : (Int × Unit)) => kI F x1 x4 k s.1) (0, ()) F ?_
 intro k191
 rintro ⟨x154, _⟩
 try dsimp only
 refine ql (m' := va F x1 x4 (kI F x1 x4 k191) x154) rfl ?_
 refine av [3,3,4,1,1,19,22,0,2,9] ?_ ?_
 intro _
 refine au [10,2,3,14,3,28,12] ?_
 intro x218 e218 b219 o220 h221
 replace h221 : a2 = some ⟨b219, o220, none⟩ := h221
 refine au [31,0] ?_
 intro x222 e222 b223 o224 h225
 replace h225 : a5 = some ⟨b223, o224, none⟩ := h225
 refine qw mixed [] [] [qt b223 (o224 + x154.toNat * 1) ((eI .i64) x222), qt b219 (o220 + x154.toNat * 1) ((eI .i64) x218), Sl (eI .i64) 1 (.slice a2 x1.length c3) x1, Sl (eI .i64) 1 (.slice a5 x4.length c6) x4] .nil (qC 0 rfl (qC 1 rfl (qC 2 rfl (qC 3 rfl qu)))) 9 rfl ?_
 refine au [6,0,6,1] ?_
 refine qf (d := 17) (v := .slice (some ⟨b219, o220, none⟩) x1.length c3) rfl (by rw [h221] <;> rfl) (qm 2 (.pointer (some ⟨b219, (o220 + x154.toNat * 1), none⟩)) rfl rfl rfl (yq Tryz.underlying37 tf3 rfl rfl (qJ e218).1 (kj e218)) (qf (d := 17) (v := .slice a2 x1.length c3) rfl (by rw [h221] <;> rfl) (qK 3 (.int .i64 x218) [] rfl rfl rfl (zx (j := 1) rfl tf3 rfl rfl (fun _ => rfl) rfl) ?_)))
 refine au [6,4,6,5] ?_
 refine qf (d := 21) (v := .slice (some ⟨b223, o224, none⟩) x4.length c6) rfl (by rw [h225] <;> rfl) (qm 6 (.pointer (some ⟨b223, (o224 + x154.toNat * 1), none⟩)) rfl rfl rfl (yq Tryz.underlying37 tf3 rfl rfl (qJ e222).1 (kj e222)) (qf (d := 21) (v := .slice a5 x4.length c6) rfl (by rw [h225] <;> rfl) (qK 7 (.int .i64 x222) [] rfl rfl rfl (zx (j := 0) rfl tf3 rfl rfl (fun _ => rfl) rfl) ?_)))
 refine au [6,8,24,7] ?_
 refine qz ?_ (by intro c h; cases h)
 refine av [2,9] ?_ ?_
 intro _
 exact az [3,4,5,0,2,12,20,11,11,20,11,18]
 intro _
 refine au [10,21,2,4,1,15,5,0] ?_
 exact qh (iadd .i64 x154 1, ())
 intro _
 exact az [24,4,16,16,24,5,26,1]
 rintro ⟨_, _⟩
 try dsimp only
 exact az [3,4,5,0,2,12,18]
theorem qlu {F : Nat} {x1 : Int} {x2 : List Int} {a3 : Option Addr} {c4 : Nat} {r : List Int} (hm : js F x1 x2 = some r) :
    Pure Tryz.prog 35 [.agg #[.int .i64 x1, .slice a3 x2.length c4]] [Sl (eI .u8) 1 (.slice a3 x2.length c4) x2] (Option Addr × Nat) (fun g => .slice g.1 r.length g.2) (fun g => [Ro (eI .i64) 3 1 (.slice g.1 r.length g.2) r]) (fun _ => []) := by
 refine qi Tryz.func35 rfl Tryz.ntmps35 rfl hm (fun w => ?_)
 refine au [25,5,3,4,24,3] ?_
 intro g5
 refine au [5,0,2,3,4,5,0,2] ?_
 refine qc (fun ((x190, (a188, c189)) : (List Int × (Option Addr × Nat))) => ([(3, .slice a188 x190.length c189)], [], [Ro (eI .i64) 3 1 (.slice a188 x190.length c189) x190], [], qfe F x190)) ?_ ?_
 refine au [3,4,5,0,2,14,25,14] ?_
 refine qk (fun (((x252, x253), (a250, c251)) : ((List Int × Int) × (Option Addr × Nat))) => ([(1, .pointer (some ⟨g5, 0, none⟩)), (3, .slice a250 x252.length c251), (4, .int .i64 x253)], [⟨g5, 29, [.int .i64 x1, .slice a3 x2.length c4]⟩], [Ro (eI .i64) 3 1 (.slice a250 x252.length c251) x252], [Sl (eI .u8) 1 (.slice a3 x2.length c4) x2])) (fun k (s : ((List Int × Int) × (Option Addr × Nat))) => zB F x1 x2 k s.1) ((([] : List Int), 0), (none, 0)) F ?_
 intro k313
 rintro ⟨⟨x252, x253⟩, ⟨a250, c251⟩⟩
 try dsimp only
 refine ql (m' := qbv F x1 x2 (zB F x1 x2 k313) x252 x253) rfl ?_
 refine av [3,3,4,1,13,23,22,0,2,9] ?_ ?_
 intro _
 refine au [10,2] ?_
 refine qc (fun ((x344, (a342, c343)) : (List Int × (Option Addr × Nat))) => ([(1, .pointer (some ⟨g5, 0, none⟩)), (3, .slice a342 x344.length c343), (4, .int .i64 x253)], [⟨g5, 29, [.int .i64 x1, .slice a3 x2.length c4]⟩], [Ro (eI .i64) 3 1 (.slice a342 x344.length c343) x344], [Sl (eI .u8) 1 (.slice a3 x2.length c4) x2], qdi F (zB F x1 x2 k313) x253 x344)) ?_ ?_
 refine au [14,3,4,13,23,1,26,13,31,6] ?_
 intro x345 e345 b346 o347
 refine au [25,1,24,12,5,0,2] ?_
 refine qc (fun ((x357, _) : (Int × Unit)) => ([(1, .pointer (some ⟨g5, 0, none⟩)), (3, .slice a250 x252.length c251), (4, .int .i64 x253), (5, .int .i64 x357)], [⟨g5, 29, [.int .i64 x1, .slice a3 x2.length c4]⟩], [Ro (eI .i64) 3 1 (.slice a250 x252.length c251) x252], [Sl (eI .u8) 1 (.slice a3 x2.length c4) x2], qbx F (zB F x1 x2 k313) x252 x253 x357)) ?_ ?_
 refine au [3,4,5,0,2,14] ?_
 refine qk (fun (((x365, x366), _) : ((Int × Int) × Unit)) => ([(1, .pointer (some ⟨g5, 0, none⟩)), (3, .slice a250 x252.length c251), (4, .int .i64 x253), (5, .int .i64 x365), (6, .int .i64 x366)], [⟨g5, 29, [.int .i64 x1, .slice a3 x2.length c4]⟩], [Ro (eI .i64) 3 1 (.slice a250 x252.length c251) x252], [Sl (eI .u8) 1 (.slice a3 x2.length c4) x2])) (fun k (s : ((Int × Int) × Unit)) => yZ F (zB F x1 x2 k313) x252 x253 k s.1) ((iconv .i64 x345, 0), ()) F ?_
 intro k369
 rintro ⟨⟨x365, x366⟩, _⟩
 try dsimp only
 refine ql (m' := qbw F (zB F x1 x2 k313) x252 x253 (yZ F (zB F x1 x2 k313) x252 x253 k369) x365 x366) rfl ?_
 refine av [3,3,4,1,1,27,0,24,10,22,0,2,9] ?_ ?_
 intro _
 refine au [10,2,3,14,4,1,26,13,5,0,21,2,4,1,15,5,0] ?_
 exact qh ((iquo .i64 x365 2, iadd .i64 x366 1), ())
 intro _
 refine au [24,4,16,16,24,5] ?_
 exact qa (x365, ())
 rintro ⟨x357, _⟩
 try dsimp only
 refine au [4,1,1,27,0] ?_
 refine qy (vs := [.int .i64 (irem x357 2)]) (ys := ([irem x357 2] : List Int)) (qo .i64) (by decide) rfl Tryz.underlying37 tf3 rfl rfl rfl rfl rfl (by decide) (fun a358 c359 => qA 1 (qo .i64) rfl Tryz.underlying37 tf3 rfl rfl rfl rfl rfl (.inl ⟨0, _, rfl⟩) rfl rfl (fun x360 e360 a361 c362 => ?_))
 refine au [5,0,21] ?_
 exact qa (x360, (a361, c362))
 rintro ⟨x344, ⟨a342, c343⟩⟩
 try dsimp only
 refine au [4,1,15,5,0] ?_
 exact qh ((x344, iadd .i64 x253 1), (a342, c343))
 intro _
 refine au [24,4,16,16,24,5] ?_
 exact qa (x252, (a250, c251))
 rintro ⟨x190, ⟨a188, c189⟩⟩
 try dsimp only
 refine au [3,4,1,5,0,2,12] ?_
 exact qj (a188, c189)
theorem qiQ {F : Nat} {x1 : Int} {x2 : List Int} {a3 : Option Addr} {c4 : Nat} {r : Int} (hm : qbk F x1 x2 = some r) :
    Pure Tryz.prog 59 [.agg #[.int .i64 x1, .slice a3 x2.length c4]] [Sl (eI .u8) 1 (.slice a3 x2.length c4) x2] Unit (fun _ => .int .i64 r) (fun _ => []) (fun _ => []) := by
 refine qi Tryz.func59 rfl Tryz.ntmps59 rfl hm (fun w => ?_)
 refine au [25,5,3,4,24,3] ?_
 intro g5
 refine au [5,0,2,3,3,4,13,23,26,15] ?_
 intro x8 e8 _
 refine av [25,4,0,2,9] ?_ ?_
 intro _
 exact az [3,4,5,0,2,12,11,18]
 intro _
 refine au [10,2,3,4,13,23,26,13,5,0,2] ?_
 refine qc (fun ((x10, _) : (Int × Unit)) => ([(1, .pointer (some ⟨g5, 0, none⟩)), (3, .int .i64 x10)], [⟨g5, 29, [.int .i64 x1, .slice a3 x2.length c4]⟩], [], [Sl (eI .u8) 1 (.slice a3 x2.length c4) x2], v6 F x1 x2 x10)) ?_ ?_
 refine av [3,4,13,23,27,0,24,6,0,2,9] ?_ ?_
 intro _
 refine au [4,1,15,5,0] ?_
 exact qa (iadd .i64 (iquo .i64 x1 8) 1, ())
 intro _
 refine au [10] ?_
 exact qa (iquo .i64 x1 8, ())
 rintro ⟨x10, _⟩
 try dsimp only
 refine av [3,3,4,13,23,19,1,25,3,0,2,9] ?_ ?_
 intro _
 exact az [3,4,5,0,2,12,11,18]
 intro _
 refine au [10,2,3,4,1,27,2,13,23] ?_
 refine qD (cells := [.int .i64 (imul .i64 8 x10), .slice a3 x2.length c4]) rfl st29 rfl (by kernel_rfl) rfl ?_
 refine au [31,1] ?_
 rintro x12 e12 ⟨a13, c14⟩
 refine au [5,0,2] ?_
 refine qc (fun ((_, _) : (Unit × Unit)) => ([], [], [], [], qey F)) ?_ ?_
 refine au [3,4,13,23,5,0,2,14] ?_
 refine qk (fun ((x57, _) : (Int × Unit)) => ([(4, .slice a13 x12.length c14), (5, .int .i64 x57)], [], [Ro (eI .i64) 3 1 (.slice a13 x12.length c14) x12], [])) (fun k (s : (Int × Unit)) => yA F x12 k s.1) (x1, ()) F ?_
 intro k68
 rintro ⟨x57, _⟩
 try dsimp only
 refine ql (m' := qaO F x12 (yA F x12 k68) x57) rfl ?_
 refine av [3,3,4,1,1,19,22,0,2,9] ?_ ?_
 intro _
 refine au [10,2,3,14,3,4,1,1,28,15] ?_
 intro x74 e74 g75 h76
 refine qeM (j := 0) (y := x74) (qo .i64) rfl rfl tf3 rfl h76 (qJ e74).2.2 (fun _ => rfl) rfl rfl ?_
 refine av [25,3,0,2,9] ?_ ?_
 intro _
 exact az [3,4,5,0,2,12,20,11,11,20,11,18]
 intro _
 refine au [10,21,2,4,1,15,5,0] ?_
 exact qh (iadd .i64 x57 1, ())
 intro _
 exact az [24,4,16,16,24,5,26,1]
 rintro ⟨_, _⟩
 try dsimp only
 exact az [3,4,5,0,2,12,18]
theorem qiW {F : Nat} {x1 : Int} {x2 : Int} {x3 : Int} {x4 : Int} {x5 : Int} {x6 : List Int} {a7 : Option Addr} {c8 : Nat} {r : Int} (hm : qcR F x1 x2 x3 x4 x5 x6 = some r) :
    Pure Tryz.prog 34 [.agg #[.int .i64 x1, .int .i64 x2, .int .i64 x3, .int .i64 x4, .int .i64 x5, .slice a7 x6.length c8]] [Sl (eI .u8) 1 (.slice a7 x6.length c8) x6] Unit (fun _ => .int .i64 r) (fun _ => []) (fun _ => []) := by
 refine qi Tryz.func34 rfl Tryz.ntmps34 rfl hm (fun w => ?_)
 refine au [25,5,3,4,24,3] ?_
 intro g9
 refine au [5,0,2,3,3,4,13,23,26,15] ?_
 intro x12 e12 _
 refine av [25,4,0,2,9] ?_ ?_
 intro _
 exact az [3,4,5,0,2,12,11,18]
 intro _
 refine au [10,2,3,4,13,25,2,30,15] ?_
 intro x13 e13 _
 refine au [5,0,2] ?_
 refine qc (fun ((x16, _) : (Int × Unit)) => ([(3, .int .i64 x16)], [], [], [], qa1 F x16)) ?_ ?_
 refine av [3,4,1,24,15,0,2,9] ?_ ?_
 intro _
 refine au [4,13,25,2,35,2] ?_
 intro x17 e17 _
 refine au [5,0] ?_
 exact qa (x17, ())
 intro _
 refine au [10] ?_
 exact qa (x13, ())
 rintro ⟨x16, _⟩
 try dsimp only
 exact az [3,4,1,5,0,2,12,18]
theorem qi3 {F : Nat} {x1 : List Int} {a2 : Option Addr} {c3 : Nat} {x4 : Int} {r : (Int × Int)} (hm : qbo F x1 x4 = some r) :
    Pure Tryz.prog 60 [.slice a2 x1.length c3, .int .i64 x4] [Sl (eI .i64) 1 (.slice a2 x1.length c3) x1] Unit (fun _ => .tuple #[.int .u64 r.1, .int .i64 r.2]) (fun _ => []) (fun _ => []) := by
 refine qi Tryz.func60 rfl Tryz.ntmps60 rfl hm (fun w => ?_)
 refine au [24,13,3,4,5,5,0,2,3,4,5,0,2] ?_
 refine qc (fun ((_, _) : (Unit × Unit)) => ([], [], [], [], qeD F)) ?_ ?_
 refine au [3,4,1,5,0,2,14] ?_
 refine qk (fun (((x80, x81), _) : ((Int × Int) × Unit)) => ([(0, .slice a2 x1.length c3), (6, .int .u64 x80), (7, .int .i64 x81)], [], [], [Sl (eI .i64) 1 (.slice a2 x1.length c3) x1])) (fun k (s : ((Int × Int) × Unit)) => yJ F x1 k s.1) ((0, x4), ()) F ?_
 intro k100
 rintro ⟨⟨x80, x81⟩, _⟩
 try dsimp only
 refine ql (m' := qa8 F x1 (yJ F x1 k100) x80 x81) rfl ?_
 refine av [3,3,4,1,1,19,22,0,2,9] ?_ ?_
 intro _
 refine au [10,2,3,14,3,3,4,1,1,25,15] ?_
 intro x114 e114 b115 o116
 refine av [25,1,24,15,0,2,9] ?_ ?_
 intro _
 exact az [3,4,1,1,15,5,5,0,2,12,11,20,11,11,20,11,18]
 intro _
 refine au [10,2,4,1,15,5,0,21,2,4,1,15,5,0] ?_
 exact qh ((iadd .u64 x80 1, iadd .i64 x81 1), ())
 intro _
 exact az [24,4,16,16,24,5,26,1]
 rintro ⟨_, _⟩
 try dsimp only
 exact az [3,4,5,5,0,2,12,18]
theorem qmM {F : Nat} {x1 : List Int} {a2 : Option Addr} {c3 : Nat} {r : Int} (hm : qeP F x1 = some r) :
    Pure Tryz.prog 89 [.slice a2 x1.length c3] [Sl (eI .i64) 1 (.slice a2 x1.length c3) x1] Unit (fun _ => .int .u64 r) (fun _ => []) (fun _ => []) := by
 refine qi Tryz.func89 rfl Tryz.ntmps89 rfl hm (fun w => ?_)
 refine au [25,5,3,4,5,0,2,3,4,5,0,2] ?_
 refine qc (fun ((x37, _) : (Int × Unit)) => ([(3, .int .u64 x37)], [], [], [], qf2 F x37)) ?_ ?_
 refine au [3,4,5,0,2,14] ?_
 refine qk (fun (((x48, x49), _) : ((Int × Int) × Unit)) => ([(0, .slice a2 x1.length c3), (3, .int .u64 x48), (4, .int .i64 x49)], [], [], [Sl (eI .i64) 1 (.slice a2 x1.length c3) x1])) (fun k (s : ((Int × Int) × Unit)) => j5 F x1 k s.1) ((0, 0), ()) F ?_
 intro k60
 rintro ⟨⟨x48, x49⟩, _⟩
 try dsimp only
 refine ql (m' := qcM F x1 (j5 F x1 k60) x48 x49) rfl ?_
 refine av [3,3,4,1,1,19,22,0,2,9] ?_ ?_
 intro _
 refine au [10,2,3,14,4,1,27,2,1,1,25,15] ?_
 intro x66 e66 b67 o68
 refine au [25,1,24,12,15,5,26,0] ?_
 intro x69 e69
 refine qe (d := 3) (v := .int .u64 x69) rfl (by rw [e69] <;> rfl) ?_
 refine au [0,21,2,4,1,15,5,0] ?_
 exact qh ((x69, iadd .i64 x49 1), ())
 intro _
 refine au [24,4,16,16,24,5] ?_
 exact qa (x48, ())
 rintro ⟨x37, _⟩
 try dsimp only
 exact az [3,4,1,5,0,2,12,18]
theorem qko {F : Nat} {x1 : List Int} {a2 : Option Addr} {c3 : Nat} {x4 : Int} {x5 : Int} {r : (Int × Int × Int)} (hm : qds F x1 x4 x5 = some r) :
    Pure Tryz.prog 61 [.slice a2 x1.length c3, .int .i64 x4, .int .u64 x5] [Sl (eI .i64) 1 (.slice a2 x1.length c3) x1] Unit (fun _ => .tuple #[.int .u64 r.1, .int .i64 r.2.1, .int .i64 r.2.2]) (fun _ => []) (fun _ => []) := by
 refine qi Tryz.func61 rfl Tryz.ntmps61 rfl hm (fun w => ?_)
 refine av [25,13,3,4,5,5,5,0,2,3,3,4,1,24,6,0,2,9] ?_ ?_
 intro _
 exact az [3,4,5,5,5,0,2,12,11,18]
 intro _
 refine av [10,2,3,3,4,1,1,24,12,15,1,19,24,6,0,2,9] ?_ ?_
 intro _
 exact az [3,4,5,5,5,0,2,12,11,18]
 intro _
 refine au [10,2,3,4] ?_
 refine qy (vs := [.int .i64 1]) (ys := ([1] : List Int)) (qo .i64) (by decide) rfl Tryz.underlying37 tf3 rfl rfl rfl rfl rfl (by decide) (fun a8 c9 => ?_)
 refine au [1,1,1,1,24,12,15,30,7] ?_
 intro x10 e10 a11 c12
 refine au [28,0] ?_
 intro x13 e13 a14 c15
 refine qg qmM ?_
 intro x16 e16 _
 refine av [24,10,5,0,2,3,3,4,1,24,6,0,2,9] ?_ ?_
 intro _
 exact az [3,4,5,5,5,0,2,12,11,18]
 intro _
 exact az [10,2,3,4,1,1,1,24,12,15,5,5,5,0,2,12,18]
theorem qiS {F : Nat} {x1 : List Int} {a2 : Option Addr} {c3 : Nat} {x4 : Int} {r : (Int × Int × Int)} (hm : zZ F x1 x4 = some r) :
    Pure Tryz.prog 36 [.slice a2 x1.length c3, .int .i64 x4] [Sl (eI .i64) 1 (.slice a2 x1.length c3) x1] Unit (fun _ => .tuple #[.int .u64 r.1, .int .i64 r.2.1, .int .i64 r.2.2]) (fun _ => []) (fun _ => []) := by
 refine qi Tryz.func36 rfl Tryz.ntmps36 rfl hm (fun w => ?_)
 refine au [24,13,3,4,5,5,5,0,2,3,4,1,1,35,3] ?_
 intro x5 e5 _
 refine av [1,17,17,5,5,0,2,3,3,4,1,22,0,2,9] ?_ ?_
 intro _
 exact az [3,4,5,5,5,0,2,12,11,18]
 intro _
 refine au [10,2,3,4,1,1,1] ?_
 refine qg qko ?_
 intro x7 e7 _
 exact az [17,17,17,5,5,5,0,2,12,18]
theorem qlx {F : Nat} {x1 : Int} {x2 : List Int} {a3 : Option Addr} {c4 : Nat} {x5 : Int} {r : Int} (hm : qd5 F x1 x2 x5 = some r) :
    Pure Tryz.prog 62 [.agg #[.int .i64 x1, .slice a3 x2.length c4], .int .i64 x5] [Sl (eI .u8) 1 (.slice a3 x2.length c4) x2] Unit (fun _ => .int .i64 r) (fun _ => []) (fun _ => []) := by
 refine qi Tryz.func62 rfl Tryz.ntmps62 rfl hm (fun w => ?_)
 refine au [24,13,3,4,24,3] ?_
 intro g6
 refine au [5,0,2,3,4,25,2,35,2] ?_
 intro x7 e7 _
 refine au [5,0,2] ?_
 refine qc (fun ((x13, _) : (Int × Unit)) => ([(5, .int .i64 x13)], [], [], [], qb8 F x13)) ?_ ?_
 refine au [3,4,1,24,15,1] ?_
 refine q7 6 (fun ((x16, _) : (Bool × Unit)) => ([(5, .int .i64 x7), (16, .bool x16)], [], [], [], qb9 F x7 x16)) ?_ ?_
 refine qb (os := _) rfl ?_
 refine av [25,11] ?_ ?_
 intro h14
 refine qq (k := 10) rfl h14 ?_
 refine au [1,13,23,26,15] ?_
 intro x18 e18 _
 refine au [25,4,24,8,0] ?_
 exact qa ((!x18), ())
 intro h14
 refine qp (k := 10) rfl h14 ?_
 refine au [7,7,7,7,7,24,9,0] ?_
 exact qa (false, ())
 rintro ⟨x16, _⟩
 try dsimp only
 refine qb (os := _) rfl ?_
 refine av [0,2,9] ?_ ?_
 intro _
 refine au [4,5,0] ?_
 exact qa ((3 : Int), ())
 intro _
 refine au [10] ?_
 exact qa (x7, ())
 rintro ⟨x13, _⟩
 try dsimp only
 exact az [3,4,1,5,0,2,12,18]
theorem qhC {F : Nat} {x1 : List Int} {a2 : Option Addr} {c3 : Nat} {r : Int} (hm : y9 F x1 = some r) :
    Pure Tryz.prog 65 [.slice a2 x1.length c3] [Sl (eI .i64) 1 (.slice a2 x1.length c3) x1] Unit (fun _ => .int .i64 r) (fun _ => []) (fun _ => []) := by
 refine qi Tryz.func65 rfl Tryz.ntmps65 rfl hm (fun w => ?_)
 refine av [25,5,3,4,5,0,2,3,3,4,1,19,24,6,0,2,9] ?_ ?_
 intro _
 exact az [3,4,5,0,2,12,11,18]
 intro _
 refine au [10,2] ?_
 refine qc (fun ((_, _) : (Unit × Unit)) => ([], [], [], [], qdI F)) ?_ ?_
 refine au [3,4,5,0,2,14] ?_
 refine qk (fun ((x255, _) : (Int × Unit)) => ([(0, .slice a2 x1.length c3), (3, .int .i64 x255)], [], [], [Sl (eI .i64) 1 (.slice a2 x1.length c3) x1])) (fun k (s : (Int × Unit)) => zD F x1 k s.1) (0, ()) F ?_
 intro k318
 rintro ⟨x255, _⟩
 try dsimp only
 refine ql (m' := vT F x1 (zD F x1 k318) x255) rfl ?_
 refine av [3,3,4,1,1,19,22,0,2,9] ?_ ?_
 intro _
 refine au [10,2,3,14,3,3,4,1,1,25,15] ?_
 intro x355 e355 b356 o357
 refine au [25,1,26,15] ?_
 intro x358 e358 _
 refine av [25,4,0,2,9] ?_ ?_
 intro _
 exact az [3,4,5,0,2,12,11,20,11,11,20,11,18]
 intro _
 refine au [10,2] ?_
 refine qc (fun ((x368, _) : (Bool × Unit)) => ([(0, .slice a2 x1.length c3), (3, .int .i64 x255), (32, .bool x368)], [], [], [Sl (eI .i64) 1 (.slice a2 x1.length c3) x1], yu F (zD F x1 k318) x255 x368)) ?_ ?_
 refine av [26,10] ?_ ?_
 intro h370
 refine au [28,5] ?_
 intro x371 e371 b372 o373 h374
 replace h374 : a2 = some ⟨b372, o373, none⟩ := h374
 refine au [31,0] ?_
 intro x375 e375 b376 o377 h378
 replace h378 : a2 = some ⟨b376, o377, none⟩ := h378
 refine qw mixed [] [] [qt b376 (o377 + (isub .i64 x255 1).toNat * 1) ((eI .i64) x375), qt b372 (o373 + x255.toNat * 1) ((eI .i64) x371), qt b356 o357 ((eI .i64) x355), Sl (eI .i64) 1 (.slice a2 x1.length c3) x1] .nil (qC 0 rfl (qC 1 rfl (qC 2 rfl (qC 3 rfl qu)))) 14 rfl ?_
 refine au [6,0,6,1,6,2] ?_
 refine qf (d := 21) (v := .bool true) rfl (by rw [h370] <;> rfl) ?_
 refine au [6,3,6,4] ?_
 refine qf (d := 22) (v := .slice (some ⟨b372, o373, none⟩) x1.length c3) rfl (by rw [h374] <;> rfl) (qm 5 (.pointer (some ⟨b372, (o373 + x255.toNat * 1), none⟩)) rfl rfl rfl (yq Tryz.underlying37 tf3 rfl rfl (qJ e371).1 (kj e371)) (qf (d := 22) (v := .slice a2 x1.length c3) rfl (by rw [h374] <;> rfl) (qK 6 (.int .i64 x371) [] rfl rfl rfl (zx (j := 1) rfl tf3 rfl rfl (fun _ => rfl) rfl) ?_)))
 refine au [6,7,6,8,6,9] ?_
 refine qf (d := 26) (v := .slice (some ⟨b376, o377, none⟩) x1.length c3) rfl (by rw [h378] <;> rfl) (qm 10 (.pointer (some ⟨b376, (o377 + (isub .i64 x255 1).toNat * 1), none⟩)) rfl rfl rfl (yq Tryz.underlying37 tf3 rfl rfl (qJ e375).1 (kj e375)) (qf (d := 26) (v := .slice a2 x1.length c3) rfl (by rw [h378] <;> rfl) (qK 11 (.int .i64 x375) [] rfl rfl rfl (zx (j := 0) rfl tf3 rfl rfl (fun _ => rfl) rfl) ?_)))
 refine au [6,12,6,13,24,7] ?_
 exact qz (qa ((decide (x371 ≤ x375)), ())) (by intro c h; cases h)
 intro h370
 refine qw mixed [] [] [qt b356 o357 ((eI .i64) x355), Sl (eI .i64) 1 (.slice a2 x1.length c3) x1] .nil (qC 0 rfl (qC 1 rfl qu)) 14 rfl ?_
 refine au [6,0,6,1,6,2] ?_
 refine qf (d := 21) (v := .bool false) rfl (by rw [h370] <;> rfl) ?_
 refine au [8,3,8,4,8,5,8,6,8,7,8,8,8,9,8,10,8,11,8,12,6,13,24,7] ?_
 exact qz (qa (false, ())) (by intro c h; cases h)
 rintro ⟨x368, _⟩
 try dsimp only
 refine av [9] ?_ ?_
 intro _
 exact az [3,4,5,0,2,12,20,11,11,20,11,18]
 intro _
 refine au [10,21,2,4,1,15,5,0] ?_
 exact qh (iadd .i64 x255 1, ())
 intro _
 exact az [24,4,16,16,24,5,26,1]
 rintro ⟨_, _⟩
 try dsimp only
 exact az [3,4,5,0,2,12,18]
theorem qly {F : Nat} {x1 : Int} {x2 : List Int} {a3 : Option Addr} {c4 : Nat} {x5 : Int} {x6 : Int} {x7 : Int} {r : Int} (hm : qd6 F x1 x2 x5 x6 x7 = some r) :
    Pure Tryz.prog 63 [.int .i64 x1, .slice a3 x2.length c4, .agg #[.int .i64 x5, .int .i64 x6, .int .i64 x7]] [Sl (eI .i64) 1 (.slice a3 x2.length c4) x2] Unit (fun _ => .int .i64 r) (fun _ => []) (fun _ => []) := by
 refine qi Tryz.func63 rfl Tryz.ntmps63 rfl hm (fun w => ?_)
 refine au [25,13,3,4,24,3] ?_
 intro g8
 refine au [5,0,2,3,3,4,1,26,15] ?_
 intro x11 e11 _
 refine av [25,4,0,2,9] ?_ ?_
 intro _
 exact az [3,4,5,0,2,12,11,18]
 intro _
 refine av [10,2,3,3,4,13,23,24,6,0,2,9] ?_ ?_
 intro _
 refine au [3,4,1,31,2] ?_
 intro x14 e14 _
 exact az [5,0,2,12,11,18]
 intro _
 exact az [10,2,3,4,5,0,2,12,18]
set_option maxHeartbeats 4000000 in
theorem qiX {F : Nat} {x1 : List Int} {a2 : Option Addr} {c3 : Nat} {x4 : List Int} {a5 : Option Addr} {c6 : Nat} {r : (List Int × Int)} (hm : qcS F x1 x4 = some r) :
    Pure Tryz.prog 90 [.slice a2 x1.length c3, .slice a5 x4.length c6] [Sl (eI .i64) 1 (.slice a2 x1.length c3) x1, Sl (eI .i64) 1 (.slice a5 x4.length c6) x4] (Option Addr × Nat) (fun g => .tuple #[.slice g.1 r.1.length g.2, .int .i64 r.2]) (fun g => [Ro (eI .i64) 3 1 (.slice g.1 r.1.length g.2) r.1]) (fun _ => []) := by
 refine qi Tryz.func90 rfl Tryz.ntmps90 rfl hm (fun w => ?_)
 refine au [24,13,3,4,5,5,0,2,3,4,1,31,2] ?_
 intro x7 e7 _
 refine av [5,0,2,3,3,4,1,25,3,0,2,9] ?_ ?_
 intro _
 refine au [3,4,1,5,5,0,2,12,11,24,14] ?_
 exact qj (none, 0)
 intro _
 refine av [10,2,3,3,4,1,19,1,19,15,24,6,0,2,9] ?_ ?_
 intro _
 refine au [3,4,5,5,0,2,12,11,24,14] ?_
 exact qj (none, 0)
 intro _
 refine au [10,2,3,4,5,0,2] ?_
 refine qc (fun ((x268, _) : (Int × Unit)) => ([(0, .slice a2 x1.length c3), (1, .slice a5 x4.length c6), (7, .int .i64 x268)], [], [], [Sl (eI .i64) 1 (.slice a2 x1.length c3) x1, Sl (eI .i64) 1 (.slice a5 x4.length c6) x4], qb7 F x1 x4 x268)) ?_ ?_
 refine au [3,4,5,0,2,14] ?_
 refine qk (fun (((x2103, x2104), _) : ((Int × Int) × Unit)) => ([(0, .slice a2 x1.length c3), (1, .slice a5 x4.length c6), (7, .int .i64 x2103), (8, .int .i64 x2104)], [], [], [Sl (eI .i64) 1 (.slice a2 x1.length c3) x1, Sl (eI .i64) 1 (.slice a5 x4.length c6) x4])) (fun k (s : ((Int × Int) × Unit)) => zz F x1 x4 k s.1) ((0, 0), ()) F ?_
 intro k2190
 rintro ⟨⟨x2103, x2104⟩, _⟩
 try dsimp only
 refine ql (m' := jz F x1 x4 (zz F x1 x4 k2190) x2103 x2104) rfl ?_
 refine av [3,3,4,1,1,19,22,0,2,9] ?_ ?_
 intro _
 refine au [10,2] ?_
 refine qc (fun ((x2233, _) : (Int × Unit)) => ([(0, .slice a2 x1.length c3), (1, .slice a5 x4.length c6), (7, .int .i64 x2233), (8, .int .i64 x2104)], [], [], [Sl (eI .i64) 1 (.slice a2 x1.length c3) x1, Sl (eI .i64) 1 (.slice a5 x4.length c6) x4], jC F (zz F x1 x4 k2190) x2104 x2233)) ?_ ?_
 refine au [14,3,3,4,1,1,26,14] ?_
 intro x2248 e2248 b2249 o2250
 refine au [25,1,22,1] ?_
 refine q7 10 (fun ((x2256, _) : (Bool × Unit)) => ([(0, .slice a2 x1.length c3), (1, .slice a5 x4.length c6), (7, .int .i64 x2103), (8, .int .i64 x2104), (45, .bool x2256)], [], [], [Sl (eI .i64) 1 (.slice a2 x1.length c3) x1, Sl (eI .i64) 1 (.slice a5 x4.length c6) x4], jD F (zz F x1 x4 k2190) x1 x4 x2103 x2104 x2256)) ?_ ?_
 refine qb (os := _) rfl ?_
 refine av [25,11] ?_ ?_
 intro h2251
 refine qq (k := 35) rfl h2251 ?_
 refine au [7,7,7,7,7,7,7,7,7,24,8,0] ?_
 exact qa (true, ())
 intro h2251
 refine qp (k := 35) rfl h2251 ?_
 refine au [1,1,34,11] ?_
 intro x2271 e2271 b2272 o2273
 refine au [25,1,24,15,1] ?_
 refine qB 3 ((x2271 : Int) == 0) [(0, .slice a2 x1.length c3), (1, .slice a5 x4.length c6), (7, .int .i64 x2103), (8, .int .i64 x2104), (35, .bool false), (36, .slice a5 x4.length c6), (37, .int .i64 x2104), (38, .pointer (some ⟨b2272, o2273, none⟩)), (39, .int .i64 x2271), (40, .bool ((x2271 : Int) == 0)), (41, .bool ((x2271 : Int) == 0)), (44, .bool (((x2271 : Int) == 0) && (decide (0 < x2104))))] (fun h2274 => ?_) (fun h2274 => ?_) ?_
 refine qb (os := _) rfl (qq (k := 41) rfl h2274 ?_)
 refine au [1,24,6,24,8] ?_
 refine qe (d := 44) (v := .bool (((x2271 : Int) == 0) && (decide (0 < x2104)))) rfl (by rw [h2274]; simp only [Bool.true_and]) (qe (d := 41) (v := .bool ((x2271 : Int) == 0)) rfl (by rw [h2274] <;> rfl) ?_)
 exact az [0,24,1]
 refine qb (os := _) rfl (qp (k := 41) rfl h2274 ?_)
 refine au [7,7,24,9] ?_
 refine qe (d := 44) (v := .bool (((x2271 : Int) == 0) && (decide (0 < x2104)))) rfl (by rw [h2274]; simp only [Bool.false_and]) (qe (d := 41) (v := .bool ((x2271 : Int) == 0)) rfl (by rw [h2274] <;> rfl) ?_)
 exact az [0,24,1]
 refine qb (os := _) rfl ?_
 refine au [24,9,0] ?_
 exact qa ((((x2271 : Int) == 0) && (decide (0 < x2104))), ())
 rintro ⟨x2256, _⟩
 try dsimp only
 refine qb (os := _) rfl ?_
 refine av [0,2,9] ?_ ?_
 intro _
 refine au [3,4,5,5,0,2,12,11,20,11,11,20,11,24,14] ?_
 exact qj (none, 0)
 intro _
 refine au [10,2] ?_
 refine qc (fun ((x2261, _) : (Int × Unit)) => ([(0, .slice a2 x1.length c3), (1, .slice a5 x4.length c6), (7, .int .i64 x2261), (8, .int .i64 x2104)], [], [], [Sl (eI .i64) 1 (.slice a2 x1.length c3) x1, Sl (eI .i64) 1 (.slice a5 x4.length c6) x4], jE F (zz F x1 x4 k2190) x4 x2104 x2261)) ?_ ?_
 refine au [3,4,1,1,26,14] ?_
 intro x2266 e2266 b2267 o2268
 refine av [25,1,1,19,24,6,0,2,9] ?_ ?_
 intro _
 refine au [4,5,0] ?_
 exact qa ((1000 : Int), ())
 intro _
 refine au [10] ?_
 exact qa (x2103, ())
 rintro ⟨x2261, _⟩
 try dsimp only
 refine av [3,4,1,22,0,2,9] ?_ ?_
 intro _
 refine au [4,1,1,1,26,14] ?_
 intro x2262 e2262 b2263 o2264
 refine au [25,1,15,5,0,21] ?_
 exact qa (iadd .i64 x2261 x2262, ())
 intro _
 refine au [10,21] ?_
 exact qa (x2261, ())
 rintro ⟨x2233, _⟩
 try dsimp only
 refine au [4,1,15,5,0] ?_
 exact qh ((x2233, iadd .i64 x2104 1), ())
 intro _
 refine au [24,4,16,16,24,5] ?_
 exact qa (x2103, ())
 rintro ⟨x268, _⟩
 try dsimp only
 refine av [3,3,4,1,1,19,24,6,0,2,9] ?_ ?_
 intro _
 refine au [3,4,5,5,0,2,12,11,24,14] ?_
 exact qj (none, 0)
 intro _
 refine au [10,2,3,4,5,0,2] ?_
 refine qc (fun ((x1144, (a1142, c1143)) : (List Int × (Option Addr × Nat))) => ([(9, .slice a1142 x1144.length c1143)], [], [Ro (eI .i64) 3 1 (.slice a1142 x1144.length c1143) x1144], [], qbT F x1144)) ?_ ?_
 refine au [3,4,5,0,2,14,25,14] ?_
 refine qk (fun (((x1436, x1437), (a1434, c1435)) : ((List Int × Int) × (Option Addr × Nat))) => ([(0, .slice a2 x1.length c3), (1, .slice a5 x4.length c6), (9, .slice a1434 x1436.length c1435), (10, .int .i64 x1437)], [], [Ro (eI .i64) 3 1 (.slice a1434 x1436.length c1435) x1436], [Sl (eI .i64) 1 (.slice a2 x1.length c3) x1, Sl (eI .i64) 1 (.slice a5 x4.length c6) x4])) (fun k (s : ((List Int × Int) × (Option Addr × Nat))) => qH F x1 x4 k s.1) ((([] : List Int), 0), (none, 0)) F ?_
 intro k1727
 rintro ⟨⟨x1436, x1437⟩, ⟨a1434, c1435⟩⟩
 try dsimp only
 refine ql (m' := jx F x1 x4 (qH F x1 x4 k1727) x1436 x1437) rfl ?_
 refine av [3,3,4,1,1,19,22,0,2,9] ?_ ?_
 intro _
 refine au [10,2] ?_
 refine qc (fun ((x1873, (a1871, c1872)) : (List Int × (Option Addr × Nat))) => ([(0, .slice a2 x1.length c3), (1, .slice a5 x4.length c6), (9, .slice a1871 x1873.length c1872), (10, .int .i64 x1437)], [], [Ro (eI .i64) 3 1 (.slice a1871 x1873.length c1872) x1873], [Sl (eI .i64) 1 (.slice a2 x1.length c3) x1, Sl (eI .i64) 1 (.slice a5 x4.length c6) x4], jA F (qH F x1 x4 k1727) x1437 x1873)) ?_ ?_
 refine au [14,3,4,5,5,0,2] ?_
 refine qc (fun ((x1940, _) : (Int × Unit)) => ([(0, .slice a2 x1.length c3), (1, .slice a5 x4.length c6), (9, .slice a1434 x1436.length c1435), (10, .int .i64 x1437), (11, .int .i64 x1940)], [], [Ro (eI .i64) 3 1 (.slice a1434 x1436.length c1435) x1436], [Sl (eI .i64) 1 (.slice a2 x1.length c3) x1, Sl (eI .i64) 1 (.slice a5 x4.length c6) x4], jB F (qH F x1 x4 k1727) x1 x1436 x1437 x1940)) ?_ ?_
 refine au [14] ?_
 refine qk (fun (((x1971, x1972), _) : ((Int × Int) × Unit)) => ([(0, .slice a2 x1.length c3), (1, .slice a5 x4.length c6), (9, .slice a1434 x1436.length c1435), (10, .int .i64 x1437), (11, .int .i64 x1971), (12, .int .i64 x1972)], [], [Ro (eI .i64) 3 1 (.slice a1434 x1436.length c1435) x1436], [Sl (eI .i64) 1 (.slice a2 x1.length c3) x1, Sl (eI .i64) 1 (.slice a5 x4.length c6) x4])) (fun k (s : ((Int × Int) × Unit)) => kf F (qH F x1 x4 k1727) x1 x4 x1436 x1437 k s.1) ((0, 0), ()) F ?_
 intro k1994
 rintro ⟨⟨x1971, x1972⟩, _⟩
 try dsimp only
 refine ql (m' := jy F (qH F x1 x4 k1727) x1 x4 x1436 x1437 (kf F (qH F x1 x4 k1727) x1 x4 x1436 x1437 k1994) x1971 x1972) rfl ?_
 refine au [3,3,4,1,1,19,22,1] ?_
 refine q7 9 (fun ((x2008, _) : (Bool × Unit)) => ([(0, .slice a2 x1.length c3), (1, .slice a5 x4.length c6), (9, .slice a1434 x1436.length c1435), (10, .int .i64 x1437), (11, .int .i64 x1971), (12, .int .i64 x1972), (84, .bool x2008)], [], [Ro (eI .i64) 3 1 (.slice a1434 x1436.length c1435) x1436], [Sl (eI .i64) 1 (.slice a2 x1.length c3) x1, Sl (eI .i64) 1 (.slice a5 x4.length c6) x4], yN F (qH F x1 x4 k1727) (kf F (qH F x1 x4 k1727) x1 x4 x1436 x1437 k1994) x1 x4 x1436 x1437 x1971 x1972 x2008)) ?_ ?_
 refine qb (os := _) rfl ?_
 refine av [25,11] ?_ ?_
 intro h2004
 refine qq (k := 75) rfl h2004 ?_
 refine au [1,1,1,1,26,14] ?_
 intro x2013 e2013 b2014 o2015
 refine au [25,1,15,26,2,24,8,0] ?_
 exact qa ((decide ((iadd .i64 x1972 x2013) ≤ x1437)), ())
 intro h2004
 refine qp (k := 75) rfl h2004 ?_
 refine au [7,7,7,7,7,7,7,7,24,9,0] ?_
 exact qa (false, ())
 rintro ⟨x2008, _⟩
 try dsimp only
 refine qb (os := _) rfl ?_
 refine av [0,2,9] ?_ ?_
 intro _
 refine au [10,2,14,3,4,1,1,1,26,14] ?_
 intro x2009 e2009 b2010 o2011
 refine au [25,1,15,5,0,2,4,1,15,5,0,21] ?_
 exact qh ((iadd .i64 x1971 1, iadd .i64 x1972 x2009), ())
 intro _
 refine au [24,4,16,16,24,5] ?_
 exact qa (x1971, ())
 rintro ⟨x1940, _⟩
 try dsimp only
 refine av [3,4,1,27,0,24,15,0,2,9] ?_ ?_
 intro _
 refine au [4,1,1,1,25,15] ?_
 intro x1941 e1941 b1942 o1943
 refine au [25,1] ?_
 refine qy (vs := [.int .i64 x1941]) (ys := ([x1941] : List Int)) (qo .i64) (by decide) rfl Tryz.underlying37 tf3 rfl rfl rfl rfl rfl (by decide) (fun a1944 c1945 => qA 1 (qo .i64) rfl Tryz.underlying37 tf3 rfl rfl rfl rfl rfl (.inl ⟨0, _, rfl⟩) rfl rfl (fun x1946 e1946 a1947 c1948 => ?_))
 refine au [5,0,21] ?_
 exact qa (x1946, (a1947, c1948))
 intro _
 refine au [10,21] ?_
 exact qa (x1436, (a1434, c1435))
 rintro ⟨x1873, ⟨a1871, c1872⟩⟩
 try dsimp only
 refine au [4,1,15,5,0] ?_
 exact qh ((x1873, iadd .i64 x1437 1), (a1871, c1872))
 intro _
 refine au [24,4,16,16,24,5] ?_
 exact qa (x1436, (a1434, c1435))
 rintro ⟨x1144, ⟨a1142, c1143⟩⟩
 try dsimp only
 refine au [3,4,1,5,5,0,2,12] ?_
 exact qj (a1142, c1143)
theorem qlv (F : Nat) (x1 : Int) (x2 : Int) (x3 : Bool) (r : Int) (hm : qb2 F x1 x2 x3 = some r) :
    Pure Tryz.prog 91 [.int .u64 x1, .int .i64 x2, .bool x3] [] Unit (fun _ => .int .i64 r) (fun _ => []) (fun _ => []) := by
 refine qi Tryz.func91 rfl Tryz.ntmps91 rfl hm (fun w => ?_)
 refine av [25,13,3,4,5,0,2,3,3,4,1,24,6,0,2,9] ?_ ?_
 intro _
 exact az [3,4,5,0,2,12,11,18]
 intro _
 refine au [10,2,3,4,1,1,24,12,15,15,5,26,0] ?_
 intro x5 e5
 refine qe (d := 7) (v := .int .i64 x5) rfl (by rw [e5] <;> rfl) ?_
 refine au [0,2] ?_
 refine qc (fun ((x10, _) : (Int × Unit)) => ([(7, .int .i64 x10)], [], [], [], v7 F x10)) ?_ ?_
 refine av [3,4,1,0,2,9] ?_ ?_
 intro _
 refine au [3,4,1,1,24,12,26,13,15,5,26,0] ?_
 intro x15 e15
 refine qe (d := 7) (v := .int .i64 x15) rfl (by rw [e15] <;> rfl) ?_
 refine av [0,2,3,4,1,27,0,24,15,0,2,9] ?_ ?_
 intro _
 refine au [4,1,1,24,12,26,13,24,10,24,10,5,26,0] ?_
 intro x16 e16
 refine qe (d := 7) (v := .int .i64 x16) rfl (by rw [e16] <;> rfl) ?_
 refine au [0] ?_
 exact qa (x16, ())
 intro _
 refine au [10] ?_
 exact qa (x15, ())
 intro _
 refine au [10] ?_
 exact qa (x5, ())
 rintro ⟨x10, _⟩
 try dsimp only
 refine au [3,3,4,1,26,15] ?_
 intro x13 e13 _
 refine av [25,4,0,2,9] ?_ ?_
 intro _
 exact az [3,4,5,0,2,12,11,18]
 intro _
 exact az [10,2,3,4,1,5,0,2,12,18]
set_option maxHeartbeats 4000000 in
theorem qiU {F : Nat} {x1 : List Int} {a2 : Option Addr} {c3 : Nat} {x4 : Int} {x5 : Int} {r : (Int × Int)} (hm : qcQ F x1 x4 x5 = some r) :
    Pure Tryz.prog 132 [.slice a2 x1.length c3, .int .i64 x4, .int .u64 x5] [Sl (eI .i64) 1 (.slice a2 x1.length c3) x1] Unit (fun _ => .tuple #[.int .u64 r.1, .int .i64 r.2]) (fun _ => []) (fun _ => []) := by
 refine qi Tryz.func132 rfl Tryz.ntmps132 rfl hm (fun w => ?_)
 refine au [25,13,3,4,5,5,0,2,3,4,5,0,2] ?_
 refine qc (fun ((x18, _) : (Int × Unit)) => ([(0, .slice a2 x1.length c3), (1, .int .i64 x4), (2, .int .u64 x5), (8, .int .i64 x18)], [], [], [Sl (eI .i64) 1 (.slice a2 x1.length c3) x1], qcw F x1 x4 x5 x18)) ?_ ?_
 refine au [14] ?_
 refine qk (fun ((x208, _) : (Int × Unit)) => ([(0, .slice a2 x1.length c3), (1, .int .i64 x4), (2, .int .u64 x5), (8, .int .i64 x208)], [], [], [Sl (eI .i64) 1 (.slice a2 x1.length c3) x1])) (fun k (s : (Int × Unit)) => yE F x1 x4 x5 k s.1) (0, ()) F ?_
 intro k213
 rintro ⟨x208, _⟩
 try dsimp only
 refine ql (m' := qaT F x1 x4 x5 (yE F x1 x4 x5 k213) x208) rfl ?_
 refine au [3,3,4,1,26,3] ?_
 intro h216
 refine qbR rfl rfl rfl rfl h216 ?_
 refine av [1,22,0,2,9] ?_ ?_
 intro _
 refine au [10,2,14,4,1,15,5,0,21] ?_
 exact qh (iadd .i64 x208 1, ())
 intro _
 refine au [24,4,16,16,24,5] ?_
 exact qa (x208, ())
 rintro ⟨x18, _⟩
 try dsimp only
 refine au [3,4,1,26,3] ?_
 intro h19
 refine qbR rfl rfl rfl rfl h19 ?_
 refine au [1,24,10,5,0,2,3,4,5,0,2] ?_
 refine qc (fun ((_, _) : (Unit × Unit)) => ([], [], [], [], qez F)) ?_ ?_
 refine au [3,4,5,0,2,14] ?_
 refine qk (fun (((x143, x144), _) : ((Int × Int) × Unit)) => ([(0, .slice a2 x1.length c3), (1, .int .i64 x4), (8, .int .i64 x18), (9, .int .u64 (isub .u64 (ishl .u64 1 x18) x5)), (10, .int .u64 x143), (11, .int .i64 x144)], [], [], [Sl (eI .i64) 1 (.slice a2 x1.length c3) x1])) (fun k (s : ((Int × Int) × Unit)) => yD F x1 x4 x5 x18 k s.1) ((0, 0), ()) F ?_
 intro k175
 rintro ⟨⟨x143, x144⟩, _⟩
 try dsimp only
 refine ql (m' := qaS F x1 x4 x5 x18 (yD F x1 x4 x5 x18 k175) x143 x144) rfl ?_
 refine av [3,3,4,1,1,26,9,0,2,9] ?_ ?_
 intro _
 refine au [10,2,3,14,3,3,4,1,1,24,10,24,15,1] ?_
 refine qB 4 ((x144 : Int) == (isub .i64 x18 1)) [(0, .slice a2 x1.length c3), (1, .int .i64 x4), (8, .int .i64 x18), (9, .int .u64 (isub .u64 (ishl .u64 1 x18) x5)), (10, .int .u64 x143), (11, .int .i64 x144), (35, .bool (((x144 : Int) == (isub .i64 x18 1)) && (decide (x143 < (isub .u64 (ishl .u64 1 x18) x5)))))] (fun h193 => ?_) (fun h193 => ?_) ?_
 refine qb (os := _) rfl (qq (k := 31) rfl h193 ?_)
 refine au [1,1,22,24,8] ?_
 refine qe (d := 35) (v := .bool (((x144 : Int) == (isub .i64 x18 1)) && (decide (x143 < (isub .u64 (ishl .u64 1 x18) x5))))) rfl (by rw [h193]; simp only [Bool.true_and]) ?_
 exact az [0,24,1]
 refine qb (os := _) rfl (qp (k := 31) rfl h193 ?_)
 refine au [7,7,7,24,9] ?_
 refine qe (d := 35) (v := .bool (((x144 : Int) == (isub .i64 x18 1)) && (decide (x143 < (isub .u64 (ishl .u64 1 x18) x5))))) rfl (by rw [h193]; simp only [Bool.false_and]) ?_
 exact az [0,24,1]
 refine qb (os := _) rfl ?_
 refine av [0,2,9] ?_ ?_
 intro _
 exact az [3,4,1,1,1,15,5,5,0,2,12,11,20,11,11,20,11,18]
 intro _
 refine av [10,2,3,3,4,1,1,24,15,0,2,9] ?_ ?_
 intro _
 refine au [3,4,1,1,24,10,1,1,15,5,26,0] ?_
 intro x196 e196
 refine qe (d := 6) (v := .int .u64 x196) rfl (by rw [e196] <;> rfl) ?_
 exact az [5,0,2,12,11,20,11,11,20,11,18]
 intro _
 refine av [10,2,3,3,4,1,1,15,1,19,26,2,0,2,9] ?_ ?_
 intro _
 exact az [3,4,5,5,0,2,12,11,20,11,11,20,11,18]
 intro _
 refine au [10,2,4,1,27,2,1,1,1,15,25,15] ?_
 intro x198 e198 b199 o200
 refine au [25,1,24,12,15,5,26,0] ?_
 intro x201 e201
 refine qe (d := 10) (v := .int .u64 x201) rfl (by rw [e201] <;> rfl) ?_
 refine au [0,21,2,4,1,15,5,0] ?_
 exact qh ((x201, iadd .i64 x144 1), ())
 intro _
 exact az [24,4,16,16,24,5,26,1]
 rintro ⟨_, _⟩
 try dsimp only
 exact az [3,4,5,5,0,2,12,18]
set_option maxHeartbeats 4000000 in
theorem qkn {F : Nat} {x1 : List Int} {a2 : Option Addr} {c3 : Nat} {x4 : Int} {x5 : Int} {r : (Int × Int × Int)} (hm : qdr F x1 x4 x5 = some r) :
    Pure Tryz.prog 111 [.slice a2 x1.length c3, .int .i64 x4, .int .i64 x5] [Sl (eI .i64) 1 (.slice a2 x1.length c3) x1] Unit (fun _ => .tuple #[.int .u64 r.1, .int .i64 r.2.1, .int .i64 r.2.2]) (fun _ => []) (fun _ => []) := by
 refine qi Tryz.func111 rfl Tryz.ntmps111 rfl hm (fun w => ?_)
 refine au [25,13,3,4,5,5,5,0,2,3,4,1,1,35,3] ?_
 intro x6 e6 _
 refine av [1,17,17,5,5,0,2,3,3,4,1,22,0,2,9] ?_ ?_
 intro _
 exact az [3,4,5,5,5,0,2,12,11,18]
 intro _
 refine au [10,2,3,3,4,1,26,2,1] ?_
 refine qB 6 (decide (41 ≤ x6.1)) [(0, .slice a2 x1.length c3), (2, .int .i64 x5), (9, .int .u64 x6.1), (10, .int .i64 x6.2), (30, .bool ((decide (41 ≤ x6.1)) || (decide (41 ≤ (imul .i64 (iconv .i64 x6.1) x5)))))] (fun h10 => ?_) (fun h10 => ?_) ?_
 refine qb (os := _) rfl (qq (k := 24) rfl h10 ?_)
 refine au [7,7,7,7,7,24,8] ?_
 refine qe (d := 30) (v := .bool ((decide (41 ≤ x6.1)) || (decide (41 ≤ (imul .i64 (iconv .i64 x6.1) x5))))) rfl (by rw [h10]; simp only [Bool.true_or]) ?_
 exact az [0,24,1]
 refine qb (os := _) rfl (qp (k := 24) rfl h10 ?_)
 refine au [1,24,12,1,27,2,26,2,24,9] ?_
 refine qe (d := 30) (v := .bool ((decide (41 ≤ x6.1)) || (decide (41 ≤ (imul .i64 (iconv .i64 x6.1) x5))))) rfl (by rw [h10]; simp only [Bool.false_or]) ?_
 exact az [0,24,1]
 refine qb (os := _) rfl ?_
 refine av [0,2,9] ?_ ?_
 intro _
 exact az [3,4,5,5,5,0,2,12,11,18]
 intro _
 refine au [10,2,3,4,5,0,2] ?_
 refine qc (fun ((x26, _) : (Int × Unit)) => ([(0, .slice a2 x1.length c3), (2, .int .i64 x5), (10, .int .i64 x6.2), (11, .int .u64 x26)], [], [], [Sl (eI .i64) 1 (.slice a2 x1.length c3) x1], qdk F x1 x5 x6 x26)) ?_ ?_
 refine au [3,4,5,0,2,14] ?_
 refine qk (fun (((x37, x38), _) : ((Int × Int) × Unit)) => ([(0, .slice a2 x1.length c3), (2, .int .i64 x5), (9, .int .u64 x6.1), (10, .int .i64 x6.2), (11, .int .u64 x37), (12, .int .u64 x38)], [], [], [Sl (eI .i64) 1 (.slice a2 x1.length c3) x1])) (fun k (s : ((Int × Int) × Unit)) => vd F x1 x5 x6 k s.1) ((1, 0), ()) F ?_
 intro k43
 rintro ⟨⟨x37, x38⟩, _⟩
 try dsimp only
 refine ql (m' := qbG F x1 x5 x6 (vd F x1 x5 x6 k43) x37 x38) rfl ?_
 refine av [3,3,4,1,1,22,0,2,9] ?_ ?_
 intro _
 refine au [10,2,3,14,4,1,1,26,3] ?_
 intro h46
 refine qbR rfl rfl rfl rfl h46 ?_
 refine au [5,0,21,2,4,1,15,5,0] ?_
 exact qh ((ishl .u64 x37 x5, iadd .u64 x38 1), ())
 intro _
 refine au [24,4,16,16,24,5] ?_
 exact qa (x37, ())
 rintro ⟨x26, _⟩
 try dsimp only
 refine au [3,4,1,1,1,1,26,3] ?_
 intro h27
 refine qbR rfl rfl rfl rfl h27 ?_
 refine au [1,24,10] ?_
 refine qg qiU ?_
 intro x28 e28 _
 refine av [1,17,17,5,5,0,2,3,3,4,1,22,0,2,9] ?_ ?_
 intro _
 exact az [3,4,5,5,5,0,2,12,11,18]
 intro _
 refine av [10,2,3,3,4,1,1,15,24,10,24,6,0,2,9] ?_ ?_
 intro _
 exact az [3,4,5,5,5,0,2,12,11,18]
 intro _
 exact az [10,2,3,4,1,1,15,24,10,1,5,5,5,0,2,12,18]
theorem qkd {F : Nat} {x1 : List Int} {a2 : Option Addr} {c3 : Nat} {x4 : Int} {x5 : Int} {x6 : Int} {x7 : Int} {r : (List Int × Int × Int)} (hm : qeQ F x1 x4 x5 x6 x7 = some r) :
    Pure Tryz.prog 92 [.slice a2 x1.length c3, .int .i64 x4, .int .i64 x5, .int .i64 x6, .int .i64 x7] [Sl (eI .i64) 1 (.slice a2 x1.length c3) x1] (Option Addr × Nat) (fun g => .tuple #[.slice g.1 r.1.length g.2, .int .i64 r.2.1, .int .i64 r.2.2]) (fun g => [Ro (eI .i64) 3 1 (.slice g.1 r.1.length g.2) r.1]) (fun _ => []) := by
 refine qi Tryz.func92 rfl Tryz.ntmps92 rfl hm (fun w => ?_)
 refine au [28,6,3,4,5,5,5,0,2,3,4,5,0,2] ?_
 refine qc (fun (((x56, x59), (a57, c58)) : ((Int × List Int) × (Option Addr × Nat))) => ([(1, .int .i64 x56), (13, .slice a57 x59.length c58)], [], [Ro (eI .i64) 3 1 (.slice a57 x59.length c58) x59], [], qdj F x56 x59)) ?_ ?_
 refine au [14,25,14] ?_
 refine qk (fun (((x75, x76, x79), (a77, c78)) : ((Int × Int × List Int) × (Option Addr × Nat))) => ([(0, .slice a2 x1.length c3), (1, .int .i64 x75), (2, .int .i64 x76), (3, .int .i64 x6), (4, .int .i64 x7), (13, .slice a77 x79.length c78)], [], [Ro (eI .i64) 3 1 (.slice a77 x79.length c78) x79], [Sl (eI .i64) 1 (.slice a2 x1.length c3) x1])) (fun k (s : ((Int × Int × List Int) × (Option Addr × Nat))) => y8 F x1 x6 x7 k s.1) ((x4, x5, ([] : List Int)), (none, 0)) F ?_
 intro k93
 rintro ⟨⟨x75, x76, x79⟩, ⟨a77, c78⟩⟩
 try dsimp only
 refine ql (m' := qby F x1 x6 x7 (y8 F x1 x6 x7 k93) x75 x76 x79) rfl ?_
 refine av [3,3,4,1,19,1,22,0,2,9] ?_ ?_
 intro _
 refine au [10,2,14,3,4,1,1,1] ?_
 refine qg qkn ?_
 intro x95 e95 _
 refine av [1,17,17,17,5,5,5,0,2,3,3,4,1,25,3,0,2,9] ?_ ?_
 intro _
 refine au [3,4,1,5,5,5,0,2,12,11,20,11,20,11,24,14] ?_
 exact qj (none, 0)
 intro _
 refine au [10,2,3,4,1,1,1,19,24,15,35,4] ?_
 intro x97 e97 _
 refine av [5,0,2,3,3,4,1,22,0,2,9] ?_ ?_
 intro _
 refine au [3,4,5,5,5,0,2,12,11,20,11,20,11,24,14] ?_
 exact qj (none, 0)
 intro _
 refine au [10,2,3,4,1,1] ?_
 refine qy (vs := [.int .i64 x97]) (ys := ([x97] : List Int)) (qo .i64) (by decide) rfl Tryz.underlying37 tf3 rfl rfl rfl rfl rfl (by decide) (fun a99 c100 => qA 1 (qo .i64) rfl Tryz.underlying37 tf3 rfl rfl rfl rfl rfl (.inl ⟨0, _, rfl⟩) rfl rfl (fun x101 e101 a102 c103 => ?_))
 refine au [5,0,2,3,4,1,5,0,2,4,1,5,0,21] ?_
 exact qh ((x95.2.1, x97, x101), (a102, c103))
 intro _
 refine au [24,4,16,16,24,5] ?_
 exact qa ((x75, x79), (a77, c78))
 rintro ⟨⟨x56, x59⟩, ⟨a57, c58⟩⟩
 try dsimp only
 refine au [3,4,1,1,5,5,5,0,2,12] ?_
 exact qj (a57, c58)
set_option maxHeartbeats 4000000 in
theorem qmQ {F : Nat} {x1 : List Int} {a2 : Option Addr} {c3 : Nat} {r : List Int} (hm : qeT F x1 = some r) :
    Pure Tryz.prog 93 [.slice a2 x1.length c3] [Sl (eI .i64) 1 (.slice a2 x1.length c3) x1] (Option Addr × Nat) (fun g => .slice g.1 r.length g.2) (fun g => [Ro (eI .i64) 3 1 (.slice g.1 r.length g.2) r]) (fun _ => []) := by
 refine qi Tryz.func93 rfl Tryz.ntmps93 rfl hm (fun w => ?_)
 refine au [25,5,3,4,5,0,2,3,4,5,0,2] ?_
 refine qc (fun ((x1812, (a1810, c1811)) : (List Int × (Option Addr × Nat))) => ([(3, .slice a1810 x1812.length c1811)], [], [Ro (eI .i64) 3 1 (.slice a1810 x1812.length c1811) x1812], [], qdJ F x1812)) ?_ ?_
 refine au [3,4,5,0,2,14,25,14] ?_
 refine qk (fun (((x2422, x2423), (a2420, c2421)) : ((List Int × Int) × (Option Addr × Nat))) => ([(0, .slice a2 x1.length c3), (3, .slice a2420 x2422.length c2421), (4, .int .i64 x2423)], [], [Ro (eI .i64) 3 1 (.slice a2420 x2422.length c2421) x2422], [Sl (eI .i64) 1 (.slice a2 x1.length c3) x1])) (fun k (s : ((List Int × Int) × (Option Addr × Nat))) => qP F x1 k s.1) ((([] : List Int), 0), (none, 0)) F ?_
 intro k3021
 rintro ⟨⟨x2422, x2423⟩, ⟨a2420, c2421⟩⟩
 try dsimp only
 refine ql (m' := qbC F x1 (qP F x1 k3021) x2422 x2423) rfl ?_
 refine av [3,3,4,1,1,19,22,0,2,9] ?_ ?_
 intro _
 refine au [10,2] ?_
 refine qc (fun ((x3321, (a3319, c3320)) : (List Int × (Option Addr × Nat))) => ([(0, .slice a2 x1.length c3), (3, .slice a3319 x3321.length c3320), (4, .int .i64 x2423)], [], [Ro (eI .i64) 3 1 (.slice a3319 x3321.length c3320) x3321], [Sl (eI .i64) 1 (.slice a2 x1.length c3) x1], jR F (qP F x1 k3021) x2423 x3321)) ?_ ?_
 refine au [14,3,4,1,19,5,0,2] ?_
 refine qc (fun ((x3444, _) : (Int × Unit)) => ([(0, .slice a2 x1.length c3), (3, .slice a2420 x2422.length c2421), (4, .int .i64 x2423), (5, .int .i64 x3444)], [], [Ro (eI .i64) 3 1 (.slice a2420 x2422.length c2421) x2422], [Sl (eI .i64) 1 (.slice a2 x1.length c3) x1], qbE F (qP F x1 k3021) x1 x2422 x2423 x3444)) ?_ ?_
 refine au [14] ?_
 refine qk (fun ((x3536, _) : (Int × Unit)) => ([(0, .slice a2 x1.length c3), (3, .slice a2420 x2422.length c2421), (4, .int .i64 x2423), (5, .int .i64 x3536)], [], [Ro (eI .i64) 3 1 (.slice a2420 x2422.length c2421) x2422], [Sl (eI .i64) 1 (.slice a2 x1.length c3) x1])) (fun k (s : (Int × Unit)) => yl F (qP F x1 k3021) x1 x2422 x2423 k s.1) ((x2422.length : Int), ()) F ?_
 intro k3577
 rintro ⟨x3536, _⟩
 try dsimp only
 refine ql (m' := qbD F (qP F x1 k3021) x1 x2422 x2423 (yl F (qP F x1 k3021) x1 x2422 x2423 k3577) x3536) rfl ?_
 refine au [3] ?_
 refine qc (fun ((x3607, _) : (Bool × Unit)) => ([(0, .slice a2 x1.length c3), (3, .slice a2420 x2422.length c2421), (4, .int .i64 x2423), (5, .int .i64 x3536), (27, .bool x3607)], [], [Ro (eI .i64) 3 1 (.slice a2420 x2422.length c2421) x2422], [Sl (eI .i64) 1 (.slice a2 x1.length c3) x1], qbF F (qP F x1 k3021) (yl F (qP F x1 k3021) x1 x2422 x2423 k3577) x1 x2422 x2423 x3536 x3607)) ?_ ?_
 refine av [26,10] ?_ ?_
 intro h3609
 refine au [29,11] ?_
 intro x3610 e3610 g3611 h3612
 replace h3612 : a2420 = some ⟨g3611, 0, none⟩ := h3612
 have h3613 := qfu (k := x2422.length) (c := c2421) h3612
 refine au [28,12] ?_
 intro x3614 e3614 b3615 o3616 h3617
 replace h3617 : a2 = some ⟨b3615, o3616, none⟩ := h3617
 refine qw mixed [] [] [qt b3615 (o3616 + x2423.toNat * 1) ((eI .i64) x3614), Sl (eI .i64) 1 (.slice a2 x1.length c3) x1, qt g3611 ((isub .i64 x3536 1).toNat * 1) ((eI .i64) x3610)] .nil (qC 0 rfl (qC 1 rfl (qgm 0 rfl (qbX (qo .i64) e3610 h3612) qu))) 14 rfl ?_
 refine au [6,0,6,1,6,2] ?_
 refine qf (d := 16) (v := .bool true) rfl (by rw [h3609] <;> rfl) ?_
 refine au [6,3,6,4,6,5] ?_
 refine qf (d := 17) (v := .slice (some ⟨g3611, 0, none⟩) x2422.length c2421) rfl (by rw [h3612] <;> rfl) (qm 6 (.pointer (some ⟨g3611, (isub .i64 x3536 1).toNat * 1, none⟩)) rfl rfl rfl (qfd Tryz.underlying37 tf3 rfl rfl (qJ e3610).1 (kj e3610)) (qf (d := 17) (v := .slice a2420 x2422.length c2421) rfl (by rw [h3612] <;> rfl) (qK 7 (.int .i64 x3610) [] rfl rfl rfl (zx (j := 2) rfl tf3 rfl rfl (fun _ => rfl) rfl) ?_)))
 refine au [6,8,6,9] ?_
 refine qf (d := 22) (v := .slice (some ⟨b3615, o3616, none⟩) x1.length c3) rfl (by rw [h3617] <;> rfl) (qm 10 (.pointer (some ⟨b3615, (o3616 + x2423.toNat * 1), none⟩)) rfl rfl rfl (yq Tryz.underlying37 tf3 rfl rfl (qJ e3614).1 (kj e3614)) (qf (d := 22) (v := .slice a2 x1.length c3) rfl (by rw [h3617] <;> rfl) (qK 11 (.int .i64 x3614) [] rfl rfl rfl (zx (j := 0) rfl tf3 rfl rfl (fun _ => rfl) rfl) ?_)))
 refine au [6,12,6,13,24,7] ?_
 exact qz (qa ((decide (x3614 < x3610)), ())) (by intro c h; cases h)
 intro h3609
 refine qw mixed [] [] [Sl (eI .i64) 1 (.slice a2 x1.length c3) x1] .nil (qC 0 rfl qu) 14 rfl ?_
 refine au [6,0,6,1,6,2] ?_
 refine qf (d := 16) (v := .bool false) rfl (by rw [h3609] <;> rfl) ?_
 refine au [8,3,8,4,8,5,8,6,8,7,8,8,8,9,8,10,8,11,8,12,6,13,24,7] ?_
 exact qz (qa (false, ())) (by intro c h; cases h)
 rintro ⟨x3607, _⟩
 try dsimp only
 refine av [9] ?_ ?_
 intro _
 refine au [10,2,14,4,1,24,10,5,0,21] ?_
 exact qh (isub .i64 x3536 1, ())
 intro _
 refine au [24,4,16,16,24,5] ?_
 exact qa (x3536, ())
 rintro ⟨x3444, _⟩
 try dsimp only
 refine qnu 0 rfl (qiD 0 (qo .i64) rfl ?_)
 intro x3445 e3445 a3446 c3447 h3448 h3449
 refine au [31,0] ?_
 intro x3450 e3450 b3451 o3452 h3453
 replace h3453 : a2 = some ⟨b3451, o3452, none⟩ := h3453
 refine qiD 2 (qo .i64) rfl ?_
 intro x3454 e3454 a3455 c3456 h3457 h3458
 refine qw mixed [] [] [Sl (eI .i64) 1 (.slice a3455 x3454.length c3456) x3454, qt b3451 (o3452 + x2423.toNat * 1) ((eI .i64) x3450), Sl (eI .i64) 1 (.slice a3446 x3445.length c3447) x3445, Sl (eI .i64) 1 (.slice a2420 x2422.length c2421) x2422, Sl (eI .i64) 1 (.slice a2 x1.length c3) x1] .nil (qC 0 rfl (qC 1 rfl (qC 2 rfl (qC 3 rfl (qC 4 rfl qu))))) 16 rfl ?_
 refine au [6,1,6,2] ?_
 refine qm 3 (.slice a3446 x3445.length c3447) rfl rfl rfl (qnK Tryz.underlying37 tf3 rfl rfl rfl e3445 h3449 h3448) ?_
 refine au [6,5,6,6] ?_
 refine qf (d := 35) (v := .slice (some ⟨b3451, o3452, none⟩) x1.length c3) rfl (by rw [h3453] <;> rfl) (qm 7 (.pointer (some ⟨b3451, (o3452 + x2423.toNat * 1), none⟩)) rfl rfl rfl (yq Tryz.underlying37 tf3 rfl rfl (qJ e3450).1 (kj e3450)) (qf (d := 35) (v := .slice a2 x1.length c3) rfl (by rw [h3453] <;> rfl) (qK 8 (.int .i64 x3450) [] rfl rfl rfl (zx (j := 1) rfl tf3 rfl rfl (fun _ => rfl) rfl) ?_)))
 refine au [6,11,6,12] ?_
 refine qm 13 (.slice a3455 x3454.length c3456) rfl rfl rfl (qnK Tryz.underlying37 tf3 rfl rfl rfl e3454 h3458 h3457) (qdB 0 9 rfl rfl (by kernel_rfl) rfl rfl ?_ ?_)
 refine au [30,8] ?_
 intro a3459 c3460
 refine au [0,26,4] ?_
 refine qdB 4 9 rfl rfl (by kernel_rfl) rfl rfl ?_ ?_
 refine au [35,5] ?_
 intro x3461 e3461 a3462 c3463
 refine au [0,26,4,24,0,9] ?_
 refine qy (vs := [.int .i64 x3450]) (ys := ([x3450] : List Int)) (qo .i64) (by decide) rfl Tryz.underlying37 tf3 rfl rfl rfl rfl rfl (by decide) (fun a3464 c3465 => ?_)
 refine au [0,26,4,24,0,10] ?_
 refine qA 1 (qo .i64) rfl Tryz.underlying37 tf3 rfl rfl rfl rfl rfl (.inl ⟨0, _, rfl⟩) rfl rfl (fun x3466 e3466 a3467 c3468 => ?_)
 refine au [0,26,4,24,0,14,28,0] ?_
 intro x3469 e3469 a3470 c3471
 refine au [0,26,4,6,15,24,7] ?_
 refine qz ?_ (by intro c h; cases h)
 refine au [21] ?_
 exact qa (x3469, (a3470, c3471))
 refine qdC (m' := ((app 8796093022208 ([] : List Int) x3445).bind fun x3474 => ((app 8796093022208 x3474 ([x3450] : List Int)).bind fun x3477 => ((app 8796093022208 x3477 x3454).bind fun x3480 => jR F (qP F x1 k3021) x2423 x3480)))) (rfl) (qy (vs := [.int .i64 x3450]) (ys := ([x3450] : List Int)) (qo .i64) (by decide) rfl Tryz.underlying37 tf3 rfl rfl rfl rfl rfl (by decide) (fun a3472 c3473 => ?_))
 refine au [0,26,4,24,0,4] ?_
 refine qA 1 (qo .i64) rfl UnF.u inferInstance rfl rfl rfl rfl rfl (.inr ⟨2, rfl⟩) rfl rfl ?_
 intro x3474 e3474 a3475 c3476
 refine au [0,26,4,24,0,10] ?_
 refine qA 0 (qo .i64) rfl Tryz.underlying37 tf3 rfl rfl rfl rfl rfl (.inl ⟨1, _, rfl⟩) rfl rfl (fun x3477 e3477 a3478 c3479 => ?_)
 refine au [0,26,4,24,0,14,28,0] ?_
 intro x3480 e3480 a3481 c3482
 refine au [0,26,4,6,15,24,7] ?_
 refine qz ?_ (by intro c h; cases h)
 refine au [21] ?_
 exact qa (x3480, (a3481, c3482))
 refine qdC (m' := ((app 8796093022208 ([] : List Int) x3445).bind fun x3487 => ((app 8796093022208 x3487 ([x3450] : List Int)).bind fun x3490 => ((app 8796093022208 x3490 x3454).bind fun x3493 => jR F (qP F x1 k3021) x2423 x3493)))) (rfl) (qy (vs := [.int .i64 x3450]) (ys := ([x3450] : List Int)) (qo .i64) (by decide) rfl Tryz.underlying37 tf3 rfl rfl rfl rfl rfl (by decide) (fun a3483 c3484 => ?_))
 refine au [0,26,4,24,0,0,30,8] ?_
 intro a3485 c3486
 refine au [0,26,4,24,0,4,35,5] ?_
 intro x3487 e3487 a3488 c3489
 refine au [0,26,4,24,0,10] ?_
 refine qA 0 (qo .i64) rfl Tryz.underlying37 tf3 rfl rfl rfl rfl rfl (.inl ⟨1, _, rfl⟩) rfl rfl (fun x3490 e3490 a3491 c3492 => ?_)
 refine au [0,26,4,24,0,14,28,0] ?_
 intro x3493 e3493 a3494 c3495
 refine au [0,26,4,6,15,24,7] ?_
 refine qz ?_ (by intro c h; cases h)
 refine au [21] ?_
 exact qa (x3493, (a3494, c3495))
 rintro ⟨x3321, ⟨a3319, c3320⟩⟩
 try dsimp only
 refine au [4,1,15,5,0] ?_
 exact qh ((x3321, iadd .i64 x2423 1), (a3319, c3320))
 intro _
 refine au [24,4,16,16,24,5] ?_
 exact qa (x2422, (a2420, c2421))
 rintro ⟨x1812, ⟨a1810, c1811⟩⟩
 try dsimp only
 refine au [3,4,1,5,0,2,12] ?_
 exact qj (a1810, c1811)
end Go.Proofs.YtpnfijegoepiaaaGreat
