/- Each Go function of this seat computes what its model says, part 2. -/
import Derived.Test.YtfjkpdlcdceenaaGreatDoorWalks
namespace Go.Proofs.YtfjkpdlcdceenaaGreatDoor
open Go SX
theorem qdM {F : Nat} {x1 : Int} {r : List Int} (hm : qS F x1 = some r) :
    Pure Tryz.prog 17 [.int .i64 x1] [] Unit (fun _ => .string (bstr r)) (fun _ => []) (fun _ => []) := by
 refine qM Tryz.func17 rfl Tryz.ntmps17 rfl hm (fun w => ?_)
 refine au [24,12,2,3,5,0,1,2,3,5,0,1,13] ?_
 refine ja (fun (((x6, x7), _) : ((Int × List Int) × Unit)) => [(0, .int .i64 x6), (3, .string (bstr x7))]) (fun (((x6, x7), _) : ((Int × List Int) × Unit)) => []) (fun (((x6, x7), _) : ((Int × List Int) × Unit)) => []) (fun (((x6, x7), _) : ((Int × List Int) × Unit)) => []) (fun k (s : ((Int × List Int) × Unit)) => kf F k s.1) ((x1, ([] : List Int)), ()) F ?_
 intro k12
 rintro ⟨⟨x6, x7⟩, _⟩
 try dsimp only
 refine q5 (m' := ke F (kf F k12) x6 x7) rfl ?_
 refine au [13,2,3,4,28,11,24,3,30,5] ?_
 refine qE (vs := [.int .u8 (iconv .u8 (iadd .i64 48 (irem x6 10)))]) (ys := ([iconv .u8 (iadd .i64 48 (irem x6 10))] : List Int)) (ky .u8) (by decide) rfl Tryz.underlying47 tf5 rfl rfl rfl rfl rfl (by decide) (fun a13 c14 => ?_)
 refine au [26,3] ?_
 refine qfC (j := 0) rfl UnF.u UnF.u UnF.u rfl rfl rfl ?_
 refine au [4] ?_
 refine qA (a := ([iconv .u8 (iadd .i64 48 (irem x6 10))] : List Int)) (b := x7) rfl Tryz.underlying9 rfl rfl rfl (fun x15 e15 => ?_)
 refine au [5,0,1,2,3,4] ?_
 refine qhw rfl rfl rfl rfl rfl ?_
 refine av [5,0,1,2,3,4,24,11,0,1,9] ?_ ?_
 intro _
 exact az [2,3,4,5,0,1,8,22,7,22,16]
 intro _
 refine au [10,24,0] ?_
 exact qw ((iquo .i64 x6 10, x15), ())
set_option maxHeartbeats 4000000 in
theorem qcs {F : Nat} {x1 : List (List Int)} {a2 : Option Addr} {c3 : Nat} {s3 : List (Option Addr × Nat)} {r : List (Int × Int)} (hm : qaA F x1 = some r) :
    Pure Tryz.prog 28 [.agg #[.slice a2 x1.length c3]] [SlN eN66 iN66 1 (.slice a2 x1.length c3) x1 s3] (Option Addr × Nat) (fun g => .slice g.1 r.length g.2) (fun g => [Ro eS44 44 2 (.slice g.1 r.length g.2) r]) (fun _ => []) := by
 refine qM Tryz.func28 rfl Tryz.ntmps28 rfl hm (fun w => ?_)
 refine au [24,12,2,3,25,0] ?_
 intro g4
 refine au [5,0,1,2,3,5,0,1] ?_
 refine qf (fun ((x669, (a667, c668)) : (List (Int × Int) × (Option Addr × Nat))) => ([(3, .slice a667 x669.length c668)], [], [Ro eS44 44 2 (.slice a667 x669.length c668) x669], [], js F x669)) ?_ ?_
 refine au [2,3,5,0,1,13,27,14] ?_
 refine qK (fun (((x891, x892), (a889, c890)) : ((List (Int × Int) × Int) × (Option Addr × Nat))) => ([(1, .pointer (some ⟨g4, 0, none⟩)), (3, .slice a889 x891.length c890), (4, .int .i64 x892)], [⟨g4, 24, [.slice a2 x1.length c3]⟩], [Ro eS44 44 2 (.slice a889 x891.length c890) x891], [SlN eN66 iN66 1 (.slice a2 x1.length c3) x1 s3])) (fun k (s : ((List (Int × Int) × Int) × (Option Addr × Nat))) => zm F x1 k s.1) ((([] : List (Int × Int)), 0), (none, 0)) F ?_
 intro k1112
 rintro ⟨⟨x891, x892⟩, ⟨a889, c890⟩⟩
 try dsimp only
 refine q5 (m' := jq F x1 (zm F x1 k1112) x891 x892) rfl ?_
 refine av [2,2,3,4,23,24,4,24,1,24,2,0,1,9] ?_ ?_
 intro _
 refine au [10,1] ?_
 refine qf (fun ((x1223, (a1221, c1222)) : (List (Int × Int) × (Option Addr × Nat))) => ([(1, .pointer (some ⟨g4, 0, none⟩)), (3, .slice a1221 x1223.length c1222), (4, .int .i64 x892)], [⟨g4, 24, [.slice a2 x1.length c3]⟩], [Ro eS44 44 2 (.slice a1221 x1223.length c1222) x1223], [SlN eN66 iN66 1 (.slice a2 x1.length c3) x1 s3], jt F (zm F x1 k1112) x892 x1223)) ?_ ?_
 refine au [13,2,3,5,0,1,13] ?_
 refine qK (fun (((x1260, x1261), (a1258, c1259)) : ((List (Int × Int) × Int) × (Option Addr × Nat))) => ([(1, .pointer (some ⟨g4, 0, none⟩)), (3, .slice a1258 x1260.length c1259), (4, .int .i64 x892), (5, .int .i64 x1261)], [⟨g4, 24, [.slice a2 x1.length c3]⟩], [Ro eS44 44 2 (.slice a1258 x1260.length c1259) x1260], [SlN eN66 iN66 1 (.slice a2 x1.length c3) x1 s3])) (fun k (s : ((List (Int × Int) × Int) × (Option Addr × Nat))) => k3 F (zm F x1 k1112) x1 x892 k s.1) ((x891, 0), (a889, c890)) F ?_
 intro k1296
 rintro ⟨⟨x1260, x1261⟩, ⟨a1258, c1259⟩⟩
 try dsimp only
 refine q5 (m' := jr F (zm F x1 k1112) x1 x892 (k3 F (zm F x1 k1112) x1 x892 k1296) x1260 x1261) rfl ?_
 refine au [2,2,3,4,23,24,4,4,27,4] ?_
 intro x1302 e1302 g1305 b1303 o1304
 refine av [25,11,24,1,24,2,0,1,9] ?_ ?_
 intro _
 refine au [10,1,2,13,3,4,4,23,24,4,4,30,3] ?_
 intro x1318 e1318 g1321 b1319 o1320
 refine au [25,11,4,28,5] ?_
 intro x1322 e1322 b1323 o1324
 refine au [25,11] ?_
 refine qh (cells := [.int .i64 x892, .int .i64 x1322]) rfl st44 rfl (by kernel_rfl) rfl (qE (vs := [.agg #[.int .i64 x892, .int .i64 x1322]]) (ys := ([(x892, x1322)] : List (Int × Int))) ql (by decide) rfl Tryz.underlying39 tf44 rfl rfl rfl rfl rfl (by decide) (fun a1325 c1326 => yv 1 ql rfl Tryz.underlying39 tf44 rfl rfl rfl rfl rfl (.inl ⟨0, _, rfl⟩) rfl rfl (fun x1327 e1327 a1328 c1329 => ?_)))
 refine au [5,0,24,0,1,3,4,24,3,5,0] ?_
 exact qw ((x1327, iadd .i64 x1261 1), (a1328, c1329))
 intro _
 refine au [24,6,15,15,24,7,24,0] ?_
 exact qa (x1260, (a1258, c1259))
 rintro ⟨x1223, ⟨a1221, c1222⟩⟩
 try dsimp only
 refine au [3,4,24,3,5,0] ?_
 exact qw ((x1223, iadd .i64 x892 1), (a1221, c1222))
 intro _
 refine au [24,6,15,15,24,7] ?_
 exact qa (x891, (a889, c890))
 rintro ⟨x669, ⟨a667, c668⟩⟩
 try dsimp only
 refine au [2,3,4,5,0,1,8] ?_
 exact yw (a667, c668)
set_option maxHeartbeats 4000000 in
theorem qcw {F : Nat} {x1 : List (List Int)} {a2 : Option Addr} {c3 : Nat} {s3 : List (Option Addr × Nat)} {r : List Int} (hm : qaE F x1 = some r) :
    Pure Tryz.prog 11 [.agg #[.slice a2 x1.length c3]] [SlN eN66 iN66 1 (.slice a2 x1.length c3) x1 s3] Unit (fun _ => .string (bstr r)) (fun _ => []) (fun _ => []) := by
 refine qM Tryz.func11 rfl Tryz.ntmps11 rfl hm (fun w => ?_)
 refine au [24,12,2,3,25,0] ?_
 intro g4
 refine au [5,0,1,2,3,23,24,4,24,1,26,1] ?_
 intro x5 e5 _
 refine qA (a := x5) (b := ([10] : List Int)) rfl Tryz.underlying9 rfl rfl rfl (fun x6 e6 => ?_)
 refine au [5,0,1,2,3,24,13] ?_
 refine qB qcs ?_
 rintro x7 e7 ⟨a8, c9⟩
 refine au [5,0,1] ?_
 refine qf (fun ((x184, _) : (List Int × Unit)) => ([(3, .string (bstr x184))], [], [], [], jO F x184)) ?_ ?_
 refine au [2,3,5,0,1,13] ?_
 refine qK (fun (((x242, x243), _) : ((List Int × Int) × Unit)) => ([(3, .string (bstr x242)), (4, .slice a8 x7.length c9), (5, .int .i64 x243)], [], [Ro eS44 44 2 (.slice a8 x7.length c9) x7], [])) (fun k (s : ((List Int × Int) × Unit)) => zJ F x7 k s.1) ((x6, 0), ()) F ?_
 intro k301
 rintro ⟨⟨x242, x243⟩, _⟩
 try dsimp only
 refine q5 (m' := jN F x7 (zJ F x7 k301) x242 x243) rfl ?_
 refine av [2,2,3,4,4,24,1,24,2,0,1,9] ?_ ?_
 intro _
 refine au [10,1] ?_
 refine qf (fun ((x330, _) : (List Int × Unit)) => ([(3, .string (bstr x330)), (4, .slice a8 x7.length c9), (5, .int .i64 x243)], [], [Ro eS44 44 2 (.slice a8 x7.length c9) x7], [], yi F (zJ F x7 k301) x243 x330)) ?_ ?_
 refine au [13,28,1] ?_
 intro x331 e331 g332 h333
 replace h333 : a8 = some ⟨g332, 0, none⟩ := h333
 have h334 := vp (k := x7.length) (c := c9) h333
 refine au [28,1] ?_
 intro x335 e335 g336 h337
 replace h337 : a8 = some ⟨g336, 0, none⟩ := h337
 have h338 := vp (k := x7.length) (c := c9) h337
 refine q6 mixed [] [] [qk g332 (x243.toNat * 2) (eS44 x331), qk g336 (x243.toNat * 2) (eS44 x335)] .nil (zt 0 rfl (qF ql e331 h333) (zt 0 rfl (qF ql e335 h337) qn)) 18 rfl ?_
 refine au [11,0,11,1,11,2] ?_
 refine qg (d := 20) (v := .slice (some ⟨g332, 0, none⟩) x7.length c9) rfl (by rw [h333] <;> rfl) (qo 3 (.pointer (some ⟨g332, x243.toNat * 2, none⟩)) rfl rfl rfl (vy Tryz.underlying39 tf44 rfl rfl (qr e331).1 (zZ e331)) (qg (d := 20) (v := .slice a8 x7.length c9) rfl (by rw [h333] <;> rfl) ?_))
 refine au [24,8,4] ?_
 refine q7 5 (.int .i64 x331.1) [] rfl rfl rfl (qc5 (j := 0) (off := 0) rfl tf3 rfl rfl (fun _ => rfl) rfl) ?_
 refine au [11,8,11,9] ?_
 refine qg (d := 27) (v := .slice (some ⟨g336, 0, none⟩) x7.length c9) rfl (by rw [h337] <;> rfl) (qo 10 (.pointer (some ⟨g336, x243.toNat * 2, none⟩)) rfl rfl rfl (vy Tryz.underlying39 tf44 rfl rfl (qr e335).1 (zZ e335)) (qg (d := 27) (v := .slice a8 x7.length c9) rfl (by rw [h337] <;> rfl) ?_))
 refine au [24,8,11] ?_
 refine q7 12 (.int .i64 x335.2) [] rfl rfl rfl (qc5 (j := 1) (off := 1) rfl tf3 rfl rfl (fun _ => rfl) rfl) ?_
 refine au [12,6,26,1] ?_
 intro x339 e339 _
 refine au [0] ?_
 refine qs .nil (zt 0 rfl (qF ql e331 h333) (zt 0 rfl (qF ql e335 h337) qn)) (yL 7 13 rfl rfl (by kernel_rfl) rfl rfl ?_ ?_)
 refine qA (a := x339) (b := ([32] : List Int)) rfl Tryz.underlying9 rfl rfl rfl (fun x341 e341 => ?_)
 refine au [0] ?_
 refine qs .nil (zt 0 rfl (qF ql e331 h333) (zt 0 rfl (qF ql e335 h337) qn)) ?_
 refine au [12,13,26,1] ?_
 intro x342 e342 _
 refine au [0] ?_
 refine qs .nil (zt 0 rfl (qF ql e331 h333) (zt 0 rfl (qF ql e335 h337) qn)) ?_
 refine au [12,14] ?_
 refine qA (a := x341) (b := x342) rfl Tryz.underlying9 rfl rfl rfl (fun x344 e344 => ?_)
 refine au [0] ?_
 refine qs .nil (zt 0 rfl (qF ql e331 h333) (zt 0 rfl (qF ql e335 h337) qn)) ?_
 refine au [12,15] ?_
 refine qA (a := x344) (b := ([10] : List Int)) rfl Tryz.underlying9 rfl rfl rfl (fun x346 e346 => ?_)
 refine au [0] ?_
 refine qs .nil (zt 0 rfl (qF ql e331 h333) (zt 0 rfl (qF ql e335 h337) qn)) ?_
 refine au [12,16] ?_
 refine qA (a := x242) (b := x346) rfl Tryz.underlying9 rfl rfl rfl (fun x348 e348 => ?_)
 refine au [0] ?_
 refine qs .nil (zt 0 rfl (qF ql e331 h333) (zt 0 rfl (qF ql e335 h337) qn)) ?_
 refine au [11,17,24,5] ?_
 refine q9 ?_ (by intro c h; cases h)
 refine au [24,0] ?_
 exact qa (x348, ())
 refine yM (m' := ((qS F x335.2).bind fun x349 => ((app 9223372036854775807 x339 ([32] : List Int)).bind fun x351 => ((app 9223372036854775807 x351 x349).bind fun x353 => ((app 9223372036854775807 x353 ([10] : List Int)).bind fun x355 => ((app 9223372036854775807 x242 x355).bind fun x357 => yi F (zJ F x7 k301) x243 x357)))))) (Eq.trans (b := ((app 9223372036854775807 x339 ([32] : List Int)).bind fun x341 => ((qS F x335.2).bind fun x342 => ((app 9223372036854775807 x341 x342).bind fun x344 => ((app 9223372036854775807 x344 ([10] : List Int)).bind fun x346 => ((app 9223372036854775807 x242 x346).bind fun x348 => yi F (zJ F x7 k301) x243 x348)))))) rfl (by generalize (app 9223372036854775807 x339 ([32] : List Int)) = q0; generalize (qS F x335.2) = q1; cases q0 <;> cases q1 <;> rfl)) ?_
 refine au [26,1] ?_
 intro x349 e349 _
 refine au [0] ?_
 refine qs .nil (zt 0 rfl (qF ql e331 h333) (zt 0 rfl (qF ql e335 h337) qn)) ?_
 refine au [12,7] ?_
 refine qA (a := x339) (b := ([32] : List Int)) rfl Tryz.underlying9 rfl rfl rfl (fun x351 e351 => ?_)
 refine au [0] ?_
 refine qs .nil (zt 0 rfl (qF ql e331 h333) (zt 0 rfl (qF ql e335 h337) qn)) ?_
 refine au [12,14] ?_
 refine qA (a := x351) (b := x349) rfl Tryz.underlying9 rfl rfl rfl (fun x353 e353 => ?_)
 refine au [0] ?_
 refine qs .nil (zt 0 rfl (qF ql e331 h333) (zt 0 rfl (qF ql e335 h337) qn)) ?_
 refine au [12,15] ?_
 refine qA (a := x353) (b := ([10] : List Int)) rfl Tryz.underlying9 rfl rfl rfl (fun x355 e355 => ?_)
 refine au [0] ?_
 refine qs .nil (zt 0 rfl (qF ql e331 h333) (zt 0 rfl (qF ql e335 h337) qn)) ?_
 refine au [12,16] ?_
 refine qA (a := x242) (b := x355) rfl Tryz.underlying9 rfl rfl rfl (fun x357 e357 => ?_)
 refine au [0] ?_
 refine qs .nil (zt 0 rfl (qF ql e331 h333) (zt 0 rfl (qF ql e335 h337) qn)) ?_
 refine au [11,17,24,5] ?_
 refine q9 ?_ (by intro c h; cases h)
 refine au [24,0] ?_
 exact qa (x357, ())
 rintro ⟨x330, _⟩
 try dsimp only
 refine au [3,4,24,3,5,0] ?_
 exact qw ((x330, iadd .i64 x243 1), ())
 intro _
 refine au [24,6,15,15,24,7] ?_
 exact qa (x242, ())
 rintro ⟨x184, _⟩
 try dsimp only
 exact az [2,3,4,5,0,1,8,16]
set_option maxHeartbeats 4000000 in
theorem qcx {F : Nat} {x1 : List Int} {r : List (List Int)} (hm : qaF F x1 = some r) :
    Pure Tryz.prog 29 [.string (bstr x1)] [] (Option Addr × Nat) (fun g => .slice g.1 r.length g.2) (fun g => [Ro eT 9 1 (.slice g.1 r.length g.2) r]) (fun _ => []) := by
 refine qM Tryz.func29 rfl Tryz.ntmps29 rfl hm (fun w => ?_)
 refine au [24,12,2,3,5,0,1,2,3,5,0,1,2,3,5,0,1] ?_
 refine qf (fun ((x202, (a200, c201)) : (List (List Int) × (Option Addr × Nat))) => ([(3, .slice a200 x202.length c201)], [], [Ro eT 9 1 (.slice a200 x202.length c201) x202], [], jw F x202)) ?_ ?_
 refine au [2,3,5,0,1,13,28,6] ?_
 refine qK (fun (((x269, x270, x271), (a267, c268)) : ((List (List Int) × List Int × Int) × (Option Addr × Nat))) => ([(0, .string (bstr x1)), (3, .slice a267 x269.length c268), (4, .string (bstr x270)), (5, .int .i64 x271)], [], [Ro eT 9 1 (.slice a267 x269.length c268) x269], [])) (fun k (s : ((List (List Int) × List Int × Int) × (Option Addr × Nat))) => zE F x1 k s.1) ((([] : List (List Int)), ([] : List Int), 0), (none, 0)) F ?_
 intro k336
 rintro ⟨⟨x269, x270, x271⟩, ⟨a267, c268⟩⟩
 try dsimp only
 refine q5 (m' := jv F x1 (zE F x1 k336) x269 x270 x271) rfl ?_
 refine au [2,2,3,4,4] ?_
 refine zw (a := x1) rfl Tryz.underlying9 rfl rfl ?_
 refine av [27,5,0,1,9] ?_ ?_
 intro _
 refine au [10,1] ?_
 refine qf (fun (((x369, x370), (a367, c368)) : ((List (List Int) × List Int) × (Option Addr × Nat))) => ([(0, .string (bstr x1)), (3, .slice a367 x369.length c368), (4, .string (bstr x370)), (5, .int .i64 x271)], [], [Ro eT 9 1 (.slice a367 x369.length c368) x369], [], y2 F (zE F x1 k336) x271 x369 x370)) ?_ ?_
 refine au [13,2,2,3,4,4] ?_
 refine zw (a := x1) rfl Tryz.underlying9 rfl rfl ?_
 refine au [24,2,4] ?_
 refine qy 5 (fun ((x380, _) : (Bool × Unit)) => ([(0, .string (bstr x1)), (3, .slice a267 x269.length c268), (4, .string (bstr x270)), (5, .int .i64 x271), (21, .bool x380)], [], [Ro eT 9 1 (.slice a267 x269.length c268) x269], [], y3 F (zE F x1 k336) x1 x269 x270 x271 x380)) ?_ ?_
 refine qb (os := _) rfl ?_
 refine av [24,10] ?_ ?_
 intro h378
 refine qj (k := 16) rfl h378 ?_
 refine au [4,4] ?_
 refine vd (xs := x1) rfl Tryz.underlying9 rfl rfl rfl (fun x399 e399 => ?_)
 refine au [25,3,17,0] ?_
 exact qa ((((b8 x399) : Int) != 32), ())
 intro h378
 refine qi (k := 16) rfl h378 ?_
 refine au [6,6,6,6,18,0] ?_
 exact qa (false, ())
 rintro ⟨x380, _⟩
 try dsimp only
 refine qb (os := _) rfl ?_
 refine av [0,1,9] ?_ ?_
 intro _
 refine au [2,3,4,4,4,4,24,3] ?_
 refine jU (xs := x1) rfl Tryz.underlying9 rfl rfl rfl rfl (fun x381 e381 => qA (a := x270) (b := x381) rfl Tryz.underlying9 rfl rfl rfl (fun x382 e382 => ?_))
 refine au [5,0,1,24,6,15,24,7] ?_
 exact qa ((x269, x382), (a267, c268))
 intro _
 refine au [10,1] ?_
 refine qf (fun ((x391, (a389, c390)) : (List (List Int) × (Option Addr × Nat))) => ([(0, .string (bstr x1)), (3, .slice a389 x391.length c390), (5, .int .i64 x271)], [], [Ro eT 9 1 (.slice a389 x391.length c390) x391], [], y4 F (zE F x1 k336) x271 x391)) ?_ ?_
 refine av [2,3,4,28,7,0,1,9] ?_ ?_
 intro _
 refine au [3,4,4] ?_
 refine qE (vs := [.string (bstr x270)]) (ys := ([x270] : List (List Int))) zd (by decide) rfl Tryz.underlying57 tf9 rfl rfl rfl rfl rfl (by decide) (fun a392 c393 => yv 1 zd rfl Tryz.underlying57 tf9 rfl rfl rfl rfl rfl (.inl ⟨0, _, rfl⟩) rfl rfl (fun x394 e394 a395 c396 => ?_))
 refine au [5,0] ?_
 exact qa (x394, (a395, c396))
 intro _
 refine au [10] ?_
 exact qa (x269, (a267, c268))
 rintro ⟨x391, ⟨a389, c390⟩⟩
 try dsimp only
 refine au [3,5,0,24,0] ?_
 exact qa ((x391, ([] : List Int)), (a389, c390))
 rintro ⟨⟨x369, x370⟩, ⟨a367, c368⟩⟩
 try dsimp only
 refine au [3,4,24,3,5,0] ?_
 exact qw ((x369, x370, iadd .i64 x271 1), (a367, c368))
 intro _
 refine au [24,6,15,15,24,7] ?_
 exact qa (x269, (a267, c268))
 rintro ⟨x202, ⟨a200, c201⟩⟩
 try dsimp only
 refine au [2,3,4,5,0,1,8] ?_
 exact yw (a200, c201)
set_option maxHeartbeats 4000000 in
theorem qbQ {F : Nat} {x1 : List Int} {r : Int} (hm : ze F x1 = some r) :
    Pure Tryz.prog 30 [.string (bstr x1)] [] Unit (fun _ => .int .i64 r) (fun _ => []) (fun _ => []) := by
 refine qM Tryz.func30 rfl Tryz.ntmps30 rfl hm (fun w => ?_)
 refine au [24,12,2,3,5,0,1,2,2,3,4] ?_
 refine zw (a := x1) rfl Tryz.underlying9 rfl rfl ?_
 refine au [24,2,4] ?_
 refine qN 4 (decide ((x1.length : Int) < 1)) [(0, .string (bstr x1)), (12, .bool ((decide ((x1.length : Int) < 1)) || (decide (6 < (x1.length : Int)))))] (fun h4 => ?_) (fun h4 => ?_) ?_
 refine qb (os := _) rfl (qj (k := 8) rfl h4 ?_)
 refine au [6,6,6,17] ?_
 refine qc (d := 12) (v := .bool ((decide ((x1.length : Int) < 1)) || (decide (6 < (x1.length : Int))))) rfl (by rw [h4]; simp only [Bool.true_or]) ?_
 exact az [0,20]
 refine qb (os := _) rfl (qi (k := 8) rfl h4 ?_)
 refine au [4] ?_
 refine zw (a := x1) rfl Tryz.underlying9 rfl rfl ?_
 refine au [25,2,18] ?_
 refine qc (d := 12) (v := .bool ((decide ((x1.length : Int) < 1)) || (decide (6 < (x1.length : Int))))) rfl (by rw [h4]; simp only [Bool.false_or]) ?_
 exact az [0,20]
 refine qb (os := _) rfl ?_
 refine av [0,1,9] ?_ ?_
 intro _
 exact az [2,3,5,0,1,8,7,16]
 intro _
 refine au [10,1,2,3,5,0,1] ?_
 refine qf (fun ((x98, _) : (Int × Unit)) => ([(3, .int .i64 x98)], [], [], [], ji F x98)) ?_ ?_
 refine au [2,3,5,0,1,13] ?_
 refine ja (fun (((x129, x130), _) : ((Int × Int) × Unit)) => [(0, .string (bstr x1)), (3, .int .i64 x129), (4, .int .i64 x130)]) (fun (((x129, x130), _) : ((Int × Int) × Unit)) => []) (fun (((x129, x130), _) : ((Int × Int) × Unit)) => []) (fun (((x129, x130), _) : ((Int × Int) × Unit)) => []) (fun k (s : ((Int × Int) × Unit)) => kj F x1 k s.1) ((0, 0), ()) F ?_
 intro k161
 rintro ⟨⟨x129, x130⟩, _⟩
 try dsimp only
 refine q5 (m' := jh F x1 (kj F x1 k161) x129 x130) rfl ?_
 refine au [2,2,3,4,4] ?_
 refine zw (a := x1) rfl Tryz.underlying9 rfl rfl ?_
 refine av [24,2,0,1,9] ?_ ?_
 intro _
 refine au [10,1,2,13,2,2,3,4,4] ?_
 refine vd (xs := x1) rfl Tryz.underlying9 rfl rfl rfl (fun x183 e183 => ?_)
 refine au [24,2,4] ?_
 refine qy 5 (fun ((x186, _) : (Bool × Unit)) => ([(0, .string (bstr x1)), (3, .int .i64 x129), (4, .int .i64 x130), (28, .bool x186)], [], [], [], yT F (kj F x1 k161) x1 x129 x130 x186)) ?_ ?_
 refine qb (os := _) rfl ?_
 refine av [24,10] ?_ ?_
 intro h184
 refine qj (k := 23) rfl h184 ?_
 refine au [6,6,6,6,17,0] ?_
 exact qa (true, ())
 intro h184
 refine qi (k := 23) rfl h184 ?_
 refine au [4,4] ?_
 refine vd (xs := x1) rfl Tryz.underlying9 rfl rfl rfl (fun x190 e190 => ?_)
 refine au [25,2,18,0] ?_
 exact qa ((decide (57 < (b8 x190))), ())
 rintro ⟨x186, _⟩
 try dsimp only
 refine qb (os := _) rfl ?_
 refine av [0,1,9] ?_ ?_
 intro _
 exact az [2,3,5,0,1,8,7,22,7,7,22,7,16]
 intro _
 refine au [10,1,3,4] ?_
 refine qht rfl rfl rfl rfl ?_
 refine au [4,4] ?_
 refine vd (xs := x1) rfl Tryz.underlying9 rfl rfl rfl (fun x187 e187 => ?_)
 refine au [26,9,30,5,24,3,5] ?_
 refine qgx ?_
 intro x188 e188
 refine qc (d := 3) (v := .int .i64 x188) rfl (by rw [e188] <;> rfl) ?_
 refine au [0,24,0,1,3,4,24,3,5,0] ?_
 exact qw ((x188, iadd .i64 x130 1), ())
 intro _
 refine au [24,6,15,15,24,7] ?_
 exact qa (x129, ())
 rintro ⟨x98, _⟩
 try dsimp only
 exact az [2,3,4,5,0,1,8,16]
set_option maxHeartbeats 4000000 in
theorem qeu {F : Nat} {x1 : List (Int × Int)} {a2 : Option Addr} {c3 : Nat} {x4 : Int} {x5 : Int} {r : Bool} (hm : jY F x1 x4 x5 = some r) :
    Pure Tryz.prog 31 [.slice a2 x1.length c3, .agg #[.int .i64 x4, .int .i64 x5]] [Sl eS44 2 (.slice a2 x1.length c3) x1] Unit (fun _ => .bool r) (fun _ => []) (fun _ => []) := by
 refine qM Tryz.func31 rfl Tryz.ntmps31 rfl hm (fun w => ?_)
 refine au [24,15,2,3,25,0] ?_
 intro g6
 refine au [5,0,1] ?_
 refine qf (fun ((_, _) : (Unit × Unit)) => ([], [], [], [], qaC F)) ?_ ?_
 refine au [2,3,5,0,1,13] ?_
 refine qK (fun ((x89, _) : (Int × Unit)) => ([(0, .slice a2 x1.length c3), (3, .pointer (some ⟨g6, 0, none⟩)), (5, .int .i64 x89)], [⟨g6, 44, [.int .i64 x4, .int .i64 x5]⟩], [], [Sl eS44 2 (.slice a2 x1.length c3) x1])) (fun k (s : (Int × Unit)) => vu F x1 x4 x5 k s.1) (0, ()) F ?_
 intro k110
 rintro ⟨x89, _⟩
 try dsimp only
 refine q5 (m' := qaB F x1 x4 x5 (vu F x1 x4 x5 k110) x89) rfl ?_
 refine av [2,2,3,4,4,24,1,24,2,0,1,9] ?_ ?_
 intro _
 refine au [10,1,2,13,2,30,6] ?_
 intro x125 e125 b126 o127 h128
 replace h128 : a2 = some ⟨b126, o127, none⟩ := h128
 refine q6 mixed [] [⟨g6, 44, [.int .i64 x4, .int .i64 x5]⟩] [qk b126 (o127 + x89.toNat * 2) (eS44 x125), Sl eS44 2 (.slice a2 x1.length c3) x1] (.cons 0 rfl .nil) (q4 0 rfl (q4 1 rfl qn)) 6 rfl ?_
 refine au [11,0,11,1] ?_
 refine qg (d := 12) (v := .slice (some ⟨b126, o127, none⟩) x1.length c3) rfl (by rw [h128] <;> rfl) (qo 2 (.pointer (some ⟨b126, (o127 + x89.toNat * 2), none⟩)) rfl rfl rfl (yc Tryz.underlying39 tf44 rfl rfl (qr e125).1 (zZ e125)) (qg (d := 12) (v := .slice a2 x1.length c3) rfl (by rw [h128] <;> rfl) (q7 3 (.agg #[.int .i64 x125.1, .int .i64 x125.2]) [] rfl rfl rfl (zk (j := 0) rfl tf44 rfl rfl (by simp) rfl) (yu 4 (.agg #[.int .i64 x4, .int .i64 x5]) rfl rfl rfl (kS (i := 0) rfl tf44 rfl rfl (by simp) rfl) (qo 5 (.bool (((x125.1 : Int) == x4) && ((x125.2 : Int) == x5))) rfl rfl rfl (qfj rfl rfl se44) ?_)))))
 refine au [24,5] ?_
 refine q9 ?_ (by intro c h; cases h)
 refine av [1,9] ?_ ?_
 intro _
 exact az [2,3,5,0,1,8,22,7,7,22,7,16]
 intro _
 refine au [10,24,0,1,3,4,24,3,5,0] ?_
 exact qw (iadd .i64 x89 1, ())
 intro _
 exact az [24,6,15,15,24,7,25,7]
 rintro ⟨_, _⟩
 try dsimp only
 exact az [2,3,5,0,1,8,16]
set_option maxHeartbeats 4000000 in
theorem qdN {F : Nat} {x1 : Int} {x2 : List (Int × Int)} {a3 : Option Addr} {c4 : Nat} {r : (List (List Int) × Int)} (hm : qbp F x1 x2 = some r) :
    Pure Tryz.prog 32 [.int .i64 x1, .slice a3 x2.length c4] [Sl eS44 2 (.slice a3 x2.length c4) x2] (Option Addr × (Nat × List (Option Addr × Nat))) (fun g => .tuple #[.agg #[.slice g.1 r.1.length g.2.1], .int .i64 r.2]) (fun g => [RoN eN66 rN66 66 1 (.slice g.1 r.1.length g.2.1) r.1 g.2.2 []]) (fun _ => []) := by
 refine qM Tryz.func32 rfl Tryz.ntmps32 rfl hm (fun w => ?_)
 refine au [24,15,2,3,14] ?_
 intro g5
 refine au [5,0,1,2,2,3,4,28,0] ?_
 intro x8 e8 _
 refine av [25,8,0,1,9] ?_ ?_
 intro _
 refine au [2,3] ?_
 refine qh (cells := [.slice none 0 0]) rfl st24 rfl (by kernel_rfl) rfl ?_
 refine au [19,5,0,1,8,7,25,6] ?_
 exact qO (none, (0, ([] : List (Option Addr × Nat)))) (resL (rs := [.cell 4 24, .tmp 5]) rfl (.cell (i := 0) rfl tf24 rfl rfl (by simp) rfl (.tmp rfl ResOk.nil)) rfl) (fun h => by subst h; exact (.cons 0 rfl .nil))
 intro _
 refine av [10,1,2,2,3,4,24,1,25,2,0,1,9] ?_ ?_
 intro _
 refine au [2,3] ?_
 refine qh (cells := [.slice none 0 0]) rfl st24 rfl (by kernel_rfl) rfl ?_
 refine au [19,5,0,1,8,7,25,6] ?_
 exact qO (none, (0, ([] : List (Option Addr × Nat)))) (resL (rs := [.cell 4 24, .tmp 5]) rfl (.cell (i := 0) rfl tf24 rfl rfl (by simp) rfl (.tmp rfl ResOk.nil)) rfl) (fun h => by subst h; exact (.cons 0 rfl .nil))
 intro _
 refine au [10,1] ?_
 refine qf (fun ((_, _) : (Unit × Unit)) => ([(0, .int .i64 x1), (1, .slice a3 x2.length c4), (4, .pointer (some ⟨g5, 0, none⟩))], [⟨g5, 24, [.slice none 0 0]⟩], [], [Sl eS44 2 (.slice a3 x2.length c4) x2], qad F x1 x2)) ?_ ?_
 refine au [2,3,5,0,1,13] ?_
 refine qK (fun ((x2314, _) : (Int × Unit)) => ([(0, .int .i64 x1), (1, .slice a3 x2.length c4), (4, .pointer (some ⟨g5, 0, none⟩)), (6, .int .i64 x2314)], [⟨g5, 24, [.slice none 0 0]⟩], [], [Sl eS44 2 (.slice a3 x2.length c4) x2])) (fun k (s : (Int × Unit)) => kP F x1 x2 k s.1) (0, ()) F ?_
 intro k2419
 rintro ⟨x2314, _⟩
 try dsimp only
 refine q5 (m' := qac F x1 x2 (kP F x1 x2 k2419) x2314) rfl ?_
 refine av [2,2,3,4,4,24,1,24,2,0,1,9] ?_ ?_
 intro _
 refine au [10,1,2,13,2,2,3,4,4,27,9] ?_
 intro x2487 e2487 b2488 o2489
 refine au [23] ?_
 refine qcl (j := 0) (off := 0) rfl rfl inferInstance rfl rfl (fun _ => rfl) rfl rfl ?_
 refine au [4,26,9,28,0] ?_
 intro x2490 e2490 _
 refine au [25,8,4] ?_
 refine qy 10 (fun ((x2496, _) : (Bool × Unit)) => ([(0, .int .i64 x1), (1, .slice a3 x2.length c4), (4, .pointer (some ⟨g5, 0, none⟩)), (6, .int .i64 x2314), (43, .bool x2496)], [⟨g5, 24, [.slice none 0 0]⟩], [], [Sl eS44 2 (.slice a3 x2.length c4) x2], vM F (kP F x1 x2 k2419) x2 x2314 x2496)) ?_ ?_
 refine qb (os := _) rfl ?_
 refine av [24,10] ?_ ?_
 intro h2491
 refine qj (k := 33) rfl h2491 ?_
 refine au [6,6,6,6,6,6,6,6,6,17,0] ?_
 exact qa (true, ())
 intro h2491
 refine qi (k := 33) rfl h2491 ?_
 refine au [4,4] ?_
 refine vq (j := 1) ql (by decide) rfl UnF.u inferInstance rfl rfl rfl rfl ?_
 intro x2519 e2519 b2520 o2521
 refine au [23] ?_
 refine qcl (j := 0) (off := 1) rfl rfl inferInstance rfl rfl (fun _ => rfl) rfl rfl ?_
 refine au [4,26,9,28,0] ?_
 intro x2522 e2522 _
 refine au [25,8,18,0] ?_
 exact qa ((!x2522), ())
 rintro ⟨x2496, _⟩
 try dsimp only
 refine qb (os := _) rfl ?_
 refine av [0,1,9] ?_ ?_
 intro _
 refine au [2,3] ?_
 refine qh (cells := [.slice none 0 0]) rfl st24 rfl (by kernel_rfl) rfl ?_
 refine au [19,5,0,1,8,7,22,7,7,22,7,25,6] ?_
 exact qO (none, (0, ([] : List (Option Addr × Nat)))) (resL (rs := [.cell 4 24, .tmp 5]) rfl (.cell (i := 0) rfl tf24 rfl rfl (by simp) rfl (.tmp rfl ResOk.nil)) rfl) (fun h => by subst h; exact (.cons 0 rfl .nil))
 intro _
 refine au [10,1,2] ?_
 refine qgl 0 ql rfl ?_
 intro x2507 e2507 a2508 c2509 h2510 h2511
 refine va (j := 1) ql (by decide) rfl ?_
 intro x2512 e2512 b2513 o2514 h2515
 replace h2515 : a3 = some ⟨b2513, o2514, none⟩ := h2515
 refine q6 mixed [] [⟨g5, 24, [.slice none 0 0]⟩] [qk b2513 (o2514 + x2314.toNat * 2) (eS44 x2512), Sl eS44 2 (.slice a2508 x2507.length c2509) x2507, Sl eS44 2 (.slice a3 x2.length c4) x2] (.cons 0 rfl .nil) (q4 0 rfl (q4 1 rfl (q4 2 rfl qn))) 8 rfl ?_
 refine au [11,0,11,1] ?_
 refine qo 2 (.slice a2508 x2507.length c2509) rfl rfl rfl (qhV Tryz.underlying39 tf44 rfl rfl rfl e2507 h2511 h2510) ?_
 refine au [11,3,11,4] ?_
 refine qg (d := 48) (v := .slice (some ⟨b2513, o2514, none⟩) x2.length c4) rfl (by rw [h2515] <;> rfl) (qo 5 (.pointer (some ⟨b2513, (o2514 + x2314.toNat * 2), none⟩)) rfl rfl rfl (yc Tryz.underlying39 tf44 rfl rfl (qr e2512).1 (zZ e2512)) (qg (d := 48) (v := .slice a3 x2.length c4) rfl (by rw [h2515] <;> rfl) (q7 6 (.agg #[.int .i64 x2512.1, .int .i64 x2512.2]) [] rfl rfl rfl (zk (j := 0) rfl tf44 rfl rfl (by simp) rfl) ?_)))
 refine au [12,7,28,12] ?_
 intro x2516 e2516 _
 refine au [0] ?_
 refine qs (.cons 0 rfl .nil) (q4 0 rfl (q4 1 rfl (q4 2 rfl qn))) ?_
 refine au [24,5] ?_
 refine q9 ?_ (by intro c h; cases h)
 refine av [1,9] ?_ ?_
 intro _
 refine au [2,3] ?_
 refine qh (cells := [.slice none 0 0]) rfl st24 rfl (by kernel_rfl) rfl ?_
 refine au [19,5,0,1,8,22,7,7,22,7,25,6] ?_
 exact qO (none, (0, ([] : List (Option Addr × Nat)))) (resL (rs := [.cell 4 24, .tmp 5]) rfl (.cell (i := 0) rfl tf24 rfl rfl (by simp) rfl (.tmp rfl ResOk.nil)) rfl) (fun h => by subst h; exact (.cons 0 rfl .nil))
 intro _
 refine au [10,24,0,1,3,4,24,3,5,0] ?_
 exact qw (iadd .i64 x2314 1, ())
 intro _
 exact az [24,6,15,15,24,7,25,7]
 rintro ⟨_, _⟩
 try dsimp only
 refine au [2,3,4,29,9] ?_
 intro x324 e324 a325 c326
 refine qh (cells := [.slice a325 x324.length c326]) rfl st24 rfl (by kernel_rfl) rfl ?_
 refine au [14] ?_
 intro g327
 refine au [19,0,1] ?_
 refine qf (fun ((x1269, g1268) : (List (List Int) × List (Option Addr × Nat))) => ([(4, .pointer (some ⟨g5, 0, none⟩)), (7, .pointer (some ⟨g327, 0, none⟩))], [⟨g327, 24, [.slice a325 x1269.length c326]⟩, ⟨g5, 24, [.slice none 0 0]⟩], [RoN eN66 rN66 66 1 (.slice a325 x1269.length c326) x1269 g1268 []], [], qae F x1269)) ?_ ?_
 refine au [2,3,5,0,1,13] ?_
 refine qK (fun (((x1582, x1584), g1583) : ((Int × List (List Int)) × List (Option Addr × Nat))) => ([(0, .int .i64 x1), (1, .slice a3 x2.length c4), (4, .pointer (some ⟨g5, 0, none⟩)), (7, .pointer (some ⟨g327, 0, none⟩)), (8, .int .i64 x1582)], [⟨g327, 24, [.slice a325 x1584.length c326]⟩, ⟨g5, 24, [.slice none 0 0]⟩], [RoN eN66 rN66 66 1 (.slice a325 x1584.length c326) x1584 g1583 []], [Sl eS44 2 (.slice a3 x2.length c4) x2])) (fun k (s : ((Int × List (List Int)) × List (Option Addr × Nat))) => zr F x1 x2 k s.1) ((0, x324), (List.replicate x324.length ((none, 0) : Option Addr × Nat))) F ?_
 intro k1897
 rintro ⟨⟨x1582, x1584⟩, g1583⟩
 try dsimp only
 refine q5 (m' := qaa F x1 x2 (zr F x1 x2 k1897) x1582 x1584) rfl ?_
 refine av [2,2,3,4,4,24,2,0,1,9] ?_ ?_
 intro _
 refine au [10,1] ?_
 refine qf (fun ((x2054, g2053) : (List (List Int) × List (Option Addr × Nat))) => ([(0, .int .i64 x1), (1, .slice a3 x2.length c4), (4, .pointer (some ⟨g5, 0, none⟩)), (7, .pointer (some ⟨g327, 0, none⟩)), (8, .int .i64 x1582)], [⟨g327, 24, [.slice a325 x2054.length c326]⟩, ⟨g5, 24, [.slice none 0 0]⟩], [RoN eN66 rN66 66 1 (.slice a325 x2054.length c326) x2054 g2053 []], [Sl eS44 2 (.slice a3 x2.length c4) x2], qaf F (zr F x1 x2 k1897) x1582 x2054)) ?_ ?_
 refine au [13,2,3,5,0,1,13] ?_
 refine qK (fun (((x2105, x2107), g2106) : ((Int × List (List Int)) × List (Option Addr × Nat))) => ([(0, .int .i64 x1), (1, .slice a3 x2.length c4), (4, .pointer (some ⟨g5, 0, none⟩)), (7, .pointer (some ⟨g327, 0, none⟩)), (8, .int .i64 x1582), (9, .int .i64 x2105)], [⟨g327, 24, [.slice a325 x2107.length c326]⟩, ⟨g5, 24, [.slice none 0 0]⟩], [RoN eN66 rN66 66 1 (.slice a325 x2107.length c326) x2107 g2106 []], [Sl eS44 2 (.slice a3 x2.length c4) x2])) (fun k (s : ((Int × List (List Int)) × List (Option Addr × Nat))) => kO F (zr F x1 x2 k1897) x1 x2 x1582 k s.1) ((0, x1584), g1583) F ?_
 intro k2158
 rintro ⟨⟨x2105, x2107⟩, g2106⟩
 try dsimp only
 refine q5 (m' := qab F (zr F x1 x2 k1897) x1 x2 x1582 (kO F (zr F x1 x2 k1897) x1 x2 x1582 k2158) x2105 x2107) rfl ?_
 refine av [2,2,3,4,4,24,2,0,1,9] ?_ ?_
 intro _
 refine au [10,1] ?_
 refine qf (fun ((x2184, g2183) : (List (List Int) × List (Option Addr × Nat))) => ([(0, .int .i64 x1), (1, .slice a3 x2.length c4), (4, .pointer (some ⟨g5, 0, none⟩)), (7, .pointer (some ⟨g327, 0, none⟩)), (8, .int .i64 x1582), (9, .int .i64 x2105)], [⟨g327, 24, [.slice a325 x2184.length c326]⟩, ⟨g5, 24, [.slice none 0 0]⟩], [RoN eN66 rN66 66 1 (.slice a325 x2184.length c326) x2184 g2183 []], [Sl eS44 2 (.slice a3 x2.length c4) x2], vL F (kO F (zr F x1 x2 k1897) x1 x2 x1582 k2158) x2105 x2184)) ?_ ?_
 refine au [13,2,3,4,4,4] ?_
 refine qh (cells := [.int .i64 x1582, .int .i64 x2105]) rfl st44 rfl (by kernel_rfl) rfl ?_
 refine au [28,12] ?_
 intro x2185 e2185 _
 refine av [0,1,9] ?_ ?_
 intro _
 refine au [29,10] ?_
 intro x2186 e2186 g2187 h2188 g2189 h2190
 replace h2190 : a325 = some ⟨g2189, 0, none⟩ := h2190
 have h2191 := vp (k := x2107.length) (c := c326) h2190
 refine qcX (i := 0) rfl h2188 (List.not_mem_nil) ?_
 refine au [29,11] ?_
 intro x2192 e2192 g2193 h2194 g2195 h2196
 replace h2196 : a325 = some ⟨g2195, 0, none⟩ := h2196
 have h2197 := vp (k := x2107.length) (c := c326) h2196
 refine q6 mixed [12] [⟨g327, 24, [.slice a325 x2107.length c326]⟩, ⟨g5, 24, [.slice none 0 0]⟩] [Sl eS44 2 (.slice a3 x2.length c4) x2, qk g2189 (x1582.toNat * 1) (eN66 (x2186, g2187)), qk g2195 (x1582.toNat * 1) (eN66 (x2192, g2193))] (.cons 0 rfl (.cons 0 rfl .nil)) (q4 0 rfl (zt 1 rfl (yK zi h2188 h2190) (zt 1 rfl (yK zi h2194 h2196) qn))) 13 rfl ?_
 refine au [24,8,0,25,1,1,11,2,24,8,3,25,1,4,11,5] ?_
 refine qg (d := 76) (v := .slice (some ⟨g2189, 0, none⟩) x2107.length c326) rfl (by rw [h2190] <;> rfl) (qo 6 (.pointer (some ⟨g2189, x1582.toNat * 1, none⟩)) rfl rfl rfl (vy Tryz.underlying22 tf66 rfl rfl (qr e2186).1 (zZ e2186)) (qg (d := 76) (v := .slice a325 x2107.length c326) rfl (by rw [h2190] <;> rfl) (q7 7 (.slice g2187.1 x2186.length g2187.2) [[12]] rfl rfl rfl (zk (j := 1) rfl tf66 rfl rfl (fun _ => rfl) rfl) ?_)))
 refine au [11,8,12,9] ?_
 refine qE (vs := [.int .i64 x2105]) (ys := ([x2105] : List Int)) (ky .i64) (by decide) rfl Tryz.underlying66 tf3 rfl rfl rfl rfl rfl (by decide) (fun a2198 c2199 => ?_)
 refine au [0] ?_
 refine qs (.cons 0 rfl (.cons 0 rfl .nil)) (q4 0 rfl (zt 2 rfl (yK zi h2188 h2190) (zt 2 rfl (yK zi h2194 h2196) qn))) ?_
 refine au [12,10] ?_
 refine yv 1 (ky .i64) rfl Tryz.underlying66 tf3 rfl rfl rfl rfl rfl (.inl ⟨0, _, rfl⟩) rfl rfl (fun x2200 e2200 a2201 c2202 => ?_)
 refine au [0] ?_
 refine qs (.cons 0 rfl (.cons 0 rfl .nil)) (q4 0 rfl (zt 2 rfl (yK zi h2188 h2190) (zt 2 rfl (yK zi h2194 h2196) qn))) (qg (d := 73) (v := .slice (some ⟨g2195, 0, none⟩) x2107.length c326) rfl (by rw [h2196] <;> rfl) (qo 11 (.pointer (some ⟨g2195, x1582.toNat * 1, none⟩)) rfl rfl rfl (vy Tryz.underlying22 tf66 rfl rfl (qr e2192).1 (zZ e2192)) (qg (d := 73) (v := .slice a325 x2107.length c326) rfl (by rw [h2196] <;> rfl) ?_)))
 refine au [12,12] ?_
 refine qcm (j := 2) (kh := 0) (y' := x2200) (q' := (a2201, c2202)) zi rfl rfl rfl tf66 rfl (vp h2196) rfl (qr e2192).2.1 rfl (.cons 0 rfl .nil) (fun x2203 e2203 h2204 g2206 => ?_)
 have h2205 : x2203.length = x2107.length := by rw [← e2203, List.length_set]
 refine qc (d := 73) (v := .slice a325 x2203.length c326) rfl (by rw [h2204] <;> rfl) (qc (d := 76) (v := .slice a325 x2203.length c326) rfl (by rw [h2204] <;> rfl) (vZ (i := 0) (cs' := [.slice a325 x2203.length c326]) rfl (by rw [h2204] <;> rfl) ?_))
 refine au [0] ?_
 refine qco 12 rfl (by kernel_rfl) (.cons 0 (by rw [h2205]; rfl) (.cons 0 rfl .nil)) ?_
 refine au [24,5] ?_
 refine q9 ?_ (by intro c h; cases h)
 refine au [24,0] ?_
 exact qa (x2203, g2206)
 intro _
 refine au [10,24,0] ?_
 exact qa (x2107, g2106)
 rintro ⟨x2184, g2183⟩
 try dsimp only
 refine au [3,4,24,3,5,0] ?_
 exact qw ((iadd .i64 x2105 1, x2184), g2183)
 intro _
 refine au [24,6,15,15,24,7,24,0] ?_
 exact qa (x2107, g2106)
 rintro ⟨x2054, g2053⟩
 try dsimp only
 refine au [3,4,24,3,5,0] ?_
 exact qw ((iadd .i64 x1582 1, x2054), g2053)
 intro _
 refine au [24,6,15,15,24,7] ?_
 exact qa (x1584, g1583)
 rintro ⟨x1269, g1268⟩
 try dsimp only
 refine au [2,3,24,13,24,9,5,0,1,8] ?_
 exact qO (a325, (c326, g1268)) (resL (rs := [.cell 4 24, .tmp 5]) rfl (.cell (i := 1) rfl tf24 rfl rfl (by simp) rfl (.tmp rfl ResOk.nil)) rfl) (fun h => by subst h; exact (.cons 0 rfl .nil))
set_option maxHeartbeats 4000000 in
theorem qcv {F : Nat} {x1 : List Int} {r : (List (List Int) × Int × Int)} (hm : qaD F x1 = some r) :
    Pure Tryz.prog 12 [.string (bstr x1)] [] (Option Addr × (Nat × List (Option Addr × Nat))) (fun g => .tuple #[.agg #[.slice g.1 r.1.length g.2.1], .agg #[.int .i64 r.2.1, .int .i64 r.2.2]]) (fun g => [RoN eN66 rN66 66 1 (.slice g.1 r.1.length g.2.1) r.1 g.2.2 []]) (fun _ => []) := by
 refine qM Tryz.func12 rfl Tryz.ntmps12 rfl hm (fun w => ?_)
 refine au [24,12,2,3,14] ?_
 intro g2
 refine au [14] ?_
 intro g3
 refine au [0,1,2,3,5,0,1,2,3,5,0,1] ?_
 refine qf (fun (((x78, x79), (a76, c77)) : ((List (List Int) × Int) × (Option Addr × Nat))) => ([(0, .string (bstr x1)), (2, .pointer (some ⟨g2, 0, none⟩)), (3, .pointer (some ⟨g3, 0, none⟩)), (4, .slice a76 x78.length c77), (5, .int .i64 x79)], [⟨g3, 29, [.int .i64 0, .int .i64 0]⟩, ⟨g2, 24, [.slice none 0 0]⟩], [Ro eT 9 1 (.slice a76 x78.length c77) x78], [], jM F x1 x78 x79)) ?_ ?_
 refine au [2,3,5,0,1,13,28,6] ?_
 refine qK (fun (((x2688, x2689, x2690), (a2686, c2687)) : ((List (List Int) × Int × Int) × (Option Addr × Nat))) => ([(0, .string (bstr x1)), (2, .pointer (some ⟨g2, 0, none⟩)), (3, .pointer (some ⟨g3, 0, none⟩)), (4, .slice a2686 x2688.length c2687), (5, .int .i64 x2689), (6, .int .i64 x2690)], [⟨g3, 29, [.int .i64 0, .int .i64 0]⟩, ⟨g2, 24, [.slice none 0 0]⟩], [Ro eT 9 1 (.slice a2686 x2688.length c2687) x2688], [])) (fun k (s : ((List (List Int) × Int × Int) × (Option Addr × Nat))) => kg F x1 k s.1) ((([] : List (List Int)), 0, 0), (none, 0)) F ?_
 intro k2713
 rintro ⟨⟨x2688, x2689, x2690⟩, ⟨a2686, c2687⟩⟩
 try dsimp only
 refine q5 (m' := jg F x1 (kg F x1 k2713) x2688 x2689 x2690) rfl ?_
 refine au [2,2,3,4,4] ?_
 refine zw (a := x1) rfl Tryz.underlying9 rfl rfl ?_
 refine av [24,2,0,1,9] ?_ ?_
 intro _
 refine au [10,1] ?_
 refine qf (fun (((x2725, x2726), (a2723, c2724)) : ((List (List Int) × Int) × (Option Addr × Nat))) => ([(0, .string (bstr x1)), (2, .pointer (some ⟨g2, 0, none⟩)), (3, .pointer (some ⟨g3, 0, none⟩)), (4, .slice a2723 x2725.length c2724), (5, .int .i64 x2726), (6, .int .i64 x2690)], [⟨g3, 29, [.int .i64 0, .int .i64 0]⟩, ⟨g2, 24, [.slice none 0 0]⟩], [Ro eT 9 1 (.slice a2723 x2725.length c2724) x2725], [], yS F (kg F x1 k2713) x2690 x2725 x2726)) ?_ ?_
 refine au [13,2,3,4,4] ?_
 refine vd (xs := x1) rfl Tryz.underlying9 rfl rfl rfl (fun x2727 e2727 => ?_)
 refine av [24,11,0,1,9] ?_ ?_
 intro _
 refine au [2,3,4,4,4,4] ?_
 refine jU (xs := x1) rfl Tryz.underlying9 rfl rfl rfl rfl (fun x2728 e2728 => qE (vs := [.string (bstr x2728)]) (ys := ([x2728] : List (List Int))) zd (by decide) rfl Tryz.underlying57 tf9 rfl rfl rfl rfl rfl (by decide) (fun a2729 c2730 => yv 1 zd rfl Tryz.underlying57 tf9 rfl rfl rfl rfl rfl (.inl ⟨0, _, rfl⟩) rfl rfl (fun x2731 e2731 a2732 c2733 => ?_)))
 refine au [5,0,1,3,4,24,3,5,0,24,0] ?_
 exact qa ((x2731, iadd .i64 x2690 1), (a2732, c2733))
 intro _
 refine au [10,24,0] ?_
 exact qa ((x2688, x2689), (a2686, c2687))
 rintro ⟨⟨x2725, x2726⟩, ⟨a2723, c2724⟩⟩
 try dsimp only
 refine au [3,4,24,3,5,0] ?_
 exact qw ((x2725, x2726, iadd .i64 x2690 1), (a2723, c2724))
 intro _
 refine au [24,6,15,15,24,7] ?_
 exact qa ((x2688, x2689), (a2686, c2687))
 rintro ⟨⟨x78, x79⟩, ⟨a76, c77⟩⟩
 try dsimp only
 refine qf (fun ((x89, (a87, c88)) : (List (List Int) × (Option Addr × Nat))) => ([(0, .string (bstr x1)), (2, .pointer (some ⟨g2, 0, none⟩)), (3, .pointer (some ⟨g3, 0, none⟩)), (4, .slice a87 x89.length c88)], [⟨g3, 29, [.int .i64 0, .int .i64 0]⟩, ⟨g2, 24, [.slice none 0 0]⟩], [Ro eT 9 1 (.slice a87 x89.length c88) x89], [], vn F x1 x89)) ?_ ?_
 refine au [2,3,4,4] ?_
 refine zw (a := x1) rfl Tryz.underlying9 rfl rfl ?_
 refine av [24,2,0,1,9] ?_ ?_
 intro _
 refine au [3,4,4,4] ?_
 refine jU (xs := x1) rfl Tryz.underlying9 rfl rfl rfl rfl (fun x2657 e2657 => qE (vs := [.string (bstr x2657)]) (ys := ([x2657] : List (List Int))) zd (by decide) rfl Tryz.underlying57 tf9 rfl rfl rfl rfl rfl (by decide) (fun a2658 c2659 => yv 1 zd rfl Tryz.underlying57 tf9 rfl rfl rfl rfl rfl (.inl ⟨0, _, rfl⟩) rfl rfl (fun x2660 e2660 a2661 c2662 => ?_)))
 refine au [5,0] ?_
 exact qa (x2660, (a2661, c2662))
 intro _
 refine au [10] ?_
 exact qa (x78, (a76, c77))
 rintro ⟨x89, ⟨a87, c88⟩⟩
 try dsimp only
 refine au [2,2,3,4] ?_
 refine zw (a := x1) rfl Tryz.underlying9 rfl rfl ?_
 refine au [25,2,4] ?_
 refine qN 4 (decide (20000 < (x1.length : Int))) [(2, .pointer (some ⟨g2, 0, none⟩)), (3, .pointer (some ⟨g3, 0, none⟩)), (4, .slice a87 x89.length c88), (51, .bool ((decide (20000 < (x1.length : Int))) || (decide (1000 < (x89.length : Int)))))] (fun h92 => ?_) (fun h92 => ?_) ?_
 refine qb (os := _) rfl (qj (k := 47) rfl h92 ?_)
 refine au [6,6,6,17] ?_
 refine qc (d := 51) (v := .bool ((decide (20000 < (x1.length : Int))) || (decide (1000 < (x89.length : Int))))) rfl (by rw [h92]; simp only [Bool.true_or]) ?_
 exact az [0,20]
 refine qb (os := _) rfl (qi (k := 47) rfl h92 ?_)
 refine au [4,24,1,25,2,18] ?_
 refine qc (d := 51) (v := .bool ((decide (20000 < (x1.length : Int))) || (decide (1000 < (x89.length : Int))))) rfl (by rw [h92]; simp only [Bool.false_or]) ?_
 exact az [0,20]
 refine qb (os := _) rfl ?_
 refine av [0,1,9] ?_ ?_
 intro _
 refine au [2,3] ?_
 refine qh (cells := [.slice none 0 0]) rfl st24 rfl (by kernel_rfl) rfl (qh (cells := [.int .i64 0, .int .i64 2]) rfl st29 rfl (by kernel_rfl) rfl ?_)
 refine au [24,9,19,0,1,8,7,25,6] ?_
 exact qO (none, (0, ([] : List (Option Addr × Nat)))) (resL (rs := [.cell 2 24, .cell 3 29]) rfl (.cell (i := 1) rfl tf24 rfl rfl (by simp) rfl (.cell (i := 0) rfl tf29 rfl rfl (by simp) rfl ResOk.nil)) rfl) (fun h => by subst h; exact (.cons 0 rfl .nil))
 intro _
 refine au [10,1,2,3,5,0,1,2,3,5,0,1] ?_
 refine qf (fun (((x1370, x1373), (a1371, c1372)) : ((Int × List (Int × Int)) × (Option Addr × Nat))) => ([(2, .pointer (some ⟨g2, 0, none⟩)), (3, .pointer (some ⟨g3, 0, none⟩)), (7, .int .i64 x1370), (8, .slice a1371 x1373.length c1372)], [⟨g3, 29, [.int .i64 0, .int .i64 0]⟩, ⟨g2, 24, [.slice none 0 0]⟩], [Ro eS44 44 2 (.slice a1371 x1373.length c1372) x1373], [], ju F x1370 x1373)) ?_ ?_
 refine au [2,3,5,0,1,13,27,14] ?_
 refine qK (fun (((x1806, x1809, x1810), (a1807, c1808)) : ((Int × List (Int × Int) × Int) × (Option Addr × Nat))) => ([(2, .pointer (some ⟨g2, 0, none⟩)), (3, .pointer (some ⟨g3, 0, none⟩)), (4, .slice a87 x89.length c88), (7, .int .i64 x1806), (8, .slice a1807 x1809.length c1808), (9, .int .i64 x1810)], [⟨g3, 29, [.int .i64 0, .int .i64 0]⟩, ⟨g2, 24, [.slice none 0 0]⟩], [Ro eT 9 1 (.slice a87 x89.length c88) x89, Ro eS44 44 2 (.slice a1807 x1809.length c1808) x1809], [])) (fun k (s : ((Int × List (Int × Int) × Int) × (Option Addr × Nat))) => qC F x89 k s.1) ((-1, ([] : List (Int × Int)), 0), (none, 0)) F ?_
 intro k2233
 rintro ⟨⟨x1806, x1809, x1810⟩, ⟨a1807, c1808⟩⟩
 try dsimp only
 refine q5 (m' := jf F x89 (qC F x89 k2233) x1806 x1809 x1810) rfl ?_
 refine av [2,2,3,4,4,24,1,24,2,0,1,9] ?_ ?_
 intro _
 refine au [10,1] ?_
 refine qf (fun (((x2443, x2446), (a2444, c2445)) : ((Int × List (Int × Int)) × (Option Addr × Nat))) => ([(2, .pointer (some ⟨g2, 0, none⟩)), (3, .pointer (some ⟨g3, 0, none⟩)), (4, .slice a87 x89.length c88), (7, .int .i64 x2443), (8, .slice a2444 x2446.length c2445), (9, .int .i64 x1810)], [⟨g3, 29, [.int .i64 0, .int .i64 0]⟩, ⟨g2, 24, [.slice none 0 0]⟩], [Ro eT 9 1 (.slice a87 x89.length c88) x89, Ro eS44 44 2 (.slice a2444 x2446.length c2445) x2446], [], yN F (qC F x89 k2233) x1810 x2443 x2446)) ?_ ?_
 refine au [13,2,3,4,4,26,10] ?_
 intro x2447 e2447 g2448 h2449
 refine zV (j := 0) (y := x2447) zd rfl rfl tf9 rfl h2449 (qr e2447).2.2 (fun _ => rfl) rfl rfl (qB qcx ?_)
 rintro x2450 e2450 ⟨a2451, c2452⟩
 refine au [5,0,1,2,2,3,4,24,1,24,11,4] ?_
 refine qy 6 (fun ((x2469, _) : (Bool × Unit)) => ([(2, .pointer (some ⟨g2, 0, none⟩)), (3, .pointer (some ⟨g3, 0, none⟩)), (4, .slice a87 x89.length c88), (7, .int .i64 x1806), (8, .slice a1807 x1809.length c1808), (9, .int .i64 x1810), (10, .slice a2451 x2450.length c2452), (74, .bool x2469)], [⟨g3, 29, [.int .i64 0, .int .i64 0]⟩, ⟨g2, 24, [.slice none 0 0]⟩], [Ro eT 9 1 (.slice a87 x89.length c88) x89, Ro eS44 44 2 (.slice a1807 x1809.length c1808) x1809, Ro eT 9 1 (.slice a2451 x2450.length c2452) x2450], [], yO F (qC F x89 k2233) x1806 x1809 x1810 x2450 x2469)) ?_ ?_
 refine qb (os := _) rfl ?_
 refine av [24,10] ?_ ?_
 intro h2464
 refine qj (k := 68) rfl h2464 ?_
 refine au [6,6,6,6,6,17,0] ?_
 exact qa (true, ())
 intro h2464
 refine qi (k := 68) rfl h2464 ?_
 refine au [4,26,10] ?_
 intro x2651 e2651 g2652 h2653
 refine zV (j := 0) (y := x2651) zd rfl rfl tf9 rfl h2653 (qr e2651).2.2 (fun _ => rfl) rfl rfl (vd (xs := x2651) rfl Tryz.underlying9 rfl rfl rfl (fun x2654 e2654 => ?_))
 refine au [24,11,18,0] ?_
 exact qa ((((b8 x2654) : Int) == 35), ())
 rintro ⟨x2469, _⟩
 try dsimp only
 refine qb (os := _) rfl ?_
 refine av [0,1,9] ?_ ?_
 intro _
 refine au [24,6,15,24,7] ?_
 exact qa ((x1806, x1809), (a1807, c1808))
 intro _
 refine au [10,1,2,3,5,0,1] ?_
 refine qf (fun (((x2557, x2560, x2561), (a2558, c2559)) : ((Int × List (Int × Int) × Int) × (Option Addr × Nat))) => ([(2, .pointer (some ⟨g2, 0, none⟩)), (3, .pointer (some ⟨g3, 0, none⟩)), (4, .slice a87 x89.length c88), (7, .int .i64 x2557), (8, .slice a2558 x2560.length c2559), (9, .int .i64 x1810), (11, .int .i64 x2561)], [⟨g3, 29, [.int .i64 0, .int .i64 0]⟩, ⟨g2, 24, [.slice none 0 0]⟩], [Ro eT 9 1 (.slice a87 x89.length c88) x89, Ro eS44 44 2 (.slice a2558 x2560.length c2559) x2560], [], q8 F (qC F x89 k2233) x1810 x2557 x2560 x2561)) ?_ ?_
 refine av [2,3,4,24,2,0,1,9] ?_ ?_
 intro _
 refine au [2,3,4,24,1,25,3,4] ?_
 refine qy 6 (fun ((x2568, _) : (Bool × Unit)) => ([(2, .pointer (some ⟨g2, 0, none⟩)), (3, .pointer (some ⟨g3, 0, none⟩)), (4, .slice a87 x89.length c88), (7, .int .i64 x1806), (8, .slice a1807 x1809.length c1808), (9, .int .i64 x1810), (10, .slice a2451 x2450.length c2452), (11, .int .i64 0), (86, .bool x2568)], [⟨g3, 29, [.int .i64 0, .int .i64 0]⟩, ⟨g2, 24, [.slice none 0 0]⟩], [Ro eT 9 1 (.slice a87 x89.length c88) x89, Ro eS44 44 2 (.slice a1807 x1809.length c1808) x1809, Ro eT 9 1 (.slice a2451 x2450.length c2452) x2450], [], yP F (qC F x89 k2233) x1806 x1809 x1810 x2450 x2568)) ?_ ?_
 refine qb (os := _) rfl ?_
 refine av [24,10] ?_ ?_
 intro h2563
 refine qj (k := 80) rfl h2563 ?_
 refine au [6,6,6,6,6,17,0] ?_
 exact qa (true, ())
 intro h2563
 refine qi (k := 80) rfl h2563 ?_
 refine au [4,27,0] ?_
 intro x2579 e2579 g2580 h2581
 refine zV (j := 2) (y := x2579) zd rfl rfl tf9 rfl h2581 (qr e2579).2.2 (fun _ => rfl) rfl rfl ?_
 refine au [25,14] ?_
 intro x2582 e2582 _
 refine au [24,2,18,0] ?_
 exact qa ((decide (x2582 < 0)), ())
 rintro ⟨x2568, _⟩
 try dsimp only
 refine qb (os := _) rfl ?_
 refine av [0,1,9] ?_ ?_
 intro _
 refine au [3,5,0] ?_
 exact qa ((x1806, x1809, (1 : Int)), (a1807, c1808))
 intro _
 refine au [2,3,4,27,0] ?_
 intro x2569 e2569 g2570 h2571
 refine zV (j := 2) (y := x2569) zd rfl rfl tf9 rfl h2571 (qr e2569).2.2 (fun _ => rfl) rfl rfl ?_
 refine au [25,14] ?_
 intro x2572 e2572 _
 refine av [25,2,0,1,9] ?_ ?_
 intro _
 refine au [3,5,0] ?_
 exact qa ((x1806, x1809, (3 : Int)), (a1807, c1808))
 intro _
 refine au [3,4,27,0] ?_
 intro x2573 e2573 g2574 h2575
 refine zV (j := 2) (y := x2573) zd rfl rfl tf9 rfl h2575 (qr e2573).2.2 (fun _ => rfl) rfl rfl ?_
 refine au [25,14] ?_
 intro x2576 e2576 _
 refine au [5,0] ?_
 exact qa ((x2576, x1809, (0 : Int)), (a1807, c1808))
 intro _
 refine au [2,3,4,24,1,25,3,4] ?_
 refine qy 6 (fun ((x2588, _) : (Bool × Unit)) => ([(2, .pointer (some ⟨g2, 0, none⟩)), (3, .pointer (some ⟨g3, 0, none⟩)), (4, .slice a87 x89.length c88), (7, .int .i64 x1806), (8, .slice a1807 x1809.length c1808), (9, .int .i64 x1810), (10, .slice a2451 x2450.length c2452), (11, .int .i64 0), (105, .bool x2588)], [⟨g3, 29, [.int .i64 0, .int .i64 0]⟩, ⟨g2, 24, [.slice none 0 0]⟩], [Ro eT 9 1 (.slice a87 x89.length c88) x89, Ro eS44 44 2 (.slice a1807 x1809.length c1808) x1809, Ro eT 9 1 (.slice a2451 x2450.length c2452) x2450], [], yQ F (qC F x89 k2233) x1806 x1809 x1810 x2450 x2588)) ?_ ?_
 refine qb (os := _) rfl ?_
 refine av [24,10] ?_ ?_
 intro h2583
 refine qj (k := 99) rfl h2583 ?_
 refine au [6,6,6,6,6,17,0] ?_
 exact qa (true, ())
 intro h2583
 refine qi (k := 99) rfl h2583 ?_
 refine au [4,27,0] ?_
 intro x2645 e2645 g2646 h2647
 refine zV (j := 2) (y := x2645) zd rfl rfl tf9 rfl h2647 (qr e2645).2.2 (fun _ => rfl) rfl rfl ?_
 refine au [25,14] ?_
 intro x2648 e2648 _
 refine au [24,2,18,0] ?_
 exact qa ((decide (x2648 < 0)), ())
 rintro ⟨x2588, _⟩
 try dsimp only
 refine qb (os := _) rfl ?_
 refine au [4] ?_
 refine qy 6 (fun ((x2594, _) : (Bool × Unit)) => ([(2, .pointer (some ⟨g2, 0, none⟩)), (3, .pointer (some ⟨g3, 0, none⟩)), (4, .slice a87 x89.length c88), (7, .int .i64 x1806), (8, .slice a1807 x1809.length c1808), (9, .int .i64 x1810), (10, .slice a2451 x2450.length c2452), (11, .int .i64 0), (112, .bool x2594)], [⟨g3, 29, [.int .i64 0, .int .i64 0]⟩, ⟨g2, 24, [.slice none 0 0]⟩], [Ro eT 9 1 (.slice a87 x89.length c88) x89, Ro eS44 44 2 (.slice a1807 x1809.length c1808) x1809, Ro eT 9 1 (.slice a2451 x2450.length c2452) x2450], [], yR F (qC F x89 k2233) x1806 x1809 x1810 x2450 x2594)) ?_ ?_
 refine qb (os := _) rfl ?_
 refine av [24,10] ?_ ?_
 intro h2589
 refine qj (k := 106) rfl h2589 ?_
 refine au [6,6,6,6,6,17,0] ?_
 exact qa (true, ())
 intro h2589
 refine qi (k := 106) rfl h2589 ?_
 refine au [4,27,0] ?_
 intro x2641 e2641 g2642 h2643
 refine zV (j := 2) (y := x2641) zd rfl rfl tf9 rfl h2643 (qr e2641).2.2 (fun _ => rfl) rfl rfl ?_
 refine au [25,14] ?_
 intro x2644 e2644 _
 refine au [24,2,18,0] ?_
 exact qa ((decide (x2644 < 0)), ())
 rintro ⟨x2594, _⟩
 try dsimp only
 refine qb (os := _) rfl ?_
 refine av [0,1,9] ?_ ?_
 intro _
 refine au [3,5,0] ?_
 exact qa ((x1806, x1809, (1 : Int)), (a1807, c1808))
 intro _
 refine qf (fun (((x2612, x2613), g2611) : ((Int × Int) × Nat)) => ([(2, .pointer (some ⟨g2, 0, none⟩)), (3, .pointer (some ⟨g3, 0, none⟩)), (4, .slice a87 x89.length c88), (7, .int .i64 x1806), (8, .slice a1807 x1809.length c1808), (9, .int .i64 x1810), (11, .int .i64 0), (12, .pointer (some ⟨g2611, 0, none⟩))], [⟨g3, 29, [.int .i64 0, .int .i64 0]⟩, ⟨g2, 24, [.slice none 0 0]⟩, ⟨g2611, 44, [.int .i64 x2612, .int .i64 x2613]⟩], [Ro eT 9 1 (.slice a87 x89.length c88) x89, Ro eS44 44 2 (.slice a1807 x1809.length c1808) x1809], [], kI F (qC F x89 k2233) x1806 x1809 x1810 x2612 x2613)) ?_ ?_
 refine au [30,7] ?_
 intro x2624 e2624 g2625 h2626
 replace h2626 : a2451 = some ⟨g2625, 0, none⟩ := h2626
 have h2627 := vp (k := x2450.length) (c := c2452) h2626
 refine au [30,7] ?_
 intro x2628 e2628 g2629 h2630
 replace h2630 : a2451 = some ⟨g2629, 0, none⟩ := h2630
 have h2631 := vp (k := x2450.length) (c := c2452) h2630
 refine q6 mixed [] [⟨g3, 29, [.int .i64 0, .int .i64 0]⟩, ⟨g2, 24, [.slice none 0 0]⟩] [qk g2625 ((0 : Int).toNat * 1) (eT x2624), qk g2629 ((1 : Int).toNat * 1) (eT x2628)] (.cons 0 rfl (.cons 0 rfl .nil)) (zt 2 rfl (qF zd e2624 h2626) (zt 2 rfl (qF zd e2628 h2630) qn)) 11 rfl ?_
 refine au [11,0] ?_
 refine qg (d := 113) (v := .slice (some ⟨g2625, 0, none⟩) x2450.length c2452) rfl (by rw [h2626] <;> rfl) (qo 1 (.pointer (some ⟨g2625, (0 : Int).toNat * 1, none⟩)) rfl rfl rfl (vy Tryz.underlying57 tf9 rfl rfl (qr e2624).1 (zZ e2624)) (qg (d := 113) (v := .slice a2451 x2450.length c2452) rfl (by rw [h2626] <;> rfl) (q7 2 (.string (bstr x2624)) [] rfl rfl rfl (zk (j := 0) rfl tf9 rfl rfl (fun _ => rfl) rfl) ?_)))
 refine au [11,4] ?_
 refine qg (d := 117) (v := .slice (some ⟨g2629, 0, none⟩) x2450.length c2452) rfl (by rw [h2630] <;> rfl) (qo 5 (.pointer (some ⟨g2629, (1 : Int).toNat * 1, none⟩)) rfl rfl rfl (vy Tryz.underlying57 tf9 rfl rfl (qr e2628).1 (zZ e2628)) (qg (d := 117) (v := .slice a2451 x2450.length c2452) rfl (by rw [h2630] <;> rfl) (q7 6 (.string (bstr x2628)) [] rfl rfl rfl (zk (j := 1) rfl tf9 rfl rfl (fun _ => rfl) rfl) (yL 3 9 rfl rfl (by kernel_rfl) rfl rfl ?_ ?_))))
 refine au [25,14] ?_
 intro x2632 e2632 _
 refine au [0] ?_
 refine qs (.cons 0 rfl (.cons 0 rfl .nil)) (zt 2 rfl (qF zd e2624 h2626) (zt 2 rfl (qF zd e2628 h2630) qn)) (yL 7 9 rfl rfl (by kernel_rfl) rfl rfl ?_ ?_)
 refine au [25,14] ?_
 intro x2633 e2633 _
 refine au [0] ?_
 refine qs (.cons 0 rfl (.cons 0 rfl .nil)) (zt 2 rfl (qF zd e2624 h2626) (zt 2 rfl (qF zd e2628 h2630) qn)) (qo 8 (.agg #[.int .i64 x2632, .int .i64 x2633]) rfl rfl rfl (jp (cells := [.int .i64 x2632, .int .i64 x2633]) st44 rfl (by kernel_rfl)) ?_)
 refine au [12,9,14] ?_
 intro g2634
 refine au [0] ?_
 refine qs (.cons 1 rfl (.cons 1 rfl .nil)) (zt 2 rfl (qF zd e2624 h2626) (zt 2 rfl (qF zd e2628 h2630) qn)) ?_
 refine au [12,10,19,0] ?_
 refine qs (.cons 1 rfl (.cons 1 rfl .nil)) (zt 2 rfl (qF zd e2624 h2626) (zt 2 rfl (qF zd e2628 h2630) qn)) ?_
 refine au [24,5] ?_
 exact q9 (qa ((x2632, x2633), g2634)) (by intro c h; cases h)
 refine yM (m' := ((ze F x2628).bind fun x2636 => kI F (qC F x89 k2233) x1806 x1809 x1810 x2632 x2636)) (rfl) ?_
 refine au [14] ?_
 intro g2635
 refine au [0] ?_
 refine qs (.cons 1 rfl (.cons 1 rfl .nil)) (zt 2 rfl (qF zd e2624 h2626) (zt 2 rfl (qF zd e2628 h2630) qn)) ?_
 refine au [12,7,25,14] ?_
 intro x2636 e2636 _
 refine au [0] ?_
 refine qs (.cons 1 rfl (.cons 1 rfl .nil)) (zt 2 rfl (qF zd e2624 h2626) (zt 2 rfl (qF zd e2628 h2630) qn)) (qo 8 (.agg #[.int .i64 x2632, .int .i64 x2636]) rfl rfl rfl (jp (cells := [.int .i64 x2632, .int .i64 x2636]) st44 rfl (by kernel_rfl)) ?_)
 refine au [12,10,19,0] ?_
 refine qs (.cons 1 rfl (.cons 1 rfl .nil)) (zt 2 rfl (qF zd e2624 h2626) (zt 2 rfl (qF zd e2628 h2630) qn)) ?_
 refine au [24,5] ?_
 exact q9 (qa ((x2632, x2636), g2635)) (by intro c h; cases h)
 refine yM (m' := ((ze F x2624).bind fun x2638 => ((ze F x2628).bind fun x2639 => kI F (qC F x89 k2233) x1806 x1809 x1810 x2638 x2639))) (rfl) ?_
 refine au [14] ?_
 intro g2637
 refine au [0] ?_
 refine qs (.cons 1 rfl (.cons 1 rfl .nil)) (zt 2 rfl (qF zd e2624 h2626) (zt 2 rfl (qF zd e2628 h2630) qn)) ?_
 refine au [12,3,25,14] ?_
 intro x2638 e2638 _
 refine au [0] ?_
 refine qs (.cons 1 rfl (.cons 1 rfl .nil)) (zt 2 rfl (qF zd e2624 h2626) (zt 2 rfl (qF zd e2628 h2630) qn)) ?_
 refine au [12,7,25,14] ?_
 intro x2639 e2639 _
 refine au [0] ?_
 refine qs (.cons 1 rfl (.cons 1 rfl .nil)) (zt 2 rfl (qF zd e2624 h2626) (zt 2 rfl (qF zd e2628 h2630) qn)) (qo 8 (.agg #[.int .i64 x2638, .int .i64 x2639]) rfl rfl rfl (jp (cells := [.int .i64 x2638, .int .i64 x2639]) st44 rfl (by kernel_rfl)) ?_)
 refine au [12,10,19,0] ?_
 refine qs (.cons 1 rfl (.cons 1 rfl .nil)) (zt 2 rfl (qF zd e2624 h2626) (zt 2 rfl (qF zd e2628 h2630) qn)) ?_
 refine au [24,5] ?_
 exact q9 (qa ((x2638, x2639), g2637)) (by intro c h; cases h)
 rintro ⟨⟨x2612, x2613⟩, g2611⟩
 try dsimp only
 refine au [2,3,23,25,12,4,26,4,4] ?_
 refine qN 5 (decide (x1806 ≤ x2612)) [(2, .pointer (some ⟨g2, 0, none⟩)), (3, .pointer (some ⟨g3, 0, none⟩)), (4, .slice a87 x89.length c88), (7, .int .i64 x1806), (8, .slice a1807 x1809.length c1808), (9, .int .i64 x1810), (11, .int .i64 0), (12, .pointer (some ⟨g2611, 0, none⟩)), (131, .bool ((decide (x1806 ≤ x2612)) || (decide (x1806 ≤ x2613))))] (fun h2614 => ?_) (fun h2614 => ?_) ?_
 refine qb (os := _) rfl (qj (k := 126) rfl h2614 ?_)
 refine au [6,6,6,6,17] ?_
 refine qc (d := 131) (v := .bool ((decide (x1806 ≤ x2612)) || (decide (x1806 ≤ x2613)))) rfl (by rw [h2614]; simp only [Bool.true_or]) ?_
 exact az [0,20]
 refine qb (os := _) rfl (qi (k := 126) rfl h2614 ?_)
 refine au [23,25,12,4,26,4,18] ?_
 refine qc (d := 131) (v := .bool ((decide (x1806 ≤ x2612)) || (decide (x1806 ≤ x2613)))) rfl (by rw [h2614]; simp only [Bool.false_or]) ?_
 exact az [0,20]
 refine qb (os := _) rfl ?_
 refine av [0,1,9] ?_ ?_
 intro _
 refine au [3,5,0] ?_
 exact qa ((x1806, x1809, (3 : Int)), (a1807, c1808))
 intro _
 refine au [2,3,4,25,13,28,12] ?_
 intro x2615 e2615 _
 refine av [0,1,9] ?_ ?_
 intro _
 refine au [3,5,0] ?_
 exact qa ((x1806, x1809, (6 : Int)), (a1807, c1808))
 intro _
 refine av [2,3,4,24,1,24,11,0,1,9] ?_ ?_
 intro _
 refine au [3,5,0] ?_
 exact qa ((x1806, x1809, (2 : Int)), (a1807, c1808))
 intro _
 refine au [3,4,25,13] ?_
 refine qE (vs := [.agg #[.int .i64 x2612, .int .i64 x2613]]) (ys := ([(x2612, x2613)] : List (Int × Int))) ql (by decide) rfl Tryz.underlying39 tf44 rfl rfl rfl rfl rfl (by decide) (fun a2616 c2617 => yv 2 ql rfl Tryz.underlying39 tf44 rfl rfl rfl rfl rfl (.inl ⟨0, _, rfl⟩) rfl rfl (fun x2618 e2618 a2619 c2620 => ?_))
 refine au [5,0] ?_
 exact qa ((x1806, x2618, (0 : Int)), (a2619, c2620))
 rintro ⟨⟨x2557, x2560, x2561⟩, ⟨a2558, c2559⟩⟩
 try dsimp only
 refine av [2,3,4,25,3,0,1,9] ?_ ?_
 intro _
 refine au [2,3] ?_
 refine qh (cells := [.slice none 0 0]) rfl st24 rfl (by kernel_rfl) rfl ?_
 refine au [4,24,3,4] ?_
 refine qh (cells := [.int .i64 (iadd .i64 x1810 1), .int .i64 x2561]) rfl st29 rfl (by kernel_rfl) rfl ?_
 refine au [24,9,19,0,1,8,22,7,7,22,7,25,6] ?_
 exact qO (none, (0, ([] : List (Option Addr × Nat)))) (resL (rs := [.cell 2 24, .cell 3 29]) rfl (.cell (i := 1) rfl tf24 rfl rfl (by simp) rfl (.cell (i := 0) rfl tf29 rfl rfl (by simp) rfl ResOk.nil)) rfl) (fun h => by subst h; exact (.cons 0 rfl .nil))
 intro _
 refine au [10,24,0] ?_
 exact qa ((x2557, x2560), (a2558, c2559))
 rintro ⟨⟨x2443, x2446⟩, ⟨a2444, c2445⟩⟩
 try dsimp only
 refine au [3,4,24,3,5,0] ?_
 exact qw ((x2443, x2446, iadd .i64 x1810 1), (a2444, c2445))
 intro _
 refine au [24,6,15,15,24,7] ?_
 exact qa ((x1806, x1809), (a1807, c1808))
 rintro ⟨⟨x1370, x1373⟩, ⟨a1371, c1372⟩⟩
 try dsimp only
 refine av [2,2,3,4,24,2,0,1,9] ?_ ?_
 intro _
 refine au [2,3] ?_
 refine qh (cells := [.slice none 0 0]) rfl st24 rfl (by kernel_rfl) rfl (qh (cells := [.int .i64 0, .int .i64 5]) rfl st29 rfl (by kernel_rfl) rfl ?_)
 refine au [24,9,19,0,1,8,7,25,6] ?_
 exact qO (none, (0, ([] : List (Option Addr × Nat)))) (resL (rs := [.cell 2 24, .cell 3 29]) rfl (.cell (i := 1) rfl tf24 rfl rfl (by simp) rfl (.cell (i := 0) rfl tf29 rfl rfl (by simp) rfl ResOk.nil)) rfl) (fun h => by subst h; exact (.cons 0 rfl .nil))
 intro _
 refine au [10,1,2,3,4,4] ?_
 refine qB qdN ?_
 rintro x1375 e1375 ⟨a1376, c1377⟩
 refine au [4,21,21,14] ?_
 intro g1378
 refine au [19,5,0,1,2,3,24,13] ?_
 refine qh (cells := [.int .i64 0, .int .i64 0]) rfl st29 rfl (by kernel_rfl) rfl ?_
 refine au [26,14,24,9,0,1,8] ?_
 exact qO (a1376, c1377) (resL (rs := [.cell 2 24, .cell 3 29]) rfl (.cell (i := 2) rfl tf24 rfl rfl (by simp) rfl (.cell (i := 1) rfl tf29 rfl rfl (by simp) rfl ResOk.nil)) rfl) (fun h => by subst h; exact (.cons 0 rfl .nil))
set_option maxHeartbeats 4000000 in
theorem qc8 {F : Nat} {x1 : List Int} {a2 : Option Addr} {c3 : Nat} {x4 : List Int} {a5 : Option Addr} {c6 : Nat} {r : Bool} (hm : yg F x1 x4 = some r) :
    Pure Tryz.prog 39 [.slice a2 x1.length c3, .slice a5 x4.length c6] [Sl (eI .i64) 1 (.slice a2 x1.length c3) x1, Sl (eI .i64) 1 (.slice a5 x4.length c6) x4] Unit (fun _ => .bool r) (fun _ => []) (fun _ => []) := by
 refine qM Tryz.func39 rfl Tryz.ntmps39 rfl hm (fun w => ?_)
 refine av [24,15,2,3,5,0,1,2,2,3,4,24,1,4,24,1,25,3,0,1,9] ?_ ?_
 intro _
 exact az [2,3,5,0,1,8,7,16]
 intro _
 refine au [10,1] ?_
 refine qf (fun ((_, _) : (Unit × Unit)) => ([], [], [], [], qah F)) ?_ ?_
 refine au [2,3,5,0,1,13] ?_
 refine qK (fun ((x154, _) : (Int × Unit)) => ([(0, .slice a2 x1.length c3), (1, .slice a5 x4.length c6), (5, .int .i64 x154)], [], [], [Sl (eI .i64) 1 (.slice a2 x1.length c3) x1, Sl (eI .i64) 1 (.slice a5 x4.length c6) x4])) (fun k (s : (Int × Unit)) => kr F x1 x4 k s.1) (0, ()) F ?_
 intro k191
 rintro ⟨x154, _⟩
 try dsimp only
 refine q5 (m' := yE F x1 x4 (kr F x1 x4 k191) x154) rfl ?_
 refine av [2,2,3,4,4,24,1,24,2,0,1,9] ?_ ?_
 intro _
 refine au [10,1,2,13,2] ?_
 refine va (j := 0) (ky .i64) (by decide) rfl ?_
 intro x218 e218 b219 o220 h221
 replace h221 : a2 = some ⟨b219, o220, none⟩ := h221
 refine va (j := 2) (ky .i64) (by decide) rfl ?_
 intro x222 e222 b223 o224 h225
 replace h225 : a5 = some ⟨b223, o224, none⟩ := h225
 refine q6 mixed [] [] [qk b223 (o224 + x154.toNat * 1) ((eI .i64) x222), qk b219 (o220 + x154.toNat * 1) ((eI .i64) x218), Sl (eI .i64) 1 (.slice a2 x1.length c3) x1, Sl (eI .i64) 1 (.slice a5 x4.length c6) x4] .nil (q4 0 rfl (q4 1 rfl (q4 2 rfl (q4 3 rfl qn)))) 9 rfl ?_
 refine au [11,0,11,1] ?_
 refine qg (d := 17) (v := .slice (some ⟨b219, o220, none⟩) x1.length c3) rfl (by rw [h221] <;> rfl) (qo 2 (.pointer (some ⟨b219, (o220 + x154.toNat * 1), none⟩)) rfl rfl rfl (yc Tryz.underlying66 tf3 rfl rfl (qr e218).1 (zZ e218)) (qg (d := 17) (v := .slice a2 x1.length c3) rfl (by rw [h221] <;> rfl) (q7 3 (.int .i64 x218) [] rfl rfl rfl (zk (j := 1) rfl tf3 rfl rfl (fun _ => rfl) rfl) ?_)))
 refine au [11,4,11,5] ?_
 refine qg (d := 21) (v := .slice (some ⟨b223, o224, none⟩) x4.length c6) rfl (by rw [h225] <;> rfl) (qo 6 (.pointer (some ⟨b223, (o224 + x154.toNat * 1), none⟩)) rfl rfl rfl (yc Tryz.underlying66 tf3 rfl rfl (qr e222).1 (zZ e222)) (qg (d := 21) (v := .slice a5 x4.length c6) rfl (by rw [h225] <;> rfl) (q7 7 (.int .i64 x222) [] rfl rfl rfl (zk (j := 0) rfl tf3 rfl rfl (fun _ => rfl) rfl) ?_)))
 refine au [11,8,24,5] ?_
 refine q9 ?_ (by intro c h; cases h)
 refine av [1,9] ?_ ?_
 intro _
 exact az [2,3,5,0,1,8,22,7,7,22,7,16]
 intro _
 refine au [10,24,0,1,3,4,24,3,5,0] ?_
 exact qw (iadd .i64 x154 1, ())
 intro _
 exact az [24,6,15,15,24,7,25,7]
 rintro ⟨_, _⟩
 try dsimp only
 exact az [2,3,5,0,1,8,16]
set_option maxHeartbeats 4000000 in
theorem qcu {F : Nat} {x1 : List (List Int)} {a2 : Option Addr} {c3 : Nat} {s3 : List (Option Addr × Nat)} {x4 : List (List Int)} {a5 : Option Addr} {c6 : Nat} {s6 : List (Option Addr × Nat)} {r : Bool} (hm : zM F x1 x4 = some r) :
    Pure Tryz.prog 33 [.slice a2 x1.length c3, .slice a5 x4.length c6] [SlN eN66 iN66 1 (.slice a2 x1.length c3) x1 s3, SlN eN66 iN66 1 (.slice a5 x4.length c6) x4 s6] Unit (fun _ => .bool r) (fun _ => []) (fun _ => []) := by
 refine qM Tryz.func33 rfl Tryz.ntmps33 rfl hm (fun w => ?_)
 refine av [24,15,2,3,5,0,1,2,2,3,4,24,1,4,24,1,25,3,0,1,9] ?_ ?_
 intro _
 exact az [2,3,5,0,1,8,7,16]
 intro _
 refine au [10,1] ?_
 refine qf (fun ((_, _) : (Unit × Unit)) => ([], [], [], [], jL F)) ?_ ?_
 refine au [2,3,5,0,1,13] ?_
 refine qK (fun ((x202, _) : (Int × Unit)) => ([(0, .slice a2 x1.length c3), (1, .slice a5 x4.length c6), (5, .int .i64 x202)], [], [], [SlN eN66 iN66 1 (.slice a2 x1.length c3) x1 s3, SlN eN66 iN66 1 (.slice a5 x4.length c6) x4 s6])) (fun k (s : (Int × Unit)) => kb F x1 x4 k s.1) (0, ()) F ?_
 intro k251
 rintro ⟨x202, _⟩
 try dsimp only
 refine q5 (m' := yh F x1 x4 (kb F x1 x4 k251) x202) rfl ?_
 refine av [2,2,3,4,4,24,1,24,2,0,1,9] ?_ ?_
 intro _
 refine au [10,1,2,13,2] ?_
 refine qbc (j := 0) zi (by decide) rfl ?_
 intro x287 e287 g291 b288 o289 h290
 replace h290 : a2 = some ⟨b288, o289, none⟩ := h290
 refine qbc (j := 3) zi (by decide) rfl ?_
 intro x292 e292 g296 b293 o294 h295
 replace h295 : a5 = some ⟨b293, o294, none⟩ := h295
 refine q6 mixed [] [] [qk b293 (o294 + x202.toNat * 1) (eN66 (x292, g296)), Sl (eI .i64) 1 (.slice g296.1 x292.length g296.2) x292, qk b288 (o289 + x202.toNat * 1) (eN66 (x287, g291)), Sl (eI .i64) 1 (.slice g291.1 x287.length g291.2) x287, SlN eN66 iN66 1 (.slice a2 x1.length c3) x1 s3, SlN eN66 iN66 1 (.slice a5 x4.length c6) x4 s6] .nil (q4 0 rfl (q4 1 rfl (q4 2 rfl (q4 3 rfl (q4 4 rfl (q4 5 rfl qn)))))) 10 rfl ?_
 refine au [11,0,11,1] ?_
 refine qg (d := 17) (v := .slice (some ⟨b288, o289, none⟩) x1.length c3) rfl (by rw [h290] <;> rfl) (qo 2 (.pointer (some ⟨b288, (o289 + x202.toNat * 1), none⟩)) rfl rfl rfl (yc Tryz.underlying22 tf66 rfl rfl (qr e287).1 (zZ e287)) (qg (d := 17) (v := .slice a2 x1.length c3) rfl (by rw [h290] <;> rfl) (q7 3 (.slice g291.1 x287.length g291.2) [] rfl rfl rfl (zk (j := 2) rfl tf66 rfl rfl (fun _ => rfl) rfl) ?_)))
 refine au [11,4,11,5] ?_
 refine qg (d := 21) (v := .slice (some ⟨b293, o294, none⟩) x4.length c6) rfl (by rw [h295] <;> rfl) (qo 6 (.pointer (some ⟨b293, (o294 + x202.toNat * 1), none⟩)) rfl rfl rfl (yc Tryz.underlying22 tf66 rfl rfl (qr e292).1 (zZ e292)) (qg (d := 21) (v := .slice a5 x4.length c6) rfl (by rw [h295] <;> rfl) (q7 7 (.slice g296.1 x292.length g296.2) [] rfl rfl rfl (zk (j := 0) rfl tf66 rfl rfl (fun _ => rfl) rfl) ?_)))
 refine au [12,8,28,13] ?_
 intro x297 e297 _
 refine au [0] ?_
 refine qs .nil (q4 0 rfl (q4 1 rfl (q4 2 rfl (q4 3 rfl (q4 4 rfl (q4 5 rfl qn)))))) ?_
 refine au [11,9,24,5] ?_
 refine q9 ?_ (by intro c h; cases h)
 refine av [1,9] ?_ ?_
 intro _
 exact az [2,3,5,0,1,8,22,7,7,22,7,16]
 intro _
 refine au [10,24,0,1,3,4,24,3,5,0] ?_
 exact qw (iadd .i64 x202 1, ())
 intro _
 exact az [24,6,15,15,24,7,25,7]
 rintro ⟨_, _⟩
 try dsimp only
 exact az [2,3,5,0,1,8,16]
set_option maxHeartbeats 4000000 in
theorem qcr (F : Nat)  (r : Bool) (hm : z6 F  = some r) :
    Pure Tryz.prog 13 [] [GF] Unit (fun _ => .bool r) (fun _ => []) (fun _ => []) := by
 refine qM Tryz.func13 rfl Tryz.ntmps13 rfl hm (fun w => ?_)
 refine au [30,8,2,3,5,0,1,2,3,25,10] ?_
 rintro x1 e1 ⟨a2, c3⟩
 refine au [4,21,21,14] ?_
 intro g4
 refine au [14] ?_
 intro g5
 refine au [24,9,19,0,1,2,3,25,5,28,2] ?_
 intro x6 e6 _
 refine au [4,21,21,5,5,0,1,2,3,25,10] ?_
 rintro x7 e7 ⟨a8, c9⟩
 refine au [4,21,21,14] ?_
 intro g10
 refine au [14] ?_
 intro g11
 refine au [24,9,19,0,1,2,3,25,10] ?_
 rintro x12 e12 ⟨a13, c14⟩
 refine au [4,21,21,14] ?_
 intro g15
 refine au [14] ?_
 intro g16
 refine au [24,9,19,0,1,2,3,25,10] ?_
 rintro x17 e17 ⟨a18, c19⟩
 refine au [4,21,21,14] ?_
 intro g20
 refine au [14] ?_
 intro g21
 refine au [24,9,19,0,1,2,3,23] ?_
 refine kv (i := 7) rfl rfl inferInstance rfl rfl (fun _ => rfl) rfl rfl (qE (vs := [.int .i64 1]) (ys := ([1] : List Int)) (ky .i64) (by decide) rfl Tryz.underlying66 tf3 rfl rfl rfl rfl rfl (by decide) (fun a22 c23 => qE (vs := [.int .i64 0]) (ys := ([0] : List Int)) (ky .i64) (by decide) rfl Tryz.underlying66 tf3 rfl rfl rfl rfl rfl (by decide) (fun a24 c25 => ?_)))
 refine au [28,3,26,3] ?_
 refine qE (vs := [.slice a22 ([1] : List Int).length c23, .slice a24 ([0] : List Int).length c25]) (ys := ([(([1] : List Int), (a22, c23)), (([0] : List Int), (a24, c25))] : List (List Int × (Option Addr × Nat)))) zi (by decide) rfl Tryz.underlying22 tf66 rfl rfl rfl rfl rfl (by decide) (fun a26 c27 => jW (inn := iN66) ([([1] : List Int), ([0] : List Int)] : List (List Int)) ([(a22, c23), (a24, c25)] : List (Option Addr × Nat)) 0 rfl rfl (qz 1 rfl (qz 0 rfl yA)) ?_)
 refine au [27,1] ?_
 intro x28 e28 _
 refine au [4] ?_
 refine qy 4 (fun ((x30, _) : (Bool × Unit)) => ([(3, .string (bstr x6.1)), (4, .int .i64 x6.2), (6, .pointer (some ⟨g11, 0, none⟩)), (8, .pointer (some ⟨g16, 0, none⟩)), (10, .pointer (some ⟨g21, 0, none⟩)), (42, .bool x30)], [⟨g21, 29, [.int .i64 x17.2.1, .int .i64 x17.2.2]⟩, ⟨g16, 29, [.int .i64 x12.2.1, .int .i64 x12.2.2]⟩, ⟨g11, 29, [.int .i64 x7.2.1, .int .i64 x7.2.2]⟩], [], [GF], yf F x6 x7 x12 x17 x30)) ?_ ?_
 refine qb (os := _) rfl ?_
 refine av [24,10] ?_ ?_
 intro h29
 refine qj (k := 38) rfl h29 (kv (i := 6) rfl rfl inferInstance rfl rfl (by simp) rfl rfl (qh (cells := [.int .i64 0, .int .i64 0]) rfl st29 rfl (by kernel_rfl) rfl ?_))
 refine au [26,2,17,0] ?_
 exact qa ((((x1.2.1 : Int) == 0) && ((x1.2.2 : Int) == 0)), ())
 intro h29
 refine qi (k := 38) rfl h29 ?_
 refine au [6,6,6,18,0] ?_
 exact qa (false, ())
 rintro ⟨x30, _⟩
 try dsimp only
 refine qb (os := _) rfl ?_
 refine au [4] ?_
 refine qN 3 x30 [(4, .int .i64 x6.2), (6, .pointer (some ⟨g11, 0, none⟩)), (8, .pointer (some ⟨g16, 0, none⟩)), (10, .pointer (some ⟨g21, 0, none⟩)), (46, .bool (x30 && (bstr x6.1 == bstr ([50, 10, 48, 32, 49, 10, 49, 32, 48, 10] : List Int))))] (fun h31 => ?_) (fun h31 => ?_) ?_
 refine qb (os := _) rfl (qj (k := 43) rfl h31 ?_)
 refine au [4,27,6,17] ?_
 refine qc (d := 46) (v := .bool (x30 && (bstr x6.1 == bstr ([50, 10, 48, 32, 49, 10, 49, 32, 48, 10] : List Int)))) rfl (by rw [h31]; simp only [Bool.true_and] <;> rfl) ?_
 exact az [0,20]
 refine qb (os := _) rfl (qi (k := 43) rfl h31 ?_)
 refine au [6,6,18] ?_
 refine qc (d := 46) (v := .bool (x30 && (bstr x6.1 == bstr ([50, 10, 48, 32, 49, 10, 49, 32, 48, 10] : List Int)))) rfl (by rw [h31]; simp only [Bool.false_and] <;> rfl) ?_
 exact az [0,20]
 refine qb (os := _) rfl ?_
 refine au [4] ?_
 refine qN 3 (x30 && (bstr x6.1 == bstr ([50, 10, 48, 32, 49, 10, 49, 32, 48, 10] : List Int))) [(6, .pointer (some ⟨g11, 0, none⟩)), (8, .pointer (some ⟨g16, 0, none⟩)), (10, .pointer (some ⟨g21, 0, none⟩)), (50, .bool ((x30 && (bstr x6.1 == bstr ([50, 10, 48, 32, 49, 10, 49, 32, 48, 10] : List Int))) && ((x6.2 : Int) == 0)))] (fun h32 => ?_) (fun h32 => ?_) ?_
 refine qb (os := _) rfl (qj (k := 47) rfl h32 ?_)
 refine au [4,24,11,17] ?_
 refine qc (d := 50) (v := .bool ((x30 && (bstr x6.1 == bstr ([50, 10, 48, 32, 49, 10, 49, 32, 48, 10] : List Int))) && ((x6.2 : Int) == 0))) rfl (by rw [h32]; simp only [Bool.true_and] <;> rfl) ?_
 exact az [0,20]
 refine qb (os := _) rfl (qi (k := 47) rfl h32 ?_)
 refine au [6,6,18] ?_
 refine qc (d := 50) (v := .bool ((x30 && (bstr x6.1 == bstr ([50, 10, 48, 32, 49, 10, 49, 32, 48, 10] : List Int))) && ((x6.2 : Int) == 0))) rfl (by rw [h32]; simp only [Bool.false_and] <;> rfl) ?_
 exact az [0,20]
 refine qb (os := _) rfl ?_
 refine au [4] ?_
 refine qy 4 (fun ((x34, _) : (Bool × Unit)) => ([(8, .pointer (some ⟨g16, 0, none⟩)), (10, .pointer (some ⟨g21, 0, none⟩)), (55, .bool x34)], [⟨g21, 29, [.int .i64 x17.2.1, .int .i64 x17.2.2]⟩, ⟨g16, 29, [.int .i64 x12.2.1, .int .i64 x12.2.2]⟩], [], [GF], vk F x12 x17 x34)) ?_ ?_
 refine qb (os := _) rfl ?_
 refine av [24,10] ?_ ?_
 intro h33
 refine qj (k := 51) rfl h33 ?_
 refine au [25,13] ?_
 refine qh (cells := [.int .i64 3, .int .i64 6]) rfl st29 rfl (by kernel_rfl) rfl ?_
 refine au [26,2,17,0] ?_
 exact qa ((((x7.2.1 : Int) == 3) && ((x7.2.2 : Int) == 6)), ())
 intro h33
 refine qi (k := 51) rfl h33 ?_
 refine au [6,6,6,18,0] ?_
 exact qa (false, ())
 rintro ⟨x34, _⟩
 try dsimp only
 refine qb (os := _) rfl ?_
 refine au [4] ?_
 refine qy 4 (fun ((x36, _) : (Bool × Unit)) => ([(10, .pointer (some ⟨g21, 0, none⟩)), (60, .bool x36)], [⟨g21, 29, [.int .i64 x17.2.1, .int .i64 x17.2.2]⟩], [], [GF], vl F x17 x36)) ?_ ?_
 refine qb (os := _) rfl ?_
 refine av [24,10] ?_ ?_
 intro h35
 refine qj (k := 56) rfl h35 ?_
 refine au [25,5] ?_
 refine qh (cells := [.int .i64 2, .int .i64 3]) rfl st29 rfl (by kernel_rfl) rfl ?_
 refine au [26,2,17,0] ?_
 exact qa ((((x12.2.1 : Int) == 2) && ((x12.2.2 : Int) == 3)), ())
 intro h35
 refine qi (k := 56) rfl h35 ?_
 refine au [6,6,6,18,0] ?_
 exact qa (false, ())
 rintro ⟨x36, _⟩
 try dsimp only
 refine qb (os := _) rfl ?_
 refine au [4] ?_
 refine qy 4 (fun ((x38, _) : (Bool × Unit)) => ([(65, .bool x38)], [], [], [GF], vm F x38)) ?_ ?_
 refine qb (os := _) rfl ?_
 refine av [24,10] ?_ ?_
 intro h37
 refine qj (k := 61) rfl h37 ?_
 refine au [24,13] ?_
 refine qh (cells := [.int .i64 0, .int .i64 5]) rfl st29 rfl (by kernel_rfl) rfl ?_
 refine au [26,2,17,0] ?_
 exact qa ((((x17.2.1 : Int) == 0) && ((x17.2.2 : Int) == 5)), ())
 intro h37
 refine qi (k := 61) rfl h37 ?_
 refine au [6,6,6,18,0] ?_
 exact qa (false, ())
 rintro ⟨x38, _⟩
 try dsimp only
 refine qb (os := _) rfl ?_
 exact az [5,0,1,8,16]
theorem qct {F : Nat} {x1 : List (List Int)} {a2 : Option Addr} {c3 : Nat} {s3 : List (Option Addr × Nat)} {x4 : List (List Int)} {a5 : Option Addr} {c6 : Nat} {s6 : List (Option Addr × Nat)} {r : Bool} (hm : zC F x1 x4 = some r) :
    Pure Tryz.prog 14 [.agg #[.slice a2 x1.length c3], .agg #[.slice a5 x4.length c6]] [SlN eN66 iN66 1 (.slice a2 x1.length c3) x1 s3, SlN eN66 iN66 1 (.slice a5 x4.length c6) x4 s6] Unit (fun _ => .bool r) (fun _ => []) (fun _ => []) := by
 refine qM Tryz.func14 rfl Tryz.ntmps14 rfl hm (fun w => ?_)
 refine au [24,15,2,3,25,0] ?_
 intro g7
 refine au [25,0] ?_
 intro g8
 refine au [5,0,1,2,3,23,26,5,23,24,4,27,1] ?_
 intro x9 e9 _
 exact az [5,0,1,8,16]
set_option maxHeartbeats 4000000 in
theorem qgT (F : Nat) (x1 : List (List Int)) (a2 : Option Addr) (c3 : (Nat × List (Option Addr × Nat))) (x4 : List Int) (r : Bool) (hm : qcD F x1 x4 = some r) :
    Pure Tryz.prog 3 [.agg #[.slice a2 x1.length c3.1], .string (bstr x4)] [SlN eN66 iN66 1 (.slice a2 x1.length c3.1) x1 c3.2, GF] Unit (fun _ => .bool r) (fun _ => []) (fun _ => []) := by
 refine qM Tryz.func3 rfl Tryz.ntmps3 rfl hm (fun w => ?_)
 refine au [24,15,2,3,25,0] ?_
 intro g5
 refine au [5,0,1,2,3,24,13,28,2] ?_
 intro x6 e6 _
 refine au [4,21,21,5,5,0,1,2,3,4,25,10] ?_
 rintro x7 e7 ⟨a8, c9⟩
 refine au [4,21,21,14] ?_
 intro g10
 refine au [14] ?_
 intro g11
 refine au [24,9,19,0,1,2,3,25,13] ?_
 refine qB qbP ?_
 intro x12 e12 _
 refine au [5,5,0,1] ?_
 refine qf (fun ((x15, _) : (List Int × Unit)) => ([(1, .string (bstr x4)), (5, .string (bstr x6.1)), (6, .int .i64 x6.2), (7, .pointer (some ⟨g10, 0, none⟩)), (8, .pointer (some ⟨g11, 0, none⟩)), (9, .int .i64 x12), (10, .string (bstr x15))], [⟨g11, 29, [.int .i64 x7.2.1, .int .i64 x7.2.2]⟩, ⟨g10, 24, [.slice a8 x7.1.length c9.1]⟩], [RoN eN66 rN66 66 1 (.slice a8 x7.1.length c9.1) x7.1 c9.2 []], [GF], vh F x4 x6 x7 x12 x15)) ?_ ?_
 refine av [2,3,4,24,11,0,1,9] ?_ ?_
 intro _
 refine au [3,25,13] ?_
 refine qB qcw ?_
 intro x29 e29 _
 refine au [5,0] ?_
 exact qa (x29, ())
 intro _
 refine au [10] ?_
 exact qa (([] : List Int), ())
 rintro ⟨x15, _⟩
 try dsimp only
 refine au [2,3,4] ?_
 refine qB qcv ?_
 rintro x16 e16 ⟨a17, c18⟩
 refine au [4,21,21,14] ?_
 intro g19
 refine au [14] ?_
 intro g20
 refine au [24,9,19,0,1,2,3,27,2] ?_
 intro x21 e21 _
 refine au [4] ?_
 refine qN 4 x21 [(6, .int .i64 x6.2), (7, .pointer (some ⟨g10, 0, none⟩)), (8, .pointer (some ⟨g11, 0, none⟩)), (9, .int .i64 x12), (11, .pointer (some ⟨g19, 0, none⟩)), (12, .pointer (some ⟨g20, 0, none⟩)), (39, .bool (x21 && (bstr x6.1 == bstr x15)))] (fun h22 => ?_) (fun h22 => ?_) ?_
 refine qb (os := _) rfl (qj (k := 35) rfl h22 ?_)
 refine au [4,4,27,6,17] ?_
 refine qc (d := 39) (v := .bool (x21 && (bstr x6.1 == bstr x15))) rfl (by rw [h22]; simp only [Bool.true_and] <;> rfl) ?_
 exact az [0,20]
 refine qb (os := _) rfl (qi (k := 35) rfl h22 ?_)
 refine au [6,6,6,18] ?_
 refine qc (d := 39) (v := .bool (x21 && (bstr x6.1 == bstr x15))) rfl (by rw [h22]; simp only [Bool.false_and] <;> rfl) ?_
 exact az [0,20]
 refine qb (os := _) rfl ?_
 refine au [4] ?_
 refine qN 4 (x21 && (bstr x6.1 == bstr x15)) [(7, .pointer (some ⟨g10, 0, none⟩)), (8, .pointer (some ⟨g11, 0, none⟩)), (11, .pointer (some ⟨g19, 0, none⟩)), (12, .pointer (some ⟨g20, 0, none⟩)), (44, .bool ((x21 && (bstr x6.1 == bstr x15)) && ((x6.2 : Int) == x12)))] (fun h23 => ?_) (fun h23 => ?_) ?_
 refine qb (os := _) rfl (qj (k := 40) rfl h23 ?_)
 refine au [4,4,24,11,17] ?_
 refine qc (d := 44) (v := .bool ((x21 && (bstr x6.1 == bstr x15)) && ((x6.2 : Int) == x12))) rfl (by rw [h23]; simp only [Bool.true_and] <;> rfl) ?_
 exact az [0,20]
 refine qb (os := _) rfl (qi (k := 40) rfl h23 ?_)
 refine au [6,6,6,18] ?_
 refine qc (d := 44) (v := .bool ((x21 && (bstr x6.1 == bstr x15)) && ((x6.2 : Int) == x12))) rfl (by rw [h23]; simp only [Bool.false_and] <;> rfl) ?_
 exact az [0,20]
 refine qb (os := _) rfl ?_
 refine au [4] ?_
 refine qy 4 (fun ((x26, _) : (Bool × Unit)) => ([(8, .pointer (some ⟨g11, 0, none⟩)), (12, .pointer (some ⟨g20, 0, none⟩)), (49, .bool x26)], [⟨g20, 29, [.int .i64 x16.2.1, .int .i64 x16.2.2]⟩, ⟨g11, 29, [.int .i64 x7.2.1, .int .i64 x7.2.2]⟩], [], [GF], vi F x7 x16 x26)) ?_ ?_
 refine qb (os := _) rfl ?_
 refine av [24,10] ?_ ?_
 intro h24
 refine qj (k := 45) rfl h24 ?_
 refine au [30,9,25,5,26,7] ?_
 intro x28 e28 _
 refine au [17,0] ?_
 exact qa (x28, ())
 intro h24
 refine qi (k := 45) rfl h24 ?_
 refine au [6,6,6,18,0] ?_
 exact qa (false, ())
 rintro ⟨x26, _⟩
 try dsimp only
 refine qb (os := _) rfl ?_
 refine au [4] ?_
 refine qN 4 x26 [(54, .bool (x26 && (((x7.2.1 : Int) == x16.2.1) && ((x7.2.2 : Int) == x16.2.2))))] (fun h27 => ?_) (fun h27 => ?_) ?_
 refine qb (os := _) rfl (qj (k := 50) rfl h27 ?_)
 refine au [25,5,24,13,26,2,17] ?_
 refine qc (d := 54) (v := .bool (x26 && (((x7.2.1 : Int) == x16.2.1) && ((x7.2.2 : Int) == x16.2.2)))) rfl (by rw [h27]; simp only [Bool.true_and]) ?_
 exact az [0,20]
 refine qb (os := _) rfl (qi (k := 50) rfl h27 ?_)
 refine au [6,6,6,18] ?_
 refine qc (d := 54) (v := .bool (x26 && (((x7.2.1 : Int) == x16.2.1) && ((x7.2.2 : Int) == x16.2.2)))) rfl (by rw [h27]; simp only [Bool.false_and]) ?_
 exact az [0,20]
 refine qb (os := _) rfl ?_
 exact az [5,0,1,8,16]
set_option maxHeartbeats 4000000 in
theorem qgU (F : Nat) (x1 : List (List Int)) (a2 : Option Addr) (c3 : (Nat × List (Option Addr × Nat))) (x4 : List Int) (r : Bool) (hm : qdh F x1 x4 = some r) :
    Pure Tryz.prog 4 [.agg #[.slice a2 x1.length c3.1], .string (bstr x4)] [SlN eN66 iN66 1 (.slice a2 x1.length c3.1) x1 c3.2, GF] Unit (fun _ => .bool r) (fun _ => []) (fun _ => []) := by
 refine qM Tryz.func4 rfl Tryz.ntmps4 rfl hm (fun w => ?_)
 refine au [24,15,2,3,25,0] ?_
 intro g5
 refine au [5,0,1,2,3,24,13,28,2] ?_
 intro x6 e6 _
 refine au [4,21,21,5,5,0,1,2,3,4,25,10] ?_
 rintro x7 e7 ⟨a8, c9⟩
 refine au [4,21,21,14] ?_
 intro g10
 refine au [14] ?_
 intro g11
 refine au [24,9,19,0,1,2,2,3,27,2] ?_
 intro x14 e14 _
 refine av [25,8,0,1,9] ?_ ?_
 intro _
 exact az [2,3,5,0,1,8,7,16]
 intro _
 refine au [10,1] ?_
 refine qf (fun ((_, _) : (Unit × Unit)) => ([(7, .pointer (some ⟨g10, 0, none⟩)), (8, .pointer (some ⟨g11, 0, none⟩))], [⟨g11, 29, [.int .i64 x7.2.1, .int .i64 x7.2.2]⟩, ⟨g10, 24, [.slice a8 x7.1.length c9.1]⟩], [RoN eN66 rN66 66 1 (.slice a8 x7.1.length c9.1) x7.1 c9.2 []], [GF], vC F x7)) ?_ ?_
 refine av [2,3,4,24,11,0,1,9] ?_ ?_
 intro _
 refine au [2,3,4,25,10] ?_
 rintro x42 e42 ⟨a43, c44⟩
 refine au [4,21,21,14] ?_
 intro g45
 refine au [14] ?_
 intro g46
 refine au [24,9,19,0,1,2,3,24,13] ?_
 refine qh (cells := [.int .i64 0, .int .i64 0]) rfl st29 rfl (by kernel_rfl) rfl ?_
 refine au [28,14,4] ?_
 refine qy 5 (fun ((x49, _) : (Bool × Unit)) => ([(7, .pointer (some ⟨g10, 0, none⟩)), (8, .pointer (some ⟨g11, 0, none⟩)), (42, .bool x49)], [⟨g11, 29, [.int .i64 x7.2.1, .int .i64 x7.2.2]⟩, ⟨g10, 24, [.slice a8 x7.1.length c9.1]⟩], [RoN eN66 rN66 66 1 (.slice a8 x7.1.length c9.1) x7.1 c9.2 []], [GF], vF F x7 x49)) ?_ ?_
 refine qb (os := _) rfl ?_
 refine av [24,10] ?_ ?_
 intro h47
 refine qj (k := 37) rfl h47 ?_
 refine au [6,6,6,6,17,0] ?_
 exact qa (true, ())
 intro h47
 refine qi (k := 37) rfl h47 ?_
 refine au [25,5,30,10,26,7] ?_
 intro x51 e51 _
 refine au [25,8,18,0] ?_
 exact qa ((!x51), ())
 rintro ⟨x49, _⟩
 try dsimp only
 refine qb (os := _) rfl ?_
 refine av [0,1,9] ?_ ?_
 intro _
 exact az [2,3,5,0,1,8,7,16]
 intro _
 exact az [10,25,7]
 intro _
 exact az [10,25,7]
 rintro ⟨_, _⟩
 try dsimp only
 refine au [2,2,3,24,13] ?_
 refine qh (cells := [.int .i64 0, .int .i64 0]) rfl st29 rfl (by kernel_rfl) rfl ?_
 refine av [28,14,0,1,9] ?_ ?_
 intro _
 refine au [2,3,25,5] ?_
 refine qh (cells := [.slice none 0 0]) rfl st24 rfl (by kernel_rfl) rfl (qgB (List Int) (Option Addr × Nat) eN66 rN66 66 1 ?_)
 refine au [26,7] ?_
 intro x28 e28 _
 exact az [5,0,1,8,7,16]
 intro _
 refine au [10,1,2,3,25,5,28,2] ?_
 intro x29 e29 _
 refine au [4,21,21,5,5,0,1,2,3,4,25,10] ?_
 rintro x30 e30 ⟨a31, c32⟩
 refine au [4,21,21,14] ?_
 intro g33
 refine au [14] ?_
 intro g34
 refine au [24,9,19,0,1,2,3,4,24,11,4] ?_
 refine qy 4 (fun ((x36, _) : (Bool × Unit)) => ([(7, .pointer (some ⟨g10, 0, none⟩)), (13, .pointer (some ⟨g33, 0, none⟩)), (65, .bool x36)], [⟨g33, 24, [.slice a31 x30.1.length c32.1]⟩, ⟨g10, 24, [.slice a8 x7.1.length c9.1]⟩], [RoN eN66 rN66 66 1 (.slice a31 x30.1.length c32.1) x30.1 c32.2 [], RoN eN66 rN66 66 1 (.slice a8 x7.1.length c9.1) x7.1 c9.2 []], [GF], vD F x7 x30 x36)) ?_ ?_
 refine qb (os := _) rfl ?_
 refine av [24,10] ?_ ?_
 intro h35
 refine qj (k := 61) rfl h35 ?_
 refine au [24,13] ?_
 refine qh (cells := [.int .i64 0, .int .i64 0]) rfl st29 rfl (by kernel_rfl) rfl ?_
 refine au [26,2,17,0] ?_
 exact qa ((((x30.2.1 : Int) == 0) && ((x30.2.2 : Int) == 0)), ())
 intro h35
 refine qi (k := 61) rfl h35 ?_
 refine au [6,6,6,18,0] ?_
 exact qa (false, ())
 rintro ⟨x36, _⟩
 try dsimp only
 refine qb (os := _) rfl ?_
 refine au [4] ?_
 refine qy 4 (fun ((x39, _) : (Bool × Unit)) => ([(70, .bool x39)], [], [], [GF], vE F x39)) ?_ ?_
 refine qb (os := _) rfl ?_
 refine av [24,10] ?_ ?_
 intro h37
 refine qj (k := 66) rfl h37 ?_
 refine au [24,13,25,5,26,7] ?_
 intro x40 e40 _
 refine au [17,0] ?_
 exact qa (x40, ())
 intro h37
 refine qi (k := 66) rfl h37 ?_
 refine au [6,6,6,18,0] ?_
 exact qa (false, ())
 rintro ⟨x39, _⟩
 try dsimp only
 refine qb (os := _) rfl ?_
 exact az [5,0,1,8,16]
set_option maxHeartbeats 4000000 in
theorem qgV (F : Nat) (x1 : List Int) (x2 : List Int) (r : Bool) (hm : qdi F x1 x2 = some r) :
    Pure Tryz.prog 5 [.string (bstr x1), .string (bstr x2)] [GF] Unit (fun _ => .bool r) (fun _ => []) (fun _ => []) := by
 refine qM Tryz.func5 rfl Tryz.ntmps5 rfl hm (fun w => ?_)
 refine au [24,15,2,3,5,0,1,2,3,4,25,10] ?_
 rintro x3 e3 ⟨a4, c5⟩
 refine au [4,21,21,14] ?_
 intro g6
 refine au [14] ?_
 intro g7
 refine au [24,9,19,0,1,2,2,3,27,2] ?_
 intro x10 e10 _
 refine av [25,8,0,1,9] ?_ ?_
 intro _
 exact az [2,3,5,0,1,8,7,16]
 intro _
 refine au [10,1] ?_
 refine qf (fun ((_, _) : (Unit × Unit)) => ([(0, .string (bstr x1)), (1, .string (bstr x2)), (5, .pointer (some ⟨g6, 0, none⟩)), (6, .pointer (some ⟨g7, 0, none⟩))], [⟨g7, 29, [.int .i64 x3.2.1, .int .i64 x3.2.2]⟩, ⟨g6, 24, [.slice a4 x3.1.length c5.1]⟩], [RoN eN66 rN66 66 1 (.slice a4 x3.1.length c5.1) x3.1 c5.2 []], [GF], j9 F x1 x2 x3)) ?_ ?_
 refine au [2,3,5,0,1,13] ?_
 refine qK (fun ((x92, _) : (Int × Unit)) => ([(0, .string (bstr x1)), (1, .string (bstr x2)), (5, .pointer (some ⟨g6, 0, none⟩)), (6, .pointer (some ⟨g7, 0, none⟩)), (7, .int .i64 x92)], [⟨g7, 29, [.int .i64 x3.2.1, .int .i64 x3.2.2]⟩, ⟨g6, 24, [.slice a4 x3.1.length c5.1]⟩], [RoN eN66 rN66 66 1 (.slice a4 x3.1.length c5.1) x3.1 c5.2 []], [GF])) (fun k (s : (Int × Unit)) => yd F x1 x2 x3 k s.1) (0, ()) F ?_
 intro k99
 rintro ⟨x92, _⟩
 try dsimp only
 refine q5 (m' := jK F x1 x2 x3 (yd F x1 x2 x3 k99) x92) rfl ?_
 refine au [2,2,3,4,4] ?_
 refine zw (a := x2) rfl Tryz.underlying9 rfl rfl ?_
 refine av [24,2,0,1,9] ?_ ?_
 intro _
 refine au [10,1,2,13,2,3,4,4] ?_
 refine vd (xs := x2) rfl Tryz.underlying9 rfl rfl rfl (fun x103 e103 => ?_)
 refine av [24,11,0,1,9] ?_ ?_
 intro _
 exact az [2,3,5,0,1,8,22,7,7,22,7,16]
 intro _
 refine au [10,24,0,1,3,4,24,3,5,0] ?_
 exact qw (iadd .i64 x92 1, ())
 intro _
 exact az [24,6,15,15,24,7,25,7]
 rintro ⟨_, _⟩
 try dsimp only
 refine au [2,3,4] ?_
 refine qA (a := ([35, 32] : List Int)) (b := x2) rfl Tryz.underlying9 rfl rfl rfl (fun x31 e31 => qA (a := x31) (b := ([10] : List Int)) rfl Tryz.underlying9 rfl rfl rfl (fun x32 e32 => ?_))
 refine au [4] ?_
 refine qA (a := x32) (b := x1) rfl Tryz.underlying9 rfl rfl rfl (fun x33 e33 => ?_)
 refine au [25,10] ?_
 rintro x34 e34 ⟨a35, c36⟩
 refine au [4,21,21,14] ?_
 intro g37
 refine au [14] ?_
 intro g38
 refine au [24,9,19,0,1,2,2,3,23,25,12,24,11,4] ?_
 refine qN 4 ((x3.2.2 : Int) == 2) [(0, .string (bstr x1)), (5, .pointer (some ⟨g6, 0, none⟩)), (6, .pointer (some ⟨g7, 0, none⟩)), (8, .pointer (some ⟨g37, 0, none⟩)), (9, .pointer (some ⟨g38, 0, none⟩)), (46, .bool (((x3.2.2 : Int) == 2) && ((x3.2.1 : Int) == 0)))] (fun h47 => ?_) (fun h47 => ?_) ?_
 refine qb (os := _) rfl (qj (k := 42) rfl h47 ?_)
 refine au [23,25,12,24,11,17] ?_
 refine qc (d := 46) (v := .bool (((x3.2.2 : Int) == 2) && ((x3.2.1 : Int) == 0))) rfl (by rw [h47]; simp only [Bool.true_and]) ?_
 exact az [0,20]
 refine qb (os := _) rfl (qi (k := 42) rfl h47 ?_)
 refine au [6,6,6,18] ?_
 refine qc (d := 46) (v := .bool (((x3.2.2 : Int) == 2) && ((x3.2.1 : Int) == 0))) rfl (by rw [h47]; simp only [Bool.false_and]) ?_
 exact az [0,20]
 refine qb (os := _) rfl ?_
 refine au [4] ?_
 refine qy 9 (fun ((x50, _) : (Bool × Unit)) => ([(0, .string (bstr x1)), (5, .pointer (some ⟨g6, 0, none⟩)), (6, .pointer (some ⟨g7, 0, none⟩)), (8, .pointer (some ⟨g37, 0, none⟩)), (9, .pointer (some ⟨g38, 0, none⟩)), (56, .bool x50)], [⟨g38, 29, [.int .i64 x34.2.1, .int .i64 x34.2.2]⟩, ⟨g37, 24, [.slice a35 x34.1.length c36.1]⟩, ⟨g7, 29, [.int .i64 x3.2.1, .int .i64 x3.2.2]⟩, ⟨g6, 24, [.slice a4 x3.1.length c5.1]⟩], [RoN eN66 rN66 66 1 (.slice a35 x34.1.length c36.1) x34.1 c36.2 [], RoN eN66 rN66 66 1 (.slice a4 x3.1.length c5.1) x3.1 c5.2 []], [GF], vG F x1 x3 x34 x50)) ?_ ?_
 refine qb (os := _) rfl ?_
 refine av [24,10] ?_ ?_
 intro h48
 refine qj (k := 47) rfl h48 ?_
 refine au [6,6,6,6,6,6,6,6,17,0] ?_
 exact qa (true, ())
 intro h48
 refine qi (k := 47) rfl h48 ?_
 refine au [23,24,4,24,11,4] ?_
 refine qN 4 ((x34.2.2 : Int) == 2) [(0, .string (bstr x1)), (5, .pointer (some ⟨g6, 0, none⟩)), (6, .pointer (some ⟨g7, 0, none⟩)), (8, .pointer (some ⟨g37, 0, none⟩)), (9, .pointer (some ⟨g38, 0, none⟩)), (47, .bool false), (55, .bool (((x34.2.2 : Int) == 2) && ((x34.2.1 : Int) == 0)))] (fun h85 => ?_) (fun h85 => ?_) ?_
 refine qb (os := _) rfl (qj (k := 51) rfl h85 ?_)
 refine au [23,24,4,24,11,17] ?_
 refine qc (d := 55) (v := .bool (((x34.2.2 : Int) == 2) && ((x34.2.1 : Int) == 0))) rfl (by rw [h85]; simp only [Bool.true_and]) ?_
 exact az [0,20]
 refine qb (os := _) rfl (qi (k := 51) rfl h85 ?_)
 refine au [6,6,6,18] ?_
 refine qc (d := 55) (v := .bool (((x34.2.2 : Int) == 2) && ((x34.2.1 : Int) == 0))) rfl (by rw [h85]; simp only [Bool.false_and]) ?_
 exact az [0,20]
 refine qb (os := _) rfl ?_
 refine au [18,0] ?_
 exact qa ((((x34.2.2 : Int) == 2) && ((x34.2.1 : Int) == 0)), ())
 rintro ⟨x50, _⟩
 try dsimp only
 refine qb (os := _) rfl ?_
 refine av [0,1,9] ?_ ?_
 intro _
 refine au [2,3,23,25,12,25,3,4] ?_
 refine qN 4 ((x3.2.2 : Int) != 2) [(9, .pointer (some ⟨g38, 0, none⟩)), (64, .bool (((x3.2.2 : Int) != 2) || ((x3.2.1 : Int) != 0)))] (fun h51 => ?_) (fun h51 => ?_) ?_
 refine qb (os := _) rfl (qj (k := 60) rfl h51 ?_)
 refine au [6,6,6,17] ?_
 refine qc (d := 64) (v := .bool (((x3.2.2 : Int) != 2) || ((x3.2.1 : Int) != 0))) rfl (by rw [h51]; simp only [Bool.true_or]) ?_
 exact az [0,20]
 refine qb (os := _) rfl (qi (k := 60) rfl h51 ?_)
 refine au [23,25,12,25,3,18] ?_
 refine qc (d := 64) (v := .bool (((x3.2.2 : Int) != 2) || ((x3.2.1 : Int) != 0))) rfl (by rw [h51]; simp only [Bool.false_or]) ?_
 exact az [0,20]
 refine qb (os := _) rfl ?_
 refine au [4] ?_
 refine qN 4 (((x3.2.2 : Int) != 2) || ((x3.2.1 : Int) != 0)) [(69, .bool ((((x3.2.2 : Int) != 2) || ((x3.2.1 : Int) != 0)) || ((x34.2.2 : Int) == 2)))] (fun h52 => ?_) (fun h52 => ?_) ?_
 refine qb (os := _) rfl (qj (k := 65) rfl h52 ?_)
 refine au [6,6,6,17] ?_
 refine qc (d := 69) (v := .bool ((((x3.2.2 : Int) != 2) || ((x3.2.1 : Int) != 0)) || ((x34.2.2 : Int) == 2))) rfl (by rw [h52]; simp only [Bool.true_or]) ?_
 exact az [0,20]
 refine qb (os := _) rfl (qi (k := 65) rfl h52 ?_)
 refine au [23,24,4,24,11,18] ?_
 refine qc (d := 69) (v := .bool ((((x3.2.2 : Int) != 2) || ((x3.2.1 : Int) != 0)) || ((x34.2.2 : Int) == 2))) rfl (by rw [h52]; simp only [Bool.false_or]) ?_
 exact az [0,20]
 refine qb (os := _) rfl ?_
 exact az [5,0,1,8,7,16]
 intro _
 refine au [10,1,2,3,25,13,14] ?_
 intro g53
 refine au [19,0,1] ?_
 refine qf (fun ((x55, _) : (Int × Unit)) => ([(0, .string (bstr x1)), (5, .pointer (some ⟨g6, 0, none⟩)), (6, .pointer (some ⟨g7, 0, none⟩)), (8, .pointer (some ⟨g37, 0, none⟩)), (9, .pointer (some ⟨g38, 0, none⟩)), (10, .pointer (some ⟨g53, 0, none⟩))], [⟨g53, 29, [.int .i64 x55, .int .i64 x3.2.2]⟩, ⟨g38, 29, [.int .i64 x34.2.1, .int .i64 x34.2.2]⟩, ⟨g37, 24, [.slice a35 x34.1.length c36.1]⟩, ⟨g7, 29, [.int .i64 x3.2.1, .int .i64 x3.2.2]⟩, ⟨g6, 24, [.slice a4 x3.1.length c5.1]⟩], [RoN eN66 rN66 66 1 (.slice a35 x34.1.length c36.1) x34.1 c36.2 [], RoN eN66 rN66 66 1 (.slice a4 x3.1.length c5.1) x3.1 c5.2 []], [GF], vH F x1 x3 x34 x55)) ?_ ?_
 refine av [2,3,23,30,11,25,2,0,1,9] ?_ ?_
 intro _
 refine au [3,23,24,4,24,3,23,19,0] ?_
 exact qa (iadd .i64 x3.2.1 1, ())
 intro _
 refine au [10] ?_
 exact qa (x3.2.1, ())
 rintro ⟨x55, _⟩
 try dsimp only
 refine au [2,2,3,25,5,24,13,28,14,4] ?_
 refine qy 5 (fun ((x63, _) : (Bool × Unit)) => ([(0, .string (bstr x1)), (5, .pointer (some ⟨g6, 0, none⟩)), (6, .pointer (some ⟨g7, 0, none⟩)), (86, .bool x63)], [⟨g7, 29, [.int .i64 x3.2.1, .int .i64 x3.2.2]⟩, ⟨g6, 24, [.slice a4 x3.1.length c5.1]⟩], [RoN eN66 rN66 66 1 (.slice a4 x3.1.length c5.1) x3.1 c5.2 []], [GF], vI F x1 x3 x63)) ?_ ?_
 refine qb (os := _) rfl ?_
 refine av [24,10] ?_ ?_
 intro h61
 refine qj (k := 81) rfl h61 ?_
 refine au [6,6,6,6,17,0] ?_
 exact qa (true, ())
 intro h61
 refine qi (k := 81) rfl h61 ?_
 refine au [30,10,25,13,26,7] ?_
 intro x82 e82 _
 refine au [25,8,18,0] ?_
 exact qa ((!x82), ())
 rintro ⟨x63, _⟩
 try dsimp only
 refine qb (os := _) rfl ?_
 refine av [0,1,9] ?_ ?_
 intro _
 exact az [2,3,5,0,1,8,7,16]
 intro _
 refine au [10,1,2,3,4] ?_
 refine qA (a := x1) (b := ([32, 32] : List Int)) rfl Tryz.underlying9 rfl rfl rfl (fun x64 e64 => ?_)
 refine au [25,10] ?_
 rintro x65 e65 ⟨a66, c67⟩
 refine au [4,21,21,14] ?_
 intro g68
 refine au [14] ?_
 intro g69
 refine au [24,9,19,0,1,2,3,23,24,4,24,11,4] ?_
 refine qN 4 ((x65.2.2 : Int) == 2) [(5, .pointer (some ⟨g6, 0, none⟩)), (6, .pointer (some ⟨g7, 0, none⟩)), (11, .pointer (some ⟨g68, 0, none⟩)), (12, .pointer (some ⟨g69, 0, none⟩)), (100, .bool (((x65.2.2 : Int) == 2) && ((x65.2.1 : Int) == 0)))] (fun h70 => ?_) (fun h70 => ?_) ?_
 refine qb (os := _) rfl (qj (k := 96) rfl h70 ?_)
 refine au [23,24,4,24,11,17] ?_
 refine qc (d := 100) (v := .bool (((x65.2.2 : Int) == 2) && ((x65.2.1 : Int) == 0))) rfl (by rw [h70]; simp only [Bool.true_and]) ?_
 exact az [0,20]
 refine qb (os := _) rfl (qi (k := 96) rfl h70 ?_)
 refine au [6,6,6,18] ?_
 refine qc (d := 100) (v := .bool (((x65.2.2 : Int) == 2) && ((x65.2.1 : Int) == 0))) rfl (by rw [h70]; simp only [Bool.false_and]) ?_
 exact az [0,20]
 refine qb (os := _) rfl ?_
 refine au [4] ?_
 refine qy 9 (fun ((x76, _) : (Bool × Unit)) => ([(110, .bool x76)], [], [], [GF], vJ F x76)) ?_ ?_
 refine qb (os := _) rfl ?_
 refine av [24,10] ?_ ?_
 intro h71
 refine qj (k := 101) rfl h71 ?_
 refine au [6,6,6,6,6,6,6,6,17,0] ?_
 exact qa (true, ())
 intro h71
 refine qi (k := 101) rfl h71 ?_
 refine au [24,13,25,13,26,2,4] ?_
 refine qy 4 (fun ((x79, _) : (Bool × Unit)) => ([(101, .bool false), (109, .bool x79)], [], [], [GF], vg F x79)) ?_ ?_
 refine qb (os := _) rfl ?_
 refine av [24,10] ?_ ?_
 intro h77
 refine qj (k := 105) rfl h77 ?_
 refine au [25,5,30,9,26,7] ?_
 intro x80 e80 _
 refine au [17,0] ?_
 exact qa (x80, ())
 intro h77
 refine qi (k := 105) rfl h77 ?_
 refine au [6,6,6,18,0] ?_
 exact qa (false, ())
 rintro ⟨x79, _⟩
 try dsimp only
 refine qb (os := _) rfl ?_
 refine au [18,0] ?_
 exact qa (x79, ())
 rintro ⟨x76, _⟩
 try dsimp only
 refine qb (os := _) rfl ?_
 exact az [5,0,1,8,16]
set_option maxHeartbeats 4000000 in
theorem qgS (F : Nat) (x1 : List Int) (r : Bool) (hm : qcC F x1 = some r) :
    Pure Tryz.prog 6 [.string (bstr x1)] [GF] Unit (fun _ => .bool r) (fun _ => []) (fun _ => []) := by
 refine qM Tryz.func6 rfl Tryz.ntmps6 rfl hm (fun w => ?_)
 refine au [24,12,2,3,5,0,1,2,3,4,25,10] ?_
 rintro x2 e2 ⟨a3, c4⟩
 refine au [4,21,21,14] ?_
 intro g5
 refine au [14] ?_
 intro g6
 refine au [24,9,19,0,1,2,2,3,27,2] ?_
 intro x9 e9 _
 refine av [25,8,0,1,9] ?_ ?_
 intro _
 exact az [2,3,5,0,1,8,7,16]
 intro _
 refine av [10,1,2,2,3,23,24,4,27,5,0,1,9] ?_ ?_
 intro _
 exact az [2,3,23,24,4,24,11,5,0,1,8,7,16]
 intro _
 refine au [10,1,2,3,5,5,0,1] ?_
 refine qf (fun (((x45, x46), _) : ((Int × Int) × Unit)) => ([(0, .string (bstr x1)), (4, .pointer (some ⟨g6, 0, none⟩)), (5, .int .i64 x45), (6, .int .i64 x46)], [⟨g6, 29, [.int .i64 x2.2.1, .int .i64 x2.2.2]⟩], [], [GF], jJ F x1 x2 x45 x46)) ?_ ?_
 refine au [2,3,5,0,1,13] ?_
 refine qK (fun (((x69, x70, x71), _) : ((Int × Int × Int) × Unit)) => ([(0, .string (bstr x1)), (4, .pointer (some ⟨g6, 0, none⟩)), (5, .int .i64 x69), (6, .int .i64 x70), (7, .int .i64 x71)], [⟨g6, 29, [.int .i64 x2.2.1, .int .i64 x2.2.2]⟩], [], [GF])) (fun k (s : ((Int × Int × Int) × Unit)) => kE F x1 x2 k s.1) ((0, 1, 0), ()) F ?_
 intro k82
 rintro ⟨⟨x69, x70, x71⟩, _⟩
 try dsimp only
 refine q5 (m' := jI F x1 x2 (kE F x1 x2 k82) x69 x70 x71) rfl ?_
 refine au [2,2,3,4,4] ?_
 refine zw (a := x1) rfl Tryz.underlying9 rfl rfl ?_
 refine au [24,2,4] ?_
 refine qN 5 (decide (x71 < (x1.length : Int))) [(0, .string (bstr x1)), (4, .pointer (some ⟨g6, 0, none⟩)), (5, .int .i64 x69), (6, .int .i64 x70), (7, .int .i64 x71), (32, .bool ((decide (x71 < (x1.length : Int))) && (decide (x70 < x2.2.1))))] (fun h85 => ?_) (fun h85 => ?_) ?_
 refine qb (os := _) rfl (qj (k := 27) rfl h85 ?_)
 refine au [4,23,24,4,24,2,17] ?_
 refine qc (d := 32) (v := .bool ((decide (x71 < (x1.length : Int))) && (decide (x70 < x2.2.1)))) rfl (by rw [h85]; simp only [Bool.true_and]) ?_
 exact az [0,20]
 refine qb (os := _) rfl (qi (k := 27) rfl h85 ?_)
 refine au [6,6,6,6,18] ?_
 refine qc (d := 32) (v := .bool ((decide (x71 < (x1.length : Int))) && (decide (x70 < x2.2.1)))) rfl (by rw [h85]; simp only [Bool.false_and]) ?_
 exact az [0,20]
 refine qb (os := _) rfl ?_
 refine av [0,1,9] ?_ ?_
 intro _
 refine au [10,1] ?_
 refine qf (fun (((x88, x89), _) : ((Int × Int) × Unit)) => ([(0, .string (bstr x1)), (4, .pointer (some ⟨g6, 0, none⟩)), (5, .int .i64 x88), (6, .int .i64 x89), (7, .int .i64 x71)], [⟨g6, 29, [.int .i64 x2.2.1, .int .i64 x2.2.2]⟩], [], [GF], yZ F (kE F x1 x2 k82) x71 x88 x89)) ?_ ?_
 refine au [13,2,3,4,4] ?_
 refine vd (xs := x1) rfl Tryz.underlying9 rfl rfl rfl (fun x90 e90 => ?_)
 refine av [24,11,0,1,9] ?_ ?_
 intro _
 refine au [2,3,4,24,3,5,0,1,3,4,24,3,5,0,24,0] ?_
 exact qa ((iadd .i64 x71 1, iadd .i64 x70 1), ())
 intro _
 refine au [10,24,0] ?_
 exact qa ((x69, x70), ())
 rintro ⟨⟨x88, x89⟩, _⟩
 try dsimp only
 refine au [3,4,24,3,5,0] ?_
 exact qw ((x88, x89, iadd .i64 x71 1), ())
 intro _
 refine au [24,6,15,15,24,7] ?_
 exact qa ((x69, x70), ())
 rintro ⟨⟨x45, x46⟩, _⟩
 try dsimp only
 refine av [2,2,3,4,23,24,4,25,3,0,1,9] ?_ ?_
 intro _
 exact az [2,3,5,0,1,8,7,16]
 intro _
 refine au [10,1,2,3,4,4] ?_
 refine jU (xs := x1) rfl Tryz.underlying9 rfl rfl rfl rfl (fun x48 e48 => ?_)
 refine au [25,10] ?_
 rintro x49 e49 ⟨a50, c51⟩
 refine au [4,21,21,14] ?_
 intro g52
 refine au [14] ?_
 intro g53
 refine au [24,9,19,0,1,2,3,23,24,4,24,11,4] ?_
 refine qy 9 (fun ((x56, _) : (Bool × Unit)) => ([(66, .bool x56)], [], [], [GF], vf F x56)) ?_ ?_
 refine qb (os := _) rfl ?_
 refine av [24,10] ?_ ?_
 intro h54
 refine qj (k := 57) rfl h54 ?_
 refine au [23,24,4,24,11,4] ?_
 refine qN 4 ((x49.2.2 : Int) == 0) [(57, .bool true), (65, .bool (((x49.2.2 : Int) == 0) || ((x49.2.2 : Int) == 5)))] (fun h57 => ?_) (fun h57 => ?_) ?_
 refine qb (os := _) rfl (qj (k := 61) rfl h57 ?_)
 refine au [6,6,6,17] ?_
 refine qc (d := 65) (v := .bool (((x49.2.2 : Int) == 0) || ((x49.2.2 : Int) == 5))) rfl (by rw [h57]; simp only [Bool.true_or]) ?_
 exact az [0,20]
 refine qb (os := _) rfl (qi (k := 61) rfl h57 ?_)
 refine au [23,24,4,24,11,18] ?_
 refine qc (d := 65) (v := .bool (((x49.2.2 : Int) == 0) || ((x49.2.2 : Int) == 5))) rfl (by rw [h57]; simp only [Bool.false_or]) ?_
 exact az [0,20]
 refine qb (os := _) rfl ?_
 refine au [17,0] ?_
 exact qa ((((x49.2.2 : Int) == 0) || ((x49.2.2 : Int) == 5)), ())
 intro h54
 refine qi (k := 57) rfl h54 ?_
 refine au [6,6,6,6,6,6,6,6,18,0] ?_
 exact qa (false, ())
 rintro ⟨x56, _⟩
 try dsimp only
 refine qb (os := _) rfl ?_
 exact az [5,0,1,8,16]
theorem kA {F : Nat} {x1 : List (Int × Int)} {a2 : Option Addr} {c3 : Nat} {g4 : Nat} {x5 : List (List Int)} {a6 : Option Addr} {c7 : Nat} {s7 : List (Option Addr × Nat)} {r : List (Int × Int)} (hm : qQ F x1 x5 = some r) :
    PureM Tryz.prog 51 [.slice a2 x1.length c3, .func (.func 42) #[] #[.pointer (some ⟨g4, 0, none⟩)]] [⟨g4, 24, [.slice a6 x5.length c7]⟩] [Ro eS44 44 2 (.slice a2 x1.length c3) x1] [SlN eN66 iN66 1 (.slice a6 x5.length c7) x5 s7] (Option Addr × Nat) (fun g => .slice g.1 r.length g.2) (fun _ => [⟨g4, 24, [.slice a6 x5.length c7]⟩]) (fun g => [Ro eS44 44 2 (.slice g.1 r.length g.2) r]) := by
 refine qap Tryz.func51 rfl Tryz.ntmps51 rfl hm (fun w => ?_)
 refine au [24,15,2,3,25,0] ?_
 intro g8
 refine au [5,0,1,2,2,3,4,0,1,13] ?_
 refine jT (encs := (fun (p : (Int × Int)) => [.agg #[.int .i64 p.1, .int .i64 p.2]])) (y := (fun (x46 : List (Int × Int)) ((x55, x56) : (Int × Int)) => zf F x46 x55 x56)) (lb := [.pointer (some ⟨g4, 0, none⟩)]) (fun (x46 : List (Int × Int)) ((a44, c45) : (Option Addr × Nat)) => [⟨g8, 39, [.slice a44 x46.length c45]⟩]) (fun (x46 : List (Int × Int)) ((a44, c45) : (Option Addr × Nat)) => [Ro eS44 44 2 (.slice a44 x46.length c45) x46]) (fun (_ : Empty) (_ : Unit) => []) (fun (_ : Empty) (_ : Unit) => []) (fun _ => .skip) x1 (a2, c3) rfl ent42 (fun _ => rfl) rfl (.cons 1 rfl .nil) (.cons 0 rfl .nil) (.cons 0 rfl .nil) (.consF 0 rfl .nil) (fun z hz _ _ _ hY => vt F hY x1 (a2, c3) g4 x5 a6 (c7, s7) z hz) ?_ ?_ ?_
 rintro rc1 L1 D1 x46 ⟨a44, c45⟩ ⟨x55, x56⟩ z w M _
 try dsimp only
 refine qat [(0, .slice a2 x1.length c3), (1, .func (.func 42) #[] #[.pointer (some ⟨g4, 0, none⟩)]), (2, .pointer (some ⟨g8, 0, none⟩)), (4, .slice none 0 0), (6, .func (.func 42) #[] #[.pointer (some ⟨g4, 0, none⟩)]), (7, .agg #[.int .i64 x55, .int .i64 x56])] (qv rfl (qv rfl (qv rfl (qv rfl (qv rfl (qv rfl j4)))))) ?_
 refine au [3,14] ?_
 intro g57
 refine au [19,0,29,14,13,3,26,5,24,13] ?_
 refine qE (vs := [.agg #[.int .i64 x55, .int .i64 x56]]) (ys := ([(x55, x56)] : List (Int × Int))) ql (by decide) rfl Tryz.underlying39 tf44 rfl rfl rfl rfl rfl (by decide) (fun a58 c59 => yv 1 ql rfl Tryz.underlying39 tf44 rfl rfl rfl rfl rfl (.inl ⟨0, _, rfl⟩) rfl rfl (fun x60 e60 a61 c62 => ?_))
 refine au [24,9,0,24,0] ?_
 exact jc (rc := rc1) rfl (.cons 2 rfl .nil) rfl (a61, c62) (.cons 2 rfl (.cons 0 rfl (.cons 1 rfl .nil))) (.cons 0 rfl .nil)
 rintro x46 _ ⟨a44, c45⟩ D1
 try dsimp only
 refine au [24,0,1,2,3,25,12,5,0,1,8] ?_
 exact vr [D1] (a44, c45) (.inl rfl) rfl (.cons 0 rfl .nil) (res1 rfl rfl) (fun h => by subst h; rfl) (fun h => by subst h; exact (.cons 0 rfl .nil)) (fun h => by subst h; exact (.cons 0 rfl .nil))
 intro t; exact t.elim
theorem yx {F : Nat} {g1 : Nat} {x2 : List (List Int)} {a3 : Option Addr} {c4 : Nat} {s4 : List (Option Addr × Nat)} {r : List (Int × Int)} (hm : qG F x2 = some r) :
    PureM Tryz.prog 34 [.func (.func 42) #[] #[.pointer (some ⟨g1, 0, none⟩)]] [⟨g1, 24, [.slice a3 x2.length c4]⟩] [] [SlN eN66 iN66 1 (.slice a3 x2.length c4) x2 s4] (Option Addr × Nat) (fun g => .slice g.1 r.length g.2) (fun _ => [⟨g1, 24, [.slice a3 x2.length c4]⟩]) (fun g => [Ro eS44 44 2 (.slice g.1 r.length g.2) r]) := by
 refine yb Tryz.func34 rfl Tryz.ntmps34 rfl hm (fun w => ?_)
 refine au [24,12,2,3,5,0,1,2,3,4,29,15] ?_
 refine zU kA ?_
 rintro x5 e5 ⟨a6, c7⟩
 refine au [5,0,1,8] ?_
 exact zp (a6, c7)
theorem qda {F : Nat} {x1 : List (List Int)} {a2 : Option Addr} {c3 : Nat} {s3 : List (Option Addr × Nat)} {r : (List (Int × Int) × Int)} (hm : y5 F x1 = some r) :
    Pure Tryz.prog 15 [.agg #[.slice a2 x1.length c3]] [SlN eN66 iN66 1 (.slice a2 x1.length c3) x1 s3] (Option Addr × Nat) (fun g => .tuple #[.slice g.1 r.1.length g.2, .int .i64 r.2]) (fun g => [Ro eS44 44 2 (.slice g.1 r.1.length g.2) r.1]) (fun _ => []) := by
 refine qM Tryz.func15 rfl Tryz.ntmps15 rfl hm (fun w => ?_)
 refine au [24,12,2,3,25,0] ?_
 intro g4
 refine au [5,5,0,1,2,2,3,24,13,26,8] ?_
 intro x7 e7 _
 refine av [5,0,1,2,3,4,25,3,0,1,9] ?_ ?_
 intro _
 refine au [2,3,4,5,5,0,1,8,7] ?_
 exact qaV (Int × Int) eS44 44 2 (yw (none, 0))
 intro _
 refine au [10,1,2,3,24,13,26,11] ?_
 intro x8 e8 g9
 refine au [30,12] ?_
 rintro x10 e10 ⟨a11, c12⟩
 refine au [5,5,0,1,8] ?_
 exact yw (a11, c12)
end Go.Proofs.YtfjkpdlcdceenaaGreatDoor
