/- Each Go function of this seat computes what its model says, part 2. -/
import Derived.Test.YtpnfijegoepiaaaGreatWalks
namespace Go.Proofs.YtpnfijegoepiaaaGreat
open Go SX
theorem qii {F : Nat} {x1 : List Int} {a2 : Option Addr} {c3 : Nat} {x4 : Int} {r : (List (Int × Int) × List Int)} (hm : qbX F x1 x4 = some r) :
    PureM Tryz.prog 73 [.slice a2 x1.length c3, .int .i64 x4] [] [] [Sl (eI .i64) 1 (.slice a2 x1.length c3) x1] ((Option Addr × Nat) × (Option Addr × Nat)) (fun g => .tuple #[.slice g.1.1 r.1.length g.1.2, .slice g.2.1 r.2.length g.2.2]) (fun _ => []) (fun g => [Ro eS141 141 2 (.slice g.1.1 r.1.length g.1.2) r.1, Ro (eI .i64) 3 1 (.slice g.2.1 r.2.length g.2.2) r.2]) := by
 refine qeR Tryz.func73 rfl Tryz.ntmps73 rfl hm (fun w => ?_)
 refine au [24,12,3,4,24,3] ?_
 intro g5
 refine au [24,7] ?_
 intro g6
 refine au [24,7] ?_
 intro g7
 refine au [0,2,3,3,4,1] ?_
 refine q9 qhl ?_
 intro x188 e188 g189
 refine au [0,2,17,27,1] ?_
 refine qb7 (Int × Int) eS141 141 2 (qdZ (encs := (fun (p : (Int × Int)) => [.agg #[.int .i64 p.1, .int .i64 p.2]])) (y := (fun ((x252, x255) : (List Int × List (Int × Int))) ((x312, x313) : (Int × Int)) => jw F x4 x252 x255 x312 x313)) (lb := [.pointer (some ⟨g189, 0, none⟩)]) (fun ((x252, x255) : (List Int × List (Int × Int))) ((a250, c251, a253, c254) : (Option Addr × Nat × Option Addr × Nat)) => [⟨g7, 37, [.slice a250 x252.length c251]⟩, ⟨g6, 117, [.slice a253 x255.length c254]⟩, ⟨g5, 3, [.int .i64 x4]⟩]) (fun ((x252, x255) : (List Int × List (Int × Int))) ((a250, c251, a253, c254) : (Option Addr × Nat × Option Addr × Nat)) => [Ro (eI .i64) 3 1 (.slice a250 x252.length c251) x252, Ro eS141 141 2 (.slice a253 x255.length c254) x255]) (fun (_ : Empty) (_ : Unit) => []) (fun (_ : Empty) (_ : Unit) => []) (fun _ => .skip) (([] : List Int), ([] : List (Int × Int))) (none, 0, none, 0) rfl ent117 (fun _ => rfl) rfl (.cons 0 rfl .nil) (.cons 0 rfl (.cons 0 rfl (.cons 0 rfl .nil))) (.cons 1 rfl (.cons 0 rfl .nil)) (.consF 0 rfl .nil) (fun z hz _ _ _ hY => qfr F hY (([] : List Int), ([] : List (Int × Int))) (none, 0, none, 0) g189 x1 a2 c3 z hz) ?_ ?_ ?_)
 rintro rc1 L1 D1 ⟨x252, x255⟩ ⟨a250, c251, a253, c254⟩ ⟨x312, x313⟩ z w M _
 try dsimp only
 refine qe6 [(0, .slice a2 x1.length c3), (1, .int .i64 x4), (3, .pointer (some ⟨g5, 0, none⟩)), (4, .pointer (some ⟨g6, 0, none⟩)), (5, .pointer (some ⟨g7, 0, none⟩)), (8, .slice a2 x1.length c3), (9, .func (.func 117) #[] #[.pointer (some ⟨g189, 0, none⟩)]), (10, .agg #[.int .i64 x312, .int .i64 x313])] (qD rfl (qD rfl (qD rfl (qD rfl (qD rfl (qD rfl (qD rfl (qD rfl qc4)))))))) ?_
 refine au [4,24,7] ?_
 intro g314
 refine av [22,0,31,10,17,3,3,4,13,24,1,26,6,26,3,0,2,10] ?_ ?_
 intro _
 refine au [3,4,26,11,24,11] ?_
 refine qF (vs := [.agg #[.int .i64 x312, .int .i64 x313]]) (ys := ([(x312, x313)] : List (Int × Int))) qbJ (by decide) rfl Tryz.underlying117 tf141 rfl rfl rfl rfl rfl (by decide) (fun a321 c322 => kh 2 qbJ rfl Tryz.underlying117 tf141 rfl rfl rfl rfl rfl (.inl ⟨0, _, rfl⟩) rfl rfl (fun x323 e323 a324 c325 => ?_))
 refine au [27,2,0,2,24,13,21,24,14] ?_
 exact qcG (rc := rc1) rfl (.cons 4 rfl .nil) rfl (a250, c251, a324, c325) (.cons 2 rfl (.cons 2 rfl (.cons 2 rfl (.cons 0 rfl (.cons 1 rfl .nil))))) (.cons 2 rfl (.cons 0 rfl .nil))
 intro _
 refine au [11,2,3,4,13,24,1,1,0,2,17] ?_
 refine qt (fun (((x338, x341), (a339, c340)) : ((Int × List Int) × (Option Addr × Nat))) => ([(3, .pointer (some ⟨g5, 0, none⟩)), (4, .pointer (some ⟨g6, 0, none⟩)), (5, .pointer (some ⟨g7, 0, none⟩)), (6, .pointer (some ⟨g314, 0, none⟩)), (20, .int .i64 x313), (21, .int .i64 x338)], [⟨g314, 141, [.int .i64 x312, .int .i64 x313]⟩, ⟨g7, 37, [.slice a339 x341.length c340]⟩, ⟨g6, 117, [.slice a253 x255.length c254]⟩, ⟨g5, 3, [.int .i64 x4]⟩, (blkO L1 (.loop (bsy rc1))), (dblk D1)], [Ro (eI .i64) 3 1 (.slice a339 x341.length c340) x341, Ro eS141 141 2 (.slice a253 x255.length c254) x255], [])) (fun k (s : ((Int × List Int) × (Option Addr × Nat))) => vt F x255 x312 x313 k s.1) ((0, x252), (a250, c251)) F ?_
 intro k354
 rintro ⟨⟨x338, x341⟩, ⟨a339, c340⟩⟩
 try dsimp only
 refine qJ (m' := qaD F x255 x312 x313 (vt F x255 x312 x313 k354) x338 x341) rfl ?_
 refine av [3,4,24,4,0,2,3,10] ?_ ?_
 intro _
 refine au [11,2,3,17,3,4,1,5,0,2,4,25,3,13,24,1,1,18] ?_
 refine qF (vs := [.int .i64 (iadd .i64 x312 x338)]) (ys := ([iadd .i64 x312 x338] : List Int)) (qv .i64) (by decide) rfl Tryz.underlying37 tf3 rfl rfl rfl rfl rfl (by decide) (fun a361 c362 => kh 1 (qv .i64) rfl Tryz.underlying37 tf3 rfl rfl rfl rfl rfl (.inl ⟨0, _, rfl⟩) rfl rfl (fun x363 e363 a364 c365 => ?_))
 refine au [25,11,0,24,8,2,4,18,1,0] ?_
 exact qm ((iadd .i64 x338 1, x363), (a364, c365))
 intro _
 refine au [24,13,21,21,24,14,24,8] ?_
 exact qcG (rc := rc1) rfl (.cons 4 rfl .nil) rfl (a339, c340, a253, c254) (.cons 2 rfl (.cons 2 rfl (.cons 2 rfl (.cons 0 rfl (.cons 1 rfl .nil))))) (.cons 0 rfl (.cons 0 rfl .nil))
 rintro ⟨x252, x255⟩ _ ⟨a250, c251, a253, c254⟩ D1
 try dsimp only
 refine au [24,8,2,3] ?_
 refine qs mixed [] [(dblk D1), ⟨g189, 37, [.slice a2 x1.length c3]⟩, ⟨g7, 37, [.slice a250 x252.length c251]⟩, ⟨g6, 117, [.slice a253 x255.length c254]⟩, ⟨g5, 3, [.int .i64 x4]⟩] [Sl (eI .i64) 1 (.slice a2 x1.length c3) x1] (.cons 0 rfl (.cons 0 rfl (.cons 0 rfl (.cons 0 rfl (.cons 0 rfl .nil))))) (qO 0 rfl qr) 4 rfl ?_
 refine au [27,9,0,28,15,1,24,0,2] ?_
 refine ja (i := 3) rfl rfl rfl inferInstance rfl rfl rfl rfl rfl ?_
 refine au [0,31,11,24,0,3,27,2,0,31,11,24,6] ?_
 refine qy ?_ (by intro c h; cases h)
 refine au [2,9] ?_
 exact qcE [D1] ((a253, c254), (a250, c251)) (.inl rfl) rfl (.cons 0 rfl .nil) (resL (rs := [.cell 4 117, .cell 5 37]) rfl (.cell (i := 2) rfl tf117 rfl rfl (fun _ => rfl) rfl (.cell (i := 1) rfl tf37 rfl rfl (fun _ => rfl) rfl ResOk.nil)) rfl) (fun h => by subst h; rfl) (fun h => by subst h; exact .nil) (fun h => by subst h; exact (.cons 1 rfl (.cons 0 rfl .nil)))
 intro t; exact t.elim
theorem qfu {F : Nat} {x1 : Int} {r : Int} (hm : jz F x1 = some r) :
    Pure Tryz.prog 99 [.int .i64 x1] [] Unit (fun _ => .int .u64 r) (fun _ => []) (fun _ => []) := by
 refine qj Tryz.func99 rfl Tryz.ntmps99 rfl hm (fun w => ?_)
 refine au [25,8,3,4,5,0,2,3,4,1,25,6,31,12,1,27,12,25,6,31,13,5,26,5] ?_
 intro x2 e2
 refine qc (d := 2) (v := .int .u64 x2) rfl (by rw [e2] <;> rfl) ?_
 exact az [0,2,9,16]
theorem qcZ {F : Nat} {g1 : Nat} {x2 : Int} {x3 : List Int} {a4 : Option Addr} {c5 : Nat} {x6 : Bool} {x7 : Int} {x8 : Int} {x9 : List (Int × Int)} {a10 : Option Addr} {c11 : Nat} {r : (Int × List Int × Bool)} (hm : yX F x2 x3 x6 x7 x8 x9 = some r) :
    PureM Tryz.prog 74 [.pointer (some ⟨g1, 0, none⟩), .int .i64 x7, .int .i64 x8, .slice a10 x9.length c11] [⟨g1, 90, [.int .i64 x2, .slice a4 x3.length c5, .bool x6]⟩] [Ro (eI .u8) 5 1 (.slice a4 x3.length c5) x3] [Sl eS141 2 (.slice a10 x9.length c11) x9] (Option Addr × Nat) (fun _ => .tuple #[]) (fun g => [⟨g1, 90, [.int .i64 r.1, .slice g.1 r.2.1.length g.2, .bool r.2.2]⟩]) (fun g => [Ro (eI .u8) 5 1 (.slice g.1 r.2.1.length g.2) r.2.1]) := by
 refine zC Tryz.func74 rfl Tryz.ntmps74 rfl hm (fun w => ?_)
 refine au [26,9,3,4,1,1,24,2,27,7] ?_
 rintro x12 e12 ⟨a13, c14⟩
 refine au [0,2,3,4,1,5,0,2,3,4,1,24,2,1,0,2,17] ?_
 refine qt (fun (((x73, x74, x75, x78, x79), (a76, c77)) : ((Int × Int × Int × List Int × Bool) × (Option Addr × Nat))) => ([(0, .pointer (some ⟨g1, 0, none⟩)), (2, .int .i64 x8), (8, .int .i64 x73), (16, .slice a10 x9.length c11), (17, .int .i64 (x9.length : Int)), (18, .int .i64 x74)], [⟨g1, 90, [.int .i64 x75, .slice a76 x78.length c77, .bool x79]⟩], [Ro (eI .u8) 5 1 (.slice a76 x78.length c77) x78], [Sl eS141 2 (.slice a10 x9.length c11) x9])) (fun k (s : ((Int × Int × Int × List Int × Bool) × (Option Addr × Nat))) => qZ F x8 x9 k s.1) ((x7, 0, x12.1, x12.2.1, x12.2.2), (a13, c14)) F ?_
 intro k138
 rintro ⟨⟨x73, x74, x75, x78, x79⟩, ⟨a76, c77⟩⟩
 try dsimp only
 refine qJ (m' := kY F x8 x9 (qZ F x8 x9 k138) x73 x74 x75 x78 x79) rfl ?_
 refine av [3,4,24,4,0,2,3,10] ?_ ?_
 intro _
 refine au [11,2,3,17,3,4,1,29,11] ?_
 intro x168 e168 b169 o170
 refine au [29,12,24,7] ?_
 intro g171
 refine au [5,22,0,2] ?_
 refine qe (fun (((x180, x183, x184), (a181, c182)) : ((Int × List Int × Bool) × (Option Addr × Nat))) => ([(0, .pointer (some ⟨g1, 0, none⟩)), (2, .int .i64 x8), (10, .pointer (some ⟨g171, 0, none⟩)), (16, .slice a10 x9.length c11), (17, .int .i64 (x9.length : Int)), (18, .int .i64 x74)], [⟨g1, 90, [.int .i64 x180, .slice a181 x183.length c182, .bool x184]⟩, ⟨g171, 141, [.int .i64 x168.1, .int .i64 x168.2]⟩], [Ro (eI .u8) 5 1 (.slice a181 x183.length c182) x183], [Sl eS141 2 (.slice a10 x9.length c11) x9], kd F (qZ F x8 x9 k138) x8 x74 x168 x180 x183 x184)) ?_ ?_
 refine av [3,4,1,24,9,0,2,10] ?_ ?_
 intro _
 refine au [4,1,13,24,1,1,24,15,31,14] ?_
 intro x188 e188 _
 refine au [25,6,27,7] ?_
 rintro x189 e189 ⟨a190, c191⟩
 refine au [0] ?_
 exact qa ((x189.1, x189.2.1, x189.2.2), (a190, c191))
 intro _
 refine au [4,1,13,24,1,1,24,15,24,15,27,7] ?_
 rintro x192 e192 ⟨a193, c194⟩
 refine au [0] ?_
 exact qa ((x192.1, x192.2.1, x192.2.2), (a193, c194))
 rintro ⟨⟨x180, x183, x184⟩, ⟨a181, c182⟩⟩
 try dsimp only
 refine au [3,4,1,13,25,3,1,24,15,27,7] ?_
 rintro x185 e185 ⟨a186, c187⟩
 refine au [0,2,4,13,25,3,13,25,3,18,24,15,5,0,24,8,2,4,18,1,0] ?_
 exact qm ((isub .i64 (iadd .i64 x168.1 x168.2) 1, iadd .i64 x74 1, x185.1, x185.2.1, x185.2.2), (a186, c187))
 intro _
 refine au [24,13,21,21,24,14] ?_
 exact zv (a76, c77)
theorem qfn {F : Nat} {x1 : Int} {x2 : Int} {r : (Int × Int × Int)} (hm : qaz F x1 x2 = some r) :
    Pure Tryz.prog 118 [.int .u64 x1, .int .i64 x2] [] Unit (fun _ => .tuple #[.int .i64 r.1, .int .u64 r.2.1, .int .u64 r.2.2]) (fun _ => []) (fun _ => []) := by
 refine qj Tryz.func118 rfl Tryz.ntmps118 rfl hm (fun w => ?_)
 refine au [24,12,3,4,5,5,5,0,2,3,4,1,18,29,8] ?_
 intro x3 e3 _
 refine au [24,15,1,26,4] ?_
 intro h4
 refine qg1 rfl rfl rfl rfl h4 ?_
 refine au [5,0,2,3,27,11] ?_
 intro h11
 refine au [27,11] ?_
 intro h13
 refine qs mixed [] [] [] .nil qr 14 rfl ?_
 refine au [6,0,6,1,6,2,6,3] ?_
 refine qn 4 (.int .u64 (ishl .u64 1 (imul .i64 (iquo .i64 (isub .i64 x3 1) x2) x2))) rfl rfl rfl (qd1 rfl rfl h11) ?_
 refine au [6,5,6,6,6,7,6,8,6,9] ?_
 refine qn 10 (.int .u64 (ishl .u64 1 (iadd .i64 (imul .i64 (iquo .i64 (isub .i64 x3 1) x2) x2) x2))) rfl rfl rfl (qd1 rfl rfl h13) ?_
 refine au [6,11,6,12,6,13,24,6] ?_
 refine qy ?_ (by intro c h; cases h)
 exact az [2,9,16]
theorem qeq {F : Nat} {x1 : Int} {r : (Int × Int)} (hm : vW F x1 = some r) :
    Pure Tryz.prog 135 [.int .u64 x1] [] Unit (fun _ => .tuple #[.int .i64 r.1, .int .u64 r.2]) (fun _ => []) (fun _ => []) := by
 refine qj Tryz.func135 rfl Tryz.ntmps135 rfl hm (fun w => ?_)
 refine au [25,8,3,4,5,5,0,2,3,4,1,24,15,29,8] ?_
 intro x2 e2 _
 refine au [5,0,2,3,27,11] ?_
 intro h6
 refine qs mixed [] [] [] .nil qr 7 rfl ?_
 refine au [6,0,6,1] ?_
 refine qn 2 (.int .u64 (ishl .u64 1 x2)) rfl rfl rfl (qd1 rfl rfl h6) ?_
 refine au [6,3,6,4,6,5,6,6,24,6] ?_
 refine qy ?_ (by intro c h; cases h)
 exact az [2,9,16]
theorem qdg {F : Nat} {x1 : Int} {x2 : List Int} {a3 : Option Addr} {c4 : Nat} {x5 : Int} {x6 : Int} {r : (Int × List Int)} (hm : vz F x1 x2 x5 x6 = some r) :
    Pure Tryz.prog 119 [.agg #[.int .i64 x1, .slice a3 x2.length c4], .int .u64 x5, .int .u64 x6] [Sl (eI .u8) 1 (.slice a3 x2.length c4) x2] (Option Addr × Nat) (fun g => .agg #[.int .i64 r.1, .slice g.1 r.2.length g.2]) (fun g => [Ro (eI .u8) 5 1 (.slice g.1 r.2.length g.2) r.2]) (fun _ => []) := by
 refine qj Tryz.func119 rfl Tryz.ntmps119 rfl hm (fun w => ?_)
 refine au [25,13,3,4,24,3] ?_
 intro g7
 refine au [24,7] ?_
 intro g8
 refine au [0,2,3,4,1,31,15] ?_
 intro x9 e9 _
 refine av [1,14,14,5,5,0,2,3,3,4,1,1,24,4,0,2,10] ?_ ?_
 intro _
 refine au [3,4,25,2,1,1,24,15,28,3] ?_
 rintro x14 e14 ⟨a15, c16⟩
 refine au [22,0,2,9,12] ?_
 exact qR (a15, c16) (resL (rs := [.cell 6 29]) rfl (.cell (i := 0) rfl tf29 rfl rfl (by simp) rfl ResOk.nil) rfl) (fun h => by subst h; exact (.cons 0 rfl .nil))
 intro _
 refine au [11,2,3,4,25,2,1,1,18,1,28,3] ?_
 rintro x17 e17 ⟨a18, c19⟩
 refine au [22,0,2,9] ?_
 exact qR (a18, c19) (resL (rs := [.cell 6 29]) rfl (.cell (i := 0) rfl tf29 rfl rfl (by simp) rfl ResOk.nil) rfl) (fun h => by subst h; exact (.cons 0 rfl .nil))
theorem qfm {F : Nat} {x1 : Int} {x2 : Int} {r : (Int × List Int × Int)} (hm : qay F x1 x2 = some r) :
    Pure Tryz.prog 100 [.int .u64 x1, .int .i64 x2] [] (Option Addr × Nat) (fun g => .tuple #[.agg #[.int .i64 r.1, .slice g.1 r.2.1.length g.2], .int .i64 r.2.2]) (fun g => [Ro (eI .u8) 5 1 (.slice g.1 r.2.1.length g.2) r.2.1]) (fun _ => []) := by
 refine qj Tryz.func100 rfl Tryz.ntmps100 rfl hm (fun w => ?_)
 refine au [24,12,3,4,24,7] ?_
 intro g3
 refine au [5,0,2,3,3,4,1,24,4,1] ?_
 refine qk 3 (decide (x2 < 1)) [(0, .int .u64 x1), (1, .int .i64 x2), (4, .pointer (some ⟨g3, 0, none⟩)), (14, .bool ((decide (x2 < 1)) || (decide (16 < x2))))] (fun h7 => ?_) (fun h7 => ?_) ?_
 refine qb (os := _) rfl (qi (k := 11) rfl h7 ?_)
 refine au [7,7,19] ?_
 refine qc (d := 14) (v := .bool ((decide (x2 < 1)) || (decide (16 < x2)))) rfl (by rw [h7]; simp only [Bool.true_or]) ?_
 exact az [0,15]
 refine qb (os := _) rfl (qh (k := 11) rfl h7 ?_)
 refine au [1,24,10,20] ?_
 refine qc (d := 14) (v := .bool ((decide (x2 < 1)) || (decide (16 < x2)))) rfl (by rw [h7]; simp only [Bool.false_or]) ?_
 exact az [0,15]
 refine qb (os := _) rfl ?_
 refine au [1] ?_
 refine qk 3 ((decide (x2 < 1)) || (decide (16 < x2))) [(0, .int .u64 x1), (1, .int .i64 x2), (4, .pointer (some ⟨g3, 0, none⟩)), (18, .bool (((decide (x2 < 1)) || (decide (16 < x2))) || (decide (1099511627776 < x1))))] (fun h8 => ?_) (fun h8 => ?_) ?_
 refine qb (os := _) rfl (qi (k := 15) rfl h8 ?_)
 refine au [7,7,19] ?_
 refine qc (d := 18) (v := .bool (((decide (x2 < 1)) || (decide (16 < x2))) || (decide (1099511627776 < x1)))) rfl (by rw [h8]; simp only [Bool.true_or]) ?_
 exact az [0,15]
 refine qb (os := _) rfl (qh (k := 15) rfl h8 ?_)
 refine au [1,24,10,20] ?_
 refine qc (d := 18) (v := .bool (((decide (x2 < 1)) || (decide (16 < x2))) || (decide (1099511627776 < x1)))) rfl (by rw [h8]; simp only [Bool.false_or]) ?_
 exact az [0,15]
 refine qb (os := _) rfl ?_
 refine av [0,2,10] ?_ ?_
 intro _
 refine au [3,4] ?_
 refine ql (cells := [.int .i64 0, .slice none 0 0]) rfl st29 rfl (by kernel_rfl) rfl ?_
 refine au [22,5,0,2,9,12,26,0] ?_
 exact qR (none, 0) (resL (rs := [.cell 4 29, .tmp 5]) rfl (.cell (i := 0) rfl tf29 rfl rfl (by simp) rfl (.tmp rfl ResOk.nil)) rfl) (fun h => by subst h; exact (.cons 0 rfl .nil))
 intro _
 refine au [11,2,3,4,1,1] ?_
 refine qg qfn ?_
 intro x9 e9 _
 refine au [1,14,14,14,5,5,5,0,2,3,4,1,25,6,31,3] ?_
 rintro x10 e10 ⟨a11, c12⟩
 refine au [1,18,1,24,15,1,1,24,15] ?_
 refine qg qdg ?_
 rintro x13 e13 ⟨a14, c15⟩
 refine au [22,5,0,2,9] ?_
 exact qR (a14, c15) (resL (rs := [.cell 4 29, .tmp 5]) rfl (.cell (i := 0) rfl tf29 rfl rfl (by simp) rfl (.tmp rfl ResOk.nil)) rfl) (fun h => by subst h; exact (.cons 0 rfl .nil))
theorem qif {F : Nat} {x1 : Int} {x2 : List Int} {a3 : Option Addr} {c4 : Nat} {x5 : List Int} {a6 : Option Addr} {c7 : Nat} {x8 : Int} {r : (Int × List Int × Bool)} (hm : jN F x1 x2 x5 x8 = some r) :
    PureM Tryz.prog 75 [.agg #[.int .i64 x1, .slice a3 x2.length c4], .slice a6 x5.length c7, .int .i64 x8] [] [Ro (eI .u8) 5 1 (.slice a3 x2.length c4) x2] [Sl (eI .u64) 1 (.slice a6 x5.length c7) x5] (Option Addr × Nat) (fun g => .tuple #[.agg #[.int .i64 r.1, .slice g.1 r.2.1.length g.2], .bool r.2.2]) (fun _ => []) (fun g => [Ro (eI .u8) 5 1 (.slice g.1 r.2.1.length g.2) r.2.1]) := by
 refine zC Tryz.func75 rfl Tryz.ntmps75 rfl hm (fun w => ?_)
 refine au [25,13,3,4,24,3] ?_
 intro g9
 refine au [24,7] ?_
 intro g10
 refine au [5,0,2] ?_
 refine qe (fun (((x107, x110), (a108, c109)) : ((Int × List Int) × (Option Addr × Nat))) => ([(3, .pointer (some ⟨g9, 0, none⟩)), (6, .pointer (some ⟨g10, 0, none⟩))], [⟨g10, 29, [.int .i64 0, .slice none 0 0]⟩, ⟨g9, 29, [.int .i64 x107, .slice a108 x110.length c109]⟩], [Ro (eI .u8) 5 1 (.slice a108 x110.length c109) x110], [], qcJ F x107 x110)) ?_ ?_
 refine au [3,4,1,24,2,1,0,2,17] ?_
 refine qt (fun (((x141, x142, x145), (a143, c144)) : ((Int × Int × List Int) × (Option Addr × Nat))) => ([(2, .int .i64 x8), (3, .pointer (some ⟨g9, 0, none⟩)), (6, .pointer (some ⟨g10, 0, none⟩)), (12, .slice a6 x5.length c7), (13, .int .i64 (x5.length : Int)), (14, .int .i64 x141)], [⟨g10, 29, [.int .i64 0, .slice none 0 0]⟩, ⟨g9, 29, [.int .i64 x142, .slice a143 x145.length c144]⟩], [Ro (eI .u8) 5 1 (.slice a143 x145.length c144) x145], [Sl (eI .u64) 1 (.slice a6 x5.length c7) x5])) (fun k (s : ((Int × Int × List Int) × (Option Addr × Nat))) => vq F x5 x8 k s.1) ((0, x1, x2), (a3, c4)) F ?_
 intro k176
 rintro ⟨⟨x141, x142, x145⟩, ⟨a143, c144⟩⟩
 try dsimp only
 refine qJ (m' := qaw F x5 x8 (vq F x5 x8 k176) x141 x142 x145) rfl ?_
 refine av [3,4,24,4,0,2,3,10] ?_ ?_
 intro _
 refine au [11,2,3,17,3,4] ?_
 refine qaj (j := 0) (qv .u64) (by decide) rfl UnF.u inferInstance rfl rfl rfl rfl ?_
 intro x192 e192 b193 o194
 refine au [25,12,5,0,2,3,4,1,1] ?_
 refine qg qfm ?_
 rintro x195 e195 ⟨a196, c197⟩
 refine au [1,14,14,24,7] ?_
 intro g198
 refine au [22,5,0,2,3,3,4,1,25,0,1] ?_
 refine qk 7 ((x195.2.2 : Int) != 0) [(2, .int .i64 x8), (3, .pointer (some ⟨g9, 0, none⟩)), (6, .pointer (some ⟨g10, 0, none⟩)), (12, .slice a6 x5.length c7), (13, .int .i64 (x5.length : Int)), (14, .int .i64 x141), (10, .pointer (some ⟨g198, 0, none⟩)), (33, .bool (((x195.2.2 : Int) != 0) || (decide (8192 < (iadd .i64 x142 x195.1)))))] (fun h201 => ?_) (fun h201 => ?_) ?_
 refine qb (os := _) rfl (qi (k := 26) rfl h201 ?_)
 refine au [7,7,7,7,7,7,19] ?_
 refine qc (d := 33) (v := .bool (((x195.2.2 : Int) != 0) || (decide (8192 < (iadd .i64 x142 x195.1))))) rfl (by rw [h201]; simp only [Bool.true_or]) ?_
 exact az [0,15]
 refine qb (os := _) rfl (qh (k := 26) rfl h201 ?_)
 refine au [13,26,11,13,24,1,18,24,10,20] ?_
 refine qc (d := 33) (v := .bool (((x195.2.2 : Int) != 0) || (decide (8192 < (iadd .i64 x142 x195.1))))) rfl (by rw [h201]; simp only [Bool.false_or]) ?_
 exact az [0,15]
 refine qb (os := _) rfl ?_
 refine av [0,2,10] ?_ ?_
 intro _
 refine au [3,4] ?_
 refine ql (cells := [.int .i64 0, .slice none 0 0]) rfl st29 rfl (by kernel_rfl) rfl ?_
 refine au [25,11,5,0,2,9,12,24,5,12,12,24,5,12,26,0] ?_
 exact yK (none, 0) (resL (rs := [.cell 6 29, .tmp 7]) rfl (.cell (i := 1) rfl tf29 rfl rfl (by simp) rfl (.tmp rfl ResOk.nil)) rfl) (hR := fun h => by subst h; exact (.cons 0 rfl .nil))
 intro _
 refine au [11,2,4,25,14,24,11,28,2] ?_
 rintro x202 e202 ⟨a203, c204⟩
 refine au [27,2,0,24,8,2,4,18,1,0] ?_
 exact qm ((iadd .i64 x141 1, x202.1, x202.2), (a203, c204))
 intro _
 refine au [24,13,21,21,24,14] ?_
 exact qa ((x142, x145), (a143, c144))
 rintro ⟨⟨x107, x110⟩, ⟨a108, c109⟩⟩
 try dsimp only
 refine au [3,4,25,2,22,5,0,2,9] ?_
 exact yK (a108, c109) (resL (rs := [.cell 6 29, .tmp 7]) rfl (.cell (i := 0) rfl tf29 rfl rfl (by simp) rfl (.tmp rfl ResOk.nil)) rfl) (hR := fun h => by subst h; exact (.cons 0 rfl .nil))
theorem qde {F : Nat} {g1 : Nat} {x2 : Int} {x3 : Bool} {x4 : Int} {r : (Int × Int × Bool)} (hm : vx F x2 x3 x4 = some r) :
    PureM Tryz.prog 101 [.pointer (some ⟨g1, 0, none⟩), .int .i64 x4] [⟨g1, 162, [.int .i64 x2, .bool x3]⟩] [] [] Unit (fun _ => .int .u64 r.1) (fun _ => [⟨g1, 162, [.int .i64 r.2.1, .bool r.2.2]⟩]) (fun _ => []) := by
 refine zC Tryz.func101 rfl Tryz.ntmps101 rfl hm (fun w => ?_)
 refine au [24,12,3,4,5,0,2] ?_
 refine qe (fun ((x8, _) : (Int × Unit)) => ([(0, .pointer (some ⟨g1, 0, none⟩)), (1, .int .i64 x4), (4, .int .u64 x8)], [⟨g1, 162, [.int .i64 x2, .bool x3]⟩], [], [], vV F x4 x8)) ?_ ?_
 refine av [3,4,1,25,1,13,24,1,0,2,10] ?_ ?_
 intro _
 refine au [4,1,1,25,1,13,24,1,24,15,24,15,25,6,5,26,5] ?_
 intro x9 e9
 refine qc (d := 4) (v := .int .u64 x9) rfl (by rw [e9] <;> rfl) ?_
 refine au [0] ?_
 exact qa (x9, ())
 intro _
 refine au [4,1,1,25,1,13,24,1,24,15,31,14] ?_
 intro x10 e10 _
 refine au [5,0] ?_
 exact qa (x10, ())
 rintro ⟨x8, _⟩
 try dsimp only
 exact az [3,4,1,1,1,25,1,13,22,25,1,13,22,0,2,3,4,1,5,0,2,9,29,13]
theorem qig {F : Nat} {x1 : List Int} {a2 : Option Addr} {c3 : Nat} {x4 : Int} {r : List Int} (hm : qa4 F x1 x4 = some r) :
    Pure Tryz.prog 76 [.slice a2 x1.length c3, .int .i64 x4] [Sl (eI .i64) 1 (.slice a2 x1.length c3) x1] (Option Addr × Nat) (fun g => .slice g.1 r.length g.2) (fun g => [Ro (eI .u64) 50 1 (.slice g.1 r.length g.2) r]) (fun _ => []) := by
 refine qj Tryz.func76 rfl Tryz.ntmps76 rfl hm (fun w => ?_)
 refine au [24,12,3,4,5,0,2,3,4,1] ?_
 refine ql (cells := [.int .i64 x4, .bool false]) rfl st162 rfl (by kernel_rfl) rfl ?_
 refine au [24,3] ?_
 intro g5
 refine au [5,0,2,3,4,5,0,2] ?_
 refine qe (fun ((x75, (a73, c74)) : (List Int × (Option Addr × Nat))) => ([(6, .slice a73 x75.length c74)], [], [Ro (eI .u64) 50 1 (.slice a73 x75.length c74) x75], [], qbB F x75)) ?_ ?_
 refine au [3,4,1,24,2,1,0,2,17] ?_
 refine qb7 Int (eI .u64) 50 1 (qt (fun (((x98, x99, x100, x101), (a96, c97)) : ((List Int × Int × Int × Bool) × (Option Addr × Nat))) => ([(5, .pointer (some ⟨g5, 0, none⟩)), (6, .slice a96 x98.length c97), (12, .slice a2 x1.length c3), (13, .int .i64 (x1.length : Int)), (14, .int .i64 x99)], [⟨g5, 162, [.int .i64 x100, .bool x101]⟩], [Ro (eI .u64) 50 1 (.slice a96 x98.length c97) x98], [Sl (eI .i64) 1 (.slice a2 x1.length c3) x1])) (fun k (s : ((List Int × Int × Int × Bool) × (Option Addr × Nat))) => vr F x1 k s.1) ((([] : List Int), 0, x4, false), (none, 0)) F ?_)
 intro k122
 rintro ⟨⟨x98, x99, x100, x101⟩, ⟨a96, c97⟩⟩
 try dsimp only
 refine qJ (m' := qax F x1 (vr F x1 k122) x98 x99 x100 x101) rfl ?_
 refine av [3,4,24,4,0,2,3,10] ?_ ?_
 intro _
 refine au [11,2,3,17,3,4,26,8] ?_
 intro x133 e133 b134 o135
 refine au [25,12,5,0,2,4,1,1,1] ?_
 refine q9 qde ?_
 intro x136 e136 _
 refine qF (vs := [.int .u64 x136.1]) (ys := ([x136.1] : List Int)) (qv .u64) (by decide) rfl Tryz.underlying123 tf50 rfl rfl rfl rfl rfl (by decide) (fun a137 c138 => kh 1 (qv .u64) rfl Tryz.underlying123 tf50 rfl rfl rfl rfl rfl (.inl ⟨0, _, rfl⟩) rfl rfl (fun x139 e139 a140 c141 => ?_))
 refine au [5,0,24,8,2,4,18,1,0] ?_
 exact qm ((x139, iadd .i64 x99 1, x136.2.1, x136.2.2), (a140, c141))
 intro _
 refine au [24,13,21,21,24,14] ?_
 exact qa (x98, (a96, c97))
 rintro ⟨x75, ⟨a73, c74⟩⟩
 try dsimp only
 refine au [3,4,1,5,0,2,9] ?_
 exact qu (a73, c74)
set_option maxHeartbeats 4000000 in
theorem qcY {F : Nat} {g1 : Nat} {x2 : Int} {x3 : List Int} {a4 : Option Addr} {c5 : Nat} {x6 : Bool} {x7 : Int} {x8 : List Int} {a9 : Option Addr} {c10 : Nat} {x11 : List Int} {a12 : Option Addr} {c13 : Nat} {x14 : Int} {x15 : Int} {x16 : Int} {r : (Int × List Int × Bool)} (hm : kS F x2 x3 x6 x7 x8 x11 x14 x15 x16 = some r) :
    PureM Tryz.prog 49 [.pointer (some ⟨g1, 0, none⟩), .int .i64 x7, .slice a9 x8.length c10, .slice a12 x11.length c13, .agg #[.int .i64 x14, .int .i64 x15, .int .i64 x16]] [⟨g1, 90, [.int .i64 x2, .slice a4 x3.length c5, .bool x6]⟩] [Ro (eI .u8) 5 1 (.slice a4 x3.length c5) x3] [Sl (eI .i64) 1 (.slice a9 x8.length c10) x8, Sl (eI .i64) 1 (.slice a12 x11.length c13) x11] (Option Addr × Nat) (fun _ => .tuple #[]) (fun g => [⟨g1, 90, [.int .i64 r.1, .slice g.1 r.2.1.length g.2, .bool r.2.2]⟩]) (fun g => [Ro (eI .u8) 5 1 (.slice g.1 r.2.1.length g.2) r.2.1]) := by
 refine zC Tryz.func49 rfl Tryz.ntmps49 rfl hm (fun w => ?_)
 refine au [29,0,3,4,24,3] ?_
 intro g17
 refine au [0,2,3,4,1,1,24,2,27,7] ?_
 rintro x18 e18 ⟨a19, c20⟩
 refine av [0,2,3,3,4,1,24,2,24,9,0,2,10] ?_ ?_
 intro _
 refine au [9,12] ?_
 exact zv (a19, c20)
 intro _
 refine au [11,2,3,4,1,5,0,2] ?_
 refine qe (fun (((x33, x34, x37, x38), (a31, c32, a35, c36)) : ((List Int × Int × List Int × Bool) × (Option Addr × Nat × Option Addr × Nat))) => ([(0, .pointer (some ⟨g1, 0, none⟩)), (1, .int .i64 x7), (9, .pointer (some ⟨g17, 0, none⟩)), (10, .slice a31 x33.length c32)], [⟨g1, 90, [.int .i64 x34, .slice a35 x37.length c36, .bool x38]⟩, ⟨g17, 26, [.int .i64 x14, .int .i64 x15, .int .i64 x16]⟩], [Ro (eI .u8) 5 1 (.slice a35 x37.length c36) x37], [Sl (eI .i64) 1 (.slice a31 x33.length c32) x33], zZ F x7 x15 x16 x33 x34 x37 x38)) ?_ ?_
 refine av [3,4,13,25,3,24,10,0,2,10] ?_ ?_
 intro _
 refine au [3,4,5,0,2,3,4,1,1] ?_
 refine qg qhk ?_
 rintro x113 e113 ⟨⟨a114, c115⟩, ⟨a116, c117⟩⟩
 refine au [1,14,14,5,5,0,2,4,1,1] ?_
 refine q9 qck ?_
 rintro x118 e118 ⟨a119, c120⟩
 refine au [0,32,0] ?_
 exact qa ((x113.2, x118.1, x118.2.1, x118.2.2), (a116, c117, a119, c120))
 intro _
 refine au [11] ?_
 exact qa ((x8, x18.1, x18.2.1, x18.2.2), (a9, c10, a19, c20))
 rintro ⟨⟨x33, x34, x37, x38⟩, ⟨a31, c32, a35, c36⟩⟩
 try dsimp only
 refine av [3,3,4,1,24,2,24,9,0,2,10] ?_ ?_
 intro _
 refine au [9,12] ?_
 exact zv (a35, c36)
 intro _
 refine au [11,2] ?_
 refine qe (fun (((x51, x52, x55, x56), (a49, c50, a53, c54)) : ((List Int × Int × List Int × Bool) × (Option Addr × Nat × Option Addr × Nat))) => ([(0, .pointer (some ⟨g1, 0, none⟩)), (1, .int .i64 x7), (9, .pointer (some ⟨g17, 0, none⟩)), (10, .slice a49 x51.length c50)], [⟨g1, 90, [.int .i64 x52, .slice a53 x55.length c54, .bool x56]⟩, ⟨g17, 26, [.int .i64 x14, .int .i64 x15, .int .i64 x16]⟩], [Ro (eI .u8) 5 1 (.slice a53 x55.length c54) x55], [Sl (eI .i64) 1 (.slice a49 x51.length c50) x51], ka F x7 x16 x51 x52 x55 x56)) ?_ ?_
 refine av [3,4,13,25,3,24,10,0,2,10] ?_ ?_
 intro _
 refine au [3,4,5,0,2,3,4,1,13,25,3] ?_
 refine q9 qii ?_
 rintro x103 e103 ⟨⟨a104, c105⟩, ⟨a106, c107⟩⟩
 refine au [1,14,14,5,5,0,2,4,1,1,13,25,3,1] ?_
 refine q9 qcZ ?_
 rintro x108 e108 ⟨a109, c110⟩
 refine au [0,32,0] ?_
 exact qa ((x103.2, x108.1, x108.2.1, x108.2.2), (a106, c107, a109, c110))
 intro _
 refine au [11] ?_
 exact qa ((x33, x34, x37, x38), (a31, c32, a35, c36))
 rintro ⟨⟨x51, x52, x55, x56⟩, ⟨a49, c50, a53, c54⟩⟩
 try dsimp only
 refine qe (fun (((x76, x77, x80), (g75, a78, c79)) : ((Bool × Int × List Int) × (Nat × Option Addr × Nat))) => ([(0, .pointer (some ⟨g1, 0, none⟩)), (13, .pointer (some ⟨g75, 0, none⟩)), (14, .bool x76)], [⟨g1, 90, [.int .i64 x52, .slice a53 x55.length c54, .bool x56]⟩, ⟨g75, 29, [.int .i64 x77, .slice a78 x80.length c79]⟩], [Ro (eI .u8) 5 1 (.slice a53 x55.length c54) x55, Ro (eI .u8) 5 1 (.slice a78 x80.length c79) x80], [], kb F x52 x55 x56 x76 x77 x80)) ?_ ?_
 refine qs mixed [] [⟨g1, 90, [.int .i64 x52, .slice a53 x55.length c54, .bool x56]⟩, ⟨g17, 26, [.int .i64 x14, .int .i64 x15, .int .i64 x16]⟩] [Sl (eI .i64) 1 (.slice a49 x51.length c50) x51] (.cons 0 rfl (.cons 0 rfl .nil)) (qO 0 rfl qr) 13 rfl (qn 0 (.agg #[.int .i64 0, .slice none 0 0]) rfl rfl rfl (qdH (cells := [.int .i64 0, .slice none 0 0]) st29 rfl (by kernel_rfl)) ?_)
 refine au [6,1,6,2,23,4,26,7,5] ?_
 refine qbr 3 10 rfl rfl (by kernel_rfl) rfl rfl ?_ ?_
 refine au [32,1] ?_
 rintro x85 e85 ⟨a86, c87⟩
 refine au [0,29,14] ?_
 refine qbr 6 10 rfl rfl (by kernel_rfl) rfl rfl ?_ ?_
 refine au [26,12,29,15] ?_
 rintro x88 e88 ⟨a89, c90⟩
 refine au [0,29,14,6,7,6,8,6,9,24,0,10,24,7] ?_
 intro g91
 refine au [0,26,13,24,0,11,22,0,26,13,6,12,24,6] ?_
 exact qy (qa ((x88.2.2, x88.1, x88.2.1), (g91, a89, c90))) (by intro c h; cases h)
 refine qbs (m' := ((jN F 0 ([] : List Int) x85 x16).bind fun x93 => kb F x52 x55 x56 x93.2.2 x93.1 x93.2.1)) (rfl) ?_
 refine au [24,7] ?_
 intro g92
 refine au [0,26,13,24,0,6,26,12,29,15] ?_
 rintro x93 e93 ⟨a94, c95⟩
 refine au [0,26,13,6,7,6,8,6,9,24,0,11,22,0,26,13,6,12,24,6] ?_
 exact qy (qa ((x93.2.2, x93.1, x93.2.1), (g92, a94, c95))) (by intro c h; cases h)
 refine qbs (m' := ((qa4 F x51 x7).bind fun x97 => ((jN F 0 ([] : List Int) x97 x16).bind fun x100 => kb F x52 x55 x56 x100.2.2 x100.1 x100.2.1))) (rfl) ?_
 refine au [24,7] ?_
 intro g96
 refine au [0,26,13,24,0,3,32,1] ?_
 rintro x97 e97 ⟨a98, c99⟩
 refine au [0,26,13,24,0,6,26,12,29,15] ?_
 rintro x100 e100 ⟨a101, c102⟩
 refine au [0,26,13,6,7,6,8,6,9,24,0,11,22,0,26,13,6,12,24,6] ?_
 exact qy (qa ((x100.2.2, x100.1, x100.2.1), (g96, a101, c102))) (by intro c h; cases h)
 rintro ⟨⟨x76, x77, x80⟩, ⟨g75, a78, c79⟩⟩
 try dsimp only
 refine au [3,4,1,1,25,1,13,24,1,1] ?_
 refine qk 3 x56 [(0, .pointer (some ⟨g1, 0, none⟩)), (13, .pointer (some ⟨g75, 0, none⟩)), (64, .pointer (some ⟨g1, 0, none⟩)), (72, .bool (x56 || (!x76)))] (fun h81 => ?_) (fun h81 => ?_) ?_
 refine qb (os := _) rfl (qi (k := 69) rfl h81 ?_)
 refine au [7,7,19] ?_
 refine qc (d := 72) (v := .bool (x56 || (!x76))) rfl (by rw [h81]; simp only [Bool.true_or]) ?_
 exact az [0,15]
 refine qb (os := _) rfl (qh (k := 69) rfl h81 ?_)
 refine au [1,25,5,20] ?_
 refine qc (d := 72) (v := .bool (x56 || (!x76))) rfl (by rw [h81]; simp only [Bool.false_or]) ?_
 exact az [0,15]
 refine qb (os := _) rfl ?_
 refine au [25,1,13,22,0,2,4,1,25,2,31,5] ?_
 rintro x82 e82 ⟨a83, c84⟩
 refine au [0] ?_
 exact zv (a83, c84)
theorem qgq {F : Nat} {x1 : Int} {x2 : List Int} {a3 : Option Addr} {c4 : Nat} {x5 : List Int} {a6 : Option Addr} {c7 : Nat} {x8 : Int} {x9 : Int} {x10 : Int} {r : (Int × List Int × Int)} (hm : yo F x1 x2 x5 x8 x9 x10 = some r) :
    Pure Tryz.prog 24 [.int .i64 x1, .slice a3 x2.length c4, .slice a6 x5.length c7, .agg #[.int .i64 x8, .int .i64 x9, .int .i64 x10]] [Sl (eI .i64) 1 (.slice a3 x2.length c4) x2, Sl (eI .i64) 1 (.slice a6 x5.length c7) x5] (Option Addr × Nat) (fun g => .tuple #[.agg #[.int .i64 r.1, .slice g.1 r.2.1.length g.2], .int .i64 r.2.2]) (fun g => [Ro (eI .u8) 5 1 (.slice g.1 r.2.1.length g.2) r.2.1]) (fun _ => []) := by
 refine qj Tryz.func24 rfl Tryz.ntmps24 rfl hm (fun w => ?_)
 refine au [26,9,3,4,24,3] ?_
 intro g11
 refine au [24,7] ?_
 intro g12
 refine au [5,0,2,3,4,25,2,28,4] ?_
 intro x13 e13 _
 refine au [5,0,2] ?_
 refine qe (fun ((x19, _) : (Int × Unit)) => ([(0, .int .i64 x1), (1, .slice a3 x2.length c4), (2, .slice a6 x5.length c7), (7, .pointer (some ⟨g11, 0, none⟩)), (8, .pointer (some ⟨g12, 0, none⟩)), (10, .int .i64 x19)], [⟨g12, 29, [.int .i64 0, .slice none 0 0]⟩, ⟨g11, 26, [.int .i64 x8, .int .i64 x9, .int .i64 x10]⟩], [], [Sl (eI .i64) 1 (.slice a3 x2.length c4) x2, Sl (eI .i64) 1 (.slice a6 x5.length c7) x5], k7 F x1 x2 x5 x8 x9 x10 x19)) ?_ ?_
 refine au [3,4,1,24,9,1] ?_
 refine qE 7 (fun ((x40, _) : (Bool × Unit)) => ([(0, .int .i64 x1), (1, .slice a3 x2.length c4), (2, .slice a6 x5.length c7), (7, .pointer (some ⟨g11, 0, none⟩)), (8, .pointer (some ⟨g12, 0, none⟩)), (10, .int .i64 x13), (23, .bool x40)], [⟨g12, 29, [.int .i64 0, .slice none 0 0]⟩, ⟨g11, 26, [.int .i64 x8, .int .i64 x9, .int .i64 x10]⟩], [], [Sl (eI .i64) 1 (.slice a3 x2.length c4) x2, Sl (eI .i64) 1 (.slice a6 x5.length c7) x5], vi F x1 x2 x5 x8 x9 x10 x13 x40)) ?_ ?_
 refine qb (os := _) rfl ?_
 refine av [25,7] ?_ ?_
 intro h38
 refine qi (k := 16) rfl h38 ?_
 refine au [1,24,4,1] ?_
 refine qk 3 (decide (x1 < 0)) [(0, .int .i64 x1), (1, .slice a3 x2.length c4), (2, .slice a6 x5.length c7), (7, .pointer (some ⟨g11, 0, none⟩)), (8, .pointer (some ⟨g12, 0, none⟩)), (10, .int .i64 x13), (16, .bool true), (22, .bool ((decide (x1 < 0)) || (decide (1048576 < x1))))] (fun h42 => ?_) (fun h42 => ?_) ?_
 refine qb (os := _) rfl (qi (k := 19) rfl h42 ?_)
 refine au [7,7,19] ?_
 refine qc (d := 22) (v := .bool ((decide (x1 < 0)) || (decide (1048576 < x1)))) rfl (by rw [h42]; simp only [Bool.true_or]) ?_
 exact az [0,15]
 refine qb (os := _) rfl (qh (k := 19) rfl h42 ?_)
 refine au [1,24,10,20] ?_
 refine qc (d := 22) (v := .bool ((decide (x1 < 0)) || (decide (1048576 < x1)))) rfl (by rw [h42]; simp only [Bool.false_or]) ?_
 exact az [0,15]
 refine qb (os := _) rfl ?_
 refine au [19,0] ?_
 exact qa (((decide (x1 < 0)) || (decide (1048576 < x1))), ())
 intro h38
 refine qh (k := 16) rfl h38 ?_
 refine au [7,7,7,7,7,7,20,0] ?_
 exact qa (false, ())
 rintro ⟨x40, _⟩
 try dsimp only
 refine qb (os := _) rfl ?_
 refine av [0,2,10] ?_ ?_
 intro _
 refine au [4,5,0] ?_
 exact qa ((3 : Int), ())
 intro _
 refine au [11] ?_
 exact qa (x13, ())
 rintro ⟨x19, _⟩
 try dsimp only
 refine qe (fun ((x22, _) : (Int × Unit)) => ([(0, .int .i64 x1), (1, .slice a3 x2.length c4), (2, .slice a6 x5.length c7), (7, .pointer (some ⟨g11, 0, none⟩)), (8, .pointer (some ⟨g12, 0, none⟩)), (10, .int .i64 x22)], [⟨g12, 29, [.int .i64 0, .slice none 0 0]⟩, ⟨g11, 26, [.int .i64 x8, .int .i64 x9, .int .i64 x10]⟩], [], [Sl (eI .i64) 1 (.slice a3 x2.length c4) x2, Sl (eI .i64) 1 (.slice a6 x5.length c7) x5], k8 F x1 x2 x5 x8 x9 x10 x22)) ?_ ?_
 refine av [3,4,1,24,9,0,2,10] ?_ ?_
 intro _
 refine au [4,1,28,1] ?_
 intro x36 e36 _
 refine au [5,0] ?_
 exact qa (x36, ())
 intro _
 refine au [11] ?_
 exact qa (x19, ())
 rintro ⟨x22, _⟩
 try dsimp only
 refine qe (fun ((x25, _) : (Int × Unit)) => ([(0, .int .i64 x1), (1, .slice a3 x2.length c4), (2, .slice a6 x5.length c7), (7, .pointer (some ⟨g11, 0, none⟩)), (8, .pointer (some ⟨g12, 0, none⟩)), (10, .int .i64 x25)], [⟨g12, 29, [.int .i64 0, .slice none 0 0]⟩, ⟨g11, 26, [.int .i64 x8, .int .i64 x9, .int .i64 x10]⟩], [], [Sl (eI .i64) 1 (.slice a3 x2.length c4) x2, Sl (eI .i64) 1 (.slice a6 x5.length c7) x5], vh F x1 x2 x5 x8 x9 x10 x25)) ?_ ?_
 refine av [3,4,1,24,9,0,2,10] ?_ ?_
 intro _
 refine au [4,1,1,25,2,32,2] ?_
 intro x34 e34 _
 refine au [5,0] ?_
 exact qa (x34, ())
 intro _
 refine au [11] ?_
 exact qa (x22, ())
 rintro ⟨x25, _⟩
 try dsimp only
 refine av [3,3,4,1,25,0,0,2,10] ?_ ?_
 intro _
 refine au [3,4] ?_
 refine ql (cells := [.int .i64 0, .slice none 0 0]) rfl st29 rfl (by kernel_rfl) rfl ?_
 refine au [1,22,5,0,2,9,12,26,0] ?_
 exact qR (none, 0) (resL (rs := [.cell 8 29, .tmp 9]) rfl (.cell (i := 0) rfl tf29 rfl rfl (by simp) rfl (.tmp rfl ResOk.nil)) rfl) (fun h => by subst h; exact (.cons 0 rfl .nil))
 intro _
 refine au [11,2,3,4] ?_
 refine ql (cells := [.int .i64 0, .slice none 0 0, .bool false]) rfl st90 rfl (by kernel_rfl) rfl ?_
 refine au [24,3] ?_
 intro g27
 refine au [5,0,2,3,4,1,1,1,1,25,14,26,12,32,3] ?_
 rintro x28 e28 ⟨a29, c30⟩
 refine av [0,2,3,3,4,1,25,1,13,24,1,0,2,10] ?_ ?_
 intro _
 refine au [3,4] ?_
 refine ql (cells := [.int .i64 0, .slice none 0 0]) rfl st29 rfl (by kernel_rfl) rfl ?_
 refine au [25,11,5,0,2,9,12,26,0] ?_
 exact qR (none, 0) (resL (rs := [.cell 8 29, .tmp 9]) rfl (.cell (i := 1) rfl tf29 rfl rfl (by simp) rfl (.tmp rfl ResOk.nil)) rfl) (fun h => by subst h; exact (.cons 0 rfl .nil))
 intro _
 refine au [11,2,3,4,1,25,1,13,24,11,25,11,5,0,2,9] ?_
 exact qR (a29, c30) (resL (rs := [.cell 8 29, .tmp 9]) rfl (.cell (i := 1) rfl tf29 rfl rfl (by simp) rfl (.tmp rfl ResOk.nil)) rfl) (fun h => by subst h; exact (.cons 0 rfl .nil))
theorem qhj {F : Nat} {x1 : List (List Int)} {a2 : Option Addr} {c3 : Nat} {s3 : List (Option Addr × Nat)} {x4 : List Int} {a5 : Option Addr} {c6 : Nat} {x7 : Int} {x8 : Int} {x9 : Int} {x10 : Int} {r : (Int × Int × List Int × Bool)} (hm : qbm F x1 x4 x7 x8 x9 x10 = some r) :
    Pure Tryz.prog 103 [.slice a2 x1.length c3, .slice a5 x4.length c6, .int .i64 x7, .agg #[.int .i64 x8, .int .i64 x9, .int .i64 x10]] [SlN eN37 iN37 1 (.slice a2 x1.length c3) x1 s3, Sl (eI .i64) 1 (.slice a5 x4.length c6) x4] (Option Addr × Nat) (fun g => .tuple #[.agg #[.int .i64 r.1, .int .i64 r.2.1, .slice g.1 r.2.2.1.length g.2], .bool r.2.2.2]) (fun g => [Ro (eI .u8) 5 1 (.slice g.1 r.2.2.1.length g.2) r.2.2.1]) (fun _ => []) := by
 refine qj Tryz.func103 rfl Tryz.ntmps103 rfl hm (fun w => ?_)
 refine au [26,9,3,4,24,3] ?_
 intro g11
 refine au [24,7] ?_
 intro g12
 refine au [5,0,2,3,4,1,24,2,5,0,2,3,4] ?_
 refine ql (cells := [.int .i64 0, .slice none 0 0]) rfl st29 rfl (by kernel_rfl) rfl ?_
 refine au [24,7] ?_
 intro g13
 refine au [22,0,2] ?_
 refine qe (fun (((x18, x21), (a19, c20)) : ((Int × List Int) × (Option Addr × Nat))) => ([(0, .slice a2 x1.length c3), (1, .slice a5 x4.length c6), (2, .int .i64 x7), (7, .pointer (some ⟨g11, 0, none⟩)), (8, .pointer (some ⟨g12, 0, none⟩)), (10, .int .i64 (x1.length : Int)), (11, .pointer (some ⟨g13, 0, none⟩))], [⟨g13, 29, [.int .i64 x18, .slice a19 x21.length c20]⟩, ⟨g12, 131, [.int .i64 0, .int .i64 0, .slice none 0 0]⟩, ⟨g11, 26, [.int .i64 x8, .int .i64 x9, .int .i64 x10]⟩], [Ro (eI .u8) 5 1 (.slice a19 x21.length c20) x21], [SlN eN37 iN37 1 (.slice a2 x1.length c3) x1 s3, Sl (eI .i64) 1 (.slice a5 x4.length c6) x4], vX F x1 x4 x7 x9 x10 x18 x21)) ?_ ?_
 refine av [3,4,13,26,11,24,10,0,2,10] ?_ ?_
 intro _
 refine au [4,1,25,6,31,4] ?_
 rintro x46 e46 ⟨a47, c48⟩
 refine au [22,0] ?_
 exact qa ((x46.1, x46.2), (a47, c48))
 intro _
 refine au [11,26,0] ?_
 exact qa (((0 : Int), ([] : List Int)), (none, 0))
 rintro ⟨⟨x18, x21⟩, ⟨a19, c20⟩⟩
 try dsimp only
 refine au [3,4,5,0,2] ?_
 refine qe (fun ((x29, (a27, c28)) : (List Int × (Option Addr × Nat))) => ([(1, .slice a5 x4.length c6), (2, .int .i64 x7), (7, .pointer (some ⟨g11, 0, none⟩)), (8, .pointer (some ⟨g12, 0, none⟩)), (10, .int .i64 (x1.length : Int)), (11, .pointer (some ⟨g13, 0, none⟩)), (12, .slice a27 x29.length c28)], [⟨g13, 29, [.int .i64 x18, .slice a19 x21.length c20]⟩, ⟨g12, 131, [.int .i64 0, .int .i64 0, .slice none 0 0]⟩, ⟨g11, 26, [.int .i64 x8, .int .i64 x9, .int .i64 x10]⟩], [Ro (eI .u8) 5 1 (.slice a19 x21.length c20) x21], [Sl (eI .i64) 1 (.slice a5 x4.length c6) x4, Sl (eI .i64) 1 (.slice a27 x29.length c28) x29], vY F x1 x4 x7 x9 x10 x18 x21 x29)) ?_ ?_
 refine av [3,4,1,24,10,0,2,10] ?_ ?_
 intro _
 refine au [4,1,1,1,24,15,27,10] ?_
 intro x41 e41 g44 b42 o43
 refine au [25,12,5,0] ?_
 exact qa (x41, (g44.1, g44.2))
 intro _
 refine au [11,25,9,32,4] ?_
 exact qa (([] : List Int), (none, 0))
 rintro ⟨x29, ⟨a27, c28⟩⟩
 try dsimp only
 refine au [3,4,1,13,27,2,0,2,3,4,1,1,1,25,14,28,5] ?_
 rintro x30 e30 ⟨a31, c32⟩
 refine au [1,14,14,24,7] ?_
 intro g33
 refine au [22,5,0,2,3,3,4,1,25,0,1] ?_
 refine qk 7 ((x30.2.2 : Int) != 0) [(2, .int .i64 x7), (8, .pointer (some ⟨g12, 0, none⟩)), (11, .pointer (some ⟨g13, 0, none⟩)), (13, .pointer (some ⟨g33, 0, none⟩)), (51, .bool (((x30.2.2 : Int) != 0) || (decide (8192 < (iadd .i64 x18 x30.1)))))] (fun h36 => ?_) (fun h36 => ?_) ?_
 refine qb (os := _) rfl (qi (k := 44) rfl h36 ?_)
 refine au [7,7,7,7,7,7,19] ?_
 refine qc (d := 51) (v := .bool (((x30.2.2 : Int) != 0) || (decide (8192 < (iadd .i64 x18 x30.1))))) rfl (by rw [h36]; simp only [Bool.true_or]) ?_
 exact az [0,15]
 refine qb (os := _) rfl (qh (k := 44) rfl h36 ?_)
 refine au [13,25,3,13,24,1,18,24,10,20] ?_
 refine qc (d := 51) (v := .bool (((x30.2.2 : Int) != 0) || (decide (8192 < (iadd .i64 x18 x30.1))))) rfl (by rw [h36]; simp only [Bool.false_or]) ?_
 exact az [0,15]
 refine qb (os := _) rfl ?_
 refine av [0,2,10] ?_ ?_
 intro _
 refine au [3,4] ?_
 refine ql (cells := [.int .i64 0, .int .i64 0, .slice none 0 0]) rfl st131 rfl (by kernel_rfl) rfl ?_
 refine au [27,2,5,0,2,9,12,26,0] ?_
 exact qR (none, 0) (resL (rs := [.cell 8 131, .tmp 9]) rfl (.cell (i := 2) rfl tf131 rfl rfl (by simp) rfl (.tmp rfl ResOk.nil)) rfl) (fun h => by subst h; exact (.cons 0 rfl .nil))
 intro _
 refine au [11,2,3,4,1,25,2,24,11,28,2] ?_
 rintro x37 e37 ⟨a38, c39⟩
 refine ql (cells := [.int .i64 x7, .int .i64 x37.1, .slice a38 x37.2.length c39]) rfl st131 rfl (by kernel_rfl) rfl ?_
 refine au [27,2,5,0,2,9] ?_
 exact qR (a38, c39) (resL (rs := [.cell 8 131, .tmp 9]) rfl (.cell (i := 2) rfl tf131 rfl rfl (by simp) rfl (.tmp rfl ResOk.nil)) rfl) (fun h => by subst h; exact (.cons 0 rfl .nil))
theorem qhi {F : Nat} {x1 : List (List Int)} {a2 : Option Addr} {c3 : Nat} {s3 : List (Option Addr × Nat)} {x4 : List Int} {a5 : Option Addr} {c6 : Nat} {x7 : Int} {x8 : Int} {x9 : Int} {r : (Int × Int × List Int × Bool)} (hm : qbl F x1 x4 x7 x8 x9 = some r) :
    Pure Tryz.prog 81 [.slice a2 x1.length c3, .slice a5 x4.length c6, .agg #[.int .i64 x7, .int .i64 x8, .int .i64 x9]] [SlN eN37 iN37 1 (.slice a2 x1.length c3) x1 s3, Sl (eI .i64) 1 (.slice a5 x4.length c6) x4] (Option Addr × Nat) (fun g => .tuple #[.agg #[.int .i64 r.1, .int .i64 r.2.1, .slice g.1 r.2.2.1.length g.2], .bool r.2.2.2]) (fun g => [Ro (eI .u8) 5 1 (.slice g.1 r.2.2.1.length g.2) r.2.2.1]) (fun _ => []) := by
 refine qj Tryz.func81 rfl Tryz.ntmps81 rfl hm (fun w => ?_)
 refine au [25,13,3,4,24,3] ?_
 intro g10
 refine au [24,7] ?_
 intro g11
 refine au [5,0,2] ?_
 refine qe (fun (((x96, x97, x98, x101), (a99, c100)) : ((Bool × Int × Int × List Int) × (Option Addr × Nat))) => ([(6, .pointer (some ⟨g11, 0, none⟩)), (7, .bool x96)], [⟨g11, 131, [.int .i64 x97, .int .i64 x98, .slice a99 x101.length c100]⟩], [Ro (eI .u8) 5 1 (.slice a99 x101.length c100) x101], [], qa5 F x96 x97 x98 x101)) ?_ ?_
 refine au [3,4,13,25,3,1,24,2,27,8,18,1,0,2,17,32,5] ?_
 refine qt (fun (((x125, x126, x127, x128, x131), (a129, c130)) : ((Bool × Int × Int × Int × List Int) × (Option Addr × Nat))) => ([(0, .slice a2 x1.length c3), (1, .slice a5 x4.length c6), (5, .pointer (some ⟨g10, 0, none⟩)), (6, .pointer (some ⟨g11, 0, none⟩)), (7, .bool x125), (16, .int .i64 (iadd .i64 (imin x7 (x1.length : Int)) 1)), (17, .int .i64 x126)], [⟨g11, 131, [.int .i64 x127, .int .i64 x128, .slice a129 x131.length c130]⟩, ⟨g10, 26, [.int .i64 x7, .int .i64 x8, .int .i64 x9]⟩], [Ro (eI .u8) 5 1 (.slice a129 x131.length c130) x131], [SlN eN37 iN37 1 (.slice a2 x1.length c3) x1 s3, Sl (eI .i64) 1 (.slice a5 x4.length c6) x4])) (fun k (s : ((Bool × Int × Int × Int × List Int) × (Option Addr × Nat))) => zu F x1 x4 x7 x8 x9 k s.1) ((false, 0, 0, 0, ([] : List Int)), (none, 0)) F ?_
 intro k158
 rintro ⟨⟨x125, x126, x127, x128, x131⟩, ⟨a129, c130⟩⟩
 try dsimp only
 refine qJ (m' := jG F x1 x4 x7 x8 x9 (zu F x1 x4 x7 x8 x9 k158) x125 x126 x127 x128 x131) rfl ?_
 refine av [3,4,24,4,0,2,3,10] ?_ ?_
 intro _
 refine au [11,2] ?_
 refine qe (fun (((x169, x170, x171, x174), (a172, c173)) : ((Bool × Int × Int × List Int) × (Option Addr × Nat))) => ([(0, .slice a2 x1.length c3), (1, .slice a5 x4.length c6), (5, .pointer (some ⟨g10, 0, none⟩)), (6, .pointer (some ⟨g11, 0, none⟩)), (7, .bool x169), (16, .int .i64 (iadd .i64 (imin x7 (x1.length : Int)) 1)), (17, .int .i64 x126)], [⟨g11, 131, [.int .i64 x170, .int .i64 x171, .slice a172 x174.length c173]⟩, ⟨g10, 26, [.int .i64 x7, .int .i64 x8, .int .i64 x9]⟩], [Ro (eI .u8) 5 1 (.slice a172 x174.length c173) x174], [SlN eN37 iN37 1 (.slice a2 x1.length c3) x1 s3, Sl (eI .i64) 1 (.slice a5 x4.length c6) x4], kB F (zu F x1 x4 x7 x8 x9 k158) x126 x169 x170 x171 x174)) ?_ ?_
 refine au [17,3,4,1,5,0,2,3,4,1,1,1,25,2] ?_
 refine qg qhj ?_
 rintro x175 e175 ⟨a176, c177⟩
 refine au [1,14,14,24,7] ?_
 intro g178
 refine au [22,5,0,2,3,4,1,1] ?_
 refine qE 12 (fun ((x181, _) : (Bool × Unit)) => ([(0, .slice a2 x1.length c3), (1, .slice a5 x4.length c6), (5, .pointer (some ⟨g10, 0, none⟩)), (6, .pointer (some ⟨g11, 0, none⟩)), (7, .bool x125), (9, .pointer (some ⟨g178, 0, none⟩)), (16, .int .i64 (iadd .i64 (imin x7 (x1.length : Int)) 1)), (17, .int .i64 x126), (41, .bool x181)], [⟨g178, 131, [.int .i64 x175.1, .int .i64 x175.2.1, .slice a176 x175.2.2.1.length c177]⟩, ⟨g11, 131, [.int .i64 x127, .int .i64 x128, .slice a129 x131.length c130]⟩, ⟨g10, 26, [.int .i64 x7, .int .i64 x8, .int .i64 x9]⟩], [Ro (eI .u8) 5 1 (.slice a176 x175.2.2.1.length c177) x175.2.2.1, Ro (eI .u8) 5 1 (.slice a129 x131.length c130) x131], [SlN eN37 iN37 1 (.slice a2 x1.length c3) x1 s3, Sl (eI .i64) 1 (.slice a5 x4.length c6) x4], jH F (zu F x1 x4 x7 x8 x9 k158) x125 x126 x127 x128 x131 x175 x181)) ?_ ?_
 refine qb (os := _) rfl ?_
 refine av [25,7] ?_ ?_
 intro h179
 refine qi (k := 29) rfl h179 ?_
 refine au [1,25,5,1] ?_
 refine qk 8 (!x125) [(0, .slice a2 x1.length c3), (1, .slice a5 x4.length c6), (5, .pointer (some ⟨g10, 0, none⟩)), (6, .pointer (some ⟨g11, 0, none⟩)), (7, .bool x125), (16, .int .i64 (iadd .i64 (imin x7 (x1.length : Int)) 1)), (17, .int .i64 x126), (9, .pointer (some ⟨g178, 0, none⟩)), (29, .bool true), (30, .bool x125), (31, .bool (!x125)), (32, .bool (!x125)), (40, .bool ((!x125) || (decide (x175.2.1 < x128))))] (fun h183 => ?_) (fun h183 => ?_) ?_
 refine qb (os := _) rfl (qi (k := 32) rfl h183 ?_)
 refine au [7,7,7,7,7,7,7,19] ?_
 refine qc (d := 40) (v := .bool ((!x125) || (decide (x175.2.1 < x128)))) rfl (by rw [h183]; simp only [Bool.true_or]) (qc (d := 32) (v := .bool (!x125)) rfl (by rw [h183] <;> rfl) ?_)
 exact az [0,15]
 refine qb (os := _) rfl (qh (k := 32) rfl h183 ?_)
 refine au [13,13,24,1,13,13,25,3,24,4,20] ?_
 refine qc (d := 40) (v := .bool ((!x125) || (decide (x175.2.1 < x128)))) rfl (by rw [h183]; simp only [Bool.false_or]) (qc (d := 32) (v := .bool (!x125)) rfl (by rw [h183] <;> rfl) ?_)
 exact az [0,15]
 refine qb (os := _) rfl ?_
 refine au [19,0] ?_
 exact qa (((!x125) || (decide (x175.2.1 < x128))), ())
 intro h179
 refine qh (k := 29) rfl h179 ?_
 refine au [7,7,7,7,7,7,7,7,7,7,7,20,0] ?_
 exact qa (false, ())
 rintro ⟨x181, _⟩
 try dsimp only
 refine qb (os := _) rfl ?_
 refine av [0,2,10] ?_ ?_
 intro _
 refine au [4,24,11,25,11,5,0,24,8] ?_
 exact qa ((true, x175.1, x175.2.1, x175.2.2.1), (a176, c177))
 intro _
 refine au [11,24,8] ?_
 exact qa ((x125, x127, x128, x131), (a129, c130))
 rintro ⟨⟨x169, x170, x171, x174⟩, ⟨a172, c173⟩⟩
 try dsimp only
 refine au [4,18,1,0] ?_
 exact qm ((x169, iadd .i64 x126 1, x170, x171, x174), (a172, c173))
 intro _
 refine au [24,13,21,21,24,14] ?_
 exact qa ((x125, x127, x128, x131), (a129, c130))
 rintro ⟨⟨x96, x97, x98, x101⟩, ⟨a99, c100⟩⟩
 try dsimp only
 refine au [3,4,24,11,1,22,5,0,2,9] ?_
 exact qR (a99, c100) (resL (rs := [.cell 6 131, .tmp 7]) rfl (.cell (i := 0) rfl tf131 rfl rfl (by simp) rfl (.tmp rfl ResOk.nil)) rfl) (fun h => by subst h; exact (.cons 0 rfl .nil))
set_option maxHeartbeats 4000000 in
theorem qcS {F : Nat} {g1 : Nat} {x2 : Int} {x3 : Int} {x4 : Int} {x5 : Int} {x6 : Int} {x7 : List Int} {a8 : Option Addr} {c9 : Nat} {x10 : List Int} {a11 : Option Addr} {c12 : Nat} {x13 : List Int} {a14 : Option Addr} {c15 : Nat} {x16 : List (List Int)} {a17 : Option Addr} {c18 : Nat} {s18 : List (Option Addr × Nat)} {r : (Bool × Int × Int × Int × Int × Int × List Int × List Int × List Int)} (hm : jO F x2 x3 x4 x5 x6 x7 x10 x13 x16 = some r) :
    PureM Tryz.prog 55 [.pointer (some ⟨g1, 0, none⟩), .agg #[.slice a17 x16.length c18]] [⟨g1, 66, [.int .i64 x2, .int .i64 x3, .int .i64 x4, .int .i64 x5, .int .i64 x6, .slice a8 x7.length c9, .slice a11 x10.length c12, .slice a14 x13.length c15]⟩] [Ro (eI .u8) 5 1 (.slice a8 x7.length c9) x7, Ro (eI .i64) 3 1 (.slice a11 x10.length c12) x10, Ro (eI .i64) 3 1 (.slice a14 x13.length c15) x13] [SlN eN37 iN37 1 (.slice a17 x16.length c18) x16 s18] ((Option Addr × Nat) × (Option Addr × Nat) × (Option Addr × Nat)) (fun _ => .bool r.1) (fun g => [⟨g1, 66, [.int .i64 r.2.1, .int .i64 r.2.2.1, .int .i64 r.2.2.2.1, .int .i64 r.2.2.2.2.1, .int .i64 r.2.2.2.2.2.1, .slice g.1.1 r.2.2.2.2.2.2.1.length g.1.2, .slice g.2.1.1 r.2.2.2.2.2.2.2.1.length g.2.1.2, .slice g.2.2.1 r.2.2.2.2.2.2.2.2.length g.2.2.2]⟩]) (fun g => [Ro (eI .u8) 5 1 (.slice g.1.1 r.2.2.2.2.2.2.1.length g.1.2) r.2.2.2.2.2.2.1, Ro (eI .i64) 3 1 (.slice g.2.1.1 r.2.2.2.2.2.2.2.1.length g.2.1.2) r.2.2.2.2.2.2.2.1, Ro (eI .i64) 3 1 (.slice g.2.2.1 r.2.2.2.2.2.2.2.2.length g.2.2.2) r.2.2.2.2.2.2.2.2]) := by
 refine zC Tryz.func55 rfl Tryz.ntmps55 rfl hm (fun w => ?_)
 refine au [24,12,3,4,24,3] ?_
 intro g19
 refine au [5,0,2] ?_
 refine qe (fun (((x710, x713, x716, x719), (a711, c712, a714, c715, a717, c718)) : ((Int × List Int × List Int × List Int) × (Option Addr × Nat × Option Addr × Nat × Option Addr × Nat))) => ([], [⟨g1, 66, [.int .i64 x2, .int .i64 x3, .int .i64 x4, .int .i64 x5, .int .i64 x710, .slice a711 x713.length c712, .slice a714 x716.length c715, .slice a717 x719.length c718]⟩], [Ro (eI .u8) 5 1 (.slice a711 x713.length c712) x713, Ro (eI .i64) 3 1 (.slice a714 x716.length c715) x716, Ro (eI .i64) 3 1 (.slice a717 x719.length c718) x719], [], yR F x2 x3 x4 x5 x710 x713 x716 x719)) ?_ ?_
 refine au [3,4,13,24,1,24,2,1,0,2,17] ?_
 refine qt (fun (((x946, x947, x950, x953, x956), (a948, c949, a951, c952, a954, c955)) : ((Int × Int × List Int × List Int × List Int) × (Option Addr × Nat × Option Addr × Nat × Option Addr × Nat))) => ([(0, .pointer (some ⟨g1, 0, none⟩)), (3, .pointer (some ⟨g19, 0, none⟩)), (10, .slice a17 x16.length c18), (11, .int .i64 (x16.length : Int)), (12, .int .i64 x946)], [⟨g19, 24, [.slice a17 x16.length c18]⟩, ⟨g1, 66, [.int .i64 x2, .int .i64 x3, .int .i64 x4, .int .i64 x5, .int .i64 x947, .slice a948 x950.length c949, .slice a951 x953.length c952, .slice a954 x956.length c955]⟩], [Ro (eI .u8) 5 1 (.slice a948 x950.length c949) x950, Ro (eI .i64) 3 1 (.slice a951 x953.length c952) x953, Ro (eI .i64) 3 1 (.slice a954 x956.length c955) x956], [SlN eN37 iN37 1 (.slice a17 x16.length c18) x16 s18])) (fun k (s : ((Int × Int × List Int × List Int × List Int) × (Option Addr × Nat × Option Addr × Nat × Option Addr × Nat))) => qq F x2 x3 x4 x5 x16 k s.1) ((0, x6, x7, x10, x13), (a8, c9, a11, c12, a14, c15)) F ?_
 intro k1183
 rintro ⟨⟨x946, x947, x950, x953, x956⟩, ⟨a948, c949, a951, c952, a954, c955⟩⟩
 try dsimp only
 refine qJ (m' := kG F x2 x3 x4 x5 x16 (qq F x2 x3 x4 x5 x16 k1183) x946 x947 x950 x953 x956) rfl ?_
 refine av [3,4,24,4,0,2,3,10] ?_ ?_
 intro _
 refine au [11,2,3,17,3,4,1,27,10] ?_
 intro x1297 e1297 g1300 b1298 o1299
 refine au [25,12,5,5,0,2] ?_
 refine qe (fun (((x1316, x1317, x1318, x1321), (g1315, a1319, c1320)) : ((Bool × Int × Int × List Int) × (Nat × Option Addr × Nat))) => ([(0, .pointer (some ⟨g1, 0, none⟩)), (3, .pointer (some ⟨g19, 0, none⟩)), (7, .pointer (some ⟨g1315, 0, none⟩)), (8, .bool x1316), (10, .slice a17 x16.length c18), (11, .int .i64 (x16.length : Int)), (12, .int .i64 x946)], [⟨g19, 24, [.slice a17 x16.length c18]⟩, ⟨g1, 66, [.int .i64 x2, .int .i64 x3, .int .i64 x4, .int .i64 x5, .int .i64 x947, .slice a948 x950.length c949, .slice a951 x953.length c952, .slice a954 x956.length c955]⟩, ⟨g1315, 131, [.int .i64 x1317, .int .i64 x1318, .slice a1319 x1321.length c1320]⟩], [Ro (eI .u8) 5 1 (.slice a948 x950.length c949) x950, Ro (eI .i64) 3 1 (.slice a951 x953.length c952) x953, Ro (eI .i64) 3 1 (.slice a954 x956.length c955) x956, Ro (eI .u8) 5 1 (.slice a1319 x1321.length c1320) x1321], [SlN eN37 iN37 1 (.slice a17 x16.length c18) x16 s18], kH F (qq F x2 x3 x4 x5 x16 k1183) x2 x3 x4 x5 x946 x947 x950 x953 x956 x1316 x1317 x1318 x1321)) ?_ ?_
 refine qkl 2 vQ rfl ?_
 intro x1395 e1395 a1396 c1397 g1398 h1399 h1400
 refine qs mixed [] [⟨g19, 24, [.slice a17 x16.length c18]⟩, ⟨g1, 66, [.int .i64 x2, .int .i64 x3, .int .i64 x4, .int .i64 x5, .int .i64 x947, .slice a948 x950.length c949, .slice a951 x953.length c952, .slice a954 x956.length c955]⟩] [SlN eN37 iN37 1 (.slice a1396 x1395.length c1397) x1395 g1398, qI b1298 o1299 (eN37 (x1297, g1300)), Sl (eI .i64) 1 (.slice g1300.1 x1297.length g1300.2) x1297, SlN eN37 iN37 1 (.slice a17 x16.length c18) x16 s18] (.cons 0 rfl (.cons 0 rfl .nil)) (qO 0 rfl (qO 1 rfl (qO 2 rfl (qO 3 rfl qr)))) 17 rfl ?_
 refine au [23,0,25,10,1,6,2] ?_
 refine qn 3 (.slice a1396 x1395.length c1397) rfl rfl rfl (qov Tryz.underlying22 tf37 rfl rfl rfl e1395 h1400 h1399) ?_
 refine au [6,4,6,5,6,6,23,7,23,8] ?_
 refine ke 9 (.agg #[.int .i64 x3, .int .i64 x4, .int .i64 x5]) rfl rfl rfl (zd (i := 1) rfl tf26 rfl rfl (by simp) rfl) (qbr 10 14 rfl rfl (by kernel_rfl) rfl rfl ?_ ?_)
 refine au [32,6] ?_
 rintro x1401 e1401 ⟨a1402, c1403⟩
 refine au [0] ?_
 refine zE (.cons 0 rfl (.cons 0 rfl .nil)) (qO 0 rfl (qO 1 rfl (qO 2 rfl (qO 3 rfl qr)))) ?_
 refine au [6,11,6,12,6,13,24,0,14,24,7] ?_
 intro g1404
 refine au [0,28,6,24,0,15,22,0,28,6,6,16,24,6] ?_
 exact qy (qa ((x1401.2.2.2, x1401.1, x1401.2.1, x1401.2.2.1), (g1404, a1402, c1403))) (by intro c h; cases h)
 refine qbs (m' := ((qbl F x1395 x1297 x3 x4 x5).bind fun x1406 => kH F (qq F x2 x3 x4 x5 x16 k1183) x2 x3 x4 x5 x946 x947 x950 x953 x956 x1406.2.2.2 x1406.1 x1406.2.1 x1406.2.2.1)) (rfl) ?_
 refine au [24,7] ?_
 intro g1405
 refine au [0,28,6,24,0,10,32,6] ?_
 rintro x1406 e1406 ⟨a1407, c1408⟩
 refine au [0,28,6,6,11,6,12,6,13,24,0,15,22,0,28,6,6,16,24,6] ?_
 exact qy (qa ((x1406.2.2.2, x1406.1, x1406.2.1, x1406.2.2.1), (g1405, a1407, c1408))) (by intro c h; cases h)
 rintro ⟨⟨x1316, x1317, x1318, x1321⟩, ⟨g1315, a1319, c1320⟩⟩
 try dsimp only
 refine au [3] ?_
 refine qe (fun ((x1327, _) : (Bool × Unit)) => ([(0, .pointer (some ⟨g1, 0, none⟩)), (3, .pointer (some ⟨g19, 0, none⟩)), (7, .pointer (some ⟨g1315, 0, none⟩)), (10, .slice a17 x16.length c18), (11, .int .i64 (x16.length : Int)), (12, .int .i64 x946), (45, .bool x1327)], [⟨g19, 24, [.slice a17 x16.length c18]⟩, ⟨g1, 66, [.int .i64 x2, .int .i64 x3, .int .i64 x4, .int .i64 x5, .int .i64 x947, .slice a948 x950.length c949, .slice a951 x953.length c952, .slice a954 x956.length c955]⟩, ⟨g1315, 131, [.int .i64 x1317, .int .i64 x1318, .slice a1319 x1321.length c1320]⟩], [Ro (eI .u8) 5 1 (.slice a948 x950.length c949) x950, Ro (eI .i64) 3 1 (.slice a951 x953.length c952) x953, Ro (eI .i64) 3 1 (.slice a954 x956.length c955) x956, Ro (eI .u8) 5 1 (.slice a1319 x1321.length c1320) x1321], [SlN eN37 iN37 1 (.slice a17 x16.length c18) x16 s18], zH F (qq F x2 x3 x4 x5 x16 k1183) x2 x3 x4 x5 x946 x947 x950 x953 x956 x1317 x1318 x1321 x1327)) ?_ ?_
 refine av [26,10] ?_ ?_
 intro h1394
 refine qs mixed [] [⟨g19, 24, [.slice a17 x16.length c18]⟩, ⟨g1, 66, [.int .i64 x2, .int .i64 x3, .int .i64 x4, .int .i64 x5, .int .i64 x947, .slice a948 x950.length c949, .slice a951 x953.length c952, .slice a954 x956.length c955]⟩, ⟨g1315, 131, [.int .i64 x1317, .int .i64 x1318, .slice a1319 x1321.length c1320]⟩] [SlN eN37 iN37 1 (.slice a17 x16.length c18) x16 s18] (.cons 0 rfl (.cons 0 rfl (.cons 0 rfl .nil))) (qO 0 rfl qr) 15 rfl ?_
 refine au [6,0,6,1,6,2] ?_
 refine qf (d := 33) (v := .bool true) rfl (by rw [h1394] <;> rfl) ?_
 refine au [8,3,8,4,8,5,8,6,8,7,8,8,8,9,8,10,8,11,8,12,8,13,6,14,24,6] ?_
 exact qy (qa (true, ())) (by intro c h; cases h)
 intro h1394
 refine qs mixed [] [⟨g19, 24, [.slice a17 x16.length c18]⟩, ⟨g1, 66, [.int .i64 x2, .int .i64 x3, .int .i64 x4, .int .i64 x5, .int .i64 x947, .slice a948 x950.length c949, .slice a951 x953.length c952, .slice a954 x956.length c955]⟩, ⟨g1315, 131, [.int .i64 x1317, .int .i64 x1318, .slice a1319 x1321.length c1320]⟩] [SlN eN37 iN37 1 (.slice a17 x16.length c18) x16 s18] (.cons 0 rfl (.cons 0 rfl (.cons 0 rfl .nil))) (qO 0 rfl qr) 15 rfl ?_
 refine au [6,0,6,1,6,2] ?_
 refine qf (d := 33) (v := .bool false) rfl (by rw [h1394] <;> rfl) ?_
 refine au [6,3,6,4,23,5,23,6,23,7,26,7,8,23,9,23,10,28,15,11,6,12,6,13,6,14,24,6] ?_
 exact qy (qa ((decide (8192 < (iadd .i64 x947 x1318))), ())) (by intro c h; cases h)
 rintro ⟨x1327, _⟩
 try dsimp only
 refine av [10] ?_ ?_
 intro _
 refine au [3,4,5,0,2,9,12,24,5,12,12,24,5,12] ?_
 exact zv ((a948, c949), (a951, c952), (a954, c955))
 intro _
 refine au [11,2] ?_
 refine qe (fun (((x1358, x1361), (a1356, c1357, a1359, c1360)) : ((List Int × List Int) × (Option Addr × Nat × Option Addr × Nat))) => ([(0, .pointer (some ⟨g1, 0, none⟩)), (3, .pointer (some ⟨g19, 0, none⟩)), (7, .pointer (some ⟨g1315, 0, none⟩)), (10, .slice a17 x16.length c18), (11, .int .i64 (x16.length : Int)), (12, .int .i64 x946)], [⟨g19, 24, [.slice a17 x16.length c18]⟩, ⟨g1, 66, [.int .i64 x2, .int .i64 x3, .int .i64 x4, .int .i64 x5, .int .i64 x947, .slice a948 x950.length c949, .slice a1356 x1358.length c1357, .slice a1359 x1361.length c1360]⟩, ⟨g1315, 131, [.int .i64 x1317, .int .i64 x1318, .slice a1319 x1321.length c1320]⟩], [Ro (eI .u8) 5 1 (.slice a948 x950.length c949) x950, Ro (eI .i64) 3 1 (.slice a1356 x1358.length c1357) x1358, Ro (eI .i64) 3 1 (.slice a1359 x1361.length c1360) x1361, Ro (eI .u8) 5 1 (.slice a1319 x1321.length c1320) x1321], [SlN eN37 iN37 1 (.slice a17 x16.length c18) x16 s18], zI F (qq F x2 x3 x4 x5 x16 k1183) x946 x947 x950 x1318 x1321 x1358 x1361)) ?_ ?_
 refine qs mixed [24, 27] [⟨g19, 24, [.slice a17 x16.length c18]⟩, ⟨g1315, 131, [.int .i64 x1317, .int .i64 x1318, .slice a1319 x1321.length c1320]⟩] [SlN eN37 iN37 1 (.slice a17 x16.length c18) x16 s18, (BlkD.is ⟨g1, 66, [.int .i64 x2, .int .i64 x3, .int .i64 x4, .int .i64 x5, .int .i64 x947, .slice a948 x950.length c949, .slice a951 x953.length c952, .slice a954 x956.length c955]⟩)] (.cons 0 rfl (.cons 1 rfl .nil)) (qO 0 rfl (qfw 1 rfl qr)) 28 rfl ?_
 refine au [6,0,6,1,6,2,6,3,23,4] ?_
 refine q8 5 (.slice a951 x953.length c952) [[24], [27]] rfl rfl rfl (jb (j := 1) rfl tf37 rfl rfl (fun _ => rfl) rfl) ?_
 refine au [23,6,26,7,7,6,10,6,11,23,12] ?_
 refine q8 13 (.slice a954 x956.length c955) [[24], [27]] rfl rfl rfl (jb (j := 1) rfl tf37 rfl rfl (fun _ => rfl) rfl) ?_
 refine au [6,14,6,15,23,16,23,17,23,18] ?_
 refine q8 19 (.int .i64 x947) [[24], [27]] rfl rfl rfl (jb (j := 1) rfl tf3 rfl rfl (fun _ => rfl) rfl) (qbr 8 20 rfl rfl (by kernel_rfl) rfl rfl ?_ ?_)
 refine qF (vs := [.int .i64 x1317]) (ys := ([x1317] : List Int)) (qv .i64) (by decide) rfl Tryz.underlying37 tf3 rfl rfl rfl rfl rfl (by decide) (fun a1365 c1366 => ?_)
 refine au [0,26,1] ?_
 refine qbr 9 20 rfl rfl (by kernel_rfl) rfl rfl ?_ ?_
 refine kh 2 (qv .i64) rfl Tryz.underlying37 tf3 rfl rfl rfl rfl rfl (.inl ⟨0, _, rfl⟩) rfl rfl (fun x1367 e1367 a1368 c1369 => ?_)
 refine au [0,26,1,24,0,20] ?_
 refine qF (vs := [.int .i64 x947]) (ys := ([x947] : List Int)) (qv .i64) (by decide) rfl Tryz.underlying37 tf3 rfl rfl rfl rfl rfl (by decide) (fun a1370 c1371 => ?_)
 refine au [0,26,1,24,0,21] ?_
 refine kh 4 (qv .i64) rfl Tryz.underlying37 tf3 rfl rfl rfl rfl rfl (.inl ⟨0, _, rfl⟩) rfl rfl (fun x1372 e1372 a1373 c1374 => ?_)
 refine au [0,26,1,6,22,23,23,24,0,24,25,11,0,27,14,6,25,23,26,24,0,27,25,11,0,27,14,24,6] ?_
 exact qy (qa ((x1367, x1372), (a1368, c1369, a1373, c1374))) (by intro c h; cases h)
 refine qbs (m' := ((app 8796093022208 x953 ([x1317] : List Int)).bind fun x1377 => ((app 8796093022208 x956 ([x947] : List Int)).bind fun x1380 => zI F (qq F x2 x3 x4 x5 x16 k1183) x946 x947 x950 x1318 x1321 x1377 x1380))) (rfl) (qF (vs := [.int .i64 x947]) (ys := ([x947] : List Int)) (qv .i64) (by decide) rfl Tryz.underlying37 tf3 rfl rfl rfl rfl rfl (by decide) (fun a1375 c1376 => ?_))
 refine au [0,26,1,24,0,9] ?_
 refine kh 3 (qv .i64) rfl Tryz.underlying37 tf3 rfl rfl rfl rfl rfl (.inl ⟨1, _, rfl⟩) rfl rfl (fun x1377 e1377 a1378 c1379 => ?_)
 refine au [0,26,1,24,0,21] ?_
 refine kh 4 (qv .i64) rfl Tryz.underlying37 tf3 rfl rfl rfl rfl rfl (.inl ⟨1, _, rfl⟩) rfl rfl (fun x1380 e1380 a1381 c1382 => ?_)
 refine au [0,26,1,6,22,23,23,24,0,24,25,11,0,27,14,6,25,23,26,24,0,27,25,11,0,27,14,24,6] ?_
 exact qy (qa ((x1377, x1380), (a1378, c1379, a1381, c1382))) (by intro c h; cases h)
 refine qbs (m' := ((app 8796093022208 x953 ([x1317] : List Int)).bind fun x1387 => ((app 8796093022208 x956 ([x947] : List Int)).bind fun x1390 => zI F (qq F x2 x3 x4 x5 x16 k1183) x946 x947 x950 x1318 x1321 x1387 x1390))) (rfl) (qF (vs := [.int .i64 x947]) (ys := ([x947] : List Int)) (qv .i64) (by decide) rfl Tryz.underlying37 tf3 rfl rfl rfl rfl rfl (by decide) (fun a1383 c1384 => ?_))
 refine au [0,26,1,24,0,8] ?_
 refine qF (vs := [.int .i64 x1317]) (ys := ([x1317] : List Int)) (qv .i64) (by decide) rfl Tryz.underlying37 tf3 rfl rfl rfl rfl rfl (by decide) (fun a1385 c1386 => ?_)
 refine au [0,26,1,24,0,9] ?_
 refine kh 3 (qv .i64) rfl Tryz.underlying37 tf3 rfl rfl rfl rfl rfl (.inl ⟨0, _, rfl⟩) rfl rfl (fun x1387 e1387 a1388 c1389 => ?_)
 refine au [0,26,1,24,0,21] ?_
 refine kh 4 (qv .i64) rfl Tryz.underlying37 tf3 rfl rfl rfl rfl rfl (.inl ⟨2, _, rfl⟩) rfl rfl (fun x1390 e1390 a1391 c1392 => ?_)
 refine au [0,26,1,6,22,23,23,24,0,24,25,11,0,27,14,6,25,23,26,24,0,27,25,11,0,27,14,24,6] ?_
 exact qy (qa ((x1387, x1390), (a1388, c1389, a1391, c1392))) (by intro c h; cases h)
 rintro ⟨⟨x1358, x1361⟩, ⟨a1356, c1357, a1359, c1360⟩⟩
 try dsimp only
 refine qs mixed [12] [⟨g19, 24, [.slice a17 x16.length c18]⟩, ⟨g1315, 131, [.int .i64 x1317, .int .i64 x1318, .slice a1319 x1321.length c1320]⟩] [SlN eN37 iN37 1 (.slice a17 x16.length c18) x16 s18, (BlkD.is ⟨g1, 66, [.int .i64 x2, .int .i64 x3, .int .i64 x4, .int .i64 x5, .int .i64 x947, .slice a948 x950.length c949, .slice a1356 x1358.length c1357, .slice a1359 x1361.length c1360]⟩)] (.cons 0 rfl (.cons 1 rfl .nil)) (qO 0 rfl (qfw 1 rfl qr)) 13 rfl ?_
 refine au [6,0,6,1,6,2,23,3,23,4] ?_
 refine q8 5 (.agg #[.int .i64 x947, .slice a948 x950.length c949]) [[12]] rfl rfl rfl (jb (j := 1) rfl tf29 rfl rfl (by simp) rfl) ?_
 refine au [23,6] ?_
 refine ke 7 (.agg #[.int .i64 x1318, .slice a1319 x1321.length c1320]) rfl rfl rfl (zd (i := 1) rfl tf29 rfl rfl (by simp) rfl) ?_
 refine au [24,0,8,28,2] ?_
 rintro x1362 e1362 ⟨a1363, c1364⟩
 refine au [0,26,1,6,9,23,10,23,11,24,0,12,25,11,0] ?_
 refine qbg 12 rfl (by kernel_rfl) (.cons 0 rfl (.cons 1 rfl .nil)) ?_
 refine au [24,6] ?_
 refine qy ?_ (by intro c h; cases h)
 refine au [24,8,2,4,18,1,0] ?_
 exact qm ((iadd .i64 x946 1, x1362.1, x1362.2, x1358, x1361), (a1363, c1364, a1356, c1357, a1359, c1360))
 intro _
 refine au [24,13,21,21,24,14] ?_
 exact qa ((x947, x950, x953, x956), (a948, c949, a951, c952, a954, c955))
 rintro ⟨⟨x710, x713, x716, x719⟩, ⟨a711, c712, a714, c715, a717, c718⟩⟩
 try dsimp only
 refine au [3,4,5,0,2,9] ?_
 exact zv ((a711, c712), (a714, c715), (a717, c718))
theorem qfp {F : Nat} {x1 : List (List Int)} {a2 : Option Addr} {c3 : Nat} {s3 : List (Option Addr × Nat)} {x4 : Int} {x5 : Int} {x6 : Int} {r : (Int × Int × Int × Int × Int × List Int × List Int × List Int × Int)} (hm : jv F x1 x4 x5 x6 = some r) :
    PureM Tryz.prog 28 [.agg #[.slice a2 x1.length c3], .agg #[.int .i64 x4, .int .i64 x5, .int .i64 x6]] [] [] [SlN eN37 iN37 1 (.slice a2 x1.length c3) x1 s3] ((Option Addr × Nat) × (Option Addr × Nat) × (Option Addr × Nat) × Nat) (fun g => .tuple #[.pointer (some ⟨g.2.2.2, 0, none⟩), .int .i64 r.2.2.2.2.2.2.2.2]) (fun g => [⟨g.2.2.2, 66, [.int .i64 r.1, .int .i64 r.2.1, .int .i64 r.2.2.1, .int .i64 r.2.2.2.1, .int .i64 r.2.2.2.2.1, .slice g.1.1 r.2.2.2.2.2.1.length g.1.2, .slice g.2.1.1 r.2.2.2.2.2.2.1.length g.2.1.2, .slice g.2.2.1.1 r.2.2.2.2.2.2.2.1.length g.2.2.1.2]⟩]) (fun g => [Ro (eI .u8) 5 1 (.slice g.1.1 r.2.2.2.2.2.1.length g.1.2) r.2.2.2.2.2.1, Ro (eI .i64) 3 1 (.slice g.2.1.1 r.2.2.2.2.2.2.1.length g.2.1.2) r.2.2.2.2.2.2.1, Ro (eI .i64) 3 1 (.slice g.2.2.1.1 r.2.2.2.2.2.2.2.1.length g.2.2.1.2) r.2.2.2.2.2.2.2.1]) := by
 refine zC Tryz.func28 rfl Tryz.ntmps28 rfl hm (fun w => ?_)
 refine au [24,12,3,4,24,3] ?_
 intro g7
 refine au [24,3] ?_
 intro g8
 refine au [5,5,0,2,3,4,25,2] ?_
 refine qg qfo ?_
 intro x9 e9 _
 refine au [5,0,2] ?_
 refine qe (fun ((x12, _) : (Int × Unit)) => ([(2, .pointer (some ⟨g7, 0, none⟩)), (3, .pointer (some ⟨g8, 0, none⟩)), (6, .int .i64 x12)], [⟨g8, 26, [.int .i64 x4, .int .i64 x5, .int .i64 x6]⟩, ⟨g7, 24, [.slice a2 x1.length c3]⟩], [], [SlN eN37 iN37 1 (.slice a2 x1.length c3) x1 s3], yF F x1 x4 x5 x6 x12)) ?_ ?_
 refine av [3,4,1,24,9,0,2,10] ?_ ?_
 intro _
 refine au [4,24,11,28,4] ?_
 intro x97 e97 _
 refine au [5,0] ?_
 exact qa (x97, ())
 intro _
 refine au [11] ?_
 exact qa (x9, ())
 rintro ⟨x12, _⟩
 try dsimp only
 refine au [3,4,13,25,3,24,2,24,11] ?_
 refine ql (cells := [.int .i64 (x1.length : Int), .int .i64 x4, .int .i64 x5, .int .i64 x6, .int .i64 0, .slice none 0 0]) rfl st31 rfl (by kernel_rfl) rfl (ql (cells := [.int .i64 (x1.length : Int), .int .i64 x4, .int .i64 x5, .int .i64 x6, .int .i64 0, .slice none 0 0, .slice none 0 0, .slice none 0 0]) rfl st66 rfl (by kernel_rfl) rfl ?_)
 refine au [24,3] ?_
 intro g13
 refine au [5,0,2] ?_
 refine qe (fun (((x48, x49, x50, x51, x52, x53, x56, x59, x62), (a54, c55, a57, c58, a60, c61)) : ((Int × Int × Int × Int × Int × Int × List Int × List Int × List Int) × (Option Addr × Nat × Option Addr × Nat × Option Addr × Nat))) => ([(6, .int .i64 x48), (7, .pointer (some ⟨g13, 0, none⟩))], [⟨g13, 66, [.int .i64 x49, .int .i64 x50, .int .i64 x51, .int .i64 x52, .int .i64 x53, .slice a54 x56.length c55, .slice a57 x59.length c58, .slice a60 x62.length c61]⟩], [Ro (eI .u8) 5 1 (.slice a54 x56.length c55) x56, Ro (eI .i64) 3 1 (.slice a57 x59.length c58) x59, Ro (eI .i64) 3 1 (.slice a60 x62.length c61) x62], [], kN F x48 x49 x50 x51 x52 x53 x56 x59 x62)) ?_ ?_
 refine au [3,4,1,24,9,1] ?_
 refine qE 5 (fun (((x74, x75, x76, x77, x78, x79, x82, x85, x88), (a80, c81, a83, c84, a86, c87)) : ((Bool × Int × Int × Int × Int × Int × List Int × List Int × List Int) × (Option Addr × Nat × Option Addr × Nat × Option Addr × Nat))) => ([(6, .int .i64 x12), (7, .pointer (some ⟨g13, 0, none⟩)), (28, .bool x74)], [⟨g13, 66, [.int .i64 x75, .int .i64 x76, .int .i64 x77, .int .i64 x78, .int .i64 x79, .slice a80 x82.length c81, .slice a83 x85.length c84, .slice a86 x88.length c87]⟩], [Ro (eI .u8) 5 1 (.slice a80 x82.length c81) x82, Ro (eI .i64) 3 1 (.slice a83 x85.length c84) x85, Ro (eI .i64) 3 1 (.slice a86 x88.length c87) x88], [], kO F x12 x74 x75 x76 x77 x78 x79 x82 x85 x88)) ?_ ?_
 refine qb (os := _) rfl ?_
 refine av [25,7] ?_ ?_
 intro h63
 refine qi (k := 23) rfl h63 ?_
 refine au [1,25,14,26,12,26,14,26,14] ?_
 refine q9 qcS ?_
 rintro x90 e90 ⟨⟨a91, c92⟩, ⟨a93, c94⟩, ⟨a95, c96⟩⟩
 refine au [25,5,19,0] ?_
 exact qa (((!x90.1), x90.2.1, x90.2.2.1, x90.2.2.2.1, x90.2.2.2.2.1, x90.2.2.2.2.2.1, x90.2.2.2.2.2.2.1, x90.2.2.2.2.2.2.2.1, x90.2.2.2.2.2.2.2.2), (a91, c92, a93, c94, a95, c96))
 intro h63
 refine qh (k := 23) rfl h63 ?_
 refine au [7,7,7,7,20,0,26,0,25,9,25,9] ?_
 exact qa ((false, (x1.length : Int), x4, x5, x6, (0 : Int), ([] : List Int), ([] : List Int), ([] : List Int)), (none, 0, none, 0, none, 0))
 rintro ⟨⟨x74, x75, x76, x77, x78, x79, x82, x85, x88⟩, ⟨a80, c81, a83, c84, a86, c87⟩⟩
 try dsimp only
 refine qb (os := _) rfl ?_
 refine av [0,2,10] ?_ ?_
 intro _
 refine au [4,5,0] ?_
 exact qa (((8 : Int), x75, x76, x77, x78, x79, x82, x85, x88), (a80, c81, a83, c84, a86, c87))
 intro _
 refine au [11] ?_
 exact qa ((x12, x75, x76, x77, x78, x79, x82, x85, x88), (a80, c81, a83, c84, a86, c87))
 rintro ⟨⟨x48, x49, x50, x51, x52, x53, x56, x59, x62⟩, ⟨a54, c55, a57, c58, a60, c61⟩⟩
 try dsimp only
 refine au [3,4,1,1,5,5,0,2,9] ?_
 exact zv ((a54, c55), (a57, c58), (a60, c61), g13)
theorem qgl {F : Nat} {x1 : List (List Int)} {a2 : Option Addr} {c3 : Nat} {s3 : List (Option Addr × Nat)} {x4 : Int} {x5 : Int} {x6 : Int} {r : (Int × Int × Int × Int × Int × List Int × Int)} (hm : yl F x1 x4 x5 x6 = some r) :
    Pure Tryz.prog 9 [.agg #[.slice a2 x1.length c3], .agg #[.int .i64 x4, .int .i64 x5, .int .i64 x6]] [SlN eN37 iN37 1 (.slice a2 x1.length c3) x1 s3] (Option Addr × Nat) (fun g => .tuple #[.agg #[.int .i64 r.1, .int .i64 r.2.1, .int .i64 r.2.2.1, .int .i64 r.2.2.2.1, .int .i64 r.2.2.2.2.1, .slice g.1 r.2.2.2.2.2.1.length g.2], .int .i64 r.2.2.2.2.2.2]) (fun g => [Ro (eI .u8) 5 1 (.slice g.1 r.2.2.2.2.2.1.length g.2) r.2.2.2.2.2.1]) (fun _ => []) := by
 refine qj Tryz.func9 rfl Tryz.ntmps9 rfl hm (fun w => ?_)
 refine au [24,12,3,4,24,3] ?_
 intro g7
 refine au [24,3] ?_
 intro g8
 refine au [24,7] ?_
 intro g9
 refine au [5,0,2,3,4,25,14,25,2,32,7] ?_
 rintro x10 e10 ⟨⟨a11, c12⟩, ⟨a13, c14⟩, ⟨a15, c16⟩, g17⟩
 refine av [1,14,14,5,5,0,2,3,3,4,1,25,0,0,2,10] ?_ ?_
 intro _
 refine au [3,4] ?_
 refine ql (cells := [.int .i64 0, .int .i64 0, .int .i64 0, .int .i64 0, .int .i64 0, .slice none 0 0]) rfl st31 rfl (by kernel_rfl) rfl ?_
 refine au [1,25,11,5,0,2,9,12,26,0] ?_
 exact qR (none, 0) (resL (rs := [.cell 4 31, .tmp 5]) rfl (.cell (i := 1) rfl tf31 rfl rfl (by simp) rfl (.tmp rfl ResOk.nil)) rfl) (fun h => by subst h; exact (.cons 0 rfl .nil))
 intro _
 refine au [11,2,3,4,1,25,1,13,24,11,25,11,5,0,2,9] ?_
 exact qR (a11, c12) (resL (rs := [.cell 4 31, .tmp 5]) rfl (.cell (i := 1) rfl tf31 rfl rfl (by simp) rfl (.tmp rfl ResOk.nil)) rfl) (fun h => by subst h; exact (.cons 0 rfl .nil))
theorem qhh {F : Nat} {x1 : List (List Int)} {a2 : Option Addr} {c3 : Nat} {s3 : List (Option Addr × Nat)} {x4 : Int} {x5 : Int} {x6 : Int} {r : (List Int × List Int × Int)} (hm : qaI F x1 x4 x5 x6 = some r) :
    Pure Tryz.prog 11 [.agg #[.slice a2 x1.length c3], .agg #[.int .i64 x4, .int .i64 x5, .int .i64 x6]] [SlN eN37 iN37 1 (.slice a2 x1.length c3) x1 s3] ((Option Addr × Nat) × (Option Addr × Nat)) (fun g => .tuple #[.slice g.1.1 r.1.length g.1.2, .slice g.2.1 r.2.1.length g.2.2, .int .i64 r.2.2]) (fun g => [Ro (eI .i64) 3 1 (.slice g.1.1 r.1.length g.1.2) r.1, Ro (eI .i64) 3 1 (.slice g.2.1 r.2.1.length g.2.2) r.2.1]) (fun _ => []) := by
 refine qj Tryz.func11 rfl Tryz.ntmps11 rfl hm (fun w => ?_)
 refine au [24,12,3,4,24,3] ?_
 intro g7
 refine au [24,3] ?_
 intro g8
 refine au [5,5,5,0,2,3,4,25,2,24,11,32,7] ?_
 rintro x9 e9 ⟨⟨a10, c11⟩, ⟨a12, c13⟩, ⟨a14, c15⟩, g16⟩
 refine av [1,14,14,5,5,0,2,3,3,4,1,25,0,0,2,10] ?_ ?_
 intro _
 refine au [3,4,1,5,5,5,0,2,9,12,25,9,25,9] ?_
 exact qu ((none, 0), (none, 0))
 intro _
 refine au [11,2,3] ?_
 refine qs mixed [] [⟨g16, 66, [.int .i64 x9.1, .int .i64 x9.2.1, .int .i64 x9.2.2.1, .int .i64 x9.2.2.2.1, .int .i64 x9.2.2.2.2.1, .slice a10 x9.2.2.2.2.2.1.length c11, .slice a12 x9.2.2.2.2.2.2.1.length c13, .slice a14 x9.2.2.2.2.2.2.2.1.length c15]⟩, ⟨g8, 26, [.int .i64 x4, .int .i64 x5, .int .i64 x6]⟩, ⟨g7, 24, [.slice a2 x1.length c3]⟩] [SlN eN37 iN37 1 (.slice a2 x1.length c3) x1 s3] (.cons 0 rfl (.cons 0 rfl (.cons 0 rfl .nil))) (qO 0 rfl qr) 11 rfl ?_
 refine au [6,0,6,1,23,2,25,10,3,6,4,6,5,23,6,25,10,7,6,8,6,9,6,10,24,6] ?_
 refine qy ?_ (by intro c h; cases h)
 refine au [2,9] ?_
 exact qu ((a12, c13), (a14, c15))
theorem qgh {F : Nat} {x1 : Int} {x2 : List Int} {a3 : Option Addr} {c4 : Nat} {r : Int} (hm : zG F x1 x2 = some r) :
    Pure Tryz.prog 46 [.agg #[.int .i64 x1, .slice a3 x2.length c4]] [Sl (eI .u8) 1 (.slice a3 x2.length c4) x2] Unit (fun _ => .int .i64 r) (fun _ => []) (fun _ => []) := by
 refine qj Tryz.func46 rfl Tryz.ntmps46 rfl hm (fun w => ?_)
 refine au [25,8,3,4,24,3] ?_
 intro g5
 refine au [5,0,2,3,17,3,4,13,24,1,24,4,1] ?_
 refine qk 4 (decide (x1 < 0)) [(1, .pointer (some ⟨g5, 0, none⟩)), (11, .bool ((decide (x1 < 0)) || (decide (8192 < x1))))] (fun h27 => ?_) (fun h27 => ?_) ?_
 refine qb (os := _) rfl (qi (k := 7) rfl h27 ?_)
 refine au [7,7,7,19] ?_
 refine qc (d := 11) (v := .bool ((decide (x1 < 0)) || (decide (8192 < x1)))) rfl (by rw [h27]; simp only [Bool.true_or]) ?_
 exact az [0,15]
 refine qb (os := _) rfl (qh (k := 7) rfl h27 ?_)
 refine au [13,24,1,24,10,20] ?_
 refine qc (d := 11) (v := .bool ((decide (x1 < 0)) || (decide (8192 < x1)))) rfl (by rw [h27]; simp only [Bool.false_or]) ?_
 exact az [0,15]
 refine qb (os := _) rfl ?_
 refine av [5,0,2,10] ?_ ?_
 intro _
 exact az [3,4,5,0,2,9,24,5,12,16]
 intro _
 refine av [3,4,13,24,1,24,2,13,24,1,18,28,12,25,0,5,0,2,10] ?_ ?_
 intro _
 exact az [3,4,5,0,2,9,24,5,12,16]
 intro _
 refine qe (fun ((x36, _) : (Bool × Unit)) => ([(21, .bool x36)], [], [], [], vb F x36)) ?_ ?_
 refine av [26,10] ?_ ?_
 intro h38
 refine au [30,0] ?_
 intro x39 e39 b40 o41 h42
 replace h42 : a3 = some ⟨b40, o41, none⟩ := h42
 refine au [27,11] ?_
 intro h43
 refine qs mixed [] [⟨g5, 29, [.int .i64 x1, .slice a3 x2.length c4]⟩] [qI b40 (o41 + (isub .i64 (x2.length : Int) 1).toNat * 1) ((eI .u8) x39), Sl (eI .u8) 1 (.slice a3 x2.length c4) x2] (.cons 0 rfl .nil) (qO 0 rfl (qO 1 rfl qr)) 20 rfl ?_
 refine au [23,0,25,10,1] ?_
 refine qn 2 (.int .i64 (irem x1 8)) rfl rfl rfl (qg9 rfl rfl rfl) ?_
 refine au [6,3,6,4] ?_
 refine qf (d := 26) (v := .bool true) rfl (by rw [h38] <;> rfl) ?_
 refine au [23,5,25,10,6,23,7,25,10,8,27,13,9,6,10] ?_
 refine qf (d := 28) (v := .slice (some ⟨b40, o41, none⟩) x2.length c4) rfl (by rw [h42] <;> rfl) (qn 11 (.pointer (some ⟨b40, (o41 + (isub .i64 (x2.length : Int) 1).toNat * 1), none⟩)) rfl rfl rfl (qan Tryz.underlying27 tf5 rfl rfl (qP e39).1 (v8 e39)) (qf (d := 28) (v := .slice a3 x2.length c4) rfl (by rw [h42] <;> rfl) (q8 12 (.int .u8 x39) [] rfl rfl rfl (kE (j := 0) rfl tf5 rfl rfl (fun _ => rfl) rfl) ?_)))
 refine au [23,13,25,10,14] ?_
 refine qn 15 (.int .i64 (irem x1 8)) rfl rfl rfl (qg9 rfl rfl rfl) (qn 16 (.int .u8 (ishl .u8 x39 (irem x1 8))) rfl rfl rfl (qd1 rfl rfl h43) ?_)
 refine au [6,17,6,18,6,19,24,6] ?_
 exact qy (qa ((((ishl .u8 x39 (irem x1 8)) : Int) != 0), ())) (by intro c h; cases h)
 intro h38
 refine qs mixed [] [⟨g5, 29, [.int .i64 x1, .slice a3 x2.length c4]⟩] [Sl (eI .u8) 1 (.slice a3 x2.length c4) x2] (.cons 0 rfl .nil) (qO 0 rfl qr) 20 rfl ?_
 refine au [23,0,25,10,1] ?_
 refine qn 2 (.int .i64 (irem x1 8)) rfl rfl rfl (qg9 rfl rfl rfl) ?_
 refine au [6,3,6,4] ?_
 refine qf (d := 26) (v := .bool false) rfl (by rw [h38] <;> rfl) ?_
 refine au [8,5,8,6,8,7,8,8,8,9,8,10,8,11,8,12,8,13,8,14,8,15,8,16,8,17,6,18,6,19,24,6] ?_
 exact qy (qa (false, ())) (by intro c h; cases h)
 rintro ⟨x36, _⟩
 try dsimp only
 refine av [10] ?_ ?_
 intro _
 exact az [3,4,5,0,2,9,24,5,12,16]
 intro _
 exact az [11,24,8,2,3,4,5,0,2,9,16]
theorem qgk {F : Nat} {x1 : Int} {x2 : Int} {x3 : Int} {x4 : Int} {x5 : Int} {x6 : List Int} {a7 : Option Addr} {c8 : Nat} {r : Int} (hm : qaP F x1 x2 x3 x4 x5 x6 = some r) :
    Pure Tryz.prog 29 [.agg #[.int .i64 x1, .int .i64 x2, .int .i64 x3, .int .i64 x4, .int .i64 x5, .slice a7 x6.length c8]] [Sl (eI .u8) 1 (.slice a7 x6.length c8) x6] Unit (fun _ => .int .i64 r) (fun _ => []) (fun _ => []) := by
 refine qj Tryz.func29 rfl Tryz.ntmps29 rfl hm (fun w => ?_)
 refine au [25,8,3,4,24,3] ?_
 intro g9
 refine au [5,0,2,3,3,4,13,24,1,24,4,1] ?_
 refine qk 4 (decide (x1 < 0)) [(1, .pointer (some ⟨g9, 0, none⟩)), (11, .bool ((decide (x1 < 0)) || (decide (100 < x1))))] (fun h12 => ?_) (fun h12 => ?_) ?_
 refine qb (os := _) rfl (qi (k := 7) rfl h12 ?_)
 refine au [7,7,7,19] ?_
 refine qc (d := 11) (v := .bool ((decide (x1 < 0)) || (decide (100 < x1)))) rfl (by rw [h12]; simp only [Bool.true_or]) ?_
 exact az [0,15]
 refine qb (os := _) rfl (qh (k := 7) rfl h12 ?_)
 refine au [13,24,1,24,10,20] ?_
 refine qc (d := 11) (v := .bool ((decide (x1 < 0)) || (decide (100 < x1)))) rfl (by rw [h12]; simp only [Bool.false_or]) ?_
 exact az [0,15]
 refine qb (os := _) rfl ?_
 refine av [0,2,10] ?_ ?_
 intro _
 exact az [3,4,5,0,2,9,12,16]
 intro _
 refine au [11,2,3,3,4,13,24,11,28,4] ?_
 intro x15 e15 _
 refine av [5,0,2,3,4,1,25,0,0,2,10] ?_ ?_
 intro _
 exact az [3,4,1,5,0,2,9,12,16]
 intro _
 refine au [11,2,3,4,13,24,11,27,3] ?_
 intro x16 e16 _
 exact az [5,0,2,9,16]
theorem qgs {F : Nat} {x1 : Int} {x2 : List Int} {a3 : Option Addr} {c4 : Nat} {x5 : Int} {r : (Int × Int × Bool)} (hm : j2 F x1 x2 x5 = some r) :
    Pure Tryz.prog 120 [.agg #[.int .i64 x1, .slice a3 x2.length c4], .int .i64 x5] [Sl (eI .u8) 1 (.slice a3 x2.length c4) x2] Unit (fun _ => .tuple #[.int .u64 r.1, .int .i64 r.2.1, .bool r.2.2]) (fun _ => []) (fun _ => []) := by
 refine qj Tryz.func120 rfl Tryz.ntmps120 rfl hm (fun w => ?_)
 refine au [24,12,3,4,24,3] ?_
 intro g6
 refine au [5,5,5,0,2] ?_
 refine qe (fun ((_, _) : (Unit × Unit)) => ([], [], [], [], qcd F)) ?_ ?_
 refine au [3,4,1,5,0,2,17] ?_
 refine qt (fun ((x33, _) : (Int × Unit)) => ([(1, .int .i64 x5), (2, .pointer (some ⟨g6, 0, none⟩)), (7, .int .i64 x33)], [⟨g6, 29, [.int .i64 x1, .slice a3 x2.length c4]⟩], [], [Sl (eI .u8) 1 (.slice a3 x2.length c4) x2])) (fun k (s : (Int × Unit)) => k9 F x1 x2 x5 k s.1) (x5, ()) F ?_
 intro k40
 rintro ⟨x33, _⟩
 try dsimp only
 refine qJ (m' := jM F x1 x2 x5 (k9 F x1 x2 x5 k40) x33) rfl ?_
 refine av [3,3,4,1,13,24,1,24,4,0,2,10] ?_ ?_
 intro _
 refine au [11,2,3,17,3,4,24,11,1,28,0] ?_
 intro x44 e44 _
 refine av [24,9,0,2,10] ?_ ?_
 intro _
 exact az [3,4,1,1,24,15,25,6,1,18,5,5,5,0,2,9,24,5,12,12,24,5,12,16]
 intro _
 refine au [11,24,8,2,4,1,18,5,0] ?_
 exact qm (iadd .i64 x33 1, ())
 intro _
 exact az [24,13,21,21,24,14,25,15]
 rintro ⟨_, _⟩
 try dsimp only
 exact az [3,4,5,5,5,0,2,9,16]
theorem qcH (F : Nat) (x1 : Int) (x2 : List Int) (a3 : Option Addr) (c4 : Nat) (x5 : Int) (r : (Int × Int × Int)) (hm : jr F x1 x2 x5 = some r) :
    Pure Tryz.prog 104 [.agg #[.int .i64 x1, .slice a3 x2.length c4], .int .i64 x5] [Sl (eI .u8) 1 (.slice a3 x2.length c4) x2] Unit (fun _ => .tuple #[.int .u64 r.1, .int .i64 r.2.1, .int .i64 r.2.2]) (fun _ => []) (fun _ => []) := by
 refine qj Tryz.func104 rfl Tryz.ntmps104 rfl hm (fun w => ?_)
 refine au [24,12,3,4,24,3] ?_
 intro g6
 refine au [5,5,5,0,2,3,4,24,11,1,32,8] ?_
 intro x7 e7 _
 refine av [1,14,14,14,5,5,5,0,2,3,3,4,1,25,5,0,2,10] ?_ ?_
 intro _
 exact az [3,4,5,5,5,0,2,9,12,16]
 intro _
 exact az [11,2,3,4,1,1,5,5,5,0,2,9,16]
theorem qhc {F : Nat} {x1 : Int} {x2 : List Int} {a3 : Option Addr} {c4 : Nat} {x5 : Int} {x6 : Int} {r : (Int × Bool)} (hm : yh F x1 x2 x5 x6 = some r) :
    Pure Tryz.prog 68 [.agg #[.int .i64 x1, .slice a3 x2.length c4], .int .i64 x5, .int .i64 x6] [Sl (eI .u8) 1 (.slice a3 x2.length c4) x2] Unit (fun _ => .tuple #[.int .u64 r.1, .bool r.2]) (fun _ => []) (fun _ => []) := by
 refine qj Tryz.func68 rfl Tryz.ntmps68 rfl hm (fun w => ?_)
 refine au [25,13,3,4,24,3] ?_
 intro g7
 refine av [5,5,0,2,3,3,4,13,24,1,1,24,15,1,24,4,0,2,10] ?_ ?_
 intro _
 exact az [3,4,5,5,0,2,9,12,16]
 intro _
 refine au [11,2] ?_
 refine qe (fun ((x24, _) : (Int × Unit)) => ([(6, .int .u64 x24)], [], [], [], qa1 F x24)) ?_ ?_
 refine au [3,4,1,1,0,2,17] ?_
 refine qt (fun (((x29, x30), _) : ((Int × Int) × Unit)) => ([(1, .int .i64 x5), (3, .pointer (some ⟨g7, 0, none⟩)), (6, .int .u64 x29), (15, .int .i64 x6), (16, .int .i64 x30)], [⟨g7, 29, [.int .i64 x1, .slice a3 x2.length c4]⟩], [], [Sl (eI .u8) 1 (.slice a3 x2.length c4) x2])) (fun k (s : ((Int × Int) × Unit)) => yC F x1 x2 x5 x6 k s.1) ((0, 0), ()) F ?_
 intro k35
 rintro ⟨⟨x29, x30⟩, _⟩
 try dsimp only
 refine qJ (m' := jR F x1 x2 x5 x6 (yC F x1 x2 x5 x6 k35) x29 x30) rfl ?_
 refine av [3,4,24,4,0,2,3,10] ?_ ?_
 intro _
 refine au [11,2,3,17,3,4,1,5,0,2,4,1,31,12,24,11,1,1,18,28,0] ?_
 intro x38 e38 _
 refine qot rfl rfl rfl rfl ?_
 refine au [5,0,24,8,2,4,18,1,0] ?_
 exact qm ((ior .u64 (ishl .u64 x29 1) x38, iadd .i64 x30 1), ())
 intro _
 refine au [24,13,21,21,24,14] ?_
 exact qa (x29, ())
 rintro ⟨x24, _⟩
 try dsimp only
 exact az [3,4,1,5,5,0,2,9,16]
theorem vS {F : Nat} {x1 : Int} {x2 : List Int} {a3 : Option Addr} {c4 : Nat} {x5 : Int} {r : (Int × Int × Int)} (hm : zj F x1 x2 x5 = some r) :
    Pure Tryz.prog 105 [.func (.func 104) #[] #[], .agg #[.int .i64 x1, .slice a3 x2.length c4], .int .i64 x5] [Sl (eI .u8) 1 (.slice a3 x2.length c4) x2] Unit (fun _ => .tuple #[.int .u64 r.1, .int .i64 r.2.1, .int .i64 r.2.2]) (fun _ => []) (fun _ => []) := by
 refine qj Tryz.func105 rfl Tryz.ntmps105 rfl hm (fun w => ?_)
 refine au [25,13,3,4,24,3] ?_
 intro g6
 refine au [5,5,5,0,2,3,4,1,24,11,1] ?_
 refine qko ent104 rfl rfl rfl rfl (fun x7 e7 => qcH F x1 x2 a3 c4 x5 x7 e7) (.consF 0 rfl .nil) (fun x7 e7 _ => ?_)
 refine av [1,14,14,14,5,5,5,0,2,3,3,4,1,25,0,0,2,10] ?_ ?_
 intro _
 exact az [3,4,1,5,5,5,0,2,9,12,16]
 intro _
 refine av [11,2,3,3,4,1,26,3,0,2,10] ?_ ?_
 intro _
 exact az [3,4,5,5,5,0,2,9,12,16]
 intro _
 refine au [11,2,3,4,24,11,1,1,25,6,29,1] ?_
 intro x10 e10 _
 refine av [1,14,14,5,5,0,2,3,3,4,1,25,5,0,2,10] ?_ ?_
 intro _
 exact az [3,4,5,5,5,0,2,9,12,16]
 intro _
 refine au [11,2,3,3,4,1,1,26,4] ?_
 intro h15
 refine qek rfl rfl rfl rfl h15 ?_
 refine au [24,15,18,5,26,5] ?_
 intro x16 e16
 refine qc (d := 12) (v := .int .u64 x16) rfl (by rw [e16] <;> rfl) ?_
 refine av [0,2,3,4,1,24,10,0,2,10] ?_ ?_
 intro _
 exact az [3,4,5,5,5,0,2,9,12,16]
 intro _
 exact az [11,2,3,4,1,1,1,25,6,18,5,5,5,0,2,9,16]
theorem qdd {F : Nat} {x1 : Int} {x2 : List Int} {a3 : Option Addr} {c4 : Nat} {x5 : Int} {r : (Int × Int × Int)} (hm : yj F x1 x2 x5 = some r) :
    Pure Tryz.prog 82 [.agg #[.int .i64 x1, .slice a3 x2.length c4], .int .i64 x5] [Sl (eI .u8) 1 (.slice a3 x2.length c4) x2] Unit (fun _ => .tuple #[.int .u64 r.1, .int .i64 r.2.1, .int .i64 r.2.2]) (fun _ => []) (fun _ => []) := by
 refine qj Tryz.func82 rfl Tryz.ntmps82 rfl hm (fun w => ?_)
 refine au [24,12,3,4,24,3] ?_
 intro g6
 refine au [5,5,5,0,2,3,4,24,11,1] ?_
 refine qg vS ?_
 intro x7 e7 _
 exact az [14,14,14,5,5,5,0,2,9,16]
theorem qih {F : Nat} {x1 : Int} {x2 : Int} {x3 : Int} {x4 : Int} {x5 : Int} {x6 : List Int} {a7 : Option Addr} {c8 : Nat} {x9 : Int} {x10 : Int} {r : (Int × Int × Bool)} (hm : qbV F x1 x2 x3 x4 x5 x6 x9 x10 = some r) :
    Pure Tryz.prog 56 [.agg #[.int .i64 x1, .int .i64 x2, .int .i64 x3, .int .i64 x4, .int .i64 x5, .slice a7 x6.length c8], .int .i64 x9, .int .i64 x10] [Sl (eI .u8) 1 (.slice a7 x6.length c8) x6] Unit (fun _ => .tuple #[.int .i64 r.1, .int .i64 r.2.1, .bool r.2.2]) (fun _ => []) (fun _ => []) := by
 refine qj Tryz.func56 rfl Tryz.ntmps56 rfl hm (fun w => ?_)
 refine au [25,13,3,4,24,3] ?_
 intro g11
 refine av [5,5,5,0,2,3,3,4,13,13,24,1,24,9,0,2,10] ?_ ?_
 intro _
 exact az [3,4,1,5,5,5,0,2,9,12,16]
 intro _
 refine au [11,2,3,4,13,24,11,1,32,9] ?_
 intro x13 e13 _
 refine au [1,14,14,14,5,5,5,0,2,3,3,4,1,25,0,1] ?_
 refine qE 9 (fun ((x18, _) : (Bool × Unit)) => ([(7, .int .i64 x13.2.1), (9, .int .u64 x13.1), (35, .bool x18)], [], [], [], qaB F x13 x18)) ?_ ?_
 refine qb (os := _) rfl ?_
 refine av [25,7] ?_ ?_
 intro h17
 refine qi (k := 26) rfl h17 ?_
 refine au [7,7,7,7,7,7,7,7,19,0] ?_
 exact qa (true, ())
 intro h17
 refine qh (k := 26) rfl h17 ?_
 refine au [1,13,13,24,1,1,27,8,25,6,24,10,20,0] ?_
 exact qa ((decide ((iconv .u64 (imin x2 x10)) < x13.1)), ())
 rintro ⟨x18, _⟩
 try dsimp only
 refine qb (os := _) rfl ?_
 refine av [0,2,10] ?_ ?_
 intro _
 exact az [3,4,5,5,5,0,2,9,12,16]
 intro _
 exact az [11,2,3,4,1,25,6,1,5,5,5,0,2,9,16]
theorem yL (F : Nat) (x1 : Bool) (r : (Unit ⊕ Unit)) (hm : zU F x1 = some r) :
    PureL Tryz.prog 108 [.bool x1] [] [] [] lostCh Unit (fun (_ : Unit) (_ : Unit) => .tuple #[]) (fun (_ : Unit) (_ : Unit) => []) (fun (_ : Unit) (_ : Unit) => []) (fun (_ : Unit) => []) r := by
 refine qcq Tryz.func108 rfl Tryz.ntmps108 rfl hm (fun w => ?_)
 refine av [25,8,3,4,1,25,5,0,2,10] ?_ ?_
 intro _
 refine au [4] ?_
 exact ql (cells := []) rfl inferInstance rfl (by kernel_rfl) rfl (qks rfl rfl (qmS _) rfl (qkv rfl rfl (qf9 .nil)))
 intro _
 refine au [11] ?_
 exact qal () (.inr rfl) (res0 rfl) rfl .nil .nil
theorem zR (F : Nat) (g1 : Nat) (x2 : Int) (x3 : List Int) (a4 : Option Addr) (c5 : Nat) (x6 : Int) (x7 : Int) (r : ((Int × Int × Int) ⊕ (Int × Int))) (hm : q5 F x2 x3 x6 x7 = some r) :
    PureL Tryz.prog 121 [.pointer (some ⟨g1, 0, none⟩), .int .i64 x7] [⟨g1, 137, [.int .i64 x2, .slice a4 x3.length c5, .int .i64 x6]⟩] [] [Sl (eI .u8) 1 (.slice a4 x3.length c5) x3] lostCh Unit (fun (r : (Int × Int × Int)) (_ : Unit) => .int .i64 r.1) (fun (r : (Int × Int × Int)) (_ : Unit) => [⟨g1, 137, [.int .i64 r.2.1, .slice a4 x3.length c5, .int .i64 r.2.2]⟩]) (fun (_ : (Int × Int × Int)) (_ : Unit) => []) (fun (z : (Int × Int)) => [⟨g1, 137, [.int .i64 z.1, .slice a4 x3.length c5, .int .i64 z.2]⟩]) r := by
 refine qcq Tryz.func121 rfl Tryz.ntmps121 rfl hm (fun w => ?_)
 refine au [24,12,3,4,5,0,2,3] ?_
 refine qs mixed [] [⟨g1, 137, [.int .i64 x2, .slice a4 x3.length c5, .int .i64 x6]⟩] [Sl (eI .u8) 1 (.slice a4 x3.length c5) x3] (.cons 0 rfl .nil) (qO 0 rfl qr) 16 rfl ?_
 refine au [6,0,6,1,23,2] ?_
 refine ke 3 (.agg #[.int .i64 x2, .slice a4 x3.length c5]) rfl rfl rfl (zd (i := 0) rfl tf29 rfl rfl (by simp) rfl) ?_
 refine au [6,4,6,5,23,6,25,10,7,24,0,8,32,9] ?_
 intro x9 e9 _
 refine au [0,29,6,6,9,6,10,6,11,6,12,6,13,6,14,6,15,24,6] ?_
 refine qy ?_ (by intro c h; cases h)
 refine au [2,3,4,1,24,9,1] ?_
 refine qk 5 ((x9.2.2 : Int) == 0) [(0, .pointer (some ⟨g1, 0, none⟩)), (5, .int .u64 x9.1), (6, .int .i64 x9.2.1), (28, .bool (((x9.2.2 : Int) == 0) && (decide (x9.1 ≤ (iconv .u64 x7)))))] (fun h10 => ?_) (fun h10 => ?_) ?_
 refine qb (os := _) rfl (qi (k := 23) rfl h10 ?_)
 refine au [1,1,25,6,27,0,19] ?_
 refine qc (d := 28) (v := .bool (((x9.2.2 : Int) == 0) && (decide (x9.1 ≤ (iconv .u64 x7))))) rfl (by rw [h10]; simp only [Bool.true_and]) ?_
 exact az [0,15]
 refine qb (os := _) rfl (qh (k := 23) rfl h10 ?_)
 refine au [7,7,7,7,20] ?_
 refine qc (d := 28) (v := .bool (((x9.2.2 : Int) == 0) && (decide (x9.1 ≤ (iconv .u64 x7))))) rfl (by rw [h10]; simp only [Bool.false_and]) ?_
 exact az [0,15]
 refine qb (os := _) rfl (zD ent108 rfl rfl rfl (fun x11 e11 => yL F (((x9.2.2 : Int) == 0) && (decide (x9.1 ≤ (iconv .u64 x7)))) x11 e11) .nil .nil .nil (fun x12 _ => ?_) (fun x11 e11 => ?_))
 exact az [25,4,26,2]
 intro _
 refine au [0,2,3,4,1,1,25,1,13,22,0,2,3,4,1,25,6,5,0,2,9] ?_
 exact qal () (.inl rfl) (res1 rfl rfl) rfl (.cons 0 rfl .nil) .nil
theorem qfq {F : Nat} {x1 : List Int} {a2 : Option Addr} {c3 : Nat} {x4 : Int} {r : Int} (hm : qaC F x1 x4 = some r) :
    Pure Tryz.prog 136 [.slice a2 x1.length c3, .int .i64 x4] [Sl (eI .i64) 1 (.slice a2 x1.length c3) x1] Unit (fun _ => .int .i64 r) (fun _ => []) (fun _ => []) := by
 refine qj Tryz.func136 rfl Tryz.ntmps136 rfl hm (fun w => ?_)
 refine av [24,12,3,4,5,0,2,3,3,4,1,24,2,1,18,24,10,0,2,10] ?_ ?_
 intro _
 exact az [3,4,5,0,2,9,12,16]
 intro _
 refine au [11,2,3,4,5,0,2] ?_
 refine qe (fun ((x99, _) : (Int × Unit)) => ([(1, .int .i64 x4), (5, .int .i64 x99)], [], [], [], jY F x4 x99)) ?_ ?_
 refine au [3,4,1,24,2,1,0,2,17] ?_
 refine qt (fun (((x132, x133), _) : ((Int × Int) × Unit)) => ([(1, .int .i64 x4), (5, .int .i64 x132), (13, .slice a2 x1.length c3), (14, .int .i64 (x1.length : Int)), (15, .int .i64 x133)], [], [], [Sl (eI .i64) 1 (.slice a2 x1.length c3) x1])) (fun k (s : ((Int × Int) × Unit)) => zJ F x1 x4 k s.1) ((0, 0), ()) F ?_
 intro k164
 rintro ⟨⟨x132, x133⟩, _⟩
 try dsimp only
 refine qJ (m' := vD F x1 x4 (zJ F x1 x4 k164) x132 x133) rfl ?_
 refine av [3,4,24,4,0,2,3,10] ?_ ?_
 intro _
 refine au [11,2,3,17,3,4,1,26,8] ?_
 intro x180 e180 b181 o182
 refine au [25,12,5,5,0,2,3,3,4,1,24,4,1] ?_
 refine qE 7 (fun ((x190, _) : (Bool × Unit)) => ([(1, .int .i64 x4), (5, .int .i64 x132), (7, .int .i64 x180), (13, .slice a2 x1.length c3), (14, .int .i64 (x1.length : Int)), (15, .int .i64 x133), (29, .bool x190)], [], [], [Sl (eI .i64) 1 (.slice a2 x1.length c3) x1], vE F (zJ F x1 x4 k164) x4 x132 x133 x180 x190)) ?_ ?_
 refine qb (os := _) rfl ?_
 refine av [25,7] ?_ ?_
 intro h188
 refine qi (k := 22) rfl h188 ?_
 refine au [7,7,7,7,7,7,19,0] ?_
 exact qa (true, ())
 intro h188
 refine qh (k := 22) rfl h188 ?_
 refine au [1,24,4,1] ?_
 refine qk 3 (decide (x180 < 1)) [(1, .int .i64 x4), (5, .int .i64 x132), (13, .slice a2 x1.length c3), (14, .int .i64 (x1.length : Int)), (15, .int .i64 x133), (7, .int .i64 x180), (22, .bool false), (23, .int .i64 x180), (24, .bool (decide (x180 < 1))), (25, .bool (decide (x180 < 1))), (28, .bool ((decide (x180 < 1)) && (decide (0 < x133))))] (fun h193 => ?_) (fun h193 => ?_) ?_
 refine qb (os := _) rfl (qi (k := 25) rfl h193 ?_)
 refine au [1,24,10,19] ?_
 refine qc (d := 28) (v := .bool ((decide (x180 < 1)) && (decide (0 < x133)))) rfl (by rw [h193]; simp only [Bool.true_and]) (qc (d := 25) (v := .bool (decide (x180 < 1))) rfl (by rw [h193] <;> rfl) ?_)
 exact az [0,15]
 refine qb (os := _) rfl (qh (k := 25) rfl h193 ?_)
 refine au [7,7,20] ?_
 refine qc (d := 28) (v := .bool ((decide (x180 < 1)) && (decide (0 < x133)))) rfl (by rw [h193]; simp only [Bool.false_and]) (qc (d := 25) (v := .bool (decide (x180 < 1))) rfl (by rw [h193] <;> rfl) ?_)
 exact az [0,15]
 refine qb (os := _) rfl ?_
 refine au [20,0] ?_
 exact qa (((decide (x180 < 1)) && (decide (0 < x133))), ())
 rintro ⟨x190, _⟩
 try dsimp only
 refine qb (os := _) rfl ?_
 refine av [0,2,10] ?_ ?_
 intro _
 exact az [3,4,5,0,2,9,12,24,5,12,12,24,5,12,16]
 intro _
 refine au [11,2,4,1,1,1,18,27,8,18,1,18,27,8,5,26,5] ?_
 intro x191 e191
 refine qc (d := 5) (v := .int .i64 x191) rfl (by rw [e191] <;> rfl) ?_
 refine au [0,24,8,2,4,18,1,0] ?_
 exact qm ((x191, iadd .i64 x133 1), ())
 intro _
 refine au [24,13,21,21,24,14] ?_
 exact qa (x132, ())
 rintro ⟨x99, _⟩
 try dsimp only
 refine av [3,3,4,1,1,24,10,0,2,10] ?_ ?_
 intro _
 exact az [3,4,5,0,2,9,12,16]
 intro _
 exact az [11,2,3,4,5,0,2,9,16]
theorem qer {F : Nat} {x1 : List Int} {a2 : Option Addr} {c3 : Nat} {x4 : List Int} {a5 : Option Addr} {c6 : Nat} {r : List Int} (hm : qa8 F x1 x4 = some r) :
    Pure Tryz.prog 137 [.slice a2 x1.length c3, .slice a5 x4.length c6] [Sl (eI .i64) 1 (.slice a2 x1.length c3) x1, Sl (eI .i64) 1 (.slice a5 x4.length c6) x4] (Option Addr × Nat) (fun g => .slice g.1 r.length g.2) (fun g => [Ro (eI .i64) 3 1 (.slice g.1 r.length g.2) r]) (fun _ => []) := by
 refine qj Tryz.func137 rfl Tryz.ntmps137 rfl hm (fun w => ?_)
 refine au [24,12,3,4,5,0,2,3,4,5,0,2,3,4,5,0,2] ?_
 refine qe (fun (((x158, x161, x162), (a156, c157, a159, c160)) : ((List Int × List Int × Bool) × (Option Addr × Nat × Option Addr × Nat))) => ([(0, .slice a156 x158.length c157), (5, .slice a159 x161.length c160), (6, .bool x162)], [], [Ro (eI .i64) 3 1 (.slice a159 x161.length c160) x161], [Sl (eI .i64) 1 (.slice a156 x158.length c157) x158], jZ F x158 x161 x162)) ?_ ?_
 refine au [3,4,1,24,2,1,0,2,17,27,1] ?_
 refine qt (fun (((x217, x220, x221, x222), (a215, c216, a218, c219)) : ((List Int × List Int × Bool × Int) × (Option Addr × Nat × Option Addr × Nat))) => ([(0, .slice a215 x217.length c216), (5, .slice a218 x220.length c219), (6, .bool x221), (9, .slice a5 x4.length c6), (10, .int .i64 (x4.length : Int)), (11, .int .i64 x222)], [], [Ro (eI .i64) 3 1 (.slice a218 x220.length c219) x220], [Sl (eI .i64) 1 (.slice a215 x217.length c216) x217, Sl (eI .i64) 1 (.slice a5 x4.length c6) x4])) (fun k (s : ((List Int × List Int × Bool × Int) × (Option Addr × Nat × Option Addr × Nat))) => zz F x4 k s.1) ((x1, ([] : List Int), true, 0), (a2, c3, none, 0)) F ?_
 intro k271
 rintro ⟨⟨x217, x220, x221, x222⟩, ⟨a215, c216, a218, c219⟩⟩
 try dsimp only
 refine qJ (m' := yS F x4 (zz F x4 k271) x217 x220 x221 x222) rfl ?_
 refine av [3,4,24,4,0,2,3,10] ?_ ?_
 intro _
 refine au [11,2,3,17,3,4,29,9] ?_
 intro x296 e296 b297 o298
 refine au [25,12,5,0,2] ?_
 refine qe (fun ((x308, (a306, c307)) : (List Int × (Option Addr × Nat))) => ([(0, .slice a215 x217.length c216), (5, .slice a306 x308.length c307), (6, .bool x221), (8, .int .i64 x296), (9, .slice a5 x4.length c6), (10, .int .i64 (x4.length : Int)), (11, .int .i64 x222)], [], [Ro (eI .i64) 3 1 (.slice a306 x308.length c307) x308], [Sl (eI .i64) 1 (.slice a215 x217.length c216) x217, Sl (eI .i64) 1 (.slice a5 x4.length c6) x4], yT F (zz F x4 k271) x217 x221 x222 x296 x308)) ?_ ?_
 refine av [3,4,1,0,2,10] ?_ ?_
 intro _
 refine au [4,1,1,1] ?_
 refine qjR (j := 1) (qv .i64) rfl UnF.u inferInstance rfl rfl rfl rfl rfl ?_
 intro x312 e312 a313 c314
 refine au [30,1] ?_
 intro x315 e315 a316 c317
 refine au [5,0] ?_
 exact qa (x315, (a316, c317))
 intro _
 refine au [11] ?_
 exact qa (x220, (a218, c219))
 rintro ⟨x308, ⟨a306, c307⟩⟩
 try dsimp only
 refine au [4,1,1] ?_
 refine qjR (j := 0) (qv .i64) rfl UnF.u inferInstance rfl rfl rfl rfl rfl ?_
 intro x309 e309 a310 c311
 refine au [1,25,5,5,5,0,24,8,2,4,18,1,0] ?_
 exact qm ((x309, x308, (!x221), iadd .i64 x222 1), (a310, c311, a306, c307))
 intro _
 refine au [24,13,21,21,24,14] ?_
 exact qa ((x217, x220, x221), (a215, c216, a218, c219))
 rintro ⟨⟨x158, x161, x162⟩, ⟨a156, c157, a159, c160⟩⟩
 try dsimp only
 refine qe (fun ((x169, (a167, c168)) : (List Int × (Option Addr × Nat))) => ([(5, .slice a167 x169.length c168)], [], [Ro (eI .i64) 3 1 (.slice a167 x169.length c168) x169], [], vF F x169)) ?_ ?_
 refine av [3,4,1,0,2,10] ?_ ?_
 intro _
 refine au [4,1,1,30,1] ?_
 intro x170 e170 a171 c172
 refine au [5,0] ?_
 exact qa (x170, (a171, c172))
 intro _
 refine au [11] ?_
 exact qa (x161, (a159, c160))
 rintro ⟨x169, ⟨a167, c168⟩⟩
 try dsimp only
 refine au [3,4,1,5,0,2,9] ?_
 exact qu (a167, c168)
theorem qgn {F : Nat} {x1 : List Int} {a2 : Option Addr} {c3 : Nat} {x4 : List Int} {a5 : Option Addr} {c6 : Nat} {r : (List Int × Int)} (hm : qaQ F x1 x4 = some r) :
    Pure Tryz.prog 122 [.slice a2 x1.length c3, .slice a5 x4.length c6] [Sl (eI .i64) 1 (.slice a2 x1.length c3) x1, Sl (eI .i64) 1 (.slice a5 x4.length c6) x4] (Option Addr × Nat) (fun g => .tuple #[.slice g.1 r.1.length g.2, .int .i64 r.2]) (fun g => [Ro (eI .i64) 3 1 (.slice g.1 r.1.length g.2) r.1]) (fun _ => []) := by
 refine qj Tryz.func122 rfl Tryz.ntmps122 rfl hm (fun w => ?_)
 refine au [24,12,3,4,5,5,0,2,3,4,1,28,1] ?_
 intro x7 e7 _
 refine au [5,0,2] ?_
 refine qe (fun ((x10, _) : (Int × Unit)) => ([(0, .slice a2 x1.length c3), (1, .slice a5 x4.length c6), (6, .int .i64 x10)], [], [], [Sl (eI .i64) 1 (.slice a2 x1.length c3) x1, Sl (eI .i64) 1 (.slice a5 x4.length c6) x4], vf F x1 x4 x10)) ?_ ?_
 refine av [3,4,1,24,9,0,2,10] ?_ ?_
 intro _
 refine au [4,1,1,24,2] ?_
 refine qg qfq ?_
 intro x16 e16 _
 refine au [5,0] ?_
 exact qa (x16, ())
 intro _
 refine au [11] ?_
 exact qa (x7, ())
 rintro ⟨x10, _⟩
 try dsimp only
 refine av [3,3,4,1,25,0,0,2,10] ?_ ?_
 intro _
 refine au [3,4,1,5,5,0,2,9,12,25,9] ?_
 exact qu (none, 0)
 intro _
 refine au [11,2,3,4,1,1] ?_
 refine qg qer ?_
 rintro x12 e12 ⟨a13, c14⟩
 refine au [5,5,0,2,9] ?_
 exact qu (a13, c14)
theorem qcj (F : Nat) (g1 : Nat) (x2 : Int) (x3 : List Int) (a4 : Option Addr) (c5 : Nat) (x6 : Int) (x7 : Int) (r : ((List Int × Int × Int) ⊕ (Int × Int))) (hm : yp F x2 x3 x6 x7 = some r) :
    PureL Tryz.prog 123 [.pointer (some ⟨g1, 0, none⟩), .int .i64 x7] [⟨g1, 137, [.int .i64 x2, .slice a4 x3.length c5, .int .i64 x6]⟩] [] [Sl (eI .u8) 1 (.slice a4 x3.length c5) x3] lostCh (Option Addr × Nat) (fun (r : (List Int × Int × Int)) (g : (Option Addr × Nat)) => .slice g.1 r.1.length g.2) (fun (r : (List Int × Int × Int)) (_ : (Option Addr × Nat)) => [⟨g1, 137, [.int .i64 r.2.1, .slice a4 x3.length c5, .int .i64 r.2.2]⟩]) (fun (r : (List Int × Int × Int)) (g : (Option Addr × Nat)) => [Ro (eI .i64) 3 1 (.slice g.1 r.1.length g.2) r.1]) (fun (z : (Int × Int)) => [⟨g1, 137, [.int .i64 z.1, .slice a4 x3.length c5, .int .i64 z.2]⟩]) r := by
 refine qcq Tryz.func123 rfl Tryz.ntmps123 rfl hm (fun w => ?_)
 refine au [24,12,3,4,5,0,2,3,4,1,1,18] ?_
 refine zD ent121 rfl rfl rfl (fun x8 e8 => zR F g1 x2 x3 a4 c5 x6 (iadd .i64 x7 1) x8 e8) (.cons 0 rfl .nil) .nil (.consF 0 rfl .nil) (fun x9 _ => ?_) (fun x8 e8 => ?_)
 exact az [25,4,26,2]
 intro _
 refine qmf (qv .i64) rfl UnF.u inferInstance rfl rfl rfl rfl rfl rfl rfl ?_
 intro x10 e10 a11 c12
 refine au [5,0,2] ?_
 refine qe (fun (((x72, x73, x74), _) : ((List Int × Int × Int) × Unit)) => ([(5, .slice a11 x72.length c12)], [⟨g1, 137, [.int .i64 x73, .slice a4 x3.length c5, .int .i64 x74]⟩], [Ro (eI .i64) 3 1 (.slice a11 x72.length c12) x72], [Sl (eI .u8) 1 (.slice a4 x3.length c5) x3], yG F x72 x73 x74)) ?_ ?_
 refine au [3,4,1,24,2,1,0,2,17] ?_
 refine qt (fun (((x93, x94, x95, x96), _) : ((List Int × Int × Int × Int) × Unit)) => ([(0, .pointer (some ⟨g1, 0, none⟩)), (1, .int .i64 x7), (5, .slice a11 x93.length c12), (13, .int .i64 (x10.length : Int)), (14, .int .i64 x94)], [⟨g1, 137, [.int .i64 x95, .slice a4 x3.length c5, .int .i64 x96]⟩], [Ro (eI .i64) 3 1 (.slice a11 x93.length c12) x93], [Sl (eI .u8) 1 (.slice a4 x3.length c5) x3])) (fun k (s : ((List Int × Int × Int × Int) × Unit)) => zm F x3 x7 x10 k s.1) ((x10, 0, x8.2.1, x8.2.2), ()) F ?_
 intro k115
 rintro ⟨⟨x93, x94, x95, x96⟩, _⟩
 try dsimp only
 refine qJ (m' := kw F x3 x7 x10 (zm F x3 x7 x10 k115) x93 x94 x95 x96) rfl ?_
 refine av [3,4,24,4,0,2,3,10] ?_ ?_
 intro _
 refine au [11,2,3,17,3,4,1,5,0,2,4,1,1,1,1] ?_
 refine zD ent121 rfl rfl rfl (fun x125 e125 => zR F g1 x95 x3 a4 c5 x96 x7 x125 e125) (.cons 0 rfl .nil) .nil (.consF 0 rfl .nil) (fun x126 _ => ?_) (fun x125 e125 => ?_)
 exact az [27,4,25,4,25,4,27,4,25,4,26,2]
 intro _
 refine au [1,27,8,18,29,2] ?_
 intro x127 e127 g128 h129
 refine qc9 (j := 0) (y' := iadd .i64 x125.1 (imin x94 1)) (qv .i64) rfl rfl rfl tf3 rfl h129 (qP e127).2.1 rfl (fun x130 e130 h131 => ?_)
 have h132 : x130.length = x93.length := by rw [← e130, List.length_set]
 refine qc (d := 5) (v := .slice a11 x130.length c12) rfl h131 (qc (d := 17) (v := .slice a11 x130.length c12) rfl h131 ?_)
 refine au [0,24,8,2,4,18,1,0] ?_
 exact qm ((x130, iadd .i64 x94 1, x125.2.1, x125.2.2), ())
 intro _
 refine au [24,13,21,21,24,14] ?_
 exact qa ((x93, x95, x96), ())
 rintro ⟨⟨x72, x73, x74⟩, _⟩
 try dsimp only
 refine au [3,4,1,5,0,2,9] ?_
 exact qal (a11, c12) (.inl rfl) (res1 rfl rfl) rfl (.cons 0 rfl .nil) (.cons 0 rfl .nil)
theorem qec {F : Nat} {x1 : Int} {r : Int} (hm : vj F x1 = some r) :
    Pure Tryz.prog 138 [.int .u64 x1] [] Unit (fun _ => .int .i64 r) (fun _ => []) (fun _ => []) := by
 refine qj Tryz.func138 rfl Tryz.ntmps138 rfl hm (fun w => ?_)
 refine au [25,8,3,4,5,0,2,3,4,1,27,12,25,6,1,28,13,25,6] ?_
 refine qnx rfl rfl rfl ?_
 refine au [31,13,5,26,5] ?_
 intro x2 e2
 refine qc (d := 2) (v := .int .i64 x2) rfl (by rw [e2] <;> rfl) ?_
 exact az [0,2,9,16]
theorem qcX (F : Nat) (g1 : Nat) (x2 : Int) (x3 : List Int) (a4 : Option Addr) (c5 : Nat) (x6 : Int) (x7 : Int) (x8 : Int) (x9 : Int) (r : ((List (Int × Int) × Int × Int) ⊕ (Int × Int))) (hm : yW F x2 x3 x6 x7 x8 x9 = some r) :
    PureL Tryz.prog 124 [.pointer (some ⟨g1, 0, none⟩), .int .i64 x7, .int .i64 x8, .int .i64 x9] [⟨g1, 137, [.int .i64 x2, .slice a4 x3.length c5, .int .i64 x6]⟩] [] [Sl (eI .u8) 1 (.slice a4 x3.length c5) x3] lostCh (Option Addr × Nat) (fun (r : (List (Int × Int) × Int × Int)) (g : (Option Addr × Nat)) => .slice g.1 r.1.length g.2) (fun (r : (List (Int × Int) × Int × Int)) (_ : (Option Addr × Nat)) => [⟨g1, 137, [.int .i64 r.2.1, .slice a4 x3.length c5, .int .i64 r.2.2]⟩]) (fun (r : (List (Int × Int) × Int × Int)) (g : (Option Addr × Nat)) => [Ro eS141 141 2 (.slice g.1 r.1.length g.2) r.1]) (fun (z : (Int × Int)) => [⟨g1, 137, [.int .i64 z.1, .slice a4 x3.length c5, .int .i64 z.2]⟩]) r := by
 refine qcq Tryz.func124 rfl Tryz.ntmps124 rfl hm (fun w => ?_)
 refine au [26,9,3,4,5,0,2,3,4,1,1,1,26,4] ?_
 intro h10
 refine qg1 rfl rfl rfl rfl h10 (zD ent121 rfl rfl rfl (fun x11 e11 => zR F g1 x2 x3 a4 c5 x6 (iquo .i64 x9 x8) x11 e11) (.cons 0 rfl .nil) .nil (.consF 0 rfl .nil) (fun x12 _ => ?_) (fun x11 e11 => ?_))
 exact az [25,4,26,2]
 intro _
 refine qnu qbJ (by decide) rfl UnF.u inferInstance rfl rfl rfl rfl rfl rfl ?_
 intro x13 e13 a14 c15
 refine au [5,0,2,3,4,1,5,0,2] ?_
 refine qe (fun (((x136, x137, x138), _) : ((List (Int × Int) × Int × Int) × Unit)) => ([(9, .slice a14 x136.length c15)], [⟨g1, 137, [.int .i64 x137, .slice a4 x3.length c5, .int .i64 x138]⟩], [Ro eS141 141 2 (.slice a14 x136.length c15) x136], [Sl (eI .u8) 1 (.slice a4 x3.length c5) x3], vu F x136 x137 x138)) ?_ ?_
 refine au [3,4,1,24,2,1,0,2,17] ?_
 refine qt (fun (((x177, x178, x179, x180, x181), _) : ((List (Int × Int) × Int × Int × Int × Int) × Unit)) => ([(0, .pointer (some ⟨g1, 0, none⟩)), (2, .int .i64 x8), (3, .int .i64 x9), (9, .slice a14 x177.length c15), (10, .int .i64 x178), (21, .int .i64 (x13.length : Int)), (22, .int .i64 x179)], [⟨g1, 137, [.int .i64 x180, .slice a4 x3.length c5, .int .i64 x181]⟩], [Ro eS141 141 2 (.slice a14 x177.length c15) x177], [Sl (eI .u8) 1 (.slice a4 x3.length c5) x3])) (fun k (s : ((List (Int × Int) × Int × Int × Int × Int) × Unit)) => qT F x3 x8 x9 x13 k s.1) ((x13, x7, 0, x11.2.1, x11.2.2), ()) F ?_
 intro k220
 rintro ⟨⟨x177, x178, x179, x180, x181⟩, _⟩
 try dsimp only
 refine qJ (m' := kJ F x3 x8 x9 x13 (qT F x3 x8 x9 x13 k220) x177 x178 x179 x180 x181) rfl ?_
 refine av [3,4,24,4,0,2,3,10] ?_ ?_
 intro _
 refine au [11,2,3,17,3,4,1,5,0,2,3,4,1] ?_
 refine zD ent121 rfl rfl rfl (fun x240 e240 => zR F g1 x180 x3 a4 c5 x181 2097152 x240 e240) (.cons 0 rfl .nil) .nil (.consF 0 rfl .nil) (fun x241 _ => ?_) (fun x240 e240 => ?_)
 exact az [25,4,27,4,25,4,25,4,27,4,25,4,26,2]
 intro _
 refine au [5,0,2] ?_
 refine qe (fun ((x244, _) : (Int × Unit)) => ([(0, .pointer (some ⟨g1, 0, none⟩)), (2, .int .i64 x8), (3, .int .i64 x9), (9, .slice a14 x177.length c15), (10, .int .i64 x244), (11, .int .i64 x179), (21, .int .i64 (x13.length : Int)), (22, .int .i64 x179)], [⟨g1, 137, [.int .i64 x240.2.1, .slice a4 x3.length c5, .int .i64 x240.2.2]⟩], [Ro eS141 141 2 (.slice a14 x177.length c15) x177], [Sl (eI .u8) 1 (.slice a4 x3.length c5) x3], zQ F (qT F x3 x8 x9 x13 k220) x3 x8 x9 x177 x179 x240 x244)) ?_ ?_
 refine av [3,4,1,24,9,0,2,10] ?_ ?_
 intro _
 refine au [4,1,1,25,6,32,10] ?_
 intro x256 e256 _
 refine au [18,5,0] ?_
 exact qa (iadd .i64 x178 x256, ())
 intro _
 refine au [4,1,1,18,18,5,0] ?_
 exact qa (iadd .i64 x178 (iadd .i64 x240.1 2), ())
 rintro ⟨x244, _⟩
 try dsimp only
 refine au [3,4,1,1,1,1,1] ?_
 refine zD ent121 rfl rfl rfl (fun x245 e245 => zR F g1 x240.2.1 x3 a4 c5 x240.2.2 x9 x245 e245) (.cons 0 rfl .nil) .nil (.consF 0 rfl .nil) (fun x246 _ => ?_) (fun x245 e245 => ?_)
 exact az [25,4,27,4,25,4,25,4,27,4,25,4,26,2]
 intro _
 refine au [1,18] ?_
 refine ql (cells := [.int .i64 x244, .int .i64 (iadd .i64 x245.1 x8)]) rfl st141 rfl (by kernel_rfl) rfl ?_
 refine au [29,2] ?_
 intro x247 e247 g248 h249
 refine qc9 (j := 0) (y' := (x244, iadd .i64 x245.1 x8)) qbJ rfl rfl rfl tf141 rfl h249 (qP e247).2.1 rfl (fun x250 e250 h251 => ?_)
 have h252 : x250.length = x177.length := by rw [← e250, List.length_set]
 refine qc (d := 9) (v := .slice a14 x250.length c15) rfl h251 (qc (d := 38) (v := .slice a14 x250.length c15) rfl h251 ?_)
 refine au [0,2,4,1,1,1,29,2] ?_
 intro x253 e253 g254 h255
 refine au [13] ?_
 refine qiT (j := 0) (y := x253) (off := 1) qbJ rfl rfl tf3 rfl h255 (qP e253).2.2 rfl (fun _ => rfl) rfl rfl ?_
 refine au [24,15,18,5,0,24,8,2,4,18,1,0] ?_
 exact qm ((x250, iadd .i64 x244 (isub .i64 x253.2 1), iadd .i64 x179 1, x245.2.1, x245.2.2), ())
 intro _
 refine au [24,13,21,21,24,14] ?_
 exact qa ((x177, x180, x181), ())
 rintro ⟨⟨x136, x137, x138⟩, _⟩
 try dsimp only
 refine au [3,4,1,5,0,2,9] ?_
 exact qal (a14, c15) (.inl rfl) (res1 rfl rfl) rfl (.cons 0 rfl .nil) (.cons 0 rfl .nil)
end Go.Proofs.YtpnfijegoepiaaaGreat
