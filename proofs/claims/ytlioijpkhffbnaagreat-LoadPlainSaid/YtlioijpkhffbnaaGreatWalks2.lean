/- Each Go function of this seat computes what its model says, part 2. -/
import Derived.Test.YtlioijpkhffbnaaGreatWalks
namespace Go.Proofs.YtlioijpkhffbnaaGreat
open Go SX
theorem qhR {F : Nat} {x1 : List Int} {a2 : Option Addr} {c3 : Nat} {r : Unit} (hm : qcp F x1 = some r) :
    PureM Tryz.prog 149 [.slice a2 x1.length c3] [] [] [Sl (eI .i64) 1 (.slice a2 x1.length c3) x1] Nat (fun g => .func (.func 165) #[] #[.pointer (some ⟨g, 0, none⟩)]) (fun g => [⟨g, 59, [.slice a2 x1.length c3]⟩]) (fun _ => []) := by
 refine zp Tryz.func149 rfl Tryz.ntmps149 rfl hm (fun w => ?_)
 refine au [25,4,2,4,24,5] ?_
 intro g4
 refine au [5,0,1,2,4,29,0,5,0,1,8] ?_
 exact zl g4
set_option maxHeartbeats 4000000 in
theorem qfx (F : Nat) {σ τ : Type} {J : Rounds σ τ} {yy : σ → (Int × Int) → Option (σ ⊕ τ)} {L : Nat} (hY : YieldC Tryz.prog L (fun (p : (Int × Int)) => [.agg #[.int .i64 p.1, .int .i64 p.2]]) J yy) (s0 : σ) (gs0 : J.γ) (g1 : Nat) (x2 : List Int) (a3 : Option Addr) (c4 : Nat) (r : σ ⊕ τ) (hm : jG F yy x2 s0 = some r) :
    PureM Tryz.prog 165 ([.func (.yield L) #[] #[], .pointer (some ⟨g1, 0, none⟩)]) ([⟨g1, 59, [.slice a3 x2.length c4]⟩] ++ J.IB s0 gs0) (J.IR s0 gs0) [J.F, Sl (eI .i64) 1 (.slice a3 x2.length c4) x2] (J.G r) (fun _ => .tuple #[]) (fun g => [⟨g1, 59, [.slice a3 x2.length c4]⟩] ++ J.bs r g) (fun g => J.rs r g) := by
 refine zp Tryz.func165 rfl Tryz.ntmps165 rfl hm (fun w => ?_)
 refine au [24,12,2,4,5,0,1,15] ?_
 refine qcM (fun (((x266, x267), g268) : ((Int × σ) × J.γ)) => [(0, .func (.yield L) #[] #[]), (1, .pointer (some ⟨g1, 0, none⟩)), (3, .int .i64 x266)]) (fun (((x266, x267), g268) : ((Int × σ) × J.γ)) => [⟨g1, 59, [.slice a3 x2.length c4]⟩] ++ J.IB x267 g268) (fun (((x266, x267), g268) : ((Int × σ) × J.γ)) => [] ++ J.IR x267 g268) (fun (((x266, x267), g268) : ((Int × σ) × J.γ)) => [Sl (eI .i64) 1 (.slice a3 x2.length c4) x2, J.F]) (fun k (s : ((Int × σ) × J.γ)) => qI F yy x2 k s.1) ((0, s0), gs0) F ?_ (hB := (.cons 0 rfl (qO 0 rfl))) (hR := (qO 0 rfl)) (hF := (qB 1 rfl (qB 0 rfl jq)))
 intro k530
 rintro ⟨⟨x266, x267⟩, g268⟩
 try dsimp only
 refine qA (m' := vX F yy x2 (qI F yy x2 k530) x266 x267) rfl ?_
 refine av [2,2,4,3,21,23,24,2,0,1,10] ?_ ?_
 intro _
 refine au [12,1,15,2,4,5,0,1] ?_
 refine qff (fun ((x654, _) : (Int × Unit)) => [(0, .func (.yield L) #[] #[]), (1, .pointer (some ⟨g1, 0, none⟩)), (3, .int .i64 x266), (4, .int .i64 x654)]) (fun ((x654, _) : (Int × Unit)) => [⟨g1, 59, [.slice a3 x2.length c4]⟩] ++ J.IB x267 g268) (fun ((x654, _) : (Int × Unit)) => [] ++ J.IR x267 g268) (fun ((x654, _) : (Int × Unit)) => [Sl (eI .i64) 1 (.slice a3 x2.length c4) x2, J.F]) (fun ((x654, _) : (Int × Unit)) => vZ F yy (qI F yy x2 k530) x2 x266 x267 x654) ?_ ?_
 refine au [15] ?_
 refine qcM (fun ((x709, _) : (Int × Unit)) => [(0, .func (.yield L) #[] #[]), (1, .pointer (some ⟨g1, 0, none⟩)), (3, .int .i64 x266), (4, .int .i64 x709)]) (fun ((x709, _) : (Int × Unit)) => [⟨g1, 59, [.slice a3 x2.length c4]⟩] ++ J.IB x267 g268) (fun ((x709, _) : (Int × Unit)) => [] ++ J.IR x267 g268) (fun ((x709, _) : (Int × Unit)) => [Sl (eI .i64) 1 (.slice a3 x2.length c4) x2, J.F]) (fun k (s : (Int × Unit)) => kb F yy (qI F yy x2 k530) x2 x266 x267 k s.1) (1, ()) F ?_ (hB := (.cons 0 rfl (qO 0 rfl))) (hR := (qO 0 rfl)) (hF := (qB 0 rfl (qB 1 rfl jq)))
 intro k750
 rintro ⟨x709, _⟩
 try dsimp only
 refine qA (m' := vY F yy (qI F yy x2 k530) x2 x266 x267 (kb F yy (qI F yy x2 k530) x2 x266 x267 k750) x709) rfl ?_
 refine au [2] ?_
 refine qff (fun ((x780, _) : (Bool × Unit)) => [(0, .func (.yield L) #[] #[]), (1, .pointer (some ⟨g1, 0, none⟩)), (3, .int .i64 x266), (4, .int .i64 x709), (29, .bool x780)]) (fun ((x780, _) : (Bool × Unit)) => [⟨g1, 59, [.slice a3 x2.length c4]⟩] ++ J.IB x267 g268) (fun ((x780, _) : (Bool × Unit)) => [] ++ J.IR x267 g268) (fun ((x780, _) : (Bool × Unit)) => [Sl (eI .i64) 1 (.slice a3 x2.length c4) x2, J.F]) (fun ((x780, _) : (Bool × Unit)) => v6 F yy (qI F yy x2 k530) (kb F yy (qI F yy x2 k530) x2 x266 x267 k750) x2 x266 x267 x709 x780) ?_ ?_
 refine av [26,14] ?_ ?_
 intro h782
 refine au [31,14] ?_
 intro x783 e783 b784 o785 h786
 replace h786 : a3 = some ⟨b784, o785, none⟩ := h786
 refine qbV (j := 1) (qt .i64) (by decide) rfl ?_
 intro x787 e787 b788 o789 h790
 replace h790 : a3 = some ⟨b788, o789, none⟩ := h790
 refine qn mixed [] [⟨g1, 59, [.slice a3 x2.length c4]⟩] [qR b788 (o789 + x266.toNat * 1) ((eI .i64) x787), qR b784 (o785 + (iadd .i64 x266 x709).toNat * 1) ((eI .i64) x783), Sl (eI .i64) 1 (.slice a3 x2.length c4) x2, J.F] (.cons 0 rfl .nil) (qF 0 rfl (qF 1 rfl (qF 2 rfl (qF 3 rfl qm)))) 21 rfl ?_
 refine au [6,0,6,1,6,2,25,7,3,26,8,4,6,5,6,6] ?_
 refine qf (d := 15) (v := .bool true) rfl (by rw [h782] <;> rfl) ?_
 refine au [25,7,7,6,8,6,9,6,10] ?_
 refine qf (d := 16) (v := .slice (some ⟨b784, o785, none⟩) x2.length c4) rfl (by rw [h786] <;> rfl) (qu 11 (.pointer (some ⟨b784, (o785 + (iadd .i64 x266 x709).toNat * 1), none⟩)) rfl rfl rfl (qaW Tryz.underlying59 tf3 rfl rfl (zG e783).1 (qav e783)) (qf (d := 16) (v := .slice a3 x2.length c4) rfl (by rw [h786] <;> rfl) (zr 12 (.int .i64 x783) [] rfl rfl rfl (vF (j := 1) rfl tf3 rfl rfl (fun _ => rfl) rfl) ?_)))
 refine au [25,7,13,6,14] ?_
 refine qf (d := 22) (v := .slice (some ⟨b788, o789, none⟩) x2.length c4) rfl (by rw [h790] <;> rfl) (qu 15 (.pointer (some ⟨b788, (o789 + x266.toNat * 1), none⟩)) rfl rfl rfl (qaW Tryz.underlying59 tf3 rfl rfl (zG e787).1 (qav e787)) (qf (d := 22) (v := .slice a3 x2.length c4) rfl (by rw [h790] <;> rfl) (zr 16 (.int .i64 x787) [] rfl rfl rfl (vF (j := 0) rfl tf3 rfl rfl (fun _ => rfl) rfl) ?_)))
 refine au [6,17,6,18,6,19,6,20,24,1] ?_
 exact qs (qcP (((x783 : Int) == (iadd .i64 x787 x709)), ()) (hB := (.cons 0 rfl (qO 0 rfl))) (hR := (qO 0 rfl)) (hF := (qB 2 rfl (qB 3 rfl jq)))) (by intro c h; cases h)
 intro h782
 refine qn mixed [] [⟨g1, 59, [.slice a3 x2.length c4]⟩] [Sl (eI .i64) 1 (.slice a3 x2.length c4) x2, J.F] (.cons 0 rfl .nil) (qF 0 rfl (qF 1 rfl qm)) 21 rfl ?_
 refine au [6,0,6,1,6,2,25,7,3,26,8,4,6,5,6,6] ?_
 refine qf (d := 15) (v := .bool false) rfl (by rw [h782] <;> rfl) ?_
 refine au [7,7,7,8,7,9,7,10,7,11,7,12,7,13,7,14,7,15,7,16,7,17,7,18,7,19,6,20,24,1] ?_
 exact qs (qcP (false, ()) (hB := (.cons 0 rfl (qO 0 rfl))) (hR := (qO 0 rfl)) (hF := (qB 0 rfl (qB 1 rfl jq)))) (by intro c h; cases h)
 rintro ⟨x780, _⟩
 try dsimp only
 refine av [10] ?_ ?_
 intro _
 refine au [12,1,15,4,3,16,5,0,24,4] ?_
 exact qce (iadd .i64 x709 1, ()) (hB := (.cons 0 rfl (qO 0 rfl))) (hR := (qO 0 rfl)) (hF := (qB 0 rfl (qB 1 rfl jq)))
 intro _
 refine au [24,10,17,17,24,11] ?_
 exact qcP (x709, ()) (hB := (.cons 0 rfl (qO 0 rfl))) (hR := (qO 0 rfl)) (hF := (qB 0 rfl (qB 1 rfl jq)))
 rintro ⟨x654, _⟩
 try dsimp only
 refine au [2,2,4,3,21,3,26,12] ?_
 intro x662 e662 b663 o664
 refine au [25,9,3] ?_
 refine qj (cells := [.int .i64 x662, .int .i64 x654]) rfl st129 rfl (by kernel_rfl) rfl (qgk hY x267 (x662, x654) g268 (B1 := [⟨g1, 59, [.slice a3 x2.length c4]⟩]) (R1 := []) (j := 2) rfl rfl rfl rfl rfl rfl rfl (fun x665 _ g667 => ?_) (fun x666 _ g667 => ?_))
 refine au [25,1,0,1] ?_
 refine js (b := false) rfl (fun h => by cases h) (fun _ => ?_)
 refine au [12,1,4,3,3,16,5,0,24,4] ?_
 exact qce ((iadd .i64 x266 x654, x665), g667) (hB := (.cons 0 rfl (qO 0 rfl))) (hR := (qO 0 rfl)) (hF := (qB 1 rfl (qB 2 rfl jq)))
 refine au [25,1,0,1] ?_
 refine js (b := true) rfl (fun _ => ?_) (fun h => by cases h)
 refine au [8,11,22,11,22] ?_
 exact qcO (B0 := [⟨g1, 59, [.slice a3 x2.length c4]⟩]) (x := .inr x666) g667 (.inl rfl) (res0 rfl) (.cons 0 rfl (qO 0 rfl)) (qO 0 rfl)
 intro _
 refine au [24,10,17,17,24,11] ?_
 exact qcO (B0 := [⟨g1, 59, [.slice a3 x2.length c4]⟩]) (x := .inl x267) g268 (.inr rfl) (res0 rfl) (.cons 0 rfl (qO 0 rfl)) (qO 0 rfl)
set_option maxHeartbeats 4000000 in
theorem qiY {F : Nat} {x1 : List Int} {a2 : Option Addr} {c3 : Nat} {x4 : Int} {r : (List (Int × Int) × List Int)} (hm : qb0 F x1 x4 = some r) :
    PureM Tryz.prog 132 [.slice a2 x1.length c3, .int .i64 x4] [] [] [Sl (eI .i64) 1 (.slice a2 x1.length c3) x1] ((Option Addr × Nat) × (Option Addr × Nat)) (fun g => .tuple #[.slice g.1.1 r.1.length g.1.2, .slice g.2.1 r.2.length g.2.2]) (fun _ => []) (fun g => [Ro eS129 129 2 (.slice g.1.1 r.1.length g.1.2) r.1, Ro (eI .i64) 3 1 (.slice g.2.1 r.2.length g.2.2) r.2]) := by
 refine qir Tryz.func132 rfl Tryz.ntmps132 rfl hm (fun w => ?_)
 refine au [24,12,2,4,24,5] ?_
 intro g5
 refine au [24,6] ?_
 intro g6
 refine au [24,6] ?_
 intro g7
 refine au [0,1,2,2,4,3] ?_
 refine qT qhR ?_
 intro x188 e188 g189
 refine au [0,1,15,27,7] ?_
 refine qcb (Int × Int) eS129 129 2 (qgf (encs := (fun (p : (Int × Int)) => [.agg #[.int .i64 p.1, .int .i64 p.2]])) (y := (fun ((x252, x255) : (List Int × List (Int × Int))) ((x312, x313) : (Int × Int)) => jF F x4 x252 x255 x312 x313)) (lb := [.pointer (some ⟨g189, 0, none⟩)]) (fun ((x252, x255) : (List Int × List (Int × Int))) ((a250, c251, a253, c254) : (Option Addr × Nat × Option Addr × Nat)) => [⟨g7, 59, [.slice a250 x252.length c251]⟩, ⟨g6, 125, [.slice a253 x255.length c254]⟩, ⟨g5, 3, [.int .i64 x4]⟩]) (fun ((x252, x255) : (List Int × List (Int × Int))) ((a250, c251, a253, c254) : (Option Addr × Nat × Option Addr × Nat)) => [Ro (eI .i64) 3 1 (.slice a250 x252.length c251) x252, Ro eS129 129 2 (.slice a253 x255.length c254) x255]) (fun (_ : Empty) (_ : Unit) => []) (fun (_ : Empty) (_ : Unit) => []) (fun _ => .skip) (([] : List Int), ([] : List (Int × Int))) (none, 0, none, 0) rfl ent165 (fun _ => rfl) rfl (.cons 0 rfl .nil) (.cons 0 rfl (.cons 0 rfl (.cons 0 rfl .nil))) (.cons 1 rfl (.cons 0 rfl .nil)) (.consF 0 rfl .nil) (fun z hz _ _ _ hY => qfx F hY (([] : List Int), ([] : List (Int × Int))) (none, 0, none, 0) g189 x1 a2 c3 z hz) ?_ ?_ ?_)
 rintro rc1 L1 D1 ⟨x252, x255⟩ ⟨a250, c251, a253, c254⟩ ⟨x312, x313⟩ z w M _
 try dsimp only
 refine qiH [(0, .slice a2 x1.length c3), (1, .int .i64 x4), (3, .pointer (some ⟨g5, 0, none⟩)), (4, .pointer (some ⟨g6, 0, none⟩)), (5, .pointer (some ⟨g7, 0, none⟩)), (8, .slice a2 x1.length c3), (9, .func (.func 165) #[] #[.pointer (some ⟨g189, 0, none⟩)]), (10, .agg #[.int .i64 x312, .int .i64 x313])] (zP rfl (zP rfl (zP rfl (zP rfl (zP rfl (zP rfl (zP rfl (zP rfl qd7)))))))) ?_
 refine au [4,24,6] ?_
 intro g314
 refine au [24,0,0] ?_
 refine qgl (i := 4) rfl ?_
 refine av [15,2,2,4,13,21,28,4,26,3,0,1,10] ?_ ?_
 intro _
 refine au [2,4,28,5,24,15] ?_
 refine qv (vs := [.agg #[.int .i64 x312, .int .i64 x313]]) (ys := ([(x312, x313)] : List (Int × Int))) qbP (by decide) rfl Tryz.underlying125 tf129 rfl rfl rfl rfl rfl (by decide) (fun a321 c322 => km 2 qbP rfl Tryz.underlying125 tf129 rfl rfl rfl rfl rfl (.inl ⟨0, _, rfl⟩) rfl rfl (fun x323 e323 a324 c325 => ?_))
 refine au [25,14,0,1,24,10,17,24,11] ?_
 exact qeh (rc := rc1) rfl (.cons 4 rfl .nil) rfl (a250, c251, a324, c325) (.cons 2 rfl (.cons 2 rfl (.cons 2 rfl (.cons 0 rfl (.cons 1 rfl .nil))))) (.cons 2 rfl (.cons 0 rfl .nil))
 intro _
 refine au [12,1,2,4,13,21,3,0,1,15] ?_
 refine qk (fun (((x338, x341), (a339, c340)) : ((Int × List Int) × (Option Addr × Nat))) => ([(3, .pointer (some ⟨g5, 0, none⟩)), (4, .pointer (some ⟨g6, 0, none⟩)), (5, .pointer (some ⟨g7, 0, none⟩)), (6, .pointer (some ⟨g314, 0, none⟩)), (20, .int .i64 x313), (21, .int .i64 x338)], [⟨g314, 129, [.int .i64 x312, .int .i64 x313]⟩, ⟨g7, 59, [.slice a339 x341.length c340]⟩, ⟨g6, 125, [.slice a253 x255.length c254]⟩, ⟨g5, 3, [.int .i64 x4]⟩, (blkO L1 (.loop (bsy rc1))), (dblk D1)], [Ro (eI .i64) 3 1 (.slice a339 x341.length c340) x341, Ro eS129 129 2 (.slice a253 x255.length c254) x255], [])) (fun k (s : ((Int × List Int) × (Option Addr × Nat))) => vK F x255 x312 x313 k s.1) ((0, x252), (a250, c251)) F ?_
 intro k354
 rintro ⟨⟨x338, x341⟩, ⟨a339, c340⟩⟩
 try dsimp only
 refine qA (m' := qaK F x255 x312 x313 (vK F x255 x312 x313 k354) x338 x341) rfl ?_
 refine av [2,4,24,2,0,1,2,10] ?_ ?_
 intro _
 refine au [12,1,2,15,2,4,3,5,0,1,4,25,11,13,21,3,16] ?_
 refine qv (vs := [.int .i64 (iadd .i64 x312 x338)]) (ys := ([iadd .i64 x312 x338] : List Int)) (qt .i64) (by decide) rfl Tryz.underlying59 tf3 rfl rfl rfl rfl rfl (by decide) (fun a361 c362 => km 1 (qt .i64) rfl Tryz.underlying59 tf3 rfl rfl rfl rfl rfl (.inl ⟨0, _, rfl⟩) rfl rfl (fun x363 e363 a364 c365 => ?_))
 refine au [25,5,0,24,4,1,4,16,3,0] ?_
 exact qi ((iadd .i64 x338 1, x363), (a364, c365))
 intro _
 refine au [24,10,17,17,24,11,24,4] ?_
 exact qeh (rc := rc1) rfl (.cons 4 rfl .nil) rfl (a339, c340, a253, c254) (.cons 2 rfl (.cons 2 rfl (.cons 2 rfl (.cons 0 rfl (.cons 1 rfl .nil))))) (.cons 0 rfl (.cons 0 rfl .nil))
 rintro ⟨x252, x255⟩ _ ⟨a250, c251, a253, c254⟩ D1
 try dsimp only
 refine au [24,4,1,2] ?_
 refine qn mixed [] [(dblk D1), ⟨g189, 59, [.slice a2 x1.length c3]⟩, ⟨g7, 59, [.slice a250 x252.length c251]⟩, ⟨g6, 125, [.slice a253 x255.length c254]⟩, ⟨g5, 3, [.int .i64 x4]⟩] [Sl (eI .i64) 1 (.slice a2 x1.length c3) x1] (.cons 0 rfl (.cons 0 rfl (.cons 0 rfl (.cons 0 rfl (.cons 0 rfl .nil))))) (qF 0 rfl qm) 4 rfl (zA 0 _ rfl rfl rfl (qX (i := 3) rfl inferInstance rfl rfl (fun _ => rfl) rfl) ?_)
 refine au [27,13,1,20,2,27,14,0,31,15,20,3,25,14,0,31,15,24,1] ?_
 refine qs ?_ (by intro c h; cases h)
 refine au [1,8] ?_
 exact qgm [D1] ((a253, c254), (a250, c251)) (.inl rfl) rfl (.cons 0 rfl .nil) (resL (rs := [.cell 4 125, .cell 5 59]) rfl (.cell (i := 2) rfl tf125 rfl rfl (fun _ => rfl) rfl (.cell (i := 1) rfl tf59 rfl rfl (fun _ => rfl) rfl ResOk.nil)) rfl) (fun h => by subst h; rfl) (fun h => by subst h; exact .nil) (fun h => by subst h; exact (.cons 1 rfl (.cons 0 rfl .nil)))
 intro t; exact t.elim
set_option maxHeartbeats 4000000 in
theorem qdb {F : Nat} {g1 : Nat} {x2 : Int} {x3 : List Int} {a4 : Option Addr} {c5 : Nat} {x6 : Bool} {x7 : Int} {x8 : Int} {x9 : List (Int × Int)} {a10 : Option Addr} {c11 : Nat} {r : (Int × List Int × Bool)} (hm : vu F x2 x3 x6 x7 x8 x9 = some r) :
    PureM Tryz.prog 133 [.pointer (some ⟨g1, 0, none⟩), .int .i64 x7, .int .i64 x8, .slice a10 x9.length c11] [⟨g1, 183, [.int .i64 x2, .slice a4 x3.length c5, .bool x6]⟩] [Ro (eI .u8) 5 1 (.slice a4 x3.length c5) x3] [Sl eS129 2 (.slice a10 x9.length c11) x9] (Option Addr × Nat) (fun _ => .tuple #[]) (fun g => [⟨g1, 183, [.int .i64 r.1, .slice g.1 r.2.1.length g.2, .bool r.2.2]⟩]) (fun g => [Ro (eI .u8) 5 1 (.slice g.1 r.2.1.length g.2) r.2.1]) := by
 refine zp Tryz.func133 rfl Tryz.ntmps133 rfl hm (fun w => ?_)
 refine au [27,6,2,4,3,3,23,27,8] ?_
 rintro x12 e12 ⟨a13, c14⟩
 refine au [0,1,2,4,3,5,0,1,2,4,3,23,3,0,1,15] ?_
 refine qk (fun (((x73, x74, x75, x78, x79), (a76, c77)) : ((Int × Int × Int × List Int × Bool) × (Option Addr × Nat))) => ([(0, .pointer (some ⟨g1, 0, none⟩)), (2, .int .i64 x8), (8, .int .i64 x73), (16, .slice a10 x9.length c11), (17, .int .i64 (x9.length : Int)), (18, .int .i64 x74)], [⟨g1, 183, [.int .i64 x75, .slice a76 x78.length c77, .bool x79]⟩], [Ro (eI .u8) 5 1 (.slice a76 x78.length c77) x78], [Sl eS129 2 (.slice a10 x9.length c11) x9])) (fun k (s : ((Int × Int × Int × List Int × Bool) × (Option Addr × Nat))) => za F x8 x9 k s.1) ((x7, 0, x12.1, x12.2.1, x12.2.2), (a13, c14)) F ?_
 intro k138
 rintro ⟨⟨x73, x74, x75, x78, x79⟩, ⟨a76, c77⟩⟩
 try dsimp only
 refine qA (m' := yn F x8 x9 (za F x8 x9 k138) x73 x74 x75 x78 x79) rfl ?_
 refine av [2,4,24,2,0,1,2,10] ?_ ?_
 intro _
 refine au [12,1,2,15,2,4,3,29,7] ?_
 intro x168 e168 b169 o170
 refine au [29,8,24,6] ?_
 intro g171
 refine au [5,24,0,0,1] ?_
 refine qe (fun (((x180, x183, x184), (a181, c182)) : ((Int × List Int × Bool) × (Option Addr × Nat))) => ([(0, .pointer (some ⟨g1, 0, none⟩)), (2, .int .i64 x8), (10, .pointer (some ⟨g171, 0, none⟩)), (16, .slice a10 x9.length c11), (17, .int .i64 (x9.length : Int)), (18, .int .i64 x74)], [⟨g1, 183, [.int .i64 x180, .slice a181 x183.length c182, .bool x184]⟩, ⟨g171, 129, [.int .i64 x168.1, .int .i64 x168.2]⟩], [Ro (eI .u8) 5 1 (.slice a181 x183.length c182) x183], [Sl eS129 2 (.slice a10 x9.length c11) x9], kB F (za F x8 x9 k138) x8 x74 x168 x180 x183 x184)) ?_ ?_
 refine av [2,4,3,25,2,0,1,10] ?_ ?_
 intro _
 refine au [4,3,13,21,3,25,0,30,12] ?_
 intro x188 e188 _
 refine au [24,14,27,8] ?_
 rintro x189 e189 ⟨a190, c191⟩
 refine au [0] ?_
 exact qa ((x189.1, x189.2.1, x189.2.2), (a190, c191))
 intro _
 refine au [4,3,13,21,3,25,0,25,0,27,8] ?_
 rintro x192 e192 ⟨a193, c194⟩
 refine au [0] ?_
 exact qa ((x192.1, x192.2.1, x192.2.2), (a193, c194))
 rintro ⟨⟨x180, x183, x184⟩, ⟨a181, c182⟩⟩
 try dsimp only
 refine au [2,4,3,13,25,11,3,25,0,27,8] ?_
 rintro x185 e185 ⟨a186, c187⟩
 refine au [0,1,4,13,25,11,13,25,11,16,25,0,5,0,24,4,1,4,16,3,0] ?_
 exact qi ((isub .i64 (iadd .i64 x168.1 x168.2) 1, iadd .i64 x74 1, x185.1, x185.2.1, x185.2.2), (a186, c187))
 intro _
 refine au [24,10,17,17,24,11] ?_
 exact zl (a76, c77)
theorem qft {F : Nat} {x1 : Int} {x2 : Int} {r : (Int × Int × Int)} (hm : qaG F x1 x2 = some r) :
    Pure Tryz.prog 166 [.int .u64 x1, .int .i64 x2] [] Unit (fun _ => .tuple #[.int .i64 r.1, .int .u64 r.2.1, .int .u64 r.2.2]) (fun _ => []) (fun _ => []) := by
 refine qh Tryz.func166 rfl Tryz.ntmps166 rfl hm (fun w => ?_)
 refine au [24,12,2,4,5,5,5,0,1,2,4,3,16,29,3] ?_
 intro x3 e3 _
 refine au [25,0,3,26,11] ?_
 intro h4
 refine qhq rfl rfl rfl rfl h4 ?_
 refine au [5,0,1,2,27,11] ?_
 intro h11
 refine au [27,11] ?_
 intro h13
 refine qn mixed [] [] [] .nil qm 14 rfl ?_
 refine au [6,0,6,1,6,2,6,3] ?_
 refine qu 4 (.int .u64 (ishl .u64 1 (imul .i64 (iquo .i64 (isub .i64 x3 1) x2) x2))) rfl rfl rfl (qej rfl rfl h11) ?_
 refine au [6,5,6,6,6,7,6,8,6,9] ?_
 refine qu 10 (.int .u64 (ishl .u64 1 (iadd .i64 (imul .i64 (iquo .i64 (isub .i64 x3 1) x2) x2) x2))) rfl rfl rfl (qej rfl rfl h13) ?_
 refine au [6,11,6,12,6,13,24,1] ?_
 refine qs ?_ (by intro c h; cases h)
 exact az [1,8,19]
theorem qeK {F : Nat} {x1 : Int} {r : (Int × Int)} (hm : jk F x1 = some r) :
    Pure Tryz.prog 168 [.int .u64 x1] [] Unit (fun _ => .tuple #[.int .i64 r.1, .int .u64 r.2]) (fun _ => []) (fun _ => []) := by
 refine qh Tryz.func168 rfl Tryz.ntmps168 rfl hm (fun w => ?_)
 refine au [25,4,2,4,5,5,0,1,2,4,3,25,0,29,3] ?_
 intro x2 e2 _
 refine au [5,0,1,2,27,11] ?_
 intro h6
 refine qn mixed [] [] [] .nil qm 7 rfl ?_
 refine au [6,0,6,1] ?_
 refine qu 2 (.int .u64 (ishl .u64 1 x2)) rfl rfl rfl (qej rfl rfl h6) ?_
 refine au [6,3,6,4,6,5,6,6,24,1] ?_
 refine qs ?_ (by intro c h; cases h)
 exact az [1,8,19]
theorem qdr {F : Nat} {x1 : Int} {x2 : List Int} {a3 : Option Addr} {c4 : Nat} {x5 : Int} {x6 : Int} {r : (Int × List Int)} (hm : vQ F x1 x2 x5 x6 = some r) :
    Pure Tryz.prog 167 [.agg #[.int .i64 x1, .slice a3 x2.length c4], .int .u64 x5, .int .u64 x6] [Sl (eI .u8) 1 (.slice a3 x2.length c4) x2] (Option Addr × Nat) (fun g => .agg #[.int .i64 r.1, .slice g.1 r.2.length g.2]) (fun g => [Ro (eI .u8) 5 1 (.slice g.1 r.2.length g.2) r.2]) (fun _ => []) := by
 refine qh Tryz.func167 rfl Tryz.ntmps167 rfl hm (fun w => ?_)
 refine au [25,12,2,4,24,5] ?_
 intro g7
 refine au [24,6] ?_
 intro g8
 refine au [0,1,2,4,3,32,0] ?_
 intro x9 e9 _
 refine av [3,14,14,5,5,0,1,2,2,4,3,3,24,2,0,1,10] ?_ ?_
 intro _
 refine au [2,4,25,8,3,3,25,0,28,9] ?_
 rintro x14 e14 ⟨a15, c16⟩
 refine au [24,0,0,1,8,11] ?_
 exact qz (a15, c16) (resL (rs := [.cell 6 65]) rfl (.cell (i := 0) rfl tf65 rfl rfl (by simp) rfl ResOk.nil) rfl) (fun h => by subst h; exact (.cons 0 rfl .nil))
 intro _
 refine au [12,1,2,4,25,8,3,3,16,3,28,9] ?_
 rintro x17 e17 ⟨a18, c19⟩
 refine au [24,0,0,1,8] ?_
 exact qz (a18, c19) (resL (rs := [.cell 6 65]) rfl (.cell (i := 0) rfl tf65 rfl rfl (by simp) rfl ResOk.nil) rfl) (fun h => by subst h; exact (.cons 0 rfl .nil))
set_option maxHeartbeats 4000000 in
theorem qfs {F : Nat} {x1 : Int} {x2 : Int} {r : (Int × List Int × Int)} (hm : qaF F x1 x2 = some r) :
    Pure Tryz.prog 150 [.int .u64 x1, .int .i64 x2] [] (Option Addr × Nat) (fun g => .tuple #[.agg #[.int .i64 r.1, .slice g.1 r.2.1.length g.2], .int .i64 r.2.2]) (fun g => [Ro (eI .u8) 5 1 (.slice g.1 r.2.1.length g.2) r.2.1]) (fun _ => []) := by
 refine qh Tryz.func150 rfl Tryz.ntmps150 rfl hm (fun w => ?_)
 refine au [24,12,2,4,24,6] ?_
 intro g3
 refine au [5,0,1,2,2,4,3,24,2,3] ?_
 refine qN 3 (decide (x2 < 1)) [(0, .int .u64 x1), (1, .int .i64 x2), (4, .pointer (some ⟨g3, 0, none⟩)), (14, .bool ((decide (x2 < 1)) || (decide (16 < x2))))] (fun h7 => ?_) (fun h7 => ?_) ?_
 refine qc (os := _) rfl (qD (k := 11) rfl h7 ?_)
 refine au [9,9,24,8] ?_
 refine qd (d := 14) (v := .bool ((decide (x2 < 1)) || (decide (16 < x2)))) rfl (by rw [h7]; simp only [Bool.true_or]) ?_
 exact az [0,24,3]
 refine qc (os := _) rfl (qC (k := 11) rfl h7 ?_)
 refine au [3,24,13,24,9] ?_
 refine qd (d := 14) (v := .bool ((decide (x2 < 1)) || (decide (16 < x2)))) rfl (by rw [h7]; simp only [Bool.false_or]) ?_
 exact az [0,24,3]
 refine qc (os := _) rfl ?_
 refine au [3] ?_
 refine qN 3 ((decide (x2 < 1)) || (decide (16 < x2))) [(0, .int .u64 x1), (1, .int .i64 x2), (4, .pointer (some ⟨g3, 0, none⟩)), (18, .bool (((decide (x2 < 1)) || (decide (16 < x2))) || (decide (1099511627776 < x1))))] (fun h8 => ?_) (fun h8 => ?_) ?_
 refine qc (os := _) rfl (qD (k := 15) rfl h8 ?_)
 refine au [9,9,24,8] ?_
 refine qd (d := 18) (v := .bool (((decide (x2 < 1)) || (decide (16 < x2))) || (decide (1099511627776 < x1)))) rfl (by rw [h8]; simp only [Bool.true_or]) ?_
 exact az [0,24,3]
 refine qc (os := _) rfl (qC (k := 15) rfl h8 ?_)
 refine au [3,24,13,24,9] ?_
 refine qd (d := 18) (v := .bool (((decide (x2 < 1)) || (decide (16 < x2))) || (decide (1099511627776 < x1)))) rfl (by rw [h8]; simp only [Bool.false_or]) ?_
 exact az [0,24,3]
 refine qc (os := _) rfl ?_
 refine av [0,1,10] ?_ ?_
 intro _
 refine au [2,4] ?_
 refine qj (cells := [.int .i64 0, .slice none 0 0]) rfl st65 rfl (by kernel_rfl) rfl ?_
 refine au [24,0,5,0,1,8,11,26,0] ?_
 exact qz (none, 0) (resL (rs := [.cell 4 65, .tmp 5]) rfl (.cell (i := 0) rfl tf65 rfl rfl (by simp) rfl (.tmp rfl ResOk.nil)) rfl) (fun h => by subst h; exact (.cons 0 rfl .nil))
 intro _
 refine au [12,1,2,4,3,3] ?_
 refine qg qft ?_
 intro x9 e9 _
 refine au [3,14,14,14,5,5,5,0,1,2,4,3,24,14,31,7] ?_
 rintro x10 e10 ⟨a11, c12⟩
 refine au [3,16,3,25,0,3,3,25,0] ?_
 refine qg qdr ?_
 rintro x13 e13 ⟨a14, c15⟩
 refine au [24,0,5,0,1,8] ?_
 exact qz (a14, c15) (resL (rs := [.cell 4 65, .tmp 5]) rfl (.cell (i := 0) rfl tf65 rfl rfl (by simp) rfl (.tmp rfl ResOk.nil)) rfl) (fun h => by subst h; exact (.cons 0 rfl .nil))
set_option maxHeartbeats 4000000 in
theorem qiV {F : Nat} {x1 : Int} {x2 : List Int} {a3 : Option Addr} {c4 : Nat} {x5 : List Int} {a6 : Option Addr} {c7 : Nat} {x8 : Int} {r : (Int × List Int × Bool)} (hm : jW F x1 x2 x5 x8 = some r) :
    PureM Tryz.prog 134 [.agg #[.int .i64 x1, .slice a3 x2.length c4], .slice a6 x5.length c7, .int .i64 x8] [] [Ro (eI .u8) 5 1 (.slice a3 x2.length c4) x2] [Sl (eI .u64) 1 (.slice a6 x5.length c7) x5] (Option Addr × Nat) (fun g => .tuple #[.agg #[.int .i64 r.1, .slice g.1 r.2.1.length g.2], .bool r.2.2]) (fun _ => []) (fun g => [Ro (eI .u8) 5 1 (.slice g.1 r.2.1.length g.2) r.2.1]) := by
 refine zp Tryz.func134 rfl Tryz.ntmps134 rfl hm (fun w => ?_)
 refine au [25,12,2,4,24,5] ?_
 intro g9
 refine au [24,6] ?_
 intro g10
 refine au [5,0,1] ?_
 refine qe (fun (((x107, x110), (a108, c109)) : ((Int × List Int) × (Option Addr × Nat))) => ([(3, .pointer (some ⟨g9, 0, none⟩)), (6, .pointer (some ⟨g10, 0, none⟩))], [⟨g10, 65, [.int .i64 0, .slice none 0 0]⟩, ⟨g9, 65, [.int .i64 x107, .slice a108 x110.length c109]⟩], [Ro (eI .u8) 5 1 (.slice a108 x110.length c109) x110], [], qcS F x107 x110)) ?_ ?_
 refine au [2,4,3,23,3,0,1,15] ?_
 refine qk (fun (((x141, x142, x145), (a143, c144)) : ((Int × Int × List Int) × (Option Addr × Nat))) => ([(2, .int .i64 x8), (3, .pointer (some ⟨g9, 0, none⟩)), (6, .pointer (some ⟨g10, 0, none⟩)), (12, .slice a6 x5.length c7), (13, .int .i64 (x5.length : Int)), (14, .int .i64 x141)], [⟨g10, 65, [.int .i64 0, .slice none 0 0]⟩, ⟨g9, 65, [.int .i64 x142, .slice a143 x145.length c144]⟩], [Ro (eI .u8) 5 1 (.slice a143 x145.length c144) x145], [Sl (eI .u64) 1 (.slice a6 x5.length c7) x5])) (fun k (s : ((Int × Int × List Int) × (Option Addr × Nat))) => vH F x5 x8 k s.1) ((0, x1, x2), (a3, c4)) F ?_
 intro k176
 rintro ⟨⟨x141, x142, x145⟩, ⟨a143, c144⟩⟩
 try dsimp only
 refine qA (m' := qaD F x5 x8 (vH F x5 x8 k176) x141 x142 x145) rfl ?_
 refine av [2,4,24,2,0,1,2,10] ?_ ?_
 intro _
 refine au [12,1,2,15,2,4,32,1] ?_
 intro x192 e192 b193 o194
 refine au [25,9,5,0,1,2,4,3,3] ?_
 refine qg qfs ?_
 rintro x195 e195 ⟨a196, c197⟩
 refine au [3,14,14,24,6] ?_
 intro g198
 refine au [24,0,5,0,1,2,2,4,3,25,6,3] ?_
 refine qN 7 ((x195.2.2 : Int) != 0) [(2, .int .i64 x8), (3, .pointer (some ⟨g9, 0, none⟩)), (6, .pointer (some ⟨g10, 0, none⟩)), (12, .slice a6 x5.length c7), (13, .int .i64 (x5.length : Int)), (14, .int .i64 x141), (10, .pointer (some ⟨g198, 0, none⟩)), (33, .bool (((x195.2.2 : Int) != 0) || (decide (8192 < (iadd .i64 x142 x195.1)))))] (fun h201 => ?_) (fun h201 => ?_) ?_
 refine qc (os := _) rfl (qD (k := 26) rfl h201 ?_)
 refine au [9,9,9,9,9,9,24,8] ?_
 refine qd (d := 33) (v := .bool (((x195.2.2 : Int) != 0) || (decide (8192 < (iadd .i64 x142 x195.1))))) rfl (by rw [h201]; simp only [Bool.true_or]) ?_
 exact az [0,24,3]
 refine qc (os := _) rfl (qC (k := 26) rfl h201 ?_)
 refine au [13,28,5,13,21,16,24,13,24,9] ?_
 refine qd (d := 33) (v := .bool (((x195.2.2 : Int) != 0) || (decide (8192 < (iadd .i64 x142 x195.1))))) rfl (by rw [h201]; simp only [Bool.false_or]) ?_
 exact az [0,24,3]
 refine qc (os := _) rfl ?_
 refine av [0,1,10] ?_ ?_
 intro _
 refine au [2,4] ?_
 refine qj (cells := [.int .i64 0, .slice none 0 0]) rfl st65 rfl (by kernel_rfl) rfl ?_
 refine au [25,5,5,0,1,8,11,22,11,11,22,11,26,0] ?_
 exact yb (none, 0) (resL (rs := [.cell 6 65, .tmp 7]) rfl (.cell (i := 1) rfl tf65 rfl rfl (by simp) rfl (.tmp rfl ResOk.nil)) rfl) (hR := fun h => by subst h; exact (.cons 0 rfl .nil))
 intro _
 refine au [12,1,4,26,13,24,15,28,10] ?_
 rintro x202 e202 ⟨a203, c204⟩
 refine au [25,14,0,24,4,1,4,16,3,0] ?_
 exact qi ((iadd .i64 x141 1, x202.1, x202.2), (a203, c204))
 intro _
 refine au [24,10,17,17,24,11] ?_
 exact qa ((x142, x145), (a143, c144))
 rintro ⟨⟨x107, x110⟩, ⟨a108, c109⟩⟩
 try dsimp only
 refine au [2,4,25,8,24,0,5,0,1,8] ?_
 exact yb (a108, c109) (resL (rs := [.cell 6 65, .tmp 7]) rfl (.cell (i := 0) rfl tf65 rfl rfl (by simp) rfl (.tmp rfl ResOk.nil)) rfl) (hR := fun h => by subst h; exact (.cons 0 rfl .nil))
set_option maxHeartbeats 4000000 in
theorem qda {F : Nat} {g1 : Nat} {x2 : Int} {x3 : List Int} {a4 : Option Addr} {c5 : Nat} {x6 : Bool} {x7 : Int} {x8 : List Int} {a9 : Option Addr} {c10 : Nat} {x11 : List Int} {a12 : Option Addr} {c13 : Nat} {x14 : Int} {x15 : Int} {x16 : Int} {r : (Int × List Int × Bool)} (hm : yh F x2 x3 x6 x7 x8 x11 x14 x15 x16 = some r) :
    PureM Tryz.prog 111 [.pointer (some ⟨g1, 0, none⟩), .int .i64 x7, .slice a9 x8.length c10, .slice a12 x11.length c13, .agg #[.int .i64 x14, .int .i64 x15, .int .i64 x16]] [⟨g1, 183, [.int .i64 x2, .slice a4 x3.length c5, .bool x6]⟩] [Ro (eI .u8) 5 1 (.slice a4 x3.length c5) x3] [Sl (eI .i64) 1 (.slice a9 x8.length c10) x8, Sl (eI .i64) 1 (.slice a12 x11.length c13) x11] (Option Addr × Nat) (fun _ => .tuple #[]) (fun g => [⟨g1, 183, [.int .i64 r.1, .slice g.1 r.2.1.length g.2, .bool r.2.2]⟩]) (fun g => [Ro (eI .u8) 5 1 (.slice g.1 r.2.1.length g.2) r.2.1]) := by
 refine zp Tryz.func111 rfl Tryz.ntmps111 rfl hm (fun w => ?_)
 refine au [29,9,2,4,24,5] ?_
 intro g17
 refine au [0,1,2,4,3,3,23,27,8] ?_
 rintro x18 e18 ⟨a19, c20⟩
 refine av [0,1,2,2,4,3,23,25,2,0,1,10] ?_ ?_
 intro _
 refine au [8,11] ?_
 exact zl (a19, c20)
 intro _
 refine au [12,1,2,4,3,5,0,1] ?_
 refine qe (fun (((x33, x34, x37, x38), (a31, c32, a35, c36)) : ((List Int × Int × List Int × Bool) × (Option Addr × Nat × Option Addr × Nat))) => ([(0, .pointer (some ⟨g1, 0, none⟩)), (1, .int .i64 x7), (9, .pointer (some ⟨g17, 0, none⟩)), (10, .slice a31 x33.length c32)], [⟨g1, 183, [.int .i64 x34, .slice a35 x37.length c36, .bool x38]⟩, ⟨g17, 26, [.int .i64 x14, .int .i64 x15, .int .i64 x16]⟩], [Ro (eI .u8) 5 1 (.slice a35 x37.length c36) x37], [Sl (eI .i64) 1 (.slice a31 x33.length c32) x33], ky F x7 x15 x16 x33 x34 x37 x38)) ?_ ?_
 refine av [2,4,13,25,11,24,13,0,1,10] ?_ ?_
 intro _
 refine au [2,4,5,0,1,2,4,3,3] ?_
 refine qg qhQ ?_
 rintro x113 e113 ⟨⟨a114, c115⟩, ⟨a116, c117⟩⟩
 refine au [3,14,14,5,5,0,1,4,3,3] ?_
 refine qT qco ?_
 rintro x118 e118 ⟨a119, c120⟩
 refine au [0,32,2] ?_
 exact qa ((x113.2, x118.1, x118.2.1, x118.2.2), (a116, c117, a119, c120))
 intro _
 refine au [12] ?_
 exact qa ((x8, x18.1, x18.2.1, x18.2.2), (a9, c10, a19, c20))
 rintro ⟨⟨x33, x34, x37, x38⟩, ⟨a31, c32, a35, c36⟩⟩
 try dsimp only
 refine av [2,2,4,3,23,25,2,0,1,10] ?_ ?_
 intro _
 refine au [8,11] ?_
 exact zl (a35, c36)
 intro _
 refine au [12,1] ?_
 refine qe (fun (((x51, x52, x55, x56), (a49, c50, a53, c54)) : ((List Int × Int × List Int × Bool) × (Option Addr × Nat × Option Addr × Nat))) => ([(0, .pointer (some ⟨g1, 0, none⟩)), (1, .int .i64 x7), (9, .pointer (some ⟨g17, 0, none⟩)), (10, .slice a49 x51.length c50)], [⟨g1, 183, [.int .i64 x52, .slice a53 x55.length c54, .bool x56]⟩, ⟨g17, 26, [.int .i64 x14, .int .i64 x15, .int .i64 x16]⟩], [Ro (eI .u8) 5 1 (.slice a53 x55.length c54) x55], [Sl (eI .i64) 1 (.slice a49 x51.length c50) x51], kz F x7 x16 x51 x52 x55 x56)) ?_ ?_
 refine av [2,4,13,25,11,24,13,0,1,10] ?_ ?_
 intro _
 refine au [2,4,5,0,1,2,4,3,13,25,11] ?_
 refine qT qiY ?_
 rintro x103 e103 ⟨⟨a104, c105⟩, ⟨a106, c107⟩⟩
 refine au [3,14,14,5,5,0,1,4,3,3,13,25,11,3] ?_
 refine qT qdb ?_
 rintro x108 e108 ⟨a109, c110⟩
 refine au [0,32,2] ?_
 exact qa ((x103.2, x108.1, x108.2.1, x108.2.2), (a106, c107, a109, c110))
 intro _
 refine au [12] ?_
 exact qa ((x33, x34, x37, x38), (a31, c32, a35, c36))
 rintro ⟨⟨x51, x52, x55, x56⟩, ⟨a49, c50, a53, c54⟩⟩
 try dsimp only
 refine qe (fun (((x76, x77, x80), (g75, a78, c79)) : ((Bool × Int × List Int) × (Nat × Option Addr × Nat))) => ([(0, .pointer (some ⟨g1, 0, none⟩)), (13, .pointer (some ⟨g75, 0, none⟩)), (14, .bool x76)], [⟨g1, 183, [.int .i64 x52, .slice a53 x55.length c54, .bool x56]⟩, ⟨g75, 65, [.int .i64 x77, .slice a78 x80.length c79]⟩], [Ro (eI .u8) 5 1 (.slice a53 x55.length c54) x55, Ro (eI .u8) 5 1 (.slice a78 x80.length c79) x80], [], kA F x52 x55 x56 x76 x77 x80)) ?_ ?_
 refine qn mixed [] [⟨g1, 183, [.int .i64 x52, .slice a53 x55.length c54, .bool x56]⟩, ⟨g17, 26, [.int .i64 x14, .int .i64 x15, .int .i64 x16]⟩] [Sl (eI .i64) 1 (.slice a49 x51.length c50) x51] (.cons 0 rfl (.cons 0 rfl .nil)) (qF 0 rfl qm) 13 rfl (qu 0 (.agg #[.int .i64 0, .slice none 0 0]) rfl rfl rfl (qbW (cells := [.int .i64 0, .slice none 0 0]) st65 rfl (by kernel_rfl)) ?_)
 refine au [6,1,6,2,18,4,26,1,5] ?_
 refine qca 3 10 rfl rfl (by kernel_rfl) rfl rfl ?_ ?_
 refine au [28,15] ?_
 rintro x85 e85 ⟨a86, c87⟩
 refine au [0,27,9] ?_
 refine qca 6 10 rfl rfl (by kernel_rfl) rfl rfl ?_ ?_
 refine au [27,15,29,10] ?_
 rintro x88 e88 ⟨a89, c90⟩
 refine au [0,27,9,6,7,6,8,6,9,20,10,24,6] ?_
 intro g91
 refine au [0,26,15,20,11,24,0,0,26,15,6,12,24,1] ?_
 exact qs (qa ((x88.2.2, x88.1, x88.2.1), (g91, a89, c90))) (by intro c h; cases h)
 refine qcc (m' := ((jW F 0 ([] : List Int) x85 x16).bind fun x93 => kA F x52 x55 x56 x93.2.2 x93.1 x93.2.1)) (rfl) ?_
 refine au [24,6] ?_
 intro g92
 refine au [0,26,15,20,6,27,15,29,10] ?_
 rintro x93 e93 ⟨a94, c95⟩
 refine au [0,26,15,6,7,6,8,6,9,20,11,24,0,0,26,15,6,12,24,1] ?_
 exact qs (qa ((x93.2.2, x93.1, x93.2.1), (g92, a94, c95))) (by intro c h; cases h)
 refine qcc (m' := ((qar F x51 x7).bind fun x97 => ((jW F 0 ([] : List Int) x97 x16).bind fun x100 => kA F x52 x55 x56 x100.2.2 x100.1 x100.2.1))) (rfl) ?_
 refine au [24,6] ?_
 intro g96
 refine au [0,26,15,20,3,28,15] ?_
 rintro x97 e97 ⟨a98, c99⟩
 refine au [0,26,15,20,6,27,15,29,10] ?_
 rintro x100 e100 ⟨a101, c102⟩
 refine au [0,26,15,6,7,6,8,6,9,20,11,24,0,0,26,15,6,12,24,1] ?_
 exact qs (qa ((x100.2.2, x100.1, x100.2.1), (g96, a101, c102))) (by intro c h; cases h)
 rintro ⟨⟨x76, x77, x80⟩, ⟨g75, a78, c79⟩⟩
 try dsimp only
 refine au [2,4,3,3,24,7,13,21,3] ?_
 refine qN 3 x56 [(0, .pointer (some ⟨g1, 0, none⟩)), (13, .pointer (some ⟨g75, 0, none⟩)), (64, .pointer (some ⟨g1, 0, none⟩)), (72, .bool (x56 || (!x76)))] (fun h81 => ?_) (fun h81 => ?_) ?_
 refine qc (os := _) rfl (qD (k := 69) rfl h81 ?_)
 refine au [9,9,24,8] ?_
 refine qd (d := 72) (v := .bool (x56 || (!x76))) rfl (by rw [h81]; simp only [Bool.true_or]) ?_
 exact az [0,24,3]
 refine qc (os := _) rfl (qC (k := 69) rfl h81 ?_)
 refine au [3,25,1,24,9] ?_
 refine qd (d := 72) (v := .bool (x56 || (!x76))) rfl (by rw [h81]; simp only [Bool.false_or]) ?_
 exact az [0,24,3]
 refine qc (os := _) rfl ?_
 refine au [24,7,13,24,0,0,1,4,3,25,8,31,10] ?_
 rintro x82 e82 ⟨a83, c84⟩
 refine au [0] ?_
 exact zl (a83, c84)
theorem qgD {F : Nat} {x1 : Int} {x2 : List Int} {a3 : Option Addr} {c4 : Nat} {x5 : Int} {x6 : Int} {x7 : Int} {r : Int} (hm : qa3 F x1 x2 x5 x6 x7 = some r) :
    Pure Tryz.prog 118 [.int .i64 x1, .slice a3 x2.length c4, .agg #[.int .i64 x5, .int .i64 x6, .int .i64 x7]] [Sl (eI .i64) 1 (.slice a3 x2.length c4) x2] Unit (fun _ => .int .i64 r) (fun _ => []) (fun _ => []) := by
 refine qh Tryz.func118 rfl Tryz.ntmps118 rfl hm (fun w => ?_)
 refine au [25,12,2,4,24,5] ?_
 intro g8
 refine au [5,0,1,2,2,4,3,24,2,3] ?_
 refine qN 3 (decide (x1 < 0)) [(1, .slice a3 x2.length c4), (5, .pointer (some ⟨g8, 0, none⟩)), (12, .bool ((decide (x1 < 0)) || (decide (1048576 < x1))))] (fun h11 => ?_) (fun h11 => ?_) ?_
 refine qc (os := _) rfl (qD (k := 9) rfl h11 ?_)
 refine au [9,9,24,8] ?_
 refine qd (d := 12) (v := .bool ((decide (x1 < 0)) || (decide (1048576 < x1)))) rfl (by rw [h11]; simp only [Bool.true_or]) ?_
 exact az [0,24,3]
 refine qc (os := _) rfl (qC (k := 9) rfl h11 ?_)
 refine au [3,24,13,24,9] ?_
 refine qd (d := 12) (v := .bool ((decide (x1 < 0)) || (decide (1048576 < x1)))) rfl (by rw [h11]; simp only [Bool.false_or]) ?_
 exact az [0,24,3]
 refine qc (os := _) rfl ?_
 refine av [0,1,10] ?_ ?_
 intro _
 exact az [2,4,5,0,1,8,11,19]
 intro _
 refine av [12,1,2,2,4,13,21,24,13,0,1,10] ?_ ?_
 intro _
 refine au [2,4,3,28,6] ?_
 intro x14 e14 _
 exact az [5,0,1,8,11,19]
 intro _
 exact az [12,1,2,4,5,0,1,8,19]
set_option maxHeartbeats 4000000 in
theorem qgC {F : Nat} {x1 : Int} {x2 : List Int} {a3 : Option Addr} {c4 : Nat} {x5 : List Int} {a6 : Option Addr} {c7 : Nat} {x8 : Int} {x9 : Int} {x10 : Int} {r : (Int × List Int × Int)} (hm : qa2 F x1 x2 x5 x8 x9 x10 = some r) :
    Pure Tryz.prog 102 [.int .i64 x1, .slice a3 x2.length c4, .slice a6 x5.length c7, .agg #[.int .i64 x8, .int .i64 x9, .int .i64 x10]] [Sl (eI .i64) 1 (.slice a3 x2.length c4) x2, Sl (eI .i64) 1 (.slice a6 x5.length c7) x5] (Option Addr × Nat) (fun g => .tuple #[.agg #[.int .i64 r.1, .slice g.1 r.2.1.length g.2], .int .i64 r.2.2]) (fun g => [Ro (eI .u8) 5 1 (.slice g.1 r.2.1.length g.2) r.2.1]) (fun _ => []) := by
 refine qh Tryz.func102 rfl Tryz.ntmps102 rfl hm (fun w => ?_)
 refine au [27,6,2,4,24,5] ?_
 intro g11
 refine au [24,6] ?_
 intro g12
 refine au [5,0,1,2,4,25,8,29,11] ?_
 intro x13 e13 _
 refine au [5,0,1] ?_
 refine qe (fun ((x19, _) : (Int × Unit)) => ([(0, .int .i64 x1), (1, .slice a3 x2.length c4), (2, .slice a6 x5.length c7), (7, .pointer (some ⟨g11, 0, none⟩)), (8, .pointer (some ⟨g12, 0, none⟩)), (10, .int .i64 x19)], [⟨g12, 65, [.int .i64 0, .slice none 0 0]⟩, ⟨g11, 26, [.int .i64 x8, .int .i64 x9, .int .i64 x10]⟩], [], [Sl (eI .i64) 1 (.slice a3 x2.length c4) x2, Sl (eI .i64) 1 (.slice a6 x5.length c7) x5], yr F x1 x2 x5 x8 x9 x10 x19)) ?_ ?_
 refine au [2,4,3,25,2,3] ?_
 refine yA 7 (fun ((x40, _) : (Bool × Unit)) => ([(0, .int .i64 x1), (1, .slice a3 x2.length c4), (2, .slice a6 x5.length c7), (7, .pointer (some ⟨g11, 0, none⟩)), (8, .pointer (some ⟨g12, 0, none⟩)), (10, .int .i64 x13), (23, .bool x40)], [⟨g12, 65, [.int .i64 0, .slice none 0 0]⟩, ⟨g11, 26, [.int .i64 x8, .int .i64 x9, .int .i64 x10]⟩], [], [Sl (eI .i64) 1 (.slice a3 x2.length c4) x2, Sl (eI .i64) 1 (.slice a6 x5.length c7) x5], vC F x1 x2 x5 x8 x9 x10 x13 x40)) ?_ ?_
 refine qc (os := _) rfl ?_
 refine av [26,4] ?_ ?_
 intro h38
 refine qD (k := 16) rfl h38 ?_
 refine au [3,24,2,3] ?_
 refine qN 3 (decide (x1 < 0)) [(0, .int .i64 x1), (1, .slice a3 x2.length c4), (2, .slice a6 x5.length c7), (7, .pointer (some ⟨g11, 0, none⟩)), (8, .pointer (some ⟨g12, 0, none⟩)), (10, .int .i64 x13), (16, .bool true), (22, .bool ((decide (x1 < 0)) || (decide (1048576 < x1))))] (fun h42 => ?_) (fun h42 => ?_) ?_
 refine qc (os := _) rfl (qD (k := 19) rfl h42 ?_)
 refine au [9,9,24,8] ?_
 refine qd (d := 22) (v := .bool ((decide (x1 < 0)) || (decide (1048576 < x1)))) rfl (by rw [h42]; simp only [Bool.true_or]) ?_
 exact az [0,24,3]
 refine qc (os := _) rfl (qC (k := 19) rfl h42 ?_)
 refine au [3,24,13,24,9] ?_
 refine qd (d := 22) (v := .bool ((decide (x1 < 0)) || (decide (1048576 < x1)))) rfl (by rw [h42]; simp only [Bool.false_or]) ?_
 exact az [0,24,3]
 refine qc (os := _) rfl ?_
 refine au [24,8,0] ?_
 exact qa (((decide (x1 < 0)) || (decide (1048576 < x1))), ())
 intro h38
 refine qC (k := 16) rfl h38 ?_
 refine au [9,9,9,9,9,9,24,9,0] ?_
 exact qa (false, ())
 rintro ⟨x40, _⟩
 try dsimp only
 refine qc (os := _) rfl ?_
 refine av [0,1,10] ?_ ?_
 intro _
 refine au [4,5,0] ?_
 exact qa ((3 : Int), ())
 intro _
 refine au [12] ?_
 exact qa (x13, ())
 rintro ⟨x19, _⟩
 try dsimp only
 refine qe (fun ((x22, _) : (Int × Unit)) => ([(0, .int .i64 x1), (1, .slice a3 x2.length c4), (2, .slice a6 x5.length c7), (7, .pointer (some ⟨g11, 0, none⟩)), (8, .pointer (some ⟨g12, 0, none⟩)), (10, .int .i64 x22)], [⟨g12, 65, [.int .i64 0, .slice none 0 0]⟩, ⟨g11, 26, [.int .i64 x8, .int .i64 x9, .int .i64 x10]⟩], [], [Sl (eI .i64) 1 (.slice a3 x2.length c4) x2, Sl (eI .i64) 1 (.slice a6 x5.length c7) x5], yu F x1 x2 x5 x8 x9 x10 x22)) ?_ ?_
 refine av [2,4,3,25,2,0,1,10] ?_ ?_
 intro _
 refine au [4,3,28,6] ?_
 intro x36 e36 _
 refine au [5,0] ?_
 exact qa (x36, ())
 intro _
 refine au [12] ?_
 exact qa (x19, ())
 rintro ⟨x22, _⟩
 try dsimp only
 refine qe (fun ((x25, _) : (Int × Unit)) => ([(0, .int .i64 x1), (1, .slice a3 x2.length c4), (2, .slice a6 x5.length c7), (7, .pointer (some ⟨g11, 0, none⟩)), (8, .pointer (some ⟨g12, 0, none⟩)), (10, .int .i64 x25)], [⟨g12, 65, [.int .i64 0, .slice none 0 0]⟩, ⟨g11, 26, [.int .i64 x8, .int .i64 x9, .int .i64 x10]⟩], [], [Sl (eI .i64) 1 (.slice a3 x2.length c4) x2, Sl (eI .i64) 1 (.slice a6 x5.length c7) x5], vB F x1 x2 x5 x8 x9 x10 x25)) ?_ ?_
 refine av [2,4,3,25,2,0,1,10] ?_ ?_
 intro _
 refine au [4,3,3,25,8] ?_
 refine qg qgD ?_
 intro x34 e34 _
 refine au [5,0] ?_
 exact qa (x34, ())
 intro _
 refine au [12] ?_
 exact qa (x22, ())
 rintro ⟨x25, _⟩
 try dsimp only
 refine av [2,2,4,3,25,6,0,1,10] ?_ ?_
 intro _
 refine au [2,4] ?_
 refine qj (cells := [.int .i64 0, .slice none 0 0]) rfl st65 rfl (by kernel_rfl) rfl ?_
 refine au [3,24,0,5,0,1,8,11,26,0] ?_
 exact qz (none, 0) (resL (rs := [.cell 8 65, .tmp 9]) rfl (.cell (i := 0) rfl tf65 rfl rfl (by simp) rfl (.tmp rfl ResOk.nil)) rfl) (fun h => by subst h; exact (.cons 0 rfl .nil))
 intro _
 refine au [12,1,2,4] ?_
 refine qj (cells := [.int .i64 0, .slice none 0 0, .bool false]) rfl st183 rfl (by kernel_rfl) rfl ?_
 refine au [24,5] ?_
 intro g27
 refine au [5,0,1,2,4,3,3,3,3,26,13,27,15,32,3] ?_
 rintro x28 e28 ⟨a29, c30⟩
 refine av [0,1,2,2,4,3,24,7,13,21,0,1,10] ?_ ?_
 intro _
 refine au [2,4] ?_
 refine qj (cells := [.int .i64 0, .slice none 0 0]) rfl st65 rfl (by kernel_rfl) rfl ?_
 refine au [25,5,5,0,1,8,11,26,0] ?_
 exact qz (none, 0) (resL (rs := [.cell 8 65, .tmp 9]) rfl (.cell (i := 1) rfl tf65 rfl rfl (by simp) rfl (.tmp rfl ResOk.nil)) rfl) (fun h => by subst h; exact (.cons 0 rfl .nil))
 intro _
 refine au [12,1,2,4,3,24,7,13,24,15,25,5,5,0,1,8] ?_
 exact qz (a29, c30) (resL (rs := [.cell 8 65, .tmp 9]) rfl (.cell (i := 1) rfl tf65 rfl rfl (by simp) rfl (.tmp rfl ResOk.nil)) rfl) (fun h => by subst h; exact (.cons 0 rfl .nil))
set_option maxHeartbeats 4000000 in
theorem qhP {F : Nat} {x1 : List (List Int)} {a2 : Option Addr} {c3 : Nat} {s3 : List (Option Addr × Nat)} {x4 : List Int} {a5 : Option Addr} {c6 : Nat} {x7 : Int} {x8 : Int} {x9 : Int} {x10 : Int} {r : (Int × Int × List Int × Bool)} (hm : qbt F x1 x4 x7 x8 x9 x10 = some r) :
    Pure Tryz.prog 90 [.slice a2 x1.length c3, .slice a5 x4.length c6, .int .i64 x7, .agg #[.int .i64 x8, .int .i64 x9, .int .i64 x10]] [SlN eN59 iN59 1 (.slice a2 x1.length c3) x1 s3, Sl (eI .i64) 1 (.slice a5 x4.length c6) x4] (Option Addr × Nat) (fun g => .tuple #[.agg #[.int .i64 r.1, .int .i64 r.2.1, .slice g.1 r.2.2.1.length g.2], .bool r.2.2.2]) (fun g => [Ro (eI .u8) 5 1 (.slice g.1 r.2.2.1.length g.2) r.2.2.1]) (fun _ => []) := by
 refine qh Tryz.func90 rfl Tryz.ntmps90 rfl hm (fun w => ?_)
 refine au [27,6,2,4,24,5] ?_
 intro g11
 refine au [24,6] ?_
 intro g12
 refine au [5,0,1,2,4,3,23,5,0,1,2,4] ?_
 refine qj (cells := [.int .i64 0, .slice none 0 0]) rfl st65 rfl (by kernel_rfl) rfl ?_
 refine au [24,6] ?_
 intro g13
 refine au [24,0,0,1] ?_
 refine qe (fun (((x18, x21), (a19, c20)) : ((Int × List Int) × (Option Addr × Nat))) => ([(0, .slice a2 x1.length c3), (1, .slice a5 x4.length c6), (2, .int .i64 x7), (7, .pointer (some ⟨g11, 0, none⟩)), (8, .pointer (some ⟨g12, 0, none⟩)), (10, .int .i64 (x1.length : Int)), (11, .pointer (some ⟨g13, 0, none⟩))], [⟨g13, 65, [.int .i64 x18, .slice a19 x21.length c20]⟩, ⟨g12, 140, [.int .i64 0, .int .i64 0, .slice none 0 0]⟩, ⟨g11, 26, [.int .i64 x8, .int .i64 x9, .int .i64 x10]⟩], [Ro (eI .u8) 5 1 (.slice a19 x21.length c20) x21], [SlN eN59 iN59 1 (.slice a2 x1.length c3) x1 s3, Sl (eI .i64) 1 (.slice a5 x4.length c6) x4], jn F x1 x4 x7 x9 x10 x18 x21)) ?_ ?_
 refine av [2,4,13,28,5,24,13,0,1,10] ?_ ?_
 intro _
 refine au [4,3,24,14,31,9] ?_
 rintro x46 e46 ⟨a47, c48⟩
 refine au [24,0,0] ?_
 exact qa ((x46.1, x46.2), (a47, c48))
 intro _
 refine au [12,26,0] ?_
 exact qa (((0 : Int), ([] : List Int)), (none, 0))
 rintro ⟨⟨x18, x21⟩, ⟨a19, c20⟩⟩
 try dsimp only
 refine au [2,4,5,0,1] ?_
 refine qe (fun ((x29, (a27, c28)) : (List Int × (Option Addr × Nat))) => ([(1, .slice a5 x4.length c6), (2, .int .i64 x7), (7, .pointer (some ⟨g11, 0, none⟩)), (8, .pointer (some ⟨g12, 0, none⟩)), (10, .int .i64 (x1.length : Int)), (11, .pointer (some ⟨g13, 0, none⟩)), (12, .slice a27 x29.length c28)], [⟨g13, 65, [.int .i64 x18, .slice a19 x21.length c20]⟩, ⟨g12, 140, [.int .i64 0, .int .i64 0, .slice none 0 0]⟩, ⟨g11, 26, [.int .i64 x8, .int .i64 x9, .int .i64 x10]⟩], [Ro (eI .u8) 5 1 (.slice a19 x21.length c20) x21], [Sl (eI .i64) 1 (.slice a5 x4.length c6) x4, Sl (eI .i64) 1 (.slice a27 x29.length c28) x29], jo F x1 x4 x7 x9 x10 x18 x21 x29)) ?_ ?_
 refine av [2,4,3,24,13,0,1,10] ?_ ?_
 intro _
 refine au [4,3,3,3,25,0,27,3] ?_
 intro x41 e41 g44 b42 o43
 refine au [25,9,5,0] ?_
 exact qa (x41, (g44.1, g44.2))
 intro _
 refine au [12,25,10] ?_
 exact qfj 0 rfl (qa (([] : List Int), (none, 0)))
 rintro ⟨x29, ⟨a27, c28⟩⟩
 try dsimp only
 refine au [2,4,3,13,25,14,0,1,2,4,3,3,3,26,13] ?_
 refine qg qgC ?_
 rintro x30 e30 ⟨a31, c32⟩
 refine au [3,14,14,24,6] ?_
 intro g33
 refine au [24,0,5,0,1,2,2,4,3,25,6,3] ?_
 refine qN 7 ((x30.2.2 : Int) != 0) [(2, .int .i64 x7), (8, .pointer (some ⟨g12, 0, none⟩)), (11, .pointer (some ⟨g13, 0, none⟩)), (13, .pointer (some ⟨g33, 0, none⟩)), (51, .bool (((x30.2.2 : Int) != 0) || (decide (8192 < (iadd .i64 x18 x30.1)))))] (fun h36 => ?_) (fun h36 => ?_) ?_
 refine qc (os := _) rfl (qD (k := 44) rfl h36 ?_)
 refine au [9,9,9,9,9,9,24,8] ?_
 refine qd (d := 51) (v := .bool (((x30.2.2 : Int) != 0) || (decide (8192 < (iadd .i64 x18 x30.1))))) rfl (by rw [h36]; simp only [Bool.true_or]) ?_
 exact az [0,24,3]
 refine qc (os := _) rfl (qC (k := 44) rfl h36 ?_)
 refine au [13,25,11,13,21,16,24,13,24,9] ?_
 refine qd (d := 51) (v := .bool (((x30.2.2 : Int) != 0) || (decide (8192 < (iadd .i64 x18 x30.1))))) rfl (by rw [h36]; simp only [Bool.false_or]) ?_
 exact az [0,24,3]
 refine qc (os := _) rfl ?_
 refine av [0,1,10] ?_ ?_
 intro _
 refine au [2,4] ?_
 refine qj (cells := [.int .i64 0, .int .i64 0, .slice none 0 0]) rfl st140 rfl (by kernel_rfl) rfl ?_
 refine au [25,14,5,0,1,8,11,26,0] ?_
 exact qz (none, 0) (resL (rs := [.cell 8 140, .tmp 9]) rfl (.cell (i := 2) rfl tf140 rfl rfl (by simp) rfl (.tmp rfl ResOk.nil)) rfl) (fun h => by subst h; exact (.cons 0 rfl .nil))
 intro _
 refine au [12,1,2,4,3,25,8,24,15,28,10] ?_
 rintro x37 e37 ⟨a38, c39⟩
 refine qj (cells := [.int .i64 x7, .int .i64 x37.1, .slice a38 x37.2.length c39]) rfl st140 rfl (by kernel_rfl) rfl ?_
 refine au [25,14,5,0,1,8] ?_
 exact qz (a38, c39) (resL (rs := [.cell 8 140, .tmp 9]) rfl (.cell (i := 2) rfl tf140 rfl rfl (by simp) rfl (.tmp rfl ResOk.nil)) rfl) (fun h => by subst h; exact (.cons 0 rfl .nil))
set_option maxHeartbeats 4000000 in
theorem qhO {F : Nat} {x1 : List (List Int)} {a2 : Option Addr} {c3 : Nat} {s3 : List (Option Addr × Nat)} {x4 : List Int} {a5 : Option Addr} {c6 : Nat} {x7 : Int} {x8 : Int} {x9 : Int} {r : (Int × Int × List Int × Bool)} (hm : qbs F x1 x4 x7 x8 x9 = some r) :
    Pure Tryz.prog 78 [.slice a2 x1.length c3, .slice a5 x4.length c6, .agg #[.int .i64 x7, .int .i64 x8, .int .i64 x9]] [SlN eN59 iN59 1 (.slice a2 x1.length c3) x1 s3, Sl (eI .i64) 1 (.slice a5 x4.length c6) x4] (Option Addr × Nat) (fun g => .tuple #[.agg #[.int .i64 r.1, .int .i64 r.2.1, .slice g.1 r.2.2.1.length g.2], .bool r.2.2.2]) (fun g => [Ro (eI .u8) 5 1 (.slice g.1 r.2.2.1.length g.2) r.2.2.1]) (fun _ => []) := by
 refine qh Tryz.func78 rfl Tryz.ntmps78 rfl hm (fun w => ?_)
 refine au [25,12,2,4,24,5] ?_
 intro g10
 refine au [24,6] ?_
 intro g11
 refine au [5,0,1] ?_
 refine qe (fun (((x96, x97, x98, x101), (a99, c100)) : ((Bool × Int × Int × List Int) × (Option Addr × Nat))) => ([(6, .pointer (some ⟨g11, 0, none⟩)), (7, .bool x96)], [⟨g11, 140, [.int .i64 x97, .int .i64 x98, .slice a99 x101.length c100]⟩], [Ro (eI .u8) 5 1 (.slice a99 x101.length c100) x101], [], qbc F x96 x97 x98 x101)) ?_ ?_
 refine au [2,4,13,25,11,3,23,27,12,16,3,0,1,15] ?_
 refine qcb Int (eI .u8) 5 1 (qk (fun (((x125, x126, x127, x128, x131), (a129, c130)) : ((Bool × Int × Int × Int × List Int) × (Option Addr × Nat))) => ([(0, .slice a2 x1.length c3), (1, .slice a5 x4.length c6), (5, .pointer (some ⟨g10, 0, none⟩)), (6, .pointer (some ⟨g11, 0, none⟩)), (7, .bool x125), (16, .int .i64 (iadd .i64 (imin x7 (x1.length : Int)) 1)), (17, .int .i64 x126)], [⟨g11, 140, [.int .i64 x127, .int .i64 x128, .slice a129 x131.length c130]⟩, ⟨g10, 26, [.int .i64 x7, .int .i64 x8, .int .i64 x9]⟩], [Ro (eI .u8) 5 1 (.slice a129 x131.length c130) x131], [SlN eN59 iN59 1 (.slice a2 x1.length c3) x1 s3, Sl (eI .i64) 1 (.slice a5 x4.length c6) x4])) (fun k (s : ((Bool × Int × Int × Int × List Int) × (Option Addr × Nat))) => zF F x1 x4 x7 x8 x9 k s.1) ((false, 0, 0, 0, ([] : List Int)), (none, 0)) F ?_)
 intro k158
 rintro ⟨⟨x125, x126, x127, x128, x131⟩, ⟨a129, c130⟩⟩
 try dsimp only
 refine qA (m' := jO F x1 x4 x7 x8 x9 (zF F x1 x4 x7 x8 x9 k158) x125 x126 x127 x128 x131) rfl ?_
 refine av [2,4,24,2,0,1,2,10] ?_ ?_
 intro _
 refine au [12,1] ?_
 refine qe (fun (((x169, x170, x171, x174), (a172, c173)) : ((Bool × Int × Int × List Int) × (Option Addr × Nat))) => ([(0, .slice a2 x1.length c3), (1, .slice a5 x4.length c6), (5, .pointer (some ⟨g10, 0, none⟩)), (6, .pointer (some ⟨g11, 0, none⟩)), (7, .bool x169), (16, .int .i64 (iadd .i64 (imin x7 (x1.length : Int)) 1)), (17, .int .i64 x126)], [⟨g11, 140, [.int .i64 x170, .int .i64 x171, .slice a172 x174.length c173]⟩, ⟨g10, 26, [.int .i64 x7, .int .i64 x8, .int .i64 x9]⟩], [Ro (eI .u8) 5 1 (.slice a172 x174.length c173) x174], [SlN eN59 iN59 1 (.slice a2 x1.length c3) x1 s3, Sl (eI .i64) 1 (.slice a5 x4.length c6) x4], kR F (zF F x1 x4 x7 x8 x9 k158) x126 x169 x170 x171 x174)) ?_ ?_
 refine au [15,2,4,3,5,0,1,2,4,3,3,3,25,8] ?_
 refine qg qhP ?_
 rintro x175 e175 ⟨a176, c177⟩
 refine au [3,14,14,24,6] ?_
 intro g178
 refine au [24,0,5,0,1,2,4,3,3] ?_
 refine yA 12 (fun ((x181, _) : (Bool × Unit)) => ([(0, .slice a2 x1.length c3), (1, .slice a5 x4.length c6), (5, .pointer (some ⟨g10, 0, none⟩)), (6, .pointer (some ⟨g11, 0, none⟩)), (7, .bool x125), (9, .pointer (some ⟨g178, 0, none⟩)), (16, .int .i64 (iadd .i64 (imin x7 (x1.length : Int)) 1)), (17, .int .i64 x126), (41, .bool x181)], [⟨g178, 140, [.int .i64 x175.1, .int .i64 x175.2.1, .slice a176 x175.2.2.1.length c177]⟩, ⟨g11, 140, [.int .i64 x127, .int .i64 x128, .slice a129 x131.length c130]⟩, ⟨g10, 26, [.int .i64 x7, .int .i64 x8, .int .i64 x9]⟩], [Ro (eI .u8) 5 1 (.slice a176 x175.2.2.1.length c177) x175.2.2.1, Ro (eI .u8) 5 1 (.slice a129 x131.length c130) x131], [SlN eN59 iN59 1 (.slice a2 x1.length c3) x1 s3, Sl (eI .i64) 1 (.slice a5 x4.length c6) x4], jP F (zF F x1 x4 x7 x8 x9 k158) x125 x126 x127 x128 x131 x175 x181)) ?_ ?_
 refine qc (os := _) rfl ?_
 refine av [26,4] ?_ ?_
 intro h179
 refine qD (k := 29) rfl h179 ?_
 refine au [3,25,1,3] ?_
 refine qN 8 (!x125) [(0, .slice a2 x1.length c3), (1, .slice a5 x4.length c6), (5, .pointer (some ⟨g10, 0, none⟩)), (6, .pointer (some ⟨g11, 0, none⟩)), (7, .bool x125), (16, .int .i64 (iadd .i64 (imin x7 (x1.length : Int)) 1)), (17, .int .i64 x126), (9, .pointer (some ⟨g178, 0, none⟩)), (29, .bool true), (30, .bool x125), (31, .bool (!x125)), (32, .bool (!x125)), (40, .bool ((!x125) || (decide (x175.2.1 < x128))))] (fun h183 => ?_) (fun h183 => ?_) ?_
 refine qc (os := _) rfl (qD (k := 32) rfl h183 ?_)
 refine au [9,9,9,9,9,9,9,24,8] ?_
 refine qd (d := 40) (v := .bool ((!x125) || (decide (x175.2.1 < x128)))) rfl (by rw [h183]; simp only [Bool.true_or]) (qd (d := 32) (v := .bool (!x125)) rfl (by rw [h183] <;> rfl) ?_)
 exact az [0,24,3]
 refine qc (os := _) rfl (qC (k := 32) rfl h183 ?_)
 refine au [13,13,21,13,13,25,11,24,2,24,9] ?_
 refine qd (d := 40) (v := .bool ((!x125) || (decide (x175.2.1 < x128)))) rfl (by rw [h183]; simp only [Bool.false_or]) (qd (d := 32) (v := .bool (!x125)) rfl (by rw [h183] <;> rfl) ?_)
 exact az [0,24,3]
 refine qc (os := _) rfl ?_
 refine au [24,8,0] ?_
 exact qa (((!x125) || (decide (x175.2.1 < x128))), ())
 intro h179
 refine qC (k := 29) rfl h179 ?_
 refine au [9,9,9,9,9,9,9,9,9,9,9,24,9,0] ?_
 exact qa (false, ())
 rintro ⟨x181, _⟩
 try dsimp only
 refine qc (os := _) rfl ?_
 refine av [0,1,10] ?_ ?_
 intro _
 refine au [4,24,15,25,5,5,0,24,4] ?_
 exact qa ((true, x175.1, x175.2.1, x175.2.2.1), (a176, c177))
 intro _
 refine au [12,24,4] ?_
 exact qa ((x125, x127, x128, x131), (a129, c130))
 rintro ⟨⟨x169, x170, x171, x174⟩, ⟨a172, c173⟩⟩
 try dsimp only
 refine au [4,16,3,0] ?_
 exact qi ((x169, iadd .i64 x126 1, x170, x171, x174), (a172, c173))
 intro _
 refine au [24,10,17,17,24,11] ?_
 exact qa ((x125, x127, x128, x131), (a129, c130))
 rintro ⟨⟨x96, x97, x98, x101⟩, ⟨a99, c100⟩⟩
 try dsimp only
 refine au [2,4,24,15,3,24,0,5,0,1,8] ?_
 exact qz (a99, c100) (resL (rs := [.cell 6 140, .tmp 7]) rfl (.cell (i := 0) rfl tf140 rfl rfl (by simp) rfl (.tmp rfl ResOk.nil)) rfl) (fun h => by subst h; exact (.cons 0 rfl .nil))
set_option maxHeartbeats 4000000 in
theorem qc4 {F : Nat} {g1 : Nat} {x2 : Int} {x3 : Int} {x4 : Int} {x5 : Int} {x6 : Int} {x7 : List Int} {a8 : Option Addr} {c9 : Nat} {x10 : List Int} {a11 : Option Addr} {c12 : Nat} {x13 : List Int} {a14 : Option Addr} {c15 : Nat} {x16 : List (List Int)} {a17 : Option Addr} {c18 : Nat} {s18 : List (Option Addr × Nat)} {r : (Bool × Int × Int × Int × Int × Int × List Int × List Int × List Int)} (hm : jY F x2 x3 x4 x5 x6 x7 x10 x13 x16 = some r) :
    PureM Tryz.prog 61 [.pointer (some ⟨g1, 0, none⟩), .agg #[.slice a17 x16.length c18]] [⟨g1, 107, [.int .i64 x2, .int .i64 x3, .int .i64 x4, .int .i64 x5, .int .i64 x6, .slice a8 x7.length c9, .slice a11 x10.length c12, .slice a14 x13.length c15]⟩] [Ro (eI .u8) 5 1 (.slice a8 x7.length c9) x7, Ro (eI .i64) 3 1 (.slice a11 x10.length c12) x10, Ro (eI .i64) 3 1 (.slice a14 x13.length c15) x13] [SlN eN59 iN59 1 (.slice a17 x16.length c18) x16 s18] ((Option Addr × Nat) × (Option Addr × Nat) × (Option Addr × Nat)) (fun _ => .bool r.1) (fun g => [⟨g1, 107, [.int .i64 r.2.1, .int .i64 r.2.2.1, .int .i64 r.2.2.2.1, .int .i64 r.2.2.2.2.1, .int .i64 r.2.2.2.2.2.1, .slice g.1.1 r.2.2.2.2.2.2.1.length g.1.2, .slice g.2.1.1 r.2.2.2.2.2.2.2.1.length g.2.1.2, .slice g.2.2.1 r.2.2.2.2.2.2.2.2.length g.2.2.2]⟩]) (fun g => [Ro (eI .u8) 5 1 (.slice g.1.1 r.2.2.2.2.2.2.1.length g.1.2) r.2.2.2.2.2.2.1, Ro (eI .i64) 3 1 (.slice g.2.1.1 r.2.2.2.2.2.2.2.1.length g.2.1.2) r.2.2.2.2.2.2.2.1, Ro (eI .i64) 3 1 (.slice g.2.2.1 r.2.2.2.2.2.2.2.2.length g.2.2.2) r.2.2.2.2.2.2.2.2]) := by
 refine zp Tryz.func61 rfl Tryz.ntmps61 rfl hm (fun w => ?_)
 refine au [24,12,2,4,24,5] ?_
 intro g19
 refine au [5,0,1] ?_
 refine qe (fun (((x710, x713, x716, x719), (a711, c712, a714, c715, a717, c718)) : ((Int × List Int × List Int × List Int) × (Option Addr × Nat × Option Addr × Nat × Option Addr × Nat))) => ([], [⟨g1, 107, [.int .i64 x2, .int .i64 x3, .int .i64 x4, .int .i64 x5, .int .i64 x710, .slice a711 x713.length c712, .slice a714 x716.length c715, .slice a717 x719.length c718]⟩], [Ro (eI .u8) 5 1 (.slice a711 x713.length c712) x713, Ro (eI .i64) 3 1 (.slice a714 x716.length c715) x716, Ro (eI .i64) 3 1 (.slice a717 x719.length c718) x719], [], vm F x2 x3 x4 x5 x710 x713 x716 x719)) ?_ ?_
 refine au [2,4,13,21,23,3,0,1,15] ?_
 refine qk (fun (((x946, x947, x950, x953, x956), (a948, c949, a951, c952, a954, c955)) : ((Int × Int × List Int × List Int × List Int) × (Option Addr × Nat × Option Addr × Nat × Option Addr × Nat))) => ([(0, .pointer (some ⟨g1, 0, none⟩)), (3, .pointer (some ⟨g19, 0, none⟩)), (10, .slice a17 x16.length c18), (11, .int .i64 (x16.length : Int)), (12, .int .i64 x946)], [⟨g19, 24, [.slice a17 x16.length c18]⟩, ⟨g1, 107, [.int .i64 x2, .int .i64 x3, .int .i64 x4, .int .i64 x5, .int .i64 x947, .slice a948 x950.length c949, .slice a951 x953.length c952, .slice a954 x956.length c955]⟩], [Ro (eI .u8) 5 1 (.slice a948 x950.length c949) x950, Ro (eI .i64) 3 1 (.slice a951 x953.length c952) x953, Ro (eI .i64) 3 1 (.slice a954 x956.length c955) x956], [SlN eN59 iN59 1 (.slice a17 x16.length c18) x16 s18])) (fun k (s : ((Int × Int × List Int × List Int × List Int) × (Option Addr × Nat × Option Addr × Nat × Option Addr × Nat))) => qr F x2 x3 x4 x5 x16 k s.1) ((0, x6, x7, x10, x13), (a8, c9, a11, c12, a14, c15)) F ?_
 intro k1183
 rintro ⟨⟨x946, x947, x950, x953, x956⟩, ⟨a948, c949, a951, c952, a954, c955⟩⟩
 try dsimp only
 refine qA (m' := kU F x2 x3 x4 x5 x16 (qr F x2 x3 x4 x5 x16 k1183) x946 x947 x950 x953 x956) rfl ?_
 refine av [2,4,24,2,0,1,2,10] ?_ ?_
 intro _
 refine au [12,1,2,15,2,4,3,27,3] ?_
 intro x1297 e1297 g1300 b1298 o1299
 refine au [25,9,5,5,0,1] ?_
 refine qe (fun (((x1316, x1317, x1318, x1321), (g1315, a1319, c1320)) : ((Bool × Int × Int × List Int) × (Nat × Option Addr × Nat))) => ([(0, .pointer (some ⟨g1, 0, none⟩)), (3, .pointer (some ⟨g19, 0, none⟩)), (7, .pointer (some ⟨g1315, 0, none⟩)), (8, .bool x1316), (10, .slice a17 x16.length c18), (11, .int .i64 (x16.length : Int)), (12, .int .i64 x946)], [⟨g19, 24, [.slice a17 x16.length c18]⟩, ⟨g1, 107, [.int .i64 x2, .int .i64 x3, .int .i64 x4, .int .i64 x5, .int .i64 x947, .slice a948 x950.length c949, .slice a951 x953.length c952, .slice a954 x956.length c955]⟩, ⟨g1315, 140, [.int .i64 x1317, .int .i64 x1318, .slice a1319 x1321.length c1320]⟩], [Ro (eI .u8) 5 1 (.slice a948 x950.length c949) x950, Ro (eI .i64) 3 1 (.slice a951 x953.length c952) x953, Ro (eI .i64) 3 1 (.slice a954 x956.length c955) x956, Ro (eI .u8) 5 1 (.slice a1319 x1321.length c1320) x1321], [SlN eN59 iN59 1 (.slice a17 x16.length c18) x16 s18], kV F (qr F x2 x3 x4 x5 x16 k1183) x2 x3 x4 x5 x946 x947 x950 x953 x956 x1316 x1317 x1318 x1321)) ?_ ?_
 refine qli 2 yR rfl ?_
 intro x1395 e1395 a1396 c1397 g1398 h1399 h1400
 refine qn mixed [] [⟨g19, 24, [.slice a17 x16.length c18]⟩, ⟨g1, 107, [.int .i64 x2, .int .i64 x3, .int .i64 x4, .int .i64 x5, .int .i64 x947, .slice a948 x950.length c949, .slice a951 x953.length c952, .slice a954 x956.length c955]⟩] [SlN eN59 iN59 1 (.slice a1396 x1395.length c1397) x1395 g1398, qR b1298 o1299 (eN59 (x1297, g1300)), Sl (eI .i64) 1 (.slice g1300.1 x1297.length g1300.2) x1297, SlN eN59 iN59 1 (.slice a17 x16.length c18) x16 s18] (.cons 0 rfl (.cons 0 rfl .nil)) (qF 0 rfl (qF 1 rfl (qF 2 rfl (qF 3 rfl qm)))) 17 rfl ?_
 refine au [18,0,25,7,1,6,2] ?_
 refine qu 3 (.slice a1396 x1395.length c1397) rfl rfl rfl (qnB Tryz.underlying22 tf59 rfl rfl rfl e1395 h1400 h1399) ?_
 refine au [6,4,6,5,6,6,18,7,18,8] ?_
 refine zA 9 (.agg #[.int .i64 x3, .int .i64 x4, .int .i64 x5]) rfl rfl rfl (qX (i := 1) rfl tf26 rfl rfl (by simp) rfl) (qca 10 14 rfl rfl (by kernel_rfl) rfl rfl ?_ ?_)
 refine au [32,4] ?_
 rintro x1401 e1401 ⟨a1402, c1403⟩
 refine au [0] ?_
 refine zN (.cons 0 rfl (.cons 0 rfl .nil)) (qF 0 rfl (qF 1 rfl (qF 2 rfl (qF 3 rfl qm)))) ?_
 refine au [6,11,6,12,6,13,20,14,24,6] ?_
 intro g1404
 refine au [0,28,7,20,15,24,0,0,28,7,6,16,24,1] ?_
 exact qs (qa ((x1401.2.2.2, x1401.1, x1401.2.1, x1401.2.2.1), (g1404, a1402, c1403))) (by intro c h; cases h)
 refine qcc (m' := ((qbs F x1395 x1297 x3 x4 x5).bind fun x1406 => kV F (qr F x2 x3 x4 x5 x16 k1183) x2 x3 x4 x5 x946 x947 x950 x953 x956 x1406.2.2.2 x1406.1 x1406.2.1 x1406.2.2.1)) (rfl) ?_
 refine au [24,6] ?_
 intro g1405
 refine au [0,28,7,20,10,32,4] ?_
 rintro x1406 e1406 ⟨a1407, c1408⟩
 refine au [0,28,7,6,11,6,12,6,13,20,15,24,0,0,28,7,6,16,24,1] ?_
 exact qs (qa ((x1406.2.2.2, x1406.1, x1406.2.1, x1406.2.2.1), (g1405, a1407, c1408))) (by intro c h; cases h)
 rintro ⟨⟨x1316, x1317, x1318, x1321⟩, ⟨g1315, a1319, c1320⟩⟩
 try dsimp only
 refine au [2] ?_
 refine qe (fun ((x1327, _) : (Bool × Unit)) => ([(0, .pointer (some ⟨g1, 0, none⟩)), (3, .pointer (some ⟨g19, 0, none⟩)), (7, .pointer (some ⟨g1315, 0, none⟩)), (10, .slice a17 x16.length c18), (11, .int .i64 (x16.length : Int)), (12, .int .i64 x946), (45, .bool x1327)], [⟨g19, 24, [.slice a17 x16.length c18]⟩, ⟨g1, 107, [.int .i64 x2, .int .i64 x3, .int .i64 x4, .int .i64 x5, .int .i64 x947, .slice a948 x950.length c949, .slice a951 x953.length c952, .slice a954 x956.length c955]⟩, ⟨g1315, 140, [.int .i64 x1317, .int .i64 x1318, .slice a1319 x1321.length c1320]⟩], [Ro (eI .u8) 5 1 (.slice a948 x950.length c949) x950, Ro (eI .i64) 3 1 (.slice a951 x953.length c952) x953, Ro (eI .i64) 3 1 (.slice a954 x956.length c955) x956, Ro (eI .u8) 5 1 (.slice a1319 x1321.length c1320) x1321], [SlN eN59 iN59 1 (.slice a17 x16.length c18) x16 s18], zY F (qr F x2 x3 x4 x5 x16 k1183) x2 x3 x4 x5 x946 x947 x950 x953 x956 x1317 x1318 x1321 x1327)) ?_ ?_
 refine av [26,14] ?_ ?_
 intro h1394
 refine qn mixed [] [⟨g19, 24, [.slice a17 x16.length c18]⟩, ⟨g1, 107, [.int .i64 x2, .int .i64 x3, .int .i64 x4, .int .i64 x5, .int .i64 x947, .slice a948 x950.length c949, .slice a951 x953.length c952, .slice a954 x956.length c955]⟩, ⟨g1315, 140, [.int .i64 x1317, .int .i64 x1318, .slice a1319 x1321.length c1320]⟩] [SlN eN59 iN59 1 (.slice a17 x16.length c18) x16 s18] (.cons 0 rfl (.cons 0 rfl (.cons 0 rfl .nil))) (qF 0 rfl qm) 15 rfl ?_
 refine au [6,0,6,1,6,2] ?_
 refine qf (d := 33) (v := .bool true) rfl (by rw [h1394] <;> rfl) ?_
 refine au [7,3,7,4,7,5,7,6,7,7,7,8,7,9,7,10,7,11,7,12,7,13,6,14,24,1] ?_
 exact qs (qa (true, ())) (by intro c h; cases h)
 intro h1394
 refine qn mixed [] [⟨g19, 24, [.slice a17 x16.length c18]⟩, ⟨g1, 107, [.int .i64 x2, .int .i64 x3, .int .i64 x4, .int .i64 x5, .int .i64 x947, .slice a948 x950.length c949, .slice a951 x953.length c952, .slice a954 x956.length c955]⟩, ⟨g1315, 140, [.int .i64 x1317, .int .i64 x1318, .slice a1319 x1321.length c1320]⟩] [SlN eN59 iN59 1 (.slice a17 x16.length c18) x16 s18] (.cons 0 rfl (.cons 0 rfl (.cons 0 rfl .nil))) (qF 0 rfl qm) 15 rfl ?_
 refine au [6,0,6,1,6,2] ?_
 refine qf (d := 33) (v := .bool false) rfl (by rw [h1394] <;> rfl) ?_
 refine au [6,3,6,4,18,5,18,6,18,7,26,1,8,18,9,18,10,27,13,11,6,12,6,13,6,14,24,1] ?_
 exact qs (qa ((decide (8192 < (iadd .i64 x947 x1318))), ())) (by intro c h; cases h)
 rintro ⟨x1327, _⟩
 try dsimp only
 refine av [10] ?_ ?_
 intro _
 refine au [2,4,5,0,1,8,11,22,11,11,22,11] ?_
 exact zl ((a948, c949), (a951, c952), (a954, c955))
 intro _
 refine au [12,1] ?_
 refine qe (fun (((x1358, x1361), (a1356, c1357, a1359, c1360)) : ((List Int × List Int) × (Option Addr × Nat × Option Addr × Nat))) => ([(0, .pointer (some ⟨g1, 0, none⟩)), (3, .pointer (some ⟨g19, 0, none⟩)), (7, .pointer (some ⟨g1315, 0, none⟩)), (10, .slice a17 x16.length c18), (11, .int .i64 (x16.length : Int)), (12, .int .i64 x946)], [⟨g19, 24, [.slice a17 x16.length c18]⟩, ⟨g1, 107, [.int .i64 x2, .int .i64 x3, .int .i64 x4, .int .i64 x5, .int .i64 x947, .slice a948 x950.length c949, .slice a1356 x1358.length c1357, .slice a1359 x1361.length c1360]⟩, ⟨g1315, 140, [.int .i64 x1317, .int .i64 x1318, .slice a1319 x1321.length c1320]⟩], [Ro (eI .u8) 5 1 (.slice a948 x950.length c949) x950, Ro (eI .i64) 3 1 (.slice a1356 x1358.length c1357) x1358, Ro (eI .i64) 3 1 (.slice a1359 x1361.length c1360) x1361, Ro (eI .u8) 5 1 (.slice a1319 x1321.length c1320) x1321], [SlN eN59 iN59 1 (.slice a17 x16.length c18) x16 s18], zZ F (qr F x2 x3 x4 x5 x16 k1183) x946 x947 x950 x1318 x1321 x1358 x1361)) ?_ ?_
 refine qn mixed [24, 27] [⟨g19, 24, [.slice a17 x16.length c18]⟩, ⟨g1315, 140, [.int .i64 x1317, .int .i64 x1318, .slice a1319 x1321.length c1320]⟩] [SlN eN59 iN59 1 (.slice a17 x16.length c18) x16 s18, (BlkD.is ⟨g1, 107, [.int .i64 x2, .int .i64 x3, .int .i64 x4, .int .i64 x5, .int .i64 x947, .slice a948 x950.length c949, .slice a951 x953.length c952, .slice a954 x956.length c955]⟩)] (.cons 0 rfl (.cons 1 rfl .nil)) (qF 0 rfl (qeA 1 rfl qm)) 28 rfl ?_
 refine au [6,0,6,1,6,2,6,3,18,4] ?_
 refine zr 5 (.slice a951 x953.length c952) [[24], [27]] rfl rfl rfl (vG (j := 1) rfl tf59 rfl rfl (fun _ => rfl) rfl) ?_
 refine au [18,6,26,1,7,6,10,6,11,18,12] ?_
 refine zr 13 (.slice a954 x956.length c955) [[24], [27]] rfl rfl rfl (vG (j := 1) rfl tf59 rfl rfl (fun _ => rfl) rfl) ?_
 refine au [6,14,6,15,18,16,18,17,18,18] ?_
 refine zr 19 (.int .i64 x947) [[24], [27]] rfl rfl rfl (vG (j := 1) rfl tf3 rfl rfl (fun _ => rfl) rfl) (qca 8 20 rfl rfl (by kernel_rfl) rfl rfl ?_ ?_)
 refine qv (vs := [.int .i64 x1317]) (ys := ([x1317] : List Int)) (qt .i64) (by decide) rfl Tryz.underlying59 tf3 rfl rfl rfl rfl rfl (by decide) (fun a1365 c1366 => ?_)
 refine au [0,26,5] ?_
 refine qca 9 20 rfl rfl (by kernel_rfl) rfl rfl ?_ ?_
 refine km 2 (qt .i64) rfl Tryz.underlying59 tf3 rfl rfl rfl rfl rfl (.inl ⟨0, _, rfl⟩) rfl rfl (fun x1367 e1367 a1368 c1369 => ?_)
 refine au [0,26,5,20,20] ?_
 refine qv (vs := [.int .i64 x947]) (ys := ([x947] : List Int)) (qt .i64) (by decide) rfl Tryz.underlying59 tf3 rfl rfl rfl rfl rfl (by decide) (fun a1370 c1371 => ?_)
 refine au [0,26,5,20,21] ?_
 refine km 4 (qt .i64) rfl Tryz.underlying59 tf3 rfl rfl rfl rfl rfl (.inl ⟨0, _, rfl⟩) rfl rfl (fun x1372 e1372 a1373 c1374 => ?_)
 refine au [0,26,5,6,22,18,23,20,24,25,5,0,28,0,6,25,18,26,20,27,25,5,0,28,0,24,1] ?_
 exact qs (qa ((x1367, x1372), (a1368, c1369, a1373, c1374))) (by intro c h; cases h)
 refine qcc (m' := ((app 8796093022208 x953 ([x1317] : List Int)).bind fun x1377 => ((app 8796093022208 x956 ([x947] : List Int)).bind fun x1380 => zZ F (qr F x2 x3 x4 x5 x16 k1183) x946 x947 x950 x1318 x1321 x1377 x1380))) (rfl) (qv (vs := [.int .i64 x947]) (ys := ([x947] : List Int)) (qt .i64) (by decide) rfl Tryz.underlying59 tf3 rfl rfl rfl rfl rfl (by decide) (fun a1375 c1376 => ?_))
 refine au [0,26,5,20,9] ?_
 refine km 3 (qt .i64) rfl Tryz.underlying59 tf3 rfl rfl rfl rfl rfl (.inl ⟨1, _, rfl⟩) rfl rfl (fun x1377 e1377 a1378 c1379 => ?_)
 refine au [0,26,5,20,21] ?_
 refine km 4 (qt .i64) rfl Tryz.underlying59 tf3 rfl rfl rfl rfl rfl (.inl ⟨1, _, rfl⟩) rfl rfl (fun x1380 e1380 a1381 c1382 => ?_)
 refine au [0,26,5,6,22,18,23,20,24,25,5,0,28,0,6,25,18,26,20,27,25,5,0,28,0,24,1] ?_
 exact qs (qa ((x1377, x1380), (a1378, c1379, a1381, c1382))) (by intro c h; cases h)
 refine qcc (m' := ((app 8796093022208 x953 ([x1317] : List Int)).bind fun x1387 => ((app 8796093022208 x956 ([x947] : List Int)).bind fun x1390 => zZ F (qr F x2 x3 x4 x5 x16 k1183) x946 x947 x950 x1318 x1321 x1387 x1390))) (rfl) (qv (vs := [.int .i64 x947]) (ys := ([x947] : List Int)) (qt .i64) (by decide) rfl Tryz.underlying59 tf3 rfl rfl rfl rfl rfl (by decide) (fun a1383 c1384 => ?_))
 refine au [0,26,5,20,8] ?_
 refine qv (vs := [.int .i64 x1317]) (ys := ([x1317] : List Int)) (qt .i64) (by decide) rfl Tryz.underlying59 tf3 rfl rfl rfl rfl rfl (by decide) (fun a1385 c1386 => ?_)
 refine au [0,26,5,20,9] ?_
 refine km 3 (qt .i64) rfl Tryz.underlying59 tf3 rfl rfl rfl rfl rfl (.inl ⟨0, _, rfl⟩) rfl rfl (fun x1387 e1387 a1388 c1389 => ?_)
 refine au [0,26,5,20,21] ?_
 refine km 4 (qt .i64) rfl Tryz.underlying59 tf3 rfl rfl rfl rfl rfl (.inl ⟨2, _, rfl⟩) rfl rfl (fun x1390 e1390 a1391 c1392 => ?_)
 refine au [0,26,5,6,22,18,23,20,24,25,5,0,28,0,6,25,18,26,20,27,25,5,0,28,0,24,1] ?_
 exact qs (qa ((x1387, x1390), (a1388, c1389, a1391, c1392))) (by intro c h; cases h)
 rintro ⟨⟨x1358, x1361⟩, ⟨a1356, c1357, a1359, c1360⟩⟩
 try dsimp only
 refine qn mixed [12] [⟨g19, 24, [.slice a17 x16.length c18]⟩, ⟨g1315, 140, [.int .i64 x1317, .int .i64 x1318, .slice a1319 x1321.length c1320]⟩] [SlN eN59 iN59 1 (.slice a17 x16.length c18) x16 s18, (BlkD.is ⟨g1, 107, [.int .i64 x2, .int .i64 x3, .int .i64 x4, .int .i64 x5, .int .i64 x947, .slice a948 x950.length c949, .slice a1356 x1358.length c1357, .slice a1359 x1361.length c1360]⟩)] (.cons 0 rfl (.cons 1 rfl .nil)) (qF 0 rfl (qeA 1 rfl qm)) 13 rfl ?_
 refine au [6,0,6,1,6,2,18,3,18,4] ?_
 refine zr 5 (.agg #[.int .i64 x947, .slice a948 x950.length c949]) [[12]] rfl rfl rfl (vG (j := 1) rfl tf65 rfl rfl (by simp) rfl) ?_
 refine au [18,6] ?_
 refine zA 7 (.agg #[.int .i64 x1318, .slice a1319 x1321.length c1320]) rfl rfl rfl (qX (i := 1) rfl tf65 rfl rfl (by simp) rfl) ?_
 refine au [20,8,28,10] ?_
 rintro x1362 e1362 ⟨a1363, c1364⟩
 refine au [0,26,5,6,9,18,10,18,11,20,12,25,5,0] ?_
 refine qaR 12 rfl (by kernel_rfl) (.cons 0 rfl (.cons 1 rfl .nil)) ?_
 refine au [24,1] ?_
 refine qs ?_ (by intro c h; cases h)
 refine au [24,4,1,4,16,3,0] ?_
 exact qi ((iadd .i64 x946 1, x1362.1, x1362.2, x1358, x1361), (a1363, c1364, a1356, c1357, a1359, c1360))
 intro _
 refine au [24,10,17,17,24,11] ?_
 exact qa ((x947, x950, x953, x956), (a948, c949, a951, c952, a954, c955))
 rintro ⟨⟨x710, x713, x716, x719⟩, ⟨a711, c712, a714, c715, a717, c718⟩⟩
 try dsimp only
 refine au [2,4,5,0,1,8] ?_
 exact zl ((a711, c712), (a714, c715), (a717, c718))
set_option maxHeartbeats 4000000 in
theorem qfv {F : Nat} {x1 : List (List Int)} {a2 : Option Addr} {c3 : Nat} {s3 : List (Option Addr × Nat)} {x4 : Int} {x5 : Int} {x6 : Int} {r : (Int × Int × Int × Int × Int × List Int × List Int × List Int × Int)} (hm : qaI F x1 x4 x5 x6 = some r) :
    PureM Tryz.prog 46 [.agg #[.slice a2 x1.length c3], .agg #[.int .i64 x4, .int .i64 x5, .int .i64 x6]] [] [] [SlN eN59 iN59 1 (.slice a2 x1.length c3) x1 s3] ((Option Addr × Nat) × (Option Addr × Nat) × (Option Addr × Nat) × Nat) (fun g => .tuple #[.pointer (some ⟨g.2.2.2, 0, none⟩), .int .i64 r.2.2.2.2.2.2.2.2]) (fun g => [⟨g.2.2.2, 107, [.int .i64 r.1, .int .i64 r.2.1, .int .i64 r.2.2.1, .int .i64 r.2.2.2.1, .int .i64 r.2.2.2.2.1, .slice g.1.1 r.2.2.2.2.2.1.length g.1.2, .slice g.2.1.1 r.2.2.2.2.2.2.1.length g.2.1.2, .slice g.2.2.1.1 r.2.2.2.2.2.2.2.1.length g.2.2.1.2]⟩]) (fun g => [Ro (eI .u8) 5 1 (.slice g.1.1 r.2.2.2.2.2.1.length g.1.2) r.2.2.2.2.2.1, Ro (eI .i64) 3 1 (.slice g.2.1.1 r.2.2.2.2.2.2.1.length g.2.1.2) r.2.2.2.2.2.2.1, Ro (eI .i64) 3 1 (.slice g.2.2.1.1 r.2.2.2.2.2.2.2.1.length g.2.2.1.2) r.2.2.2.2.2.2.2.1]) := by
 refine zp Tryz.func46 rfl Tryz.ntmps46 rfl hm (fun w => ?_)
 refine au [24,12,2,4,24,5] ?_
 intro g7
 refine au [24,5] ?_
 intro g8
 refine au [5,5,0,1,2,4,25,8,29,12] ?_
 intro x9 e9 _
 refine au [5,0,1] ?_
 refine qe (fun ((x12, _) : (Int × Unit)) => ([(2, .pointer (some ⟨g7, 0, none⟩)), (3, .pointer (some ⟨g8, 0, none⟩)), (6, .int .i64 x12)], [⟨g8, 26, [.int .i64 x4, .int .i64 x5, .int .i64 x6]⟩, ⟨g7, 24, [.slice a2 x1.length c3]⟩], [], [SlN eN59 iN59 1 (.slice a2 x1.length c3) x1 s3], yY F x1 x4 x5 x6 x12)) ?_ ?_
 refine av [2,4,3,25,2,0,1,10] ?_ ?_
 intro _
 refine au [4,24,15,29,11] ?_
 intro x97 e97 _
 refine au [5,0] ?_
 exact qa (x97, ())
 intro _
 refine au [12] ?_
 exact qa (x9, ())
 rintro ⟨x12, _⟩
 try dsimp only
 refine au [2,4,13,25,11,23,24,15] ?_
 refine qj (cells := [.int .i64 (x1.length : Int), .int .i64 x4, .int .i64 x5, .int .i64 x6, .int .i64 0, .slice none 0 0]) rfl st75 rfl (by kernel_rfl) rfl (qj (cells := [.int .i64 (x1.length : Int), .int .i64 x4, .int .i64 x5, .int .i64 x6, .int .i64 0, .slice none 0 0, .slice none 0 0, .slice none 0 0]) rfl st107 rfl (by kernel_rfl) rfl ?_)
 refine au [24,5] ?_
 intro g13
 refine au [5,0,1] ?_
 refine qe (fun (((x48, x49, x50, x51, x52, x53, x56, x59, x62), (a54, c55, a57, c58, a60, c61)) : ((Int × Int × Int × Int × Int × Int × List Int × List Int × List Int) × (Option Addr × Nat × Option Addr × Nat × Option Addr × Nat))) => ([(6, .int .i64 x48), (7, .pointer (some ⟨g13, 0, none⟩))], [⟨g13, 107, [.int .i64 x49, .int .i64 x50, .int .i64 x51, .int .i64 x52, .int .i64 x53, .slice a54 x56.length c55, .slice a57 x59.length c58, .slice a60 x62.length c61]⟩], [Ro (eI .u8) 5 1 (.slice a54 x56.length c55) x56, Ro (eI .i64) 3 1 (.slice a57 x59.length c58) x59, Ro (eI .i64) 3 1 (.slice a60 x62.length c61) x62], [], k7 F x48 x49 x50 x51 x52 x53 x56 x59 x62)) ?_ ?_
 refine au [2,4,3,25,2,3] ?_
 refine yA 5 (fun (((x74, x75, x76, x77, x78, x79, x82, x85, x88), (a80, c81, a83, c84, a86, c87)) : ((Bool × Int × Int × Int × Int × Int × List Int × List Int × List Int) × (Option Addr × Nat × Option Addr × Nat × Option Addr × Nat))) => ([(6, .int .i64 x12), (7, .pointer (some ⟨g13, 0, none⟩)), (28, .bool x74)], [⟨g13, 107, [.int .i64 x75, .int .i64 x76, .int .i64 x77, .int .i64 x78, .int .i64 x79, .slice a80 x82.length c81, .slice a83 x85.length c84, .slice a86 x88.length c87]⟩], [Ro (eI .u8) 5 1 (.slice a80 x82.length c81) x82, Ro (eI .i64) 3 1 (.slice a83 x85.length c84) x85, Ro (eI .i64) 3 1 (.slice a86 x88.length c87) x88], [], k8 F x12 x74 x75 x76 x77 x78 x79 x82 x85 x88)) ?_ ?_
 refine qc (os := _) rfl ?_
 refine av [26,4] ?_ ?_
 intro h63
 refine qD (k := 23) rfl h63 ?_
 refine au [3,26,13,27,15,27,0,27,0] ?_
 refine qT qc4 ?_
 rintro x90 e90 ⟨⟨a91, c92⟩, ⟨a93, c94⟩, ⟨a95, c96⟩⟩
 refine au [25,1,24,8,0] ?_
 exact qa (((!x90.1), x90.2.1, x90.2.2.1, x90.2.2.2.1, x90.2.2.2.2.1, x90.2.2.2.2.2.1, x90.2.2.2.2.2.2.1, x90.2.2.2.2.2.2.2.1, x90.2.2.2.2.2.2.2.2), (a91, c92, a93, c94, a95, c96))
 intro h63
 refine qC (k := 23) rfl h63 ?_
 refine au [9,9,9,9,24,9,0,26,0,25,10,25,10] ?_
 exact qa ((false, (x1.length : Int), x4, x5, x6, (0 : Int), ([] : List Int), ([] : List Int), ([] : List Int)), (none, 0, none, 0, none, 0))
 rintro ⟨⟨x74, x75, x76, x77, x78, x79, x82, x85, x88⟩, ⟨a80, c81, a83, c84, a86, c87⟩⟩
 try dsimp only
 refine qc (os := _) rfl ?_
 refine av [0,1,10] ?_ ?_
 intro _
 refine au [4,5,0] ?_
 exact qa (((8 : Int), x75, x76, x77, x78, x79, x82, x85, x88), (a80, c81, a83, c84, a86, c87))
 intro _
 refine au [12] ?_
 exact qa ((x12, x75, x76, x77, x78, x79, x82, x85, x88), (a80, c81, a83, c84, a86, c87))
 rintro ⟨⟨x48, x49, x50, x51, x52, x53, x56, x59, x62⟩, ⟨a54, c55, a57, c58, a60, c61⟩⟩
 try dsimp only
 refine au [2,4,3,3,5,5,0,1,8] ?_
 exact zl ((a54, c55), (a57, c58), (a60, c61), g13)
theorem qgx {F : Nat} {x1 : List (List Int)} {a2 : Option Addr} {c3 : Nat} {s3 : List (Option Addr × Nat)} {x4 : Int} {x5 : Int} {x6 : Int} {r : (Int × Int × Int × Int × Int × List Int × Int)} (hm : qag F x1 x4 x5 x6 = some r) :
    Pure Tryz.prog 35 [.agg #[.slice a2 x1.length c3], .agg #[.int .i64 x4, .int .i64 x5, .int .i64 x6]] [SlN eN59 iN59 1 (.slice a2 x1.length c3) x1 s3] (Option Addr × Nat) (fun g => .tuple #[.agg #[.int .i64 r.1, .int .i64 r.2.1, .int .i64 r.2.2.1, .int .i64 r.2.2.2.1, .int .i64 r.2.2.2.2.1, .slice g.1 r.2.2.2.2.2.1.length g.2], .int .i64 r.2.2.2.2.2.2]) (fun g => [Ro (eI .u8) 5 1 (.slice g.1 r.2.2.2.2.2.1.length g.2) r.2.2.2.2.2.1]) (fun _ => []) := by
 refine qh Tryz.func35 rfl Tryz.ntmps35 rfl hm (fun w => ?_)
 refine au [24,12,2,4,24,5] ?_
 intro g7
 refine au [24,5] ?_
 intro g8
 refine au [24,6] ?_
 intro g9
 refine au [5,0,1,2,4,26,13,25,8] ?_
 refine qT qfv ?_
 rintro x10 e10 ⟨⟨a11, c12⟩, ⟨a13, c14⟩, ⟨a15, c16⟩, g17⟩
 refine av [3,14,14,5,5,0,1,2,2,4,3,25,6,0,1,10] ?_ ?_
 intro _
 refine au [2,4] ?_
 refine qj (cells := [.int .i64 0, .int .i64 0, .int .i64 0, .int .i64 0, .int .i64 0, .slice none 0 0]) rfl st75 rfl (by kernel_rfl) rfl ?_
 refine au [3,25,5,5,0,1,8,11,26,0] ?_
 exact qz (none, 0) (resL (rs := [.cell 4 75, .tmp 5]) rfl (.cell (i := 1) rfl tf75 rfl rfl (by simp) rfl (.tmp rfl ResOk.nil)) rfl) (fun h => by subst h; exact (.cons 0 rfl .nil))
 intro _
 refine au [12,1,2,4,3,24,7,13,24,15,25,5,5,0,1,8] ?_
 exact qz (a11, c12) (resL (rs := [.cell 4 75, .tmp 5]) rfl (.cell (i := 1) rfl tf75 rfl rfl (by simp) rfl (.tmp rfl ResOk.nil)) rfl) (fun h => by subst h; exact (.cons 0 rfl .nil))
set_option maxHeartbeats 4000000 in
theorem qex {F : Nat} {x1 : List (List Int)} {a2 : Option Addr} {c3 : Nat} {s3 : List (Option Addr × Nat)} {x4 : Int} {x5 : Int} {x6 : Int} {r : (List Int × Int)} (hm : jM F x1 x4 x5 x6 = some r) :
    Pure Tryz.prog 20 [.agg #[.slice a2 x1.length c3], .agg #[.int .i64 x4, .int .i64 x5, .int .i64 x6]] [SlN eN59 iN59 1 (.slice a2 x1.length c3) x1 s3] (Option Addr × Nat) (fun g => .tuple #[.slice g.1 r.1.length g.2, .int .i64 r.2]) (fun g => [Ro (eI .u8) 5 1 (.slice g.1 r.1.length g.2) r.1]) (fun _ => []) := by
 refine qh Tryz.func20 rfl Tryz.ntmps20 rfl hm (fun w => ?_)
 refine au [24,12,2,4,24,5] ?_
 intro g7
 refine au [24,5] ?_
 intro g8
 refine au [5,5,0,1,2,4,25,8,24,15,32,5] ?_
 rintro x9 e9 ⟨a10, c11⟩
 refine au [3,14,14,24,6] ?_
 intro g12
 refine av [24,0,5,0,1,2,2,4,3,25,6,0,1,10] ?_ ?_
 intro _
 refine au [2,4,3,5,5,0,1,8,11,26,0] ?_
 exact qo (none, 0)
 intro _
 refine au [12,1,2,4] ?_
 refine qeg (vs := [.int .u8 76, .int .u8 87]) (ys := ([76, 87] : List Int)) (qt .u8) (by decide) rfl Tryz.underlying27 tf5 rfl rfl rfl rfl rfl (by decide) (by decide) (fun g14 => ?_)
 refine au [28,14] ?_
 refine qv (vs := [.int .u8 2]) (ys := ([2] : List Int)) (qt .u8) (by decide) rfl Tryz.underlying27 tf5 rfl rfl rfl rfl rfl (by decide) (fun a15 c16 => qdO 0 rfl Tryz.underlying27 tf5 rfl rfl rfl rfl rfl (.inl ⟨0, _, rfl⟩) (by decide) rfl rfl (fun x17 e17 a18 c19 => ?_))
 refine au [5,0,1] ?_
 refine qe (fun ((x71, (a69, c70)) : (List Int × (Option Addr × Nat))) => ([(6, .pointer (some ⟨g12, 0, none⟩)), (8, .slice a69 x71.length c70)], [⟨g12, 75, [.int .i64 x9.1, .int .i64 x9.2.1, .int .i64 x9.2.2.1, .int .i64 x9.2.2.2.1, .int .i64 x9.2.2.2.2.1, .slice a10 x9.2.2.2.2.2.1.length c11]⟩], [Ro (eI .u8) 5 1 (.slice a69 x71.length c70) x71, Ro (eI .u8) 5 1 (.slice a10 x9.2.2.2.2.2.1.length c11) x9.2.2.2.2.2.1], [], jX F x9 x71)) ?_ ?_
 refine au [2,4,13,21,13,25,11,13,25,11,13,25,11,13,13,21] ?_
 refine qv (vs := [.int .i64 x9.1, .int .i64 x4, .int .i64 x5, .int .i64 x6, .int .i64 x9.2.2.2.2.1]) (ys := ([x9.1, x4, x5, x6, x9.2.2.2.2.1] : List Int)) (qt .i64) (by decide) rfl Tryz.underlying59 tf3 rfl rfl rfl rfl rfl (by decide) (fun a75 c76 => ?_)
 refine au [23,3,0,1,15] ?_
 refine qk (fun (((x93, x94), (a91, c92)) : ((List Int × Int) × (Option Addr × Nat))) => ([(6, .pointer (some ⟨g12, 0, none⟩)), (8, .slice a91 x93.length c92), (35, .slice a75 ([x9.1, x4, x5, x6, x9.2.2.2.2.1] : List Int).length c76), (36, .int .i64 (([x9.1, x4, x5, x6, x9.2.2.2.2.1] : List Int).length : Int)), (37, .int .i64 x94)], [⟨g12, 75, [.int .i64 x9.1, .int .i64 x9.2.1, .int .i64 x9.2.2.1, .int .i64 x9.2.2.2.1, .int .i64 x9.2.2.2.2.1, .slice a10 x9.2.2.2.2.2.1.length c11]⟩], [Ro (eI .u8) 5 1 (.slice a91 x93.length c92) x93, Ro (eI .i64) 3 1 (.slice a75 ([x9.1, x4, x5, x6, x9.2.2.2.2.1] : List Int).length c76) ([x9.1, x4, x5, x6, x9.2.2.2.2.1] : List Int), Ro (eI .u8) 5 1 (.slice a10 x9.2.2.2.2.2.1.length c11) x9.2.2.2.2.2.1], [])) (fun k (s : ((List Int × Int) × (Option Addr × Nat))) => zj F x4 x5 x6 x9 k s.1) ((x17, 0), (a18, c19)) F ?_
 intro k109
 rintro ⟨⟨x93, x94⟩, ⟨a91, c92⟩⟩
 try dsimp only
 refine qA (m' := kC F x4 x5 x6 x9 (zj F x4 x5 x6 x9 k109) x93 x94) rfl ?_
 refine av [2,4,24,2,0,1,2,10] ?_ ?_
 intro _
 refine au [12,1,2,15,2,4,30,15] ?_
 intro x117 e117 g118 h119
 refine qgj (j := 1) (y := x117) (qt .i64) rfl rfl tf3 rfl h119 (zG e117).2.2 (fun _ => rfl) rfl rfl ?_
 refine au [5,0,1,4,3,3,24,14,27,10] ?_
 rintro x120 e120 ⟨a121, c122⟩
 refine au [5,0,24,4,1,4,16,3,0] ?_
 exact qi ((x120, iadd .i64 x94 1), (a121, c122))
 intro _
 refine au [24,10,17,17,24,11] ?_
 exact qa (x93, (a91, c92))
 rintro ⟨x71, ⟨a69, c70⟩⟩
 try dsimp only
 refine au [2,4,3,13,13,21] ?_
 refine km 0 (qt .u8) rfl Tryz.underlying27 tf5 rfl rfl rfl rfl rfl (.inl ⟨1, _, rfl⟩) rfl rfl (fun x72 e72 a73 c74 => ?_)
 refine au [5,5,0,1,8] ?_
 exact qo (a73, c74)
set_option maxHeartbeats 4000000 in
theorem qhK {F : Nat} {x1 : List (List Int)} {a2 : Option Addr} {c3 : Nat} {s3 : List (Option Addr × Nat)} {x4 : Int} {x5 : Int} {x6 : Int} {x7 : Int} {r : (List Int × Int)} (hm : j3 F x1 x4 x5 x6 x7 = some r) :
    Pure Tryz.prog 10 [.agg #[.slice a2 x1.length c3], .int .i64 x4, .agg #[.int .i64 x5, .int .i64 x6, .int .i64 x7]] [SlN eN59 iN59 1 (.slice a2 x1.length c3) x1 s3] (Option Addr × Nat) (fun g => .tuple #[.slice g.1 r.1.length g.2, .int .i64 r.2]) (fun g => [Ro (eI .u8) 5 1 (.slice g.1 r.1.length g.2) r.1]) (fun _ => []) := by
 refine qh Tryz.func10 rfl Tryz.ntmps10 rfl hm (fun w => ?_)
 refine au [25,12,2,4,24,5] ?_
 intro g8
 refine au [24,5] ?_
 intro g9
 refine au [5,5,0,1,2,4,25,8,29,12] ?_
 intro x10 e10 _
 refine au [5,0,1] ?_
 refine qe (fun (((x22, x23), (a20, c21)) : ((List Int × Int) × (Option Addr × Nat))) => ([(6, .slice a20 x22.length c21), (7, .int .i64 x23)], [], [Ro (eI .u8) 5 1 (.slice a20 x22.length c21) x22], [], zX F x22 x23)) ?_ ?_
 refine av [15,2,4,3,25,6,5,0,1,10] ?_ ?_
 intro _
 refine au [12,24,4,26,0] ?_
 exact qa ((([] : List Int), x10), (none, 0))
 intro _
 refine av [2,4,3,25,2,5,0,1,10] ?_ ?_
 intro _
 refine au [4,25,8] ?_
 refine qg qey ?_
 rintro x31 e31 ⟨a32, c33⟩
 refine au [5,0,24,4] ?_
 exact qa ((x31, x10), (a32, c33))
 intro _
 refine av [2,4,3,25,2,5,0,1,10] ?_ ?_
 intro _
 refine au [4,25,8,24,15] ?_
 refine qg qex ?_
 rintro x34 e34 ⟨a35, c36⟩
 refine au [3,14,14,5,5,0,24,4] ?_
 exact qa ((x34.1, x34.2), (a35, c36))
 intro _
 refine au [4,5,0,24,4,26,0] ?_
 exact qa ((([] : List Int), (3 : Int)), (none, 0))
 rintro ⟨⟨x22, x23⟩, ⟨a20, c21⟩⟩
 try dsimp only
 refine qe (fun ((x26, _) : (Int × Unit)) => ([(6, .slice a20 x22.length c21), (7, .int .i64 x26)], [], [Ro (eI .u8) 5 1 (.slice a20 x22.length c21) x22], [], jm F x22 x26)) ?_ ?_
 refine au [2,4,3,25,2,3] ?_
 refine qN 4 ((x23 : Int) == 0) [(6, .slice a20 x22.length c21), (7, .int .i64 x23), (33, .bool (((x23 : Int) == 0) && (decide (4096 < (x22.length : Int)))))] (fun h29 => ?_) (fun h29 => ?_) ?_
 refine qc (os := _) rfl (qD (k := 29) rfl h29 ?_)
 refine au [3,23,24,13,24,8] ?_
 refine qd (d := 33) (v := .bool (((x23 : Int) == 0) && (decide (4096 < (x22.length : Int))))) rfl (by rw [h29]; simp only [Bool.true_and]) ?_
 exact az [0,24,3]
 refine qc (os := _) rfl (qC (k := 29) rfl h29 ?_)
 refine au [9,9,9,24,9] ?_
 refine qd (d := 33) (v := .bool (((x23 : Int) == 0) && (decide (4096 < (x22.length : Int))))) rfl (by rw [h29]; simp only [Bool.false_and]) ?_
 exact az [0,24,3]
 refine qc (os := _) rfl ?_
 refine av [0,1,10] ?_ ?_
 intro _
 refine au [4,5,0] ?_
 exact qa ((2 : Int), ())
 intro _
 refine au [12] ?_
 exact qa (x23, ())
 rintro ⟨x26, _⟩
 try dsimp only
 refine av [2,2,4,3,25,6,0,1,10] ?_ ?_
 intro _
 refine au [2,4,3,5,5,0,1,8,11,26,0] ?_
 exact qo (none, 0)
 intro _
 refine au [12,1,2,4,3,5,5,0,1,8] ?_
 exact qo (a20, c21)
set_option maxHeartbeats 4000000 in
theorem qfB {F : Nat} {x1 : List Int} {a2 : Option Addr} {c3 : Nat} {x4 : Int} {r : (Int × Int × Int)} (hm : qaM F x1 x4 = some r) :
    Pure Tryz.prog 62 [.slice a2 x1.length c3, .int .i64 x4] [Sl (eI .u8) 1 (.slice a2 x1.length c3) x1] Unit (fun _ => .tuple #[.int .u64 r.1, .int .i64 r.2.1, .int .i64 r.2.2]) (fun _ => []) (fun _ => []) := by
 refine qh Tryz.func62 rfl Tryz.ntmps62 rfl hm (fun w => ?_)
 refine au [24,12,2,4,5,5,5,0,1,2,4,5,0,1,15] ?_
 refine qk (fun (((x37, x38), _) : ((Int × Int) × Unit)) => ([(0, .slice a2 x1.length c3), (1, .int .i64 x4), (4, .int .u64 x37), (7, .int .i64 x38)], [], [], [Sl (eI .u8) 1 (.slice a2 x1.length c3) x1])) (fun k (s : ((Int × Int) × Unit)) => k9 F x1 x4 k s.1) ((0, 0), ()) F ?_
 intro k71
 rintro ⟨⟨x37, x38⟩, _⟩
 try dsimp only
 refine qA (m' := jz F x1 x4 (k9 F x1 x4 k71) x37 x38) rfl ?_
 refine av [2,15,2,2,4,3,3,16,3,23,26,3,0,1,10] ?_ ?_
 intro _
 exact az [2,4,5,5,5,0,1,8,11,22,11,11,22,19]
 intro _
 refine au [12,1,2,4,3,3,3,16,29,2] ?_
 intro x89 e89 b90 o91
 refine au [25,9,5,0,1,2,15,2,4,3,25,2,3] ?_
 refine qN 3 ((x38 : Int) == 9) [(0, .slice a2 x1.length c3), (1, .int .i64 x4), (4, .int .u64 x37), (7, .int .i64 x38), (8, .int .u8 x89), (29, .bool (((x38 : Int) == 9) && (decide (1 < x89))))] (fun h96 => ?_) (fun h96 => ?_) ?_
 refine qc (os := _) rfl (qD (k := 26) rfl h96 ?_)
 refine au [3,24,13,24,8] ?_
 refine qd (d := 29) (v := .bool (((x38 : Int) == 9) && (decide (1 < x89)))) rfl (by rw [h96]; simp only [Bool.true_and]) ?_
 exact az [0,24,3]
 refine qc (os := _) rfl (qC (k := 26) rfl h96 ?_)
 refine au [9,9,24,9] ?_
 refine qd (d := 29) (v := .bool (((x38 : Int) == 9) && (decide (1 < x89)))) rfl (by rw [h96]; simp only [Bool.false_and]) ?_
 exact az [0,24,3]
 refine qc (os := _) rfl ?_
 refine av [5,0,1,10] ?_ ?_
 intro _
 exact az [2,4,5,5,5,0,1,8,22,11,22,11,11,22,19]
 intro _
 refine au [2,4,3,24,13,3] ?_
 refine qN 3 (decide (0 < x38)) [(0, .slice a2 x1.length c3), (1, .int .i64 x4), (4, .int .u64 x37), (7, .int .i64 x38), (8, .int .u8 x89), (36, .bool ((decide (0 < x38)) && ((x89 : Int) == 0)))] (fun h97 => ?_) (fun h97 => ?_) ?_
 refine qc (os := _) rfl (qD (k := 33) rfl h97 ?_)
 refine au [3,25,2,24,8] ?_
 refine qd (d := 36) (v := .bool ((decide (0 < x38)) && ((x89 : Int) == 0))) rfl (by rw [h97]; simp only [Bool.true_and]) ?_
 exact az [0,24,3]
 refine qc (os := _) rfl (qC (k := 33) rfl h97 ?_)
 refine au [9,9,24,9] ?_
 refine qd (d := 36) (v := .bool ((decide (0 < x38)) && ((x89 : Int) == 0))) rfl (by rw [h97]; simp only [Bool.false_and]) ?_
 exact az [0,24,3]
 refine qc (os := _) rfl ?_
 refine av [5,0,1,10] ?_ ?_
 intro _
 exact az [2,4,5,5,5,0,1,8,22,11,22,11,11,22,19]
 intro _
 refine au [12,24,4,1,2,4,3,3,28,2,24,14,3,29,13,26,11] ?_
 intro h98
 refine qdQ rfl rfl rfl rfl h98 ?_
 refine au [28,13,5,26,7] ?_
 intro x99 e99
 refine qd (d := 4) (v := .int .u64 x99) rfl (by rw [e99] <;> rfl) ?_
 refine av [0,1,2,4,3,24,2,0,1,10] ?_ ?_
 intro _
 exact az [2,4,3,3,3,16,16,5,5,5,0,1,8,22,11,11,22,19]
 intro _
 refine au [12,24,4,1,4,3,16,5,0] ?_
 exact qi ((x99, iadd .i64 x38 1), ())
set_option maxHeartbeats 4000000 in
theorem qcm {F : Nat} {g1 : Nat} {x2 : List Int} {a3 : Option Addr} {c4 : Nat} {x5 : Int} {x6 : Int} {x7 : Bool} {x8 : Int} {r : (Int × Int × Int × Bool)} (hm : ql F x2 x5 x6 x7 x8 = some r) :
    PureM Tryz.prog 47 [.pointer (some ⟨g1, 0, none⟩), .int .i64 x8] [⟨g1, 80, [.slice a3 x2.length c4, .int .i64 x5, .int .i64 x6, .bool x7]⟩] [] [Sl (eI .u8) 1 (.slice a3 x2.length c4) x2] Unit (fun _ => .int .i64 r.1) (fun _ => [⟨g1, 80, [.slice a3 x2.length c4, .int .i64 r.2.1, .int .i64 r.2.2.1, .bool r.2.2.2]⟩]) (fun _ => []) := by
 refine zp Tryz.func47 rfl Tryz.ntmps47 rfl hm (fun w => ?_)
 refine au [24,12,2,4,5,0,1,2] ?_
 refine qn mixed [] [⟨g1, 80, [.slice a3 x2.length c4, .int .i64 x5, .int .i64 x6, .bool x7]⟩] [Sl (eI .u8) 1 (.slice a3 x2.length c4) x2] (.cons 0 rfl .nil) (qF 0 rfl qm) 16 rfl ?_
 refine au [6,0,6,1,18,2,25,7,3,6,4,6,5,18,6,25,7,7,20,8] ?_
 refine qg qfB ?_
 intro x10 e10 _
 refine au [0,26,9,6,9,6,10,6,11,6,12,6,13,6,14,6,15,24,1] ?_
 refine qs ?_ (by intro c h; cases h)
 refine au [1,2,2,4,3,3,24,7,13,21,3] ?_
 refine qN 3 x7 [(0, .pointer (some ⟨g1, 0, none⟩)), (1, .int .i64 x8), (5, .int .u64 x10.1), (6, .int .i64 x10.2.1), (21, .pointer (some ⟨g1, 0, none⟩)), (29, .bool (x7 || ((x10.2.2 : Int) != 0)))] (fun h14 => ?_) (fun h14 => ?_) ?_
 refine qc (os := _) rfl (qD (k := 26) rfl h14 ?_)
 refine au [9,9,24,8] ?_
 refine qd (d := 29) (v := .bool (x7 || ((x10.2.2 : Int) != 0))) rfl (by rw [h14]; simp only [Bool.true_or]) ?_
 exact az [0,24,3]
 refine qc (os := _) rfl (qC (k := 26) rfl h14 ?_)
 refine au [3,25,6,24,9] ?_
 refine qd (d := 29) (v := .bool (x7 || ((x10.2.2 : Int) != 0))) rfl (by rw [h14]; simp only [Bool.false_or]) ?_
 exact az [0,24,3]
 refine qc (os := _) rfl ?_
 refine au [3] ?_
 refine qN 5 (x7 || ((x10.2.2 : Int) != 0)) [(0, .pointer (some ⟨g1, 0, none⟩)), (5, .int .u64 x10.1), (6, .int .i64 x10.2.1), (21, .pointer (some ⟨g1, 0, none⟩)), (35, .bool ((x7 || ((x10.2.2 : Int) != 0)) || (decide ((iconv .u64 x8) < x10.1))))] (fun h15 => ?_) (fun h15 => ?_) ?_
 refine qc (os := _) rfl (qD (k := 30) rfl h15 ?_)
 refine au [9,9,9,9,24,8] ?_
 refine qd (d := 35) (v := .bool ((x7 || ((x10.2.2 : Int) != 0)) || (decide ((iconv .u64 x8) < x10.1)))) rfl (by rw [h15]; simp only [Bool.true_or]) ?_
 exact az [0,24,3]
 refine qc (os := _) rfl (qC (k := 30) rfl h15 ?_)
 refine au [3,3,24,14,24,13,24,9] ?_
 refine qd (d := 35) (v := .bool ((x7 || ((x10.2.2 : Int) != 0)) || (decide ((iconv .u64 x8) < x10.1)))) rfl (by rw [h15]; simp only [Bool.false_or]) ?_
 exact az [0,24,3]
 refine qc (os := _) rfl ?_
 refine av [24,7,13,24,0,0,1,2,4,3,24,7,13,21,0,1,10] ?_ ?_
 intro _
 exact az [2,4,5,0,1,8,11,28,1]
 intro _
 exact az [12,1,2,4,3,3,24,7,13,24,0,0,1,2,4,3,24,7,13,21,16,24,7,13,24,0,0,1,2,4,3,24,14,5,0,1,8,28,1]
theorem qez {F : Nat} {x1 : Int} {r : Int} (hm : vD F x1 = some r) :
    Pure Tryz.prog 94 [.int .u64 x1] [] Unit (fun _ => .int .i64 r) (fun _ => []) (fun _ => []) := by
 refine qh Tryz.func94 rfl Tryz.ntmps94 rfl hm (fun w => ?_)
 refine au [25,4,2,4,5,0,1,2,4,3,27,5,24,14,3,28,2,24,14] ?_
 refine qoK rfl rfl rfl ?_
 refine au [30,11,5,26,7] ?_
 intro x2 e2
 refine qd (d := 2) (v := .int .i64 x2) rfl (by rw [e2] <;> rfl) ?_
 exact az [0,1,8,19]
set_option maxHeartbeats 4000000 in
theorem qcZ {F : Nat} {g1 : Nat} {x2 : Int} {x3 : Bool} {x4 : Int} {r : (Bool × Int × Bool)} (hm : zD F x2 x3 x4 = some r) :
    PureM Tryz.prog 81 [.pointer (some ⟨g1, 0, none⟩), .int .u64 x4] [⟨g1, 101, [.int .i64 x2, .bool x3]⟩] [] [] Unit (fun _ => .bool r.1) (fun _ => [⟨g1, 101, [.int .i64 r.2.1, .bool r.2.2]⟩]) (fun _ => []) := by
 refine zp Tryz.func81 rfl Tryz.ntmps81 rfl hm (fun w => ?_)
 refine av [24,12,2,4,5,0,1,2,2,4,3,24,13,0,1,10] ?_ ?_
 intro _
 exact az [2,4,5,0,1,8,11,28,1]
 intro _
 refine au [12,1] ?_
 refine qe (fun ((x8, _) : (Int × Unit)) => ([(0, .pointer (some ⟨g1, 0, none⟩))], [⟨g1, 101, [.int .i64 x8, .bool x3]⟩], [], [], kv F x8)) ?_ ?_
 refine av [2,4,3,24,7,13,21,0,1,10] ?_ ?_
 intro _
 refine au [4,3,24,7,13,21,3,24,14,16,16,24,7,13,24,0,0] ?_
 exact qa (iadd .i64 x2 (iadd .i64 (iconv .i64 x4) 1), ())
 intro _
 refine qn mixed [9] [] [(BlkD.is ⟨g1, 101, [.int .i64 x2, .bool x3]⟩)] .nil (qeA 0 rfl qm) 10 rfl ?_
 refine au [6,0,6,1,18,2] ?_
 refine zr 3 (.int .i64 x2) [[9]] rfl rfl rfl (vG (j := 0) rfl tf3 rfl rfl (fun _ => rfl) rfl) ?_
 refine au [6,4,20,5,32,6] ?_
 intro x10 e10 _
 refine au [0,29,6,6,6,6,7,18,8,20,9,24,0,0] ?_
 refine qaR 9 rfl (by kernel_rfl) .nil ?_
 refine au [24,1] ?_
 exact qs (qa (iadd .i64 x2 x10, ())) (by intro c h; cases h)
 rintro ⟨x8, _⟩
 try dsimp only
 refine au [2,4,3,24,7,13,24,0,0,1,2,4,3,24,7,13,21,29,4] ?_
 intro x9 e9 _
 exact az [5,0,1,8,28,1]
set_option maxHeartbeats 4000000 in
theorem qhF {F : Nat} {x1 : List Int} {a2 : Option Addr} {c3 : Nat} {x4 : Int} {r : (List Int × Int)} (hm : qbo F x1 x4 = some r) :
    Pure Tryz.prog 63 [.slice a2 x1.length c3, .int .i64 x4] [Sl (eI .u64) 1 (.slice a2 x1.length c3) x1] (Option Addr × Nat) (fun g => .tuple #[.slice g.1 r.1.length g.2, .int .i64 r.2]) (fun g => [Ro (eI .i64) 3 1 (.slice g.1 r.1.length g.2) r.1]) (fun _ => []) := by
 refine qh Tryz.func63 rfl Tryz.ntmps63 rfl hm (fun w => ?_)
 refine av [24,12,2,4,5,5,0,1,2,15,2,4,3,23,24,13,5,0,1,10] ?_ ?_
 intro _
 refine au [2,4,5,5,0,1,8,22,11,25,10] ?_
 exact qo (none, 0)
 intro _
 refine au [2,4,3,29,4] ?_
 intro x8 e8 _
 refine av [25,1,5,0,1,10] ?_ ?_
 intro _
 refine au [2,4,5,5,0,1,8,22,11,25,10] ?_
 exact qo (none, 0)
 intro _
 refine au [12,24,4,1,2,4,3] ?_
 refine qj (cells := [.int .i64 x4, .bool false]) rfl st101 rfl (by kernel_rfl) rfl ?_
 refine au [24,5] ?_
 intro g9
 refine au [5,0,1,2,4,5,0,1] ?_
 refine qe (fun ((x97, (a95, c96)) : (List Int × (Option Addr × Nat))) => ([(7, .slice a95 x97.length c96)], [], [Ro (eI .i64) 3 1 (.slice a95 x97.length c96) x97], [], qa9 F x97)) ?_ ?_
 refine au [2,4,3,23,3,0,1,15,27,7] ?_
 refine qk (fun (((x126, x127, x128, x129), (a124, c125)) : ((List Int × Int × Int × Bool) × (Option Addr × Nat))) => ([(6, .pointer (some ⟨g9, 0, none⟩)), (7, .slice a124 x126.length c125), (21, .slice a2 x1.length c3), (22, .int .i64 (x1.length : Int)), (23, .int .i64 x127)], [⟨g9, 101, [.int .i64 x128, .bool x129]⟩], [Ro (eI .i64) 3 1 (.slice a124 x126.length c125) x126], [Sl (eI .u64) 1 (.slice a2 x1.length c3) x1])) (fun k (s : ((List Int × Int × Int × Bool) × (Option Addr × Nat))) => yV F x1 k s.1) ((([] : List Int), 0, x4, false), (none, 0)) F ?_
 intro k156
 rintro ⟨⟨x126, x127, x128, x129⟩, ⟨a124, c125⟩⟩
 try dsimp only
 refine qA (m' := j8 F x1 (yV F x1 k156) x126 x127 x128 x129) rfl ?_
 refine av [2,4,24,2,0,1,2,10] ?_ ?_
 intro _
 refine au [12,1,2,15,2,4,32,1] ?_
 intro x170 e170 b171 o172
 refine au [25,9,5,0,1,2,2,4,3,3,32,7] ?_
 intro x175 e175 _
 refine av [25,1,0,1,10] ?_ ?_
 intro _
 refine au [2,4,5,5,0,1,8,11,22,11,11,22,11,25,10] ?_
 exact qo (none, 0)
 intro _
 refine au [12,1,4,3,3,24,7,13,21] ?_
 refine qv (vs := [.int .i64 x175.2.1]) (ys := ([x175.2.1] : List Int)) (qt .i64) (by decide) rfl Tryz.underlying59 tf3 rfl rfl rfl rfl rfl (by decide) (fun a176 c177 => km 1 (qt .i64) rfl Tryz.underlying59 tf3 rfl rfl rfl rfl rfl (.inl ⟨0, _, rfl⟩) rfl rfl (fun x178 e178 a179 c180 => ?_))
 refine au [5,0,24,4,1,4,16,3,0] ?_
 exact qi ((x178, iadd .i64 x127 1, x175.2.1, x175.2.2), (a179, c180))
 intro _
 refine au [24,10,17,17,24,11] ?_
 exact qa (x126, (a124, c125))
 rintro ⟨x97, ⟨a95, c96⟩⟩
 try dsimp only
 refine au [2,4,3,5,5,0,1,8] ?_
 exact qo (a95, c96)
set_option maxHeartbeats 4000000 in
theorem qc3 {F : Nat} {g1 : Nat} {x2 : List Int} {a3 : Option Addr} {c4 : Nat} {x5 : Int} {x6 : Int} {x7 : Bool} {x8 : Int} {x9 : Int} {r : (List Int × Int × Int × Bool)} (hm : zQ F x2 x5 x6 x7 x8 x9 = some r) :
    PureM Tryz.prog 48 [.pointer (some ⟨g1, 0, none⟩), .int .i64 x8, .int .i64 x9] [⟨g1, 80, [.slice a3 x2.length c4, .int .i64 x5, .int .i64 x6, .bool x7]⟩] [] [Sl (eI .u8) 1 (.slice a3 x2.length c4) x2] (Option Addr × Nat) (fun g => .slice g.1 r.1.length g.2) (fun _ => [⟨g1, 80, [.slice a3 x2.length c4, .int .i64 r.2.1, .int .i64 r.2.2.1, .bool r.2.2.2]⟩]) (fun g => [Ro (eI .i64) 3 1 (.slice g.1 r.1.length g.2) r.1]) := by
 refine zp Tryz.func48 rfl Tryz.ntmps48 rfl hm (fun w => ?_)
 refine au [25,12,2,4,5,0,1,2,4,5,0,1] ?_
 refine qe (fun (((x63, x64, x65, x66), (a61, c62)) : ((List Int × Int × Int × Bool) × (Option Addr × Nat))) => ([(0, .pointer (some ⟨g1, 0, none⟩)), (1, .int .i64 x8), (7, .slice a61 x63.length c62)], [⟨g1, 80, [.slice a3 x2.length c4, .int .i64 x64, .int .i64 x65, .bool x66]⟩], [Ro (eI .u64) 58 1 (.slice a61 x63.length c62) x63], [Sl (eI .u8) 1 (.slice a3 x2.length c4) x2], zm F x8 x63 x64 x65 x66)) ?_ ?_
 refine au [2,4,3,3,27,1] ?_
 intro x71 e71 _
 refine au [3,0,1,15,30,13] ?_
 refine qk (fun (((x88, x89, x90, x91, x92), (a86, c87)) : ((List Int × Int × Int × Int × Bool) × (Option Addr × Nat))) => ([(0, .pointer (some ⟨g1, 0, none⟩)), (1, .int .i64 x8), (7, .slice a86 x88.length c87), (12, .int .i64 x71.1), (13, .int .i64 x89)], [⟨g1, 80, [.slice a3 x2.length c4, .int .i64 x90, .int .i64 x91, .bool x92]⟩], [Ro (eI .u64) 58 1 (.slice a86 x88.length c87) x88], [Sl (eI .u8) 1 (.slice a3 x2.length c4) x2])) (fun k (s : ((List Int × Int × Int × Int × Bool) × (Option Addr × Nat))) => qK F x2 x8 x71 k s.1) ((([] : List Int), 0, x71.2.1, x71.2.2.1, x71.2.2.2), (none, 0)) F ?_
 intro k107
 rintro ⟨⟨x88, x89, x90, x91, x92⟩, ⟨a86, c87⟩⟩
 try dsimp only
 refine qA (m' := zJ F x2 x8 x71 (qK F x2 x8 x71 k107) x88 x89 x90 x91 x92) rfl ?_
 refine av [2,4,24,2,0,1,2,10] ?_ ?_
 intro _
 refine au [12,1,2,15,4,3,3,27,1] ?_
 intro x115 e115 _
 refine au [24,14] ?_
 refine qv (vs := [.int .u64 (iconv .u64 x115.1)]) (ys := ([iconv .u64 x115.1] : List Int)) (qt .u64) (by decide) rfl Tryz.underlying60 tf58 rfl rfl rfl rfl rfl (by decide) (fun a116 c117 => km 1 (qt .u64) rfl Tryz.underlying60 tf58 rfl rfl rfl rfl rfl (.inl ⟨0, _, rfl⟩) rfl rfl (fun x118 e118 a119 c120 => ?_))
 refine au [5,0,24,4,1,4,16,3,0] ?_
 exact qi ((x118, iadd .i64 x89 1, x115.2.1, x115.2.2.1, x115.2.2.2), (a119, c120))
 intro _
 refine au [24,10,17,17,24,11] ?_
 exact qa ((x88, x90, x91, x92), (a86, c87))
 rintro ⟨⟨x63, x64, x65, x66⟩, ⟨a61, c62⟩⟩
 try dsimp only
 refine au [2,4,3,3] ?_
 refine qg qhF ?_
 rintro x67 e67 ⟨a68, c69⟩
 refine au [3,14,14,5,5,0,1,2,4,3,3,24,7,13,21,3] ?_
 refine qN 3 x66 [(8, .slice a68 x67.1.length c69), (28, .pointer (some ⟨g1, 0, none⟩)), (36, .bool (x66 || ((x67.2 : Int) != 0)))] (fun h70 => ?_) (fun h70 => ?_) ?_
 refine qc (os := _) rfl (qD (k := 33) rfl h70 ?_)
 refine au [9,9,24,8] ?_
 refine qd (d := 36) (v := .bool (x66 || ((x67.2 : Int) != 0))) rfl (by rw [h70]; simp only [Bool.true_or]) ?_
 exact az [0,24,3]
 refine qc (os := _) rfl (qC (k := 33) rfl h70 ?_)
 refine au [3,25,6,24,9] ?_
 refine qd (d := 36) (v := .bool (x66 || ((x67.2 : Int) != 0))) rfl (by rw [h70]; simp only [Bool.false_or]) ?_
 exact az [0,24,3]
 refine qc (os := _) rfl ?_
 refine au [24,7,13,24,0,0,1,2,4,3,5,0,1,8] ?_
 exact zl (a68, c69)
set_option maxHeartbeats 4000000 in
theorem qc2 (F : Nat) (g1 : Nat) (x2 : List Int) (a3 : Option Addr) (c4 : Nat) (x5 : Int) (x6 : Int) (x7 : Bool) (r : (List (List Int) × Bool × Int × Int × Bool)) (hm : vl F x2 x5 x6 x7 = some r) :
    PureM Tryz.prog 36 [.pointer (some ⟨g1, 0, none⟩)] [⟨g1, 80, [.slice a3 x2.length c4, .int .i64 x5, .int .i64 x6, .bool x7]⟩] [] [Sl (eI .u8) 1 (.slice a3 x2.length c4) x2] (Option Addr × (Nat × List (Option Addr × Nat))) (fun g => .tuple #[.agg #[.slice g.1 r.1.length g.2.1], .bool r.2.1]) (fun _ => [⟨g1, 80, [.slice a3 x2.length c4, .int .i64 r.2.2.1, .int .i64 r.2.2.2.1, .bool r.2.2.2.2]⟩]) (fun g => [RoN eN59 rN59 59 1 (.slice g.1 r.1.length g.2.1) r.1 g.2.2 []]) := by
 refine zp Tryz.func36 rfl Tryz.ntmps36 rfl hm (fun w => ?_)
 refine au [25,4,2,4,24,6] ?_
 intro g8
 refine au [5,0,1,2,4,3,27,1] ?_
 intro x9 e9 _
 refine au [5,0,1,2,4] ?_
 refine qj (cells := [.slice none 0 0]) rfl st24 rfl (by kernel_rfl) rfl ?_
 refine au [24,6] ?_
 intro g10
 refine au [24,0,0,1] ?_
 refine qe (fun (((x76, x77, x78, x79), (a74, c75)) : ((List (List Int) × Int × Int × Bool) × (Option Addr × (Nat × List (Option Addr × Nat))))) => ([(0, .pointer (some ⟨g1, 0, none⟩)), (2, .pointer (some ⟨g8, 0, none⟩)), (5, .pointer (some ⟨g10, 0, none⟩))], [⟨g10, 24, [.slice a74 x76.length c75.1]⟩, ⟨g1, 80, [.slice a3 x2.length c4, .int .i64 x77, .int .i64 x78, .bool x79]⟩, ⟨g8, 24, [.slice none 0 0]⟩], [RoN eN59 rN59 59 1 (.slice a74 x76.length c75.1) x76 c75.2 []], [Sl (eI .u8) 1 (.slice a3 x2.length c4) x2], q7 F x2 x76 x77 x78 x79)) ?_ ?_
 refine au [2,4,3,3,0,1,15,32,8] ?_
 refine qk (fun (((x106, x109, x110, x111, x112), (a107, c108)) : ((Int × List (List Int) × Int × Int × Bool) × (Option Addr × (Nat × List (Option Addr × Nat))))) => ([(0, .pointer (some ⟨g1, 0, none⟩)), (2, .pointer (some ⟨g8, 0, none⟩)), (4, .int .i64 x9.1), (5, .pointer (some ⟨g10, 0, none⟩)), (10, .int .i64 x9.1), (11, .int .i64 x106)], [⟨g10, 24, [.slice a107 x109.length c108.1]⟩, ⟨g1, 80, [.slice a3 x2.length c4, .int .i64 x110, .int .i64 x111, .bool x112]⟩, ⟨g8, 24, [.slice none 0 0]⟩], [RoN eN59 rN59 59 1 (.slice a107 x109.length c108.1) x109 c108.2 []], [Sl (eI .u8) 1 (.slice a3 x2.length c4) x2])) (fun k (s : ((Int × List (List Int) × Int × Int × Bool) × (Option Addr × (Nat × List (Option Addr × Nat))))) => qJ F x2 x9 k s.1) ((0, ([] : List (List Int)), x9.2.1, x9.2.2.1, x9.2.2.2), (none, (0, ([] : List (Option Addr × Nat))))) F ?_
 intro k131
 rintro ⟨⟨x106, x109, x110, x111, x112⟩, ⟨a107, c108⟩⟩
 try dsimp only
 refine qA (m' := zH F x2 x9 (qJ F x2 x9 k131) x106 x109 x110 x111 x112) rfl ?_
 refine av [2,4,24,2,0,1,2,10] ?_ ?_
 intro _
 refine au [12,1,2,15,2,4,3,5,0,1] ?_
 refine qn mixed [9] [⟨g8, 24, [.slice none 0 0]⟩] [Sl (eI .u8) 1 (.slice a3 x2.length c4) x2, (BlkD.is ⟨g10, 24, [.slice a107 x109.length c108.1]⟩)] (.cons 2 rfl .nil) (qF 0 rfl (qeA 0 rfl qm)) 10 rfl ?_
 refine au [18,0] ?_
 refine zr 1 (.slice a107 x109.length c108.1) [[9]] rfl rfl rfl (vG (j := 1) rfl tf22 rfl rfl (fun _ => rfl) rfl) ?_
 refine au [6,2,6,3,6,4,20,5] ?_
 refine qT qc3 ?_
 rintro x141 e141 ⟨a142, c143⟩
 refine au [0,29,14,20,6] ?_
 refine qv (vs := [.slice a142 x141.1.length c143]) (ys := ([(x141.1, (a142, c143))] : List (List Int × (Option Addr × Nat)))) yR (by decide) rfl Tryz.underlying22 tf59 rfl rfl rfl rfl rfl (by decide) (fun a144 c145 => qcd (rin := rN59) (i := 0) ([x141.1] : List (List Int)) ([(a142, c143)] : List (Option Addr × Nat)) rfl rfl (.cons 0 rfl .nil) ?_)
 refine au [0,29,14,20,7,32,9] ?_
 intro x146 e146 a147 c148
 refine au [0,29,14,18,8,20,9,25,5,0] ?_
 refine qaR 9 rfl (by kernel_rfl) (.cons 2 rfl .nil) ?_
 refine au [24,1] ?_
 refine qs ?_ (by intro c h; cases h)
 refine au [24,4,1,4,16,3,0] ?_
 exact qi ((iadd .i64 x106 1, x146, x141.2.1, x141.2.2.1, x141.2.2.2), (a147, (c148, (c108.2 ++ ([(a142, c143)] : List (Option Addr × Nat))))))
 intro _
 refine au [24,10,17,17,24,11] ?_
 exact qa ((x109, x110, x111, x112), (a107, c108))
 rintro ⟨⟨x76, x77, x78, x79⟩, ⟨a74, c75⟩⟩
 try dsimp only
 refine qe (fun ((x83, _) : (Bool × Unit)) => ([(2, .pointer (some ⟨g8, 0, none⟩)), (3, .bool x83)], [⟨g1, 80, [.slice a3 x2.length c4, .int .i64 x77, .int .i64 x78, .bool x79]⟩, ⟨g8, 24, [.slice a74 x76.length c75.1]⟩], [RoN eN59 rN59 59 1 (.slice a74 x76.length c75.1) x76 c75.2 []], [Sl (eI .u8) 1 (.slice a3 x2.length c4) x2], zI F x76 x77 x78 x79 x83)) ?_ ?_
 refine av [26,14] ?_ ?_
 intro h84
 refine av [26,14] ?_ ?_
 intro h85
 refine qn mixed [] [⟨g10, 24, [.slice a74 x76.length c75.1]⟩, ⟨g1, 80, [.slice a3 x2.length c4, .int .i64 x77, .int .i64 x78, .bool x79]⟩] [Sl (eI .u8) 1 (.slice a3 x2.length c4) x2] (.cons 0 rfl (.cons 0 rfl .nil)) (qF 0 rfl qm) 25 rfl (zA 0 (.agg #[.slice a74 x76.length c75.1]) rfl rfl rfl (qX (i := 0) rfl tf24 rfl rfl (by simp) rfl) ?_)
 refine au [6,1,6,2,18,3,26,1,4,6,5,6,6] ?_
 refine qf (d := 30) (v := .bool true) rfl (by rw [h84] <;> rfl) ?_
 refine au [6,7,6,8,18,9,26,1,10,6,11,6,12,18,13,26,1,14,26,8,15,6,16,6,17,6,18] ?_
 refine qf (d := 42) (v := .bool true) rfl (by rw [h85] <;> rfl) (zA 19 (.agg #[.slice a74 x76.length c75.1]) rfl rfl rfl (qX (i := 0) rfl tf24 rfl rfl (by simp) rfl) ?_)
 refine au [20,20,29,12] ?_
 intro x86 e86 _
 refine au [0,27,9,6,21,6,22,20,23,25,14,0,27,9,6,24,24,1] ?_
 exact qs (qa (((x86 : Int) == 0), ())) (by intro c h; cases h)
 intro h85
 refine qn mixed [] [⟨g10, 24, [.slice a74 x76.length c75.1]⟩, ⟨g1, 80, [.slice a3 x2.length c4, .int .i64 x77, .int .i64 x78, .bool x79]⟩] [Sl (eI .u8) 1 (.slice a3 x2.length c4) x2] (.cons 0 rfl (.cons 0 rfl .nil)) (qF 0 rfl qm) 25 rfl (zA 0 (.agg #[.slice a74 x76.length c75.1]) rfl rfl rfl (qX (i := 0) rfl tf24 rfl rfl (by simp) rfl) ?_)
 refine au [6,1,6,2,18,3,26,1,4,6,5,6,6] ?_
 refine qf (d := 30) (v := .bool true) rfl (by rw [h84] <;> rfl) ?_
 refine au [6,7,6,8,18,9,26,1,10,6,11,6,12,18,13,26,1,14,26,8,15,6,16,6,17,6,18] ?_
 refine qf (d := 42) (v := .bool false) rfl (by rw [h85] <;> rfl) ?_
 refine au [7,19,7,20,7,21,6,22,20,23,25,14,0,27,9,6,24,24,1] ?_
 exact qs (qa (false, ())) (by intro c h; cases h)
 intro h84
 refine qn mixed [] [⟨g10, 24, [.slice a74 x76.length c75.1]⟩, ⟨g1, 80, [.slice a3 x2.length c4, .int .i64 x77, .int .i64 x78, .bool x79]⟩] [Sl (eI .u8) 1 (.slice a3 x2.length c4) x2] (.cons 0 rfl (.cons 0 rfl .nil)) (qF 0 rfl qm) 25 rfl (zA 0 (.agg #[.slice a74 x76.length c75.1]) rfl rfl rfl (qX (i := 0) rfl tf24 rfl rfl (by simp) rfl) ?_)
 refine au [6,1,6,2,18,3,26,1,4,6,5,6,6] ?_
 refine qf (d := 30) (v := .bool false) rfl (by rw [h84] <;> rfl) ?_
 refine au [7,7,7,8,7,9,7,10,7,11,7,12,7,13,7,14,7,15,7,16,6,17,6,18,7,19,7,20,7,21,6,22,20,23,25,14,0,27,9,6,24,24,1] ?_
 exact qs (qa (false, ())) (by intro c h; cases h)
 rintro ⟨x83, _⟩
 try dsimp only
 refine au [8] ?_
 exact yb (a74, c75) (resL (rs := [.cell 2 24, .tmp 3]) rfl (.cell (i := 1) rfl tf24 rfl rfl (by simp) rfl (.tmp rfl ResOk.nil)) rfl) (hB := fun h => by subst h; exact (.cons 0 rfl .nil)) (hR := fun h => by subst h; exact (.cons 0 rfl .nil))
end Go.Proofs.YtlioijpkhffbnaaGreat
