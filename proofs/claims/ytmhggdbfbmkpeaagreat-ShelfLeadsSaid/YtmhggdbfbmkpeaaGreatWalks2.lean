/- Each Go function of this seat computes what its model says, part 2. -/
import Derived.Test.YtmhggdbfbmkpeaaGreatWalks
namespace Go.Proofs.YtmhggdbfbmkpeaaGreat
open Go SX
set_option maxHeartbeats 4000000 in
theorem qhL (F : Nat) {σ τ : Type} {J : Rounds σ τ} {yy : σ → (Int × Int) → Option (σ ⊕ τ)} {L : Nat} (hY : YieldC Tryz.prog L (fun (p : (Int × Int)) => [.agg #[.int .i64 p.1, .int .i64 p.2]]) J yy) (s0 : σ) (gs0 : J.γ) (g1 : Nat) (x2 : List Int) (a3 : Option Addr) (c4 : Nat) (r : σ ⊕ τ) (hm : qaT F yy x2 s0 = some r) :
    PureM Tryz.prog 211 ([.func (.yield L) #[] #[], .pointer (some ⟨g1, 0, none⟩)]) ([⟨g1, 39, [.slice a3 x2.length c4]⟩] ++ J.IB s0 gs0) (J.IR s0 gs0) [J.F, Sl (eI .i64) 1 (.slice a3 x2.length c4) x2] (J.G r) (fun _ => .tuple #[]) (fun g => [⟨g1, 39, [.slice a3 x2.length c4]⟩] ++ J.bs r g) (fun g => J.rs r g) := by
 refine zi Tryz.func211 rfl Tryz.ntmps211 rfl hm (fun w => ?_)
 refine au [24,10,2,4,5,0,1,15] ?_
 refine qaJ (fun (((x266, x267), g268) : ((Int × σ) × J.γ)) => [(0, .func (.yield L) #[] #[]), (1, .pointer (some ⟨g1, 0, none⟩)), (3, .int .i64 x266)]) (fun (((x266, x267), g268) : ((Int × σ) × J.γ)) => [⟨g1, 39, [.slice a3 x2.length c4]⟩] ++ J.IB x267 g268) (fun (((x266, x267), g268) : ((Int × σ) × J.γ)) => [] ++ J.IR x267 g268) (fun (((x266, x267), g268) : ((Int × σ) × J.γ)) => [Sl (eI .i64) 1 (.slice a3 x2.length c4) x2, J.F]) (fun k (s : ((Int × σ) × J.γ)) => q4 F yy x2 k s.1) ((0, s0), gs0) F ?_ (hB := (.cons 0 rfl (qj 0 rfl))) (hR := (qj 0 rfl)) (hF := (qm 1 rfl (qm 0 rfl ke)))
 intro k530
 rintro ⟨⟨x266, x267⟩, g268⟩
 try dsimp only
 refine qJ (m' := qac F yy x2 (q4 F yy x2 k530) x266 x267) rfl ?_
 refine av [2,2,4,3,18,24,6,24,4,0,1,11] ?_ ?_
 intro _
 refine au [12,1,15,2,4,5,0,1] ?_
 refine qdy (fun ((x654, _) : (Int × Unit)) => [(0, .func (.yield L) #[] #[]), (1, .pointer (some ⟨g1, 0, none⟩)), (3, .int .i64 x266), (4, .int .i64 x654)]) (fun ((x654, _) : (Int × Unit)) => [⟨g1, 39, [.slice a3 x2.length c4]⟩] ++ J.IB x267 g268) (fun ((x654, _) : (Int × Unit)) => [] ++ J.IR x267 g268) (fun ((x654, _) : (Int × Unit)) => [Sl (eI .i64) 1 (.slice a3 x2.length c4) x2, J.F]) (fun ((x654, _) : (Int × Unit)) => qae F yy (q4 F yy x2 k530) x2 x266 x267 x654) ?_ ?_
 refine au [15] ?_
 refine qaJ (fun ((x709, _) : (Int × Unit)) => [(0, .func (.yield L) #[] #[]), (1, .pointer (some ⟨g1, 0, none⟩)), (3, .int .i64 x266), (4, .int .i64 x709)]) (fun ((x709, _) : (Int × Unit)) => [⟨g1, 39, [.slice a3 x2.length c4]⟩] ++ J.IB x267 g268) (fun ((x709, _) : (Int × Unit)) => [] ++ J.IR x267 g268) (fun ((x709, _) : (Int × Unit)) => [Sl (eI .i64) 1 (.slice a3 x2.length c4) x2, J.F]) (fun k (s : (Int × Unit)) => kD F yy (q4 F yy x2 k530) x2 x266 x267 k s.1) (1, ()) F ?_ (hB := (.cons 0 rfl (qj 0 rfl))) (hR := (qj 0 rfl)) (hF := (qm 0 rfl (qm 1 rfl ke)))
 intro k750
 rintro ⟨x709, _⟩
 try dsimp only
 refine qJ (m' := qad F yy (q4 F yy x2 k530) x2 x266 x267 (kD F yy (q4 F yy x2 k530) x2 x266 x267 k750) x709) rfl ?_
 refine au [2] ?_
 refine qdy (fun ((x780, _) : (Bool × Unit)) => [(0, .func (.yield L) #[] #[]), (1, .pointer (some ⟨g1, 0, none⟩)), (3, .int .i64 x266), (4, .int .i64 x709), (29, .bool x780)]) (fun ((x780, _) : (Bool × Unit)) => [⟨g1, 39, [.slice a3 x2.length c4]⟩] ++ J.IB x267 g268) (fun ((x780, _) : (Bool × Unit)) => [] ++ J.IR x267 g268) (fun ((x780, _) : (Bool × Unit)) => [Sl (eI .i64) 1 (.slice a3 x2.length c4) x2, J.F]) (fun ((x780, _) : (Bool × Unit)) => qaf F yy (q4 F yy x2 k530) (kD F yy (q4 F yy x2 k530) x2 x266 x267 k750) x2 x266 x267 x709 x780) ?_ ?_
 refine av [28,3] ?_ ?_
 intro h782
 refine au [32,2] ?_
 intro x783 e783 b784 o785 h786
 replace h786 : a3 = some ⟨b784, o785, none⟩ := h786
 refine qcd (j := 1) (qP .i64) (by decide) rfl ?_
 intro x787 e787 b788 o789 h790
 replace h790 : a3 = some ⟨b788, o789, none⟩ := h790
 refine qH mixed [] [⟨g1, 39, [.slice a3 x2.length c4]⟩] [qR b788 (o789 + x266.toNat * 1) ((eI .i64) x787), qR b784 (o785 + (iadd .i64 x266 x709).toNat * 1) ((eI .i64) x783), Sl (eI .i64) 1 (.slice a3 x2.length c4) x2, J.F] (.cons 0 rfl .nil) (qW 0 rfl (qW 1 rfl (qW 2 rfl (qW 3 rfl qB)))) 21 rfl ?_
 refine au [7,0,7,1,7,2,25,2,3,27,7,4,7,5,7,6] ?_
 refine qn (d := 15) (v := .bool true) rfl (by rw [h782] <;> rfl) ?_
 refine au [25,2,7,7,8,7,9,7,10] ?_
 refine qn (d := 16) (v := .slice (some ⟨b784, o785, none⟩) x2.length c4) rfl (by rw [h786] <;> rfl) (qo 11 (.pointer (some ⟨b784, (o785 + (iadd .i64 x266 x709).toNat * 1), none⟩)) rfl rfl rfl (qbI Tryz.underlying39 tf3 rfl rfl (zd e783).1 (qax e783)) (qn (d := 16) (v := .slice a3 x2.length c4) rfl (by rw [h786] <;> rfl) (zk 12 (.int .i64 x783) [] rfl rfl rfl (ym (j := 1) rfl tf3 rfl rfl (fun _ => rfl) rfl) ?_)))
 refine au [25,2,13,7,14] ?_
 refine qn (d := 22) (v := .slice (some ⟨b788, o789, none⟩) x2.length c4) rfl (by rw [h790] <;> rfl) (qo 15 (.pointer (some ⟨b788, (o789 + x266.toNat * 1), none⟩)) rfl rfl rfl (qbI Tryz.underlying39 tf3 rfl rfl (zd e787).1 (qax e787)) (qn (d := 22) (v := .slice a3 x2.length c4) rfl (by rw [h790] <;> rfl) (zk 16 (.int .i64 x787) [] rfl rfl rfl (ym (j := 0) rfl tf3 rfl rfl (fun _ => rfl) rfl) ?_)))
 refine au [7,17,7,18,7,19,7,20,24,9] ?_
 exact qQ (qaM (((x783 : Int) == (iadd .i64 x787 x709)), ()) (hB := (.cons 0 rfl (qj 0 rfl))) (hR := (qj 0 rfl)) (hF := (qm 2 rfl (qm 3 rfl ke)))) (by intro c h; cases h)
 intro h782
 refine qH mixed [] [⟨g1, 39, [.slice a3 x2.length c4]⟩] [Sl (eI .i64) 1 (.slice a3 x2.length c4) x2, J.F] (.cons 0 rfl .nil) (qW 0 rfl (qW 1 rfl qB)) 21 rfl ?_
 refine au [7,0,7,1,7,2,25,2,3,27,7,4,7,5,7,6] ?_
 refine qn (d := 15) (v := .bool false) rfl (by rw [h782] <;> rfl) ?_
 refine au [14,7,14,8,14,9,14,10,14,11,14,12,14,13,14,14,14,15,14,16,14,17,14,18,14,19,7,20,24,9] ?_
 exact qQ (qaM (false, ()) (hB := (.cons 0 rfl (qj 0 rfl))) (hR := (qj 0 rfl)) (hF := (qm 0 rfl (qm 1 rfl ke)))) (by intro c h; cases h)
 rintro ⟨x780, _⟩
 try dsimp only
 refine av [11] ?_ ?_
 intro _
 refine au [12,1,15,4,3,19,5,0,24,5] ?_
 exact qay (iadd .i64 x709 1, ()) (hB := (.cons 0 rfl (qj 0 rfl))) (hR := (qj 0 rfl)) (hF := (qm 0 rfl (qm 1 rfl ke)))
 intro _
 refine au [24,11,20,20,24,12] ?_
 exact qaM (x709, ()) (hB := (.cons 0 rfl (qj 0 rfl))) (hR := (qj 0 rfl)) (hF := (qm 0 rfl (qm 1 rfl ke)))
 rintro ⟨x654, _⟩
 try dsimp only
 refine au [2,2,4,3,18,3,26,6] ?_
 intro x662 e662 b663 o664
 refine au [25,13,3] ?_
 refine ql (cells := [.int .i64 x662, .int .i64 x654]) rfl st189 rfl (by kernel_rfl) rfl (qdz hY x267 (x662, x654) g268 (B1 := [⟨g1, 39, [.slice a3 x2.length c4]⟩]) (R1 := []) (j := 2) rfl rfl rfl rfl rfl rfl rfl (fun x665 _ g667 => ?_) (fun x666 _ g667 => ?_))
 refine au [25,4,0,1] ?_
 refine yX (b := false) rfl (fun h => by cases h) (fun _ => ?_)
 refine au [12,1,4,3,3,19,5,0,24,5] ?_
 exact qay ((iadd .i64 x266 x654, x665), g667) (hB := (.cons 0 rfl (qj 0 rfl))) (hR := (qj 0 rfl)) (hF := (qm 1 rfl (qm 2 rfl ke)))
 refine au [25,4,0,1] ?_
 refine yX (b := true) rfl (fun _ => ?_) (fun h => by cases h)
 refine au [8,10,24,1,10,24,1] ?_
 exact jP (B0 := [⟨g1, 39, [.slice a3 x2.length c4]⟩]) (x := .inr x666) g667 (.inl rfl) (res0 rfl) (.cons 0 rfl (qj 0 rfl)) (qj 0 rfl)
 intro _
 refine au [24,11,20,20,24,12] ?_
 exact jP (B0 := [⟨g1, 39, [.slice a3 x2.length c4]⟩]) (x := .inl x267) g268 (.inr rfl) (res0 rfl) (.cons 0 rfl (qj 0 rfl)) (qj 0 rfl)
set_option maxHeartbeats 4000000 in
theorem qlw {F : Nat} {x1 : List Int} {a2 : Option Addr} {c3 : Nat} {x4 : Int} {r : (List (Int × Int) × List Int)} (hm : qdD F x1 x4 = some r) :
    PureM Tryz.prog 159 [.slice a2 x1.length c3, .int .i64 x4] [] [] [Sl (eI .i64) 1 (.slice a2 x1.length c3) x1] ((Option Addr × Nat) × (Option Addr × Nat)) (fun g => .tuple #[.slice g.1.1 r.1.length g.1.2, .slice g.2.1 r.2.length g.2.2]) (fun _ => []) (fun g => [Ro eS189 189 2 (.slice g.1.1 r.1.length g.1.2) r.1, Ro (eI .i64) 3 1 (.slice g.2.1 r.2.length g.2.2) r.2]) := by
 refine qcV Tryz.func159 rfl Tryz.ntmps159 rfl hm (fun w => ?_)
 refine au [24,10,2,4,22] ?_
 intro g5
 refine au [24,7] ?_
 intro g6
 refine au [24,7] ?_
 intro g7
 refine au [0,1,2,2,4,3] ?_
 refine qz qj9 ?_
 intro x188 e188 g189
 refine au [0,1,15,27,5] ?_
 refine qcY (Int × Int) eS189 189 2 (qbP (encs := (fun (p : (Int × Int)) => [.agg #[.int .i64 p.1, .int .i64 p.2]])) (y := (fun ((x252, x255) : (List Int × List (Int × Int))) ((x312, x313) : (Int × Int)) => qaS F x4 x252 x255 x312 x313)) (lb := [.pointer (some ⟨g189, 0, none⟩)]) (fun ((x252, x255) : (List Int × List (Int × Int))) ((a250, c251, a253, c254) : (Option Addr × Nat × Option Addr × Nat)) => [⟨g7, 39, [.slice a250 x252.length c251]⟩, ⟨g6, 184, [.slice a253 x255.length c254]⟩, ⟨g5, 3, [.int .i64 x4]⟩]) (fun ((x252, x255) : (List Int × List (Int × Int))) ((a250, c251, a253, c254) : (Option Addr × Nat × Option Addr × Nat)) => [Ro (eI .i64) 3 1 (.slice a250 x252.length c251) x252, Ro eS189 189 2 (.slice a253 x255.length c254) x255]) (fun (_ : Empty) (_ : Unit) => []) (fun (_ : Empty) (_ : Unit) => []) (fun _ => .skip) (([] : List Int), ([] : List (Int × Int))) (none, 0, none, 0) rfl ent211 (fun _ => rfl) rfl (.cons 0 rfl .nil) (.cons 0 rfl (.cons 0 rfl (.cons 0 rfl .nil))) (.cons 1 rfl (.cons 0 rfl .nil)) (.consF 0 rfl .nil) (fun z hz _ _ _ hY => qhL F hY (([] : List Int), ([] : List (Int × Int))) (none, 0, none, 0) g189 x1 a2 c3 z hz) ?_ ?_ ?_)
 rintro rc1 L1 D1 ⟨x252, x255⟩ ⟨a250, c251, a253, c254⟩ ⟨x312, x313⟩ z w M _
 try dsimp only
 refine qcX [(0, .slice a2 x1.length c3), (1, .int .i64 x4), (3, .pointer (some ⟨g5, 0, none⟩)), (4, .pointer (some ⟨g6, 0, none⟩)), (5, .pointer (some ⟨g7, 0, none⟩)), (8, .slice a2 x1.length c3), (9, .func (.func 211) #[] #[.pointer (some ⟨g189, 0, none⟩)]), (10, .agg #[.int .i64 x312, .int .i64 x313])] (qt rfl (qt rfl (qt rfl (qt rfl (qt rfl (qt rfl (qt rfl (qt rfl qcT)))))))) ?_
 refine au [4,24,7] ?_
 intro g314
 refine av [24,2,0,32,3,15,2,2,4,9,18,27,11,26,2,0,1,11] ?_ ?_
 intro _
 refine au [2,4,26,11,24,8] ?_
 refine qv (vs := [.agg #[.int .i64 x312, .int .i64 x313]]) (ys := ([(x312, x313)] : List (Int × Int))) qds (by decide) rfl Tryz.underlying184 tf189 rfl rfl rfl rfl rfl (by decide) (fun a321 c322 => kx 2 qds rfl Tryz.underlying184 tf189 rfl rfl rfl rfl rfl (.inl ⟨0, _, rfl⟩) rfl rfl (fun x323 e323 a324 c325 => ?_))
 refine au [26,10,0,1,24,11,20,24,12] ?_
 exact qaN (rc := rc1) rfl (.cons 4 rfl .nil) rfl (a250, c251, a324, c325) (.cons 2 rfl (.cons 2 rfl (.cons 2 rfl (.cons 0 rfl (.cons 1 rfl .nil))))) (.cons 2 rfl (.cons 0 rfl .nil))
 intro _
 refine au [12,1,2,4,9,18,3,0,1,15] ?_
 refine qw (fun (((x338, x341), (a339, c340)) : ((Int × List Int) × (Option Addr × Nat))) => ([(3, .pointer (some ⟨g5, 0, none⟩)), (4, .pointer (some ⟨g6, 0, none⟩)), (5, .pointer (some ⟨g7, 0, none⟩)), (6, .pointer (some ⟨g314, 0, none⟩)), (20, .int .i64 x313), (21, .int .i64 x338)], [⟨g314, 189, [.int .i64 x312, .int .i64 x313]⟩, ⟨g7, 39, [.slice a339 x341.length c340]⟩, ⟨g6, 184, [.slice a253 x255.length c254]⟩, ⟨g5, 3, [.int .i64 x4]⟩, (blkO L1 (.loop (bsy rc1))), (dblk D1)], [Ro (eI .i64) 3 1 (.slice a339 x341.length c340) x341, Ro eS189 189 2 (.slice a253 x255.length c254) x255], [])) (fun k (s : ((Int × List Int) × (Option Addr × Nat))) => jK F x255 x312 x313 k s.1) ((0, x252), (a250, c251)) F ?_
 intro k354
 rintro ⟨⟨x338, x341⟩, ⟨a339, c340⟩⟩
 try dsimp only
 refine qJ (m' := qb5 F x255 x312 x313 (jK F x255 x312 x313 k354) x338 x341) rfl ?_
 refine av [2,4,24,4,0,1,2,11] ?_ ?_
 intro _
 refine au [12,1,2,15,2,4,3,5,0,1,4,25,6,9,18,3,19] ?_
 refine qv (vs := [.int .i64 (iadd .i64 x312 x338)]) (ys := ([iadd .i64 x312 x338] : List Int)) (qP .i64) (by decide) rfl Tryz.underlying39 tf3 rfl rfl rfl rfl rfl (by decide) (fun a361 c362 => kx 1 (qP .i64) rfl Tryz.underlying39 tf3 rfl rfl rfl rfl rfl (.inl ⟨0, _, rfl⟩) rfl rfl (fun x363 e363 a364 c365 => ?_))
 refine au [24,15,0,24,5,1,4,19,3,0] ?_
 exact qp ((iadd .i64 x338 1, x363), (a364, c365))
 intro _
 refine au [24,11,20,20,24,12,24,5] ?_
 exact qaN (rc := rc1) rfl (.cons 4 rfl .nil) rfl (a339, c340, a253, c254) (.cons 2 rfl (.cons 2 rfl (.cons 2 rfl (.cons 0 rfl (.cons 1 rfl .nil))))) (.cons 0 rfl (.cons 0 rfl .nil))
 rintro ⟨x252, x255⟩ _ ⟨a250, c251, a253, c254⟩ D1
 try dsimp only
 refine au [24,5,1,2] ?_
 refine qH mixed [] [(dblk D1), ⟨g189, 39, [.slice a2 x1.length c3]⟩, ⟨g7, 39, [.slice a250 x252.length c251]⟩, ⟨g6, 184, [.slice a253 x255.length c254]⟩, ⟨g5, 3, [.int .i64 x4]⟩] [Sl (eI .i64) 1 (.slice a2 x1.length c3) x1] (.cons 0 rfl (.cons 0 rfl (.cons 0 rfl (.cons 0 rfl (.cons 0 rfl .nil))))) (qW 0 rfl qB) 4 rfl ?_
 refine au [32,4,0,29,13,1,24,3,2,28,11,0,28,12,24,3,3,26,10,0,28,12,24,9] ?_
 refine qQ ?_ (by intro c h; cases h)
 refine au [1,8] ?_
 exact qaL [D1] ((a253, c254), (a250, c251)) (.inl rfl) rfl (.cons 0 rfl .nil) (resL (rs := [.cell 4 184, .cell 5 39]) rfl (.cell (i := 2) rfl tf184 rfl rfl (fun _ => rfl) rfl (.cell (i := 1) rfl tf39 rfl rfl (fun _ => rfl) rfl ResOk.nil)) rfl) (fun h => by subst h; rfl) (fun h => by subst h; exact .nil) (fun h => by subst h; exact (.cons 1 rfl (.cons 0 rfl .nil)))
 intro t; exact t.elim
theorem qhS {F : Nat} {x1 : Int} {r : Int} (hm : qaV F x1 = some r) :
    Pure Tryz.prog 188 [.int .i64 x1] [] Unit (fun _ => .int .u64 r) (fun _ => []) (fun _ => []) := by
 refine qk Tryz.func188 rfl Tryz.ntmps188 rfl hm (fun w => ?_)
 refine au [25,3,2,4,5,0,1,2,4,3,25,12,32,5,3,27,12,25,12,32,6,5,26,9] ?_
 intro x2 e2
 refine qc (d := 2) (v := .int .u64 x2) rfl (by rw [e2] <;> rfl) ?_
 exact az [0,1,8,17]
set_option maxHeartbeats 4000000 in
theorem qeS {F : Nat} {g1 : Nat} {x2 : Int} {x3 : List Int} {a4 : Option Addr} {c5 : Nat} {x6 : Bool} {x7 : Int} {x8 : Int} {x9 : List (Int × Int)} {a10 : Option Addr} {c11 : Nat} {r : (Int × List Int × Bool)} (hm : jr F x2 x3 x6 x7 x8 x9 = some r) :
    PureM Tryz.prog 160 [.pointer (some ⟨g1, 0, none⟩), .int .i64 x7, .int .i64 x8, .slice a10 x9.length c11] [⟨g1, 179, [.int .i64 x2, .slice a4 x3.length c5, .bool x6]⟩] [Ro (eI .u8) 5 1 (.slice a4 x3.length c5) x3] [Sl eS189 2 (.slice a10 x9.length c11) x9] (Option Addr × Nat) (fun _ => .tuple #[]) (fun g => [⟨g1, 179, [.int .i64 r.1, .slice g.1 r.2.1.length g.2, .bool r.2.2]⟩]) (fun g => [Ro (eI .u8) 5 1 (.slice g.1 r.2.1.length g.2) r.2.1]) := by
 refine zi Tryz.func160 rfl Tryz.ntmps160 rfl hm (fun w => ?_)
 refine au [26,15,2,4,3,3,24,6,27,6] ?_
 rintro x12 e12 ⟨a13, c14⟩
 refine au [0,1,2,4,3,5,0,1,2,4,3,24,6,3,0,1,15] ?_
 refine qw (fun (((x73, x74, x75, x78, x79), (a76, c77)) : ((Int × Int × Int × List Int × Bool) × (Option Addr × Nat))) => ([(0, .pointer (some ⟨g1, 0, none⟩)), (2, .int .i64 x8), (8, .int .i64 x73), (16, .slice a10 x9.length c11), (17, .int .i64 (x9.length : Int)), (18, .int .i64 x74)], [⟨g1, 179, [.int .i64 x75, .slice a76 x78.length c77, .bool x79]⟩], [Ro (eI .u8) 5 1 (.slice a76 x78.length c77) x78], [Sl eS189 2 (.slice a10 x9.length c11) x9])) (fun k (s : ((Int × Int × Int × List Int × Bool) × (Option Addr × Nat))) => zA F x8 x9 k s.1) ((x7, 0, x12.1, x12.2.1, x12.2.2), (a13, c14)) F ?_
 intro k138
 rintro ⟨⟨x73, x74, x75, x78, x79⟩, ⟨a76, c77⟩⟩
 try dsimp only
 refine qJ (m' := vf F x8 x9 (zA F x8 x9 k138) x73 x74 x75 x78 x79) rfl ?_
 refine av [2,4,24,4,0,1,2,11] ?_ ?_
 intro _
 refine au [12,1,2,15,2,4,3,29,14] ?_
 intro x168 e168 b169 o170
 refine au [27,14,24,7] ?_
 intro g171
 refine au [5,24,2,0,1] ?_
 refine qe (fun (((x180, x183, x184), (a181, c182)) : ((Int × List Int × Bool) × (Option Addr × Nat))) => ([(0, .pointer (some ⟨g1, 0, none⟩)), (2, .int .i64 x8), (10, .pointer (some ⟨g171, 0, none⟩)), (16, .slice a10 x9.length c11), (17, .int .i64 (x9.length : Int)), (18, .int .i64 x74)], [⟨g1, 179, [.int .i64 x180, .slice a181 x183.length c182, .bool x184]⟩, ⟨g171, 189, [.int .i64 x168.1, .int .i64 x168.2]⟩], [Ro (eI .u8) 5 1 (.slice a181 x183.length c182) x183], [Sl eS189 2 (.slice a10 x9.length c11) x9], k6 F (zA F x8 x9 k138) x8 x74 x168 x180 x183 x184)) ?_ ?_
 refine av [2,4,3,24,13,0,1,11] ?_ ?_
 intro _
 refine au [4,3,9,18,3,25,5,32,7] ?_
 intro x188 e188 _
 refine au [25,12,27,6] ?_
 rintro x189 e189 ⟨a190, c191⟩
 refine au [0] ?_
 exact qb ((x189.1, x189.2.1, x189.2.2), (a190, c191))
 intro _
 refine au [4,3,9,18,3,25,5,25,5,27,6] ?_
 rintro x192 e192 ⟨a193, c194⟩
 refine au [0] ?_
 exact qb ((x192.1, x192.2.1, x192.2.2), (a193, c194))
 rintro ⟨⟨x180, x183, x184⟩, ⟨a181, c182⟩⟩
 try dsimp only
 refine au [2,4,3,9,25,6,3,25,5,27,6] ?_
 rintro x185 e185 ⟨a186, c187⟩
 refine au [0,1,4,9,25,6,9,25,6,19,25,5,5,0,24,5,1,4,19,3,0] ?_
 exact qp ((isub .i64 (iadd .i64 x168.1 x168.2) 1, iadd .i64 x74 1, x185.1, x185.2.1, x185.2.2), (a186, c187))
 intro _
 refine au [24,11,20,20,24,12] ?_
 exact q7 (a76, c77)
theorem qhE {F : Nat} {x1 : Int} {x2 : Int} {r : (Int × Int × Int)} (hm : qbZ F x1 x2 = some r) :
    Pure Tryz.prog 212 [.int .u64 x1, .int .i64 x2] [] Unit (fun _ => .tuple #[.int .i64 r.1, .int .u64 r.2.1, .int .u64 r.2.2]) (fun _ => []) (fun _ => []) := by
 refine qk Tryz.func212 rfl Tryz.ntmps212 rfl hm (fun w => ?_)
 refine au [24,10,2,4,5,5,5,0,1,2,4,3,19,29,10] ?_
 intro x3 e3 _
 refine au [25,5,3,26,1] ?_
 intro h4
 refine qjK rfl rfl rfl rfl h4 ?_
 refine au [5,0,1,2,26,12] ?_
 intro h11
 refine au [26,12] ?_
 intro h13
 refine qH mixed [] [] [] .nil qB 14 rfl ?_
 refine au [7,0,7,1,7,2,7,3] ?_
 refine qo 4 (.int .u64 (ishl .u64 1 (imul .i64 (iquo .i64 (isub .i64 x3 1) x2) x2))) rfl rfl rfl (qe4 rfl rfl h11) ?_
 refine au [7,5,7,6,7,7,7,8,7,9] ?_
 refine qo 10 (.int .u64 (ishl .u64 1 (iadd .i64 (imul .i64 (iquo .i64 (isub .i64 x3 1) x2) x2) x2))) rfl rfl rfl (qe4 rfl rfl h13) ?_
 refine au [7,11,7,12,7,13,24,9] ?_
 refine qQ ?_ (by intro c h; cases h)
 exact az [1,8,17]
theorem qgF {F : Nat} {x1 : Int} {r : (Int × Int)} (hm : qas F x1 = some r) :
    Pure Tryz.prog 214 [.int .u64 x1] [] Unit (fun _ => .tuple #[.int .i64 r.1, .int .u64 r.2]) (fun _ => []) (fun _ => []) := by
 refine qk Tryz.func214 rfl Tryz.ntmps214 rfl hm (fun w => ?_)
 refine au [25,3,2,4,5,5,0,1,2,4,3,25,5,29,10] ?_
 intro x2 e2 _
 refine au [5,0,1,2,26,12] ?_
 intro h6
 refine qH mixed [] [] [] .nil qB 7 rfl ?_
 refine au [7,0,7,1] ?_
 refine qo 2 (.int .u64 (ishl .u64 1 x2)) rfl rfl rfl (qe4 rfl rfl h6) ?_
 refine au [7,3,7,4,7,5,7,6,24,9] ?_
 refine qQ ?_ (by intro c h; cases h)
 exact az [1,8,17]
theorem qfa {F : Nat} {x1 : Int} {x2 : List Int} {a3 : Option Addr} {c4 : Nat} {x5 : Int} {x6 : Int} {r : (Int × List Int)} (hm : j4 F x1 x2 x5 x6 = some r) :
    Pure Tryz.prog 213 [.agg #[.int .i64 x1, .slice a3 x2.length c4], .int .u64 x5, .int .u64 x6] [Sl (eI .u8) 1 (.slice a3 x2.length c4) x2] (Option Addr × Nat) (fun g => .agg #[.int .i64 r.1, .slice g.1 r.2.length g.2]) (fun g => [Ro (eI .u8) 5 1 (.slice g.1 r.2.length g.2) r.2]) (fun _ => []) := by
 refine qk Tryz.func213 rfl Tryz.ntmps213 rfl hm (fun w => ?_)
 refine au [26,0,2,4,22] ?_
 intro g7
 refine au [24,7] ?_
 intro g8
 refine au [0,1,2,4,3,32,8] ?_
 intro x9 e9 _
 refine av [3,13,13,5,5,0,1,2,2,4,3,3,24,4,0,1,11] ?_ ?_
 intro _
 refine au [2,4,25,7,3,3,25,5,27,4] ?_
 rintro x14 e14 ⟨a15, c16⟩
 refine au [24,2,0,1,8,10] ?_
 exact qu (a15, c16) (resL (rs := [.cell 6 29]) rfl (.cell (i := 0) rfl tf29 rfl rfl (by simp) rfl ResOk.nil) rfl) (fun h => by subst h; exact (.cons 0 rfl .nil))
 intro _
 refine au [12,1,2,4,25,7,3,3,19,3,27,4] ?_
 rintro x17 e17 ⟨a18, c19⟩
 refine au [24,2,0,1,8] ?_
 exact qu (a18, c19) (resL (rs := [.cell 6 29]) rfl (.cell (i := 0) rfl tf29 rfl rfl (by simp) rfl ResOk.nil) rfl) (fun h => by subst h; exact (.cons 0 rfl .nil))
set_option maxHeartbeats 4000000 in
theorem qhD {F : Nat} {x1 : Int} {x2 : Int} {r : (Int × List Int × Int)} (hm : qbY F x1 x2 = some r) :
    Pure Tryz.prog 189 [.int .u64 x1, .int .i64 x2] [] (Option Addr × Nat) (fun g => .tuple #[.agg #[.int .i64 r.1, .slice g.1 r.2.1.length g.2], .int .i64 r.2.2]) (fun g => [Ro (eI .u8) 5 1 (.slice g.1 r.2.1.length g.2) r.2.1]) (fun _ => []) := by
 refine qk Tryz.func189 rfl Tryz.ntmps189 rfl hm (fun w => ?_)
 refine au [24,10,2,4,24,7] ?_
 intro g3
 refine au [5,0,1,2,2,4,3,24,4,3] ?_
 refine qq 3 (decide (x2 < 1)) [(0, .int .u64 x1), (1, .int .i64 x2), (4, .pointer (some ⟨g3, 0, none⟩)), (14, .bool ((decide (x2 < 1)) || (decide (16 < x2))))] (fun h7 => ?_) (fun h7 => ?_) ?_
 refine qa (os := _) rfl (qi (k := 11) rfl h7 ?_)
 refine au [6,6,23] ?_
 refine qc (d := 14) (v := .bool ((decide (x2 < 1)) || (decide (16 < x2)))) rfl (by rw [h7]; simp only [Bool.true_or]) ?_
 exact az [0,16]
 refine qa (os := _) rfl (qh (k := 11) rfl h7 ?_)
 refine au [3,24,14,24,0] ?_
 refine qc (d := 14) (v := .bool ((decide (x2 < 1)) || (decide (16 < x2)))) rfl (by rw [h7]; simp only [Bool.false_or]) ?_
 exact az [0,16]
 refine qa (os := _) rfl ?_
 refine au [3] ?_
 refine qq 3 ((decide (x2 < 1)) || (decide (16 < x2))) [(0, .int .u64 x1), (1, .int .i64 x2), (4, .pointer (some ⟨g3, 0, none⟩)), (18, .bool (((decide (x2 < 1)) || (decide (16 < x2))) || (decide (1099511627776 < x1))))] (fun h8 => ?_) (fun h8 => ?_) ?_
 refine qa (os := _) rfl (qi (k := 15) rfl h8 ?_)
 refine au [6,6,23] ?_
 refine qc (d := 18) (v := .bool (((decide (x2 < 1)) || (decide (16 < x2))) || (decide (1099511627776 < x1)))) rfl (by rw [h8]; simp only [Bool.true_or]) ?_
 exact az [0,16]
 refine qa (os := _) rfl (qh (k := 15) rfl h8 ?_)
 refine au [3,24,14,24,0] ?_
 refine qc (d := 18) (v := .bool (((decide (x2 < 1)) || (decide (16 < x2))) || (decide (1099511627776 < x1)))) rfl (by rw [h8]; simp only [Bool.false_or]) ?_
 exact az [0,16]
 refine qa (os := _) rfl ?_
 refine av [0,1,11] ?_ ?_
 intro _
 refine au [2,4] ?_
 refine ql (cells := [.int .i64 0, .slice none 0 0]) rfl st29 rfl (by kernel_rfl) rfl ?_
 refine au [24,2,5,0,1,8,10,25,11] ?_
 exact qu (none, 0) (resL (rs := [.cell 4 29, .tmp 5]) rfl (.cell (i := 0) rfl tf29 rfl rfl (by simp) rfl (.tmp rfl ResOk.nil)) rfl) (fun h => by subst h; exact (.cons 0 rfl .nil))
 intro _
 refine au [12,1,2,4,3,3] ?_
 refine qf qhE ?_
 intro x9 e9 _
 refine au [3,13,13,13,5,5,5,0,1,2,4,3,25,12,31,12] ?_
 rintro x10 e10 ⟨a11, c12⟩
 refine au [3,19,3,25,5,3,3,25,5] ?_
 refine qf qfa ?_
 rintro x13 e13 ⟨a14, c15⟩
 refine au [24,2,5,0,1,8] ?_
 exact qu (a14, c15) (resL (rs := [.cell 4 29, .tmp 5]) rfl (.cell (i := 0) rfl tf29 rfl rfl (by simp) rfl (.tmp rfl ResOk.nil)) rfl) (fun h => by subst h; exact (.cons 0 rfl .nil))
set_option maxHeartbeats 4000000 in
theorem qlt {F : Nat} {x1 : Int} {x2 : List Int} {a3 : Option Addr} {c4 : Nat} {x5 : List Int} {a6 : Option Addr} {c7 : Nat} {x8 : Int} {r : (Int × List Int × Bool)} (hm : qbc F x1 x2 x5 x8 = some r) :
    PureM Tryz.prog 161 [.agg #[.int .i64 x1, .slice a3 x2.length c4], .slice a6 x5.length c7, .int .i64 x8] [] [Ro (eI .u8) 5 1 (.slice a3 x2.length c4) x2] [Sl (eI .u64) 1 (.slice a6 x5.length c7) x5] (Option Addr × Nat) (fun g => .tuple #[.agg #[.int .i64 r.1, .slice g.1 r.2.1.length g.2], .bool r.2.2]) (fun _ => []) (fun g => [Ro (eI .u8) 5 1 (.slice g.1 r.2.1.length g.2) r.2.1]) := by
 refine zi Tryz.func161 rfl Tryz.ntmps161 rfl hm (fun w => ?_)
 refine au [26,0,2,4,22] ?_
 intro g9
 refine au [24,7] ?_
 intro g10
 refine au [5,0,1] ?_
 refine qe (fun (((x107, x110), (a108, c109)) : ((Int × List Int) × (Option Addr × Nat))) => ([(3, .pointer (some ⟨g9, 0, none⟩)), (6, .pointer (some ⟨g10, 0, none⟩))], [⟨g10, 29, [.int .i64 0, .slice none 0 0]⟩, ⟨g9, 29, [.int .i64 x107, .slice a108 x110.length c109]⟩], [Ro (eI .u8) 5 1 (.slice a108 x110.length c109) x110], [], qeA F x107 x110)) ?_ ?_
 refine au [2,4,3,24,6,3,0,1,15] ?_
 refine qw (fun (((x141, x142, x145), (a143, c144)) : ((Int × Int × List Int) × (Option Addr × Nat))) => ([(2, .int .i64 x8), (3, .pointer (some ⟨g9, 0, none⟩)), (6, .pointer (some ⟨g10, 0, none⟩)), (12, .slice a6 x5.length c7), (13, .int .i64 (x5.length : Int)), (14, .int .i64 x141)], [⟨g10, 29, [.int .i64 0, .slice none 0 0]⟩, ⟨g9, 29, [.int .i64 x142, .slice a143 x145.length c144]⟩], [Ro (eI .u8) 5 1 (.slice a143 x145.length c144) x145], [Sl (eI .u64) 1 (.slice a6 x5.length c7) x5])) (fun k (s : ((Int × Int × List Int) × (Option Addr × Nat))) => jG F x5 x8 k s.1) ((0, x1, x2), (a3, c4)) F ?_
 intro k176
 rintro ⟨⟨x141, x142, x145⟩, ⟨a143, c144⟩⟩
 try dsimp only
 refine qJ (m' := qbW F x5 x8 (jG F x5 x8 k176) x141 x142 x145) rfl ?_
 refine av [2,4,24,4,0,1,2,11] ?_ ?_
 intro _
 refine au [12,1,2,15,2,4] ?_
 refine qbf (j := 0) (qP .u64) (by decide) rfl UnF.u inferInstance rfl rfl rfl rfl ?_
 intro x192 e192 b193 o194
 refine au [25,13,5,0,1,2,4,3,3] ?_
 refine qf qhD ?_
 rintro x195 e195 ⟨a196, c197⟩
 refine au [3,13,13,24,7] ?_
 intro g198
 refine au [24,2,5,0,1,2,2,4,3,25,1,3] ?_
 refine qq 7 ((x195.2.2 : Int) != 0) [(2, .int .i64 x8), (3, .pointer (some ⟨g9, 0, none⟩)), (6, .pointer (some ⟨g10, 0, none⟩)), (12, .slice a6 x5.length c7), (13, .int .i64 (x5.length : Int)), (14, .int .i64 x141), (10, .pointer (some ⟨g198, 0, none⟩)), (33, .bool (((x195.2.2 : Int) != 0) || (decide (8192 < (iadd .i64 x142 x195.1)))))] (fun h201 => ?_) (fun h201 => ?_) ?_
 refine qa (os := _) rfl (qi (k := 26) rfl h201 ?_)
 refine au [6,6,6,6,6,6,23] ?_
 refine qc (d := 33) (v := .bool (((x195.2.2 : Int) != 0) || (decide (8192 < (iadd .i64 x142 x195.1))))) rfl (by rw [h201]; simp only [Bool.true_or]) ?_
 exact az [0,16]
 refine qa (os := _) rfl (qh (k := 26) rfl h201 ?_)
 refine au [9,26,11,9,18,19,24,14,24,0] ?_
 refine qc (d := 33) (v := .bool (((x195.2.2 : Int) != 0) || (decide (8192 < (iadd .i64 x142 x195.1))))) rfl (by rw [h201]; simp only [Bool.false_or]) ?_
 exact az [0,16]
 refine qa (os := _) rfl ?_
 refine av [0,1,11] ?_ ?_
 intro _
 refine au [2,4] ?_
 refine ql (cells := [.int .i64 0, .slice none 0 0]) rfl st29 rfl (by kernel_rfl) rfl ?_
 refine au [24,15,5,0,1,8,10,24,1,10,10,24,1,10,25,11] ?_
 exact yP (none, 0) (resL (rs := [.cell 6 29, .tmp 7]) rfl (.cell (i := 1) rfl tf29 rfl rfl (by simp) rfl (.tmp rfl ResOk.nil)) rfl) (hR := fun h => by subst h; exact (.cons 0 rfl .nil))
 intro _
 refine au [12,1,4,25,14,24,8,28,8] ?_
 rintro x202 e202 ⟨a203, c204⟩
 refine au [26,10,0,24,5,1,4,19,3,0] ?_
 exact qp ((iadd .i64 x141 1, x202.1, x202.2), (a203, c204))
 intro _
 refine au [24,11,20,20,24,12] ?_
 exact qb ((x142, x145), (a143, c144))
 rintro ⟨⟨x107, x110⟩, ⟨a108, c109⟩⟩
 try dsimp only
 refine au [2,4,25,7,24,2,5,0,1,8] ?_
 exact yP (a108, c109) (resL (rs := [.cell 6 29, .tmp 7]) rfl (.cell (i := 0) rfl tf29 rfl rfl (by simp) rfl (.tmp rfl ResOk.nil)) rfl) (hR := fun h => by subst h; exact (.cons 0 rfl .nil))
theorem qe8 {F : Nat} {g1 : Nat} {x2 : Int} {x3 : Bool} {x4 : Int} {r : (Int × Int × Bool)} (hm : j2 F x2 x3 x4 = some r) :
    PureM Tryz.prog 190 [.pointer (some ⟨g1, 0, none⟩), .int .i64 x4] [⟨g1, 248, [.int .i64 x2, .bool x3]⟩] [] [] Unit (fun _ => .int .u64 r.1) (fun _ => [⟨g1, 248, [.int .i64 r.2.1, .bool r.2.2]⟩]) (fun _ => []) := by
 refine zi Tryz.func190 rfl Tryz.ntmps190 rfl hm (fun w => ?_)
 refine au [24,10,2,4,5,0,1] ?_
 refine qe (fun ((x8, _) : (Int × Unit)) => ([(0, .pointer (some ⟨g1, 0, none⟩)), (1, .int .i64 x4), (4, .int .u64 x8)], [⟨g1, 248, [.int .i64 x2, .bool x3]⟩], [], [], qar F x4 x8)) ?_ ?_
 refine av [2,4,3,25,0,9,18,0,1,11] ?_ ?_
 intro _
 refine au [4,3,3,25,0,9,18,25,5,25,5,25,12,5,26,9] ?_
 intro x9 e9
 refine qc (d := 4) (v := .int .u64 x9) rfl (by rw [e9] <;> rfl) ?_
 refine au [0] ?_
 exact qb (x9, ())
 intro _
 refine au [4,3,3,25,0,9,18,25,5,32,7] ?_
 intro x10 e10 _
 refine au [5,0] ?_
 exact qb (x10, ())
 rintro ⟨x8, _⟩
 try dsimp only
 exact az [2,4,3,3,3,25,0,9,24,2,25,0,9,24,2,0,1,2,4,3,5,0,1,8,29,15]
set_option maxHeartbeats 4000000 in
theorem qlu {F : Nat} {x1 : List Int} {a2 : Option Addr} {c3 : Nat} {x4 : Int} {r : List Int} (hm : qcL F x1 x4 = some r) :
    Pure Tryz.prog 162 [.slice a2 x1.length c3, .int .i64 x4] [Sl (eI .i64) 1 (.slice a2 x1.length c3) x1] (Option Addr × Nat) (fun g => .slice g.1 r.length g.2) (fun g => [Ro (eI .u64) 119 1 (.slice g.1 r.length g.2) r]) (fun _ => []) := by
 refine qk Tryz.func162 rfl Tryz.ntmps162 rfl hm (fun w => ?_)
 refine au [24,10,2,4,5,0,1,2,4,3] ?_
 refine ql (cells := [.int .i64 x4, .bool false]) rfl st248 rfl (by kernel_rfl) rfl ?_
 refine au [22] ?_
 intro g5
 refine au [5,0,1,2,4,5,0,1] ?_
 refine qe (fun ((x75, (a73, c74)) : (List Int × (Option Addr × Nat))) => ([(6, .slice a73 x75.length c74)], [], [Ro (eI .u64) 119 1 (.slice a73 x75.length c74) x75], [], qdj F x75)) ?_ ?_
 refine au [2,4,3,24,6,3,0,1,15] ?_
 refine qcY Int (eI .u64) 119 1 (qw (fun (((x98, x99, x100, x101), (a96, c97)) : ((List Int × Int × Int × Bool) × (Option Addr × Nat))) => ([(5, .pointer (some ⟨g5, 0, none⟩)), (6, .slice a96 x98.length c97), (12, .slice a2 x1.length c3), (13, .int .i64 (x1.length : Int)), (14, .int .i64 x99)], [⟨g5, 248, [.int .i64 x100, .bool x101]⟩], [Ro (eI .u64) 119 1 (.slice a96 x98.length c97) x98], [Sl (eI .i64) 1 (.slice a2 x1.length c3) x1])) (fun k (s : ((List Int × Int × Int × Bool) × (Option Addr × Nat))) => jH F x1 k s.1) ((([] : List Int), 0, x4, false), (none, 0)) F ?_)
 intro k122
 rintro ⟨⟨x98, x99, x100, x101⟩, ⟨a96, c97⟩⟩
 try dsimp only
 refine qJ (m' := qbX F x1 (jH F x1 k122) x98 x99 x100 x101) rfl ?_
 refine av [2,4,24,4,0,1,2,11] ?_ ?_
 intro _
 refine au [12,1,2,15,2,4,26,6] ?_
 intro x133 e133 b134 o135
 refine au [25,13,5,0,1,4,3,3,3] ?_
 refine qz qe8 ?_
 intro x136 e136 _
 refine qv (vs := [.int .u64 x136.1]) (ys := ([x136.1] : List Int)) (qP .u64) (by decide) rfl Tryz.underlying191 tf119 rfl rfl rfl rfl rfl (by decide) (fun a137 c138 => kx 1 (qP .u64) rfl Tryz.underlying191 tf119 rfl rfl rfl rfl rfl (.inl ⟨0, _, rfl⟩) rfl rfl (fun x139 e139 a140 c141 => ?_))
 refine au [5,0,24,5,1,4,19,3,0] ?_
 exact qp ((x139, iadd .i64 x99 1, x136.2.1, x136.2.2), (a140, c141))
 intro _
 refine au [24,11,20,20,24,12] ?_
 exact qb (x98, (a96, c97))
 rintro ⟨x75, ⟨a73, c74⟩⟩
 try dsimp only
 refine au [2,4,3,5,0,1,8] ?_
 exact qy (a73, c74)
set_option maxHeartbeats 4000000 in
theorem qeR {F : Nat} {g1 : Nat} {x2 : Int} {x3 : List Int} {a4 : Option Addr} {c5 : Nat} {x6 : Bool} {x7 : Int} {x8 : List Int} {a9 : Option Addr} {c10 : Nat} {x11 : List Int} {a12 : Option Addr} {c13 : Nat} {x14 : Int} {x15 : Int} {x16 : Int} {r : (Int × List Int × Bool)} (hm : yW F x2 x3 x6 x7 x8 x11 x14 x15 x16 = some r) :
    PureM Tryz.prog 116 [.pointer (some ⟨g1, 0, none⟩), .int .i64 x7, .slice a9 x8.length c10, .slice a12 x11.length c13, .agg #[.int .i64 x14, .int .i64 x15, .int .i64 x16]] [⟨g1, 179, [.int .i64 x2, .slice a4 x3.length c5, .bool x6]⟩] [Ro (eI .u8) 5 1 (.slice a4 x3.length c5) x3] [Sl (eI .i64) 1 (.slice a9 x8.length c10) x8, Sl (eI .i64) 1 (.slice a12 x11.length c13) x11] (Option Addr × Nat) (fun _ => .tuple #[]) (fun g => [⟨g1, 179, [.int .i64 r.1, .slice g.1 r.2.1.length g.2, .bool r.2.2]⟩]) (fun g => [Ro (eI .u8) 5 1 (.slice g.1 r.2.1.length g.2) r.2.1]) := by
 refine zi Tryz.func116 rfl Tryz.ntmps116 rfl hm (fun w => ?_)
 refine au [30,0,2,4,22] ?_
 intro g17
 refine au [0,1,2,4,3,3,24,6,27,6] ?_
 rintro x18 e18 ⟨a19, c20⟩
 refine av [0,1,2,2,4,3,24,6,24,13,0,1,11] ?_ ?_
 intro _
 refine au [8,10] ?_
 exact q7 (a19, c20)
 intro _
 refine au [12,1,2,4,3,5,0,1] ?_
 refine qe (fun (((x33, x34, x37, x38), (a31, c32, a35, c36)) : ((List Int × Int × List Int × Bool) × (Option Addr × Nat × Option Addr × Nat))) => ([(0, .pointer (some ⟨g1, 0, none⟩)), (1, .int .i64 x7), (9, .pointer (some ⟨g17, 0, none⟩)), (10, .slice a31 x33.length c32)], [⟨g1, 179, [.int .i64 x34, .slice a35 x37.length c36, .bool x38]⟩, ⟨g17, 26, [.int .i64 x14, .int .i64 x15, .int .i64 x16]⟩], [Ro (eI .u8) 5 1 (.slice a35 x37.length c36) x37], [Sl (eI .i64) 1 (.slice a31 x33.length c32) x33], kX F x7 x15 x16 x33 x34 x37 x38)) ?_ ?_
 refine av [2,4,9,25,6,24,14,0,1,11] ?_ ?_
 intro _
 refine au [2,4,5,0,1,2,4,3,3] ?_
 refine qf qj8 ?_
 rintro x113 e113 ⟨⟨a114, c115⟩, ⟨a116, c117⟩⟩
 refine au [3,13,13,5,5,0,1,4,3,3] ?_
 refine qz qd7 ?_
 rintro x118 e118 ⟨a119, c120⟩
 refine au [0,32,9] ?_
 exact qb ((x113.2, x118.1, x118.2.1, x118.2.2), (a116, c117, a119, c120))
 intro _
 refine au [12] ?_
 exact qb ((x8, x18.1, x18.2.1, x18.2.2), (a9, c10, a19, c20))
 rintro ⟨⟨x33, x34, x37, x38⟩, ⟨a31, c32, a35, c36⟩⟩
 try dsimp only
 refine av [2,2,4,3,24,6,24,13,0,1,11] ?_ ?_
 intro _
 refine au [8,10] ?_
 exact q7 (a35, c36)
 intro _
 refine au [12,1] ?_
 refine qe (fun (((x51, x52, x55, x56), (a49, c50, a53, c54)) : ((List Int × Int × List Int × Bool) × (Option Addr × Nat × Option Addr × Nat))) => ([(0, .pointer (some ⟨g1, 0, none⟩)), (1, .int .i64 x7), (9, .pointer (some ⟨g17, 0, none⟩)), (10, .slice a49 x51.length c50)], [⟨g1, 179, [.int .i64 x52, .slice a53 x55.length c54, .bool x56]⟩, ⟨g17, 26, [.int .i64 x14, .int .i64 x15, .int .i64 x16]⟩], [Ro (eI .u8) 5 1 (.slice a53 x55.length c54) x55], [Sl (eI .i64) 1 (.slice a49 x51.length c50) x51], kY F x7 x16 x51 x52 x55 x56)) ?_ ?_
 refine av [2,4,9,25,6,24,14,0,1,11] ?_ ?_
 intro _
 refine au [2,4,5,0,1,2,4,3,9,25,6] ?_
 refine qz qlw ?_
 rintro x103 e103 ⟨⟨a104, c105⟩, ⟨a106, c107⟩⟩
 refine au [3,13,13,5,5,0,1,4,3,3,9,25,6,3] ?_
 refine qz qeS ?_
 rintro x108 e108 ⟨a109, c110⟩
 refine au [0,32,9] ?_
 exact qb ((x103.2, x108.1, x108.2.1, x108.2.2), (a106, c107, a109, c110))
 intro _
 refine au [12] ?_
 exact qb ((x33, x34, x37, x38), (a31, c32, a35, c36))
 rintro ⟨⟨x51, x52, x55, x56⟩, ⟨a49, c50, a53, c54⟩⟩
 try dsimp only
 refine qe (fun (((x76, x77, x80), (g75, a78, c79)) : ((Bool × Int × List Int) × (Nat × Option Addr × Nat))) => ([(0, .pointer (some ⟨g1, 0, none⟩)), (13, .pointer (some ⟨g75, 0, none⟩)), (14, .bool x76)], [⟨g1, 179, [.int .i64 x52, .slice a53 x55.length c54, .bool x56]⟩, ⟨g75, 29, [.int .i64 x77, .slice a78 x80.length c79]⟩], [Ro (eI .u8) 5 1 (.slice a53 x55.length c54) x55, Ro (eI .u8) 5 1 (.slice a78 x80.length c79) x80], [], kZ F x52 x55 x56 x76 x77 x80)) ?_ ?_
 refine qH mixed [] [⟨g1, 179, [.int .i64 x52, .slice a53 x55.length c54, .bool x56]⟩, ⟨g17, 26, [.int .i64 x14, .int .i64 x15, .int .i64 x16]⟩] [Sl (eI .i64) 1 (.slice a49 x51.length c50) x51] (.cons 0 rfl (.cons 0 rfl .nil)) (qW 0 rfl qB) 13 rfl (qo 0 (.agg #[.int .i64 0, .slice none 0 0]) rfl rfl rfl (qhz (cells := [.int .i64 0, .slice none 0 0]) st29 rfl (by kernel_rfl)) ?_)
 refine au [7,1,7,2,21,4,26,13,5] ?_
 refine qdR 3 10 rfl rfl (by kernel_rfl) rfl rfl ?_ ?_
 refine au [32,10] ?_
 rintro x85 e85 ⟨a86, c87⟩
 refine au [0,30,1] ?_
 refine qdR 6 10 rfl rfl (by kernel_rfl) rfl rfl ?_ ?_
 refine au [27,0,30,2] ?_
 rintro x88 e88 ⟨a89, c90⟩
 refine au [0,30,1,7,7,7,8,7,9,24,3,10,24,7] ?_
 intro g91
 refine au [0,26,4,24,3,11,24,2,0,26,4,7,12,24,9] ?_
 exact qQ (qb ((x88.2.2, x88.1, x88.2.1), (g91, a89, c90))) (by intro c h; cases h)
 refine qdT (m' := ((qbc F 0 ([] : List Int) x85 x16).bind fun x93 => kZ F x52 x55 x56 x93.2.2 x93.1 x93.2.1)) (rfl) ?_
 refine au [24,7] ?_
 intro g92
 refine au [0,26,4,24,3,6,27,0,30,2] ?_
 rintro x93 e93 ⟨a94, c95⟩
 refine au [0,26,4,7,7,7,8,7,9,24,3,11,24,2,0,26,4,7,12,24,9] ?_
 exact qQ (qb ((x93.2.2, x93.1, x93.2.1), (g92, a94, c95))) (by intro c h; cases h)
 refine qdT (m' := ((qcL F x51 x7).bind fun x97 => ((qbc F 0 ([] : List Int) x97 x16).bind fun x100 => kZ F x52 x55 x56 x100.2.2 x100.1 x100.2.1))) (rfl) ?_
 refine au [24,7] ?_
 intro g96
 refine au [0,26,4,24,3,3,32,10] ?_
 rintro x97 e97 ⟨a98, c99⟩
 refine au [0,26,4,24,3,6,27,0,30,2] ?_
 rintro x100 e100 ⟨a101, c102⟩
 refine au [0,26,4,7,7,7,8,7,9,24,3,11,24,2,0,26,4,7,12,24,9] ?_
 exact qQ (qb ((x100.2.2, x100.1, x100.2.1), (g96, a101, c102))) (by intro c h; cases h)
 rintro ⟨⟨x76, x77, x80⟩, ⟨g75, a78, c79⟩⟩
 try dsimp only
 refine au [2,4,3,3,25,0,9,18,3] ?_
 refine qq 3 x56 [(0, .pointer (some ⟨g1, 0, none⟩)), (13, .pointer (some ⟨g75, 0, none⟩)), (64, .pointer (some ⟨g1, 0, none⟩)), (72, .bool (x56 || (!x76)))] (fun h81 => ?_) (fun h81 => ?_) ?_
 refine qa (os := _) rfl (qi (k := 69) rfl h81 ?_)
 refine au [6,6,23] ?_
 refine qc (d := 72) (v := .bool (x56 || (!x76))) rfl (by rw [h81]; simp only [Bool.true_or]) ?_
 exact az [0,16]
 refine qa (os := _) rfl (qh (k := 69) rfl h81 ?_)
 refine au [3,25,4,24,0] ?_
 refine qc (d := 72) (v := .bool (x56 || (!x76))) rfl (by rw [h81]; simp only [Bool.false_or]) ?_
 exact az [0,16]
 refine qa (os := _) rfl ?_
 refine au [25,0,9,24,2,0,1,4,3,25,7,32,0] ?_
 rintro x82 e82 ⟨a83, c84⟩
 refine au [0] ?_
 exact q7 (a83, c84)
theorem qi1 {F : Nat} {x1 : Int} {x2 : List Int} {a3 : Option Addr} {c4 : Nat} {x5 : Int} {x6 : Int} {x7 : Int} {r : Int} (hm : qcv F x1 x2 x5 x6 x7 = some r) :
    Pure Tryz.prog 199 [.int .i64 x1, .slice a3 x2.length c4, .agg #[.int .i64 x5, .int .i64 x6, .int .i64 x7]] [Sl (eI .i64) 1 (.slice a3 x2.length c4) x2] Unit (fun _ => .int .i64 r) (fun _ => []) (fun _ => []) := by
 refine qk Tryz.func199 rfl Tryz.ntmps199 rfl hm (fun w => ?_)
 refine au [26,0,2,4,22] ?_
 intro g8
 refine au [5,0,1,2,2,4,3,24,4,3] ?_
 refine qq 3 (decide (x1 < 0)) [(1, .slice a3 x2.length c4), (5, .pointer (some ⟨g8, 0, none⟩)), (12, .bool ((decide (x1 < 0)) || (decide (1048576 < x1))))] (fun h11 => ?_) (fun h11 => ?_) ?_
 refine qa (os := _) rfl (qi (k := 9) rfl h11 ?_)
 refine au [6,6,23] ?_
 refine qc (d := 12) (v := .bool ((decide (x1 < 0)) || (decide (1048576 < x1)))) rfl (by rw [h11]; simp only [Bool.true_or]) ?_
 exact az [0,16]
 refine qa (os := _) rfl (qh (k := 9) rfl h11 ?_)
 refine au [3,24,14,24,0] ?_
 refine qc (d := 12) (v := .bool ((decide (x1 < 0)) || (decide (1048576 < x1)))) rfl (by rw [h11]; simp only [Bool.false_or]) ?_
 exact az [0,16]
 refine qa (os := _) rfl ?_
 refine av [0,1,11] ?_ ?_
 intro _
 exact az [2,4,5,0,1,8,10,17]
 intro _
 refine av [12,1,2,2,4,9,18,24,14,0,1,11] ?_ ?_
 intro _
 refine au [2,4,3,28,4] ?_
 intro x14 e14 _
 exact az [5,0,1,8,10,17]
 intro _
 exact az [12,1,2,4,5,0,1,8,17]
set_option maxHeartbeats 4000000 in
theorem qi0 {F : Nat} {x1 : Int} {x2 : List Int} {a3 : Option Addr} {c4 : Nat} {x5 : List Int} {a6 : Option Addr} {c7 : Nat} {x8 : Int} {x9 : Int} {x10 : Int} {r : (Int × List Int × Int)} (hm : qcu F x1 x2 x5 x8 x9 x10 = some r) :
    Pure Tryz.prog 172 [.int .i64 x1, .slice a3 x2.length c4, .slice a6 x5.length c7, .agg #[.int .i64 x8, .int .i64 x9, .int .i64 x10]] [Sl (eI .i64) 1 (.slice a3 x2.length c4) x2, Sl (eI .i64) 1 (.slice a6 x5.length c7) x5] (Option Addr × Nat) (fun g => .tuple #[.agg #[.int .i64 r.1, .slice g.1 r.2.1.length g.2], .int .i64 r.2.2]) (fun g => [Ro (eI .u8) 5 1 (.slice g.1 r.2.1.length g.2) r.2.1]) (fun _ => []) := by
 refine qk Tryz.func172 rfl Tryz.ntmps172 rfl hm (fun w => ?_)
 refine au [26,15,2,4,22] ?_
 intro g11
 refine au [24,7] ?_
 intro g12
 refine au [5,0,1,2,4,25,7,30,3] ?_
 intro x13 e13 _
 refine au [5,0,1] ?_
 refine qe (fun ((x19, _) : (Int × Unit)) => ([(0, .int .i64 x1), (1, .slice a3 x2.length c4), (2, .slice a6 x5.length c7), (7, .pointer (some ⟨g11, 0, none⟩)), (8, .pointer (some ⟨g12, 0, none⟩)), (10, .int .i64 x19)], [⟨g12, 29, [.int .i64 0, .slice none 0 0]⟩, ⟨g11, 26, [.int .i64 x8, .int .i64 x9, .int .i64 x10]⟩], [], [Sl (eI .i64) 1 (.slice a3 x2.length c4) x2, Sl (eI .i64) 1 (.slice a6 x5.length c7) x5], vn F x1 x2 x5 x8 x9 x10 x19)) ?_ ?_
 refine au [2,4,3,24,13,3] ?_
 refine qY 7 (fun ((x40, _) : (Bool × Unit)) => ([(0, .int .i64 x1), (1, .slice a3 x2.length c4), (2, .slice a6 x5.length c7), (7, .pointer (some ⟨g11, 0, none⟩)), (8, .pointer (some ⟨g12, 0, none⟩)), (10, .int .i64 x13), (23, .bool x40)], [⟨g12, 29, [.int .i64 0, .slice none 0 0]⟩, ⟨g11, 26, [.int .i64 x8, .int .i64 x9, .int .i64 x10]⟩], [], [Sl (eI .i64) 1 (.slice a3 x2.length c4) x2, Sl (eI .i64) 1 (.slice a6 x5.length c7) x5], jB F x1 x2 x5 x8 x9 x10 x13 x40)) ?_ ?_
 refine qa (os := _) rfl ?_
 refine av [25,9] ?_ ?_
 intro h38
 refine qi (k := 16) rfl h38 ?_
 refine au [3,24,4,3] ?_
 refine qq 3 (decide (x1 < 0)) [(0, .int .i64 x1), (1, .slice a3 x2.length c4), (2, .slice a6 x5.length c7), (7, .pointer (some ⟨g11, 0, none⟩)), (8, .pointer (some ⟨g12, 0, none⟩)), (10, .int .i64 x13), (16, .bool true), (22, .bool ((decide (x1 < 0)) || (decide (1048576 < x1))))] (fun h42 => ?_) (fun h42 => ?_) ?_
 refine qa (os := _) rfl (qi (k := 19) rfl h42 ?_)
 refine au [6,6,23] ?_
 refine qc (d := 22) (v := .bool ((decide (x1 < 0)) || (decide (1048576 < x1)))) rfl (by rw [h42]; simp only [Bool.true_or]) ?_
 exact az [0,16]
 refine qa (os := _) rfl (qh (k := 19) rfl h42 ?_)
 refine au [3,24,14,24,0] ?_
 refine qc (d := 22) (v := .bool ((decide (x1 < 0)) || (decide (1048576 < x1)))) rfl (by rw [h42]; simp only [Bool.false_or]) ?_
 exact az [0,16]
 refine qa (os := _) rfl ?_
 refine au [23,0] ?_
 exact qb (((decide (x1 < 0)) || (decide (1048576 < x1))), ())
 intro h38
 refine qh (k := 16) rfl h38 ?_
 refine au [6,6,6,6,6,6,24,0,0] ?_
 exact qb (false, ())
 rintro ⟨x40, _⟩
 try dsimp only
 refine qa (os := _) rfl ?_
 refine av [0,1,11] ?_ ?_
 intro _
 refine au [4,5,0] ?_
 exact qb ((3 : Int), ())
 intro _
 refine au [12] ?_
 exact qb (x13, ())
 rintro ⟨x19, _⟩
 try dsimp only
 refine qe (fun ((x22, _) : (Int × Unit)) => ([(0, .int .i64 x1), (1, .slice a3 x2.length c4), (2, .slice a6 x5.length c7), (7, .pointer (some ⟨g11, 0, none⟩)), (8, .pointer (some ⟨g12, 0, none⟩)), (10, .int .i64 x22)], [⟨g12, 29, [.int .i64 0, .slice none 0 0]⟩, ⟨g11, 26, [.int .i64 x8, .int .i64 x9, .int .i64 x10]⟩], [], [Sl (eI .i64) 1 (.slice a3 x2.length c4) x2, Sl (eI .i64) 1 (.slice a6 x5.length c7) x5], vo F x1 x2 x5 x8 x9 x10 x22)) ?_ ?_
 refine av [2,4,3,24,13,0,1,11] ?_ ?_
 intro _
 refine au [4,3,28,4] ?_
 intro x36 e36 _
 refine au [5,0] ?_
 exact qb (x36, ())
 intro _
 refine au [12] ?_
 exact qb (x19, ())
 rintro ⟨x22, _⟩
 try dsimp only
 refine qe (fun ((x25, _) : (Int × Unit)) => ([(0, .int .i64 x1), (1, .slice a3 x2.length c4), (2, .slice a6 x5.length c7), (7, .pointer (some ⟨g11, 0, none⟩)), (8, .pointer (some ⟨g12, 0, none⟩)), (10, .int .i64 x25)], [⟨g12, 29, [.int .i64 0, .slice none 0 0]⟩, ⟨g11, 26, [.int .i64 x8, .int .i64 x9, .int .i64 x10]⟩], [], [Sl (eI .i64) 1 (.slice a3 x2.length c4) x2, Sl (eI .i64) 1 (.slice a6 x5.length c7) x5], jA F x1 x2 x5 x8 x9 x10 x25)) ?_ ?_
 refine av [2,4,3,24,13,0,1,11] ?_ ?_
 intro _
 refine au [4,3,3,25,7] ?_
 refine qf qi1 ?_
 intro x34 e34 _
 refine au [5,0] ?_
 exact qb (x34, ())
 intro _
 refine au [12] ?_
 exact qb (x22, ())
 rintro ⟨x25, _⟩
 try dsimp only
 refine av [2,2,4,3,25,1,0,1,11] ?_ ?_
 intro _
 refine au [2,4] ?_
 refine ql (cells := [.int .i64 0, .slice none 0 0]) rfl st29 rfl (by kernel_rfl) rfl ?_
 refine au [3,24,2,5,0,1,8,10,25,11] ?_
 exact qu (none, 0) (resL (rs := [.cell 8 29, .tmp 9]) rfl (.cell (i := 0) rfl tf29 rfl rfl (by simp) rfl (.tmp rfl ResOk.nil)) rfl) (fun h => by subst h; exact (.cons 0 rfl .nil))
 intro _
 refine au [12,1,2,4] ?_
 refine ql (cells := [.int .i64 0, .slice none 0 0, .bool false]) rfl st179 rfl (by kernel_rfl) rfl ?_
 refine au [22] ?_
 intro g27
 refine au [5,0,1,2,4,3,3,3,3,25,14,27,0,32,11] ?_
 rintro x28 e28 ⟨a29, c30⟩
 refine av [0,1,2,2,4,3,25,0,9,18,0,1,11] ?_ ?_
 intro _
 refine au [2,4] ?_
 refine ql (cells := [.int .i64 0, .slice none 0 0]) rfl st29 rfl (by kernel_rfl) rfl ?_
 refine au [24,15,5,0,1,8,10,25,11] ?_
 exact qu (none, 0) (resL (rs := [.cell 8 29, .tmp 9]) rfl (.cell (i := 1) rfl tf29 rfl rfl (by simp) rfl (.tmp rfl ResOk.nil)) rfl) (fun h => by subst h; exact (.cons 0 rfl .nil))
 intro _
 refine au [12,1,2,4,3,25,0,9,24,8,24,15,5,0,1,8] ?_
 exact qu (a29, c30) (resL (rs := [.cell 8 29, .tmp 9]) rfl (.cell (i := 1) rfl tf29 rfl rfl (by simp) rfl (.tmp rfl ResOk.nil)) rfl) (fun h => by subst h; exact (.cons 0 rfl .nil))
set_option maxHeartbeats 4000000 in
theorem qj7 {F : Nat} {x1 : List (List Int)} {a2 : Option Addr} {c3 : Nat} {s3 : List (Option Addr × Nat)} {x4 : List Int} {a5 : Option Addr} {c6 : Nat} {x7 : Int} {x8 : Int} {x9 : Int} {x10 : Int} {r : (Int × Int × List Int × Bool)} (hm : qc6 F x1 x4 x7 x8 x9 x10 = some r) :
    Pure Tryz.prog 139 [.slice a2 x1.length c3, .slice a5 x4.length c6, .int .i64 x7, .agg #[.int .i64 x8, .int .i64 x9, .int .i64 x10]] [SlN eN39 iN39 1 (.slice a2 x1.length c3) x1 s3, Sl (eI .i64) 1 (.slice a5 x4.length c6) x4] (Option Addr × Nat) (fun g => .tuple #[.agg #[.int .i64 r.1, .int .i64 r.2.1, .slice g.1 r.2.2.1.length g.2], .bool r.2.2.2]) (fun g => [Ro (eI .u8) 5 1 (.slice g.1 r.2.2.1.length g.2) r.2.2.1]) (fun _ => []) := by
 refine qk Tryz.func139 rfl Tryz.ntmps139 rfl hm (fun w => ?_)
 refine au [26,15,2,4,22] ?_
 intro g11
 refine au [24,7] ?_
 intro g12
 refine au [5,0,1,2,4,3,24,6,5,0,1,2,4] ?_
 refine ql (cells := [.int .i64 0, .slice none 0 0]) rfl st29 rfl (by kernel_rfl) rfl ?_
 refine au [24,7] ?_
 intro g13
 refine au [24,2,0,1] ?_
 refine qe (fun (((x18, x21), (a19, c20)) : ((Int × List Int) × (Option Addr × Nat))) => ([(0, .slice a2 x1.length c3), (1, .slice a5 x4.length c6), (2, .int .i64 x7), (7, .pointer (some ⟨g11, 0, none⟩)), (8, .pointer (some ⟨g12, 0, none⟩)), (10, .int .i64 (x1.length : Int)), (11, .pointer (some ⟨g13, 0, none⟩))], [⟨g13, 29, [.int .i64 x18, .slice a19 x21.length c20]⟩, ⟨g12, 159, [.int .i64 0, .int .i64 0, .slice none 0 0]⟩, ⟨g11, 26, [.int .i64 x8, .int .i64 x9, .int .i64 x10]⟩], [Ro (eI .u8) 5 1 (.slice a19 x21.length c20) x21], [SlN eN39 iN39 1 (.slice a2 x1.length c3) x1 s3, Sl (eI .i64) 1 (.slice a5 x4.length c6) x4], qau F x1 x4 x7 x9 x10 x18 x21)) ?_ ?_
 refine av [2,4,9,26,11,24,14,0,1,11] ?_ ?_
 intro _
 refine au [4,3,25,12,31,15] ?_
 rintro x46 e46 ⟨a47, c48⟩
 refine au [24,2,0] ?_
 exact qb ((x46.1, x46.2), (a47, c48))
 intro _
 refine au [12,25,11] ?_
 exact qb (((0 : Int), ([] : List Int)), (none, 0))
 rintro ⟨⟨x18, x21⟩, ⟨a19, c20⟩⟩
 try dsimp only
 refine au [2,4,5,0,1] ?_
 refine qe (fun ((x29, (a27, c28)) : (List Int × (Option Addr × Nat))) => ([(1, .slice a5 x4.length c6), (2, .int .i64 x7), (7, .pointer (some ⟨g11, 0, none⟩)), (8, .pointer (some ⟨g12, 0, none⟩)), (10, .int .i64 (x1.length : Int)), (11, .pointer (some ⟨g13, 0, none⟩)), (12, .slice a27 x29.length c28)], [⟨g13, 29, [.int .i64 x18, .slice a19 x21.length c20]⟩, ⟨g12, 159, [.int .i64 0, .int .i64 0, .slice none 0 0]⟩, ⟨g11, 26, [.int .i64 x8, .int .i64 x9, .int .i64 x10]⟩], [Ro (eI .u8) 5 1 (.slice a19 x21.length c20) x21], [Sl (eI .i64) 1 (.slice a5 x4.length c6) x4, Sl (eI .i64) 1 (.slice a27 x29.length c28) x29], qav F x1 x4 x7 x9 x10 x18 x21 x29)) ?_ ?_
 refine av [2,4,3,24,14,0,1,11] ?_ ?_
 intro _
 refine au [4,3,3,3,25,5,27,8] ?_
 intro x41 e41 g44 b42 o43
 refine au [25,13,5,0] ?_
 exact qb (x41, (g44.1, g44.2))
 intro _
 refine au [12,25,10] ?_
 exact qhv 0 rfl (qb (([] : List Int), (none, 0)))
 rintro ⟨x29, ⟨a27, c28⟩⟩
 try dsimp only
 refine au [2,4,3,9,26,10,0,1,2,4,3,3,3,25,14] ?_
 refine qf qi0 ?_
 rintro x30 e30 ⟨a31, c32⟩
 refine au [3,13,13,24,7] ?_
 intro g33
 refine au [24,2,5,0,1,2,2,4,3,25,1,3] ?_
 refine qq 7 ((x30.2.2 : Int) != 0) [(2, .int .i64 x7), (8, .pointer (some ⟨g12, 0, none⟩)), (11, .pointer (some ⟨g13, 0, none⟩)), (13, .pointer (some ⟨g33, 0, none⟩)), (51, .bool (((x30.2.2 : Int) != 0) || (decide (8192 < (iadd .i64 x18 x30.1)))))] (fun h36 => ?_) (fun h36 => ?_) ?_
 refine qa (os := _) rfl (qi (k := 44) rfl h36 ?_)
 refine au [6,6,6,6,6,6,23] ?_
 refine qc (d := 51) (v := .bool (((x30.2.2 : Int) != 0) || (decide (8192 < (iadd .i64 x18 x30.1))))) rfl (by rw [h36]; simp only [Bool.true_or]) ?_
 exact az [0,16]
 refine qa (os := _) rfl (qh (k := 44) rfl h36 ?_)
 refine au [9,25,6,9,18,19,24,14,24,0] ?_
 refine qc (d := 51) (v := .bool (((x30.2.2 : Int) != 0) || (decide (8192 < (iadd .i64 x18 x30.1))))) rfl (by rw [h36]; simp only [Bool.false_or]) ?_
 exact az [0,16]
 refine qa (os := _) rfl ?_
 refine av [0,1,11] ?_ ?_
 intro _
 refine au [2,4] ?_
 refine ql (cells := [.int .i64 0, .int .i64 0, .slice none 0 0]) rfl st159 rfl (by kernel_rfl) rfl ?_
 refine au [26,10,5,0,1,8,10,25,11] ?_
 exact qu (none, 0) (resL (rs := [.cell 8 159, .tmp 9]) rfl (.cell (i := 2) rfl tf159 rfl rfl (by simp) rfl (.tmp rfl ResOk.nil)) rfl) (fun h => by subst h; exact (.cons 0 rfl .nil))
 intro _
 refine au [12,1,2,4,3,25,7,24,8,28,8] ?_
 rintro x37 e37 ⟨a38, c39⟩
 refine ql (cells := [.int .i64 x7, .int .i64 x37.1, .slice a38 x37.2.length c39]) rfl st159 rfl (by kernel_rfl) rfl ?_
 refine au [26,10,5,0,1,8] ?_
 exact qu (a38, c39) (resL (rs := [.cell 8 159, .tmp 9]) rfl (.cell (i := 2) rfl tf159 rfl rfl (by simp) rfl (.tmp rfl ResOk.nil)) rfl) (fun h => by subst h; exact (.cons 0 rfl .nil))
set_option maxHeartbeats 4000000 in
theorem qj6 {F : Nat} {x1 : List (List Int)} {a2 : Option Addr} {c3 : Nat} {s3 : List (Option Addr × Nat)} {x4 : List Int} {a5 : Option Addr} {c6 : Nat} {x7 : Int} {x8 : Int} {x9 : Int} {r : (Int × Int × List Int × Bool)} (hm : qc5 F x1 x4 x7 x8 x9 = some r) :
    Pure Tryz.prog 102 [.slice a2 x1.length c3, .slice a5 x4.length c6, .agg #[.int .i64 x7, .int .i64 x8, .int .i64 x9]] [SlN eN39 iN39 1 (.slice a2 x1.length c3) x1 s3, Sl (eI .i64) 1 (.slice a5 x4.length c6) x4] (Option Addr × Nat) (fun g => .tuple #[.agg #[.int .i64 r.1, .int .i64 r.2.1, .slice g.1 r.2.2.1.length g.2], .bool r.2.2.2]) (fun g => [Ro (eI .u8) 5 1 (.slice g.1 r.2.2.1.length g.2) r.2.2.1]) (fun _ => []) := by
 refine qk Tryz.func102 rfl Tryz.ntmps102 rfl hm (fun w => ?_)
 refine au [26,0,2,4,22] ?_
 intro g10
 refine au [24,7] ?_
 intro g11
 refine au [5,0,1] ?_
 refine qe (fun (((x96, x97, x98, x101), (a99, c100)) : ((Bool × Int × Int × List Int) × (Option Addr × Nat))) => ([(6, .pointer (some ⟨g11, 0, none⟩)), (7, .bool x96)], [⟨g11, 159, [.int .i64 x97, .int .i64 x98, .slice a99 x101.length c100]⟩], [Ro (eI .u8) 5 1 (.slice a99 x101.length c100) x101], [], qcO F x96 x97 x98 x101)) ?_ ?_
 refine au [2,4,9,25,6,3,24,6,27,13,19,3,0,1,15,30,4] ?_
 refine qw (fun (((x125, x126, x127, x128, x131), (a129, c130)) : ((Bool × Int × Int × Int × List Int) × (Option Addr × Nat))) => ([(0, .slice a2 x1.length c3), (1, .slice a5 x4.length c6), (5, .pointer (some ⟨g10, 0, none⟩)), (6, .pointer (some ⟨g11, 0, none⟩)), (7, .bool x125), (16, .int .i64 (iadd .i64 (imin x7 (x1.length : Int)) 1)), (17, .int .i64 x126)], [⟨g11, 159, [.int .i64 x127, .int .i64 x128, .slice a129 x131.length c130]⟩, ⟨g10, 26, [.int .i64 x7, .int .i64 x8, .int .i64 x9]⟩], [Ro (eI .u8) 5 1 (.slice a129 x131.length c130) x131], [SlN eN39 iN39 1 (.slice a2 x1.length c3) x1 s3, Sl (eI .i64) 1 (.slice a5 x4.length c6) x4])) (fun k (s : ((Bool × Int × Int × Int × List Int) × (Option Addr × Nat))) => zU F x1 x4 x7 x8 x9 k s.1) ((false, 0, 0, 0, ([] : List Int)), (none, 0)) F ?_
 intro k158
 rintro ⟨⟨x125, x126, x127, x128, x131⟩, ⟨a129, c130⟩⟩
 try dsimp only
 refine qJ (m' := qa0 F x1 x4 x7 x8 x9 (zU F x1 x4 x7 x8 x9 k158) x125 x126 x127 x128 x131) rfl ?_
 refine av [2,4,24,4,0,1,2,11] ?_ ?_
 intro _
 refine au [12,1] ?_
 refine qe (fun (((x169, x170, x171, x174), (a172, c173)) : ((Bool × Int × Int × List Int) × (Option Addr × Nat))) => ([(0, .slice a2 x1.length c3), (1, .slice a5 x4.length c6), (5, .pointer (some ⟨g10, 0, none⟩)), (6, .pointer (some ⟨g11, 0, none⟩)), (7, .bool x169), (16, .int .i64 (iadd .i64 (imin x7 (x1.length : Int)) 1)), (17, .int .i64 x126)], [⟨g11, 159, [.int .i64 x170, .int .i64 x171, .slice a172 x174.length c173]⟩, ⟨g10, 26, [.int .i64 x7, .int .i64 x8, .int .i64 x9]⟩], [Ro (eI .u8) 5 1 (.slice a172 x174.length c173) x174], [SlN eN39 iN39 1 (.slice a2 x1.length c3) x1 s3, Sl (eI .i64) 1 (.slice a5 x4.length c6) x4], yC F (zU F x1 x4 x7 x8 x9 k158) x126 x169 x170 x171 x174)) ?_ ?_
 refine au [15,2,4,3,5,0,1,2,4,3,3,3,25,7] ?_
 refine qf qj7 ?_
 rintro x175 e175 ⟨a176, c177⟩
 refine au [3,13,13,24,7] ?_
 intro g178
 refine au [24,2,5,0,1,2,4,3,3] ?_
 refine qY 12 (fun ((x181, _) : (Bool × Unit)) => ([(0, .slice a2 x1.length c3), (1, .slice a5 x4.length c6), (5, .pointer (some ⟨g10, 0, none⟩)), (6, .pointer (some ⟨g11, 0, none⟩)), (7, .bool x125), (9, .pointer (some ⟨g178, 0, none⟩)), (16, .int .i64 (iadd .i64 (imin x7 (x1.length : Int)) 1)), (17, .int .i64 x126), (41, .bool x181)], [⟨g178, 159, [.int .i64 x175.1, .int .i64 x175.2.1, .slice a176 x175.2.2.1.length c177]⟩, ⟨g11, 159, [.int .i64 x127, .int .i64 x128, .slice a129 x131.length c130]⟩, ⟨g10, 26, [.int .i64 x7, .int .i64 x8, .int .i64 x9]⟩], [Ro (eI .u8) 5 1 (.slice a176 x175.2.2.1.length c177) x175.2.2.1, Ro (eI .u8) 5 1 (.slice a129 x131.length c130) x131], [SlN eN39 iN39 1 (.slice a2 x1.length c3) x1 s3, Sl (eI .i64) 1 (.slice a5 x4.length c6) x4], qa1 F (zU F x1 x4 x7 x8 x9 k158) x125 x126 x127 x128 x131 x175 x181)) ?_ ?_
 refine qa (os := _) rfl ?_
 refine av [25,9] ?_ ?_
 intro h179
 refine qi (k := 29) rfl h179 ?_
 refine au [3,25,4,3] ?_
 refine qq 8 (!x125) [(0, .slice a2 x1.length c3), (1, .slice a5 x4.length c6), (5, .pointer (some ⟨g10, 0, none⟩)), (6, .pointer (some ⟨g11, 0, none⟩)), (7, .bool x125), (16, .int .i64 (iadd .i64 (imin x7 (x1.length : Int)) 1)), (17, .int .i64 x126), (9, .pointer (some ⟨g178, 0, none⟩)), (29, .bool true), (30, .bool x125), (31, .bool (!x125)), (32, .bool (!x125)), (40, .bool ((!x125) || (decide (x175.2.1 < x128))))] (fun h183 => ?_) (fun h183 => ?_) ?_
 refine qa (os := _) rfl (qi (k := 32) rfl h183 ?_)
 refine au [6,6,6,6,6,6,6,23] ?_
 refine qc (d := 40) (v := .bool ((!x125) || (decide (x175.2.1 < x128)))) rfl (by rw [h183]; simp only [Bool.true_or]) (qc (d := 32) (v := .bool (!x125)) rfl (by rw [h183] <;> rfl) ?_)
 exact az [0,16]
 refine qa (os := _) rfl (qh (k := 32) rfl h183 ?_)
 refine au [9,9,18,9,9,25,6,24,4,24,0] ?_
 refine qc (d := 40) (v := .bool ((!x125) || (decide (x175.2.1 < x128)))) rfl (by rw [h183]; simp only [Bool.false_or]) (qc (d := 32) (v := .bool (!x125)) rfl (by rw [h183] <;> rfl) ?_)
 exact az [0,16]
 refine qa (os := _) rfl ?_
 refine au [23,0] ?_
 exact qb (((!x125) || (decide (x175.2.1 < x128))), ())
 intro h179
 refine qh (k := 29) rfl h179 ?_
 refine au [6,6,6,6,6,6,6,6,6,6,6,24,0,0] ?_
 exact qb (false, ())
 rintro ⟨x181, _⟩
 try dsimp only
 refine qa (os := _) rfl ?_
 refine av [0,1,11] ?_ ?_
 intro _
 refine au [4,24,8,24,15,5,0,24,5] ?_
 exact qb ((true, x175.1, x175.2.1, x175.2.2.1), (a176, c177))
 intro _
 refine au [12,24,5] ?_
 exact qb ((x125, x127, x128, x131), (a129, c130))
 rintro ⟨⟨x169, x170, x171, x174⟩, ⟨a172, c173⟩⟩
 try dsimp only
 refine au [4,19,3,0] ?_
 exact qp ((x169, iadd .i64 x126 1, x170, x171, x174), (a172, c173))
 intro _
 refine au [24,11,20,20,24,12] ?_
 exact qb ((x125, x127, x128, x131), (a129, c130))
 rintro ⟨⟨x96, x97, x98, x101⟩, ⟨a99, c100⟩⟩
 try dsimp only
 refine au [2,4,24,8,3,24,2,5,0,1,8] ?_
 exact qu (a99, c100) (resL (rs := [.cell 6 159, .tmp 7]) rfl (.cell (i := 0) rfl tf159 rfl rfl (by simp) rfl (.tmp rfl ResOk.nil)) rfl) (fun h => by subst h; exact (.cons 0 rfl .nil))
set_option maxHeartbeats 4000000 in
theorem qeL {F : Nat} {g1 : Nat} {x2 : Int} {x3 : Int} {x4 : Int} {x5 : Int} {x6 : Int} {x7 : List Int} {a8 : Option Addr} {c9 : Nat} {x10 : List Int} {a11 : Option Addr} {c12 : Nat} {x13 : List Int} {a14 : Option Addr} {c15 : Nat} {x16 : List (List Int)} {a17 : Option Addr} {c18 : Nat} {s18 : List (Option Addr × Nat)} {r : (Bool × Int × Int × Int × Int × Int × List Int × List Int × List Int)} (hm : qbd F x2 x3 x4 x5 x6 x7 x10 x13 x16 = some r) :
    PureM Tryz.prog 79 [.pointer (some ⟨g1, 0, none⟩), .agg #[.slice a17 x16.length c18]] [⟨g1, 104, [.int .i64 x2, .int .i64 x3, .int .i64 x4, .int .i64 x5, .int .i64 x6, .slice a8 x7.length c9, .slice a11 x10.length c12, .slice a14 x13.length c15]⟩] [Ro (eI .u8) 5 1 (.slice a8 x7.length c9) x7, Ro (eI .i64) 3 1 (.slice a11 x10.length c12) x10, Ro (eI .i64) 3 1 (.slice a14 x13.length c15) x13] [SlN eN39 iN39 1 (.slice a17 x16.length c18) x16 s18] ((Option Addr × Nat) × (Option Addr × Nat) × (Option Addr × Nat)) (fun _ => .bool r.1) (fun g => [⟨g1, 104, [.int .i64 r.2.1, .int .i64 r.2.2.1, .int .i64 r.2.2.2.1, .int .i64 r.2.2.2.2.1, .int .i64 r.2.2.2.2.2.1, .slice g.1.1 r.2.2.2.2.2.2.1.length g.1.2, .slice g.2.1.1 r.2.2.2.2.2.2.2.1.length g.2.1.2, .slice g.2.2.1 r.2.2.2.2.2.2.2.2.length g.2.2.2]⟩]) (fun g => [Ro (eI .u8) 5 1 (.slice g.1.1 r.2.2.2.2.2.2.1.length g.1.2) r.2.2.2.2.2.2.1, Ro (eI .i64) 3 1 (.slice g.2.1.1 r.2.2.2.2.2.2.2.1.length g.2.1.2) r.2.2.2.2.2.2.2.1, Ro (eI .i64) 3 1 (.slice g.2.2.1 r.2.2.2.2.2.2.2.2.length g.2.2.2) r.2.2.2.2.2.2.2.2]) := by
 refine zi Tryz.func79 rfl Tryz.ntmps79 rfl hm (fun w => ?_)
 refine au [24,10,2,4,22] ?_
 intro g19
 refine au [5,0,1] ?_
 refine qe (fun (((x710, x713, x716, x719), (a711, c712, a714, c715, a717, c718)) : ((Int × List Int × List Int × List Int) × (Option Addr × Nat × Option Addr × Nat × Option Addr × Nat))) => ([], [⟨g1, 104, [.int .i64 x2, .int .i64 x3, .int .i64 x4, .int .i64 x5, .int .i64 x710, .slice a711 x713.length c712, .slice a714 x716.length c715, .slice a717 x719.length c718]⟩], [Ro (eI .u8) 5 1 (.slice a711 x713.length c712) x713, Ro (eI .i64) 3 1 (.slice a714 x716.length c715) x716, Ro (eI .i64) 3 1 (.slice a717 x719.length c718) x719], [], jl F x2 x3 x4 x5 x710 x713 x716 x719)) ?_ ?_
 refine au [2,4,9,18,24,6,3,0,1,15] ?_
 refine qw (fun (((x946, x947, x950, x953, x956), (a948, c949, a951, c952, a954, c955)) : ((Int × Int × List Int × List Int × List Int) × (Option Addr × Nat × Option Addr × Nat × Option Addr × Nat))) => ([(0, .pointer (some ⟨g1, 0, none⟩)), (3, .pointer (some ⟨g19, 0, none⟩)), (10, .slice a17 x16.length c18), (11, .int .i64 (x16.length : Int)), (12, .int .i64 x946)], [⟨g19, 24, [.slice a17 x16.length c18]⟩, ⟨g1, 104, [.int .i64 x2, .int .i64 x3, .int .i64 x4, .int .i64 x5, .int .i64 x947, .slice a948 x950.length c949, .slice a951 x953.length c952, .slice a954 x956.length c955]⟩], [Ro (eI .u8) 5 1 (.slice a948 x950.length c949) x950, Ro (eI .i64) 3 1 (.slice a951 x953.length c952) x953, Ro (eI .i64) 3 1 (.slice a954 x956.length c955) x956], [SlN eN39 iN39 1 (.slice a17 x16.length c18) x16 s18])) (fun k (s : ((Int × Int × List Int × List Int × List Int) × (Option Addr × Nat × Option Addr × Nat × Option Addr × Nat))) => qI F x2 x3 x4 x5 x16 k s.1) ((0, x6, x7, x10, x13), (a8, c9, a11, c12, a14, c15)) F ?_
 intro k1183
 rintro ⟨⟨x946, x947, x950, x953, x956⟩, ⟨a948, c949, a951, c952, a954, c955⟩⟩
 try dsimp only
 refine qJ (m' := yG F x2 x3 x4 x5 x16 (qI F x2 x3 x4 x5 x16 k1183) x946 x947 x950 x953 x956) rfl ?_
 refine av [2,4,24,4,0,1,2,11] ?_ ?_
 intro _
 refine au [12,1,2,15,2,4,3,27,8] ?_
 intro x1297 e1297 g1300 b1298 o1299
 refine au [25,13,5,5,0,1] ?_
 refine qe (fun (((x1316, x1317, x1318, x1321), (g1315, a1319, c1320)) : ((Bool × Int × Int × List Int) × (Nat × Option Addr × Nat))) => ([(0, .pointer (some ⟨g1, 0, none⟩)), (3, .pointer (some ⟨g19, 0, none⟩)), (7, .pointer (some ⟨g1315, 0, none⟩)), (8, .bool x1316), (10, .slice a17 x16.length c18), (11, .int .i64 (x16.length : Int)), (12, .int .i64 x946)], [⟨g19, 24, [.slice a17 x16.length c18]⟩, ⟨g1, 104, [.int .i64 x2, .int .i64 x3, .int .i64 x4, .int .i64 x5, .int .i64 x947, .slice a948 x950.length c949, .slice a951 x953.length c952, .slice a954 x956.length c955]⟩, ⟨g1315, 159, [.int .i64 x1317, .int .i64 x1318, .slice a1319 x1321.length c1320]⟩], [Ro (eI .u8) 5 1 (.slice a948 x950.length c949) x950, Ro (eI .i64) 3 1 (.slice a951 x953.length c952) x953, Ro (eI .i64) 3 1 (.slice a954 x956.length c955) x956, Ro (eI .u8) 5 1 (.slice a1319 x1321.length c1320) x1321], [SlN eN39 iN39 1 (.slice a17 x16.length c18) x16 s18], yH F (qI F x2 x3 x4 x5 x16 k1183) x2 x3 x4 x5 x946 x947 x950 x953 x956 x1316 x1317 x1318 x1321)) ?_ ?_
 refine qok 2 km rfl ?_
 intro x1395 e1395 a1396 c1397 g1398 h1399 h1400
 refine qH mixed [] [⟨g19, 24, [.slice a17 x16.length c18]⟩, ⟨g1, 104, [.int .i64 x2, .int .i64 x3, .int .i64 x4, .int .i64 x5, .int .i64 x947, .slice a948 x950.length c949, .slice a951 x953.length c952, .slice a954 x956.length c955]⟩] [SlN eN39 iN39 1 (.slice a1396 x1395.length c1397) x1395 g1398, qR b1298 o1299 (eN39 (x1297, g1300)), Sl (eI .i64) 1 (.slice g1300.1 x1297.length g1300.2) x1297, SlN eN39 iN39 1 (.slice a17 x16.length c18) x16 s18] (.cons 0 rfl (.cons 0 rfl .nil)) (qW 0 rfl (qW 1 rfl (qW 2 rfl (qW 3 rfl qB)))) 17 rfl ?_
 refine au [21,0,25,2,1,7,2] ?_
 refine qo 3 (.slice a1396 x1395.length c1397) rfl rfl rfl (qs7 Tryz.underlying22 tf39 rfl rfl rfl e1395 h1400 h1399) ?_
 refine au [7,4,7,5,7,6,21,7,21,8] ?_
 refine kN 9 (.agg #[.int .i64 x3, .int .i64 x4, .int .i64 x5]) rfl rfl rfl (zI (i := 1) rfl tf26 rfl rfl (by simp) rfl) (qdR 10 14 rfl rfl (by kernel_rfl) rfl rfl ?_ ?_)
 refine au [32,12] ?_
 rintro x1401 e1401 ⟨a1402, c1403⟩
 refine au [0] ?_
 refine kj (.cons 0 rfl (.cons 0 rfl .nil)) (qW 0 rfl (qW 1 rfl (qW 2 rfl (qW 3 rfl qB)))) ?_
 refine au [7,11,7,12,7,13,24,3,14,24,7] ?_
 intro g1404
 refine au [0,28,5,24,3,15,24,2,0,28,5,7,16,24,9] ?_
 exact qQ (qb ((x1401.2.2.2, x1401.1, x1401.2.1, x1401.2.2.1), (g1404, a1402, c1403))) (by intro c h; cases h)
 refine qdT (m' := ((qc5 F x1395 x1297 x3 x4 x5).bind fun x1406 => yH F (qI F x2 x3 x4 x5 x16 k1183) x2 x3 x4 x5 x946 x947 x950 x953 x956 x1406.2.2.2 x1406.1 x1406.2.1 x1406.2.2.1)) (rfl) ?_
 refine au [24,7] ?_
 intro g1405
 refine au [0,28,5,24,3,10,32,12] ?_
 rintro x1406 e1406 ⟨a1407, c1408⟩
 refine au [0,28,5,7,11,7,12,7,13,24,3,15,24,2,0,28,5,7,16,24,9] ?_
 exact qQ (qb ((x1406.2.2.2, x1406.1, x1406.2.1, x1406.2.2.1), (g1405, a1407, c1408))) (by intro c h; cases h)
 rintro ⟨⟨x1316, x1317, x1318, x1321⟩, ⟨g1315, a1319, c1320⟩⟩
 try dsimp only
 refine au [2] ?_
 refine qe (fun ((x1327, _) : (Bool × Unit)) => ([(0, .pointer (some ⟨g1, 0, none⟩)), (3, .pointer (some ⟨g19, 0, none⟩)), (7, .pointer (some ⟨g1315, 0, none⟩)), (10, .slice a17 x16.length c18), (11, .int .i64 (x16.length : Int)), (12, .int .i64 x946), (45, .bool x1327)], [⟨g19, 24, [.slice a17 x16.length c18]⟩, ⟨g1, 104, [.int .i64 x2, .int .i64 x3, .int .i64 x4, .int .i64 x5, .int .i64 x947, .slice a948 x950.length c949, .slice a951 x953.length c952, .slice a954 x956.length c955]⟩, ⟨g1315, 159, [.int .i64 x1317, .int .i64 x1318, .slice a1319 x1321.length c1320]⟩], [Ro (eI .u8) 5 1 (.slice a948 x950.length c949) x950, Ro (eI .i64) 3 1 (.slice a951 x953.length c952) x953, Ro (eI .i64) 3 1 (.slice a954 x956.length c955) x956, Ro (eI .u8) 5 1 (.slice a1319 x1321.length c1320) x1321], [SlN eN39 iN39 1 (.slice a17 x16.length c18) x16 s18], kA F (qI F x2 x3 x4 x5 x16 k1183) x2 x3 x4 x5 x946 x947 x950 x953 x956 x1317 x1318 x1321 x1327)) ?_ ?_
 refine av [28,3] ?_ ?_
 intro h1394
 refine qH mixed [] [⟨g19, 24, [.slice a17 x16.length c18]⟩, ⟨g1, 104, [.int .i64 x2, .int .i64 x3, .int .i64 x4, .int .i64 x5, .int .i64 x947, .slice a948 x950.length c949, .slice a951 x953.length c952, .slice a954 x956.length c955]⟩, ⟨g1315, 159, [.int .i64 x1317, .int .i64 x1318, .slice a1319 x1321.length c1320]⟩] [SlN eN39 iN39 1 (.slice a17 x16.length c18) x16 s18] (.cons 0 rfl (.cons 0 rfl (.cons 0 rfl .nil))) (qW 0 rfl qB) 15 rfl ?_
 refine au [7,0,7,1,7,2] ?_
 refine qn (d := 33) (v := .bool true) rfl (by rw [h1394] <;> rfl) ?_
 refine au [14,3,14,4,14,5,14,6,14,7,14,8,14,9,14,10,14,11,14,12,14,13,7,14,24,9] ?_
 exact qQ (qb (true, ())) (by intro c h; cases h)
 intro h1394
 refine qH mixed [] [⟨g19, 24, [.slice a17 x16.length c18]⟩, ⟨g1, 104, [.int .i64 x2, .int .i64 x3, .int .i64 x4, .int .i64 x5, .int .i64 x947, .slice a948 x950.length c949, .slice a951 x953.length c952, .slice a954 x956.length c955]⟩, ⟨g1315, 159, [.int .i64 x1317, .int .i64 x1318, .slice a1319 x1321.length c1320]⟩] [SlN eN39 iN39 1 (.slice a17 x16.length c18) x16 s18] (.cons 0 rfl (.cons 0 rfl (.cons 0 rfl .nil))) (qW 0 rfl qB) 15 rfl ?_
 refine au [7,0,7,1,7,2] ?_
 refine qn (d := 33) (v := .bool false) rfl (by rw [h1394] <;> rfl) ?_
 refine au [7,3,7,4,21,5,21,6,21,7,26,13,8,21,9,21,10,29,13,11,7,12,7,13,7,14,24,9] ?_
 exact qQ (qb ((decide (8192 < (iadd .i64 x947 x1318))), ())) (by intro c h; cases h)
 rintro ⟨x1327, _⟩
 try dsimp only
 refine av [11] ?_ ?_
 intro _
 refine au [2,4,5,0,1,8,10,24,1,10,10,24,1,10] ?_
 exact q7 ((a948, c949), (a951, c952), (a954, c955))
 intro _
 refine au [12,1] ?_
 refine qe (fun (((x1358, x1361), (a1356, c1357, a1359, c1360)) : ((List Int × List Int) × (Option Addr × Nat × Option Addr × Nat))) => ([(0, .pointer (some ⟨g1, 0, none⟩)), (3, .pointer (some ⟨g19, 0, none⟩)), (7, .pointer (some ⟨g1315, 0, none⟩)), (10, .slice a17 x16.length c18), (11, .int .i64 (x16.length : Int)), (12, .int .i64 x946)], [⟨g19, 24, [.slice a17 x16.length c18]⟩, ⟨g1, 104, [.int .i64 x2, .int .i64 x3, .int .i64 x4, .int .i64 x5, .int .i64 x947, .slice a948 x950.length c949, .slice a1356 x1358.length c1357, .slice a1359 x1361.length c1360]⟩, ⟨g1315, 159, [.int .i64 x1317, .int .i64 x1318, .slice a1319 x1321.length c1320]⟩], [Ro (eI .u8) 5 1 (.slice a948 x950.length c949) x950, Ro (eI .i64) 3 1 (.slice a1356 x1358.length c1357) x1358, Ro (eI .i64) 3 1 (.slice a1359 x1361.length c1360) x1361, Ro (eI .u8) 5 1 (.slice a1319 x1321.length c1320) x1321], [SlN eN39 iN39 1 (.slice a17 x16.length c18) x16 s18], kB F (qI F x2 x3 x4 x5 x16 k1183) x946 x947 x950 x1318 x1321 x1358 x1361)) ?_ ?_
 refine qH mixed [24, 27] [⟨g19, 24, [.slice a17 x16.length c18]⟩, ⟨g1315, 159, [.int .i64 x1317, .int .i64 x1318, .slice a1319 x1321.length c1320]⟩] [SlN eN39 iN39 1 (.slice a17 x16.length c18) x16 s18, (BlkD.is ⟨g1, 104, [.int .i64 x2, .int .i64 x3, .int .i64 x4, .int .i64 x5, .int .i64 x947, .slice a948 x950.length c949, .slice a951 x953.length c952, .slice a954 x956.length c955]⟩)] (.cons 0 rfl (.cons 1 rfl .nil)) (qW 0 rfl (qgp 1 rfl qB)) 28 rfl ?_
 refine au [7,0,7,1,7,2,7,3,21,4] ?_
 refine zk 5 (.slice a951 x953.length c952) [[24], [27]] rfl rfl rfl (vJ (j := 1) rfl tf39 rfl rfl (fun _ => rfl) rfl) ?_
 refine au [21,6,26,13,7,7,10,7,11,21,12] ?_
 refine zk 13 (.slice a954 x956.length c955) [[24], [27]] rfl rfl rfl (vJ (j := 1) rfl tf39 rfl rfl (fun _ => rfl) rfl) ?_
 refine au [7,14,7,15,21,16,21,17,21,18] ?_
 refine zk 19 (.int .i64 x947) [[24], [27]] rfl rfl rfl (vJ (j := 1) rfl tf3 rfl rfl (fun _ => rfl) rfl) (qdR 8 20 rfl rfl (by kernel_rfl) rfl rfl ?_ ?_)
 refine qv (vs := [.int .i64 x1317]) (ys := ([x1317] : List Int)) (qP .i64) (by decide) rfl Tryz.underlying39 tf3 rfl rfl rfl rfl rfl (by decide) (fun a1365 c1366 => ?_)
 refine au [0,26,7] ?_
 refine qdR 9 20 rfl rfl (by kernel_rfl) rfl rfl ?_ ?_
 refine kx 2 (qP .i64) rfl Tryz.underlying39 tf3 rfl rfl rfl rfl rfl (.inl ⟨0, _, rfl⟩) rfl rfl (fun x1367 e1367 a1368 c1369 => ?_)
 refine au [0,26,7,24,3,20] ?_
 refine qv (vs := [.int .i64 x947]) (ys := ([x947] : List Int)) (qP .i64) (by decide) rfl Tryz.underlying39 tf3 rfl rfl rfl rfl rfl (by decide) (fun a1370 c1371 => ?_)
 refine au [0,26,7,24,3,21] ?_
 refine kx 4 (qP .i64) rfl Tryz.underlying39 tf3 rfl rfl rfl rfl rfl (.inl ⟨0, _, rfl⟩) rfl rfl (fun x1372 e1372 a1373 c1374 => ?_)
 refine au [0,26,7,7,22,21,23,24,3,24,24,15,0,27,15,7,25,21,26,24,3,27,24,15,0,27,15,24,9] ?_
 exact qQ (qb ((x1367, x1372), (a1368, c1369, a1373, c1374))) (by intro c h; cases h)
 refine qdT (m' := ((app 8796093022208 x953 ([x1317] : List Int)).bind fun x1377 => ((app 8796093022208 x956 ([x947] : List Int)).bind fun x1380 => kB F (qI F x2 x3 x4 x5 x16 k1183) x946 x947 x950 x1318 x1321 x1377 x1380))) (rfl) (qv (vs := [.int .i64 x947]) (ys := ([x947] : List Int)) (qP .i64) (by decide) rfl Tryz.underlying39 tf3 rfl rfl rfl rfl rfl (by decide) (fun a1375 c1376 => ?_))
 refine au [0,26,7,24,3,9] ?_
 refine kx 3 (qP .i64) rfl Tryz.underlying39 tf3 rfl rfl rfl rfl rfl (.inl ⟨1, _, rfl⟩) rfl rfl (fun x1377 e1377 a1378 c1379 => ?_)
 refine au [0,26,7,24,3,21] ?_
 refine kx 4 (qP .i64) rfl Tryz.underlying39 tf3 rfl rfl rfl rfl rfl (.inl ⟨1, _, rfl⟩) rfl rfl (fun x1380 e1380 a1381 c1382 => ?_)
 refine au [0,26,7,7,22,21,23,24,3,24,24,15,0,27,15,7,25,21,26,24,3,27,24,15,0,27,15,24,9] ?_
 exact qQ (qb ((x1377, x1380), (a1378, c1379, a1381, c1382))) (by intro c h; cases h)
 refine qdT (m' := ((app 8796093022208 x953 ([x1317] : List Int)).bind fun x1387 => ((app 8796093022208 x956 ([x947] : List Int)).bind fun x1390 => kB F (qI F x2 x3 x4 x5 x16 k1183) x946 x947 x950 x1318 x1321 x1387 x1390))) (rfl) (qv (vs := [.int .i64 x947]) (ys := ([x947] : List Int)) (qP .i64) (by decide) rfl Tryz.underlying39 tf3 rfl rfl rfl rfl rfl (by decide) (fun a1383 c1384 => ?_))
 refine au [0,26,7,24,3,8] ?_
 refine qv (vs := [.int .i64 x1317]) (ys := ([x1317] : List Int)) (qP .i64) (by decide) rfl Tryz.underlying39 tf3 rfl rfl rfl rfl rfl (by decide) (fun a1385 c1386 => ?_)
 refine au [0,26,7,24,3,9] ?_
 refine kx 3 (qP .i64) rfl Tryz.underlying39 tf3 rfl rfl rfl rfl rfl (.inl ⟨0, _, rfl⟩) rfl rfl (fun x1387 e1387 a1388 c1389 => ?_)
 refine au [0,26,7,24,3,21] ?_
 refine kx 4 (qP .i64) rfl Tryz.underlying39 tf3 rfl rfl rfl rfl rfl (.inl ⟨2, _, rfl⟩) rfl rfl (fun x1390 e1390 a1391 c1392 => ?_)
 refine au [0,26,7,7,22,21,23,24,3,24,24,15,0,27,15,7,25,21,26,24,3,27,24,15,0,27,15,24,9] ?_
 exact qQ (qb ((x1387, x1390), (a1388, c1389, a1391, c1392))) (by intro c h; cases h)
 rintro ⟨⟨x1358, x1361⟩, ⟨a1356, c1357, a1359, c1360⟩⟩
 try dsimp only
 refine qH mixed [12] [⟨g19, 24, [.slice a17 x16.length c18]⟩, ⟨g1315, 159, [.int .i64 x1317, .int .i64 x1318, .slice a1319 x1321.length c1320]⟩] [SlN eN39 iN39 1 (.slice a17 x16.length c18) x16 s18, (BlkD.is ⟨g1, 104, [.int .i64 x2, .int .i64 x3, .int .i64 x4, .int .i64 x5, .int .i64 x947, .slice a948 x950.length c949, .slice a1356 x1358.length c1357, .slice a1359 x1361.length c1360]⟩)] (.cons 0 rfl (.cons 1 rfl .nil)) (qW 0 rfl (qgp 1 rfl qB)) 13 rfl ?_
 refine au [7,0,7,1,7,2,21,3,21,4] ?_
 refine zk 5 (.agg #[.int .i64 x947, .slice a948 x950.length c949]) [[12]] rfl rfl rfl (vJ (j := 1) rfl tf29 rfl rfl (by simp) rfl) ?_
 refine au [21,6] ?_
 refine kN 7 (.agg #[.int .i64 x1318, .slice a1319 x1321.length c1320]) rfl rfl rfl (zI (i := 1) rfl tf29 rfl rfl (by simp) rfl) ?_
 refine au [24,3,8,28,8] ?_
 rintro x1362 e1362 ⟨a1363, c1364⟩
 refine au [0,26,7,7,9,21,10,21,11,24,3,12,24,15,0] ?_
 refine qbH 12 rfl (by kernel_rfl) (.cons 0 rfl (.cons 1 rfl .nil)) ?_
 refine au [24,9] ?_
 refine qQ ?_ (by intro c h; cases h)
 refine au [24,5,1,4,19,3,0] ?_
 exact qp ((iadd .i64 x946 1, x1362.1, x1362.2, x1358, x1361), (a1363, c1364, a1356, c1357, a1359, c1360))
 intro _
 refine au [24,11,20,20,24,12] ?_
 exact qb ((x947, x950, x953, x956), (a948, c949, a951, c952, a954, c955))
 rintro ⟨⟨x710, x713, x716, x719⟩, ⟨a711, c712, a714, c715, a717, c718⟩⟩
 try dsimp only
 refine au [2,4,5,0,1,8] ?_
 exact q7 ((a711, c712), (a714, c715), (a717, c718))
set_option maxHeartbeats 4000000 in
theorem qhI {F : Nat} {x1 : List (List Int)} {a2 : Option Addr} {c3 : Nat} {s3 : List (Option Addr × Nat)} {x4 : Int} {x5 : Int} {x6 : Int} {r : (Int × Int × Int × Int × Int × List Int × List Int × List Int × Int)} (hm : qaR F x1 x4 x5 x6 = some r) :
    PureM Tryz.prog 52 [.agg #[.slice a2 x1.length c3], .agg #[.int .i64 x4, .int .i64 x5, .int .i64 x6]] [] [] [SlN eN39 iN39 1 (.slice a2 x1.length c3) x1 s3] ((Option Addr × Nat) × (Option Addr × Nat) × (Option Addr × Nat) × Nat) (fun g => .tuple #[.pointer (some ⟨g.2.2.2, 0, none⟩), .int .i64 r.2.2.2.2.2.2.2.2]) (fun g => [⟨g.2.2.2, 104, [.int .i64 r.1, .int .i64 r.2.1, .int .i64 r.2.2.1, .int .i64 r.2.2.2.1, .int .i64 r.2.2.2.2.1, .slice g.1.1 r.2.2.2.2.2.1.length g.1.2, .slice g.2.1.1 r.2.2.2.2.2.2.1.length g.2.1.2, .slice g.2.2.1.1 r.2.2.2.2.2.2.2.1.length g.2.2.1.2]⟩]) (fun g => [Ro (eI .u8) 5 1 (.slice g.1.1 r.2.2.2.2.2.1.length g.1.2) r.2.2.2.2.2.1, Ro (eI .i64) 3 1 (.slice g.2.1.1 r.2.2.2.2.2.2.1.length g.2.1.2) r.2.2.2.2.2.2.1, Ro (eI .i64) 3 1 (.slice g.2.2.1.1 r.2.2.2.2.2.2.2.1.length g.2.2.1.2) r.2.2.2.2.2.2.2.1]) := by
 refine zi Tryz.func52 rfl Tryz.ntmps52 rfl hm (fun w => ?_)
 refine au [24,10,2,4,22] ?_
 intro g7
 refine au [22] ?_
 intro g8
 refine au [5,5,0,1,2,4,25,7,28,0] ?_
 intro x9 e9 _
 refine au [5,0,1] ?_
 refine qe (fun ((x12, _) : (Int × Unit)) => ([(2, .pointer (some ⟨g7, 0, none⟩)), (3, .pointer (some ⟨g8, 0, none⟩)), (6, .int .i64 x12)], [⟨g8, 26, [.int .i64 x4, .int .i64 x5, .int .i64 x6]⟩, ⟨g7, 24, [.slice a2 x1.length c3]⟩], [], [SlN eN39 iN39 1 (.slice a2 x1.length c3) x1 s3], vY F x1 x4 x5 x6 x12)) ?_ ?_
 refine av [2,4,3,24,13,0,1,11] ?_ ?_
 intro _
 refine au [4,24,8,30,3] ?_
 intro x97 e97 _
 refine au [5,0] ?_
 exact qb (x97, ())
 intro _
 refine au [12] ?_
 exact qb (x9, ())
 rintro ⟨x12, _⟩
 try dsimp only
 refine au [2,4,9,25,6,24,6,24,8] ?_
 refine ql (cells := [.int .i64 (x1.length : Int), .int .i64 x4, .int .i64 x5, .int .i64 x6, .int .i64 0, .slice none 0 0]) rfl st31 rfl (by kernel_rfl) rfl (ql (cells := [.int .i64 (x1.length : Int), .int .i64 x4, .int .i64 x5, .int .i64 x6, .int .i64 0, .slice none 0 0, .slice none 0 0, .slice none 0 0]) rfl st104 rfl (by kernel_rfl) rfl ?_)
 refine au [22] ?_
 intro g13
 refine au [5,0,1] ?_
 refine qe (fun (((x48, x49, x50, x51, x52, x53, x56, x59, x62), (a54, c55, a57, c58, a60, c61)) : ((Int × Int × Int × Int × Int × Int × List Int × List Int × List Int) × (Option Addr × Nat × Option Addr × Nat × Option Addr × Nat))) => ([(6, .int .i64 x48), (7, .pointer (some ⟨g13, 0, none⟩))], [⟨g13, 104, [.int .i64 x49, .int .i64 x50, .int .i64 x51, .int .i64 x52, .int .i64 x53, .slice a54 x56.length c55, .slice a57 x59.length c58, .slice a60 x62.length c61]⟩], [Ro (eI .u8) 5 1 (.slice a54 x56.length c55) x56, Ro (eI .i64) 3 1 (.slice a57 x59.length c58) x59, Ro (eI .i64) 3 1 (.slice a60 x62.length c61) x62], [], yN F x48 x49 x50 x51 x52 x53 x56 x59 x62)) ?_ ?_
 refine au [2,4,3,24,13,3] ?_
 refine qY 5 (fun (((x74, x75, x76, x77, x78, x79, x82, x85, x88), (a80, c81, a83, c84, a86, c87)) : ((Bool × Int × Int × Int × Int × Int × List Int × List Int × List Int) × (Option Addr × Nat × Option Addr × Nat × Option Addr × Nat))) => ([(6, .int .i64 x12), (7, .pointer (some ⟨g13, 0, none⟩)), (28, .bool x74)], [⟨g13, 104, [.int .i64 x75, .int .i64 x76, .int .i64 x77, .int .i64 x78, .int .i64 x79, .slice a80 x82.length c81, .slice a83 x85.length c84, .slice a86 x88.length c87]⟩], [Ro (eI .u8) 5 1 (.slice a80 x82.length c81) x82, Ro (eI .i64) 3 1 (.slice a83 x85.length c84) x85, Ro (eI .i64) 3 1 (.slice a86 x88.length c87) x88], [], yO F x12 x74 x75 x76 x77 x78 x79 x82 x85 x88)) ?_ ?_
 refine qa (os := _) rfl ?_
 refine av [25,9] ?_ ?_
 intro h63
 refine qi (k := 23) rfl h63 ?_
 refine au [3,25,14,27,0,27,1,27,1] ?_
 refine qz qeL ?_
 rintro x90 e90 ⟨⟨a91, c92⟩, ⟨a93, c94⟩, ⟨a95, c96⟩⟩
 refine au [25,4,23,0] ?_
 exact qb (((!x90.1), x90.2.1, x90.2.2.1, x90.2.2.2.1, x90.2.2.2.2.1, x90.2.2.2.2.2.1, x90.2.2.2.2.2.2.1, x90.2.2.2.2.2.2.2.1, x90.2.2.2.2.2.2.2.2), (a91, c92, a93, c94, a95, c96))
 intro h63
 refine qh (k := 23) rfl h63 ?_
 refine au [6,6,6,6,24,0,0,25,11,25,10,25,10] ?_
 exact qb ((false, (x1.length : Int), x4, x5, x6, (0 : Int), ([] : List Int), ([] : List Int), ([] : List Int)), (none, 0, none, 0, none, 0))
 rintro ⟨⟨x74, x75, x76, x77, x78, x79, x82, x85, x88⟩, ⟨a80, c81, a83, c84, a86, c87⟩⟩
 try dsimp only
 refine qa (os := _) rfl ?_
 refine av [0,1,11] ?_ ?_
 intro _
 refine au [4,5,0] ?_
 exact qb (((8 : Int), x75, x76, x77, x78, x79, x82, x85, x88), (a80, c81, a83, c84, a86, c87))
 intro _
 refine au [12] ?_
 exact qb ((x12, x75, x76, x77, x78, x79, x82, x85, x88), (a80, c81, a83, c84, a86, c87))
 rintro ⟨⟨x48, x49, x50, x51, x52, x53, x56, x59, x62⟩, ⟨a54, c55, a57, c58, a60, c61⟩⟩
 try dsimp only
 refine au [2,4,3,3,5,5,0,1,8] ?_
 exact q7 ((a54, c55), (a57, c58), (a60, c61), g13)
theorem qiS {F : Nat} {x1 : List (List Int)} {a2 : Option Addr} {c3 : Nat} {s3 : List (Option Addr × Nat)} {x4 : Int} {x5 : Int} {x6 : Int} {r : (Int × Int × Int × Int × Int × List Int × Int)} (hm : qby F x1 x4 x5 x6 = some r) :
    Pure Tryz.prog 23 [.agg #[.slice a2 x1.length c3], .agg #[.int .i64 x4, .int .i64 x5, .int .i64 x6]] [SlN eN39 iN39 1 (.slice a2 x1.length c3) x1 s3] (Option Addr × Nat) (fun g => .tuple #[.agg #[.int .i64 r.1, .int .i64 r.2.1, .int .i64 r.2.2.1, .int .i64 r.2.2.2.1, .int .i64 r.2.2.2.2.1, .slice g.1 r.2.2.2.2.2.1.length g.2], .int .i64 r.2.2.2.2.2.2]) (fun g => [Ro (eI .u8) 5 1 (.slice g.1 r.2.2.2.2.2.1.length g.2) r.2.2.2.2.2.1]) (fun _ => []) := by
 refine qk Tryz.func23 rfl Tryz.ntmps23 rfl hm (fun w => ?_)
 refine au [24,10,2,4,22] ?_
 intro g7
 refine au [22] ?_
 intro g8
 refine au [24,7] ?_
 intro g9
 refine au [5,0,1,2,4,25,14,25,7,32,13] ?_
 rintro x10 e10 ⟨⟨a11, c12⟩, ⟨a13, c14⟩, ⟨a15, c16⟩, g17⟩
 refine av [3,13,13,5,5,0,1,2,2,4,3,25,1,0,1,11] ?_ ?_
 intro _
 refine au [2,4] ?_
 refine ql (cells := [.int .i64 0, .int .i64 0, .int .i64 0, .int .i64 0, .int .i64 0, .slice none 0 0]) rfl st31 rfl (by kernel_rfl) rfl ?_
 refine au [3,24,15,5,0,1,8,10,25,11] ?_
 exact qu (none, 0) (resL (rs := [.cell 4 31, .tmp 5]) rfl (.cell (i := 1) rfl tf31 rfl rfl (by simp) rfl (.tmp rfl ResOk.nil)) rfl) (fun h => by subst h; exact (.cons 0 rfl .nil))
 intro _
 refine au [12,1,2,4,3,25,0,9,24,8,24,15,5,0,1,8] ?_
 exact qu (a11, c12) (resL (rs := [.cell 4 31, .tmp 5]) rfl (.cell (i := 1) rfl tf31 rfl rfl (by simp) rfl (.tmp rfl ResOk.nil)) rfl) (fun h => by subst h; exact (.cons 0 rfl .nil))
theorem qj5 {F : Nat} {x1 : List (List Int)} {a2 : Option Addr} {c3 : Nat} {s3 : List (Option Addr × Nat)} {x4 : Int} {x5 : Int} {x6 : Int} {r : (List Int × List Int × Int)} (hm : qca F x1 x4 x5 x6 = some r) :
    Pure Tryz.prog 35 [.agg #[.slice a2 x1.length c3], .agg #[.int .i64 x4, .int .i64 x5, .int .i64 x6]] [SlN eN39 iN39 1 (.slice a2 x1.length c3) x1 s3] ((Option Addr × Nat) × (Option Addr × Nat)) (fun g => .tuple #[.slice g.1.1 r.1.length g.1.2, .slice g.2.1 r.2.1.length g.2.2, .int .i64 r.2.2]) (fun g => [Ro (eI .i64) 3 1 (.slice g.1.1 r.1.length g.1.2) r.1, Ro (eI .i64) 3 1 (.slice g.2.1 r.2.1.length g.2.2) r.2.1]) (fun _ => []) := by
 refine qk Tryz.func35 rfl Tryz.ntmps35 rfl hm (fun w => ?_)
 refine au [24,10,2,4,22] ?_
 intro g7
 refine au [22] ?_
 intro g8
 refine au [5,5,5,0,1,2,4,25,7,24,8,32,13] ?_
 rintro x9 e9 ⟨⟨a10, c11⟩, ⟨a12, c13⟩, ⟨a14, c15⟩, g16⟩
 refine av [3,13,13,5,5,0,1,2,2,4,3,25,1,0,1,11] ?_ ?_
 intro _
 refine au [2,4,3,5,5,5,0,1,8,10,25,10,25,10] ?_
 exact qy ((none, 0), (none, 0))
 intro _
 refine au [12,1,2] ?_
 refine qH mixed [] [⟨g16, 104, [.int .i64 x9.1, .int .i64 x9.2.1, .int .i64 x9.2.2.1, .int .i64 x9.2.2.2.1, .int .i64 x9.2.2.2.2.1, .slice a10 x9.2.2.2.2.2.1.length c11, .slice a12 x9.2.2.2.2.2.2.1.length c13, .slice a14 x9.2.2.2.2.2.2.2.1.length c15]⟩, ⟨g8, 26, [.int .i64 x4, .int .i64 x5, .int .i64 x6]⟩, ⟨g7, 24, [.slice a2 x1.length c3]⟩] [SlN eN39 iN39 1 (.slice a2 x1.length c3) x1 s3] (.cons 0 rfl (.cons 0 rfl (.cons 0 rfl .nil))) (qW 0 rfl qB) 11 rfl ?_
 refine au [7,0,7,1,21,2,25,2,3,7,4,7,5,21,6,25,2,7,7,8,7,9,7,10,24,9] ?_
 refine qQ ?_ (by intro c h; cases h)
 refine au [1,8] ?_
 exact qy ((a12, c13), (a14, c15))
set_option maxHeartbeats 4000000 in
theorem qiL {F : Nat} {x1 : List Int} {a2 : Option Addr} {c3 : Nat} {x4 : Int} {r : Int} (hm : qbp F x1 x4 = some r) :
    Pure Tryz.prog 80 [.slice a2 x1.length c3, .int .i64 x4] [Sl (eI .i64) 1 (.slice a2 x1.length c3) x1] Unit (fun _ => .int .i64 r) (fun _ => []) (fun _ => []) := by
 refine qk Tryz.func80 rfl Tryz.ntmps80 rfl hm (fun w => ?_)
 refine au [24,10,2,4,5,0,1,2,15,2,4,3,24,4,3] ?_
 refine qq 3 (decide (x4 < 0)) [(0, .slice a2 x1.length c3), (1, .int .i64 x4), (14, .bool ((decide (x4 < 0)) || (decide (1048576 < x4))))] (fun h8 => ?_) (fun h8 => ?_) ?_
 refine qa (os := _) rfl (qi (k := 11) rfl h8 ?_)
 refine au [6,6,23] ?_
 refine qc (d := 14) (v := .bool ((decide (x4 < 0)) || (decide (1048576 < x4)))) rfl (by rw [h8]; simp only [Bool.true_or]) ?_
 exact az [0,16]
 refine qa (os := _) rfl (qh (k := 11) rfl h8 ?_)
 refine au [3,24,14,24,0] ?_
 refine qc (d := 14) (v := .bool ((decide (x4 < 0)) || (decide (1048576 < x4)))) rfl (by rw [h8]; simp only [Bool.false_or]) ?_
 exact az [0,16]
 refine qa (os := _) rfl ?_
 refine av [5,0,1,11] ?_ ?_
 intro _
 exact az [2,4,5,0,1,8,24,1,10,17]
 intro _
 refine av [2,4,3,24,6,24,14,5,0,1,11] ?_ ?_
 intro _
 exact az [2,4,5,0,1,8,24,1,10,17]
 intro _
 refine au [12,24,5,1,2,4,5,0,1] ?_
 refine qe (fun ((_, _) : (Unit × Unit)) => ([], [], [], [], qdY F)) ?_ ?_
 refine au [2,4,3,24,6,3,0,1,15] ?_
 refine qw (fun (((x92, x93), _) : ((Int × Int) × Unit)) => ([(1, .int .i64 x4), (5, .int .i64 x92), (19, .slice a2 x1.length c3), (20, .int .i64 (x1.length : Int)), (21, .int .i64 x93)], [], [], [Sl (eI .i64) 1 (.slice a2 x1.length c3) x1])) (fun k (s : ((Int × Int) × Unit)) => vk F x1 x4 k s.1) ((0, 0), ()) F ?_
 intro k114
 rintro ⟨⟨x92, x93⟩, _⟩
 try dsimp only
 refine qJ (m' := qaX F x1 x4 (vk F x1 x4 k114) x92 x93) rfl ?_
 refine av [2,4,24,4,0,1,2,11] ?_ ?_
 intro _
 refine au [12,1,2,15,2,4,26,6] ?_
 intro x125 e125 b126 o127
 refine au [25,13,5,0,1,2,15,2,4,3,24,4,3] ?_
 refine qq 4 (decide (x125 < 0)) [(1, .int .i64 x4), (5, .int .i64 x92), (19, .slice a2 x1.length c3), (20, .int .i64 (x1.length : Int)), (21, .int .i64 x93), (7, .int .i64 x125), (32, .bool ((decide (x125 < 0)) || (decide (x4 < x125))))] (fun h131 => ?_) (fun h131 => ?_) ?_
 refine qa (os := _) rfl (qi (k := 28) rfl h131 ?_)
 refine au [6,6,6,23] ?_
 refine qc (d := 32) (v := .bool ((decide (x125 < 0)) || (decide (x4 < x125)))) rfl (by rw [h131]; simp only [Bool.true_or]) ?_
 exact az [0,16]
 refine qa (os := _) rfl (qh (k := 28) rfl h131 ?_)
 refine au [3,3,24,14,24,0] ?_
 refine qc (d := 32) (v := .bool ((decide (x125 < 0)) || (decide (x4 < x125)))) rfl (by rw [h131]; simp only [Bool.false_or]) ?_
 exact az [0,16]
 refine qa (os := _) rfl ?_
 refine av [5,0,1,11] ?_ ?_
 intro _
 exact az [2,4,5,0,1,8,24,1,10,24,1,10,10,24,1,10,17]
 intro _
 refine av [2,4,3,3,24,4,5,0,1,11] ?_ ?_
 intro _
 exact az [2,4,5,0,1,8,24,1,10,24,1,10,10,24,1,10,17]
 intro _
 refine au [12,24,5,1,4,3,5,0,24,5,1,4,19,3,0] ?_
 exact qp ((x125, iadd .i64 x93 1), ())
 intro _
 exact az [24,11,20,20,24,12,25,15]
 rintro ⟨_, _⟩
 try dsimp only
 exact az [2,4,5,0,1,8,17]
set_option maxHeartbeats 4000000 in
theorem qiM {F : Nat} {x1 : Int} {x2 : Int} {r : Int} (hm : qbr F x1 x2 = some r) :
    Pure Tryz.prog 104 [.int .i64 x1, .int .i64 x2] [] Unit (fun _ => .int .i64 r) (fun _ => []) (fun _ => []) := by
 refine qk Tryz.func104 rfl Tryz.ntmps104 rfl hm (fun w => ?_)
 refine au [24,10,2,4,5,0,1] ?_
 refine qe (fun ((x35, _) : (Int × Unit)) => ([(4, .int .i64 x35)], [], [], [], qdZ F x35)) ?_ ?_
 refine au [15] ?_
 refine qaJ (fun ((x46, _) : (Int × Unit)) => [(0, .int .i64 x1), (1, .int .i64 x2), (4, .int .i64 x46)]) (fun ((x46, _) : (Int × Unit)) => []) (fun ((x46, _) : (Int × Unit)) => []) (fun ((x46, _) : (Int × Unit)) => []) (fun k (s : (Int × Unit)) => k7 F x1 x2 k s.1) (0, ()) F ?_
 intro k57
 rintro ⟨x46, _⟩
 try dsimp only
 refine qJ (m' := qaC F x1 x2 (k7 F x1 x2 k57) x46) rfl ?_
 refine au [2,2,4,3,24,14,3] ?_
 refine qY 8 (fun ((x65, _) : (Bool × Unit)) => ([(0, .int .i64 x1), (1, .int .i64 x2), (4, .int .i64 x46), (15, .bool x65)], [], [], [], vW F (k7 F x1 x2 k57) x46 x65)) ?_ ?_
 refine qa (os := _) rfl ?_
 refine av [25,9] ?_ ?_
 intro h63
 refine qi (k := 7) rfl h63 ?_
 refine au [3,3,19,26,1] ?_
 intro h67
 refine qeu rfl rfl rfl rfl h67 ?_
 refine au [3,19,26,14,23,0] ?_
 exact qb ((decide ((ishl .i64 x1 (iadd .i64 x46 1)) ≤ (iadd .i64 x2 1))), ())
 intro h63
 refine qh (k := 7) rfl h63 ?_
 refine au [6,6,6,6,6,6,6,24,0,0] ?_
 exact qb (false, ())
 rintro ⟨x65, _⟩
 try dsimp only
 refine qa (os := _) rfl ?_
 refine av [0,1,11] ?_ ?_
 intro _
 refine au [12,1,15,4,3,19,5,0,24,5] ?_
 exact qp (iadd .i64 x46 1, ())
 intro _
 refine au [24,11,20,20,24,12] ?_
 exact qb (x46, ())
 rintro ⟨x35, _⟩
 try dsimp only
 exact az [2,4,3,5,0,1,8,17]
theorem qeI {F : Nat} {g1 : Nat} {x2 : Int} {x3 : List Int} {a4 : Option Addr} {c5 : Nat} {x6 : Int} {x7 : Int} {r : (Int × List Int × Int)} (hm : yR F x2 x3 x6 x7 = some r) :
    PureM Tryz.prog 106 [.pointer (some ⟨g1, 0, none⟩), .int .i64 x7] [⟨g1, 165, [.int .i64 x2, .slice a4 x3.length c5, .int .i64 x6]⟩] [Ro (eI .u8) 5 1 (.slice a4 x3.length c5) x3] [] (Option Addr × Nat) (fun _ => .tuple #[]) (fun g => [⟨g1, 165, [.int .i64 r.1, .slice g.1 r.2.1.length g.2, .int .i64 r.2.2]⟩]) (fun g => [Ro (eI .u8) 5 1 (.slice g.1 r.2.1.length g.2) r.2.1]) := by
 refine zi Tryz.func106 rfl Tryz.ntmps106 rfl hm (fun w => ?_)
 refine au [24,10,15] ?_
 refine qw (fun (((x16, x19, x20), (a17, c18)) : ((Int × List Int × Int) × (Option Addr × Nat))) => ([(0, .pointer (some ⟨g1, 0, none⟩)), (1, .int .i64 x7)], [⟨g1, 165, [.int .i64 x16, .slice a17 x19.length c18, .int .i64 x20]⟩], [Ro (eI .u8) 5 1 (.slice a17 x19.length c18) x19], [])) (fun k (s : ((Int × List Int × Int) × (Option Addr × Nat))) => kb F x7 k s.1) ((x2, x3, x6), (a4, c5)) F ?_
 intro k29
 rintro ⟨⟨x16, x19, x20⟩, ⟨a17, c18⟩⟩
 try dsimp only
 refine qJ (m' := y9 F x7 (kb F x7 k29) x16 x19 x20) rfl ?_
 refine av [2,2,4,3,25,0,9,18,3,24,4,0,1,11] ?_ ?_
 intro _
 refine au [12,1,2,15,4,3,3,25,0,9,24,8,27,4] ?_
 rintro x34 e34 ⟨a35, c36⟩
 refine au [25,0,9,24,2,0,24,5,1,4,3,25,0,9,18,19,25,0,9,24,2,0] ?_
 exact qp ((x34.1, x34.2, iadd .i64 x20 1), (a35, c36))
 intro _
 refine au [24,11,20,20,24,12] ?_
 exact q7 (a17, c18)
set_option maxHeartbeats 4000000 in
theorem qls {F : Nat} {x1 : List Int} {a2 : Option Addr} {c3 : Nat} {x4 : Int} {r : (Int × Int × Int × Int × List Int × Int × List Int × Bool)} (hm : qcJ F x1 x4 = some r) :
    Pure Tryz.prog 81 [.slice a2 x1.length c3, .int .i64 x4] [Sl (eI .i64) 1 (.slice a2 x1.length c3) x1] ((Option Addr × Nat) × (Option Addr × Nat)) (fun g => .tuple #[.agg #[.int .i64 r.1, .int .i64 r.2.1, .int .i64 r.2.2.1, .int .i64 r.2.2.2.1, .slice g.1.1 r.2.2.2.2.1.length g.1.2, .int .i64 r.2.2.2.2.2.1, .slice g.2.1 r.2.2.2.2.2.2.1.length g.2.2], .bool r.2.2.2.2.2.2.2]) (fun g => [Ro (eI .u8) 5 1 (.slice g.1.1 r.2.2.2.2.1.length g.1.2) r.2.2.2.2.1, Ro (eI .u8) 5 1 (.slice g.2.1 r.2.2.2.2.2.2.1.length g.2.2) r.2.2.2.2.2.2.1]) (fun _ => []) := by
 refine qk Tryz.func81 rfl Tryz.ntmps81 rfl hm (fun w => ?_)
 refine au [24,10,2,4,24,7] ?_
 intro g5
 refine au [5,0,1,2,4,3,24,6,3,3,24,6,3,32,14] ?_
 intro x6 e6 _
 refine ql (cells := [.int .i64 (x1.length : Int), .int .i64 x4, .int .i64 x6, .int .i64 0, .slice none 0 0, .int .i64 0, .slice none 0 0]) rfl st33 rfl (by kernel_rfl) rfl ?_
 refine au [24,7] ?_
 intro g7
 refine au [24,2,0,1,2,4,3,9,18,26,1] ?_
 intro h8
 refine qfC rfl rfl rfl rfl h8 ?_
 refine au [19,5,0,1,2,2,4,9,18,9,18,28,13,24,14,3] ?_
 refine qq 6 (decide (8192 < (imul .i64 (x1.length : Int) x6))) [(0, .slice a2 x1.length c3), (4, .pointer (some ⟨g5, 0, none⟩)), (6, .pointer (some ⟨g7, 0, none⟩)), (7, .int .i64 (iadd .i64 (ishr .i64 x4 x6) 1)), (36, .bool ((decide (8192 < (imul .i64 (x1.length : Int) x6))) || (decide (8192 < (iadd .i64 (x1.length : Int) (iadd .i64 (ishr .i64 x4 x6) 1))))))] (fun h11 => ?_) (fun h11 => ?_) ?_
 refine qa (os := _) rfl (qi (k := 30) rfl h11 ?_)
 refine au [6,6,6,6,6,23] ?_
 refine qc (d := 36) (v := .bool ((decide (8192 < (imul .i64 (x1.length : Int) x6))) || (decide (8192 < (iadd .i64 (x1.length : Int) (iadd .i64 (ishr .i64 x4 x6) 1)))))) rfl (by rw [h11]; simp only [Bool.true_or]) ?_
 exact az [0,16]
 refine qa (os := _) rfl (qh (k := 30) rfl h11 ?_)
 refine au [9,18,3,19,24,14,24,0] ?_
 refine qc (d := 36) (v := .bool ((decide (8192 < (imul .i64 (x1.length : Int) x6))) || (decide (8192 < (iadd .i64 (x1.length : Int) (iadd .i64 (ishr .i64 x4 x6) 1)))))) rfl (by rw [h11]; simp only [Bool.false_or]) ?_
 exact az [0,16]
 refine qa (os := _) rfl ?_
 refine av [0,1,11] ?_ ?_
 intro _
 refine au [2,4] ?_
 refine ql (cells := [.int .i64 0, .int .i64 0, .int .i64 0, .int .i64 0, .slice none 0 0, .int .i64 0, .slice none 0 0]) rfl st33 rfl (by kernel_rfl) rfl ?_
 refine au [24,15,5,0,1,8,10,25,11,25,11] ?_
 exact qu ((none, 0), (none, 0)) (resL (rs := [.cell 4 33, .tmp 5]) rfl (.cell (i := 1) rfl tf33 rfl rfl (by simp) rfl (.tmp rfl ResOk.nil)) rfl) (fun h => by subst h; exact (.cons 0 rfl (.cons 0 rfl .nil)))
 intro _
 refine au [12,1,2,4] ?_
 refine ql (cells := [.int .i64 0, .slice none 0 0, .int .i64 0]) rfl st165 rfl (by kernel_rfl) rfl ?_
 refine au [22] ?_
 intro g12
 refine au [5,0,1] ?_
 refine qe (fun (((x174, x177, x178, x179, x182), (a175, c176, a180, c181)) : ((Int × List Int × Int × Int × List Int) × (Option Addr × Nat × Option Addr × Nat))) => ([(4, .pointer (some ⟨g5, 0, none⟩)), (6, .pointer (some ⟨g7, 0, none⟩)), (7, .int .i64 (iadd .i64 (ishr .i64 x4 x6) 1)), (8, .pointer (some ⟨g12, 0, none⟩))], [⟨g12, 165, [.int .i64 x174, .slice a175 x177.length c176, .int .i64 x178]⟩, ⟨g7, 33, [.int .i64 (x1.length : Int), .int .i64 x4, .int .i64 x6, .int .i64 x179, .slice a180 x182.length c181, .int .i64 0, .slice none 0 0]⟩, ⟨g5, 33, [.int .i64 0, .int .i64 0, .int .i64 0, .int .i64 0, .slice none 0 0, .int .i64 0, .slice none 0 0]⟩], [Ro (eI .u8) 5 1 (.slice a175 x177.length c176) x177, Ro (eI .u8) 5 1 (.slice a180 x182.length c181) x182], [], qdi F x1 x4 x6 x174 x177 x178 x179 x182)) ?_ ?_
 refine au [2,4,3,24,6,3,0,1,15,30,4,30,4] ?_
 refine qw (fun (((x239, x240, x243, x244, x245, x248), (a241, c242, a246, c247)) : ((Int × Int × List Int × Int × Int × List Int) × (Option Addr × Nat × Option Addr × Nat))) => ([(4, .pointer (some ⟨g5, 0, none⟩)), (6, .pointer (some ⟨g7, 0, none⟩)), (7, .int .i64 (iadd .i64 (ishr .i64 x4 x6) 1)), (8, .pointer (some ⟨g12, 0, none⟩)), (40, .slice a2 x1.length c3), (41, .int .i64 (x1.length : Int)), (42, .int .i64 x239)], [⟨g12, 165, [.int .i64 x240, .slice a241 x243.length c242, .int .i64 x244]⟩, ⟨g7, 33, [.int .i64 (x1.length : Int), .int .i64 x4, .int .i64 x6, .int .i64 x245, .slice a246 x248.length c247, .int .i64 0, .slice none 0 0]⟩, ⟨g5, 33, [.int .i64 0, .int .i64 0, .int .i64 0, .int .i64 0, .slice none 0 0, .int .i64 0, .slice none 0 0]⟩], [Ro (eI .u8) 5 1 (.slice a241 x243.length c242) x243, Ro (eI .u8) 5 1 (.slice a246 x248.length c247) x248], [Sl (eI .i64) 1 (.slice a2 x1.length c3) x1])) (fun k (s : ((Int × Int × List Int × Int × Int × List Int) × (Option Addr × Nat × Option Addr × Nat))) => jF F x1 x4 x6 k s.1) ((0, 0, ([] : List Int), 0, 0, ([] : List Int)), (none, 0, none, 0)) F ?_
 intro k295
 rintro ⟨⟨x239, x240, x243, x244, x245, x248⟩, ⟨a241, c242, a246, c247⟩⟩
 try dsimp only
 refine qJ (m' := qbV F x1 x4 x6 (jF F x1 x4 x6 k295) x239 x240 x243 x244 x245 x248) rfl ?_
 refine av [2,4,24,4,0,1,2,11] ?_ ?_
 intro _
 refine au [12,1,2,15,2,4,26,6] ?_
 intro x319 e319 b320 o321
 refine au [25,13,5,0,1,2,26,12] ?_
 intro h328
 refine qH mixed [13] [⟨g12, 165, [.int .i64 x240, .slice a241 x243.length c242, .int .i64 x244]⟩, ⟨g5, 33, [.int .i64 0, .int .i64 0, .int .i64 0, .int .i64 0, .slice none 0 0, .int .i64 0, .slice none 0 0]⟩] [qR b320 o321 ((eI .i64) x319), Sl (eI .i64) 1 (.slice a2 x1.length c3) x1, (BlkD.is ⟨g7, 33, [.int .i64 (x1.length : Int), .int .i64 x4, .int .i64 x6, .int .i64 x245, .slice a246 x248.length c247, .int .i64 0, .slice none 0 0]⟩)] (.cons 0 rfl (.cons 1 rfl .nil)) (qW 0 rfl (qW 1 rfl (qgp 1 rfl qB))) 14 rfl ?_
 refine au [21,0] ?_
 refine zk 1 (.agg #[.int .i64 x245, .slice a246 x248.length c247]) [[13]] rfl rfl rfl (vJ (j := 2) rfl tf29 rfl rfl (by simp) rfl) ?_
 refine au [7,2,21,3] ?_
 refine zk 4 (.int .i64 x6) [[13]] rfl rfl rfl (vJ (j := 2) rfl tf3 rfl rfl (fun _ => rfl) rfl) (qo 5 (.int .i64 (ishl .i64 1 x6)) rfl rfl rfl (qe4 rfl rfl h328) ?_)
 refine au [7,6,7,7,31,8,8,21,9] ?_
 refine zk 10 (.int .i64 x6) [[13]] rfl rfl rfl (vJ (j := 2) rfl tf3 rfl rfl (fun _ => rfl) rfl) ?_
 refine au [24,3,11,27,4] ?_
 rintro x331 e331 ⟨a332, c333⟩
 refine au [0] ?_
 refine kj (.cons 0 rfl (.cons 1 rfl .nil)) (qW 0 rfl (qW 1 rfl (qgp 1 rfl qB))) ?_
 refine au [21,12,24,3,13,24,15,0] ?_
 refine qbH 13 rfl (by kernel_rfl) (.cons 0 rfl (.cons 1 rfl .nil)) ?_
 refine au [24,9] ?_
 refine qQ ?_ (by intro c h; cases h)
 refine au [1,2,4,3,3,9,25,6,26,1] ?_
 intro h334
 refine qfC rfl rfl rfl rfl h334 ?_
 refine au [32,15] ?_
 rintro x335 e335 ⟨a336, c337⟩
 refine au [0,1,4,3,3,25,0,9,24,8,27,4] ?_
 rintro x338 e338 ⟨a339, c340⟩
 refine au [25,0,9,24,2,0,24,5,1,4,19,3,0] ?_
 exact qp ((iadd .i64 x239 1, x338.1, x338.2, x335.2.2, x331.1, x331.2), (a339, c340, a332, c333))
 intro _
 refine au [24,11,20,20,24,12] ?_
 exact qb ((x240, x243, x244, x245, x248), (a241, c242, a246, c247))
 rintro ⟨⟨x174, x177, x178, x179, x182⟩, ⟨a175, c176, a180, c181⟩⟩
 try dsimp only
 refine au [2,4,3,3,32,15] ?_
 rintro x183 e183 ⟨a184, c185⟩
 refine au [0,1,2,4,3,25,0,9,24,8,9,24,15,0,1,2,4,25,7,26,10,5,0,1,8] ?_
 exact qu ((a180, c181), (a184, c185)) (resL (rs := [.cell 4 33, .tmp 5]) rfl (.cell (i := 2) rfl tf33 rfl rfl (by simp) rfl (.tmp rfl ResOk.nil)) rfl) (fun h => by subst h; exact (.cons 1 rfl (.cons 0 rfl .nil)))
theorem qiK {F : Nat} {x1 : List Int} {a2 : Option Addr} {c3 : Nat} {x4 : Int} {r : (Int × Int × Int × Int × List Int × Int × List Int × Int)} (hm : qbo F x1 x4 = some r) :
    Pure Tryz.prog 53 [.slice a2 x1.length c3, .int .i64 x4] [Sl (eI .i64) 1 (.slice a2 x1.length c3) x1] ((Option Addr × Nat) × (Option Addr × Nat)) (fun g => .tuple #[.agg #[.int .i64 r.1, .int .i64 r.2.1, .int .i64 r.2.2.1, .int .i64 r.2.2.2.1, .slice g.1.1 r.2.2.2.2.1.length g.1.2, .int .i64 r.2.2.2.2.2.1, .slice g.2.1 r.2.2.2.2.2.2.1.length g.2.2], .int .i64 r.2.2.2.2.2.2.2]) (fun g => [Ro (eI .u8) 5 1 (.slice g.1.1 r.2.2.2.2.1.length g.1.2) r.2.2.2.2.1, Ro (eI .u8) 5 1 (.slice g.2.1 r.2.2.2.2.2.2.1.length g.2.2) r.2.2.2.2.2.2.1]) (fun _ => []) := by
 refine qk Tryz.func53 rfl Tryz.ntmps53 rfl hm (fun w => ?_)
 refine au [24,10,2,4,24,7] ?_
 intro g5
 refine au [5,0,1,2,2,4,3,3,33,0] ?_
 intro x8 e8 _
 refine av [5,0,1,2,4,3,25,1,0,1,11] ?_ ?_
 intro _
 refine au [2,4] ?_
 refine ql (cells := [.int .i64 0, .int .i64 0, .int .i64 0, .int .i64 0, .slice none 0 0, .int .i64 0, .slice none 0 0]) rfl st33 rfl (by kernel_rfl) rfl ?_
 refine au [3,24,2,5,0,1,8,10,25,11,25,11] ?_
 exact qu ((none, 0), (none, 0)) (resL (rs := [.cell 4 33, .tmp 5]) rfl (.cell (i := 0) rfl tf33 rfl rfl (by simp) rfl (.tmp rfl ResOk.nil)) rfl) (fun h => by subst h; exact (.cons 0 rfl (.cons 0 rfl .nil)))
 intro _
 refine au [12,1,2,4,3,3,33,1] ?_
 rintro x9 e9 ⟨⟨a10, c11⟩, ⟨a12, c13⟩⟩
 refine au [3,13,13,24,7] ?_
 intro g14
 refine av [24,2,5,0,1,2,2,4,3,25,4,0,1,11] ?_ ?_
 intro _
 refine au [2,4] ?_
 refine ql (cells := [.int .i64 0, .int .i64 0, .int .i64 0, .int .i64 0, .slice none 0 0, .int .i64 0, .slice none 0 0]) rfl st33 rfl (by kernel_rfl) rfl ?_
 refine au [24,15,5,0,1,8,10,25,11,25,11] ?_
 exact qu ((none, 0), (none, 0)) (resL (rs := [.cell 4 33, .tmp 5]) rfl (.cell (i := 1) rfl tf33 rfl rfl (by simp) rfl (.tmp rfl ResOk.nil)) rfl) (fun h => by subst h; exact (.cons 0 rfl (.cons 0 rfl .nil)))
 intro _
 refine au [12,1,2,4,24,8,24,15,5,0,1,8] ?_
 exact qu ((a10, c11), (a12, c13)) (resL (rs := [.cell 4 33, .tmp 5]) rfl (.cell (i := 1) rfl tf33 rfl rfl (by simp) rfl (.tmp rfl ResOk.nil)) rfl) (fun h => by subst h; exact (.cons 0 rfl (.cons 0 rfl .nil)))
set_option maxHeartbeats 4000000 in
theorem qhR {F : Nat} {x1 : List (List Int)} {a2 : Option Addr} {c3 : Nat} {s3 : List (Option Addr × Nat)} {x4 : Int} {x5 : Int} {x6 : Int} {x7 : Int} {x8 : Int} {x9 : List Int} {a10 : Option Addr} {c11 : Nat} {r : (Int × Int × Int × Int × Int × List Int × Int × Int × Int × Int × List Int × Int × List Int × Int)} (hm : jN F x1 x4 x5 x6 x7 x8 x9 = some r) :
    PureM Tryz.prog 24 [.agg #[.slice a2 x1.length c3], .agg #[.int .i64 x4, .int .i64 x5, .int .i64 x6, .int .i64 x7, .int .i64 x8, .slice a10 x9.length c11]] [] [Ro (eI .u8) 5 1 (.slice a10 x9.length c11) x9] [SlN eN39 iN39 1 (.slice a2 x1.length c3) x1 s3] ((Option Addr × Nat) × (Option Addr × Nat) × (Option Addr × Nat)) (fun g => .tuple #[.agg #[.int .i64 r.1, .int .i64 r.2.1, .int .i64 r.2.2.1, .int .i64 r.2.2.2.1, .int .i64 r.2.2.2.2.1, .slice g.1.1 r.2.2.2.2.2.1.length g.1.2, .int .i64 r.2.2.2.2.2.2.1, .int .i64 r.2.2.2.2.2.2.2.1, .int .i64 r.2.2.2.2.2.2.2.2.1, .int .i64 r.2.2.2.2.2.2.2.2.2.1, .slice g.2.1.1 r.2.2.2.2.2.2.2.2.2.2.1.length g.2.1.2, .int .i64 r.2.2.2.2.2.2.2.2.2.2.2.1, .slice g.2.2.1 r.2.2.2.2.2.2.2.2.2.2.2.2.1.length g.2.2.2], .int .i64 r.2.2.2.2.2.2.2.2.2.2.2.2.2]) (fun _ => []) (fun g => [Ro (eI .u8) 5 1 (.slice g.1.1 r.2.2.2.2.2.1.length g.1.2) r.2.2.2.2.2.1, Ro (eI .u8) 5 1 (.slice g.2.1.1 r.2.2.2.2.2.2.2.2.2.2.1.length g.2.1.2) r.2.2.2.2.2.2.2.2.2.2.1, Ro (eI .u8) 5 1 (.slice g.2.2.1 r.2.2.2.2.2.2.2.2.2.2.2.2.1.length g.2.2.2) r.2.2.2.2.2.2.2.2.2.2.2.2.1]) := by
 refine zi Tryz.func24 rfl Tryz.ntmps24 rfl hm (fun w => ?_)
 refine au [24,10,2,4,22] ?_
 intro g12
 refine au [22] ?_
 intro g13
 refine au [24,7] ?_
 intro g14
 refine au [5,0,1,2,4,25,14,9,25,7,33,2] ?_
 rintro x15 e15 ⟨⟨a16, c17⟩, ⟨a18, c19⟩⟩
 refine av [3,13,13,13,5,5,5,0,1,2,2,4,3,25,1,0,1,11] ?_ ?_
 intro _
 refine au [2,4] ?_
 refine ql (cells := [.int .i64 0, .int .i64 0, .int .i64 0, .int .i64 0, .int .i64 0, .slice none 0 0, .int .i64 0, .int .i64 0, .int .i64 0, .int .i64 0, .slice none 0 0, .int .i64 0, .slice none 0 0]) rfl st35 rfl (by kernel_rfl) rfl ?_
 refine au [3,24,2,5,0,1,8,10,25,11,25,11,25,11] ?_
 exact yP ((none, 0), (none, 0), (none, 0)) (resL (rs := [.cell 4 35, .tmp 5]) rfl (.cell (i := 0) rfl tf35 rfl rfl (by simp) rfl (.tmp rfl ResOk.nil)) rfl) (hR := fun h => by subst h; exact (.cons 0 rfl (.cons 0 rfl (.cons 0 rfl .nil))))
 intro _
 refine au [12,1,2,4,3,9,9,25,6,33,3] ?_
 rintro x21 e21 ⟨⟨a22, c23⟩, ⟨a24, c25⟩⟩
 refine au [3,13,13,24,7] ?_
 intro g26
 refine av [24,2,5,0,1,2,2,4,3,25,1,0,1,11] ?_ ?_
 intro _
 refine au [2,4] ?_
 refine ql (cells := [.int .i64 0, .int .i64 0, .int .i64 0, .int .i64 0, .int .i64 0, .slice none 0 0, .int .i64 0, .int .i64 0, .int .i64 0, .int .i64 0, .slice none 0 0, .int .i64 0, .slice none 0 0]) rfl st35 rfl (by kernel_rfl) rfl ?_
 refine au [3,24,15,5,0,1,8,10,25,11,25,11,25,11] ?_
 exact yP ((none, 0), (none, 0), (none, 0)) (resL (rs := [.cell 4 35, .tmp 5]) rfl (.cell (i := 1) rfl tf35 rfl rfl (by simp) rfl (.tmp rfl ResOk.nil)) rfl) (hR := fun h => by subst h; exact (.cons 0 rfl (.cons 0 rfl (.cons 0 rfl .nil))))
 intro _
 refine au [12,1,2,4,25,14,24,8] ?_
 refine ql (cells := [.int .i64 x4, .int .i64 x5, .int .i64 x6, .int .i64 x7, .int .i64 x8, .slice a10 x9.length c11, .int .i64 x21.1, .int .i64 x21.2.1, .int .i64 x21.2.2.1, .int .i64 x21.2.2.2.1, .slice a22 x21.2.2.2.2.1.length c23, .int .i64 x21.2.2.2.2.2.1, .slice a24 x21.2.2.2.2.2.2.1.length c25]) rfl st35 rfl (by kernel_rfl) rfl ?_
 refine au [24,15,5,0,1,8] ?_
 exact yP ((a10, c11), (a22, c23), (a24, c25)) (resL (rs := [.cell 4 35, .tmp 5]) rfl (.cell (i := 1) rfl tf35 rfl rfl (by simp) rfl (.tmp rfl ResOk.nil)) rfl) (hR := fun h => by subst h; exact (.cons 4 rfl (.cons 0 rfl (.cons 0 rfl .nil))))
theorem qhO {F : Nat} {x1 : List (List Int)} {a2 : Option Addr} {c3 : Nat} {s3 : List (Option Addr × Nat)} {x4 : Int} {x5 : Int} {x6 : Int} {r : (Int × Int × Int × Int × Int × List Int × Int × Int × Int × Int × List Int × Int × List Int × Int)} (hm : jL F x1 x4 x5 x6 = some r) :
    Pure Tryz.prog 8 [.agg #[.slice a2 x1.length c3], .agg #[.int .i64 x4, .int .i64 x5, .int .i64 x6]] [SlN eN39 iN39 1 (.slice a2 x1.length c3) x1 s3] ((Option Addr × Nat) × (Option Addr × Nat) × (Option Addr × Nat)) (fun g => .tuple #[.agg #[.int .i64 r.1, .int .i64 r.2.1, .int .i64 r.2.2.1, .int .i64 r.2.2.2.1, .int .i64 r.2.2.2.2.1, .slice g.1.1 r.2.2.2.2.2.1.length g.1.2, .int .i64 r.2.2.2.2.2.2.1, .int .i64 r.2.2.2.2.2.2.2.1, .int .i64 r.2.2.2.2.2.2.2.2.1, .int .i64 r.2.2.2.2.2.2.2.2.2.1, .slice g.2.1.1 r.2.2.2.2.2.2.2.2.2.2.1.length g.2.1.2, .int .i64 r.2.2.2.2.2.2.2.2.2.2.2.1, .slice g.2.2.1 r.2.2.2.2.2.2.2.2.2.2.2.2.1.length g.2.2.2], .int .i64 r.2.2.2.2.2.2.2.2.2.2.2.2.2]) (fun g => [Ro (eI .u8) 5 1 (.slice g.1.1 r.2.2.2.2.2.1.length g.1.2) r.2.2.2.2.2.1, Ro (eI .u8) 5 1 (.slice g.2.1.1 r.2.2.2.2.2.2.2.2.2.2.1.length g.2.1.2) r.2.2.2.2.2.2.2.2.2.2.1, Ro (eI .u8) 5 1 (.slice g.2.2.1 r.2.2.2.2.2.2.2.2.2.2.2.2.1.length g.2.2.2) r.2.2.2.2.2.2.2.2.2.2.2.2.1]) (fun _ => []) := by
 refine qk Tryz.func8 rfl Tryz.ntmps8 rfl hm (fun w => ?_)
 refine au [24,10,2,4,22] ?_
 intro g7
 refine au [22] ?_
 intro g8
 refine au [24,7] ?_
 intro g9
 refine au [5,0,1,2,4,25,14,25,7,33,4] ?_
 rintro x10 e10 ⟨a11, c12⟩
 refine au [3,13,13,24,7] ?_
 intro g13
 refine av [24,2,5,0,1,2,2,4,3,25,1,0,1,11] ?_ ?_
 intro _
 refine au [2,4] ?_
 refine ql (cells := [.int .i64 0, .int .i64 0, .int .i64 0, .int .i64 0, .int .i64 0, .slice none 0 0, .int .i64 0, .int .i64 0, .int .i64 0, .int .i64 0, .slice none 0 0, .int .i64 0, .slice none 0 0]) rfl st35 rfl (by kernel_rfl) rfl ?_
 refine au [3,24,15,5,0,1,8,10,25,11,25,11,25,11] ?_
 exact qu ((none, 0), (none, 0), (none, 0)) (resL (rs := [.cell 4 35, .tmp 5]) rfl (.cell (i := 1) rfl tf35 rfl rfl (by simp) rfl (.tmp rfl ResOk.nil)) rfl) (fun h => by subst h; exact (.cons 0 rfl (.cons 0 rfl (.cons 0 rfl .nil))))
 intro _
 refine au [12,1,2,4,31,10,24,8] ?_
 refine qz qhR ?_
 rintro x15 e15 ⟨⟨a16, c17⟩, ⟨a18, c19⟩, ⟨a20, c21⟩⟩
 refine au [13,13,24,15,5,0,1,8] ?_
 exact qu ((a16, c17), (a18, c19), (a20, c21)) (resL (rs := [.cell 4 35, .tmp 5]) rfl (.cell (i := 1) rfl tf35 rfl rfl (by simp) rfl (.tmp rfl ResOk.nil)) rfl) (fun h => by subst h; exact (.cons 0 rfl (.cons 0 rfl (.cons 0 rfl .nil))))
end Go.Proofs.YtmhggdbfbmkpeaaGreat
